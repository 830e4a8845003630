/- PROVED: lemmas of the proof of: configlanglaw26.ParserWraps returns true for every input. CONDITIONS: as each lemma states. (Put together by a program of my own out of my own texts.) -/
import Derived.Test.YtkhjeiaafiodeaaGreatDoorF0
import Derived.Recover
import Derived.Laws.BytesArg
import Derived.Laws.StructEq
import Derived.Below
import Derived.Lib.ConvBytes
import Derived.Lib.IndexMore
import Derived.Lib.LastIndexLaws
import Derived.Lib.ParseIntB
section
namespace Go.Abs
def rM (l:List (Nat×AV)):List Operand→Option (List AV)
 | []=>some []
 | x::xs=>match bF l x,rM l xs with
  | some v,some vs=>some (v::vs)
  | _,_=>none
theorem kI {l:List (Nat×AV)} {ds:List (FuncId×List AV)}:∀ {xs:List Operand} {vs:List AV},rM l xs=some vs→xs.map (bU l ds).val=vs
 | [],_,h=>by simp[rM] at h;simp[h]
 | x::xs,vs,h=>by
  simp only[rM] at h
  split at h
  ·rename_i v vs' hv hvs
   cases h
   simp[aB hv,kI hvs]
  ·cases h
mutual
theorem oJ {π:Nat→Nat}:∀ {v:AV},v.only (fun _=>false)=true→v.fM π=v
 | .any,_=>rfl
 | .oc,_=>rfl
 | .pv _,_=>rfl
 | .ptr _ _,h=>by simp[AV.only] at h
 | .arr _ _,h=>by simp[AV.only] at h
 | .sp _,_=>rfl
 | .fn f xs ys,h=>by simp only[AV.only,Bool.and_eq_true] at h;simp only[AV.fM,oK h.1,oK h.2]
 | .agg cs,h=>by simp only[AV.only] at h;simp only[AV.fM,oK h]
 | .fH cs,h=>by simp only[AV.only] at h;simp only[AV.fM,oK h]
 | .lr t v,h=>by simp only[AV.only] at h;simp only[AV.fM,oJ h]
theorem oK {π:Nat→Nat}:∀ {v:List AV},AV.only.jw (fun _=>false) v=true→AV.fM.kX π v=v
 | [],_=>rfl
 | x::xs,h=>by simp only[AV.only.jw,Bool.and_eq_true] at h;simp only[AV.fM.kX,oJ h.1,oK h.2]
end
theorem lJ {a b:Nat}:Nat.blt a b=true↔a<b:=by rw[Nat.blt_eq]
def dZ:Nat→List aZ→List (Nat×aZ)
 | _,[]=>[]
 | i,e::es=>(i,e)::dZ (i+1) es
def kJ:List Nat→List aZ→List (Nat×aZ)
 | k::ks,e::es=>(k,e)::kJ ks es
 | _,_=>[]
def sj (s:List (Nat×aZ)):List Nat→Option (List aZ)
 | []=>some []
 | k::ks=>match dj s k,sj s ks with
  | some e,some es=>some (e::es)
  | _,_=>none
def nodupB:List Nat→Bool
 | []=>true
 | k::ks=>!ks.any (Nat.beq k)&&nodupB ks
def jz (π:Nat→Nat):List aZ→List aZ
 | []=>[]
 | e::es=>e.fM π::jz π es
def aZ.oq (p:Nat→Bool):aZ→Bool
 | .app _ _ _=>true
 | .box cs=>AV.only.jw p cs
 | .arr _ _ _=>true
theorem sk (p:Nat→Bool):∀ l:List PV,AV.only.jw p (l.map .pv)=true
 | []=>rfl
 | x::l=>by simp[AV.only.jw,AV.only,sk p l]
theorem aZ.Cm {p:Nat→Bool}:∀ {e:aZ},e.oq p=true→AV.only.jw p e.cells=true
 | .app _ _ c,_=>sk p c
 | .box _,h=>h
 | .arr _ _ c,_=>sk p c
def iO (p:Nat→Bool):List aZ→Bool
 | []=>true
 | e::es=>e.oq p&&iO p es
def nth:List Nat→Nat→Nat
 | [],_=>0
 | k::_,0=>k
 | _::ks,j+1=>nth ks j
def below (m:Nat):Nat→Bool:=fun j=>Nat.blt j m
theorem eV:∀ {es:List aZ} {i j:Nat} {e:aZ},bw (dZ i es) j=some e→i≤j∧es[j - i]?=some e
 | [],_,_,_,h=>by cases h
 | a::es,i,j,e,h=>by
  simp only[dZ,bw,jG] at h
  split at h
  ·rename_i q;cases h;subst q;simp
  ·rename_i q
   obtain ⟨h1,h2⟩:=eV (es:=es) (i:=i+1) h
   refine ⟨by omega,?_⟩
   rw[show j - i=(j - (i+1))+1 by omega];simpa using h2
theorem lW {es:List aZ}:∀ {i j:Nat} {e:aZ},es[j]?=some e→bw (dZ i es) (i+j)=some e:=by
 induction es with
 | nil=>intro i j e h;simp at h
 | cons a es ih=>
  intro i j e h
  cases j with
  | zero=>simp at h;simp[dZ,bw,jG,h]
  | succ j=>
   have:=ih (i:=i+1) (j:=j) (by simpa using h)
   simp only[bw] at this
   simp only[dZ,bw,jG]
   rw[if_neg (by omega),show i+(j+1)=i+1+j by omega];exact this
theorem mP:∀ {ks:List Nat},nodupB ks=true→∀ {i j:Nat},i<ks.length→j<ks.length→nth ks i=nth ks j→i=j:=by
 have mem:∀ {ks:List Nat} {j:Nat},j<ks.length→nth ks j∈ks:=by
  intro ks
  induction ks with
  | nil=>intro j h;simp at h
  | cons k ks ih=>
   intro j h
   cases j with
   | zero=>simp[nth]
   | succ j=>simp only[nth];exact List.mem_cons_of_mem _ (ih (by simpa using h))
 intro ks
 induction ks with
 | nil=>intro _ i j h;simp at h
 | cons k ks ih=>
  intro h i j hi hj he
  simp only[nodupB,Bool.and_eq_true,Bool.not_eq_true'] at h
  have hk:∀ j,j<ks.length→nth ks j≠k:=fun j hj q=>by
   have h1:=mem hj
   rw[q] at h1
   have:ks.any (Nat.beq k)=true:=List.any_eq_true.2 ⟨k,h1,by simp⟩
   rw[h.1] at this;cases this
  cases i with
  | zero=>
   cases j with
   | zero=>rfl
   | succ j=>simp only[nth] at he;exact absurd he.symm (hk j (by simpa using hj))
  | succ i=>
   cases j with
   | zero=>simp only[nth] at he;exact absurd he (hk i (by simpa using hi))
   | succ j=>simp only[nth] at he;rw[ih h.2 (by simpa using hi) (by simpa using hj) he]
theorem nr {s:List (Nat×aZ)}:∀ {ks:List Nat} {es:List aZ},sj s ks=some es→es.length=ks.length∧∀ j e,es[j]?=some e→bw s (nth ks j)=some e
 | [],_,h=>by simp[sj] at h;simp[h]
 | k::ks,es,h=>by
  simp only[sj] at h
  split at h
  ·rename_i e es' he hes
   cases h
   obtain ⟨h1,h2⟩:=nr hes
   refine ⟨by simp[h1],fun j e' hj=>?_⟩
   cases j with
   | zero=>simp at hj;subst hj;exact bK he
   | succ j=>exact h2 j e' (by simpa using hj)
  ·cases h
theorem lK (π:Nat→Nat):∀ {es:List aZ} {j:Nat},(jz π es)[j]?=(es[j]?).map (aZ.fM π)
 | [],_=>by simp[jz]
 | e::es,0=>by simp[jz]
 | e::es,j+1=>by simp[jz,lK π (es:=es)]
theorem gr (π:Nat→Nat):∀ es:List aZ,(jz π es).length=es.length
 | []=>rfl
 | _::es=>by simp[jz,gr π es]
theorem qJ {p:Nat→Bool}:∀ {es:List aZ},iO p es=true→∀ {j:Nat} {e:aZ},es[j]?=some e→AV.only.jw p e.cells=true
 | [],_,j,e,h=>by simp at h
 | a::es,h,0,e,he=>by simp only[iO,Bool.and_eq_true] at h;simp at he;subst he;exact aZ.Cm h.1
 | a::es,h,j+1,e,he=>by simp only[iO,Bool.and_eq_true] at h;exact qJ h.2 (by simpa using he)
def uk (k:Nat) (ks:List Nat):List (Nat×aZ)→Bool
 | []=>false
 | (j,e)::s=>(!ks.any (Nat.beq j)&&e.mq k)||uk k ks s
def yO (l:List (Nat×AV)) (ds:List (FuncId×List AV)) (s:List (Nat×aZ)) (ks0:List Nat):List Nat→List aZ→Bool
 | _::ks,.box _::es=>yO l ds s ks0 ks es
 | k::ks,_::es=>!ku k l&&!iM k ds&&!uk k ks0 s&&yO l ds s ks0 ks es
 | _,_=>true
def u5 (E:Env):List Nat→List aZ→Prop
 | _::ks,.box _::es=>u5 E ks es
 | k::ks,_::es=>E.fix k=none∧u5 E ks es
 | _,_=>True
theorem lB {k:Nat} {ks:List Nat}:∀ {s:List (Nat×aZ)},uk k ks s=false→∀ j e,ks.any (Nat.beq j)=false→bw s j=some e→AV.dN.eS k e.cells=false
 | [],_,j,e,_,h=>by cases h
 | (i,v)::s,h,j,e,hj,he=>by
  simp only[uk,Bool.or_eq_false_iff] at h
  simp only[bw,jG] at he
  split at he
  ·rename_i q
   cases he;subst q
   exact aZ.wg (by simpa[hj] using h.1)
  ·exact lB h.2 j e hj he
theorem sO {E:Env} {l:List (Nat×AV)} {ds:List (FuncId×List AV)} {s:List (Nat×aZ)} {ks0:List Nat}:∀ {ks:List Nat} {es:List aZ},yO l ds s ks0 ks es=true→u5 E ks es→∀ {j:Nat} {e:aZ},
  j<ks.length→es[j]?=some e→(∃ cs,e=.box cs)∨(ku (nth ks j) l=false∧iM (nth ks j) ds=false∧uk (nth ks j) ks0 s=false∧E.fix (nth ks j)=none)
 | [],_,_,_,j,e,hj,_=>by simp at hj
 | _::_,[],_,_,j,e,_,he=>by simp at he
 | k::ks,.box cs::es,h,hf,0,e,_,he=>by simp at he;exact .inl ⟨cs,he.symm⟩
 | k::ks,.box cs::es,h,hf,j+1,e,hj,he=>sO (ks:=ks) (es:=es) h hf (by simpa using hj) (by simpa using he)
 | k::ks,.arr _ _ _::es,h,hf,0,e,_,he=>by
  simp only[yO,Bool.and_eq_true,Bool.not_eq_true'] at h
  exact .inr ⟨h.1.1.1,h.1.1.2,h.1.2,hf.1⟩
 | k::ks,.arr _ _ _::es,h,hf,j+1,e,hj,he=>by
  simp only[yO,Bool.and_eq_true] at h
  exact sO (ks:=ks) (es:=es) h.2 hf.2 (by simpa using hj) (by simpa using he)
 | k::ks,.app _ _ _::es,h,hf,0,e,_,he=>by
  simp only[yO,Bool.and_eq_true,Bool.not_eq_true'] at h
  exact .inr ⟨h.1.1.1,h.1.1.2,h.1.2,hf.1⟩
 | k::ks,.app _ _ _::es,h,hf,j+1,e,hj,he=>by
  simp only[yO,Bool.and_eq_true] at h
  exact sO (ks:=ks) (es:=es) h.2 hf.2 (by simpa using hj) (by simpa using he)
theorem wo {s:List (Nat×aZ)}:∀ {ks:List Nat} {es:List aZ},es.length=ks.length→nodupB ks=true→∀ k,
  bw (kJ ks es++s) k=match (List.range ks.length).find? (fun j=>nth ks j==k) with|some j=>es[j]?|none=>bw s k:=by
 intro ks
 induction ks with
 | nil=>intro es _ _ k;cases es<;>simp[kJ]
 | cons a ks ih=>
  intro es hl hn k
  cases es with
  | nil=>simp at hl
  | cons e es=>
   simp only[nodupB,Bool.and_eq_true] at hn
   have hr:List.range (a::ks).length=0::(List.range ks.length).map (·+1):=by
    rw[List.length_cons,List.range_succ_eq_map]
   rw[hr]
   simp only[List.find?_cons,nth]
   by_cases q:a=k
   ·subst q;simp[kJ,bw,jG]
   ·have q':(a==k)=false:=by simpa using q
    have:=ih (es:=es) (by simpa using hl) hn.2 k
    simp only[bw] at this
    simp only[q',kJ,List.cons_append,bw,jG]
    rw[if_neg (fun h=>q h.symm),this]
    rw[List.find?_map]
    have:((fun j=>nth (a::ks) j==k) ∘ (·+1))=fun j=>nth ks j==k:=by funext j;simp[nth]
    rw[this]
    cases (List.range ks.length).find? (fun j=>nth ks j==k)<;>simp
def ph {X:Type} (V:X→AV) (C:X→List aZ) (G:X→Prop) (H:AV→Prop):nM→b5→Prop:=
 fun ae σ=>(∃ x,G x∧ae=.ret (V x)∧σ=bw (dZ 0 (C x)))∨(∃ v,H v∧ae=.panic v∧σ=bw [])
theorem wq {ks:List Nat} {k:Nat} (h:(List.range ks.length).any (fun i=>nth ks i==k)=false):ks.any (Nat.beq k)=false:=by
 rw[List.any_eq_false] at h ⊢
 intro x hx q
 obtain ⟨i,hi,rfl⟩:=List.getElem_of_mem hx
 have key:∀ (ks:List Nat) (i:Nat) (h:i<ks.length),nth ks i=ks[i]:=by
  intro ks
  induction ks with
  | nil=>intro i h;simp at h
  | cons a ks ih=>
   intro i h
   cases i with
   | zero=>rfl
   | succ i=>simp only[nth];exact ih i (by simpa using h)
 refine h i (by simpa using hi) ?_
 rw[key ks i hi]
 have:=Nat.eq_of_beq_eq_true q
 simp[this]
section
variable {P:Program} {E:Env} {n:Nat} {ops:Array Oper} {Q:dD} {rest:List Oper} {l:List (Nat×AV)} {ds:List (FuncId×List AV)} {s:List (Nat×aZ)}
structure kK (E:Env) (ds:List (FuncId×List AV)) (l:List (Nat×AV)) (s:List (Nat×aZ)) (ks:List Nat) (f:Operand) (args:List Operand) (fid:FuncId) (argsC:List AV) (es:List aZ) (first cap vs:List AV) (l':List (Nat×AV):=l):Prop where
 f:bF l f=some (.fn fid first cap)
 a:rM l args=some vs
 e:first++vs++cap=AV.fM.kX (nth ks) argsC
 gs:sj s ks=some (jz (nth ks) es)
 nd:nodupB ks=true
 bx:yO l' ds s ks ks es=true
 fx:u5 E ks es
theorem um {o:Oper} {X:Type} {V:X→AV} {C:X→List aZ} {G:X→Prop} {H:AV→Prop} {f:Operand} {args:List Operand} {ts:Array TypeId} {fid:FuncId} {argsC first cap vs:List AV} {es:List aZ}
  {next:dX→b5→Prop} {l':List (Nat×AV)} (hwk:(bU l ds).le (bU l' ds)) (ks:List Nat) (hen:Enters P fid) (ho:o.op=.call ⟨.value f,args.toArray,ts⟩) (hC:SC P fid argsC (bw (dZ 0 es)) (ph V C G H)) (hk:kK E ds l s ks f args fid argsC es first cap vs l')
  (hd:∀ d,o.dst=some d→d<n) (hx:∀ x,G x→(C x).length=ks.length∧iO (below ks.length) (C x)=true∧(V x).only (below ks.length)=true)
  (hret:∀ x,G x→next ((bU l' ds).gL o.dst ((V x).fM (nth ks))) (bw (kJ ks (jz (nth ks) (C x))++s)))
  (hpan:∀ v,H v→v.only (fun _=>false)=true∧Q (.panic v) (bU l' ds) (after (bw s) (nth ks) (List.range ks.length) [] (bw []))):Step P E n Q o (bU l ds) (bw s) next:=by
 obtain ⟨hl,hat⟩:=nr hk.gs
 rw[gr] at hl
 have hcon:∀ j,(List.range ks.length).contains j=below ks.length j:=fun j=>by
  have h1:(List.range ks.length).contains j=decide (j<ks.length):=by
   by_cases q:j<ks.length<;>simp[q]
  rw[h1];simp only[below]
  by_cases q:j<ks.length
  ·simp[q,lJ.2 q]
  ·have:Nat.blt j ks.length=false:=by
    cases h:Nat.blt j ks.length with
    | false=>rfl
    | true=>exact absurd (lJ.1 h) q
   simp[q,this]
 have hconf:(List.range ks.length).contains=below ks.length:=funext hcon
 have hltr:∀ j,below ks.length j=true→j<ks.length:=fun j h=>lJ.1 h
 have hsome:∀ j,(bw (dZ 0 es) j).isSome=true→j<ks.length:=fun j hj=>by
  cases q:bw (dZ 0 es) j with
  | none=>rw[q] at hj;cases hj
  | some e=>
   obtain ⟨_,h2⟩:=eV q
   have:=(List.getElem?_eq_some_iff.1 h2).1
   simp at this;omega
 refine uf hwk (nth ks) (List.range ks.length) hen ho (aB hk.f) (by rw[kI hk.a];exact hk.e) hC (fun j hj=>by simpa using hsome j hj) (fun j e hj=>?_)
  (fun j j' hj hj' he=>mP hk.nd (hsome j hj) (hsome j' hj') he) hd (fun v σc hr=>?_) (fun v σc hr=>?_)
 ·obtain ⟨_,h2⟩:=eV hj
  exact hat j _ (by rw[lK,show j=j - 0 by omega,h2];rfl)
 ·rcases hr with ⟨x,hg,he,rfl⟩|⟨_,_,he,_⟩
  ·cases he
   obtain ⟨h1,h2,h3⟩:=hx x hg
   refine ⟨List.range ks.length,{ Cj:=fun j e hj=>?_,val:=by rw[hconf];exact h3,inj:=fun j j' hj hj' he=>mP hk.nd (by simpa using hj) (by simpa using hj') he,same:=fun j hj=>?_ },?_⟩
   ·obtain ⟨_,h4⟩:=eV hj
    have h5:=(List.getElem?_eq_some_iff.1 h4).1
    exact ⟨by simp;omega,by rw[hconf];exact qJ h2 h4⟩
   ·have hj':j<es.length:=by simp at hj;omega
    rcases sO hk.bx hk.fx (by simpa using hj) (List.getElem?_eq_getElem hj') with ⟨cs,hcs⟩|⟨q1,q2,q3,q4⟩
    ·exact .inl ⟨cs,by have:=lW (i:=0) (List.getElem?_eq_getElem hj');rw[hcs] at this;simpa using this⟩
    ·exact .inr ⟨fB q1 q2,fun k e hkl he=>lB q3 k e (wq hkl) he,q4⟩
   ·have:after (bw s) (nth ks) (List.range ks.length) (List.range ks.length) (bw (dZ 0 (C x)))=bw (kJ ks (jz (nth ks) (C x))++s):=by
     funext k
     rw[wo (by rw[gr,h1]) hk.nd]
     simp only[after]
     cases hf:(List.range ks.length).find? (fun j=>nth ks j==k) with
     | some j=>
      have hj:=List.mem_of_find?_eq_some hf
      simp at hj
      simp only[lK]
      have:j<(C x).length:=by omega
      rw[List.getElem?_eq_getElem this]
      have h6:=lW (i:=0) (List.getElem?_eq_getElem this)
      simp at h6
      rw[h6]
     | none=>
      have:(List.range ks.length).any (fun j=>nth ks j==k)=false:=by
       rw[List.any_eq_false];intro j hj
       have:=List.find?_eq_none.1 hf j hj
       simpa using this
      simp[this]
    rw[this];exact hret x hg
  ·cases he
 ·rcases hr with ⟨_,_,he,_⟩|⟨v',hh,he,rfl⟩
  ·cases he
  ·cases he
   obtain ⟨h1,h2⟩:=hpan v hh
   refine ⟨[],{ Cj:=fun j e hj=>(by cases hj),val:=?_,inj:=fun j _ hj=>(by simp at hj),same:=fun j hj=>(by simp at hj) },?_⟩
   ·have:([]:List Nat).contains=fun _=>false:=by funext k;simp
    rw[this];exact h1
   ·rw[oJ h1];exact h2
theorem zZ {o:Oper} {X:Type} {V:X→AV} {C:X→List aZ} {G:X→Prop} {H:AV→Prop} {f:Operand} {args:List Operand} {ts:Array TypeId} {fid:FuncId} {argsC first cap vs:List AV} {es:List aZ}
  {next:dX→b5→Prop} (ks:List Nat) (hen:Enters P fid) (ho:o.op=.call ⟨.value f,args.toArray,ts⟩) (hC:SC P fid argsC (bw (dZ 0 es)) (ph V C G H)) (hk:kK E ds l s ks f args fid argsC es first cap vs)
  (hd:∀ d,o.dst=some d→d<n) (hx:∀ x,G x→(C x).length=ks.length∧iO (below ks.length) (C x)=true∧(V x).only (below ks.length)=true)
  (hret:∀ x,G x→next ((bU l ds).gL o.dst ((V x).fM (nth ks))) (bw (kJ ks (jz (nth ks) (C x))++s)))
  (hpan:∀ v,H v→v.only (fun _=>false)=true∧Q (.panic v) (bU l ds) (after (bw s) (nth ks) (List.range ks.length) [] (bw []))):Step P E n Q o (bU l ds) (bw s) next:=
 um ⟨fun _=>.inl rfl,rfl⟩ ks hen ho hC hk hd hx hret hpan
end
end Go.Abs
end
section
namespace Go.Abs
section
variable {P:Program} {E:Env} {n:Nat} {ops:Array Oper} {Q:dD} {rest:List Oper} {l:List (Nat×AV)} {ds:List (FuncId×List AV)} {s:List (Nat×aZ)}
 {ty:TypeId} {pos:String} {af:Array Edge}
theorem lC {d n:Nat} (h:Nat.blt d n=true):∀ x,some d=some x→x<n:=fun x hx=>by cases hx;exact lJ.1 h
theorem aL {d:Nat} {t:TypeId} {z:List Value} [hz:jR P t z] {zs:List AV} (nm:Nat) (hE:E.fix nm=none)
  (h:z.map (fun v=>AV.pv (.sc v))=zs∧ku nm l=false∧iM nm ds=false∧mH nm s=false)
  (hd:Nat.blt d n=true) (hn:SL P E n ops Q rest (bU ((d,.ptr nm 0)::l) ds) (bw ((nm,.box zs)::s))):SL P E n ops Q (⟨some d,.alloc t,ty,pos,af,none⟩::rest) (bU l ds) (bw s):=
 ia rfl (wc (w7 nm hz.h) (fB h.2.1 h.2.2.1) (iN h.2.2.2) hE (lC hd) (by rw[h.1];exact hn))
def xh:List AV→Nat→List AV→List AV
 | cs,0,v=>E3 cs v
 | [],_+1,_=>[]
 | c::cs,k+1,v=>c::xh cs k v
where
 E3:List AV→List AV→List AV
  | cs,[]=>cs
  | [],_::_=>[]
  | _::cs,v::vs=>v::E3 cs vs
theorem AS:∀ {cs v:List AV},v.length≤cs.length→xh.E3 cs v=v++cs.drop v.length
 | cs,[],_=>by simp[xh.E3]
 | [],_::_,h=>by simp at h
 | c::cs,v::vs,h=>by simp[xh.E3,AS (cs:=cs) (v:=vs) (by simpa using h)]
theorem yP:∀ {cs:List AV} {off:Nat} {v:List AV},off+v.length≤cs.length→xh cs off v=cs.take off++v++cs.drop (off+v.length)
 | cs,0,v,h=>by simp[xh,AS (cs:=cs) (v:=v) (by simpa using h)]
 | [],k+1,v,h=>by simp at h
 | c::cs,k+1,v,h=>by
  simp only[xh]
  rw[yP (cs:=cs) (off:=k) (v:=v) (by simp at h;omega)]
  simp[show k+1+v.length=(k+v.length)+1 by omega]
def aZ.put (off:Nat) (v:List AV):aZ→aZ
 | .box cs=>.box (xh cs off v)
 | e=>e
def aZ.uo:aZ→Bool
 | .box _=>true
 | _=>false
theorem put_eq {e:aZ} {off:Nat} {v:List AV} (hb:e.uo=true) (h:off+v.length≤e.cells.length):e.yI off v=e.put off v:=by
 cases e with
 | box cs=>simp only[aZ.yI,aZ.put];rw[yP (cs:=cs) h]
 | arr el sz cs=>cases hb
 | app el sz cs=>cases hb
theorem sP {e:aZ} (h:e.uo=true):e.isApp=false:=by cases e<;>first|rfl|cases h
theorem sQ {e:aZ} {p:Prop} (h:e.uo=true) (q:e.AM=true):p:=by cases e with|box _=>cases q|arr _ _ _=>cases h|app _ _ _=>cases h
theorem AT {t:TypeId} {x y:Operand} {k off m:Nat} {e:aZ} {v:AV} {c:List AV} [ht:ls P t m]
  (h:bF l x=some (.ptr k off)∧dj s k=some e∧e.uo=true∧bF l y=some v∧v.eU=some c∧AV.iF c=true∧c.length=m∧Nat.ble (off+c.length) e.cells.length=true)
  (hn:∀ e',e.put off c=e'→SL P E n ops Q rest (bU l ds) (bw ((k,e')::s))):SL P E n ops Q (⟨none,.store t x y,ty,pos,af,none⟩::rest) (bU l ds) (bw s):=by
 obtain ⟨hx,hk,hea,hy,hc,h1,hm,hl⟩:=h
 have hl':=Nat.le_of_ble_eq_true hl
 refine ia rfl (pc rfl rfl (aB hx) (bK hk) (sP hea) (by rw[aB hy];exact hc) h1 (by rw[hm];exact ht.h) hl' (sQ hea) ?_)
 rw[put_eq hea hl'];exact hn _ rfl
theorem E4 {d:Nat} {t e:TypeId} {m sz:Nat} {parts:List (Nat×Operand)} {zs:List Value} {pl:List (Nat×Nat)} {pv:List (Nat×AV)} {cells:List PV} [ht:jS P t m e sz zs pl]
  (h:parts.mapM (fun p=>(bF l p.2).map fun v=>(p.1,v))=some pv∧kW pl (zs.map fun v=>.pv (.sc v)) pv=some (cells.map .pv)) (hd:Nat.blt d n=true)
  (hn:SL P E n ops Q rest (bU ((d,.pv (.sl m cells))::l) ds) (bw s)):SL P E n ops Q (⟨some d,.buildSlice t m parts.toArray,ty,pos,af,none⟩::rest) (bU l ds) (bw s):=by
 refine ia rfl (Cg (rI ht.h ?_) (lC hd) hn)
 have key:∀ (ps:List (Nat×Operand)) (pv:List (Nat×AV)),ps.mapM (fun p=>(bF l p.2).map fun v=>(p.1,v))=some pv→(ps.map fun p=>(p.1,(bU l ds).val p.2))=pv:=by
  intro ps
  induction ps with
  | nil=>intro pv h;simp at h;simp[h]
  | cons p ps ih=>
   intro pv h
   rw[List.mapM_cons] at h
   cases hv:bF l p.2 with
   | none=>simp[hv] at h
   | some v=>
    cases hr:ps.mapM (fun p=>(bF l p.2).map fun v=>(p.1,v)) with
    | none=>simp[hv,hr] at h
    | some r=>
     simp[hv,hr] at h
     subst h
     simp[ih r hr,aB (ds:=ds) hv]
 rw[key parts pv h.1];exact h.2
theorem yd {fn:Func} {X:Type} {V:X→AV} {C:X→List aZ} {G:X→Prop} {H:AV→Prop} {v:AV} {fr:dX} {σ:b5} (hd:fr.ds=[]) (h:H v):mM P fn (ph V C G H) (.panic v) fr σ:=
 ⟨hd,bw [],fun k e hk=>(by cases hk),.inr ⟨v,h,rfl,rfl⟩⟩
theorem xi {es:List aZ} (h:∀ j e,es[j]?=some e→dj s j=some e):∀ k e,bw (dZ 0 es) k=some e→bw s k=some e:=fun k e hk=>by
 obtain ⟨_,h2⟩:=eV hk
 exact bK (h k e (by simpa using h2))
def sR (s:List (Nat×aZ)):Nat→List aZ→Prop
 | _,[]=>True
 | i,e::es=>dj s i=some e∧sR s (i+1) es
theorem sS:∀ {es:List aZ} {i:Nat},sR s i es→∀ j e,es[j]?=some e→dj s (i+j)=some e
 | [],_,_,j,e,h=>by simp at h
 | a::es,i,h,0,e,he=>by simp at he;subst he;exact h.1
 | a::es,i,h,j+1,e,he=>by
  have:=sS h.2 j e (by simpa using he)
  rw[show i+(j+1)=i+1+j by omega];exact this
theorem lX {fn:Func} {X:Type} {V:X→AV} {C:X→List aZ} {G:X→Prop} {H:AV→Prop} {vs:List AV} {ae:rJ} (hae:ae=.ret∨ae=.normal) (x:X) (hr:zV P (bU l []) (bw s) fn.results.toList vs)
  (hg:G x) (hle:(mu vs).le (V x)) (hm:sR s 0 (C x)):mM P fn (ph V C G H) ae (bU l []) (bw s):=by
 have h:(bU l []).ds=[]∧∃ vs v σ',zV P (bU l []) (bw s) fn.results.toList vs∧(mu vs).le v∧(∀ k e,σ' k=some e→bw s k=some e)∧ph V C G H (.ret v) σ':=
  ⟨rfl,vs,V x,bw (dZ 0 (C x)),hr,hle,xi (fun j e hj=>by have:=sS hm j e hj;simpa using this),.inl ⟨x,hg,rfl,rfl⟩⟩
 rcases hae with rfl|rfl
 ·exact h
 ·exact h
theorem ay {t:Nat} {v:AV} (h:jx l t=some v):RV P (bU l ds) (bw s) (.tmp t) v:=by rw[← eI h];exact .tmp t
theorem aT {a k:Nat} {t:TypeId} {cs:List AV} {m:Nat} [ht:ls P t m] [ha:gR P t true] (hk:jx l a=some (.ptr k 0)) (hs:dj s k=some (.box cs)) (hm:cs.length=m) :
  RV P (bU l ds) (bw s) (.cell a t) (.agg cs):=.agg (eI hk) (bK hs) (by rw[hm];exact ht.h) ha.h
theorem wu {a k:Nat} {t:TypeId} {c:AV} [ha:gR P t false] (hk:jx l a=some (.ptr k 0)) (hs:dj s k=some (.box [c])):RV P (bU l ds) (bw s) (.cell a t) c:=.one (eI hk) (bK hs) ha.h
theorem uq (args:List AV):(⟨fun i=>args[i]?.getD .any,[]⟩:dX)=bU ((List.range args.length).zip args) []:=by
 simp only[bU,dX.mk.injEq,and_true]
 funext i
 have key:∀ (l:List AV) (k i:Nat),jP ((List.range' k l.length).zip l) (k+i)=l[i]?.getD .any:=by
  intro l
  induction l with
  | nil=>intro k i;simp[jP]
  | cons a l ih=>
   intro k i
   simp only[List.length_cons,List.range'_succ,List.zip_cons_cons,jP]
   cases i with
   | zero=>simp
   | succ i=>
    rw[if_neg (by omega),show k+(i+1)=k+1+i by omega,ih];simp
 have:=key args 0 i
 rw[List.range_eq_range'];simpa using this.symm
def jT:List aZ→Nat→Bool
 | [],_=>true
 | .box _::_,0=>false
 | _::_,0=>true
 | _::es,k+1=>jT es k
theorem Cn {f:FuncId} {fn:Func} {c:Code} {args:List AV} {es:List aZ} {R:nM→b5→Prop} (hf:P.funcs[f]?=some fn) (hb:fn.body=some c) (hn:Nat.ble args.length fn.ntmps=true)
  (h:∀ E:Env,(∀ k,jT es k=true→E.fix k=none)→SW P E fn.ntmps c (mM P fn R) (bU ((List.range args.length).zip args) []) (bw (dZ 0 es))):SC P f args (bw (dZ 0 es)) R:=
 AO hf hb (Nat.le_of_ble_eq_true hn) fun E hE=>by
  rw[uq]
  refine h E fun k hk=>hE k fun cs hcs=>?_
  obtain ⟨_,h2⟩:=eV hcs
  have h3:∀ (es:List aZ) (k:Nat),jT es k=true→es[k]?≠some (.box cs):=by
   intro es
   induction es with
   | nil=>intro k _;simp
   | cons e es ih=>
    intro k hk
    cases k with
    | zero=>intro q;simp at q;subst q;simp[jT] at hk
    | succ k=>simpa using ih k (by cases e<;>simpa[jT] using hk)
  exact h3 es k hk (by simpa using h2)
end
end Go.Abs
end
section
namespace Go.Abs
section
variable {P:Program} {E:Env} {n:Nat} {ops:Array Oper} {Q:dD}
variable (P E n ops Q) in
abbrev DX (x y:Nat):List Nat→List Rec→dX→b5→Prop:=ln P E n ops Q fun recs fr σ=>DW P E n ops Q [x,y] recs fr σ∧DW P E n ops Q [y,x] recs fr σ
theorem Inv.swap {x y:Nat} {listed:Array Bool} {recs:List Rec} {fr:dX} {σ:b5} (h:Inv P E n ops listed [x,y] recs fr σ) (hp:kY ops [y,x]=true):Inv P E n ops listed [y,x] recs fr σ:=
 {
  size:=h.size
  todo:=fun i hi=>h.todo i (by simp at hi ⊢;exact hi.symm)
  done:=fun i o ho hi=>h.done i o ho (by simp at hi ⊢;exact ⟨hi.2,hi.1⟩)
  gz:=fun r hr=>by
   obtain ⟨h1,h2⟩:=h.gz r hr
   exact ⟨by simp at h1 ⊢;exact ⟨h1.2,h1.1⟩,h2⟩
  ui:=fun i hi=>h.ui i (by simp at hi ⊢;exact hi.symm)
  apart:=h.apart,names:=h.names,vy:=h.vy
  tm:=fun i j hi hiL hj=>h.tm i j hi (by simp at hiL ⊢;exact ⟨hiL.2,hiL.1⟩) (by simp at hj ⊢;exact hj.symm)
  sM:=hp
  down:=h.down,vz:=h.vz,reads:=h.reads,gG:=h.gG,ds:=h.ds,zW:=h.zW,qC:=h.qC }
theorem xj {x y:Nat} {listed:Array Bool} {i:Nat} {o:Oper} (ho:ops[i]?=some o) (hr:∀ e,e∈o.after.toList→Region.binds .any e=true→oH listed e.on=true) :
  ∀ (L:List Nat) (recs:List Rec) (fr:dX) (σ:b5) (g:Gh) (a:Act) (w:World),i∈L++[x,y]→strict ops (L++[x])=true→strict ops (L++[y])=true→Inv P E n ops listed (L++[x,y]) recs fr σ→DX P E n ops Q x y L recs fr σ→
   Rel E g (dT σ (mS listed recs)) w→FR n g (dY fr (mF listed recs)) a→
   (∃ L' recs' fr' σ',strict ops (i::L'++[x])=true∧strict ops (i::L'++[y])=true∧Inv P E n ops listed (i::(L'++[x,y])) recs' fr' σ'∧DX P E n ops Q x y (i::L') recs' fr' σ'∧Rel E g (dT σ' (mS listed recs')) w∧FR n g (dY fr' (mF listed recs')) a)∨
   ((i=x∨i=y)∧∃ recs' fr' σ',Inv P E n ops listed [x,y] recs' fr' σ'∧DX P E n ops Q x y [] recs' fr' σ'∧Rel E g (dT σ' (mS listed recs')) w∧FR n g (dY fr' (mF listed recs')) a)
 | [],recs,fr,σ,g,a,w,hi,_,_,hI,hD,hR,hF=>.inr ⟨by simpa using hi,recs,fr,σ,hI,hD,hR,hF⟩
 | c::L,recs,fr,σ,g,a,w,hi,hs1,hs2,hI,hD,hR,hF=>by
  by_cases q:c=i
  ·subst q;exact .inl ⟨L,recs,fr,σ,hs1,hs2,hI,hD,hR,hF⟩
  ·have hiL:i∈L++[x,y]:=by
    rcases List.mem_cons.1 hi with h|h
    ·exact absurd h.symm q
    ·exact h
   obtain ⟨oc,hoc,hS⟩:=hD
   have hPP:=hI.sM
   simp only[List.cons_append,kY,Bool.and_eq_true] at hPP
   have hpair:og ops c i=true:=List.all_eq_true.1 hPP.1.2 i hiL
   have hhv:dz oc=false:=by
    cases h:dz oc with
    | false=>rfl
    | true=>
     have h1:lT ops ops.size i c=true:=by
      rcases (kH hoc ho hpair).2.2 h with h0|h0
      ·have:i∈L++[x]∨i∈L++[y]:=by
        simp only[List.mem_append,List.mem_cons,List.not_mem_nil,or_false] at hiL ⊢
        rcases hiL with h|h|h
        ·exact .inl (.inl h)
        ·exact .inl (.inr h)
        ·exact .inr (.inr h)
       rcases this with hm|hm
       ·exact sK hs1 hm hoc ho h h0
       ·exact sK hs2 hm hoc ho h h0
      ·exact h0
     have h2:=nq hI.down _ _ _ o ho hr h1
     rw[(hI.todo c (by simp)).2] at h2;cases h2
   obtain ⟨r,recs',fr',σ',rfl,_,hn,hI',hR',hF'⟩:=walk hI hoc hhv hS hR hF
   exact xj ho hr L _ fr' σ' g a w hiL (ib hs1) (ib hs2) hI' hn hR' hF'
theorem DP {x y:Nat} {ox oy:Oper} (hox:ops[x]?=some ox) (hoy:ops[y]?=some oy) (hhx:dz ox=true) (hhy:dz oy=true) (hpp:kY ops [y,x]=true)
  (hsm:∀ i o,ops[i]?=some o→∀ e,e∈o.after.toList→Region.binds .any e=true→e.on<i) :
  ∀ (fuel:Nat) (listed:Array Bool) (L:List Nat) (recs:List Rec) (fr:dX) (σ:b5) (g:Gh) (a:Act) (w:World),left ops listed≤fuel→strict ops (L++[x])=true→strict ops (L++[y])=true→Inv P E n ops listed (L++[x,y]) recs fr σ→DX P E n ops Q x y L recs fr σ→
   Rel E g (dT σ (mS listed recs)) w→FR n g (dY fr (mF listed recs)) a→wpAny P .any ops (LQ E n Q) fuel listed a w:=by
 intro fuel
 have never:∀ listed L recs fr σ,Inv P E n ops listed (L++[x,y]) recs fr σ→(∀ i,i<ops.size→oH listed i=true)→False:=fun listed L recs fr σ hI hall=>by
  have:=hI.todo x (by simp)
  rw[hall x this.1] at this;cases this.2
 induction fuel with
 | zero=>
  intro listed L recs fr σ g a w hfu hs1 hs2 hI hD hR hF
  exfalso
  refine never listed L recs fr σ hI fun i hi=>?_
  have:left ops listed=0:=by omega
  unfold left at this
  rw[List.countP_eq_zero] at this
  simpa using this i (by simpa using hi)
 | succ fuel ih=>
  intro listed L recs fr σ g a w hfu hs1 hs2 hI hD hR hF
  refine ⟨fun hnil=>(never listed L recs fr σ hI (yM hI hsm hnil)).elim,fun i hi=>?_⟩
  obtain ⟨h1,h2,o,ho,hr⟩:=rZ hI.size hi
  have hlf:left ops (listed.setIfInBounds i true)≤fuel:=by have:=xf hI.size h1 h2;omega
  have hpend:∀ L recs fr σ g a w,strict ops (L++[x])=true→strict ops (L++[y])=true→(∃ r,r∈kG listed recs∧r.i=i)→Inv P E n ops listed (L++[x,y]) recs fr σ→DX P E n ops Q x y L recs fr σ→Rel E g (dT σ (mS listed recs)) w→FR n g (dY fr (mF listed recs)) a→
    wpOp P ops (LQ E n Q) i (wpAny P .any ops (LQ E n Q) fuel (listed.setIfInBounds i true)) a w:=by
   rintro L recs fr σ g a w hs1 hs2 ⟨r,hrp,hri⟩ hI hD hR hF
   exact xe hI ho hr hrp hri hR hF fun g' a' w' hI' hR' hF'=>ih _ L recs fr σ g' a' w' hlf hs1 hs2 hI' hD hR' hF'
  by_cases hiL:i∈L++[x,y]
  ·rcases xj ho hr L recs fr σ g a w hiL hs1 hs2 hI hD hR hF with ⟨L',recs',fr',σ',hs1',hs2',hI',hD',hR',hF'⟩|⟨hxy,recs',fr',σ',hI',hD',hR',hF'⟩
   ·obtain ⟨oc,hoc,hS⟩:=hD'
    rw[ho] at hoc;cases hoc
    cases hh:dz o with
    | true=>
     exact sN hI' ho hh hr hS hR' hF' fun g2 fr2 σ2 a2 w2 hn hI2 hR2 hF2=>ih _ L' recs' fr2 σ2 g2 a2 w2 hlf (ib hs1') (ib hs2') hI2 hn hR2 hF2
    | false=>
     obtain ⟨r,recs2,fr2,σ2,rfl,hri,hn,hI2,hR2,hF2⟩:=walk hI' ho hh hS hR' hF'
     exact hpend L' _ fr2 σ2 g a w (ib hs1') (ib hs2') ⟨r,di.2 ⟨by simp,by rw[hri];exact h2⟩,hri⟩ hI2 hn hR2 hF2
   ·have fin:∀ u v ou,ops[u]?=some ou→dz ou=true→i=u→Inv P E n ops listed [u,v] recs' fr' σ'→DW P E n ops Q [u,v] recs' fr' σ'→
      wpOp P ops (LQ E n Q) i (wpAny P .any ops (LQ E n Q) fuel (listed.setIfInBounds i true)) a w:=fun u v ou hou hhu hiu hIu hDu=>by
     subst hiu
     obtain ⟨oc,hoc,hS⟩:=hDu
     rw[ho] at hoc;cases hoc
     rw[ho] at hou;cases hou
     exact sN hIu ho hhu hr hS hR' hF' fun g2 fr2 σ2 a2 w2 hn hI2 hR2 hF2=>xg hsm fuel _ [v] recs' fr2 σ2 g2 a2 w2 hlf rfl hI2 hn hR2 hF2
    rcases hxy with q|q
    ·exact fin x y ox hox hhx q hI' hD'.1
    ·exact fin y x oy hoy hhy q (hI'.swap hpp) hD'.2
  ·obtain ⟨hd1,hd2⟩:=hI.done i o ho hiL
   cases hh:dz o with
   | true=>rw[hd1 hh] at h2;cases h2
   | false=>
    obtain ⟨r,hrr,hri⟩:=hd2 hh
    exact hpend L recs fr σ g a w hs1 hs2 ⟨r,di.2 ⟨hrr,by rw[hri];exact h2⟩,hri⟩ hI hD hR hF
def E5 (ops:Array Oper) (L:List Nat) (x y:Nat):Bool:=
 (L++[x,y]).all (rX ops)&&(List.range ops.size).all (fun i=>(L++[x,y]).contains i)&&(L++[x,y]).all (fun i=>decide (i<ops.size))&&kY ops (L++[x,y])&&
  strict ops (L++[x])&&strict ops (L++[y])&&kY ops [y,x]&&(match ops[x]?,ops[y]? with|some a,some b=>dz a&&dz b|_,_=>false)
theorem oL {id:Nat} {fr:dX} {σ:b5} (L:List Nat) (x y:Nat) (hm:P.follows .mixedOrders=true) (hchk:E5 ops L x y=true) (h:DX P E n ops Q x y L [] fr σ):SW P E n (.region id ops true) Q fr σ:=by
 intro g a w hR hF
 simp only[E5,Bool.and_eq_true,List.all_eq_true,decide_eq_true_eq] at hchk
 obtain ⟨⟨⟨⟨⟨⟨⟨hself,hall⟩,hin⟩,hpairs⟩,hs1⟩,hs2⟩,hpp⟩,hhv⟩:=hchk
 have hsm:∀ i o,ops[i]?=some o→∀ e,e∈o.after.toList→Region.binds .any e=true→e.on<i:=fun i o ho e he hb=>by
  have hi:i<ops.size:=by
   rcases Nat.lt_or_ge i ops.size with q|q
   ·exact q
   ·rw[Array.getElem?_eq_none q] at ho;cases ho
  have h1:=hself i (by have:=hall i (List.mem_range.2 hi);simpa using this)
  simp only[rX,ho,Bool.and_eq_true,List.all_eq_true] at h1
  have:=h1.1 e he
  simpa[hb] using this
 have hnone:∀ i,oH (Array.replicate ops.size false) i=false:=fun i=>by
  simp only[oH,Array.getD_eq_getD_getElem?]
  rcases Nat.lt_or_ge i ops.size with q|q
  ·simp[q]
  ·rw[Array.getElem?_eq_none (by simpa using q)];rfl
 have hmem:∀ i,i<ops.size→i∈L++[x,y]:=fun i hi=>by have:=hall i (List.mem_range.2 hi);simpa using this
 have hI:Inv P E n ops (Array.replicate ops.size false) (L++[x,y]) [] fr σ:=
  Inv.mk (by simp) (fun i hi=>⟨hin i hi,hnone i⟩) (fun i o ho hi=>by
    exfalso
    have hlt:i<ops.size:=by
     rcases Nat.lt_or_ge i ops.size with q|q
     ·exact q
     ·rw[Array.getElem?_eq_none q] at ho;cases ho
    exact hi (hmem i hlt)) (fun r hr=>by cases hr) hself (fun r _ hr=>by cases hr) (fun r _ _ hr=>by cases hr) (fun r _ hr=>by cases hr)
   (fun i j hi hiL hj=>absurd (hmem i hi) hiL) hpairs (fun i o _ h=>by rw[hnone i] at h;cases h) (fun r hr=>by cases hr) (fun r hr=>by cases hr)
   (fun r hr=>by cases hr) (fun r hr=>by cases hr) (fun r hr=>by cases hr) (fun r _ hr=>by cases hr)
 have h1:mF (Array.replicate ops.size false) []=fun _=>false:=rfl
 have h2:mS (Array.replicate ops.size false) []=fun _=>false:=rfl
 have h3:dY fr (fun _=>false)=fr:=by simp[dY]
 have h4:dT σ (fun _=>false)=σ:=by funext k;simp[dT]
 split at hhv
 ·rename_i ox oy hox hoy
  simp only[Bool.and_eq_true] at hhv
  refine wp_region_any hm (DP hox hoy hhv.1 hhv.2 hpp hsm ops.size _ L [] fr σ g a _ ?_ hs1 hs2 hI h ?_ ?_)
  ·exact Nat.le_trans (List.countP_le_length) (by simp)
  ·rw[h2,h4];exact hR.drew
  ·rw[h1,h3];exact hF
 ·cases hhv
end
end Go.Abs
end
section
namespace Go.Abs
def ur (ops:Array Oper) (i:Nat) (v:AV) (rd:List (Nat×aZ)):List Rec→Bool
 | []=>true
 | r::rs=>(match r.nm with|none=>true|some nm=>lT ops ops.size i r.i||(!v.dN nm&&rd.all fun p=>!Nat.beq p.1 nm))&&ur ops i v rd rs
theorem r4 {ops:Array Oper} {i:Nat} {v:AV} {rd:List (Nat×aZ)}:∀ {recs:List Rec},ur ops i v rd recs=true→
  ∀ r,r∈fN ops recs i→∀ nm,r.nm=some nm→v.dN nm=false∧∀ p,p∈rd→p.1≠nm
 | [],_,r,hr=>by simp[fN] at hr
 | a::rs,h,r,hr=>by
  simp only[ur,Bool.and_eq_true] at h
  intro nm hnm
  simp only[fN,List.mem_filter,Bool.not_eq_true'] at hr
  rcases List.mem_cons.1 hr.1 with q|q
  ·subst q
   have h1:=h.1
   rw[hnm] at h1
   simp only[hr.2,Bool.false_or,Bool.and_eq_true,Bool.not_eq_true',List.all_eq_true] at h1
   refine ⟨h1.1,fun p hp e=>?_⟩
   have:=h1.2 p hp
   rw[e] at this
   simp at this
  ·exact r4 h.2 r (by simp[fN,q,hr.2]) nm hnm
section
variable {P:Program} {E:Env} {n:Nat} {ops:Array Oper} {Q:dD} {B:List Rec→dX→b5→Prop} {i:Nat} {L:List Nat} {recs:List Rec} {l:List (Nat×AV)} {ds:List (FuncId×List AV)} {s:List (Nat×aZ)}
 {ty:TypeId} {pos:String} {af:Array Edge}
theorem cr (h:Q .normal (bU l ds) (bw s)):DW P E n ops Q [] recs (bU l ds) (bw s):=h
theorem E6 {d:Nat} {op:Op} {v:AV} {rd:List (Nat×aZ)} (ho:ops[i]?=some ⟨some d,op,ty,pos,af,none⟩) (h:ic P op l ds s v rd)
  (hc:dz ⟨some d,op,ty,pos,af,none⟩=false∧Nat.blt d n=true∧ur ops i v rd recs=true)
  (hn:ln P E n ops Q B L (⟨i,some d,rd,none⟩::recs) (bU ((d,v)::l) ds) (bw s)):ln P E n ops Q B (i::L) recs (bU l ds) (bw s):=
 ⟨_,ho,.ev (.inl rfl) hc.1 h.h h.r (lC hc.2.1) (r4 hc.2.2) hn⟩
theorem DQ {d j g:Nat} {op:Op} {v:AV} {rd:List (Nat×aZ)} {want:Bool} (ho:ops[i]?=some ⟨some d,op,ty,pos,af,some (j,want)⟩)
  (hj:(ops[j]?).bind (·.dst)=some g∧jx l g=some (Bo want)) (h:ic P op l ds s v rd)
  (hc:dz ⟨some d,op,ty,pos,af,some (j,want)⟩=false∧Nat.blt d n=true∧ur ops i v rd recs=true)
  (hn:ln P E n ops Q B L (⟨i,some d,rd,none⟩::recs) (bU ((d,v)::l) ds) (bw s)):ln P E n ops Q B (i::L) recs (bU l ds) (bw s):=
 ⟨_,ho,.ev (.inr ⟨j,want,g,rfl,hj.1,eI hj.2⟩) hc.1 h.h h.r (lC hc.2.1) (r4 hc.2.2) hn⟩
theorem E7 {d j g:Nat} {op:Op} {want b:Bool} (ho:ops[i]?=some ⟨some d,op,ty,pos,af,some (j,want)⟩)
  (hj:(ops[j]?).bind (·.dst)=some g∧jx l g=some (Bo b)∧(b==want)=false) (hc:dz ⟨some d,op,ty,pos,af,some (j,want)⟩=false∧Nat.blt d n=true)
  (hn:ln P E n ops Q B L (⟨i,some d,[],none⟩::recs) (bU ((d,Sc undef)::l) ds) (bw s)):ln P E n ops Q B (i::L) recs (bU l ds) (bw s):=
 ⟨_,ho,.skip ⟨j,want,g,.bool b,rfl,hj.1,eI hj.2.1,fun q=>by have:=hj.2.2;cases q;simp at this⟩ (lC hc.2) (by rw[hc.1];exact hn)⟩
theorem DS {d j g:Nat} {op:Op} {want b:Bool} (ho:ops[i]?=some ⟨some d,op,ty,pos,af,some (j,want)⟩)
  (hj:(ops[j]?).bind (·.dst)=some g∧jx l g=some (Bo b)∧(b==want)=false) (hc:dz ⟨some d,op,ty,pos,af,some (j,want)⟩=true∧Nat.blt d n=true)
  (hn:ln P E n ops Q B L recs (bU ((d,Sc undef)::l) ds) (bw s)):ln P E n ops Q B (i::L) recs (bU l ds) (bw s):=
 ⟨_,ho,.skip ⟨j,want,g,.bool b,rfl,hj.1,eI hj.2.1,fun q=>by have:=hj.2.2;cases q;simp at this⟩ (lC hc.2) (by rw[hc.1];exact hn)⟩
theorem oM {d j g:Nat} {op:Op} {want:Bool} (ho:ops[i]?=some ⟨some d,op,ty,pos,af,some (j,want)⟩)
  (hj:(ops[j]?).bind (·.dst)=some g∧jx l g=some (Sc undef)) (hc:dz ⟨some d,op,ty,pos,af,some (j,want)⟩=false∧Nat.blt d n=true)
  (hn:ln P E n ops Q B L (⟨i,some d,[],none⟩::recs) (bU ((d,Sc undef)::l) ds) (bw s)):ln P E n ops Q B (i::L) recs (bU l ds) (bw s):=
 ⟨_,ho,.skip ⟨j,want,g,undef,rfl,hj.1,eI hj.2,by simp[undef]⟩ (lC hc.2) (by rw[hc.1];exact hn)⟩
def jI:List Rec→Bool
 | []=>true
 | r::rs=>r.nm.isNone&&jI rs
theorem dV:∀ {recs:List Rec},jI recs=true→∀ r,r∈recs→r.nm=none
 | [],_,r,hr=>by cases hr
 | a::rs,h,r,hr=>by
  simp only[jI,Bool.and_eq_true,Option.isNone_iff_eq_none] at h
  rcases List.mem_cons.1 hr with q|q
  ·subst q;exact h.1
  ·exact dV h.2 r q
mutual
theorem rm {p q:Nat→Bool} (hpq:∀ k,p k=true→q k=true):∀ {v:AV},v.only p=true→v.only q=true
 | .any,_=>rfl
 | .oc,_=>rfl
 | .pv _,_=>rfl
 | .ptr _ _,h=>hpq _ h
 | .arr _ _,h=>hpq _ h
 | .sp _,_=>rfl
 | .fn f xs ys,h=>by simp only[AV.only,Bool.and_eq_true] at h ⊢;exact ⟨ns hpq h.1,ns hpq h.2⟩
 | .agg cs,h=>by simp only[AV.only] at h ⊢;exact ns hpq h
 | .fH cs,h=>by simp only[AV.only] at h ⊢;exact ns hpq h
 | .lr t v,h=>by simp only[AV.only] at h ⊢;exact rm hpq h
theorem ns {p q:Nat→Bool} (hpq:∀ k,p k=true→q k=true):∀ {v:List AV},AV.only.jw p v=true→AV.only.jw q v=true
 | [],_=>rfl
 | x::xs,h=>by simp only[AV.only.jw,Bool.and_eq_true] at h ⊢;exact ⟨rm hpq h.1,ns hpq h.2⟩
end
def sT (ks:List Nat):List Rec→Bool
 | []=>true
 | r::rs=>(match r.nm with
  | none=>true
  | some k=>!ks.any (Nat.beq k))&&sT ks rs
theorem qK {ks:List Nat}:∀ {recs:List Rec},sT ks recs=true→∀ r,r∈recs→∀ nm,r.nm=some nm→nm ∉ ks
 | a::rs,h,r,hr,nm,hn,hk=>by
  simp only[sT,Bool.and_eq_true] at h
  rcases List.mem_cons.1 hr with q|q
  ·subst q
   rw[hn] at h
   have h1:=h.1
   simp only[Bool.not_eq_true',List.any_eq_false,Bool.not_eq_true] at h1
   have:=h1 nm hk
   simp at this
  ·exact qK h.2 r q nm hn hk
theorem tK:∀ {ks:List Nat} {j:Nat},j<ks.length→nth ks j∈ks
 | _::_,0,_=>by simp[nth]
 | _::ks,j+1,h=>by simp only[nth];exact List.mem_cons_of_mem _ (tK (by simpa using h))
mutual
theorem uu {ks:List Nat} {nm:Nat} (hn:nm ∉ ks):∀ {v:AV},v.only (below ks.length)=true→(v.fM (nth ks)).dN nm=false
 | .any,_=>rfl
 | .oc,_=>rfl
 | .pv _,_=>rfl
 | .ptr j _,h=>by
  simp only[AV.only] at h
  simp only[AV.fM,AV.dN]
  have:=tK (ks:=ks) (lJ.1 h)
  simp;intro q;subst q;exact hn this
 | .arr j _,h=>by
  simp only[AV.only] at h
  simp only[AV.fM,AV.dN]
  have:=tK (ks:=ks) (lJ.1 h)
  simp;intro q;subst q;exact hn this
 | .sp _,_=>rfl
 | .fn f xs ys,h=>by simp only[AV.only,Bool.and_eq_true] at h;simp only[AV.fM,AV.dN,nh hn h.1,nh hn h.2,Bool.or_self]
 | .agg cs,h=>by simp only[AV.only] at h;simp only[AV.fM,AV.dN,nh hn h]
 | .fH cs,h=>by simp only[AV.only] at h;simp only[AV.fM,AV.dN,nh hn h]
 | .lr t v,h=>by simp only[AV.only] at h;simp only[AV.fM,AV.dN];exact uu hn h
theorem nh {ks:List Nat} {nm:Nat} (hn:nm ∉ ks):∀ {v:List AV},AV.only.jw (below ks.length) v=true→AV.dN.eS nm (AV.fM.kX (nth ks) v)=false
 | [],_=>rfl
 | x::xs,h=>by simp only[AV.only.jw,Bool.and_eq_true] at h;simp only[AV.fM.kX,AV.dN.eS,uu hn h.1,nh hn h.2,Bool.or_self]
end
def k1 (ops:Array Oper) (i:Nat) (s':List (Nat×aZ)) (recs:List Rec):Prop:=
 ∀ r,r∈fN ops recs i→∀ p,p∈r.rd→∃ e,dj s' p.1=some e∧e.le p.2
theorem ea {d:Nat} {x:Operand} {v:AV} (ho:ops[i]?=some ⟨some d,.assign x,ty,pos,af,none⟩) (hx:bF l x=some v) (hd:Nat.blt d n=true) (hs:k1 ops i s recs) (hnm:jI recs=true)
  (hn:ln P E n ops Q B L recs (bU ((d,v)::l) ds) (bw s)):ln P E n ops Q B (i::L) recs (bU l ds) (bw s):=
 ⟨_,ho,.dz (.inl rfl) rfl (.ev (v:=v) (by rw[← aB (ds:=ds) hx];exact sE x) (lC hd)
  ⟨fun r hr=>⟨fun p hp=>(let ⟨e,h1,h2⟩:=hs r hr p hp;⟨e,bK h1,h2⟩),fun nm q=>by rw[dV hnm r (List.mem_filter.1 hr).1] at q;cases q⟩,hn⟩) (fun r _ k hk=>by cases hk)⟩
theorem bV {t:TypeId} {x y:Operand} {k off m:Nat} {e:aZ} {v:AV} {c:List AV} [ht:ls P t m] (ho:ops[i]?=some ⟨none,.store t x y,ty,pos,af,none⟩)
  (h:bF l x=some (.ptr k off)∧dj s k=some e∧e.uo=true∧bF l y=some v∧v.eU=some c∧AV.iF c=true∧c.length=m∧Nat.ble (off+c.length) e.cells.length=true)
  (hnm:jI recs=true) (hn:∀ e',e.put off c=e'→k1 ops i ((k,e')::s) recs∧ln P E n ops Q B L recs (bU l ds) (bw ((k,e')::s))):ln P E n ops Q B (i::L) recs (bU l ds) (bw s):=by
 obtain ⟨hx,hk,hea,hy,hc,h1,hm,hl⟩:=h
 have hl':=Nat.le_of_ble_eq_true hl
 obtain ⟨hst,hn⟩:=hn _ rfl
 refine ⟨_,ho,.dz (.inl rfl) rfl (.store rfl rfl (aB hx) (bK hk) (sP hea) (by rw[aB hy];exact hc) h1 (by rw[hm];exact ht.h) hl' (sQ hea) ?_) (fun r hr k' _=>by rw[dV hnm r (List.mem_filter.1 hr).1];simp)⟩
 rw[put_eq hea hl']
 exact ⟨fun r hr=>⟨fun p hp=>(let ⟨e,h1,h2⟩:=hst r hr p hp;⟨e,bK h1,h2⟩),fun nm q=>by rw[dV hnm r (List.mem_filter.1 hr).1] at q;cases q⟩,hn⟩
theorem yQ {d:Nat} {X:Type} {V:X→AV} {C:X→List aZ} {G:X→Prop} {H:AV→Prop} {f:Operand} {args:List Operand} {ts:Array TypeId} {fid:FuncId} {argsC first cap vs:List AV} {es:List aZ}
  {gd:Option (Nat×Bool)} (ho:ops[i]?=some ⟨some d,.call ⟨.value f,args.toArray,ts⟩,ty,pos,af,gd⟩) (hw:ga ops ⟨some d,.call ⟨.value f,args.toArray,ts⟩,ty,pos,af,gd⟩ (bU l ds)) (ks:List Nat) (hen:Enters P fid)
  (hC:SC P fid argsC (bw (dZ 0 es)) (ph V C G H)) (hk:kK E ds l s ks f args fid argsC es first cap vs) (hd:Nat.blt d n=true) (hnm:sT ks recs=true)
  (hx:∀ x,G x→(C x).length=ks.length∧iO (below ks.length) (C x)=true∧(V x).only (below ks.length)=true)
  (hpan:∀ v,H v→v.only (fun _=>false)=true∧∀ fr' σ',fr'.ds=ds→Q (.panic v) fr' σ')
  (hret:∀ x,G x→∀ v' s',(V x).fM (nth ks)=v'→kJ ks (jz (nth ks) (C x))++s=s'→k1 ops i s' recs∧ln P E n ops Q B L recs (bU ((d,v')::l) ds) (bw s')) :
  ln P E n ops Q B (i::L) recs (bU l ds) (bw s):=by
 obtain ⟨hl,hat⟩:=nr hk.gs
 rw[gr] at hl
 have hcon:∀ j,(List.range ks.length).contains j=below ks.length j:=fun j=>by
  have h1:(List.range ks.length).contains j=decide (j<ks.length):=by
   by_cases q:j<ks.length<;>simp[q]
  rw[h1];simp only[below]
  by_cases q:j<ks.length
  ·simp[q,lJ.2 q]
  ·have:Nat.blt j ks.length=false:=by
    cases h:Nat.blt j ks.length with
    | false=>rfl
    | true=>exact absurd (lJ.1 h) q
   simp[q,this]
 have hconf:(List.range ks.length).contains=below ks.length:=funext hcon
 have hsome:∀ j,(bw (dZ 0 es) j).isSome=true→j<ks.length:=fun j hj=>by
  cases q:bw (dZ 0 es) j with
  | none=>rw[q] at hj;cases hj
  | some e=>
   obtain ⟨_,h2⟩:=eV q
   have:=(List.getElem?_eq_some_iff.1 h2).1
   simp at this;omega
 have hinj:∀ j j',(List.range ks.length).contains j=true→(List.range ks.length).contains j'=true→nth ks j=nth ks j'→j=j':=fun j j' hj hj' he=>mP hk.nd (by simpa using hj) (by simpa using hj') he
 have hat0:∀ j,(List.range ks.length).contains j=true→∃ e,bw (dZ 0 es) j=some e:=fun j hj=>by
  have hj':j<es.length:=by simp at hj;omega
  exact ⟨_,by have:=lW (i:=0) (List.getElem?_eq_getElem hj');simpa using this⟩
 have hsame:∀ j,(List.range ks.length).contains j=true→(∃ cs,bw (dZ 0 es) j=some (.box cs))∨((bU l ds).clear (nth ks j)∧
   (∀ k e,(List.range ks.length).any (fun i=>nth ks i==k)=false→bw s k=some e→AV.dN.eS (nth ks j) e.cells=false)∧E.fix (nth ks j)=none):=fun j hj=>by
  have hj':j<es.length:=by simp at hj;omega
  rcases sO hk.bx hk.fx (by simpa using hj) (List.getElem?_eq_getElem hj') with ⟨cs,hcs⟩|⟨q1,q2,q3,q4⟩
  ·exact .inl ⟨cs,by have:=lW (i:=0) (List.getElem?_eq_getElem hj');rw[hcs] at this;simpa using this⟩
  ·exact .inr ⟨fB q1 q2,fun k e hkl he=>lB q3 k e (wq hkl) he,q4⟩
 refine ⟨_,ho,.dz hw rfl (.call (nth ks) (List.range ks.length) hen rfl (aB hk.f) (by rw[kI hk.a];exact hk.e) hC (fun j hj=>by simpa using hsome j hj) (fun j e hj=>?_)
   (fun j hj=>by obtain ⟨e,he⟩:=hat0 j hj;rw[he];rfl) (fun j j' hj hj' he=>mP hk.nd (hsome j hj) (hsome j' hj') he) (lC hd) (fun v σc hr=>?_) (fun v σc hr=>?_))
  (fun r hr k hk' q=>by
   obtain ⟨j,hj,rfl⟩:=List.mem_map.1 hk'
   exact qK hnm r (List.mem_filter.1 hr).1 _ q (tK (by simpa using hj)))⟩
 ·obtain ⟨_,h2⟩:=eV hj
  exact hat j _ (by rw[lK,show j=j - 0 by omega,h2];rfl)
 ·rcases hr with ⟨x,hg,he,rfl⟩|⟨_,_,he,_⟩
  ·cases he
   obtain ⟨h1,h2,h3⟩:=hx x hg
   obtain ⟨hst,hn⟩:=hret x hg _ _ rfl rfl
   refine ⟨{ Cj:=fun j e hj=>?_,val:=by rw[hconf];exact h3,inj:=hinj,same:=hsame },?_⟩
   ·obtain ⟨_,h4⟩:=eV hj
    have h5:=(List.getElem?_eq_some_iff.1 h4).1
    exact ⟨by simp;omega,by rw[hconf];exact qJ h2 h4⟩
   ·have:after (bw s) (nth ks) (List.range ks.length) (List.range ks.length) (bw (dZ 0 (C x)))=bw (kJ ks (jz (nth ks) (C x))++s):=by
     funext k
     rw[wo (by rw[gr,h1]) hk.nd]
     simp only[after]
     cases hf:(List.range ks.length).find? (fun j=>nth ks j==k) with
     | some j=>
      have hj:=List.mem_of_find?_eq_some hf
      simp at hj
      simp only[lK]
      have:j<(C x).length:=by omega
      rw[List.getElem?_eq_getElem this]
      have h6:=lW (i:=0) (List.getElem?_eq_getElem this)
      simp at h6
      rw[h6]
     | none=>
      have:(List.range ks.length).any (fun j=>nth ks j==k)=false:=by
       rw[List.any_eq_false];intro j hj
       have:=List.find?_eq_none.1 hf j hj
       simpa using this
      simp[this]
    rw[this]
    refine ⟨fun r hr=>⟨fun p hp=>(let ⟨e,h1,h2⟩:=hst r hr p hp;⟨e,bK h1,h2⟩),fun nm q=>?_⟩,hn⟩
    have hnk:=qK hnm r (List.mem_filter.1 hr).1 nm q
    refine ⟨fun d' hd'=>?_,fun k hk' e he=>?_⟩
    ·cases hd'
     simp only[dX.gL,dX.put,if_true]
     exact uu hnk h3
    ·obtain ⟨j,hj,rfl⟩:=List.mem_map.1 hk'
     have hj':j<ks.length:=by simpa using hj
     have hcl:j<(C x).length:=by omega
     rw[wo (by rw[gr,h1]) hk.nd] at he
     have hfd:(List.range ks.length).find? (fun j'=>nth ks j'==nth ks j)=some j:=by
      cases hf:(List.range ks.length).find? (fun j'=>nth ks j'==nth ks j) with
      | none=>have:=List.find?_eq_none.1 hf j (by simpa using hj');simp at this
      | some j2=>
       have h7:=List.find?_some hf
       have h8:=List.mem_of_find?_eq_some hf
       simp at h7 h8
       rw[mP hk.nd h8 hj' h7]
     rw[hfd] at he
     simp only[lK,List.getElem?_eq_getElem hcl,Option.map_some] at he
     injection he with he
     subst he
     have:=qJ h2 (List.getElem?_eq_getElem hcl)
     generalize (C x)[j]=ce at this
     cases ce with
     | box cs=>exact nh hnk this
     | arr _ _ cs=>exact lS _ _
     | app _ _ cs=>exact lS _ _
  ·cases he
 ·rcases hr with ⟨_,_,he,_⟩|⟨v',hh,he,rfl⟩
  ·cases he
  ·cases he
   obtain ⟨h1,h2⟩:=hpan v hh
   refine ⟨{ Cj:=fun j e hj=>(by cases hj),val:=?_,inj:=hinj,same:=hsame },fun fr' σ' hds _ _=>?_⟩
   ·exact rm (fun k hk=>by cases hk) h1
   ·rw[oJ h1];exact h2 fr' σ' hds
end
end Go.Abs
end
section
namespace Go.Abs
structure pj where
 t:TypeId
 cells:List PV
def pj.av (p:pj):AV:=.lr p.t (.agg (p.cells.map .pv))
theorem pj.only (p:pj) (q:Nat→Bool):p.av.only q=true:=by simp[pj.av,AV.only,sk]
inductive aq (α:Type) where
 | stuck
 | ll (p:pj)
 | ok (a:α)
namespace aq
variable {α β:Type}
def bind (x:aq α) (k:α→aq β):aq β:=
 match x with
 | .stuck=>.stuck
 | .ll v=>.ll v
 | .ok a=>k a
def br (b:Bool) (x y:aq α):aq α:=match b with|true=>x|false=>y
def gd (p:Prop) [Decidable p] (x:aq α):aq α:=if p then x else .stuck
def el (l:List β) (i:Int) (k:β→aq α):aq α:=if 0≤i then (match l[i.toNat]? with|some x=>k x|none=>.stuck) else .stuck
def some? (x:Option β) (k:β→aq α):aq α:=match x with|some x=>k x|none=>.stuck
def jn {X:Type} (j:X→aq α) (p:(X→aq α)→aq α):aq α:=p j
def iter {X:Type} (body:(X→aq α)→X→aq α):Nat→X→aq α
 | 0,_=>.stuck
 | n+1,x=>body (iter body n) x
theorem E8 {b:Bool} {x y r:aq α} (hb:b=true) (h:br b x y=r):x=r:=by subst hb;exact h
theorem E9 {b:Bool} {x y r:aq α} (hb:b=false) (h:br b x y=r):y=r:=by subst hb;exact h
theorem DT {p:Prop} [Decidable p] {x r:aq α} (hr:r≠.stuck) (h:gd p x=r):p∧x=r:=by
 unfold gd at h
 split at h
 ·exact ⟨‹p›,h⟩
 ·exact absurd h.symm hr
theorem FL {l:List β} {i:Int} {k:β→aq α} {r:aq α} (hr:r≠.stuck) (h:el l i k=r):∃ x,0≤i∧i<l.length∧l[i.toNat]?=some x∧k x=r:=by
 unfold el at h
 split at h
 ·rename_i h0
  split at h
  ·rename_i x hx
   have:=(List.getElem?_eq_some_iff.1 hx).1
   exact ⟨x,h0,by omega,hx,h⟩
  ·exact absurd h.symm hr
 ·exact absurd h.symm hr
theorem DU {x:Option β} {k:β→aq α} {r:aq α} (hr:r≠.stuck) (h:some? x k=r):∃ y,x=some y∧k y=r:=by
 cases x with
 | none=>exact absurd h.symm hr
 | some y=>exact ⟨y,rfl,h⟩
end aq
open aq
def CT (P:Program) (f:FuncId) (args:List AV) (es:List aZ) {X:Type} (res:aq X) (V:X→AV) (C:X→List aZ):Prop:=
 ∀ r,res=r→r≠.stuck→SC P f args (bw (dZ 0 es)) (ph V C (fun x=>r=.ok x) (fun v=>∃ p,r=.ll p∧v=p.av))
section
variable {P:Program} {E:Env} {n:Nat} {ops:Array Oper} {Q:dD} {rest:List Oper} {l:List (Nat×AV)} {ds:List (FuncId×List AV)} {s:List (Nat×aZ)}
 {ty:TypeId} {pos:String} {af:Array Edge}
theorem Co {f:FuncId} {fn:Func} {c:Code} {args:List AV} {es:List aZ} {X:Type} {res:aq X} {V:X→AV} {C:X→List aZ} (hf:P.funcs[f]?=some fn) (hb:fn.body=some c) (hn:Nat.ble args.length fn.ntmps=true)
  (h:∀ r,res=r→r≠.stuck→∀ E:Env,(∀ k,jT es k=true→E.fix k=none)→
   SW P E fn.ntmps c (mM P fn (ph V C (fun x=>r=.ok x) (fun v=>∃ p,r=.ll p∧v=p.av))) (bU ((List.range args.length).zip args) []) (bw (dZ 0 es))):CT P f args es res V C:=
 fun r hr hs=>Cn hf hb hn (h r hr hs)
theorem cN {c:Operand} {x y:Code} {b:Bool} (hb:bF l c=some (Bo b)) (ht:b=true→SW P E n x Q (bU l ds) (bw s)) (hf:b=false→SW P E n y Q (bU l ds) (bw s)):SW P E n (.cond c x y) Q (bU l ds) (bw s):=
 Ch (aB hb) ht hf
def rN (l G:List (Nat×AV)):List (Nat×AV)→Prop
 | []=>True
 | (i,_)::F=>jx l i=jx G i∧rN l G F
def sn (s G:List (Nat×aZ)):List (Nat×aZ)→Prop
 | []=>True
 | (i,_)::F=>dj s i=dj G i∧sn s G F
theorem vA {l:List (Nat×AV)} {i:Nat}:jP l i=(jx l i).getD .any:=by
 induction l with
 | nil=>rfl
 | cons a l ih=>
  obtain ⟨j,v⟩:=a
  simp only[jP,jx]
  by_cases q:i=j
  ·subst q;simp
  ·have:Nat.beq i j=false:=by
    cases h:Nat.beq i j with
    | false=>rfl
    | true=>exact absurd (Nat.eq_of_beq_eq_true h) q
   simp[this,q,ih]
theorem pk {l:List (Nat×aZ)} {i:Nat}:jG l i=dj l i:=by
 induction l with
 | nil=>rfl
 | cons a l ih=>
  obtain ⟨j,v⟩:=a
  simp only[jG,dj]
  by_cases q:i=j
  ·subst q;simp
  ·have:Nat.beq i j=false:=by
    cases h:Nat.beq i j with
    | false=>rfl
    | true=>exact absurd (Nat.eq_of_beq_eq_true h) q
   simp[this,q,ih]
theorem nt {l G:List (Nat×AV)}:∀ {F:List (Nat×AV)},rN l G F→∀ p∈F,jP l p.1=jP G p.1
 | [],_,p,hp=>by cases hp
 | (i,v)::F,h,p,hp=>by
  rcases List.mem_cons.1 hp with q|q
  ·subst q;rw[vA,vA,h.1]
  ·exact nt h.2 p q
theorem pn {s G:List (Nat×aZ)}:∀ {F:List (Nat×aZ)},sn s G F→∀ p∈F,jG s p.1=jG G p.1
 | [],_,p,hp=>by cases hp
 | (i,v)::F,h,p,hp=>by
  rcases List.mem_cons.1 hp with q|q
  ·subst q;rw[pk,pk,h.1]
  ·exact pn h.2 p q
theorem yR {c:Code} (l':List (Nat×AV)) (s':List (Nat×aZ)) (h1:rN l l' l') (h2:sn s s' s') (h:SW P E n c Q (bU l' ds) (bw s')):SW P E n c Q (bU l ds) (bw s):=
 yH (wh (nt h1)) (wi (pn h2)) h
theorem Cp {X:Type} {x y:Code} (F:X→List (Nat×AV)) (H:X→List (Nat×aZ)) (G:X→Prop)
  (hy:∀ v,G v→SW P E n y Q (bU (F v) ds) (bw (H v)))
  (hx:∀ K:dX→b5→Prop,(∀ v l s,G v→rN l (F v) (F v)→sn s (H v) (H v)→K (bU l ds) (bw s))→SW P E n x (ti K Q) (bU l ds) (bw s)):SW P E n (.seq x y) Q (bU l ds) (bw s):=
 AL (hx _ fun v _ _ hg h1 h2=>yR (F v) (H v) h1 h2 (hy v hg))
theorem z6 {X R:Type} {c:Code} (F:X→List (Nat×AV)) (H:X→List (Nat×aZ)) (body:(X→aq R)→X→aq R) (r:aq R) (m:Nat) (v:X) (hr:r≠.stuck) (h0:iter body m v=r)
  (h1:rN l (F v) (F v)) (h2:sn s (H v) (H v))
  (hx:∀ (next:X→aq R) (v:X) (K:dX→b5→Prop),(∀ v l s,next v=r→rN l (F v) (F v)→sn s (H v) (H v)→K (bU l ds) (bw s))→body next v=r→SW P E n c (ti K Q) (bU (F v) ds) (bw (H v))) :
  SW P E n (.loop c) Q (bU l ds) (bw s):=by
 refine yR (F v) (H v) h1 h2 (Ci (fun k fr σ=>∃ v,iter body k v=r∧fr.le (bU (F v) ds)∧∀ j e,bw (H v) j=some e→σ j=some e) m ⟨v,h0,⟨fun _=>.inl rfl,rfl⟩,fun _ _ h=>h⟩ ?_)
 rintro k fr σ ⟨v,hv,hle,hsub⟩
 cases k with
 | zero=>exact absurd hv.symm hr
 | succ k=>
  refine yH hle hsub (hx (iter body k) v _ ?_ hv)
  intro v' l' s' hv' hf hs
  exact ⟨k,Nat.lt_succ_self k,v',hv',wh (nt hf),wi (pn hs)⟩
end
end Go.Abs
end
section
namespace Go.Abs
open aq
theorem vB {α:Type} {f:α→List PV} {sz:Nat} (hf:∀ x,(f x).length=sz):∀ {l:List α} {i:Nat} {x:α},l[i]?=some x→
  (l.flatMap f).drop (i*sz)=f x++(l.flatMap f).drop ((i+1)*sz):=by
 intro l
 induction l with
 | nil=>intro i x h;simp at h
 | cons a l ih=>
  intro i x h
  cases i with
  | zero=>
   simp at h;subst h
   rw[List.flatMap_cons,Nat.zero_mul,List.drop_zero,Nat.zero_add,Nat.one_mul,← hf a,List.drop_left]
  | succ i=>
   have h1:=ih (i:=i) (x:=x) (by simpa using h)
   have h2:∀ j,(f a++l.flatMap f).drop ((j+1)*sz)=(l.flatMap f).drop (j*sz):=fun j=>by
    rw[Nat.succ_mul,Nat.add_comm,← hf a,← List.drop_drop,List.drop_left]
   rw[List.flatMap_cons,h2,h2,h1]
theorem gu {α:Type} {f:α→List PV} {sz:Nat} (hf:∀ x,(f x).length=sz):∀ (l:List α),(l.flatMap f).length=l.length*sz
 | []=>by simp
 | a::l=>by simp[gu hf l,hf a,Nat.succ_mul,Nat.add_comm]
section
variable {P:Program} {l:List (Nat×AV)} {ds:List (FuncId×List AV)} {s:List (Nat×aZ)}
theorem ic.two {op:Op} {v:AV} {k j:Nat} {e e':aZ} (hk:dj s k=some e) (hj:dj s j=some e') (h:fv P op (bU l ds) [(k,e),(j,e')] v):ic P op l ds s v [(k,e),(j,e')]:=
 ⟨h,fun p hp=>by
  simp at hp
  rcases hp with q|q
  ·subst q;exact ⟨_,bK hk,aZ.le_refl _⟩
  ·subst q;exact ⟨_,bK hj,aZ.le_refl _⟩⟩
theorem fv.w9 {op:Op} {fr:dX} {rd:List (Nat×aZ)} {v v':AV} (h:fv P op fr rd v) (hle:v.le v'):fv P op fr rd v':=fun o ho g ev w hG hv hr=>
 let ⟨c,h1,h2⟩:=h o ho g ev w hG hv hr;⟨c,h1,hle g c h2⟩
theorem ic.w9 {op:Op} {v v':AV} {rd:List (Nat×aZ)} (h:ic P op l ds s v rd) (hle:v.le v'):ic P op l ds s v' rd:=⟨h.h.w9 hle,h.r⟩
theorem AV.Fa:(Sc (.pointer none)).le (.pv (.pt none)):=fun g c h=>by rw[h.dh];exact .pv .AA
theorem DV {x:Operand} {k m sz:Nat} {el:TypeId} {cells:List PV} (hx:bF l x=some (.arr k m)) (hk:dj s k=some (.app el sz cells)) (hz:Nat.blt 0 sz=true) (hn:cells.length=m*sz) :
  ic P (.move x) l ds s (.pv (.sl m cells)) [(k,.app el sz cells)]:=.on hk (vS (aB hx) (by simpa[Nat.blt_eq] using hz) hn)
theorem AU {t:TypeId} {x:Operand} {k j off m sz:Nat} {el:TypeId} {cells:List PV} {e:aZ} [ha:gR P t false] (hx:bF l x=some (.ptr k off)) (hk:dj s k=some e)
  (hv:e.cells[off]?=some (.arr j m)) (hj:dj s j=some (.app el sz cells)) (hz:Nat.blt 0 sz=true) (hn:cells.length=m*sz) :
  ic P (.load t x) l ds s (.pv (.sl m cells)) [(k,e),(j,.app el sz cells)]:=.two hk hj (vT ha.h (aB hx) hv (by simpa[Nat.blt_eq] using hz) hn)
theorem gx {α:Type} {f:α→List PV} {Cs:List α→List PV} {t e:TypeId} {sz m:Nat} {x ix:Operand} {k:IntKind} {i:Int} {xs:List α} {a:α} [ht:yN P t e sz]
  (lu:∀ l,Cs l=l.flatMap f) (hf:∀ x,(f x).length=sz) (h0:0≤i) (h1:i<xs.length) (ha:xs[i.toNat]?=some a)
  (hx:bF l x=some (.pv (.sl m (Cs xs)))) (hm:m=xs.length) (hi:bF l ix=some (Sc (.int k i))) :
  ic P (.indexAddr t x ix) l ds s (.sp (f a++(xs.flatMap f).drop ((i.toNat+1)*sz))) []:=by
 subst hm
 rw[lu] at hx
 refine Cl hx hi h0 h1 ?_ (by rw[vB hf ha])
 rw[gu hf];exact Nat.mul_le_mul_right _ (by omega)
theorem so {parts:List (Nat×Operand)} {pv:List (Nat×AV)} (h:parts.mapM (fun p=>(bF l p.2).map fun v=>(p.1,v))=some pv):(parts.map fun p=>(p.1,(bU l ds).val p.2))=pv:=by
 have key:∀ (ps:List (Nat×Operand)) (pv:List (Nat×AV)),ps.mapM (fun p=>(bF l p.2).map fun v=>(p.1,v))=some pv→(ps.map fun p=>(p.1,(bU l ds).val p.2))=pv:=by
  intro ps
  induction ps with
  | nil=>intro pv h;simp at h;simp[h]
  | cons p ps ih=>
   intro pv h
   rw[List.mapM_cons] at h
   cases hv:bF l p.2 with
   | none=>simp[hv] at h
   | some v=>
    cases hr:ps.mapM (fun p=>(bF l p.2).map fun v=>(p.1,v)) with
    | none=>simp[hv,hr] at h
    | some r=>
     simp[hv,hr] at h
     subst h
     simp[ih r hr,aB (ds:=ds) hv]
 exact key parts pv h
def mQ (k:Nat):List (Nat×aZ)→List (Nat×aZ)
 | []=>[]
 | (j,e)::s=>match Nat.beq j k with
  | true=>mQ k s
  | false=>(j,e)::mQ k s
theorem nU {k:Nat}:∀ {s:List (Nat×aZ)},bw (mQ k s)=(bw s).del k
 | []=>by funext j;simp[mQ,bw,jG,b5.del]
 | (i,e)::s=>by
  have ih:=nU (k:=k) (s:=s)
  funext j
  have ihj:=congrFun ih j
  simp only[bw,b5.del] at ihj
  simp only[mQ]
  split
  ·rename_i q
   have hik:=Nat.eq_of_beq_eq_true q
   subst hik
   simp only[bw,jG,b5.del]
   rw[ihj]
   split<;>simp_all
  ·rename_i q
   have hik:i≠k:=fun h=>by subst h;simp at q
   simp only[bw,jG,b5.del]
   by_cases hj:j=i
   ·subst hj;simp[hik]
   ·simp only[hj,if_false];exact ihj
theorem Cq {xt yt el:TypeId} {fr:dX} {x y:Operand} {o:Option (List PV)} (ht:P.underlying xt=some (.pointer el)) (hx:fr.val x=.pv (.pt o)) (hy:fr.val y=Sc (.pointer none)) :
  fv P (.binOp .eql xt x y yt) fr [] (Bo o.isNone):=by
 intro o' ho g ev w _ hv _
 have q1:=hv x (by simp[Op.operands]);rw[hx] at q1
 have q2:=hv y (by simp[Op.operands]);rw[hy] at q2
 generalize hq:ev x=c at q1
 cases q1 with
 | pv q1=>cases q1 with
  | AA=>
   refine ⟨.bool true,?_,.pv (.sc _)⟩
   simp only[execOp,ho,hq,q2.dh,binOp,Sem.run_bind,tg,Sem.run_pure,Result.andThen_ok];simp[Op.equal,Op.maxDepth,pV ht 9999]
  | Az=>
   refine ⟨.bool false,?_,.pv (.sc _)⟩
   simp only[execOp,ho,hq,q2.dh,eqGuard,binOp];simp[Op.equal,Op.maxDepth,pW ht 9999]
theorem Cr {xt yt el:TypeId} {fr:dX} {x y:Operand} {o:Option (List PV)} (ht:P.underlying xt=some (.pointer el)) (hx:fr.val x=.pv (.pt o)) (hy:fr.val y=Sc (.pointer none)) :
  fv P (.binOp .neq xt x y yt) fr [] (Bo o.isSome):=by
 intro o' ho g ev w _ hv _
 have q1:=hv x (by simp[Op.operands]);rw[hx] at q1
 have q2:=hv y (by simp[Op.operands]);rw[hy] at q2
 generalize hq:ev x=c at q1
 cases q1 with
 | pv q1=>cases q1 with
  | AA=>
   refine ⟨.bool false,?_,.pv (.sc _)⟩
   simp only[execOp,ho,hq,q2.dh,binOp,Sem.run_bind,tg,Sem.run_pure,Result.andThen_ok];simp[Op.equal,Op.maxDepth,pV ht 9999]
  | Az=>
   refine ⟨.bool true,?_,.pv (.sc _)⟩
   simp only[execOp,ho,hq,q2.dh,eqGuard,binOp];simp[Op.equal,Op.maxDepth,pW ht 9999]
theorem AW {fr:dX} {x:Operand} {c:List PV} (hx:fr.val x=.pv (.pt (some c))):fv P (.nilCheck x) fr [] (.sp c):=by
 intro o ho g ev w _ hv _
 have h1:=hv x (by simp[Op.operands]);rw[hx] at h1
 generalize hq:ev x=c at h1
 cases h1 with
 | pv h1=>cases h1 with
  | Az b ys off cells h hl hc=>exact ⟨_,by simp[execOp,ho,hq],.sp off h hl hc⟩
theorem AX {xt yt el:TypeId} {x y:Operand} {o:Option (List PV)} [ht:jH P xt (.pointer el)] (hx:bF l x=some (.pv (.pt o))) (hy:bF l y=some (Sc (.pointer none))) :
  ic P (.binOp .eql xt x y yt) l ds s (Bo o.isNone) []:=.of (Cq ht.h (aB hx) (aB hy))
theorem AY {xt yt el:TypeId} {x y:Operand} {o:Option (List PV)} [ht:jH P xt (.pointer el)] (hx:bF l x=some (.pv (.pt o))) (hy:bF l y=some (Sc (.pointer none))) :
  ic P (.binOp .neq xt x y yt) l ds s (Bo o.isSome) []:=.of (Cr ht.h (aB hx) (aB hy))
theorem Ct {x:Operand} {c:List PV} (hx:bF l x=some (.pv (.pt (some c)))):ic P (.nilCheck x) l ds s (.sp c) []:=.of (AW (aB hx))
theorem cT {c a b:Operand} {v:AV} {t:Bool} (ht:t=true) (hc:bF l c=some (Bo t)) (ha:bF l a=some v):ic P (.pick c a b) l ds s v []:=by subst ht;exact tJ hc ha
theorem cO {c a b:Operand} {v:AV} {t:Bool} (ht:t=false) (hc:bF l c=some (Bo t)) (hb:bF l b=some v):ic P (.pick c a b) l ds s v []:=by subst ht;exact dv hc hb
theorem iP {xt yt:TypeId} {x y:Operand} {k:IntKind} {a b:Int} (hx:bF l x=some (Sc (.int k a))) (hy:bF l y=some (Sc (.int k b))):ic P (.binOp .add xt x y yt) l ds s (Sc (.int k (k.wrap (a+b)))) []:=
 .of (yE (aB hx) (aB hy))
theorem sU {xt yt:TypeId} {x y:Operand} {k:IntKind} {a b:Int} (hx:bF l x=some (Sc (.int k a))) (hy:bF l y=some (Sc (.int k b))):ic P (.binOp .sub xt x y yt) l ds s (Sc (.int k (k.wrap (a - b)))) []:=
 .of (yF (aB hx) (aB hy))
theorem DY {xt yt:TypeId} {x y:Operand} {k:IntKind} {a b:Int} (hx:bF l x=some (Sc (.int k a))) (hy:bF l y=some (Sc (.int k b))):ic P (.binOp .mul xt x y yt) l ds s (Sc (.int k (k.wrap (a*b)))) []:=
 .of (Cd (aB hx) (aB hy))
theorem lL {a b:TypeId} {x:Operand} {k k':IntKind} {v:Int} [hs:jH P a (.int k')] [ht:jH P b (.int k)] (hx:bF l x=some (Sc (.int k' v))):ic P (.convert a b x) l ds s (Sc (.int k (k.wrap v))) []:=
 .of (x8 hs.h ht.h (aB hx))
end
section
variable {P:Program} {E:Env} {n:Nat} {ops:Array Oper} {Q:dD} {rest:List Oper} {l:List (Nat×AV)} {ds:List (FuncId×List AV)} {s:List (Nat×aZ)}
 {ty:TypeId} {pos:String} {af:Array Edge}
theorem Fb {d j g:Nat} {op:Op} {v:AV} {rd:List (Nat×aZ)} {want b:Bool} (hb:b=want) (hj:(ops[j]?).bind (·.dst)=some g∧jx l g=some (Bo b))
  (h:ic P op l ds s v rd) (hd:Nat.blt d n=true) (hn:SL P E n ops Q rest (bU ((d,v)::l) ds) (bw s)):SL P E n ops Q (⟨some d,op,ty,pos,af,some (j,want)⟩::rest) (bU l ds) (bw s):=by
 subst hb;exact DO hj h hd hn
theorem Fc {d j g:Nat} {op:Op} {want b:Bool} (hb:b = !want) (hj:(ops[j]?).bind (·.dst)=some g∧jx l g=some (Bo b)) (hd:Nat.blt d n=true)
  (hn:SL P E n ops Q rest (bU ((d,Sc undef)::l) ds) (bw s)):SL P E n ops Q (⟨some d,op,ty,pos,af,some (j,want)⟩::rest) (bU l ds) (bw s):=by
 subst hb;exact E1 ⟨hj.1,hj.2,by cases want<;>rfl⟩ hd hn
theorem AZ {d:Nat} {t e:TypeId} {m sz:Nat} {parts:List (Nat×Operand)} {zs:List Value} {pl:List (Nat×Nat)} {pv:List (Nat×AV)} {cells:List PV} [ht:jS P t m e sz zs pl] (nm:Nat) (hE:E.fix nm=none)
  (h:parts.mapM (fun p=>(bF l p.2).map fun v=>(p.1,v))=some pv∧kW pl (zs.map fun v=>.pv (.sc v)) pv=some (cells.map .pv)∧cells.length=m*sz∧Nat.ble m 1000=true)
  (hm:ku nm l=false∧iM nm ds=false∧mH nm s=false) (hd:Nat.blt d n=true)
  (hn:SL P E n ops Q rest (bU ((d,.arr nm m)::l) ds) (bw ((nm,.app e sz cells)::s))):SL P E n ops Q (⟨some d,.buildSlice t m parts.toArray,ty,pos,af,none⟩::rest) (bU l ds) (bw s):=by
 refine ia rfl (wc (th nm ht.h ?_ h.2.2.1 (Nat.le_trans (Nat.le_of_ble_eq_true h.2.2.2) (by simp[maxLen]))) (fB hm.1 hm.2.1) (iN hm.2.2) hE (lC hd) hn)
 rw[so h.1];exact h.2.1
end
end Go.Abs
end
section
namespace Go.Abs
open aq
section
variable {P:Program} {E:Env} {n:Nat} {ops:Array Oper} {Q:dD} {B:List Rec→dX→b5→Prop} {i:Nat} {L:List Nat} {recs:List Rec} {l:List (Nat×AV)} {ds:List (FuncId×List AV)} {s:List (Nat×aZ)}
 {ty:TypeId} {pos:String} {af:Array Edge}
theorem df {d j g:Nat} {op:Op} {v:AV} {rd:List (Nat×aZ)} {want b:Bool} (hb:b=want) (ho:ops[i]?=some ⟨some d,op,ty,pos,af,some (j,want)⟩)
  (hj:(ops[j]?).bind (·.dst)=some g∧jx l g=some (Bo b)) (h:ic P op l ds s v rd)
  (hc:dz ⟨some d,op,ty,pos,af,some (j,want)⟩=false∧Nat.blt d n=true∧ur ops i v rd recs=true)
  (hn:ln P E n ops Q B L (⟨i,some d,rd,none⟩::recs) (bU ((d,v)::l) ds) (bw s)):ln P E n ops Q B (i::L) recs (bU l ds) (bw s):=by
 subst hb;exact DQ ho hj h hc hn
theorem cG {d j g:Nat} {op:Op} {want b:Bool} (hb:b = !want) (ho:ops[i]?=some ⟨some d,op,ty,pos,af,some (j,want)⟩)
  (hj:(ops[j]?).bind (·.dst)=some g∧jx l g=some (Bo b)) (hc:dz ⟨some d,op,ty,pos,af,some (j,want)⟩=false∧Nat.blt d n=true)
  (hn:ln P E n ops Q B L (⟨i,some d,[],none⟩::recs) (bU ((d,Sc undef)::l) ds) (bw s)):ln P E n ops Q B (i::L) recs (bU l ds) (bw s):=by
 subst hb;exact E7 ho ⟨hj.1,hj.2,by cases want<;>rfl⟩ hc hn
theorem lD {d j g:Nat} {op:Op} {want b:Bool} (hb:b = !want) (ho:ops[i]?=some ⟨some d,op,ty,pos,af,some (j,want)⟩)
  (hj:(ops[j]?).bind (·.dst)=some g∧jx l g=some (Bo b)) (hc:dz ⟨some d,op,ty,pos,af,some (j,want)⟩=true∧Nat.blt d n=true)
  (hn:ln P E n ops Q B L recs (bU ((d,Sc undef)::l) ds) (bw s)):ln P E n ops Q B (i::L) recs (bU l ds) (bw s):=by
 subst hb;exact DS ho ⟨hj.1,hj.2,by cases want<;>rfl⟩ hc hn
theorem bz {id:Nat} {fr:dX} {σ:b5} (L:List Nat) (hm:P.follows .mixedOrders=true) (hchk:FK ops L=true) (h:DW P E n ops Q L [] fr σ):SW P E n (.region id ops true) Q fr σ:=Ck L hm hchk h
end
theorem jU {α β:Type} {x:aq α} {k:α→aq β} {r:aq β} (hr:r≠.stuck) (h:aq.bind x k=r):x≠.stuck∧(∀ a,x=.ok a→k a=r)∧∀ p,x=.ll p→r=.ll p:=by
 cases x with
 | stuck=>exact absurd h.symm hr
 | ll p=>exact ⟨by simp,fun _ q=>by simp at q,fun q hq=>by cases hq;exact h.symm⟩
 | ok a=>exact ⟨by simp,fun b q=>by cases q;exact h,fun _ q=>by simp at q⟩
section
variable {P:Program} {E:Env} {n:Nat} {ops:Array Oper} {Q:dD} {rest:List Oper} {l:List (Nat×AV)} {ds:List (FuncId×List AV)} {s:List (Nat×aZ)}
 {ty:TypeId} {pos:String} {af:Array Edge}
theorem xk {o:Oper} {X R:Type} {res:aq X} {kk:X→aq R} {r:aq R} {V V':X→AV} {C:X→List aZ} {C':X→List (Nat×aZ)} {f:Operand} {args:List Operand} {ts:Array TypeId} {fid:FuncId}
  {argsC first cap vs:List AV} {es:List aZ} {next:dX→b5→Prop} (hr:r≠.stuck) (h:aq.bind res kk=r) {l':List (Nat×AV)} (hwk:(bU l ds).le (bU l' ds)) (ks:List Nat) (hen:Enters P fid) (ho:o.op=.call ⟨.value f,args.toArray,ts⟩)
  (hC:CT P fid argsC es res V C) (hk:kK E ds l s ks f args fid argsC es first cap vs l') (hd:∀ d,o.dst=some d→d<n)
  (hx:∀ x,(C x).length=ks.length∧iO (below ks.length) (C x)=true∧(V x).only (below ks.length)=true)
  (hV:∀ x,(V x).fM (nth ks)=V' x∧kJ ks (jz (nth ks) (C x))=C' x)
  (hpan:∀ p fr σ,fr.ds=ds→r=.ll p→Q (.panic p.av) fr σ)
  (hret:∀ x,kk x=r→next ((bU l' ds).gL o.dst (V' x)) (bw (C' x++s))):Step P E n Q o (bU l ds) (bw s) next:=by
 obtain ⟨hns,hok,hp⟩:=jU hr h
 refine um hwk ks hen ho (hC res rfl hns) hk hd (fun x _=>hx x) (fun x hg=>?_) (fun v hv=>?_)
 ·have:=hret x (hok x hg)
  rw[← (hV x).1,← (hV x).2] at this;exact this
 ·obtain ⟨p,hp1,rfl⟩:=hv
  exact ⟨p.only _,hpan p _ _ rfl (hp p hp1)⟩
theorem yS {o:Oper} {X R:Type} {res:aq X} {kk:X→aq R} {r:aq R} {V V':X→AV} {C:X→List aZ} {C':X→List (Nat×aZ)} {f:Operand} {args:List Operand} {ts:Array TypeId} {fid:FuncId}
  {argsC first cap vs:List AV} {es:List aZ} {next:dX→b5→Prop} (hr:r≠.stuck) (h:aq.bind res kk=r) (ks:List Nat) (hen:Enters P fid) (ho:o.op=.call ⟨.value f,args.toArray,ts⟩)
  (hC:CT P fid argsC es res V C) (hk:kK E ds l s ks f args fid argsC es first cap vs) (hd:∀ d,o.dst=some d→d<n)
  (hx:∀ x,(C x).length=ks.length∧iO (below ks.length) (C x)=true∧(V x).only (below ks.length)=true)
  (hV:∀ x,(V x).fM (nth ks)=V' x∧kJ ks (jz (nth ks) (C x))=C' x)
  (hpan:∀ p fr σ,fr.ds=ds→r=.ll p→Q (.panic p.av) fr σ)
  (hret:∀ x,kk x=r→next ((bU l ds).gL o.dst (V' x)) (bw (C' x++s))):Step P E n Q o (bU l ds) (bw s) next:=
 xk hr h ⟨fun _=>.inl rfl,rfl⟩ ks hen ho hC hk hd hx hV hpan hret
theorem iQ {d:Nat} {X R:Type} {res:aq X} {kk:X→aq R} {r:aq R} {V V':X→AV} {C:X→List aZ} {C':X→List (Nat×aZ)} {f:Operand} {args:List Operand} {ts:Array TypeId} {fid:FuncId}
  {argsC first cap vs:List AV} {es:List aZ} (hr:r≠.stuck) (h:aq.bind res kk=r) (ks:List Nat) (hen:Enters P fid)
  (hC:CT P fid argsC es res V C) (hk:kK E ds l s ks f args fid argsC es first cap vs) (hd:Nat.blt d n=true)
  (hx:∀ x,(C x).length=ks.length∧iO (below ks.length) (C x)=true∧(V x).only (below ks.length)=true)
  (hV:∀ x,(V x).fM (nth ks)=V' x∧kJ ks (jz (nth ks) (C x))=C' x)
  (hpan:∀ p fr σ,fr.ds=ds→r=.ll p→Q (.panic p.av) fr σ)
  (hret:∀ x,kk x=r→SL P E n ops Q rest (bU ((d,V' x)::l) ds) (bw (C' x++s))) :
  SL P E n ops Q (⟨some d,.call ⟨.value f,args.toArray,ts⟩,ty,pos,af,none⟩::rest) (bU l ds) (bw s):=
 ia rfl (yS hr h ks hen rfl hC hk (lC hd) hx hV hpan hret)
theorem DZ {d:Nat} {X R:Type} {res:aq X} {kk:X→aq R} {r:aq R} {V V':X→AV} {C:X→List aZ} {C':X→List (Nat×aZ)} {f:Operand} {args:List Operand} {ts:Array TypeId} {fid:FuncId}
  {argsC first cap vs:List AV} {es:List aZ} (l':List (Nat×AV)) (hwk:rN l l' l') (hr:r≠.stuck) (h:aq.bind res kk=r) (ks:List Nat) (hen:Enters P fid)
  (hC:CT P fid argsC es res V C) (hk:kK E ds l s ks f args fid argsC es first cap vs l') (hd:Nat.blt d n=true)
  (hx:∀ x,(C x).length=ks.length∧iO (below ks.length) (C x)=true∧(V x).only (below ks.length)=true)
  (hV:∀ x,(V x).fM (nth ks)=V' x∧kJ ks (jz (nth ks) (C x))=C' x)
  (hpan:∀ p fr σ,fr.ds=ds→r=.ll p→Q (.panic p.av) fr σ)
  (hret:∀ x,kk x=r→SL P E n ops Q rest (bU ((d,V' x)::l') ds) (bw (C' x++s))) :
  SL P E n ops Q (⟨some d,.call ⟨.value f,args.toArray,ts⟩,ty,pos,af,none⟩::rest) (bU l ds) (bw s):=
 ia rfl (xk hr h (wh (nt hwk)) ks hen rfl hC hk (lC hd) hx hV hpan hret)
theorem A0 {d j g:Nat} {want b:Bool} {X R:Type} {res:aq X} {kk:X→aq R} {r:aq R} {V V':X→AV} {C:X→List aZ} {C':X→List (Nat×aZ)} {f:Operand} {args:List Operand} {ts:Array TypeId} {fid:FuncId}
  {argsC first cap vs:List AV} {es:List aZ} (hb:b=want) (hj:(ops[j]?).bind (·.dst)=some g∧jx l g=some (Bo b)) (hr:r≠.stuck) (h:aq.bind res kk=r) (ks:List Nat) (hen:Enters P fid)
  (hC:CT P fid argsC es res V C) (hk:kK E ds l s ks f args fid argsC es first cap vs) (hd:Nat.blt d n=true)
  (hx:∀ x,(C x).length=ks.length∧iO (below ks.length) (C x)=true∧(V x).only (below ks.length)=true)
  (hV:∀ x,(V x).fM (nth ks)=V' x∧kJ ks (jz (nth ks) (C x))=C' x)
  (hpan:∀ p fr σ,fr.ds=ds→r=.ll p→Q (.panic p.av) fr σ)
  (hret:∀ x,kk x=r→SL P E n ops Q rest (bU ((d,V' x)::l) ds) (bw (C' x++s))) :
  SL P E n ops Q (⟨some d,.call ⟨.value f,args.toArray,ts⟩,ty,pos,af,some (j,want)⟩::rest) (bU l ds) (bw s):=by
 subst hb
 exact ub rfl hj.1 (eI hj.2) (lC hd) (fun _=>yS hr h ks hen rfl hC hk (lC hd) hx hV hpan hret) (fun q=>absurd rfl q)
end
section
variable {P:Program} {E:Env} {n:Nat} {ops:Array Oper} {Q:dD} {B:List Rec→dX→b5→Prop} {i:Nat} {L:List Nat} {recs:List Rec} {l:List (Nat×AV)} {ds:List (FuncId×List AV)} {s:List (Nat×aZ)}
 {ty:TypeId} {pos:String} {af:Array Edge}
theorem du {d:Nat} {X R:Type} {res:aq X} {kk:X→aq R} {r:aq R} {V V':X→AV} {C:X→List aZ} {C':X→List (Nat×aZ)} {f:Operand} {args:List Operand} {ts:Array TypeId} {fid:FuncId}
  {argsC first cap vs:List AV} {es:List aZ} {gd:Option (Nat×Bool)} (ho:ops[i]?=some ⟨some d,.call ⟨.value f,args.toArray,ts⟩,ty,pos,af,gd⟩)
  (hw:ga ops ⟨some d,.call ⟨.value f,args.toArray,ts⟩,ty,pos,af,gd⟩ (bU l ds)) (hr:r≠.stuck) (h:aq.bind res kk=r) (ks:List Nat) (hen:Enters P fid)
  (hC:CT P fid argsC es res V C) (hk:kK E ds l s ks f args fid argsC es first cap vs) (hd:Nat.blt d n=true) (hnm:sT ks recs=true)
  (hx:∀ x,(C x).length=ks.length∧iO (below ks.length) (C x)=true∧(V x).only (below ks.length)=true)
  (hV:∀ x,(V x).fM (nth ks)=V' x∧kJ ks (jz (nth ks) (C x))=C' x)
  (hpan:∀ p fr σ,fr.ds=ds→r=.ll p→Q (.panic p.av) fr σ)
  (hret:∀ x,kk x=r→k1 ops i (C' x++s) recs∧ln P E n ops Q B L recs (bU ((d,V' x)::l) ds) (bw (C' x++s))):ln P E n ops Q B (i::L) recs (bU l ds) (bw s):=by
 obtain ⟨hns,hok,hp⟩:=jU hr h
 refine yQ ho hw ks hen (hC res rfl hns) hk hd hnm (fun x _=>hx x) (fun v hv=>?_) (fun x hg v' s' hv hs=>?_)
 ·obtain ⟨p,hp1,rfl⟩:=hv
  exact ⟨p.only _,fun fr' σ' hds=>hpan p _ _ hds (hp p hp1)⟩
 ·have:=hret x (hok x hg)
  rw[← (hV x).1,← (hV x).2] at this
  subst hv hs;exact this
theorem bM {o:Oper} {fr:dX} (h:o.guard=none):ga ops o fr:=.inl h
theorem uv {o:Oper} {j g:Nat} {want b:Bool} (hb:b=want) (h:o.guard=some (j,want)) (hj:(ops[j]?).bind (·.dst)=some g∧jx l g=some (Bo b)):ga ops o (bU l ds):=by
 subst hb;exact .inr ⟨j,b,g,h,hj.1,eI hj.2⟩
end
theorem wv {P:Program} {fn:Func} {X:Type} {V:X→AV} {C:X→List aZ} {r:aq X} {p:pj} {fr:dX} {σ:b5} (hd:fr.ds=[]) (h:r=.ll p) :
  mM P fn (ph V C (fun x=>r=.ok x) (fun v=>∃ p,r=.ll p∧v=p.av)) (.panic p.av) fr σ:=yd hd ⟨p,h,rfl⟩
end Go.Abs
end
section
namespace Go.Abs
open aq
theorem Rel.tL {E:Env} {g:Gh} {σ:b5} {w:World} (h:Rel E g σ w) {nm sz:Nat} {el:TypeId} (hc:σ.clear nm) (hf:E.fix nm=none) :
  Rel E (g.unbind nm) (σ.set nm (.app el sz [])) w:=by
 have hle:=jc.unbind g nm
 have hρ:∀ j,j≠nm→(g.unbind nm).ρ j=g.ρ j:=fun j q=>by simp[Gh.unbind,q]
 have hρn:(g.unbind nm).ρ nm=none:=by simp[Gh.unbind]
 have hne:∀ j e,σ.set nm (.app el sz []) j=some e→j≠nm→σ j=some e:=fun j e hj q=>by simpa[b5.set,q] using hj
 have hnes:∀ j,(σ.set nm (.app el sz []) j).isSome=true→j≠nm→(σ j).isSome=true:=fun j hj q=>by simpa[b5.set,q] using hj
 refine { iL:=?_,inj:=?_,gl:=?_,apart:=?_,size:=h.size,nf:=h.nf,own:=?_,fix:=?_,gQ:=?_,g0:=h.g0,gn:=h.gn,os:=h.os,out:=h.out,tape:=h.tape,x:=h.x.qv rfl rfl (fun j b hj hb=>by
   by_cases q:j=nm
   ·subst q;rw[hρn] at hb;cases hb
   ·exact ⟨j,hnes j hj q,by rw[← hρ j q];exact hb,.inl rfl⟩) (fun j b e' hfj hj=>by
   have q:j≠nm:=fun q=>by subst q;rw[hf] at hfj;cases hfj
   exact ⟨e',hne j _ hj q,id⟩) }
 ·intro k e hk
  by_cases q:k=nm
  ·subst q;simp[b5.set] at hk;subst hk;exact .tU hρn
  ·have hk':=hne k e hk q
   exact (h.iL k e hk').le hle q (fun _ _ _=>rfl) (fun j hj=>by subst hj;exact hc k e hk') (fun _ _=>rfl)
 ·intro k k' b hk hk' hb hb'
  by_cases q:k=nm
  ·subst q;rw[hρn] at hb;cases hb
  ·by_cases q':k'=nm
   ·subst q';rw[hρn] at hb';cases hb'
   ·rw[hρ k q] at hb;rw[hρ k' q'] at hb'
    exact h.inj k k' b (hnes k hk q) (hnes k' hk' q') hb hb'
 ·exact h.gl.le hle rfl (fun _ _ _=>rfl)
 ·intro k b e hk hka hb
  by_cases q:k=nm
  ·subst q;rw[hρn] at hb;cases hb
  ·rw[hρ k q] at hb;exact h.apart k b e (hne k e hk q) hka hb
 ·intro k b hk hb
  by_cases q:k=nm
  ·subst q;rw[hρn] at hb;cases hb
  ·rw[hρ k q] at hb;exact h.own k b (hnes k hk q) hb
 ·intro k b hk
  have q:k≠nm:=fun q=>by subst q;rw[hf] at hk;cases hk
  rw[hρ k q];exact h.fix k b hk
 ·intro k b hk
  have q:k≠nm:=fun q=>by subst q;rw[hf] at hk;cases hk
  have:(g.unbind nm).cp k=g.cp k:=rfl
  rw[this];exact h.gQ k b hk
section
variable {P:Program} {E:Env} {n:Nat} {ops:Array Oper} {Q:dD} {rest:List Oper} {c:Code} {l:List (Nat×AV)} {ds:List (FuncId×List AV)} {s:List (Nat×aZ)}
def eH (E:Env) (n:Nat) (l:List (Nat×AV)) (ds:List (FuncId×List AV)) (s:List (Nat×aZ)) (l':List (Nat×AV)) (s':List (Nat×aZ)):Prop:=
 ∀ (g:Gh) (a:Act) (w:World),Rel E g (bw s) w→FR n g (bU l ds) a→∃ g',Rel E g' (bw s') w∧FR n g' (bU l' ds) a
theorem bQ {l':List (Nat×AV)} {s':List (Nat×aZ)} (hg:eH E n l ds s l' s') (h:SW P E n c Q (bU l' ds) (bw s')):SW P E n c Q (bU l ds) (bw s):=fun g a w hR hF=>
 let ⟨g',hR',hF'⟩:=hg g a w hR hF;h g' a w hR' hF'
theorem aS {l':List (Nat×AV)} {s':List (Nat×aZ)} (hg:eH E n l ds s l' s') (h:SL P E n ops Q rest (bU l' ds) (bw s')):SL P E n ops Q rest (bU l ds) (bw s):=fun g a w hR hF=>
 let ⟨g',hR',hF'⟩:=hg g a w hR hF;h g' a w hR' hF'
theorem fK.set {g:Gh} {v:AV}:∀ {cells:List AV} {vs:List Value} {off:Nat} {u:AV},fK g cells vs→cells[off]?=some u→(∀ c,VR g u c→VR g v c)→fK g (cells.set off v) vs
 | [],_,_,_,_,h,_=>by simp at h
 | x::xs,_,0,u,.cons h t,hu,hv=>by simp at hu;subst hu;exact .cons (hv _ h) t
 | x::xs,_,off+1,u,.cons h t,hu,hv=>.cons h (fK.set t (by simpa using hu) hv)
theorem Cu {j off k m sz:Nat} {el:TypeId} {cells:List PV} {cs:List AV} (hj:dj s j=some (.box cs)) (hc:cs[off]?=some (.arr k m)) (hk:dj s k=some (.app el sz cells)) (hz:Nat.blt 0 sz=true)
  (hn:cells.length=m*sz):eH E n l ds s l ((j,.box (cs.set off (.pv (.sl m cells))))::s):=fun g a w hR hF=>by
 refine ⟨g,?_,hF⟩
 have hjs:=bK hj
 have hks:=bK hk
 have he:∀ i e,bw ((j,.box (cs.set off (.pv (.sl m cells))))::s) i=some e→(bw s i).isSome=true∧(i≠j→bw s i=some e):=fun i e h=>by
  by_cases q:i=j
  ·subst q;exact ⟨by rw[hjs];rfl,fun q=>absurd rfl q⟩
  ·have:bw s i=some e:=by simpa[bw,jG,q] using h
   exact ⟨by rw[this];rfl,fun _=>this⟩
 have hs:∀ i,(bw ((j,.box (cs.set off (.pv (.sl m cells))))::s) i).isSome=true→(bw s i).isSome=true:=fun i h=>by
  cases q:bw ((j,.box (cs.set off (.pv (.sl m cells))))::s) i with
  | none=>rw[q] at h;cases h
  | some e=>exact (he i e q).1
 exact {
     iL:=fun i e h=>by
      by_cases q:i=j
      ·subst q
       have:e=.box (cs.set off (.pv (.sl m cells))):=by simpa[bw,jG] using h.symm
       subst this
       cases hR.iL i _ hjs with
       | box h1 h2 h3 h4=>exact .box h1 h2 (h3.set hc fun c hc=>hc.view (hR.iL k _ hks) (by simpa[Nat.blt_eq] using hz) hn) h4
      ·exact hR.iL i e ((he i e h).2 q)
     inj:=fun i i' b h h'=>hR.inj i i' b (hs i h) (hs i' h')
     gl:=hR.gl
     apart:=fun i b e h hea hb=>by
      by_cases q:i=j
      ·subst q;exact hR.apart i b _ hjs rfl hb
      ·exact hR.apart i b e ((he i e h).2 q) hea hb
     size:=hR.size,nf:=hR.nf,own:=fun i b h=>hR.own i b (hs i h),fix:=hR.fix,gQ:=hR.gQ,g0:=hR.g0,gn:=hR.gn,os:=hR.os,out:=hR.out,tape:=hR.tape
     x:=hR.x.qv rfl rfl (fun i b hi hb=>⟨i,hs i hi,hb,.inl rfl⟩) (fun i b e' _ hi=>by
      by_cases q:i=j
      ·subst q;exact ⟨_,hjs,fun _=>(by simp[bw,jG] at hi;exact ⟨_,hi.symm⟩)⟩
      ·exact ⟨e',(he i _ hi).2 q,id⟩) }
theorem r5 {d:Nat} (nm:Nat) {sz:Nat} {el:TypeId} (hE:E.fix nm=none) (hd:jx l d=some (Sc (.slice none 0 0))) (hm:ku nm l=false∧iM nm ds=false∧mH nm s=false) :
  eH E n l ds s ((d,.arr nm 0)::l) ((nm,.app el sz [])::s):=fun g a w hR hF=>by
 have h1:=hR.tL (el:=el) (sz:=sz) (iN hm.2.2) hE
 have h2:=hF.le (jc.unbind g nm) (fun k q=>by subst q;exact fB hm.1 hm.2.1)
 refine ⟨g.unbind nm,h1,h2.size,fun i=>?_,h2.ds⟩
 by_cases q:i=d
 ·subst q
  have h3:=h2.gG i
  simp only[bU,eI hd] at h3
  simp only[bU,jP,if_true]
  rw[h3.dh];exact .nL (by simp[Gh.unbind])
 ·simpa[bU,jP,q] using h2.gG i
theorem rn {j off:Nat} (nm:Nat) {sz:Nat} {el:TypeId} {cs:List AV} (hE:E.fix nm=none) (hj:dj s j=some (.box cs)) (hc:cs[off]?=some (Sc (.slice none 0 0)))
  (hm:ku nm l=false∧iM nm ds=false∧mH nm s=false) (hjn:Nat.beq j nm=false) :
  eH E n l ds s l ((j,.box (cs.set off (.arr nm 0)))::(nm,.app el sz [])::s):=fun g a w hR hF=>by
 have hR:=hR.tL (el:=el) (sz:=sz) (iN hm.2.2) hE
 have hF:=hF.le (jc.unbind g nm) (fun k q=>by subst q;exact fB hm.1 hm.2.1)
 have hjn':j≠nm:=fun q=>by subst q;simp at hjn
 have hjs:(bw s).set nm (.app el sz []) j=some (.box cs):=by simp[b5.set,hjn',bK hj]
 refine ⟨g.unbind nm,?_,hF⟩
 have he:∀ i e,bw ((j,.box (cs.set off (.arr nm 0)))::(nm,.app el sz [])::s) i=some e→(((bw s).set nm (.app el sz [])) i).isSome=true∧(i≠j→((bw s).set nm (.app el sz [])) i=some e):=fun i e h=>by
  by_cases q:i=j
  ·subst q;exact ⟨by rw[hjs];rfl,fun q=>absurd rfl q⟩
  ·have:((bw s).set nm (.app el sz [])) i=some e:=by simpa[bw,jG,b5.set,q] using h
   exact ⟨by rw[this];rfl,fun _=>this⟩
 have hs:∀ i,(bw ((j,.box (cs.set off (.arr nm 0)))::(nm,.app el sz [])::s) i).isSome=true→(((bw s).set nm (.app el sz [])) i).isSome=true:=fun i h=>by
  cases q:bw ((j,.box (cs.set off (.arr nm 0)))::(nm,.app el sz [])::s) i with
  | none=>rw[q] at h;cases h
  | some e=>exact (he i e q).1
 exact {
     iL:=fun i e h=>by
      by_cases q:i=j
      ·subst q
       have:e=.box (cs.set off (.arr nm 0)):=by simpa[bw,jG] using h.symm
       subst this
       cases hR.iL i _ hjs with
       | box h1 h2 h3 h4=>exact .box h1 h2 (h3.set hc fun c hc=>by rw[hc.dh];exact .nL (by simp[Gh.unbind])) h4
      ·exact hR.iL i e ((he i e h).2 q)
     inj:=fun i i' b h h'=>hR.inj i i' b (hs i h) (hs i' h')
     gl:=hR.gl
     apart:=fun i b e h hea hb=>by
      by_cases q:i=j
      ·subst q;exact hR.apart i b _ hjs rfl hb
      ·exact hR.apart i b e ((he i e h).2 q) hea hb
     size:=hR.size,nf:=hR.nf,own:=fun i b h=>hR.own i b (hs i h),fix:=hR.fix,gQ:=hR.gQ,g0:=hR.g0,gn:=hR.gn,os:=hR.os,out:=hR.out,tape:=hR.tape
     x:=hR.x.qv rfl rfl (fun i b hi hb=>⟨i,hs i hi,hb,.inl rfl⟩) (fun i b e' _ hi=>by
      by_cases q:i=j
      ·subst q;exact ⟨_,hjs,fun _=>(by simp[bw,jG] at hi;exact ⟨_,hi.symm⟩)⟩
      ·exact ⟨e',(he i _ hi).2 q,id⟩) }
end
end Go.Abs
end
section
namespace Go.Abs
open aq
def bA (x:Int):Prop:=-9223372036854775808≤x∧x≤9223372036854775807
instance (x:Int):Decidable (bA x):=by unfold bA;exact inferInstance
def cM (a b:List UInt8):Prop:=a.length+b.length≤9223372036854775807
instance (a b:List UInt8):Decidable (cM a b):=by unfold cM;exact inferInstance
def sub (c:List UInt8) (i j:Int):List UInt8:=(c.drop i.toNat).take (j.toNat - i.toNat)
def dO (c:List UInt8) (i:Int):List UInt8:=c.drop i.toNat
def jJ (c:List UInt8) (j:Int):List UInt8:=c.take j.toNat
def AV.nz:AV→AV
 | .pv (.sc (.slice none 0 0))=>.pv (.sl 0 [])
 | .pv (.sc (.pointer none))=>.pv (.pt none)
 | v=>v
theorem AV.A1 (v:AV):v.le v.nz:=by
 unfold AV.nz
 split
 ·exact AV.le_nil
 ·exact AV.Fa
 ·exact AV.le_refl _
def AV.EX:List AV→List AV
 | []=>[]
 | v::vs=>v.nz::EX vs
theorem AV.tM:∀ l:List AV,wY l (AV.EX l)
 | []=>.nil
 | v::l=>.cons (AV.A1 v) (AV.tM l)
section
variable {P:Program} {l:List (Nat×AV)} {ds:List (FuncId×List AV)} {s:List (Nat×aZ)}
theorem bE {t:TypeId} {parts:List (Nat×Operand)} {z:List Value} {pl:List (Nat×Nat)} {pv:List (Nat×AV)} {out out':List AV} [ht:gA P t z pl]
  (hp:parts.mapM (fun p=>(bF l p.2).map fun v=>(p.1,v))=some pv) (h:kW pl (z.map fun v=>.pv (.sc v)) pv=some out) (hn:AV.EX out=out'):ic P (.build t parts.toArray) l ds s (.agg out') []:=by
 subst hn;exact (dm hp h).w9 (AV.DM (AV.tM out))
end
class A2 (P:Program) (t:TypeId):Prop where h:(P.underlying t).map AI=some false
section
variable {P:Program} {l:List (Nat×AV)} {ds:List (FuncId×List AV)} {s:List (Nat×aZ)}
theorem A3 {t:TypeId} {x:Operand} {f d:Nat} {cs:List AV} {v:AV} [hd:kU P t f d] (ha:∀ fields fd,P.underlying t=some (.struct fields)→fields[f]?=some fd→od P fd.type=some false)
  (hx:bF l x=some (.agg cs)) (hv:cs[d]?=some v):ic P (.field t x f) l ds s v []:=by
 have h:=hd.h
 unfold EV at h
 split at h
 ·rename_i fs hu
  split at h
  ·rename_i fd hf
   split at h
   ·cases h;exact .of (vY hu hf rfl (ha _ _ hu hf) (aB hx) hv)
   ·cases h
  ·cases h
 ·cases h
theorem oN {t:TypeId} {x:Operand} {v:AV} [ht:A2 P t] (hx:bF l x=some v):ic P (.makeInterface t x) l ds s (.lr t v) []:=by
 have h:=ht.h
 cases hu:P.underlying t with
 | none=>simp[hu] at h
 | some d=>simp[hu] at h;exact .of (vX hu h (aB hx))
theorem oO {f:FuncId} {a b:List Operand} {va vb:List AV} (ha:rM l a=some va) (hb:rM l b=some vb):ic P (.makeFunc (.func f) a.toArray b.toArray) l ds s (.fn f va vb) []:=
 .of (by have:=w5 (P:=P) (fr:=bU l ds) (f:=f) (a:=a) (b:=b);rw[kI ha,kI hb] at this;exact this)
end
section
variable {P:Program} {E:Env} {n:Nat} {ops:Array Oper} {Q:dD} {rest:List Oper} {l:List (Nat×AV)} {ds:List (FuncId×List AV)} {s:List (Nat×aZ)}
 {ty:TypeId} {pos:String} {af:Array Edge}
theorem yT {g:Gh} {w:World} {k:Nat} {cs cs':List AV} (h:wY cs cs') (he:hU g w k (.box cs)):hU g w k (.box cs'):=by
 cases he with|box h1 h2 h3 h4=>exact .box h1 h2 (h.Dr h3) h4
theorem yU {j:Nat} {cs cs':List AV} (hj:dj s j=some (.box cs)) (hl:wY cs cs'):eH E n l ds s l ((j,.box cs')::s):=fun g a w hR hF=>by
 refine ⟨g,?_,hF⟩
 have hjs:=bK hj
 have he:∀ i e,bw ((j,.box cs')::s) i=some e→(bw s i).isSome=true∧(i≠j→bw s i=some e):=fun i e h=>by
  by_cases q:i=j
  ·subst q;exact ⟨by rw[hjs];rfl,fun q=>absurd rfl q⟩
  ·have:bw s i=some e:=by simpa[bw,jG,q] using h
   exact ⟨by rw[this];rfl,fun _=>this⟩
 have hs:∀ i,(bw ((j,.box cs')::s) i).isSome=true→(bw s i).isSome=true:=fun i h=>by
  cases q:bw ((j,.box cs')::s) i with
  | none=>rw[q] at h;cases h
  | some e=>exact (he i e q).1
 exact {
     iL:=fun i e h=>by
      by_cases q:i=j
      ·subst q
       have:e=.box cs':=by simpa[bw,jG] using h.symm
       subst this
       exact yT hl (hR.iL i _ hjs)
      ·exact hR.iL i e ((he i e h).2 q)
     inj:=fun i i' b h h'=>hR.inj i i' b (hs i h) (hs i' h')
     gl:=hR.gl
     apart:=fun i b e h hea hb=>by
      by_cases q:i=j
      ·subst q;exact hR.apart i b _ hjs rfl hb
      ·exact hR.apart i b e ((he i e h).2 q) hea hb
     size:=hR.size,nf:=hR.nf,own:=fun i b h=>hR.own i b (hs i h),fix:=hR.fix,gQ:=hR.gQ,g0:=hR.g0,gn:=hR.gn,os:=hR.os,out:=hR.out,tape:=hR.tape
     x:=hR.x.qv rfl rfl (fun i b hi hb=>⟨i,hs i hi,hb,.inl rfl⟩) (fun i b e' _ hi=>by
      by_cases q:i=j
      ·subst q;exact ⟨_,hjs,fun _=>(by simp[bw,jG] at hi;exact ⟨_,hi.symm⟩)⟩
      ·exact ⟨e',(he i _ hi).2 q,id⟩) }
theorem jb (j:Nat) {cs cs':List AV} (hj:dj s j=some (.box cs)) (hn:AV.EX cs=cs'):eH E n l ds s l ((j,.box cs')::s):=by subst hn;exact yU hj (AV.tM cs)
theorem A4 {x:Operand} (p:pj) (hx:bF l x=some p.av) (hq:Q (.panic p.av) (bU l ds) (bw s)):SL P E n ops Q (⟨none,.panic x,ty,pos,af,none⟩::rest) (bU l ds) (bw s):=
 ia rfl (yb rfl (aB hx) hq)
end
end Go.Abs
end
section
namespace Go.Abs
open aq
def quiet (ops:Array Oper) (i:Nat):List Rec→Bool
 | []=>true
 | r::rs=>(match r.rd with|[]=>true|_=>lT ops ops.size i r.i)&&quiet ops i rs
theorem aH {ops:Array Oper} {i:Nat} {s':List (Nat×aZ)} {recs:List Rec} (h:quiet ops i recs=true):k1 ops i s' recs:=by
 induction recs with
 | nil=>intro r hr;simp[fN] at hr
 | cons a rs ih=>
  simp only[quiet,Bool.and_eq_true] at h
  intro r hr p hp
  simp only[fN,List.mem_filter,Bool.not_eq_true'] at hr
  rcases List.mem_cons.1 hr.1 with q|q
  ·subst q
   have h1:=h.1
   split at h1
   ·rename_i h0;rw[h0] at hp;cases hp
   ·rw[hr.2] at h1;cases h1
  ·exact ih h.2 r (by simp[fN,q,hr.2]) p hp
def F1 (P:Program) (s:TypeId) (f:Nat):Option Bool:=
 match P.underlying s with
 | some (.struct fs)=>match fs[f]? with
  | some fd=>od P fd.type
  | none=>none
 | _=>none
class FF (P:Program) (t:TypeId) (f:Nat) (b:outParam Bool):Prop where h:F1 P t f=some b
section
variable {P:Program} {l:List (Nat×AV)} {ds:List (FuncId×List AV)} {s:List (Nat×aZ)}
theorem jV {t:TypeId} {x:Operand} {f d:Nat} {cs:List AV} {v:AV} [hd:kU P t f d] [hb:FF P t f false] (hx:bF l x=some (.agg cs)) (hv:cs[d]?=some v):ic P (.field t x f) l ds s v []:=
 A3 (fun fields fd hu hf=>by have:=hb.h;simp only[F1,hu,hf] at this;exact this) hx hv
end
section
variable {P:Program} {E:Env} {n:Nat} {ops:Array Oper} {Q:dD} {rest:List Oper} {l:List (Nat×AV)} {ds:List (FuncId×List AV)} {s:List (Nat×aZ)}
 {ty:TypeId} {pos:String} {af:Array Edge}
theorem bR {α:Type} {C:α→List PV} {Cs:List α→List PV} (xs:List α) (lu:∀ l,Cs l=l.flatMap C) {d:Nat} {t e:TypeId} {m sz:Nat} {parts:List (Nat×Operand)} {zs:List Value} {pl:List (Nat×Nat)} {pv:List (Nat×AV)}
  [ht:jS P t m e sz zs pl] (h:parts.mapM (fun p=>(bF l p.2).map fun v=>(p.1,v))=some pv∧kW pl (zs.map fun v=>.pv (.sc v)) pv=some ((xs.flatMap C).map .pv)) (hd:Nat.blt d n=true)
  (hn:SL P E n ops Q rest (bU ((d,.pv (.sl m (Cs xs)))::l) ds) (bw s)):SL P E n ops Q (⟨some d,.buildSlice t m parts.toArray,ty,pos,af,none⟩::rest) (bU l ds) (bw s):=
 E4 h hd (by rw[← lu];exact hn)
end
end Go.Abs
end
section
namespace Go.Abs
open aq
def GN (E:Env) (n:Nat) (ds:List (FuncId×List AV)) (Q:dD):dD
 | .normal,fr,σ=>∃ l s l' s',fr=bU l ds∧σ=bw s∧eH E n l ds s l' s'∧Q .normal (bU l' ds) (bw s')
 | e,fr,σ=>Q e fr σ
section
variable {P:Program} {E:Env} {n:Nat} {ops:Array Oper} {Q:dD} {rest:List Oper} {c:Code} {l:List (Nat×AV)} {ds:List (FuncId×List AV)} {s:List (Nat×aZ)}
theorem LQ.gn {e:Exit} {a:Act} {w:World} (h:LQ E n (GN E n ds Q) e a w):LQ E n Q e a w:=by
 obtain ⟨g,ae,fr,σ,q,hx,hR,hF⟩:=h
 cases hx with
 | normal=>
  obtain ⟨l,s,l',s',rfl,rfl,hg,hq⟩:=q
  obtain ⟨g',hR',hF'⟩:=hg g a w hR hF
  exact ⟨g',_,_,_,hq,.normal,hR',hF'⟩
 | exit id=>exact ⟨g,_,_,_,q,.exit id,hR,hF⟩
 | goto id=>exact ⟨g,_,_,_,q,.goto id,hR,hF⟩
 | ret=>exact ⟨g,_,_,_,q,.ret,hR,hF⟩
 | panic hv=>exact ⟨g,_,_,_,q,.panic hv,hR,hF⟩
theorem lY {fr:dX} {σ:b5} (ds:List (FuncId×List AV)) (h:SW P E n c (GN E n ds Q) fr σ):SW P E n c Q fr σ:=fun g a w hR hF=>wp_mono (h g a w hR hF) fun _ _ _ q=>q.gn
theorem eH.trans {l1 l2:List (Nat×AV)} {s1 s2:List (Nat×aZ)} (h:eH E n l ds s l1 s1) (h':eH E n l1 ds s1 l2 s2):eH E n l ds s l2 s2:=fun g a w hR hF=>
 let ⟨g',hR',hF'⟩:=h g a w hR hF;h' g' a w hR' hF'
theorem eH.wZ (l':List (Nat×AV)) (s':List (Nat×aZ)) (h1:rN l l' l') (h2:sn s s' s'):eH E n l ds s l' s':=fun g _ _ hR hF=>
 ⟨g,hR.sub (wi (pn h2)),hF.w9 (wh (nt h1))⟩
def lZ (nm k:Nat):Nat→Nat:=fun j=>match Nat.beq j nm with
 | true=>k
 | false=>j
def A5 (nm k:Nat) (l:List (Nat×AV)):List (Nat×AV)→Prop
 | []=>True
 | (i,v')::F=>(∃ v,jx l i=some v∧v.dN k=false∧v.fM (lZ nm k)=v')∧A5 nm k l F
def A6 (nm k:Nat) (s:List (Nat×aZ)):List (Nat×aZ)→Prop
 | []=>True
 | (i,e')::F=>(∃ e,dj s i=some e∧e.mq k=false∧e.fM (lZ nm k)=e'∧Nat.beq i nm=false∧Nat.beq i k=false)∧A6 nm k s F
theorem tN (nm k:Nat):lZ nm k nm=k:=by simp[lZ]
theorem yV {nm k j:Nat} (h:j≠nm):lZ nm k j=j:=by
 unfold lZ
 split
 ·rename_i q;exact absurd (Nat.eq_of_beq_eq_true q) h
 ·rfl
mutual
theorem VR.lZ {g:Gh} {nm k:Nat}:∀ {v:AV} {c:Value},v.dN k=false→VR g v c→VR (g.alias k nm) (v.fM (lZ nm k)) c
 | .any,_,_,_=>.any _
 | .oc,_,_,h=>by cases h with|oc h=>exact .oc h
 | .pv _,_,_,h=>by cases h with|pv h=>exact .pv (PR.congr (g:=g) (g':=g.alias k nm) (fun _ _ q=>q) h)
 | .ptr j off,_,hm,h=>by
  have hj:j≠k:=by simpa[AV.dN] using hm
  cases h with|ptr _ h=>
   by_cases q:j=nm
   ·subst q;simp only[AV.fM,tN];exact .ptr off (by simp[Gh.alias,h])
   ·simp only[AV.fM,yV q];exact .ptr off (by simp[Gh.alias,hj,h])
 | .arr j m,_,hm,h=>by
  have hj:j≠k:=by simpa[AV.dN] using hm
  by_cases q:j=nm
  ·subst q;simp only[AV.fM,tN]
   have e1:(g.alias k j).ρ k=g.ρ j:=by simp[Gh.alias]
   have e2:(g.alias k j).cp k=g.cp j:=by simp[Gh.alias]
   cases h with
   | arr _ h=>rw[← e2];exact .arr m (e1.trans h)
   | nL h=>exact .nL (e1.trans h)
  ·simp only[AV.fM,yV q]
   have e1:(g.alias k nm).ρ j=g.ρ j:=by simp[Gh.alias,hj]
   have e2:(g.alias k nm).cp j=g.cp j:=by simp[Gh.alias,hj]
   cases h with
   | arr _ h=>rw[← e2];exact .arr m (e1.trans h)
   | nL h=>exact .nL (e1.trans h)
 | .sp _,_,_,h=>by cases h with|sp off h hl hc=>exact .sp off h hl hc
 | .fn f x y,_,hm,h=>by
  simp[AV.dN] at hm
  cases h with|fn _ hx hy=>exact .fn f (fK.lZ hm.1 hx) (fK.lZ hm.2 hy)
 | .agg x,_,hm,h=>by cases h with|agg h=>exact .agg (fK.lZ (by simpa[AV.dN] using hm) h)
 | .fH x,_,hm,h=>by cases h with|fH h=>exact .fH (fK.lZ (by simpa[AV.dN] using hm) h)
 | .lr t x,_,hm,h=>by cases h with|lr _ h=>exact .lr t (VR.lZ (by simpa[AV.dN] using hm) h)
theorem fK.lZ {g:Gh} {nm k:Nat}:∀ {v:List AV} {c:List Value},AV.dN.eS k v=false→fK g v c→fK (g.alias k nm) (AV.fM.kX (lZ nm k) v) c
 | [],_,_,h=>by cases h;exact .nil
 | x::xs,_,hm,h=>by
  simp[AV.dN.eS] at hm
  cases h with|cons h t=>exact .cons (VR.lZ hm.1 h) (fK.lZ hm.2 t)
end
theorem kD.alias {g:Gh} {nm k:Nat} {ps:List PV} {vs:List Value} (h:kD g ps vs):kD (g.alias k nm) ps vs:=kD.congr (g:=g) (g':=g.alias k nm) (fun _ _ q=>q) h
theorem hU.lZ {g:Gh} {w:World} {nm k j:Nat} {e:aZ} (hj:j≠k) (hm:AV.dN.eS k e.cells=false) (h:hU g w j e):hU (g.alias k nm) w j (e.fM (lZ nm k)):=by
 have e1:(g.alias k nm).ρ j=g.ρ j:=by simp[Gh.alias,hj]
 have e2:(g.alias k nm).cp j=g.cp j:=by simp[Gh.alias,hj]
 cases h with
 | box h hw hc h1=>exact .box (e1.trans h) hw (hc.lZ hm) h1
 | nL h=>exact .nL (e1.trans h)
 | arr h hw hl hz hx hc=>exact .arr (e1.trans h) hw hl (by rw[e2];exact hz) (by rw[e2];exact hx) hc.alias
 | tU h=>exact .tU (e1.trans h)
 | app h hG hw hl hz hx hc=>exact .app (e1.trans h) hG hw hl (by rw[e2];exact hz) (by rw[e2];exact hx) hc.alias
theorem hU.tN {g:Gh} {w:World} {nm k:Nat} {el:TypeId} {sz:Nat} {cells:List PV} (h:hU g w nm (.app el sz cells)):hU (g.alias k nm) w k (.app el sz cells):=by
 have e1:(g.alias k nm).ρ k=g.ρ nm:=by simp[Gh.alias]
 have e2:(g.alias k nm).cp k=g.cp nm:=by simp[Gh.alias]
 cases h with
 | tU h=>exact .tU (e1.trans h)
 | app h hG hw hl hz hx hc=>exact .app (e1.trans h) hG hw hl (by rw[e2];exact hz) (by rw[e2];exact hx) hc.alias
theorem vC {nm k:Nat} {l:List (Nat×AV)}:∀ {F:List (Nat×AV)},A5 nm k l F→∀ i,(∃ v,jP l i=v∧v.dN k=false∧jP F i=v.fM (lZ nm k))∨jP F i=.any
 | [],_,i=>.inr rfl
 | (j,v')::F,h,i=>by
  obtain ⟨⟨v,h1,h2,h3⟩,ht⟩:=h
  simp only[jP]
  by_cases q:i=j
  ·subst q;rw[if_pos rfl];exact .inl ⟨v,eI h1,h2,h3.symm⟩
  ·rw[if_neg q];exact vC ht i
theorem vD {nm k:Nat} {s:List (Nat×aZ)}:∀ {F:List (Nat×aZ)},A6 nm k s F→∀ i e',bw F i=some e'→∃ e,bw s i=some e∧AV.dN.eS k e.cells=false∧e.fM (lZ nm k)=e'∧i≠nm∧i≠k
 | [],_,i,e',h=>by cases h
 | (j,v')::F,h,i,e',he=>by
  obtain ⟨⟨e,h1,h2,h3,h4,h5⟩,ht⟩:=h
  simp only[bw,jG] at he
  by_cases q:i=j
  ·subst q;rw[if_pos rfl] at he;cases he
   exact ⟨e,bK h1,aZ.wg h2,h3,fun q=>by subst q;simp at h4,fun q=>by subst q;simp at h5⟩
  ·rw[if_neg q] at he;exact vD ht i e' he
theorem A7 (nm k:Nat) {e0:aZ} (he0:∀ g w,hU g w nm e0→hU (g.alias k nm) w k e0) (hnb:∀ cs,e0≠.box cs) (l':List (Nat×AV)) (s':List (Nat×aZ)) (hE:E.fix k=none) (hnk:Nat.beq nm k=false) (hk:dj s nm=some e0)
  (hd:iM nm ds=false∧iM k ds=false) (h1:A5 nm k l l') (h2:A6 nm k s s'):eH E n l ds s l' ((k,e0)::s'):=fun g a w hR hF=>by
 have hne:nm≠k:=fun q=>by subst q;simp at hnk
 have hks:=bK hk
 have hs':∀ i e',bw ((k,e0)::s') i=some e'→(i=k∧e'=e0)∨(i≠k∧i≠nm∧∃ e,bw s i=some e∧AV.dN.eS k e.cells=false∧e.fM (lZ nm k)=e'):=fun i e' he=>by
  simp only[bw,jG] at he
  by_cases q:i=k
  ·subst q;rw[if_pos rfl] at he;cases he;exact .inl ⟨rfl,rfl⟩
  ·rw[if_neg q] at he
   obtain ⟨e,h3,h4,h5,h6,h7⟩:=vD h2 i e' he
   exact .inr ⟨q,h6,e,h3,h4,h5⟩
 have hρk:(g.alias k nm).ρ k=g.ρ nm:=by simp[Gh.alias]
 have hρ:∀ j,j≠k→(g.alias k nm).ρ j=g.ρ j:=fun j hj=>by simp[Gh.alias,hj]
 have hcp:∀ j,j≠k→(g.alias k nm).cp j=g.cp j:=fun j hj=>by simp[Gh.alias,hj]
 have hold:∀ i,(bw ((k,e0)::s') i).isSome=true→∃ j,(bw s j).isSome=true∧(g.alias k nm).ρ i=g.ρ j∧((i=k∧j=nm)∨(i≠k∧i≠nm∧j=i)):=fun i hi=>by
  cases q:bw ((k,e0)::s') i with
  | none=>rw[q] at hi;cases hi
  | some e'=>
   rcases hs' i e' q with ⟨rfl,_⟩|⟨q1,q2,e,q3,_⟩
   ·exact ⟨nm,by rw[hks];rfl,hρk,.inl ⟨rfl,rfl⟩⟩
   ·exact ⟨i,by rw[q3];rfl,hρ i q1,.inr ⟨q1,q2,rfl⟩⟩
 refine ⟨g.alias k nm,?_,⟨hF.size,fun i=>?_,?_⟩⟩
 ·exact {
      iL:=fun i e' h=>by
       rcases hs' i e' h with ⟨rfl,rfl⟩|⟨q1,q2,e,q3,q4,rfl⟩
       ·exact he0 _ _ (hR.iL nm _ hks)
       ·exact (hR.iL i e q3).lZ q1 q4
      inj:=fun i i' b h h' hb hb'=>by
       obtain ⟨j,j1,j2,j3⟩:=hold i h
       obtain ⟨j',j1',j2',j3'⟩:=hold i' h'
       have:=hR.inj j j' b j1 j1' (j2▸hb) (j2'▸hb')
       rcases j3 with ⟨rfl,rfl⟩|⟨q1,q2,rfl⟩<;>rcases j3' with ⟨rfl,rfl⟩|⟨q1',q2',rfl⟩
       ·rfl
       ·exact absurd this.symm q2'
       ·exact absurd this q2
       ·exact this
      gl:=fun b ys hb=>by
       obtain ⟨cs,el,fz,h1,h2,h3⟩:=hR.gl b ys hb
       exact ⟨cs,el,fz,h1,h2,h3.alias⟩
      apart:=fun i b e' h hea hb=>by
       rcases hs' i e' h with ⟨rfl,rfl⟩|⟨q1,q2,e,q3,q4,rfl⟩
       ·rw[hρk] at hb;exact hR.apart nm b _ hks hea hb
       ·exact hR.apart i b e q3 (by rw[← aZ.we (lZ nm k) e];exact hea) (by rw[← hρ i q1];exact hb)
      size:=hR.size,nf:=hR.nf
      own:=fun i b h hb=>by
       obtain ⟨j,j1,j2,_⟩:=hold i h
       exact hR.own j b j1 (j2▸hb)
      fix:=fun i b h=>by
       have q:i≠k:=fun q=>by subst q;rw[hE] at h;cases h
       rw[hρ i q];exact hR.fix i b h
      gQ:=fun i b h=>by
       have q:i≠k:=fun q=>by subst q;rw[hE] at h;cases h
       rw[hcp i q];exact hR.gQ i b h
      g0:=hR.g0,gn:=hR.gn,os:=hR.os,out:=hR.out,tape:=hR.tape
      x:=hR.x.qv rfl rfl (fun i b hi hb=>by
       obtain ⟨j,j1,j2,j3⟩:=hold i hi
       refine ⟨j,j1,j2▸hb,?_⟩
       rcases j3 with ⟨_,rfl⟩|⟨_,_,rfl⟩
       ·exact .inr ⟨_,hks,hnb⟩
       ·exact .inl rfl) (fun i b e' hfi hi=>by
       rcases hs' i _ hi with ⟨rfl,q⟩|⟨q1,q2,e,q3,q4,q5⟩
       ·rw[hE] at hfi;cases hfi
       ·refine ⟨e,q3,fun ⟨c,q⟩=>?_⟩
        subst q;exact ⟨_,q5.symm⟩) }
 ·have hsl:=hF.gG i
  rcases vC h1 i with ⟨v,q1,q2,q3⟩|q
  ·simp only[bU] at hsl ⊢
   rw[q3];rw[q1] at hsl;exact hsl.lZ q2
  ·simp only[bU];rw[q];exact .any _
 ·refine hF.ds.le (jc.alias g k nm) fun j q p hp=>?_
  subst q;exact rV hd.2 p hp
theorem kn (nm k:Nat) {el:TypeId} {sz:Nat} {cells:List PV} (l':List (Nat×AV)) (s':List (Nat×aZ)) (hE:E.fix k=none) (hnk:Nat.beq nm k=false) (hk:dj s nm=some (.app el sz cells))
  (hd:iM nm ds=false∧iM k ds=false) (h1:A5 nm k l l') (h2:A6 nm k s s'):eH E n l ds s l' ((k,.app el sz cells)::s'):=
 A7 nm k (fun _ _ h=>h.tN) (fun _ q=>by cases q) l' s' hE hnk hk hd h1 h2
theorem hU.A8 {g:Gh} {w:World} {nm k:Nat} {el:TypeId} {sz:Nat} {cells:List PV} (h:hU g w nm (.arr el sz cells)):hU (g.alias k nm) w k (.arr el sz cells):=by
 have e1:(g.alias k nm).ρ k=g.ρ nm:=by simp[Gh.alias]
 have e2:(g.alias k nm).cp k=g.cp nm:=by simp[Gh.alias]
 cases h with
 | nL h=>exact .nL (e1.trans h)
 | arr h hw hl hz hx hc=>exact .arr (e1.trans h) hw hl (by rw[e2];exact hz) (by rw[e2];exact hx) hc.alias
theorem iR (nm k:Nat) {el:TypeId} {sz:Nat} {cells:List PV} (l':List (Nat×AV)) (s':List (Nat×aZ)) (hE:E.fix k=none) (hnk:Nat.beq nm k=false) (hk:dj s nm=some (.arr el sz cells))
  (hd:iM nm ds=false∧iM k ds=false) (h1:A5 nm k l l') (h2:A6 nm k s s'):eH E n l ds s l' ((k,.arr el sz cells)::s'):=
 A7 nm k (fun _ _ h=>h.A8) (fun _ q=>by cases q) l' s' hE hnk hk hd h1 h2
end
def cB (bytes a b:Nat):Prop:=(a+b)*bytes≤140737488355328∧a+b≤maxLen
instance (bytes a b:Nat):Decidable (cB bytes a b):=by unfold cB;exact inferInstance
theorem xl:∀ {a b:List PV},PV.iF a=true→PV.iF b=true→PV.iF (a++b)=true
 | [],_,_,h=>h
 | x::a,b,h,h'=>by simp[PV.iF] at h ⊢;exact ⟨h.1,xl h.2 h'⟩
theorem oP {α:Type} {C:α→List PV} (hC:∀ x,PV.iF (C x)=true):∀ l:List α,PV.iF (l.flatMap C)=true
 | []=>rfl
 | x::l=>by rw[List.flatMap_cons];exact xl (hC x) (oP hC l)
section
variable {P:Program} {E:Env} {n:Nat} {ops:Array Oper} {Q:dD} {rest:List Oper} {l:List (Nat×AV)} {ds:List (FuncId×List AV)} {s:List (Nat×aZ)}
 {ty:TypeId} {pos:String} {af:Array Edge}
structure vE (P:Program) (E:Env) (l:List (Nat×AV)) (ds:List (FuncId×List AV)) (s:List (Nat×aZ)) {α:Type} (C:α→List PV) (Cs:List α→List PV) (t e:TypeId) (sz bytes k nm:Nat) (a x:Operand) (xs ys:List α):Prop where
 hT:P.underlying t=some (.slice e)
 hB:pd P e=some (sz,bytes)
 lu:∀ l,Cs l=l.flatMap C
 hL:∀ x,(C x).length=sz
 h1:∀ x,PV.iF (C x)=true
 hE:E.fix nm=none
 hs:bF l a=some (.arr k (List.length xs))
 hk:dj s k=some (.app e sz (Cs xs))
 hx:bF l x=some (.pv (.sl (List.length ys) (Cs ys)))∨(ys=[]∧bF l x=some (Sc (.slice none 0 0)))
 hm:ku nm l=false∧iM nm ds=false∧uk nm [k] s=false
 hg:cB bytes (List.length xs) (List.length ys)
theorem vE.Fe {α:Type} {C:α→List PV} {Cs:List α→List PV} {t e:TypeId} {sz bytes k nm:Nat} {a x:Operand} {xs ys:List α} (h:vE P E l ds s C Cs t e sz bytes k nm a x xs ys) :
  B9 sz ((bU l ds).val x) (List.length ys) (Cs ys):=by
 rcases h.hx with q|⟨q1,q2⟩
 ·rw[aB q];exact .sl _ _ (by rw[h.lu,gu h.hL])
 ·rw[aB q2];subst q1;rw[h.lu];exact .nil
theorem vE.Ff {α:Type} {C:α→List PV} {Cs:List α→List PV} {t e:TypeId} {sz bytes k nm:Nat} {a x:Operand} {xs ys:List α} (h:vE P E l ds s C Cs t e sz bytes k nm a x xs ys) :
  ((bw s).del k).clear nm:=by
 intro j e he
 unfold b5.del at he
 split at he
 ·cases he
 ·rename_i q
  refine lB h.hm.2.2 j e ?_ he
  cases hb:Nat.beq j k with
  | true=>exact absurd (Nat.eq_of_beq_eq_true hb) q
  | false=>simp[hb]
theorem lE {α:Type} {C:α→List PV} {Cs:List α→List PV} {d:Nat} {t e:TypeId} {a x:Operand} {sz bytes k:Nat} (nm:Nat) {xs ys:List α} (h:vE P E l ds s C Cs t e sz bytes k nm a x xs ys) (hd:Nat.blt d n=true)
  (hn:SL P E n ops Q rest (bU ((d,.arr nm (List.length (xs++ys)))::l) ds) (bw ((nm,.app e sz (Cs (xs++ys)))::mQ k s))) :
  SL P E n ops Q (⟨some d,.call ⟨.builtin .append,#[a,x],#[t,t]⟩,ty,pos,af,none⟩::rest) (bU l ds) (bw s):=by
 refine ia rfl (sh (nm:=nm) rfl h.hT h.hB (aB h.hs) (bK h.hk) (by rw[h.lu,gu h.hL]) h.Fe (by rw[h.lu];exact oP h.h1 ys) (fB h.hm.1 h.hm.2.1) h.Ff h.hE h.hg.1 h.hg.2 (lC hd) ?_)
 rw[← nU,← List.length_append,show Cs xs++Cs ys=Cs (xs++ys) by rw[h.lu,h.lu,h.lu,List.flatMap_append]];exact hn
theorem xm {α:Type} {C:α→List PV} {Cs:List α→List PV} {j off k sz:Nat} {el:TypeId} {xs:List α} {cs:List AV} (lu:∀ l,Cs l=l.flatMap C) (hC:∀ x,(C x).length=sz) (hz:Nat.blt 0 sz=true) (hj:dj s j=some (.box cs)) (hc:cs[off]?=some (.arr k (List.length xs)))
  (hk:dj s k=some (.app el sz (Cs xs))) {cs':List AV} (hcs:cs.set off (.pv (.sl (List.length xs) (Cs xs)))=cs'):eH E n l ds s l ((j,.box cs')::s):=by
 subst hcs;exact Cu hj hc hk hz (by rw[lu,gu hC])
theorem lM {α:Type} {C:α→List PV} {Cs:List α→List PV} {x:Operand} {k sz:Nat} {el:TypeId} {xs:List α} (lu:∀ l,Cs l=l.flatMap C) (hC:∀ x,(C x).length=sz) (hz:Nat.blt 0 sz=true) (hx:bF l x=some (.arr k (List.length xs))) (hk:dj s k=some (.app el sz (Cs xs))) :
  ic P (.move x) l ds s (.pv (.sl (List.length xs) (Cs xs))) [(k,.app el sz (Cs xs))]:=DV hx hk hz (by rw[lu,gu hC])
theorem ni {α:Type} {C:α→List PV} {Cs:List α→List PV} {t:TypeId} {x:Operand} {k j off sz:Nat} {el:TypeId} {xs:List α} {e:aZ} [ha:gR P t false] (lu:∀ l,Cs l=l.flatMap C) (hC:∀ x,(C x).length=sz) (hz:Nat.blt 0 sz=true)
  (hx:bF l x=some (.ptr k off)) (hk:dj s k=some e) (hv:e.cells[off]?=some (.arr j (List.length xs))) (hj:dj s j=some (.app el sz (Cs xs))) :
  ic P (.load t x) l ds s (.pv (.sl (List.length xs) (Cs xs))) [(k,e),(j,.app el sz (Cs xs))]:=AU hx hk hv hj hz (by rw[lu,gu hC])
theorem xn {d:Nat} {v:AV} (hd:jx l d=some v) {v':AV} (hv:v.nz=v'):eH E n l ds s ((d,v')::l) s:=fun g a w hR hF=>by
 subst hv
 refine ⟨g,hR,hF.size,fun i=>?_,hF.ds⟩
 have h:=hF.gG i
 by_cases q:i=d
 ·subst q;simp only[bU,jP,if_true];simp only[bU,eI hd] at h;exact AV.A1 v g _ h
 ·simpa[bU,jP,q] using h
theorem AV.ye (v:AV):v.le .any:=fun _ _ _=>.any _
theorem yW:∀ (cs:List AV) (off:Nat),wY cs (cs.set off .any)
 | [],_=>.nil
 | c::cs,0=>.cons (AV.ye c) (uw cs)
 | c::cs,off+1=>.cons (AV.le_refl c) (yW cs off)
where uw:∀ cs:List AV,wY cs cs
 | []=>.nil
 | c::cs=>.cons (AV.le_refl c) (uw cs)
theorem yX:∀ (cs:List AV) (off:Nat) (v:AV),cs[off]?=some v→wY cs (cs.set off v.nz)
 | [],_,_,h=>by simp at h
 | c::cs,0,v,h=>by simp at h;subst h;exact .cons (AV.A1 c) (yW.uw cs)
 | c::cs,off+1,v,h=>.cons (AV.le_refl c) (yX cs off v (by simpa using h))
theorem gg (j off:Nat) {cs cs':List AV} {v:AV} (hj:dj s j=some (.box cs)) (hv:cs[off]?=some v) (hn:cs.set off v.nz=cs'):eH E n l ds s l ((j,.box cs')::s):=by subst hn;exact yU hj (yX cs off v hv)
end
section
variable {P:Program} {E:Env} {n:Nat} {ops:Array Oper} {Q:dD} {B:List Rec→dX→b5→Prop} {i:Nat} {L:List Nat} {recs:List Rec} {l:List (Nat×AV)} {ds:List (FuncId×List AV)} {s:List (Nat×aZ)}
 {ty:TypeId} {pos:String} {af:Array Edge}
theorem fP {l':List (Nat×AV)} {s':List (Nat×aZ)} (hg:eH E n l ds s l' s') (h:Q .normal (bU l' ds) (bw s')):DW P E n ops (GN E n ds Q) [] recs (bU l ds) (bw s):=⟨l,s,l',s',rfl,rfl,hg,h⟩
theorem gU {α:Type} {C:α→List PV} {Cs:List α→List PV} (xs:List α) (lu:∀ l,Cs l=l.flatMap C) {d:Nat} {t e:TypeId} {m sz:Nat} {parts:List (Nat×Operand)} {zs:List Value} {pl:List (Nat×Nat)} {pv:List (Nat×AV)}
  {gd:Option (Nat×Bool)} [ht:jS P t m e sz zs pl] (ho:ops[i]?=some ⟨some d,.buildSlice t m parts.toArray,ty,pos,af,gd⟩) (hw:ga ops ⟨some d,.buildSlice t m parts.toArray,ty,pos,af,gd⟩ (bU l ds))
  (h:parts.mapM (fun p=>(bF l p.2).map fun v=>(p.1,v))=some pv∧kW pl (zs.map fun v=>.pv (.sc v)) pv=some ((xs.flatMap C).map .pv))
  (hc:dz ⟨some d,.buildSlice t m parts.toArray,ty,pos,af,gd⟩=false∧Nat.blt d n=true)
  (hn:ln P E n ops Q B L (⟨i,some d,[],none⟩::recs) (bU ((d,.pv (.sl m (Cs xs)))::l) ds) (bw s)):ln P E n ops Q B (i::L) recs (bU l ds) (bw s):=by
 refine ⟨_,ho,.fz hw hc.1 (v:=.pv (.sl m (Cs xs))) ?_ (lC hc.2) (fun _ _ _ _=>rfl) hn⟩
 rw[lu]
 refine rI ht.h ?_
 rw[so h.1];exact h.2
theorem wx {α:Type} {C:α→List PV} {Cs:List α→List PV} {d:Nat} {t e:TypeId} {a x:Operand} {sz bytes k:Nat} {gd:Option (Nat×Bool)} (nm:Nat) {xs ys:List α}
  (ho:ops[i]?=some ⟨some d,.call ⟨.builtin .append,#[a,x],#[t,t]⟩,ty,pos,af,gd⟩) (hw:ga ops ⟨some d,.call ⟨.builtin .append,#[a,x],#[t,t]⟩,ty,pos,af,gd⟩ (bU l ds))
  (h:vE P E l ds s C Cs t e sz bytes k nm a x xs ys) (hd:Nat.blt d n=true) (hnm:jI recs=true)
  (hn:k1 ops i ((nm,.app e sz (Cs (xs++ys)))::mQ k s) recs∧ln P E n ops Q B L recs (bU ((d,.arr nm (List.length (xs++ys)))::l) ds) (bw ((nm,.app e sz (Cs (xs++ys)))::mQ k s))) :
  ln P E n ops Q B (i::L) recs (bU l ds) (bw s):=by
 refine ⟨_,ho,.dz hw rfl (.append (nm:=nm) rfl h.hT h.hB (aB h.hs) (bK h.hk) (by rw[h.lu,gu h.hL]) h.Fe (by rw[h.lu];exact oP h.h1 ys) (fB h.hm.1 h.hm.2.1) h.Ff h.hE h.hg.1 h.hg.2 (lC hd) ?_)
  (fun r hr k' _=>by rw[dV hnm r (List.mem_filter.1 hr).1];simp)⟩
 have e1:((bw s).del k).set nm (.app e sz (Cs xs++Cs ys))=bw ((nm,.app e sz (Cs (xs++ys)))::mQ k s):=by
  rw[← nU,show Cs xs++Cs ys=Cs (xs++ys) by rw[h.lu,h.lu,h.lu,List.flatMap_append]];rfl
 rw[e1,← List.length_append]
 exact ⟨fun r hr=>⟨fun p hp=>(let ⟨e,h1,h2⟩:=hn.1 r hr p hp;⟨e,bK h1,h2⟩),fun nm q=>by rw[dV hnm r (List.mem_filter.1 hr).1] at q;cases q⟩,hn.2⟩
end
end Go.Abs
end
section
namespace Go.Abs
open aq
def aZ.lost:aZ→aZ
 | .box cs=>.box (cs.map fun _=>.any)
 | e=>e
def fX:List aZ→Bool
 | []=>true
 | .box _::es=>fX es
 | _::_=>false
theorem yY (g:Gh):∀ {cells:List AV} {vs:List Value},cells.length=vs.length→fK g (cells.map fun _=>AV.any) vs
 | [],[],_=>.nil
 | _::cells,v::vs,h=>.cons (.any v) (yY g (by simpa using h))
 | [],_::_,h=>by simp at h
 | _::_,[],h=>by simp at h
theorem Rel.lost {wS:World} {g g':Gh} {σ σ':b5} {w w':World} (h0:Rel (Env.of wS g σ w) g σ w) (hb:∀ k e,σ k=some e→∃ cs,e=.box cs) (h:Rel (Env.of wS g σ w) g' σ' w') :
    Rel (Env.of wS g σ w) g' (fun k=>(σ k).map aZ.lost) w':=by
  have key:∀ k e,(σ k).map aZ.lost=some e→∃ cs b,σ k=some (.box cs)∧e=.box (cs.map fun _=>.any)∧g.ρ k=some b∧g'.ρ k=some b∧(Env.of wS g σ w).fix k=some b:=fun k e he=>by
    cases q:σ k with
    | none=>rw[q] at he;cases he
    | some e0=>
      rw[q] at he
      obtain ⟨cs,rfl⟩:=hb k e0 q
      have he':e=.box (cs.map fun _=>.any):=by simpa[aZ.lost] using he.symm
      cases h0.iL k _ q with
      | box h1 h2 h3=>
        rename_i b _ _ _
        have hf:(Env.of wS g σ w).fix k=some b:=by simp only[Env.of,q];exact h1
        exact ⟨cs,b,rfl,he',h1,h.fix k b hf,hf⟩
  have hks:∀ k,((σ k).map aZ.lost).isSome=true→∃ e,(σ k).map aZ.lost=some e:=fun k hk=>by
    cases q:(σ k).map aZ.lost with
    | none=>rw[q] at hk;cases hk
    | some e=>exact ⟨e,rfl⟩
  exact {
          iL:=fun k e he=>by
            obtain ⟨cs,b,h1,rfl,h3,h4,h5⟩:=key k e he
            cases h0.iL k _ h1 with
            | box h6 h7 h8 h13=>
              rw[h3] at h6;cases h6
              obtain ⟨cs',h9,h10⟩:=h.x.u3 b _ _ _ h7
              obtain ⟨cs'',h11,h12⟩:=h.x.flat k b _ _ _ h5 h7 h13
              rw[h9] at h11;cases h11
              refine .box h4 h9 (yY g' ?_) h12
              rw[h8.length];simp[h10]
          inj:=fun k k' b hk hk' hb hb'=>by
            obtain ⟨e,he⟩:=hks k hk
            obtain ⟨e',he'⟩:=hks k' hk'
            obtain ⟨cs,c,h1,_,h3,h4,_⟩:=key k e he
            obtain ⟨cs',c',h1',_,h3',h4',_⟩:=key k' e' he'
            rw[h4] at hb;cases hb
            rw[h4'] at hb';cases hb'
            exact h0.inj k k' _ (by rw[h1];rfl) (by rw[h1'];rfl) h3 h3'
          gl:=h.gl
          apart:=fun k b e he _ hb=>by
            obtain ⟨cs,c,h1,_,h3,h4,h5⟩:=key k e he
            rw[h4] at hb;cases hb
            exact h.x.mL k _ h5
          size:=h.size,nf:=h.nf
          own:=fun k b hk hb=>by
            obtain ⟨e,he⟩:=hks k hk
            obtain ⟨cs,c,h1,_,h3,h4,_⟩:=key k e he
            rw[h4] at hb;cases hb
            exact .inl ⟨k,by rw[h1];rfl,h3⟩
          fix:=h.fix,gQ:=h.gQ,g0:=h.g0,gn:=h.gn,os:=h.os,out:=h.out,tape:=h.tape
          x:={
                 u3:=h.x.u3,flat:=h.x.flat,set:=h.x.set,u4:=h.x.u4
                 hi:=fun k b hk hb=>by
                   obtain ⟨e,he⟩:=hks k hk
                   obtain ⟨cs,c,h1,_,h3,h4,_⟩:=key k e he
                   rw[h4] at hb;cases hb
                   exact h0.x.hi k b (by rw[h1];rfl) h3
                 gf:=h.x.gf
                 mn:=h.x.mn,mL:=h.x.mL
                 mo:=fun k b k' hf hk hb=>by
                   obtain ⟨e,he⟩:=hks k' hk
                   obtain ⟨cs,c,h1,_,h3,h4,h5⟩:=key k' e he
                   rw[h4] at hb;cases hb
                   have h6:=h.fix k _ hf
                   simp only[Env.of] at hf
                   split at hf
                   · rename_i cs0 hc
                     exact h0.inj k' k _ (by rw[h1];rfl) (by rw[hc];rfl) h3 hf
                   · cases hf
                 mr:=fun k b e hf hk=>by
                   obtain ⟨cs,c,h1,h2,_⟩:=key k _ hk
                   exact ⟨_,h2⟩ } }
def FM {X:Type} (V:X→AV) (C:X→List aZ) (G:X→Prop) (H:AV→Prop) (es:List aZ):nM→b5→Prop:=
 fun ae σ=>(∃ x,G x∧ae=.ret (V x)∧σ=bw (dZ 0 (C x)))∨(∃ v,H v∧ae=.panic v∧σ=bw (dZ 0 (es.map aZ.lost)))
theorem xo:∀ {es:List aZ} {i:Nat},bw (dZ i (es.map aZ.lost))=fun k=>(bw (dZ i es) k).map aZ.lost
 | [],i=>by funext k;rfl
 | e::es,i=>by
  funext k
  have ih:=congrFun (xo (es:=es) (i:=i+1)) k
  simp only[List.map_cons,dZ,bw,jG] at ih ⊢
  split
  ·rfl
  ·exact ih
theorem ux:∀ {es:List aZ},fX es=true→∀ {j:Nat} {e:aZ},es[j]?=some e→∃ cs,e=.box cs
 | [],_,j,e,h=>by simp at h
 | .box cs::es,h,0,e,he=>by simp at he;exact ⟨cs,he.symm⟩
 | .box cs::es,h,j+1,e,he=>ux (es:=es) (by simpa[fX] using h) (by simpa using he)
 | .arr _ _ _::es,h,_,_,_=>by simp[fX] at h
 | .app _ _ _::es,h,_,_,_=>by simp[fX] at h
theorem SC.lost {P:Program} {f:FuncId} {args:List AV} {es:List aZ} {X:Type} {V:X→AV} {C:X→List aZ} {G:X→Prop} {H:AV→Prop} (hb:fX es=true) (h:SC P f args (bw (dZ 0 es)) (ph V C G H)) :
  SC P f args (bw (dZ 0 es)) (FM V C G H es):=fun wS g w vs hR hv=>(h wS g w vs hR hv).mono fun e w' ⟨g',ae,σ',q,hE,hR'⟩=>by
 rcases q with q|⟨v,hH,rfl,rfl⟩
 ·exact ⟨g',ae,σ',.inl q,hE,hR'⟩
 ·refine ⟨g',_,bw (dZ 0 (es.map aZ.lost)),.inr ⟨v,hH,rfl,rfl⟩,hE,?_⟩
  rw[xo]
  exact hR.lost (fun k e hk=>by
   obtain ⟨_,h2⟩:=eV hk
   exact ux hb h2) hR'
section
variable {P:Program} {E:Env} {n:Nat} {ops:Array Oper} {Q:dD} {rest:List Oper} {l:List (Nat×AV)} {ds:List (FuncId×List AV)} {s:List (Nat×aZ)}
theorem qL (m:Nat):(List.range m).contains=below m:=by
 funext j
 have h1:(List.range m).contains j=decide (j<m):=by
  by_cases q:j<m<;>simp[q]
 rw[h1];simp only[below]
 by_cases q:j<m
 ·simp[q,lJ.2 q]
 ·have:Nat.blt j m=false:=by
   cases h:Nat.blt j m with
   | false=>rfl
   | true=>exact absurd (lJ.1 h) q
  simp[q,this]
theorem nu {ks:List Nat} (hnd:nodupB ks=true) {cs:List aZ} (h1:cs.length=ks.length) :
  after (bw s) (nth ks) (List.range ks.length) (List.range ks.length) (bw (dZ 0 cs))=bw (kJ ks (jz (nth ks) cs)++s):=by
 funext k
 rw[wo (by rw[gr,h1]) hnd]
 simp only[after]
 cases hf:(List.range ks.length).find? (fun j=>nth ks j==k) with
 | some j=>
  have hj:=List.mem_of_find?_eq_some hf
  simp at hj
  simp only[lK]
  have:j<cs.length:=by omega
  rw[List.getElem?_eq_getElem this]
  have h6:=lW (i:=0) (List.getElem?_eq_getElem this)
  simp at h6
  rw[h6]
 | none=>
  have:(List.range ks.length).any (fun j=>nth ks j==k)=false:=by
   rw[List.any_eq_false];intro j hj
   have:=List.find?_eq_none.1 hf j hj
   simpa using this
  simp[this]
theorem mR {es:List aZ} {j:Nat} (hj:(bw (dZ 0 es) j).isSome=true):j<es.length:=by
 cases q:bw (dZ 0 es) j with
 | none=>rw[q] at hj;cases hj
 | some e=>
  obtain ⟨_,h2⟩:=eV q
  have:=(List.getElem?_eq_some_iff.1 h2).1
  simpa using this
theorem sV (p:Nat→Bool):∀ {es:List aZ},fX es=true→iO p (es.map aZ.lost)=true
 | [],_=>rfl
 | .box cs::es,h=>by
  simp only[List.map_cons,iO,aZ.lost,aZ.oq,Bool.and_eq_true]
  refine ⟨?_,sV p (by simpa[fX] using h)⟩
  have:∀ cs:List AV,AV.only.jw p (cs.map fun _=>AV.any)=true:=fun cs=>by
   induction cs with
   | nil=>rfl
   | cons c cs ih=>simp[AV.only.jw,AV.only,ih]
  exact this cs
 | .arr _ _ _::_,h=>by simp[fX] at h
 | .app _ _ _::_,h=>by simp[fX] at h
theorem oQ {fr:dX} {ks:List Nat} {es:List aZ} (hfr:fr.s=(bU l ds).s∧fr.ds=ds) (hl:es.length=ks.length) (hnd:nodupB ks=true) (hbx:yO l ds s ks ks es=true) (hfx:u5 E ks es)
  {cs:List aZ} {v:AV} (hcs:cs.length=ks.length) (ho:iO (below ks.length) cs=true) (hv:v.only (below ks.length)=true) :
  tA E fr (bw s) (nth ks) (List.range ks.length) (List.range ks.length) (bw (dZ 0 es)) (bw (dZ 0 cs)) v:=by
 have hfr':fr=bU l ds:=by cases fr;simp only[bU] at hfr ⊢;rw[hfr.1,hfr.2]
 subst hfr'
 refine { Cj:=fun j e hj=>?_,val:=by rw[qL];exact hv,inj:=fun j j' hj hj' he=>mP hnd (by simpa using hj) (by simpa using hj') he,same:=fun j hj=>?_ }
 ·obtain ⟨_,h4⟩:=eV hj
  have h5:=(List.getElem?_eq_some_iff.1 h4).1
  exact ⟨by simp;omega,by rw[qL];exact qJ ho h4⟩
 ·have hj':j<es.length:=by simp at hj;omega
  rcases sO hbx hfx (by simpa using hj) (List.getElem?_eq_getElem hj') with ⟨cs,hcs⟩|⟨q1,q2,q3,q4⟩
  ·exact .inl ⟨cs,by have:=lW (i:=0) (List.getElem?_eq_getElem hj');rw[hcs] at this;simpa using this⟩
  ·exact .inr ⟨fB q1 q2,fun k e hkl he=>lB q3 k e (wq hkl) he,q4⟩
theorem yf {o:Oper} {X:Type} {V:X→AV} {C:X→List aZ} {G:X→Prop} {H:AV→Prop} {f:Operand} {args:List Operand} {ts:Array TypeId} {fid:FuncId} {argsC first cap vs:List AV} {es:List aZ}
  {next:dX→b5→Prop} (ks:List Nat) (hen:Enters P fid) (ho:o.op=.call ⟨.value f,args.toArray,ts⟩) (hC:SC P fid argsC (bw (dZ 0 es)) (ph V C G H)) (hk:kK E ds l s ks f args fid argsC es first cap vs) (hbb:fX es=true)
  (hd:∀ d,o.dst=some d→d<n) (hx:∀ x,G x→(C x).length=ks.length∧iO (below ks.length) (C x)=true∧(V x).only (below ks.length)=true)
  (hret:∀ x,G x→next ((bU l ds).gL o.dst ((V x).fM (nth ks))) (bw (kJ ks (jz (nth ks) (C x))++s)))
  (hpan:∀ v,H v→v.only (fun _=>false)=true∧Q (.panic v) (bU l ds) (bw (kJ ks (jz (nth ks) (es.map aZ.lost))++s))):Step P E n Q o (bU l ds) (bw s) next:=by
 obtain ⟨hl,hat⟩:=nr hk.gs
 rw[gr] at hl
 refine vw (nth ks) (List.range ks.length) hen ho (aB hk.f) (by rw[kI hk.a];exact hk.e) (hC.lost hbb) (fun j hj=>by have:=mR hj;simp;omega) (fun j e hj=>?_)
  (fun j j' hj hj' he=>mP hk.nd (by have:=mR hj;omega) (by have:=mR hj';omega) he) hd (fun v σc hr=>?_) (fun v σc hr=>?_)
 ·obtain ⟨_,h2⟩:=eV hj
  exact hat j _ (by rw[lK,show j=j - 0 by omega,h2];rfl)
 ·rcases hr with ⟨x,hg,he,rfl⟩|⟨_,_,he,_⟩
  ·cases he
   obtain ⟨h1,h2,h3⟩:=hx x hg
   exact ⟨List.range ks.length,oQ ⟨rfl,rfl⟩ hl hk.nd hk.bx hk.fx h1 h2 h3,by rw[nu hk.nd h1];exact hret x hg⟩
  ·cases he
 ·rcases hr with ⟨_,_,he,_⟩|⟨v',hh,he,rfl⟩
  ·cases he
  ·cases he
   obtain ⟨h1,h2⟩:=hpan v hh
   refine ⟨List.range ks.length,oQ ⟨rfl,rfl⟩ hl hk.nd hk.bx hk.fx (by simp[hl]) (sV _ hbb) (rm (fun k hk=>by cases hk) h1),?_⟩
   rw[nu hk.nd (by simp[hl]),oJ h1];exact h2
end
section
variable {P:Program} {E:Env} {n:Nat} {ops:Array Oper} {Q:dD} {rest:List Oper} {fr:dX} {σ:b5}
theorem A9 {o:Oper} {x:Operand} {ts:Array TypeId} {fid:FuncId} {cap:List AV} {next:dX→b5→Prop} (ho:o.op=.defer ⟨.value x,#[],ts⟩) (hx:fr.val x=.fn fid [] cap) (hd:∀ d,o.dst=some d→d<n)
  (hn:next (dX.gL ⟨fr.s,(fid,cap)::fr.ds⟩ o.dst .any) σ):Step P E n Q o fr σ next:=by
 intro g a w K hR hF hK
 have q:=hF.eval x;rw[hx] at q
 generalize hq:a.eval x=c at q
 cases q with
 | fn _ h1 h2=>
  rename_i xs ys
  have hxs:xs=[]:=by cases h1;rfl
  subst hxs
  have hrun:(execOp a.eval o).run P w=.ok (.defer { target:=.fn (.func fid) ys.toArray,args:=#[] }) w:=by
   simp[execOp,ho,resolve,hq,Deferred.ofValue]
  simp only[Oper.wp,hrun,Oper.upon]
  refine hK g _ _ _ _ hn hR ?_
  have hF':FR n g ⟨fr.s,(fid,cap)::fr.ds⟩ { a with defers:={ target:=.fn (.func fid) ys.toArray,args:=#[] }::a.defers }:=⟨hF.size,hF.gG,.cons h2 hF.ds⟩
  exact hF'.put hd (.any _)
theorem wy {l:List (Nat×AV)} {ds:List (FuncId×List AV)} {s:List (Nat×aZ)} {ty:TypeId} {pos:String} {af:Array Edge} {x:Operand} {ts:Array TypeId} {fid:FuncId} {cap:List AV} (hx:bF l x=some (.fn fid [] cap))
  (hn:SL P E n ops Q rest (bU l ((fid,cap)::ds)) (bw s)):SL P E n ops Q (⟨none,.defer ⟨.value x,#[],ts⟩,ty,pos,af,none⟩::rest) (bU l ds) (bw s):=
 ia rfl (A9 rfl (aB hx) (fun _ q=>by cases q) hn)
def F2:Option Value→FrameMode→Prop
 | none,u=>u=.returning
 | some c,u=>u=.panicking [{ v:=c,recovered:=false }]
def F3 (P:Program) (f:FuncId) (cap:List AV) (σ:b5) (m:Option Value) (R:b5→Prop):Prop:=
 ∀ (wS:World) (g:Gh) (w:World) (vs:List Value) (u:FrameMode),Rel (Env.of wS g σ w) g σ w→fK g cap vs→F2 m u→
  CallsD P f vs.toArray u w fun e u' w'=>(∃ v,e=.returned v)∧settle u'=.returning∧∃ g' σ',R σ'∧Rel (Env.of wS g σ w) g' σ' w'
def z7 (P:Program) (f:FuncId) (cap:List AV) (es:List aZ) (m:Option Value) {X:Type} (res:aq X) (C:X→List aZ):Prop:=
 ∀ r,res=r→r≠.stuck→F3 P f cap (bw (dZ 0 es)) m (fun σ=>∃ x,r=.ok x∧σ=bw (dZ 0 (C x)))
def z8 (P:Program) (E:Env) (fn:Func) (R:nM→b5→Prop) (fid:FuncId) (cap:List AV) (m:Option Value) (fr:dX) (σ:b5):Prop:=
 ∃ (π:Nat→Nat) (L:List Nat) (σ0:b5) (capC:List AV) (R0:b5→Prop),Enters P fid∧cap=AV.fM.kX π capC∧F3 P fid capC σ0 m R0∧(∀ j,(σ0 j).isSome=true→L.contains j=true)∧
  (∀ j e,σ0 j=some e→σ (π j)=some (e.fM π))∧(∀ j j',(σ0 j).isSome=true→(σ0 j').isSome=true→π j=π j'→j=j')∧
  ∀ σc,R0 σc→tA E fr σ π L L σ0 σc (.fH [])∧mM P fn R .ret ⟨fr.s,[]⟩ (after σ π L L σc)
def tq (P:Program) (E:Env) (fn:Func) (R:nM→b5→Prop):dD
 | .normal,fr,σ|.ret,fr,σ=>mM P fn R .ret fr σ∨∃ fid cap,fr.ds=[(fid,cap)]∧z8 P E fn R fid cap none fr σ
 | .panic v,fr,σ=>mM P fn R (.panic v) fr σ∨∃ fid cap c,fr.ds=[(fid,cap)]∧(∀ g c',VR g v c'→c'=c)∧z8 P E fn R fid cap (some c) fr σ
 | _,_,_=>False
theorem Aa {f:FuncId} {fn:Func} {c:Code} {args:List AV} {R:nM→b5→Prop} (hf:P.funcs[f]?=some fn) (hb:fn.body=some c) (hn:args.length≤fn.ntmps)
  (h:∀ E:Env,(∀ k,(∀ cs,σ k≠some (.box cs))→E.fix k=none)→SW P E fn.ntmps c (tq P E fn R) ⟨fun i=>args[i]?.getD .any,[]⟩ σ):SC P f args σ R:=by
 intro wS g w vs hR hv
 have hE:∀ k,(∀ cs,σ k≠some (.box cs))→(Env.of wS g σ w).fix k=none:=fun k hk=>by
  cases q:σ k with
  | none=>simp only[Env.of,q]
  | some e=>cases e with
   | box cs=>exact absurd q (hk cs)
   | arr el sz cs=>simp only[Env.of,q]
   | app el sz cs=>simp only[Env.of,q]
 have hlen:=hv.length
 refine calls_of_wp_defers hf hb (wp_mono (h _ hE g { tmps:=vs.toArray++Array.replicate (fn.ntmps - vs.toArray.size) undef,defers:=[] } w hR ⟨by simp;omega,fun i=>?_,.nil⟩) fun e a w' hq=>?_)
 ·rw[Array.getD_eq_getD_getElem?]
  rcases Nat.lt_or_ge i args.length with q|q
  ·obtain ⟨c,h1,h2⟩:=hv.get i args[i] (by simp)
   have:(vs.toArray++Array.replicate (fn.ntmps - vs.toArray.size) undef)[i]?=some c:=by
    rw[Array.getElem?_append_left (by simp;omega)];simpa using h1
   rw[this]
   simp[q];exact h2
  ·have e:args[i]?=none:=List.getElem?_eq_none q
   simp only[e,Option.getD_none];exact .any _
 ·obtain ⟨g',ae,fr',σ',q,hx,hR',hF'⟩:=hq
  have fin:∀ g' (fr':dX) (a:Act) σ' w',Rel (Env.of wS g σ w) g' σ' w'→FR fn.ntmps g' fr' a→mM P fn R .ret fr' σ'→
    ∃ c,(results fn a.tmps).run P w'=.ok c w'∧∃ g' ae σ',R ae σ'∧ER g' ae (.returned c)∧Rel (Env.of wS g σ w) g' σ' w':=by
   intro g' fr' a σ' w' hR' hF' ⟨_,vs,v,σ2,h1,h2,hs,h3⟩
   obtain ⟨cs,h4,h5⟩:=h1.run hR' hF'
   refine ⟨if hh:cs.toArray.size=1 then cs.toArray[0] else .tuple cs.toArray,?_,g',.ret v,σ2,h3,.ret (h2 g' _ h5.mu),hR'.sub hs⟩
   rw[rW,← Array.toArray_toList (xs:=fn.results)]
   simp only[List.mapM_toArray,Sem.run_bind,Sem.run_map,h4,Result.andThen_ok,Sem.run_pure]
  have runs:∀ fid cap m u,fr'.ds=[(fid,cap)]→z8 P (Env.of wS g σ w) fn R fid cap m fr' σ'→F2 m u→u≠.run→
    Leaves P fn a.tmps (fun e w'=>∃ g' ae σ',R ae σ'∧ER g' ae e∧Rel (Env.of wS g σ w) g' σ' w') a.defers u w':=by
   intro fid cap m u hds ⟨π,L,σ0,capC,R0,hen,hcap,hC,hL,hσ,hinj,hback⟩ hm hu
   have hdr:=hF'.ds;rw[hds] at hdr
   generalize hdf:a.defers=dd at hdr
   cases hdr with
   | cons hv hnil=>
    rename_i cv ds
    have:ds=[]:=hnil.mN
    subst this
    rw[hcap] at hv
    refine ⟨hu,.func fid,cv.toArray,fid,cv.toArray,rfl,by simpa[invoke] using hen cv.toArray w',?_⟩
    refine (hC (Env.of wS g σ w).wS (g'.pull π) w' cv u (yJ hR' hσ hinj) hv.pull hm).mono fun e u' w2 ⟨⟨v,he⟩,hset,g2,σ2,hr0,hR2⟩=>?_
    subst he
    obtain ⟨hB,hpost⟩:=hback σ2 hr0
    obtain ⟨h1,h2,_⟩:=sJ (v:=.fH []) (c:=.tuple #[]) hR' hF' hL hσ hB hR2 (.fH .nil)
    simp only[hset]
    exact fin _ ⟨fr'.s,[]⟩ { tmps:=a.tmps,defers:=[] } _ _ h1 ⟨h2.size,h2.gG,.nil⟩ hpost
  cases hx with
  | normal=>
   rcases q with q|⟨fid,cap,hds,hrun⟩
   ·have hd:=hF'.ds;rw[q.1] at hd
    simp only[bodyPostD,hd.mN]
    exact fin _ _ _ _ _ hR' hF' q
   ·exact runs fid cap none .returning hds hrun rfl (by simp)
  | ret=>
   rcases q with q|⟨fid,cap,hds,hrun⟩
   ·have hd:=hF'.ds;rw[q.1] at hd
    simp only[bodyPostD,hd.mN]
    exact fin _ _ _ _ _ hR' hF' q
   ·exact runs fid cap none .returning hds hrun rfl (by simp)
  | panic hv=>
   rcases q with ⟨hd,σ2,hs,h1⟩|⟨fid,cap,c,hds,hc,hrun⟩
   ·have hdd:=hF'.ds;rw[hd] at hdd
    simp only[bodyPostD,hdd.mN]
    exact ⟨g',_,σ2,h1,.panic hv,hR'.sub hs⟩
   ·rw[hc _ _ hv]
    exact runs fid cap (some c) _ hds hrun rfl (by simp)
  | exit id=>exact q.elim
  | goto l=>exact q.elim
end
section
variable {P:Program} {E:Env} {n:Nat} {ops:Array Oper} {Q:dD} {rest:List Oper} {l:List (Nat×AV)} {ds:List (FuncId×List AV)} {s:List (Nat×aZ)} {ty:TypeId} {pos:String} {af:Array Edge}
theorem Ba {f:FuncId} {fn:Func} {c:Code} {args:List AV} {es:List aZ} {X:Type} {res:aq X} {V:X→AV} {C:X→List aZ} (hf:P.funcs[f]?=some fn) (hb:fn.body=some c) (hn:Nat.ble args.length fn.ntmps=true)
  (h:∀ r,res=r→r≠.stuck→∀ E:Env,(∀ k,jT es k=true→E.fix k=none)→
   SW P E fn.ntmps c (tq P E fn (ph V C (fun x=>r=.ok x) (fun v=>∃ p,r=.ll p∧v=p.av))) (bU ((List.range args.length).zip args) []) (bw (dZ 0 es))):CT P f args es res V C:=
 fun r hr hs=>Aa hf hb (Nat.le_of_ble_eq_true hn) fun E hE=>by
  rw[uq]
  refine h r hr hs E fun k hk=>hE k fun cs hcs=>?_
  obtain ⟨_,h2⟩:=eV hcs
  have h3:∀ (es:List aZ) (k:Nat),jT es k=true→es[k]?≠some (.box cs):=by
   intro es
   induction es with
   | nil=>intro k _;simp
   | cons e es ih=>
    intro k hk
    cases k with
    | zero=>intro q;simp at q;subst q;simp[jT] at hk
    | succ k=>simpa using ih k (by cases e<;>simpa[jT] using hk)
  exact h3 es k hk (by simpa using h2)
def nv {α:Type} (x:aq α) (h:pj→aq α):aq α:=match x with
 | .stuck=>.stuck
 | .ll p=>h p
 | .ok a=>.ok a
theorem tO {α:Type} {x:aq α} {h:pj→aq α} {r:aq α} (hr:r≠.stuck) (hc:nv x h=r):∃ r0,r0≠.stuck∧x=r0∧nv r0 h=r:=by
 refine ⟨x,?_,rfl,hc⟩
 intro q;subst q;exact hr hc.symm
def r6 {α:Type} (T:TypeId) (p:pj) (k:Int→aq α):aq α:=match p with
 | ⟨t,[.sc (.int .i64 v)]⟩=>if t=T then k v else .stuck
 | _=>.stuck
theorem lF {α:Type} {T:TypeId} {p:pj} {k:Int→aq α} {r:aq α} (hr:r≠.stuck) (h:r6 T p k=r):∃ v,p=⟨T,[.sc (.int .i64 v)]⟩∧k v=r:=by
 unfold r6 at h
 split at h
 ·split at h
  ·rename_i v q;subst q;exact ⟨v,rfl,h⟩
  ·exact absurd h.symm hr
 ·exact absurd h.symm hr
theorem Bb {g:Gh} {T:TypeId} {v:Int} {c:Value} (h:VR g (pj.av ⟨T,[.sc (.int .i64 v)]⟩) c):c=.iface T (.agg #[.int .i64 v]):=by
 simp only[pj.av,List.map_cons,List.map_nil] at h
 cases h with
 | lr _ h=>cases h with
  | agg h=>cases h with
   | cons h t=>
    cases t
    rw[h.dh]
theorem Ab {fn:Func} {R:nM→b5→Prop} {fr:dX} {σ:b5} (h:mM P fn R .normal fr σ):mM P fn R .ret fr σ:=h
theorem Bc {fn:Func} {R:nM→b5→Prop} {ae:rJ} (hae:ae=.ret∨ae=.normal) {fr:dX} {σ:b5} (h:mM P fn R ae fr σ):tq P E fn R ae fr σ:=by
 rcases hae with rfl|rfl
 ·exact .inl h
 ·exact .inl (Ab h)
structure yZ (E:Env) (l:List (Nat×AV)) (s:List (Nat×aZ)) (ks:List Nat) (cap capC:List AV) (es:List aZ):Prop where
 c:cap=AV.fM.kX (nth ks) capC
 gs:sj s ks=some (jz (nth ks) es)
 nd:nodupB ks=true
 bx:fX es=true
theorem vF:∀ {ks:List Nat} {es:List aZ},fX es=true→u5 E ks es
 | [],_,_=>by cases ‹List aZ›<;>trivial
 | _::_,[],_=>trivial
 | k::ks,.box cs::es,h=>by simp only[u5];exact vF (by simpa[fX] using h)
 | _::_,.arr _ _ _::_,h=>by simp[fX] at h
 | _::_,.app _ _ _::_,h=>by simp[fX] at h
theorem xp {ks0:List Nat}:∀ {ks:List Nat} {es:List aZ},fX es=true→yO l ds s ks0 ks es=true
 | [],_,_=>by cases ‹List aZ›<;>rfl
 | _::_,[],_=>rfl
 | k::ks,.box cs::es,h=>by simp only[yO];simp[xp (ks:=ks) (es:=es) (by simpa[fX] using h)]
 | _::_,.arr _ _ _::_,h=>by simp[fX] at h
 | _::_,.app _ _ _::_,h=>by simp[fX] at h
theorem Ds {fn:Func} {R:nM→b5→Prop} {fid:FuncId} {cap capC:List AV} {es:List aZ} {ks:List Nat} {m:Option Value} {X:Type} {res:aq X} {C:X→List aZ} (hen:Enters P fid) (hC:z7 P fid capC es m res C) (hns:res≠.stuck)
  (hk:yZ E l s ks cap capC es) (hx:∀ x,(C x).length=ks.length∧iO (below ks.length) (C x)=true)
  (hret:∀ x,res=.ok x→mM P fn R .ret (bU l []) (bw (kJ ks (jz (nth ks) (C x))++s))):z8 P E fn R fid cap m (bU l [(fid,cap)]) (bw s):=by
 obtain ⟨hl,hat⟩:=nr hk.gs
 rw[gr] at hl
 refine ⟨nth ks,List.range ks.length,bw (dZ 0 es),capC,_,hen,hk.c,hC res rfl hns,fun j hj=>by have:=mR hj;simp;omega,fun j e hj=>?_,
  fun j j' hj hj' he=>mP hk.nd (by have:=mR hj;omega) (by have:=mR hj';omega) he,?_⟩
 ·obtain ⟨_,h2⟩:=eV hj
  exact hat j _ (by rw[lK,show j=j - 0 by omega,h2];rfl)
 ·rintro σc ⟨x,hxr,rfl⟩
  obtain ⟨h1,h2⟩:=hx x
  refine ⟨oQ (l:=l) (ds:=[(fid,cap)]) ⟨rfl,rfl⟩ hl hk.nd (xp hk.bx) (vF hk.bx) h1 h2 rfl,?_⟩
  rw[nu hk.nd h1];exact hret x hxr
theorem Ac {fn:Func} {R:nM→b5→Prop} {ae:rJ} (hae:ae=.ret∨ae=.normal) {fid:FuncId} {cap capC:List AV} {es:List aZ} (ks:List Nat) {X:Type} {x:X} {C:X→List aZ} (hen:Enters P fid) (hC:z7 P fid capC es none (aq.ok x) C)
  (hk:yZ E l s ks cap capC es) (hx:∀ x,(C x).length=ks.length∧iO (below ks.length) (C x)=true) {s':List (Nat×aZ)} (hs:kJ ks (jz (nth ks) (C x))++s=s')
  (hret:mM P fn R .ret (bU l []) (bw s')):tq P E fn R ae (bU l [(fid,cap)]) (bw s):=by
 have:z8 P E fn R fid cap none (bU l [(fid,cap)]) (bw s):=Ds hen hC (by simp) hk hx fun y q=>by cases q;rw[hs];exact hret
 rcases hae with rfl|rfl
 ·exact .inr ⟨fid,cap,rfl,this⟩
 ·exact .inr ⟨fid,cap,rfl,this⟩
theorem oj {d:Nat} {X R:Type} {res:aq X} {kk:X→aq R} {r:aq R} {V V':X→AV} {C:X→List aZ} {C':X→List (Nat×aZ)} {f:Operand} {args:List Operand} {ts:Array TypeId} {fid:FuncId}
  {argsC first cap vs:List AV} {es:List aZ} (hr:r≠.stuck) (h:aq.bind res kk=r) (ks:List Nat) (hen:Enters P fid)
  (hC:CT P fid argsC es res V C) (hk:kK E ds l s ks f args fid argsC es first cap vs) (hbb:fX es=true) (hd:Nat.blt d n=true)
  (hx:∀ x,(C x).length=ks.length∧iO (below ks.length) (C x)=true∧(V x).only (below ks.length)=true)
  (hV:∀ x,(V x).fM (nth ks)=V' x∧kJ ks (jz (nth ks) (C x))=C' x)
  {sp:List (Nat×aZ)} (hsp:kJ ks (jz (nth ks) (es.map aZ.lost))++s=sp) (hpan:∀ p,r=.ll p→Q (.panic p.av) (bU l ds) (bw sp))
  (hret:∀ x,kk x=r→SL P E n ops Q rest (bU ((d,V' x)::l) ds) (bw (C' x++s))) :
  SL P E n ops Q (⟨some d,.call ⟨.value f,args.toArray,ts⟩,ty,pos,af,none⟩::rest) (bU l ds) (bw s):=by
 obtain ⟨hns,hok,hp⟩:=jU hr h
 subst hsp
 refine ia rfl (yf ks hen rfl (hC res rfl hns) hk hbb (lC hd) (fun x _=>hx x) (fun x hg=>?_) (fun v hv=>?_))
 ·have:=hret x (hok x hg)
  rw[← (hV x).1,← (hV x).2] at this;exact this
 ·obtain ⟨p,hp1,rfl⟩:=hv
  exact ⟨p.only _,hpan p (hp p hp1)⟩
end
end Go.Abs
end
section
namespace Go.Abs
open aq
def ny (k:IntKind) (x y:Int):Int:=k.wrap (x*2 ^ (min y.toNat k.bits))
def Bd (k:IntKind) (x y:Int):Int:=k.wrap (BitVec.ofInt k.bits x&&& BitVec.ofInt k.bits y).toNat
def vG (k:IntKind) (x y:Int):Int:=k.wrap (BitVec.ofInt k.bits x||| BitVec.ofInt k.bits y).toNat
def Fg (k:IntKind) (x y:Int):Int:=k.wrap (BitVec.ofInt k.bits x ^^^ BitVec.ofInt k.bits y).toNat
def Ad (k:IntKind) (x:Int):Int:=Fg k (if k.signed then -1 else k.max) x
def ij (l:List Int) (i:Int):Int:=l.getD i.toNat 0
def qM (l:List Int) (i v:Int):List Int:=l.set i.toNat v
def jK (l:List Int):List UInt8:=l.map fun i=>UInt8.ofNat i.toNat
section
variable {P:Program} {l:List (Nat×AV)} {ds:List (FuncId×List AV)} {s:List (Nat×aZ)}
theorem yg {xt yt:TypeId} {x y:Operand} {k:IntKind} {a b:Int} (hx:bF l x=some (Sc (.int k a))) (hy:bF l y=some (Sc (.int k b))) (h:b≠0):ic P (.binOp .quo xt x y yt) l ds s (Sc (.int k (k.wrap (a.tdiv b)))) []:=
 .of (sf (aB hx) (aB hy) fun w=>by simp[binOp,Op.intDiv,h])
theorem Be {xt yt:TypeId} {x y:Operand} {k:IntKind} {a b:Int} (hx:bF l x=some (Sc (.int k a))) (hy:bF l y=some (Sc (.int k b))) (h:b≠0):ic P (.binOp .rem xt x y yt) l ds s (Sc (.int k (a.tmod b))) []:=
 .of (sf (aB hx) (aB hy) fun w=>by simp[binOp,Op.intDiv,h])
theorem wz {xt yt:TypeId} {x y:Operand} {k k':IntKind} {a b:Int} (hx:bF l x=some (Sc (.int k a))) (hy:bF l y=some (Sc (.int k' b))) (h:0≤b):ic P (.binOp .shl xt x y yt) l ds s (Sc (.int k (ny k a b))) []:=
 .of (sf (aB hx) (aB hy) fun w=>by simp[binOp,Op.shift,Int.not_lt.2 h,ny])
theorem D0 {xt yt:TypeId} {x y:Operand} {k:IntKind} {a b:Int} (hx:bF l x=some (Sc (.int k a))) (hy:bF l y=some (Sc (.int k b))):ic P (.binOp .and xt x y yt) l ds s (Sc (.int k (Bd k a b))) []:=
 .of (sf (aB hx) (aB hy) fun w=>by simp[binOp,Op.intBits,Bd])
theorem xq {xt yt:TypeId} {x y:Operand} {k:IntKind} {a b:Int} (hx:bF l x=some (Sc (.int k a))) (hy:bF l y=some (Sc (.int k b))):ic P (.binOp .or xt x y yt) l ds s (Sc (.int k (vG k a b))) []:=
 .of (sf (aB hx) (aB hy) fun w=>by simp[binOp,Op.intBits,vG])
theorem Dt {op:UnOp} {t:TypeId} {fr:dX} {x:Operand} {a c:Value} (hx:fr.val x=Sc a) (h:∀ w,(Op.unary op a).run P w=.ok c w):fv P (.unOp op t x) fr [] (Sc c):=by
 intro o ho g ev w _ hv _
 have q1:=hv x (by simp[Op.operands]);rw[hx] at q1
 exact ⟨c,by simp[execOp,ho,q1.dh,h],.pv (.sc _)⟩
theorem D1 {t:TypeId} {x:Operand} {k:IntKind} {a:Int} (hx:bF l x=some (Sc (.int k a))):ic P (.unOp .neg t x) l ds s (Sc (.int k (k.wrap (0 - a)))) []:=
 .of (Dt (aB hx) fun w=>by simp[Op.unary,Op.intArith])
theorem D2 {t:TypeId} {x:Operand} {k:IntKind} {a:Int} (hx:bF l x=some (Sc (.int k a))):ic P (.unOp .xor t x) l ds s (Sc (.int k (Ad k a))) []:=
 .of (Dt (aB hx) fun w=>by simp[Op.unary,Op.intBits,Ad,Fg])
def Oe (T:TypeId) (b:Bool):AV:=match b with
 | true=>.lr T .any
 | false=>Sc .nilIface
class Ae (P:Program) (t:TypeId):Prop where h:∃ ms,P.underlying t=some (.interface ms)
theorem Bf {t:TypeId} (ht:∃ ms,P.underlying t=some (.interface ms)) (u:TypeId) (v:Value) (w:World):(Op.equal t (.iface u v) .nilIface).run P w=.ok false w:=by
 obtain ⟨ms,ht⟩:=ht
 have:∀ d,(Op.equalIn (d+1) t (.iface u v) .nilIface).run P w=.ok false w:=fun d=>by simp[Op.equalIn,run_underlying ht]
 exact this 9999
theorem Bg {t:TypeId} (ht:∃ ms,P.underlying t=some (.interface ms)) (w:World):(Op.equal t .nilIface .nilIface).run P w=.ok true w:=by
 obtain ⟨ms,ht⟩:=ht
 have:∀ d,(Op.equalIn (d+1) t .nilIface .nilIface).run P w=.ok true w:=fun d=>by simp[Op.equalIn,run_underlying ht]
 exact this 9999
theorem Cv {xt yt u:TypeId} {fr:dX} {x y:Operand} {v:AV} (ht:∃ ms,P.underlying xt=some (.interface ms)) (hx:fr.val x=.lr u v) (hy:fr.val y=Sc .nilIface):fv P (.binOp .neq xt x y yt) fr [] (Bo true):=by
 intro o ho g ev w _ hv _
 have q1:=hv x (by simp[Op.operands]);rw[hx] at q1
 have q2:=hv y (by simp[Op.operands]);rw[hy] at q2
 generalize hq:ev x=c at q1
 cases q1 with
 | lr _ h=>
  rename_i vv
  refine ⟨.bool true,?_,.pv (.sc _)⟩
  simp[execOp,ho,hq,q2.dh,eqGuard,binOp,Bf ht u vv w]
theorem Cw {xt yt:TypeId} {fr:dX} {x:Operand} (ht:∃ ms,P.underlying xt=some (.interface ms)) (hx:fr.val x=Sc .nilIface):fv P (.binOp .neq xt x (.const .nilIface) yt) fr [] (Bo false):=by
 intro o ho g ev w _ hv _
 have q1:=hv x (by simp[Op.operands]);rw[hx] at q1
 have q2:=hv (.const .nilIface) (by simp[Op.operands])
 have e2:ev (.const .nilIface)=.nilIface:=VR.dh q2
 refine ⟨.bool false,?_,.pv (.sc _)⟩
 simp[execOp,ho,q1.dh,e2,eqGuard,binOp,Bg ht w]
theorem sW {xt yt u:TypeId} {x y:Operand} {v:AV} [ht:Ae P xt] (hx:bF l x=some (.lr u v)) (hy:bF l y=some (Sc .nilIface)):ic P (.binOp .neq xt x y yt) l ds s (Bo true) []:=.of (Cv ht.h (aB hx) (aB hy))
theorem sX {xt yt:TypeId} {x:Operand} [ht:Ae P xt] (hx:bF l x=some (Sc .nilIface)):ic P (.binOp .neq xt x (.const .nilIface) yt) l ds s (Bo false) []:=.of (Cw ht.h (aB hx))
theorem Bh {xt yt T:TypeId} {x:Operand} {b:Bool} [ht:Ae P xt] (hx:bF l x=some (Oe T b)):ic P (.binOp .neq xt x (.const .nilIface) yt) l ds s (Bo b) []:=by
 cases b with
 | true=>exact sW hx rfl
 | false=>exact sX hx
theorem D3 {xt t:TypeId} {fr:dX} {x:Operand} {v:AV} {d:TypeDesc} (ht:P.underlying t=some d) (hd:AI d=false) (hx:fr.val x=.lr t v):fv P (.typeAssert x xt t true) fr [] (.fH [v,Bo true]):=by
 intro o ho g ev w _ hv _
 have q1:=hv x (by simp[Op.operands]);rw[hx] at q1
 generalize hq:ev x=c at q1
 cases q1 with
 | lr _ h=>
  rename_i vv
  refine ⟨.tuple [vv,.bool true].toArray,?_,.fH (.cons h (.cons (.pv (.sc _)) .nil))⟩
  simp only[execOp,ho,hq,Instr.typeAssert,Sem.run_bind,run_underlying ht,Result.andThen_ok]
  cases d<;>simp_all [AI]
theorem Du {xt t:TypeId} {x:Operand} {v:AV} [ht:A2 P t] (hx:bF l x=some (.lr t v)):ic P (.typeAssert x xt t true) l ds s (.fH [v,Bo true]) []:=by
 have h:=ht.h
 cases hu:P.underlying t with
 | none=>simp[hu] at h
 | some d=>simp[hu] at h;exact .of (D3 hu h (aB hx))
theorem xr (f:Int→AV):∀ {xs:List Int} {i:Int},0≤i→i<xs.length→(xs.map f)[i.toNat]?=some (f (ij xs i)):=fun {xs i} h0 h1=>by
 have:i.toNat<xs.length:=by omega
 simp[ij,this]
theorem D4 (f:Int→AV) {t e:TypeId} {x ix:Operand} {n:Nat} {k:IntKind} {i:Int} {xs:List Int} {cs:List AV} [ht:jH P t (.array n e)] [ha:gR P e false] [hz:ls P e 1]
  (hx:bF l x=some (.agg cs)) (hi:bF l ix=some (Sc (.int k i))) (hc:cs=xs.map f) (hn:xs.length=n) (h0:0≤i) (h1:i<n):ic P (.index t x ix) l ds s (f (ij xs i)) []:=
 .of (vZ ht.h ha.h hz.h (aB hx) (aB hi) h0 h1 (by rw[hc];exact xr f h0 (by rw[hn];exact h1)))
theorem wA (f:Int→AV) {t:TypeId} {x:Operand} {k:Nat} {i:Int} {xs:List Int} {cs:List AV} [ha:gR P t false] (hx:bF l x=some (.ptr k (0+i.toNat*1))) (hk:dj s k=some (.box cs)) (hc:cs=xs.map f) (h0:0≤i) (h1:i<xs.length) :
  ic P (.load t x) l ds s (f (ij xs i)) [(k,.box cs)]:=
 .on hk (qy ha.h (aB hx) (by simp only[aZ.cells];rw[hc,show 0+i.toNat*1=i.toNat by omega];exact xr f h0 h1))
end
end Go.Abs
end
section
namespace Go.Abs
open aq
theorem hU.mT {g:Gh} {w:World} {k sz:Nat} {el:TypeId} {cells:List PV} (h:hU g w k (.arr el sz cells)):(g.ρ k=none∧cells=[])∨
  ∃ (b:Nat) (cs:Array Value) (el':TypeId),g.ρ k=some b∧w.heap[b]?=some (.cells cs el' (0,0))∧cells.length≤cs.size∧cs.size=g.cp k*sz:=by
 generalize he:aZ.arr el sz cells=e at h
 cases h with
 | box=>cases he
 | nL h=>cases he;exact .inl ⟨h,rfl⟩
 | arr h hw hl hz=>cases he;exact .inr ⟨_,_,_,h,hw,hl,hz⟩
 | tU=>cases he
 | app=>cases he
theorem VR.mT {g:Gh} {k n:Nat} {c:Value} (h:VR g (.arr k n) c):(∃ b,g.ρ k=some b∧c=.slice (some ⟨b,0,none⟩) n (g.cp k))∨(g.ρ k=none∧n=0∧c=.slice none 0 0):=by
 generalize he:AV.arr k n=e at h
 cases h with
 | arr m hb=>cases he;exact .inl ⟨_,hb,rfl⟩
 | nL hb=>cases he;exact .inr ⟨hb,rfl,rfl⟩
 | _=>cases he
theorem Rel.freeze {E:Env} {g:Gh} {σ:b5} {w:World} (h:Rel E g σ w) {k b:Nat} {e:aZ} {ys:List PV} (hk:σ k=some e) (hea:e.isApp=false) (hfx:E.fix k=none) (hb:g.ρ k=some b) (hc:e.cells=ys.map .pv) :
  Rel E (g.cW b ys) (σ.del k) w:=by
 have hG:=h.apart k b e hk hea hb
 have hle:jc (fun _=>False) g (g.cW b ys):=jc.cW g b ys hG
 have hks:(σ k).isSome=true:=by rw[hk];rfl
 have hdel:∀ j e',(σ.del k) j=some e'→j≠k∧σ j=some e':=fun j e' hj=>by
  by_cases q:j=k
  ·subst q;simp[b5.del] at hj
  ·exact ⟨q,by simpa[b5.del,q] using hj⟩
 have hdels:∀ j,((σ.del k) j).isSome=true→j≠k∧(σ j).isSome=true:=fun j hj=>by
  by_cases q:j=k
  ·subst q;simp[b5.del] at hj
  ·exact ⟨q,by simpa[b5.del,q] using hj⟩
 have hne:∀ j c,j≠k→(σ j).isSome=true→g.ρ j=some c→c≠b:=fun j c hj hs hc q=>by
  subst q;exact hj (h.inj j k c hs hks hc hb)
 have hfb:∀ j,E.fix j≠some b:=fun j q=>by
  have:=h.x.mo j b k q hks hb
  subst this;rw[hfx] at q;cases q
 obtain ⟨cs,el,hw,hcl,hcv⟩:=(h.iL k e hk).at hb
 rw[hc] at hcl hcv
 simp only[List.length_map] at hcl hcv
 refine { iL:=?_,inj:=?_,gl:=?_,apart:=?_,size:=h.size,nf:=h.nf,own:=?_,fix:=h.fix,gQ:=h.gQ,g0:=?_,gn:=?_,os:=h.os,out:=h.out,tape:=h.tape,x:=?_ }
 ·intro j e' hj
  obtain ⟨q,hj'⟩:=hdel j e' hj
  exact (h.iL j e' hj').le hle (fun q=>q) (fun c hc _=>by simp[Gh.cW,hne j c q (by rw[hj'];rfl) hc]) (fun _ q=>q.elim) (fun _ _=>rfl)
 ·exact fun j j' c hj hj'=>h.inj j j' c (hdels j hj).2 (hdels j' hj').2
 ·intro c zs hz
  by_cases q:c=b
  ·subst q;simp[Gh.cW] at hz;subst hz
   exact ⟨cs,el,(0,0),hw,hcl,(kD.ua hcv).le hle⟩
  ·simp[Gh.cW,q] at hz
   obtain ⟨c1,e1,f1,h1,h2,h3⟩:=h.gl c zs hz
   exact ⟨c1,e1,f1,h1,h2,h3.le hle⟩
 ·intro j c e' hj hja hc'
  obtain ⟨q,hj'⟩:=hdel j e' hj
  have:=hne j c q (by rw[hj'];rfl) hc'
  simp only[Gh.cW,this,if_false]
  exact h.apart j c e' hj' hja hc'
 ·exact fun j c hj hc=>h.own j c (hdels j hj).2 hc
 ·intro c zs hz
  obtain ⟨us,h1⟩:=h.g0 c zs hz
  obtain ⟨vs,h2⟩:=hle.G c _ h1
  exact ⟨us++vs,by rw[h2,List.append_assoc]⟩
 ·intro c zs hz
  by_cases q:c=b
  ·subst q
   rcases h.own k c hks hb with q|q
   ·exact .inr (.inl q)
   ·exact .inr (.inr q)
  ·simp[Gh.cW,q] at hz;exact h.gn c zs hz
 ·exact {
      u3:=h.x.u3,flat:=h.x.flat,set:=h.x.set,u4:=h.x.u4,gf:=h.x.gf,mn:=h.x.mn
      hi:=fun j c hj hc=>h.x.hi j c (hdels j hj).2 hc
      mL:=fun j c hf=>by
       have:c≠b:=fun q=>by subst q;exact hfb j hf
       simp only[Gh.cW,this,if_false];exact h.x.mL j c hf
      mo:=fun j c j' hf hj hc=>h.x.mo j c j' hf (hdels j' hj).2 hc
      mr:=fun j c e' hf hj=>h.x.mr j c e' hf (hdel j e' hj).2 }
section
variable {P:Program} {E:Env} {n:Nat} {ops:Array Oper} {Q:dD} {rest:List Oper} {l:List (Nat×AV)} {ds:List (FuncId×List AV)} {s:List (Nat×aZ)}
 {ty:TypeId} {pos:String} {af:Array Edge}
theorem FN (l:List (Nat×AV)) (s:List (Nat×aZ)):eH E n l ds s l s:=fun g _ _ hR hF=>⟨g,hR,hF⟩
theorem Bi {α:Type} {C:α→List PV} {Cs:List α→List PV} {g:Gh} {w:World} {b sz k:Nat} {el:TypeId} {xs:List α} (lu:∀ l,Cs l=l.flatMap C) (hC:∀ x,(C x).length=sz) (hz:0<sz) (hb:g.ρ k=some b)
  (he:hU g w k (.arr el sz (Cs xs))):VR (g.cW b (Cs xs)) (.pv (.sl xs.length (Cs xs))) (.slice (some ⟨b,0,none⟩) xs.length (g.cp k)):=by
 rcases he.mT with ⟨h,_⟩|⟨b',cs,el',h,hw,hl,hz'⟩
 ·rw[h] at hb;cases hb
 ·rw[h] at hb;cases hb
  refine .pv (.sl _ (Cs xs) 0 _ _ (Cs xs) (by simp[Gh.cW]) (by simp) (by simp) ?_)
  have h1:xs.length*sz≤g.cp k*sz:=by
   rw[← hz']
   rw[lu,gu hC] at hl;exact hl
  exact Nat.le_of_mul_le_mul_right h1 hz
theorem xu {α:Type} {C:α→List PV} {sz:Nat} (hC:∀ x,(C x).length=sz) (hz:0<sz) {xs:List α} (h:xs.flatMap C=[]):xs=[]:=by
 have:=gu hC xs
 rw[h] at this
 cases xs with
 | nil=>rfl
 | cons a l=>simp[Nat.succ_mul] at this;omega
theorem Bj {α:Type} {C:α→List PV} {Cs:List α→List PV} {d k sz:Nat} {el:TypeId} {xs:List α} (lu:∀ l,Cs l=l.flatMap C) (hC:∀ x,(C x).length=sz) (hz:Nat.blt 0 sz=true) (hd:jx l d=some (.arr k (List.length xs)))
  (hk:dj s k=some (.arr el sz (Cs xs))) (hE:E.fix k=none):eH E n l ds s ((d,.pv (.sl (List.length xs) (Cs xs)))::l) (mQ k s):=fun g a w hR hF=>by
 have hks:=bK hk
 have hz':0<sz:=by simpa[Nat.blt_eq] using hz
 have hs:=hF.gG d
 simp only[bU,eI hd] at hs
 rw[nU]
 cases hb:g.ρ k with
 | none=>
  have hx:xs=[]:=by
   rcases (hR.iL k _ hks).mT with ⟨_,this⟩|⟨b',cs,el',h,_⟩
   ·rw[lu] at this;exact xu hC hz' (by simpa using this)
   ·rw[h] at hb;cases hb
  subst hx
  have e0:Cs ([]:List α)=[]:=by rw[lu];rfl
  refine ⟨g,hR.sub fun j e hj=>by
   unfold b5.del at hj
   split at hj
   ·cases hj
   ·exact hj,hF.size,fun i=>?_,hF.ds⟩
  by_cases q:i=d
  ·subst q;simp only[bU,jP,if_true]
   generalize a.tmps.getD i undef=c at hs ⊢
   rcases hs.mT with ⟨b',h,_⟩|⟨_,_,rfl⟩
   ·rw[h] at hb;cases hb
   ·rw[e0];exact .pv (.nil _ _)
  ·simpa[bU,jP,q] using hF.gG i
 | some b=>
  refine ⟨g.cW b (Cs xs),hR.freeze hks rfl hE hb rfl,?_⟩
  have hle:jc (fun _=>False) g (g.cW b (Cs xs)):=jc.cW g b _ (hR.apart k b _ hks rfl hb)
  have hF':=hF.le hle (fun _ q=>q.elim)
  refine ⟨hF'.size,fun i=>?_,hF'.ds⟩
  by_cases q:i=d
  ·subst q;simp only[bU,jP,if_true]
   generalize a.tmps.getD i undef=c at hs ⊢
   rcases hs.mT with ⟨b',h,rfl⟩|⟨h,_⟩
   ·rw[h] at hb;cases hb;exact Bi lu hC hz' h (hR.iL k _ hks)
   ·rw[h] at hb;cases hb
  ·simpa[bU,jP,q] using hF'.gG i
theorem po {α:Type} {C:α→List PV} {Cs:List α→List PV} {j off k sz:Nat} {el:TypeId} {xs:List α} {cs cs':List AV} (lu:∀ l,Cs l=l.flatMap C) (hC:∀ x,(C x).length=sz) (hz:Nat.blt 0 sz=true) (hj:dj s j=some (.box cs))
  (hc:cs[off]?=some (.arr k (List.length xs))) (hk:dj s k=some (.arr el sz (Cs xs))) (hE:E.fix k=none) (hcs:cs.set off (.pv (.sl (List.length xs) (Cs xs)))=cs') :
  eH E n l ds s l ((j,.box cs')::mQ k s):=fun g a w hR hF=>by
 subst hcs
 have hks:=bK hk
 have hjs:=bK hj
 have hz':0<sz:=by simpa[Nat.blt_eq] using hz
 have hjk:j≠k:=fun q=>by subst q;rw[hjs] at hks;cases hks
 have fin:∀ g',Rel E g' ((bw s).del k) w→FR n g' (bU l ds) a→(∀ c,VR g (.arr k (List.length xs)) c→VR g' (.pv (.sl (List.length xs) (Cs xs))) c)→(∀ cs0:Array Value,fK g cs cs0.toList→fK g' (cs.set off (.pv (.sl (List.length xs) (Cs xs)))) cs0.toList)→
   g'.ρ j=g.ρ j→∃ g',Rel E g' (bw ((j,.box (cs.set off (.pv (.sl (List.length xs) (Cs xs)))))::mQ k s)) w∧FR n g' (bU l ds) a:=fun g' hR' hF' _ hbx hρ=>by
  refine ⟨g',?_,hF'⟩
  have e1:bw ((j,.box (cs.set off (.pv (.sl (List.length xs) (Cs xs)))))::mQ k s)=((bw s).del k).set j (.box (cs.set off (.pv (.sl (List.length xs) (Cs xs))))):=by
   rw[← nU];rfl
  rw[e1]
  have hjd:((bw s).del k) j=some (.box cs):=by simp[b5.del,hjk,hjs]
  cases hR.iL j _ hjs with
  | box h1 h2 h3 h4=>
   exact {
       iL:=fun i e he=>by
        by_cases q:i=j
        ·subst q;simp[b5.set] at he;subst he
         exact .box (hρ.trans h1) h2 (hbx _ h3) h4
        ·simp[b5.set,q] at he;exact hR'.iL i e he
       inj:=fun i i' b hi hi'=>hR'.inj i i' b (by
        by_cases q:i=j
        ·subst q;rw[hjd];rfl
        ·simpa[b5.set,q] using hi) (by
        by_cases q:i'=j
        ·subst q;rw[hjd];rfl
        ·simpa[b5.set,q] using hi')
       gl:=hR'.gl
       apart:=fun i b e he hea hb=>by
        by_cases q:i=j
        ·subst q;exact hR'.apart i b _ hjd rfl hb
        ·exact hR'.apart i b e (by simpa[b5.set,q] using he) hea hb
       size:=hR'.size,nf:=hR'.nf
       own:=fun i b hi hb=>hR'.own i b (by
        by_cases q:i=j
        ·subst q;rw[hjd];rfl
        ·simpa[b5.set,q] using hi) hb
       fix:=hR'.fix,gQ:=hR'.gQ,g0:=hR'.g0,gn:=hR'.gn,os:=hR'.os,out:=hR'.out,tape:=hR'.tape
       x:=hR'.x.qv rfl rfl (fun i b hi hb=>⟨i,by
        by_cases q:i=j
        ·subst q;rw[hjd];rfl
        ·simpa[b5.set,q] using hi,hb,.inl rfl⟩) (fun i b e' _ hi=>by
        by_cases q:i=j
        ·subst q;exact ⟨_,hjd,fun _=>(by simp[b5.set] at hi;exact ⟨_,hi.symm⟩)⟩
        ·exact ⟨e',by simpa[b5.set,q] using hi,id⟩) }
 cases hb:g.ρ k with
 | none=>
  have hx:xs=[]:=by
   rcases (hR.iL k _ hks).mT with ⟨_,this⟩|⟨b',cs,el',h,_⟩
   ·rw[lu] at this;exact xu hC hz' (by simpa using this)
   ·rw[h] at hb;cases hb
  have e0:Cs xs=[]:=by rw[hx,lu];rfl
  have hv:∀ c,VR g (.arr k (List.length xs)) c→VR g (.pv (.sl (List.length xs) (Cs xs))) c:=fun c hcv=>by
   rw[e0]
   rcases hcv.mT with ⟨b',h,_⟩|⟨_,hn,rfl⟩
   ·rw[h] at hb;cases hb
   ·rw[hn];exact .pv (.nil _ _)
  exact fin g (hR.sub fun i e hi=>by
   unfold b5.del at hi
   split at hi
   ·cases hi
   ·exact hi) hF hv (fun cs0 h3=>h3.set hc hv) rfl
 | some b=>
  have hle:jc (fun _=>False) g (g.cW b (Cs xs)):=jc.cW g b _ (hR.apart k b _ hks rfl hb)
  have hv:∀ c,VR g (.arr k (List.length xs)) c→VR (g.cW b (Cs xs)) (.pv (.sl (List.length xs) (Cs xs))) c:=fun c hcv=>by
   rcases hcv.mT with ⟨b',h,rfl⟩|⟨h,_⟩
   ·rw[h] at hb;cases hb;exact Bi lu hC hz' h (hR.iL k _ hks)
   ·rw[h] at hb;cases hb
  refine fin _ (hR.freeze hks rfl hE hb rfl) (hF.le hle fun _ q=>q.elim) hv (fun cs0 h3=>?_) rfl
  have h4:=h3.le hle (fun _ q=>q.elim)
  exact h4.set (g:=g.cW b (Cs xs)) hc fun c hcv=>by
   rcases hcv.mT with ⟨b',h,rfl⟩|⟨h,_⟩
   ·have h':g.ρ k=some b':=h
    rw[h'] at hb;cases hb;exact Bi lu hC hz' h' (hR.iL k _ hks)
   ·have h':g.ρ k=none:=h
    rw[h'] at hb;cases hb
theorem D5 {d k:Nat} {ps:List PV} (hd:jx l d=some (.ptr k 0)) (hk:dj s k=some (.box (ps.map .pv))) (hE:E.fix k=none):eH E n l ds s ((d,.pv (.pt (some ps)))::l) (mQ k s):=fun g a w hR hF=>by
 have hks:=bK hk
 have hs:=hF.gG d
 simp only[bU,eI hd] at hs
 rw[nU]
 generalize hc:a.tmps.getD d undef=c at hs
 cases hs with
 | ptr _ hb=>
  rename_i b
  refine ⟨g.cW b ps,hR.freeze hks rfl hE hb rfl,?_⟩
  have hle:jc (fun _=>False) g (g.cW b ps):=jc.cW g b _ (hR.apart k b _ hks rfl hb)
  have hF':=hF.le hle (fun _ q=>q.elim)
  refine ⟨hF'.size,fun i=>?_,hF'.ds⟩
  by_cases q:i=d
  ·subst q;simp only[bU,jP,if_true];rw[hc]
   exact .pv (.Az b ps 0 ps (by simp[Gh.cW]) (by simp) (by simp))
  ·simpa[bU,jP,q] using hF'.gG i
theorem Bk (nm:Nat) {sz:Nat} {el:TypeId} (hE:E.fix nm=none) (hm:ku nm l=false∧iM nm ds=false∧mH nm s=false):eH E n l ds s l ((nm,.app el sz [])::s):=fun g a w hR hF=>
 ⟨g.unbind nm,hR.tL (iN hm.2.2) hE,hF.le (jc.unbind g nm) (fun k q=>by subst q;exact fB hm.1 hm.2.1)⟩
theorem D6 (nm:Nat) {sz:Nat} {el:TypeId} (l':List (Nat×AV)) (s':List (Nat×aZ)) (hE:E.fix nm=none) (h1:rN l l' l') (h2:sn s s' s') (hm:ku nm l'=false∧iM nm ds=false∧mH nm s'=false) :
  eH E n l ds s l' ((nm,.app el sz [])::s'):=(eH.wZ l' s' h1 h2).trans (Bk nm hE hm)
theorem Rel.xv {E:Env} {g:Gh} {σ:b5} {w:World} (h:Rel E g σ w) {nm sz:Nat} {el:TypeId} (hc:σ.clear nm) (hf:E.fix nm=none):Rel E (g.unbind nm) (σ.set nm (.arr el sz [])) w:=by
 have h0:=h.tL (el:=el) (sz:=sz) hc hf
 have hρn:(g.unbind nm).ρ nm=none:=by simp[Gh.unbind]
 have hne:∀ j e,σ.set nm (.arr el sz []) j=some e→j≠nm→σ.set nm (.app el sz []) j=some e:=fun j e hj q=>by simpa[b5.set,q] using hj
 have hs:∀ j,(σ.set nm (.arr el sz []) j).isSome=true→(σ.set nm (.app el sz []) j).isSome=true:=fun j hj=>by
  by_cases q:j=nm
  ·subst q;simp[b5.set]
  ·simpa[b5.set,q] using hj
 exact {
     iL:=fun j e hj=>by
      by_cases q:j=nm
      ·subst q;simp[b5.set] at hj;subst hj;exact .nL hρn
      ·exact h0.iL j e (hne j e hj q)
     inj:=fun j j' b hj hj'=>h0.inj j j' b (hs j hj) (hs j' hj')
     gl:=h0.gl
     apart:=fun j b e hj hea hb=>by
      by_cases q:j=nm
      ·subst q;rw[hρn] at hb;cases hb
      ·exact h0.apart j b e (hne j e hj q) hea hb
     size:=h0.size,nf:=h0.nf,own:=fun j b hj=>h0.own j b (hs j hj),fix:=h0.fix,gQ:=h0.gQ,g0:=h0.g0,gn:=h0.gn,os:=h0.os,out:=h0.out,tape:=h0.tape
     x:=h0.x.qv rfl rfl (fun j b hj hb=>⟨j,hs j hj,hb,.inl rfl⟩) (fun j b e' hfj hj=>by
      have q:j≠nm:=fun q=>by subst q;rw[hf] at hfj;cases hfj
      exact ⟨e',hne j _ hj q,id⟩) }
theorem zh {d:Nat} (nm:Nat) {sz:Nat} {el:TypeId} (hE:E.fix nm=none) (hd:jx l d=some (Sc (.slice none 0 0))) (hm:ku nm l=false∧iM nm ds=false∧mH nm s=false) :
  eH E n l ds s ((d,.arr nm 0)::l) ((nm,.arr el sz [])::s):=fun g a w hR hF=>by
 have h1:=hR.xv (el:=el) (sz:=sz) (iN hm.2.2) hE
 have h2:=hF.le (jc.unbind g nm) (fun k q=>by subst q;exact fB hm.1 hm.2.1)
 refine ⟨g.unbind nm,h1,h2.size,fun i=>?_,h2.ds⟩
 by_cases q:i=d
 ·subst q
  have h3:=h2.gG i
  simp only[bU,eI hd] at h3
  simp only[bU,jP,if_true]
  rw[h3.dh];exact .nL (by simp[Gh.unbind])
 ·simpa[bU,jP,q] using h2.gG i
theorem qN {j off:Nat} (nm:Nat) {sz:Nat} {el:TypeId} {cs cs':List AV} (hE:E.fix nm=none) (hj:dj s j=some (.box cs)) (hc:cs[off]?=some (Sc (.slice none 0 0)))
  (hm:ku nm l=false∧iM nm ds=false∧mH nm s=false) (hjn:Nat.beq j nm=false) (hcs:cs.set off (.arr nm 0)=cs') :
  eH E n l ds s l ((j,.box cs')::(nm,.arr el sz [])::s):=fun g a w hR hF=>by
 subst hcs
 have hR:=hR.xv (el:=el) (sz:=sz) (iN hm.2.2) hE
 have hF:=hF.le (jc.unbind g nm) (fun k q=>by subst q;exact fB hm.1 hm.2.1)
 have hjn':j≠nm:=fun q=>by subst q;simp at hjn
 have hjs:(bw s).set nm (.arr el sz []) j=some (.box cs):=by simp[b5.set,hjn',bK hj]
 refine ⟨g.unbind nm,?_,hF⟩
 have he:∀ i e,bw ((j,.box (cs.set off (.arr nm 0)))::(nm,.arr el sz [])::s) i=some e→(((bw s).set nm (.arr el sz [])) i).isSome=true∧(i≠j→((bw s).set nm (.arr el sz [])) i=some e):=fun i e h=>by
  by_cases q:i=j
  ·subst q;exact ⟨by rw[hjs];rfl,fun q=>absurd rfl q⟩
  ·have:((bw s).set nm (.arr el sz [])) i=some e:=by simpa[bw,jG,b5.set,q] using h
   exact ⟨by rw[this];rfl,fun _=>this⟩
 have hs:∀ i,(bw ((j,.box (cs.set off (.arr nm 0)))::(nm,.arr el sz [])::s) i).isSome=true→(((bw s).set nm (.arr el sz [])) i).isSome=true:=fun i h=>by
  cases q:bw ((j,.box (cs.set off (.arr nm 0)))::(nm,.arr el sz [])::s) i with
  | none=>rw[q] at h;cases h
  | some e=>exact (he i e q).1
 exact {
     iL:=fun i e h=>by
      by_cases q:i=j
      ·subst q
       have:e=.box (cs.set off (.arr nm 0)):=by simpa[bw,jG] using h.symm
       subst this
       cases hR.iL i _ hjs with
       | box h1 h2 h3 h4=>exact .box h1 h2 (h3.set hc fun c hc=>by rw[hc.dh];exact .nL (by simp[Gh.unbind])) h4
      ·exact hR.iL i e ((he i e h).2 q)
     inj:=fun i i' b h h'=>hR.inj i i' b (hs i h) (hs i' h')
     gl:=hR.gl
     apart:=fun i b e h hea hb=>by
      by_cases q:i=j
      ·subst q;exact hR.apart i b _ hjs rfl hb
      ·exact hR.apart i b e ((he i e h).2 q) hea hb
     size:=hR.size,nf:=hR.nf,own:=fun i b h=>hR.own i b (hs i h),fix:=hR.fix,gQ:=hR.gQ,g0:=hR.g0,gn:=hR.gn,os:=hR.os,out:=hR.out,tape:=hR.tape
     x:=hR.x.qv rfl rfl (fun i b hi hb=>⟨i,hs i hi,hb,.inl rfl⟩) (fun i b e' _ hi=>by
      by_cases q:i=j
      ·subst q;exact ⟨_,hjs,fun _=>(by simp[bw,jG] at hi;exact ⟨_,hi.symm⟩)⟩
      ·exact ⟨e',(he i _ hi).2 q,id⟩) }
end
end Go.Abs
end
section
namespace Go.Abs
open aq
theorem Af {α:Type} {f:α→List PV} {sz:Nat} (hf:∀ x,(f x).length=sz):∀ (l:List α) (i:Nat),(l.flatMap f).take (i*sz)=(l.take i).flatMap f:=by
 intro l
 induction l with
 | nil=>intro i;simp
 | cons a l ih=>
  intro i
  cases i with
  | zero=>simp
  | succ i=>
   rw[List.take_succ_cons,List.flatMap_cons,List.flatMap_cons,Nat.succ_mul,Nat.add_comm,List.take_append]
   rw[List.take_of_length_le (by rw[hf];omega),hf,show sz+i*sz - sz=i*sz by omega,ih]
theorem Bl {α:Type} {f:α→List PV} {sz:Nat} (hf:∀ x,(f x).length=sz) {l:List α} {i d:Nat} {a a':α} {vs:List PV} (ha:l[i]?=some a) (hd:d+vs.length≤sz) (hu:f a'=(f a).take d++vs++(f a).drop (d+vs.length)) :
  (l.flatMap f).take (i*sz+d)++vs++(l.flatMap f).drop (i*sz+d+vs.length)=(l.set i a').flatMap f:=by
 have hlt:i<l.length:=(List.getElem?_eq_some_iff.1 ha).1
 have hdrop:=vB hf ha
 have e1:(l.flatMap f).take (i*sz+d)=(l.take i).flatMap f++(f a).take d:=by
  rw[List.take_add,Af hf,hdrop,List.take_append_of_le_length (by rw[hf];omega)]
 have e2:(l.flatMap f).drop (i*sz+d+vs.length)=(f a).drop (d+vs.length)++(l.drop (i+1)).flatMap f:=by
  rw[show i*sz+d+vs.length=i*sz+(d+vs.length) by omega,← List.drop_drop,hdrop,List.drop_append_of_le_length (by rw[hf];omega)]
  congr 1
  have:∀ (l:List α) (j:Nat),(l.flatMap f).drop (j*sz)=(l.drop j).flatMap f:=by
   intro l
   induction l with
   | nil=>intro j;simp
   | cons b l ih=>
    intro j
    cases j with
    | zero=>simp
    | succ j=>
     rw[List.drop_succ_cons,List.flatMap_cons,Nat.succ_mul,Nat.add_comm,← List.drop_drop]
     rw[List.drop_left' (hf b)];exact ih j
  exact this l (i+1)
 rw[e1,e2,List.set_eq_take_append_cons_drop,if_pos hlt,List.flatMap_append,List.flatMap_cons,hu]
 simp
section
variable {P:Program} {E:Env} {n:Nat} {ops:Array Oper} {Q:dD} {rest:List Oper} {l:List (Nat×AV)} {ds:List (FuncId×List AV)} {s:List (Nat×aZ)}
 {ty:TypeId} {pos:String} {af:Array Edge}
theorem xw {k:Nat} {e:aZ}:bw ((k,e)::mQ k s)=(bw s).set k e:=by
 funext j
 have h:=congrFun (nU (k:=k) (s:=s)) j
 simp only[bw,b5.del,b5.set,jG] at h ⊢
 by_cases q:j=k
 ·simp[q]
 ·simp only[q,if_false] at h ⊢;exact h
structure u6 (P:Program) {α:Type} (C:α→List PV) (Cs:List α→List PV) (l:List (Nat×AV)) (s:List (Nat×aZ)) (t:TypeId) (x y:Operand) (k off m sz:Nat) (el:TypeId) (i:Int) (xs:List α) (a a':α) (v:AV) (vs:List PV):Prop where
 lu:∀ l,Cs l=l.flatMap C
 hC:∀ x,(C x).length=sz
 h0:0≤i
 ha:xs[i.toNat]?=some a
 hx:bF l x=some (.ptr k (i.toNat*sz+off))
 hk:dj s k=some (.arr el sz (Cs xs))
 hy:bF l y=some v
 hv:v.eU=some (vs.map .pv)
 h1:PV.iF vs=true
 ht:u1 P t=some m
 hm:vs.length=m
 hb:Nat.ble (off+vs.length) sz=true
 hu:C a'=(C a).take off++vs++(C a).drop (off+vs.length)
theorem u6.yI {α:Type} {C:α→List PV} {Cs:List α→List PV} {t:TypeId} {x y:Operand} {k off m sz:Nat} {el:TypeId} {i:Int} {xs:List α} {a a':α} {v:AV} {vs:List PV} (h:u6 P C Cs l s t x y k off m sz el i xs a a' v vs) :
  (aZ.arr el sz (Cs xs)).yI (i.toNat*sz+off) (vs.map .pv)=.arr el sz (Cs (xs.set i.toNat a')):=by
 simp only[aZ.yI,List.length_map,uc]
 rw[h.lu,h.lu,Bl h.hC h.ha (Nat.le_of_ble_eq_true h.hb) h.hu]
theorem u6.le {α:Type} {C:α→List PV} {Cs:List α→List PV} {t:TypeId} {x y:Operand} {k off m sz:Nat} {el:TypeId} {i:Int} {xs:List α} {a a':α} {v:AV} {vs:List PV} (h:u6 P C Cs l s t x y k off m sz el i xs a a' v vs) :
  i.toNat*sz+off+(vs.map AV.pv).length≤(aZ.arr el sz (Cs xs)).cells.length:=by
 have hlt:i.toNat<xs.length:=(List.getElem?_eq_some_iff.1 h.ha).1
 have hb:=Nat.le_of_ble_eq_true h.hb
 simp only[aZ.cells,List.length_map]
 rw[h.lu,gu h.hC]
 have:(i.toNat+1)*sz≤xs.length*sz:=Nat.mul_le_mul_right _ hlt
 rw[Nat.succ_mul] at this
 omega
theorem Bm {α:Type} {C:α→List PV} {Cs:List α→List PV} {t:TypeId} {x y:Operand} {k off m sz:Nat} {el:TypeId} {i:Int} {xs:List α} {a a':α} {v:AV} {vs:List PV} (h:u6 P C Cs l s t x y k off m sz el i xs a a' v vs)
  (hn:SL P E n ops Q rest (bU l ds) (bw ((k,.arr el sz (Cs (xs.set i.toNat a')))::mQ k s))):SL P E n ops Q (⟨none,.store t x y,ty,pos,af,none⟩::rest) (bU l ds) (bw s):=by
 refine ia rfl (pc rfl rfl (aB h.hx) (bK h.hk) rfl (by rw[aB h.hy];exact h.hv) (ue h.h1) (by rw[List.length_map,h.hm];exact h.ht) h.le (fun _=>⟨_,rfl⟩) ?_)
 rw[h.yI,← xw];exact hn
structure qO (P:Program) (E:Env) (l:List (Nat×AV)) (ds:List (FuncId×List AV)) (s:List (Nat×aZ)) {α:Type} (C:α→List PV) (Cs:List α→List PV) (t e:TypeId) (sz bytes k nm:Nat) (a x:Operand) (xs ys:List α):Prop where
 hT:P.underlying t=some (.slice e)
 hB:pd P e=some (sz,bytes)
 lu:∀ l,Cs l=l.flatMap C
 hL:∀ x,(C x).length=sz
 h1:∀ x,PV.iF (C x)=true
 hE:E.fix nm=none
 hs:bF l a=some (.arr k (List.length xs))
 hk:dj s k=some (.arr e sz (Cs xs))
 hx:bF l x=some (.pv (.sl (List.length ys) (Cs ys)))∨(ys=[]∧bF l x=some (Sc (.slice none 0 0)))
 hm:ku nm l=false∧iM nm ds=false∧uk nm [k] s=false
 hg:cB bytes (List.length xs) (List.length ys)
section
variable {α:Type} {C:α→List PV} {Cs:List α→List PV} {t e:TypeId} {sz bytes k nm:Nat} {a x:Operand} {xs ys:List α}
theorem qO.Fe (h:qO P E l ds s C Cs t e sz bytes k nm a x xs ys):B9 sz ((bU l ds).val x) (List.length ys) (Cs ys):=by
 rcases h.hx with q|⟨q1,q2⟩
 ·rw[aB q];exact .sl _ _ (by rw[h.lu,gu h.hL])
 ·rw[aB q2];subst q1;rw[h.lu];exact .nil
theorem qO.Ff (h:qO P E l ds s C Cs t e sz bytes k nm a x xs ys):((bw s).del k).clear nm:=by
 intro j e he
 unfold b5.del at he
 split at he
 ·cases he
 ·rename_i q
  refine lB h.hm.2.2 j e ?_ he
  cases hb:Nat.beq j k with
  | true=>exact absurd (Nat.eq_of_beq_eq_true hb) q
  | false=>simp[hb]
theorem qO.st (h:qO P E l ds s C Cs t e sz bytes k nm a x xs ys):((bw s).del k).set nm (.arr e sz (Cs xs++Cs ys))=bw ((nm,.arr e sz (Cs (xs++ys)))::mQ k s):=by
 rw[← nU,show Cs xs++Cs ys=Cs (xs++ys) by rw[h.lu,h.lu,h.lu,List.flatMap_append]];rfl
theorem sq {d:Nat} (nm:Nat) (h:qO P E l ds s C Cs t e sz bytes k nm a x xs ys) (hd:Nat.blt d n=true)
  (hn:SL P E n ops Q rest (bU ((d,.arr nm (List.length (xs++ys)))::l) ds) (bw ((nm,.arr e sz (Cs (xs++ys)))::mQ k s))) :
  SL P E n ops Q (⟨some d,.call ⟨.builtin .append,#[a,x],#[t,t]⟩,ty,pos,af,none⟩::rest) (bU l ds) (bw s):=by
 refine ia rfl (si (nm:=nm) rfl h.hT h.hB (aB h.hs) (bK h.hk) (by rw[h.lu,gu h.hL]) h.Fe (by rw[h.lu];exact oP h.h1 ys) (fB h.hm.1 h.hm.2.1) h.Ff h.hE h.hg.1 h.hg.2 (lC hd) ?_)
 rw[h.st,← List.length_append];exact hn
end
end
section
variable {P:Program} {E:Env} {n:Nat} {ops:Array Oper} {Q:dD} {B:List Rec→dX→b5→Prop} {i:Nat} {L:List Nat} {recs:List Rec} {l:List (Nat×AV)} {ds:List (FuncId×List AV)} {s:List (Nat×aZ)}
 {ty:TypeId} {pos:String} {af:Array Edge}
theorem mU {α:Type} {C:α→List PV} {Cs:List α→List PV} {d:Nat} {t e:TypeId} {a x:Operand} {sz bytes k:Nat} {gd:Option (Nat×Bool)} (nm:Nat) {xs ys:List α}
  (ho:ops[i]?=some ⟨some d,.call ⟨.builtin .append,#[a,x],#[t,t]⟩,ty,pos,af,gd⟩) (hw:ga ops ⟨some d,.call ⟨.builtin .append,#[a,x],#[t,t]⟩,ty,pos,af,gd⟩ (bU l ds))
  (h:qO P E l ds s C Cs t e sz bytes k nm a x xs ys) (hd:Nat.blt d n=true) (hnm:jI recs=true)
  (hn:k1 ops i ((nm,.arr e sz (Cs (xs++ys)))::mQ k s) recs∧ln P E n ops Q B L recs (bU ((d,.arr nm (List.length (xs++ys)))::l) ds) (bw ((nm,.arr e sz (Cs (xs++ys)))::mQ k s))) :
  ln P E n ops Q B (i::L) recs (bU l ds) (bw s):=by
 refine ⟨_,ho,.dz hw rfl (.yK (nm:=nm) rfl h.hT h.hB (aB h.hs) (bK h.hk) (by rw[h.lu,gu h.hL]) h.Fe (by rw[h.lu];exact oP h.h1 ys) (fB h.hm.1 h.hm.2.1) h.Ff h.hE h.hg.1 h.hg.2 (lC hd) ?_)
  (fun r hr k' _=>by rw[dV hnm r (List.mem_filter.1 hr).1];simp)⟩
 rw[h.st,← List.length_append]
 exact ⟨fun r hr=>⟨fun p hp=>(let ⟨e,h1,h2⟩:=hn.1 r hr p hp;⟨e,bK h1,h2⟩),fun nm q=>by rw[dV hnm r (List.mem_filter.1 hr).1] at q;cases q⟩,hn.2⟩
theorem D7 {α:Type} {C:α→List PV} {Cs:List α→List PV} {t:TypeId} {x y:Operand} {k off m sz:Nat} {el:TypeId} {ii:Int} {xs:List α} {a a':α} {v:AV} {vs:List PV}
  (ho:ops[i]?=some ⟨none,.store t x y,ty,pos,af,none⟩) (h:u6 P C Cs l s t x y k off m sz el ii xs a a' v vs) (hnm:jI recs=true)
  (hn:k1 ops i ((k,.arr el sz (Cs (xs.set ii.toNat a')))::mQ k s) recs∧ln P E n ops Q B L recs (bU l ds) (bw ((k,.arr el sz (Cs (xs.set ii.toNat a')))::mQ k s))):ln P E n ops Q B (i::L) recs (bU l ds) (bw s):=by
 refine ⟨_,ho,.dz (.inl rfl) rfl (.store rfl rfl (aB h.hx) (bK h.hk) rfl (by rw[aB h.hy];exact h.hv) (ue h.h1) (by rw[List.length_map,h.hm];exact h.ht) h.le (fun _=>⟨_,rfl⟩) ?_) (fun r hr k' _=>by rw[dV hnm r (List.mem_filter.1 hr).1];simp)⟩
 rw[h.yI,← xw]
 exact ⟨fun r hr=>⟨fun p hp=>(let ⟨e,h1,h2⟩:=hn.1 r hr p hp;⟨e,bK h1,h2⟩),fun nm q=>by rw[dV hnm r (List.mem_filter.1 hr).1] at q;cases q⟩,hn.2⟩
theorem r7 {d:Nat} {x:Operand} {v:AV} (ho:ops[i]?=some ⟨some d,.assign x,ty,pos,af,none⟩) (hx:bF l x=some v) (hd:Nat.blt d n=true) (hs:k1 ops i s recs) (hnm:jI (fN ops recs i)=true)
  (hn:ln P E n ops Q B L recs (bU ((d,v)::l) ds) (bw s)):ln P E n ops Q B (i::L) recs (bU l ds) (bw s):=
 ⟨_,ho,.dz (.inl rfl) rfl (.ev (v:=v) (by rw[← aB (ds:=ds) hx];exact sE x) (lC hd)
  ⟨fun r hr=>⟨fun p hp=>(let ⟨e,h1,h2⟩:=hs r hr p hp;⟨e,bK h1,h2⟩),fun nm q=>by rw[dV hnm r hr] at q;cases q⟩,hn⟩) (fun r _ k hk=>by cases hk)⟩
theorem rp {t:TypeId} {x y:Operand} {k off m:Nat} {e:aZ} {v:AV} {c:List AV} [ht:ls P t m] (ho:ops[i]?=some ⟨none,.store t x y,ty,pos,af,none⟩)
  (h:bF l x=some (.ptr k off)∧dj s k=some e∧e.uo=true∧bF l y=some v∧v.eU=some c∧AV.iF c=true∧c.length=m∧Nat.ble (off+c.length) e.cells.length=true)
  (hnm:jI (fN ops recs i)=true) (hn:∀ e',e.put off c=e'→k1 ops i ((k,e')::s) recs∧ln P E n ops Q B L recs (bU l ds) (bw ((k,e')::s))):ln P E n ops Q B (i::L) recs (bU l ds) (bw s):=by
 obtain ⟨hx,hk,hea,hy,hc,h1,hm,hl⟩:=h
 have hl':=Nat.le_of_ble_eq_true hl
 obtain ⟨hst,hn⟩:=hn _ rfl
 refine ⟨_,ho,.dz (.inl rfl) rfl (.store rfl rfl (aB hx) (bK hk) (sP hea) (by rw[aB hy];exact hc) h1 (by rw[hm];exact ht.h) hl' (sQ hea) ?_) (fun r hr k' _=>by rw[dV hnm r hr];simp)⟩
 rw[put_eq hea hl']
 exact ⟨fun r hr=>⟨fun p hp=>(let ⟨e,h1,h2⟩:=hst r hr p hp;⟨e,bK h1,h2⟩),fun nm q=>by rw[dV hnm r hr] at q;cases q⟩,hn⟩
def pq (nm:Nat):List Rec→Bool
 | []=>true
 | r::rs=>(match r.nm with|none=>true|some k=>!Nat.beq k nm)&&r.rd.all (fun p=>!Nat.beq p.1 nm)&&pq nm rs
theorem ke {nm:Nat}:∀ {recs:List Rec},pq nm recs=true→∀ r,r∈recs→r.nm≠some nm∧∀ p,p∈r.rd→p.1≠nm
 | [],_,r,hr=>by cases hr
 | a::rs,h,r,hr=>by
  simp only[pq,Bool.and_eq_true,List.all_eq_true] at h
  rcases List.mem_cons.1 hr with q|q
  ·subst q
   refine ⟨fun q=>?_,fun p hp q=>?_⟩
   ·have:=h.1.1;rw[q] at this;simp at this
   ·have:=h.1.2 p hp;rw[q] at this;simp at this
  ·exact ke h.2 r q
theorem D8 {d:Nat} {op:Op} {v:AV} {e:aZ} {gd:Option (Nat×Bool)} (nm:Nat) (ho:ops[i]?=some ⟨some d,op,ty,pos,af,gd⟩) (hw:ga ops ⟨some d,op,ty,pos,af,gd⟩ (bU l ds)) (h:x9 P op (bU l ds) nm e v)
  (hE:E.fix nm=none) (hm:ku nm l=false∧iM nm ds=false∧mH nm s=false∧dj s nm=none) (hh:dz ⟨some d,op,ty,pos,af,gd⟩=false∧Nat.blt d n=true∧jI (fN ops recs i)=true∧pq nm recs=true) (hv:AV.dN.eS nm e.cells=false)
  (hn:ln P E n ops Q B L (⟨i,some d,[],some nm⟩::recs) (bU ((d,v)::l) ds) (bw ((nm,e)::s))):ln P E n ops Q B (i::L) recs (bU l ds) (bw s):=by
 have hs:bw s nm=none:=by
  have:=pk (l:=s) (i:=nm)
  simp only[bw];rw[this];exact hm.2.2.2
 exact ⟨_,ho,.nw hw hh.1 h (fB hm.1 hm.2.1) (iN hm.2.2.1) hs hE (lC hh.2.1) (fun r hr k q=>by rw[dV hh.2.2.1 r hr] at q;cases q)
  (fun r hr=>(ke hh.2.2.2 r hr).1) (fun r hr=>(ke hh.2.2.2 r hr).2) hv hn⟩
theorem sr {d:Nat} {t:TypeId} {z:List Value} [hz:jR P t z] {zs:List AV} {gd:Option (Nat×Bool)} (ho:ops[i]?=some ⟨some d,.alloc t,ty,pos,af,gd⟩) (hw:ga ops ⟨some d,.alloc t,ty,pos,af,gd⟩ (bU l ds)) (nm:Nat) (hE:E.fix nm=none)
  (hm:z.map (fun v=>AV.pv (.sc v))=zs∧ku nm l=false∧iM nm ds=false∧mH nm s=false∧dj s nm=none) (hh:dz ⟨some d,.alloc t,ty,pos,af,gd⟩=false∧Nat.blt d n=true∧pq nm recs=true∧pq nm recs=true)
  (hn:ln P E n ops Q B L (⟨i,some d,[],some nm⟩::recs) (bU ((d,.ptr nm 0)::l) ds) (bw ((nm,.box zs)::s))):ln P E n ops Q B (i::L) recs (bU l ds) (bw s):=by
 obtain ⟨h1,h2⟩:=hm
 subst h1
 have this:∀ (k:Nat) (z:List Value),AV.dN.eS k (z.map fun v=>AV.pv (.sc v))=false:=fun k z=>by
  induction z with
  | nil=>rfl
  | cons a z ih=>simp[AV.dN.eS,AV.dN,ih]
 have hs:bw s nm=none:=by
  have:=pk (l:=s) (i:=nm)
  simp only[bw];rw[this];exact h2.2.2.2
 refine ⟨_,ho,.nw hw hh.1 (w7 nm hz.h) (fB h2.1 h2.2.1) (iN h2.2.2.1) hs hE (lC hh.2.1) (fun r hr k q=>⟨?_,this k z⟩)
  (fun r hr=>(ke hh.2.2.2 r hr).1) (fun r hr=>(ke hh.2.2.2 r hr).2) (this nm z) hn⟩
 have hne:=(ke hh.2.2.2 r (List.mem_filter.1 hr).1).1
 have:nm≠k:=fun e=>hne (by rw[q,e])
 simpa[AV.dN] using this
theorem D9 {α:Type} {C:α→List PV} {Cs:List α→List PV} {sz:Nat} (xs:List α) (lu:∀ l,Cs l=l.flatMap C) (hC:∀ x,(C x).length=sz) {d:Nat} {t e:TypeId} {m:Nat} {parts:List (Nat×Operand)} {zs:List Value} {pl:List (Nat×Nat)} {pv:List (Nat×AV)}
  {gd:Option (Nat×Bool)} [ht:jS P t m e sz zs pl] (ho:ops[i]?=some ⟨some d,.buildSlice t m parts.toArray,ty,pos,af,gd⟩) (hw:ga ops ⟨some d,.buildSlice t m parts.toArray,ty,pos,af,gd⟩ (bU l ds)) (nm:Nat) (hE:E.fix nm=none)
  (h:parts.mapM (fun p=>(bF l p.2).map fun v=>(p.1,v))=some pv∧kW pl (zs.map fun v=>.pv (.sc v)) pv=some ((xs.flatMap C).map .pv)∧xs.length=m∧Nat.ble m 1000=true)
  (hm:ku nm l=false∧iM nm ds=false∧mH nm s=false∧dj s nm=none) (hh:dz ⟨some d,.buildSlice t m parts.toArray,ty,pos,af,gd⟩=false∧Nat.blt d n=true∧jI (fN ops recs i)=true∧pq nm recs=true)
  (hn:ln P E n ops Q B L (⟨i,some d,[],some nm⟩::recs) (bU ((d,.arr nm (List.length xs))::l) ds) (bw ((nm,.app e sz (Cs xs))::s))):ln P E n ops Q B (i::L) recs (bU l ds) (bw s):=by
 rw[h.2.2.1] at hn
 refine D8 nm ho hw (th nm ht.h ?_ ?_ (Nat.le_trans (Nat.le_of_ble_eq_true h.2.2.2) (by simp[maxLen]))) hE hm hh (by simp only[aZ.cells];exact lS _ _) hn
 ·rw[so h.1,lu];exact h.2.1
 ·rw[lu,gu hC,h.2.2.1]
end
section
variable {P:Program} {E:Env} {n:Nat} {ops:Array Oper} {Q:dD} {rest:List Oper} {l:List (Nat×AV)} {ds:List (FuncId×List AV)} {s:List (Nat×aZ)}
 {ty:TypeId} {pos:String} {af:Array Edge}
theorem Ea {α:Type} {C:α→List PV} {Cs:List α→List PV} {d:Nat} {t e:TypeId} {m sz:Nat} {parts:List (Nat×Operand)} {zs:List Value} {pl:List (Nat×Nat)} {pv:List (Nat×AV)} [ht:jS P t m e sz zs pl] (nm:Nat)
  (xs:List α) (lu:∀ l,Cs l=l.flatMap C) (hC:∀ x,(C x).length=sz) (hE:E.fix nm=none)
  (h:parts.mapM (fun p=>(bF l p.2).map fun v=>(p.1,v))=some pv∧kW pl (zs.map fun v=>.pv (.sc v)) pv=some ((xs.flatMap C).map .pv)∧xs.length=m∧Nat.ble m 1000=true)
  (hm:ku nm l=false∧iM nm ds=false∧mH nm s=false) (hd:Nat.blt d n=true)
  (hn:SL P E n ops Q rest (bU ((d,.arr nm (List.length xs))::l) ds) (bw ((nm,.app e sz (Cs xs))::s))):SL P E n ops Q (⟨some d,.buildSlice t m parts.toArray,ty,pos,af,none⟩::rest) (bU l ds) (bw s):=by
 rw[h.2.2.1,lu] at hn
 exact AZ nm hE ⟨h.1,h.2.1,by rw[gu hC,h.2.2.1],h.2.2.2⟩ hm hd hn
theorem uy {fr:dX} {t e:TypeId} {n sz:Nat} {zs:List Value} {places:List (Nat×Nat)} {parts:List (Nat×Operand)} {out:List AV} {cells:List PV} (ht:vu P t n=some (e,sz,zs,places))
  (h:kW places (zs.map fun v=>.pv (.sc v)) (parts.map fun p=>(p.1,fr.val p.2))=some out) (hn:AV.EX out=cells.map .pv):AK P (.buildSlice t n parts.toArray) fr (.pv (.sl n cells)):=by
 intro o ho g ev w hv
 obtain ⟨place,hp,hzl,hb⟩:=np ht
 obtain ⟨cs',hf,hr⟩:=qA (g:=g) (vs:=parts.map fun p=>(p.1,ev p.2)) (cs:=zs.toArray) hp h (by simpa using fK.pb g zs) (by simp)
  (sI fun p hp=>hv p.2 (by simp[Op.operands];exact ⟨_,hp⟩)) trivial (qB h)
 have e1:(parts.toArray.map fun (x:Nat×Operand)=>(x.1,ev x.2)).toList=parts.map fun p=>(p.1,ev p.2):=by simp
 have hrun:=hb (parts.toArray.map fun (x:Nat×Operand)=>(x.1,ev x.2)) cs' w (by rw[e1];exact hf)
 have hps:=kD.ua (g:=g) (ps:=cells) (by rw[← hn];exact (AV.tM out).Dr hr)
 have hlen:=hps.length
 refine ⟨.slice (some ⟨w.heap.size,0,none⟩) n n,cs',e,cells,?_,by simp at hlen;omega,?_,.pv (.sl w.heap.size cells 0 n n cells (by simp[Gh.cW]) (by simp) (by simp) (Nat.le_refl _))⟩
 ·simp only[execOp,ho,Sem.run_bind,hrun,Result.andThen_ok,Sem.run_pure]
 ·rw[List.take_of_length_le (by simp at hlen;simp;omega)];exact hps
end
section
variable {P:Program} {E:Env} {n:Nat} {ops:Array Oper} {Q:dD} {B:List Rec→dX→b5→Prop} {i:Nat} {L:List Nat} {recs:List Rec} {l:List (Nat×AV)} {ds:List (FuncId×List AV)} {s:List (Nat×aZ)}
 {ty:TypeId} {pos:String} {af:Array Edge}
theorem sY {α:Type} {C:α→List PV} {Cs:List α→List PV} (xs:List α) (lu:∀ l,Cs l=l.flatMap C) {d:Nat} {t e:TypeId} {m sz:Nat} {parts:List (Nat×Operand)} {zs:List Value} {pl:List (Nat×Nat)} {pv:List (Nat×AV)} {out:List AV}
  {gd:Option (Nat×Bool)} [ht:jS P t m e sz zs pl] (ho:ops[i]?=some ⟨some d,.buildSlice t m parts.toArray,ty,pos,af,gd⟩) (hw:ga ops ⟨some d,.buildSlice t m parts.toArray,ty,pos,af,gd⟩ (bU l ds))
  (h:parts.mapM (fun p=>(bF l p.2).map fun v=>(p.1,v))=some pv∧kW pl (zs.map fun v=>.pv (.sc v)) pv=some out∧AV.EX out=(xs.flatMap C).map .pv)
  (hc:dz ⟨some d,.buildSlice t m parts.toArray,ty,pos,af,gd⟩=false∧Nat.blt d n=true)
  (hn:ln P E n ops Q B L (⟨i,some d,[],none⟩::recs) (bU ((d,.pv (.sl m (Cs xs)))::l) ds) (bw s)):ln P E n ops Q B (i::L) recs (bU l ds) (bw s):=by
 refine ⟨_,ho,.fz hw hc.1 (v:=.pv (.sl m (Cs xs))) ?_ (lC hc.2) (fun _ _ _ _=>rfl) hn⟩
 rw[lu]
 exact uy ht.h (by rw[so h.1];exact h.2.1) h.2.2
end
end Go.Abs
end
section
namespace Go.Abs
open aq
theorem ch {P:Program} {f:FuncId} {args:List AV} {es:List aZ} {X:Type} {V:X→AV} {C:X→List aZ}:CT P f args es (aq.stuck:aq X) V C:=fun _ h hs=>absurd h.symm hs
theorem k2 {α:Type} {H:pj→aq α} {r rO:aq α} {p:pj} (hc:nv r H=rO) (hp:r=.ll p):H p=rO:=by subst hp;exact hc
theorem pr {α:Type} {H:pj→aq α} {r rO:aq α} {x:α} (hc:nv r H=rO) (h:r=.ok x):rO=.ok x:=by subst h;exact hc.symm
def AV.wk:AV→AV
 | .ptr k o=>.ptr k o
 | _=>.any
theorem AV.Fh (v:AV):v.le v.wk:=by
 cases v<;>first|exact AV.le_refl _|exact AV.ye _
theorem Bn:∀ cs:List AV,wY cs (cs.map AV.wk)
 | []=>.nil
 | c::cs=>.cons (AV.Fh c) (Bn cs)
section
variable {P:Program} {E:Env} {n:Nat} {ops:Array Oper} {Q:dD} {rest:List Oper} {l:List (Nat×AV)} {ds:List (FuncId×List AV)} {s:List (Nat×aZ)} {ty:TypeId} {pos:String} {af:Array Edge}
def Fi:List Nat→List (Nat×aZ)→Option (List (Nat×aZ))
 | [],s=>some s
 | k::ks,s=>match Fi ks s with
  | some s'=>match dj s' k with
   | some (.box cs)=>some ((k,.box (cs.map AV.wk))::s')
   | _=>none
  | none=>none
theorem Fj:∀ {ks:List Nat} {s':List (Nat×aZ)},Fi ks s=some s'→eH E n l ds s l s'
 | [],s',h=>by simp[Fi] at h;subst h;exact FN l s
 | k::ks,s',h=>by
  simp only[Fi] at h
  split at h
  ·rename_i s1 h1
   split at h
   ·rename_i cs h2
    cases h
    exact (Fj h1).trans (yU h2 (Bn cs))
   ·cases h
  ·cases h
def sZ (P:Program) (E:Env) (n:Nat) (fn:Func) (R:nM→b5→Prop):dD
 | .panic v,fr,σ=>mM P fn R (.panic v) fr σ∨∃ l fid cap c s s',fr=bU l [(fid,cap)]∧σ=bw s∧(∀ g c',VR g v c'→c'=c)∧eH E n l [(fid,cap)] s l s'∧z8 P E fn R fid cap (some c) (bU l [(fid,cap)]) (bw s')
 | e,fr,σ=>tq P E fn R e fr σ
theorem LQ.dg {fn:Func} {R:nM→b5→Prop} {e:Exit} {a:Act} {w:World} (h:LQ E n (sZ P E n fn R) e a w):LQ E n (tq P E fn R) e a w:=by
 obtain ⟨g,ae,fr,σ,q,hx,hR,hF⟩:=h
 cases hx with
 | normal=>exact ⟨g,.normal,fr,σ,q,.normal,hR,hF⟩
 | exit id=>exact ⟨g,.exit id,fr,σ,q,.exit id,hR,hF⟩
 | goto id=>exact ⟨g,.goto id,fr,σ,q,.goto id,hR,hF⟩
 | ret=>exact ⟨g,.ret,fr,σ,q,.ret,hR,hF⟩
 | @panic v c0 hv=>
  rcases q with q|⟨l,fid,cap,c,s,s',rfl,rfl,hc,hg,hq⟩
  ·exact ⟨g,.panic v,fr,σ,(show tq P E fn R (.panic v) fr σ from .inl q),.panic hv,hR,hF⟩
  ·obtain ⟨g',hR',hF'⟩:=hg g a w hR hF
   have hcc:=hc _ _ hv
   subst hcc
   exact ⟨g',.panic (Sc c0),bU l [(fid,cap)],bw s',(show tq P E fn R (.panic (Sc c0)) (bU l [(fid,cap)]) (bw s') from .inr ⟨fid,cap,c0,rfl,fun _ _ h=>h.dh,hq⟩),.panic (.pv (.sc _)),hR',hF'⟩
theorem rq {f:FuncId} {fn:Func} {c:Code} {args:List AV} {es:List aZ} {X:Type} {res:aq X} {V:X→AV} {C:X→List aZ} (hf:P.funcs[f]?=some fn) (hb:fn.body=some c) (hn:Nat.ble args.length fn.ntmps=true)
  (h:∀ r,res=r→r≠.stuck→∀ E:Env,(∀ k,jT es k=true→E.fix k=none)→
   SW P E fn.ntmps c (sZ P E fn.ntmps fn (ph V C (fun x=>r=.ok x) (fun v=>∃ p,r=.ll p∧v=p.av))) (bU ((List.range args.length).zip args) []) (bw (dZ 0 es))):CT P f args es res V C:=
 Ba hf hb hn fun r hr hs E hE=>fun g a w hR hF=>wp_mono (h r hr hs E hE g a w hR hF) fun _ _ _ q=>q.dg
theorem ss {fn:Func} {R:nM→b5→Prop} {ae:rJ} (hae:ae=.ret∨ae=.normal) {fr:dX} {σ:b5} (h:mM P fn R ae fr σ):sZ P E n fn R ae fr σ:=by
 rcases hae with rfl|rfl
 ·exact Bc (.inl rfl) h
 ·exact Bc (.inr rfl) h
theorem tP {fn:Func} {X:Type} {V:X→AV} {C:X→List aZ} {r:aq X} {p:pj} {fr:dX} {σ:b5} (hd:fr.ds=[]) (h:r=.ll p) :
  sZ P E n fn (ph V C (fun x=>r=.ok x) (fun v=>∃ p,r=.ll p∧v=p.av)) (.panic p.av) fr σ:=.inl (wv hd h)
theorem kL {fn:Func} {R:nM→b5→Prop} {ae:rJ} (hae:ae=.ret∨ae=.normal) {fid:FuncId} {cap capC:List AV} {es:List aZ} (ks:List Nat) (hen:Enters P fid) (hC:z7 P fid capC es none (aq.ok ()) (fun _=>es))
  (hk:yZ E l s ks cap capC es) (hx:iO (below ks.length) es=true) {s':List (Nat×aZ)} (hs:kJ ks (jz (nth ks) es)++s=s') (hret:mM P fn R .ret (bU l []) (bw s')):sZ P E n fn R ae (bU l [(fid,cap)]) (bw s):=by
 have hl:es.length=ks.length:=by
  have:=(nr hk.gs).1
  rwa [gr] at this
 have:=Ac (E:=E) hae ks hen hC hk (fun _=>⟨hl,hx⟩) hs hret
 rcases hae with rfl|rfl
 ·exact this
 ·exact this
theorem gV {fn:Func} {R:nM→b5→Prop} {T:TypeId} {v:Int} {fid:FuncId} {cap capC:List AV} {es:List aZ} (ks:List Nat) {s1:List (Nat×aZ)} {X:Type} {res:aq X} {C:X→List aZ} (hen:Enters P fid)
  (hC:z7 P fid capC es (some (.iface T (.agg #[.int .i64 v]))) res C) (hns:res≠.stuck) (hw:Fi ks s=some s1) (hk:yZ E l s1 ks cap capC es) (hx:∀ x,(C x).length=ks.length∧iO (below ks.length) (C x)=true)
  (hret:∀ x,res=.ok x→mM P fn R .ret (bU l []) (bw (kJ ks (jz (nth ks) (C x))++s1))):sZ P E n fn R (.panic (pj.av ⟨T,[.sc (.int .i64 v)]⟩)) (bU l [(fid,cap)]) (bw s):=
 .inr ⟨l,fid,cap,_,s,s1,rfl,rfl,fun _ _ h=>Bb h,Fj hw,Ds hen hC hns hk hx hret⟩
def Bp (R:b5→Prop):dD
 | .normal,fr,σ|.ret,fr,σ=>fr.ds=[]∧∃ σ',(∀ k e,σ' k=some e→σ k=some e)∧R σ'
 | _,_,_=>False
theorem rr {ae:rJ} (hae:ae=.ret∨ae=.normal) {X:Type} {r:aq X} {C:X→List aZ} (x:X) (hg:r=.ok x) (hm:sR s 0 (C x)):Bp (fun σ=>∃ x,r=.ok x∧σ=bw (dZ 0 (C x))) ae (bU l []) (bw s):=by
 have h:(bU l []).ds=[]∧∃ σ',(∀ k e,σ' k=some e→bw s k=some e)∧∃ x,r=.ok x∧σ'=bw (dZ 0 (C x)):=
  ⟨rfl,bw (dZ 0 (C x)),xi (fun j e hj=>by have:=sS hm j e hj;simpa using this),x,hg,rfl⟩
 rcases hae with rfl|rfl
 ·exact h
 ·exact h
theorem nV {es:List aZ} {r:aq Unit} (h:aq.ok ()=r) {ae:rJ} (hae:ae=.ret∨ae=.normal:=by first|exact .inr rfl|exact .inl rfl):Bp (fun σ=>∃ x,r=.ok x∧σ=bw (dZ 0 ((fun _:Unit=>es) x))) ae (bU l []) (bw (dZ 0 es)):=by
 have q:(bU l []).ds=[]∧∃ σ',(∀ k e,σ' k=some e→bw (dZ 0 es) k=some e)∧∃ x,r=.ok x∧σ'=bw (dZ 0 ((fun _:Unit=>es) x)):=⟨rfl,_,fun _ _ h=>h,(),h.symm,rfl⟩
 rcases hae with rfl|rfl
 ·exact q
 ·exact q
theorem l0 {f:FuncId} {fn:Func} {y:Code} {id d1 d2:Nat} {ts ty1 ty2:_} {p1 p2:String} {a1 a2:Array Edge} {cap:List AV} {es:List aZ} {m:Option Value} {mv:AV} {X:Type} {res:aq X} {C:X→List aZ}
  (hmv:∀ g,VR g mv (m.getD .nilIface)) (hf:P.funcs[f]?=some fn)
  (hb:fn.body=some (.seq (.region id #[⟨some d1,.call ⟨.builtin .recover,#[],ts⟩,ty1,p1,a1,none⟩,⟨some d2,.assign (.tmp d1),ty2,p2,a2,none⟩] false) y))
  (hres:fn.results = #[]) (hn:(Nat.ble cap.length fn.ntmps&&Nat.blt d1 fn.ntmps&&Nat.blt d2 fn.ntmps)=true)
  (h:∀ r,res=r→r≠.stuck→∀ E:Env,(∀ k,jT es k=true→E.fix k=none)→
   SW P E fn.ntmps y (Bp (fun σ=>∃ x,r=.ok x∧σ=bw (dZ 0 (C x)))) (bU ((d2,mv)::(d1,mv)::(List.range cap.length).zip cap) []) (bw (dZ 0 es))):z7 P f cap es m res C:=by
 intro r hr hs wS g w vs u hR hv hu
 simp only[Bool.and_eq_true] at hn
 have hn1:=Nat.le_of_ble_eq_true hn.1.1
 have hd1:d1<fn.ntmps:=by simpa[Nat.blt_eq] using hn.1.2
 have hd2:d2<fn.ntmps:=by simpa[Nat.blt_eq] using hn.2
 have hlen:=hv.length
 let E:=Env.of wS g (bw (dZ 0 es)) w
 have hE:∀ k,jT es k=true→E.fix k=none:=fun k hk=>by
  have h3:∀ (es:List aZ) (k:Nat),jT es k=true→∀ cs,es[k]?≠some (.box cs):=by
   intro es
   induction es with
   | nil=>intro k _ cs;simp
   | cons e es ih=>
    intro k hk cs
    cases k with
    | zero=>intro q;simp at q;subst q;simp[jT] at hk
    | succ k=>simpa using ih k (by cases e<;>simpa[jT] using hk) cs
  simp only[E,Env.of]
  split
  ·rename_i cs hcs
   obtain ⟨_,h2⟩:=eV hcs
   exact absurd (by simpa using h2) (h3 es k hk cs)
  ·rfl
 have hW:=h r hr hs E hE
 refine callsD_of_wpS hf hb fun c₀ cs hcm=>?_
 let a0:Act:={ tmps:=vs.toArray++Array.replicate (fn.ntmps - vs.toArray.size) undef,defers:=[] }
 have hF0:FR fn.ntmps g (bU ((List.range cap.length).zip cap) []) a0:=by
  rw[← uq]
  refine ⟨by simp[a0];omega,fun i=>?_,.nil⟩
  rw[Array.getD_eq_getD_getElem?]
  rcases Nat.lt_or_ge i cap.length with q|q
  ·obtain ⟨c,h1,h2⟩:=hv.get i cap[i] (by simp)
   have:a0.tmps[i]?=some c:=by
    simp only[a0];rw[Array.getElem?_append_left (by simp;omega)];simpa using h1
   rw[this]
   simp[q];exact h2
  ·have e:cap[i]?=none:=List.getElem?_eq_none q
   simp only[e,Option.getD_none];exact .any _
 have hF1:=hF0.put (d:=some d1) (v:=mv) (c:=m.getD .nilIface) (fun x hx=>by cases hx;exact hd1) (hmv g)
 have hF2:=hF1.put (d:=some d2) (v:=mv) (c:=m.getD .nilIface) (fun x hx=>by cases hx;exact hd2) (hmv g)
 rw[xb,xb] at hF2
 have hwp:=hW g _ w hR hF2
 have fin:∀ u',(settle u'=.returning)→y.wpS P (bodyPostS P fn c₀ cs fun e u' w'=>(∃ v,e=.returned v)∧settle u'=.returning∧∃ g' σ',(∃ x,r=.ok x∧σ'=bw (dZ 0 (C x)))∧Rel E g' σ' w')
   ((a0.put (some d1) (m.getD .nilIface)).put (some d2) (m.getD .nilIface)) ({ c₀ with mode:=u' }::cs) w:=fun u' hu'=>by
  refine wpS_of_wp (wp_mono hwp fun e a w' hq=>?_)
  obtain ⟨g',ae,fr',σ',q,hx,hR',hF'⟩:=hq
  have res:(results fn a.tmps).run P w'=.ok (.tuple #[]) w':=by
   rw[rW,hres];simp
  cases hx with
  | normal=>
   obtain ⟨hd,σ2,hs2,hx2⟩:=q
   have:=hF'.ds;rw[hd] at this
   exact ⟨this.mN,u',rfl,_,res,⟨_,rfl⟩,hu',g',σ2,hx2,hR'.sub hs2⟩
  | ret=>
   obtain ⟨hd,σ2,hs2,hx2⟩:=q
   have:=hF'.ds;rw[hd] at this
   exact ⟨this.mN,u',rfl,_,res,⟨_,rfl⟩,hu',g',σ2,hx2,hR'.sub hs2⟩
  | exit id=>exact q.elim
  | goto l=>exact q.elim
  | panic hv=>exact q.elim
 refine wpS_seq (wpS_region ?_)
 have hr2:List.range #[(⟨some d1,.call ⟨.builtin .recover,#[],ts⟩,ty1,p1,a1,none⟩:Oper),⟨some d2,.assign (.tmp d1),ty2,p2,a2,none⟩].size=[0,1]:=rfl
 rw[hr2]
 have hrec:∀ a:Act,(execOp a.eval (⟨some d1,.call ⟨.builtin .recover,#[],ts⟩,ty1,p1,a1,none⟩:Oper)).run P w=.ok .recover w:=fun a=>by
  simp[execOp,resolve,invoke,builtin]
 have hev:∀ (a:Act) (c:Value),(a.put (some d1) c).tmps.getD d1 undef=c∨¬ d1<a.tmps.size:=fun a c=>by
  by_cases q:d1<a.tmps.size
  ·left;simp[Act.put,q]
  ·right;exact q
 have hsz:d1<a0.tmps.size:=by rw[hF0.size];exact hd1
 have hasg:∀ c:Value,(execOp (a0.put (some d1) c).eval (⟨some d2,.assign (.tmp d1),ty2,p2,a2,none⟩:Oper)).run P w=.ok (.value c) w:=fun c=>by
  have:=(hev a0 c).resolve_right (fun q=>q hsz)
  simp[execOp,Act.eval,this]
 cases m with
 | none=>
  have hu':c₀.mode=.returning:=hcm.trans hu
  have hrd:recoverD (c₀::cs)=none:=by simp[recoverD,hu']
  simp only[wpOpsS,List.getElem?_toArray,List.getElem?_cons_zero,List.getElem?_cons_succ,Region.wanted,if_true,hrec,hrd]
  rw[show (Value.nilIface)=(none:Option Value).getD .nilIface from rfl,hasg]
  simp only[Oper.upon,Exit.thenS]
  exact fin c₀.mode (by rw[hu'];rfl)
 | some c=>
  have hu':c₀.mode=.panicking [{ v:=c,recovered:=false }]:=hcm.trans hu
  have hrd:recoverD (c₀::cs)=some (c,{ c₀ with mode:=.panicking [{ v:=c,recovered:=true }] }::cs):=by simp[recoverD,hu']
  simp only[wpOpsS,List.getElem?_toArray,List.getElem?_cons_zero,List.getElem?_cons_succ,Region.wanted,if_true,hrec,hrd]
  rw[hasg]
  simp only[Oper.upon,Exit.thenS]
  exact fin _ rfl
def NP {α:Type} (x:aq α):Prop:=∀ p,x≠.ll p
theorem NP.ok {α:Type} (a:α):NP (aq.ok a):=fun _ h=>by cases h
theorem NP.stuck {α:Type}:NP (aq.stuck:aq α):=fun _ h=>by cases h
theorem NP.br {α:Type} {b:Bool} {x y:aq α} (hx:NP x) (hy:NP y):NP (aq.br b x y):=by cases b<;>assumption
theorem NP.gd {α:Type} {p:Prop} [Decidable p] {x:aq α} (hx:NP x):NP (aq.gd p x):=by unfold aq.gd;split;exact hx;exact NP.stuck
theorem NP.el {α β:Type} {l:List β} {i:Int} {k:β→aq α} (hk:∀ x,NP (k x)):NP (aq.el l i k):=by
 unfold aq.el
 split
 ·split
  ·exact hk _
  ·exact NP.stuck
 ·exact NP.stuck
theorem NP.some? {α β:Type} {o:Option β} {k:β→aq α} (hk:∀ x,NP (k x)):NP (aq.some? o k):=by cases o;exact NP.stuck;exact hk _
theorem NP.bind {α β:Type} {x:aq α} {k:α→aq β} (hx:NP x) (hk:∀ a,NP (k a)):NP (aq.bind x k):=by
 cases x with
 | stuck=>exact NP.stuck
 | ll p=>exact absurd rfl (hx p)
 | ok a=>exact hk a
theorem NP.jn {α X:Type} {j:X→aq α} {p:(X→aq α)→aq α} (h:∀ j,(∀ x,NP (j x))→NP (p j)) (hj:∀ x,NP (j x)):NP (aq.jn j p):=h j hj
theorem NP.iter {α X:Type} {body:(X→aq α)→X→aq α} (h:∀ nx,(∀ x,NP (nx x))→∀ x,NP (body nx x)):∀ (n:Nat) (x:X),NP (aq.iter body n x)
 | 0,_=>NP.stuck
 | n+1,x=>h _ (fun y=>NP.iter h n y) x
end
section
variable {P:Program} {E:Env} {n:Nat} {ops:Array Oper} {Q:dD} {B:List Rec→dX→b5→Prop} {i:Nat} {L:List Nat} {recs:List Rec} {rest:List Oper} {l:List (Nat×AV)} {ds:List (FuncId×List AV)} {s:List (Nat×aZ)}
 {ty:TypeId} {pos:String} {af:Array Edge}
theorem Bq {d:Nat} {X R:Type} {res:aq X} {kk:X→aq R} {r:aq R} {V V':X→AV} {C:X→List aZ} {C':X→List (Nat×aZ)} {f:Operand} {args:List Operand} {ts:Array TypeId} {fid:FuncId}
  {argsC first cap vs:List AV} {es:List aZ} (hr:r≠.stuck) (h:aq.bind res kk=r) (ks:List Nat) (hen:Enters P fid)
  (hC:CT P fid argsC es res V C) (hk:kK E ds l s ks f args fid argsC es first cap vs) (hd:Nat.blt d n=true)
  (hx:∀ x,(C x).length=ks.length∧iO (below ks.length) (C x)=true∧(V x).only (below ks.length)=true)
  (hV:∀ x,(V x).fM (nth ks)=V' x∧kJ ks (jz (nth ks) (C x))=C' x) (hnp:NP res)
  (hret:∀ x,kk x=r→SL P E n ops Q rest (bU ((d,V' x)::l) ds) (bw (C' x++s))) :
  SL P E n ops Q (⟨some d,.call ⟨.value f,args.toArray,ts⟩,ty,pos,af,none⟩::rest) (bU l ds) (bw s):=by
 obtain ⟨hns,hok,hp⟩:=jU hr h
 refine ia rfl (zZ ks hen rfl (hC res rfl hns) hk (lC hd) (fun x _=>hx x) (fun x hg=>?_) (fun v hv=>?_))
 ·have:=hret x (hok x hg)
  rw[← (hV x).1,← (hV x).2] at this;exact this
 ·obtain ⟨p,hp1,_⟩:=hv
  exact absurd hp1 (hnp p)
theorem Eb {d:Nat} {X R:Type} {res:aq X} {kk:X→aq R} {r:aq R} {V V':X→AV} {C:X→List aZ} {C':X→List (Nat×aZ)} {f:Operand} {args:List Operand} {ts:Array TypeId} {fid:FuncId}
  {argsC first cap vs:List AV} {es:List aZ} {gd:Option (Nat×Bool)} (ho:ops[i]?=some ⟨some d,.call ⟨.value f,args.toArray,ts⟩,ty,pos,af,gd⟩)
  (hw:ga ops ⟨some d,.call ⟨.value f,args.toArray,ts⟩,ty,pos,af,gd⟩ (bU l ds)) (hr:r≠.stuck) (h:aq.bind res kk=r) (ks:List Nat) (hen:Enters P fid)
  (hC:CT P fid argsC es res V C) (hk:kK E ds l s ks f args fid argsC es first cap vs) (hd:Nat.blt d n=true) (hnm:sT ks recs=true)
  (hx:∀ x,(C x).length=ks.length∧iO (below ks.length) (C x)=true∧(V x).only (below ks.length)=true)
  (hV:∀ x,(V x).fM (nth ks)=V' x∧kJ ks (jz (nth ks) (C x))=C' x) (hnp:NP res)
  (hret:∀ x,kk x=r→k1 ops i (C' x++s) recs∧ln P E n ops Q B L recs (bU ((d,V' x)::l) ds) (bw (C' x++s))):ln P E n ops Q B (i::L) recs (bU l ds) (bw s):=by
 obtain ⟨hns,hok,hp⟩:=jU hr h
 refine yQ ho hw ks hen (hC res rfl hns) hk hd hnm (fun x _=>hx x) (fun v hv=>?_) (fun x hg v' s' hv hs=>?_)
 ·obtain ⟨p,hp1,_⟩:=hv
  exact absurd hp1 (hnp p)
 ·have:=hret x (hok x hg)
  rw[← (hV x).1,← (hV x).2] at this
  subst hv hs;exact this
theorem Ec {d:Nat} {X R:Type} {res:aq X} {kk:X→aq R} {r:aq R} {V V':X→AV} {C:X→List aZ} {C':X→List (Nat×aZ)} {f:Operand} {args:List Operand} {ts:Array TypeId} {fid:FuncId}
  {argsC first cap vs:List AV} {es:List aZ} {gd:Option (Nat×Bool)} (ho:ops[i]?=some ⟨some d,.call ⟨.value f,args.toArray,ts⟩,ty,pos,af,gd⟩)
  (hw:ga ops ⟨some d,.call ⟨.value f,args.toArray,ts⟩,ty,pos,af,gd⟩ (bU l ds)) (hfl:fN ops recs i=[]) (hr:r≠.stuck) (h:aq.bind res kk=r) (ks:List Nat) (hen:Enters P fid)
  (hC:CT P fid argsC es res V C) (hk:kK E ds l s ks f args fid argsC es first cap vs) (hbb:fX es=true) (hd:Nat.blt d n=true)
  (hx:∀ x,(C x).length=ks.length∧iO (below ks.length) (C x)=true∧(V x).only (below ks.length)=true)
  (hV:∀ x,(V x).fM (nth ks)=V' x∧kJ ks (jz (nth ks) (C x))=C' x)
  {sp:List (Nat×aZ)} (hsp:kJ ks (jz (nth ks) (es.map aZ.lost))++s=sp) (hpan:∀ p,r=.ll p→Q (.panic p.av) (bU l ds) (bw sp))
  (hret:∀ x,kk x=r→ln P E n ops Q B L recs (bU ((d,V' x)::l) ds) (bw (C' x++s))):ln P E n ops Q B (i::L) recs (bU l ds) (bw s):=by
 obtain ⟨hns,hok,hp⟩:=jU hr h
 subst hsp
 obtain ⟨hl,hat⟩:=nr hk.gs
 rw[gr] at hl
 have hC':=(hC res rfl hns).lost hbb
 refine ⟨_,ho,.dz hw rfl (.call (nth ks) (List.range ks.length) hen rfl (aB hk.f) (by rw[kI hk.a];exact hk.e) hC' (fun j hj=>by have:=mR hj;simp;omega) (fun j e hj=>?_)
   (fun j hj=>by
    have hj':j<es.length:=by simp at hj;omega
    have:=lW (i:=0) (List.getElem?_eq_getElem hj')
    simp at this;rw[this];rfl)
   (fun j j' hj hj' he=>mP hk.nd (by have:=mR hj;omega) (by have:=mR hj';omega) he) (lC hd) (fun v σc hr=>?_) (fun v σc hr=>?_)) (fun r hr=>by rw[hfl] at hr;cases hr)⟩
 ·obtain ⟨_,h2⟩:=eV hj
  exact hat j _ (by rw[lK,show j=j - 0 by omega,h2];rfl)
 ·rcases hr with ⟨x,hg,he,rfl⟩|⟨_,_,he,_⟩
  ·cases he
   obtain ⟨h1,h2,h3⟩:=hx x
   refine ⟨oQ ⟨rfl,rfl⟩ hl hk.nd hk.bx hk.fx h1 h2 h3,?_⟩
   rw[nu hk.nd h1,(hV x).1,(hV x).2]
   exact ⟨fun r hr=>(by rw[hfl] at hr;cases hr),hret x (hok x hg)⟩
  ·cases he
 ·rcases hr with ⟨_,_,he,_⟩|⟨v',⟨p,hp1,hp2⟩,he,rfl⟩
  ·cases he
  ·cases he
   subst hp2
   refine ⟨oQ ⟨rfl,rfl⟩ hl hk.nd hk.bx hk.fx (by simp[hl]) (sV _ hbb) (p.only _),fun fr' σ' _ _ hq=>?_⟩
   obtain ⟨rfl,rfl⟩:=hq hfl
   rw[nu hk.nd (by simp[hl]),oJ (p.only _)]
   exact hpan p (hp p hp1)
theorem zi (f:Int→AV):∀ {xs:List Int} {i:Nat} {v:Int},(xs.map f).take i++[f v]++(xs.map f).drop (i+1)=(xs.set i v).map f∨xs.length≤i:=by
 intro xs i v
 rcases Nat.lt_or_ge i xs.length with q|q
 ·left
  rw[List.set_eq_take_append_cons_drop,if_pos q]
  simp
 ·exact .inr q
theorem Ed (f:Int→AV):∀ {xs:List Int},xs.length=4→xs.map f=[f (ij xs 0),f (ij xs 1),f (ij xs 2),f (ij xs 3)]
 | [_,_,_,_],_=>rfl
theorem Cy (f:Int→AV) {t:TypeId} {x y:Operand} {k:Nat} {ii:Int} {xs:List Int} {cs cs':List AV} {v:Int} [ht:ls P t 1] (hx:bF l x=some (.ptr k (0+ii.toNat*1))) (hk:dj s k=some (.box cs)) (hc:cs=xs.map f)
  (hy:bF l y=some (f v)) (h0:0≤ii) (h1:ii<xs.length) (ho:∀ v,(f v).eU=some [f v]∧AV.iF [f v]=true) (hn':(qM xs ii v).map f=cs')
  (hn:SL P E n ops Q rest (bU l ds) (bw ((k,.box cs')::s))):SL P E n ops Q (⟨none,.store t x y,ty,pos,af,none⟩::rest) (bU l ds) (bw s):=by
 have hlt:ii.toNat<xs.length:=by omega
 refine ia rfl (pc rfl rfl (aB hx) (bK hk) rfl (by rw[aB hy];exact (ho v).1) (ho v).2 ht.h (by simp only[aZ.cells,List.length_singleton];rw[hc,List.length_map];omega) (fun q=>by cases q) ?_)
 have e1:(aZ.box cs).yI (0+ii.toNat*1) [f v]=.box cs':=by
  simp only[aZ.yI,List.length_singleton]
  rw[hc,← hn',show 0+ii.toNat*1=ii.toNat by omega]
  rcases zi f (xs:=xs) (i:=ii.toNat) (v:=v) with q|q
  ·rw[q];rfl
  ·omega
 rw[e1];exact hn
end
end Go.Abs
end
section
namespace Go.Abs
open aq
def FG:List AV→List AV→Prop
 | [],[]=>True
 | a::as,b::bs=>(a=b∨b=.any)∧FG as bs
 | _,_=>False
theorem zj:∀ {a b:List AV},FG a b→wY a b
 | [],[],_=>.nil
 | a::as,b::bs,h=>.cons (by rcases h.1 with q|q<;>subst q;exact AV.le_refl _;exact AV.ye _) (zj h.2)
 | [],_::_,h=>h.elim
 | _::_,[],h=>h.elim
def Ee (s':List (Nat×aZ)):List (Nat×aZ)→Prop
 | []=>True
 | p::ps=>(∃ e,dj s' p.1=some e∧e.le p.2)∧Ee s' ps
theorem vH {s':List (Nat×aZ)}:∀ {l:List (Nat×aZ)},Ee s' l→∀ p,p∈l→∃ e,dj s' p.1=some e∧e.le p.2
 | _::_,h,p,hp=>by
  rcases List.mem_cons.1 hp with q|q
  ·subst q;exact h.1
  ·exact vH h.2 p q
def zp (ops:Array Oper) (i:Nat) (s':List (Nat×aZ)):List Rec→Prop
 | []=>True
 | r::rs=>(match r.rd with
  | []=>True
  | p::ps=>match lT ops ops.size i r.i with
   | true=>True
   | false=>Ee s' (p::ps))∧zp ops i s' rs
theorem cC {ops:Array Oper} {i:Nat} {s':List (Nat×aZ)} {recs:List Rec} (h:zp ops i s' recs):k1 ops i s' recs:=by
 induction recs with
 | nil=>intro r hr;simp[fN] at hr
 | cons a rs ih=>
  intro r hr p hp
  simp only[fN,List.mem_filter,Bool.not_eq_true'] at hr
  rcases List.mem_cons.1 hr.1 with q|q
  ·subst q
   have h1:=h.1
   cases hrd:r.rd with
   | nil=>rw[hrd] at hp;cases hp
   | cons x xs=>
    rw[hrd] at h1 hp
    simp only[hr.2] at h1
    exact vH h1 p hp
  ·exact ih h.2 r (by simp[fN,q,hr.2]) p hp
theorem aZ.eR {cs cs':List AV} (h:FG cs cs'):aZ.le (.box cs) (.box cs'):=fun _ _ _ he=>yT (zj h) he
section
variable {P:Program} {l:List (Nat×AV)} {ds:List (FuncId×List AV)} {s:List (Nat×aZ)}
theorem eW (cs':List AV) {t:TypeId} {x:Operand} {k off:Nat} {cs:List AV} {v:AV} [ha:gR P t false] (hx:bF l x=some (.ptr k off)) (hk:dj s k=some (.box cs)) (hw:FG cs cs') (hv:cs'[off]?=some v) :
  ic P (.load t x) l ds s v [(k,.box cs')]:=
 ⟨qy ha.h (aB hx) hv,fun p hp=>by simp at hp;subst hp;exact ⟨_,bK hk,aZ.eR hw⟩⟩
theorem Br {α β:Type} (f:α→β):∀ l:List α,(l.flatMap fun x=>[f x])=l.map f
 | []=>rfl
 | x::l=>by simp[List.flatMap_cons,Br f l]
theorem Ag {α β:Type} {f:α→β} (l:List α):(l.flatMap fun x=>[f x]).length=l.length:=by rw[Br,List.length_map]
theorem Ef {t:TypeId} {x:Operand} {k off:Nat} {cs:List AV} [ha:gR P t false] (hx:bF l x=some (.ptr k off)) (hk:dj s k=some (.box cs)) (hv:cs[off]?=some .any) :
  ic P (.load t x) l ds s .oc [(k,.box cs)]:=.on hk (by
 intro o ho g ev w hG hv' hr
 have q:=hv' x (by simp[Op.operands]);rw[aB hx] at q
 have he:=hr (k,.box cs) (by simp)
 generalize hq:ev x=c at q
 cases q with
 | ptr _ hb=>
  cases he with
  | box h hw hc h1=>
   rw[h] at hb;cases hb
   obtain ⟨v,hv1,_⟩:=hc.get off _ hv
   refine ⟨v,?_,.oc (h1 v (List.mem_of_getElem? hv1))⟩
   simp only[execOp,ho,hq,Instr.loadAt,Instr.sureAddr,Sem.run_bind,Sem.run_pure,Result.andThen_ok,lQ ha.h hw hv1])
theorem Ah {a b e:TypeId} (ha:P.underlying a=some (.slice e)) (he:P.underlying e=some (.int .u8)) (hb:P.underlying b=some .string) {g:Gh} {w:World} (hG:yA g w) {xs:List Int} {n:Nat} (hn:n=xs.length) {c:Value}
  (h:VR g (.pv (.sl n (xs.flatMap fun x=>[PV.sc (.int .u8 x)]))) c):(convert a b c).run P w=.ok (S (jK xs)) w:=by
 subst hn
 cases h with
 | pv h=>
  generalize hcs:(xs.flatMap fun x=>[PV.sc (.int .u8 x)])=cells at h
  generalize hl:xs.length=n at h
  cases h with
  | nil a' cap=>
   have:xs=[]:=List.length_eq_zero_iff.1 hl
   subst this
   rw[run_convert_bytes_string w a b e _ _ _ ha he hb]
   cases a' with
   | none=>simp[Conv.bytesToString,S,jK,ByteArray.empty,ByteArray.emptyWithCapacity];rfl
   | some a0=>
    rw[run_bytesToString w a0 0 cap [] (by simp[loadCells,loadCellsFrom,Sem.run_pure])]
    simp[S,jK,ByteArray.empty,ByteArray.emptyWithCapacity];rfl
  | sl blk ys off n cap cells h hl' hc hnc=>
   have hlen:cells.length=xs.length:=by rw[← hcs];exact Ag xs
   obtain ⟨cs,el,fz,hw,h1,h2⟩:=yD hG h hl' hc
   have:=run_convert_bytes_arg (P:=P) w a e ha he blk off xs.length cap xs rfl (fun i hi=>by
    have hci:cells[i]?=some (.sc (.int .u8 (xs.getD i 0))):=by
     rw[← hcs]
     rw[Br,List.getElem?_map,List.getElem?_eq_getElem hi]
     simp[List.getD,List.getElem?_eq_getElem hi]
    obtain ⟨v,hv1,hv2⟩:=h2.get i _ hci
    cases hv2
    rw[List.getElem?_take] at hv1
    split at hv1
    ·simp at hv1
     simp[World.cell?,hw]
     exact hv1
    ·cases hv1) b hb
   rw[← hl,this]
   rfl
theorem zq {a b e:TypeId} {x:Operand} {n:Nat} {xs:List Int} [ha:jH P a (.slice e)] [he:jH P e (.int .u8)] [hb:jH P b .string] (hx:bF l x=some (.pv (.sl n (xs.flatMap fun x=>[PV.sc (.int .u8 x)])))) (hn:n=xs.length) :
  ic P (.convert a b x) l ds s (aY (jK xs)) []:=.of (by
 intro o ho g ev w hG hv _
 have q1:=hv x (by simp[Op.operands]);rw[aB hx] at q1
 exact ⟨S (jK xs),by simp only[execOp,ho,Sem.run_bind,Ah ha.h he.h hb.h hG hn q1,Result.andThen_ok,Sem.run_pure],.pv (.sc _)⟩)
end
section
variable {P:Program} {E:Env} {n:Nat} {c:Code} {Q:dD} {fr:dX} {σ:b5}
def FO (Q:dD):dD
 | .goto _,_,_=>False
 | e,fr,σ=>Q e fr σ
theorem xx (h:SW P E n c (FO Q) fr σ):SW P E n (.scope c) Q fr σ:=fun g a w hR hF=>by
 refine wp_scope_straight (wp_mono (h g a w hR hF) fun e a w hq=>?_)
 obtain ⟨g',ae,fr',σ',q,hx,hR',hF'⟩:=hq
 cases hx with
 | goto l=>exact q.elim
 | normal=>exact ⟨g',_,fr',σ',q,.normal,hR',hF'⟩
 | exit id=>exact ⟨g',_,fr',σ',q,.exit id,hR',hF'⟩
 | ret=>exact ⟨g',_,fr',σ',q,.ret,hR',hF'⟩
 | panic hv=>exact ⟨g',_,fr',σ',q,.panic hv,hR',hF'⟩
end
theorem zr {q:Nat→Bool} {v:AV} {T:TypeId} {b:Bool} (h:v.only q=true):(AV.fH [v,Oe T b]).only q=true:=by cases b<;>simp[AV.only,AV.only.jw,h,Oe]
theorem Bs {f:Nat→Nat} {v:AV} {T:TypeId} {b:Bool}:(AV.fH [v,Oe T b]).fM f=.fH [v.fM f,Oe T b]:=by cases b<;>rfl
theorem ru {α:Type} (X:List α) (z:α):((X.length:Int))<((X++[z]).length:Int):=by simp;omega
theorem jA {α:Type} (X:List α) (z:α):(X++[z])[((X.length:Int)).toNat]?=some z:=by simp
theorem Bt {α:Type} (X:List α) (z a:α):(X++[z]).set ((X.length:Int)).toNat a=X++[a]:=by simp
section
variable {P:Program} {E:Env} {n:Nat} {ops:Array Oper} {Q:dD} {B:List Rec→dX→b5→Prop} {i:Nat} {L:List Nat} {recs:List Rec} {rest:List Oper} {l:List (Nat×AV)} {ds:List (FuncId×List AV)} {s:List (Nat×aZ)}
 {ty:TypeId} {pos:String} {af:Array Edge}
theorem zE (f:Int→AV) {t:TypeId} {x y:Operand} {k:Nat} {ii:Int} {xs:List Int} {cs cs':List AV} {v:Int} [ht:ls P t 1] (hop:ops[i]?=some ⟨none,.store t x y,ty,pos,af,none⟩)
  (hx:bF l x=some (.ptr k (0+ii.toNat*1))) (hk:dj s k=some (.box cs)) (hc:cs=xs.map f)
  (hy:bF l y=some (f v)) (h0:0≤ii) (h1:ii<xs.length) (ho:∀ v,(f v).eU=some [f v]∧AV.iF [f v]=true) (hn':(qM xs ii v).map f=cs') (hnm:jI recs=true)
  (hn:k1 ops i ((k,.box cs')::s) recs∧ln P E n ops Q B L recs (bU l ds) (bw ((k,.box cs')::s))):ln P E n ops Q B (i::L) recs (bU l ds) (bw s):=by
 have hlt:ii.toNat<xs.length:=by omega
 obtain ⟨hst,hn⟩:=hn
 refine ⟨_,hop,.dz (.inl rfl) rfl (.store rfl rfl (aB hx) (bK hk) rfl (by rw[aB hy];exact (ho v).1) (ho v).2 ht.h (by simp only[aZ.cells,List.length_singleton];rw[hc,List.length_map];omega) (fun q=>by cases q) ?_) (fun r hr k' _=>by rw[dV hnm r (List.mem_filter.1 hr).1];simp)⟩
 have e1:(aZ.box cs).yI (0+ii.toNat*1) [f v]=.box cs':=by
  simp only[aZ.yI,List.length_singleton]
  rw[hc,← hn',show 0+ii.toNat*1=ii.toNat by omega]
  rcases zi f (xs:=xs) (i:=ii.toNat) (v:=v) with q|q
  ·rw[q];rfl
  ·omega
 rw[e1]
 exact ⟨fun r hr=>⟨fun p hp=>(let ⟨e,h1,h2⟩:=hst r hr p hp;⟨e,bK h1,h2⟩),fun nm q=>by rw[dV hnm r (List.mem_filter.1 hr).1] at q;cases q⟩,hn⟩
theorem mw {α:Type} {C:α→List PV} {Cs:List α→List PV} {t:TypeId} {x y:Operand} {k off m sz:Nat} {el:TypeId} (xs:List α) {a a':α} {v:AV} {vs:List PV}
  (ho:ops[i]?=some ⟨none,.store t x y,ty,pos,af,none⟩) (h:u6 P C Cs l s t x y k off m sz el (xs.length:Int) (xs++[a]) a a' v vs) (hnm:jI recs=true)
  (hn:k1 ops i ((k,.arr el sz (Cs (xs++[a'])))::mQ k s) recs∧ln P E n ops Q B L recs (bU l ds) (bw ((k,.arr el sz (Cs (xs++[a'])))::mQ k s))):ln P E n ops Q B (i::L) recs (bU l ds) (bw s):=
 D7 ho h hnm (by rw[Bt];exact hn)
end
section
variable {E:Env} {n:Nat} {l:List (Nat×AV)} {ds:List (FuncId×List AV)} {s:List (Nat×aZ)}
theorem Bu (d:Nat) {k m m':Nat} (hd:jx l d=some (.arr k m)) (hm:m=m'):eH E n l ds s ((d,.arr k m')::l) s:=fun g a w hR hF=>by
 subst hm
 refine ⟨g,hR,hF.size,fun i=>?_,hF.ds⟩
 by_cases q:i=d
 ·subst q
  have:=hF.gG i
  simp only[bU,eI hd] at this
  simpa[bU,jP] using this
 ·have:=hF.gG i
  simpa[bU,jP,q] using this
theorem mx (j off:Nat) {cs cs':List AV} {k m m':Nat} (hj:dj s j=some (.box cs)) (hc:cs[off]?=some (.arr k m)) (hm:m=m') (hcs:cs.set off (.arr k m')=cs'):eH E n l ds s l ((j,.box cs')::s):=by
 subst hm
 have:cs.set off (.arr k m)=cs:=by
  obtain ⟨h1,h2⟩:=List.getElem?_eq_some_iff.1 hc
  rw[← h2];exact List.set_getElem_self h1
 rw[this] at hcs
 subst hcs
 exact yU hj (wY.refl _)
end
section
variable {P:Program} {E:Env} {n:Nat} {ops:Array Oper} {Q:dD} {recs:List Rec} {l:List (Nat×AV)} {ds:List (FuncId×List AV)} {s:List (Nat×aZ)}
theorem rv {x y:Nat} (h1:DW P E n ops Q [x,y] recs (bU l ds) (bw s)) (h2:DW P E n ops Q [y,x] recs (bU l ds) (bw s)):DX P E n ops Q x y [] recs (bU l ds) (bw s):=⟨h1,h2⟩
end
section
variable {P:Program} {l:List (Nat×AV)} {s:List (Nat×aZ)}
theorem fw {fn:Func} {X:Type} {V:X→AV} {C:X→List aZ} {vs:List AV} {ae:rJ} {r:aq X} (hae:ae=.ret∨ae=.normal) (x:X) (hr:zV P (bU l []) (bw s) fn.results.toList vs)
  (hg:r=.ok x) (hle:(mu vs).le (V x)) (hm:sR s 0 (C x)):mM P fn (ph V C (fun x=>r=.ok x) (fun v=>∃ p,r=.ll p∧v=p.av)) ae (bU l []) (bw s):=lX hae x hr hg hle hm
end
theorem k3 {K:dX→b5→Prop} {Q:dD} {v:AV} {fr:dX} {σ:b5} (h:Q (.panic v) fr σ):ti K Q (.panic v) fr σ:=h
theorem jW {id:Nat} {Q:dD} {v:AV} {fr:dX} {σ:b5} (h:Q (.panic v) fr σ):ya id Q (.panic v) fr σ:=h
end Go.Abs
end
section
namespace Go.Abs
open aq
def bZ (m:Nat→Nat):Prop:=∀ N,∃ M,∀ i,M≤i→N≤m i
theorem bZ.id:bZ fun i=>i:=fun N=>⟨N,fun _ h=>h⟩
theorem bZ.pred {m:Nat→Nat} (h:bZ m):bZ fun i=>m i - 1:=fun N=>
 let ⟨M,hM⟩:=h (N+1);⟨M,fun i hi=>by have:=hM i hi;show N≤m i - 1;omega⟩
def aq.sat {α:Type} (r:aq α) (Q:α→Prop) (R:pj→Prop):Prop:=match r with
 | .stuck=>False
 | .ok a=>Q a
 | .ll p=>R p
def Ev {α:Type} (F:Nat→aq α) (Q:α→Prop) (R:pj→Prop):Prop:=∃ r:aq α,r.sat Q R∧∃ N,∀ i,N≤i→F i=r
section
variable {α β X:Type} {Q Q':α→Prop} {R R':pj→Prop} {Qb:β→Prop}
theorem Ev.ok {a:α} (h:Q a):Ev (fun _=>.ok a) Q R:=⟨.ok a,h,0,fun _ _=>rfl⟩
theorem Ev.ll {p:pj} (h:R p):Ev (fun _=>(.ll p:aq α)) Q R:=⟨.ll p,h,0,fun _ _=>rfl⟩
theorem Ev.mono {F:Nat→aq α} (h:Ev F Q' R') (hq:∀ a,Q' a→Q a) (hr:∀ p,R' p→R p):Ev F Q R:=by
 obtain ⟨r,h1,h2⟩:=h
 refine ⟨r,?_,h2⟩
 cases r with
 | stuck=>exact h1
 | ok a=>exact hq a h1
 | ll p=>exact hr p h1
theorem Ev.Bv {F:Nat→aq α} (h:Ev F Q' R) (hq:∀ a,Q' a→Q a):Ev F Q R:=h.mono hq fun _ q=>q
theorem Ev.bind {F:Nat→aq α} {K:Nat→α→aq β} (h:Ev F Q R') (hr:∀ p,R' p→R p) (hk:∀ a,Q a→Ev (fun i=>K i a) Qb R):Ev (fun i=>aq.bind (F i) (K i)) Qb R:=by
 obtain ⟨r,h1,N,hN⟩:=h
 cases r with
 | stuck=>exact h1.elim
 | ok a=>
  obtain ⟨r',h2,M,hM⟩:=hk a h1
  exact ⟨r',h2,N+M,fun i hi=>by dsimp only;rw[hN i (by omega)];exact hM i (by omega)⟩
 | ll p=>exact ⟨.ll p,hr p h1,N,fun i hi=>by dsimp only;rw[hN i hi];rfl⟩
theorem Ev.nW {x:aq α} {a:α} {K:Nat→α→aq β} (h:x=.ok a) (hk:Ev (fun i=>K i a) Qb R):Ev (fun i=>aq.bind x (K i)) Qb R:=by
 subst h;exact hk
theorem Ev.br {b:Bool} {F G:Nat→aq α} (ht:b=true→Ev F Q R) (hf:b=false→Ev G Q R):Ev (fun i=>aq.br b (F i) (G i)) Q R:=by
 cases b with
 | true=>exact ht rfl
 | false=>exact hf rfl
theorem Ev.gd {p:Prop} [Decidable p] {F:Nat→aq α} (hp:p) (h:Ev F Q R):Ev (fun i=>aq.gd p (F i)) Q R:=by
 have:(fun i=>aq.gd p (F i))=F:=by funext i;simp[aq.gd,hp]
 rw[this];exact h
theorem Ev.el {l:List X} {j:Int} {K:Nat→X→aq α} (h0:0≤j) (h1:j<l.length) (h:∀ x,l[j.toNat]?=some x→Ev (fun i=>K i x) Q R):Ev (fun i=>aq.el l j (K i)) Q R:=by
 have h2:j.toNat<l.length:=by omega
 have:=h _ (List.getElem?_eq_getElem h2)
 have he:(fun i=>aq.el l j (K i))=fun i=>K i l[j.toNat]:=by funext i;simp[aq.el,h0,List.getElem?_eq_getElem h2]
 rw[he];exact this
theorem Ev.Fk {l:List X} {j:Int} {K:Nat→X→aq α} {x:X} (h0:0≤j) (hx:l[j.toNat]?=some x) (h:Ev (fun i=>K i x) Q R):Ev (fun i=>aq.el l j (K i)) Q R:=by
 have he:(fun i=>aq.el l j (K i))=fun i=>K i x:=by funext i;simp[aq.el,h0,hx]
 rw[he];exact h
theorem Ev.some {o:Option X} {x:X} {K:Nat→X→aq α} (hx:o=some x) (h:Ev (fun i=>K i x) Q R):Ev (fun i=>aq.some? o (K i)) Q R:=by subst hx;exact h
theorem Ev.jn {j:Nat→X→aq α} {p:Nat→(X→aq α)→aq α} (J:X→Prop) (hj:∀ v,J v→Ev (fun i=>j i v) Q R)
  (hp:∀ j:Nat→X→aq α,(∀ v,J v→Ev (fun i=>j i v) Q R)→Ev (fun i=>p i (j i)) Q R):Ev (fun i=>aq.jn (j i) (p i)) Q R:=hp j hj
theorem Ev.grow {F:Nat→aq α} {m:Nat→Nat} (hm:bZ m) (h:∀ m',bZ m'→Ev (fun i=>F (m' i+1)) Q R):Ev (fun i=>F (m i)) Q R:=by
 obtain ⟨r,h1,N,hN⟩:=h _ hm.pred
 obtain ⟨M,hM⟩:=hm 1
 refine ⟨r,h1,N+M,fun i hi=>?_⟩
 have:=hN i (by omega)
 have h2:=hM i (by omega)
 simp only[Nat.sub_add_cancel h2] at this
 exact this
theorem Ev.iter {body:Nat→(X→aq α)→X→aq α} {m:Nat→Nat} (hm:bZ m) (I:X→Prop) (f:X→Nat) {x:X} (h0:I x)
  (hb:∀ x,I x→∀ next:Nat→X→aq α,(∀ y,I y→f y<f x→Ev (fun i=>next i y) Q R)→Ev (fun i=>body i (next i) x) Q R) :
  Ev (fun i=>aq.iter (body i) (m i) x) Q R:=by
 have key:∀ (k:Nat) (x:X) (m:Nat→Nat),bZ m→I x→f x<k→Ev (fun i=>aq.iter (body i) (m i) x) Q R:=by
  intro k
  induction k with
  | zero=>intro x m _ _ h;exact absurd h (Nat.not_lt_zero _)
  | succ k ih=>
   intro x m hm hx hk
   obtain ⟨r,h1,N,hN⟩:=hb x hx (fun i=>aq.iter (body i) (m i - 1)) fun y hy hlt=>ih y _ hm.pred hy (by omega)
   obtain ⟨M,hM⟩:=hm 1
   refine ⟨r,h1,N+M,fun i hi=>?_⟩
   have h2:=hM i (by omega)
   rw[← hN i (by omega)]
   obtain ⟨q,hq⟩:∃ q,m i=q+1:=⟨m i - 1,by omega⟩
   simp only[hq];rfl
 exact key _ x m hm h0 (Nat.lt_succ_self _)
theorem Ev.vI {F:Nat→aq α} {H:Nat→pj→aq α} (h:Ev F Q R') (hh:∀ p,R' p→Ev (fun i=>H i p) Q R):Ev (fun i=>nv (F i) (H i)) Q R:=by
 obtain ⟨r,h1,N,hN⟩:=h
 cases r with
 | stuck=>exact h1.elim
 | ok a=>exact ⟨.ok a,h1,N,fun i hi=>by dsimp only;rw[hN i hi];rfl⟩
 | ll p=>
  obtain ⟨r',h2,M,hM⟩:=hh p h1
  exact ⟨r',h2,N+M,fun i hi=>by dsimp only;rw[hN i (by omega)];exact hM i (by omega)⟩
theorem Ev.r6 {T:TypeId} {v:Int} {K:Nat→Int→aq α} (h:Ev (fun i=>K i v) Q R):Ev (fun i=>Go.Abs.r6 T ⟨T,[.sc (.int .i64 v)]⟩ (K i)) Q R:=by
 have:(fun i=>Go.Abs.r6 T ⟨T,[.sc (.int .i64 v)]⟩ (K i))=fun i=>K i v:=by funext i;simp[Go.Abs.r6]
 rw[this];exact h
theorem Ev.get {F:Nat→aq α} (h:Ev F Q fun _=>False):∃ a,Q a∧∃ N,∀ i,N≤i→F i=.ok a:=by
 obtain ⟨r,h1,h2⟩:=h
 cases r with
 | stuck=>exact h1.elim
 | ok a=>exact ⟨a,h1,h2⟩
 | ll p=>exact h1.elim
end
end Go.Abs
end
section
namespace Go.Abs
open aq Go.RowKit
section
variable {E:Env} {g:Gh} {σ:b5} {w w':World}
theorem yA.Bw (h:yA g w) {b:Nat} (hb:w.heap.size≤b):g.G b=none:=by
 cases q:g.G b with
 | none=>rfl
 | some ys=>have:=h.lt q;omega
theorem jc.Dv {b:Nat} {ys:List PV} (h:g.G b=none):jc (fun _=>False) g (g.cW b ys):=by
 refine ⟨fun _ _=>rfl,fun _ _=>rfl,fun c zs hc=>?_⟩
 have:c≠b:=fun q=>by subst q;rw[h] at hc;cases hc
 exact ⟨[],by simp[Gh.cW,this,hc]⟩
theorem Rel.below (h:Rel E g σ w) (hb:Below w.heap.size w w'):Rel E g σ w':=by
 have hs:=hb.size
 refine { iL:=?_,inj:=h.inj,gl:=?_,apart:=h.apart,size:=Nat.le_trans h.size hs,nf:=?_,own:=h.own,fix:=h.fix,gQ:=h.gQ,g0:=h.g0,gn:=h.gn,os:=hb.os.trans h.os,out:=hb.output.trans h.out,tape:=hb.tape.trans h.tape,x:=?_ }
 ·intro k e hk
  exact (h.iL k e hk).le (jc.refl (fun _=>False) g) (fun q=>q) (fun _ _ _=>rfl) (fun _ q=>q.elim) (fun b hb'=>hb.block b ((h.iL k e hk).lt hb'))
 ·intro b ys hG
  obtain ⟨c,e,f,h1,h2,h3⟩:=h.gl b ys hG
  exact ⟨c,e,f,by rw[hb.block b (h.gl.lt hG)];exact h1,h2,h3⟩
 ·intro b hb' ho
  rw[hb.block b (Nat.lt_of_lt_of_le hb' h.size)];exact h.nf b hb' ho
 ·exact {
      u3:=fun b cs el fz h1=>let ⟨cs',h2,h3⟩:=h.x.u3 b cs el fz h1;⟨cs',by rw[hb.block b (o9 h2)];exact h2,h3⟩
      flat:=fun k b cs el fz h0 h1 hf=>let ⟨cs',h2,h3⟩:=h.x.flat k b cs el fz h0 h1 hf;⟨cs',by rw[hb.block b (o9 h2)];exact h2,h3⟩
      set:=fun b hb'=>by
       have h1:=h.x.set b hb'
       have:E.wS.heap[b]?=some E.wS.heap[b]:=Array.getElem?_eq_getElem hb'
       rw[hb.block b (o9 (h1.trans this))];exact h1
      u4:=h.x.u4,hi:=h.x.hi,gf:=h.x.gf,mn:=h.x.mn,mL:=h.x.mL,mo:=h.x.mo,mr:=h.x.mr }
theorem Rel.Fl (h:Rel E g σ w) {b:Nat} (hge:E.w0.heap.size≤b) (hG:g.G b=none) (hk:∀ k,(σ k).isSome=true→g.ρ k≠some b) {cs:Array Value} {el:TypeId} {fz:Nat×Nat} (hw:w.heap[b]?=some (.cells cs el fz)) {ys:List PV} (hl:ys.length≤cs.size) (hp:kD g ys (cs.toList.take ys.length)) :
  Rel E (g.cW b ys) σ w:=by
 have hle:jc (fun _=>False) g (g.cW b ys):=jc.Dv hG
 refine { iL:=?_,inj:=h.inj,gl:=?_,apart:=?_,size:=h.size,nf:=h.nf,own:=h.own,fix:=h.fix,gQ:=h.gQ,g0:=?_,gn:=?_,os:=h.os,out:=h.out,tape:=h.tape,x:=?_ }
 ·intro k e hk'
  exact (h.iL k e hk').le hle (fun q=>q) (fun c hc _=>by
   have:c≠b:=fun q=>by subst q;exact hk k (by rw[hk'];rfl) hc
   simp[Gh.cW,this]) (fun _ q=>q.elim) (fun _ _=>rfl)
 ·intro c zs hc
  by_cases q:c=b
  ·subst q
   simp[Gh.cW] at hc;subst hc
   exact ⟨cs,el,fz,hw,hl,hp.le hle⟩
  ·simp[Gh.cW,q] at hc
   obtain ⟨c',e,f,h1,h2,h3⟩:=h.gl c zs hc
   exact ⟨c',e,f,h1,h2,h3.le hle⟩
 ·intro k c e' hk' hka hc
  have q:c≠b:=fun q=>by subst q;exact hk k (by rw[hk'];rfl) hc
  simp only[Gh.cW,q,if_false]
  exact h.apart k c e' hk' hka hc
 ·intro c zs hc
  obtain ⟨us,h1⟩:=h.g0 c zs hc
  obtain ⟨vs,h2⟩:=hle.G c _ h1
  exact ⟨us++vs,by rw[h2,List.append_assoc]⟩
 ·intro c zs hc
  by_cases q:c=b
  ·subst q;exact .inr (.inr hge)
  ·simp[Gh.cW,q] at hc;exact h.gn c zs hc
 ·have hx:=h.x
  exact {
      u3:=hx.u3,flat:=hx.flat,set:=hx.set,u4:=hx.u4,hi:=hx.hi,gf:=hx.gf,mn:=hx.mn
      mL:=fun k c hf=>by
       have:=hx.mn k c hf
       have q:c≠b:=by omega
       simp only[Gh.cW,q,if_false];exact hx.mL k c hf
      mo:=hx.mo,mr:=hx.mr }
theorem Rel.grown (h:Rel E g σ w) (hb:Below w.heap.size w w') {b:Nat} (hge:w.heap.size≤b) {cs:Array Value} {el:TypeId} {fz:Nat×Nat} (hw:w'.heap[b]?=some (.cells cs el fz)) {ys:List PV} (hl:ys.length≤cs.size) (hp:kD g ys (cs.toList.take ys.length)) :
  Rel E (g.cW b ys) σ w':=
 (h.below hb).Fl (Nat.le_trans h.size hge) (h.gl.Bw hge) (fun k hk q=>by have:=h.lt hk q;omega) hw hl hp
theorem tt (w:World) (e:TypeId) (s:ByteArray):Below w.heap.size w (Lib.bytesWorld w e s):=
 ⟨rfl,rfl,rfl,by rw[Lib.bytesWorld_size];omega,fun k hk=>Lib.bytesWorld_at_old w e s k hk⟩
end
def ofBytes (s:List UInt8):List Int:=s.map fun b=>(b.toNat:Int)
theorem vJ {g:Gh}:∀ l:List UInt8,kD g ((ofBytes l).flatMap fun x=>[PV.sc (.int .u8 x)]) (l.map fun b=>Value.int .u8 b.toNat)
 | []=>.nil
 | _::l=>.cons (.sc _) (vJ l)
section
variable {P:Program} {E:Env} {n:Nat} {ops:Array Oper} {Q:dD} {rest:List Oper} {l:List (Nat×AV)} {ds:List (FuncId×List AV)} {s:List (Nat×aZ)}
 {ty:TypeId} {pos:String} {af:Array Edge}
theorem Eg {d:Nat} {a b e:TypeId} {u:TypeDesc} {x:Operand} {c:List UInt8} {Cs:List Int→List PV} [hs:jH P a u] [ht:jH P b (.slice e)] [he:jH P e (.int .u8)] (hx:bF l x=some (aY c)) (hC:∀ l,Cs l=l.flatMap fun x=>[PV.sc (.int .u8 x)])
  (hd:Nat.blt d n=true) (hn:SL P E n ops Q rest (bU ((d,.pv (.sl (ofBytes c).length (Cs (ofBytes c))))::l) ds) (bw s)):SL P E n ops Q (⟨some d,.convert a b x,ty,pos,af,none⟩::rest) (bU l ds) (bw s):=by
 refine ia rfl ?_
 intro g act w K hR hF hK
 have q:=hF.eval x
 rw[aB hx] at q
 have hq:=q.dh
 have hrun:=Lib.run_convert_string_bytes w a b e ⟨c.toArray⟩ hs.h ht.h he.h
 have hev:(execOp act.eval ⟨some d,.convert a b x,ty,pos,af,none⟩).run P w=.ok (.value (.slice (some ⟨w.heap.size,0,none⟩) (ByteArray.size ⟨c.toArray⟩) (grownCap w (ByteArray.size ⟨c.toArray⟩) 0 e))) (Lib.bytesWorld w e ⟨c.toArray⟩):=by
  simp only[execOp,hq];simp[S,hrun]
 simp only[Oper.wp,hev,Oper.upon]
 have hsz:ByteArray.size ⟨c.toArray⟩=c.length:=by simp[ByteArray.size]
 have hnew:=Lib.bytesWorld_at_new w e ⟨c.toArray⟩
 have hfl:((ofBytes c).flatMap fun x=>[PV.sc (.int .u8 x)]).length=c.length:=by
  rw[gu (sz:=1) (fun _=>rfl)];simp[ofBytes]
 have hcl:(Lib.bytesCells w e ⟨c.toArray⟩).toList.take c.length=c.map fun b=>Value.int .u8 b.toNat:=by
  simp[Lib.bytesCells]
 have hR':=hR.grown (tt w e ⟨c.toArray⟩) (Nat.le_refl _) hnew (ys:=(ofBytes c).flatMap fun x=>[PV.sc (.int .u8 x)]) (by rw[hfl];simp[Lib.bytesCells]) (by rw[hfl,hcl];exact vJ c)
 refine hK _ _ _ _ _ hn hR' ((hF.le (nn:=fun _=>False) (jc.Dv (hR.gl.Bw (Nat.le_refl _))) fun k q=>q.elim).put (lC hd) ?_)
 rw[hC]
 have hcap:(ofBytes c).length≤grownCap w (ByteArray.size ⟨c.toArray⟩) 0 e:=by
  have:(ofBytes c).length=ByteArray.size ⟨c.toArray⟩:=by simp[ofBytes,hsz]
  rw[this];exact grownCap_ge _ _ _ _
 have e2:ByteArray.size ⟨c.toArray⟩=(ofBytes c).length:=by simp[ofBytes,hsz]
 rw[e2] at hcap ⊢
 exact .pv (.sl w.heap.size ((ofBytes c).flatMap fun x=>[PV.sc (.int .u8 x)]) 0 (ofBytes c).length _ _ (by simp[Gh.cW]) (by simp) (by rw[List.drop_zero,List.take_length]) hcap)
def Oi (e:Int):AV:=match e with
 | .ofNat 0=>Sc .nilIface
 | e=>.lr 213 (I e)
theorem Bx {q:Nat→Bool} {T:TypeId} {b:Bool}:(Oe T b).only q=true:=by cases b<;>rfl
theorem Cz {f:Nat→Nat} {T:TypeId} {b:Bool}:(Oe T b).fM f=Oe T b:=by cases b<;>rfl
theorem By {q:Nat→Bool} {e:Int}:(Oi e).only q=true:=by unfold Oi;split<;>rfl
theorem zF {f:Nat→Nat} {e:Int}:(Oi e).fM f=Oi e:=by unfold Oi;split<;>rfl
theorem CA {q:Nat→Bool} {v:AV} {e:Int} (h:v.only q=true):(AV.fH [v,Oi e]).only q=true:=by simp[AV.only,AV.only.jw,h,By]
theorem Eh {f:Nat→Nat} {v:AV} {e:Int}:(AV.fH [v,Oi e]).fM f=.fH [v.fM f,Oi e]:=by simp[AV.fM,AV.fM.kX,zF]
theorem zH {e:Int} (h:e≠0):Oi e=.lr 213 (I e):=by
 unfold Oi;split
 ·exact absurd rfl h
 ·rfl
theorem Ei {xt yt:TypeId} {x:Operand} {e:Int} [ht:Ae P xt] (hx:bF l x=some (Oi e)):ic P (.binOp .neq xt x (.const .nilIface) yt) l ds s (Bo (e !=0)) []:=by
 by_cases h:e=0
 ·subst h;exact sX hx
 ·rw[zH h] at hx
  have:(e !=0)=true:=by simpa using h
  rw[this];exact sW hx rfl
end
end Go.Abs
end
section
namespace Go.Abs
open aq
def oR:List UInt8→List UInt8→Option Nat
 | [],sub=>if sub.isEmpty then some 0 else none
 | b::l,sub=>if sub.isPrefixOf (b::l) then some 0 else match oR l sub with|some i=>some (i+1)|none=>none
def pw (sep:List UInt8):Nat→List UInt8→List (List UInt8)
 | 0,s=>[s]
 | k+1,s=>match oR s sep with|none=>[s]|some i=>s.take i::pw sep k (s.drop (i+sep.length))
def u7:Nat→Nat→List UInt8
 | 0,_=>[]
 | f+1,u=>if u<10 then [UInt8.ofNat (48+u)] else u7 f (u / 10)++[UInt8.ofNat (48+u % 10)]
def strings_Contains (a b:List UInt8):aq Bool:=gd (a.length<4294967281) (.ok (oR a b).isSome)
def strings_Split (a b:List UInt8):aq (List (List UInt8)):=gd (1≤b.length∧a.length<4294967281) (.ok (pw b (a.length+1) a))
def strings_LastIndex (a b:List UInt8):aq Int:=gd (a.length<4611686018427387904) (.ok (Lib.lastIndex a b))
def strings_Cut (a b:List UInt8):aq (List UInt8×List UInt8×Bool):=
 gd (a.length<4294967281) (.ok (match oR a b with|some i=>(a.take i,a.drop (i+b.length),true)|none=>(a,[],false)))
def strings_IndexByte (a:List UInt8) (b:Int):aq Int:=.ok (match a.findIdx? (·==UInt8.ofNat b.toNat) with|some i=>(i:Int)|none=>-1)
def gW (a b:Int):aq (List UInt8):=gd (b=10∧0≤a∧a<18446744073709551616) (.ok (u7 20 a.toNat))
def lG (a:List UInt8) (b c:Int):aq (Int×Bool):=
 gd (b=10∧c=64∧a.length≤281474976710656) (.ok (match Lib.parseIntB 64 a with|.ok v=>(v,false)|Lib.NumEnd.syntax=>(0,true)|.range=>(Lib.intSat 64 a,true)))
def my (_ s:List UInt8) (_ _ e:Int):aq Bool:=gd ((e=1∨e=2)∧s.length≤281474976710656) (.ok true)
end Go.Abs
end
section
namespace Go.Abs
open aq
section
variable {α β X:Type} {Q Q':α→Prop} {R R':pj→Prop} {F G:Nat→aq α}
theorem Ev.kc {l:List X} {j:Int} {K:Nat→X→aq α} (h:0≤j∧j<l.length) (hk:∀ x,l[j.toNat]?=Option.some x→Ev (fun i=>K i x) Q R):Ev (fun i=>aq.el l j (K i)) Q R:=Ev.el h.1 h.2 hk
theorem Ev.aU {p:Prop} [Decidable p] (ht:p→Ev F Q R) (hf:¬ p→Ev G Q R):Ev (fun i=>aq.br (decide p) (F i) (G i)) Q R:=
 Ev.br (fun h=>ht (of_decide_eq_true h)) (fun h=>hf (of_decide_eq_false h))
theorem Ev.bk [BEq β] [LawfulBEq β] {a b:β} (ht:a=b→Ev F Q R) (hf:a≠b→Ev G Q R):Ev (fun i=>aq.br (a==b) (F i) (G i)) Q R:=
 Ev.br (fun h=>ht (beq_iff_eq.1 h)) (fun h=>hf fun e=>by subst e;simp at h)
theorem Ev.bN [BEq β] [LawfulBEq β] {a b:β} (ht:a≠b→Ev F Q R) (hf:a=b→Ev G Q R):Ev (fun i=>aq.br (a !=b) (F i) (G i)) Q R:=
 Ev.br (fun h=>ht fun e=>by subst e;simp at h) (fun h=>hf (by simpa using h))
theorem Ev.bh {b:Bool} (ht:b=false→Ev F Q R) (hf:b=true→Ev G Q R):Ev (fun i=>aq.br (!b) (F i) (G i)) Q R:=
 Ev.br (fun h=>ht (by simpa using h)) (fun h=>hf (by simpa using h))
theorem Ev.cw (h:Ev F Q R):Ev (fun i=>aq.br true (F i) (G i)) Q R:=h
theorem Ev.b7 (h:Ev G Q R):Ev (fun i=>aq.br false (F i) (G i)) Q R:=h
theorem Ev.jd {j:Nat→X→aq α} {p:Nat→(X→aq α)→aq α} (h:Ev (fun i=>p i (j i)) Q R):Ev (fun i=>aq.jn (j i) (p i)) Q R:=h
theorem Ev.uz {F:Nat→aq α} {K:Nat→α→aq β} {Qb:β→Prop} (h:Ev F Q fun _=>False) (hk:∀ a,Q a→Ev (fun i=>K i a) Qb R):Ev (fun i=>aq.bind (F i) (K i)) Qb R:=
 Ev.bind h (fun _ q=>q.elim) hk
end
theorem ry {c:List UInt8} {i j:Int} (h0:0≤i) (h1:i≤j) (h2:j≤c.length):((sub c i j).length:Int)=j - i:=by
 simp only[sub,List.length_take,List.length_drop];omega
theorem kf {c:List UInt8} {i:Int} (h0:0≤i) (h1:i≤c.length):((dO c i).length:Int)=c.length - i:=by
 simp only[dO,List.length_drop];omega
theorem vK {c:List UInt8} {j:Int} (h0:0≤j) (h1:j≤c.length):((jJ c j).length:Int)=j:=by
 simp only[jJ,List.length_take];omega
theorem uA {c:List UInt8} {j:Int}:(jJ c j).length≤c.length:=by simp only[jJ,List.length_take];omega
theorem uB (sep:List UInt8):∀ (k:Nat) (s:List UInt8),(pw sep k s).length≤k+1
 | 0,_=>by simp[pw]
 | k+1,s=>by
  unfold pw
  split
  ·simp
  ·have:=uB sep k (s.drop (by assumption+sep.length));simp;omega
theorem xy:∀ (f u:Nat),(u7 f u).length≤f
 | 0,_=>by simp[u7]
 | f+1,u=>by
  unfold u7;split
  ·simp
  ·have:=xy f (u / 10);simp;omega
theorem Bz (f u:Nat):1≤(u7 (f+1) u).length:=by
 unfold u7;split
 ·simp
 ·simp
theorem wrap_u64 (x:Int):0≤IntKind.wrap .u64 x∧IntKind.wrap .u64 x<18446744073709551616:=by
 have:IntKind.wrap .u64 x=x % 18446744073709551616:=by simp[IntKind.wrap,IntKind.bits,IntKind.signed]
 rw[this];omega
end Go.Abs
end
section
namespace Go.Abs
open aq
def RS {α β:Type} (V:α→β→Prop) (x:aq α) (y:aq β):Prop:=∀ a,x=.ok a→y=.stuck∨∃ b,y=.ok b∧V a b
section
variable {α β γ δ X Y:Type} {V V':α→β→Prop} {W:γ→δ→Prop}
theorem RS.ok {a:α} {b:β} (h:V a b):RS V (.ok a) (.ok b):=fun _ e=>by cases e;exact .inr ⟨b,rfl,h⟩
theorem RS.ll {p:pj} {y:aq β}:RS V (.ll p) y:=fun _ e=>by cases e
theorem RS.nil {y:aq β}:RS V .stuck y:=fun _ e=>by cases e
theorem RS.BA {x:aq α}:RS V x .stuck:=fun _ _=>.inl rfl
theorem RS.bind {x:aq γ} {y:aq δ} {f:γ→aq α} {g:δ→aq β} (h:RS W x y) (hk:∀ a b,W a b→RS V (f a) (g b)):RS V (aq.bind x f) (aq.bind y g):=by
 intro a e
 cases x with
 | stuck=>cases e
 | ll p=>cases e
 | ok c=>
  rcases h c rfl with q|⟨d,q,hd⟩
  ·subst q;exact .inl rfl
  ·subst q;exact hk c d hd a e
theorem RS.same {x:aq γ} {f:γ→aq α} {g:γ→aq β} (hk:∀ a,x=.ok a→RS V (f a) (g a)):RS V (aq.bind x f) (aq.bind x g):=
 RS.bind (W:=fun a b=>x=.ok a∧b=a) (fun a e=>.inr ⟨a,e,e,rfl⟩) fun a b h=>by rw[h.2];exact hk a h.1
theorem RS.br {b c:Bool} {x x':aq α} {y y':aq β} (h:c=b) (ht:b=true→RS V x y) (hf:b=false→RS V x' y'):RS V (aq.br b x x') (aq.br c y y'):=by
 subst h
 cases c with
 | true=>exact ht rfl
 | false=>exact hf rfl
theorem RS.F4 {b:Bool} {x x':aq α} {y:aq β} (ht:b=true→RS V x y) (hf:b=false→RS V x' y):RS V (aq.br b x x') y:=by
 cases b with
 | true=>exact ht rfl
 | false=>exact hf rfl
theorem RS.F5 {b:Bool} {x:aq α} {y y':aq β} (ht:b=true→RS V x y) (hf:b=false→RS V x y'):RS V x (aq.br b y y'):=by
 cases b with
 | true=>exact ht rfl
 | false=>exact hf rfl
theorem RS.gd {p p':Prop} [Decidable p] [Decidable p'] {x:aq α} {y:aq β} (h:p→p'→RS V x y):RS V (aq.gd p x) (aq.gd p' y):=by
 unfold aq.gd
 split
 ·split
  ·exact h ‹_› ‹_›
  ·exact RS.BA
 ·exact RS.nil
theorem RS.el {l:List X} {l':List Y} {j j':Int} {K:X→aq α} {K':Y→aq β} (h:∀ x y,0≤j→0≤j'→l[j.toNat]?=some x→l'[j'.toNat]?=some y→RS V (K x) (K' y)):RS V (aq.el l j K) (aq.el l' j' K'):=by
 unfold aq.el
 split
 ·split
  ·split
   ·split
    ·exact h _ _ ‹_› ‹_› ‹_› ‹_›
    ·exact RS.BA
   ·exact RS.BA
  ·exact RS.nil
 ·exact RS.nil
theorem RS.some {o:Option X} {o':Option Y} {K:X→aq α} {K':Y→aq β} (h:∀ x y,o=some x→o'=some y→RS V (K x) (K' y)):RS V (aq.some? o K) (aq.some? o' K'):=by
 cases o with
 | none=>exact RS.nil
 | some x=>cases o' with
  | none=>exact RS.BA
  | some y=>exact h x y rfl rfl
theorem RS.jn {j:X→aq α} {j':Y→aq β} {p:(X→aq α)→aq α} {p':(Y→aq β)→aq β} (J:X→Y→Prop) (hj:∀ v w,J v w→RS V (j v) (j' w))
  (hp:∀ (j:X→aq α) (j':Y→aq β),(∀ v w,J v w→RS V (j v) (j' w))→RS V (p j) (p' j')):RS V (aq.jn j p) (aq.jn j' p'):=hp j j' hj
theorem RS.iter {body:(X→aq α)→X→aq α} {body':(Y→aq β)→Y→aq β} (I:X→Y→Prop)
  (hb:∀ x y,I x y→∀ (next:X→aq α) (next':Y→aq β),(∀ v w,I v w→RS V (next v) (next' w))→RS V (body next x) (body' next' y)) :
  ∀ (n n':Nat) {x:X} {y:Y},I x y→RS V (aq.iter body n x) (aq.iter body' n' y)
 | 0,_,_,_,_=>RS.nil
 | _+1,0,_,_,_=>RS.BA
 | n+1,n'+1,x,y,h=>hb x y h _ _ fun _ _ q=>RS.iter I hb n n' q
theorem RS.vI {x:aq α} {y:aq β} {H:pj→aq α} {H':pj→aq β} (h:RS V x y) (hr:∀ p a,x=.ll p→H p=.ok a→(∀ b,y=.ok b→V a b)∧∀ q,y=.ll q→H' q=.stuck∨∃ b,H' q=.ok b∧V a b):RS V (nv x H) (nv y H'):=by
 intro a e
 cases x with
 | stuck=>cases e
 | ok c=>
  cases e
  rcases h a rfl with q|⟨d,q,hd⟩
  ·subst q;exact .inl rfl
  ·subst q;exact .inr ⟨d,rfl,hd⟩
 | ll p=>
  obtain ⟨h1,h2⟩:=hr p a rfl e
  cases y with
  | stuck=>exact .inl rfl
  | ok b=>exact .inr ⟨b,rfl,h1 b rfl⟩
  | ll q=>exact h2 q rfl
theorem Ev.follow {F:Nat→aq α} {G:Nat→aq β} {m:Nat→Nat} {a:α} {Q:β→Prop} {R:pj→Prop} (hm:bZ m) (hF:∃ N,∀ i,N≤i→F i=.ok a) (hG:Ev (fun i=>G (m i)) Q R) (h:∀ i,RS V (F i) (G i)) :
  Ev (fun i=>G (m i)) (fun b=>Q b∧V a b) fun _=>False:=by
 obtain ⟨r,h1,N,hN⟩:=hG
 obtain ⟨M,hM⟩:=hF
 obtain ⟨M',hM'⟩:=hm M
 have e:=hN (N+M') (by omega)
 dsimp only at e
 have e2:=hM (m (N+M')) (hM' _ (by omega))
 rcases h (m (N+M')) a e2 with q|⟨b,q,hb⟩
 ·rw[q] at e;subst e;exact h1.elim
 ·rw[q] at e;subst e;exact ⟨.ok b,⟨h1,hb⟩,N,hN⟩
theorem Ev.self {F:Nat→aq α} {Q:α→Prop} {R:pj→Prop} (h:Ev F Q R):Ev F (fun a=>Q a∧∃ N,∀ i,N≤i→F i=.ok a) R:=by
 obtain ⟨r,h1,N,hN⟩:=h
 refine ⟨r,?_,N,hN⟩
 cases r with
 | stuck=>exact h1
 | ok a=>exact ⟨h1,N,hN⟩
 | ll p=>exact h1
end
def LR {X Y:Type} (R:X→Y→Prop) (l:List X) (l':List Y):Prop:=l.length=l'.length∧∀ (i:Nat) x y,l[i]?=some x→l'[i]?=some y→R x y
section
variable {X Y:Type} {R:X→Y→Prop}
theorem LR.nil:LR R [] []:=⟨rfl,fun i x y h=>by simp at h⟩
theorem LR.cons {l:List X} {l':List Y} {x:X} {y:Y} (h:R x y) (h':LR R l l'):LR R (x::l) (y::l'):=by
 refine ⟨by simp[h'.1],fun i a b ha hb=>?_⟩
 cases i with
 | zero=>simp at ha hb;subst ha hb;exact h
 | succ i=>simp at ha hb;exact h'.2 i a b ha hb
theorem LR.one {x:X} {y:Y} (h:R x y):LR R [x] [y]:=.cons h .nil
theorem LR.two {x a:X} {y b:Y} (h:R x y) (h':R a b):LR R [x,a] [y,b]:=.cons h (.one h')
theorem LR.snoc {l:List X} {l':List Y} {x:X} {y:Y} (h':LR R l l') (h:R x y):LR R (l++[x]) (l'++[y]):=by
 refine ⟨by simp[h'.1],fun i a b ha hb=>?_⟩
 have hl:=h'.1
 by_cases q:i<l.length
 ·rw[List.getElem?_append_left q] at ha
  rw[List.getElem?_append_left (by omega)] at hb
  exact h'.2 i a b ha hb
 ·rw[List.getElem?_append_right (by omega)] at ha
  rw[List.getElem?_append_right (by omega)] at hb
  have:=(List.getElem?_eq_some_iff.1 ha).1
  simp at this
  rw[show i - l.length=0 by omega] at ha
  rw[show i - l'.length=0 by omega] at hb
  simp at ha hb;subst ha hb;exact h
theorem LR.set {l:List X} {l':List Y} {x:X} {y:Y} (h':LR R l l') (h:R x y) (j:Nat):LR R (l.set j x) (l'.set j y):=by
 refine ⟨by simp[h'.1],fun i a b ha hb=>?_⟩
 have hl:=h'.1
 by_cases q:j=i
 ·subst q
  have h1:=(List.getElem?_eq_some_iff.1 ha).1
  have h2:=(List.getElem?_eq_some_iff.1 hb).1
  simp at h1 h2
  rw[List.getElem?_set_self h1] at ha
  rw[List.getElem?_set_self h2] at hb
  cases ha;cases hb;exact h
 ·rw[List.getElem?_set_ne q] at ha hb
  exact h'.2 i a b ha hb
end
end Go.Abs
end
section
namespace Go.Abs
open aq
section
variable {P:Program} {E:Env} {n:Nat} {ops:Array Oper} {Q:dD} {rest:List Oper} {l:List (Nat×AV)} {ds:List (FuncId×List AV)} {s:List (Nat×aZ)}
 {ty:TypeId} {pos:String} {af:Array Edge} {d:Nat}
theorem p1 {α β:Type} {a c:α} {b e:β} (h:(a,b)=(c,e)):a=c:=congrArg Prod.fst h
theorem p2 {α β:Type} {a c:α} {b e:β} (h:(a,b)=(c,e)):b=e:=congrArg Prod.snd h
theorem zm {x:Operand} {v:AV} (h:(bF l x,Nat.blt d n)=(some v,true)) (hn:SL P E n ops Q rest (bU ((d,v)::l) ds) (bw s)):SL P E n ops Q (⟨some d,.move x,ty,pos,af,none⟩::rest) (bU l ds) (bw s):=
 an (au (p1 h)) (p2 h) hn
theorem za {x:Operand} {v:AV} (h:(bF l x,Nat.blt d n)=(some v,true)) (hn:SL P E n ops Q rest (bU ((d,v)::l) ds) (bw s)):SL P E n ops Q (⟨some d,.assign x,ty,pos,af,none⟩::rest) (bU l ds) (bw s):=
 an (AR (p1 h)) (p2 h) hn
theorem zn {x:Operand} {k off:Nat} (h:(bF l x,Nat.blt d n)=(some (.ptr k off),true)) (hn:SL P E n ops Q rest (bU ((d,.ptr k off)::l) ds) (bw s)):SL P E n ops Q (⟨some d,.nilCheck x,ty,pos,af,none⟩::rest) (bU l ds) (bw s):=
 an (cP (p1 h)) (p2 h) hn
theorem zf {t:TypeId} {x:Operand} {f k off m:Nat} [hf:kU P t f m] (h:(bF l x,Nat.blt d n)=(some (.ptr k off),true)) (hn:SL P E n ops Q rest (bU ((d,.ptr k (off+m))::l) ds) (bw s)) :
  SL P E n ops Q (⟨some d,.fieldAddr t x f,ty,pos,af,none⟩::rest) (bU l ds) (bw s):=an (bD (p1 h)) (p2 h) hn
theorem zl {t:TypeId} {x:Operand} {k off:Nat} {e:aZ} {v:AV} [ha:gR P t false] (h:(bF l x,dj s k,e.cells[off]?,Nat.blt d n)=(some (.ptr k off),some e,some v,true))
  (hn:SL P E n ops Q rest (bU ((d,v)::l) ds) (bw s)):SL P E n ops Q (⟨some d,.load t x,ty,pos,af,none⟩::rest) (bU l ds) (bw s):=an (ba (p1 h) (p1 (p2 h)) (p1 (p2 (p2 h)))) (p2 (p2 (p2 h))) hn
theorem zA {t:TypeId} {x:Operand} {k off m:Nat} {e:aZ} {cs:List AV} [ha:gR P t true] [hz:ls P t m] (h:(bF l x,dj s k,Nat.ble (off+m) e.cells.length,(e.cells.drop off).take m,Nat.blt d n)=(some (.ptr k off),some e,true,cs,true))
  (hn:SL P E n ops Q rest (bU ((d,.agg cs)::l) ds) (bw s)):SL P E n ops Q (⟨some d,.load t x,ty,pos,af,none⟩::rest) (bU l ds) (bw s):=an (jy (p1 h) (p1 (p2 h)) (p1 (p2 (p2 h))) (p1 (p2 (p2 (p2 h))))) (p2 (p2 (p2 (p2 h)))) hn
theorem zc {op:BinOp} {xt yt:TypeId} {x y:Operand} {k:IntKind} {a b:Int} {r:Bool} (h:(bF l x,bF l y,Cb op a b,Nat.blt d n)=(some (Sc (.int k a)),some (Sc (.int k b)),some r,true))
  (hn:SL P E n ops Q rest (bU ((d,Bo r)::l) ds) (bw s)):SL P E n ops Q (⟨some d,.binOp op xt x y yt,ty,pos,af,none⟩::rest) (bU l ds) (bw s):=an (bg (p1 h) (p1 (p2 h)) (p1 (p2 (p2 h)))) (p2 (p2 (p2 h))) hn
theorem zy {c a b:Operand} {v:AV} {t:Bool} (ht:t=true) (h:(bF l c,bF l a,Nat.blt d n)=(some (Bo t),some v,true)) (hn:SL P E n ops Q rest (bU ((d,v)::l) ds) (bw s)) :
  SL P E n ops Q (⟨some d,.pick c a b,ty,pos,af,none⟩::rest) (bU l ds) (bw s):=an (cT ht (p1 h) (p1 (p2 h))) (p2 (p2 h)) hn
theorem zw {c a b:Operand} {v:AV} {t:Bool} (ht:t=false) (h:(bF l c,bF l b,Nat.blt d n)=(some (Bo t),some v,true)) (hn:SL P E n ops Q rest (bU ((d,v)::l) ds) (bw s)) :
  SL P E n ops Q (⟨some d,.pick c a b,ty,pos,af,none⟩::rest) (bU l ds) (bw s):=an (cO ht (p1 h) (p1 (p2 h))) (p2 (p2 h)) hn
theorem zt {c a b:Operand} {v:AV} (h:(bF l c,bF l a,Nat.blt d n)=(some (Bo true),some v,true)) (hn:SL P E n ops Q rest (bU ((d,v)::l) ds) (bw s)) :
  SL P E n ops Q (⟨some d,.pick c a b,ty,pos,af,none⟩::rest) (bU l ds) (bw s):=an (tJ (p1 h) (p1 (p2 h))) (p2 (p2 h)) hn
theorem zo {xt yt:TypeId} {x y:Operand} {a b:Int} (hg:-9223372036854775808≤a+b∧a+b≤9223372036854775807) (h:(bF l x,bF l y,Nat.blt d n)=(some (I a),some (I b),true))
  (hn:SL P E n ops Q rest (bU ((d,I (a+b))::l) ds) (bw s)):SL P E n ops Q (⟨some d,.binOp .add xt x y yt,ty,pos,af,none⟩::rest) (bU l ds) (bw s):=an (kZ (p1 h) (p1 (p2 h)) hg) (p2 (p2 h)) hn
theorem zx {x:Operand} {i:Nat} {vs:List AV} {v:AV} (h:(bF l x,vs[i]?,Nat.blt d n)=(some (.fH vs),some v,true)) (hn:SL P E n ops Q rest (bU ((d,v)::l) ds) (bw s)) :
  SL P E n ops Q (⟨some d,.extract x i,ty,pos,af,none⟩::rest) (bU l ds) (bw s):=an (oI (p1 h) (p1 (p2 h))) (p2 (p2 h)) hn
theorem zg {j g:Nat} {op:Op} {want b:Bool} (hb:b = !want) (h:((ops[j]?).bind (·.dst),jx l g,Nat.blt d n)=(some g,some (Bo b),true))
  (hn:SL P E n ops Q rest (bU ((d,Sc undef)::l) ds) (bw s)):SL P E n ops Q (⟨some d,op,ty,pos,af,some (j,want)⟩::rest) (bU l ds) (bw s):=Fc hb ⟨p1 h,p1 (p2 h)⟩ (p2 (p2 h)) hn
theorem zG {j g:Nat} {op:Op} {v:AV} {rd:List (Nat×aZ)} {want b:Bool} (hb:b=want) (h:((ops[j]?).bind (·.dst),jx l g,Nat.blt d n)=(some g,some (Bo b),true))
  (he:ic P op l ds s v rd) (hn:SL P E n ops Q rest (bU ((d,v)::l) ds) (bw s)):SL P E n ops Q (⟨some d,op,ty,pos,af,some (j,want)⟩::rest) (bU l ds) (bw s):=Fb hb ⟨p1 h,p1 (p2 h)⟩ he (p2 (p2 h)) hn
theorem zu {j g:Nat} {op:Op} {want:Bool} (h:((ops[j]?).bind (·.dst),jx l g,Nat.blt d n)=(some g,some (Sc undef),true))
  (hn:SL P E n ops Q rest (bU ((d,Sc undef)::l) ds) (bw s)):SL P E n ops Q (⟨some d,op,ty,pos,af,some (j,want)⟩::rest) (bU l ds) (bw s):=E2 ⟨p1 h,p1 (p2 h)⟩ (p2 (p2 h)) hn
theorem zs {t:TypeId} {x y:Operand} {k off m:Nat} {e:aZ} {v:AV} {c:List AV} [ht:ls P t m]
  (h:(bF l x,dj s k,e.uo,bF l y,v.eU,AV.iF c,c.length,Nat.ble (off+c.length) e.cells.length)=(some (.ptr k off),some e,true,some v,some c,true,m,true))
  (hn:SL P E n ops Q rest (bU l ds) (bw ((k,e.put off c)::s))):SL P E n ops Q (⟨none,.store t x y,ty,pos,af,none⟩::rest) (bU l ds) (bw s):=
 AT ⟨p1 h,p1 (p2 h),p1 (p2 (p2 h)),p1 (p2 (p2 (p2 h))),p1 (p2 (p2 (p2 (p2 h)))),p1 (p2 (p2 (p2 (p2 (p2 h))))),p1 (p2 (p2 (p2 (p2 (p2 (p2 h)))))),p2 (p2 (p2 (p2 (p2 (p2 (p2 h))))))⟩ (fun _ q=>q▸hn)
def xz (E:Env) (ds:List (FuncId×List AV)) (l:List (Nat×AV)) (s:List (Nat×aZ)) (ks:List Nat) (f:Operand) (args:List Operand) (fid:FuncId) (argsC:List AV) (es:List aZ) (first cap vs:List AV) (l':List (Nat×AV)) (d n:Nat):Prop:=
 (bF l f,rM l args,first++vs++cap,sj s ks,nodupB ks,yO l' ds s ks ks es,u5 E ks es,Nat.blt d n)=(some (.fn fid first cap),some vs,AV.fM.kX (nth ks) argsC,some (jz (nth ks) es),true,true,True,true)
theorem xz.ok {ks:List Nat} {f:Operand} {args:List Operand} {fid:FuncId} {argsC:List AV} {es:List aZ} {first cap vs:List AV} {l':List (Nat×AV)} (h:xz E ds l s ks f args fid argsC es first cap vs l' d n) :
  kK E ds l s ks f args fid argsC es first cap vs l':=
 ⟨p1 h,p1 (p2 h),p1 (p2 (p2 h)),p1 (p2 (p2 (p2 h))),p1 (p2 (p2 (p2 (p2 h)))),p1 (p2 (p2 (p2 (p2 (p2 h))))),of_eq_true (p1 (p2 (p2 (p2 (p2 (p2 (p2 h)))))))⟩
theorem xz.bl {ks:List Nat} {f:Operand} {args:List Operand} {fid:FuncId} {argsC:List AV} {es:List aZ} {first cap vs:List AV} {l':List (Nat×AV)} (h:xz E ds l s ks f args fid argsC es first cap vs l' d n) :
  Nat.blt d n=true:=p2 (p2 (p2 (p2 (p2 (p2 (p2 h))))))
theorem zk {X R:Type} {res:aq X} {kk:X→aq R} {r:aq R} {V V':X→AV} {C:X→List aZ} {C':X→List (Nat×aZ)} {f:Operand} {args:List Operand} {ts:Array TypeId} {fid:FuncId}
  {argsC first cap vs:List AV} {es:List aZ} (hp:∀ p fr σ,fr.ds=ds→r=.ll p→Q (.panic p.av) fr σ) (hr:r≠.stuck) (h:aq.bind res kk=r) (ks:List Nat) (hen:Enters P fid)
  (hC:CT P fid argsC es res V C) (hk:(bF l f,rM l args,first++vs++cap,sj s ks,nodupB ks,yO l ds s ks ks es,u5 E ks es,Nat.blt d n)=(some (.fn fid first cap),some vs,AV.fM.kX (nth ks) argsC,some (jz (nth ks) es),true,true,True,true))
  (hx:∀ x,((C x).length,iO (below ks.length) (C x),(V x).only (below ks.length),(V x).fM (nth ks),kJ ks (jz (nth ks) (C x)))=(ks.length,true,true,V' x,C' x))
  (hret:∀ x,kk x=r→SL P E n ops Q rest (bU ((d,V' x)::l) ds) (bw (C' x++s))) :
  SL P E n ops Q (⟨some d,.call ⟨.value f,args.toArray,ts⟩,ty,pos,af,none⟩::rest) (bU l ds) (bw s):=
 iQ hr h ks hen hC (xz.ok (d:=d) (n:=n) hk) (xz.bl hk) (fun x=>⟨p1 (hx x),p1 (p2 (hx x)),p1 (p2 (p2 (hx x)))⟩) (fun x=>⟨p1 (p2 (p2 (p2 (hx x)))),p2 (p2 (p2 (p2 (hx x))))⟩) hp hret
theorem zK {j g:Nat} {want b:Bool} {X R:Type} {res:aq X} {kk:X→aq R} {r:aq R} {V V':X→AV} {C:X→List aZ} {C':X→List (Nat×aZ)} {f:Operand} {args:List Operand} {ts:Array TypeId} {fid:FuncId}
  {argsC first cap vs:List AV} {es:List aZ} (hb:b=want) (hj:((ops[j]?).bind (·.dst),jx l g)=(some g,some (Bo b))) (hp:∀ p fr σ,fr.ds=ds→r=.ll p→Q (.panic p.av) fr σ) (hr:r≠.stuck) (h:aq.bind res kk=r) (ks:List Nat) (hen:Enters P fid)
  (hC:CT P fid argsC es res V C) (hk:(bF l f,rM l args,first++vs++cap,sj s ks,nodupB ks,yO l ds s ks ks es,u5 E ks es,Nat.blt d n)=(some (.fn fid first cap),some vs,AV.fM.kX (nth ks) argsC,some (jz (nth ks) es),true,true,True,true))
  (hx:∀ x,((C x).length,iO (below ks.length) (C x),(V x).only (below ks.length),(V x).fM (nth ks),kJ ks (jz (nth ks) (C x)))=(ks.length,true,true,V' x,C' x))
  (hret:∀ x,kk x=r→SL P E n ops Q rest (bU ((d,V' x)::l) ds) (bw (C' x++s))) :
  SL P E n ops Q (⟨some d,.call ⟨.value f,args.toArray,ts⟩,ty,pos,af,some (j,want)⟩::rest) (bU l ds) (bw s):=
 A0 hb ⟨p1 hj,p2 hj⟩ hr h ks hen hC (xz.ok (d:=d) (n:=n) hk) (xz.bl hk) (fun x=>⟨p1 (hx x),p1 (p2 (hx x)),p1 (p2 (p2 (hx x)))⟩) (fun x=>⟨p1 (p2 (p2 (p2 (hx x)))),p2 (p2 (p2 (p2 (hx x))))⟩) hp hret
theorem zC {f:FuncId} {fn:Func} {c:Code} {args:List AV} {es:List aZ} {X:Type} {res:aq X} {V:X→AV} {C:X→List aZ} (hf:P.funcs[f]?=some fn) (hb:(fn.body,Nat.ble args.length fn.ntmps)=(some c,true))
  (h:∀ r,(∀ p fr (σ:b5),fr.ds=[]→r=.ll p→mM P fn (ph V C (fun x=>r=.ok x) (fun v=>∃ p,r=.ll p∧v=p.av)) (.panic p.av) fr σ)→res=r→r≠.stuck→∀ E:Env,(∀ k,jT es k=true→E.fix k=none)→
   SW P E fn.ntmps c (mM P fn (ph V C (fun x=>r=.ok x) (fun v=>∃ p,r=.ll p∧v=p.av))) (bU ((List.range args.length).zip args) []) (bw (dZ 0 es))):CT P f args es res V C:=
 Co hf (p1 hb) (p2 hb) fun r hr hs=>h r (fun _ _ _ hd hp=>wv hd hp) hr hs
theorem zB {R:Type} {c:Operand} {x y:Code} {b:Bool} {u v r:aq R} (hb:bF l c=some (Bo b)) (h:br b u v=r) (ht:b=true→u=r→SW P E n x Q (bU l ds) (bw s)) (hf:b=false→v=r→SW P E n y Q (bU l ds) (bw s)):SW P E n (.cond c x y) Q (bU l ds) (bw s):=
 cN hb (fun q=>ht q (E8 q h)) (fun q=>hf q (E9 q h))
theorem zd {R:Type} {p:Prop} [Decidable p] {x r:aq R} {q:Prop} (hr:r≠.stuck) (h:gd p x=r) (k:p→x=r→q):q:=k (DT hr h).1 (DT hr h).2
theorem ze {R β:Type} {l:List β} {i:Int} {k:β→aq R} {r:aq R} {q:Prop} (hr:r≠.stuck) (h:el l i k=r) (c:∀ x,0≤i→i<l.length→l[i.toNat]?=some x→k x=r→q):q:=
 let ⟨x,a,b,d,e⟩:=FL hr h;c x a b d e
theorem z1 {R:Type} {b:Bool} {u v r:aq R} {q:Prop} (hb:b=true) (h:br b u v=r) (k:u=r→q):q:=k (E8 hb h)
theorem z2 {R:Type} {b:Bool} {u v r:aq R} {q:Prop} (hb:b=false) (h:br b u v=r) (k:v=r→q):q:=k (E9 hb h)
theorem zb {q:Prop} (b:Bool) (h1:b=true→q) (h2:b=false→q):q:=by cases b;exact h2 rfl;exact h1 rfl
def gF (l:List (Nat×AV)):List (Nat×AV)→List (Option AV)
 | []=>[]
 | (i,_)::F=>jx l i::gF l F
def gS (s:List (Nat×aZ)):List (Nat×aZ)→List (Option aZ)
 | []=>[]
 | (i,_)::F=>dj s i::gS s F
theorem CB {l G:List (Nat×AV)}:∀ {F:List (Nat×AV)},gF l F=gF G F→rN l G F
 | [],_=>trivial
 | (_,_)::_,h=>⟨(List.cons.inj h).1,CB (List.cons.inj h).2⟩
theorem CC {l G:List (Nat×aZ)}:∀ {F:List (Nat×aZ)},gS l F=gS G F→sn l G F
 | [],_=>trivial
 | (_,_)::_,h=>⟨(List.cons.inj h).1,CC (List.cons.inj h).2⟩
theorem zM {X R:Type} {x y:Code} {j:X→aq R} {p:(X→aq R)→aq R} {r:aq R} (h:jn j p=r) (F:X→List (Nat×AV)) (H:X→List (Nat×aZ))
  (hy:∀ v,j v=r→SW P E n y Q (bU (F v) ds) (bw (H v)))
  (hx:∀ (j':X→aq R) (K:dX→b5→Prop),(∀ v l s,j' v=r→(gF l (F v),gS s (H v))=(gF (F v) (F v),gS (H v) (H v))→K (bU l ds) (bw s))→p j'=r→SW P E n x (ti K Q) (bU l ds) (bw s)):SW P E n (.seq x y) Q (bU l ds) (bw s):=
 Cp F H (fun v=>j v=r) hy (fun K hK=>hx j K (fun v l s a b=>hK v l s a (CB (p1 b)) (CC (p2 b))) h)
theorem zL {X R:Type} {c:Code} {body:(X→aq R)→X→aq R} {r:aq R} {m:Nat} {v:X} (hr:r≠.stuck) (h0:iter body m v=r) (F:X→List (Nat×AV)) (H:X→List (Nat×aZ))
  (h1:(gF l (F v),gS s (H v))=(gF (F v) (F v),gS (H v) (H v)))
  (hx:∀ (next:X→aq R) (v:X) (K:dX→b5→Prop),(∀ v l s,next v=r→(gF l (F v),gS s (H v))=(gF (F v) (F v),gS (H v) (H v))→K (bU l ds) (bw s))→body next v=r→SW P E n c (ti K Q) (bU (F v) ds) (bw (H v))) :
  SW P E n (.loop c) Q (bU l ds) (bw s):=
 z6 F H body r m v hr h0 (CB (p1 h1)) (CC (p2 h1)) (fun next v K hK h=>hx next v K (fun v l s a b=>hK v l s a (CB (p1 b)) (CC (p2 b))) h)
theorem zQ {c:Code} {Q':dD} {fr:dX} {σ:b5} (k:∀ fr σ,SW P E n c Q' fr σ→Q .normal fr σ) (h:SW P E n c Q' fr σ):SL P E n ops Q [] fr σ:=ao (k _ _ h)
def gM (s:List (Nat×aZ)):Nat→List aZ→List (Option aZ)
 | _,[]=>[]
 | i,_::es=>dj s i::gM s (i+1) es
theorem Ej {s:List (Nat×aZ)}:∀ {es:List aZ} {i:Nat},gM s i es=es.map some→sR s i es
 | [],_,_=>trivial
 | _::_,_,h=>⟨(List.cons.inj h).1,Ej (List.cons.inj h).2⟩
theorem zX {fn:Func} {X:Type} {V:X→AV} {C:X→List aZ} {r:aq X} {H:AV→Prop} {vs:List AV} {x:X} (hr:zV P (bU l []) (bw s) fn.results.toList vs) (hg:.ok x=r) (hm:(mu vs,gM s 0 (C x))=(V x,(C x).map some)) :
  mM P fn (ph V C (fun x=>r=.ok x) H) .ret (bU l []) (bw s):=lX (.inl rfl) x hr hg.symm (p1 hm▸AV.le_refl _) (Ej (p2 hm))
theorem zY {fn:Func} {X:Type} {V:X→AV} {C:X→List aZ} {r:aq X} {H:AV→Prop} {vs:List AV} {x:X} (hr:zV P (bU l []) (bw s) fn.results.toList vs) (hg:.ok x=r) (hm:(mu vs,gM s 0 (C x))=(V x,(C x).map some)) :
  mM P fn (ph V C (fun x=>r=.ok x) H) .normal (bU l []) (bw s):=lX (.inr rfl) x hr hg.symm (p1 hm▸AV.le_refl _) (Ej (p2 hm))
end
section
variable {P:Program} {E:Env} {n:Nat} {ops:Array Oper} {Q:dD} {B:List Rec→dX→b5→Prop} {i:Nat} {L:List Nat} {recs:List Rec} {l:List (Nat×AV)} {ds:List (FuncId×List AV)} {s:List (Nat×aZ)}
 {ty:TypeId} {pos:String} {af:Array Edge} {d:Nat}
theorem zD {op:Op} {v:AV} {rd:List (Nat×aZ)} (ho:ops[i]?=some ⟨some d,op,ty,pos,af,none⟩) (h:ic P op l ds s v rd)
  (hc:(dz ⟨some d,op,ty,pos,af,none⟩,Nat.blt d n,ur ops i v rd recs)=(false,true,true))
  (hn:ln P E n ops Q B L (⟨i,some d,rd,none⟩::recs) (bU ((d,v)::l) ds) (bw s)):ln P E n ops Q B (i::L) recs (bU l ds) (bw s):=E6 ho h ⟨p1 hc,p1 (p2 hc),p2 (p2 hc)⟩ hn
end
end Go.Abs
end
