/- PROVED: lemmas of a proof that ParserBlanks returns true. CONDITIONS: as each states. -/
import Derived.Test.YtkhjeiaafiodeaaGreatDoorF0
import Derived.Recover
import Derived.Laws.BytesArg
import Derived.Laws.StructEq
import Derived.Below
import Derived.Lib.ConvBytes
import Derived.Lib.IndexMore
import Derived.Lib.LastIndexLaws
import Derived.Lib.ParseIntB
section
namespace Go.Abs
def tp (l:List (Nat×AV)):List Operand->Option (List AV)
 | []=>some []
 | x::xs=>match bI l x,tp l xs with
  | some v,some vs=>some (v::vs)
  | _,_=>none
theorem ly {l:List (Nat×AV)} {ds:List (FuncId×List AV)}:∀ {xs:List Operand} {vs:List AV},tp l xs=some vs->xs.map (bZ l ds).val=vs
 | [],_,h=>by simp[tp] at h;simp[h]
 | x::xs,vs,h=>by
  simp only[tp] at h;split at h
  ·rename_i v vs' hv hvs;cases h;simp[aD hv,ly hvs]
  cases h
mutual
theorem pX {π:Nat->Nat}:∀ {v:AV},v.only (λ_=>false)=true->v.gD π=v
 | .any,_=>rfl
 | .oc,_=>rfl
 | .pv _,_=>rfl
 | .ptr _ _,h=>by simp[AV.only] at h
 | .arr _ _,h=>by simp[AV.only] at h
 | .sp _,_=>rfl
 | .fn f xs ys,h=>by simp only[AV.only,Bool.and_eq_true] at h;simp only[AV.gD,pY h.1,pY h.2]
 | .agg cs,h=>by simp only[AV.only] at h;simp only[AV.gD,pY h]
 | .fZ cs,h=>by simp only[AV.only] at h;simp only[AV.gD,pY h]
 | .mo t v,h=>by simp only[AV.only] at h;simp only[AV.gD,pX h]
theorem pY {π:Nat->Nat}:∀ {v:List AV},AV.only.ki (λ_=>false) v=true->AV.gD.lN π v=v
 | [],_=>rfl
 | x::xs,h=>by simp only[AV.only.ki,Bool.and_eq_true] at h;simp only[AV.gD.lN,pX h.1,pY h.2]
end
theorem mI {a b:Nat}:Nat.blt a b=true↔a<b:=by rw[Nat.blt_eq]
def ey:Nat->List M->List (Nat×M)
 | _,[]=>[]
 | i,e::es=>(i,e)::ey (i+1) es
def lz:List Nat->List M->List (Nat×M)
 | k::ks,e::es=>(k,e)::lz ks es
 | _,_=>[]
def tW (s:List (Nat×M)):List Nat->Option (List M)
 | []=>some []
 | k::ks=>match dx s k,tW s ks with
  | some e,some es=>some (e::es)
  | _,_=>none
def nodupB:List Nat->Bool
 | []=>true
 | k::ks=>!ks.any (Nat.beq k)&&nodupB ks
def kj (π:Nat->Nat):List M->List M
 | []=>[]
 | e::es=>e.gD π::kj π es
def M.oq (p:Nat->Bool):M->Bool
 | .app _ _ _=>true
 | .box cs=>AV.only.ki p cs
 | .arr _ _ _=>true
theorem tX (p:Nat->Bool):∀ l:List PV,AV.only.ki p (l.map .pv)=true
 | []=>rfl
 | x::l=>by simp[AV.only.ki,AV.only,tX p l]
theorem M.FA {p:Nat->Bool}:∀ {e:M},e.oq p=true->AV.only.ki p e.cells=true
 | .app _ _ c,_=>tX p c
 | .box _,h=>h
 | .arr _ _ c,_=>tX p c
def jE (p:Nat->Bool):List M->Bool
 | []=>true
 | e::es=>e.oq p&&jE p es
def nth:List Nat->Nat->Nat
 | [],_=>0
 | k::_,0=>k
 | _::ks,j+1=>nth ks j
def below (m:Nat):Nat->Bool:=λj=>Nat.blt j m
theorem fB:∀ {es:List M} {i j:Nat} {e:M},Y (ey i es) j=some e->i<=j/\es[j - i]?=some e
 | [],_,_,_,h=>by cases h
 | a::es,i,j,e,h=>by
  simp only[ey,Y,kA] at h;split at h
  ·rename_i q;cases h;subst q;simp
  rename_i q;obtain ⟨h1,h2⟩:=fB (es:=es) (i:=i+1) h;refine ⟨by omega,?_⟩;rw[show j - i=(j - (i+1))+1 by omega];simpa using h2
theorem mU {es:List M}:∀ {i j:Nat} {e:M},es[j]?=some e->Y (ey i es) (i+j)=some e:=by
 induction es with
 | nil=>intro i j e h;simp at h
 | cons a es ih=>
  intro i j e h
  cases j with
  | zero=>simp at h;simp[ey,Y,kA,h]
  | succ j=>
   have:=ih (i:=i+1) (j:=j) (by simpa using h)
   simp only[Y] at this
   simp only[ey,Y,kA]
   rw[if_neg (by omega),show i+(j+1)=i+1+j by omega];exact this
theorem nR:∀ {ks:List Nat},nodupB ks=true->∀ {i j:Nat},i<ks.length->j<ks.length->nth ks i=nth ks j->i=j:=by
 have mem:∀ {ks:List Nat} {j:Nat},j<ks.length->nth ks j∈ks:=by
  intro ks
  induction ks with
  | nil=>intro j h;simp at h
  | cons k ks ih=>
   intro j h
   cases j with
   | zero=>simp[nth]
   | succ j=>simp only[nth];exact List.mem_cons_of_mem _ (ih (by simpa using h))
 intro ks
 induction ks with
 | nil=>intro _ i j h;simp at h
 | cons k ks ih=>
  intro h i j hi hj he
  simp only[nodupB,Bool.and_eq_true,Bool.not_eq_true'] at h
  have hk:∀ j,j<ks.length->nth ks j≠k:=λj hj q=>by
   have h1:=mem hj;rw[q] at h1;have:ks.any (Nat.beq k)=true:=List.any_eq_true.2 ⟨k,h1,by simp⟩;rw[h.1] at this;cases this
  cases i with
  | zero=>
   cases j with
   | zero=>rfl
   | succ j=>simp only[nth] at he;exact absurd he.symm (hk j (by simpa using hj))
  | succ i=>
   cases j with
   | zero=>simp only[nth] at he;exact absurd he (hk i (by simpa using hi))
   | succ j=>simp only[nth] at he;rw[ih h.2 (by simpa using hi) (by simpa using hj) he]
theorem oB {s:List (Nat×M)}:∀ {ks:List Nat} {es:List M},tW s ks=some es->es.length=ks.length/\∀ j e,es[j]?=some e->Y s (nth ks j)=some e
 | [],_,h=>by simp[tW] at h;simp[h]
 | k::ks,es,h=>by
  simp only[tW] at h;split at h
  ·rename_i e es' he hes;cases h;obtain ⟨h1,h2⟩:=oB hes;refine ⟨by simp[h1],λj e' hj=>?_⟩;cases j with
   | zero=>simp at hj;subst hj;exact bO he
   | succ j=>exact h2 j e' (by simpa using hj)
  cases h
theorem mJ (π:Nat->Nat):∀ {es:List M} {j:Nat},(kj π es)[j]?=(es[j]?).map (M.gD π)
 | [],_=>by simp[kj]
 | e::es,0=>by simp[kj]
 | e::es,j+1=>by simp[kj,mJ π (es:=es)]
theorem ic (π:Nat->Nat):∀ es:List M,(kj π es).length=es.length
 | []=>rfl
 | _::es=>by simp[kj,ic π es]
theorem si {p:Nat->Bool}:∀ {es:List M},jE p es=true->∀ {j:Nat} {e:M},es[j]?=some e->AV.only.ki p e.cells=true
 | [],_,j,e,h=>by simp at h
 | a::es,h,0,e,he=>by simp only[jE,Bool.and_eq_true] at h;simp at he;subst he;exact M.FA h.1
 | a::es,h,j+1,e,he=>by simp only[jE,Bool.and_eq_true] at h;exact si h.2 (by simpa using he)
def wH (k:Nat) (ks:List Nat):List (Nat×M)->Bool
 | []=>false
 | (j,e)::s=>(!ks.any (Nat.beq j)&&e.mq k)||wH k ks s
def Cl (l:List (Nat×AV)) (ds:List (FuncId×List AV)) (s:List (Nat×M)) (ks0:List Nat):List Nat->List M->Bool
 | _::ks,.box _::es=>Cl l ds s ks0 ks es
 | k::ks,_::es=>!k9 k l&&!jB k ds&&!wH k ks0 s&&Cl l ds s ks0 ks es
 | _,_=>true
def xE (E:Env):List Nat->List M->Prop
 | _::ks,.box _::es=>xE E ks es
 | k::ks,_::es=>E.fix k=none/\xE E ks es
 | _,_=>True
theorem mz {k:Nat} {ks:List Nat}:∀ {s:List (Nat×M)},wH k ks s=false->∀ j e,ks.any (Nat.beq j)=false->Y s j=some e->AV.ea.fv k e.cells=false
 | [],_,j,e,_,h=>by cases h
 | (i,v)::s,h,j,e,hj,he=>by
  simp only[wH,Bool.or_eq_false_iff] at h;simp only[Y,kA] at he;split at he
  ·rename_i q;cases he;subst q;exact M.yW (by simpa[hj] using h.1)
  exact mz h.2 j e hj he
theorem uI {E:Env} {l:List (Nat×AV)} {ds:List (FuncId×List AV)} {s:List (Nat×M)} {ks0:List Nat}:∀ {ks:List Nat} {es:List M},Cl l ds s ks0 ks es=true->xE E ks es->∀ {j:Nat} {e:M},
  j<ks.length->es[j]?=some e->(∃ cs,e=.box cs)\/(k9 (nth ks j) l=false/\jB (nth ks j) ds=false/\wH (nth ks j) ks0 s=false/\E.fix (nth ks j)=none)
 | [],_,_,_,j,e,hj,_=>by simp at hj
 | _::_,[],_,_,j,e,_,he=>by simp at he
 | k::ks,.box cs::es,h,hf,0,e,_,he=>by simp at he;exact .inl ⟨cs,he.symm⟩
 | k::ks,.box cs::es,h,hf,j+1,e,hj,he=>uI (ks:=ks) (es:=es) h hf (by simpa using hj) (by simpa using he)
 | k::ks,.arr _ _ _::es,h,hf,0,e,_,he=>by
  simp only[Cl,Bool.and_eq_true,Bool.not_eq_true'] at h
  exact .inr ⟨h.1.1.1,h.1.1.2,h.1.2,hf.1⟩
 | k::ks,.arr _ _ _::es,h,hf,j+1,e,hj,he=>by
  simp only[Cl,Bool.and_eq_true] at h
  exact uI (ks:=ks) (es:=es) h.2 hf.2 (by simpa using hj) (by simpa using he)
 | k::ks,.app _ _ _::es,h,hf,0,e,_,he=>by
  simp only[Cl,Bool.and_eq_true,Bool.not_eq_true'] at h
  exact .inr ⟨h.1.1.1,h.1.1.2,h.1.2,hf.1⟩
 | k::ks,.app _ _ _::es,h,hf,j+1,e,hj,he=>by
  simp only[Cl,Bool.and_eq_true] at h
  exact uI (ks:=ks) (es:=es) h.2 hf.2 (by simpa using hj) (by simpa using he)
theorem zi {s:List (Nat×M)}:∀ {ks:List Nat} {es:List M},es.length=ks.length->nodupB ks=true->∀ k,
  Y (lz ks es++s) k=match (List.range ks.length).find? (λj=>nth ks j==k) with|some j=>es[j]?|none=>Y s k:=by
 intro ks
 induction ks with
 | nil=>intro es _ _ k;cases es<;>simp[lz]
 | cons a ks ih=>
  intro es hl hn k
  cases es with
  | nil=>simp at hl
  | cons e es=>
   simp only[nodupB,Bool.and_eq_true] at hn
   have hr:List.range (a::ks).length=0::(List.range ks.length).map (·+1):=by
    rw[List.length_cons,List.range_succ_eq_map]
   rw[hr]
   simp only[List.find?_cons,nth]
   by_cases q:a=k
   ·subst q;simp[lz,Y,kA]
   ·have q':(a==k)=false:=by simpa using q
    have:=ih (es:=es) (by simpa using hl) hn.2 k
    simp only[Y] at this
    simp only[q',lz,List.cons_append,Y,kA]
    rw[if_neg (λh=>q h.symm),this]
    rw[List.find?_map]
    have:((λj=>nth (a::ks) j==k) ∘ (·+1))=λj=>nth ks j==k:=by funext j;simp[nth]
    rw[this]
    cases (List.range ks.length).find? (λj=>nth ks j==k)<;>simp
def pZ {X:Type} (V:X->AV) (C:X->List M) (G:X->Prop) (H:AV->Prop):oV->cn->Prop:=
 λae σ=>(∃ x,G x/\ae=.ret (V x)/\σ=Y (ey 0 (C x)))\/(∃ v,H v/\ae=.panic v/\σ=Y [])
theorem zj {ks:List Nat} {k:Nat} (h:(List.range ks.length).any (λi=>nth ks i==k)=false):ks.any (Nat.beq k)=false:=by
 rw[List.any_eq_false] at h ⊢;intro x hx q;obtain ⟨i,hi,rfl⟩:=List.getElem_of_mem hx;have key:∀ (ks:List Nat) (i:Nat) (h:i<ks.length),nth ks i=ks[i]:=by
  intro ks
  induction ks with
  | nil=>intro i h;simp at h
  | cons a ks ih=>
   intro i h
   cases i with
   | zero=>rfl
   | succ i=>simp only[nth];exact ih i (by simpa using h)
 refine h i (by simpa using hi) ?_;rw[key ks i hi];have:=Nat.eq_of_beq_eq_true q;simp[this]
section
variable {P:Program} {E:Env} {n:Nat} {ops:Array Oper} {Q:dR} {rest:List Oper} {l:List (Nat×AV)} {ds:List (FuncId×List AV)} {s:List (Nat×M)}
structure lA (E:Env) (ds:List (FuncId×List AV)) (l:List (Nat×AV)) (s:List (Nat×M)) (ks:List Nat) (f:Operand) (args:List Operand) (fid:FuncId) (argsC:List AV) (es:List M) (first cap vs:List AV) (l':List (Nat×AV):=l):Prop where
 f:bI l f=some (.fn fid first cap)
 a:tp l args=some vs
 e:first++vs++cap=AV.gD.lN (nth ks) argsC
 gs:tW s ks=some (kj (nth ks) es)
 nd:nodupB ks=true
 bx:Cl l' ds s ks ks es=true
 fx:xE E ks es
theorem wI {o:Oper} {X:Type} {V:X->AV} {C:X->List M} {G:X->Prop} {H:AV->Prop} {f:Operand} {args:List Operand} {ts:Array TypeId} {fid:FuncId} {argsC first cap vs:List AV} {es:List M}
  {next:eu->cn->Prop} {l':List (Nat×AV)} (hwk:(bZ l ds).le (bZ l' ds)) (ks:List Nat) (hen:Enters P fid) (ho:o.op=.call ⟨.value f,args.toArray,ts⟩) (hC:SC P fid argsC (Y (ey 0 es)) (pZ V C G H)) (hk:lA E ds l s ks f args fid argsC es first cap vs l')
  (hd:∀ d,o.dst=some d->d<n) (hx:∀ x,G x->(C x).length=ks.length/\jE (below ks.length) (C x)=true/\(V x).only (below ks.length)=true)
  (hret:∀ x,G x->next ((bZ l' ds).iC o.dst ((V x).gD (nth ks))) (Y (lz ks (kj (nth ks) (C x))++s)))
  (hpan:∀ v,H v->v.only (λ_=>false)=true/\Q (.panic v) (bZ l' ds) (after (Y s) (nth ks) (List.range ks.length) [] (Y []))):Step P E n Q o (bZ l ds) (Y s) next:=by
 obtain ⟨hl,hat⟩:=oB hk.gs
 rw[ic] at hl
 have hcon:∀ j,(List.range ks.length).contains j=below ks.length j:=λj=>by
  have h1:(List.range ks.length).contains j=decide (j<ks.length):=by
   by_cases q:j<ks.length<;>simp[q]
  rw[h1];simp only[below]
  by_cases q:j<ks.length
  ·simp[q,mI.2 q]
  ·have:Nat.blt j ks.length=false:=by
    cases h:Nat.blt j ks.length with
    | false=>rfl
    | true=>exact absurd (mI.1 h) q
   simp[q,this]
 have hconf:(List.range ks.length).contains=below ks.length:=funext hcon
 have hltr:∀ j,below ks.length j=true->j<ks.length:=λj h=>mI.1 h
 have hsome:∀ j,(Y (ey 0 es) j).isSome=true->j<ks.length:=λj hj=>by
  cases q:Y (ey 0 es) j with
  | none=>rw[q] at hj;cases hj
  | some e=>
   obtain ⟨_,h2⟩:=fB q
   have:=(List.getElem?_eq_some_iff.1 h2).1
   simp at this;omega
 refine wD hwk (nth ks) (List.range ks.length) hen ho (aD hk.f) (by rw[ly hk.a];exact hk.e) hC (λj hj=>by simpa using hsome j hj) (λj e hj=>?_)
  (λj j' hj hj' he=>nR hk.nd (hsome j hj) (hsome j' hj') he) hd (λv σc hr=>?_) (λv σc hr=>?_)
 ·obtain ⟨_,h2⟩:=fB hj
  exact hat j _ (by rw[mJ,show j=j - 0 by omega,h2];rfl)
 ·rcases hr with ⟨x,hg,he,rfl⟩|⟨_,_,he,_⟩
  ·cases he
   obtain ⟨h1,h2,h3⟩:=hx x hg
   refine ⟨List.range ks.length,{ Fx:=λj e hj=>?_,val:=by rw[hconf];exact h3,inj:=λj j' hj hj' he=>nR hk.nd (by simpa using hj) (by simpa using hj') he,same:=λj hj=>?_ },?_⟩
   ·obtain ⟨_,h4⟩:=fB hj
    have h5:=(List.getElem?_eq_some_iff.1 h4).1
    exact ⟨by simp;omega,by rw[hconf];exact si h2 h4⟩
   ·have hj':j<es.length:=by simp at hj;omega
    rcases uI hk.bx hk.fx (by simpa using hj) (List.getElem?_eq_getElem hj') with ⟨cs,hcs⟩|⟨q1,q2,q3,q4⟩
    ·exact .inl ⟨cs,by have:=mU (i:=0) (List.getElem?_eq_getElem hj');rw[hcs] at this;simpa using this⟩
    ·exact .inr ⟨gr q1 q2,λk e hkl he=>mz q3 k e (zj hkl) he,q4⟩
   ·have:after (Y s) (nth ks) (List.range ks.length) (List.range ks.length) (Y (ey 0 (C x)))=Y (lz ks (kj (nth ks) (C x))++s):=by
     funext k
     rw[zi (by rw[ic,h1]) hk.nd]
     simp only[after]
     cases hf:(List.range ks.length).find? (λj=>nth ks j==k) with
     | some j=>
      have hj:=List.mem_of_find?_eq_some hf
      simp at hj
      simp only[mJ]
      have:j<(C x).length:=by omega
      rw[List.getElem?_eq_getElem this]
      have h6:=mU (i:=0) (List.getElem?_eq_getElem this)
      simp at h6
      rw[h6]
     | none=>
      have:(List.range ks.length).any (λj=>nth ks j==k)=false:=by
       rw[List.any_eq_false];intro j hj
       have:=List.find?_eq_none.1 hf j hj
       simpa using this
      simp[this]
    rw[this];exact hret x hg
  ·cases he
 ·rcases hr with ⟨_,_,he,_⟩|⟨v',hh,he,rfl⟩
  ·cases he
  ·cases he
   obtain ⟨h1,h2⟩:=hpan v hh
   refine ⟨[],{ Fx:=λj e hj=>(by cases hj),val:=?_,inj:=λj _ hj=>(by simp at hj),same:=λj hj=>(by simp at hj) },?_⟩
   ·have:([]:List Nat).contains=λ_=>false:=by funext k;simp
    rw[this];exact h1
   ·rw[pX h1];exact h2
theorem C4 {o:Oper} {X:Type} {V:X->AV} {C:X->List M} {G:X->Prop} {H:AV->Prop} {f:Operand} {args:List Operand} {ts:Array TypeId} {fid:FuncId} {argsC first cap vs:List AV} {es:List M}
  {next:eu->cn->Prop} (ks:List Nat) (hen:Enters P fid) (ho:o.op=.call ⟨.value f,args.toArray,ts⟩) (hC:SC P fid argsC (Y (ey 0 es)) (pZ V C G H)) (hk:lA E ds l s ks f args fid argsC es first cap vs)
  (hd:∀ d,o.dst=some d->d<n) (hx:∀ x,G x->(C x).length=ks.length/\jE (below ks.length) (C x)=true/\(V x).only (below ks.length)=true)
  (hret:∀ x,G x->next ((bZ l ds).iC o.dst ((V x).gD (nth ks))) (Y (lz ks (kj (nth ks) (C x))++s)))
  (hpan:∀ v,H v->v.only (λ_=>false)=true/\Q (.panic v) (bZ l ds) (after (Y s) (nth ks) (List.range ks.length) [] (Y []))):Step P E n Q o (bZ l ds) (Y s) next:=
 wI ⟨λ_=>.inl rfl,rfl⟩ ks hen ho hC hk hd hx hret hpan
end
section
variable {P:Program} {E:Env} {n:Nat} {ops:Array Oper} {Q:dR} {rest:List Oper} {l:List (Nat×AV)} {ds:List (FuncId×List AV)} {s:List (Nat×M)}
 {ty:TypeId} {pos:String} {af:Array Edge}
theorem mA {d n:Nat} (h:Nat.blt d n=true):∀ x,some d=some x->x<n:=λx hx=>by cases hx;exact mI.1 h
theorem aH {d:Nat} {t:TypeId} {z:List Value} [hz:kK P t z] {zs:List AV} (nm:Nat) (hE:E.fix nm=none)
  (h:z.map (λv=>AV.pv (.sc v))=zs/\k9 nm l=false/\jB nm ds=false/\nK nm s=false)
  (hd:Nat.blt d n=true) (hn:SL P E n ops Q rest (bZ ((d,.ptr nm 0)::l) ds) (Y ((nm,.box zs)::s))):SL P E n ops Q (⟨some d,.alloc t,ty,pos,af,none⟩::rest) (bZ l ds) (Y s):=
 iY rfl (yU (AG nm hz.h) (gr h.2.1 h.2.2.1) (jC h.2.2.2) hE (mA hd) (by rw[h.1];exact hn))
def AQ:List AV->Nat->List AV->List AV
 | cs,0,v=>IC cs v
 | [],_+1,_=>[]
 | c::cs,k+1,v=>c::AQ cs k v
where
 IC:List AV->List AV->List AV
  | cs,[]=>cs
  | [],_::_=>[]
  | _::cs,v::vs=>v::IC cs vs
theorem DQ:∀ {cs v:List AV},v.length<=cs.length->AQ.IC cs v=v++cs.drop v.length
 | cs,[],_=>by simp[AQ.IC]
 | [],_::_,h=>by simp at h
 | c::cs,v::vs,h=>by simp[AQ.IC,DQ (cs:=cs) (v:=vs) (by simpa using h)]
theorem Cm:∀ {cs:List AV} {off:Nat} {v:List AV},off+v.length<=cs.length->AQ cs off v=cs.take off++v++cs.drop (off+v.length)
 | cs,0,v,h=>by simp[AQ,DQ (cs:=cs) (v:=v) (by simpa using h)]
 | [],k+1,v,h=>by simp at h
 | c::cs,k+1,v,h=>by
  simp only[AQ];rw[Cm (cs:=cs) (off:=k) (v:=v) (by simp at h;omega)];simp[show k+1+v.length=(k+v.length)+1 by omega]
def M.put (off:Nat) (v:List AV):M->M
 | .box cs=>.box (AQ cs off v)
 | e=>e
def M.wJ:M->Bool
 | .box _=>true
 | _=>false
theorem put_eq {e:M} {off:Nat} {v:List AV} (hb:e.wJ=true) (h:off+v.length<=e.cells.length):e.Cf off v=e.put off v:=by
 cases e with
 | box cs=>simp only[M.Cf,M.put];rw[Cm (cs:=cs) h]
 | arr el sz cs=>cases hb
 | app el sz cs=>cases hb
theorem uJ {e:M} (h:e.wJ=true):e.isApp=false:=by cases e<;>first|rfl|cases h
theorem uK {e:M} {p:Prop} (h:e.wJ=true) (q:e.DK=true):p:=by cases e with|box _=>cases q|arr _ _ _=>cases h|app _ _ _=>cases h
theorem DS {t:TypeId} {x y:Operand} {k off m:Nat} {e:M} {v:AV} {c:List AV} [ht:mr P t m]
  (h:bI l x=some (.ptr k off)/\dx s k=some e/\e.wJ=true/\bI l y=some v/\v.fA=some c/\AV.jl c=true/\c.length=m/\Nat.ble (off+c.length) e.cells.length=true)
  (hn:∀ e',e.put off c=e'->SL P E n ops Q rest (bZ l ds) (Y ((k,e')::s))):SL P E n ops Q (⟨none,.store t x y,ty,pos,af,none⟩::rest) (bZ l ds) (Y s):=by
 obtain ⟨hx,hk,hea,hy,hc,h1,hm,hl⟩:=h
 have hl':=Nat.le_of_ble_eq_true hl
 refine iY rfl (qD rfl rfl (aD hx) (bO hk) (uJ hea) (by rw[aD hy];exact hc) h1 (by rw[hm];exact ht.h) hl' (uK hea) ?_)
 rw[put_eq hea hl'];exact hn _ rfl
theorem ID {d:Nat} {t e:TypeId} {m sz:Nat} {parts:List (Nat×Operand)} {zs:List Value} {pl:List (Nat×Nat)} {pv:List (Nat×AV)} {cells:List PV} [ht:jR P t m e sz zs pl]
  (h:parts.mapM (λp=>(bI l p.2).map λv=>(p.1,v))=some pv/\lM pl (zs.map λv=>.pv (.sc v)) pv=some (cells.map .pv)) (hd:Nat.blt d n=true)
  (hn:SL P E n ops Q rest (bZ ((d,.pv (.sl m cells))::l) ds) (Y s)):SL P E n ops Q (⟨some d,.buildSlice t m parts.toArray,ty,pos,af,none⟩::rest) (bZ l ds) (Y s):=by
 refine iY rfl (Fu (ti ht.h ?_) (mA hd) hn)
 have key:∀ (ps:List (Nat×Operand)) (pv:List (Nat×AV)),ps.mapM (λp=>(bI l p.2).map λv=>(p.1,v))=some pv->(ps.map λp=>(p.1,(bZ l ds).val p.2))=pv:=by
  intro ps
  induction ps with
  | nil=>intro pv h;simp at h;simp[h]
  | cons p ps ih=>
   intro pv h
   rw[List.mapM_cons] at h
   cases hv:bI l p.2 with
   | none=>simp[hv] at h
   | some v=>
    cases hr:ps.mapM (λp=>(bI l p.2).map λv=>(p.1,v)) with
    | none=>simp[hv,hr] at h
    | some r=>
     simp[hv,hr] at h
     subst h
     simp[ih r hr,aD (ds:=ds) hv]
 rw[key parts pv h.1];exact h.2
theorem BK {fn:Func} {X:Type} {V:X->AV} {C:X->List M} {G:X->Prop} {H:AV->Prop} {v:AV} {fr:eu} {σ:cn} (hd:fr.ds=[]) (h:H v):ny P fn (pZ V C G H) (.panic v) fr σ:=
 ⟨hd,Y [],λk e hk=>(by cases hk),.inr ⟨v,h,rfl,rfl⟩⟩
theorem AR {es:List M} (h:∀ j e,es[j]?=some e->dx s j=some e):∀ k e,Y (ey 0 es) k=some e->Y s k=some e:=λk e hk=>by
 obtain ⟨_,h2⟩:=fB hk;exact bO (h k e (by simpa using h2))
def uL (s:List (Nat×M)):Nat->List M->Prop
 | _,[]=>True
 | i,e::es=>dx s i=some e/\uL s (i+1) es
theorem uM:∀ {es:List M} {i:Nat},uL s i es->∀ j e,es[j]?=some e->dx s (i+j)=some e
 | [],_,_,j,e,h=>by simp at h
 | a::es,i,h,0,e,he=>by simp at he;subst he;exact h.1
 | a::es,i,h,j+1,e,he=>by
  have:=uM h.2 j e (by simpa using he);rw[show i+(j+1)=i+1+j by omega];exact this
theorem mV {fn:Func} {X:Type} {V:X->AV} {C:X->List M} {G:X->Prop} {H:AV->Prop} {vs:List AV} {ae:tj} (hae:ae=.ret\/ae=.normal) (x:X) (hr:C2 P (bZ l []) (Y s) fn.results.toList vs)
  (hg:G x) (hle:(nv vs).le (V x)) (hm:uL s 0 (C x)):ny P fn (pZ V C G H) ae (bZ l []) (Y s):=by
 have h:(bZ l []).ds=[]/\∃ vs v σ',C2 P (bZ l []) (Y s) fn.results.toList vs/\(nv vs).le v/\(∀ k e,σ' k=some e->Y s k=some e)/\pZ V C G H (.ret v) σ':=
  ⟨rfl,vs,V x,Y (ey 0 (C x)),hr,hle,AR (λj e hj=>by have:=uM hm j e hj;simpa using this),.inl ⟨x,hg,rfl,rfl⟩⟩
 rcases hae with rfl|rfl
 ·exact h
 ·exact h
theorem aP {t:Nat} {v:AV} (h:jv l t=some v):RV P (bZ l ds) (Y s) (.tmp t) v:=by rw[<- eL h];exact .tmp t
theorem aT {a k:Nat} {t:TypeId} {cs:List AV} {m:Nat} [ht:mr P t m] [ha:iI P t true] (hk:jv l a=some (.ptr k 0)) (hs:dx s k=some (.box cs)) (hm:cs.length=m) :
 RV P (bZ l ds) (Y s) (.cell a t) (.agg cs):=.agg (eL hk) (bO hs) (by rw[hm];exact ht.h) ha.h
theorem zp {a k:Nat} {t:TypeId} {c:AV} [ha:iI P t false] (hk:jv l a=some (.ptr k 0)) (hs:dx s k=some (.box [c])):RV P (bZ l ds) (Y s) (.cell a t) c:=.one (eL hk) (bO hs) ha.h
theorem wK (args:List AV):(⟨λi=>args[i]?.getD .any,[]⟩:eu)=bZ ((List.range args.length).zip args) []:=by
 simp only[bZ,eu.mk.injEq,and_true];funext i;have key:∀ (l:List AV) (k i:Nat),kz ((List.range' k l.length).zip l) (k+i)=l[i]?.getD .any:=by
  intro l
  induction l with
  | nil=>intro k i;simp[kz]
  | cons a l ih=>
   intro k i
   simp only[List.length_cons,List.range'_succ,List.zip_cons_cons,kz]
   cases i with
   | zero=>simp
   | succ i=>
    rw[if_neg (by omega),show k+(i+1)=k+1+i by omega,ih];simp
 have:=key args 0 i;rw[List.range_eq_range'];simpa using this.symm
def kL:List M->Nat->Bool
 | [],_=>true
 | .box _::_,0=>false
 | _::_,0=>true
 | _::es,k+1=>kL es k
theorem FB {f:FuncId} {fn:Func} {c:Code} {args:List AV} {es:List M} {R:oV->cn->Prop} (hf:P.funcs[f]?=some fn) (hb:fn.body=some c) (hn:Nat.ble args.length fn.ntmps=true)
  (h:∀ E:Env,(∀ k,kL es k=true->E.fix k=none)->SW P E fn.ntmps c (ny P fn R) (bZ ((List.range args.length).zip args) []) (Y (ey 0 es))):SC P f args (Y (ey 0 es)) R:=
 DM hf hb (Nat.le_of_ble_eq_true hn) λE hE=>by
  rw[wK]
  refine h E λk hk=>hE k λcs hcs=>?_
  obtain ⟨_,h2⟩:=fB hcs
  have h3:∀ (es:List M) (k:Nat),kL es k=true->es[k]?≠some (.box cs):=by
   intro es
   induction es with
   | nil=>intro k _;simp
   | cons e es ih=>
    intro k hk
    cases k with
    | zero=>intro q;simp at q;subst q;simp[kL] at hk
    | succ k=>simpa using ih k (by cases e<;>simpa[kL] using hk)
  exact h3 es k hk (by simpa using h2)
end
section
variable {P:Program} {E:Env} {n:Nat} {ops:Array Oper} {Q:dR}
variable (P E n ops Q) in
abbrev DX (x y:Nat):List Nat->List Rec->eu->cn->Prop:=mi P E n ops Q λrecs fr σ=>DW P E n ops Q [x,y] recs fr σ/\DW P E n ops Q [y,x] recs fr σ
theorem Inv.swap {x y:Nat} {listed:Array Bool} {recs:List Rec} {fr:eu} {σ:cn} (h:Inv P E n ops listed [x,y] recs fr σ) (hp:lO ops [y,x]=true):Inv P E n ops listed [y,x] recs fr σ:=
 {
  size:=h.size
  todo:=λi hi=>h.todo i (by simp at hi ⊢;exact hi.symm)
  done:=λi o ho hi=>h.done i o ho (by simp at hi ⊢;exact ⟨hi.2,hi.1⟩)
  iq:=λr hr=>by
   obtain ⟨h1,h2⟩:=h.iq r hr;exact ⟨by simp at h1 ⊢;exact ⟨h1.2,h1.1⟩,h2⟩
  wG:=λi hi=>h.wG i (by simp at hi ⊢;exact hi.symm)
  apart:=h.apart,names:=h.names,ym:=h.ym
  vr:=λi j hi hiL hj=>h.vr i j hi (by simp at hiL ⊢;exact ⟨hiL.2,hiL.1⟩) (by simp at hj ⊢;exact hj.symm)
  uG:=hp
  down:=h.down,yn:=h.yn,reads:=h.reads,ib:=h.ib,ds:=h.ds,C3:=h.C3,sa:=h.sa }
theorem AS {x y:Nat} {listed:Array Bool} {i:Nat} {o:Oper} (ho:ops[i]?=some o) (hr:∀ e,e∈o.after.toList->Region.binds .any e=true->pT listed e.on=true) :
  ∀ (L:List Nat) (recs:List Rec) (fr:eu) (σ:cn) (g:Gh) (a:Act) (w:World),i∈L++[x,y]->strict ops (L++[x])=true->strict ops (L++[y])=true->Inv P E n ops listed (L++[x,y]) recs fr σ->DX P E n ops Q x y L recs fr σ->
   Rel E g (ek σ (mS listed recs)) w->FR n g (ew fr (mF listed recs)) a->
   (∃ L' recs' fr' σ',strict ops (i::L'++[x])=true/\strict ops (i::L'++[y])=true/\Inv P E n ops listed (i::(L'++[x,y])) recs' fr' σ'/\DX P E n ops Q x y (i::L') recs' fr' σ'/\Rel E g (ek σ' (mS listed recs')) w/\FR n g (ew fr' (mF listed recs')) a)\/
   ((i=x\/i=y)/\∃ recs' fr' σ',Inv P E n ops listed [x,y] recs' fr' σ'/\DX P E n ops Q x y [] recs' fr' σ'/\Rel E g (ek σ' (mS listed recs')) w/\FR n g (ew fr' (mF listed recs')) a)
 | [],recs,fr,σ,g,a,w,hi,_,_,hI,hD,hR,hF=>.inr ⟨by simpa using hi,recs,fr,σ,hI,hD,hR,hF⟩
 | c::L,recs,fr,σ,g,a,w,hi,hs1,hs2,hI,hD,hR,hF=>by
  by_cases q:c=i
  ·subst q;exact .inl ⟨L,recs,fr,σ,hs1,hs2,hI,hD,hR,hF⟩
  ·have hiL:i∈L++[x,y]:=by
    rcases List.mem_cons.1 hi with h|h
    ·exact absurd h.symm q
    ·exact h
   obtain ⟨oc,hoc,hS⟩:=hD
   have hPP:=hI.uG
   simp only[List.cons_append,lO,Bool.and_eq_true] at hPP
   have hpair:pz ops c i=true:=List.all_eq_true.1 hPP.1.2 i hiL
   have hhv:dJ oc=false:=by
    cases h:dJ oc with
    | false=>rfl
    | true=>
     have h1:mQ ops ops.size i c=true:=by
      rcases (lx hoc ho hpair).2.2 h with h0|h0
      ·have:i∈L++[x]\/i∈L++[y]:=by
        simp only[List.mem_append,List.mem_cons,List.not_mem_nil,or_false] at hiL ⊢
        rcases hiL with h|h|h
        ·exact .inl (.inl h)
        ·exact .inl (.inr h)
        ·exact .inr (.inr h)
       rcases this with hm|hm
       ·exact uE hs1 hm hoc ho h h0
       ·exact uE hs2 hm hoc ho h h0
      ·exact h0
     have h2:=oA hI.down _ _ _ o ho hr h1
     rw[(hI.todo c (by simp)).2] at h2;cases h2
   obtain ⟨r,recs',fr',σ',rfl,_,hn,hI',hR',hF'⟩:=walk hI hoc hhv hS hR hF
   exact AS ho hr L _ fr' σ' g a w hiL (iZ hs1) (iZ hs2) hI' hn hR' hF'
theorem HA {x y:Nat} {ox oy:Oper} (hox:ops[x]?=some ox) (hoy:ops[y]?=some oy) (hhx:dJ ox=true) (hhy:dJ oy=true) (hpp:lO ops [y,x]=true)
  (hsm:∀ i o,ops[i]?=some o->∀ e,e∈o.after.toList->Region.binds .any e=true->e.on<i) :
  ∀ (fuel:Nat) (listed:Array Bool) (L:List Nat) (recs:List Rec) (fr:eu) (σ:cn) (g:Gh) (a:Act) (w:World),left ops listed<=fuel->strict ops (L++[x])=true->strict ops (L++[y])=true->Inv P E n ops listed (L++[x,y]) recs fr σ->DX P E n ops Q x y L recs fr σ->
   Rel E g (ek σ (mS listed recs)) w->FR n g (ew fr (mF listed recs)) a->wpAny P .any ops (LQ E n Q) fuel listed a w:=by
 intro fuel
 have never:∀ listed L recs fr σ,Inv P E n ops listed (L++[x,y]) recs fr σ->(∀ i,i<ops.size->pT listed i=true)->False:=λlisted L recs fr σ hI hall=>by
  have:=hI.todo x (by simp)
  rw[hall x this.1] at this;cases this.2
 induction fuel with
 | zero=>
  intro listed L recs fr σ g a w hfu hs1 hs2 hI hD hR hF
  exfalso
  refine never listed L recs fr σ hI λi hi=>?_
  have:left ops listed=0:=by omega
  unfold left at this
  rw[List.countP_eq_zero] at this
  simpa using this i (by simpa using hi)
 | succ fuel ih=>
  intro listed L recs fr σ g a w hfu hs1 hs2 hI hD hR hF
  refine ⟨λhnil=>(never listed L recs fr σ hI (Cj hI hsm hnil)).elim,λi hi=>?_⟩
  obtain ⟨h1,h2,o,ho,hr⟩:=tF hI.size hi
  have hlf:left ops (listed.setIfInBounds i true)<=fuel:=by have:=AO hI.size h1 h2;omega
  have hpend:∀ L recs fr σ g a w,strict ops (L++[x])=true->strict ops (L++[y])=true->(∃ r,r∈lu listed recs/\r.i=i)->Inv P E n ops listed (L++[x,y]) recs fr σ->DX P E n ops Q x y L recs fr σ->Rel E g (ek σ (mS listed recs)) w->FR n g (ew fr (mF listed recs)) a->
    wpOp P ops (LQ E n Q) i (wpAny P .any ops (LQ E n Q) fuel (listed.setIfInBounds i true)) a w:=by
   rintro L recs fr σ g a w hs1 hs2 ⟨r,hrp,hri⟩ hI hD hR hF
   exact AN hI ho hr hrp hri hR hF λg' a' w' hI' hR' hF'=>ih _ L recs fr σ g' a' w' hlf hs1 hs2 hI' hD hR' hF'
  by_cases hiL:i∈L++[x,y]
  ·rcases AS ho hr L recs fr σ g a w hiL hs1 hs2 hI hD hR hF with ⟨L',recs',fr',σ',hs1',hs2',hI',hD',hR',hF'⟩|⟨hxy,recs',fr',σ',hI',hD',hR',hF'⟩
   ·obtain ⟨oc,hoc,hS⟩:=hD'
    rw[ho] at hoc;cases hoc
    cases hh:dJ o with
    | true=>
     exact uH hI' ho hh hr hS hR' hF' λg2 fr2 σ2 a2 w2 hn hI2 hR2 hF2=>ih _ L' recs' fr2 σ2 g2 a2 w2 hlf (iZ hs1') (iZ hs2') hI2 hn hR2 hF2
    | false=>
     obtain ⟨r,recs2,fr2,σ2,rfl,hri,hn,hI2,hR2,hF2⟩:=walk hI' ho hh hS hR' hF'
     exact hpend L' _ fr2 σ2 g a w (iZ hs1') (iZ hs2') ⟨r,dz.2 ⟨by simp,by rw[hri];exact h2⟩,hri⟩ hI2 hn hR2 hF2
   ·have fin:∀ u v ou,ops[u]?=some ou->dJ ou=true->i=u->Inv P E n ops listed [u,v] recs' fr' σ'->DW P E n ops Q [u,v] recs' fr' σ'->
      wpOp P ops (LQ E n Q) i (wpAny P .any ops (LQ E n Q) fuel (listed.setIfInBounds i true)) a w:=λu v ou hou hhu hiu hIu hDu=>by
     subst hiu
     obtain ⟨oc,hoc,hS⟩:=hDu
     rw[ho] at hoc;cases hoc
     rw[ho] at hou;cases hou
     exact uH hIu ho hhu hr hS hR' hF' λg2 fr2 σ2 a2 w2 hn hI2 hR2 hF2=>AP hsm fuel _ [v] recs' fr2 σ2 g2 a2 w2 hlf rfl hI2 hn hR2 hF2
    rcases hxy with q|q
    ·exact fin x y ox hox hhx q hI' hD'.1
    ·exact fin y x oy hoy hhy q (hI'.swap hpp) hD'.2
  ·obtain ⟨hd1,hd2⟩:=hI.done i o ho hiL
   cases hh:dJ o with
   | true=>rw[hd1 hh] at h2;cases h2
   | false=>
    obtain ⟨r,hrr,hri⟩:=hd2 hh
    exact hpend L recs fr σ g a w hs1 hs2 ⟨r,dz.2 ⟨hrr,by rw[hri];exact h2⟩,hri⟩ hI hD hR hF
def IF (ops:Array Oper) (L:List Nat) (x y:Nat):Bool:=
 (L++[x,y]).all (tD ops)&&(List.range ops.size).all (λi=>(L++[x,y]).contains i)&&(L++[x,y]).all (λi=>decide (i<ops.size))&&lO ops (L++[x,y])&&
  strict ops (L++[x])&&strict ops (L++[y])&&lO ops [y,x]&&(match ops[x]?,ops[y]? with|some a,some b=>dJ a&&dJ b|_,_=>false)
theorem p7 {id:Nat} {fr:eu} {σ:cn} (L:List Nat) (x y:Nat) (hm:P.follows .mixedOrders=true) (hchk:IF ops L x y=true) (h:DX P E n ops Q x y L [] fr σ):SW P E n (.region id ops true) Q fr σ:=by
 intro g a w hR hF;simp only[IF,Bool.and_eq_true,List.all_eq_true,decide_eq_true_eq] at hchk;obtain ⟨⟨⟨⟨⟨⟨⟨hself,hall⟩,hin⟩,hpairs⟩,hs1⟩,hs2⟩,hpp⟩,hhv⟩:=hchk;have hsm:∀ i o,ops[i]?=some o->∀ e,e∈o.after.toList->Region.binds .any e=true->e.on<i:=λi o ho e he hb=>by
  have hi:i<ops.size:=by
   rcases Nat.lt_or_ge i ops.size with q|q
   ·exact q
   rw[Array.getElem?_eq_none q] at ho;cases ho
  have h1:=hself i (by have:=hall i (List.mem_range.2 hi);simpa using this);simp only[tD,ho,Bool.and_eq_true,List.all_eq_true] at h1;have:=h1.1 e he;simpa[hb] using this
 have hnone:∀ i,pT (Array.replicate ops.size false) i=false:=λi=>by
  simp only[pT,Array.getD_eq_getD_getElem?];rcases Nat.lt_or_ge i ops.size with q|q
  ·simp[q]
  rw[Array.getElem?_eq_none (by simpa using q)];rfl
 have hmem:∀ i,i<ops.size->i∈L++[x,y]:=λi hi=>by have:=hall i (List.mem_range.2 hi);simpa using this
 have hI:Inv P E n ops (Array.replicate ops.size false) (L++[x,y]) [] fr σ:=
  Inv.mk (by simp) (λi hi=>⟨hin i hi,hnone i⟩) (λi o ho hi=>by
    exfalso
    have hlt:i<ops.size:=by
     rcases Nat.lt_or_ge i ops.size with q|q
     ·exact q
     ·rw[Array.getElem?_eq_none q] at ho;cases ho
    exact hi (hmem i hlt)) (λr hr=>by cases hr) hself (λr _ hr=>by cases hr) (λr _ _ hr=>by cases hr) (λr _ hr=>by cases hr)
   (λi j hi hiL hj=>absurd (hmem i hi) hiL) hpairs (λi o _ h=>by rw[hnone i] at h;cases h) (λr hr=>by cases hr) (λr hr=>by cases hr)
   (λr hr=>by cases hr) (λr hr=>by cases hr) (λr hr=>by cases hr) (λr _ hr=>by cases hr)
 have h1:mF (Array.replicate ops.size false) []=λ_=>false:=rfl;have h2:mS (Array.replicate ops.size false) []=λ_=>false:=rfl;have h3:ew fr (λ_=>false)=fr:=by simp[ew]
 have h4:ek σ (λ_=>false)=σ:=by funext k;simp[ek]
 split at hhv
 ·rename_i ox oy hox hoy;simp only[Bool.and_eq_true] at hhv;refine wp_region_any hm (HA hox hoy hhv.1 hhv.2 hpp hsm ops.size _ L [] fr σ g a _ ?_ hs1 hs2 hI h ?_ ?_)
  ·exact Nat.le_trans (List.countP_le_length) (by simp)
  ·rw[h2,h4];exact hR.drew
  rw[h1,h3];exact hF
 cases hhv
end
def wL (ops:Array Oper) (i:Nat) (v:AV) (rd:List (Nat×M)):List Rec->Bool
 | []=>true
 | r::rs=>(match r.nm with|none=>true|some nm=>mQ ops ops.size i r.i||(!v.ea nm&&rd.all λp=>!Nat.beq p.1 nm))&&wL ops i v rd rs
theorem tG {ops:Array Oper} {i:Nat} {v:AV} {rd:List (Nat×M)}:∀ {recs:List Rec},wL ops i v rd recs=true->
  ∀ r,r∈gE ops recs i->∀ nm,r.nm=some nm->v.ea nm=false/\∀ p,p∈rd->p.1≠nm
 | [],_,r,hr=>by simp[gE] at hr
 | a::rs,h,r,hr=>by
  simp only[wL,Bool.and_eq_true] at h
  intro nm hnm
  simp only[gE,List.mem_filter,Bool.not_eq_true'] at hr
  rcases List.mem_cons.1 hr.1 with q|q
  ·subst q
   have h1:=h.1
   rw[hnm] at h1
   simp only[hr.2,Bool.false_or,Bool.and_eq_true,Bool.not_eq_true',List.all_eq_true] at h1
   refine ⟨h1.1,λp hp e=>?_⟩
   have:=h1.2 p hp
   rw[e] at this
   simp at this
  ·exact tG h.2 r (by simp[gE,q,hr.2]) nm hnm
section
variable {P:Program} {E:Env} {n:Nat} {ops:Array Oper} {Q:dR} {B:List Rec->eu->cn->Prop} {i:Nat} {L:List Nat} {recs:List Rec} {l:List (Nat×AV)} {ds:List (FuncId×List AV)} {s:List (Nat×M)}
 {ty:TypeId} {pos:String} {af:Array Edge}
theorem ct (h:Q .normal (bZ l ds) (Y s)):DW P E n ops Q [] recs (bZ l ds) (Y s):=h
theorem IG {d:Nat} {op:Op} {v:AV} {rd:List (Nat×M)} (ho:ops[i]?=some ⟨some d,op,ty,pos,af,none⟩) (h:iW P op l ds s v rd)
  (hc:dJ ⟨some d,op,ty,pos,af,none⟩=false/\Nat.blt d n=true/\wL ops i v rd recs=true)
  (hn:mi P E n ops Q B L (⟨i,some d,rd,none⟩::recs) (bZ ((d,v)::l) ds) (Y s)):mi P E n ops Q B (i::L) recs (bZ l ds) (Y s):=
 ⟨_,ho,.ev (.inl rfl) hc.1 h.h h.r (mA hc.2.1) (tG hc.2.2) hn⟩
theorem HB {d j g:Nat} {op:Op} {v:AV} {rd:List (Nat×M)} {want:Bool} (ho:ops[i]?=some ⟨some d,op,ty,pos,af,some (j,want)⟩)
  (hj:(ops[j]?).bind (·.dst)=some g/\jv l g=some (Bo want)) (h:iW P op l ds s v rd)
  (hc:dJ ⟨some d,op,ty,pos,af,some (j,want)⟩=false/\Nat.blt d n=true/\wL ops i v rd recs=true)
  (hn:mi P E n ops Q B L (⟨i,some d,rd,none⟩::recs) (bZ ((d,v)::l) ds) (Y s)):mi P E n ops Q B (i::L) recs (bZ l ds) (Y s):=
 ⟨_,ho,.ev (.inr ⟨j,want,g,rfl,hj.1,eL hj.2⟩) hc.1 h.h h.r (mA hc.2.1) (tG hc.2.2) hn⟩
theorem IH {d j g:Nat} {op:Op} {want b:Bool} (ho:ops[i]?=some ⟨some d,op,ty,pos,af,some (j,want)⟩)
  (hj:(ops[j]?).bind (·.dst)=some g/\jv l g=some (Bo b)/\(b==want)=false) (hc:dJ ⟨some d,op,ty,pos,af,some (j,want)⟩=false/\Nat.blt d n=true)
  (hn:mi P E n ops Q B L (⟨i,some d,[],none⟩::recs) (bZ ((d,Sc undef)::l) ds) (Y s)):mi P E n ops Q B (i::L) recs (bZ l ds) (Y s):=
 ⟨_,ho,.skip ⟨j,want,g,.bool b,rfl,hj.1,eL hj.2.1,λq=>by have:=hj.2.2;cases q;simp at this⟩ (mA hc.2) (by rw[hc.1];exact hn)⟩
theorem HC {d j g:Nat} {op:Op} {want b:Bool} (ho:ops[i]?=some ⟨some d,op,ty,pos,af,some (j,want)⟩)
  (hj:(ops[j]?).bind (·.dst)=some g/\jv l g=some (Bo b)/\(b==want)=false) (hc:dJ ⟨some d,op,ty,pos,af,some (j,want)⟩=true/\Nat.blt d n=true)
  (hn:mi P E n ops Q B L recs (bZ ((d,Sc undef)::l) ds) (Y s)):mi P E n ops Q B (i::L) recs (bZ l ds) (Y s):=
 ⟨_,ho,.skip ⟨j,want,g,.bool b,rfl,hj.1,eL hj.2.1,λq=>by have:=hj.2.2;cases q;simp at this⟩ (mA hc.2) (by rw[hc.1];exact hn)⟩
theorem p8 {d j g:Nat} {op:Op} {want:Bool} (ho:ops[i]?=some ⟨some d,op,ty,pos,af,some (j,want)⟩)
  (hj:(ops[j]?).bind (·.dst)=some g/\jv l g=some (Sc undef)) (hc:dJ ⟨some d,op,ty,pos,af,some (j,want)⟩=false/\Nat.blt d n=true)
  (hn:mi P E n ops Q B L (⟨i,some d,[],none⟩::recs) (bZ ((d,Sc undef)::l) ds) (Y s)):mi P E n ops Q B (i::L) recs (bZ l ds) (Y s):=
 ⟨_,ho,.skip ⟨j,want,g,undef,rfl,hj.1,eL hj.2,by simp[undef]⟩ (mA hc.2) (by rw[hc.1];exact hn)⟩
def kC:List Rec->Bool
 | []=>true
 | r::rs=>r.nm.isNone&&kC rs
theorem et:∀ {recs:List Rec},kC recs=true->∀ r,r∈recs->r.nm=none
 | [],_,r,hr=>by cases hr
 | a::rs,h,r,hr=>by
  simp only[kC,Bool.and_eq_true,Option.isNone_iff_eq_none] at h;rcases List.mem_cons.1 hr with q|q
  ·subst q;exact h.1
  exact et h.2 r q
mutual
theorem sU {p q:Nat->Bool} (hpq:∀ k,p k=true->q k=true):∀ {v:AV},v.only p=true->v.only q=true
 | .any,_=>rfl
 | .oc,_=>rfl
 | .pv _,_=>rfl
 | .ptr _ _,h=>hpq _ h
 | .arr _ _,h=>hpq _ h
 | .sp _,_=>rfl
 | .fn f xs ys,h=>by simp only[AV.only,Bool.and_eq_true] at h ⊢;exact ⟨oC hpq h.1,oC hpq h.2⟩
 | .agg cs,h=>by simp only[AV.only] at h ⊢;exact oC hpq h
 | .fZ cs,h=>by simp only[AV.only] at h ⊢;exact oC hpq h
 | .mo t v,h=>by simp only[AV.only] at h ⊢;exact sU hpq h
theorem oC {p q:Nat->Bool} (hpq:∀ k,p k=true->q k=true):∀ {v:List AV},AV.only.ki p v=true->AV.only.ki q v=true
 | [],_=>rfl
 | x::xs,h=>by simp only[AV.only.ki,Bool.and_eq_true] at h ⊢;exact ⟨sU hpq h.1,oC hpq h.2⟩
end
def uN (ks:List Nat):List Rec->Bool
 | []=>true
 | r::rs=>(match r.nm with
  | none=>true
  | some k=>!ks.any (Nat.beq k))&&uN ks rs
theorem sj {ks:List Nat}:∀ {recs:List Rec},uN ks recs=true->∀ r,r∈recs->∀ nm,r.nm=some nm->nm ∉ ks
 | a::rs,h,r,hr,nm,hn,hk=>by
  simp only[uN,Bool.and_eq_true] at h;rcases List.mem_cons.1 hr with q|q
  ·subst q;rw[hn] at h;have h1:=h.1;simp only[Bool.not_eq_true',List.any_eq_false,Bool.not_eq_true] at h1;have:=h1 nm hk;simp at this
  exact sj h.2 r q nm hn hk
theorem vX:∀ {ks:List Nat} {j:Nat},j<ks.length->nth ks j∈ks
 | _::_,0,_=>by simp[nth]
 | _::ks,j+1,h=>by simp only[nth];exact List.mem_cons_of_mem _ (vX (by simpa using h))
mutual
theorem wM {ks:List Nat} {nm:Nat} (hn:nm ∉ ks):∀ {v:AV},v.only (below ks.length)=true->(v.gD (nth ks)).ea nm=false
 | .any,_=>rfl
 | .oc,_=>rfl
 | .pv _,_=>rfl
 | .ptr j _,h=>by
  simp only[AV.only] at h;simp only[AV.gD,AV.ea];have:=vX (ks:=ks) (mI.1 h);simp;intro q;subst q;exact hn this
 | .arr j _,h=>by
  simp only[AV.only] at h;simp only[AV.gD,AV.ea];have:=vX (ks:=ks) (mI.1 h);simp;intro q;subst q;exact hn this
 | .sp _,_=>rfl
 | .fn f xs ys,h=>by simp only[AV.only,Bool.and_eq_true] at h;simp only[AV.gD,AV.ea,oo hn h.1,oo hn h.2,Bool.or_self]
 | .agg cs,h=>by simp only[AV.only] at h;simp only[AV.gD,AV.ea,oo hn h]
 | .fZ cs,h=>by simp only[AV.only] at h;simp only[AV.gD,AV.ea,oo hn h]
 | .mo t v,h=>by simp only[AV.only] at h;simp only[AV.gD,AV.ea];exact wM hn h
theorem oo {ks:List Nat} {nm:Nat} (hn:nm ∉ ks):∀ {v:List AV},AV.only.ki (below ks.length) v=true->AV.ea.fv nm (AV.gD.lN (nth ks) v)=false
 | [],_=>rfl
 | x::xs,h=>by simp only[AV.only.ki,Bool.and_eq_true] at h;simp only[AV.gD.lN,AV.ea.fv,wM hn h.1,oo hn h.2,Bool.or_self]
end
def lP (ops:Array Oper) (i:Nat) (s':List (Nat×M)) (recs:List Rec):Prop:=
 ∀ r,r∈gE ops recs i->∀ p,p∈r.rd->∃ e,dx s' p.1=some e/\e.le p.2
theorem eM {d:Nat} {x:Operand} {v:AV} (ho:ops[i]?=some ⟨some d,.assign x,ty,pos,af,none⟩) (hx:bI l x=some v) (hd:Nat.blt d n=true) (hs:lP ops i s recs) (hnm:kC recs=true)
  (hn:mi P E n ops Q B L recs (bZ ((d,v)::l) ds) (Y s)):mi P E n ops Q B (i::L) recs (bZ l ds) (Y s):=
 ⟨_,ho,.dJ (.inl rfl) rfl (.ev (v:=v) (by rw[<- aD (ds:=ds) hx];exact uy x) (mA hd)
  ⟨λr hr=>⟨λp hp=>(let ⟨e,h1,h2⟩:=hs r hr p hp;⟨e,bO h1,h2⟩),λnm q=>by rw[et hnm r (List.mem_filter.1 hr).1] at q;cases q⟩,hn⟩) (λr _ k hk=>by cases hk)⟩
theorem bV {t:TypeId} {x y:Operand} {k off m:Nat} {e:M} {v:AV} {c:List AV} [ht:mr P t m] (ho:ops[i]?=some ⟨none,.store t x y,ty,pos,af,none⟩)
  (h:bI l x=some (.ptr k off)/\dx s k=some e/\e.wJ=true/\bI l y=some v/\v.fA=some c/\AV.jl c=true/\c.length=m/\Nat.ble (off+c.length) e.cells.length=true)
  (hnm:kC recs=true) (hn:∀ e',e.put off c=e'->lP ops i ((k,e')::s) recs/\mi P E n ops Q B L recs (bZ l ds) (Y ((k,e')::s))):mi P E n ops Q B (i::L) recs (bZ l ds) (Y s):=by
 obtain ⟨hx,hk,hea,hy,hc,h1,hm,hl⟩:=h
 have hl':=Nat.le_of_ble_eq_true hl
 obtain ⟨hst,hn⟩:=hn _ rfl
 refine ⟨_,ho,.dJ (.inl rfl) rfl (.store rfl rfl (aD hx) (bO hk) (uJ hea) (by rw[aD hy];exact hc) h1 (by rw[hm];exact ht.h) hl' (uK hea) ?_) (λr hr k' _=>by rw[et hnm r (List.mem_filter.1 hr).1];simp)⟩
 rw[put_eq hea hl']
 exact ⟨λr hr=>⟨λp hp=>(let ⟨e,h1,h2⟩:=hst r hr p hp;⟨e,bO h1,h2⟩),λnm q=>by rw[et hnm r (List.mem_filter.1 hr).1] at q;cases q⟩,hn⟩
theorem Cn {d:Nat} {X:Type} {V:X->AV} {C:X->List M} {G:X->Prop} {H:AV->Prop} {f:Operand} {args:List Operand} {ts:Array TypeId} {fid:FuncId} {argsC first cap vs:List AV} {es:List M}
  {gd:Option (Nat×Bool)} (ho:ops[i]?=some ⟨some d,.call ⟨.value f,args.toArray,ts⟩,ty,pos,af,gd⟩) (hw:gX ops ⟨some d,.call ⟨.value f,args.toArray,ts⟩,ty,pos,af,gd⟩ (bZ l ds)) (ks:List Nat) (hen:Enters P fid)
  (hC:SC P fid argsC (Y (ey 0 es)) (pZ V C G H)) (hk:lA E ds l s ks f args fid argsC es first cap vs) (hd:Nat.blt d n=true) (hnm:uN ks recs=true)
  (hx:∀ x,G x->(C x).length=ks.length/\jE (below ks.length) (C x)=true/\(V x).only (below ks.length)=true)
  (hpan:∀ v,H v->v.only (λ_=>false)=true/\∀ fr' σ',fr'.ds=ds->Q (.panic v) fr' σ')
  (hret:∀ x,G x->∀ v' s',(V x).gD (nth ks)=v'->lz ks (kj (nth ks) (C x))++s=s'->lP ops i s' recs/\mi P E n ops Q B L recs (bZ ((d,v')::l) ds) (Y s')) :
  mi P E n ops Q B (i::L) recs (bZ l ds) (Y s):=by
 obtain ⟨hl,hat⟩:=oB hk.gs
 rw[ic] at hl
 have hcon:∀ j,(List.range ks.length).contains j=below ks.length j:=λj=>by
  have h1:(List.range ks.length).contains j=decide (j<ks.length):=by
   by_cases q:j<ks.length<;>simp[q]
  rw[h1];simp only[below]
  by_cases q:j<ks.length
  ·simp[q,mI.2 q]
  ·have:Nat.blt j ks.length=false:=by
    cases h:Nat.blt j ks.length with
    | false=>rfl
    | true=>exact absurd (mI.1 h) q
   simp[q,this]
 have hconf:(List.range ks.length).contains=below ks.length:=funext hcon
 have hsome:∀ j,(Y (ey 0 es) j).isSome=true->j<ks.length:=λj hj=>by
  cases q:Y (ey 0 es) j with
  | none=>rw[q] at hj;cases hj
  | some e=>
   obtain ⟨_,h2⟩:=fB q
   have:=(List.getElem?_eq_some_iff.1 h2).1
   simp at this;omega
 have hinj:∀ j j',(List.range ks.length).contains j=true->(List.range ks.length).contains j'=true->nth ks j=nth ks j'->j=j':=λj j' hj hj' he=>nR hk.nd (by simpa using hj) (by simpa using hj') he
 have hat0:∀ j,(List.range ks.length).contains j=true->∃ e,Y (ey 0 es) j=some e:=λj hj=>by
  have hj':j<es.length:=by simp at hj;omega
  exact ⟨_,by have:=mU (i:=0) (List.getElem?_eq_getElem hj');simpa using this⟩
 have hsame:∀ j,(List.range ks.length).contains j=true->(∃ cs,Y (ey 0 es) j=some (.box cs))\/((bZ l ds).clear (nth ks j)/\
   (∀ k e,(List.range ks.length).any (λi=>nth ks i==k)=false->Y s k=some e->AV.ea.fv (nth ks j) e.cells=false)/\E.fix (nth ks j)=none):=λj hj=>by
  have hj':j<es.length:=by simp at hj;omega
  rcases uI hk.bx hk.fx (by simpa using hj) (List.getElem?_eq_getElem hj') with ⟨cs,hcs⟩|⟨q1,q2,q3,q4⟩
  ·exact .inl ⟨cs,by have:=mU (i:=0) (List.getElem?_eq_getElem hj');rw[hcs] at this;simpa using this⟩
  ·exact .inr ⟨gr q1 q2,λk e hkl he=>mz q3 k e (zj hkl) he,q4⟩
 refine ⟨_,ho,.dJ hw rfl (.call (nth ks) (List.range ks.length) hen rfl (aD hk.f) (by rw[ly hk.a];exact hk.e) hC (λj hj=>by simpa using hsome j hj) (λj e hj=>?_)
   (λj hj=>by obtain ⟨e,he⟩:=hat0 j hj;rw[he];rfl) (λj j' hj hj' he=>nR hk.nd (hsome j hj) (hsome j' hj') he) (mA hd) (λv σc hr=>?_) (λv σc hr=>?_))
  (λr hr k hk' q=>by
   obtain ⟨j,hj,rfl⟩:=List.mem_map.1 hk'
   exact sj hnm r (List.mem_filter.1 hr).1 _ q (vX (by simpa using hj)))⟩
 ·obtain ⟨_,h2⟩:=fB hj
  exact hat j _ (by rw[mJ,show j=j - 0 by omega,h2];rfl)
 ·rcases hr with ⟨x,hg,he,rfl⟩|⟨_,_,he,_⟩
  ·cases he
   obtain ⟨h1,h2,h3⟩:=hx x hg
   obtain ⟨hst,hn⟩:=hret x hg _ _ rfl rfl
   refine ⟨{ Fx:=λj e hj=>?_,val:=by rw[hconf];exact h3,inj:=hinj,same:=hsame },?_⟩
   ·obtain ⟨_,h4⟩:=fB hj
    have h5:=(List.getElem?_eq_some_iff.1 h4).1
    exact ⟨by simp;omega,by rw[hconf];exact si h2 h4⟩
   ·have:after (Y s) (nth ks) (List.range ks.length) (List.range ks.length) (Y (ey 0 (C x)))=Y (lz ks (kj (nth ks) (C x))++s):=by
     funext k
     rw[zi (by rw[ic,h1]) hk.nd]
     simp only[after]
     cases hf:(List.range ks.length).find? (λj=>nth ks j==k) with
     | some j=>
      have hj:=List.mem_of_find?_eq_some hf
      simp at hj
      simp only[mJ]
      have:j<(C x).length:=by omega
      rw[List.getElem?_eq_getElem this]
      have h6:=mU (i:=0) (List.getElem?_eq_getElem this)
      simp at h6
      rw[h6]
     | none=>
      have:(List.range ks.length).any (λj=>nth ks j==k)=false:=by
       rw[List.any_eq_false];intro j hj
       have:=List.find?_eq_none.1 hf j hj
       simpa using this
      simp[this]
    rw[this]
    refine ⟨λr hr=>⟨λp hp=>(let ⟨e,h1,h2⟩:=hst r hr p hp;⟨e,bO h1,h2⟩),λnm q=>?_⟩,hn⟩
    have hnk:=sj hnm r (List.mem_filter.1 hr).1 nm q
    refine ⟨λd' hd'=>?_,λk hk' e he=>?_⟩
    ·cases hd'
     simp only[eu.iC,eu.put,if_true]
     exact wM hnk h3
    ·obtain ⟨j,hj,rfl⟩:=List.mem_map.1 hk'
     have hj':j<ks.length:=by simpa using hj
     have hcl:j<(C x).length:=by omega
     rw[zi (by rw[ic,h1]) hk.nd] at he
     have hfd:(List.range ks.length).find? (λj'=>nth ks j'==nth ks j)=some j:=by
      cases hf:(List.range ks.length).find? (λj'=>nth ks j'==nth ks j) with
      | none=>have:=List.find?_eq_none.1 hf j (by simpa using hj');simp at this
      | some j2=>
       have h7:=List.find?_some hf
       have h8:=List.mem_of_find?_eq_some hf
       simp at h7 h8
       rw[nR hk.nd h8 hj' h7]
     rw[hfd] at he
     simp only[mJ,List.getElem?_eq_getElem hcl,Option.map_some] at he
     injection he with he
     subst he
     have:=si h2 (List.getElem?_eq_getElem hcl)
     generalize (C x)[j]=ce at this
     cases ce with
     | box cs=>exact oo hnk this
     | arr _ _ cs=>exact mP _ _
     | app _ _ cs=>exact mP _ _
  ·cases he
 ·rcases hr with ⟨_,_,he,_⟩|⟨v',hh,he,rfl⟩
  ·cases he
  ·cases he
   obtain ⟨h1,h2⟩:=hpan v hh
   refine ⟨{ Fx:=λj e hj=>(by cases hj),val:=?_,inj:=hinj,same:=hsame },λfr' σ' hds _ _=>?_⟩
   ·exact sU (λk hk=>by cases hk) h1
   ·rw[pX h1];exact h2 fr' σ' hds
end
structure rA where
 t:TypeId
 cells:List PV
def rA.av (p:rA):AV:=.mo p.t (.agg (p.cells.map .pv))
theorem rA.only (p:rA) (q:Nat->Bool):p.av.only q=true:=by simp[rA.av,AV.only,tX]
inductive D (α:Type) where
 | stuck
 | mf (p:rA)
 | ok (a:α)
namespace D
variable {α β:Type}
def bind (x:D α) (k:α->D β):D β:=
 match x with
 | .stuck=>.stuck
 | .mf v=>.mf v
 | .ok a=>k a
def br (b:Bool) (x y:D α):D α:=match b with|true=>x|false=>y
def gd (p:Prop) [Decidable p] (x:D α):D α:=if p then x else .stuck
def el (l:List β) (i:Int) (k:β->D α):D α:=if 0<=i then (match l[i.toNat]? with|some x=>k x|none=>.stuck) else .stuck
def some? (x:Option β) (k:β->D α):D α:=match x with|some x=>k x|none=>.stuck
def jn {X:Type} (j:X->D α) (p:(X->D α)->D α):D α:=p j
def iter {X:Type} (body:(X->D α)->X->D α):Nat->X->D α
 | 0,_=>.stuck
 | n+1,x=>body (iter body n) x
theorem II {b:Bool} {x y r:D α} (hb:b=true) (h:br b x y=r):x=r:=by subst hb;exact h
theorem IJ {b:Bool} {x y r:D α} (hb:b=false) (h:br b x y=r):y=r:=by subst hb;exact h
theorem HD {p:Prop} [Decidable p] {x r:D α} (hr:r≠.stuck) (h:gd p x=r):p/\x=r:=by
 unfold gd at h;split at h
 ·exact ⟨‹p›,h⟩
 exact absurd h.symm hr
theorem Jp {l:List β} {i:Int} {k:β->D α} {r:D α} (hr:r≠.stuck) (h:el l i k=r):∃ x,0<=i/\i<l.length/\l[i.toNat]?=some x/\k x=r:=by
 unfold el at h;split at h
 ·rename_i h0;split at h
  ·rename_i x hx;have:=(List.getElem?_eq_some_iff.1 hx).1;exact ⟨x,h0,by omega,hx,h⟩
  exact absurd h.symm hr
 exact absurd h.symm hr
theorem HE {x:Option β} {k:β->D α} {r:D α} (hr:r≠.stuck) (h:some? x k=r):∃ y,x=some y/\k y=r:=by
 cases x with
 | none=>exact absurd h.symm hr
 | some y=>exact ⟨y,rfl,h⟩
end D
open D
def CT (P:Program) (f:FuncId) (args:List AV) (es:List M) {X:Type} (res:D X) (V:X->AV) (C:X->List M):Prop:=
 ∀ r,res=r->r≠.stuck->SC P f args (Y (ey 0 es)) (pZ V C (λx=>r=.ok x) (λv=>∃ p,r=.mf p/\v=p.av))
section
variable {P:Program} {E:Env} {n:Nat} {ops:Array Oper} {Q:dR} {rest:List Oper} {l:List (Nat×AV)} {ds:List (FuncId×List AV)} {s:List (Nat×M)}
 {ty:TypeId} {pos:String} {af:Array Edge}
theorem FC {f:FuncId} {fn:Func} {c:Code} {args:List AV} {es:List M} {X:Type} {res:D X} {V:X->AV} {C:X->List M} (hf:P.funcs[f]?=some fn) (hb:fn.body=some c) (hn:Nat.ble args.length fn.ntmps=true)
  (h:∀ r,res=r->r≠.stuck->∀ E:Env,(∀ k,kL es k=true->E.fix k=none)->
   SW P E fn.ntmps c (ny P fn (pZ V C (λx=>r=.ok x) (λv=>∃ p,r=.mf p/\v=p.av))) (bZ ((List.range args.length).zip args) []) (Y (ey 0 es))):CT P f args es res V C:=
 λr hr hs=>FB hf hb hn (h r hr hs)
theorem cb {c:Operand} {x y:Code} {b:Bool} (hb:bI l c=some (Bo b)) (ht:b=true->SW P E n x Q (bZ l ds) (Y s)) (hf:b=false->SW P E n y Q (bZ l ds) (Y s)):SW P E n (.cond c x y) Q (bZ l ds) (Y s):=
 Fv (aD hb) ht hf
def tq (l G:List (Nat×AV)):List (Nat×AV)->Prop
 | []=>True
 | (i,_)::F=>jv l i=jv G i/\tq l G F
def tY (s G:List (Nat×M)):List (Nat×M)->Prop
 | []=>True
 | (i,_)::F=>dx s i=dx G i/\tY s G F
theorem yo {l:List (Nat×AV)} {i:Nat}:kz l i=(jv l i).getD .any:=by
 induction l with
 | nil=>rfl
 | cons a l ih=>
  obtain ⟨j,v⟩:=a
  simp only[kz,jv]
  by_cases q:i=j
  ·subst q;simp
  ·have:Nat.beq i j=false:=by
    cases h:Nat.beq i j with
    | false=>rfl
    | true=>exact absurd (Nat.eq_of_beq_eq_true h) q
   simp[this,q,ih]
theorem qG {l:List (Nat×M)} {i:Nat}:kA l i=dx l i:=by
 induction l with
 | nil=>rfl
 | cons a l ih=>
  obtain ⟨j,v⟩:=a
  simp only[kA,dx]
  by_cases q:i=j
  ·subst q;simp
  ·have:Nat.beq i j=false:=by
    cases h:Nat.beq i j with
    | false=>rfl
    | true=>exact absurd (Nat.eq_of_beq_eq_true h) q
   simp[this,q,ih]
theorem oD {l G:List (Nat×AV)}:∀ {F:List (Nat×AV)},tq l G F->∀ p∈F,kz l p.1=kz G p.1
 | [],_,p,hp=>by cases hp
 | (i,v)::F,h,p,hp=>by
  rcases List.mem_cons.1 hp with q|q
  ·subst q;rw[yo,yo,h.1]
  exact oD h.2 p q
theorem qH {s G:List (Nat×M)}:∀ {F:List (Nat×M)},tY s G F->∀ p∈F,kA s p.1=kA G p.1
 | [],_,p,hp=>by cases hp
 | (i,v)::F,h,p,hp=>by
  rcases List.mem_cons.1 hp with q|q
  ·subst q;rw[qG,qG,h.1]
  exact qH h.2 p q
theorem Co {c:Code} (l':List (Nat×AV)) (s':List (Nat×M)) (h1:tq l l' l') (h2:tY s s' s') (h:SW P E n c Q (bZ l' ds) (Y s')):SW P E n c Q (bZ l ds) (Y s):=
 Ce (yX (oD h1)) (yY (qH h2)) h
theorem FD {X:Type} {x y:Code} (F:X->List (Nat×AV)) (H:X->List (Nat×M)) (G:X->Prop)
  (hy:∀ v,G v->SW P E n y Q (bZ (F v) ds) (Y (H v)))
  (hx:∀ K:eu->cn->Prop,(∀ v l s,G v->tq l (F v) (F v)->tY s (H v) (H v)->K (bZ l ds) (Y s))->SW P E n x (vo K Q) (bZ l ds) (Y s)):SW P E n (.seq x y) Q (bZ l ds) (Y s):=
 DJ (hx _ λv _ _ hg h1 h2=>Co (F v) (H v) h1 h2 (hy v hg))
theorem C5 {X R:Type} {c:Code} (F:X->List (Nat×AV)) (H:X->List (Nat×M)) (body:(X->D R)->X->D R) (r:D R) (m:Nat) (v:X) (hr:r≠.stuck) (h0:iter body m v=r)
  (h1:tq l (F v) (F v)) (h2:tY s (H v) (H v))
  (hx:∀ (next:X->D R) (v:X) (K:eu->cn->Prop),(∀ v l s,next v=r->tq l (F v) (F v)->tY s (H v) (H v)->K (bZ l ds) (Y s))->body next v=r->SW P E n c (vo K Q) (bZ (F v) ds) (Y (H v))) :
  SW P E n (.loop c) Q (bZ l ds) (Y s):=by
 refine Co (F v) (H v) h1 h2 (Fw (λk fr σ=>∃ v,iter body k v=r/\fr.le (bZ (F v) ds)/\∀ j e,Y (H v) j=some e->σ j=some e) m ⟨v,h0,⟨λ_=>.inl rfl,rfl⟩,λ_ _ h=>h⟩ ?_)
 rintro k fr σ ⟨v,hv,hle,hsub⟩
 cases k with
 | zero=>exact absurd hv.symm hr
 | succ k=>
  refine Ce hle hsub (hx (iter body k) v _ ?_ hv)
  intro v' l' s' hv' hf hs
  exact ⟨k,Nat.lt_succ_self k,v',hv',yX (oD hf),yY (qH hs)⟩
end
end Go.Abs
end
section
namespace Go.Abs
open D
theorem yp {α:Type} {f:α->List PV} {sz:Nat} (hf:∀ x,(f x).length=sz):∀ {l:List α} {i:Nat} {x:α},l[i]?=some x->
  (l.flatMap f).drop (i*sz)=f x++(l.flatMap f).drop ((i+1)*sz):=by
 intro l
 induction l with
 | nil=>intro i x h;simp at h
 | cons a l ih=>
  intro i x h
  cases i with
  | zero=>
   simp at h;subst h
   rw[List.flatMap_cons,Nat.zero_mul,List.drop_zero,Nat.zero_add,Nat.one_mul,<- hf a,List.drop_left]
  | succ i=>
   have h1:=ih (i:=i) (x:=x) (by simpa using h)
   have h2:∀ j,(f a++l.flatMap f).drop ((j+1)*sz)=(l.flatMap f).drop (j*sz):=λj=>by
    rw[Nat.succ_mul,Nat.add_comm,<- hf a,<- List.drop_drop,List.drop_left]
   rw[List.flatMap_cons,h2,h2,h1]
theorem gW {α:Type} {f:α->List PV} {sz:Nat} (hf:∀ x,(f x).length=sz):∀ (l:List α),(l.flatMap f).length=l.length*sz
 | []=>by simp
 | a::l=>by simp[gW hf l,hf a,Nat.succ_mul,Nat.add_comm]
section
variable {P:Program} {l:List (Nat×AV)} {ds:List (FuncId×List AV)} {s:List (Nat×M)}
theorem iW.two {op:Op} {v:AV} {k j:Nat} {e e':M} (hk:dx s k=some e) (hj:dx s j=some e') (h:fY P op (bZ l ds) [(k,e),(j,e')] v):iW P op l ds s v [(k,e),(j,e')]:=
 ⟨h,λp hp=>by
  simp at hp;rcases hp with q|q
  ·subst q;exact ⟨_,bO hk,M.le_refl _⟩
  subst q;exact ⟨_,bO hj,M.le_refl _⟩⟩
theorem fY.AI {op:Op} {fr:eu} {rd:List (Nat×M)} {v v':AV} (h:fY P op fr rd v) (hle:v.le v'):fY P op fr rd v':=λo ho g ev w hG hv hr=>
 let ⟨c,h1,h2⟩:=h o ho g ev w hG hv hr;⟨c,h1,hle g c h2⟩
theorem iW.AI {op:Op} {v v':AV} {rd:List (Nat×M)} (h:iW P op l ds s v rd) (hle:v.le v'):iW P op l ds s v' rd:=⟨h.h.AI hle,h.r⟩
theorem AV.IK:(Sc (.pointer none)).le (.pv (.pt none)):=λg c h=>by rw[h.dy];exact .pv .Dy
theorem HF {x:Operand} {k m sz:Nat} {el:TypeId} {cells:List PV} (hx:bI l x=some (.arr k m)) (hk:dx s k=some (.app el sz cells)) (hz:Nat.blt 0 sz=true) (hn:cells.length=m*sz) :
 iW P (.move x) l ds s (.pv (.sl m cells)) [(k,.app el sz cells)]:=.on hk (yK (aD hx) (by simpa[Nat.blt_eq] using hz) hn)
theorem DT {t:TypeId} {x:Operand} {k j off m sz:Nat} {el:TypeId} {cells:List PV} {e:M} [ha:iI P t false] (hx:bI l x=some (.ptr k off)) (hk:dx s k=some e)
 (hv:e.cells[off]?=some (.arr j m)) (hj:dx s j=some (.app el sz cells)) (hz:Nat.blt 0 sz=true) (hn:cells.length=m*sz) :
 iW P (.load t x) l ds s (.pv (.sl m cells)) [(k,e),(j,.app el sz cells)]:=.two hk hj (yL ha.h (aD hx) hv (by simpa[Nat.blt_eq] using hz) hn)
theorem fR {α:Type} {f:α->List PV} {Cs:List α->List PV} {t e:TypeId} {sz m:Nat} {x ix:Operand} {k:IntKind} {i:Int} {xs:List α} {a:α} [ht:Ck P t e sz]
  (mg:∀ l,Cs l=l.flatMap f) (hf:∀ x,(f x).length=sz) (h0:0<=i) (h1:i<xs.length) (ha:xs[i.toNat]?=some a)
  (hx:bI l x=some (.pv (.sl m (Cs xs)))) (hm:m=xs.length) (hi:bI l ix=some (Sc (.int k i))) :
  iW P (.indexAddr t x ix) l ds s (.sp (f a++(xs.flatMap f).drop ((i.toNat+1)*sz))) []:=by
 subst hm
 rw[mg] at hx
 refine Fz hx hi h0 h1 ?_ (by rw[yp hf ha])
 rw[gW hf];exact Nat.mul_le_mul_right _ (by omega)
theorem tZ {parts:List (Nat×Operand)} {pv:List (Nat×AV)} (h:parts.mapM (λp=>(bI l p.2).map λv=>(p.1,v))=some pv):(parts.map λp=>(p.1,(bZ l ds).val p.2))=pv:=by
 have key:∀ (ps:List (Nat×Operand)) (pv:List (Nat×AV)),ps.mapM (λp=>(bI l p.2).map λv=>(p.1,v))=some pv->(ps.map λp=>(p.1,(bZ l ds).val p.2))=pv:=by
  intro ps
  induction ps with
  | nil=>intro pv h;simp at h;simp[h]
  | cons p ps ih=>
   intro pv h
   rw[List.mapM_cons] at h
   cases hv:bI l p.2 with
   | none=>simp[hv] at h
   | some v=>
    cases hr:ps.mapM (λp=>(bI l p.2).map λv=>(p.1,v)) with
    | none=>simp[hv,hr] at h
    | some r=>
     simp[hv,hr] at h
     subst h
     simp[ih r hr,aD (ds:=ds) hv]
 exact key parts pv h
def nS (k:Nat):List (Nat×M)->List (Nat×M)
 | []=>[]
 | (j,e)::s=>match Nat.beq j k with
  | true=>nS k s
  | false=>(j,e)::nS k s
theorem o8 {k:Nat}:∀ {s:List (Nat×M)},Y (nS k s)=(Y s).del k
 | []=>by funext j;simp[nS,Y,kA,cn.del]
 | (i,e)::s=>by
  have ih:=o8 (k:=k) (s:=s);funext j;have ihj:=congrFun ih j;simp only[Y,cn.del] at ihj;simp only[nS];split
  ·rename_i q;have hik:=Nat.eq_of_beq_eq_true q;subst hik;simp only[Y,kA,cn.del];rw[ihj];split<;>simp_all
  rename_i q;have hik:i≠k:=λh=>by subst h;simp at q
  simp only[Y,kA,cn.del];by_cases hj:j=i
  ·subst hj;simp[hik]
  simp only[hj,if_false];exact ihj
theorem FF {xt yt el:TypeId} {fr:eu} {x y:Operand} {o:Option (List PV)} (ht:P.underlying xt=some (.pointer el)) (hx:fr.val x=.pv (.pt o)) (hy:fr.val y=Sc (.pointer none)) :
  fY P (.binOp .eql xt x y yt) fr [] (Bo o.isNone):=by
 intro o' ho g ev w _ hv _
 have q1:=hv x (by simp[Op.operands]);rw[hx] at q1
 have q2:=hv y (by simp[Op.operands]);rw[hy] at q2
 generalize hq:ev x=c at q1
 cases q1 with
 | pv q1=>cases q1 with
  | Dy=>
   refine ⟨.bool true,?_,.pv (.sc _)⟩
   simp only[execOp,ho,hq,q2.dy,binOp,Sem.run_bind,vm,Sem.run_pure,Result.andThen_ok];simp[Op.equal,Op.maxDepth,ry ht 9999]
  | Dx=>
   refine ⟨.bool false,?_,.pv (.sc _)⟩
   simp only[execOp,ho,hq,q2.dy,eqGuard,binOp];simp[Op.equal,Op.maxDepth,rz ht 9999]
theorem FG {xt yt el:TypeId} {fr:eu} {x y:Operand} {o:Option (List PV)} (ht:P.underlying xt=some (.pointer el)) (hx:fr.val x=.pv (.pt o)) (hy:fr.val y=Sc (.pointer none)) :
  fY P (.binOp .neq xt x y yt) fr [] (Bo o.isSome):=by
 intro o' ho g ev w _ hv _
 have q1:=hv x (by simp[Op.operands]);rw[hx] at q1
 have q2:=hv y (by simp[Op.operands]);rw[hy] at q2
 generalize hq:ev x=c at q1
 cases q1 with
 | pv q1=>cases q1 with
  | Dy=>
   refine ⟨.bool false,?_,.pv (.sc _)⟩
   simp only[execOp,ho,hq,q2.dy,binOp,Sem.run_bind,vm,Sem.run_pure,Result.andThen_ok];simp[Op.equal,Op.maxDepth,ry ht 9999]
  | Dx=>
   refine ⟨.bool true,?_,.pv (.sc _)⟩
   simp only[execOp,ho,hq,q2.dy,eqGuard,binOp];simp[Op.equal,Op.maxDepth,rz ht 9999]
theorem DU {fr:eu} {x:Operand} {c:List PV} (hx:fr.val x=.pv (.pt (some c))):fY P (.nilCheck x) fr [] (.sp c):=by
 intro o ho g ev w _ hv _;have h1:=hv x (by simp[Op.operands]);rw[hx] at h1;generalize hq:ev x=c at h1;cases h1 with
 | pv h1=>cases h1 with
  | Dx b ys off cells h hl hc=>exact ⟨_,by simp[execOp,ho,hq],.sp off h hl hc⟩
theorem DV {xt yt el:TypeId} {x y:Operand} {o:Option (List PV)} [ht:jD P xt (.pointer el)] (hx:bI l x=some (.pv (.pt o))) (hy:bI l y=some (Sc (.pointer none))) :
 iW P (.binOp .eql xt x y yt) l ds s (Bo o.isNone) []:=.of (FF ht.h (aD hx) (aD hy))
theorem DY {xt yt el:TypeId} {x y:Operand} {o:Option (List PV)} [ht:jD P xt (.pointer el)] (hx:bI l x=some (.pv (.pt o))) (hy:bI l y=some (Sc (.pointer none))) :
 iW P (.binOp .neq xt x y yt) l ds s (Bo o.isSome) []:=.of (FG ht.h (aD hx) (aD hy))
theorem FH {x:Operand} {c:List PV} (hx:bI l x=some (.pv (.pt (some c)))):iW P (.nilCheck x) l ds s (.sp c) []:=.of (DU (aD hx))
theorem cY {c a b:Operand} {v:AV} {t:Bool} (ht:t=true) (hc:bI l c=some (Bo t)) (ha:bI l a=some v):iW P (.pick c a b) l ds s v []:=by subst ht;exact tV hc ha
theorem cU {c a b:Operand} {v:AV} {t:Bool} (ht:t=false) (hc:bI l c=some (Bo t)) (hb:bI l b=some v):iW P (.pick c a b) l ds s v []:=by subst ht;exact de hc hb
theorem jm {xt yt:TypeId} {x y:Operand} {k:IntKind} {a b:Int} (hx:bI l x=some (Sc (.int k a))) (hy:bI l y=some (Sc (.int k b))):iW P (.binOp .add xt x y yt) l ds s (Sc (.int k (k.wrap (a+b)))) []:=
 .of (Cb (aD hx) (aD hy))
theorem tH {xt yt:TypeId} {x y:Operand} {k:IntKind} {a b:Int} (hx:bI l x=some (Sc (.int k a))) (hy:bI l y=some (Sc (.int k b))):iW P (.binOp .sub xt x y yt) l ds s (Sc (.int k (k.wrap (a - b)))) []:=
 .of (Cc (aD hx) (aD hy))
theorem wN {xt yt:TypeId} {x y:Operand} {k:IntKind} {a b:Int} (hx:bI l x=some (Sc (.int k a))) (hy:bI l y=some (Sc (.int k b))):iW P (.binOp .mul xt x y yt) l ds s (Sc (.int k (k.wrap (a*b)))) []:=
 .of (Fq (aD hx) (aD hy))
theorem jy {a b:TypeId} {x:Operand} {k k':IntKind} {v:Int} [hs:jD P a (.int k')] [ht:jD P b (.int k)] (hx:bI l x=some (Sc (.int k' v))):iW P (.convert a b x) l ds s (Sc (.int k (k.wrap v))) []:=
 .of (BF hs.h ht.h (aD hx))
end
section
variable {P:Program} {E:Env} {n:Nat} {ops:Array Oper} {Q:dR} {rest:List Oper} {l:List (Nat×AV)} {ds:List (FuncId×List AV)} {s:List (Nat×M)}
 {ty:TypeId} {pos:String} {af:Array Edge}
theorem IL {d j g:Nat} {op:Op} {v:AV} {rd:List (Nat×M)} {want b:Bool} (hb:b=want) (hj:(ops[j]?).bind (·.dst)=some g/\jv l g=some (Bo b))
  (h:iW P op l ds s v rd) (hd:Nat.blt d n=true) (hn:SL P E n ops Q rest (bZ ((d,v)::l) ds) (Y s)):SL P E n ops Q (⟨some d,op,ty,pos,af,some (j,want)⟩::rest) (bZ l ds) (Y s):=by
 subst hb;exact Hz hj h hd hn
theorem G5 {d j g:Nat} {op:Op} {want b:Bool} (hb:b = !want) (hj:(ops[j]?).bind (·.dst)=some g/\jv l g=some (Bo b)) (hd:Nat.blt d n=true)
  (hn:SL P E n ops Q rest (bZ ((d,Sc undef)::l) ds) (Y s)):SL P E n ops Q (⟨some d,op,ty,pos,af,some (j,want)⟩::rest) (bZ l ds) (Y s):=by
 subst hb;exact IA ⟨hj.1,hj.2,by cases want<;>rfl⟩ hd hn
theorem DZ {d:Nat} {t e:TypeId} {m sz:Nat} {parts:List (Nat×Operand)} {zs:List Value} {pl:List (Nat×Nat)} {pv:List (Nat×AV)} {cells:List PV} [ht:jR P t m e sz zs pl] (nm:Nat) (hE:E.fix nm=none)
  (h:parts.mapM (λp=>(bI l p.2).map λv=>(p.1,v))=some pv/\lM pl (zs.map λv=>.pv (.sc v)) pv=some (cells.map .pv)/\cells.length=m*sz/\Nat.ble m 1000=true)
  (hm:k9 nm l=false/\jB nm ds=false/\nK nm s=false) (hd:Nat.blt d n=true)
  (hn:SL P E n ops Q rest (bZ ((d,.arr nm m)::l) ds) (Y ((nm,.app e sz cells)::s))):SL P E n ops Q (⟨some d,.buildSlice t m parts.toArray,ty,pos,af,none⟩::rest) (bZ l ds) (Y s):=by
 refine iY rfl (yU (vn nm ht.h ?_ h.2.2.1 (Nat.le_trans (Nat.le_of_ble_eq_true h.2.2.2) (by simp[maxLen]))) (gr hm.1 hm.2.1) (jC hm.2.2) hE (mA hd) hn)
 rw[tZ h.1];exact h.2.1
end
end Go.Abs
end
section
namespace Go.Abs
open D
section
variable {P:Program} {E:Env} {n:Nat} {ops:Array Oper} {Q:dR} {B:List Rec->eu->cn->Prop} {i:Nat} {L:List Nat} {recs:List Rec} {l:List (Nat×AV)} {ds:List (FuncId×List AV)} {s:List (Nat×M)}
 {ty:TypeId} {pos:String} {af:Array Edge}
theorem cK {d j g:Nat} {op:Op} {v:AV} {rd:List (Nat×M)} {want b:Bool} (hb:b=want) (ho:ops[i]?=some ⟨some d,op,ty,pos,af,some (j,want)⟩)
  (hj:(ops[j]?).bind (·.dst)=some g/\jv l g=some (Bo b)) (h:iW P op l ds s v rd)
  (hc:dJ ⟨some d,op,ty,pos,af,some (j,want)⟩=false/\Nat.blt d n=true/\wL ops i v rd recs=true)
  (hn:mi P E n ops Q B L (⟨i,some d,rd,none⟩::recs) (bZ ((d,v)::l) ds) (Y s)):mi P E n ops Q B (i::L) recs (bZ l ds) (Y s):=by
 subst hb;exact HB ho hj h hc hn
theorem cI {d j g:Nat} {op:Op} {want b:Bool} (hb:b = !want) (ho:ops[i]?=some ⟨some d,op,ty,pos,af,some (j,want)⟩)
  (hj:(ops[j]?).bind (·.dst)=some g/\jv l g=some (Bo b)) (hc:dJ ⟨some d,op,ty,pos,af,some (j,want)⟩=false/\Nat.blt d n=true)
  (hn:mi P E n ops Q B L (⟨i,some d,[],none⟩::recs) (bZ ((d,Sc undef)::l) ds) (Y s)):mi P E n ops Q B (i::L) recs (bZ l ds) (Y s):=by
 subst hb;exact IH ho ⟨hj.1,hj.2,by cases want<;>rfl⟩ hc hn
theorem uO {d j g:Nat} {op:Op} {want b:Bool} (hb:b = !want) (ho:ops[i]?=some ⟨some d,op,ty,pos,af,some (j,want)⟩)
  (hj:(ops[j]?).bind (·.dst)=some g/\jv l g=some (Bo b)) (hc:dJ ⟨some d,op,ty,pos,af,some (j,want)⟩=true/\Nat.blt d n=true)
  (hn:mi P E n ops Q B L recs (bZ ((d,Sc undef)::l) ds) (Y s)):mi P E n ops Q B (i::L) recs (bZ l ds) (Y s):=by
 subst hb;exact HC ho ⟨hj.1,hj.2,by cases want<;>rfl⟩ hc hn
theorem bu {id:Nat} {fr:eu} {σ:cn} (L:List Nat) (hm:P.follows .mixedOrders=true) (hchk:Jo ops L=true) (h:DW P E n ops Q L [] fr σ):SW P E n (.region id ops true) Q fr σ:=Fy L hm hchk h
end
theorem kM {α β:Type} {x:D α} {k:α->D β} {r:D β} (hr:r≠.stuck) (h:D.bind x k=r):x≠.stuck/\(∀ a,x=.ok a->k a=r)/\∀ p,x=.mf p->r=.mf p:=by
 cases x with
 | stuck=>exact absurd h.symm hr
 | mf p=>exact ⟨by simp,λ_ q=>by simp at q,λq hq=>by cases hq;exact h.symm⟩
 | ok a=>exact ⟨by simp,λb q=>by cases q;exact h,λ_ q=>by simp at q⟩
section
variable {P:Program} {E:Env} {n:Nat} {ops:Array Oper} {Q:dR} {rest:List Oper} {l:List (Nat×AV)} {ds:List (FuncId×List AV)} {s:List (Nat×M)}
 {ty:TypeId} {pos:String} {af:Array Edge}
theorem AT {o:Oper} {X R:Type} {res:D X} {kk:X->D R} {r:D R} {V V':X->AV} {C:X->List M} {C':X->List (Nat×M)} {f:Operand} {args:List Operand} {ts:Array TypeId} {fid:FuncId}
  {argsC first cap vs:List AV} {es:List M} {next:eu->cn->Prop} (hr:r≠.stuck) (h:D.bind res kk=r) {l':List (Nat×AV)} (hwk:(bZ l ds).le (bZ l' ds)) (ks:List Nat) (hen:Enters P fid) (ho:o.op=.call ⟨.value f,args.toArray,ts⟩)
  (hC:CT P fid argsC es res V C) (hk:lA E ds l s ks f args fid argsC es first cap vs l') (hd:∀ d,o.dst=some d->d<n)
  (hx:∀ x,(C x).length=ks.length/\jE (below ks.length) (C x)=true/\(V x).only (below ks.length)=true)
  (hV:∀ x,(V x).gD (nth ks)=V' x/\lz ks (kj (nth ks) (C x))=C' x)
  (hpan:∀ p fr σ,fr.ds=ds->r=.mf p->Q (.panic p.av) fr σ)
  (hret:∀ x,kk x=r->next ((bZ l' ds).iC o.dst (V' x)) (Y (C' x++s))):Step P E n Q o (bZ l ds) (Y s) next:=by
 obtain ⟨hns,hok,hp⟩:=kM hr h
 refine wI hwk ks hen ho (hC res rfl hns) hk hd (λx _=>hx x) (λx hg=>?_) (λv hv=>?_)
 ·have:=hret x (hok x hg)
  rw[<- (hV x).1,<- (hV x).2] at this;exact this
 ·obtain ⟨p,hp1,rfl⟩:=hv
  exact ⟨p.only _,hpan p _ _ rfl (hp p hp1)⟩
theorem Cp {o:Oper} {X R:Type} {res:D X} {kk:X->D R} {r:D R} {V V':X->AV} {C:X->List M} {C':X->List (Nat×M)} {f:Operand} {args:List Operand} {ts:Array TypeId} {fid:FuncId}
  {argsC first cap vs:List AV} {es:List M} {next:eu->cn->Prop} (hr:r≠.stuck) (h:D.bind res kk=r) (ks:List Nat) (hen:Enters P fid) (ho:o.op=.call ⟨.value f,args.toArray,ts⟩)
  (hC:CT P fid argsC es res V C) (hk:lA E ds l s ks f args fid argsC es first cap vs) (hd:∀ d,o.dst=some d->d<n)
  (hx:∀ x,(C x).length=ks.length/\jE (below ks.length) (C x)=true/\(V x).only (below ks.length)=true)
  (hV:∀ x,(V x).gD (nth ks)=V' x/\lz ks (kj (nth ks) (C x))=C' x)
  (hpan:∀ p fr σ,fr.ds=ds->r=.mf p->Q (.panic p.av) fr σ)
  (hret:∀ x,kk x=r->next ((bZ l ds).iC o.dst (V' x)) (Y (C' x++s))):Step P E n Q o (bZ l ds) (Y s) next:=
 AT hr h ⟨λ_=>.inl rfl,rfl⟩ ks hen ho hC hk hd hx hV hpan hret
theorem jF {d:Nat} {X R:Type} {res:D X} {kk:X->D R} {r:D R} {V V':X->AV} {C:X->List M} {C':X->List (Nat×M)} {f:Operand} {args:List Operand} {ts:Array TypeId} {fid:FuncId}
  {argsC first cap vs:List AV} {es:List M} (hr:r≠.stuck) (h:D.bind res kk=r) (ks:List Nat) (hen:Enters P fid)
  (hC:CT P fid argsC es res V C) (hk:lA E ds l s ks f args fid argsC es first cap vs) (hd:Nat.blt d n=true)
  (hx:∀ x,(C x).length=ks.length/\jE (below ks.length) (C x)=true/\(V x).only (below ks.length)=true)
  (hV:∀ x,(V x).gD (nth ks)=V' x/\lz ks (kj (nth ks) (C x))=C' x)
  (hpan:∀ p fr σ,fr.ds=ds->r=.mf p->Q (.panic p.av) fr σ)
  (hret:∀ x,kk x=r->SL P E n ops Q rest (bZ ((d,V' x)::l) ds) (Y (C' x++s))) :
  SL P E n ops Q (⟨some d,.call ⟨.value f,args.toArray,ts⟩,ty,pos,af,none⟩::rest) (bZ l ds) (Y s):=
 iY rfl (Cp hr h ks hen rfl hC hk (mA hd) hx hV hpan hret)
theorem HG {d:Nat} {X R:Type} {res:D X} {kk:X->D R} {r:D R} {V V':X->AV} {C:X->List M} {C':X->List (Nat×M)} {f:Operand} {args:List Operand} {ts:Array TypeId} {fid:FuncId}
  {argsC first cap vs:List AV} {es:List M} (l':List (Nat×AV)) (hwk:tq l l' l') (hr:r≠.stuck) (h:D.bind res kk=r) (ks:List Nat) (hen:Enters P fid)
  (hC:CT P fid argsC es res V C) (hk:lA E ds l s ks f args fid argsC es first cap vs l') (hd:Nat.blt d n=true)
  (hx:∀ x,(C x).length=ks.length/\jE (below ks.length) (C x)=true/\(V x).only (below ks.length)=true)
  (hV:∀ x,(V x).gD (nth ks)=V' x/\lz ks (kj (nth ks) (C x))=C' x)
  (hpan:∀ p fr σ,fr.ds=ds->r=.mf p->Q (.panic p.av) fr σ)
  (hret:∀ x,kk x=r->SL P E n ops Q rest (bZ ((d,V' x)::l') ds) (Y (C' x++s))) :
  SL P E n ops Q (⟨some d,.call ⟨.value f,args.toArray,ts⟩,ty,pos,af,none⟩::rest) (bZ l ds) (Y s):=
 iY rfl (AT hr h (yX (oD hwk)) ks hen rfl hC hk (mA hd) hx hV hpan hret)
theorem D0 {d j g:Nat} {want b:Bool} {X R:Type} {res:D X} {kk:X->D R} {r:D R} {V V':X->AV} {C:X->List M} {C':X->List (Nat×M)} {f:Operand} {args:List Operand} {ts:Array TypeId} {fid:FuncId}
  {argsC first cap vs:List AV} {es:List M} (hb:b=want) (hj:(ops[j]?).bind (·.dst)=some g/\jv l g=some (Bo b)) (hr:r≠.stuck) (h:D.bind res kk=r) (ks:List Nat) (hen:Enters P fid)
  (hC:CT P fid argsC es res V C) (hk:lA E ds l s ks f args fid argsC es first cap vs) (hd:Nat.blt d n=true)
  (hx:∀ x,(C x).length=ks.length/\jE (below ks.length) (C x)=true/\(V x).only (below ks.length)=true)
  (hV:∀ x,(V x).gD (nth ks)=V' x/\lz ks (kj (nth ks) (C x))=C' x)
  (hpan:∀ p fr σ,fr.ds=ds->r=.mf p->Q (.panic p.av) fr σ)
  (hret:∀ x,kk x=r->SL P E n ops Q rest (bZ ((d,V' x)::l) ds) (Y (C' x++s))) :
  SL P E n ops Q (⟨some d,.call ⟨.value f,args.toArray,ts⟩,ty,pos,af,some (j,want)⟩::rest) (bZ l ds) (Y s):=by
 subst hb
 exact wy rfl hj.1 (eL hj.2) (mA hd) (λ_=>Cp hr h ks hen rfl hC hk (mA hd) hx hV hpan hret) (λq=>absurd rfl q)
end
section
variable {P:Program} {E:Env} {n:Nat} {ops:Array Oper} {Q:dR} {B:List Rec->eu->cn->Prop} {i:Nat} {L:List Nat} {recs:List Rec} {l:List (Nat×AV)} {ds:List (FuncId×List AV)} {s:List (Nat×M)}
 {ty:TypeId} {pos:String} {af:Array Edge}
theorem dG {d:Nat} {X R:Type} {res:D X} {kk:X->D R} {r:D R} {V V':X->AV} {C:X->List M} {C':X->List (Nat×M)} {f:Operand} {args:List Operand} {ts:Array TypeId} {fid:FuncId}
  {argsC first cap vs:List AV} {es:List M} {gd:Option (Nat×Bool)} (ho:ops[i]?=some ⟨some d,.call ⟨.value f,args.toArray,ts⟩,ty,pos,af,gd⟩)
  (hw:gX ops ⟨some d,.call ⟨.value f,args.toArray,ts⟩,ty,pos,af,gd⟩ (bZ l ds)) (hr:r≠.stuck) (h:D.bind res kk=r) (ks:List Nat) (hen:Enters P fid)
  (hC:CT P fid argsC es res V C) (hk:lA E ds l s ks f args fid argsC es first cap vs) (hd:Nat.blt d n=true) (hnm:uN ks recs=true)
  (hx:∀ x,(C x).length=ks.length/\jE (below ks.length) (C x)=true/\(V x).only (below ks.length)=true)
  (hV:∀ x,(V x).gD (nth ks)=V' x/\lz ks (kj (nth ks) (C x))=C' x)
  (hpan:∀ p fr σ,fr.ds=ds->r=.mf p->Q (.panic p.av) fr σ)
  (hret:∀ x,kk x=r->lP ops i (C' x++s) recs/\mi P E n ops Q B L recs (bZ ((d,V' x)::l) ds) (Y (C' x++s))):mi P E n ops Q B (i::L) recs (bZ l ds) (Y s):=by
 obtain ⟨hns,hok,hp⟩:=kM hr h
 refine Cn ho hw ks hen (hC res rfl hns) hk hd hnm (λx _=>hx x) (λv hv=>?_) (λx hg v' s' hv hs=>?_)
 ·obtain ⟨p,hp1,rfl⟩:=hv
  exact ⟨p.only _,λfr' σ' hds=>hpan p _ _ hds (hp p hp1)⟩
 ·have:=hret x (hok x hg)
  rw[<- (hV x).1,<- (hV x).2] at this
  subst hv hs;exact this
theorem bQ {o:Oper} {fr:eu} (h:o.guard=none):gX ops o fr:=.inl h
theorem AU {o:Oper} {j g:Nat} {want b:Bool} (hb:b=want) (h:o.guard=some (j,want)) (hj:(ops[j]?).bind (·.dst)=some g/\jv l g=some (Bo b)):gX ops o (bZ l ds):=by
 subst hb;exact .inr ⟨j,b,g,h,hj.1,eL hj.2⟩
end
theorem zq {P:Program} {fn:Func} {X:Type} {V:X->AV} {C:X->List M} {r:D X} {p:rA} {fr:eu} {σ:cn} (hd:fr.ds=[]) (h:r=.mf p) :
 ny P fn (pZ V C (λx=>r=.ok x) (λv=>∃ p,r=.mf p/\v=p.av)) (.panic p.av) fr σ:=BK hd ⟨p,h,rfl⟩
end Go.Abs
end
section
namespace Go.Abs
open D
theorem Rel.vY {E:Env} {g:Gh} {σ:cn} {w:World} (h:Rel E g σ w) {nm sz:Nat} {el:TypeId} (hc:σ.clear nm) (hf:E.fix nm=none) :
  Rel E (g.unbind nm) (σ.set nm (.app el sz [])) w:=by
 have hle:=jQ.unbind g nm
 have hρ:∀ j,j≠nm->(g.unbind nm).ρ j=g.ρ j:=λj q=>by simp[Gh.unbind,q]
 have hρn:(g.unbind nm).ρ nm=none:=by simp[Gh.unbind]
 have hne:∀ j e,σ.set nm (.app el sz []) j=some e->j≠nm->σ j=some e:=λj e hj q=>by simpa[cn.set,q] using hj
 have hnes:∀ j,(σ.set nm (.app el sz []) j).isSome=true->j≠nm->(σ j).isSome=true:=λj hj q=>by simpa[cn.set,q] using hj
 refine { jx:=?_,inj:=?_,gl:=?_,apart:=?_,size:=h.size,oj:=h.oj,own:=?_,fix:=?_,iH:=?_,g0:=h.g0,gn:=h.gn,os:=h.os,out:=h.out,tape:=h.tape,x:=h.x.r4 rfl rfl (λj b hj hb=>by
   by_cases q:j=nm
   ·subst q;rw[hρn] at hb;cases hb
   ·exact ⟨j,hnes j hj q,by rw[<- hρ j q];exact hb,.inl rfl⟩) (λj b e' hfj hj=>by
   have q:j≠nm:=λq=>by subst q;rw[hf] at hfj;cases hfj
   exact ⟨e',hne j _ hj q,id⟩) }
 ·intro k e hk
  by_cases q:k=nm
  ·subst q;simp[cn.set] at hk;subst hk;exact .wm hρn
  ·have hk':=hne k e hk q
   exact (h.jx k e hk').le hle q (λ_ _ _=>rfl) (λj hj=>by subst hj;exact hc k e hk') (λ_ _=>rfl)
 ·intro k k' b hk hk' hb hb'
  by_cases q:k=nm
  ·subst q;rw[hρn] at hb;cases hb
  ·by_cases q':k'=nm
   ·subst q';rw[hρn] at hb';cases hb'
   ·rw[hρ k q] at hb;rw[hρ k' q'] at hb'
    exact h.inj k k' b (hnes k hk q) (hnes k' hk' q') hb hb'
 ·exact h.gl.le hle rfl (λ_ _ _=>rfl)
 ·intro k b e hk hka hb
  by_cases q:k=nm
  ·subst q;rw[hρn] at hb;cases hb
  ·rw[hρ k q] at hb;exact h.apart k b e (hne k e hk q) hka hb
 ·intro k b hk hb
  by_cases q:k=nm
  ·subst q;rw[hρn] at hb;cases hb
  ·rw[hρ k q] at hb;exact h.own k b (hnes k hk q) hb
 ·intro k b hk
  have q:k≠nm:=λq=>by subst q;rw[hf] at hk;cases hk
  rw[hρ k q];exact h.fix k b hk
 ·intro k b hk
  have q:k≠nm:=λq=>by subst q;rw[hf] at hk;cases hk
  have:(g.unbind nm).cp k=g.cp k:=rfl
  rw[this];exact h.iH k b hk
section
variable {P:Program} {E:Env} {n:Nat} {ops:Array Oper} {Q:dR} {rest:List Oper} {c:Code} {l:List (Nat×AV)} {ds:List (FuncId×List AV)} {s:List (Nat×M)}
def eH (E:Env) (n:Nat) (l:List (Nat×AV)) (ds:List (FuncId×List AV)) (s:List (Nat×M)) (l':List (Nat×AV)) (s':List (Nat×M)):Prop:=
 ∀ (g:Gh) (a:Act) (w:World),Rel E g (Y s) w->FR n g (bZ l ds) a->∃ g',Rel E g' (Y s') w/\FR n g' (bZ l' ds) a
theorem bK {l':List (Nat×AV)} {s':List (Nat×M)} (hg:eH E n l ds s l' s') (h:SW P E n c Q (bZ l' ds) (Y s')):SW P E n c Q (bZ l ds) (Y s):=λg a w hR hF=>
 let ⟨g',hR',hF'⟩:=hg g a w hR hF;h g' a w hR' hF'
theorem aY {l':List (Nat×AV)} {s':List (Nat×M)} (hg:eH E n l ds s l' s') (h:SL P E n ops Q rest (bZ l' ds) (Y s')):SL P E n ops Q rest (bZ l ds) (Y s):=λg a w hR hF=>
 let ⟨g',hR',hF'⟩:=hg g a w hR hF;h g' a w hR' hF'
theorem HH {d k m sz:Nat} {el:TypeId} {cells:List PV} (hd:jv l d=some (.arr k m)) (hk:dx s k=some (.app el sz cells)) (hz:Nat.blt 0 sz=true) (hn:cells.length=m*sz) :
  eH E n l ds s ((d,.pv (.sl m cells))::l) s:=λg a w hR hF=>by
 refine ⟨g,hR,hF.size,λi=>?_,hF.ds⟩
 by_cases q:i=d
 ·subst q
  have h1:=hF.ib i
  simp only[bZ,eL hd] at h1
  simpa[bZ,kz] using h1.view (hR.jx k _ (bO hk)) (by simpa[Nat.blt_eq] using hz) hn
 ·have h1:=hF.ib i
  simpa[bZ,kz,q] using h1
theorem gB.set {g:Gh} {v:AV}:∀ {cells:List AV} {vs:List Value} {off:Nat} {u:AV},gB g cells vs->cells[off]?=some u->(∀ c,VR g u c->VR g v c)->gB g (cells.set off v) vs
 | [],_,_,_,_,h,_=>by simp at h
 | x::xs,_,0,u,.cons h t,hu,hv=>by simp at hu;subst hu;exact .cons (hv _ h) t
 | x::xs,_,off+1,u,.cons h t,hu,hv=>.cons h (gB.set t (by simpa using hu) hv)
theorem FI {j off k m sz:Nat} {el:TypeId} {cells:List PV} {cs:List AV} (hj:dx s j=some (.box cs)) (hc:cs[off]?=some (.arr k m)) (hk:dx s k=some (.app el sz cells)) (hz:Nat.blt 0 sz=true)
  (hn:cells.length=m*sz):eH E n l ds s l ((j,.box (cs.set off (.pv (.sl m cells))))::s):=λg a w hR hF=>by
 refine ⟨g,?_,hF⟩
 have hjs:=bO hj
 have hks:=bO hk
 have he:∀ i e,Y ((j,.box (cs.set off (.pv (.sl m cells))))::s) i=some e->(Y s i).isSome=true/\(i≠j->Y s i=some e):=λi e h=>by
  by_cases q:i=j
  ·subst q;exact ⟨by rw[hjs];rfl,λq=>absurd rfl q⟩
  ·have:Y s i=some e:=by simpa[Y,kA,q] using h
   exact ⟨by rw[this];rfl,λ_=>this⟩
 have hs:∀ i,(Y ((j,.box (cs.set off (.pv (.sl m cells))))::s) i).isSome=true->(Y s i).isSome=true:=λi h=>by
  cases q:Y ((j,.box (cs.set off (.pv (.sl m cells))))::s) i with
  | none=>rw[q] at h;cases h
  | some e=>exact (he i e q).1
 exact {
     jx:=λi e h=>by
      by_cases q:i=j
      ·subst q
       have:e=.box (cs.set off (.pv (.sl m cells))):=by simpa[Y,kA] using h.symm
       subst this
       cases hR.jx i _ hjs with
       | box h1 h2 h3 h4=>exact .box h1 h2 (h3.set hc λc hc=>hc.view (hR.jx k _ hks) (by simpa[Nat.blt_eq] using hz) hn) h4
      ·exact hR.jx i e ((he i e h).2 q)
     inj:=λi i' b h h'=>hR.inj i i' b (hs i h) (hs i' h')
     gl:=hR.gl
     apart:=λi b e h hea hb=>by
      by_cases q:i=j
      ·subst q;exact hR.apart i b _ hjs rfl hb
      ·exact hR.apart i b e ((he i e h).2 q) hea hb
     size:=hR.size,oj:=hR.oj,own:=λi b h=>hR.own i b (hs i h),fix:=hR.fix,iH:=hR.iH,g0:=hR.g0,gn:=hR.gn,os:=hR.os,out:=hR.out,tape:=hR.tape
     x:=hR.x.r4 rfl rfl (λi b hi hb=>⟨i,hs i hi,hb,.inl rfl⟩) (λi b e' _ hi=>by
      by_cases q:i=j
      ·subst q;exact ⟨_,hjs,λ_=>(by simp[Y,kA] at hi;exact ⟨_,hi.symm⟩)⟩
      ·exact ⟨e',(he i _ hi).2 q,id⟩) }
theorem pA {d:Nat} (nm:Nat) {sz:Nat} {el:TypeId} (hE:E.fix nm=none) (hd:jv l d=some (nSl)) (hm:k9 nm l=false/\jB nm ds=false/\nK nm s=false) :
  eH E n l ds s ((d,.arr nm 0)::l) ((nm,.app el sz [])::s):=λg a w hR hF=>by
 have h1:=hR.vY (el:=el) (sz:=sz) (jC hm.2.2) hE
 have h2:=hF.le (jQ.unbind g nm) (λk q=>by subst q;exact gr hm.1 hm.2.1)
 refine ⟨g.unbind nm,h1,h2.size,λi=>?_,h2.ds⟩
 by_cases q:i=d
 ·subst q
  have h3:=h2.ib i
  simp only[bZ,eL hd] at h3
  simp only[bZ,kz,if_true]
  rw[h3.dy];exact .oU (by simp[Gh.unbind])
 ·simpa[bZ,kz,q] using h2.ib i
theorem sV {j off:Nat} (nm:Nat) {sz:Nat} {el:TypeId} {cs:List AV} (hE:E.fix nm=none) (hj:dx s j=some (.box cs)) (hc:cs[off]?=some (nSl))
  (hm:k9 nm l=false/\jB nm ds=false/\nK nm s=false) (hjn:Nat.beq j nm=false) :
  eH E n l ds s l ((j,.box (cs.set off (.arr nm 0)))::(nm,.app el sz [])::s):=λg a w hR hF=>by
 have hR:=hR.vY (el:=el) (sz:=sz) (jC hm.2.2) hE
 have hF:=hF.le (jQ.unbind g nm) (λk q=>by subst q;exact gr hm.1 hm.2.1)
 have hjn':j≠nm:=λq=>by subst q;simp at hjn
 have hjs:(Y s).set nm (.app el sz []) j=some (.box cs):=by simp[cn.set,hjn',bO hj]
 refine ⟨g.unbind nm,?_,hF⟩
 have he:∀ i e,Y ((j,.box (cs.set off (.arr nm 0)))::(nm,.app el sz [])::s) i=some e->(((Y s).set nm (.app el sz [])) i).isSome=true/\(i≠j->((Y s).set nm (.app el sz [])) i=some e):=λi e h=>by
  by_cases q:i=j
  ·subst q;exact ⟨by rw[hjs];rfl,λq=>absurd rfl q⟩
  ·have:((Y s).set nm (.app el sz [])) i=some e:=by simpa[Y,kA,cn.set,q] using h
   exact ⟨by rw[this];rfl,λ_=>this⟩
 have hs:∀ i,(Y ((j,.box (cs.set off (.arr nm 0)))::(nm,.app el sz [])::s) i).isSome=true->(((Y s).set nm (.app el sz [])) i).isSome=true:=λi h=>by
  cases q:Y ((j,.box (cs.set off (.arr nm 0)))::(nm,.app el sz [])::s) i with
  | none=>rw[q] at h;cases h
  | some e=>exact (he i e q).1
 exact {
     jx:=λi e h=>by
      by_cases q:i=j
      ·subst q
       have:e=.box (cs.set off (.arr nm 0)):=by simpa[Y,kA] using h.symm
       subst this
       cases hR.jx i _ hjs with
       | box h1 h2 h3 h4=>exact .box h1 h2 (h3.set hc λc hc=>by rw[hc.dy];exact .oU (by simp[Gh.unbind])) h4
      ·exact hR.jx i e ((he i e h).2 q)
     inj:=λi i' b h h'=>hR.inj i i' b (hs i h) (hs i' h')
     gl:=hR.gl
     apart:=λi b e h hea hb=>by
      by_cases q:i=j
      ·subst q;exact hR.apart i b _ hjs rfl hb
      ·exact hR.apart i b e ((he i e h).2 q) hea hb
     size:=hR.size,oj:=hR.oj,own:=λi b h=>hR.own i b (hs i h),fix:=hR.fix,iH:=hR.iH,g0:=hR.g0,gn:=hR.gn,os:=hR.os,out:=hR.out,tape:=hR.tape
     x:=hR.x.r4 rfl rfl (λi b hi hb=>⟨i,hs i hi,hb,.inl rfl⟩) (λi b e' _ hi=>by
      by_cases q:i=j
      ·subst q;exact ⟨_,hjs,λ_=>(by simp[Y,kA] at hi;exact ⟨_,hi.symm⟩)⟩
      ·exact ⟨e',(he i _ hi).2 q,id⟩) }
end
def cr (x:Int):Prop:=-9223372036854775808<=x/\x<=9223372036854775807
instance (x:Int):Decidable (cr x):=by unfold cr;exact inferInstance
def mh (a b:ByS):Prop:=a.length+b.length<=9223372036854775807
instance (a b:ByS):Decidable (mh a b):=by unfold mh;exact inferInstance
def sub (c:ByS) (i j:Int):ByS:=(c.drop i.toNat).take (j.toNat - i.toNat)
def dK (c:ByS) (i:Int):ByS:=c.drop i.toNat
def jU (c:ByS) (j:Int):ByS:=c.take j.toNat
def AV.nz:AV->AV
 | .pv (.sc (.slice none 0 0))=>.pv (.sl 0 [])
 | .pv (.sc (.pointer none))=>.pv (.pt none)
 | v=>v
theorem AV.D1 (v:AV):v.le v.nz:=by
 unfold AV.nz;split
 ·exact AV.le_nil
 ·exact AV.IK
 exact AV.le_refl _
def AV.Iw:List AV->List AV
 | []=>[]
 | v::vs=>v.nz::Iw vs
theorem AV.vZ:∀ l:List AV,Ax l (AV.Iw l)
 | []=>.nil
 | v::l=>.cons (AV.D1 v) (AV.vZ l)
section
variable {P:Program} {l:List (Nat×AV)} {ds:List (FuncId×List AV)} {s:List (Nat×M)}
theorem bd {t:TypeId} {parts:List (Nat×Operand)} {z:List Value} {pl:List (Nat×Nat)} {pv:List (Nat×AV)} {out out':List AV} [ht:hO P t z pl]
  (hp:parts.mapM (λp=>(bI l p.2).map λv=>(p.1,v))=some pv) (h:lM pl (z.map λv=>.pv (.sc v)) pv=some out) (hn:AV.Iw out=out'):iW P (.build t parts.toArray) l ds s (.agg out') []:=by
 subst hn;exact (dA hp h).AI (AV.Hx (AV.vZ out))
end
class D2 (P:Program) (t:TypeId):Prop where h:(P.underlying t).map DG=some false:=by kernel_rfl
section
variable {P:Program} {l:List (Nat×AV)} {ds:List (FuncId×List AV)} {s:List (Nat×M)}
theorem D3 {t:TypeId} {x:Operand} {f d:Nat} {cs:List AV} {v:AV} [hd:lK P t f d] (ha:∀ fields fd,P.underlying t=some (.struct fields)->fields[f]?=some fd->py P fd.type=some false)
  (hx:bI l x=some (.agg cs)) (hv:cs[d]?=some v):iW P (.field t x f) l ds s v []:=by
 have h:=hd.h
 unfold Iu at h
 split at h
 ·rename_i fs hu
  split at h
  ·rename_i fd hf
   split at h
   ·cases h;exact .of (yQ hu hf rfl (ha _ _ hu hf) (aD hx) hv)
   ·cases h
  ·cases h
 ·cases h
theorem p9 {t:TypeId} {x:Operand} {v:AV} [ht:D2 P t] (hx:bI l x=some v):iW P (.makeInterface t x) l ds s (.mo t v) []:=by
 have h:=ht.h;cases hu:P.underlying t with
 | none=>simp[hu] at h
 | some d=>simp[hu] at h;exact .of (yP hu h (aD hx))
theorem qb {f:FuncId} {a b:List Operand} {va vb:List AV} (ha:tp l a=some va) (hb:tp l b=some vb):iW P (.makeFunc (.func f) a.toArray b.toArray) l ds s (.fn f va vb) []:=
 .of (by have:=AE (P:=P) (fr:=bZ l ds) (f:=f) (a:=a) (b:=b);rw[ly ha,ly hb] at this;exact this)
end
section
variable {P:Program} {E:Env} {n:Nat} {ops:Array Oper} {Q:dR} {rest:List Oper} {l:List (Nat×AV)} {ds:List (FuncId×List AV)} {s:List (Nat×M)}
 {ty:TypeId} {pos:String} {af:Array Edge}
theorem Cq {g:Gh} {w:World} {k:Nat} {cs cs':List AV} (h:Ax cs cs') (he:iU g w k (.box cs)):iU g w k (.box cs'):=by
 cases he with|box h1 h2 h3 h4=>exact .box h1 h2 (h.G4 h3) h4
theorem Cr {j:Nat} {cs cs':List AV} (hj:dx s j=some (.box cs)) (hl:Ax cs cs'):eH E n l ds s l ((j,.box cs')::s):=λg a w hR hF=>by
 refine ⟨g,?_,hF⟩;have hjs:=bO hj;have he:∀ i e,Y ((j,.box cs')::s) i=some e->(Y s i).isSome=true/\(i≠j->Y s i=some e):=λi e h=>by
  by_cases q:i=j
  ·subst q;exact ⟨by rw[hjs];rfl,λq=>absurd rfl q⟩
  have:Y s i=some e:=by simpa[Y,kA,q] using h
  exact ⟨by rw[this];rfl,λ_=>this⟩
 have hs:∀ i,(Y ((j,.box cs')::s) i).isSome=true->(Y s i).isSome=true:=λi h=>by
  cases q:Y ((j,.box cs')::s) i with
  | none=>rw[q] at h;cases h
  | some e=>exact (he i e q).1
 exact {
  jx:=λi e h=>by
   by_cases q:i=j
   ·subst q;have:e=.box cs':=by simpa[Y,kA] using h.symm
    subst this;exact Cq hl (hR.jx i _ hjs)
   exact hR.jx i e ((he i e h).2 q)
  inj:=λi i' b h h'=>hR.inj i i' b (hs i h) (hs i' h')
  gl:=hR.gl
  apart:=λi b e h hea hb=>by
   by_cases q:i=j
   ·subst q;exact hR.apart i b _ hjs rfl hb
   exact hR.apart i b e ((he i e h).2 q) hea hb
  size:=hR.size,oj:=hR.oj,own:=λi b h=>hR.own i b (hs i h),fix:=hR.fix,iH:=hR.iH,g0:=hR.g0,gn:=hR.gn,os:=hR.os,out:=hR.out,tape:=hR.tape
  x:=hR.x.r4 rfl rfl (λi b hi hb=>⟨i,hs i hi,hb,.inl rfl⟩) (λi b e' _ hi=>by
   by_cases q:i=j
   ·subst q;exact ⟨_,hjs,λ_=>(by simp[Y,kA] at hi;exact ⟨_,hi.symm⟩)⟩
   exact ⟨e',(he i _ hi).2 q,id⟩) }
theorem jP (j:Nat) {cs cs':List AV} (hj:dx s j=some (.box cs)) (hn:AV.Iw cs=cs'):eH E n l ds s l ((j,.box cs')::s):=by subst hn;exact Cr hj (AV.vZ cs)
theorem D4 {x:Operand} (p:rA) (hx:bI l x=some p.av) (hq:Q (.panic p.av) (bZ l ds) (Y s)):SL P E n ops Q (⟨none,.panic x,ty,pos,af,none⟩::rest) (bZ l ds) (Y s):=
 iY rfl (BI rfl (aD hx) hq)
end
end Go.Abs
end
section
namespace Go.Abs
open D
def quiet (ops:Array Oper) (i:Nat):List Rec->Bool
 | []=>true
 | r::rs=>(match r.rd with|[]=>true|_=>mQ ops ops.size i r.i)&&quiet ops i rs
theorem y {ops:Array Oper} {i:Nat} {s':List (Nat×M)} {recs:List Rec} (h:quiet ops i recs=true):lP ops i s' recs:=by
 induction recs with
 | nil=>intro r hr;simp[gE] at hr
 | cons a rs ih=>
  simp only[quiet,Bool.and_eq_true] at h
  intro r hr p hp
  simp only[gE,List.mem_filter,Bool.not_eq_true'] at hr
  rcases List.mem_cons.1 hr.1 with q|q
  ·subst q;have h1:=h.1;split at h1
   ·rename_i h0;rw[h0] at hp;cases hp
   rw[hr.2] at h1;cases h1
  ·exact ih h.2 r (by simp[gE,q,hr.2]) p hp
def JG (P:Program) (s:TypeId) (f:Nat):Option Bool:=
 match P.underlying s with
 | some (.struct fs)=>match fs[f]? with
  | some fd=>py P fd.type
  | none=>none
 | _=>none
class Ji (P:Program) (t:TypeId) (f:Nat) (b:outParam Bool):Prop where h:JG P t f=some b:=by kernel_rfl
section
variable {P:Program} {l:List (Nat×AV)} {ds:List (FuncId×List AV)} {s:List (Nat×M)}
theorem kN {t:TypeId} {x:Operand} {f d:Nat} {cs:List AV} {v:AV} [hd:lK P t f d] [hb:Ji P t f false] (hx:bI l x=some (.agg cs)) (hv:cs[d]?=some v):iW P (.field t x f) l ds s v []:=
 D3 (λfields fd hu hf=>by have:=hb.h;simp only[JG,hu,hf] at this;exact this) hx hv
end
section
variable {P:Program} {E:Env} {n:Nat} {ops:Array Oper} {Q:dR} {rest:List Oper} {l:List (Nat×AV)} {ds:List (FuncId×List AV)} {s:List (Nat×M)}
 {ty:TypeId} {pos:String} {af:Array Edge}
theorem bN {α:Type} {C:α->List PV} {Cs:List α->List PV} (xs:List α) (mg:∀ l,Cs l=l.flatMap C) {d:Nat} {t e:TypeId} {m sz:Nat} {parts:List (Nat×Operand)} {zs:List Value} {pl:List (Nat×Nat)} {pv:List (Nat×AV)}
  [ht:jR P t m e sz zs pl] (h:parts.mapM (λp=>(bI l p.2).map λv=>(p.1,v))=some pv/\lM pl (zs.map λv=>.pv (.sc v)) pv=some ((xs.flatMap C).map .pv)) (hd:Nat.blt d n=true)
  (hn:SL P E n ops Q rest (bZ ((d,.pv (.sl m (Cs xs)))::l) ds) (Y s)):SL P E n ops Q (⟨some d,.buildSlice t m parts.toArray,ty,pos,af,none⟩::rest) (bZ l ds) (Y s):=
 ID h hd (by rw[<- mg];exact hn)
end
end Go.Abs
end
section
namespace Go.Abs
open D
def GN (E:Env) (n:Nat) (ds:List (FuncId×List AV)) (Q:dR):dR
 | .normal,fr,σ=>∃ l s l' s',fr=bZ l ds/\σ=Y s/\eH E n l ds s l' s'/\Q .normal (bZ l' ds) (Y s')
 | e,fr,σ=>Q e fr σ
section
variable {P:Program} {E:Env} {n:Nat} {ops:Array Oper} {Q:dR} {rest:List Oper} {c:Code} {l:List (Nat×AV)} {ds:List (FuncId×List AV)} {s:List (Nat×M)}
theorem LQ.gn {e:Exit} {a:Act} {w:World} (h:LQ E n (GN E n ds Q) e a w):LQ E n Q e a w:=by
 obtain ⟨g,ae,fr,σ,q,hx,hR,hF⟩:=h;cases hx with
 | normal=>
  obtain ⟨l,s,l',s',rfl,rfl,hg,hq⟩:=q
  obtain ⟨g',hR',hF'⟩:=hg g a w hR hF
  exact ⟨g',_,_,_,hq,.normal,hR',hF'⟩
 | exit id=>exact ⟨g,_,_,_,q,.exit id,hR,hF⟩
 | goto id=>exact ⟨g,_,_,_,q,.goto id,hR,hF⟩
 | ret=>exact ⟨g,_,_,_,q,.ret,hR,hF⟩
 | panic hv=>exact ⟨g,_,_,_,q,.panic hv,hR,hF⟩
theorem mW {fr:eu} {σ:cn} (ds:List (FuncId×List AV)) (h:SW P E n c (GN E n ds Q) fr σ):SW P E n c Q fr σ:=λg a w hR hF=>wp_mono (h g a w hR hF) λ_ _ _ q=>q.gn
theorem eH.trans {l1 l2:List (Nat×AV)} {s1 s2:List (Nat×M)} (h:eH E n l ds s l1 s1) (h':eH E n l1 ds s1 l2 s2):eH E n l ds s l2 s2:=λg a w hR hF=>
 let ⟨g',hR',hF'⟩:=h g a w hR hF;h' g' a w hR' hF'
theorem eH.AA (l':List (Nat×AV)) (s':List (Nat×M)) (h1:tq l l' l') (h2:tY s s' s'):eH E n l ds s l' s':=λg _ _ hR hF=>
 ⟨g,hR.sub (yY (qH h2)),hF.AI (yX (oD h1))⟩
def mX (nm k:Nat):Nat->Nat:=λj=>match Nat.beq j nm with
 | true=>k
 | false=>j
def D5 (nm k:Nat) (l:List (Nat×AV)):List (Nat×AV)->Prop
 | []=>True
 | (i,v')::F=>(∃ v,jv l i=some v/\v.ea k=false/\v.gD (mX nm k)=v')/\D5 nm k l F
def D6 (nm k:Nat) (s:List (Nat×M)):List (Nat×M)->Prop
 | []=>True
 | (i,e')::F=>(∃ e,dx s i=some e/\e.mq k=false/\e.gD (mX nm k)=e'/\Nat.beq i nm=false/\Nat.beq i k=false)/\D6 nm k s F
theorem wa (nm k:Nat):mX nm k nm=k:=by simp[mX]
theorem Ct {nm k j:Nat} (h:j≠nm):mX nm k j=j:=by
 unfold mX;split
 ·rename_i q;exact absurd (Nat.eq_of_beq_eq_true q) h
 rfl
mutual
theorem VR.mX {g:Gh} {nm k:Nat}:∀ {v:AV} {c:Value},v.ea k=false->VR g v c->VR (g.alias k nm) (v.gD (mX nm k)) c
 | .any,_,_,_=>.any _
 | .oc,_,_,h=>by cases h with|oc h=>exact .oc h
 | .pv _,_,_,h=>by cases h with|pv h=>exact .pv (PR.congr (g:=g) (g':=g.alias k nm) (λ_ _ q=>q) h)
 | .ptr j off,_,hm,h=>by
  have hj:j≠k:=by simpa[AV.ea] using hm
  cases h with|ptr _ h=>
   by_cases q:j=nm
   ·subst q;simp only[AV.gD,wa];exact .ptr off (by simp[Gh.alias,h])
   ·simp only[AV.gD,Ct q];exact .ptr off (by simp[Gh.alias,hj,h])
 | .arr j m,_,hm,h=>by
  have hj:j≠k:=by simpa[AV.ea] using hm
  by_cases q:j=nm
  ·subst q;simp only[AV.gD,wa];have e1:(g.alias k j).ρ k=g.ρ j:=by simp[Gh.alias]
   have e2:(g.alias k j).cp k=g.cp j:=by simp[Gh.alias]
   cases h with
   | arr _ h=>rw[<- e2];exact .arr m (e1.trans h)
   | oU h=>exact .oU (e1.trans h)
  simp only[AV.gD,Ct q];have e1:(g.alias k nm).ρ j=g.ρ j:=by simp[Gh.alias,hj]
  have e2:(g.alias k nm).cp j=g.cp j:=by simp[Gh.alias,hj]
  cases h with
  | arr _ h=>rw[<- e2];exact .arr m (e1.trans h)
  | oU h=>exact .oU (e1.trans h)
 | .sp _,_,_,h=>by cases h with|sp off h hl hc=>exact .sp off h hl hc
 | .fn f x y,_,hm,h=>by
  simp[AV.ea] at hm;cases h with|fn _ hx hy=>exact .fn f (gB.mX hm.1 hx) (gB.mX hm.2 hy)
 | .agg x,_,hm,h=>by cases h with|agg h=>exact .agg (gB.mX (by simpa[AV.ea] using hm) h)
 | .fZ x,_,hm,h=>by cases h with|fZ h=>exact .fZ (gB.mX (by simpa[AV.ea] using hm) h)
 | .mo t x,_,hm,h=>by cases h with|mo _ h=>exact .mo t (VR.mX (by simpa[AV.ea] using hm) h)
theorem gB.mX {g:Gh} {nm k:Nat}:∀ {v:List AV} {c:List Value},AV.ea.fv k v=false->gB g v c->gB (g.alias k nm) (AV.gD.lN (mX nm k) v) c
 | [],_,_,h=>by cases h;exact .nil
 | x::xs,_,hm,h=>by
  simp[AV.ea.fv] at hm;cases h with|cons h t=>exact .cons (VR.mX hm.1 h) (gB.mX hm.2 t)
end
theorem ln.alias {g:Gh} {nm k:Nat} {ps:List PV} {vs:List Value} (h:ln g ps vs):ln (g.alias k nm) ps vs:=ln.congr (g:=g) (g':=g.alias k nm) (λ_ _ q=>q) h
theorem iU.mX {g:Gh} {w:World} {nm k j:Nat} {e:M} (hj:j≠k) (hm:AV.ea.fv k e.cells=false) (h:iU g w j e):iU (g.alias k nm) w j (e.gD (mX nm k)):=by
 have e1:(g.alias k nm).ρ j=g.ρ j:=by simp[Gh.alias,hj]
 have e2:(g.alias k nm).cp j=g.cp j:=by simp[Gh.alias,hj]
 cases h with
 | box h hw hc h1=>exact .box (e1.trans h) hw (hc.mX hm) h1
 | oU h=>exact .oU (e1.trans h)
 | arr h hw hl hz hx hc=>exact .arr (e1.trans h) hw hl (by rw[e2];exact hz) (by rw[e2];exact hx) hc.alias
 | wm h=>exact .wm (e1.trans h)
 | app h hG hw hl hz hx hc=>exact .app (e1.trans h) hG hw hl (by rw[e2];exact hz) (by rw[e2];exact hx) hc.alias
theorem iU.wa {g:Gh} {w:World} {nm k:Nat} {el:TypeId} {sz:Nat} {cells:List PV} (h:iU g w nm (.app el sz cells)):iU (g.alias k nm) w k (.app el sz cells):=by
 have e1:(g.alias k nm).ρ k=g.ρ nm:=by simp[Gh.alias]
 have e2:(g.alias k nm).cp k=g.cp nm:=by simp[Gh.alias]
 cases h with
 | wm h=>exact .wm (e1.trans h)
 | app h hG hw hl hz hx hc=>exact .app (e1.trans h) hG hw hl (by rw[e2];exact hz) (by rw[e2];exact hx) hc.alias
theorem yq {nm k:Nat} {l:List (Nat×AV)}:∀ {F:List (Nat×AV)},D5 nm k l F->∀ i,(∃ v,kz l i=v/\v.ea k=false/\kz F i=v.gD (mX nm k))\/kz F i=.any
 | [],_,i=>.inr rfl
 | (j,v')::F,h,i=>by
  obtain ⟨⟨v,h1,h2,h3⟩,ht⟩:=h;simp only[kz];by_cases q:i=j
  ·subst q;rw[if_pos rfl];exact .inl ⟨v,eL h1,h2,h3.symm⟩
  rw[if_neg q];exact yq ht i
theorem yr {nm k:Nat} {s:List (Nat×M)}:∀ {F:List (Nat×M)},D6 nm k s F->∀ i e',Y F i=some e'->∃ e,Y s i=some e/\AV.ea.fv k e.cells=false/\e.gD (mX nm k)=e'/\i≠nm/\i≠k
 | [],_,i,e',h=>by cases h
 | (j,v')::F,h,i,e',he=>by
  obtain ⟨⟨e,h1,h2,h3,h4,h5⟩,ht⟩:=h;simp only[Y,kA] at he;by_cases q:i=j
  ·subst q;rw[if_pos rfl] at he;cases he;exact ⟨e,bO h1,M.yW h2,h3,λq=>by subst q;simp at h4,λq=>by subst q;simp at h5⟩
  rw[if_neg q] at he;exact yr ht i e' he
theorem D7 (nm k:Nat) {e0:M} (he0:∀ g w,iU g w nm e0->iU (g.alias k nm) w k e0) (hnb:∀ cs,e0≠.box cs) (l':List (Nat×AV)) (s':List (Nat×M)) (hE:E.fix k=none) (hnk:Nat.beq nm k=false) (hk:dx s nm=some e0)
  (hd:jB nm ds=false/\jB k ds=false) (h1:D5 nm k l l') (h2:D6 nm k s s'):eH E n l ds s l' ((k,e0)::s'):=λg a w hR hF=>by
 have hne:nm≠k:=λq=>by subst q;simp at hnk
 have hks:=bO hk
 have hs':∀ i e',Y ((k,e0)::s') i=some e'->(i=k/\e'=e0)\/(i≠k/\i≠nm/\∃ e,Y s i=some e/\AV.ea.fv k e.cells=false/\e.gD (mX nm k)=e'):=λi e' he=>by
  simp only[Y,kA] at he
  by_cases q:i=k
  ·subst q;rw[if_pos rfl] at he;cases he;exact .inl ⟨rfl,rfl⟩
  ·rw[if_neg q] at he
   obtain ⟨e,h3,h4,h5,h6,h7⟩:=yr h2 i e' he
   exact .inr ⟨q,h6,e,h3,h4,h5⟩
 have hρk:(g.alias k nm).ρ k=g.ρ nm:=by simp[Gh.alias]
 have hρ:∀ j,j≠k->(g.alias k nm).ρ j=g.ρ j:=λj hj=>by simp[Gh.alias,hj]
 have hcp:∀ j,j≠k->(g.alias k nm).cp j=g.cp j:=λj hj=>by simp[Gh.alias,hj]
 have hold:∀ i,(Y ((k,e0)::s') i).isSome=true->∃ j,(Y s j).isSome=true/\(g.alias k nm).ρ i=g.ρ j/\((i=k/\j=nm)\/(i≠k/\i≠nm/\j=i)):=λi hi=>by
  cases q:Y ((k,e0)::s') i with
  | none=>rw[q] at hi;cases hi
  | some e'=>
   rcases hs' i e' q with ⟨rfl,_⟩|⟨q1,q2,e,q3,_⟩
   ·exact ⟨nm,by rw[hks];rfl,hρk,.inl ⟨rfl,rfl⟩⟩
   ·exact ⟨i,by rw[q3];rfl,hρ i q1,.inr ⟨q1,q2,rfl⟩⟩
 refine ⟨g.alias k nm,?_,⟨hF.size,λi=>?_,?_⟩⟩
 ·exact {
      jx:=λi e' h=>by
       rcases hs' i e' h with ⟨rfl,rfl⟩|⟨q1,q2,e,q3,q4,rfl⟩
       ·exact he0 _ _ (hR.jx nm _ hks)
       ·exact (hR.jx i e q3).mX q1 q4
      inj:=λi i' b h h' hb hb'=>by
       obtain ⟨j,j1,j2,j3⟩:=hold i h
       obtain ⟨j',j1',j2',j3'⟩:=hold i' h'
       have:=hR.inj j j' b j1 j1' (j2▸hb) (j2'▸hb')
       rcases j3 with ⟨rfl,rfl⟩|⟨q1,q2,rfl⟩<;>rcases j3' with ⟨rfl,rfl⟩|⟨q1',q2',rfl⟩
       ·rfl
       ·exact absurd this.symm q2'
       ·exact absurd this q2
       ·exact this
      gl:=λb ys hb=>by
       obtain ⟨cs,el,fz,h1,h2,h3⟩:=hR.gl b ys hb
       exact ⟨cs,el,fz,h1,h2,h3.alias⟩
      apart:=λi b e' h hea hb=>by
       rcases hs' i e' h with ⟨rfl,rfl⟩|⟨q1,q2,e,q3,q4,rfl⟩
       ·rw[hρk] at hb;exact hR.apart nm b _ hks hea hb
       ·exact hR.apart i b e q3 (by rw[<- M.yV (mX nm k) e];exact hea) (by rw[<- hρ i q1];exact hb)
      size:=hR.size,oj:=hR.oj
      own:=λi b h hb=>by
       obtain ⟨j,j1,j2,_⟩:=hold i h
       exact hR.own j b j1 (j2▸hb)
      fix:=λi b h=>by
       have q:i≠k:=λq=>by subst q;rw[hE] at h;cases h
       rw[hρ i q];exact hR.fix i b h
      iH:=λi b h=>by
       have q:i≠k:=λq=>by subst q;rw[hE] at h;cases h
       rw[hcp i q];exact hR.iH i b h
      g0:=hR.g0,gn:=hR.gn,os:=hR.os,out:=hR.out,tape:=hR.tape
      x:=hR.x.r4 rfl rfl (λi b hi hb=>by
       obtain ⟨j,j1,j2,j3⟩:=hold i hi
       refine ⟨j,j1,j2▸hb,?_⟩
       rcases j3 with ⟨_,rfl⟩|⟨_,_,rfl⟩
       ·exact .inr ⟨_,hks,hnb⟩
       ·exact .inl rfl) (λi b e' hfi hi=>by
       rcases hs' i _ hi with ⟨rfl,q⟩|⟨q1,q2,e,q3,q4,q5⟩
       ·rw[hE] at hfi;cases hfi
       ·refine ⟨e,q3,λ⟨c,q⟩=>?_⟩
        subst q;exact ⟨_,q5.symm⟩) }
 ·have hsl:=hF.ib i
  rcases yq h1 i with ⟨v,q1,q2,q3⟩|q
  ·simp only[bZ] at hsl ⊢
   rw[q3];rw[q1] at hsl;exact hsl.mX q2
  ·simp only[bZ];rw[q];exact .any _
 ·refine hF.ds.le (jQ.alias g k nm) λj q p hp=>?_
  subst q;exact tB hd.2 p hp
theorem iT (nm k:Nat) {el:TypeId} {sz:Nat} {cells:List PV} (l':List (Nat×AV)) (s':List (Nat×M)) (hE:E.fix k=none) (hnk:Nat.beq nm k=false) (hk:dx s nm=some (.app el sz cells))
  (hd:jB nm ds=false/\jB k ds=false) (h1:D5 nm k l l') (h2:D6 nm k s s'):eH E n l ds s l' ((k,.app el sz cells)::s'):=
 D7 nm k (λ_ _ h=>h.wa) (λ_ q=>by cases q) l' s' hE hnk hk hd h1 h2
theorem iU.D8 {g:Gh} {w:World} {nm k:Nat} {el:TypeId} {sz:Nat} {cells:List PV} (h:iU g w nm (.arr el sz cells)):iU (g.alias k nm) w k (.arr el sz cells):=by
 have e1:(g.alias k nm).ρ k=g.ρ nm:=by simp[Gh.alias]
 have e2:(g.alias k nm).cp k=g.cp nm:=by simp[Gh.alias]
 cases h with
 | oU h=>exact .oU (e1.trans h)
 | arr h hw hl hz hx hc=>exact .arr (e1.trans h) hw hl (by rw[e2];exact hz) (by rw[e2];exact hx) hc.alias
theorem jG (nm k:Nat) {el:TypeId} {sz:Nat} {cells:List PV} (l':List (Nat×AV)) (s':List (Nat×M)) (hE:E.fix k=none) (hnk:Nat.beq nm k=false) (hk:dx s nm=some (.arr el sz cells))
  (hd:jB nm ds=false/\jB k ds=false) (h1:D5 nm k l l') (h2:D6 nm k s s'):eH E n l ds s l' ((k,.arr el sz cells)::s'):=
 D7 nm k (λ_ _ h=>h.D8) (λ_ q=>by cases q) l' s' hE hnk hk hd h1 h2
end
def k2 (bytes a b:Nat):Prop:=(a+b)*bytes<=140737488355328/\a+b<=maxLen
instance (bytes a b:Nat):Decidable (k2 bytes a b):=by unfold k2;exact inferInstance
theorem AW:∀ {a b:List PV},PV.jl a=true->PV.jl b=true->PV.jl (a++b)=true
 | [],_,_,h=>h
 | x::a,b,h,h'=>by simp[PV.jl] at h ⊢;exact ⟨h.1,AW h.2 h'⟩
theorem qc {α:Type} {C:α->List PV} (hC:∀ x,PV.jl (C x)=true):∀ l:List α,PV.jl (l.flatMap C)=true
 | []=>rfl
 | x::l=>by rw[List.flatMap_cons];exact AW (hC x) (qc hC l)
section
variable {P:Program} {E:Env} {n:Nat} {ops:Array Oper} {Q:dR} {rest:List Oper} {l:List (Nat×AV)} {ds:List (FuncId×List AV)} {s:List (Nat×M)}
 {ty:TypeId} {pos:String} {af:Array Edge}
structure yu (P:Program) (E:Env) (l:List (Nat×AV)) (ds:List (FuncId×List AV)) (s:List (Nat×M)) {α:Type} (C:α->List PV) (Cs:List α->List PV) (t e:TypeId) (sz bytes k nm:Nat) (a x:Operand) (xs ys:List α):Prop where
 hT:P.underlying t=some (.slice e)
 hB:qE P e=some (sz,bytes)
 mg:∀ l,Cs l=l.flatMap C
 hL:∀ x,(C x).length=sz
 h1:∀ x,PV.jl (C x)=true
 hE:E.fix nm=none
 hs:bI l a=some (.arr k (List.length xs))
 hk:dx s k=some (.app e sz (Cs xs))
 hx:bI l x=some (.pv (.sl (List.length ys) (Cs ys)))\/(ys=[]/\bI l x=some (nSl))
 hm:k9 nm l=false/\jB nm ds=false/\wH nm [k] s=false
 hg:k2 bytes (List.length xs) (List.length ys)
theorem yu.IM {α:Type} {C:α->List PV} {Cs:List α->List PV} {t e:TypeId} {sz bytes k nm:Nat} {a x:Operand} {xs ys:List α} (h:yu P E l ds s C Cs t e sz bytes k nm a x xs ys) :
  Fk sz ((bZ l ds).val x) (List.length ys) (Cs ys):=by
 rcases h.hx with q|⟨q1,q2⟩
 ·rw[aD q];exact .sl _ _ (by rw[h.mg,gW h.hL])
 ·rw[aD q2];subst q1;rw[h.mg];exact .nil
theorem yu.IN {α:Type} {C:α->List PV} {Cs:List α->List PV} {t e:TypeId} {sz bytes k nm:Nat} {a x:Operand} {xs ys:List α} (h:yu P E l ds s C Cs t e sz bytes k nm a x xs ys) :
  ((Y s).del k).clear nm:=by
 intro j e he
 unfold cn.del at he
 split at he
 ·cases he
 ·rename_i q
  refine mz h.hm.2.2 j e ?_ he
  cases hb:Nat.beq j k with
  | true=>exact absurd (Nat.eq_of_beq_eq_true hb) q
  | false=>simp[hb]
theorem jo {α:Type} {C:α->List PV} {Cs:List α->List PV} {d:Nat} {t e:TypeId} {a x:Operand} {sz bytes k:Nat} (nm:Nat) {xs ys:List α} (h:yu P E l ds s C Cs t e sz bytes k nm a x xs ys) (hd:Nat.blt d n=true)
  (hn:SL P E n ops Q rest (bZ ((d,.arr nm (List.length (xs++ys)))::l) ds) (Y ((nm,.app e sz (Cs (xs++ys)))::nS k s))) :
  SL P E n ops Q (⟨some d,.call ⟨.builtin .append,#[a,x],#[t,t]⟩,ty,pos,af,none⟩::rest) (bZ l ds) (Y s):=by
 refine iY rfl (tT (nm:=nm) rfl h.hT h.hB (aD h.hs) (bO h.hk) (by rw[h.mg,gW h.hL]) h.IM (by rw[h.mg];exact qc h.h1 ys) (gr h.hm.1 h.hm.2.1) h.IN h.hE h.hg.1 h.hg.2 (mA hd) ?_)
 rw[<- o8,<- List.length_append,show Cs xs++Cs ys=Cs (xs++ys) by rw[h.mg,h.mg,h.mg,List.flatMap_append]];exact hn
theorem FJ {α:Type} {C:α->List PV} {Cs:List α->List PV} {d k sz:Nat} {el:TypeId} {xs:List α} (mg:∀ l,Cs l=l.flatMap C) (hC:∀ x,(C x).length=sz) (hz:Nat.blt 0 sz=true) (hd:jv l d=some (.arr k (List.length xs))) (hk:dx s k=some (.app el sz (Cs xs))) :
 eH E n l ds s ((d,.pv (.sl (List.length xs) (Cs xs)))::l) s:=HH hd hk hz (by rw[mg,gW hC])
theorem AX {α:Type} {C:α->List PV} {Cs:List α->List PV} {j off k sz:Nat} {el:TypeId} {xs:List α} {cs:List AV} (mg:∀ l,Cs l=l.flatMap C) (hC:∀ x,(C x).length=sz) (hz:Nat.blt 0 sz=true) (hj:dx s j=some (.box cs)) (hc:cs[off]?=some (.arr k (List.length xs)))
  (hk:dx s k=some (.app el sz (Cs xs))) {cs':List AV} (hcs:cs.set off (.pv (.sl (List.length xs) (Cs xs)))=cs'):eH E n l ds s l ((j,.box cs')::s):=by
 subst hcs;exact FI hj hc hk hz (by rw[mg,gW hC])
theorem kD {α:Type} {C:α->List PV} {Cs:List α->List PV} {x:Operand} {k sz:Nat} {el:TypeId} {xs:List α} (mg:∀ l,Cs l=l.flatMap C) (hC:∀ x,(C x).length=sz) (hz:Nat.blt 0 sz=true) (hx:bI l x=some (.arr k (List.length xs))) (hk:dx s k=some (.app el sz (Cs xs))) :
 iW P (.move x) l ds s (.pv (.sl (List.length xs) (Cs xs))) [(k,.app el sz (Cs xs))]:=HF hx hk hz (by rw[mg,gW hC])
theorem ot {α:Type} {C:α->List PV} {Cs:List α->List PV} {t:TypeId} {x:Operand} {k j off sz:Nat} {el:TypeId} {xs:List α} {e:M} [ha:iI P t false] (mg:∀ l,Cs l=l.flatMap C) (hC:∀ x,(C x).length=sz) (hz:Nat.blt 0 sz=true)
 (hx:bI l x=some (.ptr k off)) (hk:dx s k=some e) (hv:e.cells[off]?=some (.arr j (List.length xs))) (hj:dx s j=some (.app el sz (Cs xs))) :
 iW P (.load t x) l ds s (.pv (.sl (List.length xs) (Cs xs))) [(k,e),(j,.app el sz (Cs xs))]:=DT hx hk hv hj hz (by rw[mg,gW hC])
theorem ua {d:Nat} {v:AV} (hd:jv l d=some v) {v':AV} (hv:v.nz=v'):eH E n l ds s ((d,v')::l) s:=λg a w hR hF=>by
 subst hv;refine ⟨g,hR,hF.size,λi=>?_,hF.ds⟩;have h:=hF.ib i;by_cases q:i=d
 ·subst q;simp only[bZ,kz,if_true];simp only[bZ,eL hd] at h;exact AV.D1 v g _ h
 simpa[bZ,kz,q] using h
theorem AV.BL (v:AV):v.le .any:=λ_ _ _=>.any _
theorem Cu:∀ (cs:List AV) (off:Nat),Ax cs (cs.set off .any)
 | [],_=>.nil
 | c::cs,0=>.cons (AV.BL c) (wO cs)
 | c::cs,off+1=>.cons (AV.le_refl c) (Cu cs off)
where wO:∀ cs:List AV,Ax cs cs
 | []=>.nil
 | c::cs=>.cons (AV.le_refl c) (wO cs)
theorem Cv:∀ (cs:List AV) (off:Nat) (v:AV),cs[off]?=some v->Ax cs (cs.set off v.nz)
 | [],_,_,h=>by simp at h
 | c::cs,0,v,h=>by simp at h;subst h;exact .cons (AV.D1 c) (Cu.wO cs)
 | c::cs,off+1,v,h=>.cons (AV.le_refl c) (Cv cs off v (by simpa using h))
theorem gZ (j off:Nat) {cs cs':List AV} {v:AV} (hj:dx s j=some (.box cs)) (hv:cs[off]?=some v) (hn:cs.set off v.nz=cs'):eH E n l ds s l ((j,.box cs')::s):=by subst hn;exact Cr hj (Cv cs off v hv)
end
section
variable {P:Program} {E:Env} {n:Nat} {ops:Array Oper} {Q:dR} {B:List Rec->eu->cn->Prop} {i:Nat} {L:List Nat} {recs:List Rec} {l:List (Nat×AV)} {ds:List (FuncId×List AV)} {s:List (Nat×M)}
 {ty:TypeId} {pos:String} {af:Array Edge}
theorem gG {l':List (Nat×AV)} {s':List (Nat×M)} (hg:eH E n l ds s l' s') (h:Q .normal (bZ l' ds) (Y s')):DW P E n ops (GN E n ds Q) [] recs (bZ l ds) (Y s):=⟨l,s,l',s',rfl,rfl,hg,h⟩
theorem iL {α:Type} {C:α->List PV} {Cs:List α->List PV} (xs:List α) (mg:∀ l,Cs l=l.flatMap C) {d:Nat} {t e:TypeId} {m sz:Nat} {parts:List (Nat×Operand)} {zs:List Value} {pl:List (Nat×Nat)} {pv:List (Nat×AV)}
  {gd:Option (Nat×Bool)} [ht:jR P t m e sz zs pl] (ho:ops[i]?=some ⟨some d,.buildSlice t m parts.toArray,ty,pos,af,gd⟩) (hw:gX ops ⟨some d,.buildSlice t m parts.toArray,ty,pos,af,gd⟩ (bZ l ds))
  (h:parts.mapM (λp=>(bI l p.2).map λv=>(p.1,v))=some pv/\lM pl (zs.map λv=>.pv (.sc v)) pv=some ((xs.flatMap C).map .pv))
  (hc:dJ ⟨some d,.buildSlice t m parts.toArray,ty,pos,af,gd⟩=false/\Nat.blt d n=true)
  (hn:mi P E n ops Q B L (⟨i,some d,[],none⟩::recs) (bZ ((d,.pv (.sl m (Cs xs)))::l) ds) (Y s)):mi P E n ops Q B (i::L) recs (bZ l ds) (Y s):=by
 refine ⟨_,ho,.fz hw hc.1 (v:=.pv (.sl m (Cs xs))) ?_ (mA hc.2) (λ_ _ _ _=>rfl) hn⟩
 rw[mg]
 refine ti ht.h ?_
 rw[tZ h.1];exact h.2
theorem zr {α:Type} {C:α->List PV} {Cs:List α->List PV} {d:Nat} {t e:TypeId} {a x:Operand} {sz bytes k:Nat} {gd:Option (Nat×Bool)} (nm:Nat) {xs ys:List α}
  (ho:ops[i]?=some ⟨some d,.call ⟨.builtin .append,#[a,x],#[t,t]⟩,ty,pos,af,gd⟩) (hw:gX ops ⟨some d,.call ⟨.builtin .append,#[a,x],#[t,t]⟩,ty,pos,af,gd⟩ (bZ l ds))
  (h:yu P E l ds s C Cs t e sz bytes k nm a x xs ys) (hd:Nat.blt d n=true) (hnm:kC recs=true)
  (hn:lP ops i ((nm,.app e sz (Cs (xs++ys)))::nS k s) recs/\mi P E n ops Q B L recs (bZ ((d,.arr nm (List.length (xs++ys)))::l) ds) (Y ((nm,.app e sz (Cs (xs++ys)))::nS k s))) :
  mi P E n ops Q B (i::L) recs (bZ l ds) (Y s):=by
 refine ⟨_,ho,.dJ hw rfl (.append (nm:=nm) rfl h.hT h.hB (aD h.hs) (bO h.hk) (by rw[h.mg,gW h.hL]) h.IM (by rw[h.mg];exact qc h.h1 ys) (gr h.hm.1 h.hm.2.1) h.IN h.hE h.hg.1 h.hg.2 (mA hd) ?_)
  (λr hr k' _=>by rw[et hnm r (List.mem_filter.1 hr).1];simp)⟩
 have e1:((Y s).del k).set nm (.app e sz (Cs xs++Cs ys))=Y ((nm,.app e sz (Cs (xs++ys)))::nS k s):=by
  rw[<- o8,show Cs xs++Cs ys=Cs (xs++ys) by rw[h.mg,h.mg,h.mg,List.flatMap_append]];rfl
 rw[e1,<- List.length_append]
 exact ⟨λr hr=>⟨λp hp=>(let ⟨e,h1,h2⟩:=hn.1 r hr p hp;⟨e,bO h1,h2⟩),λnm q=>by rw[et hnm r (List.mem_filter.1 hr).1] at q;cases q⟩,hn.2⟩
end
end Go.Abs
end
section
namespace Go.Abs
open D
def M.lost:M->M
 | .box cs=>.box (cs.map λ_=>.any)
 | e=>e
def gQ:List M->Bool
 | []=>true
 | .box _::es=>gQ es
 | _::_=>false
theorem Cw (g:Gh):∀ {cells:List AV} {vs:List Value},cells.length=vs.length->gB g (cells.map λ_=>AV.any) vs
 | [],[],_=>.nil
 | _::cells,v::vs,h=>.cons (.any v) (Cw g (by simpa using h))
 | [],_::_,h=>by simp at h
 | _::_,[],h=>by simp at h
theorem Rel.lost {wS:World} {g g':Gh} {σ σ':cn} {w w':World} (h0:Rel (Env.of wS g σ w) g σ w) (hb:∀ k e,σ k=some e->∃ cs,e=.box cs) (h:Rel (Env.of wS g σ w) g' σ' w') :
   Rel (Env.of wS g σ w) g' (λk=>(σ k).map M.lost) w':=by
 have key:∀ k e,(σ k).map M.lost=some e->∃ cs b,σ k=some (.box cs)/\e=.box (cs.map λ_=>.any)/\g.ρ k=some b/\g'.ρ k=some b/\(Env.of wS g σ w).fix k=some b:=λk e he=>by
   cases q:σ k with
   | none=>rw[q] at he;cases he
   | some e0=>
     rw[q] at he
     obtain ⟨cs,rfl⟩:=hb k e0 q
     have he':e=.box (cs.map λ_=>.any):=by simpa[M.lost] using he.symm
     cases h0.jx k _ q with
     | box h1 h2 h3=>
       rename_i b _ _ _
       have hf:(Env.of wS g σ w).fix k=some b:=by simp only[Env.of,q];exact h1
       exact ⟨cs,b,rfl,he',h1,h.fix k b hf,hf⟩
 have hks:∀ k,((σ k).map M.lost).isSome=true->∃ e,(σ k).map M.lost=some e:=λk hk=>by
   cases q:(σ k).map M.lost with
   | none=>rw[q] at hk;cases hk
   | some e=>exact ⟨e,rfl⟩
 exact {
         jx:=λk e he=>by
           obtain ⟨cs,b,h1,rfl,h3,h4,h5⟩:=key k e he
           cases h0.jx k _ h1 with
           | box h6 h7 h8 h13=>
             rw[h3] at h6;cases h6
             obtain ⟨cs',h9,h10⟩:=h.x.xC b _ _ _ h7
             obtain ⟨cs'',h11,h12⟩:=h.x.flat k b _ _ _ h5 h7 h13
             rw[h9] at h11;cases h11
             refine .box h4 h9 (Cw g' ?_) h12
             rw[h8.length];simp[h10]
         inj:=λk k' b hk hk' hb hb'=>by
           obtain ⟨e,he⟩:=hks k hk
           obtain ⟨e',he'⟩:=hks k' hk'
           obtain ⟨cs,c,h1,_,h3,h4,_⟩:=key k e he
           obtain ⟨cs',c',h1',_,h3',h4',_⟩:=key k' e' he'
           rw[h4] at hb;cases hb
           rw[h4'] at hb';cases hb'
           exact h0.inj k k' _ (by rw[h1];rfl) (by rw[h1'];rfl) h3 h3'
         gl:=h.gl
         apart:=λk b e he _ hb=>by
           obtain ⟨cs,c,h1,_,h3,h4,h5⟩:=key k e he
           rw[h4] at hb;cases hb
           exact h.x.nO k _ h5
         size:=h.size,oj:=h.oj
         own:=λk b hk hb=>by
           obtain ⟨e,he⟩:=hks k hk
           obtain ⟨cs,c,h1,_,h3,h4,_⟩:=key k e he
           rw[h4] at hb;cases hb
           exact .inl ⟨k,by rw[h1];rfl,h3⟩
         fix:=h.fix,iH:=h.iH,g0:=h.g0,gn:=h.gn,os:=h.os,out:=h.out,tape:=h.tape
         x:={
                xC:=h.x.xC,flat:=h.x.flat,set:=h.x.set,xD:=h.x.xD
                hi:=λk b hk hb=>by
                  obtain ⟨e,he⟩:=hks k hk
                  obtain ⟨cs,c,h1,_,h3,h4,_⟩:=key k e he
                  rw[h4] at hb;cases hb
                  exact h0.x.hi k b (by rw[h1];rfl) h3
                gf:=h.x.gf
                ns:=h.x.ns,nO:=h.x.nO
                nt:=λk b k' hf hk hb=>by
                  obtain ⟨e,he⟩:=hks k' hk
                  obtain ⟨cs,c,h1,_,h3,h4,h5⟩:=key k' e he
                  rw[h4] at hb;cases hb
                  have h6:=h.fix k _ hf
                  simp only[Env.of] at hf
                  split at hf
                  · rename_i cs0 hc
                    exact h0.inj k' k _ (by rw[h1];rfl) (by rw[hc];rfl) h3 hf
                  · cases hf
                nu:=λk b e hf hk=>by
                  obtain ⟨cs,c,h1,h2,_⟩:=key k _ hk
                  exact ⟨_,h2⟩ } }
def Jq {X:Type} (V:X->AV) (C:X->List M) (G:X->Prop) (H:AV->Prop) (es:List M):oV->cn->Prop:=
 λae σ=>(∃ x,G x/\ae=.ret (V x)/\σ=Y (ey 0 (C x)))\/(∃ v,H v/\ae=.panic v/\σ=Y (ey 0 (es.map M.lost)))
theorem AY:∀ {es:List M} {i:Nat},Y (ey i (es.map M.lost))=λk=>(Y (ey i es) k).map M.lost
 | [],i=>by funext k;rfl
 | e::es,i=>by
  funext k;have ih:=congrFun (AY (es:=es) (i:=i+1)) k;simp only[List.map_cons,ey,Y,kA] at ih ⊢;split
  ·rfl
  exact ih
theorem wP:∀ {es:List M},gQ es=true->∀ {j:Nat} {e:M},es[j]?=some e->∃ cs,e=.box cs
 | [],_,j,e,h=>by simp at h
 | .box cs::es,h,0,e,he=>by simp at he;exact ⟨cs,he.symm⟩
 | .box cs::es,h,j+1,e,he=>wP (es:=es) (by simpa[gQ] using h) (by simpa using he)
 | .arr _ _ _::es,h,_,_,_=>by simp[gQ] at h
 | .app _ _ _::es,h,_,_,_=>by simp[gQ] at h
theorem SC.lost {P:Program} {f:FuncId} {args:List AV} {es:List M} {X:Type} {V:X->AV} {C:X->List M} {G:X->Prop} {H:AV->Prop} (hb:gQ es=true) (h:SC P f args (Y (ey 0 es)) (pZ V C G H)) :
  SC P f args (Y (ey 0 es)) (Jq V C G H es):=λwS g w vs hR hv=>(h wS g w vs hR hv).mono λe w' ⟨g',ae,σ',q,hE,hR'⟩=>by
 rcases q with q|⟨v,hH,rfl,rfl⟩
 ·exact ⟨g',ae,σ',.inl q,hE,hR'⟩
 ·refine ⟨g',_,Y (ey 0 (es.map M.lost)),.inr ⟨v,hH,rfl,rfl⟩,hE,?_⟩
  rw[AY]
  exact hR.lost (λk e hk=>by
   obtain ⟨_,h2⟩:=fB hk
   exact wP hb h2) hR'
section
variable {P:Program} {E:Env} {n:Nat} {ops:Array Oper} {Q:dR} {rest:List Oper} {l:List (Nat×AV)} {ds:List (FuncId×List AV)} {s:List (Nat×M)}
theorem sk (m:Nat):(List.range m).contains=below m:=by
 funext j;have h1:(List.range m).contains j=decide (j<m):=by
  by_cases q:j<m<;>simp[q]
 rw[h1];simp only[below];by_cases q:j<m
 ·simp[q,mI.2 q]
 have:Nat.blt j m=false:=by
  cases h:Nat.blt j m with
  | false=>rfl
  | true=>exact absurd (mI.1 h) q
 simp[q,this]
theorem oE {ks:List Nat} (hnd:nodupB ks=true) {cs:List M} (h1:cs.length=ks.length) :
  after (Y s) (nth ks) (List.range ks.length) (List.range ks.length) (Y (ey 0 cs))=Y (lz ks (kj (nth ks) cs)++s):=by
 funext k
 rw[zi (by rw[ic,h1]) hnd]
 simp only[after]
 cases hf:(List.range ks.length).find? (λj=>nth ks j==k) with
 | some j=>
  have hj:=List.mem_of_find?_eq_some hf
  simp at hj
  simp only[mJ]
  have:j<cs.length:=by omega
  rw[List.getElem?_eq_getElem this]
  have h6:=mU (i:=0) (List.getElem?_eq_getElem this)
  simp at h6
  rw[h6]
 | none=>
  have:(List.range ks.length).any (λj=>nth ks j==k)=false:=by
   rw[List.any_eq_false];intro j hj
   have:=List.find?_eq_none.1 hf j hj
   simpa using this
  simp[this]
theorem nT {es:List M} {j:Nat} (hj:(Y (ey 0 es) j).isSome=true):j<es.length:=by
 cases q:Y (ey 0 es) j with
 | none=>rw[q] at hj;cases hj
 | some e=>
  obtain ⟨_,h2⟩:=fB q
  have:=(List.getElem?_eq_some_iff.1 h2).1
  simpa using this
theorem uP (p:Nat->Bool):∀ {es:List M},gQ es=true->jE p (es.map M.lost)=true
 | [],_=>rfl
 | .box cs::es,h=>by
  simp only[List.map_cons,jE,M.lost,M.oq,Bool.and_eq_true];refine ⟨?_,uP p (by simpa[gQ] using h)⟩;have:∀ cs:List AV,AV.only.ki p (cs.map λ_=>AV.any)=true:=λcs=>by
   induction cs with
   | nil=>rfl
   | cons c cs ih=>simp[AV.only.ki,AV.only,ih]
  exact this cs
 | .arr _ _ _::_,h=>by simp[gQ] at h
 | .app _ _ _::_,h=>by simp[gQ] at h
theorem qd {fr:eu} {ks:List Nat} {es:List M} (hfr:fr.s=(bZ l ds).s/\fr.ds=ds) (hl:es.length=ks.length) (hnd:nodupB ks=true) (hbx:Cl l ds s ks ks es=true) (hfx:xE E ks es)
  {cs:List M} {v:AV} (hcs:cs.length=ks.length) (ho:jE (below ks.length) cs=true) (hv:v.only (below ks.length)=true) :
  vK E fr (Y s) (nth ks) (List.range ks.length) (List.range ks.length) (Y (ey 0 es)) (Y (ey 0 cs)) v:=by
 have hfr':fr=bZ l ds:=by cases fr;simp only[bZ] at hfr ⊢;rw[hfr.1,hfr.2]
 subst hfr'
 refine { Fx:=λj e hj=>?_,val:=by rw[sk];exact hv,inj:=λj j' hj hj' he=>nR hnd (by simpa using hj) (by simpa using hj') he,same:=λj hj=>?_ }
 ·obtain ⟨_,h4⟩:=fB hj
  have h5:=(List.getElem?_eq_some_iff.1 h4).1
  exact ⟨by simp;omega,by rw[sk];exact si ho h4⟩
 ·have hj':j<es.length:=by simp at hj;omega
  rcases uI hbx hfx (by simpa using hj) (List.getElem?_eq_getElem hj') with ⟨cs,hcs⟩|⟨q1,q2,q3,q4⟩
  ·exact .inl ⟨cs,by have:=mU (i:=0) (List.getElem?_eq_getElem hj');rw[hcs] at this;simpa using this⟩
  ·exact .inr ⟨gr q1 q2,λk e hkl he=>mz q3 k e (zj hkl) he,q4⟩
theorem BM {o:Oper} {X:Type} {V:X->AV} {C:X->List M} {G:X->Prop} {H:AV->Prop} {f:Operand} {args:List Operand} {ts:Array TypeId} {fid:FuncId} {argsC first cap vs:List AV} {es:List M}
  {next:eu->cn->Prop} (ks:List Nat) (hen:Enters P fid) (ho:o.op=.call ⟨.value f,args.toArray,ts⟩) (hC:SC P fid argsC (Y (ey 0 es)) (pZ V C G H)) (hk:lA E ds l s ks f args fid argsC es first cap vs) (hbb:gQ es=true)
  (hd:∀ d,o.dst=some d->d<n) (hx:∀ x,G x->(C x).length=ks.length/\jE (below ks.length) (C x)=true/\(V x).only (below ks.length)=true)
  (hret:∀ x,G x->next ((bZ l ds).iC o.dst ((V x).gD (nth ks))) (Y (lz ks (kj (nth ks) (C x))++s)))
  (hpan:∀ v,H v->v.only (λ_=>false)=true/\Q (.panic v) (bZ l ds) (Y (lz ks (kj (nth ks) (es.map M.lost))++s))):Step P E n Q o (bZ l ds) (Y s) next:=by
 obtain ⟨hl,hat⟩:=oB hk.gs
 rw[ic] at hl
 refine yk (nth ks) (List.range ks.length) hen ho (aD hk.f) (by rw[ly hk.a];exact hk.e) (hC.lost hbb) (λj hj=>by have:=nT hj;simp;omega) (λj e hj=>?_)
  (λj j' hj hj' he=>nR hk.nd (by have:=nT hj;omega) (by have:=nT hj';omega) he) hd (λv σc hr=>?_) (λv σc hr=>?_)
 ·obtain ⟨_,h2⟩:=fB hj
  exact hat j _ (by rw[mJ,show j=j - 0 by omega,h2];rfl)
 ·rcases hr with ⟨x,hg,he,rfl⟩|⟨_,_,he,_⟩
  ·cases he
   obtain ⟨h1,h2,h3⟩:=hx x hg
   exact ⟨List.range ks.length,qd ⟨rfl,rfl⟩ hl hk.nd hk.bx hk.fx h1 h2 h3,by rw[oE hk.nd h1];exact hret x hg⟩
  ·cases he
 ·rcases hr with ⟨_,_,he,_⟩|⟨v',hh,he,rfl⟩
  ·cases he
  ·cases he
   obtain ⟨h1,h2⟩:=hpan v hh
   refine ⟨List.range ks.length,qd ⟨rfl,rfl⟩ hl hk.nd hk.bx hk.fx (by simp[hl]) (uP _ hbb) (sU (λk hk=>by cases hk) h1),?_⟩
   rw[oE hk.nd (by simp[hl]),pX h1];exact h2
end
section
variable {P:Program} {E:Env} {n:Nat} {ops:Array Oper} {Q:dR} {rest:List Oper} {fr:eu} {σ:cn}
theorem D9 {o:Oper} {x:Operand} {ts:Array TypeId} {fid:FuncId} {cap:List AV} {next:eu->cn->Prop} (ho:o.op=.defer ⟨.value x,#[],ts⟩) (hx:fr.val x=.fn fid [] cap) (hd:∀ d,o.dst=some d->d<n)
  (hn:next (eu.iC ⟨fr.s,(fid,cap)::fr.ds⟩ o.dst .any) σ):Step P E n Q o fr σ next:=by
 intro g a w K hR hF hK
 have q:=hF.eval x;rw[hx] at q
 generalize hq:a.eval x=c at q
 cases q with
 | fn _ h1 h2=>
  rename_i xs ys
  have hxs:xs=[]:=by cases h1;rfl
  subst hxs
  have hrun:(execOp a.eval o).run P w=.ok (.defer { target:=.fn (.func fid) ys.toArray,args:=#[] }) w:=by
   simp[execOp,ho,resolve,hq,Deferred.ofValue]
  simp only[Oper.wp,hrun,Oper.upon]
  refine hK g _ _ _ _ hn hR ?_
  have hF':FR n g ⟨fr.s,(fid,cap)::fr.ds⟩ { a with defers:={ target:=.fn (.func fid) ys.toArray,args:=#[] }::a.defers }:=⟨hF.size,hF.ib,.cons h2 hF.ds⟩
  exact hF'.put hd (.any _)
theorem zE {l:List (Nat×AV)} {ds:List (FuncId×List AV)} {s:List (Nat×M)} {ty:TypeId} {pos:String} {af:Array Edge} {x:Operand} {ts:Array TypeId} {fid:FuncId} {cap:List AV} (hx:bI l x=some (.fn fid [] cap))
  (hn:SL P E n ops Q rest (bZ l ((fid,cap)::ds)) (Y s)):SL P E n ops Q (⟨none,.defer ⟨.value x,#[],ts⟩,ty,pos,af,none⟩::rest) (bZ l ds) (Y s):=
 iY rfl (D9 rfl (aD hx) (λ_ q=>by cases q) hn)
def JH:Option Value->FrameMode->Prop
 | none,u=>u=.returning
 | some c,u=>u=.panicking [{ v:=c,recovered:=false }]
def JI (P:Program) (f:FuncId) (cap:List AV) (σ:cn) (m:Option Value) (R:cn->Prop):Prop:=
 ∀ (wS:World) (g:Gh) (w:World) (vs:List Value) (u:FrameMode),Rel (Env.of wS g σ w) g σ w->gB g cap vs->JH m u->
  CallsD P f vs.toArray u w λe u' w'=>(∃ v,e=.returned v)/\settle u'=.returning/\∃ g' σ',R σ'/\Rel (Env.of wS g σ w) g' σ' w'
def C6 (P:Program) (f:FuncId) (cap:List AV) (es:List M) (m:Option Value) {X:Type} (res:D X) (C:X->List M):Prop:=
 ∀ r,res=r->r≠.stuck->JI P f cap (Y (ey 0 es)) m (λσ=>∃ x,r=.ok x/\σ=Y (ey 0 (C x)))
def C7 (P:Program) (E:Env) (fn:Func) (R:oV->cn->Prop) (fid:FuncId) (cap:List AV) (m:Option Value) (fr:eu) (σ:cn):Prop:=
 ∃ (π:Nat->Nat) (L:List Nat) (σ0:cn) (capC:List AV) (R0:cn->Prop),Enters P fid/\cap=AV.gD.lN π capC/\JI P fid capC σ0 m R0/\(∀ j,(σ0 j).isSome=true->L.contains j=true)/\
  (∀ j e,σ0 j=some e->σ (π j)=some (e.gD π))/\(∀ j j',(σ0 j).isSome=true->(σ0 j').isSome=true->π j=π j'->j=j')/\
  ∀ σc,R0 σc->vK E fr σ π L L σ0 σc (.fZ [])/\ny P fn R .ret ⟨fr.s,[]⟩ (after σ π L L σc)
def vt (P:Program) (E:Env) (fn:Func) (R:oV->cn->Prop):dR
 | .normal,fr,σ|.ret,fr,σ=>ny P fn R .ret fr σ\/∃ fid cap,fr.ds=[(fid,cap)]/\C7 P E fn R fid cap none fr σ
 | .panic v,fr,σ=>ny P fn R (.panic v) fr σ\/∃ fid cap c,fr.ds=[(fid,cap)]/\(∀ g c',VR g v c'->c'=c)/\C7 P E fn R fid cap (some c) fr σ
 | _,_,_=>False
theorem C8 {f:FuncId} {fn:Func} {c:Code} {args:List AV} {R:oV->cn->Prop} (hf:P.funcs[f]?=some fn) (hb:fn.body=some c) (hn:args.length<=fn.ntmps)
  (h:∀ E:Env,(∀ k,(∀ cs,σ k≠some (.box cs))->E.fix k=none)->SW P E fn.ntmps c (vt P E fn R) ⟨λi=>args[i]?.getD .any,[]⟩ σ):SC P f args σ R:=by
 intro wS g w vs hR hv
 have hE:∀ k,(∀ cs,σ k≠some (.box cs))->(Env.of wS g σ w).fix k=none:=λk hk=>by
  cases q:σ k with
  | none=>simp only[Env.of,q]
  | some e=>cases e with
   | box cs=>exact absurd q (hk cs)
   | arr el sz cs=>simp only[Env.of,q]
   | app el sz cs=>simp only[Env.of,q]
 have hlen:=hv.length
 refine calls_of_wp_defers hf hb (wp_mono (h _ hE g { tmps:=vs.toArray++Array.replicate (fn.ntmps - vs.toArray.size) undef,defers:=[] } w hR ⟨by simp;omega,λi=>?_,.nil⟩) λe a w' hq=>?_)
 ·rw[Array.getD_eq_getD_getElem?]
  rcases Nat.lt_or_ge i args.length with q|q
  ·obtain ⟨c,h1,h2⟩:=hv.get i args[i] (by simp)
   have:(vs.toArray++Array.replicate (fn.ntmps - vs.toArray.size) undef)[i]?=some c:=by
    rw[Array.getElem?_append_left (by simp;omega)];simpa using h1
   rw[this]
   simp[q];exact h2
  ·have e:args[i]?=none:=List.getElem?_eq_none q
   simp only[e,Option.getD_none];exact .any _
 ·obtain ⟨g',ae,fr',σ',q,hx,hR',hF'⟩:=hq
  have fin:∀ g' (fr':eu) (a:Act) σ' w',Rel (Env.of wS g σ w) g' σ' w'->FR fn.ntmps g' fr' a->ny P fn R .ret fr' σ'->
    ∃ c,(results fn a.tmps).run P w'=.ok c w'/\∃ g' ae σ',R ae σ'/\ER g' ae (.returned c)/\Rel (Env.of wS g σ w) g' σ' w':=by
   intro g' fr' a σ' w' hR' hF' ⟨_,vs,v,σ2,h1,h2,hs,h3⟩
   obtain ⟨cs,h4,h5⟩:=h1.run hR' hF'
   refine ⟨if hh:cs.toArray.size=1 then cs.toArray[0] else .tuple cs.toArray,?_,g',.ret v,σ2,h3,.ret (h2 g' _ h5.nv),hR'.sub hs⟩
   rw[tC,<- Array.toArray_toList (xs:=fn.results)]
   simp only[List.mapM_toArray,Sem.run_bind,Sem.run_map,h4,Result.andThen_ok,Sem.run_pure]
  have runs:∀ fid cap m u,fr'.ds=[(fid,cap)]->C7 P (Env.of wS g σ w) fn R fid cap m fr' σ'->JH m u->u≠.run->
    Leaves P fn a.tmps (λe w'=>∃ g' ae σ',R ae σ'/\ER g' ae e/\Rel (Env.of wS g σ w) g' σ' w') a.defers u w':=by
   intro fid cap m u hds ⟨π,L,σ0,capC,R0,hen,hcap,hC,hL,hσ,hinj,hback⟩ hm hu
   have hdr:=hF'.ds;rw[hds] at hdr
   generalize hdf:a.defers=dd at hdr
   cases hdr with
   | cons hv hnil=>
    rename_i cv ds
    have:ds=[]:=hnil.nP
    subst this
    rw[hcap] at hv
    refine ⟨hu,.func fid,cv.toArray,fid,cv.toArray,rfl,by simpa[invoke] using hen cv.toArray w',?_⟩
    refine (hC (Env.of wS g σ w).wS (g'.pull π) w' cv u (Cg hR' hσ hinj) hv.pull hm).mono λe u' w2 ⟨⟨v,he⟩,hset,g2,σ2,hr0,hR2⟩=>?_
    subst he
    obtain ⟨hB,hpost⟩:=hback σ2 hr0
    obtain ⟨h1,h2,_⟩:=uD (v:=.fZ []) (c:=.tuple #[]) hR' hF' hL hσ hB hR2 (.fZ .nil)
    simp only[hset]
    exact fin _ ⟨fr'.s,[]⟩ { tmps:=a.tmps,defers:=[] } _ _ h1 ⟨h2.size,h2.ib,.nil⟩ hpost
  cases hx with
  | normal=>
   rcases q with q|⟨fid,cap,hds,hrun⟩
   ·have hd:=hF'.ds;rw[q.1] at hd
    simp only[bodyPostD,hd.nP]
    exact fin _ _ _ _ _ hR' hF' q
   ·exact runs fid cap none .returning hds hrun rfl (by simp)
  | ret=>
   rcases q with q|⟨fid,cap,hds,hrun⟩
   ·have hd:=hF'.ds;rw[q.1] at hd
    simp only[bodyPostD,hd.nP]
    exact fin _ _ _ _ _ hR' hF' q
   ·exact runs fid cap none .returning hds hrun rfl (by simp)
  | panic hv=>
   rcases q with ⟨hd,σ2,hs,h1⟩|⟨fid,cap,c,hds,hc,hrun⟩
   ·have hdd:=hF'.ds;rw[hd] at hdd
    simp only[bodyPostD,hdd.nP]
    exact ⟨g',_,σ2,h1,.panic hv,hR'.sub hs⟩
   ·rw[hc _ _ hv]
    exact runs fid cap (some c) _ hds hrun rfl (by simp)
  | exit id=>exact q.elim
  | goto l=>exact q.elim
end
section
variable {P:Program} {E:Env} {n:Nat} {ops:Array Oper} {Q:dR} {rest:List Oper} {l:List (Nat×AV)} {ds:List (FuncId×List AV)} {s:List (Nat×M)} {ty:TypeId} {pos:String} {af:Array Edge}
theorem Ea {f:FuncId} {fn:Func} {c:Code} {args:List AV} {es:List M} {X:Type} {res:D X} {V:X->AV} {C:X->List M} (hf:P.funcs[f]?=some fn) (hb:fn.body=some c) (hn:Nat.ble args.length fn.ntmps=true)
  (h:∀ r,res=r->r≠.stuck->∀ E:Env,(∀ k,kL es k=true->E.fix k=none)->
   SW P E fn.ntmps c (vt P E fn (pZ V C (λx=>r=.ok x) (λv=>∃ p,r=.mf p/\v=p.av))) (bZ ((List.range args.length).zip args) []) (Y (ey 0 es))):CT P f args es res V C:=
 λr hr hs=>C8 hf hb (Nat.le_of_ble_eq_true hn) λE hE=>by
  rw[wK]
  refine h r hr hs E λk hk=>hE k λcs hcs=>?_
  obtain ⟨_,h2⟩:=fB hcs
  have h3:∀ (es:List M) (k:Nat),kL es k=true->es[k]?≠some (.box cs):=by
   intro es
   induction es with
   | nil=>intro k _;simp
   | cons e es ih=>
    intro k hk
    cases k with
    | zero=>intro q;simp at q;subst q;simp[kL] at hk
    | succ k=>simpa using ih k (by cases e<;>simpa[kL] using hk)
  exact h3 es k hk (by simpa using h2)
def oF {α:Type} (x:D α) (h:rA->D α):D α:=match x with
 | .stuck=>.stuck
 | .mf p=>h p
 | .ok a=>.ok a
theorem wb {α:Type} {x:D α} {h:rA->D α} {r:D α} (hr:r≠.stuck) (hc:oF x h=r):∃ r0,r0≠.stuck/\x=r0/\oF r0 h=r:=by
 refine ⟨x,?_,rfl,hc⟩;intro q;subst q;exact hr hc.symm
def sn {α:Type} (T:TypeId) (p:rA) (k:Int->D α):D α:=match p with
 | ⟨t,[.sc (.int .i64 v)]⟩=>if t=T then k v else .stuck
 | _=>.stuck
theorem lQ {α:Type} {T:TypeId} {p:rA} {k:Int->D α} {r:D α} (hr:r≠.stuck) (h:sn T p k=r):∃ v,p=⟨T,[.sc (.int .i64 v)]⟩/\k v=r:=by
 unfold sn at h;split at h
 ·split at h
  ·rename_i v q;subst q;exact ⟨v,rfl,h⟩
  exact absurd h.symm hr
 exact absurd h.symm hr
theorem Eb {g:Gh} {T:TypeId} {v:Int} {c:Value} (h:VR g (rA.av ⟨T,[.sc (.int .i64 v)]⟩) c):c=.iface T (.agg #[.int .i64 v]):=by
 simp only[rA.av,List.map_cons,List.map_nil] at h;cases h with
 | mo _ h=>cases h with
  | agg h=>cases h with
   | cons h t=>
    cases t
    rw[h.dy]
theorem C9 {fn:Func} {R:oV->cn->Prop} {fr:eu} {σ:cn} (h:ny P fn R .normal fr σ):ny P fn R .ret fr σ:=h
theorem Ec {fn:Func} {R:oV->cn->Prop} {ae:tj} (hae:ae=.ret\/ae=.normal) {fr:eu} {σ:cn} (h:ny P fn R ae fr σ):vt P E fn R ae fr σ:=by
 rcases hae with rfl|rfl
 ·exact .inl h
 exact .inl (C9 h)
structure Cy (E:Env) (l:List (Nat×AV)) (s:List (Nat×M)) (ks:List Nat) (cap capC:List AV) (es:List M):Prop where
 c:cap=AV.gD.lN (nth ks) capC
 gs:tW s ks=some (kj (nth ks) es)
 nd:nodupB ks=true
 bx:gQ es=true
theorem yv:∀ {ks:List Nat} {es:List M},gQ es=true->xE E ks es
 | [],_,_=>by cases ‹List M›<;>trivial
 | _::_,[],_=>trivial
 | k::ks,.box cs::es,h=>by simp only[xE];exact yv (by simpa[gQ] using h)
 | _::_,.arr _ _ _::_,h=>by simp[gQ] at h
 | _::_,.app _ _ _::_,h=>by simp[gQ] at h
theorem AZ {ks0:List Nat}:∀ {ks:List Nat} {es:List M},gQ es=true->Cl l ds s ks0 ks es=true
 | [],_,_=>by cases ‹List M›<;>rfl
 | _::_,[],_=>rfl
 | k::ks,.box cs::es,h=>by simp only[Cl];simp[AZ (ks:=ks) (es:=es) (by simpa[gQ] using h)]
 | _::_,.arr _ _ _::_,h=>by simp[gQ] at h
 | _::_,.app _ _ _::_,h=>by simp[gQ] at h
theorem G6 {fn:Func} {R:oV->cn->Prop} {fid:FuncId} {cap capC:List AV} {es:List M} {ks:List Nat} {m:Option Value} {X:Type} {res:D X} {C:X->List M} (hen:Enters P fid) (hC:C6 P fid capC es m res C) (hns:res≠.stuck)
  (hk:Cy E l s ks cap capC es) (hx:∀ x,(C x).length=ks.length/\jE (below ks.length) (C x)=true)
  (hret:∀ x,res=.ok x->ny P fn R .ret (bZ l []) (Y (lz ks (kj (nth ks) (C x))++s))):C7 P E fn R fid cap m (bZ l [(fid,cap)]) (Y s):=by
 obtain ⟨hl,hat⟩:=oB hk.gs
 rw[ic] at hl
 refine ⟨nth ks,List.range ks.length,Y (ey 0 es),capC,_,hen,hk.c,hC res rfl hns,λj hj=>by have:=nT hj;simp;omega,λj e hj=>?_,
  λj j' hj hj' he=>nR hk.nd (by have:=nT hj;omega) (by have:=nT hj';omega) he,?_⟩
 ·obtain ⟨_,h2⟩:=fB hj
  exact hat j _ (by rw[mJ,show j=j - 0 by omega,h2];rfl)
 ·rintro σc ⟨x,hxr,rfl⟩
  obtain ⟨h1,h2⟩:=hx x
  refine ⟨qd (l:=l) (ds:=[(fid,cap)]) ⟨rfl,rfl⟩ hl hk.nd (AZ hk.bx) (yv hk.bx) h1 h2 rfl,?_⟩
  rw[oE hk.nd h1];exact hret x hxr
theorem Da {fn:Func} {R:oV->cn->Prop} {ae:tj} (hae:ae=.ret\/ae=.normal) {fid:FuncId} {cap capC:List AV} {es:List M} (ks:List Nat) {X:Type} {x:X} {C:X->List M} (hen:Enters P fid) (hC:C6 P fid capC es none (D.ok x) C)
  (hk:Cy E l s ks cap capC es) (hx:∀ x,(C x).length=ks.length/\jE (below ks.length) (C x)=true) {s':List (Nat×M)} (hs:lz ks (kj (nth ks) (C x))++s=s')
  (hret:ny P fn R .ret (bZ l []) (Y s')):vt P E fn R ae (bZ l [(fid,cap)]) (Y s):=by
 have:C7 P E fn R fid cap none (bZ l [(fid,cap)]) (Y s):=G6 hen hC (by simp) hk hx λy q=>by cases q;rw[hs];exact hret
 rcases hae with rfl|rfl
 ·exact .inr ⟨fid,cap,rfl,this⟩
 ·exact .inr ⟨fid,cap,rfl,this⟩
theorem pB {d:Nat} {X R:Type} {res:D X} {kk:X->D R} {r:D R} {V V':X->AV} {C:X->List M} {C':X->List (Nat×M)} {f:Operand} {args:List Operand} {ts:Array TypeId} {fid:FuncId}
  {argsC first cap vs:List AV} {es:List M} (hr:r≠.stuck) (h:D.bind res kk=r) (ks:List Nat) (hen:Enters P fid)
  (hC:CT P fid argsC es res V C) (hk:lA E ds l s ks f args fid argsC es first cap vs) (hbb:gQ es=true) (hd:Nat.blt d n=true)
  (hx:∀ x,(C x).length=ks.length/\jE (below ks.length) (C x)=true/\(V x).only (below ks.length)=true)
  (hV:∀ x,(V x).gD (nth ks)=V' x/\lz ks (kj (nth ks) (C x))=C' x)
  {sp:List (Nat×M)} (hsp:lz ks (kj (nth ks) (es.map M.lost))++s=sp) (hpan:∀ p,r=.mf p->Q (.panic p.av) (bZ l ds) (Y sp))
  (hret:∀ x,kk x=r->SL P E n ops Q rest (bZ ((d,V' x)::l) ds) (Y (C' x++s))) :
  SL P E n ops Q (⟨some d,.call ⟨.value f,args.toArray,ts⟩,ty,pos,af,none⟩::rest) (bZ l ds) (Y s):=by
 obtain ⟨hns,hok,hp⟩:=kM hr h
 subst hsp
 refine iY rfl (BM ks hen rfl (hC res rfl hns) hk hbb (mA hd) (λx _=>hx x) (λx hg=>?_) (λv hv=>?_))
 ·have:=hret x (hok x hg)
  rw[<- (hV x).1,<- (hV x).2] at this;exact this
 ·obtain ⟨p,hp1,rfl⟩:=hv
  exact ⟨p.only _,hpan p (hp p hp1)⟩
end
end Go.Abs
end
section
namespace Go.Abs
open D
def oG (k:IntKind) (x y:Int):Int:=k.wrap (x*2 ^ (min y.toNat k.bits))
def FK (k:IntKind) (x y:Int):Int:=x.fdiv (2 ^ (min y.toNat k.bits))
def Db (k:IntKind) (x y:Int):Int:=k.wrap (BitVec.ofInt k.bits x&&& BitVec.ofInt k.bits y).toNat
def yw (k:IntKind) (x y:Int):Int:=k.wrap (BitVec.ofInt k.bits x||| BitVec.ofInt k.bits y).toNat
def IP (k:IntKind) (x y:Int):Int:=k.wrap (BitVec.ofInt k.bits x ^^^ BitVec.ofInt k.bits y).toNat
def Dc (k:IntKind) (x:Int):Int:=IP k (if k.signed then -1 else k.max) x
def jb (l:List Int) (i:Int):Int:=l.getD i.toNat 0
def so (l:List Int) (i v:Int):List Int:=l.set i.toNat v
def gR (l:List Int):ByS:=l.map λi=>UInt8.ofNat i.toNat
section
variable {P:Program} {l:List (Nat×AV)} {ds:List (FuncId×List AV)} {s:List (Nat×M)}
theorem wQ {xt yt:TypeId} {x y:Operand} {k:IntKind} {a b:Int} (hx:bI l x=some (Sc (.int k a))) (hy:bI l y=some (Sc (.int k b))) (h:b≠0):iW P (.binOp .quo xt x y yt) l ds s (Sc (.int k (k.wrap (a.tdiv b)))) []:=
 .of (sS (aD hx) (aD hy) λw=>by simp[binOp,Op.intDiv,h])
theorem wR {xt yt:TypeId} {x y:Operand} {k:IntKind} {a b:Int} (hx:bI l x=some (Sc (.int k a))) (hy:bI l y=some (Sc (.int k b))) (h:b≠0):iW P (.binOp .rem xt x y yt) l ds s (Sc (.int k (a.tmod b))) []:=
 .of (sS (aD hx) (aD hy) λw=>by simp[binOp,Op.intDiv,h])
theorem zF {xt yt:TypeId} {x y:Operand} {k k':IntKind} {a b:Int} (hx:bI l x=some (Sc (.int k a))) (hy:bI l y=some (Sc (.int k' b))) (h:0<=b):iW P (.binOp .shl xt x y yt) l ds s (Sc (.int k (oG k a b))) []:=
 .of (sS (aD hx) (aD hy) λw=>by simp[binOp,Op.shift,Int.not_lt.2 h,oG])
theorem Ed {xt yt:TypeId} {x y:Operand} {k k':IntKind} {a b:Int} (hx:bI l x=some (Sc (.int k a))) (hy:bI l y=some (Sc (.int k' b))) (h:0<=b):iW P (.binOp .shr xt x y yt) l ds s (Sc (.int k (FK k a b))) []:=
 .of (sS (aD hx) (aD hy) λw=>by simp[binOp,Op.shift,Int.not_lt.2 h,FK])
theorem Ee {xt yt:TypeId} {x y:Operand} {k:IntKind} {a b:Int} (hx:bI l x=some (Sc (.int k a))) (hy:bI l y=some (Sc (.int k b))):iW P (.binOp .and xt x y yt) l ds s (Sc (.int k (Db k a b))) []:=
 .of (sS (aD hx) (aD hy) λw=>by simp[binOp,Op.intBits,Db])
theorem A0 {xt yt:TypeId} {x y:Operand} {k:IntKind} {a b:Int} (hx:bI l x=some (Sc (.int k a))) (hy:bI l y=some (Sc (.int k b))):iW P (.binOp .or xt x y yt) l ds s (Sc (.int k (yw k a b))) []:=
 .of (sS (aD hx) (aD hy) λw=>by simp[binOp,Op.intBits,yw])
theorem G7 {op:UnOp} {t:TypeId} {fr:eu} {x:Operand} {a c:Value} (hx:fr.val x=Sc a) (h:∀ w,(Op.unary op a).run P w=.ok c w):fY P (.unOp op t x) fr [] (Sc c):=by
 intro o ho g ev w _ hv _;have q1:=hv x (by simp[Op.operands]);rw[hx] at q1;exact ⟨c,by simp[execOp,ho,q1.dy,h],.pv (.sc _)⟩
theorem BN {t:TypeId} {x:Operand} {k:IntKind} {a:Int} (hx:bI l x=some (Sc (.int k a))):iW P (.unOp .neg t x) l ds s (Sc (.int k (k.wrap (0 - a)))) []:=
 .of (G7 (aD hx) λw=>by simp[Op.unary,Op.intArith])
theorem HI {t:TypeId} {x:Operand} {k:IntKind} {a:Int} (hx:bI l x=some (Sc (.int k a))):iW P (.unOp .xor t x) l ds s (Sc (.int k (Dc k a))) []:=
 .of (G7 (aD hx) λw=>by simp[Op.unary,Op.intBits,Dc,IP])
def Oe (T:TypeId) (b:Bool):AV:=match b with
 | true=>.mo T .any
 | false=>Sc .nilIface
class Dd (P:Program) (t:TypeId):Prop where h:∃ ms,P.underlying t=some (.interface ms)
theorem Ef {t:TypeId} (ht:∃ ms,P.underlying t=some (.interface ms)) (u:TypeId) (v:Value) (w:World):(Op.equal t (.iface u v) .nilIface).run P w=.ok false w:=by
 obtain ⟨ms,ht⟩:=ht;have:∀ d,(Op.equalIn (d+1) t (.iface u v) .nilIface).run P w=.ok false w:=λd=>by simp[Op.equalIn,run_underlying ht]
 exact this 9999
theorem Eg {t:TypeId} (ht:∃ ms,P.underlying t=some (.interface ms)) (w:World):(Op.equal t .nilIface .nilIface).run P w=.ok true w:=by
 obtain ⟨ms,ht⟩:=ht;have:∀ d,(Op.equalIn (d+1) t .nilIface .nilIface).run P w=.ok true w:=λd=>by simp[Op.equalIn,run_underlying ht]
 exact this 9999
theorem FL {xt yt u:TypeId} {fr:eu} {x y:Operand} {v:AV} (ht:∃ ms,P.underlying xt=some (.interface ms)) (hx:fr.val x=.mo u v) (hy:fr.val y=Sc .nilIface):fY P (.binOp .neq xt x y yt) fr [] (Bo true):=by
 intro o ho g ev w _ hv _;have q1:=hv x (by simp[Op.operands]);rw[hx] at q1;have q2:=hv y (by simp[Op.operands]);rw[hy] at q2;generalize hq:ev x=c at q1;cases q1 with
 | mo _ h=>
  rename_i vv
  refine ⟨.bool true,?_,.pv (.sc _)⟩
  simp[execOp,ho,hq,q2.dy,eqGuard,binOp,Ef ht u vv w]
theorem FM {xt yt:TypeId} {fr:eu} {x:Operand} (ht:∃ ms,P.underlying xt=some (.interface ms)) (hx:fr.val x=Sc .nilIface):fY P (.binOp .neq xt x (.const .nilIface) yt) fr [] (Bo false):=by
 intro o ho g ev w _ hv _;have q1:=hv x (by simp[Op.operands]);rw[hx] at q1;have q2:=hv (.const .nilIface) (by simp[Op.operands]);have e2:ev (.const .nilIface)=.nilIface:=VR.dy q2;refine ⟨.bool false,?_,.pv (.sc _)⟩;simp[execOp,ho,q1.dy,e2,eqGuard,binOp,Eg ht w]
theorem uQ {xt yt u:TypeId} {x y:Operand} {v:AV} [ht:Dd P xt] (hx:bI l x=some (.mo u v)) (hy:bI l y=some (Sc .nilIface)):iW P (.binOp .neq xt x y yt) l ds s (Bo true) []:=.of (FL ht.h (aD hx) (aD hy))
theorem uR {xt yt:TypeId} {x:Operand} [ht:Dd P xt] (hx:bI l x=some (Sc .nilIface)):iW P (.binOp .neq xt x (.const .nilIface) yt) l ds s (Bo false) []:=.of (FM ht.h (aD hx))
theorem Eh {xt yt T:TypeId} {x:Operand} {b:Bool} [ht:Dd P xt] (hx:bI l x=some (Oe T b)):iW P (.binOp .neq xt x (.const .nilIface) yt) l ds s (Bo b) []:=by
 cases b with
 | true=>exact uQ hx rfl
 | false=>exact uR hx
theorem HJ {xt t:TypeId} {fr:eu} {x:Operand} {v:AV} {d:TypeDesc} (ht:P.underlying t=some d) (hd:DG d=false) (hx:fr.val x=.mo t v):fY P (.typeAssert x xt t true) fr [] (.fZ [v,Bo true]):=by
 intro o ho g ev w _ hv _;have q1:=hv x (by simp[Op.operands]);rw[hx] at q1;generalize hq:ev x=c at q1;cases q1 with
 | mo _ h=>
  rename_i vv
  refine ⟨.tuple [vv,.bool true].toArray,?_,.fZ (.cons h (.cons (.pv (.sc _)) .nil))⟩
  simp only[execOp,ho,hq,Instr.typeAssert,Sem.run_bind,run_underlying ht,Result.andThen_ok]
  cases d<;>simp_all [DG]
theorem G8 {xt t:TypeId} {x:Operand} {v:AV} [ht:D2 P t] (hx:bI l x=some (.mo t v)):iW P (.typeAssert x xt t true) l ds s (.fZ [v,Bo true]) []:=by
 have h:=ht.h;cases hu:P.underlying t with
 | none=>simp[hu] at h
 | some d=>simp[hu] at h;exact .of (HJ hu h (aD hx))
theorem A1 (f:Int->AV):∀ {xs:List Int} {i:Int},0<=i->i<xs.length->(xs.map f)[i.toNat]?=some (f (jb xs i)):=λ{xs i} h0 h1=>by
 have:i.toNat<xs.length:=by omega
 simp[jb,this]
theorem HK (f:Int->AV) {t e:TypeId} {x ix:Operand} {n:Nat} {k:IntKind} {i:Int} {xs:List Int} {cs:List AV} [ht:jD P t (.array n e)] [ha:iI P e false] [hz:mr P e 1]
  (hx:bI l x=some (.agg cs)) (hi:bI l ix=some (Sc (.int k i))) (hc:cs=xs.map f) (hn:xs.length=n) (h0:0<=i) (h1:i<n):iW P (.index t x ix) l ds s (f (jb xs i)) []:=
 .of (yR ht.h ha.h hz.h (aD hx) (aD hi) h0 h1 (by rw[hc];exact A1 f h0 (by rw[hn];exact h1)))
theorem zI (f:Int->AV) {t:TypeId} {x:Operand} {k:Nat} {i:Int} {xs:List Int} {cs:List AV} [ha:iI P t false] (hx:bI l x=some (.ptr k (0+i.toNat*1))) (hk:dx s k=some (.box cs)) (hc:cs=xs.map f) (h0:0<=i) (h1:i<xs.length) :
  iW P (.load t x) l ds s (f (jb xs i)) [(k,.box cs)]:=
 .on hk (r6 ha.h (aD hx) (by simp only[M.cells];rw[hc,show 0+i.toNat*1=i.toNat by omega];exact A1 f h0 h1))
end
theorem iU.nU {g:Gh} {w:World} {k sz:Nat} {el:TypeId} {cells:List PV} (h:iU g w k (.arr el sz cells)):(g.ρ k=none/\cells=[])\/
  ∃ (b:Nat) (cs:Array Value) (el':TypeId),g.ρ k=some b/\w.heap[b]?=some (.cells cs el' (0,0))/\cells.length<=cs.size/\cs.size=g.cp k*sz:=by
 generalize he:M.arr el sz cells=e at h
 cases h with
 | box=>cases he
 | oU h=>cases he;exact .inl ⟨h,rfl⟩
 | arr h hw hl hz=>cases he;exact .inr ⟨_,_,_,h,hw,hl,hz⟩
 | wm=>cases he
 | app=>cases he
theorem VR.nU {g:Gh} {k n:Nat} {c:Value} (h:VR g (.arr k n) c):(∃ b,g.ρ k=some b/\c=.slice (some ⟨b,0,none⟩) n (g.cp k))\/(g.ρ k=none/\n=0/\c=.slice none 0 0):=by
 generalize he:AV.arr k n=e at h;cases h with
 | arr m hb=>cases he;exact .inl ⟨_,hb,rfl⟩
 | oU hb=>cases he;exact .inr ⟨hb,rfl,rfl⟩
 | _=>cases he
theorem Rel.freeze {E:Env} {g:Gh} {σ:cn} {w:World} (h:Rel E g σ w) {k b:Nat} {e:M} {ys:List PV} (hk:σ k=some e) (hea:e.isApp=false) (hfx:E.fix k=none) (hb:g.ρ k=some b) (hc:e.cells=ys.map .pv) :
  Rel E (g.di b ys) (σ.del k) w:=by
 have hG:=h.apart k b e hk hea hb
 have hle:jQ (λ_=>False) g (g.di b ys):=jQ.di g b ys hG
 have hks:(σ k).isSome=true:=by rw[hk];rfl
 have hdel:∀ j e',(σ.del k) j=some e'->j≠k/\σ j=some e':=λj e' hj=>by
  by_cases q:j=k
  ·subst q;simp[cn.del] at hj
  ·exact ⟨q,by simpa[cn.del,q] using hj⟩
 have hdels:∀ j,((σ.del k) j).isSome=true->j≠k/\(σ j).isSome=true:=λj hj=>by
  by_cases q:j=k
  ·subst q;simp[cn.del] at hj
  ·exact ⟨q,by simpa[cn.del,q] using hj⟩
 have hne:∀ j c,j≠k->(σ j).isSome=true->g.ρ j=some c->c≠b:=λj c hj hs hc q=>by
  subst q;exact hj (h.inj j k c hs hks hc hb)
 have hfb:∀ j,E.fix j≠some b:=λj q=>by
  have:=h.x.nt j b k q hks hb
  subst this;rw[hfx] at q;cases q
 obtain ⟨cs,el,hw,hcl,hcv⟩:=(h.jx k e hk).at hb
 rw[hc] at hcl hcv
 simp only[List.length_map] at hcl hcv
 refine { jx:=?_,inj:=?_,gl:=?_,apart:=?_,size:=h.size,oj:=h.oj,own:=?_,fix:=h.fix,iH:=h.iH,g0:=?_,gn:=?_,os:=h.os,out:=h.out,tape:=h.tape,x:=?_ }
 ·intro j e' hj
  obtain ⟨q,hj'⟩:=hdel j e' hj
  exact (h.jx j e' hj').le hle (λq=>q) (λc hc _=>by simp[Gh.di,hne j c q (by rw[hj'];rfl) hc]) (λ_ q=>q.elim) (λ_ _=>rfl)
 ·exact λj j' c hj hj'=>h.inj j j' c (hdels j hj).2 (hdels j' hj').2
 ·intro c zs hz
  by_cases q:c=b
  ·subst q;simp[Gh.di] at hz;subst hz
   exact ⟨cs,el,(0,0),hw,hcl,(ln.wx hcv).le hle⟩
  ·simp[Gh.di,q] at hz
   obtain ⟨c1,e1,f1,h1,h2,h3⟩:=h.gl c zs hz
   exact ⟨c1,e1,f1,h1,h2,h3.le hle⟩
 ·intro j c e' hj hja hc'
  obtain ⟨q,hj'⟩:=hdel j e' hj
  have:=hne j c q (by rw[hj'];rfl) hc'
  simp only[Gh.di,this,if_false]
  exact h.apart j c e' hj' hja hc'
 ·exact λj c hj hc=>h.own j c (hdels j hj).2 hc
 ·intro c zs hz
  obtain ⟨us,h1⟩:=h.g0 c zs hz
  obtain ⟨vs,h2⟩:=hle.G c _ h1
  exact ⟨us++vs,by rw[h2,List.append_assoc]⟩
 ·intro c zs hz
  by_cases q:c=b
  ·subst q
   rcases h.own k c hks hb with q|q
   ·exact .inr (.inl q)
   ·exact .inr (.inr q)
  ·simp[Gh.di,q] at hz;exact h.gn c zs hz
 ·exact {
      xC:=h.x.xC,flat:=h.x.flat,set:=h.x.set,xD:=h.x.xD,gf:=h.x.gf,ns:=h.x.ns
      hi:=λj c hj hc=>h.x.hi j c (hdels j hj).2 hc
      nO:=λj c hf=>by
       have:c≠b:=λq=>by subst q;exact hfb j hf
       simp only[Gh.di,this,if_false];exact h.x.nO j c hf
      nt:=λj c j' hf hj hc=>h.x.nt j c j' hf (hdels j' hj).2 hc
      nu:=λj c e' hf hj=>h.x.nu j c e' hf (hdel j e' hj).2 }
section
variable {P:Program} {E:Env} {n:Nat} {ops:Array Oper} {Q:dR} {rest:List Oper} {l:List (Nat×AV)} {ds:List (FuncId×List AV)} {s:List (Nat×M)}
 {ty:TypeId} {pos:String} {af:Array Edge}
theorem Jr (l:List (Nat×AV)) (s:List (Nat×M)):eH E n l ds s l s:=λg _ _ hR hF=>⟨g,hR,hF⟩
theorem Ei {α:Type} {C:α->List PV} {Cs:List α->List PV} {g:Gh} {w:World} {b sz k:Nat} {el:TypeId} {xs:List α} (mg:∀ l,Cs l=l.flatMap C) (hC:∀ x,(C x).length=sz) (hz:0<sz) (hb:g.ρ k=some b)
  (he:iU g w k (.arr el sz (Cs xs))):VR (g.di b (Cs xs)) (.pv (.sl xs.length (Cs xs))) (.slice (some ⟨b,0,none⟩) xs.length (g.cp k)):=by
 rcases he.nU with ⟨h,_⟩|⟨b',cs,el',h,hw,hl,hz'⟩
 ·rw[h] at hb;cases hb
 ·rw[h] at hb;cases hb
  refine .pv (.sl _ (Cs xs) 0 _ _ (Cs xs) (by simp[Gh.di]) (by simp) (by simp) ?_)
  have h1:xs.length*sz<=g.cp k*sz:=by
   rw[<- hz']
   rw[mg,gW hC] at hl;exact hl
  exact Nat.le_of_mul_le_mul_right h1 hz
theorem A2 {α:Type} {C:α->List PV} {sz:Nat} (hC:∀ x,(C x).length=sz) (hz:0<sz) {xs:List α} (h:xs.flatMap C=[]):xs=[]:=by
 have:=gW hC xs;rw[h] at this;cases xs with
 | nil=>rfl
 | cons a l=>simp[Nat.succ_mul] at this;omega
theorem Ej {α:Type} {C:α->List PV} {Cs:List α->List PV} {d k sz:Nat} {el:TypeId} {xs:List α} (mg:∀ l,Cs l=l.flatMap C) (hC:∀ x,(C x).length=sz) (hz:Nat.blt 0 sz=true) (hd:jv l d=some (.arr k (List.length xs)))
  (hk:dx s k=some (.arr el sz (Cs xs))) (hE:E.fix k=none):eH E n l ds s ((d,.pv (.sl (List.length xs) (Cs xs)))::l) (nS k s):=λg a w hR hF=>by
 have hks:=bO hk
 have hz':0<sz:=by simpa[Nat.blt_eq] using hz
 have hs:=hF.ib d
 simp only[bZ,eL hd] at hs
 rw[o8]
 cases hb:g.ρ k with
 | none=>
  have hx:xs=[]:=by
   rcases (hR.jx k _ hks).nU with ⟨_,this⟩|⟨b',cs,el',h,_⟩
   ·rw[mg] at this;exact A2 hC hz' (by simpa using this)
   ·rw[h] at hb;cases hb
  subst hx
  have e0:Cs ([]:List α)=[]:=by rw[mg];rfl
  refine ⟨g,hR.sub λj e hj=>by
   unfold cn.del at hj
   split at hj
   ·cases hj
   ·exact hj,hF.size,λi=>?_,hF.ds⟩
  by_cases q:i=d
  ·subst q;simp only[bZ,kz,if_true]
   generalize a.tmps.getD i undef=c at hs ⊢
   rcases hs.nU with ⟨b',h,_⟩|⟨_,_,rfl⟩
   ·rw[h] at hb;cases hb
   ·rw[e0];exact .pv (.nil _ _)
  ·simpa[bZ,kz,q] using hF.ib i
 | some b=>
  refine ⟨g.di b (Cs xs),hR.freeze hks rfl hE hb rfl,?_⟩
  have hle:jQ (λ_=>False) g (g.di b (Cs xs)):=jQ.di g b _ (hR.apart k b _ hks rfl hb)
  have hF':=hF.le hle (λ_ q=>q.elim)
  refine ⟨hF'.size,λi=>?_,hF'.ds⟩
  by_cases q:i=d
  ·subst q;simp only[bZ,kz,if_true]
   generalize a.tmps.getD i undef=c at hs ⊢
   rcases hs.nU with ⟨b',h,rfl⟩|⟨h,_⟩
   ·rw[h] at hb;cases hb;exact Ei mg hC hz' h (hR.jx k _ hks)
   ·rw[h] at hb;cases hb
  ·simpa[bZ,kz,q] using hF'.ib i
theorem qI {α:Type} {C:α->List PV} {Cs:List α->List PV} {j off k sz:Nat} {el:TypeId} {xs:List α} {cs cs':List AV} (mg:∀ l,Cs l=l.flatMap C) (hC:∀ x,(C x).length=sz) (hz:Nat.blt 0 sz=true) (hj:dx s j=some (.box cs))
  (hc:cs[off]?=some (.arr k (List.length xs))) (hk:dx s k=some (.arr el sz (Cs xs))) (hE:E.fix k=none) (hcs:cs.set off (.pv (.sl (List.length xs) (Cs xs)))=cs') :
  eH E n l ds s l ((j,.box cs')::nS k s):=λg a w hR hF=>by
 subst hcs
 have hks:=bO hk
 have hjs:=bO hj
 have hz':0<sz:=by simpa[Nat.blt_eq] using hz
 have hjk:j≠k:=λq=>by subst q;rw[hjs] at hks;cases hks
 have fin:∀ g',Rel E g' ((Y s).del k) w->FR n g' (bZ l ds) a->(∀ c,VR g (.arr k (List.length xs)) c->VR g' (.pv (.sl (List.length xs) (Cs xs))) c)->(∀ cs0:Array Value,gB g cs cs0.toList->gB g' (cs.set off (.pv (.sl (List.length xs) (Cs xs)))) cs0.toList)->
   g'.ρ j=g.ρ j->∃ g',Rel E g' (Y ((j,.box (cs.set off (.pv (.sl (List.length xs) (Cs xs)))))::nS k s)) w/\FR n g' (bZ l ds) a:=λg' hR' hF' _ hbx hρ=>by
  refine ⟨g',?_,hF'⟩
  have e1:Y ((j,.box (cs.set off (.pv (.sl (List.length xs) (Cs xs)))))::nS k s)=((Y s).del k).set j (.box (cs.set off (.pv (.sl (List.length xs) (Cs xs))))):=by
   rw[<- o8];rfl
  rw[e1]
  have hjd:((Y s).del k) j=some (.box cs):=by simp[cn.del,hjk,hjs]
  cases hR.jx j _ hjs with
  | box h1 h2 h3 h4=>
   exact {
       jx:=λi e he=>by
        by_cases q:i=j
        ·subst q;simp[cn.set] at he;subst he
         exact .box (hρ.trans h1) h2 (hbx _ h3) h4
        ·simp[cn.set,q] at he;exact hR'.jx i e he
       inj:=λi i' b hi hi'=>hR'.inj i i' b (by
        by_cases q:i=j
        ·subst q;rw[hjd];rfl
        ·simpa[cn.set,q] using hi) (by
        by_cases q:i'=j
        ·subst q;rw[hjd];rfl
        ·simpa[cn.set,q] using hi')
       gl:=hR'.gl
       apart:=λi b e he hea hb=>by
        by_cases q:i=j
        ·subst q;exact hR'.apart i b _ hjd rfl hb
        ·exact hR'.apart i b e (by simpa[cn.set,q] using he) hea hb
       size:=hR'.size,oj:=hR'.oj
       own:=λi b hi hb=>hR'.own i b (by
        by_cases q:i=j
        ·subst q;rw[hjd];rfl
        ·simpa[cn.set,q] using hi) hb
       fix:=hR'.fix,iH:=hR'.iH,g0:=hR'.g0,gn:=hR'.gn,os:=hR'.os,out:=hR'.out,tape:=hR'.tape
       x:=hR'.x.r4 rfl rfl (λi b hi hb=>⟨i,by
        by_cases q:i=j
        ·subst q;rw[hjd];rfl
        ·simpa[cn.set,q] using hi,hb,.inl rfl⟩) (λi b e' _ hi=>by
        by_cases q:i=j
        ·subst q;exact ⟨_,hjd,λ_=>(by simp[cn.set] at hi;exact ⟨_,hi.symm⟩)⟩
        ·exact ⟨e',by simpa[cn.set,q] using hi,id⟩) }
 cases hb:g.ρ k with
 | none=>
  have hx:xs=[]:=by
   rcases (hR.jx k _ hks).nU with ⟨_,this⟩|⟨b',cs,el',h,_⟩
   ·rw[mg] at this;exact A2 hC hz' (by simpa using this)
   ·rw[h] at hb;cases hb
  have e0:Cs xs=[]:=by rw[hx,mg];rfl
  have hv:∀ c,VR g (.arr k (List.length xs)) c->VR g (.pv (.sl (List.length xs) (Cs xs))) c:=λc hcv=>by
   rw[e0]
   rcases hcv.nU with ⟨b',h,_⟩|⟨_,hn,rfl⟩
   ·rw[h] at hb;cases hb
   ·rw[hn];exact .pv (.nil _ _)
  exact fin g (hR.sub λi e hi=>by
   unfold cn.del at hi
   split at hi
   ·cases hi
   ·exact hi) hF hv (λcs0 h3=>h3.set hc hv) rfl
 | some b=>
  have hle:jQ (λ_=>False) g (g.di b (Cs xs)):=jQ.di g b _ (hR.apart k b _ hks rfl hb)
  have hv:∀ c,VR g (.arr k (List.length xs)) c->VR (g.di b (Cs xs)) (.pv (.sl (List.length xs) (Cs xs))) c:=λc hcv=>by
   rcases hcv.nU with ⟨b',h,rfl⟩|⟨h,_⟩
   ·rw[h] at hb;cases hb;exact Ei mg hC hz' h (hR.jx k _ hks)
   ·rw[h] at hb;cases hb
  refine fin _ (hR.freeze hks rfl hE hb rfl) (hF.le hle λ_ q=>q.elim) hv (λcs0 h3=>?_) rfl
  have h4:=h3.le hle (λ_ q=>q.elim)
  exact h4.set (g:=g.di b (Cs xs)) hc λc hcv=>by
   rcases hcv.nU with ⟨b',h,rfl⟩|⟨h,_⟩
   ·have h':g.ρ k=some b':=h
    rw[h'] at hb;cases hb;exact Ei mg hC hz' h' (hR.jx k _ hks)
   ·have h':g.ρ k=none:=h
    rw[h'] at hb;cases hb
theorem HL {d k:Nat} {ps:List PV} (hd:jv l d=some (.ptr k 0)) (hk:dx s k=some (.box (ps.map .pv))) (hE:E.fix k=none):eH E n l ds s ((d,.pv (.pt (some ps)))::l) (nS k s):=λg a w hR hF=>by
 have hks:=bO hk;have hs:=hF.ib d;simp only[bZ,eL hd] at hs;rw[o8];generalize hc:a.tmps.getD d undef=c at hs;cases hs with
 | ptr _ hb=>
  rename_i b
  refine ⟨g.di b ps,hR.freeze hks rfl hE hb rfl,?_⟩
  have hle:jQ (λ_=>False) g (g.di b ps):=jQ.di g b _ (hR.apart k b _ hks rfl hb)
  have hF':=hF.le hle (λ_ q=>q.elim)
  refine ⟨hF'.size,λi=>?_,hF'.ds⟩
  by_cases q:i=d
  ·subst q;simp only[bZ,kz,if_true];rw[hc];exact .pv (.Dx b ps 0 ps (by simp[Gh.di]) (by simp) (by simp))
  ·simpa[bZ,kz,q] using hF'.ib i
theorem Ek (nm:Nat) {sz:Nat} {el:TypeId} (hE:E.fix nm=none) (hm:k9 nm l=false/\jB nm ds=false/\nK nm s=false):eH E n l ds s l ((nm,.app el sz [])::s):=λg a w hR hF=>
 ⟨g.unbind nm,hR.vY (jC hm.2.2) hE,hF.le (jQ.unbind g nm) (λk q=>by subst q;exact gr hm.1 hm.2.1)⟩
theorem HM (nm:Nat) {sz:Nat} {el:TypeId} (l':List (Nat×AV)) (s':List (Nat×M)) (hE:E.fix nm=none) (h1:tq l l' l') (h2:tY s s' s') (hm:k9 nm l'=false/\jB nm ds=false/\nK nm s'=false) :
 eH E n l ds s l' ((nm,.app el sz [])::s'):=(eH.AA l' s' h1 h2).trans (Ek nm hE hm)
theorem Rel.A3 {E:Env} {g:Gh} {σ:cn} {w:World} (h:Rel E g σ w) {nm sz:Nat} {el:TypeId} (hc:σ.clear nm) (hf:E.fix nm=none):Rel E (g.unbind nm) (σ.set nm (.arr el sz [])) w:=by
 have h0:=h.vY (el:=el) (sz:=sz) hc hf;have hρn:(g.unbind nm).ρ nm=none:=by simp[Gh.unbind]
 have hne:∀ j e,σ.set nm (.arr el sz []) j=some e->j≠nm->σ.set nm (.app el sz []) j=some e:=λj e hj q=>by simpa[cn.set,q] using hj
 have hs:∀ j,(σ.set nm (.arr el sz []) j).isSome=true->(σ.set nm (.app el sz []) j).isSome=true:=λj hj=>by
  by_cases q:j=nm
  ·subst q;simp[cn.set]
  simpa[cn.set,q] using hj
 exact {
  jx:=λj e hj=>by
   by_cases q:j=nm
   ·subst q;simp[cn.set] at hj;subst hj;exact .oU hρn
   exact h0.jx j e (hne j e hj q)
  inj:=λj j' b hj hj'=>h0.inj j j' b (hs j hj) (hs j' hj')
  gl:=h0.gl
  apart:=λj b e hj hea hb=>by
   by_cases q:j=nm
   ·subst q;rw[hρn] at hb;cases hb
   exact h0.apart j b e (hne j e hj q) hea hb
  size:=h0.size,oj:=h0.oj,own:=λj b hj=>h0.own j b (hs j hj),fix:=h0.fix,iH:=h0.iH,g0:=h0.g0,gn:=h0.gn,os:=h0.os,out:=h0.out,tape:=h0.tape
  x:=h0.x.r4 rfl rfl (λj b hj hb=>⟨j,hs j hj,hb,.inl rfl⟩) (λj b e' hfj hj=>by
   have q:j≠nm:=λq=>by subst q;rw[hf] at hfj;cases hfj
   exact ⟨e',hne j _ hj q,id⟩) }
theorem Cz {d:Nat} (nm:Nat) {sz:Nat} {el:TypeId} (hE:E.fix nm=none) (hd:jv l d=some (nSl)) (hm:k9 nm l=false/\jB nm ds=false/\nK nm s=false) :
  eH E n l ds s ((d,.arr nm 0)::l) ((nm,.arr el sz [])::s):=λg a w hR hF=>by
 have h1:=hR.A3 (el:=el) (sz:=sz) (jC hm.2.2) hE
 have h2:=hF.le (jQ.unbind g nm) (λk q=>by subst q;exact gr hm.1 hm.2.1)
 refine ⟨g.unbind nm,h1,h2.size,λi=>?_,h2.ds⟩
 by_cases q:i=d
 ·subst q
  have h3:=h2.ib i
  simp only[bZ,eL hd] at h3
  simp only[bZ,kz,if_true]
  rw[h3.dy];exact .oU (by simp[Gh.unbind])
 ·simpa[bZ,kz,q] using h2.ib i
theorem sq {j off:Nat} (nm:Nat) {sz:Nat} {el:TypeId} {cs cs':List AV} (hE:E.fix nm=none) (hj:dx s j=some (.box cs)) (hc:cs[off]?=some (nSl))
  (hm:k9 nm l=false/\jB nm ds=false/\nK nm s=false) (hjn:Nat.beq j nm=false) (hcs:cs.set off (.arr nm 0)=cs') :
  eH E n l ds s l ((j,.box cs')::(nm,.arr el sz [])::s):=λg a w hR hF=>by
 subst hcs
 have hR:=hR.A3 (el:=el) (sz:=sz) (jC hm.2.2) hE
 have hF:=hF.le (jQ.unbind g nm) (λk q=>by subst q;exact gr hm.1 hm.2.1)
 have hjn':j≠nm:=λq=>by subst q;simp at hjn
 have hjs:(Y s).set nm (.arr el sz []) j=some (.box cs):=by simp[cn.set,hjn',bO hj]
 refine ⟨g.unbind nm,?_,hF⟩
 have he:∀ i e,Y ((j,.box (cs.set off (.arr nm 0)))::(nm,.arr el sz [])::s) i=some e->(((Y s).set nm (.arr el sz [])) i).isSome=true/\(i≠j->((Y s).set nm (.arr el sz [])) i=some e):=λi e h=>by
  by_cases q:i=j
  ·subst q;exact ⟨by rw[hjs];rfl,λq=>absurd rfl q⟩
  ·have:((Y s).set nm (.arr el sz [])) i=some e:=by simpa[Y,kA,cn.set,q] using h
   exact ⟨by rw[this];rfl,λ_=>this⟩
 have hs:∀ i,(Y ((j,.box (cs.set off (.arr nm 0)))::(nm,.arr el sz [])::s) i).isSome=true->(((Y s).set nm (.arr el sz [])) i).isSome=true:=λi h=>by
  cases q:Y ((j,.box (cs.set off (.arr nm 0)))::(nm,.arr el sz [])::s) i with
  | none=>rw[q] at h;cases h
  | some e=>exact (he i e q).1
 exact {
     jx:=λi e h=>by
      by_cases q:i=j
      ·subst q
       have:e=.box (cs.set off (.arr nm 0)):=by simpa[Y,kA] using h.symm
       subst this
       cases hR.jx i _ hjs with
       | box h1 h2 h3 h4=>exact .box h1 h2 (h3.set hc λc hc=>by rw[hc.dy];exact .oU (by simp[Gh.unbind])) h4
      ·exact hR.jx i e ((he i e h).2 q)
     inj:=λi i' b h h'=>hR.inj i i' b (hs i h) (hs i' h')
     gl:=hR.gl
     apart:=λi b e h hea hb=>by
      by_cases q:i=j
      ·subst q;exact hR.apart i b _ hjs rfl hb
      ·exact hR.apart i b e ((he i e h).2 q) hea hb
     size:=hR.size,oj:=hR.oj,own:=λi b h=>hR.own i b (hs i h),fix:=hR.fix,iH:=hR.iH,g0:=hR.g0,gn:=hR.gn,os:=hR.os,out:=hR.out,tape:=hR.tape
     x:=hR.x.r4 rfl rfl (λi b hi hb=>⟨i,hs i hi,hb,.inl rfl⟩) (λi b e' _ hi=>by
      by_cases q:i=j
      ·subst q;exact ⟨_,hjs,λ_=>(by simp[Y,kA] at hi;exact ⟨_,hi.symm⟩)⟩
      ·exact ⟨e',(he i _ hi).2 q,id⟩) }
end
theorem De {α:Type} {f:α->List PV} {sz:Nat} (hf:∀ x,(f x).length=sz):∀ (l:List α) (i:Nat),(l.flatMap f).take (i*sz)=(l.take i).flatMap f:=by
 intro l
 induction l with
 | nil=>intro i;simp
 | cons a l ih=>
  intro i
  cases i with
  | zero=>simp
  | succ i=>
   rw[List.take_succ_cons,List.flatMap_cons,List.flatMap_cons,Nat.succ_mul,Nat.add_comm,List.take_append]
   rw[List.take_of_length_le (by rw[hf];omega),hf,show sz+i*sz - sz=i*sz by omega,ih]
theorem El {α:Type} {f:α->List PV} {sz:Nat} (hf:∀ x,(f x).length=sz) {l:List α} {i d:Nat} {a a':α} {vs:List PV} (ha:l[i]?=some a) (hd:d+vs.length<=sz) (hu:f a'=(f a).take d++vs++(f a).drop (d+vs.length)) :
  (l.flatMap f).take (i*sz+d)++vs++(l.flatMap f).drop (i*sz+d+vs.length)=(l.set i a').flatMap f:=by
 have hlt:i<l.length:=(List.getElem?_eq_some_iff.1 ha).1
 have hdrop:=yp hf ha
 have e1:(l.flatMap f).take (i*sz+d)=(l.take i).flatMap f++(f a).take d:=by
  rw[List.take_add,De hf,hdrop,List.take_append_of_le_length (by rw[hf];omega)]
 have e2:(l.flatMap f).drop (i*sz+d+vs.length)=(f a).drop (d+vs.length)++(l.drop (i+1)).flatMap f:=by
  rw[show i*sz+d+vs.length=i*sz+(d+vs.length) by omega,<- List.drop_drop,hdrop,List.drop_append_of_le_length (by rw[hf];omega)]
  congr 1
  have:∀ (l:List α) (j:Nat),(l.flatMap f).drop (j*sz)=(l.drop j).flatMap f:=by
   intro l
   induction l with
   | nil=>intro j;simp
   | cons b l ih=>
    intro j
    cases j with
    | zero=>simp
    | succ j=>
     rw[List.drop_succ_cons,List.flatMap_cons,Nat.succ_mul,Nat.add_comm,<- List.drop_drop]
     rw[List.drop_left' (hf b)];exact ih j
  exact this l (i+1)
 rw[e1,e2,List.set_eq_take_append_cons_drop,if_pos hlt,List.flatMap_append,List.flatMap_cons,hu]
 simp
section
variable {P:Program} {E:Env} {n:Nat} {ops:Array Oper} {Q:dR} {rest:List Oper} {l:List (Nat×AV)} {ds:List (FuncId×List AV)} {s:List (Nat×M)}
 {ty:TypeId} {pos:String} {af:Array Edge}
theorem A4 {k:Nat} {e:M}:Y ((k,e)::nS k s)=(Y s).set k e:=by
 funext j;have h:=congrFun (o8 (k:=k) (s:=s)) j;simp only[Y,cn.del,cn.set,kA] at h ⊢;by_cases q:j=k
 ·simp[q]
 simp only[q,if_false] at h ⊢;exact h
structure xF (P:Program) {α:Type} (C:α->List PV) (Cs:List α->List PV) (l:List (Nat×AV)) (s:List (Nat×M)) (t:TypeId) (x y:Operand) (k off m sz:Nat) (el:TypeId) (i:Int) (xs:List α) (a a':α) (v:AV) (vs:List PV):Prop where
 mg:∀ l,Cs l=l.flatMap C
 hC:∀ x,(C x).length=sz
 h0:0<=i
 ha:xs[i.toNat]?=some a
 hx:bI l x=some (.ptr k (i.toNat*sz+off))
 hk:dx s k=some (.arr el sz (Cs xs))
 hy:bI l y=some v
 hv:v.fA=some (vs.map .pv)
 h1:PV.jl vs=true
 ht:xA P t=some m
 hm:vs.length=m
 hb:Nat.ble (off+vs.length) sz=true
 hu:C a'=(C a).take off++vs++(C a).drop (off+vs.length)
theorem xF.Cf {α:Type} {C:α->List PV} {Cs:List α->List PV} {t:TypeId} {x y:Operand} {k off m sz:Nat} {el:TypeId} {i:Int} {xs:List α} {a a':α} {v:AV} {vs:List PV} (h:xF P C Cs l s t x y k off m sz el i xs a a' v vs) :
  (M.arr el sz (Cs xs)).Cf (i.toNat*sz+off) (vs.map .pv)=.arr el sz (Cs (xs.set i.toNat a')):=by
 simp only[M.Cf,List.length_map,wA]
 rw[h.mg,h.mg,El h.hC h.ha (Nat.le_of_ble_eq_true h.hb) h.hu]
theorem xF.le {α:Type} {C:α->List PV} {Cs:List α->List PV} {t:TypeId} {x y:Operand} {k off m sz:Nat} {el:TypeId} {i:Int} {xs:List α} {a a':α} {v:AV} {vs:List PV} (h:xF P C Cs l s t x y k off m sz el i xs a a' v vs) :
  i.toNat*sz+off+(vs.map AV.pv).length<=(M.arr el sz (Cs xs)).cells.length:=by
 have hlt:i.toNat<xs.length:=(List.getElem?_eq_some_iff.1 h.ha).1
 have hb:=Nat.le_of_ble_eq_true h.hb
 simp only[M.cells,List.length_map]
 rw[h.mg,gW h.hC]
 have:(i.toNat+1)*sz<=xs.length*sz:=Nat.mul_le_mul_right _ hlt
 rw[Nat.succ_mul] at this
 omega
theorem Em {α:Type} {C:α->List PV} {Cs:List α->List PV} {t:TypeId} {x y:Operand} {k off m sz:Nat} {el:TypeId} {i:Int} {xs:List α} {a a':α} {v:AV} {vs:List PV} (h:xF P C Cs l s t x y k off m sz el i xs a a' v vs)
  (hn:SL P E n ops Q rest (bZ l ds) (Y ((k,.arr el sz (Cs (xs.set i.toNat a')))::nS k s))):SL P E n ops Q (⟨none,.store t x y,ty,pos,af,none⟩::rest) (bZ l ds) (Y s):=by
 refine iY rfl (qD rfl rfl (aD h.hx) (bO h.hk) rfl (by rw[aD h.hy];exact h.hv) (wC h.h1) (by rw[List.length_map,h.hm];exact h.ht) h.le (λ_=>⟨_,rfl⟩) ?_)
 rw[h.Cf,<- A4];exact hn
structure sr (P:Program) (E:Env) (l:List (Nat×AV)) (ds:List (FuncId×List AV)) (s:List (Nat×M)) {α:Type} (C:α->List PV) (Cs:List α->List PV) (t e:TypeId) (sz bytes k nm:Nat) (a x:Operand) (xs ys:List α):Prop where
 hT:P.underlying t=some (.slice e)
 hB:qE P e=some (sz,bytes)
 mg:∀ l,Cs l=l.flatMap C
 hL:∀ x,(C x).length=sz
 h1:∀ x,PV.jl (C x)=true
 hE:E.fix nm=none
 hs:bI l a=some (.arr k (List.length xs))
 hk:dx s k=some (.arr e sz (Cs xs))
 hx:bI l x=some (.pv (.sl (List.length ys) (Cs ys)))\/(ys=[]/\bI l x=some (nSl))
 hm:k9 nm l=false/\jB nm ds=false/\wH nm [k] s=false
 hg:k2 bytes (List.length xs) (List.length ys)
section
variable {α:Type} {C:α->List PV} {Cs:List α->List PV} {t e:TypeId} {sz bytes k nm:Nat} {a x:Operand} {xs ys:List α}
theorem sr.IM (h:sr P E l ds s C Cs t e sz bytes k nm a x xs ys):Fk sz ((bZ l ds).val x) (List.length ys) (Cs ys):=by
 rcases h.hx with q|⟨q1,q2⟩
 ·rw[aD q];exact .sl _ _ (by rw[h.mg,gW h.hL])
 rw[aD q2];subst q1;rw[h.mg];exact .nil
theorem sr.IN (h:sr P E l ds s C Cs t e sz bytes k nm a x xs ys):((Y s).del k).clear nm:=by
 intro j e he;unfold cn.del at he;split at he
 ·cases he
 rename_i q;refine mz h.hm.2.2 j e ?_ he;cases hb:Nat.beq j k with
 | true=>exact absurd (Nat.eq_of_beq_eq_true hb) q
 | false=>simp[hb]
theorem sr.st (h:sr P E l ds s C Cs t e sz bytes k nm a x xs ys):((Y s).del k).set nm (.arr e sz (Cs xs++Cs ys))=Y ((nm,.arr e sz (Cs (xs++ys)))::nS k s):=by
 rw[<- o8,show Cs xs++Cs ys=Cs (xs++ys) by rw[h.mg,h.mg,h.mg,List.flatMap_append]];rfl
theorem ub {d:Nat} (nm:Nat) (h:sr P E l ds s C Cs t e sz bytes k nm a x xs ys) (hd:Nat.blt d n=true)
  (hn:SL P E n ops Q rest (bZ ((d,.arr nm (List.length (xs++ys)))::l) ds) (Y ((nm,.arr e sz (Cs (xs++ys)))::nS k s))) :
  SL P E n ops Q (⟨some d,.call ⟨.builtin .append,#[a,x],#[t,t]⟩,ty,pos,af,none⟩::rest) (bZ l ds) (Y s):=by
 refine iY rfl (tU (nm:=nm) rfl h.hT h.hB (aD h.hs) (bO h.hk) (by rw[h.mg,gW h.hL]) h.IM (by rw[h.mg];exact qc h.h1 ys) (gr h.hm.1 h.hm.2.1) h.IN h.hE h.hg.1 h.hg.2 (mA hd) ?_)
 rw[h.st,<- List.length_append];exact hn
end
end
section
variable {P:Program} {E:Env} {n:Nat} {ops:Array Oper} {Q:dR} {B:List Rec->eu->cn->Prop} {i:Nat} {L:List Nat} {recs:List Rec} {l:List (Nat×AV)} {ds:List (FuncId×List AV)} {s:List (Nat×M)}
 {ty:TypeId} {pos:String} {af:Array Edge}
theorem nV {α:Type} {C:α->List PV} {Cs:List α->List PV} {d:Nat} {t e:TypeId} {a x:Operand} {sz bytes k:Nat} {gd:Option (Nat×Bool)} (nm:Nat) {xs ys:List α}
  (ho:ops[i]?=some ⟨some d,.call ⟨.builtin .append,#[a,x],#[t,t]⟩,ty,pos,af,gd⟩) (hw:gX ops ⟨some d,.call ⟨.builtin .append,#[a,x],#[t,t]⟩,ty,pos,af,gd⟩ (bZ l ds))
  (h:sr P E l ds s C Cs t e sz bytes k nm a x xs ys) (hd:Nat.blt d n=true) (hnm:kC recs=true)
  (hn:lP ops i ((nm,.arr e sz (Cs (xs++ys)))::nS k s) recs/\mi P E n ops Q B L recs (bZ ((d,.arr nm (List.length (xs++ys)))::l) ds) (Y ((nm,.arr e sz (Cs (xs++ys)))::nS k s))) :
  mi P E n ops Q B (i::L) recs (bZ l ds) (Y s):=by
 refine ⟨_,ho,.dJ hw rfl (.Ch (nm:=nm) rfl h.hT h.hB (aD h.hs) (bO h.hk) (by rw[h.mg,gW h.hL]) h.IM (by rw[h.mg];exact qc h.h1 ys) (gr h.hm.1 h.hm.2.1) h.IN h.hE h.hg.1 h.hg.2 (mA hd) ?_)
  (λr hr k' _=>by rw[et hnm r (List.mem_filter.1 hr).1];simp)⟩
 rw[h.st,<- List.length_append]
 exact ⟨λr hr=>⟨λp hp=>(let ⟨e,h1,h2⟩:=hn.1 r hr p hp;⟨e,bO h1,h2⟩),λnm q=>by rw[et hnm r (List.mem_filter.1 hr).1] at q;cases q⟩,hn.2⟩
theorem HN {α:Type} {C:α->List PV} {Cs:List α->List PV} {t:TypeId} {x y:Operand} {k off m sz:Nat} {el:TypeId} {ii:Int} {xs:List α} {a a':α} {v:AV} {vs:List PV}
  (ho:ops[i]?=some ⟨none,.store t x y,ty,pos,af,none⟩) (h:xF P C Cs l s t x y k off m sz el ii xs a a' v vs) (hnm:kC recs=true)
  (hn:lP ops i ((k,.arr el sz (Cs (xs.set ii.toNat a')))::nS k s) recs/\mi P E n ops Q B L recs (bZ l ds) (Y ((k,.arr el sz (Cs (xs.set ii.toNat a')))::nS k s))):mi P E n ops Q B (i::L) recs (bZ l ds) (Y s):=by
 refine ⟨_,ho,.dJ (.inl rfl) rfl (.store rfl rfl (aD h.hx) (bO h.hk) rfl (by rw[aD h.hy];exact h.hv) (wC h.h1) (by rw[List.length_map,h.hm];exact h.ht) h.le (λ_=>⟨_,rfl⟩) ?_) (λr hr k' _=>by rw[et hnm r (List.mem_filter.1 hr).1];simp)⟩
 rw[h.Cf,<- A4]
 exact ⟨λr hr=>⟨λp hp=>(let ⟨e,h1,h2⟩:=hn.1 r hr p hp;⟨e,bO h1,h2⟩),λnm q=>by rw[et hnm r (List.mem_filter.1 hr).1] at q;cases q⟩,hn.2⟩
theorem tI {d:Nat} {x:Operand} {v:AV} (ho:ops[i]?=some ⟨some d,.assign x,ty,pos,af,none⟩) (hx:bI l x=some v) (hd:Nat.blt d n=true) (hs:lP ops i s recs) (hnm:kC (gE ops recs i)=true)
  (hn:mi P E n ops Q B L recs (bZ ((d,v)::l) ds) (Y s)):mi P E n ops Q B (i::L) recs (bZ l ds) (Y s):=
 ⟨_,ho,.dJ (.inl rfl) rfl (.ev (v:=v) (by rw[<- aD (ds:=ds) hx];exact uy x) (mA hd)
  ⟨λr hr=>⟨λp hp=>(let ⟨e,h1,h2⟩:=hs r hr p hp;⟨e,bO h1,h2⟩),λnm q=>by rw[et hnm r hr] at q;cases q⟩,hn⟩) (λr _ k hk=>by cases hk)⟩
theorem sW {t:TypeId} {x y:Operand} {k off m:Nat} {e:M} {v:AV} {c:List AV} [ht:mr P t m] (ho:ops[i]?=some ⟨none,.store t x y,ty,pos,af,none⟩)
  (h:bI l x=some (.ptr k off)/\dx s k=some e/\e.wJ=true/\bI l y=some v/\v.fA=some c/\AV.jl c=true/\c.length=m/\Nat.ble (off+c.length) e.cells.length=true)
  (hnm:kC (gE ops recs i)=true) (hn:∀ e',e.put off c=e'->lP ops i ((k,e')::s) recs/\mi P E n ops Q B L recs (bZ l ds) (Y ((k,e')::s))):mi P E n ops Q B (i::L) recs (bZ l ds) (Y s):=by
 obtain ⟨hx,hk,hea,hy,hc,h1,hm,hl⟩:=h
 have hl':=Nat.le_of_ble_eq_true hl
 obtain ⟨hst,hn⟩:=hn _ rfl
 refine ⟨_,ho,.dJ (.inl rfl) rfl (.store rfl rfl (aD hx) (bO hk) (uJ hea) (by rw[aD hy];exact hc) h1 (by rw[hm];exact ht.h) hl' (uK hea) ?_) (λr hr k' _=>by rw[et hnm r hr];simp)⟩
 rw[put_eq hea hl']
 exact ⟨λr hr=>⟨λp hp=>(let ⟨e,h1,h2⟩:=hst r hr p hp;⟨e,bO h1,h2⟩),λnm q=>by rw[et hnm r hr] at q;cases q⟩,hn⟩
def qJ (nm:Nat):List Rec->Bool
 | []=>true
 | r::rs=>(match r.nm with|none=>true|some k=>!Nat.beq k nm)&&r.rd.all (λp=>!Nat.beq p.1 nm)&&qJ nm rs
theorem kT {nm:Nat}:∀ {recs:List Rec},qJ nm recs=true->∀ r,r∈recs->r.nm≠some nm/\∀ p,p∈r.rd->p.1≠nm
 | [],_,r,hr=>by cases hr
 | a::rs,h,r,hr=>by
  simp only[qJ,Bool.and_eq_true,List.all_eq_true] at h;rcases List.mem_cons.1 hr with q|q
  ·subst q;refine ⟨λq=>?_,λp hp q=>?_⟩
   ·have:=h.1.1;rw[q] at this;simp at this
   have:=h.1.2 p hp;rw[q] at this;simp at this
  exact kT h.2 r q
theorem HO {d:Nat} {op:Op} {v:AV} {e:M} {gd:Option (Nat×Bool)} (nm:Nat) (ho:ops[i]?=some ⟨some d,op,ty,pos,af,gd⟩) (hw:gX ops ⟨some d,op,ty,pos,af,gd⟩ (bZ l ds)) (h:BG P op (bZ l ds) nm e v)
  (hE:E.fix nm=none) (hm:k9 nm l=false/\jB nm ds=false/\nK nm s=false/\dx s nm=none) (hh:dJ ⟨some d,op,ty,pos,af,gd⟩=false/\Nat.blt d n=true/\kC (gE ops recs i)=true/\qJ nm recs=true) (hv:AV.ea.fv nm e.cells=false)
  (hn:mi P E n ops Q B L (⟨i,some d,[],some nm⟩::recs) (bZ ((d,v)::l) ds) (Y ((nm,e)::s))):mi P E n ops Q B (i::L) recs (bZ l ds) (Y s):=by
 have hs:Y s nm=none:=by
  have:=qG (l:=s) (i:=nm)
  simp only[Y];rw[this];exact hm.2.2.2
 exact ⟨_,ho,.nw hw hh.1 h (gr hm.1 hm.2.1) (jC hm.2.2.1) hs hE (mA hh.2.1) (λr hr k q=>by rw[et hh.2.2.1 r hr] at q;cases q)
  (λr hr=>(kT hh.2.2.2 r hr).1) (λr hr=>(kT hh.2.2.2 r hr).2) hv hn⟩
theorem uc {d:Nat} {t:TypeId} {z:List Value} [hz:kK P t z] {zs:List AV} {gd:Option (Nat×Bool)} (ho:ops[i]?=some ⟨some d,.alloc t,ty,pos,af,gd⟩) (hw:gX ops ⟨some d,.alloc t,ty,pos,af,gd⟩ (bZ l ds)) (nm:Nat) (hE:E.fix nm=none)
  (hm:z.map (λv=>AV.pv (.sc v))=zs/\k9 nm l=false/\jB nm ds=false/\nK nm s=false/\dx s nm=none) (hh:dJ ⟨some d,.alloc t,ty,pos,af,gd⟩=false/\Nat.blt d n=true/\qJ nm recs=true/\qJ nm recs=true)
  (hn:mi P E n ops Q B L (⟨i,some d,[],some nm⟩::recs) (bZ ((d,.ptr nm 0)::l) ds) (Y ((nm,.box zs)::s))):mi P E n ops Q B (i::L) recs (bZ l ds) (Y s):=by
 obtain ⟨h1,h2⟩:=hm
 subst h1
 have this:∀ (k:Nat) (z:List Value),AV.ea.fv k (z.map λv=>AV.pv (.sc v))=false:=λk z=>by
  induction z with
  | nil=>rfl
  | cons a z ih=>simp[AV.ea.fv,AV.ea,ih]
 have hs:Y s nm=none:=by
  have:=qG (l:=s) (i:=nm)
  simp only[Y];rw[this];exact h2.2.2.2
 refine ⟨_,ho,.nw hw hh.1 (AG nm hz.h) (gr h2.1 h2.2.1) (jC h2.2.2.1) hs hE (mA hh.2.1) (λr hr k q=>⟨?_,this k z⟩)
  (λr hr=>(kT hh.2.2.2 r hr).1) (λr hr=>(kT hh.2.2.2 r hr).2) (this nm z) hn⟩
 have hne:=(kT hh.2.2.2 r (List.mem_filter.1 hr).1).1
 have:nm≠k:=λe=>hne (by rw[q,e])
 simpa[AV.ea] using this
theorem HP {α:Type} {C:α->List PV} {Cs:List α->List PV} {sz:Nat} (xs:List α) (mg:∀ l,Cs l=l.flatMap C) (hC:∀ x,(C x).length=sz) {d:Nat} {t e:TypeId} {m:Nat} {parts:List (Nat×Operand)} {zs:List Value} {pl:List (Nat×Nat)} {pv:List (Nat×AV)}
  {gd:Option (Nat×Bool)} [ht:jR P t m e sz zs pl] (ho:ops[i]?=some ⟨some d,.buildSlice t m parts.toArray,ty,pos,af,gd⟩) (hw:gX ops ⟨some d,.buildSlice t m parts.toArray,ty,pos,af,gd⟩ (bZ l ds)) (nm:Nat) (hE:E.fix nm=none)
  (h:parts.mapM (λp=>(bI l p.2).map λv=>(p.1,v))=some pv/\lM pl (zs.map λv=>.pv (.sc v)) pv=some ((xs.flatMap C).map .pv)/\xs.length=m/\Nat.ble m 1000=true)
  (hm:k9 nm l=false/\jB nm ds=false/\nK nm s=false/\dx s nm=none) (hh:dJ ⟨some d,.buildSlice t m parts.toArray,ty,pos,af,gd⟩=false/\Nat.blt d n=true/\kC (gE ops recs i)=true/\qJ nm recs=true)
  (hn:mi P E n ops Q B L (⟨i,some d,[],some nm⟩::recs) (bZ ((d,.arr nm (List.length xs))::l) ds) (Y ((nm,.app e sz (Cs xs))::s))):mi P E n ops Q B (i::L) recs (bZ l ds) (Y s):=by
 rw[h.2.2.1] at hn
 refine HO nm ho hw (vn nm ht.h ?_ ?_ (Nat.le_trans (Nat.le_of_ble_eq_true h.2.2.2) (by simp[maxLen]))) hE hm hh (by simp only[M.cells];exact mP _ _) hn
 ·rw[tZ h.1,mg];exact h.2.1
 ·rw[mg,gW hC,h.2.2.1]
end
section
variable {P:Program} {E:Env} {n:Nat} {ops:Array Oper} {Q:dR} {rest:List Oper} {l:List (Nat×AV)} {ds:List (FuncId×List AV)} {s:List (Nat×M)}
 {ty:TypeId} {pos:String} {af:Array Edge}
theorem HQ {α:Type} {C:α->List PV} {Cs:List α->List PV} {d:Nat} {t e:TypeId} {m sz:Nat} {parts:List (Nat×Operand)} {zs:List Value} {pl:List (Nat×Nat)} {pv:List (Nat×AV)} [ht:jR P t m e sz zs pl] (nm:Nat)
  (xs:List α) (mg:∀ l,Cs l=l.flatMap C) (hC:∀ x,(C x).length=sz) (hE:E.fix nm=none)
  (h:parts.mapM (λp=>(bI l p.2).map λv=>(p.1,v))=some pv/\lM pl (zs.map λv=>.pv (.sc v)) pv=some ((xs.flatMap C).map .pv)/\xs.length=m/\Nat.ble m 1000=true)
  (hm:k9 nm l=false/\jB nm ds=false/\nK nm s=false) (hd:Nat.blt d n=true)
  (hn:SL P E n ops Q rest (bZ ((d,.arr nm (List.length xs))::l) ds) (Y ((nm,.app e sz (Cs xs))::s))):SL P E n ops Q (⟨some d,.buildSlice t m parts.toArray,ty,pos,af,none⟩::rest) (bZ l ds) (Y s):=by
 rw[h.2.2.1,mg] at hn
 exact DZ nm hE ⟨h.1,h.2.1,by rw[gW hC,h.2.2.1],h.2.2.2⟩ hm hd hn
theorem wT {fr:eu} {t e:TypeId} {n sz:Nat} {zs:List Value} {places:List (Nat×Nat)} {parts:List (Nat×Operand)} {out:List AV} {cells:List PV} (ht:yj P t n=some (e,sz,zs,places))
  (h:lM places (zs.map λv=>.pv (.sc v)) (parts.map λp=>(p.1,fr.val p.2))=some out) (hn:AV.Iw out=cells.map .pv):DI P (.buildSlice t n parts.toArray) fr (.pv (.sl n cells)):=by
 intro o ho g ev w hv
 obtain ⟨place,hp,hzl,hb⟩:=oz ht
 obtain ⟨cs',hf,hr⟩:=r8 (g:=g) (vs:=parts.map λp=>(p.1,ev p.2)) (cs:=zs.toArray) hp h (by simpa using gB.qC g zs) (by simp)
  (uC λp hp=>hv p.2 (by simp[Op.operands];exact ⟨_,hp⟩)) trivial (r9 h)
 have e1:(parts.toArray.map λ(x:Nat×Operand)=>(x.1,ev x.2)).toList=parts.map λp=>(p.1,ev p.2):=by simp
 have hrun:=hb (parts.toArray.map λ(x:Nat×Operand)=>(x.1,ev x.2)) cs' w (by rw[e1];exact hf)
 have hps:=ln.wx (g:=g) (ps:=cells) (by rw[<- hn];exact (AV.vZ out).G4 hr)
 have hlen:=hps.length
 refine ⟨.slice (some ⟨w.heap.size,0,none⟩) n n,cs',e,cells,?_,by simp at hlen;omega,?_,.pv (.sl w.heap.size cells 0 n n cells (by simp[Gh.di]) (by simp) (by simp) (Nat.le_refl _))⟩
 ·simp only[execOp,ho,Sem.run_bind,hrun,Result.andThen_ok,Sem.run_pure]
 ·rw[List.take_of_length_le (by simp at hlen;simp;omega)];exact hps
end
section
variable {P:Program} {E:Env} {n:Nat} {ops:Array Oper} {Q:dR} {B:List Rec->eu->cn->Prop} {i:Nat} {L:List Nat} {recs:List Rec} {l:List (Nat×AV)} {ds:List (FuncId×List AV)} {s:List (Nat×M)}
 {ty:TypeId} {pos:String} {af:Array Edge}
theorem uS {α:Type} {C:α->List PV} {Cs:List α->List PV} (xs:List α) (mg:∀ l,Cs l=l.flatMap C) {d:Nat} {t e:TypeId} {m sz:Nat} {parts:List (Nat×Operand)} {zs:List Value} {pl:List (Nat×Nat)} {pv:List (Nat×AV)} {out:List AV}
  {gd:Option (Nat×Bool)} [ht:jR P t m e sz zs pl] (ho:ops[i]?=some ⟨some d,.buildSlice t m parts.toArray,ty,pos,af,gd⟩) (hw:gX ops ⟨some d,.buildSlice t m parts.toArray,ty,pos,af,gd⟩ (bZ l ds))
  (h:parts.mapM (λp=>(bI l p.2).map λv=>(p.1,v))=some pv/\lM pl (zs.map λv=>.pv (.sc v)) pv=some out/\AV.Iw out=(xs.flatMap C).map .pv)
  (hc:dJ ⟨some d,.buildSlice t m parts.toArray,ty,pos,af,gd⟩=false/\Nat.blt d n=true)
  (hn:mi P E n ops Q B L (⟨i,some d,[],none⟩::recs) (bZ ((d,.pv (.sl m (Cs xs)))::l) ds) (Y s)):mi P E n ops Q B (i::L) recs (bZ l ds) (Y s):=by
 refine ⟨_,ho,.fz hw hc.1 (v:=.pv (.sl m (Cs xs))) ?_ (mA hc.2) (λ_ _ _ _=>rfl) hn⟩
 rw[mg]
 exact wT ht.h (by rw[tZ h.1];exact h.2.1) h.2.2
end
end Go.Abs
end
section
namespace Go.Abs
open D
theorem cx {P:Program} {f:FuncId} {args:List AV} {es:List M} {X:Type} {V:X->AV} {C:X->List M}:CT P f args es (D.stuck:D X) V C:=λ_ h hs=>absurd h.symm hs
theorem lR {α:Type} {H:rA->D α} {r rO:D α} {p:rA} (hc:oF r H=rO) (hp:r=.mf p):H p=rO:=by subst hp;exact hc
theorem qK {α:Type} {H:rA->D α} {r rO:D α} {x:α} (hc:oF r H=rO) (h:r=.ok x):rO=.ok x:=by subst h;exact hc.symm
def AV.wk:AV->AV
 | .ptr k o=>.ptr k o
 | _=>.any
theorem AV.IQ (v:AV):v.le v.wk:=by
 cases v<;>first|exact AV.le_refl _|exact AV.BL _
theorem En:∀ cs:List AV,Ax cs (cs.map AV.wk)
 | []=>.nil
 | c::cs=>.cons (AV.IQ c) (En cs)
section
variable {P:Program} {E:Env} {n:Nat} {ops:Array Oper} {Q:dR} {rest:List Oper} {l:List (Nat×AV)} {ds:List (FuncId×List AV)} {s:List (Nat×M)} {ty:TypeId} {pos:String} {af:Array Edge}
def IS:List Nat->List (Nat×M)->Option (List (Nat×M))
 | [],s=>some s
 | k::ks,s=>match IS ks s with
  | some s'=>match dx s' k with
   | some (.box cs)=>some ((k,.box (cs.map AV.wk))::s')
   | _=>none
  | none=>none
theorem IT:∀ {ks:List Nat} {s':List (Nat×M)},IS ks s=some s'->eH E n l ds s l s'
 | [],s',h=>by simp[IS] at h;subst h;exact Jr l s
 | k::ks,s',h=>by
  simp only[IS] at h;split at h
  ·rename_i s1 h1;split at h
   ·rename_i cs h2;cases h;exact (IT h1).trans (Cr h2 (En cs))
   cases h
  cases h
def uT (P:Program) (E:Env) (n:Nat) (fn:Func) (R:oV->cn->Prop):dR
 | .panic v,fr,σ=>ny P fn R (.panic v) fr σ\/∃ l fid cap c s s',fr=bZ l [(fid,cap)]/\σ=Y s/\(∀ g c',VR g v c'->c'=c)/\eH E n l [(fid,cap)] s l s'/\C7 P E fn R fid cap (some c) (bZ l [(fid,cap)]) (Y s')
 | e,fr,σ=>vt P E fn R e fr σ
theorem LQ.dg {fn:Func} {R:oV->cn->Prop} {e:Exit} {a:Act} {w:World} (h:LQ E n (uT P E n fn R) e a w):LQ E n (vt P E fn R) e a w:=by
 obtain ⟨g,ae,fr,σ,q,hx,hR,hF⟩:=h;cases hx with
 | normal=>exact ⟨g,.normal,fr,σ,q,.normal,hR,hF⟩
 | exit id=>exact ⟨g,.exit id,fr,σ,q,.exit id,hR,hF⟩
 | goto id=>exact ⟨g,.goto id,fr,σ,q,.goto id,hR,hF⟩
 | ret=>exact ⟨g,.ret,fr,σ,q,.ret,hR,hF⟩
 | @panic v c0 hv=>
  rcases q with q|⟨l,fid,cap,c,s,s',rfl,rfl,hc,hg,hq⟩
  ·exact ⟨g,.panic v,fr,σ,(show vt P E fn R (.panic v) fr σ from .inl q),.panic hv,hR,hF⟩
  ·obtain ⟨g',hR',hF'⟩:=hg g a w hR hF;have hcc:=hc _ _ hv;subst hcc;exact ⟨g',.panic (Sc c0),bZ l [(fid,cap)],Y s',(show vt P E fn R (.panic (Sc c0)) (bZ l [(fid,cap)]) (Y s') from .inr ⟨fid,cap,c0,rfl,λ_ _ h=>h.dy,hq⟩),.panic (.pv (.sc _)),hR',hF'⟩
theorem sX {f:FuncId} {fn:Func} {c:Code} {args:List AV} {es:List M} {X:Type} {res:D X} {V:X->AV} {C:X->List M} (hf:P.funcs[f]?=some fn) (hb:fn.body=some c) (hn:Nat.ble args.length fn.ntmps=true)
  (h:∀ r,res=r->r≠.stuck->∀ E:Env,(∀ k,kL es k=true->E.fix k=none)->
   SW P E fn.ntmps c (uT P E fn.ntmps fn (pZ V C (λx=>r=.ok x) (λv=>∃ p,r=.mf p/\v=p.av))) (bZ ((List.range args.length).zip args) []) (Y (ey 0 es))):CT P f args es res V C:=
 Ea hf hb hn λr hr hs E hE=>λg a w hR hF=>wp_mono (h r hr hs E hE g a w hR hF) λ_ _ _ q=>q.dg
theorem ud {fn:Func} {R:oV->cn->Prop} {ae:tj} (hae:ae=.ret\/ae=.normal) {fr:eu} {σ:cn} (h:ny P fn R ae fr σ):uT P E n fn R ae fr σ:=by
 rcases hae with rfl|rfl
 ·exact Ec (.inl rfl) h
 exact Ec (.inr rfl) h
theorem wc {fn:Func} {X:Type} {V:X->AV} {C:X->List M} {r:D X} {p:rA} {fr:eu} {σ:cn} (hd:fr.ds=[]) (h:r=.mf p) :
 uT P E n fn (pZ V C (λx=>r=.ok x) (λv=>∃ p,r=.mf p/\v=p.av)) (.panic p.av) fr σ:=.inl (zq hd h)
theorem lB {fn:Func} {R:oV->cn->Prop} {ae:tj} (hae:ae=.ret\/ae=.normal) {fid:FuncId} {cap capC:List AV} {es:List M} (ks:List Nat) (hen:Enters P fid) (hC:C6 P fid capC es none (D.ok ()) (λ_=>es))
  (hk:Cy E l s ks cap capC es) (hx:jE (below ks.length) es=true) {s':List (Nat×M)} (hs:lz ks (kj (nth ks) es)++s=s') (hret:ny P fn R .ret (bZ l []) (Y s')):uT P E n fn R ae (bZ l [(fid,cap)]) (Y s):=by
 have hl:es.length=ks.length:=by
  have:=(oB hk.gs).1
  rwa [ic] at this
 have:=Da (E:=E) hae ks hen hC hk (λ_=>⟨hl,hx⟩) hs hret
 rcases hae with rfl|rfl
 ·exact this
 ·exact this
theorem iM {fn:Func} {R:oV->cn->Prop} {T:TypeId} {v:Int} {fid:FuncId} {cap capC:List AV} {es:List M} (ks:List Nat) {s1:List (Nat×M)} {X:Type} {res:D X} {C:X->List M} (hen:Enters P fid)
  (hC:C6 P fid capC es (some (.iface T (.agg #[.int .i64 v]))) res C) (hns:res≠.stuck) (hw:IS ks s=some s1) (hk:Cy E l s1 ks cap capC es) (hx:∀ x,(C x).length=ks.length/\jE (below ks.length) (C x)=true)
  (hret:∀ x,res=.ok x->ny P fn R .ret (bZ l []) (Y (lz ks (kj (nth ks) (C x))++s1))):uT P E n fn R (.panic (rA.av ⟨T,[.sc (.int .i64 v)]⟩)) (bZ l [(fid,cap)]) (Y s):=
 .inr ⟨l,fid,cap,_,s,s1,rfl,rfl,λ_ _ h=>Eb h,IT hw,G6 hen hC hns hk hx hret⟩
def Eo (R:cn->Prop):dR
 | .normal,fr,σ|.ret,fr,σ=>fr.ds=[]/\∃ σ',(∀ k e,σ' k=some e->σ k=some e)/\R σ'
 | _,_,_=>False
theorem sY {ae:tj} (hae:ae=.ret\/ae=.normal) {X:Type} {r:D X} {C:X->List M} (x:X) (hg:r=.ok x) (hm:uL s 0 (C x)):Eo (λσ=>∃ x,r=.ok x/\σ=Y (ey 0 (C x))) ae (bZ l []) (Y s):=by
 have h:(bZ l []).ds=[]/\∃ σ',(∀ k e,σ' k=some e->Y s k=some e)/\∃ x,r=.ok x/\σ'=Y (ey 0 (C x)):=
  ⟨rfl,Y (ey 0 (C x)),AR (λj e hj=>by have:=uM hm j e hj;simpa using this),x,hg,rfl⟩
 rcases hae with rfl|rfl
 ·exact h
 exact h
theorem o9 {es:List M} {r:D Unit} (h:D.ok ()=r) {ae:tj} (hae:ae=.ret\/ae=.normal:=by first|exact .inr rfl|exact .inl rfl):Eo (λσ=>∃ x,r=.ok x/\σ=Y (ey 0 ((λ_:Unit=>es) x))) ae (bZ l []) (Y (ey 0 es)):=by
 have q:(bZ l []).ds=[]/\∃ σ',(∀ k e,σ' k=some e->Y (ey 0 es) k=some e)/\∃ x,r=.ok x/\σ'=Y (ey 0 ((λ_:Unit=>es) x)):=⟨rfl,_,λ_ _ h=>h,(),h.symm,rfl⟩;rcases hae with rfl|rfl
 ·exact q
 exact q
theorem mY {f:FuncId} {fn:Func} {y:Code} {id d1 d2:Nat} {ts ty1 ty2:_} {p1 p2:String} {a1 a2:Array Edge} {cap:List AV} {es:List M} {m:Option Value} {mv:AV} {X:Type} {res:D X} {C:X->List M}
  (hmv:∀ g,VR g mv (m.getD .nilIface)) (hf:P.funcs[f]?=some fn)
  (hb:fn.body=some (.seq (.region id #[⟨some d1,.call ⟨.builtin .recover,#[],ts⟩,ty1,p1,a1,none⟩,⟨some d2,.assign (.tmp d1),ty2,p2,a2,none⟩] false) y))
  (hres:fn.results = #[]) (hn:(Nat.ble cap.length fn.ntmps&&Nat.blt d1 fn.ntmps&&Nat.blt d2 fn.ntmps)=true)
  (h:∀ r,res=r->r≠.stuck->∀ E:Env,(∀ k,kL es k=true->E.fix k=none)->
   SW P E fn.ntmps y (Eo (λσ=>∃ x,r=.ok x/\σ=Y (ey 0 (C x)))) (bZ ((d2,mv)::(d1,mv)::(List.range cap.length).zip cap) []) (Y (ey 0 es))):C6 P f cap es m res C:=by
 intro r hr hs wS g w vs u hR hv hu
 simp only[Bool.and_eq_true] at hn
 have hn1:=Nat.le_of_ble_eq_true hn.1.1
 have hd1:d1<fn.ntmps:=by simpa[Nat.blt_eq] using hn.1.2
 have hd2:d2<fn.ntmps:=by simpa[Nat.blt_eq] using hn.2
 have hlen:=hv.length
 let E:=Env.of wS g (Y (ey 0 es)) w
 have hE:∀ k,kL es k=true->E.fix k=none:=λk hk=>by
  have h3:∀ (es:List M) (k:Nat),kL es k=true->∀ cs,es[k]?≠some (.box cs):=by
   intro es
   induction es with
   | nil=>intro k _ cs;simp
   | cons e es ih=>
    intro k hk cs
    cases k with
    | zero=>intro q;simp at q;subst q;simp[kL] at hk
    | succ k=>simpa using ih k (by cases e<;>simpa[kL] using hk) cs
  simp only[E,Env.of]
  split
  ·rename_i cs hcs
   obtain ⟨_,h2⟩:=fB hcs
   exact absurd (by simpa using h2) (h3 es k hk cs)
  ·rfl
 have hW:=h r hr hs E hE
 refine callsD_of_wpS hf hb λc₀ cs hcm=>?_
 let a0:Act:={ tmps:=vs.toArray++Array.replicate (fn.ntmps - vs.toArray.size) undef,defers:=[] }
 have hF0:FR fn.ntmps g (bZ ((List.range cap.length).zip cap) []) a0:=by
  rw[<- wK]
  refine ⟨by simp[a0];omega,λi=>?_,.nil⟩
  rw[Array.getD_eq_getD_getElem?]
  rcases Nat.lt_or_ge i cap.length with q|q
  ·obtain ⟨c,h1,h2⟩:=hv.get i cap[i] (by simp)
   have:a0.tmps[i]?=some c:=by
    simp only[a0];rw[Array.getElem?_append_left (by simp;omega)];simpa using h1
   rw[this]
   simp[q];exact h2
  ·have e:cap[i]?=none:=List.getElem?_eq_none q
   simp only[e,Option.getD_none];exact .any _
 have hF1:=hF0.put (d:=some d1) (v:=mv) (c:=m.getD .nilIface) (λx hx=>by cases hx;exact hd1) (hmv g)
 have hF2:=hF1.put (d:=some d2) (v:=mv) (c:=m.getD .nilIface) (λx hx=>by cases hx;exact hd2) (hmv g)
 rw[AK,AK] at hF2
 have hwp:=hW g _ w hR hF2
 have fin:∀ u',(settle u'=.returning)->y.wpS P (bodyPostS P fn c₀ cs λe u' w'=>(∃ v,e=.returned v)/\settle u'=.returning/\∃ g' σ',(∃ x,r=.ok x/\σ'=Y (ey 0 (C x)))/\Rel E g' σ' w')
   ((a0.put (some d1) (m.getD .nilIface)).put (some d2) (m.getD .nilIface)) ({ c₀ with mode:=u' }::cs) w:=λu' hu'=>by
  refine wpS_of_wp (wp_mono hwp λe a w' hq=>?_)
  obtain ⟨g',ae,fr',σ',q,hx,hR',hF'⟩:=hq
  have res:(results fn a.tmps).run P w'=.ok (.tuple #[]) w':=by
   rw[tC,hres];simp
  cases hx with
  | normal=>
   obtain ⟨hd,σ2,hs2,hx2⟩:=q
   have:=hF'.ds;rw[hd] at this
   exact ⟨this.nP,u',rfl,_,res,⟨_,rfl⟩,hu',g',σ2,hx2,hR'.sub hs2⟩
  | ret=>
   obtain ⟨hd,σ2,hs2,hx2⟩:=q
   have:=hF'.ds;rw[hd] at this
   exact ⟨this.nP,u',rfl,_,res,⟨_,rfl⟩,hu',g',σ2,hx2,hR'.sub hs2⟩
  | exit id=>exact q.elim
  | goto l=>exact q.elim
  | panic hv=>exact q.elim
 refine wpS_seq (wpS_region ?_)
 have hr2:List.range #[(⟨some d1,.call ⟨.builtin .recover,#[],ts⟩,ty1,p1,a1,none⟩:Oper),⟨some d2,.assign (.tmp d1),ty2,p2,a2,none⟩].size=[0,1]:=rfl
 rw[hr2]
 have hrec:∀ a:Act,(execOp a.eval (⟨some d1,.call ⟨.builtin .recover,#[],ts⟩,ty1,p1,a1,none⟩:Oper)).run P w=.ok .recover w:=λa=>by
  simp[execOp,resolve,invoke,builtin]
 have hev:∀ (a:Act) (c:Value),(a.put (some d1) c).tmps.getD d1 undef=c\/¬ d1<a.tmps.size:=λa c=>by
  by_cases q:d1<a.tmps.size
  ·left;simp[Act.put,q]
  ·right;exact q
 have hsz:d1<a0.tmps.size:=by rw[hF0.size];exact hd1
 have hasg:∀ c:Value,(execOp (a0.put (some d1) c).eval (⟨some d2,.assign (.tmp d1),ty2,p2,a2,none⟩:Oper)).run P w=.ok (.value c) w:=λc=>by
  have:=(hev a0 c).resolve_right (λq=>q hsz)
  simp[execOp,Act.eval,this]
 cases m with
 | none=>
  have hu':c₀.mode=.returning:=hcm.trans hu
  have hrd:recoverD (c₀::cs)=none:=by simp[recoverD,hu']
  simp only[wpOpsS,List.getElem?_toArray,List.getElem?_cons_zero,List.getElem?_cons_succ,Region.wanted,if_true,hrec,hrd]
  rw[show (Value.nilIface)=(none:Option Value).getD .nilIface from rfl,hasg]
  simp only[Oper.upon,Exit.thenS]
  exact fin c₀.mode (by rw[hu'];rfl)
 | some c=>
  have hu':c₀.mode=.panicking [{ v:=c,recovered:=false }]:=hcm.trans hu
  have hrd:recoverD (c₀::cs)=some (c,{ c₀ with mode:=.panicking [{ v:=c,recovered:=true }] }::cs):=by simp[recoverD,hu']
  simp only[wpOpsS,List.getElem?_toArray,List.getElem?_cons_zero,List.getElem?_cons_succ,Region.wanted,if_true,hrec,hrd]
  rw[hasg]
  simp only[Oper.upon,Exit.thenS]
  exact fin _ rfl
def NP {α:Type} (x:D α):Prop:=∀ p,x≠.mf p
theorem NP.ok {α:Type} (a:α):NP (D.ok a):=λ_ h=>by cases h
theorem NP.stuck {α:Type}:NP (D.stuck:D α):=λ_ h=>by cases h
theorem NP.br {α:Type} {b:Bool} {x y:D α} (hx:NP x) (hy:NP y):NP (D.br b x y):=by cases b<;>assumption
theorem NP.gd {α:Type} {p:Prop} [Decidable p] {x:D α} (hx:NP x):NP (D.gd p x):=by unfold D.gd;split;exact hx;exact NP.stuck
theorem NP.el {α β:Type} {l:List β} {i:Int} {k:β->D α} (hk:∀ x,NP (k x)):NP (D.el l i k):=by
 unfold D.el;split
 ·split
  ·exact hk _
  exact NP.stuck
 exact NP.stuck
theorem NP.some? {α β:Type} {o:Option β} {k:β->D α} (hk:∀ x,NP (k x)):NP (D.some? o k):=by cases o;exact NP.stuck;exact hk _
theorem NP.bind {α β:Type} {x:D α} {k:α->D β} (hx:NP x) (hk:∀ a,NP (k a)):NP (D.bind x k):=by
 cases x with
 | stuck=>exact NP.stuck
 | mf p=>exact absurd rfl (hx p)
 | ok a=>exact hk a
theorem NP.jn {α X:Type} {j:X->D α} {p:(X->D α)->D α} (h:∀ j,(∀ x,NP (j x))->NP (p j)) (hj:∀ x,NP (j x)):NP (D.jn j p):=h j hj
theorem NP.iter {α X:Type} {body:(X->D α)->X->D α} (h:∀ nx,(∀ x,NP (nx x))->∀ x,NP (body nx x)):∀ (n:Nat) (x:X),NP (D.iter body n x)
 | 0,_=>NP.stuck
 | n+1,x=>h _ (λy=>NP.iter h n y) x
end
section
variable {P:Program} {E:Env} {n:Nat} {ops:Array Oper} {Q:dR} {B:List Rec->eu->cn->Prop} {i:Nat} {L:List Nat} {recs:List Rec} {rest:List Oper} {l:List (Nat×AV)} {ds:List (FuncId×List AV)} {s:List (Nat×M)}
 {ty:TypeId} {pos:String} {af:Array Edge}
theorem Ep {d:Nat} {X R:Type} {res:D X} {kk:X->D R} {r:D R} {V V':X->AV} {C:X->List M} {C':X->List (Nat×M)} {f:Operand} {args:List Operand} {ts:Array TypeId} {fid:FuncId}
  {argsC first cap vs:List AV} {es:List M} (hr:r≠.stuck) (h:D.bind res kk=r) (ks:List Nat) (hen:Enters P fid)
  (hC:CT P fid argsC es res V C) (hk:lA E ds l s ks f args fid argsC es first cap vs) (hd:Nat.blt d n=true)
  (hx:∀ x,(C x).length=ks.length/\jE (below ks.length) (C x)=true/\(V x).only (below ks.length)=true)
  (hV:∀ x,(V x).gD (nth ks)=V' x/\lz ks (kj (nth ks) (C x))=C' x) (hnp:NP res)
  (hret:∀ x,kk x=r->SL P E n ops Q rest (bZ ((d,V' x)::l) ds) (Y (C' x++s))) :
  SL P E n ops Q (⟨some d,.call ⟨.value f,args.toArray,ts⟩,ty,pos,af,none⟩::rest) (bZ l ds) (Y s):=by
 obtain ⟨hns,hok,hp⟩:=kM hr h
 refine iY rfl (C4 ks hen rfl (hC res rfl hns) hk (mA hd) (λx _=>hx x) (λx hg=>?_) (λv hv=>?_))
 ·have:=hret x (hok x hg)
  rw[<- (hV x).1,<- (hV x).2] at this;exact this
 ·obtain ⟨p,hp1,_⟩:=hv
  exact absurd hp1 (hnp p)
theorem HR {d:Nat} {X R:Type} {res:D X} {kk:X->D R} {r:D R} {V V':X->AV} {C:X->List M} {C':X->List (Nat×M)} {f:Operand} {args:List Operand} {ts:Array TypeId} {fid:FuncId}
  {argsC first cap vs:List AV} {es:List M} {gd:Option (Nat×Bool)} (ho:ops[i]?=some ⟨some d,.call ⟨.value f,args.toArray,ts⟩,ty,pos,af,gd⟩)
  (hw:gX ops ⟨some d,.call ⟨.value f,args.toArray,ts⟩,ty,pos,af,gd⟩ (bZ l ds)) (hr:r≠.stuck) (h:D.bind res kk=r) (ks:List Nat) (hen:Enters P fid)
  (hC:CT P fid argsC es res V C) (hk:lA E ds l s ks f args fid argsC es first cap vs) (hd:Nat.blt d n=true) (hnm:uN ks recs=true)
  (hx:∀ x,(C x).length=ks.length/\jE (below ks.length) (C x)=true/\(V x).only (below ks.length)=true)
  (hV:∀ x,(V x).gD (nth ks)=V' x/\lz ks (kj (nth ks) (C x))=C' x) (hnp:NP res)
  (hret:∀ x,kk x=r->lP ops i (C' x++s) recs/\mi P E n ops Q B L recs (bZ ((d,V' x)::l) ds) (Y (C' x++s))):mi P E n ops Q B (i::L) recs (bZ l ds) (Y s):=by
 obtain ⟨hns,hok,hp⟩:=kM hr h
 refine Cn ho hw ks hen (hC res rfl hns) hk hd hnm (λx _=>hx x) (λv hv=>?_) (λx hg v' s' hv hs=>?_)
 ·obtain ⟨p,hp1,_⟩:=hv
  exact absurd hp1 (hnp p)
 ·have:=hret x (hok x hg)
  rw[<- (hV x).1,<- (hV x).2] at this
  subst hv hs;exact this
theorem HS {d:Nat} {X R:Type} {res:D X} {kk:X->D R} {r:D R} {V V':X->AV} {C:X->List M} {C':X->List (Nat×M)} {f:Operand} {args:List Operand} {ts:Array TypeId} {fid:FuncId}
  {argsC first cap vs:List AV} {es:List M} {gd:Option (Nat×Bool)} (ho:ops[i]?=some ⟨some d,.call ⟨.value f,args.toArray,ts⟩,ty,pos,af,gd⟩)
  (hw:gX ops ⟨some d,.call ⟨.value f,args.toArray,ts⟩,ty,pos,af,gd⟩ (bZ l ds)) (hfl:gE ops recs i=[]) (hr:r≠.stuck) (h:D.bind res kk=r) (ks:List Nat) (hen:Enters P fid)
  (hC:CT P fid argsC es res V C) (hk:lA E ds l s ks f args fid argsC es first cap vs) (hbb:gQ es=true) (hd:Nat.blt d n=true)
  (hx:∀ x,(C x).length=ks.length/\jE (below ks.length) (C x)=true/\(V x).only (below ks.length)=true)
  (hV:∀ x,(V x).gD (nth ks)=V' x/\lz ks (kj (nth ks) (C x))=C' x)
  {sp:List (Nat×M)} (hsp:lz ks (kj (nth ks) (es.map M.lost))++s=sp) (hpan:∀ p,r=.mf p->Q (.panic p.av) (bZ l ds) (Y sp))
  (hret:∀ x,kk x=r->mi P E n ops Q B L recs (bZ ((d,V' x)::l) ds) (Y (C' x++s))):mi P E n ops Q B (i::L) recs (bZ l ds) (Y s):=by
 obtain ⟨hns,hok,hp⟩:=kM hr h
 subst hsp
 obtain ⟨hl,hat⟩:=oB hk.gs
 rw[ic] at hl
 have hC':=(hC res rfl hns).lost hbb
 refine ⟨_,ho,.dJ hw rfl (.call (nth ks) (List.range ks.length) hen rfl (aD hk.f) (by rw[ly hk.a];exact hk.e) hC' (λj hj=>by have:=nT hj;simp;omega) (λj e hj=>?_)
   (λj hj=>by
    have hj':j<es.length:=by simp at hj;omega
    have:=mU (i:=0) (List.getElem?_eq_getElem hj')
    simp at this;rw[this];rfl)
   (λj j' hj hj' he=>nR hk.nd (by have:=nT hj;omega) (by have:=nT hj';omega) he) (mA hd) (λv σc hr=>?_) (λv σc hr=>?_)) (λr hr=>by rw[hfl] at hr;cases hr)⟩
 ·obtain ⟨_,h2⟩:=fB hj
  exact hat j _ (by rw[mJ,show j=j - 0 by omega,h2];rfl)
 ·rcases hr with ⟨x,hg,he,rfl⟩|⟨_,_,he,_⟩
  ·cases he
   obtain ⟨h1,h2,h3⟩:=hx x
   refine ⟨qd ⟨rfl,rfl⟩ hl hk.nd hk.bx hk.fx h1 h2 h3,?_⟩
   rw[oE hk.nd h1,(hV x).1,(hV x).2]
   exact ⟨λr hr=>(by rw[hfl] at hr;cases hr),hret x (hok x hg)⟩
  ·cases he
 ·rcases hr with ⟨_,_,he,_⟩|⟨v',⟨p,hp1,hp2⟩,he,rfl⟩
  ·cases he
  ·cases he
   subst hp2
   refine ⟨qd ⟨rfl,rfl⟩ hl hk.nd hk.bx hk.fx (by simp[hl]) (uP _ hbb) (p.only _),λfr' σ' _ _ hq=>?_⟩
   obtain ⟨rfl,rfl⟩:=hq hfl
   rw[oE hk.nd (by simp[hl]),pX (p.only _)]
   exact hpan p (hp p hp1)
theorem CA (f:Int->AV):∀ {xs:List Int} {i:Nat} {v:Int},(xs.map f).take i++[f v]++(xs.map f).drop (i+1)=(xs.set i v).map f\/xs.length<=i:=by
 intro xs i v;rcases Nat.lt_or_ge i xs.length with q|q
 ·left;rw[List.set_eq_take_append_cons_drop,if_pos q];simp
 exact .inr q
theorem HT (f:Int->AV):∀ {xs:List Int},xs.length=4->xs.map f=[f (jb xs 0),f (jb xs 1),f (jb xs 2),f (jb xs 3)]
 | [_,_,_,_],_=>rfl
theorem FN (f:Int->AV) {t:TypeId} {x y:Operand} {k:Nat} {ii:Int} {xs:List Int} {cs cs':List AV} {v:Int} [ht:mr P t 1] (hx:bI l x=some (.ptr k (0+ii.toNat*1))) (hk:dx s k=some (.box cs)) (hc:cs=xs.map f)
  (hy:bI l y=some (f v)) (h0:0<=ii) (h1:ii<xs.length) (ho:∀ v,(f v).fA=some [f v]/\AV.jl [f v]=true) (hn':(so xs ii v).map f=cs')
  (hn:SL P E n ops Q rest (bZ l ds) (Y ((k,.box cs')::s))):SL P E n ops Q (⟨none,.store t x y,ty,pos,af,none⟩::rest) (bZ l ds) (Y s):=by
 have hlt:ii.toNat<xs.length:=by omega
 refine iY rfl (qD rfl rfl (aD hx) (bO hk) rfl (by rw[aD hy];exact (ho v).1) (ho v).2 ht.h (by simp only[M.cells,List.length_singleton];rw[hc,List.length_map];omega) (λq=>by cases q) ?_)
 have e1:(M.box cs).Cf (0+ii.toNat*1) [f v]=.box cs':=by
  simp only[M.Cf,List.length_singleton]
  rw[hc,<- hn',show 0+ii.toNat*1=ii.toNat by omega]
  rcases CA f (xs:=xs) (i:=ii.toNat) (v:=v) with q|q
  ·rw[q];rfl
  ·omega
 rw[e1];exact hn
end
end Go.Abs
end
section
namespace Go.Abs
open D
def Jj:List AV->List AV->Prop
 | [],[]=>True
 | a::as,b::bs=>(a=b\/b=.any)/\Jj as bs
 | _,_=>False
theorem CB:∀ {a b:List AV},Jj a b->Ax a b
 | [],[],_=>.nil
 | a::as,b::bs,h=>.cons (by rcases h.1 with q|q<;>subst q;exact AV.le_refl _;exact AV.BL _) (CB h.2)
 | [],_::_,h=>h.elim
 | _::_,[],h=>h.elim
def HU (s':List (Nat×M)):List (Nat×M)->Prop
 | []=>True
 | p::ps=>(∃ e,dx s' p.1=some e/\e.le p.2)/\HU s' ps
theorem yx {s':List (Nat×M)}:∀ {l:List (Nat×M)},HU s' l->∀ p,p∈l->∃ e,dx s' p.1=some e/\e.le p.2
 | _::_,h,p,hp=>by
  rcases List.mem_cons.1 hp with q|q
  ·subst q;exact h.1
  exact yx h.2 p q
def CC (ops:Array Oper) (i:Nat) (s':List (Nat×M)):List Rec->Prop
 | []=>True
 | r::rs=>(match r.rd with
  | []=>True
  | p::ps=>match mQ ops ops.size i r.i with
   | true=>True
   | false=>HU s' (p::ps))/\CC ops i s' rs
theorem cF {ops:Array Oper} {i:Nat} {s':List (Nat×M)} {recs:List Rec} (h:CC ops i s' recs):lP ops i s' recs:=by
 induction recs with
 | nil=>intro r hr;simp[gE] at hr
 | cons a rs ih=>
  intro r hr p hp
  simp only[gE,List.mem_filter,Bool.not_eq_true'] at hr
  rcases List.mem_cons.1 hr.1 with q|q
  ·subst q;have h1:=h.1;cases hrd:r.rd with
   | nil=>rw[hrd] at hp;cases hp
   | cons x xs=>
    rw[hrd] at h1 hp
    simp only[hr.2] at h1
    exact yx h1 p hp
  ·exact ih h.2 r (by simp[gE,q,hr.2]) p hp
theorem M.fc {cs cs':List AV} (h:Jj cs cs'):M.le (.box cs) (.box cs'):=λ_ _ _ he=>Cq (CB h) he
section
variable {P:Program} {l:List (Nat×AV)} {ds:List (FuncId×List AV)} {s:List (Nat×M)}
theorem fh (cs':List AV) {t:TypeId} {x:Operand} {k off:Nat} {cs:List AV} {v:AV} [ha:iI P t false] (hx:bI l x=some (.ptr k off)) (hk:dx s k=some (.box cs)) (hw:Jj cs cs') (hv:cs'[off]?=some v) :
  iW P (.load t x) l ds s v [(k,.box cs')]:=
 ⟨r6 ha.h (aD hx) hv,λp hp=>by simp at hp;subst hp;exact ⟨_,bO hk,M.fc hw⟩⟩
theorem Er {α β:Type} (f:α->β):∀ l:List α,(l.flatMap λx=>[f x])=l.map f
 | []=>rfl
 | x::l=>by simp[List.flatMap_cons,Er f l]
theorem Df {α β:Type} {f:α->β} (l:List α):(l.flatMap λx=>[f x]).length=l.length:=by rw[Er,List.length_map]
theorem HV {t:TypeId} {x:Operand} {k off:Nat} {cs:List AV} [ha:iI P t false] (hx:bI l x=some (.ptr k off)) (hk:dx s k=some (.box cs)) (hv:cs[off]?=some .any) :
  iW P (.load t x) l ds s .oc [(k,.box cs)]:=.on hk (by
 intro o ho g ev w hG hv' hr
 have q:=hv' x (by simp[Op.operands]);rw[aD hx] at q
 have he:=hr (k,.box cs) (by simp)
 generalize hq:ev x=c at q
 cases q with
 | ptr _ hb=>
  cases he with
  | box h hw hc h1=>
   rw[h] at hb;cases hb
   obtain ⟨v,hv1,_⟩:=hc.get off _ hv
   refine ⟨v,?_,.oc (h1 v (List.mem_of_getElem? hv1))⟩
   simp only[execOp,ho,hq,Instr.loadAt,Instr.sureAddr,Sem.run_bind,Sem.run_pure,Result.andThen_ok,mN ha.h hw hv1])
theorem Dg {a b e:TypeId} (ha:P.underlying a=some (.slice e)) (he:P.underlying e=some (.int .u8)) (hb:P.underlying b=some .string) {g:Gh} {w:World} (hG:B7 g w) {xs:List Int} {n:Nat} (hn:n=xs.length) {c:Value}
  (h:VR g (.pv (.sl n (xs.flatMap λx=>[PV.sc (.int .u8 x)]))) c):(convert a b c).run P w=.ok (S (gR xs)) w:=by
 subst hn
 cases h with
 | pv h=>
  generalize hcs:(xs.flatMap λx=>[PV.sc (.int .u8 x)])=cells at h
  generalize hl:xs.length=n at h
  cases h with
  | nil a' cap=>
   have:xs=[]:=List.length_eq_zero_iff.1 hl
   subst this
   rw[run_convert_bytes_string w a b e _ _ _ ha he hb]
   cases a' with
   | none=>simp[Conv.bytesToString,S,gR,ByteArray.empty,ByteArray.emptyWithCapacity];rfl
   | some a0=>
    rw[run_bytesToString w a0 0 cap [] (by simp[loadCells,loadCellsFrom,Sem.run_pure])]
    simp[S,gR,ByteArray.empty,ByteArray.emptyWithCapacity];rfl
  | sl blk ys off n cap cells h hl' hc hnc=>
   have hlen:cells.length=xs.length:=by rw[<- hcs];exact Df xs
   obtain ⟨cs,el,fz,hw,h1,h2⟩:=Ca hG h hl' hc
   have:=run_convert_bytes_arg (P:=P) w a e ha he blk off xs.length cap xs rfl (λi hi=>by
    have hci:cells[i]?=some (.sc (.int .u8 (xs.getD i 0))):=by
     rw[<- hcs]
     rw[Er,List.getElem?_map,List.getElem?_eq_getElem hi]
     simp[List.getD,List.getElem?_eq_getElem hi]
    obtain ⟨v,hv1,hv2⟩:=h2.get i _ hci
    cases hv2
    rw[List.getElem?_take] at hv1
    split at hv1
    ·simp at hv1
     simp[World.cell?,hw]
     exact hv1
    ·cases hv1) b hb
   rw[<- hl,this]
   rfl
theorem we {a b e:TypeId} {x:Operand} {n:Nat} {xs:List Int} [ha:jD P a (.slice e)] [he:jD P e (.int .u8)] [hb:jD P b .string] (hx:bI l x=some (.pv (.sl n (xs.flatMap λx=>[PV.sc (.int .u8 x)])))) (hn:n=xs.length) :
  iW P (.convert a b x) l ds s (F (gR xs)) []:=.of (by
 intro o ho g ev w hG hv _
 have q1:=hv x (by simp[Op.operands]);rw[aD hx] at q1
 exact ⟨S (gR xs),by simp only[execOp,ho,Sem.run_bind,Dg ha.h he.h hb.h hG hn q1,Result.andThen_ok,Sem.run_pure],.pv (.sc _)⟩)
end
section
variable {P:Program} {E:Env} {n:Nat} {c:Code} {Q:dR} {fr:eu} {σ:cn}
def Js (Q:dR):dR
 | .goto _,_,_=>False
 | e,fr,σ=>Q e fr σ
theorem A5 (h:SW P E n c (Js Q) fr σ):SW P E n (.scope c) Q fr σ:=λg a w hR hF=>by
 refine wp_scope_straight (wp_mono (h g a w hR hF) λe a w hq=>?_);obtain ⟨g',ae,fr',σ',q,hx,hR',hF'⟩:=hq;cases hx with
 | goto l=>exact q.elim
 | normal=>exact ⟨g',_,fr',σ',q,.normal,hR',hF'⟩
 | exit id=>exact ⟨g',_,fr',σ',q,.exit id,hR',hF'⟩
 | ret=>exact ⟨g',_,fr',σ',q,.ret,hR',hF'⟩
 | panic hv=>exact ⟨g',_,fr',σ',q,.panic hv,hR',hF'⟩
end
theorem CD {q:Nat->Bool} {v:AV} {T:TypeId} {b:Bool} (h:v.only q=true):(AV.fZ [v,Oe T b]).only q=true:=by cases b<;>simp[AV.only,AV.only.ki,h,Oe]
theorem Es {f:Nat->Nat} {v:AV} {T:TypeId} {b:Bool}:(AV.fZ [v,Oe T b]).gD f=.fZ [v.gD f,Oe T b]:=by cases b<;>rfl
theorem sZ {α:Type} (X:List α) (z:α):((X.length:Int))<((X++[z]).length:Int):=by simp;omega
theorem kl {α:Type} (X:List α) (z:α):(X++[z])[((X.length:Int)).toNat]?=some z:=by simp
theorem Et {α:Type} (X:List α) (z a:α):(X++[z]).set ((X.length:Int)).toNat a=X++[a]:=by simp
section
variable {P:Program} {E:Env} {n:Nat} {ops:Array Oper} {Q:dR} {B:List Rec->eu->cn->Prop} {i:Nat} {L:List Nat} {recs:List Rec} {rest:List Oper} {l:List (Nat×AV)} {ds:List (FuncId×List AV)} {s:List (Nat×M)}
 {ty:TypeId} {pos:String} {af:Array Edge}
theorem CE (f:Int->AV) {t:TypeId} {x y:Operand} {k:Nat} {ii:Int} {xs:List Int} {cs cs':List AV} {v:Int} [ht:mr P t 1] (hop:ops[i]?=some ⟨none,.store t x y,ty,pos,af,none⟩)
  (hx:bI l x=some (.ptr k (0+ii.toNat*1))) (hk:dx s k=some (.box cs)) (hc:cs=xs.map f)
  (hy:bI l y=some (f v)) (h0:0<=ii) (h1:ii<xs.length) (ho:∀ v,(f v).fA=some [f v]/\AV.jl [f v]=true) (hn':(so xs ii v).map f=cs') (hnm:kC recs=true)
  (hn:lP ops i ((k,.box cs')::s) recs/\mi P E n ops Q B L recs (bZ l ds) (Y ((k,.box cs')::s))):mi P E n ops Q B (i::L) recs (bZ l ds) (Y s):=by
 have hlt:ii.toNat<xs.length:=by omega
 obtain ⟨hst,hn⟩:=hn
 refine ⟨_,hop,.dJ (.inl rfl) rfl (.store rfl rfl (aD hx) (bO hk) rfl (by rw[aD hy];exact (ho v).1) (ho v).2 ht.h (by simp only[M.cells,List.length_singleton];rw[hc,List.length_map];omega) (λq=>by cases q) ?_) (λr hr k' _=>by rw[et hnm r (List.mem_filter.1 hr).1];simp)⟩
 have e1:(M.box cs).Cf (0+ii.toNat*1) [f v]=.box cs':=by
  simp only[M.Cf,List.length_singleton]
  rw[hc,<- hn',show 0+ii.toNat*1=ii.toNat by omega]
  rcases CA f (xs:=xs) (i:=ii.toNat) (v:=v) with q|q
  ·rw[q];rfl
  ·omega
 rw[e1]
 exact ⟨λr hr=>⟨λp hp=>(let ⟨e,h1,h2⟩:=hst r hr p hp;⟨e,bO h1,h2⟩),λnm q=>by rw[et hnm r (List.mem_filter.1 hr).1] at q;cases q⟩,hn⟩
theorem nA {α:Type} {C:α->List PV} {Cs:List α->List PV} {t:TypeId} {x y:Operand} {k off m sz:Nat} {el:TypeId} (xs:List α) {a a':α} {v:AV} {vs:List PV}
  (ho:ops[i]?=some ⟨none,.store t x y,ty,pos,af,none⟩) (h:xF P C Cs l s t x y k off m sz el (xs.length:Int) (xs++[a]) a a' v vs) (hnm:kC recs=true)
  (hn:lP ops i ((k,.arr el sz (Cs (xs++[a'])))::nS k s) recs/\mi P E n ops Q B L recs (bZ l ds) (Y ((k,.arr el sz (Cs (xs++[a'])))::nS k s))):mi P E n ops Q B (i::L) recs (bZ l ds) (Y s):=
 HN ho h hnm (by rw[Et];exact hn)
end
section
variable {E:Env} {n:Nat} {l:List (Nat×AV)} {ds:List (FuncId×List AV)} {s:List (Nat×M)}
theorem Eu (d:Nat) {k m m':Nat} (hd:jv l d=some (.arr k m)) (hm:m=m'):eH E n l ds s ((d,.arr k m')::l) s:=λg a w hR hF=>by
 subst hm;refine ⟨g,hR,hF.size,λi=>?_,hF.ds⟩;by_cases q:i=d
 ·subst q;have:=hF.ib i;simp only[bZ,eL hd] at this;simpa[bZ,kz] using this
 have:=hF.ib i;simpa[bZ,kz,q] using this
theorem nB (j off:Nat) {cs cs':List AV} {k m m':Nat} (hj:dx s j=some (.box cs)) (hc:cs[off]?=some (.arr k m)) (hm:m=m') (hcs:cs.set off (.arr k m')=cs'):eH E n l ds s l ((j,.box cs')::s):=by
 subst hm;have:cs.set off (.arr k m)=cs:=by
  obtain ⟨h1,h2⟩:=List.getElem?_eq_some_iff.1 hc;rw[<- h2];exact List.set_getElem_self h1
 rw[this] at hcs;subst hcs;exact Cr hj (Ax.refl _)
end
section
variable {P:Program} {E:Env} {n:Nat} {ops:Array Oper} {Q:dR} {recs:List Rec} {l:List (Nat×AV)} {ds:List (FuncId×List AV)} {s:List (Nat×M)}
theorem s3 {x y:Nat} (h1:DW P E n ops Q [x,y] recs (bZ l ds) (Y s)) (h2:DW P E n ops Q [y,x] recs (bZ l ds) (Y s)):DX P E n ops Q x y [] recs (bZ l ds) (Y s):=⟨h1,h2⟩
end
section
variable {P:Program} {l:List (Nat×AV)} {s:List (Nat×M)}
theorem ga {fn:Func} {X:Type} {V:X->AV} {C:X->List M} {vs:List AV} {ae:tj} {r:D X} (hae:ae=.ret\/ae=.normal) (x:X) (hr:C2 P (bZ l []) (Y s) fn.results.toList vs)
 (hg:r=.ok x) (hle:(nv vs).le (V x)) (hm:uL s 0 (C x)):ny P fn (pZ V C (λx=>r=.ok x) (λv=>∃ p,r=.mf p/\v=p.av)) ae (bZ l []) (Y s):=mV hae x hr hg hle hm
end
theorem lS {K:eu->cn->Prop} {Q:dR} {v:AV} {fr:eu} {σ:cn} (h:Q (.panic v) fr σ):vo K Q (.panic v) fr σ:=h
theorem kO {id:Nat} {Q:dR} {v:AV} {fr:eu} {σ:cn} (h:Q (.panic v) fr σ):BH id Q (.panic v) fr σ:=h
end Go.Abs
end
section
namespace Go.Abs
open D Go.RowKit
section
variable {E:Env} {g:Gh} {σ:cn} {w w':World}
theorem B7.Ew (h:B7 g w) {b:Nat} (hb:w.heap.size<=b):g.G b=none:=by
 cases q:g.G b with
 | none=>rfl
 | some ys=>have:=h.lt q;omega
theorem jQ.G9 {b:Nat} {ys:List PV} (h:g.G b=none):jQ (λ_=>False) g (g.di b ys):=by
 refine ⟨λ_ _=>rfl,λ_ _=>rfl,λc zs hc=>?_⟩;have:c≠b:=λq=>by subst q;rw[h] at hc;cases hc
 exact ⟨[],by simp[Gh.di,this,hc]⟩
theorem Rel.below (h:Rel E g σ w) (hb:Below w.heap.size w w'):Rel E g σ w':=by
 have hs:=hb.size;refine { jx:=?_,inj:=h.inj,gl:=?_,apart:=h.apart,size:=Nat.le_trans h.size hs,oj:=?_,own:=h.own,fix:=h.fix,iH:=h.iH,g0:=h.g0,gn:=h.gn,os:=hb.os.trans h.os,out:=hb.output.trans h.out,tape:=hb.tape.trans h.tape,x:=?_ }
 ·intro k e hk;exact (h.jx k e hk).le (jQ.refl (λ_=>False) g) (λq=>q) (λ_ _ _=>rfl) (λ_ q=>q.elim) (λb hb'=>hb.block b ((h.jx k e hk).lt hb'))
 ·intro b ys hG;obtain ⟨c,e,f,h1,h2,h3⟩:=h.gl b ys hG;exact ⟨c,e,f,by rw[hb.block b (h.gl.lt hG)];exact h1,h2,h3⟩
 ·intro b hb' ho;rw[hb.block b (Nat.lt_of_lt_of_le hb' h.size)];exact h.oj b hb' ho
 exact {
  xC:=λb cs el fz h1=>let ⟨cs',h2,h3⟩:=h.x.xC b cs el fz h1;⟨cs',by rw[hb.block b (qA h2)];exact h2,h3⟩
  flat:=λk b cs el fz h0 h1 hf=>let ⟨cs',h2,h3⟩:=h.x.flat k b cs el fz h0 h1 hf;⟨cs',by rw[hb.block b (qA h2)];exact h2,h3⟩
  set:=λb hb'=>by
   have h1:=h.x.set b hb';have:E.wS.heap[b]?=some E.wS.heap[b]:=Array.getElem?_eq_getElem hb';rw[hb.block b (qA (h1.trans this))];exact h1
  xD:=h.x.xD,hi:=h.x.hi,gf:=h.x.gf,ns:=h.x.ns,nO:=h.x.nO,nt:=h.x.nt,nu:=h.x.nu }
theorem Rel.IU (h:Rel E g σ w) {b:Nat} (hge:E.w0.heap.size<=b) (hG:g.G b=none) (hk:∀ k,(σ k).isSome=true->g.ρ k≠some b) {cs:Array Value} {el:TypeId} {fz:Nat×Nat} (hw:w.heap[b]?=some (.cells cs el fz)) {ys:List PV} (hl:ys.length<=cs.size) (hp:ln g ys (cs.toList.take ys.length)) :
  Rel E (g.di b ys) σ w:=by
 have hle:jQ (λ_=>False) g (g.di b ys):=jQ.G9 hG
 refine { jx:=?_,inj:=h.inj,gl:=?_,apart:=?_,size:=h.size,oj:=h.oj,own:=h.own,fix:=h.fix,iH:=h.iH,g0:=?_,gn:=?_,os:=h.os,out:=h.out,tape:=h.tape,x:=?_ }
 ·intro k e hk'
  exact (h.jx k e hk').le hle (λq=>q) (λc hc _=>by
   have:c≠b:=λq=>by subst q;exact hk k (by rw[hk'];rfl) hc
   simp[Gh.di,this]) (λ_ q=>q.elim) (λ_ _=>rfl)
 ·intro c zs hc
  by_cases q:c=b
  ·subst q
   simp[Gh.di] at hc;subst hc
   exact ⟨cs,el,fz,hw,hl,hp.le hle⟩
  ·simp[Gh.di,q] at hc
   obtain ⟨c',e,f,h1,h2,h3⟩:=h.gl c zs hc
   exact ⟨c',e,f,h1,h2,h3.le hle⟩
 ·intro k c e' hk' hka hc
  have q:c≠b:=λq=>by subst q;exact hk k (by rw[hk'];rfl) hc
  simp only[Gh.di,q,if_false]
  exact h.apart k c e' hk' hka hc
 ·intro c zs hc
  obtain ⟨us,h1⟩:=h.g0 c zs hc
  obtain ⟨vs,h2⟩:=hle.G c _ h1
  exact ⟨us++vs,by rw[h2,List.append_assoc]⟩
 ·intro c zs hc
  by_cases q:c=b
  ·subst q;exact .inr (.inr hge)
  ·simp[Gh.di,q] at hc;exact h.gn c zs hc
 ·have hx:=h.x
  exact {
      xC:=hx.xC,flat:=hx.flat,set:=hx.set,xD:=hx.xD,hi:=hx.hi,gf:=hx.gf,ns:=hx.ns
      nO:=λk c hf=>by
       have:=hx.ns k c hf
       have q:c≠b:=by omega
       simp only[Gh.di,q,if_false];exact hx.nO k c hf
      nt:=hx.nt,nu:=hx.nu }
theorem Rel.grown (h:Rel E g σ w) (hb:Below w.heap.size w w') {b:Nat} (hge:w.heap.size<=b) {cs:Array Value} {el:TypeId} {fz:Nat×Nat} (hw:w'.heap[b]?=some (.cells cs el fz)) {ys:List PV} (hl:ys.length<=cs.size) (hp:ln g ys (cs.toList.take ys.length)) :
  Rel E (g.di b ys) σ w':=
 (h.below hb).IU (Nat.le_trans h.size hge) (h.gl.Ew hge) (λk hk q=>by have:=h.lt hk q;omega) hw hl hp
theorem vu (w:World) (e:TypeId) (s:ByteArray):Below w.heap.size w (Lib.bytesWorld w e s):=
 ⟨rfl,rfl,rfl,by rw[Lib.bytesWorld_size];omega,λk hk=>Lib.bytesWorld_at_old w e s k hk⟩
end
def ofBytes (s:ByS):List Int:=s.map λb=>(b.toNat:Int)
theorem yy {g:Gh}:∀ l:ByS,ln g ((ofBytes l).flatMap λx=>[PV.sc (.int .u8 x)]) (l.map λb=>Value.int .u8 b.toNat)
 | []=>.nil
 | _::l=>.cons (.sc _) (yy l)
section
variable {P:Program} {E:Env} {n:Nat} {ops:Array Oper} {Q:dR} {rest:List Oper} {l:List (Nat×AV)} {ds:List (FuncId×List AV)} {s:List (Nat×M)}
 {ty:TypeId} {pos:String} {af:Array Edge}
theorem HW {d:Nat} {a b e:TypeId} {u:TypeDesc} {x:Operand} {c:ByS} {Cs:List Int->List PV} [hs:jD P a u] [ht:jD P b (.slice e)] [he:jD P e (.int .u8)] (hx:bI l x=some (F c)) (hC:∀ l,Cs l=l.flatMap λx=>[PV.sc (.int .u8 x)])
  (hd:Nat.blt d n=true) (hn:SL P E n ops Q rest (bZ ((d,.pv (.sl (ofBytes c).length (Cs (ofBytes c))))::l) ds) (Y s)):SL P E n ops Q (⟨some d,.convert a b x,ty,pos,af,none⟩::rest) (bZ l ds) (Y s):=by
 refine iY rfl ?_
 intro g act w K hR hF hK
 have q:=hF.eval x
 rw[aD hx] at q
 have hq:=q.dy
 have hrun:=Lib.run_convert_string_bytes w a b e ⟨c.toArray⟩ hs.h ht.h he.h
 have hev:(execOp act.eval ⟨some d,.convert a b x,ty,pos,af,none⟩).run P w=.ok (.value (.slice (some ⟨w.heap.size,0,none⟩) (ByteArray.size ⟨c.toArray⟩) (grownCap w (ByteArray.size ⟨c.toArray⟩) 0 e))) (Lib.bytesWorld w e ⟨c.toArray⟩):=by
  simp only[execOp,hq];simp[S,hrun]
 simp only[Oper.wp,hev,Oper.upon]
 have hsz:ByteArray.size ⟨c.toArray⟩=c.length:=by simp[ByteArray.size]
 have hnew:=Lib.bytesWorld_at_new w e ⟨c.toArray⟩
 have hfl:((ofBytes c).flatMap λx=>[PV.sc (.int .u8 x)]).length=c.length:=by
  rw[gW (sz:=1) (λ_=>rfl)];simp[ofBytes]
 have hcl:(Lib.bytesCells w e ⟨c.toArray⟩).toList.take c.length=c.map λb=>Value.int .u8 b.toNat:=by
  simp[Lib.bytesCells]
 have hR':=hR.grown (vu w e ⟨c.toArray⟩) (Nat.le_refl _) hnew (ys:=(ofBytes c).flatMap λx=>[PV.sc (.int .u8 x)]) (by rw[hfl];simp[Lib.bytesCells]) (by rw[hfl,hcl];exact yy c)
 refine hK _ _ _ _ _ hn hR' ((hF.le (nn:=λ_=>False) (jQ.G9 (hR.gl.Ew (Nat.le_refl _))) λk q=>q.elim).put (mA hd) ?_)
 rw[hC]
 have hcap:(ofBytes c).length<=grownCap w (ByteArray.size ⟨c.toArray⟩) 0 e:=by
  have:(ofBytes c).length=ByteArray.size ⟨c.toArray⟩:=by simp[ofBytes,hsz]
  rw[this];exact grownCap_ge _ _ _ _
 have e2:ByteArray.size ⟨c.toArray⟩=(ofBytes c).length:=by simp[ofBytes,hsz]
 rw[e2] at hcap ⊢
 exact .pv (.sl w.heap.size ((ofBytes c).flatMap λx=>[PV.sc (.int .u8 x)]) 0 (ofBytes c).length _ _ (by simp[Gh.di]) (by simp) (by rw[List.drop_zero,List.take_length]) hcap)
def Oi (e:Int):AV:=match e with
 | .ofNat 0=>Sc .nilIface
 | e=>.mo 213 (I e)
theorem Ex {q:Nat->Bool} {T:TypeId} {b:Bool}:(Oe T b).only q=true:=by cases b<;>rfl
theorem FO {f:Nat->Nat} {T:TypeId} {b:Bool}:(Oe T b).gD f=Oe T b:=by cases b<;>rfl
theorem Ey {q:Nat->Bool} {e:Int}:(Oi e).only q=true:=by unfold Oi;split<;>rfl
theorem CF {f:Nat->Nat} {e:Int}:(Oi e).gD f=Oi e:=by unfold Oi;split<;>rfl
theorem FP {q:Nat->Bool} {v:AV} {e:Int} (h:v.only q=true):(AV.fZ [v,Oi e]).only q=true:=by simp[AV.only,AV.only.ki,h,Ey]
theorem HX {f:Nat->Nat} {v:AV} {e:Int}:(AV.fZ [v,Oi e]).gD f=.fZ [v.gD f,Oi e]:=by simp[AV.gD,AV.gD.lN,CF]
theorem CG {e:Int} (h:e≠0):Oi e=.mo 213 (I e):=by
 unfold Oi;split
 ·exact absurd rfl h
 rfl
theorem HY {xt yt:TypeId} {x:Operand} {e:Int} [ht:Dd P xt] (hx:bI l x=some (Oi e)):iW P (.binOp .neq xt x (.const .nilIface) yt) l ds s (Bo (e !=0)) []:=by
 by_cases h:e=0
 ·subst h;exact uR hx
 rw[CG h] at hx;have:(e !=0)=true:=by simpa using h
 rw[this];exact uQ hx rfl
end
end Go.Abs
end
section
namespace Go.Abs
def Jk (x:Int):List PV:=[.sc (.int .u8 x)]
def ss (l:List Int):List PV:=l.flatMap Jk
theorem lq (x:Int):(Jk x).length=1:=rfl
theorem s4 (x:Int):PV.jl (Jk x)=true:=rfl
theorem iD (l:List Int):ss l=l.flatMap Jk:=rfl
def Ez (x:Bool):List PV:=[.sc (.bool x)]
def wU (l:List Bool):List PV:=l.flatMap Ez
theorem Dh (x:Bool):(Ez x).length=1:=rfl
theorem bD (l:List Bool):wU l=l.flatMap Ez:=rfl
def FQ (x:ByS):List PV:=[.sc (S x)]
def cd (l:List ByS):List PV:=l.flatMap FQ
theorem gb (x:ByS):(FQ x).length=1:=rfl
theorem su (x:ByS):PV.jl (FQ x)=true:=rfl
theorem dS (l:List ByS):cd l=l.flatMap FQ:=rfl
mutual
inductive U where
 | mk (Kind:Int) (Text:ByS) (jV:Int) (bp:ByS) (bq:ByS) (bg:(List U)) (Decls:(List Z)) (cl:(List ByS)) (Pos:Int)
inductive Z where
 | mk (Kind:Int) (cG:Int) (Label:ByS) (bp:ByS) (bq:ByS) (bg:(List U)) (Body:(List Z)) (cl:(List ByS)) (ka:(List ByS)) (Trail:ByS) (Pos:Int)
end
def U.Kind:U->Int|.mk v _ _ _ _ _ _ _ _=>v
def U.Text:U->ByS|.mk _ v _ _ _ _ _ _ _=>v
def U.jV:U->Int|.mk _ _ v _ _ _ _ _ _=>v
def U.bp:U->ByS|.mk _ _ _ v _ _ _ _ _=>v
def U.bq:U->ByS|.mk _ _ _ _ v _ _ _ _=>v
def U.bg:U->(List U)|.mk _ _ _ _ _ v _ _ _=>v
def U.Decls:U->(List Z)|.mk _ _ _ _ _ _ v _ _=>v
def U.cl:U->(List ByS)|.mk _ _ _ _ _ _ _ v _=>v
def U.Pos:U->Int|.mk _ _ _ _ _ _ _ _ v=>v
def Z.Kind:Z->Int|.mk v _ _ _ _ _ _ _ _ _ _=>v
def Z.cG:Z->Int|.mk _ v _ _ _ _ _ _ _ _ _=>v
def Z.Label:Z->ByS|.mk _ _ v _ _ _ _ _ _ _ _=>v
def Z.bp:Z->ByS|.mk _ _ _ v _ _ _ _ _ _ _=>v
def Z.bq:Z->ByS|.mk _ _ _ _ v _ _ _ _ _ _=>v
def Z.bg:Z->(List U)|.mk _ _ _ _ _ v _ _ _ _ _=>v
def Z.Body:Z->(List Z)|.mk _ _ _ _ _ _ v _ _ _ _=>v
def Z.cl:Z->(List ByS)|.mk _ _ _ _ _ _ _ v _ _ _=>v
def Z.ka:Z->(List ByS)|.mk _ _ _ _ _ _ _ _ v _ _=>v
def Z.Trail:Z->ByS|.mk _ _ _ _ _ _ _ _ _ v _=>v
def Z.Pos:Z->Int|.mk _ _ _ _ _ _ _ _ _ _ v=>v
mutual
def U.E:U->List PV
 | .mk v0 v1 v2 v3 v4 v5 v6 v7 v8=>[.sc (.int .i64 v0),.sc (Go.Abs.S v1),.sc (.int .i64 v2),.sc (Go.Abs.S v3),.sc (Go.Abs.S v4),.sl v5.length (U.Cs v5),.sl v6.length (Z.Cs v6),.sl v7.length (cd v7),.sc (.int .i64 v8)]
def U.Cs:List U->List PV
 | []=>[]
 | e::es=>e.E++U.Cs es
def Z.E:Z->List PV
 | .mk v0 v1 v2 v3 v4 v5 v6 v7 v8 v9 v10=>[.sc (.int .i64 v0),.sc (.int .i64 v1),.sc (Go.Abs.S v2),.sc (Go.Abs.S v3),.sc (Go.Abs.S v4),.sl v5.length (U.Cs v5),.sl v6.length (Z.Cs v6),.sl v7.length (cd v7),.sl v8.length (cd v8),.sc (Go.Abs.S v9),.sc (.int .i64 v10)]
def Z.Cs:List Z->List PV
 | []=>[]
 | e::es=>e.E++Z.Cs es
end
def U.C (x:U):List PV:=[.sc (.int .i64 x.Kind),.sc (Go.Abs.S x.Text),.sc (.int .i64 x.jV),.sc (Go.Abs.S x.bp),.sc (Go.Abs.S x.bq),.sl x.bg.length (U.Cs x.bg),.sl x.Decls.length (Z.Cs x.Decls),.sl x.cl.length (cd x.cl),.sc (.int .i64 x.Pos)]
theorem U.EA (x:U):x.E=x.C:=by cases x;rfl
theorem U.Q:∀ l:List U,U.Cs l=l.flatMap U.C
 | []=>rfl
 | e::es=>by rw[List.flatMap_cons,<- U.Q es,<- e.EA];rfl
theorem U.q (x:U):(U.C x).length=9:=rfl
theorem U.iu (x:U):PV.jl (U.C x)=true:=rfl
def Z.C (x:Z):List PV:=[.sc (.int .i64 x.Kind),.sc (.int .i64 x.cG),.sc (Go.Abs.S x.Label),.sc (Go.Abs.S x.bp),.sc (Go.Abs.S x.bq),.sl x.bg.length (U.Cs x.bg),.sl x.Body.length (Z.Cs x.Body),.sl x.cl.length (cd x.cl),.sl x.ka.length (cd x.ka),.sc (Go.Abs.S x.Trail),.sc (.int .i64 x.Pos)]
theorem Z.EA (x:Z):x.E=x.C:=by cases x;rfl
theorem Z.Q:∀ l:List Z,Z.Cs l=l.flatMap Z.C
 | []=>rfl
 | e::es=>by rw[List.flatMap_cons,<- Z.Q es,<- e.EA];rfl
theorem Z.q (x:Z):(Z.C x).length=11:=rfl
theorem Z.iu (x:Z):PV.jl (Z.C x)=true:=rfl
mutual
inductive aQ where
 | mk (Kind:Int) (FT:Int) (FU:Int) (FV:Int) (FW:Int) (bg:(List aQ))
end
def aQ.Kind:aQ->Int|.mk v _ _ _ _ _=>v
def aQ.FT:aQ->Int|.mk _ v _ _ _ _=>v
def aQ.FU:aQ->Int|.mk _ _ v _ _ _=>v
def aQ.FV:aQ->Int|.mk _ _ _ v _ _=>v
def aQ.FW:aQ->Int|.mk _ _ _ _ v _=>v
def aQ.bg:aQ->(List aQ)|.mk _ _ _ _ _ v=>v
mutual
def aQ.E:aQ->List PV
 | .mk v0 v1 v2 v3 v4 v5=>[.sc (.int .i64 v0),.sc (.int .u64 v1),.sc (.int .u64 v2),.sc (.int .u64 v3),.sc (.int .u64 v4),.sl v5.length (aQ.Cs v5)]
def aQ.Cs:List aQ->List PV
 | []=>[]
 | e::es=>e.E++aQ.Cs es
end
def aQ.C (x:aQ):List PV:=[.sc (.int .i64 x.Kind),.sc (.int .u64 x.FT),.sc (.int .u64 x.FU),.sc (.int .u64 x.FV),.sc (.int .u64 x.FW),.sl x.bg.length (aQ.Cs x.bg)]
theorem aQ.EA (x:aQ):x.E=x.C:=by cases x;rfl
theorem aQ.Q:∀ l:List aQ,aQ.Cs l=l.flatMap aQ.C
 | []=>rfl
 | e::es=>by rw[List.flatMap_cons,<- aQ.Q es,<- e.EA];rfl
theorem aQ.q (x:aQ):(aQ.C x).length=6:=rfl
theorem aQ.iu (x:aQ):PV.jl (aQ.C x)=true:=rfl
structure bU where
 Name:ByS
 Path:ByS
 Pos:Int
def bU.C (x:bU):List PV:=[.sc (Go.Abs.S x.Name),.sc (Go.Abs.S x.Path),.sc (.int .i64 x.Pos)]
def bU.Cs (l:List bU):List PV:=l.flatMap bU.C
theorem bU.q (x:bU):(bU.C x).length=3:=rfl
theorem bU.iu (x:bU):PV.jl (bU.C x)=true:=rfl
theorem bU.Q (l:List bU):bU.Cs l=l.flatMap bU.C:=rfl
structure fq where
 gj:ByS
 cT:(List bU)
 Decls:(List Z)
 cl:(List ByS)
structure cL where
 Errno:Int
 At:Int
structure gT where
 x0:ByS
 x1:ByS
structure aA where
 Kind:Int
 Text:ByS
 Pos:Int
 End:Int
def aA.C (x:aA):List PV:=[.sc (.int .i64 x.Kind),.sc (Go.Abs.S x.Text),.sc (.int .i64 x.Pos),.sc (.int .i64 x.End)]
def aA.Cs (l:List aA):List PV:=l.flatMap aA.C
theorem aA.q (x:aA):(aA.C x).length=4:=rfl
theorem aA.iu (x:aA):PV.jl (aA.C x)=true:=rfl
theorem aA.Q (l:List aA):aA.Cs l=l.flatMap aA.C:=rfl
structure H where
 text:ByS
 X:(List aA)
 at_:Int
 base:Int
 skip:Bool
 pending:(Option U)
structure bf where
 text:ByS
 at_:Int
 out:(List aA)
 line:Bool
structure hQ where
 at_:Int
structure aq where
 yz:Bool
 deep:Bool
structure aR where
 lT:Bool
 HZ:Bool
 wV:Bool
 level:Int
structure fC where
 x0:Int
 x1:Int
 x2:Int
 x3:Int
structure P where
 Text:ByS
 Code:Bool
 Pos:Int
def P.C (x:P):List PV:=[.sc (Go.Abs.S x.Text),.sc (.bool x.Code),.sc (.int .i64 x.Pos)]
def P.Cs (l:List P):List PV:=l.flatMap P.C
theorem P.q (x:P):(P.C x).length=3:=rfl
theorem P.iu (x:P):PV.jl (P.C x)=true:=rfl
theorem P.Q (l:List P):P.Cs l=l.flatMap P.C:=rfl
structure aV where
 Text:ByS
 Code:Bool
 Pos:Int
def aV.C (x:aV):List PV:=[.sc (Go.Abs.S x.Text),.sc (.bool x.Code),.sc (.int .i64 x.Pos)]
def aV.Cs (l:List aV):List PV:=l.flatMap aV.C
theorem aV.q (x:aV):(aV.C x).length=3:=rfl
theorem aV.iu (x:aV):PV.jl (aV.C x)=true:=rfl
theorem aV.Q (l:List aV):aV.Cs l=l.flatMap aV.C:=rfl
structure R where
 text:ByS
 at_:Int
def run (p:Nat->UInt8->Bool):Nat->ByS->Nat
 | _,[]=>0
 | i,b::u=>if p i b then 1+run p (i+1) u else 0
section
variable {p:Nat->UInt8->Bool}
theorem tJ:∀ {u:ByS} {i:Nat},run p i u<=u.length
 | [],_=>by simp[run]
 | b::u,i=>by
  simp only[run];split
  ·have:=tJ (u:=u) (i:=i+1);simp;omega
  simp
theorem oH:∀ {u:ByS} {i j:Nat},j<run p i u->∃ b,u[j]?=some b/\p (i+j) b=true
 | [],_,_,h=>by simp[run] at h
 | b::u,i,j,h=>by
  simp only[run] at h;split at h
  ·rename_i hb;cases j with
   | zero=>exact ⟨b,rfl,hb⟩
   | succ j=>
    obtain ⟨c,h1,h2⟩:=oH (u:=u) (i:=i+1) (j:=j) (by omega)
    exact ⟨c,by simpa using h1,by rw[<- h2];congr 1;omega⟩
  omega
theorem lU:∀ {u:ByS} {i:Nat} {b:UInt8},u[run p i u]?=some b->p (i+run p i u) b=false
 | [],_,_,h=>by simp at h
 | c::u,i,b,h=>by
  simp only[run] at h ⊢;split at h
  ·rename_i hb;rw[if_pos hb];rw[show 1+run p (i+1) u=run p (i+1) u+1 by omega] at h ⊢;have:=lU (u:=u) (i:=i+1) (b:=b) (by simpa using h);rw[<- this];congr 1;omega
  rename_i hb;rw[if_neg hb];simp at h;subst h;simpa using hb
theorem run_eq {u:ByS} {i n:Nat} (h1:∀ j,j<n->∃ b,u[j]?=some b/\p (i+j) b=true) (h2:∀ b,u[n]?=some b->p (i+n) b=false):run p i u=n:=by
 rcases Nat.lt_trichotomy (run p i u) n with h|h|h
 ·obtain ⟨b,h3,h4⟩:=h1 _ h;rw[lU h3] at h4;cases h4
 ·exact h
 obtain ⟨b,h3,h4⟩:=oH h;rw[h2 b h3] at h4;cases h4
end
def Bk (o:Option UInt8):Prop:=o=none\/o=some 32\/o=some 9
def LA (r r':ByS):Prop:=∀ j:Nat,(∀ i:Nat,i<j->r'[i]?=r[i]?/\¬ Bk r'[i]?)->r'[j]?=r[j]?\/Bk r'[j]?
theorem LA.app {r r':ByS} (h:LA r r') (c:ByS):LA (c++r) (c++r'):=by
 intro j hj;by_cases q:j<c.length
 ·left;rw[List.getElem?_append_left q,List.getElem?_append_left q]
 have:=h (j - c.length) λi hi=>by
  have:=hj (i+c.length) (by omega);rw[List.getElem?_append_right (by omega),List.getElem?_append_right (by omega),Nat.add_sub_cancel] at this;exact this
 rw[List.getElem?_append_right (by omega),List.getElem?_append_right (by omega)];exact this
section
variable {p:Nat->UInt8->Bool} {c r r':ByS}
theorem vw {j:Nat} (h:j<c.length):(c++r')[j]?=(c++r)[j]?:=by
 rw[List.getElem?_append_left h,List.getElem?_append_left h]
theorem vx:(c++r)[c.length]?=r[0]?:=by rw[List.getElem?_append_right (by omega)];simp
theorem EB:(c++r)[c.length+1]?=r[1]?:=by rw[List.getElem?_append_right (by omega)];simp
theorem LA.run (h:LA r r') (hp:∀ i,p i 32=false/\p i 9=false) {i:Nat} (hc:run p i (c++r)<=c.length):run p i (c++r')=run p i (c++r):=by
 refine run_eq (λj hj=>?_) λb hb=>?_
 ·obtain ⟨b,h1,h2⟩:=oH hj;exact ⟨b,by rw[vw (r:=r) (by omega)];exact h1,h2⟩
 rcases Nat.lt_or_ge (Go.Abs.run p i (c++r)) c.length with q|q
 ·rw[vw (r:=r) q] at hb;exact lU hb
 have e:Go.Abs.run p i (c++r)=c.length:=by omega
 rw[e,vx] at hb;rw[e];rcases h 0 (λi hi=>absurd hi (Nat.not_lt_zero i)) with q|q|q|q
 ·rw[q] at hb;have:=lU (p:=p) (u:=c++r) (i:=i) (b:=b) (by rw[e,vx];exact hb);rwa [e] at this
 ·rw[q] at hb;cases hb
 ·rw[q] at hb;cases hb;exact (hp _).1
 rw[q] at hb;cases hb;exact (hp _).2
end
def uU (b:UInt8):Bool:=(decide (97<=b)&&decide (b<=122))||(decide (65<=b)&&decide (b<=90))||b==95
def pE (b:UInt8):Bool:=decide (48<=b)&&decide (b<=57)
def pW (i:Nat) (b:UInt8):Bool:=uU b||(decide (0<i)&&pE b)||(decide (i=0)&&b==35)
def pD (_:Nat) (b:UInt8):Bool:=pE b
def pC (_:Nat) (b:UInt8):Bool:=b !=10
theorem IV (i:Nat):pW i 32=false/\pW i 9=false:=by
 constructor<;>(unfold pW;simp[show uU 32=false by decide,show uU 9=false by decide,show pE 32=false by decide,show pE 9=false by decide])
theorem EC (i:Nat):pD i 32=false/\pD i 9=false:=⟨show pE 32=false by decide,show pE 9=false by decide⟩
def gp (u:ByS):Nat:=
 if run pW 0 u=1/\(u[0]?=some 35\/u[0]?=some 95) then 0 else run pW 0 u
def oI (u:ByS) (a:Nat):Bool:=u[a]?==some 46&&(match u[a+1]? with|some d=>pE d|none=>false)
def ue (u:ByS):Nat:=
 if oI u (run pD 0 u)=true then run pD 0 u+1+run pD 0 (u.drop (run pD 0 u+1)) else run pD 0 u
def fw:ByS->Option (Nat×Bool)
 | []=>none
 | [b]=>if b=34 then some (1,false) else none
 | b::d::u=>if b=34 then some (1,false) else if b=92 then (fw u).map λx=>(x.1+2,x.2||d==40) else (fw (d::u)).map λx=>(x.1+1,x.2)
def ops:List ByS:=[[95,124,95],[46,46,46],[61,61],[33,61],[60,61],[62,61],[61,126],[33,126],[38,38],[124,124],[95],[40],[41],[91],[93],[123],[125],[58],[44],[46],[63],[33],[42],[38],[124],[61],[60],[62],[43],[45],[47],[37]]
def tR (u:ByS):ByS:=(ops.find? λo=>o.isPrefixOf u).getD []
def ext (u:ByS):Option (Nat×Nat):=
 if [47,47].isPrefixOf u=true then some (6,run pC 0 u) else
 if 0<gp u then some (1,gp u) else
 match u with
 | []=>none
 | c::w=>if pE c=true then some (2,ue u) else if c=34 then (fw w).map λx=>(3,x.1+1) else if tR u=[] then none else some (5,(tR u).length)
inductive Bl:ByS->ByS->Prop
 | nil:Bl [] []
 | ins {b:UInt8} {u u':ByS} (hb:b=32\/b=9) (h:Bl u u'):Bl u (b::u')
 | sp {b:UInt8} {u u':ByS} (hb:b=32\/b=9\/b=13\/b=10) (h:Bl u u'):Bl (b::u) (b::u')
 | tok {c r r':ByS} {k:Nat} (he:ext (c++r)=some (k,c.length)) (hc:0<c.length) (hk:k=6->∃ y,r'=10::y) (h:Bl r r'):Bl (c++r) (c++r')
theorem Bl.la {u u':ByS} (h:Bl u u'):LA u u':=by
 induction h with
 | nil=>exact λj _=>.inl rfl
 | ins hb _ _=>
  intro j hj
  cases j with
  | zero=>right;rcases hb with rfl|rfl<;>simp[Bk]
  | succ j=>
   have:=(hj 0 (by omega)).2
   exfalso;apply this;rcases hb with rfl|rfl<;>simp[Bk]
 | sp _ _ ih=>exact ih.app [_]
 | tok _ _ _ _ ih=>exact ih.app _
section
variable {c r r':ByS}
theorem A6 {u:ByS}:gp u<=run pW 0 u:=by unfold gp;split<;>omega
theorem FX (h:LA r r') (h0:0<c.length) (hc:run pW 0 (c++r)<=c.length):gp (c++r')=gp (c++r):=by
 unfold gp;rw[h.run IV hc,vw (r:=r) h0]
theorem ED (h:LA r r') {a:Nat} (ha:a<=c.length) (hd:a+1<c.length\/oI (c++r) a=false):oI (c++r') a=oI (c++r) a:=by
 by_cases q:a+1<c.length
 ·unfold oI;rw[vw (r:=r) (by omega),vw (r:=r) q]
 have hd:oI (c++r) a=false:=hd.resolve_left q;rw[hd];cases e:oI (c++r') a with
 | false=>rfl
 | true=>
  exfalso
  have e2:=e
  unfold oI at e hd
  simp only[Bool.and_eq_true,beq_iff_eq] at e
  obtain ⟨e1,e3⟩:=e
  by_cases q2:a<c.length
  ·have e4:a+1=c.length:=by omega
   rw[vw (r:=r) q2] at e1;rw[e1,e4,vx] at hd;rw[e4,vx] at e3;rcases h 0 (λi hi=>absurd hi (Nat.not_lt_zero i)) with w|w|w|w
   ·rw[w] at e3;simp[e3] at hd
   ·rw[w] at e3;cases e3
   ·rw[w] at e3;revert e3;decide
   rw[w] at e3;revert e3;decide
  ·have e4:a=c.length:=by omega
   subst e4;rw[vx] at e1;rw[EB] at e3;have w0:r'[0]?=r[0]?:=by
    rcases h 0 (λi hi=>absurd hi (Nat.not_lt_zero i)) with w|w|w|w
    ·exact w
    ·rw[w] at e1;cases e1
    ·rw[w] at e1;cases e1
    rw[w] at e1;cases e1
   rw[vx,EB,<- w0,e1] at hd;rcases h 1 (λi hi=>by
    obtain rfl:i=0:=by omega
    exact ⟨w0,by rw[e1];simp[Bk]⟩) with w|w|w|w
   ·rw[w] at e3;simp[e3] at hd
   ·rw[w] at e3;cases e3
   ·rw[w] at e3;revert e3;decide
   rw[w] at e3;revert e3;decide
theorem H0 (h:LA r r') (hc:ue (c++r)=c.length):ue (c++r')=c.length:=by
 unfold ue at hc ⊢;split at hc
 ·rename_i hd;have e1:=h.run (p:=pD) (i:=0) (c:=c) EC (by omega);have e2:=ED h (c:=c) (a:=run pD 0 (c++r)) (by omega) (by
   have:(c++r)[run pD 0 (c++r)+1]?≠none:=by
    intro q;unfold oI at hd;rw[q] at hd;simp at hd
   by_cases w:run pD 0 (c++r)+1<c.length
   ·exact .inl w
   exfalso;have e3:run pD 0 ((c++r).drop (run pD 0 (c++r)+1))=0:=by omega
   have hd2:(match (c++r)[run pD 0 (c++r)+1]? with|some d=>pE d|none=>false)=true:=by
    unfold oI at hd;simp only[Bool.and_eq_true] at hd;exact hd.2
   cases e4:(c++r)[run pD 0 (c++r)+1]? with
   | none=>exact this e4
   | some d=>
    rw[e4] at hd2
    have:=lU (p:=pD) (i:=0) (u:=(c++r).drop (run pD 0 (c++r)+1)) (b:=d) (by rw[e3,List.getElem?_drop];exact e4)
    simp[pD,hd2] at this)
  rw[e1,if_pos (e2.trans hd)];generalize ha:run pD 0 (c++r)=a at hc;rw[List.drop_append_of_le_length (by omega)] at hc ⊢;have:=h.run (p:=pD) (i:=0) (c:=c.drop (a+1)) EC (by simp;omega);omega
 rename_i hd;have e1:=h.run (p:=pD) (i:=0) (c:=c) EC (by omega);have e2:=ED h (c:=c) (a:=run pD 0 (c++r)) (by omega) (.inr (by simpa using hd));rw[e1,e2,if_neg hd,hc]
theorem BO:∀ {u:ByS} {x:Nat×Bool},fw u=some x->x.1<=u.length
 | [],_,h=>by cases h
 | [b],x,h=>by
  simp only[fw] at h;split at h
  ·cases h;simp
  cases h
 | b::d::u,x,h=>by
  simp only[fw] at h;split at h
  ·cases h;simp
  split at h
  ·cases e:fw u with
   | none=>rw[e] at h;cases h
   | some y=>rw[e] at h;cases h;have:=BO e;simp;omega
  cases e:fw (d::u) with
  | none=>rw[e] at h;cases h
  | some y=>rw[e] at h;cases h;have:=BO e;simp at this ⊢;omega
theorem zJ {u:ByS} {x:Nat×Bool} (h:fw u=some x):0<x.1:=by
 match u,h with
 | [],h=>cases h
 | [b],h=>
  simp only[fw] at h
  split at h
  ·cases h;simp
  ·cases h
 | b::d::u,h=>
  simp only[fw] at h
  split at h
  ·cases h;simp
  split at h
  ·cases e:fw u with
   | none=>rw[e] at h;cases h
   | some y=>rw[e] at h;cases h;simp
  ·cases e:fw (d::u) with
   | none=>rw[e] at h;cases h
   | some y=>rw[e] at h;cases h;simp
theorem BP {r r':ByS}:∀ {c:ByS} {b:Bool},fw (c++r)=some (c.length,b)->fw (c++r')=some (c.length,b)
 | [],b,h=>absurd (zJ h) (Nat.lt_irrefl 0)
 | [a],b,h=>by
  cases r with
  | nil=>
   simp only[List.append_nil,fw] at h
   split at h
   ·rename_i q;cases h;subst q;cases r'<;>simp[fw]
   ·cases h
  | cons d w=>
   simp only[List.cons_append,List.nil_append,fw] at h
   split at h
   ·rename_i q;cases h;subst q;cases r'<;>simp[fw]
   split at h
   ·cases e:fw w with
    | none=>rw[e] at h;cases h
    | some y=>rw[e] at h;simp at h
   ·cases e:fw (d::w) with
    | none=>rw[e] at h;cases h
    | some y=>rw[e] at h;simp at h;have:=zJ e;omega
 | a::d::c,b,h=>by
  simp only[List.cons_append,fw] at h ⊢;split at h
  ·simp at h
  rename_i q;rw[if_neg q];split at h
  ·rename_i q2;rw[if_pos q2];cases e:fw (c++r) with
   | none=>rw[e] at h;cases h
   | some y=>
    rw[e] at h;simp at h
    obtain ⟨h1,h2⟩:=h
    have e3:y=(c.length,y.2):=by rw[<- h1]
    rw[e3] at e
    rw[BP e];simp[h2]
  rename_i q2;rw[if_neg q2];cases e:fw (d::(c++r)) with
  | none=>rw[e] at h;cases h
  | some y=>
   rw[e] at h;simp at h
   obtain ⟨h1,h2⟩:=h
   have e3:y=((d::c).length,y.2):=by rw[List.length_cons,<- h1]
   rw[e3] at e
   have:=BP (r':=r') (c:=d::c) e
   rw[List.cons_append] at this
   rw[this];simp[h2]
theorem qL:∀ {o u:ByS},o.isPrefixOf u=true↔∀ i,i<o.length->u[i]?=o[i]?
 | [],u=>by simp
 | a::o,[]=>by
  simp only[List.isPrefixOf,Bool.false_eq_true,false_iff];intro h;have:=h 0 (by simp);simp at this
 | a::o,b::u=>by
  rw[List.isPrefixOf_cons_cons,Bool.and_eq_true,qL];constructor
  ·rintro ⟨h1,h2⟩ i hi;cases i with
   | zero=>simp at h1;simp[h1]
   | succ i=>simpa using h2 i (by simpa using hi)
  intro h;refine ⟨by have:=h 0 (by simp);simp at this;simp[this],λi hi=>by simpa using h (i+1) (by simpa using hi)⟩
theorem EF (h:LA r r') {o:ByS} (hb:∀ i:Nat,¬ (o[i]?=some 32\/o[i]?=some 9)) (ho:o.isPrefixOf (c++r')=true):o.isPrefixOf (c++r)=true:=by
 rw[qL] at ho ⊢;have key:∀ j,c.length+j<o.length->r'[j]?=r[j]?/\¬ Bk r'[j]?:=by
  intro j
  induction j using Nat.strongRecOn with
  | _ j ih=>
   intro hj
   have h1:=ho (c.length+j) hj
   rw[List.getElem?_append_right (by omega),show c.length+j - c.length=j by omega] at h1
   have h2:¬ Bk r'[j]?:=by
    rw[h1];rintro (q|q)
    ·rw[List.getElem?_eq_getElem hj] at q;cases q
    exact hb _ q
   exact ⟨(h j λi hi=>ih i hi (by omega)).resolve_right h2,h2⟩
 intro i hi;rw[<- ho i hi];by_cases q:i<c.length
 ·rw[vw q]
 rw[List.getElem?_append_right (by omega),List.getElem?_append_right (by omega)];exact (key _ (by omega)).1.symm
theorem Ha {o:ByS} (hl:o.length<=c.length) (r r':ByS):o.isPrefixOf (c++r)=o.isPrefixOf (c++r'):=by
 rw[Bool.eq_iff_iff,qL,qL];constructor<;>intro h i hi<;>rw[<- h i hi]<;>exact vw (by omega)
theorem CH {f g:ByS->Bool} {n:Nat}:∀ {l:List ByS} {o:ByS},l.find? f=some o->(∀ p,p∈l->g p=true->f p=true)->g o=true->l.find? g=some o
 | [],_,h,_,_=>by cases h
 | a::l,o,h,hg,ho=>by
  simp only[List.find?] at h ⊢;cases e:f a with
  | true=>rw[e] at h;cases h;rw[ho]
  | false=>
   rw[e] at h
   have:g a=false:=by
    cases e2:g a with
    | false=>rfl
    | true=>rw[hg a (by simp) e2] at e;cases e
   rw[this]
   exact CH (n:=n) h (λp hp=>hg p (by simp[hp])) ho
theorem IW {o:ByS} (h:o∈ops) (i:Nat):¬ (o[i]?=some 32\/o[i]?=some 9):=by
 have:∀ o∈ops,∀ b∈o,¬ (b=32\/b=9):=by decide
 rintro (q|q)
 ·exact this o h _ (List.mem_of_getElem? q) (.inl rfl)
 exact this o h _ (List.mem_of_getElem? q) (.inr rfl)
theorem IX (h:LA r r') (hn:tR (c++r)≠[]) (hc:(tR (c++r)).length=c.length):tR (c++r')=tR (c++r):=by
 unfold tR at hn hc ⊢;cases e:ops.find? λo=>o.isPrefixOf (c++r) with
 | none=>rw[e] at hn;exact absurd rfl hn
 | some o=>
  rw[e] at hc
  simp only[Option.getD_some] at hc ⊢
  rw[CH (n:=0) (g:=λo=>o.isPrefixOf (c++r')) e (λp hp hq=>EF h (IW hp) hq) ?_]
  ·rfl
  ·have:=List.find?_some e;rw[Ha (by omega) r' r];exact this
end
def Fl (b:UInt8):Prop:=b=32\/b=9\/b=13\/b=10
structure Hb (s:ByS) (t:aA):Prop where
 p0:0<=t.Pos
 pe:t.Pos<=t.End
 en:t.End<=s.length
 e7:t.Kind=7->s[t.Pos.toNat]?=some 10/\t.End=t.Pos+1
 e0:t.Kind=0->t.Pos=s.length
 ex:t.Kind≠0->t.Kind≠7->∃ k,ext (s.drop t.Pos.toNat)=some (k,(t.End - t.Pos).toNat)/\(k=6->t.Kind=6)/\t.Pos<t.End
def BQ (s:ByS) (a b:Int):Prop:=a<=b/\∀ (i:Nat) x,a<=i->(i:Int)<b->s[i]?=some x->Fl x
def Jl (w:ByS):Prop:=∀ b,b∈w->b=32\/b=9
theorem Bl.H2 {u u':ByS} (h:Bl u u'):∀ {w:ByS},Jl w->Bl u (w++u')
 | [],_=>h
 | b::w,hw=>.ins (hw b (by simp)) (h.H2 λb hb=>hw b (by simp[hb]))
theorem Bl.Jt {u u':ByS} (h:Bl u u'):∀ {w:ByS},(∀ b,b∈w->Fl b)->Bl (w++u) (w++u')
 | [],_=>h
 | b::w,hw=>.sp (hw b (by simp)) (h.Jt λb hb=>hw b (by simp[hb]))
theorem EG {u:ByS}:ext (10::u)=none:=by
 have h1:run pW 0 (10::u)=0:=by simp[run,show pW 0 10=false by decide]
 have h2:tR (10::u)=[]:=by simp[tR,ops,List.find?,List.isPrefixOf]
 unfold ext;simp[gp,h1,h2,List.isPrefixOf,show pE 10=false by decide]
theorem FY {u:ByS} {n:Nat} (h:ext u=some (6,n)):n=run pC 0 u:=by
 unfold ext at h;split at h
 ·simp at h;exact h.symm
 split at h
 ·simp at h
 split at h
 ·cases h
 split at h
 ·simp at h
 split at h
 ·simp at h
 split at h<;>simp at h
def FZ (s:ByS) (f:Nat) (out:ByS):Prop:=∀ u',Bl (s.drop f) u'->(s[f]?=some 10->∃ y,u'=10::y)->Bl s (out++u')
theorem Di {s:ByS} {a b c:Nat} (h1:a<=b) (h2:b<=c):(s.drop a).take (c - a)=(s.drop a).take (b - a)++(s.drop b).take (c - b):=by
 rw[show c - a=(b - a)+(c - b) by omega,List.take_add,List.drop_drop,show a+(b - a)=b by omega]
theorem Hc {s:ByS} {a b:Nat} (h:BQ s a b):∀ x,x∈(s.drop a).take (b - a)->Fl x:=by
 intro x hx;obtain ⟨i,hi⟩:=List.mem_iff_getElem?.1 hx;rw[List.getElem?_take] at hi;split at hi
 ·rename_i q;rw[List.getElem?_drop] at hi;exact h.2 _ _ (by omega) (by omega) hi
 cases hi
theorem FZ.first {s:ByS} {b:Nat} {w:ByS} (_:b<=s.length) (hg:BQ s 0 b) (hw:Jl w) (_:s[b]?=some 10->w=[]):FZ s b (s.take b++w):=by
 intro u' h h10;have:=(h.H2 hw).Jt (w:=(s.drop 0).take (b - 0)) (Hc (a:=0) hg);simp at this;rw[List.append_assoc];exact this
theorem FZ.next {s out w:ByS} {t:aA} {b:Nat} (h:FZ s t.Pos.toNat out) (ht:Hb s t) (h0:t.Kind≠0) (hb:b<=s.length) (hg:BQ s t.End b) (hw:Jl w) (hn:s[b]?=some 10->w=[])
  (hc:t.Kind=6->b=t.End.toNat->b<s.length):FZ s b (out++(s.drop t.Pos.toNat).take (b - t.Pos.toNat)++w):=by
 intro u' hu h10
 have p0:=ht.p0
 have pe:=ht.pe
 have hgl:=hg.1
 have hg':BQ s (t.End.toNat:Nat) b:=by
  have:(t.End.toNat:Int)=t.End:=by omega
  rw[this];exact hg
 have hr:Bl (s.drop t.End.toNat) ((s.drop t.End.toNat).take (b - t.End.toNat)++(w++u')):=by
  have:=(hu.H2 hw).Jt (Hc hg')
  have e:(s.drop t.End.toNat).take (b - t.End.toNat)++s.drop b=s.drop t.End.toNat:=by
   rw[show s.drop b=(s.drop t.End.toNat).drop (b - t.End.toNat) by rw[List.drop_drop];congr 1;omega]
   exact List.take_append_drop _ _
  rw[e] at this;exact this
 rw[Di (a:=t.Pos.toNat) (b:=t.End.toNat) (c:=b) (by omega) (by omega)]
 have hs:s.drop t.Pos.toNat=(s.drop t.Pos.toNat).take (t.End.toNat - t.Pos.toNat)++s.drop t.End.toNat:=by
  rw[show s.drop t.End.toNat=(s.drop t.Pos.toNat).drop (t.End.toNat - t.Pos.toNat) by rw[List.drop_drop];congr 1;omega]
  exact (List.take_append_drop _ _).symm
 have hcl:((s.drop t.Pos.toNat).take (t.End.toNat - t.Pos.toNat)).length=t.End.toNat - t.Pos.toNat:=by
  have:=ht.en;simp;omega
 generalize hC:(s.drop t.Pos.toNat).take (t.End.toNat - t.Pos.toNat)=c at hs hcl ⊢
 simp only[List.append_assoc]
 refine h _ ?_ ?_
 ·by_cases h7:t.Kind=7
  ·obtain ⟨h71,h72⟩:=ht.e7 h7
   have:c=[10]:=by
    rw[<- hC,show t.End.toNat - t.Pos.toNat=1 by omega]
    rw[List.getElem?_eq_some_iff] at h71
    obtain ⟨q1,q2⟩:=h71
    rw[List.drop_eq_getElem_cons q1,q2];rfl
   rw[hs,this]
   exact .sp (.inr (.inr (.inr rfl))) hr
  ·obtain ⟨k,e1,e2,e3⟩:=ht.ex h0 h7
   rw[hs] at e1 ⊢
   rw[show (t.End - t.Pos).toNat=c.length by omega] at e1
   refine .tok e1 (by omega) (λhk=>?_) hr
   subst hk
   have hk6:=e2 rfl
   have hrun:=FY e1
   have hlt:t.End.toNat<s.length:=by
    by_cases q:b=t.End.toNat
    ·have:=hc hk6 q;omega
    ·omega
   obtain ⟨x,hx⟩:∃ x,s[t.End.toNat]?=some x:=⟨_,List.getElem?_eq_getElem hlt⟩
   have hx2:(c++s.drop t.End.toNat)[run pC 0 (c++s.drop t.End.toNat)]?=some x:=by
    rw[<- hrun,vx,List.getElem?_drop];simpa using hx
   have:=lU hx2
   have hx10:x=10:=by simpa[pC] using this
   subst hx10
   by_cases q:b=t.End.toNat
   ·have hw0:=hn (by rw[q];exact hx)
    subst hw0
    rw[q]
    obtain ⟨y,hy⟩:=h10 (by rw[q];exact hx)
    exact ⟨y,by simp[hy]⟩
   ·obtain ⟨m,hm⟩:∃ m,b - t.End.toNat=m+1:=⟨b - t.End.toNat - 1,by omega⟩
    rw[hm]
    rw[List.getElem?_eq_some_iff] at hx
    obtain ⟨q1,q2⟩:=hx
    rw[List.drop_eq_getElem_cons q1,q2]
    exact ⟨_,rfl⟩
 ·intro h10'
  by_cases h7:t.Kind=7
  ·obtain ⟨h71,h72⟩:=ht.e7 h7
   have:c=[10]:=by
    rw[<- hC,show t.End.toNat - t.Pos.toNat=1 by omega]
    rw[List.getElem?_eq_some_iff] at h71
    obtain ⟨q1,q2⟩:=h71
    rw[List.drop_eq_getElem_cons q1,q2];rfl
   exact ⟨_,by rw[this];rfl⟩
  ·exfalso
   obtain ⟨k,e1,e2,e3⟩:=ht.ex h0 h7
   rw[List.getElem?_eq_some_iff] at h10'
   obtain ⟨q1,q2⟩:=h10'
   rw[List.drop_eq_getElem_cons q1,q2,EG] at e1;cases e1
end Go.Abs
end
section
namespace Go.Abs
open D
def cq (m:Nat->Nat):Prop:=∀ N,∃ M,∀ i,M<=i->N<=m i
theorem cq.id:cq λi=>i:=λN=>⟨N,λ_ h=>h⟩
theorem cq.pred {m:Nat->Nat} (h:cq m):cq λi=>m i - 1:=λN=>
 let ⟨M,hM⟩:=h (N+1);⟨M,λi hi=>by have:=hM i hi;show N<=m i - 1;omega⟩
def D.sat {α:Type} (r:D α) (Q:α->Prop) (R:rA->Prop):Prop:=match r with
 | .stuck=>False
 | .ok a=>Q a
 | .mf p=>R p
def Ev {α:Type} (F:Nat->D α) (Q:α->Prop) (R:rA->Prop):Prop:=∃ r:D α,r.sat Q R/\∃ N,∀ i,N<=i->F i=r
section
variable {α β X:Type} {Q Q':α->Prop} {R R':rA->Prop} {Qb:β->Prop}
theorem Ev.ok {a:α} (h:Q a):Ev (λ_=>.ok a) Q R:=⟨.ok a,h,0,λ_ _=>rfl⟩
theorem Ev.mf {p:rA} (h:R p):Ev (λ_=>(.mf p:D α)) Q R:=⟨.mf p,h,0,λ_ _=>rfl⟩
theorem Ev.mono {F:Nat->D α} (h:Ev F Q' R') (hq:∀ a,Q' a->Q a) (hr:∀ p,R' p->R p):Ev F Q R:=by
 obtain ⟨r,h1,h2⟩:=h;refine ⟨r,?_,h2⟩;cases r with
 | stuck=>exact h1
 | ok a=>exact hq a h1
 | mf p=>exact hr p h1
theorem Ev.He {F:Nat->D α} (h:Ev F Q' R) (hq:∀ a,Q' a->Q a):Ev F Q R:=h.mono hq λ_ q=>q
theorem Ev.bind {F:Nat->D α} {K:Nat->α->D β} (h:Ev F Q R') (hr:∀ p,R' p->R p) (hk:∀ a,Q a->Ev (λi=>K i a) Qb R):Ev (λi=>D.bind (F i) (K i)) Qb R:=by
 obtain ⟨r,h1,N,hN⟩:=h;cases r with
 | stuck=>exact h1.elim
 | ok a=>
  obtain ⟨r',h2,M,hM⟩:=hk a h1
  exact ⟨r',h2,N+M,λi hi=>by dsimp only;rw[hN i (by omega)];exact hM i (by omega)⟩
 | mf p=>exact ⟨.mf p,hr p h1,N,λi hi=>by dsimp only;rw[hN i hi];rfl⟩
theorem Ev.aN {F:Nat->D α} {K:Nat->α->D β} (h:Ev F Q R) (hk:∀ a,Q a->Ev (λi=>K i a) Qb R):Ev (λi=>D.bind (F i) (K i)) Qb R:=Ev.bind h (λ_ q=>q) hk
theorem Ev.lV {x:D α} {a:α} {K:Nat->α->D β} (h:x=.ok a) (hk:Ev (λi=>K i a) Qb R):Ev (λi=>D.bind x (K i)) Qb R:=by
 subst h;exact hk
theorem Ev.br {b:Bool} {F G:Nat->D α} (ht:b=true->Ev F Q R) (hf:b=false->Ev G Q R):Ev (λi=>D.br b (F i) (G i)) Q R:=by
 cases b with
 | true=>exact ht rfl
 | false=>exact hf rfl
theorem Ev.gd {p:Prop} [Decidable p] {F:Nat->D α} (hp:p) (h:Ev F Q R):Ev (λi=>D.gd p (F i)) Q R:=by
 have:(λi=>D.gd p (F i))=F:=by funext i;simp[D.gd,hp]
 rw[this];exact h
theorem Ev.el {l:List X} {j:Int} {K:Nat->X->D α} (h0:0<=j) (h1:j<l.length) (h:∀ x,l[j.toNat]?=some x->Ev (λi=>K i x) Q R):Ev (λi=>D.el l j (K i)) Q R:=by
 have h2:j.toNat<l.length:=by omega
 have:=h _ (List.getElem?_eq_getElem h2);have he:(λi=>D.el l j (K i))=λi=>K i l[j.toNat]:=by funext i;simp[D.el,h0,List.getElem?_eq_getElem h2]
 rw[he];exact this
theorem Ev.yA {l:List X} {j:Int} {K:Nat->X->D α} {x:X} (h0:0<=j) (hx:l[j.toNat]?=some x) (h:Ev (λi=>K i x) Q R):Ev (λi=>D.el l j (K i)) Q R:=by
 have he:(λi=>D.el l j (K i))=λi=>K i x:=by funext i;simp[D.el,h0,hx]
 rw[he];exact h
theorem Ev.some {o:Option X} {x:X} {K:Nat->X->D α} (hx:o=some x) (h:Ev (λi=>K i x) Q R):Ev (λi=>D.some? o (K i)) Q R:=by subst hx;exact h
theorem Ev.jn {j:Nat->X->D α} {p:Nat->(X->D α)->D α} (J:X->Prop) (hj:∀ v,J v->Ev (λi=>j i v) Q R)
 (hp:∀ j:Nat->X->D α,(∀ v,J v->Ev (λi=>j i v) Q R)->Ev (λi=>p i (j i)) Q R):Ev (λi=>D.jn (j i) (p i)) Q R:=hp j hj
theorem Ev.grow {F:Nat->D α} {m:Nat->Nat} (hm:cq m) (h:∀ m',cq m'->Ev (λi=>F (m' i+1)) Q R):Ev (λi=>F (m i)) Q R:=by
 obtain ⟨r,h1,N,hN⟩:=h _ hm.pred;obtain ⟨M,hM⟩:=hm 1;refine ⟨r,h1,N+M,λi hi=>?_⟩;have:=hN i (by omega);have h2:=hM i (by omega);simp only[Nat.sub_add_cancel h2] at this;exact this
theorem Ev.iter {body:Nat->(X->D α)->X->D α} {m:Nat->Nat} (hm:cq m) (I:X->Prop) (f:X->Nat) {x:X} (h0:I x)
  (hb:∀ x,I x->∀ next:Nat->X->D α,(∀ y,I y->f y<f x->Ev (λi=>next i y) Q R)->Ev (λi=>body i (next i) x) Q R) :
  Ev (λi=>D.iter (body i) (m i) x) Q R:=by
 have key:∀ (k:Nat) (x:X) (m:Nat->Nat),cq m->I x->f x<k->Ev (λi=>D.iter (body i) (m i) x) Q R:=by
  intro k
  induction k with
  | zero=>intro x m _ _ h;exact absurd h (Nat.not_lt_zero _)
  | succ k ih=>
   intro x m hm hx hk
   obtain ⟨r,h1,N,hN⟩:=hb x hx (λi=>D.iter (body i) (m i - 1)) λy hy hlt=>ih y _ hm.pred hy (by omega)
   obtain ⟨M,hM⟩:=hm 1
   refine ⟨r,h1,N+M,λi hi=>?_⟩
   have h2:=hM i (by omega)
   rw[<- hN i (by omega)]
   obtain ⟨q,hq⟩:∃ q,m i=q+1:=⟨m i - 1,by omega⟩
   simp only[hq];rfl
 exact key _ x m hm h0 (Nat.lt_succ_self _)
theorem Ev.yB {F:Nat->D α} {H:Nat->rA->D α} (h:Ev F Q R') (hh:∀ p,R' p->Ev (λi=>H i p) Q R):Ev (λi=>oF (F i) (H i)) Q R:=by
 obtain ⟨r,h1,N,hN⟩:=h;cases r with
 | stuck=>exact h1.elim
 | ok a=>exact ⟨.ok a,h1,N,λi hi=>by dsimp only;rw[hN i hi];rfl⟩
 | mf p=>
  obtain ⟨r',h2,M,hM⟩:=hh p h1
  exact ⟨r',h2,N+M,λi hi=>by dsimp only;rw[hN i (by omega)];exact hM i (by omega)⟩
theorem Ev.sn {T:TypeId} {v:Int} {K:Nat->Int->D α} (h:Ev (λi=>K i v) Q R):Ev (λi=>Go.Abs.sn T ⟨T,[.sc (.int .i64 v)]⟩ (K i)) Q R:=by
 have:(λi=>Go.Abs.sn T ⟨T,[.sc (.int .i64 v)]⟩ (K i))=λi=>K i v:=by funext i;simp[Go.Abs.sn]
 rw[this];exact h
theorem Ev.get {F:Nat->D α} (h:Ev F Q λ_=>False):∃ a,Q a/\∃ N,∀ i,N<=i->F i=.ok a:=by
 obtain ⟨r,h1,h2⟩:=h;cases r with
 | stuck=>exact h1.elim
 | ok a=>exact ⟨a,h1,h2⟩
 | mf p=>exact h1.elim
end
def mj:ByS->ByS->Option Nat
 | [],sub=>if sub.isEmpty then some 0 else none
 | b::l,sub=>if sub.isPrefixOf (b::l) then some 0 else match mj l sub with|some i=>some (i+1)|none=>none
def pF (sep:ByS):Nat->ByS->List ByS
 | 0,s=>[s]
 | k+1,s=>match mj s sep with|none=>[s]|some i=>s.take i::pF sep k (s.drop (i+sep.length))
def xG:Nat->Nat->ByS
 | 0,_=>[]
 | f+1,u=>if u<10 then [UInt8.ofNat (48+u)] else xG f (u / 10)++[UInt8.ofNat (48+u % 10)]
def strings_Contains (a b:ByS):D Bool:=gd (a.length<4294967281) (.ok (mj a b).isSome)
def strings_Split (a b:ByS):D (List ByS):=gd (1<=b.length/\a.length<4294967281) (.ok (pF b (a.length+1) a))
def strings_LastIndex (a b:ByS):D Int:=gd (a.length<4611686018427387904) (.ok (Lib.lastIndex a b))
def strings_Cut (a b:ByS):D (ByS×ByS×Bool):=
 gd (a.length<4294967281) (.ok (match mj a b with|some i=>(a.take i,a.drop (i+b.length),true)|none=>(a,[],false)))
def strings_IndexByte (a:ByS) (b:Int):D Int:=.ok (match a.findIdx? (·==UInt8.ofNat b.toNat) with|some i=>(i:Int)|none=>-1)
def iN (a b:Int):D ByS:=gd (b=10/\0<=a/\a<18446744073709551616) (.ok (xG 20 a.toNat))
def mB (a:ByS) (b c:Int):D (Int×Bool):=
 gd (b=10/\c=64/\a.length<=281474976710656) (.ok (match Lib.parseIntB 64 a with|.ok v=>(v,false)|Lib.NumEnd.syntax=>(0,true)|.range=>(Lib.intSat 64 a,true)))
def nC (_ s:ByS) (_ _ e:Int):D Bool:=gd ((e=1\/e=2)/\s.length<=281474976710656) (.ok true)
section
variable {α β X:Type} {Q Q':α->Prop} {R R':rA->Prop} {F G:Nat->D α}
theorem Ev.gA {p:Prop} [Decidable p] (h:Ev F Q R) (hp:p:=by first|omega|(simp[cr,k2,mh,maxLen]<;>omega)):Ev (λi=>D.gd p (F i)) Q R:=Ev.gd hp h
theorem Ev.eA {l:List X} {j:Int} {K:Nat->X->D α} (hk:∀ x,l[j.toNat]?=Option.some x->Ev (λi=>K i x) Q R) (h:0<=j/\j<l.length:=by first|omega|(simp[cr,k2,mh,maxLen]<;>omega)):Ev (λi=>D.el l j (K i)) Q R:=Ev.el h.1 h.2 hk
theorem Ev.aO {p:Prop} [Decidable p] (ht:p->Ev F Q R) (hf:¬ p->Ev G Q R):Ev (λi=>D.br (decide p) (F i) (G i)) Q R:=
 Ev.br (λh=>ht (of_decide_eq_true h)) (λh=>hf (of_decide_eq_false h))
theorem Ev.bw [BEq β] [LawfulBEq β] {a b:β} (ht:a=b->Ev F Q R) (hf:a≠b->Ev G Q R):Ev (λi=>D.br (a==b) (F i) (G i)) Q R:=
 Ev.br (λh=>ht (beq_iff_eq.1 h)) (λh=>hf λe=>by subst e;simp at h)
theorem Ev.bP [BEq β] [LawfulBEq β] {a b:β} (ht:a≠b->Ev F Q R) (hf:a=b->Ev G Q R):Ev (λi=>D.br (a !=b) (F i) (G i)) Q R:=
 Ev.br (λh=>ht λe=>by subst e;simp at h) (λh=>hf (by simpa using h))
theorem Ev.bt {b:Bool} (ht:b=false->Ev F Q R) (hf:b=true->Ev G Q R):Ev (λi=>D.br (!b) (F i) (G i)) Q R:=
 Ev.br (λh=>ht (by simpa using h)) (λh=>hf (by simpa using h))
theorem Ev.cR (h:Ev F Q R):Ev (λi=>D.br true (F i) (G i)) Q R:=h
theorem Ev.cA (h:Ev G Q R):Ev (λi=>D.br false (F i) (G i)) Q R:=h
theorem Ev.kP {j:Nat->X->D α} {p:Nat->(X->D α)->D α} (h:Ev (λi=>p i (j i)) Q R):Ev (λi=>D.jn (j i) (p i)) Q R:=h
theorem Ev.fy {F:Nat->D α} {K:Nat->α->D β} {Qb:β->Prop} (h:Ev F Q λ_=>False) (hk:∀ a,Q a->Ev (λi=>K i a) Qb R):Ev (λi=>D.bind (F i) (K i)) Qb R:=
 Ev.bind h (λ_ q=>q.elim) hk
end
theorem lr {c:ByS} {i j:Int} (h0:0<=i) (h1:i<=j) (h2:j<=c.length):((sub c i j).length:Int)=j - i:=by
 simp only[sub,List.length_take,List.length_drop];omega
theorem kp {c:ByS} {i:Int} (h0:0<=i) (h1:i<=c.length):((dK c i).length:Int)=c.length - i:=by
 simp only[dK,List.length_drop];omega
theorem uV {c:ByS} {j:Int} (h0:0<=j) (h1:j<=c.length):((jU c j).length:Int)=j:=by
 simp only[jU,List.length_take];omega
theorem uf {c:ByS} {j:Int}:(jU c j).length<=c.length:=by simp only[jU,List.length_take];omega
theorem wW (sep:ByS):∀ (k:Nat) (s:ByS),(pF sep k s).length<=k+1
 | 0,_=>by simp[pF]
 | k+1,s=>by
  unfold pF;split
  ·simp
  have:=wW sep k (s.drop (by assumption+sep.length));simp;omega
theorem A7:∀ (f u:Nat),(xG f u).length<=f
 | 0,_=>by simp[xG]
 | f+1,u=>by
  unfold xG;split
  ·simp
  have:=A7 f (u / 10);simp;omega
theorem EH (f u:Nat):1<=(xG (f+1) u).length:=by
 unfold xG;split
 ·simp
 simp
theorem wrap_u64 (x:Int):0<=IntKind.wrap .u64 x/\IntKind.wrap .u64 x<18446744073709551616:=by
 have:IntKind.wrap .u64 x=x % 18446744073709551616:=by simp[IntKind.wrap,IntKind.bits,IntKind.signed]
 rw[this];omega
theorem F0 (b:UInt8):(b.toNat:Int)<256:=by have:=b.toNat_lt;omega
end Go.Abs
end
