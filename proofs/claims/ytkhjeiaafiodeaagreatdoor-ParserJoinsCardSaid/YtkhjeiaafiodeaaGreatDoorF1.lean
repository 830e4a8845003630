/- PROVED: lemmas of the proof of: a law CONDITIONS: as each lemma states. -/
import Derived.Test.YtkhjeiaafiodeaaGreatDoorF0
import Derived.Recover
import Derived.Laws.BytesArg
import Derived.Laws.StructEq
import Derived.Below
import Derived.Lib.ConvBytes
import Derived.Lib.IndexMore
import Derived.Lib.LastIndexLaws
import Derived.Lib.ParseIntB
section
namespace Go.Abs
def tL (l:List (Nat×AV)):List Operand->Option (List AV)
 | []=>some []
 | x::xs=>match bR l x,tL l xs with
  | some v,some vs=>some (v::vs)
  | _,_=>none
theorem lQ {l:List (Nat×AV)} {ds:List (FuncId×List AV)}:∀ {xs:List Operand} {vs:List AV},tL l xs=some vs->xs.map (Y l ds).val=vs
 | [],_,h=>by simp[tL] at h;simp[h]
 | x::xs,vs,h=>by
  simp only[tL] at h;split at h
  ·rename_i v vs' hv hvs;cases h;simp[aD hv,lQ hvs]
  cases h
mutual
theorem qg {π:Nat->Nat}:∀ {v:AV},v.only (λ_=>false)=true->v.gZ π=v
 | .any,_=>rfl
 | .oc,_=>rfl
 | .pv _,_=>rfl
 | .ptr _ _,h=>by simp[AV.only] at h
 | .arr _ _,h=>by simp[AV.only] at h
 | .sp _,_=>rfl
 | .fn f xs ys,h=>by simp only[AV.only,Bool.and_eq_true] at h;simp only[AV.gZ,qh h.1,qh h.2]
 | .agg cs,h=>by simp only[AV.only] at h;simp only[AV.gZ,qh h]
 | .gU cs,h=>by simp only[AV.only] at h;simp only[AV.gZ,qh h]
 | .mI t v,h=>by simp only[AV.only] at h;simp only[AV.gZ,qg h]
theorem qh {π:Nat->Nat}:∀ {v:List AV},AV.only.ky (λ_=>false) v=true->AV.gZ.me π v=v
 | [],_=>rfl
 | x::xs,h=>by simp only[AV.only.ky,Bool.and_eq_true] at h;simp only[AV.gZ.me,qg h.1,qh h.2]
end
theorem mZ {a b:Nat}:Nat.blt a b=true↔a<b:=by rw[Nat.blt_eq]
def fh:Nat->List M->List (Nat×M)
 | _,[]=>[]
 | i,e::es=>(i,e)::fh (i+1) es
def lR:List Nat->List M->List (Nat×M)
 | k::ks,e::es=>(k,e)::lR ks es
 | _,_=>[]
def uv (s:List (Nat×M)):List Nat->Option (List M)
 | []=>some []
 | k::ks=>match dZ s k,uv s ks with
  | some e,some es=>some (e::es)
  | _,_=>none
def nodupB:List Nat->Bool
 | []=>true
 | k::ks=>!ks.any (Nat.beq k)&&nodupB ks
def kz (π:Nat->Nat):List M->List M
 | []=>[]
 | e::es=>e.gZ π::kz π es
def M.oq (p:Nat->Bool):M->Bool
 | .app _ _ _=>true
 | .box cs=>AV.only.ky p cs
 | .arr _ _ _=>true
theorem uw (p:Nat->Bool):∀ l:List PV,AV.only.ky p (l.map .pv)=true
 | []=>rfl
 | x::l=>by simp[AV.only.ky,AV.only,uw p l]
theorem M.Gw {p:Nat->Bool}:∀ {e:M},e.oq p=true->AV.only.ky p e.cells=true
 | .app _ _ c,_=>uw p c
 | .box _,h=>h
 | .arr _ _ c,_=>uw p c
def jR (p:Nat->Bool):List M->Bool
 | []=>true
 | e::es=>e.oq p&&jR p es
def nth:List Nat->Nat->Nat
 | [],_=>0
 | k::_,0=>k
 | _::ks,j+1=>nth ks j
def below (m:Nat):Nat->Bool:=λj=>Nat.blt j m
theorem fZ:∀ {es:List M} {i j:Nat} {e:M},U (fh i es) j=some e->i<=j/\es[j - i]?=some e
 | [],_,_,_,h=>by cases h
 | a::es,i,j,e,h=>by
  simp only[fh,U,kN] at h;split at h
  ·rename_i q;cases h;subst q;simp
  rename_i q;obtain ⟨h1,h2⟩:=fZ (es:=es) (i:=i+1) h;refine ⟨by omega,?_⟩;rw[show j - i=(j - (i+1))+1 by omega];simpa using h2
theorem nq {es:List M}:∀ {i j:Nat} {e:M},es[j]?=some e->U (fh i es) (i+j)=some e:=by
 induction es with
 | nil=>intro i j e h;simp at h
 | cons a es ih=>
  intro i j e h
  cases j with
  | zero=>simp at h;simp[fh,U,kN,h]
  | succ j=>
   have:=ih (i:=i+1) (j:=j) (by simpa using h)
   simp only[U] at this
   simp only[fh,U,kN]
   rw[if_neg (by omega),show i+(j+1)=i+1+j by omega];exact this
theorem og:∀ {ks:List Nat},nodupB ks=true->∀ {i j:Nat},i<ks.length->j<ks.length->nth ks i=nth ks j->i=j:=by
 have mem:∀ {ks:List Nat} {j:Nat},j<ks.length->nth ks j∈ks:=by
  intro ks
  induction ks with
  | nil=>intro j h;simp at h
  | cons k ks ih=>
   intro j h
   cases j with
   | zero=>simp[nth]
   | succ j=>simp only[nth];exact List.mem_cons_of_mem _ (ih (by simpa using h))
 intro ks
 induction ks with
 | nil=>intro _ i j h;simp at h
 | cons k ks ih=>
  intro h i j hi hj he
  simp only[nodupB,Bool.and_eq_true,Bool.not_eq_true'] at h
  have hk:∀ j,j<ks.length->nth ks j≠k:=λj hj q=>by
   have h1:=mem hj;rw[q] at h1;have:ks.any (Nat.beq k)=true:=List.any_eq_true.2 ⟨k,h1,by simp⟩;rw[h.1] at this;cases this
  cases i with
  | zero=>
   cases j with
   | zero=>rfl
   | succ j=>simp only[nth] at he;exact absurd he.symm (hk j (by simpa using hj))
  | succ i=>
   cases j with
   | zero=>simp only[nth] at he;exact absurd he (hk i (by simpa using hi))
   | succ j=>simp only[nth] at he;rw[ih h.2 (by simpa using hi) (by simpa using hj) he]
theorem oO {s:List (Nat×M)}:∀ {ks:List Nat} {es:List M},uv s ks=some es->es.length=ks.length/\∀ j e,es[j]?=some e->U s (nth ks j)=some e
 | [],_,h=>by simp[uv] at h;simp[h]
 | k::ks,es,h=>by
  simp only[uv] at h;split at h
  ·rename_i e es' he hes;cases h;obtain ⟨h1,h2⟩:=oO hes;refine ⟨by simp[h1],λj e' hj=>?_⟩;cases j with
   | zero=>simp at hj;subst hj;exact bX he
   | succ j=>exact h2 j e' (by simpa using hj)
  cases h
theorem na (π:Nat->Nat):∀ {es:List M} {j:Nat},(kz π es)[j]?=(es[j]?).map (M.gZ π)
 | [],_=>by simp[kz]
 | e::es,0=>by simp[kz]
 | e::es,j+1=>by simp[kz,na π (es:=es)]
theorem iD (π:Nat->Nat):∀ es:List M,(kz π es).length=es.length
 | []=>rfl
 | _::es=>by simp[kz,iD π es]
theorem sy {p:Nat->Bool}:∀ {es:List M},jR p es=true->∀ {j:Nat} {e:M},es[j]?=some e->AV.only.ky p e.cells=true
 | [],_,j,e,h=>by simp at h
 | a::es,h,0,e,he=>by simp only[jR,Bool.and_eq_true] at h;simp at he;subst he;exact M.Gw h.1
 | a::es,h,j+1,e,he=>by simp only[jR,Bool.and_eq_true] at h;exact sy h.2 (by simpa using he)
def wW (k:Nat) (ks:List Nat):List (Nat×M)->Bool
 | []=>false
 | (j,e)::s=>(!ks.any (Nat.beq j)&&e.mq k)||wW k ks s
def Cy (l:List (Nat×AV)) (ds:List (FuncId×List AV)) (s:List (Nat×M)) (ks0:List Nat):List Nat->List M->Bool
 | _::ks,.box _::es=>Cy l ds s ks0 ks es
 | k::ks,_::es=>!lE k l&&!jO k ds&&!wW k ks0 s&&Cy l ds s ks0 ks es
 | _,_=>true
def xR (E:Env):List Nat->List M->Prop
 | _::ks,.box _::es=>xR E ks es
 | k::ks,_::es=>E.fix k=none/\xR E ks es
 | _,_=>True
theorem mQ {k:Nat} {ks:List Nat}:∀ {s:List (Nat×M)},wW k ks s=false->∀ j e,ks.any (Nat.beq j)=false->U s j=some e->AV.eP.fW k e.cells=false
 | [],_,j,e,_,h=>by cases h
 | (i,v)::s,h,j,e,hj,he=>by
  simp only[wW,Bool.or_eq_false_iff] at h;simp only[U,kN] at he;split at he
  ·rename_i q;cases he;subst q;exact M.zp (by simpa[hj] using h.1)
  exact mQ h.2 j e hj he
theorem vd {E:Env} {l:List (Nat×AV)} {ds:List (FuncId×List AV)} {s:List (Nat×M)} {ks0:List Nat}:∀ {ks:List Nat} {es:List M},Cy l ds s ks0 ks es=true->xR E ks es->∀ {j:Nat} {e:M},
  j<ks.length->es[j]?=some e->(∃ cs,e=.box cs)\/(lE (nth ks j) l=false/\jO (nth ks j) ds=false/\wW (nth ks j) ks0 s=false/\E.fix (nth ks j)=none)
 | [],_,_,_,j,e,hj,_=>by simp at hj
 | _::_,[],_,_,j,e,_,he=>by simp at he
 | k::ks,.box cs::es,h,hf,0,e,_,he=>by simp at he;exact .inl ⟨cs,he.symm⟩
 | k::ks,.box cs::es,h,hf,j+1,e,hj,he=>vd (ks:=ks) (es:=es) h hf (by simpa using hj) (by simpa using he)
 | k::ks,.arr _ _ _::es,h,hf,0,e,_,he=>by
  simp only[Cy,Bool.and_eq_true,Bool.not_eq_true'] at h
  exact .inr ⟨h.1.1.1,h.1.1.2,h.1.2,hf.1⟩
 | k::ks,.arr _ _ _::es,h,hf,j+1,e,hj,he=>by
  simp only[Cy,Bool.and_eq_true] at h
  exact vd (ks:=ks) (es:=es) h.2 hf.2 (by simpa using hj) (by simpa using he)
 | k::ks,.app _ _ _::es,h,hf,0,e,_,he=>by
  simp only[Cy,Bool.and_eq_true,Bool.not_eq_true'] at h
  exact .inr ⟨h.1.1.1,h.1.1.2,h.1.2,hf.1⟩
 | k::ks,.app _ _ _::es,h,hf,j+1,e,hj,he=>by
  simp only[Cy,Bool.and_eq_true] at h
  exact vd (ks:=ks) (es:=es) h.2 hf.2 (by simpa using hj) (by simpa using he)
theorem zI {s:List (Nat×M)}:∀ {ks:List Nat} {es:List M},es.length=ks.length->nodupB ks=true->∀ k,
  U (lR ks es++s) k=match (List.range ks.length).find? (λj=>nth ks j==k) with|some j=>es[j]?|none=>U s k:=by
 intro ks
 induction ks with
 | nil=>intro es _ _ k;cases es<;>simp[lR]
 | cons a ks ih=>
  intro es hl hn k
  cases es with
  | nil=>simp at hl
  | cons e es=>
   simp only[nodupB,Bool.and_eq_true] at hn
   have hr:List.range (a::ks).length=0::(List.range ks.length).map (·+1):=by
    rw[List.length_cons,List.range_succ_eq_map]
   rw[hr]
   simp only[List.find?_cons,nth]
   by_cases q:a=k
   ·subst q;simp[lR,U,kN]
   ·have q':(a==k)=false:=by simpa using q
    have:=ih (es:=es) (by simpa using hl) hn.2 k
    simp only[U] at this
    simp only[q',lR,List.cons_append,U,kN]
    rw[if_neg (λh=>q h.symm),this]
    rw[List.find?_map]
    have:((λj=>nth (a::ks) j==k) ∘ (·+1))=λj=>nth ks j==k:=by funext j;simp[nth]
    rw[this]
    cases (List.range ks.length).find? (λj=>nth ks j==k)<;>simp
def qi {X:Type} (V:X->AV) (C:X->List M) (G:X->Prop) (H:AV->Prop):pc->Z->Prop:=
 λae σ=>(∃ x,G x/\ae=.ret (V x)/\σ=U (fh 0 (C x)))\/(∃ v,H v/\ae=.panic v/\σ=U [])
theorem zJ {ks:List Nat} {k:Nat} (h:(List.range ks.length).any (λi=>nth ks i==k)=false):ks.any (Nat.beq k)=false:=by
 rw[List.any_eq_false] at h ⊢;intro x hx q;obtain ⟨i,hi,rfl⟩:=List.getElem_of_mem hx;have key:∀ (ks:List Nat) (i:Nat) (h:i<ks.length),nth ks i=ks[i]:=by
  intro ks
  induction ks with
  | nil=>intro i h;simp at h
  | cons a ks ih=>
   intro i h
   cases i with
   | zero=>rfl
   | succ i=>simp only[nth];exact ih i (by simpa using h)
 refine h i (by simpa using hi) ?_;rw[key ks i hi];have:=Nat.eq_of_beq_eq_true q;simp[this]
section
variable {P:Program} {E:Env} {n:Nat} {ops:Array Oper} {Q:eB} {rest:List Oper} {l:List (Nat×AV)} {ds:List (FuncId×List AV)} {s:List (Nat×M)}
structure lS (E:Env) (ds:List (FuncId×List AV)) (l:List (Nat×AV)) (s:List (Nat×M)) (ks:List Nat) (f:Operand) (args:List Operand) (fid:FuncId) (argsC:List AV) (es:List M) (first cap vs:List AV) (l':List (Nat×AV):=l):Prop where
 f:bR l f=some (.fn fid first cap)
 a:tL l args=some vs
 e:first++vs++cap=AV.gZ.me (nth ks) argsC
 gs:uv s ks=some (kz (nth ks) es)
 nd:nodupB ks=true
 bx:Cy l' ds s ks ks es=true
 fx:xR E ks es
theorem wX {o:Oper} {X:Type} {V:X->AV} {C:X->List M} {G:X->Prop} {H:AV->Prop} {f:Operand} {args:List Operand} {ts:Array TypeId} {fid:FuncId} {argsC first cap vs:List AV} {es:List M}
  {next:eZ->Z->Prop} {l':List (Nat×AV)} (hwk:(Y l ds).le (Y l' ds)) (ks:List Nat) (hen:Enters P fid) (ho:o.op=.call ⟨.value f,args.toArray,ts⟩) (hC:SC P fid argsC (U (fh 0 es)) (qi V C G H)) (hk:lS E ds l s ks f args fid argsC es first cap vs l')
  (hd:∀ d,o.dst=some d->d<n) (hx:∀ x,G x->(C x).length=ks.length/\jR (below ks.length) (C x)=true/\(V x).only (below ks.length)=true)
  (hret:∀ x,G x->next ((Y l' ds).iW o.dst ((V x).gZ (nth ks))) (U (lR ks (kz (nth ks) (C x))++s)))
  (hpan:∀ v,H v->v.only (λ_=>false)=true/\Q (.panic v) (Y l' ds) (after (U s) (nth ks) (List.range ks.length) [] (U []))):Step P E n Q o (Y l ds) (U s) next:=by
 obtain ⟨hl,hat⟩:=oO hk.gs
 rw[iD] at hl
 have hcon:∀ j,(List.range ks.length).contains j=below ks.length j:=λj=>by
  have h1:(List.range ks.length).contains j=decide (j<ks.length):=by
   by_cases q:j<ks.length<;>simp[q]
  rw[h1];simp only[below]
  by_cases q:j<ks.length
  ·simp[q,mZ.2 q]
  ·have:Nat.blt j ks.length=false:=by
    cases h:Nat.blt j ks.length with
    | false=>rfl
    | true=>exact absurd (mZ.1 h) q
   simp[q,this]
 have hconf:(List.range ks.length).contains=below ks.length:=funext hcon
 have hltr:∀ j,below ks.length j=true->j<ks.length:=λj h=>mZ.1 h
 have hsome:∀ j,(U (fh 0 es) j).isSome=true->j<ks.length:=λj hj=>by
  cases q:U (fh 0 es) j with
  | none=>rw[q] at hj;cases hj
  | some e=>
   obtain ⟨_,h2⟩:=fZ q
   have:=(List.getElem?_eq_some_iff.1 h2).1
   simp at this;omega
 refine wP hwk (nth ks) (List.range ks.length) hen ho (aD hk.f) (by rw[lQ hk.a];exact hk.e) hC (λj hj=>by simpa using hsome j hj) (λj e hj=>?_)
  (λj j' hj hj' he=>og hk.nd (hsome j hj) (hsome j' hj') he) hd (λv σc hr=>?_) (λv σc hr=>?_)
 ·obtain ⟨_,h2⟩:=fZ hj
  exact hat j _ (by rw[na,show j=j - 0 by omega,h2];rfl)
 ·rcases hr with ⟨x,hg,he,rfl⟩|⟨_,_,he,_⟩
  ·cases he
   obtain ⟨h1,h2,h3⟩:=hx x hg
   refine ⟨List.range ks.length,{ Gt:=λj e hj=>?_,val:=by rw[hconf];exact h3,inj:=λj j' hj hj' he=>og hk.nd (by simpa using hj) (by simpa using hj') he,same:=λj hj=>?_ },?_⟩
   ·obtain ⟨_,h4⟩:=fZ hj
    have h5:=(List.getElem?_eq_some_iff.1 h4).1
    exact ⟨by simp;omega,by rw[hconf];exact sy h2 h4⟩
   ·have hj':j<es.length:=by simp at hj;omega
    rcases vd hk.bx hk.fx (by simpa using hj) (List.getElem?_eq_getElem hj') with ⟨cs,hcs⟩|⟨q1,q2,q3,q4⟩
    ·exact .inl ⟨cs,by have:=nq (i:=0) (List.getElem?_eq_getElem hj');rw[hcs] at this;simpa using this⟩
    ·exact .inr ⟨gO q1 q2,λk e hkl he=>mQ q3 k e (zJ hkl) he,q4⟩
   ·have:after (U s) (nth ks) (List.range ks.length) (List.range ks.length) (U (fh 0 (C x)))=U (lR ks (kz (nth ks) (C x))++s):=by
     funext k
     rw[zI (by rw[iD,h1]) hk.nd]
     simp only[after]
     cases hf:(List.range ks.length).find? (λj=>nth ks j==k) with
     | some j=>
      have hj:=List.mem_of_find?_eq_some hf
      simp at hj
      simp only[na]
      have:j<(C x).length:=by omega
      rw[List.getElem?_eq_getElem this]
      have h6:=nq (i:=0) (List.getElem?_eq_getElem this)
      simp at h6
      rw[h6]
     | none=>
      have:(List.range ks.length).any (λj=>nth ks j==k)=false:=by
       rw[List.any_eq_false];intro j hj
       have:=List.find?_eq_none.1 hf j hj
       simpa using this
      simp[this]
    rw[this];exact hret x hg
  ·cases he
 ·rcases hr with ⟨_,_,he,_⟩|⟨v',hh,he,rfl⟩
  ·cases he
  ·cases he
   obtain ⟨h1,h2⟩:=hpan v hh
   refine ⟨[],{ Gt:=λj e hj=>(by cases hj),val:=?_,inj:=λj _ hj=>(by simp at hj),same:=λj hj=>(by simp at hj) },?_⟩
   ·have:([]:List Nat).contains=λ_=>false:=by funext k;simp
    rw[this];exact h1
   ·rw[qg h1];exact h2
theorem Dh {o:Oper} {X:Type} {V:X->AV} {C:X->List M} {G:X->Prop} {H:AV->Prop} {f:Operand} {args:List Operand} {ts:Array TypeId} {fid:FuncId} {argsC first cap vs:List AV} {es:List M}
  {next:eZ->Z->Prop} (ks:List Nat) (hen:Enters P fid) (ho:o.op=.call ⟨.value f,args.toArray,ts⟩) (hC:SC P fid argsC (U (fh 0 es)) (qi V C G H)) (hk:lS E ds l s ks f args fid argsC es first cap vs)
  (hd:∀ d,o.dst=some d->d<n) (hx:∀ x,G x->(C x).length=ks.length/\jR (below ks.length) (C x)=true/\(V x).only (below ks.length)=true)
  (hret:∀ x,G x->next ((Y l ds).iW o.dst ((V x).gZ (nth ks))) (U (lR ks (kz (nth ks) (C x))++s)))
  (hpan:∀ v,H v->v.only (λ_=>false)=true/\Q (.panic v) (Y l ds) (after (U s) (nth ks) (List.range ks.length) [] (U []))):Step P E n Q o (Y l ds) (U s) next:=
 wX ⟨λ_=>.inl rfl,rfl⟩ ks hen ho hC hk hd hx hret hpan
end
section
variable {P:Program} {E:Env} {n:Nat} {ops:Array Oper} {Q:eB} {rest:List Oper} {l:List (Nat×AV)} {ds:List (FuncId×List AV)} {s:List (Nat×M)}
 {ty:TypeId} {pos:String} {af:Array Edge}
theorem mR {d n:Nat} (h:Nat.blt d n=true):∀ x,some d=some x->x<n:=λx hx=>by cases hx;exact mZ.1 h
theorem aJ {d:Nat} {t:TypeId} {z:List Value} [hz:k3 P t z] {zs:List AV} (nm:Nat) (hE:E.fix nm=none)
  (h:z.map (λv=>AV.pv (.sc v))=zs/\lE nm l=false/\jO nm ds=false/\nZ nm s=false)
  (hd:Nat.blt d n=true) (hn:SL P E n ops Q rest (Y ((d,.ptr nm 0)::l) ds) (U ((nm,.box zs)::s))):SL P E n ops Q (⟨some d,.alloc t,ty,pos,af,none⟩::rest) (Y l ds) (U s):=
 jo rfl (zi (AH nm hz.h) (gO h.2.1 h.2.2.1) (jP h.2.2.2) hE (mR hd) (by rw[h.1];exact hn))
def AR:List AV->Nat->List AV->List AV
 | cs,0,v=>J4 cs v
 | [],_+1,_=>[]
 | c::cs,k+1,v=>c::AR cs k v
where
 J4:List AV->List AV->List AV
  | cs,[]=>cs
  | [],_::_=>[]
  | _::cs,v::vs=>v::J4 cs vs
theorem Ec:∀ {cs v:List AV},v.length<=cs.length->AR.J4 cs v=v++cs.drop v.length
 | cs,[],_=>by simp[AR.J4]
 | [],_::_,h=>by simp at h
 | c::cs,v::vs,h=>by simp[AR.J4,Ec (cs:=cs) (v:=vs) (by simpa using h)]
theorem Cz:∀ {cs:List AV} {off:Nat} {v:List AV},off+v.length<=cs.length->AR cs off v=cs.take off++v++cs.drop (off+v.length)
 | cs,0,v,h=>by simp[AR,Ec (cs:=cs) (v:=v) (by simpa using h)]
 | [],k+1,v,h=>by simp at h
 | c::cs,k+1,v,h=>by
  simp only[AR];rw[Cz (cs:=cs) (off:=k) (v:=v) (by simp at h;omega)];simp[show k+1+v.length=(k+v.length)+1 by omega]
def M.put (off:Nat) (v:List AV):M->M
 | .box cs=>.box (AR cs off v)
 | e=>e
def M.wY:M->Bool
 | .box _=>true
 | _=>false
theorem put_eq {e:M} {off:Nat} {v:List AV} (hb:e.wY=true) (h:off+v.length<=e.cells.length):e.Cq off v=e.put off v:=by
 cases e with
 | box cs=>simp only[M.Cq,M.put];rw[Cz (cs:=cs) h]
 | arr el sz cs=>cases hb
 | app el sz cs=>cases hb
theorem ve {e:M} (h:e.wY=true):e.isApp=false:=by cases e<;>first|rfl|cases h
theorem vf {e:M} {p:Prop} (h:e.wY=true) (q:e.D6=true):p:=by cases e with|box _=>cases q|arr _ _ _=>cases h|app _ _ _=>cases h
theorem Ed {t:TypeId} {x y:Operand} {k off m:Nat} {e:M} {v:AV} {c:List AV} [ht:mJ P t m]
  (h:bR l x=some (.ptr k off)/\dZ s k=some e/\e.wY=true/\bR l y=some v/\v.fY=some c/\AV.jK c=true/\c.length=m/\Nat.ble (off+c.length) e.cells.length=true)
  (hn:∀ e',e.put off c=e'->SL P E n ops Q rest (Y l ds) (U ((k,e')::s))):SL P E n ops Q (⟨none,.store t x y,ty,pos,af,none⟩::rest) (Y l ds) (U s):=by
 obtain ⟨hx,hk,hea,hy,hc,h1,hm,hl⟩:=h
 have hl':=Nat.le_of_ble_eq_true hl
 refine jo rfl (qP rfl rfl (aD hx) (bX hk) (ve hea) (by rw[aD hy];exact hc) h1 (by rw[hm];exact ht.h) hl' (vf hea) ?_)
 rw[put_eq hea hl'];exact hn _ rfl
theorem J5 {d:Nat} {t e:TypeId} {m sz:Nat} {parts:List (Nat×Operand)} {zs:List Value} {pl:List (Nat×Nat)} {pv:List (Nat×AV)} {cells:List PV} [ht:k4 P t m e sz zs pl]
  (h:parts.mapM (λp=>(bR l p.2).map λv=>(p.1,v))=some pv/\mc pl (zs.map λv=>.pv (.sc v)) pv=some (cells.map .pv)) (hd:Nat.blt d n=true)
  (hn:SL P E n ops Q rest (Y ((d,.pv (.sl m cells))::l) ds) (U s)):SL P E n ops Q (⟨some d,.buildSlice t m parts.toArray,ty,pos,af,none⟩::rest) (Y l ds) (U s):=by
 refine jo rfl (Gq (tH ht.h ?_) (mR hd) hn)
 have key:∀ (ps:List (Nat×Operand)) (pv:List (Nat×AV)),ps.mapM (λp=>(bR l p.2).map λv=>(p.1,v))=some pv->(ps.map λp=>(p.1,(Y l ds).val p.2))=pv:=by
  intro ps
  induction ps with
  | nil=>intro pv h;simp at h;simp[h]
  | cons p ps ih=>
   intro pv h
   rw[List.mapM_cons] at h
   cases hv:bR l p.2 with
   | none=>simp[hv] at h
   | some v=>
    cases hr:ps.mapM (λp=>(bR l p.2).map λv=>(p.1,v)) with
    | none=>simp[hv,hr] at h
    | some r=>
     simp[hv,hr] at h
     subst h
     simp[ih r hr,aD (ds:=ds) hv]
 rw[key parts pv h.1];exact h.2
theorem BO {fn:Func} {X:Type} {V:X->AV} {C:X->List M} {G:X->Prop} {H:AV->Prop} {v:AV} {fr:eZ} {σ:Z} (hd:fr.ds=[]) (h:H v):nN P fn (qi V C G H) (.panic v) fr σ:=
 ⟨hd,U [],λk e hk=>(by cases hk),.inr ⟨v,h,rfl,rfl⟩⟩
theorem AS {es:List M} (h:∀ j e,es[j]?=some e->dZ s j=some e):∀ k e,U (fh 0 es) k=some e->U s k=some e:=λk e hk=>by
 obtain ⟨_,h2⟩:=fZ hk;exact bX (h k e (by simpa using h2))
def vg (s:List (Nat×M)):Nat->List M->Prop
 | _,[]=>True
 | i,e::es=>dZ s i=some e/\vg s (i+1) es
theorem vh:∀ {es:List M} {i:Nat},vg s i es->∀ j e,es[j]?=some e->dZ s (i+j)=some e
 | [],_,_,j,e,h=>by simp at h
 | a::es,i,h,0,e,he=>by simp at he;subst he;exact h.1
 | a::es,i,h,j+1,e,he=>by
  have:=vh h.2 j e (by simpa using he);rw[show i+(j+1)=i+1+j by omega];exact this
theorem nr {fn:Func} {X:Type} {V:X->AV} {C:X->List M} {G:X->Prop} {H:AV->Prop} {vs:List AV} {ae:tI} (hae:ae=.ret\/ae=.normal) (x:X) (hr:Df P (Y l []) (U s) fn.results.toList vs)
  (hg:G x) (hle:(nM vs).le (V x)) (hm:vg s 0 (C x)):nN P fn (qi V C G H) ae (Y l []) (U s):=by
 have h:(Y l []).ds=[]/\∃ vs v σ',Df P (Y l []) (U s) fn.results.toList vs/\(nM vs).le v/\(∀ k e,σ' k=some e->U s k=some e)/\qi V C G H (.ret v) σ':=
  ⟨rfl,vs,V x,U (fh 0 (C x)),hr,hle,AS (λj e hj=>by have:=vh hm j e hj;simpa using this),.inl ⟨x,hg,rfl,rfl⟩⟩
 rcases hae with rfl|rfl
 ·exact h
 ·exact h
theorem bp {t:Nat} {v:AV} (h:kf l t=some v):RV P (Y l ds) (U s) (.tmp t) v:=by rw[<- fK h];exact .tmp t
theorem aY {a k:Nat} {t:TypeId} {cs:List AV} {m:Nat} [ht:mJ P t m] [ha:ja P t true] (hk:kf l a=some (.ptr k 0)) (hs:dZ s k=some (.box cs)) (hm:cs.length=m) :
 RV P (Y l ds) (U s) (.cell a t) (.agg cs):=.agg (fK hk) (bX hs) (by rw[hm];exact ht.h) ha.h
theorem zN {a k:Nat} {t:TypeId} {c:AV} [ha:ja P t false] (hk:kf l a=some (.ptr k 0)) (hs:dZ s k=some (.box [c])):RV P (Y l ds) (U s) (.cell a t) c:=.one (fK hk) (bX hs) ha.h
theorem wZ (args:List AV):(⟨λi=>args[i]?.getD .any,[]⟩:eZ)=Y ((List.range args.length).zip args) []:=by
 simp only[Y,eZ.mk.injEq,and_true];funext i;have key:∀ (l:List AV) (k i:Nat),kY ((List.range' k l.length).zip l) (k+i)=l[i]?.getD .any:=by
  intro l
  induction l with
  | nil=>intro k i;simp[kY]
  | cons a l ih=>
   intro k i
   simp only[List.length_cons,List.range'_succ,List.zip_cons_cons,kY]
   cases i with
   | zero=>simp
   | succ i=>
    rw[if_neg (by omega),show k+(i+1)=k+1+i by omega,ih];simp
 have:=key args 0 i;rw[List.range_eq_range'];simpa using this.symm
def k5:List M->Nat->Bool
 | [],_=>true
 | .box _::_,0=>false
 | _::_,0=>true
 | _::es,k+1=>k5 es k
theorem Gx {f:FuncId} {fn:Func} {c:Code} {args:List AV} {es:List M} {R:pc->Z->Prop} (hf:P.funcs[f]?=some fn) (hb:fn.body=some c) (hn:Nat.ble args.length fn.ntmps=true)
  (h:∀ E:Env,(∀ k,k5 es k=true->E.fix k=none)->SW P E fn.ntmps c (nN P fn R) (Y ((List.range args.length).zip args) []) (U (fh 0 es))):SC P f args (U (fh 0 es)) R:=
 D8 hf hb (Nat.le_of_ble_eq_true hn) λE hE=>by
  rw[wZ]
  refine h E λk hk=>hE k λcs hcs=>?_
  obtain ⟨_,h2⟩:=fZ hcs
  have h3:∀ (es:List M) (k:Nat),k5 es k=true->es[k]?≠some (.box cs):=by
   intro es
   induction es with
   | nil=>intro k _;simp
   | cons e es ih=>
    intro k hk
    cases k with
    | zero=>intro q;simp at q;subst q;simp[k5] at hk
    | succ k=>simpa using ih k (by cases e<;>simpa[k5] using hk)
  exact h3 es k hk (by simpa using h2)
end
section
variable {P:Program} {E:Env} {n:Nat} {ops:Array Oper} {Q:eB}
variable (P E n ops Q) in
abbrev DX (x y:Nat):List Nat->List Rec->eZ->Z->Prop:=mE P E n ops Q λrecs fr σ=>DW P E n ops Q [x,y] recs fr σ/\DW P E n ops Q [y,x] recs fr σ
theorem Inv.swap {x y:Nat} {listed:Array Bool} {recs:List Rec} {fr:eZ} {σ:Z} (h:Inv P E n ops listed [x,y] recs fr σ) (hp:mf ops [y,x]=true):Inv P E n ops listed [y,x] recs fr σ:=
 {
  size:=h.size
  todo:=λi hi=>h.todo i (by simp at hi ⊢;exact hi.symm)
  done:=λi o ho hi=>h.done i o ho (by simp at hi ⊢;exact ⟨hi.2,hi.1⟩)
  iL:=λr hr=>by
   obtain ⟨h1,h2⟩:=h.iL r hr;exact ⟨by simp at h1 ⊢;exact ⟨h1.2,h1.1⟩,h2⟩
  wU:=λi hi=>h.wU i (by simp at hi ⊢;exact hi.symm)
  apart:=h.apart,names:=h.names,yp:=h.yp
  vM:=λi j hi hiL hj=>h.vM i j hi (by simp at hiL ⊢;exact ⟨hiL.2,hiL.1⟩) (by simp at hj ⊢;exact hj.symm)
  uZ:=hp
  down:=h.down,yq:=h.yq,reads:=h.reads,iS:=h.iS,ds:=h.ds,Dg:=h.Dg,sq:=h.sq }
theorem AT {x y:Nat} {listed:Array Bool} {i:Nat} {o:Oper} (ho:ops[i]?=some o) (hr:∀ e,e∈o.after.toList->Region.binds .any e=true->qd listed e.on=true) :
  ∀ (L:List Nat) (recs:List Rec) (fr:eZ) (σ:Z) (g:Gh) (a:Act) (w:World),i∈L++[x,y]->strict ops (L++[x])=true->strict ops (L++[y])=true->Inv P E n ops listed (L++[x,y]) recs fr σ->DX P E n ops Q x y L recs fr σ->
   Rel E g (eV σ (mS listed recs)) w->FR n g (fe fr (mF listed recs)) a->
   (∃ L' recs' fr' σ',strict ops (i::L'++[x])=true/\strict ops (i::L'++[y])=true/\Inv P E n ops listed (i::(L'++[x,y])) recs' fr' σ'/\DX P E n ops Q x y (i::L') recs' fr' σ'/\Rel E g (eV σ' (mS listed recs')) w/\FR n g (fe fr' (mF listed recs')) a)\/
   ((i=x\/i=y)/\∃ recs' fr' σ',Inv P E n ops listed [x,y] recs' fr' σ'/\DX P E n ops Q x y [] recs' fr' σ'/\Rel E g (eV σ' (mS listed recs')) w/\FR n g (fe fr' (mF listed recs')) a)
 | [],recs,fr,σ,g,a,w,hi,_,_,hI,hD,hR,hF=>.inr ⟨by simpa using hi,recs,fr,σ,hI,hD,hR,hF⟩
 | c::L,recs,fr,σ,g,a,w,hi,hs1,hs2,hI,hD,hR,hF=>by
  by_cases q:c=i
  ·subst q;exact .inl ⟨L,recs,fr,σ,hs1,hs2,hI,hD,hR,hF⟩
  ·have hiL:i∈L++[x,y]:=by
    rcases List.mem_cons.1 hi with h|h
    ·exact absurd h.symm q
    ·exact h
   obtain ⟨oc,hoc,hS⟩:=hD
   have hPP:=hI.uZ
   simp only[List.cons_append,mf,Bool.and_eq_true] at hPP
   have hpair:pN ops c i=true:=List.all_eq_true.1 hPP.1.2 i hiL
   have hhv:ep oc=false:=by
    cases h:ep oc with
    | false=>rfl
    | true=>
     have h1:nj ops ops.size i c=true:=by
      rcases (lP hoc ho hpair).2.2 h with h0|h0
      ·have:i∈L++[x]\/i∈L++[y]:=by
        simp only[List.mem_append,List.mem_cons,List.not_mem_nil,or_false] at hiL ⊢
        rcases hiL with h|h|h
        ·exact .inl (.inl h)
        ·exact .inl (.inr h)
        ·exact .inr (.inr h)
       rcases this with hm|hm
       ·exact uX hs1 hm hoc ho h h0
       ·exact uX hs2 hm hoc ho h h0
      ·exact h0
     have h2:=oM hI.down _ _ _ o ho hr h1
     rw[(hI.todo c (by simp)).2] at h2;cases h2
   obtain ⟨r,recs',fr',σ',rfl,_,hn,hI',hR',hF'⟩:=walk hI hoc hhv hS hR hF
   exact AT ho hr L _ fr' σ' g a w hiL (jq hs1) (jq hs2) hI' hn hR' hF'
theorem IJ {x y:Nat} {ox oy:Oper} (hox:ops[x]?=some ox) (hoy:ops[y]?=some oy) (hhx:ep ox=true) (hhy:ep oy=true) (hpp:mf ops [y,x]=true)
  (hsm:∀ i o,ops[i]?=some o->∀ e,e∈o.after.toList->Region.binds .any e=true->e.on<i) :
  ∀ (fuel:Nat) (listed:Array Bool) (L:List Nat) (recs:List Rec) (fr:eZ) (σ:Z) (g:Gh) (a:Act) (w:World),left ops listed<=fuel->strict ops (L++[x])=true->strict ops (L++[y])=true->Inv P E n ops listed (L++[x,y]) recs fr σ->DX P E n ops Q x y L recs fr σ->
   Rel E g (eV σ (mS listed recs)) w->FR n g (fe fr (mF listed recs)) a->wpAny P .any ops (LQ E n Q) fuel listed a w:=by
 intro fuel
 have never:∀ listed L recs fr σ,Inv P E n ops listed (L++[x,y]) recs fr σ->(∀ i,i<ops.size->qd listed i=true)->False:=λlisted L recs fr σ hI hall=>by
  have:=hI.todo x (by simp)
  rw[hall x this.1] at this;cases this.2
 induction fuel with
 | zero=>
  intro listed L recs fr σ g a w hfu hs1 hs2 hI hD hR hF
  exfalso
  refine never listed L recs fr σ hI λi hi=>?_
  have:left ops listed=0:=by omega
  unfold left at this
  rw[List.countP_eq_zero] at this
  simpa using this i (by simpa using hi)
 | succ fuel ih=>
  intro listed L recs fr σ g a w hfu hs1 hs2 hI hD hR hF
  refine ⟨λhnil=>(never listed L recs fr σ hI (Cv hI hsm hnil)).elim,λi hi=>?_⟩
  obtain ⟨h1,h2,o,ho,hr⟩:=tY hI.size hi
  have hlf:left ops (listed.setIfInBounds i true)<=fuel:=by have:=AP hI.size h1 h2;omega
  have hpend:∀ L recs fr σ g a w,strict ops (L++[x])=true->strict ops (L++[y])=true->(∃ r,r∈lO listed recs/\r.i=i)->Inv P E n ops listed (L++[x,y]) recs fr σ->DX P E n ops Q x y L recs fr σ->Rel E g (eV σ (mS listed recs)) w->FR n g (fe fr (mF listed recs)) a->
    wpOp P ops (LQ E n Q) i (wpAny P .any ops (LQ E n Q) fuel (listed.setIfInBounds i true)) a w:=by
   rintro L recs fr σ g a w hs1 hs2 ⟨r,hrp,hri⟩ hI hD hR hF
   exact AO hI ho hr hrp hri hR hF λg' a' w' hI' hR' hF'=>ih _ L recs fr σ g' a' w' hlf hs1 hs2 hI' hD hR' hF'
  by_cases hiL:i∈L++[x,y]
  ·rcases AT ho hr L recs fr σ g a w hiL hs1 hs2 hI hD hR hF with ⟨L',recs',fr',σ',hs1',hs2',hI',hD',hR',hF'⟩|⟨hxy,recs',fr',σ',hI',hD',hR',hF'⟩
   ·obtain ⟨oc,hoc,hS⟩:=hD'
    rw[ho] at hoc;cases hoc
    cases hh:ep o with
    | true=>
     exact u9 hI' ho hh hr hS hR' hF' λg2 fr2 σ2 a2 w2 hn hI2 hR2 hF2=>ih _ L' recs' fr2 σ2 g2 a2 w2 hlf (jq hs1') (jq hs2') hI2 hn hR2 hF2
    | false=>
     obtain ⟨r,recs2,fr2,σ2,rfl,hri,hn,hI2,hR2,hF2⟩:=walk hI' ho hh hS hR' hF'
     exact hpend L' _ fr2 σ2 g a w (jq hs1') (jq hs2') ⟨r,dW.2 ⟨by simp,by rw[hri];exact h2⟩,hri⟩ hI2 hn hR2 hF2
   ·have fin:∀ u v ou,ops[u]?=some ou->ep ou=true->i=u->Inv P E n ops listed [u,v] recs' fr' σ'->DW P E n ops Q [u,v] recs' fr' σ'->
      wpOp P ops (LQ E n Q) i (wpAny P .any ops (LQ E n Q) fuel (listed.setIfInBounds i true)) a w:=λu v ou hou hhu hiu hIu hDu=>by
     subst hiu
     obtain ⟨oc,hoc,hS⟩:=hDu
     rw[ho] at hoc;cases hoc
     rw[ho] at hou;cases hou
     exact u9 hIu ho hhu hr hS hR' hF' λg2 fr2 σ2 a2 w2 hn hI2 hR2 hF2=>AQ hsm fuel _ [v] recs' fr2 σ2 g2 a2 w2 hlf rfl hI2 hn hR2 hF2
    rcases hxy with q|q
    ·exact fin x y ox hox hhx q hI' hD'.1
    ·exact fin y x oy hoy hhy q (hI'.swap hpp) hD'.2
  ·obtain ⟨hd1,hd2⟩:=hI.done i o ho hiL
   cases hh:ep o with
   | true=>rw[hd1 hh] at h2;cases h2
   | false=>
    obtain ⟨r,hrr,hri⟩:=hd2 hh
    exact hpend L recs fr σ g a w hs1 hs2 ⟨r,dW.2 ⟨hrr,by rw[hri];exact h2⟩,hri⟩ hI hD hR hF
def J6 (ops:Array Oper) (L:List Nat) (x y:Nat):Bool:=
 (L++[x,y]).all (tW ops)&&(List.range ops.size).all (λi=>(L++[x,y]).contains i)&&(L++[x,y]).all (λi=>decide (i<ops.size))&&mf ops (L++[x,y])&&
  strict ops (L++[x])&&strict ops (L++[y])&&mf ops [y,x]&&(match ops[x]?,ops[y]? with|some a,some b=>ep a&&ep b|_,_=>false)
theorem qj {id:Nat} {fr:eZ} {σ:Z} (L:List Nat) (x y:Nat) (hm:P.follows .mixedOrders=true) (hchk:J6 ops L x y=true) (h:DX P E n ops Q x y L [] fr σ):SW P E n (.region id ops true) Q fr σ:=by
 intro g a w hR hF;simp only[J6,Bool.and_eq_true,List.all_eq_true,decide_eq_true_eq] at hchk;obtain ⟨⟨⟨⟨⟨⟨⟨hself,hall⟩,hin⟩,hpairs⟩,hs1⟩,hs2⟩,hpp⟩,hhv⟩:=hchk;have hsm:∀ i o,ops[i]?=some o->∀ e,e∈o.after.toList->Region.binds .any e=true->e.on<i:=λi o ho e he hb=>by
  have hi:i<ops.size:=by
   rcases Nat.lt_or_ge i ops.size with q|q
   ·exact q
   rw[Array.getElem?_eq_none q] at ho;cases ho
  have h1:=hself i (by have:=hall i (List.mem_range.2 hi);simpa using this);simp only[tW,ho,Bool.and_eq_true,List.all_eq_true] at h1;have:=h1.1 e he;simpa[hb] using this
 have hnone:∀ i,qd (Array.replicate ops.size false) i=false:=λi=>by
  simp only[qd,Array.getD_eq_getD_getElem?];rcases Nat.lt_or_ge i ops.size with q|q
  ·simp[q]
  rw[Array.getElem?_eq_none (by simpa using q)];rfl
 have hmem:∀ i,i<ops.size->i∈L++[x,y]:=λi hi=>by have:=hall i (List.mem_range.2 hi);simpa using this
 have hI:Inv P E n ops (Array.replicate ops.size false) (L++[x,y]) [] fr σ:=
  Inv.mk (by simp) (λi hi=>⟨hin i hi,hnone i⟩) (λi o ho hi=>by
    exfalso
    have hlt:i<ops.size:=by
     rcases Nat.lt_or_ge i ops.size with q|q
     ·exact q
     ·rw[Array.getElem?_eq_none q] at ho;cases ho
    exact hi (hmem i hlt)) (λr hr=>by cases hr) hself (λr _ hr=>by cases hr) (λr _ _ hr=>by cases hr) (λr _ hr=>by cases hr)
   (λi j hi hiL hj=>absurd (hmem i hi) hiL) hpairs (λi o _ h=>by rw[hnone i] at h;cases h) (λr hr=>by cases hr) (λr hr=>by cases hr)
   (λr hr=>by cases hr) (λr hr=>by cases hr) (λr hr=>by cases hr) (λr _ hr=>by cases hr)
 have h1:mF (Array.replicate ops.size false) []=λ_=>false:=rfl;have h2:mS (Array.replicate ops.size false) []=λ_=>false:=rfl;have h3:fe fr (λ_=>false)=fr:=by simp[fe]
 have h4:eV σ (λ_=>false)=σ:=by funext k;simp[eV]
 split at hhv
 ·rename_i ox oy hox hoy;simp only[Bool.and_eq_true] at hhv;refine wp_region_any hm (IJ hox hoy hhv.1 hhv.2 hpp hsm ops.size _ L [] fr σ g a _ ?_ hs1 hs2 hI h ?_ ?_)
  ·exact Nat.le_trans (List.countP_le_length) (by simp)
  ·rw[h2,h4];exact hR.drew
  rw[h1,h3];exact hF
 cases hhv
end
def w5 (ops:Array Oper) (i:Nat) (v:AV) (rd:List (Nat×M)):List Rec->Bool
 | []=>true
 | r::rs=>(match r.nm with|none=>true|some nm=>nj ops ops.size i r.i||(!v.eP nm&&rd.all λp=>!Nat.beq p.1 nm))&&w5 ops i v rd rs
theorem tZ {ops:Array Oper} {i:Nat} {v:AV} {rd:List (Nat×M)}:∀ {recs:List Rec},w5 ops i v rd recs=true->
  ∀ r,r∈hY ops recs i->∀ nm,r.nm=some nm->v.eP nm=false/\∀ p,p∈rd->p.1≠nm
 | [],_,r,hr=>by simp[hY] at hr
 | a::rs,h,r,hr=>by
  simp only[w5,Bool.and_eq_true] at h
  intro nm hnm
  simp only[hY,List.mem_filter,Bool.not_eq_true'] at hr
  rcases List.mem_cons.1 hr.1 with q|q
  ·subst q
   have h1:=h.1
   rw[hnm] at h1
   simp only[hr.2,Bool.false_or,Bool.and_eq_true,Bool.not_eq_true',List.all_eq_true] at h1
   refine ⟨h1.1,λp hp e=>?_⟩
   have:=h1.2 p hp
   rw[e] at this
   simp at this
  ·exact tZ h.2 r (by simp[hY,q,hr.2]) nm hnm
section
variable {P:Program} {E:Env} {n:Nat} {ops:Array Oper} {Q:eB} {B:List Rec->eZ->Z->Prop} {i:Nat} {L:List Nat} {recs:List Rec} {l:List (Nat×AV)} {ds:List (FuncId×List AV)} {s:List (Nat×M)}
 {ty:TypeId} {pos:String} {af:Array Edge}
theorem cY (h:Q .normal (Y l ds) (U s)):DW P E n ops Q [] recs (Y l ds) (U s):=h
theorem J7 {d:Nat} {op:Op} {v:AV} {rd:List (Nat×M)} (ho:ops[i]?=some ⟨some d,op,ty,pos,af,none⟩) (h:jr P op l ds s v rd)
  (hc:ep ⟨some d,op,ty,pos,af,none⟩=false/\Nat.blt d n=true/\w5 ops i v rd recs=true)
  (hn:mE P E n ops Q B L (⟨i,some d,rd,none⟩::recs) (Y ((d,v)::l) ds) (U s)):mE P E n ops Q B (i::L) recs (Y l ds) (U s):=
 ⟨_,ho,.ev (.inl rfl) hc.1 h.h h.r (mR hc.2.1) (tZ hc.2.2) hn⟩
theorem IK {d j g:Nat} {op:Op} {v:AV} {rd:List (Nat×M)} {want:Bool} (ho:ops[i]?=some ⟨some d,op,ty,pos,af,some (j,want)⟩)
  (hj:(ops[j]?).bind (·.dst)=some g/\kf l g=some (Bo want)) (h:jr P op l ds s v rd)
  (hc:ep ⟨some d,op,ty,pos,af,some (j,want)⟩=false/\Nat.blt d n=true/\w5 ops i v rd recs=true)
  (hn:mE P E n ops Q B L (⟨i,some d,rd,none⟩::recs) (Y ((d,v)::l) ds) (U s)):mE P E n ops Q B (i::L) recs (Y l ds) (U s):=
 ⟨_,ho,.ev (.inr ⟨j,want,g,rfl,hj.1,fK hj.2⟩) hc.1 h.h h.r (mR hc.2.1) (tZ hc.2.2) hn⟩
theorem J8 {d j g:Nat} {op:Op} {want b:Bool} (ho:ops[i]?=some ⟨some d,op,ty,pos,af,some (j,want)⟩)
  (hj:(ops[j]?).bind (·.dst)=some g/\kf l g=some (Bo b)/\(b==want)=false) (hc:ep ⟨some d,op,ty,pos,af,some (j,want)⟩=false/\Nat.blt d n=true)
  (hn:mE P E n ops Q B L (⟨i,some d,[],none⟩::recs) (Y ((d,Sc undef)::l) ds) (U s)):mE P E n ops Q B (i::L) recs (Y l ds) (U s):=
 ⟨_,ho,.skip ⟨j,want,g,.bool b,rfl,hj.1,fK hj.2.1,λq=>by have:=hj.2.2;cases q;simp at this⟩ (mR hc.2) (by rw[hc.1];exact hn)⟩
theorem IL {d j g:Nat} {op:Op} {want b:Bool} (ho:ops[i]?=some ⟨some d,op,ty,pos,af,some (j,want)⟩)
  (hj:(ops[j]?).bind (·.dst)=some g/\kf l g=some (Bo b)/\(b==want)=false) (hc:ep ⟨some d,op,ty,pos,af,some (j,want)⟩=true/\Nat.blt d n=true)
  (hn:mE P E n ops Q B L recs (Y ((d,Sc undef)::l) ds) (U s)):mE P E n ops Q B (i::L) recs (Y l ds) (U s):=
 ⟨_,ho,.skip ⟨j,want,g,.bool b,rfl,hj.1,fK hj.2.1,λq=>by have:=hj.2.2;cases q;simp at this⟩ (mR hc.2) (by rw[hc.1];exact hn)⟩
theorem qk {d j g:Nat} {op:Op} {want:Bool} (ho:ops[i]?=some ⟨some d,op,ty,pos,af,some (j,want)⟩)
  (hj:(ops[j]?).bind (·.dst)=some g/\kf l g=some (Sc undef)) (hc:ep ⟨some d,op,ty,pos,af,some (j,want)⟩=false/\Nat.blt d n=true)
  (hn:mE P E n ops Q B L (⟨i,some d,[],none⟩::recs) (Y ((d,Sc undef)::l) ds) (U s)):mE P E n ops Q B (i::L) recs (Y l ds) (U s):=
 ⟨_,ho,.skip ⟨j,want,g,undef,rfl,hj.1,fK hj.2,by simp[undef]⟩ (mR hc.2) (by rw[hc.1];exact hn)⟩
def kP:List Rec->Bool
 | []=>true
 | r::rs=>r.nm.isNone&&kP rs
theorem eY:∀ {recs:List Rec},kP recs=true->∀ r,r∈recs->r.nm=none
 | [],_,r,hr=>by cases hr
 | a::rs,h,r,hr=>by
  simp only[kP,Bool.and_eq_true,Option.isNone_iff_eq_none] at h;rcases List.mem_cons.1 hr with q|q
  ·subst q;exact h.1
  exact eY h.2 r q
mutual
theorem td {p q:Nat->Bool} (hpq:∀ k,p k=true->q k=true):∀ {v:AV},v.only p=true->v.only q=true
 | .any,_=>rfl
 | .oc,_=>rfl
 | .pv _,_=>rfl
 | .ptr _ _,h=>hpq _ h
 | .arr _ _,h=>hpq _ h
 | .sp _,_=>rfl
 | .fn f xs ys,h=>by simp only[AV.only,Bool.and_eq_true] at h ⊢;exact ⟨oP hpq h.1,oP hpq h.2⟩
 | .agg cs,h=>by simp only[AV.only] at h ⊢;exact oP hpq h
 | .gU cs,h=>by simp only[AV.only] at h ⊢;exact oP hpq h
 | .mI t v,h=>by simp only[AV.only] at h ⊢;exact td hpq h
theorem oP {p q:Nat->Bool} (hpq:∀ k,p k=true->q k=true):∀ {v:List AV},AV.only.ky p v=true->AV.only.ky q v=true
 | [],_=>rfl
 | x::xs,h=>by simp only[AV.only.ky,Bool.and_eq_true] at h ⊢;exact ⟨td hpq h.1,oP hpq h.2⟩
end
def vi (ks:List Nat):List Rec->Bool
 | []=>true
 | r::rs=>(match r.nm with
  | none=>true
  | some k=>!ks.any (Nat.beq k))&&vi ks rs
theorem sA {ks:List Nat}:∀ {recs:List Rec},vi ks recs=true->∀ r,r∈recs->∀ nm,r.nm=some nm->nm ∉ ks
 | a::rs,h,r,hr,nm,hn,hk=>by
  simp only[vi,Bool.and_eq_true] at h;rcases List.mem_cons.1 hr with q|q
  ·subst q;rw[hn] at h;have h1:=h.1;simp only[Bool.not_eq_true',List.any_eq_false,Bool.not_eq_true] at h1;have:=h1 nm hk;simp at this
  exact sA h.2 r q nm hn hk
theorem wo:∀ {ks:List Nat} {j:Nat},j<ks.length->nth ks j∈ks
 | _::_,0,_=>by simp[nth]
 | _::ks,j+1,h=>by simp only[nth];exact List.mem_cons_of_mem _ (wo (by simpa using h))
mutual
theorem w6 {ks:List Nat} {nm:Nat} (hn:nm ∉ ks):∀ {v:AV},v.only (below ks.length)=true->(v.gZ (nth ks)).eP nm=false
 | .any,_=>rfl
 | .oc,_=>rfl
 | .pv _,_=>rfl
 | .ptr j _,h=>by
  simp only[AV.only] at h;simp only[AV.gZ,AV.eP];have:=wo (ks:=ks) (mZ.1 h);simp;intro q;subst q;exact hn this
 | .arr j _,h=>by
  simp only[AV.only] at h;simp only[AV.gZ,AV.eP];have:=wo (ks:=ks) (mZ.1 h);simp;intro q;subst q;exact hn this
 | .sp _,_=>rfl
 | .fn f xs ys,h=>by simp only[AV.only,Bool.and_eq_true] at h;simp only[AV.gZ,AV.eP,oH hn h.1,oH hn h.2,Bool.or_self]
 | .agg cs,h=>by simp only[AV.only] at h;simp only[AV.gZ,AV.eP,oH hn h]
 | .gU cs,h=>by simp only[AV.only] at h;simp only[AV.gZ,AV.eP,oH hn h]
 | .mI t v,h=>by simp only[AV.only] at h;simp only[AV.gZ,AV.eP];exact w6 hn h
theorem oH {ks:List Nat} {nm:Nat} (hn:nm ∉ ks):∀ {v:List AV},AV.only.ky (below ks.length) v=true->AV.eP.fW nm (AV.gZ.me (nth ks) v)=false
 | [],_=>rfl
 | x::xs,h=>by simp only[AV.only.ky,Bool.and_eq_true] at h;simp only[AV.gZ.me,AV.eP.fW,w6 hn h.1,oH hn h.2,Bool.or_self]
end
def mh (ops:Array Oper) (i:Nat) (s':List (Nat×M)) (recs:List Rec):Prop:=
 ∀ r,r∈hY ops recs i->∀ p,p∈r.rd->∃ e,dZ s' p.1=some e/\e.le p.2
theorem gE {d:Nat} {x:Operand} {v:AV} (ho:ops[i]?=some ⟨some d,.assign x,ty,pos,af,none⟩) (hx:bR l x=some v) (hd:Nat.blt d n=true) (hs:mh ops i s recs) (hnm:kP recs=true)
  (hn:mE P E n ops Q B L recs (Y ((d,v)::l) ds) (U s)):mE P E n ops Q B (i::L) recs (Y l ds) (U s):=
 ⟨_,ho,.ep (.inl rfl) rfl (.ev (v:=v) (by rw[<- aD (ds:=ds) hx];exact uR x) (mR hd)
  ⟨λr hr=>⟨λp hp=>(let ⟨e,h1,h2⟩:=hs r hr p hp;⟨e,bX h1,h2⟩),λnm q=>by rw[eY hnm r (List.mem_filter.1 hr).1] at q;cases q⟩,hn⟩) (λr _ k hk=>by cases hk)⟩
theorem ck {t:TypeId} {x y:Operand} {k off m:Nat} {e:M} {v:AV} {c:List AV} [ht:mJ P t m] (ho:ops[i]?=some ⟨none,.store t x y,ty,pos,af,none⟩)
  (h:bR l x=some (.ptr k off)/\dZ s k=some e/\e.wY=true/\bR l y=some v/\v.fY=some c/\AV.jK c=true/\c.length=m/\Nat.ble (off+c.length) e.cells.length=true)
  (hnm:kP recs=true) (hn:∀ e',e.put off c=e'->mh ops i ((k,e')::s) recs/\mE P E n ops Q B L recs (Y l ds) (U ((k,e')::s))):mE P E n ops Q B (i::L) recs (Y l ds) (U s):=by
 obtain ⟨hx,hk,hea,hy,hc,h1,hm,hl⟩:=h
 have hl':=Nat.le_of_ble_eq_true hl
 obtain ⟨hst,hn⟩:=hn _ rfl
 refine ⟨_,ho,.ep (.inl rfl) rfl (.store rfl rfl (aD hx) (bX hk) (ve hea) (by rw[aD hy];exact hc) h1 (by rw[hm];exact ht.h) hl' (vf hea) ?_) (λr hr k' _=>by rw[eY hnm r (List.mem_filter.1 hr).1];simp)⟩
 rw[put_eq hea hl']
 exact ⟨λr hr=>⟨λp hp=>(let ⟨e,h1,h2⟩:=hst r hr p hp;⟨e,bX h1,h2⟩),λnm q=>by rw[eY hnm r (List.mem_filter.1 hr).1] at q;cases q⟩,hn⟩
theorem CA {d:Nat} {X:Type} {V:X->AV} {C:X->List M} {G:X->Prop} {H:AV->Prop} {f:Operand} {args:List Operand} {ts:Array TypeId} {fid:FuncId} {argsC first cap vs:List AV} {es:List M}
  {gd:Option (Nat×Bool)} (ho:ops[i]?=some ⟨some d,.call ⟨.value f,args.toArray,ts⟩,ty,pos,af,gd⟩) (hw:iv ops ⟨some d,.call ⟨.value f,args.toArray,ts⟩,ty,pos,af,gd⟩ (Y l ds)) (ks:List Nat) (hen:Enters P fid)
  (hC:SC P fid argsC (U (fh 0 es)) (qi V C G H)) (hk:lS E ds l s ks f args fid argsC es first cap vs) (hd:Nat.blt d n=true) (hnm:vi ks recs=true)
  (hx:∀ x,G x->(C x).length=ks.length/\jR (below ks.length) (C x)=true/\(V x).only (below ks.length)=true)
  (hpan:∀ v,H v->v.only (λ_=>false)=true/\∀ fr' σ',fr'.ds=ds->Q (.panic v) fr' σ')
  (hret:∀ x,G x->∀ v' s',(V x).gZ (nth ks)=v'->lR ks (kz (nth ks) (C x))++s=s'->mh ops i s' recs/\mE P E n ops Q B L recs (Y ((d,v')::l) ds) (U s')) :
  mE P E n ops Q B (i::L) recs (Y l ds) (U s):=by
 obtain ⟨hl,hat⟩:=oO hk.gs
 rw[iD] at hl
 have hcon:∀ j,(List.range ks.length).contains j=below ks.length j:=λj=>by
  have h1:(List.range ks.length).contains j=decide (j<ks.length):=by
   by_cases q:j<ks.length<;>simp[q]
  rw[h1];simp only[below]
  by_cases q:j<ks.length
  ·simp[q,mZ.2 q]
  ·have:Nat.blt j ks.length=false:=by
    cases h:Nat.blt j ks.length with
    | false=>rfl
    | true=>exact absurd (mZ.1 h) q
   simp[q,this]
 have hconf:(List.range ks.length).contains=below ks.length:=funext hcon
 have hsome:∀ j,(U (fh 0 es) j).isSome=true->j<ks.length:=λj hj=>by
  cases q:U (fh 0 es) j with
  | none=>rw[q] at hj;cases hj
  | some e=>
   obtain ⟨_,h2⟩:=fZ q
   have:=(List.getElem?_eq_some_iff.1 h2).1
   simp at this;omega
 have hinj:∀ j j',(List.range ks.length).contains j=true->(List.range ks.length).contains j'=true->nth ks j=nth ks j'->j=j':=λj j' hj hj' he=>og hk.nd (by simpa using hj) (by simpa using hj') he
 have hat0:∀ j,(List.range ks.length).contains j=true->∃ e,U (fh 0 es) j=some e:=λj hj=>by
  have hj':j<es.length:=by simp at hj;omega
  exact ⟨_,by have:=nq (i:=0) (List.getElem?_eq_getElem hj');simpa using this⟩
 have hsame:∀ j,(List.range ks.length).contains j=true->(∃ cs,U (fh 0 es) j=some (.box cs))\/((Y l ds).clear (nth ks j)/\
   (∀ k e,(List.range ks.length).any (λi=>nth ks i==k)=false->U s k=some e->AV.eP.fW (nth ks j) e.cells=false)/\E.fix (nth ks j)=none):=λj hj=>by
  have hj':j<es.length:=by simp at hj;omega
  rcases vd hk.bx hk.fx (by simpa using hj) (List.getElem?_eq_getElem hj') with ⟨cs,hcs⟩|⟨q1,q2,q3,q4⟩
  ·exact .inl ⟨cs,by have:=nq (i:=0) (List.getElem?_eq_getElem hj');rw[hcs] at this;simpa using this⟩
  ·exact .inr ⟨gO q1 q2,λk e hkl he=>mQ q3 k e (zJ hkl) he,q4⟩
 refine ⟨_,ho,.ep hw rfl (.call (nth ks) (List.range ks.length) hen rfl (aD hk.f) (by rw[lQ hk.a];exact hk.e) hC (λj hj=>by simpa using hsome j hj) (λj e hj=>?_)
   (λj hj=>by obtain ⟨e,he⟩:=hat0 j hj;rw[he];rfl) (λj j' hj hj' he=>og hk.nd (hsome j hj) (hsome j' hj') he) (mR hd) (λv σc hr=>?_) (λv σc hr=>?_))
  (λr hr k hk' q=>by
   obtain ⟨j,hj,rfl⟩:=List.mem_map.1 hk'
   exact sA hnm r (List.mem_filter.1 hr).1 _ q (wo (by simpa using hj)))⟩
 ·obtain ⟨_,h2⟩:=fZ hj
  exact hat j _ (by rw[na,show j=j - 0 by omega,h2];rfl)
 ·rcases hr with ⟨x,hg,he,rfl⟩|⟨_,_,he,_⟩
  ·cases he
   obtain ⟨h1,h2,h3⟩:=hx x hg
   obtain ⟨hst,hn⟩:=hret x hg _ _ rfl rfl
   refine ⟨{ Gt:=λj e hj=>?_,val:=by rw[hconf];exact h3,inj:=hinj,same:=hsame },?_⟩
   ·obtain ⟨_,h4⟩:=fZ hj
    have h5:=(List.getElem?_eq_some_iff.1 h4).1
    exact ⟨by simp;omega,by rw[hconf];exact sy h2 h4⟩
   ·have:after (U s) (nth ks) (List.range ks.length) (List.range ks.length) (U (fh 0 (C x)))=U (lR ks (kz (nth ks) (C x))++s):=by
     funext k
     rw[zI (by rw[iD,h1]) hk.nd]
     simp only[after]
     cases hf:(List.range ks.length).find? (λj=>nth ks j==k) with
     | some j=>
      have hj:=List.mem_of_find?_eq_some hf
      simp at hj
      simp only[na]
      have:j<(C x).length:=by omega
      rw[List.getElem?_eq_getElem this]
      have h6:=nq (i:=0) (List.getElem?_eq_getElem this)
      simp at h6
      rw[h6]
     | none=>
      have:(List.range ks.length).any (λj=>nth ks j==k)=false:=by
       rw[List.any_eq_false];intro j hj
       have:=List.find?_eq_none.1 hf j hj
       simpa using this
      simp[this]
    rw[this]
    refine ⟨λr hr=>⟨λp hp=>(let ⟨e,h1,h2⟩:=hst r hr p hp;⟨e,bX h1,h2⟩),λnm q=>?_⟩,hn⟩
    have hnk:=sA hnm r (List.mem_filter.1 hr).1 nm q
    refine ⟨λd' hd'=>?_,λk hk' e he=>?_⟩
    ·cases hd'
     simp only[eZ.iW,eZ.put,if_true]
     exact w6 hnk h3
    ·obtain ⟨j,hj,rfl⟩:=List.mem_map.1 hk'
     have hj':j<ks.length:=by simpa using hj
     have hcl:j<(C x).length:=by omega
     rw[zI (by rw[iD,h1]) hk.nd] at he
     have hfd:(List.range ks.length).find? (λj'=>nth ks j'==nth ks j)=some j:=by
      cases hf:(List.range ks.length).find? (λj'=>nth ks j'==nth ks j) with
      | none=>have:=List.find?_eq_none.1 hf j (by simpa using hj');simp at this
      | some j2=>
       have h7:=List.find?_some hf
       have h8:=List.mem_of_find?_eq_some hf
       simp at h7 h8
       rw[og hk.nd h8 hj' h7]
     rw[hfd] at he
     simp only[na,List.getElem?_eq_getElem hcl,Option.map_some] at he
     injection he with he
     subst he
     have:=sy h2 (List.getElem?_eq_getElem hcl)
     generalize (C x)[j]=ce at this
     cases ce with
     | box cs=>exact oH hnk this
     | arr _ _ cs=>exact ni _ _
     | app _ _ cs=>exact ni _ _
  ·cases he
 ·rcases hr with ⟨_,_,he,_⟩|⟨v',hh,he,rfl⟩
  ·cases he
  ·cases he
   obtain ⟨h1,h2⟩:=hpan v hh
   refine ⟨{ Gt:=λj e hj=>(by cases hj),val:=?_,inj:=hinj,same:=hsame },λfr' σ' hds _ _=>?_⟩
   ·exact td (λk hk=>by cases hk) h1
   ·rw[qg h1];exact h2 fr' σ' hds
end
structure rW where
 t:TypeId
 cells:List PV
def rW.av (p:rW):AV:=.mI p.t (.agg (p.cells.map .pv))
theorem rW.only (p:rW) (q:Nat->Bool):p.av.only q=true:=by simp[rW.av,AV.only,uw]
inductive al (α:Type) where
 | stuck
 | kA (p:rW)
 | ok (a:α)
namespace al
variable {α β:Type}
def bind (x:al α) (k:α->al β):al β:=
 match x with
 | .stuck=>.stuck
 | .kA v=>.kA v
 | .ok a=>k a
def br (b:Bool) (x y:al α):al α:=match b with|true=>x|false=>y
def gd (p:Prop) [Decidable p] (x:al α):al α:=if p then x else .stuck
def el (l:List β) (i:Int) (k:β->al α):al α:=if 0<=i then (match l[i.toNat]? with|some x=>k x|none=>.stuck) else .stuck
def some? (x:Option β) (k:β->al α):al α:=match x with|some x=>k x|none=>.stuck
def jn {X:Type} (j:X->al α) (p:(X->al α)->al α):al α:=p j
def iter {X:Type} (body:(X->al α)->X->al α):Nat->X->al α
 | 0,_=>.stuck
 | n+1,x=>body (iter body n) x
theorem J9 {b:Bool} {x y r:al α} (hb:b=true) (h:br b x y=r):x=r:=by subst hb;exact h
theorem Ka {b:Bool} {x y r:al α} (hb:b=false) (h:br b x y=r):y=r:=by subst hb;exact h
theorem BP {p:Prop} [Decidable p] {x r:al α} (hr:r≠.stuck) (h:gd p x=r):p/\x=r:=by
 unfold gd at h;split at h
 ·exact ⟨‹p›,h⟩
 exact absurd h.symm hr
theorem IM {l:List β} {i:Int} {k:β->al α} {r:al α} (hr:r≠.stuck) (h:el l i k=r):∃ x,0<=i/\i<l.length/\l[i.toNat]?=some x/\k x=r:=by
 unfold el at h;split at h
 ·rename_i h0;split at h
  ·rename_i x hx;have:=(List.getElem?_eq_some_iff.1 hx).1;exact ⟨x,h0,by omega,hx,h⟩
  exact absurd h.symm hr
 exact absurd h.symm hr
theorem IN {x:Option β} {k:β->al α} {r:al α} (hr:r≠.stuck) (h:some? x k=r):∃ y,x=some y/\k y=r:=by
 cases x with
 | none=>exact absurd h.symm hr
 | some y=>exact ⟨y,rfl,h⟩
end al
open al
def CT (P:Program) (f:FuncId) (args:List AV) (es:List M) {X:Type} (res:al X) (V:X->AV) (C:X->List M):Prop:=
 ∀ r,res=r->r≠.stuck->SC P f args (U (fh 0 es)) (qi V C (λx=>r=.ok x) (λv=>∃ p,r=.kA p/\v=p.av))
section
variable {P:Program} {E:Env} {n:Nat} {ops:Array Oper} {Q:eB} {rest:List Oper} {l:List (Nat×AV)} {ds:List (FuncId×List AV)} {s:List (Nat×M)}
 {ty:TypeId} {pos:String} {af:Array Edge}
theorem Gy {f:FuncId} {fn:Func} {c:Code} {args:List AV} {es:List M} {X:Type} {res:al X} {V:X->AV} {C:X->List M} (hf:P.funcs[f]?=some fn) (hb:fn.body=some c) (hn:Nat.ble args.length fn.ntmps=true)
  (h:∀ r,res=r->r≠.stuck->∀ E:Env,(∀ k,k5 es k=true->E.fix k=none)->
   SW P E fn.ntmps c (nN P fn (qi V C (λx=>r=.ok x) (λv=>∃ p,r=.kA p/\v=p.av))) (Y ((List.range args.length).zip args) []) (U (fh 0 es))):CT P f args es res V C:=
 λr hr hs=>Gx hf hb hn (h r hr hs)
theorem df {c:Operand} {x y:Code} {b:Bool} (hb:bR l c=some (Bo b)) (ht:b=true->SW P E n x Q (Y l ds) (U s)) (hf:b=false->SW P E n y Q (Y l ds) (U s)):SW P E n (.cond c x y) Q (Y l ds) (U s):=
 Gr (aD hb) ht hf
def tM (l G:List (Nat×AV)):List (Nat×AV)->Prop
 | []=>True
 | (i,_)::F=>kf l i=kf G i/\tM l G F
def ux (s G:List (Nat×M)):List (Nat×M)->Prop
 | []=>True
 | (i,_)::F=>dZ s i=dZ G i/\ux s G F
theorem yr {l:List (Nat×AV)} {i:Nat}:kY l i=(kf l i).getD .any:=by
 induction l with
 | nil=>rfl
 | cons a l ih=>
  obtain ⟨j,v⟩:=a
  simp only[kY,kf]
  by_cases q:i=j
  ·subst q;simp
  ·have:Nat.beq i j=false:=by
    cases h:Nat.beq i j with
    | false=>rfl
    | true=>exact absurd (Nat.eq_of_beq_eq_true h) q
   simp[this,q,ih]
theorem qT {l:List (Nat×M)} {i:Nat}:kN l i=dZ l i:=by
 induction l with
 | nil=>rfl
 | cons a l ih=>
  obtain ⟨j,v⟩:=a
  simp only[kN,dZ]
  by_cases q:i=j
  ·subst q;simp
  ·have:Nat.beq i j=false:=by
    cases h:Nat.beq i j with
    | false=>rfl
    | true=>exact absurd (Nat.eq_of_beq_eq_true h) q
   simp[this,q,ih]
theorem oQ {l G:List (Nat×AV)}:∀ {F:List (Nat×AV)},tM l G F->∀ p∈F,kY l p.1=kY G p.1
 | [],_,p,hp=>by cases hp
 | (i,v)::F,h,p,hp=>by
  rcases List.mem_cons.1 hp with q|q
  ·subst q;rw[yr,yr,h.1]
  exact oQ h.2 p q
theorem qU {s G:List (Nat×M)}:∀ {F:List (Nat×M)},ux s G F->∀ p∈F,kN s p.1=kN G p.1
 | [],_,p,hp=>by cases hp
 | (i,v)::F,h,p,hp=>by
  rcases List.mem_cons.1 hp with q|q
  ·subst q;rw[qT,qT,h.1]
  exact qU h.2 p q
theorem CB {c:Code} (l':List (Nat×AV)) (s':List (Nat×M)) (h1:tM l l' l') (h2:ux s s' s') (h:SW P E n c Q (Y l' ds) (U s')):SW P E n c Q (Y l ds) (U s):=
 Cp (zq (oQ h1)) (zr (qU h2)) h
theorem Gz {X:Type} {x y:Code} (F:X->List (Nat×AV)) (H:X->List (Nat×M)) (G:X->Prop)
  (hy:∀ v,G v->SW P E n y Q (Y (F v) ds) (U (H v)))
  (hx:∀ K:eZ->Z->Prop,(∀ v l s,G v->tM l (F v) (F v)->ux s (H v) (H v)->K (Y l ds) (U s))->SW P E n x (vJ K Q) (Y l ds) (U s)):SW P E n (.seq x y) Q (Y l ds) (U s):=
 D5 (hx _ λv _ _ hg h1 h2=>CB (F v) (H v) h1 h2 (hy v hg))
theorem Di {X R:Type} {c:Code} (F:X->List (Nat×AV)) (H:X->List (Nat×M)) (body:(X->al R)->X->al R) (r:al R) (m:Nat) (v:X) (hr:r≠.stuck) (h0:iter body m v=r)
  (h1:tM l (F v) (F v)) (h2:ux s (H v) (H v))
  (hx:∀ (next:X->al R) (v:X) (K:eZ->Z->Prop),(∀ v l s,next v=r->tM l (F v) (F v)->ux s (H v) (H v)->K (Y l ds) (U s))->body next v=r->SW P E n c (vJ K Q) (Y (F v) ds) (U (H v))) :
  SW P E n (.loop c) Q (Y l ds) (U s):=by
 refine CB (F v) (H v) h1 h2 (Gs (λk fr σ=>∃ v,iter body k v=r/\fr.le (Y (F v) ds)/\∀ j e,U (H v) j=some e->σ j=some e) m ⟨v,h0,⟨λ_=>.inl rfl,rfl⟩,λ_ _ h=>h⟩ ?_)
 rintro k fr σ ⟨v,hv,hle,hsub⟩
 cases k with
 | zero=>exact absurd hv.symm hr
 | succ k=>
  refine Cp hle hsub (hx (iter body k) v _ ?_ hv)
  intro v' l' s' hv' hf hs
  exact ⟨k,Nat.lt_succ_self k,v',hv',zq (oQ hf),zr (qU hs)⟩
end
end Go.Abs
end
section
namespace Go.Abs
open al
theorem yu {α:Type} {f:α->List PV} {sz:Nat} (hf:∀ x,(f x).length=sz):∀ {l:List α} {i:Nat} {x:α},l[i]?=some x->
  (l.flatMap f).drop (i*sz)=f x++(l.flatMap f).drop ((i+1)*sz):=by
 intro l
 induction l with
 | nil=>intro i x h;simp at h
 | cons a l ih=>
  intro i x h
  cases i with
  | zero=>
   simp at h;subst h
   rw[List.flatMap_cons,Nat.zero_mul,List.drop_zero,Nat.zero_add,Nat.one_mul,<- hf a,List.drop_left]
  | succ i=>
   have h1:=ih (i:=i) (x:=x) (by simpa using h)
   have h2:∀ j,(f a++l.flatMap f).drop ((j+1)*sz)=(l.flatMap f).drop (j*sz):=λj=>by
    rw[Nat.succ_mul,Nat.add_comm,<- hf a,<- List.drop_drop,List.drop_left]
   rw[List.flatMap_cons,h2,h2,h1]
theorem iE {α:Type} {f:α->List PV} {sz:Nat} (hf:∀ x,(f x).length=sz):∀ (l:List α),(l.flatMap f).length=l.length*sz
 | []=>by simp
 | a::l=>by simp[iE hf l,hf a,Nat.succ_mul,Nat.add_comm]
section
variable {P:Program} {l:List (Nat×AV)} {ds:List (FuncId×List AV)} {s:List (Nat×M)}
theorem jr.two {op:Op} {v:AV} {k j:Nat} {e e':M} (hk:dZ s k=some e) (hj:dZ s j=some e') (h:gD P op (Y l ds) [(k,e),(j,e')] v):jr P op l ds s v [(k,e),(j,e')]:=
 ⟨h,λp hp=>by
  simp at hp;rcases hp with q|q
  ·subst q;exact ⟨_,bX hk,M.le_refl _⟩
  subst q;exact ⟨_,bX hj,M.le_refl _⟩⟩
theorem gD.AJ {op:Op} {fr:eZ} {rd:List (Nat×M)} {v v':AV} (h:gD P op fr rd v) (hle:v.le v'):gD P op fr rd v':=λo ho g ev w hG hv hr=>
 let ⟨c,h1,h2⟩:=h o ho g ev w hG hv hr;⟨c,h1,hle g c h2⟩
theorem jr.AJ {op:Op} {v v':AV} {rd:List (Nat×M)} (h:jr P op l ds s v rd) (hle:v.le v'):jr P op l ds s v' rd:=⟨h.h.AJ hle,h.r⟩
theorem AV.Kb:(Sc (.pointer none)).le (.pv (.pt none)):=λg c h=>by rw[h.dV];exact .pv .DT
theorem IP {x:Operand} {k m sz:Nat} {el:TypeId} {cells:List PV} (hx:bR l x=some (.arr k m)) (hk:dZ s k=some (.app el sz cells)) (hz:Nat.blt 0 sz=true) (hn:cells.length=m*sz) :
 jr P (.move x) l ds s (.pv (.sl m cells)) [(k,.app el sz cells)]:=.on hk (yR (aD hx) (by simpa[Nat.blt_eq] using hz) hn)
theorem Ee {t:TypeId} {x:Operand} {k j off m sz:Nat} {el:TypeId} {cells:List PV} {e:M} [ha:ja P t false] (hx:bR l x=some (.ptr k off)) (hk:dZ s k=some e)
 (hv:e.cells[off]?=some (.arr j m)) (hj:dZ s j=some (.app el sz cells)) (hz:Nat.blt 0 sz=true) (hn:cells.length=m*sz) :
 jr P (.load t x) l ds s (.pv (.sl m cells)) [(k,e),(j,.app el sz cells)]:=.two hk hj (yS ha.h (aD hx) hv (by simpa[Nat.blt_eq] using hz) hn)
theorem iF {α:Type} {f:α->List PV} {Cs:List α->List PV} {t e:TypeId} {sz m:Nat} {x ix:Operand} {k:IntKind} {i:Int} {xs:List α} {a:α} [ht:Cw P t e sz]
  (mK:∀ l,Cs l=l.flatMap f) (hf:∀ x,(f x).length=sz) (h0:0<=i) (h1:i<xs.length) (ha:xs[i.toNat]?=some a)
  (hx:bR l x=some (.pv (.sl m (Cs xs)))) (hm:m=xs.length) (hi:bR l ix=some (Sc (.int k i))) :
  jr P (.indexAddr t x ix) l ds s (.sp (f a++(xs.flatMap f).drop ((i.toNat+1)*sz))) []:=by
 subst hm
 rw[mK] at hx
 refine Gv hx hi h0 h1 ?_ (by rw[yu hf ha])
 rw[iE hf];exact Nat.mul_le_mul_right _ (by omega)
theorem uy {parts:List (Nat×Operand)} {pv:List (Nat×AV)} (h:parts.mapM (λp=>(bR l p.2).map λv=>(p.1,v))=some pv):(parts.map λp=>(p.1,(Y l ds).val p.2))=pv:=by
 have key:∀ (ps:List (Nat×Operand)) (pv:List (Nat×AV)),ps.mapM (λp=>(bR l p.2).map λv=>(p.1,v))=some pv->(ps.map λp=>(p.1,(Y l ds).val p.2))=pv:=by
  intro ps
  induction ps with
  | nil=>intro pv h;simp at h;simp[h]
  | cons p ps ih=>
   intro pv h
   rw[List.mapM_cons] at h
   cases hv:bR l p.2 with
   | none=>simp[hv] at h
   | some v=>
    cases hr:ps.mapM (λp=>(bR l p.2).map λv=>(p.1,v)) with
    | none=>simp[hv,hr] at h
    | some r=>
     simp[hv,hr] at h
     subst h
     simp[ih r hr,aD (ds:=ds) hv]
 exact key parts pv h
def oh (k:Nat):List (Nat×M)->List (Nat×M)
 | []=>[]
 | (j,e)::s=>match Nat.beq j k with
  | true=>oh k s
  | false=>(j,e)::oh k s
theorem pq {k:Nat}:∀ {s:List (Nat×M)},U (oh k s)=(U s).del k
 | []=>by funext j;simp[oh,U,kN,Z.del]
 | (i,e)::s=>by
  have ih:=pq (k:=k) (s:=s);funext j;have ihj:=congrFun ih j;simp only[U,Z.del] at ihj;simp only[oh];split
  ·rename_i q;have hik:=Nat.eq_of_beq_eq_true q;subst hik;simp only[U,kN,Z.del];rw[ihj];split<;>simp_all
  rename_i q;have hik:i≠k:=λh=>by subst h;simp at q
  simp only[U,kN,Z.del];by_cases hj:j=i
  ·subst hj;simp[hik]
  simp only[hj,if_false];exact ihj
theorem GA {xt yt el:TypeId} {fr:eZ} {x y:Operand} {o:Option (List PV)} (ht:P.underlying xt=some (.pointer el)) (hx:fr.val x=.pv (.pt o)) (hy:fr.val y=Sc (.pointer none)) :
  gD P (.binOp .eql xt x y yt) fr [] (Bo o.isNone):=by
 intro o' ho g ev w _ hv _
 have q1:=hv x (by simp[Op.operands]);rw[hx] at q1
 have q2:=hv y (by simp[Op.operands]);rw[hy] at q2
 generalize hq:ev x=c at q1
 cases q1 with
 | pv q1=>cases q1 with
  | DT=>
   refine ⟨.bool true,?_,.pv (.sc _)⟩
   simp only[execOp,ho,hq,q2.dV,binOp,Sem.run_bind,vH,Sem.run_pure,Result.andThen_ok];simp[Op.equal,Op.maxDepth,rJ ht 9999]
  | DP=>
   refine ⟨.bool false,?_,.pv (.sc _)⟩
   simp only[execOp,ho,hq,q2.dV,eqGuard,binOp];simp[Op.equal,Op.maxDepth,rK ht 9999]
theorem GB {xt yt el:TypeId} {fr:eZ} {x y:Operand} {o:Option (List PV)} (ht:P.underlying xt=some (.pointer el)) (hx:fr.val x=.pv (.pt o)) (hy:fr.val y=Sc (.pointer none)) :
  gD P (.binOp .neq xt x y yt) fr [] (Bo o.isSome):=by
 intro o' ho g ev w _ hv _
 have q1:=hv x (by simp[Op.operands]);rw[hx] at q1
 have q2:=hv y (by simp[Op.operands]);rw[hy] at q2
 generalize hq:ev x=c at q1
 cases q1 with
 | pv q1=>cases q1 with
  | DT=>
   refine ⟨.bool false,?_,.pv (.sc _)⟩
   simp only[execOp,ho,hq,q2.dV,binOp,Sem.run_bind,vH,Sem.run_pure,Result.andThen_ok];simp[Op.equal,Op.maxDepth,rJ ht 9999]
  | DP=>
   refine ⟨.bool true,?_,.pv (.sc _)⟩
   simp only[execOp,ho,hq,q2.dV,eqGuard,binOp];simp[Op.equal,Op.maxDepth,rK ht 9999]
theorem Ef {fr:eZ} {x:Operand} {c:List PV} (hx:fr.val x=.pv (.pt (some c))):gD P (.nilCheck x) fr [] (.sp c):=by
 intro o ho g ev w _ hv _;have h1:=hv x (by simp[Op.operands]);rw[hx] at h1;generalize hq:ev x=c at h1;cases h1 with
 | pv h1=>cases h1 with
  | DP b ys off cells h hl hc=>exact ⟨_,by simp[execOp,ho,hq],.sp off h hl hc⟩
theorem Eg {xt yt el:TypeId} {x y:Operand} {o:Option (List PV)} [ht:kH P xt (.pointer el)] (hx:bR l x=some (.pv (.pt o))) (hy:bR l y=some (Sc (.pointer none))) :
 jr P (.binOp .eql xt x y yt) l ds s (Bo o.isNone) []:=.of (GA ht.h (aD hx) (aD hy))
theorem Eh {xt yt el:TypeId} {x y:Operand} {o:Option (List PV)} [ht:kH P xt (.pointer el)] (hx:bR l x=some (.pv (.pt o))) (hy:bR l y=some (Sc (.pointer none))) :
 jr P (.binOp .neq xt x y yt) l ds s (Bo o.isSome) []:=.of (GB ht.h (aD hx) (aD hy))
theorem GC {x:Operand} {c:List PV} (hx:bR l x=some (.pv (.pt (some c)))):jr P (.nilCheck x) l ds s (.sp c) []:=.of (Ef (aD hx))
theorem dU {c a b:Operand} {v:AV} {t:Bool} (ht:t=true) (hc:bR l c=some (Bo t)) (ha:bR l a=some v):jr P (.pick c a b) l ds s v []:=by subst ht;exact wm hc ha
theorem dJ {c a b:Operand} {v:AV} {t:Bool} (ht:t=false) (hc:bR l c=some (Bo t)) (hb:bR l b=some v):jr P (.pick c a b) l ds s v []:=by subst ht;exact eX hc hb
theorem jS {xt yt:TypeId} {x y:Operand} {k:IntKind} {a b:Int} (hx:bR l x=some (Sc (.int k a))) (hy:bR l y=some (Sc (.int k b))):jr P (.binOp .add xt x y yt) l ds s (Sc (.int k (k.wrap (a+b)))) []:=
 .of (Cl (aD hx) (aD hy))
theorem vj {xt yt:TypeId} {x y:Operand} {k:IntKind} {a b:Int} (hx:bR l x=some (Sc (.int k a))) (hy:bR l y=some (Sc (.int k b))):jr P (.binOp .sub xt x y yt) l ds s (Sc (.int k (k.wrap (a - b)))) []:=
 .of (Cn (aD hx) (aD hy))
theorem IQ {xt yt:TypeId} {x y:Operand} {k:IntKind} {a b:Int} (hx:bR l x=some (Sc (.int k a))) (hy:bR l y=some (Sc (.int k b))):jr P (.binOp .mul xt x y yt) l ds s (Sc (.int k (k.wrap (a*b)))) []:=
 .of (Gm (aD hx) (aD hy))
theorem nb {a b:TypeId} {x:Operand} {k k':IntKind} {v:Int} [hs:kH P a (.int k')] [ht:kH P b (.int k)] (hx:bR l x=some (Sc (.int k' v))):jr P (.convert a b x) l ds s (Sc (.int k (k.wrap v))) []:=
 .of (BJ hs.h ht.h (aD hx))
end
section
variable {P:Program} {E:Env} {n:Nat} {ops:Array Oper} {Q:eB} {rest:List Oper} {l:List (Nat×AV)} {ds:List (FuncId×List AV)} {s:List (Nat×M)}
 {ty:TypeId} {pos:String} {af:Array Edge}
theorem Kc {d j g:Nat} {op:Op} {v:AV} {rd:List (Nat×M)} {want b:Bool} (hb:b=want) (hj:(ops[j]?).bind (·.dst)=some g/\kf l g=some (Bo b))
  (h:jr P op l ds s v rd) (hd:Nat.blt d n=true) (hn:SL P E n ops Q rest (Y ((d,v)::l) ds) (U s)):SL P E n ops Q (⟨some d,op,ty,pos,af,some (j,want)⟩::rest) (Y l ds) (U s):=by
 subst hb;exact II hj h hd hn
theorem H9 {d j g:Nat} {op:Op} {want b:Bool} (hb:b = !want) (hj:(ops[j]?).bind (·.dst)=some g/\kf l g=some (Bo b)) (hd:Nat.blt d n=true)
  (hn:SL P E n ops Q rest (Y ((d,Sc undef)::l) ds) (U s)):SL P E n ops Q (⟨some d,op,ty,pos,af,some (j,want)⟩::rest) (Y l ds) (U s):=by
 subst hb;exact J2 ⟨hj.1,hj.2,by cases want<;>rfl⟩ hd hn
theorem Ei {d:Nat} {t e:TypeId} {m sz:Nat} {parts:List (Nat×Operand)} {zs:List Value} {pl:List (Nat×Nat)} {pv:List (Nat×AV)} {cells:List PV} [ht:k4 P t m e sz zs pl] (nm:Nat) (hE:E.fix nm=none)
  (h:parts.mapM (λp=>(bR l p.2).map λv=>(p.1,v))=some pv/\mc pl (zs.map λv=>.pv (.sc v)) pv=some (cells.map .pv)/\cells.length=m*sz/\Nat.ble m 1000=true)
  (hm:lE nm l=false/\jO nm ds=false/\nZ nm s=false) (hd:Nat.blt d n=true)
  (hn:SL P E n ops Q rest (Y ((d,.arr nm m)::l) ds) (U ((nm,.app e sz cells)::s))):SL P E n ops Q (⟨some d,.buildSlice t m parts.toArray,ty,pos,af,none⟩::rest) (Y l ds) (U s):=by
 refine jo rfl (zi (vI nm ht.h ?_ h.2.2.1 (Nat.le_trans (Nat.le_of_ble_eq_true h.2.2.2) (by simp[maxLen]))) (gO hm.1 hm.2.1) (jP hm.2.2) hE (mR hd) hn)
 rw[uy h.1];exact h.2.1
end
end Go.Abs
end
section
namespace Go.Abs
open al
section
variable {P:Program} {E:Env} {n:Nat} {ops:Array Oper} {Q:eB} {B:List Rec->eZ->Z->Prop} {i:Nat} {L:List Nat} {recs:List Rec} {l:List (Nat×AV)} {ds:List (FuncId×List AV)} {s:List (Nat×M)}
 {ty:TypeId} {pos:String} {af:Array Edge}
theorem dH {d j g:Nat} {op:Op} {v:AV} {rd:List (Nat×M)} {want b:Bool} (hb:b=want) (ho:ops[i]?=some ⟨some d,op,ty,pos,af,some (j,want)⟩)
  (hj:(ops[j]?).bind (·.dst)=some g/\kf l g=some (Bo b)) (h:jr P op l ds s v rd)
  (hc:ep ⟨some d,op,ty,pos,af,some (j,want)⟩=false/\Nat.blt d n=true/\w5 ops i v rd recs=true)
  (hn:mE P E n ops Q B L (⟨i,some d,rd,none⟩::recs) (Y ((d,v)::l) ds) (U s)):mE P E n ops Q B (i::L) recs (Y l ds) (U s):=by
 subst hb;exact IK ho hj h hc hn
theorem dF {d j g:Nat} {op:Op} {want b:Bool} (hb:b = !want) (ho:ops[i]?=some ⟨some d,op,ty,pos,af,some (j,want)⟩)
  (hj:(ops[j]?).bind (·.dst)=some g/\kf l g=some (Bo b)) (hc:ep ⟨some d,op,ty,pos,af,some (j,want)⟩=false/\Nat.blt d n=true)
  (hn:mE P E n ops Q B L (⟨i,some d,[],none⟩::recs) (Y ((d,Sc undef)::l) ds) (U s)):mE P E n ops Q B (i::L) recs (Y l ds) (U s):=by
 subst hb;exact J8 ho ⟨hj.1,hj.2,by cases want<;>rfl⟩ hc hn
theorem vk {d j g:Nat} {op:Op} {want b:Bool} (hb:b = !want) (ho:ops[i]?=some ⟨some d,op,ty,pos,af,some (j,want)⟩)
  (hj:(ops[j]?).bind (·.dst)=some g/\kf l g=some (Bo b)) (hc:ep ⟨some d,op,ty,pos,af,some (j,want)⟩=true/\Nat.blt d n=true)
  (hn:mE P E n ops Q B L recs (Y ((d,Sc undef)::l) ds) (U s)):mE P E n ops Q B (i::L) recs (Y l ds) (U s):=by
 subst hb;exact IL ho ⟨hj.1,hj.2,by cases want<;>rfl⟩ hc hn
theorem bG {id:Nat} {fr:eZ} {σ:Z} (L:List Nat) (hm:P.follows .mixedOrders=true) (hchk:KV ops L=true) (h:DW P E n ops Q L [] fr σ):SW P E n (.region id ops true) Q fr σ:=Gu L hm hchk h
end
theorem k8 {α β:Type} {x:al α} {k:α->al β} {r:al β} (hr:r≠.stuck) (h:al.bind x k=r):x≠.stuck/\(∀ a,x=.ok a->k a=r)/\∀ p,x=.kA p->r=.kA p:=by
 cases x with
 | stuck=>exact absurd h.symm hr
 | kA p=>exact ⟨by simp,λ_ q=>by simp at q,λq hq=>by cases hq;exact h.symm⟩
 | ok a=>exact ⟨by simp,λb q=>by cases q;exact h,λ_ q=>by simp at q⟩
section
variable {P:Program} {E:Env} {n:Nat} {ops:Array Oper} {Q:eB} {rest:List Oper} {l:List (Nat×AV)} {ds:List (FuncId×List AV)} {s:List (Nat×M)}
 {ty:TypeId} {pos:String} {af:Array Edge}
theorem AU {o:Oper} {X R:Type} {res:al X} {kk:X->al R} {r:al R} {V V':X->AV} {C:X->List M} {C':X->List (Nat×M)} {f:Operand} {args:List Operand} {ts:Array TypeId} {fid:FuncId}
  {argsC first cap vs:List AV} {es:List M} {next:eZ->Z->Prop} (hr:r≠.stuck) (h:al.bind res kk=r) {l':List (Nat×AV)} (hwk:(Y l ds).le (Y l' ds)) (ks:List Nat) (hen:Enters P fid) (ho:o.op=.call ⟨.value f,args.toArray,ts⟩)
  (hC:CT P fid argsC es res V C) (hk:lS E ds l s ks f args fid argsC es first cap vs l') (hd:∀ d,o.dst=some d->d<n)
  (hx:∀ x,(C x).length=ks.length/\jR (below ks.length) (C x)=true/\(V x).only (below ks.length)=true)
  (hV:∀ x,(V x).gZ (nth ks)=V' x/\lR ks (kz (nth ks) (C x))=C' x)
  (hpan:∀ p fr σ,fr.ds=ds->r=.kA p->Q (.panic p.av) fr σ)
  (hret:∀ x,kk x=r->next ((Y l' ds).iW o.dst (V' x)) (U (C' x++s))):Step P E n Q o (Y l ds) (U s) next:=by
 obtain ⟨hns,hok,hp⟩:=k8 hr h
 refine wX hwk ks hen ho (hC res rfl hns) hk hd (λx _=>hx x) (λx hg=>?_) (λv hv=>?_)
 ·have:=hret x (hok x hg)
  rw[<- (hV x).1,<- (hV x).2] at this;exact this
 ·obtain ⟨p,hp1,rfl⟩:=hv
  exact ⟨p.only _,hpan p _ _ rfl (hp p hp1)⟩
theorem CC {o:Oper} {X R:Type} {res:al X} {kk:X->al R} {r:al R} {V V':X->AV} {C:X->List M} {C':X->List (Nat×M)} {f:Operand} {args:List Operand} {ts:Array TypeId} {fid:FuncId}
  {argsC first cap vs:List AV} {es:List M} {next:eZ->Z->Prop} (hr:r≠.stuck) (h:al.bind res kk=r) (ks:List Nat) (hen:Enters P fid) (ho:o.op=.call ⟨.value f,args.toArray,ts⟩)
  (hC:CT P fid argsC es res V C) (hk:lS E ds l s ks f args fid argsC es first cap vs) (hd:∀ d,o.dst=some d->d<n)
  (hx:∀ x,(C x).length=ks.length/\jR (below ks.length) (C x)=true/\(V x).only (below ks.length)=true)
  (hV:∀ x,(V x).gZ (nth ks)=V' x/\lR ks (kz (nth ks) (C x))=C' x)
  (hpan:∀ p fr σ,fr.ds=ds->r=.kA p->Q (.panic p.av) fr σ)
  (hret:∀ x,kk x=r->next ((Y l ds).iW o.dst (V' x)) (U (C' x++s))):Step P E n Q o (Y l ds) (U s) next:=
 AU hr h ⟨λ_=>.inl rfl,rfl⟩ ks hen ho hC hk hd hx hV hpan hret
theorem jU {d:Nat} {X R:Type} {res:al X} {kk:X->al R} {r:al R} {V V':X->AV} {C:X->List M} {C':X->List (Nat×M)} {f:Operand} {args:List Operand} {ts:Array TypeId} {fid:FuncId}
  {argsC first cap vs:List AV} {es:List M} (hr:r≠.stuck) (h:al.bind res kk=r) (ks:List Nat) (hen:Enters P fid)
  (hC:CT P fid argsC es res V C) (hk:lS E ds l s ks f args fid argsC es first cap vs) (hd:Nat.blt d n=true)
  (hx:∀ x,(C x).length=ks.length/\jR (below ks.length) (C x)=true/\(V x).only (below ks.length)=true)
  (hV:∀ x,(V x).gZ (nth ks)=V' x/\lR ks (kz (nth ks) (C x))=C' x)
  (hpan:∀ p fr σ,fr.ds=ds->r=.kA p->Q (.panic p.av) fr σ)
  (hret:∀ x,kk x=r->SL P E n ops Q rest (Y ((d,V' x)::l) ds) (U (C' x++s))) :
  SL P E n ops Q (⟨some d,.call ⟨.value f,args.toArray,ts⟩,ty,pos,af,none⟩::rest) (Y l ds) (U s):=
 jo rfl (CC hr h ks hen rfl hC hk (mR hd) hx hV hpan hret)
theorem IS {d:Nat} {X R:Type} {res:al X} {kk:X->al R} {r:al R} {V V':X->AV} {C:X->List M} {C':X->List (Nat×M)} {f:Operand} {args:List Operand} {ts:Array TypeId} {fid:FuncId}
  {argsC first cap vs:List AV} {es:List M} (l':List (Nat×AV)) (hwk:tM l l' l') (hr:r≠.stuck) (h:al.bind res kk=r) (ks:List Nat) (hen:Enters P fid)
  (hC:CT P fid argsC es res V C) (hk:lS E ds l s ks f args fid argsC es first cap vs l') (hd:Nat.blt d n=true)
  (hx:∀ x,(C x).length=ks.length/\jR (below ks.length) (C x)=true/\(V x).only (below ks.length)=true)
  (hV:∀ x,(V x).gZ (nth ks)=V' x/\lR ks (kz (nth ks) (C x))=C' x)
  (hpan:∀ p fr σ,fr.ds=ds->r=.kA p->Q (.panic p.av) fr σ)
  (hret:∀ x,kk x=r->SL P E n ops Q rest (Y ((d,V' x)::l') ds) (U (C' x++s))) :
  SL P E n ops Q (⟨some d,.call ⟨.value f,args.toArray,ts⟩,ty,pos,af,none⟩::rest) (Y l ds) (U s):=
 jo rfl (AU hr h (zq (oQ hwk)) ks hen rfl hC hk (mR hd) hx hV hpan hret)
theorem Ej {d j g:Nat} {want b:Bool} {X R:Type} {res:al X} {kk:X->al R} {r:al R} {V V':X->AV} {C:X->List M} {C':X->List (Nat×M)} {f:Operand} {args:List Operand} {ts:Array TypeId} {fid:FuncId}
  {argsC first cap vs:List AV} {es:List M} (hb:b=want) (hj:(ops[j]?).bind (·.dst)=some g/\kf l g=some (Bo b)) (hr:r≠.stuck) (h:al.bind res kk=r) (ks:List Nat) (hen:Enters P fid)
  (hC:CT P fid argsC es res V C) (hk:lS E ds l s ks f args fid argsC es first cap vs) (hd:Nat.blt d n=true)
  (hx:∀ x,(C x).length=ks.length/\jR (below ks.length) (C x)=true/\(V x).only (below ks.length)=true)
  (hV:∀ x,(V x).gZ (nth ks)=V' x/\lR ks (kz (nth ks) (C x))=C' x)
  (hpan:∀ p fr σ,fr.ds=ds->r=.kA p->Q (.panic p.av) fr σ)
  (hret:∀ x,kk x=r->SL P E n ops Q rest (Y ((d,V' x)::l) ds) (U (C' x++s))) :
  SL P E n ops Q (⟨some d,.call ⟨.value f,args.toArray,ts⟩,ty,pos,af,some (j,want)⟩::rest) (Y l ds) (U s):=by
 subst hb
 exact wL rfl hj.1 (fK hj.2) (mR hd) (λ_=>CC hr h ks hen rfl hC hk (mR hd) hx hV hpan hret) (λq=>absurd rfl q)
end
section
variable {P:Program} {E:Env} {n:Nat} {ops:Array Oper} {Q:eB} {B:List Rec->eZ->Z->Prop} {i:Nat} {L:List Nat} {recs:List Rec} {l:List (Nat×AV)} {ds:List (FuncId×List AV)} {s:List (Nat×M)}
 {ty:TypeId} {pos:String} {af:Array Edge}
theorem ej {d:Nat} {X R:Type} {res:al X} {kk:X->al R} {r:al R} {V V':X->AV} {C:X->List M} {C':X->List (Nat×M)} {f:Operand} {args:List Operand} {ts:Array TypeId} {fid:FuncId}
  {argsC first cap vs:List AV} {es:List M} {gd:Option (Nat×Bool)} (ho:ops[i]?=some ⟨some d,.call ⟨.value f,args.toArray,ts⟩,ty,pos,af,gd⟩)
  (hw:iv ops ⟨some d,.call ⟨.value f,args.toArray,ts⟩,ty,pos,af,gd⟩ (Y l ds)) (hr:r≠.stuck) (h:al.bind res kk=r) (ks:List Nat) (hen:Enters P fid)
  (hC:CT P fid argsC es res V C) (hk:lS E ds l s ks f args fid argsC es first cap vs) (hd:Nat.blt d n=true) (hnm:vi ks recs=true)
  (hx:∀ x,(C x).length=ks.length/\jR (below ks.length) (C x)=true/\(V x).only (below ks.length)=true)
  (hV:∀ x,(V x).gZ (nth ks)=V' x/\lR ks (kz (nth ks) (C x))=C' x)
  (hpan:∀ p fr σ,fr.ds=ds->r=.kA p->Q (.panic p.av) fr σ)
  (hret:∀ x,kk x=r->mh ops i (C' x++s) recs/\mE P E n ops Q B L recs (Y ((d,V' x)::l) ds) (U (C' x++s))):mE P E n ops Q B (i::L) recs (Y l ds) (U s):=by
 obtain ⟨hns,hok,hp⟩:=k8 hr h
 refine CA ho hw ks hen (hC res rfl hns) hk hd hnm (λx _=>hx x) (λv hv=>?_) (λx hg v' s' hv hs=>?_)
 ·obtain ⟨p,hp1,rfl⟩:=hv
  exact ⟨p.only _,λfr' σ' hds=>hpan p _ _ hds (hp p hp1)⟩
 ·have:=hret x (hok x hg)
  rw[<- (hV x).1,<- (hV x).2] at this
  subst hv hs;exact this
theorem bV {o:Oper} {fr:eZ} (h:o.guard=none):iv ops o fr:=.inl h
theorem AW {o:Oper} {j g:Nat} {want b:Bool} (hb:b=want) (h:o.guard=some (j,want)) (hj:(ops[j]?).bind (·.dst)=some g/\kf l g=some (Bo b)):iv ops o (Y l ds):=by
 subst hb;exact .inr ⟨j,b,g,h,hj.1,fK hj.2⟩
end
theorem zO {P:Program} {fn:Func} {X:Type} {V:X->AV} {C:X->List M} {r:al X} {p:rW} {fr:eZ} {σ:Z} (hd:fr.ds=[]) (h:r=.kA p) :
 nN P fn (qi V C (λx=>r=.ok x) (λv=>∃ p,r=.kA p/\v=p.av)) (.panic p.av) fr σ:=BO hd ⟨p,h,rfl⟩
end Go.Abs
end
section
namespace Go.Abs
open al
theorem Rel.wq {E:Env} {g:Gh} {σ:Z} {w:World} (h:Rel E g σ w) {nm sz:Nat} {el:TypeId} (hc:σ.clear nm) (hf:E.fix nm=none) :
  Rel E (g.unbind nm) (σ.set nm (.app el sz [])) w:=by
 have hle:=ki.unbind g nm
 have hρ:∀ j,j≠nm->(g.unbind nm).ρ j=g.ρ j:=λj q=>by simp[Gh.unbind,q]
 have hρn:(g.unbind nm).ρ nm=none:=by simp[Gh.unbind]
 have hne:∀ j e,σ.set nm (.app el sz []) j=some e->j≠nm->σ j=some e:=λj e hj q=>by simpa[Z.set,q] using hj
 have hnes:∀ j,(σ.set nm (.app el sz []) j).isSome=true->j≠nm->(σ j).isSome=true:=λj hj q=>by simpa[Z.set,q] using hj
 refine { jN:=?_,inj:=?_,gl:=?_,apart:=?_,size:=h.size,oF:=h.oF,own:=?_,fix:=?_,iZ:=?_,g0:=h.g0,gn:=h.gn,os:=h.os,out:=h.out,tape:=h.tape,x:=h.x.sh rfl rfl (λj b hj hb=>by
   by_cases q:j=nm
   ·subst q;rw[hρn] at hb;cases hb
   ·exact ⟨j,hnes j hj q,by rw[<- hρ j q];exact hb,.inl rfl⟩) (λj b e' hfj hj=>by
   have q:j≠nm:=λq=>by subst q;rw[hf] at hfj;cases hfj
   exact ⟨e',hne j _ hj q,id⟩) }
 ·intro k e hk
  by_cases q:k=nm
  ·subst q;simp[Z.set] at hk;subst hk;exact .wF hρn
  ·have hk':=hne k e hk q
   exact (h.jN k e hk').le hle q (λ_ _ _=>rfl) (λj hj=>by subst hj;exact hc k e hk') (λ_ _=>rfl)
 ·intro k k' b hk hk' hb hb'
  by_cases q:k=nm
  ·subst q;rw[hρn] at hb;cases hb
  ·by_cases q':k'=nm
   ·subst q';rw[hρn] at hb';cases hb'
   ·rw[hρ k q] at hb;rw[hρ k' q'] at hb'
    exact h.inj k k' b (hnes k hk q) (hnes k' hk' q') hb hb'
 ·exact h.gl.le hle rfl (λ_ _ _=>rfl)
 ·intro k b e hk hka hb
  by_cases q:k=nm
  ·subst q;rw[hρn] at hb;cases hb
  ·rw[hρ k q] at hb;exact h.apart k b e (hne k e hk q) hka hb
 ·intro k b hk hb
  by_cases q:k=nm
  ·subst q;rw[hρn] at hb;cases hb
  ·rw[hρ k q] at hb;exact h.own k b (hnes k hk q) hb
 ·intro k b hk
  have q:k≠nm:=λq=>by subst q;rw[hf] at hk;cases hk
  rw[hρ k q];exact h.fix k b hk
 ·intro k b hk
  have q:k≠nm:=λq=>by subst q;rw[hf] at hk;cases hk
  have:(g.unbind nm).cp k=g.cp k:=rfl
  rw[this];exact h.iZ k b hk
section
variable {P:Program} {E:Env} {n:Nat} {ops:Array Oper} {Q:eB} {rest:List Oper} {c:Code} {l:List (Nat×AV)} {ds:List (FuncId×List AV)} {s:List (Nat×M)}
def fJ (E:Env) (n:Nat) (l:List (Nat×AV)) (ds:List (FuncId×List AV)) (s:List (Nat×M)) (l':List (Nat×AV)) (s':List (Nat×M)):Prop:=
 ∀ (g:Gh) (a:Act) (w:World),Rel E g (U s) w->FR n g (Y l ds) a->∃ g',Rel E g' (U s') w/\FR n g' (Y l' ds) a
theorem ca {l':List (Nat×AV)} {s':List (Nat×M)} (hg:fJ E n l ds s l' s') (h:SW P E n c Q (Y l' ds) (U s')):SW P E n c Q (Y l ds) (U s):=λg a w hR hF=>
 let ⟨g',hR',hF'⟩:=hg g a w hR hF;h g' a w hR' hF'
theorem aX {l':List (Nat×AV)} {s':List (Nat×M)} (hg:fJ E n l ds s l' s') (h:SL P E n ops Q rest (Y l' ds) (U s')):SL P E n ops Q rest (Y l ds) (U s):=λg a w hR hF=>
 let ⟨g',hR',hF'⟩:=hg g a w hR hF;h g' a w hR' hF'
theorem gX.set {g:Gh} {v:AV}:∀ {cells:List AV} {vs:List Value} {off:Nat} {u:AV},gX g cells vs->cells[off]?=some u->(∀ c,VR g u c->VR g v c)->gX g (cells.set off v) vs
 | [],_,_,_,_,h,_=>by simp at h
 | x::xs,_,0,u,.cons h t,hu,hv=>by simp at hu;subst hu;exact .cons (hv _ h) t
 | x::xs,_,off+1,u,.cons h t,hu,hv=>.cons h (gX.set t (by simpa using hu) hv)
theorem GD {j off k m sz:Nat} {el:TypeId} {cells:List PV} {cs:List AV} (hj:dZ s j=some (.box cs)) (hc:cs[off]?=some (.arr k m)) (hk:dZ s k=some (.app el sz cells)) (hz:Nat.blt 0 sz=true)
  (hn:cells.length=m*sz):fJ E n l ds s l ((j,.box (cs.set off (.pv (.sl m cells))))::s):=λg a w hR hF=>by
 refine ⟨g,?_,hF⟩
 have hjs:=bX hj
 have hks:=bX hk
 have he:∀ i e,U ((j,.box (cs.set off (.pv (.sl m cells))))::s) i=some e->(U s i).isSome=true/\(i≠j->U s i=some e):=λi e h=>by
  by_cases q:i=j
  ·subst q;exact ⟨by rw[hjs];rfl,λq=>absurd rfl q⟩
  ·have:U s i=some e:=by simpa[U,kN,q] using h
   exact ⟨by rw[this];rfl,λ_=>this⟩
 have hs:∀ i,(U ((j,.box (cs.set off (.pv (.sl m cells))))::s) i).isSome=true->(U s i).isSome=true:=λi h=>by
  cases q:U ((j,.box (cs.set off (.pv (.sl m cells))))::s) i with
  | none=>rw[q] at h;cases h
  | some e=>exact (he i e q).1
 exact {
     jN:=λi e h=>by
      by_cases q:i=j
      ·subst q
       have:e=.box (cs.set off (.pv (.sl m cells))):=by simpa[U,kN] using h.symm
       subst this
       cases hR.jN i _ hjs with
       | box h1 h2 h3 h4=>exact .box h1 h2 (h3.set hc λc hc=>hc.view (hR.jN k _ hks) (by simpa[Nat.blt_eq] using hz) hn) h4
      ·exact hR.jN i e ((he i e h).2 q)
     inj:=λi i' b h h'=>hR.inj i i' b (hs i h) (hs i' h')
     gl:=hR.gl
     apart:=λi b e h hea hb=>by
      by_cases q:i=j
      ·subst q;exact hR.apart i b _ hjs rfl hb
      ·exact hR.apart i b e ((he i e h).2 q) hea hb
     size:=hR.size,oF:=hR.oF,own:=λi b h=>hR.own i b (hs i h),fix:=hR.fix,iZ:=hR.iZ,g0:=hR.g0,gn:=hR.gn,os:=hR.os,out:=hR.out,tape:=hR.tape
     x:=hR.x.sh rfl rfl (λi b hi hb=>⟨i,hs i hi,hb,.inl rfl⟩) (λi b e' _ hi=>by
      by_cases q:i=j
      ·subst q;exact ⟨_,hjs,λ_=>(by simp[U,kN] at hi;exact ⟨_,hi.symm⟩)⟩
      ·exact ⟨e',(he i _ hi).2 q,id⟩) }
theorem ua {d:Nat} (nm:Nat) {sz:Nat} {el:TypeId} (hE:E.fix nm=none) (hd:kf l d=some (nSl)) (hm:lE nm l=false/\jO nm ds=false/\nZ nm s=false) :
  fJ E n l ds s ((d,.arr nm 0)::l) ((nm,.app el sz [])::s):=λg a w hR hF=>by
 have h1:=hR.wq (el:=el) (sz:=sz) (jP hm.2.2) hE
 have h2:=hF.le (ki.unbind g nm) (λk q=>by subst q;exact gO hm.1 hm.2.1)
 refine ⟨g.unbind nm,h1,h2.size,λi=>?_,h2.ds⟩
 by_cases q:i=d
 ·subst q
  have h3:=h2.iS i
  simp only[Y,fK hd] at h3
  simp only[Y,kY,if_true]
  rw[h3.dV];exact .pb (by simp[Gh.unbind])
 ·simpa[Y,kY,q] using h2.iS i
theorem qV {j off:Nat} (nm:Nat) {sz:Nat} {el:TypeId} {cs:List AV} (hE:E.fix nm=none) (hj:dZ s j=some (.box cs)) (hc:cs[off]?=some (nSl))
  (hm:lE nm l=false/\jO nm ds=false/\nZ nm s=false) (hjn:Nat.beq j nm=false) :
  fJ E n l ds s l ((j,.box (cs.set off (.arr nm 0)))::(nm,.app el sz [])::s):=λg a w hR hF=>by
 have hR:=hR.wq (el:=el) (sz:=sz) (jP hm.2.2) hE
 have hF:=hF.le (ki.unbind g nm) (λk q=>by subst q;exact gO hm.1 hm.2.1)
 have hjn':j≠nm:=λq=>by subst q;simp at hjn
 have hjs:(U s).set nm (.app el sz []) j=some (.box cs):=by simp[Z.set,hjn',bX hj]
 refine ⟨g.unbind nm,?_,hF⟩
 have he:∀ i e,U ((j,.box (cs.set off (.arr nm 0)))::(nm,.app el sz [])::s) i=some e->(((U s).set nm (.app el sz [])) i).isSome=true/\(i≠j->((U s).set nm (.app el sz [])) i=some e):=λi e h=>by
  by_cases q:i=j
  ·subst q;exact ⟨by rw[hjs];rfl,λq=>absurd rfl q⟩
  ·have:((U s).set nm (.app el sz [])) i=some e:=by simpa[U,kN,Z.set,q] using h
   exact ⟨by rw[this];rfl,λ_=>this⟩
 have hs:∀ i,(U ((j,.box (cs.set off (.arr nm 0)))::(nm,.app el sz [])::s) i).isSome=true->(((U s).set nm (.app el sz [])) i).isSome=true:=λi h=>by
  cases q:U ((j,.box (cs.set off (.arr nm 0)))::(nm,.app el sz [])::s) i with
  | none=>rw[q] at h;cases h
  | some e=>exact (he i e q).1
 exact {
     jN:=λi e h=>by
      by_cases q:i=j
      ·subst q
       have:e=.box (cs.set off (.arr nm 0)):=by simpa[U,kN] using h.symm
       subst this
       cases hR.jN i _ hjs with
       | box h1 h2 h3 h4=>exact .box h1 h2 (h3.set hc λc hc=>by rw[hc.dV];exact .pb (by simp[Gh.unbind])) h4
      ·exact hR.jN i e ((he i e h).2 q)
     inj:=λi i' b h h'=>hR.inj i i' b (hs i h) (hs i' h')
     gl:=hR.gl
     apart:=λi b e h hea hb=>by
      by_cases q:i=j
      ·subst q;exact hR.apart i b _ hjs rfl hb
      ·exact hR.apart i b e ((he i e h).2 q) hea hb
     size:=hR.size,oF:=hR.oF,own:=λi b h=>hR.own i b (hs i h),fix:=hR.fix,iZ:=hR.iZ,g0:=hR.g0,gn:=hR.gn,os:=hR.os,out:=hR.out,tape:=hR.tape
     x:=hR.x.sh rfl rfl (λi b hi hb=>⟨i,hs i hi,hb,.inl rfl⟩) (λi b e' _ hi=>by
      by_cases q:i=j
      ·subst q;exact ⟨_,hjs,λ_=>(by simp[U,kN] at hi;exact ⟨_,hi.symm⟩)⟩
      ·exact ⟨e',(he i _ hi).2 q,id⟩) }
end
def dY (x:Int):Prop:=-9223372036854775808<=x/\x<=9223372036854775807
instance (x:Int):Decidable (dY x):=by unfold dY;exact inferInstance
def rN (a b:ByS):Prop:=a.length+b.length<=9223372036854775807
instance (a b:ByS):Decidable (rN a b):=by unfold rN;exact inferInstance
def sub (c:ByS) (i j:Int):ByS:=(c.drop i.toNat).take (j.toNat - i.toNat)
def dI (c:ByS) (i:Int):ByS:=c.drop i.toNat
def kB (c:ByS) (j:Int):ByS:=c.take j.toNat
def AV.nz:AV->AV
 | .pv (.sc (.slice none 0 0))=>.pv (.sl 0 [])
 | .pv (.sc (.pointer none))=>.pv (.pt none)
 | v=>v
theorem AV.Ek (v:AV):v.le v.nz:=by
 unfold AV.nz;split
 ·exact AV.le_nil
 ·exact AV.Kb
 exact AV.le_refl _
def AV.JU:List AV->List AV
 | []=>[]
 | v::vs=>v.nz::JU vs
theorem AV.wu:∀ l:List AV,Ax l (AV.JU l)
 | []=>.nil
 | v::l=>.cons (AV.Ek v) (AV.wu l)
section
variable {P:Program} {l:List (Nat×AV)} {ds:List (FuncId×List AV)} {s:List (Nat×M)}
theorem bQ {t:TypeId} {parts:List (Nat×Operand)} {z:List Value} {pl:List (Nat×Nat)} {pv:List (Nat×AV)} {out out':List AV} [ht:iM P t z pl]
  (hp:parts.mapM (λp=>(bR l p.2).map λv=>(p.1,v))=some pv) (h:mc pl (z.map λv=>.pv (.sc v)) pv=some out) (hn:AV.JU out=out'):jr P (.build t parts.toArray) l ds s (.agg out') []:=by
 subst hn;exact (dT hp h).AJ (AV.IG (AV.wu out))
end
class El (P:Program) (t:TypeId):Prop where h:(P.underlying t).map D2=some false
section
variable {P:Program} {l:List (Nat×AV)} {ds:List (FuncId×List AV)} {s:List (Nat×M)}
theorem Em {t:TypeId} {x:Operand} {f d:Nat} {cs:List AV} {v:AV} [hd:ma P t f d] (ha:∀ fields fd,P.underlying t=some (.struct fields)->fields[f]?=some fd->pM P fd.type=some false)
  (hx:bR l x=some (.agg cs)) (hv:cs[d]?=some v):jr P (.field t x f) l ds s v []:=by
 have h:=hd.h
 unfold JS at h
 split at h
 ·rename_i fs hu
  split at h
  ·rename_i fd hf
   split at h
   ·cases h;exact .of (yX hu hf rfl (ha _ _ hu hf) (aD hx) hv)
   ·cases h
  ·cases h
 ·cases h
theorem ql {t:TypeId} {x:Operand} {v:AV} [ht:El P t] (hx:bR l x=some v):jr P (.makeInterface t x) l ds s (.mI t v) []:=by
 have h:=ht.h;cases hu:P.underlying t with
 | none=>simp[hu] at h
 | some d=>simp[hu] at h;exact .of (yW hu h (aD hx))
theorem qm {f:FuncId} {a b:List Operand} {va vb:List AV} (ha:tL l a=some va) (hb:tL l b=some vb):jr P (.makeFunc (.func f) a.toArray b.toArray) l ds s (.fn f va vb) []:=
 .of (by have:=AF (P:=P) (fr:=Y l ds) (f:=f) (a:=a) (b:=b);rw[lQ ha,lQ hb] at this;exact this)
end
section
variable {P:Program} {E:Env} {n:Nat} {ops:Array Oper} {Q:eB} {rest:List Oper} {l:List (Nat×AV)} {ds:List (FuncId×List AV)} {s:List (Nat×M)}
 {ty:TypeId} {pos:String} {af:Array Edge}
theorem CD {g:Gh} {w:World} {k:Nat} {cs cs':List AV} (h:Ax cs cs') (he:jh g w k (.box cs)):jh g w k (.box cs'):=by
 cases he with|box h1 h2 h3 h4=>exact .box h1 h2 (h.H8 h3) h4
theorem CE {j:Nat} {cs cs':List AV} (hj:dZ s j=some (.box cs)) (hl:Ax cs cs'):fJ E n l ds s l ((j,.box cs')::s):=λg a w hR hF=>by
 refine ⟨g,?_,hF⟩;have hjs:=bX hj;have he:∀ i e,U ((j,.box cs')::s) i=some e->(U s i).isSome=true/\(i≠j->U s i=some e):=λi e h=>by
  by_cases q:i=j
  ·subst q;exact ⟨by rw[hjs];rfl,λq=>absurd rfl q⟩
  have:U s i=some e:=by simpa[U,kN,q] using h
  exact ⟨by rw[this];rfl,λ_=>this⟩
 have hs:∀ i,(U ((j,.box cs')::s) i).isSome=true->(U s i).isSome=true:=λi h=>by
  cases q:U ((j,.box cs')::s) i with
  | none=>rw[q] at h;cases h
  | some e=>exact (he i e q).1
 exact {
  jN:=λi e h=>by
   by_cases q:i=j
   ·subst q;have:e=.box cs':=by simpa[U,kN] using h.symm
    subst this;exact CD hl (hR.jN i _ hjs)
   exact hR.jN i e ((he i e h).2 q)
  inj:=λi i' b h h'=>hR.inj i i' b (hs i h) (hs i' h')
  gl:=hR.gl
  apart:=λi b e h hea hb=>by
   by_cases q:i=j
   ·subst q;exact hR.apart i b _ hjs rfl hb
   exact hR.apart i b e ((he i e h).2 q) hea hb
  size:=hR.size,oF:=hR.oF,own:=λi b h=>hR.own i b (hs i h),fix:=hR.fix,iZ:=hR.iZ,g0:=hR.g0,gn:=hR.gn,os:=hR.os,out:=hR.out,tape:=hR.tape
  x:=hR.x.sh rfl rfl (λi b hi hb=>⟨i,hs i hi,hb,.inl rfl⟩) (λi b e' _ hi=>by
   by_cases q:i=j
   ·subst q;exact ⟨_,hjs,λ_=>(by simp[U,kN] at hi;exact ⟨_,hi.symm⟩)⟩
   exact ⟨e',(he i _ hi).2 q,id⟩) }
theorem kg (j:Nat) {cs cs':List AV} (hj:dZ s j=some (.box cs)) (hn:AV.JU cs=cs'):fJ E n l ds s l ((j,.box cs')::s):=by subst hn;exact CE hj (AV.wu cs)
theorem En {x:Operand} (p:rW) (hx:bR l x=some p.av) (hq:Q (.panic p.av) (Y l ds) (U s)):SL P E n ops Q (⟨none,.panic x,ty,pos,af,none⟩::rest) (Y l ds) (U s):=
 jo rfl (BM rfl (aD hx) hq)
end
end Go.Abs
end
section
namespace Go.Abs
open al
def quiet (ops:Array Oper) (i:Nat):List Rec->Bool
 | []=>true
 | r::rs=>(match r.rd with|[]=>true|_=>nj ops ops.size i r.i)&&quiet ops i rs
theorem aK {ops:Array Oper} {i:Nat} {s':List (Nat×M)} {recs:List Rec} (h:quiet ops i recs=true):mh ops i s' recs:=by
 induction recs with
 | nil=>intro r hr;simp[hY] at hr
 | cons a rs ih=>
  simp only[quiet,Bool.and_eq_true] at h
  intro r hr p hp
  simp only[hY,List.mem_filter,Bool.not_eq_true'] at hr
  rcases List.mem_cons.1 hr.1 with q|q
  ·subst q;have h1:=h.1;split at h1
   ·rename_i h0;rw[h0] at hp;cases hp
   rw[hr.2] at h1;cases h1
  ·exact ih h.2 r (by simp[hY,q,hr.2]) p hp
def Lj (P:Program) (s:TypeId) (f:Nat):Option Bool:=
 match P.underlying s with
 | some (.struct fs)=>match fs[f]? with
  | some fd=>pM P fd.type
  | none=>none
 | _=>none
class KO (P:Program) (t:TypeId) (f:Nat) (b:outParam Bool):Prop where h:Lj P t f=some b
section
variable {P:Program} {l:List (Nat×AV)} {ds:List (FuncId×List AV)} {s:List (Nat×M)}
theorem k9 {t:TypeId} {x:Operand} {f d:Nat} {cs:List AV} {v:AV} [hd:ma P t f d] [hb:KO P t f false] (hx:bR l x=some (.agg cs)) (hv:cs[d]?=some v):jr P (.field t x f) l ds s v []:=
 Em (λfields fd hu hf=>by have:=hb.h;simp only[Lj,hu,hf] at this;exact this) hx hv
end
section
variable {P:Program} {E:Env} {n:Nat} {ops:Array Oper} {Q:eB} {rest:List Oper} {l:List (Nat×AV)} {ds:List (FuncId×List AV)} {s:List (Nat×M)}
 {ty:TypeId} {pos:String} {af:Array Edge}
theorem cf {α:Type} {C:α->List PV} {Cs:List α->List PV} (xs:List α) (mK:∀ l,Cs l=l.flatMap C) {d:Nat} {t e:TypeId} {m sz:Nat} {parts:List (Nat×Operand)} {zs:List Value} {pl:List (Nat×Nat)} {pv:List (Nat×AV)}
  [ht:k4 P t m e sz zs pl] (h:parts.mapM (λp=>(bR l p.2).map λv=>(p.1,v))=some pv/\mc pl (zs.map λv=>.pv (.sc v)) pv=some ((xs.flatMap C).map .pv)) (hd:Nat.blt d n=true)
  (hn:SL P E n ops Q rest (Y ((d,.pv (.sl m (Cs xs)))::l) ds) (U s)):SL P E n ops Q (⟨some d,.buildSlice t m parts.toArray,ty,pos,af,none⟩::rest) (Y l ds) (U s):=
 J5 h hd (by rw[<- mK];exact hn)
end
end Go.Abs
end
section
namespace Go.Abs
open al
def GN (E:Env) (n:Nat) (ds:List (FuncId×List AV)) (Q:eB):eB
 | .normal,fr,σ=>∃ l s l' s',fr=Y l ds/\σ=U s/\fJ E n l ds s l' s'/\Q .normal (Y l' ds) (U s')
 | e,fr,σ=>Q e fr σ
section
variable {P:Program} {E:Env} {n:Nat} {ops:Array Oper} {Q:eB} {rest:List Oper} {c:Code} {l:List (Nat×AV)} {ds:List (FuncId×List AV)} {s:List (Nat×M)}
theorem LQ.gn {e:Exit} {a:Act} {w:World} (h:LQ E n (GN E n ds Q) e a w):LQ E n Q e a w:=by
 obtain ⟨g,ae,fr,σ,q,hx,hR,hF⟩:=h;cases hx with
 | normal=>
  obtain ⟨l,s,l',s',rfl,rfl,hg,hq⟩:=q
  obtain ⟨g',hR',hF'⟩:=hg g a w hR hF
  exact ⟨g',_,_,_,hq,.normal,hR',hF'⟩
 | exit id=>exact ⟨g,_,_,_,q,.exit id,hR,hF⟩
 | goto id=>exact ⟨g,_,_,_,q,.goto id,hR,hF⟩
 | ret=>exact ⟨g,_,_,_,q,.ret,hR,hF⟩
 | panic hv=>exact ⟨g,_,_,_,q,.panic hv,hR,hF⟩
theorem mL {fr:eZ} {σ:Z} (ds:List (FuncId×List AV)) (h:SW P E n c (GN E n ds Q) fr σ):SW P E n c Q fr σ:=λg a w hR hF=>wp_mono (h g a w hR hF) λ_ _ _ q=>q.gn
theorem fJ.trans {l1 l2:List (Nat×AV)} {s1 s2:List (Nat×M)} (h:fJ E n l ds s l1 s1) (h':fJ E n l1 ds s1 l2 s2):fJ E n l ds s l2 s2:=λg a w hR hF=>
 let ⟨g',hR',hF'⟩:=h g a w hR hF;h' g' a w hR' hF'
theorem fJ.AB (l':List (Nat×AV)) (s':List (Nat×M)) (h1:tM l l' l') (h2:ux s s' s'):fJ E n l ds s l' s':=λg _ _ hR hF=>
 ⟨g,hR.sub (zr (qU h2)),hF.AJ (zq (oQ h1))⟩
def ns (nm k:Nat):Nat->Nat:=λj=>match Nat.beq j nm with
 | true=>k
 | false=>j
def Eo (nm k:Nat) (l:List (Nat×AV)):List (Nat×AV)->Prop
 | []=>True
 | (i,v')::F=>(∃ v,kf l i=some v/\v.eP k=false/\v.gZ (ns nm k)=v')/\Eo nm k l F
def Ep (nm k:Nat) (s:List (Nat×M)):List (Nat×M)->Prop
 | []=>True
 | (i,e')::F=>(∃ e,dZ s i=some e/\e.mq k=false/\e.gZ (ns nm k)=e'/\Nat.beq i nm=false/\Nat.beq i k=false)/\Ep nm k s F
theorem wv (nm k:Nat):ns nm k nm=k:=by simp[ns]
theorem CF {nm k j:Nat} (h:j≠nm):ns nm k j=j:=by
 unfold ns;split
 ·rename_i q;exact absurd (Nat.eq_of_beq_eq_true q) h
 rfl
mutual
theorem VR.ns {g:Gh} {nm k:Nat}:∀ {v:AV} {c:Value},v.eP k=false->VR g v c->VR (g.alias k nm) (v.gZ (ns nm k)) c
 | .any,_,_,_=>.any _
 | .oc,_,_,h=>by cases h with|oc h=>exact .oc h
 | .pv _,_,_,h=>by cases h with|pv h=>exact .pv (PR.congr (g:=g) (g':=g.alias k nm) (λ_ _ q=>q) h)
 | .ptr j off,_,hm,h=>by
  have hj:j≠k:=by simpa[AV.eP] using hm
  cases h with|ptr _ h=>
   by_cases q:j=nm
   ·subst q;simp only[AV.gZ,wv];exact .ptr off (by simp[Gh.alias,h])
   ·simp only[AV.gZ,CF q];exact .ptr off (by simp[Gh.alias,hj,h])
 | .arr j m,_,hm,h=>by
  have hj:j≠k:=by simpa[AV.eP] using hm
  by_cases q:j=nm
  ·subst q;simp only[AV.gZ,wv];have e1:(g.alias k j).ρ k=g.ρ j:=by simp[Gh.alias]
   have e2:(g.alias k j).cp k=g.cp j:=by simp[Gh.alias]
   cases h with
   | arr _ h=>rw[<- e2];exact .arr m (e1.trans h)
   | pb h=>exact .pb (e1.trans h)
  simp only[AV.gZ,CF q];have e1:(g.alias k nm).ρ j=g.ρ j:=by simp[Gh.alias,hj]
  have e2:(g.alias k nm).cp j=g.cp j:=by simp[Gh.alias,hj]
  cases h with
  | arr _ h=>rw[<- e2];exact .arr m (e1.trans h)
  | pb h=>exact .pb (e1.trans h)
 | .sp _,_,_,h=>by cases h with|sp off h hl hc=>exact .sp off h hl hc
 | .fn f x y,_,hm,h=>by
  simp[AV.eP] at hm;cases h with|fn _ hx hy=>exact .fn f (gX.ns hm.1 hx) (gX.ns hm.2 hy)
 | .agg x,_,hm,h=>by cases h with|agg h=>exact .agg (gX.ns (by simpa[AV.eP] using hm) h)
 | .gU x,_,hm,h=>by cases h with|gU h=>exact .gU (gX.ns (by simpa[AV.eP] using hm) h)
 | .mI t x,_,hm,h=>by cases h with|mI _ h=>exact .mI t (VR.ns (by simpa[AV.eP] using hm) h)
theorem gX.ns {g:Gh} {nm k:Nat}:∀ {v:List AV} {c:List Value},AV.eP.fW k v=false->gX g v c->gX (g.alias k nm) (AV.gZ.me (ns nm k) v) c
 | [],_,_,h=>by cases h;exact .nil
 | x::xs,_,hm,h=>by
  simp[AV.eP.fW] at hm;cases h with|cons h t=>exact .cons (VR.ns hm.1 h) (gX.ns hm.2 t)
end
theorem lL.alias {g:Gh} {nm k:Nat} {ps:List PV} {vs:List Value} (h:lL g ps vs):lL (g.alias k nm) ps vs:=lL.congr (g:=g) (g':=g.alias k nm) (λ_ _ q=>q) h
theorem jh.ns {g:Gh} {w:World} {nm k j:Nat} {e:M} (hj:j≠k) (hm:AV.eP.fW k e.cells=false) (h:jh g w j e):jh (g.alias k nm) w j (e.gZ (ns nm k)):=by
 have e1:(g.alias k nm).ρ j=g.ρ j:=by simp[Gh.alias,hj]
 have e2:(g.alias k nm).cp j=g.cp j:=by simp[Gh.alias,hj]
 cases h with
 | box h hw hc h1=>exact .box (e1.trans h) hw (hc.ns hm) h1
 | pb h=>exact .pb (e1.trans h)
 | arr h hw hl hz hx hc=>exact .arr (e1.trans h) hw hl (by rw[e2];exact hz) (by rw[e2];exact hx) hc.alias
 | wF h=>exact .wF (e1.trans h)
 | app h hG hw hl hz hx hc=>exact .app (e1.trans h) hG hw hl (by rw[e2];exact hz) (by rw[e2];exact hx) hc.alias
theorem jh.wv {g:Gh} {w:World} {nm k:Nat} {el:TypeId} {sz:Nat} {cells:List PV} (h:jh g w nm (.app el sz cells)):jh (g.alias k nm) w k (.app el sz cells):=by
 have e1:(g.alias k nm).ρ k=g.ρ nm:=by simp[Gh.alias]
 have e2:(g.alias k nm).cp k=g.cp nm:=by simp[Gh.alias]
 cases h with
 | wF h=>exact .wF (e1.trans h)
 | app h hG hw hl hz hx hc=>exact .app (e1.trans h) hG hw hl (by rw[e2];exact hz) (by rw[e2];exact hx) hc.alias
theorem yv {nm k:Nat} {l:List (Nat×AV)}:∀ {F:List (Nat×AV)},Eo nm k l F->∀ i,(∃ v,kY l i=v/\v.eP k=false/\kY F i=v.gZ (ns nm k))\/kY F i=.any
 | [],_,i=>.inr rfl
 | (j,v')::F,h,i=>by
  obtain ⟨⟨v,h1,h2,h3⟩,ht⟩:=h;simp only[kY];by_cases q:i=j
  ·subst q;rw[if_pos rfl];exact .inl ⟨v,fK h1,h2,h3.symm⟩
  rw[if_neg q];exact yv ht i
theorem yw {nm k:Nat} {s:List (Nat×M)}:∀ {F:List (Nat×M)},Ep nm k s F->∀ i e',U F i=some e'->∃ e,U s i=some e/\AV.eP.fW k e.cells=false/\e.gZ (ns nm k)=e'/\i≠nm/\i≠k
 | [],_,i,e',h=>by cases h
 | (j,v')::F,h,i,e',he=>by
  obtain ⟨⟨e,h1,h2,h3,h4,h5⟩,ht⟩:=h;simp only[U,kN] at he;by_cases q:i=j
  ·subst q;rw[if_pos rfl] at he;cases he;exact ⟨e,bX h1,M.zp h2,h3,λq=>by subst q;simp at h4,λq=>by subst q;simp at h5⟩
  rw[if_neg q] at he;exact yw ht i e' he
theorem Er (nm k:Nat) {e0:M} (he0:∀ g w,jh g w nm e0->jh (g.alias k nm) w k e0) (hnb:∀ cs,e0≠.box cs) (l':List (Nat×AV)) (s':List (Nat×M)) (hE:E.fix k=none) (hnk:Nat.beq nm k=false) (hk:dZ s nm=some e0)
  (hd:jO nm ds=false/\jO k ds=false) (h1:Eo nm k l l') (h2:Ep nm k s s'):fJ E n l ds s l' ((k,e0)::s'):=λg a w hR hF=>by
 have hne:nm≠k:=λq=>by subst q;simp at hnk
 have hks:=bX hk
 have hs':∀ i e',U ((k,e0)::s') i=some e'->(i=k/\e'=e0)\/(i≠k/\i≠nm/\∃ e,U s i=some e/\AV.eP.fW k e.cells=false/\e.gZ (ns nm k)=e'):=λi e' he=>by
  simp only[U,kN] at he
  by_cases q:i=k
  ·subst q;rw[if_pos rfl] at he;cases he;exact .inl ⟨rfl,rfl⟩
  ·rw[if_neg q] at he
   obtain ⟨e,h3,h4,h5,h6,h7⟩:=yw h2 i e' he
   exact .inr ⟨q,h6,e,h3,h4,h5⟩
 have hρk:(g.alias k nm).ρ k=g.ρ nm:=by simp[Gh.alias]
 have hρ:∀ j,j≠k->(g.alias k nm).ρ j=g.ρ j:=λj hj=>by simp[Gh.alias,hj]
 have hcp:∀ j,j≠k->(g.alias k nm).cp j=g.cp j:=λj hj=>by simp[Gh.alias,hj]
 have hold:∀ i,(U ((k,e0)::s') i).isSome=true->∃ j,(U s j).isSome=true/\(g.alias k nm).ρ i=g.ρ j/\((i=k/\j=nm)\/(i≠k/\i≠nm/\j=i)):=λi hi=>by
  cases q:U ((k,e0)::s') i with
  | none=>rw[q] at hi;cases hi
  | some e'=>
   rcases hs' i e' q with ⟨rfl,_⟩|⟨q1,q2,e,q3,_⟩
   ·exact ⟨nm,by rw[hks];rfl,hρk,.inl ⟨rfl,rfl⟩⟩
   ·exact ⟨i,by rw[q3];rfl,hρ i q1,.inr ⟨q1,q2,rfl⟩⟩
 refine ⟨g.alias k nm,?_,⟨hF.size,λi=>?_,?_⟩⟩
 ·exact {
      jN:=λi e' h=>by
       rcases hs' i e' h with ⟨rfl,rfl⟩|⟨q1,q2,e,q3,q4,rfl⟩
       ·exact he0 _ _ (hR.jN nm _ hks)
       ·exact (hR.jN i e q3).ns q1 q4
      inj:=λi i' b h h' hb hb'=>by
       obtain ⟨j,j1,j2,j3⟩:=hold i h
       obtain ⟨j',j1',j2',j3'⟩:=hold i' h'
       have:=hR.inj j j' b j1 j1' (j2▸hb) (j2'▸hb')
       rcases j3 with ⟨rfl,rfl⟩|⟨q1,q2,rfl⟩<;>rcases j3' with ⟨rfl,rfl⟩|⟨q1',q2',rfl⟩
       ·rfl
       ·exact absurd this.symm q2'
       ·exact absurd this q2
       ·exact this
      gl:=λb ys hb=>by
       obtain ⟨cs,el,fz,h1,h2,h3⟩:=hR.gl b ys hb
       exact ⟨cs,el,fz,h1,h2,h3.alias⟩
      apart:=λi b e' h hea hb=>by
       rcases hs' i e' h with ⟨rfl,rfl⟩|⟨q1,q2,e,q3,q4,rfl⟩
       ·rw[hρk] at hb;exact hR.apart nm b _ hks hea hb
       ·exact hR.apart i b e q3 (by rw[<- M.zj (ns nm k) e];exact hea) (by rw[<- hρ i q1];exact hb)
      size:=hR.size,oF:=hR.oF
      own:=λi b h hb=>by
       obtain ⟨j,j1,j2,_⟩:=hold i h
       exact hR.own j b j1 (j2▸hb)
      fix:=λi b h=>by
       have q:i≠k:=λq=>by subst q;rw[hE] at h;cases h
       rw[hρ i q];exact hR.fix i b h
      iZ:=λi b h=>by
       have q:i≠k:=λq=>by subst q;rw[hE] at h;cases h
       rw[hcp i q];exact hR.iZ i b h
      g0:=hR.g0,gn:=hR.gn,os:=hR.os,out:=hR.out,tape:=hR.tape
      x:=hR.x.sh rfl rfl (λi b hi hb=>by
       obtain ⟨j,j1,j2,j3⟩:=hold i hi
       refine ⟨j,j1,j2▸hb,?_⟩
       rcases j3 with ⟨_,rfl⟩|⟨_,_,rfl⟩
       ·exact .inr ⟨_,hks,hnb⟩
       ·exact .inl rfl) (λi b e' hfi hi=>by
       rcases hs' i _ hi with ⟨rfl,q⟩|⟨q1,q2,e,q3,q4,q5⟩
       ·rw[hE] at hfi;cases hfi
       ·refine ⟨e,q3,λ⟨c,q⟩=>?_⟩
        subst q;exact ⟨_,q5.symm⟩) }
 ·have hsl:=hF.iS i
  rcases yv h1 i with ⟨v,q1,q2,q3⟩|q
  ·simp only[Y] at hsl ⊢
   rw[q3];rw[q1] at hsl;exact hsl.ns q2
  ·simp only[Y];rw[q];exact .any _
 ·refine hF.ds.le (ki.alias g k nm) λj q p hp=>?_
  subst q;exact tU hd.2 p hp
theorem la (nm k:Nat) {el:TypeId} {sz:Nat} {cells:List PV} (l':List (Nat×AV)) (s':List (Nat×M)) (hE:E.fix k=none) (hnk:Nat.beq nm k=false) (hk:dZ s nm=some (.app el sz cells))
  (hd:jO nm ds=false/\jO k ds=false) (h1:Eo nm k l l') (h2:Ep nm k s s'):fJ E n l ds s l' ((k,.app el sz cells)::s'):=
 Er nm k (λ_ _ h=>h.wv) (λ_ q=>by cases q) l' s' hE hnk hk hd h1 h2
theorem jh.Es {g:Gh} {w:World} {nm k:Nat} {el:TypeId} {sz:Nat} {cells:List PV} (h:jh g w nm (.arr el sz cells)):jh (g.alias k nm) w k (.arr el sz cells):=by
 have e1:(g.alias k nm).ρ k=g.ρ nm:=by simp[Gh.alias]
 have e2:(g.alias k nm).cp k=g.cp nm:=by simp[Gh.alias]
 cases h with
 | pb h=>exact .pb (e1.trans h)
 | arr h hw hl hz hx hc=>exact .arr (e1.trans h) hw hl (by rw[e2];exact hz) (by rw[e2];exact hx) hc.alias
theorem jV (nm k:Nat) {el:TypeId} {sz:Nat} {cells:List PV} (l':List (Nat×AV)) (s':List (Nat×M)) (hE:E.fix k=none) (hnk:Nat.beq nm k=false) (hk:dZ s nm=some (.arr el sz cells))
  (hd:jO nm ds=false/\jO k ds=false) (h1:Eo nm k l l') (h2:Ep nm k s s'):fJ E n l ds s l' ((k,.arr el sz cells)::s'):=
 Er nm k (λ_ _ h=>h.Es) (λ_ q=>by cases q) l' s' hE hnk hk hd h1 h2
end
def lz (bytes a b:Nat):Prop:=(a+b)*bytes<=140737488355328/\a+b<=maxLen
instance (bytes a b:Nat):Decidable (lz bytes a b):=by unfold lz;exact inferInstance
theorem AX:∀ {a b:List PV},PV.jK a=true->PV.jK b=true->PV.jK (a++b)=true
 | [],_,_,h=>h
 | x::a,b,h,h'=>by simp[PV.jK] at h ⊢;exact ⟨h.1,AX h.2 h'⟩
theorem qn {α:Type} {C:α->List PV} (hC:∀ x,PV.jK (C x)=true):∀ l:List α,PV.jK (l.flatMap C)=true
 | []=>rfl
 | x::l=>by rw[List.flatMap_cons];exact AX (hC x) (qn hC l)
section
variable {P:Program} {E:Env} {n:Nat} {ops:Array Oper} {Q:eB} {rest:List Oper} {l:List (Nat×AV)} {ds:List (FuncId×List AV)} {s:List (Nat×M)}
 {ty:TypeId} {pos:String} {af:Array Edge}
structure yx (P:Program) (E:Env) (l:List (Nat×AV)) (ds:List (FuncId×List AV)) (s:List (Nat×M)) {α:Type} (C:α->List PV) (Cs:List α->List PV) (t e:TypeId) (sz bytes k nm:Nat) (a x:Operand) (xs ys:List α):Prop where
 hT:P.underlying t=some (.slice e)
 hB:qQ P e=some (sz,bytes)
 mK:∀ l,Cs l=l.flatMap C
 hL:∀ x,(C x).length=sz
 h1:∀ x,PV.jK (C x)=true
 hE:E.fix nm=none
 hs:bR l a=some (.arr k (List.length xs))
 hk:dZ s k=some (.app e sz (Cs xs))
 hx:bR l x=some (.pv (.sl (List.length ys) (Cs ys)))\/(ys=[]/\bR l x=some (nSl))
 hm:lE nm l=false/\jO nm ds=false/\wW nm [k] s=false
 hg:lz bytes (List.length xs) (List.length ys)
theorem yx.Kd {α:Type} {C:α->List PV} {Cs:List α->List PV} {t e:TypeId} {sz bytes k nm:Nat} {a x:Operand} {xs ys:List α} (h:yx P E l ds s C Cs t e sz bytes k nm a x xs ys) :
  Gf sz ((Y l ds).val x) (List.length ys) (Cs ys):=by
 rcases h.hx with q|⟨q1,q2⟩
 ·rw[aD q];exact .sl _ _ (by rw[h.mK,iE h.hL])
 ·rw[aD q2];subst q1;rw[h.mK];exact .nil
theorem yx.Ke {α:Type} {C:α->List PV} {Cs:List α->List PV} {t e:TypeId} {sz bytes k nm:Nat} {a x:Operand} {xs ys:List α} (h:yx P E l ds s C Cs t e sz bytes k nm a x xs ys) :
  ((U s).del k).clear nm:=by
 intro j e he
 unfold Z.del at he
 split at he
 ·cases he
 ·rename_i q
  refine mQ h.hm.2.2 j e ?_ he
  cases hb:Nat.beq j k with
  | true=>exact absurd (Nat.eq_of_beq_eq_true hb) q
  | false=>simp[hb]
theorem mT {α:Type} {C:α->List PV} {Cs:List α->List PV} {d:Nat} {t e:TypeId} {a x:Operand} {sz bytes k:Nat} (nm:Nat) {xs ys:List α} (h:yx P E l ds s C Cs t e sz bytes k nm a x xs ys) (hd:Nat.blt d n=true)
  (hn:SL P E n ops Q rest (Y ((d,.arr nm (List.length (xs++ys)))::l) ds) (U ((nm,.app e sz (Cs (xs++ys)))::oh k s))) :
  SL P E n ops Q (⟨some d,.call ⟨.builtin .append,#[a,x],#[t,t]⟩,ty,pos,af,none⟩::rest) (Y l ds) (U s):=by
 refine jo rfl (ur (nm:=nm) rfl h.hT h.hB (aD h.hs) (bX h.hk) (by rw[h.mK,iE h.hL]) h.Kd (by rw[h.mK];exact qn h.h1 ys) (gO h.hm.1 h.hm.2.1) h.Ke h.hE h.hg.1 h.hg.2 (mR hd) ?_)
 rw[<- pq,<- List.length_append,show Cs xs++Cs ys=Cs (xs++ys) by rw[h.mK,h.mK,h.mK,List.flatMap_append]];exact hn
theorem w7 {α:Type} {C:α->List PV} {Cs:List α->List PV} {j off k sz:Nat} {el:TypeId} {xs:List α} {cs:List AV} (mK:∀ l,Cs l=l.flatMap C) (hC:∀ x,(C x).length=sz) (hz:Nat.blt 0 sz=true) (hj:dZ s j=some (.box cs)) (hc:cs[off]?=some (.arr k (List.length xs)))
  (hk:dZ s k=some (.app el sz (Cs xs))) {cs':List AV} (hcs:cs.set off (.pv (.sl (List.length xs) (Cs xs)))=cs'):fJ E n l ds s l ((j,.box cs')::s):=by
 subst hcs;exact GD hj hc hk hz (by rw[mK,iE hC])
theorem nc {α:Type} {C:α->List PV} {Cs:List α->List PV} {x:Operand} {k sz:Nat} {el:TypeId} {xs:List α} (mK:∀ l,Cs l=l.flatMap C) (hC:∀ x,(C x).length=sz) (hz:Nat.blt 0 sz=true) (hx:bR l x=some (.arr k (List.length xs))) (hk:dZ s k=some (.app el sz (Cs xs))) :
 jr P (.move x) l ds s (.pv (.sl (List.length xs) (Cs xs))) [(k,.app el sz (Cs xs))]:=IP hx hk hz (by rw[mK,iE hC])
theorem oI {α:Type} {C:α->List PV} {Cs:List α->List PV} {t:TypeId} {x:Operand} {k j off sz:Nat} {el:TypeId} {xs:List α} {e:M} [ha:ja P t false] (mK:∀ l,Cs l=l.flatMap C) (hC:∀ x,(C x).length=sz) (hz:Nat.blt 0 sz=true)
 (hx:bR l x=some (.ptr k off)) (hk:dZ s k=some e) (hv:e.cells[off]?=some (.arr j (List.length xs))) (hj:dZ s j=some (.app el sz (Cs xs))) :
 jr P (.load t x) l ds s (.pv (.sl (List.length xs) (Cs xs))) [(k,e),(j,.app el sz (Cs xs))]:=Ee hx hk hv hj hz (by rw[mK,iE hC])
theorem AY {d:Nat} {v:AV} (hd:kf l d=some v) {v':AV} (hv:v.nz=v'):fJ E n l ds s ((d,v')::l) s:=λg a w hR hF=>by
 subst hv;refine ⟨g,hR,hF.size,λi=>?_,hF.ds⟩;have h:=hF.iS i;by_cases q:i=d
 ·subst q;simp only[Y,kY,if_true];simp only[Y,fK hd] at h;exact AV.Ek v g _ h
 simpa[Y,kY,q] using h
theorem AV.BQ (v:AV):v.le .any:=λ_ _ _=>.any _
theorem CG:∀ (cs:List AV) (off:Nat),Ax cs (cs.set off .any)
 | [],_=>.nil
 | c::cs,0=>.cons (AV.BQ c) (w8 cs)
 | c::cs,off+1=>.cons (AV.le_refl c) (CG cs off)
where w8:∀ cs:List AV,Ax cs cs
 | []=>.nil
 | c::cs=>.cons (AV.le_refl c) (w8 cs)
theorem CH:∀ (cs:List AV) (off:Nat) (v:AV),cs[off]?=some v->Ax cs (cs.set off v.nz)
 | [],_,_,h=>by simp at h
 | c::cs,0,v,h=>by simp at h;subst h;exact .cons (AV.Ek c) (CG.w8 cs)
 | c::cs,off+1,v,h=>.cons (AV.le_refl c) (CH cs off v (by simpa using h))
theorem iy (j off:Nat) {cs cs':List AV} {v:AV} (hj:dZ s j=some (.box cs)) (hv:cs[off]?=some v) (hn:cs.set off v.nz=cs'):fJ E n l ds s l ((j,.box cs')::s):=by subst hn;exact CE hj (CH cs off v hv)
end
section
variable {P:Program} {E:Env} {n:Nat} {ops:Array Oper} {Q:eB} {B:List Rec->eZ->Z->Prop} {i:Nat} {L:List Nat} {recs:List Rec} {l:List (Nat×AV)} {ds:List (FuncId×List AV)} {s:List (Nat×M)}
 {ty:TypeId} {pos:String} {af:Array Edge}
theorem gV {l':List (Nat×AV)} {s':List (Nat×M)} (hg:fJ E n l ds s l' s') (h:Q .normal (Y l' ds) (U s')):DW P E n ops (GN E n ds Q) [] recs (Y l ds) (U s):=⟨l,s,l',s',rfl,rfl,hg,h⟩
theorem jb {α:Type} {C:α->List PV} {Cs:List α->List PV} (xs:List α) (mK:∀ l,Cs l=l.flatMap C) {d:Nat} {t e:TypeId} {m sz:Nat} {parts:List (Nat×Operand)} {zs:List Value} {pl:List (Nat×Nat)} {pv:List (Nat×AV)}
  {gd:Option (Nat×Bool)} [ht:k4 P t m e sz zs pl] (ho:ops[i]?=some ⟨some d,.buildSlice t m parts.toArray,ty,pos,af,gd⟩) (hw:iv ops ⟨some d,.buildSlice t m parts.toArray,ty,pos,af,gd⟩ (Y l ds))
  (h:parts.mapM (λp=>(bR l p.2).map λv=>(p.1,v))=some pv/\mc pl (zs.map λv=>.pv (.sc v)) pv=some ((xs.flatMap C).map .pv))
  (hc:ep ⟨some d,.buildSlice t m parts.toArray,ty,pos,af,gd⟩=false/\Nat.blt d n=true)
  (hn:mE P E n ops Q B L (⟨i,some d,[],none⟩::recs) (Y ((d,.pv (.sl m (Cs xs)))::l) ds) (U s)):mE P E n ops Q B (i::L) recs (Y l ds) (U s):=by
 refine ⟨_,ho,.fz hw hc.1 (v:=.pv (.sl m (Cs xs))) ?_ (mR hc.2) (λ_ _ _ _=>rfl) hn⟩
 rw[mK]
 refine tH ht.h ?_
 rw[uy h.1];exact h.2
theorem vl {α:Type} {C:α->List PV} {Cs:List α->List PV} {d:Nat} {t e:TypeId} {a x:Operand} {sz bytes k:Nat} {gd:Option (Nat×Bool)} (nm:Nat) {xs ys:List α}
  (ho:ops[i]?=some ⟨some d,.call ⟨.builtin .append,#[a,x],#[t,t]⟩,ty,pos,af,gd⟩) (hw:iv ops ⟨some d,.call ⟨.builtin .append,#[a,x],#[t,t]⟩,ty,pos,af,gd⟩ (Y l ds))
  (h:yx P E l ds s C Cs t e sz bytes k nm a x xs ys) (hd:Nat.blt d n=true) (hnm:kP recs=true)
  (hn:mh ops i ((nm,.app e sz (Cs (xs++ys)))::oh k s) recs/\mE P E n ops Q B L recs (Y ((d,.arr nm (List.length (xs++ys)))::l) ds) (U ((nm,.app e sz (Cs (xs++ys)))::oh k s))) :
  mE P E n ops Q B (i::L) recs (Y l ds) (U s):=by
 refine ⟨_,ho,.ep hw rfl (.append (nm:=nm) rfl h.hT h.hB (aD h.hs) (bX h.hk) (by rw[h.mK,iE h.hL]) h.Kd (by rw[h.mK];exact qn h.h1 ys) (gO h.hm.1 h.hm.2.1) h.Ke h.hE h.hg.1 h.hg.2 (mR hd) ?_)
  (λr hr k' _=>by rw[eY hnm r (List.mem_filter.1 hr).1];simp)⟩
 have e1:((U s).del k).set nm (.app e sz (Cs xs++Cs ys))=U ((nm,.app e sz (Cs (xs++ys)))::oh k s):=by
  rw[<- pq,show Cs xs++Cs ys=Cs (xs++ys) by rw[h.mK,h.mK,h.mK,List.flatMap_append]];rfl
 rw[e1,<- List.length_append]
 exact ⟨λr hr=>⟨λp hp=>(let ⟨e,h1,h2⟩:=hn.1 r hr p hp;⟨e,bX h1,h2⟩),λnm q=>by rw[eY hnm r (List.mem_filter.1 hr).1] at q;cases q⟩,hn.2⟩
end
end Go.Abs
end
section
namespace Go.Abs
open al
def M.lost:M->M
 | .box cs=>.box (cs.map λ_=>.any)
 | e=>e
def il:List M->Bool
 | []=>true
 | .box _::es=>il es
 | _::_=>false
theorem CI (g:Gh):∀ {cells:List AV} {vs:List Value},cells.length=vs.length->gX g (cells.map λ_=>AV.any) vs
 | [],[],_=>.nil
 | _::cells,v::vs,h=>.cons (.any v) (CI g (by simpa using h))
 | [],_::_,h=>by simp at h
 | _::_,[],h=>by simp at h
theorem Rel.lost {wS:World} {g g':Gh} {σ σ':Z} {w w':World} (h0:Rel (Env.of wS g σ w) g σ w) (hb:∀ k e,σ k=some e->∃ cs,e=.box cs) (h:Rel (Env.of wS g σ w) g' σ' w') :
   Rel (Env.of wS g σ w) g' (λk=>(σ k).map M.lost) w':=by
 have key:∀ k e,(σ k).map M.lost=some e->∃ cs b,σ k=some (.box cs)/\e=.box (cs.map λ_=>.any)/\g.ρ k=some b/\g'.ρ k=some b/\(Env.of wS g σ w).fix k=some b:=λk e he=>by
   cases q:σ k with
   | none=>rw[q] at he;cases he
   | some e0=>
     rw[q] at he
     obtain ⟨cs,rfl⟩:=hb k e0 q
     have he':e=.box (cs.map λ_=>.any):=by simpa[M.lost] using he.symm
     cases h0.jN k _ q with
     | box h1 h2 h3=>
       rename_i b _ _ _
       have hf:(Env.of wS g σ w).fix k=some b:=by simp only[Env.of,q];exact h1
       exact ⟨cs,b,rfl,he',h1,h.fix k b hf,hf⟩
 have hks:∀ k,((σ k).map M.lost).isSome=true->∃ e,(σ k).map M.lost=some e:=λk hk=>by
   cases q:(σ k).map M.lost with
   | none=>rw[q] at hk;cases hk
   | some e=>exact ⟨e,rfl⟩
 exact {
         jN:=λk e he=>by
           obtain ⟨cs,b,h1,rfl,h3,h4,h5⟩:=key k e he
           cases h0.jN k _ h1 with
           | box h6 h7 h8 h13=>
             rw[h3] at h6;cases h6
             obtain ⟨cs',h9,h10⟩:=h.x.xP b _ _ _ h7
             obtain ⟨cs'',h11,h12⟩:=h.x.flat k b _ _ _ h5 h7 h13
             rw[h9] at h11;cases h11
             refine .box h4 h9 (CI g' ?_) h12
             rw[h8.length];simp[h10]
         inj:=λk k' b hk hk' hb hb'=>by
           obtain ⟨e,he⟩:=hks k hk
           obtain ⟨e',he'⟩:=hks k' hk'
           obtain ⟨cs,c,h1,_,h3,h4,_⟩:=key k e he
           obtain ⟨cs',c',h1',_,h3',h4',_⟩:=key k' e' he'
           rw[h4] at hb;cases hb
           rw[h4'] at hb';cases hb'
           exact h0.inj k k' _ (by rw[h1];rfl) (by rw[h1'];rfl) h3 h3'
         gl:=h.gl
         apart:=λk b e he _ hb=>by
           obtain ⟨cs,c,h1,_,h3,h4,h5⟩:=key k e he
           rw[h4] at hb;cases hb
           exact h.x.oa k _ h5
         size:=h.size,oF:=h.oF
         own:=λk b hk hb=>by
           obtain ⟨e,he⟩:=hks k hk
           obtain ⟨cs,c,h1,_,h3,h4,_⟩:=key k e he
           rw[h4] at hb;cases hb
           exact .inl ⟨k,by rw[h1];rfl,h3⟩
         fix:=h.fix,iZ:=h.iZ,g0:=h.g0,gn:=h.gn,os:=h.os,out:=h.out,tape:=h.tape
         x:={
                xP:=h.x.xP,flat:=h.x.flat,set:=h.x.set,xQ:=h.x.xQ
                hi:=λk b hk hb=>by
                  obtain ⟨e,he⟩:=hks k hk
                  obtain ⟨cs,c,h1,_,h3,h4,_⟩:=key k e he
                  rw[h4] at hb;cases hb
                  exact h0.x.hi k b (by rw[h1];rfl) h3
                gf:=h.x.gf
                nJ:=h.x.nJ,oa:=h.x.oa
                nK:=λk b k' hf hk hb=>by
                  obtain ⟨e,he⟩:=hks k' hk
                  obtain ⟨cs,c,h1,_,h3,h4,h5⟩:=key k' e he
                  rw[h4] at hb;cases hb
                  have h6:=h.fix k _ hf
                  simp only[Env.of] at hf
                  split at hf
                  · rename_i cs0 hc
                    exact h0.inj k' k _ (by rw[h1];rfl) (by rw[hc];rfl) h3 hf
                  · cases hf
                nL:=λk b e hf hk=>by
                  obtain ⟨cs,c,h1,h2,_⟩:=key k _ hk
                  exact ⟨_,h2⟩ } }
def KX {X:Type} (V:X->AV) (C:X->List M) (G:X->Prop) (H:AV->Prop) (es:List M):pc->Z->Prop:=
 λae σ=>(∃ x,G x/\ae=.ret (V x)/\σ=U (fh 0 (C x)))\/(∃ v,H v/\ae=.panic v/\σ=U (fh 0 (es.map M.lost)))
theorem AZ:∀ {es:List M} {i:Nat},U (fh i (es.map M.lost))=λk=>(U (fh i es) k).map M.lost
 | [],i=>by funext k;rfl
 | e::es,i=>by
  funext k;have ih:=congrFun (AZ (es:=es) (i:=i+1)) k;simp only[List.map_cons,fh,U,kN] at ih ⊢;split
  ·rfl
  exact ih
theorem w9:∀ {es:List M},il es=true->∀ {j:Nat} {e:M},es[j]?=some e->∃ cs,e=.box cs
 | [],_,j,e,h=>by simp at h
 | .box cs::es,h,0,e,he=>by simp at he;exact ⟨cs,he.symm⟩
 | .box cs::es,h,j+1,e,he=>w9 (es:=es) (by simpa[il] using h) (by simpa using he)
 | .arr _ _ _::es,h,_,_,_=>by simp[il] at h
 | .app _ _ _::es,h,_,_,_=>by simp[il] at h
theorem SC.lost {P:Program} {f:FuncId} {args:List AV} {es:List M} {X:Type} {V:X->AV} {C:X->List M} {G:X->Prop} {H:AV->Prop} (hb:il es=true) (h:SC P f args (U (fh 0 es)) (qi V C G H)) :
  SC P f args (U (fh 0 es)) (KX V C G H es):=λwS g w vs hR hv=>(h wS g w vs hR hv).mono λe w' ⟨g',ae,σ',q,hE,hR'⟩=>by
 rcases q with q|⟨v,hH,rfl,rfl⟩
 ·exact ⟨g',ae,σ',.inl q,hE,hR'⟩
 ·refine ⟨g',_,U (fh 0 (es.map M.lost)),.inr ⟨v,hH,rfl,rfl⟩,hE,?_⟩
  rw[AZ]
  exact hR.lost (λk e hk=>by
   obtain ⟨_,h2⟩:=fZ hk
   exact w9 hb h2) hR'
section
variable {P:Program} {E:Env} {n:Nat} {ops:Array Oper} {Q:eB} {rest:List Oper} {l:List (Nat×AV)} {ds:List (FuncId×List AV)} {s:List (Nat×M)}
theorem sB (m:Nat):(List.range m).contains=below m:=by
 funext j;have h1:(List.range m).contains j=decide (j<m):=by
  by_cases q:j<m<;>simp[q]
 rw[h1];simp only[below];by_cases q:j<m
 ·simp[q,mZ.2 q]
 have:Nat.blt j m=false:=by
  cases h:Nat.blt j m with
  | false=>rfl
  | true=>exact absurd (mZ.1 h) q
 simp[q,this]
theorem oR {ks:List Nat} (hnd:nodupB ks=true) {cs:List M} (h1:cs.length=ks.length) :
  after (U s) (nth ks) (List.range ks.length) (List.range ks.length) (U (fh 0 cs))=U (lR ks (kz (nth ks) cs)++s):=by
 funext k
 rw[zI (by rw[iD,h1]) hnd]
 simp only[after]
 cases hf:(List.range ks.length).find? (λj=>nth ks j==k) with
 | some j=>
  have hj:=List.mem_of_find?_eq_some hf
  simp at hj
  simp only[na]
  have:j<cs.length:=by omega
  rw[List.getElem?_eq_getElem this]
  have h6:=nq (i:=0) (List.getElem?_eq_getElem this)
  simp at h6
  rw[h6]
 | none=>
  have:(List.range ks.length).any (λj=>nth ks j==k)=false:=by
   rw[List.any_eq_false];intro j hj
   have:=List.find?_eq_none.1 hf j hj
   simpa using this
  simp[this]
theorem oj {es:List M} {j:Nat} (hj:(U (fh 0 es) j).isSome=true):j<es.length:=by
 cases q:U (fh 0 es) j with
 | none=>rw[q] at hj;cases hj
 | some e=>
  obtain ⟨_,h2⟩:=fZ q
  have:=(List.getElem?_eq_some_iff.1 h2).1
  simpa using this
theorem vm (p:Nat->Bool):∀ {es:List M},il es=true->jR p (es.map M.lost)=true
 | [],_=>rfl
 | .box cs::es,h=>by
  simp only[List.map_cons,jR,M.lost,M.oq,Bool.and_eq_true];refine ⟨?_,vm p (by simpa[il] using h)⟩;have:∀ cs:List AV,AV.only.ky p (cs.map λ_=>AV.any)=true:=λcs=>by
   induction cs with
   | nil=>rfl
   | cons c cs ih=>simp[AV.only.ky,AV.only,ih]
  exact this cs
 | .arr _ _ _::_,h=>by simp[il] at h
 | .app _ _ _::_,h=>by simp[il] at h
theorem qo {fr:eZ} {ks:List Nat} {es:List M} (hfr:fr.s=(Y l ds).s/\fr.ds=ds) (hl:es.length=ks.length) (hnd:nodupB ks=true) (hbx:Cy l ds s ks ks es=true) (hfx:xR E ks es)
  {cs:List M} {v:AV} (hcs:cs.length=ks.length) (ho:jR (below ks.length) cs=true) (hv:v.only (below ks.length)=true) :
  wa E fr (U s) (nth ks) (List.range ks.length) (List.range ks.length) (U (fh 0 es)) (U (fh 0 cs)) v:=by
 have hfr':fr=Y l ds:=by cases fr;simp only[Y] at hfr ⊢;rw[hfr.1,hfr.2]
 subst hfr'
 refine { Gt:=λj e hj=>?_,val:=by rw[sB];exact hv,inj:=λj j' hj hj' he=>og hnd (by simpa using hj) (by simpa using hj') he,same:=λj hj=>?_ }
 ·obtain ⟨_,h4⟩:=fZ hj
  have h5:=(List.getElem?_eq_some_iff.1 h4).1
  exact ⟨by simp;omega,by rw[sB];exact sy ho h4⟩
 ·have hj':j<es.length:=by simp at hj;omega
  rcases vd hbx hfx (by simpa using hj) (List.getElem?_eq_getElem hj') with ⟨cs,hcs⟩|⟨q1,q2,q3,q4⟩
  ·exact .inl ⟨cs,by have:=nq (i:=0) (List.getElem?_eq_getElem hj');rw[hcs] at this;simpa using this⟩
  ·exact .inr ⟨gO q1 q2,λk e hkl he=>mQ q3 k e (zJ hkl) he,q4⟩
theorem BR {o:Oper} {X:Type} {V:X->AV} {C:X->List M} {G:X->Prop} {H:AV->Prop} {f:Operand} {args:List Operand} {ts:Array TypeId} {fid:FuncId} {argsC first cap vs:List AV} {es:List M}
  {next:eZ->Z->Prop} (ks:List Nat) (hen:Enters P fid) (ho:o.op=.call ⟨.value f,args.toArray,ts⟩) (hC:SC P fid argsC (U (fh 0 es)) (qi V C G H)) (hk:lS E ds l s ks f args fid argsC es first cap vs) (hbb:il es=true)
  (hd:∀ d,o.dst=some d->d<n) (hx:∀ x,G x->(C x).length=ks.length/\jR (below ks.length) (C x)=true/\(V x).only (below ks.length)=true)
  (hret:∀ x,G x->next ((Y l ds).iW o.dst ((V x).gZ (nth ks))) (U (lR ks (kz (nth ks) (C x))++s)))
  (hpan:∀ v,H v->v.only (λ_=>false)=true/\Q (.panic v) (Y l ds) (U (lR ks (kz (nth ks) (es.map M.lost))++s))):Step P E n Q o (Y l ds) (U s) next:=by
 obtain ⟨hl,hat⟩:=oO hk.gs
 rw[iD] at hl
 refine yn (nth ks) (List.range ks.length) hen ho (aD hk.f) (by rw[lQ hk.a];exact hk.e) (hC.lost hbb) (λj hj=>by have:=oj hj;simp;omega) (λj e hj=>?_)
  (λj j' hj hj' he=>og hk.nd (by have:=oj hj;omega) (by have:=oj hj';omega) he) hd (λv σc hr=>?_) (λv σc hr=>?_)
 ·obtain ⟨_,h2⟩:=fZ hj
  exact hat j _ (by rw[na,show j=j - 0 by omega,h2];rfl)
 ·rcases hr with ⟨x,hg,he,rfl⟩|⟨_,_,he,_⟩
  ·cases he
   obtain ⟨h1,h2,h3⟩:=hx x hg
   exact ⟨List.range ks.length,qo ⟨rfl,rfl⟩ hl hk.nd hk.bx hk.fx h1 h2 h3,by rw[oR hk.nd h1];exact hret x hg⟩
  ·cases he
 ·rcases hr with ⟨_,_,he,_⟩|⟨v',hh,he,rfl⟩
  ·cases he
  ·cases he
   obtain ⟨h1,h2⟩:=hpan v hh
   refine ⟨List.range ks.length,qo ⟨rfl,rfl⟩ hl hk.nd hk.bx hk.fx (by simp[hl]) (vm _ hbb) (td (λk hk=>by cases hk) h1),?_⟩
   rw[oR hk.nd (by simp[hl]),qg h1];exact h2
end
section
variable {P:Program} {E:Env} {n:Nat} {ops:Array Oper} {Q:eB} {rest:List Oper} {fr:eZ} {σ:Z}
theorem Et {o:Oper} {x:Operand} {ts:Array TypeId} {fid:FuncId} {cap:List AV} {next:eZ->Z->Prop} (ho:o.op=.defer ⟨.value x,#[],ts⟩) (hx:fr.val x=.fn fid [] cap) (hd:∀ d,o.dst=some d->d<n)
  (hn:next (eZ.iW ⟨fr.s,(fid,cap)::fr.ds⟩ o.dst .any) σ):Step P E n Q o fr σ next:=by
 intro g a w K hR hF hK
 have q:=hF.eval x;rw[hx] at q
 generalize hq:a.eval x=c at q
 cases q with
 | fn _ h1 h2=>
  rename_i xs ys
  have hxs:xs=[]:=by cases h1;rfl
  subst hxs
  have hrun:(execOp a.eval o).run P w=.ok (.defer { target:=.fn (.func fid) ys.toArray,args:=#[] }) w:=by
   simp[execOp,ho,resolve,hq,Deferred.ofValue]
  simp only[Oper.wp,hrun,Oper.upon]
  refine hK g _ _ _ _ hn hR ?_
  have hF':FR n g ⟨fr.s,(fid,cap)::fr.ds⟩ { a with defers:={ target:=.fn (.func fid) ys.toArray,args:=#[] }::a.defers }:=⟨hF.size,hF.iS,.cons h2 hF.ds⟩
  exact hF'.put hd (.any _)
theorem zP {l:List (Nat×AV)} {ds:List (FuncId×List AV)} {s:List (Nat×M)} {ty:TypeId} {pos:String} {af:Array Edge} {x:Operand} {ts:Array TypeId} {fid:FuncId} {cap:List AV} (hx:bR l x=some (.fn fid [] cap))
  (hn:SL P E n ops Q rest (Y l ((fid,cap)::ds)) (U s)):SL P E n ops Q (⟨none,.defer ⟨.value x,#[],ts⟩,ty,pos,af,none⟩::rest) (Y l ds) (U s):=
 jo rfl (Et rfl (aD hx) (λ_ q=>by cases q) hn)
def Lk:Option Value->FrameMode->Prop
 | none,u=>u=.returning
 | some c,u=>u=.panicking [{ v:=c,recovered:=false }]
def Ll (P:Program) (f:FuncId) (cap:List AV) (σ:Z) (m:Option Value) (R:Z->Prop):Prop:=
 ∀ (wS:World) (g:Gh) (w:World) (vs:List Value) (u:FrameMode),Rel (Env.of wS g σ w) g σ w->gX g cap vs->Lk m u->
  CallsD P f vs.toArray u w λe u' w'=>(∃ v,e=.returned v)/\settle u'=.returning/\∃ g' σ',R σ'/\Rel (Env.of wS g σ w) g' σ' w'
def Dj (P:Program) (f:FuncId) (cap:List AV) (es:List M) (m:Option Value) {X:Type} (res:al X) (C:X->List M):Prop:=
 ∀ r,res=r->r≠.stuck->Ll P f cap (U (fh 0 es)) m (λσ=>∃ x,r=.ok x/\σ=U (fh 0 (C x)))
def Dk (P:Program) (E:Env) (fn:Func) (R:pc->Z->Prop) (fid:FuncId) (cap:List AV) (m:Option Value) (fr:eZ) (σ:Z):Prop:=
 ∃ (π:Nat->Nat) (L:List Nat) (σ0:Z) (capC:List AV) (R0:Z->Prop),Enters P fid/\cap=AV.gZ.me π capC/\Ll P fid capC σ0 m R0/\(∀ j,(σ0 j).isSome=true->L.contains j=true)/\
  (∀ j e,σ0 j=some e->σ (π j)=some (e.gZ π))/\(∀ j j',(σ0 j).isSome=true->(σ0 j').isSome=true->π j=π j'->j=j')/\
  ∀ σc,R0 σc->wa E fr σ π L L σ0 σc (.gU [])/\nN P fn R .ret ⟨fr.s,[]⟩ (after σ π L L σc)
def vN (P:Program) (E:Env) (fn:Func) (R:pc->Z->Prop):eB
 | .normal,fr,σ|.ret,fr,σ=>nN P fn R .ret fr σ\/∃ fid cap,fr.ds=[(fid,cap)]/\Dk P E fn R fid cap none fr σ
 | .panic v,fr,σ=>nN P fn R (.panic v) fr σ\/∃ fid cap c,fr.ds=[(fid,cap)]/\(∀ g c',VR g v c'->c'=c)/\Dk P E fn R fid cap (some c) fr σ
 | _,_,_=>False
theorem Dl {f:FuncId} {fn:Func} {c:Code} {args:List AV} {R:pc->Z->Prop} (hf:P.funcs[f]?=some fn) (hb:fn.body=some c) (hn:args.length<=fn.ntmps)
  (h:∀ E:Env,(∀ k,(∀ cs,σ k≠some (.box cs))->E.fix k=none)->SW P E fn.ntmps c (vN P E fn R) ⟨λi=>args[i]?.getD .any,[]⟩ σ):SC P f args σ R:=by
 intro wS g w vs hR hv
 have hE:∀ k,(∀ cs,σ k≠some (.box cs))->(Env.of wS g σ w).fix k=none:=λk hk=>by
  cases q:σ k with
  | none=>simp only[Env.of,q]
  | some e=>cases e with
   | box cs=>exact absurd q (hk cs)
   | arr el sz cs=>simp only[Env.of,q]
   | app el sz cs=>simp only[Env.of,q]
 have hlen:=hv.length
 refine calls_of_wp_defers hf hb (wp_mono (h _ hE g { tmps:=vs.toArray++Array.replicate (fn.ntmps - vs.toArray.size) undef,defers:=[] } w hR ⟨by simp;omega,λi=>?_,.nil⟩) λe a w' hq=>?_)
 ·rw[Array.getD_eq_getD_getElem?]
  rcases Nat.lt_or_ge i args.length with q|q
  ·obtain ⟨c,h1,h2⟩:=hv.get i args[i] (by simp)
   have:(vs.toArray++Array.replicate (fn.ntmps - vs.toArray.size) undef)[i]?=some c:=by
    rw[Array.getElem?_append_left (by simp;omega)];simpa using h1
   rw[this]
   simp[q];exact h2
  ·have e:args[i]?=none:=List.getElem?_eq_none q
   simp only[e,Option.getD_none];exact .any _
 ·obtain ⟨g',ae,fr',σ',q,hx,hR',hF'⟩:=hq
  have fin:∀ g' (fr':eZ) (a:Act) σ' w',Rel (Env.of wS g σ w) g' σ' w'->FR fn.ntmps g' fr' a->nN P fn R .ret fr' σ'->
    ∃ c,(results fn a.tmps).run P w'=.ok c w'/\∃ g' ae σ',R ae σ'/\ER g' ae (.returned c)/\Rel (Env.of wS g σ w) g' σ' w':=by
   intro g' fr' a σ' w' hR' hF' ⟨_,vs,v,σ2,h1,h2,hs,h3⟩
   obtain ⟨cs,h4,h5⟩:=h1.run hR' hF'
   refine ⟨if hh:cs.toArray.size=1 then cs.toArray[0] else .tuple cs.toArray,?_,g',.ret v,σ2,h3,.ret (h2 g' _ h5.nM),hR'.sub hs⟩
   rw[tV,<- Array.toArray_toList (xs:=fn.results)]
   simp only[List.mapM_toArray,Sem.run_bind,Sem.run_map,h4,Result.andThen_ok,Sem.run_pure]
  have runs:∀ fid cap m u,fr'.ds=[(fid,cap)]->Dk P (Env.of wS g σ w) fn R fid cap m fr' σ'->Lk m u->u≠.run->
    Leaves P fn a.tmps (λe w'=>∃ g' ae σ',R ae σ'/\ER g' ae e/\Rel (Env.of wS g σ w) g' σ' w') a.defers u w':=by
   intro fid cap m u hds ⟨π,L,σ0,capC,R0,hen,hcap,hC,hL,hσ,hinj,hback⟩ hm hu
   have hdr:=hF'.ds;rw[hds] at hdr
   generalize hdf:a.defers=dd at hdr
   cases hdr with
   | cons hv hnil=>
    rename_i cv ds
    have:ds=[]:=hnil.ob
    subst this
    rw[hcap] at hv
    refine ⟨hu,.func fid,cv.toArray,fid,cv.toArray,rfl,by simpa[invoke] using hen cv.toArray w',?_⟩
    refine (hC (Env.of wS g σ w).wS (g'.pull π) w' cv u (Cr hR' hσ hinj) hv.pull hm).mono λe u' w2 ⟨⟨v,he⟩,hset,g2,σ2,hr0,hR2⟩=>?_
    subst he
    obtain ⟨hB,hpost⟩:=hback σ2 hr0
    obtain ⟨h1,h2,_⟩:=uW (v:=.gU []) (c:=.tuple #[]) hR' hF' hL hσ hB hR2 (.gU .nil)
    simp only[hset]
    exact fin _ ⟨fr'.s,[]⟩ { tmps:=a.tmps,defers:=[] } _ _ h1 ⟨h2.size,h2.iS,.nil⟩ hpost
  cases hx with
  | normal=>
   rcases q with q|⟨fid,cap,hds,hrun⟩
   ·have hd:=hF'.ds;rw[q.1] at hd
    simp only[bodyPostD,hd.ob]
    exact fin _ _ _ _ _ hR' hF' q
   ·exact runs fid cap none .returning hds hrun rfl (by simp)
  | ret=>
   rcases q with q|⟨fid,cap,hds,hrun⟩
   ·have hd:=hF'.ds;rw[q.1] at hd
    simp only[bodyPostD,hd.ob]
    exact fin _ _ _ _ _ hR' hF' q
   ·exact runs fid cap none .returning hds hrun rfl (by simp)
  | panic hv=>
   rcases q with ⟨hd,σ2,hs,h1⟩|⟨fid,cap,c,hds,hc,hrun⟩
   ·have hdd:=hF'.ds;rw[hd] at hdd
    simp only[bodyPostD,hdd.ob]
    exact ⟨g',_,σ2,h1,.panic hv,hR'.sub hs⟩
   ·rw[hc _ _ hv]
    exact runs fid cap (some c) _ hds hrun rfl (by simp)
  | exit id=>exact q.elim
  | goto l=>exact q.elim
end
section
variable {P:Program} {E:Env} {n:Nat} {ops:Array Oper} {Q:eB} {rest:List Oper} {l:List (Nat×AV)} {ds:List (FuncId×List AV)} {s:List (Nat×M)} {ty:TypeId} {pos:String} {af:Array Edge}
theorem Eu {f:FuncId} {fn:Func} {c:Code} {args:List AV} {es:List M} {X:Type} {res:al X} {V:X->AV} {C:X->List M} (hf:P.funcs[f]?=some fn) (hb:fn.body=some c) (hn:Nat.ble args.length fn.ntmps=true)
  (h:∀ r,res=r->r≠.stuck->∀ E:Env,(∀ k,k5 es k=true->E.fix k=none)->
   SW P E fn.ntmps c (vN P E fn (qi V C (λx=>r=.ok x) (λv=>∃ p,r=.kA p/\v=p.av))) (Y ((List.range args.length).zip args) []) (U (fh 0 es))):CT P f args es res V C:=
 λr hr hs=>Dl hf hb (Nat.le_of_ble_eq_true hn) λE hE=>by
  rw[wZ]
  refine h r hr hs E λk hk=>hE k λcs hcs=>?_
  obtain ⟨_,h2⟩:=fZ hcs
  have h3:∀ (es:List M) (k:Nat),k5 es k=true->es[k]?≠some (.box cs):=by
   intro es
   induction es with
   | nil=>intro k _;simp
   | cons e es ih=>
    intro k hk
    cases k with
    | zero=>intro q;simp at q;subst q;simp[k5] at hk
    | succ k=>simpa using ih k (by cases e<;>simpa[k5] using hk)
  exact h3 es k hk (by simpa using h2)
def ko {α:Type} (x:al α) (h:rW->al α):al α:=match x with
 | .stuck=>.stuck
 | .kA p=>h p
 | .ok a=>.ok a
theorem wx {α:Type} {x:al α} {h:rW->al α} {r:al α} (hr:r≠.stuck) (hc:ko x h=r):∃ r0,r0≠.stuck/\x=r0/\ko r0 h=r:=by
 refine ⟨x,?_,rfl,hc⟩;intro q;subst q;exact hr hc.symm
def sC {α:Type} (T:TypeId) (p:rW) (k:Int->al α):al α:=match p with
 | ⟨t,[.sc (.int .i64 v)]⟩=>if t=T then k v else .stuck
 | _=>.stuck
theorem mi {α:Type} {T:TypeId} {p:rW} {k:Int->al α} {r:al α} (hr:r≠.stuck) (h:sC T p k=r):∃ v,p=⟨T,[.sc (.int .i64 v)]⟩/\k v=r:=by
 unfold sC at h;split at h
 ·split at h
  ·rename_i v q;subst q;exact ⟨v,rfl,h⟩
  exact absurd h.symm hr
 exact absurd h.symm hr
theorem Ew {g:Gh} {T:TypeId} {v:Int} {c:Value} (h:VR g (rW.av ⟨T,[.sc (.int .i64 v)]⟩) c):c=.iface T (.agg #[.int .i64 v]):=by
 simp only[rW.av,List.map_cons,List.map_nil] at h;cases h with
 | mI _ h=>cases h with
  | agg h=>cases h with
   | cons h t=>
    cases t
    rw[h.dV]
theorem Dm {fn:Func} {R:pc->Z->Prop} {fr:eZ} {σ:Z} (h:nN P fn R .normal fr σ):nN P fn R .ret fr σ:=h
theorem Ex {fn:Func} {R:pc->Z->Prop} {ae:tI} (hae:ae=.ret\/ae=.normal) {fr:eZ} {σ:Z} (h:nN P fn R ae fr σ):vN P E fn R ae fr σ:=by
 rcases hae with rfl|rfl
 ·exact .inl h
 exact .inl (Dm h)
structure CJ (E:Env) (l:List (Nat×AV)) (s:List (Nat×M)) (ks:List Nat) (cap capC:List AV) (es:List M):Prop where
 c:cap=AV.gZ.me (nth ks) capC
 gs:uv s ks=some (kz (nth ks) es)
 nd:nodupB ks=true
 bx:il es=true
theorem yy:∀ {ks:List Nat} {es:List M},il es=true->xR E ks es
 | [],_,_=>by cases ‹List M›<;>trivial
 | _::_,[],_=>trivial
 | k::ks,.box cs::es,h=>by simp only[xR];exact yy (by simpa[il] using h)
 | _::_,.arr _ _ _::_,h=>by simp[il] at h
 | _::_,.app _ _ _::_,h=>by simp[il] at h
theorem A0 {ks0:List Nat}:∀ {ks:List Nat} {es:List M},il es=true->Cy l ds s ks0 ks es=true
 | [],_,_=>by cases ‹List M›<;>rfl
 | _::_,[],_=>rfl
 | k::ks,.box cs::es,h=>by simp only[Cy];simp[A0 (ks:=ks) (es:=es) (by simpa[il] using h)]
 | _::_,.arr _ _ _::_,h=>by simp[il] at h
 | _::_,.app _ _ _::_,h=>by simp[il] at h
theorem Ia {fn:Func} {R:pc->Z->Prop} {fid:FuncId} {cap capC:List AV} {es:List M} {ks:List Nat} {m:Option Value} {X:Type} {res:al X} {C:X->List M} (hen:Enters P fid) (hC:Dj P fid capC es m res C) (hns:res≠.stuck)
  (hk:CJ E l s ks cap capC es) (hx:∀ x,(C x).length=ks.length/\jR (below ks.length) (C x)=true)
  (hret:∀ x,res=.ok x->nN P fn R .ret (Y l []) (U (lR ks (kz (nth ks) (C x))++s))):Dk P E fn R fid cap m (Y l [(fid,cap)]) (U s):=by
 obtain ⟨hl,hat⟩:=oO hk.gs
 rw[iD] at hl
 refine ⟨nth ks,List.range ks.length,U (fh 0 es),capC,_,hen,hk.c,hC res rfl hns,λj hj=>by have:=oj hj;simp;omega,λj e hj=>?_,
  λj j' hj hj' he=>og hk.nd (by have:=oj hj;omega) (by have:=oj hj';omega) he,?_⟩
 ·obtain ⟨_,h2⟩:=fZ hj
  exact hat j _ (by rw[na,show j=j - 0 by omega,h2];rfl)
 ·rintro σc ⟨x,hxr,rfl⟩
  obtain ⟨h1,h2⟩:=hx x
  refine ⟨qo (l:=l) (ds:=[(fid,cap)]) ⟨rfl,rfl⟩ hl hk.nd (A0 hk.bx) (yy hk.bx) h1 h2 rfl,?_⟩
  rw[oR hk.nd h1];exact hret x hxr
theorem Dn {fn:Func} {R:pc->Z->Prop} {ae:tI} (hae:ae=.ret\/ae=.normal) {fid:FuncId} {cap capC:List AV} {es:List M} (ks:List Nat) {X:Type} {x:X} {C:X->List M} (hen:Enters P fid) (hC:Dj P fid capC es none (al.ok x) C)
  (hk:CJ E l s ks cap capC es) (hx:∀ x,(C x).length=ks.length/\jR (below ks.length) (C x)=true) {s':List (Nat×M)} (hs:lR ks (kz (nth ks) (C x))++s=s')
  (hret:nN P fn R .ret (Y l []) (U s')):vN P E fn R ae (Y l [(fid,cap)]) (U s):=by
 have:Dk P E fn R fid cap none (Y l [(fid,cap)]) (U s):=Ia hen hC (by simp) hk hx λy q=>by cases q;rw[hs];exact hret
 rcases hae with rfl|rfl
 ·exact .inr ⟨fid,cap,rfl,this⟩
 ·exact .inr ⟨fid,cap,rfl,this⟩
theorem pO {d:Nat} {X R:Type} {res:al X} {kk:X->al R} {r:al R} {V V':X->AV} {C:X->List M} {C':X->List (Nat×M)} {f:Operand} {args:List Operand} {ts:Array TypeId} {fid:FuncId}
  {argsC first cap vs:List AV} {es:List M} (hr:r≠.stuck) (h:al.bind res kk=r) (ks:List Nat) (hen:Enters P fid)
  (hC:CT P fid argsC es res V C) (hk:lS E ds l s ks f args fid argsC es first cap vs) (hbb:il es=true) (hd:Nat.blt d n=true)
  (hx:∀ x,(C x).length=ks.length/\jR (below ks.length) (C x)=true/\(V x).only (below ks.length)=true)
  (hV:∀ x,(V x).gZ (nth ks)=V' x/\lR ks (kz (nth ks) (C x))=C' x)
  {sp:List (Nat×M)} (hsp:lR ks (kz (nth ks) (es.map M.lost))++s=sp) (hpan:∀ p,r=.kA p->Q (.panic p.av) (Y l ds) (U sp))
  (hret:∀ x,kk x=r->SL P E n ops Q rest (Y ((d,V' x)::l) ds) (U (C' x++s))) :
  SL P E n ops Q (⟨some d,.call ⟨.value f,args.toArray,ts⟩,ty,pos,af,none⟩::rest) (Y l ds) (U s):=by
 obtain ⟨hns,hok,hp⟩:=k8 hr h
 subst hsp
 refine jo rfl (BR ks hen rfl (hC res rfl hns) hk hbb (mR hd) (λx _=>hx x) (λx hg=>?_) (λv hv=>?_))
 ·have:=hret x (hok x hg)
  rw[<- (hV x).1,<- (hV x).2] at this;exact this
 ·obtain ⟨p,hp1,rfl⟩:=hv
  exact ⟨p.only _,hpan p (hp p hp1)⟩
end
end Go.Abs
end
section
namespace Go.Abs
open al
def oS (k:IntKind) (x y:Int):Int:=k.wrap (x*2 ^ (min y.toNat k.bits))
def Ey (k:IntKind) (x y:Int):Int:=k.wrap (BitVec.ofInt k.bits x&&& BitVec.ofInt k.bits y).toNat
def yz (k:IntKind) (x y:Int):Int:=k.wrap (BitVec.ofInt k.bits x||| BitVec.ofInt k.bits y).toNat
def Kf (k:IntKind) (x y:Int):Int:=k.wrap (BitVec.ofInt k.bits x ^^^ BitVec.ofInt k.bits y).toNat
def Dp (k:IntKind) (x:Int):Int:=Kf k (if k.signed then -1 else k.max) x
def jt (l:List Int) (i:Int):Int:=l.getD i.toNat 0
def sD (l:List Int) (i v:Int):List Int:=l.set i.toNat v
def kQ (l:List Int):ByS:=l.map λi=>UInt8.ofNat i.toNat
section
variable {P:Program} {l:List (Nat×AV)} {ds:List (FuncId×List AV)} {s:List (Nat×M)}
theorem BS {xt yt:TypeId} {x y:Operand} {k:IntKind} {a b:Int} (hx:bR l x=some (Sc (.int k a))) (hy:bR l y=some (Sc (.int k b))) (h:b≠0):jr P (.binOp .quo xt x y yt) l ds s (Sc (.int k (k.wrap (a.tdiv b)))) []:=
 .of (uo (aD hx) (aD hy) λw=>by simp[binOp,Op.intDiv,h])
theorem Ez {xt yt:TypeId} {x y:Operand} {k:IntKind} {a b:Int} (hx:bR l x=some (Sc (.int k a))) (hy:bR l y=some (Sc (.int k b))) (h:b≠0):jr P (.binOp .rem xt x y yt) l ds s (Sc (.int k (a.tmod b))) []:=
 .of (uo (aD hx) (aD hy) λw=>by simp[binOp,Op.intDiv,h])
theorem zR {xt yt:TypeId} {x y:Operand} {k k':IntKind} {a b:Int} (hx:bR l x=some (Sc (.int k a))) (hy:bR l y=some (Sc (.int k' b))) (h:0<=b):jr P (.binOp .shl xt x y yt) l ds s (Sc (.int k (oS k a b))) []:=
 .of (uo (aD hx) (aD hy) λw=>by simp[binOp,Op.shift,Int.not_lt.2 h,oS])
theorem IT {xt yt:TypeId} {x y:Operand} {k:IntKind} {a b:Int} (hx:bR l x=some (Sc (.int k a))) (hy:bR l y=some (Sc (.int k b))):jr P (.binOp .and xt x y yt) l ds s (Sc (.int k (Ey k a b))) []:=
 .of (uo (aD hx) (aD hy) λw=>by simp[binOp,Op.intBits,Ey])
theorem A1 {xt yt:TypeId} {x y:Operand} {k:IntKind} {a b:Int} (hx:bR l x=some (Sc (.int k a))) (hy:bR l y=some (Sc (.int k b))):jr P (.binOp .or xt x y yt) l ds s (Sc (.int k (yz k a b))) []:=
 .of (uo (aD hx) (aD hy) λw=>by simp[binOp,Op.intBits,yz])
theorem Ib {op:UnOp} {t:TypeId} {fr:eZ} {x:Operand} {a c:Value} (hx:fr.val x=Sc a) (h:∀ w,(Op.unary op a).run P w=.ok c w):gD P (.unOp op t x) fr [] (Sc c):=by
 intro o ho g ev w _ hv _;have q1:=hv x (by simp[Op.operands]);rw[hx] at q1;exact ⟨c,by simp[execOp,ho,q1.dV,h],.pv (.sc _)⟩
theorem IU {t:TypeId} {x:Operand} {k:IntKind} {a:Int} (hx:bR l x=some (Sc (.int k a))):jr P (.unOp .neg t x) l ds s (Sc (.int k (k.wrap (0 - a)))) []:=
 .of (Ib (aD hx) λw=>by simp[Op.unary,Op.intArith])
theorem IV {t:TypeId} {x:Operand} {k:IntKind} {a:Int} (hx:bR l x=some (Sc (.int k a))):jr P (.unOp .xor t x) l ds s (Sc (.int k (Dp k a))) []:=
 .of (Ib (aD hx) λw=>by simp[Op.unary,Op.intBits,Dp,Kf])
def Oe (T:TypeId) (b:Bool):AV:=match b with
 | true=>.mI T .any
 | false=>Sc .nilIface
class Dq (P:Program) (t:TypeId):Prop where h:∃ ms,P.underlying t=some (.interface ms)
theorem ED {t:TypeId} (ht:∃ ms,P.underlying t=some (.interface ms)) (u:TypeId) (v:Value) (w:World):(Op.equal t (.iface u v) .nilIface).run P w=.ok false w:=by
 obtain ⟨ms,ht⟩:=ht;have:∀ d,(Op.equalIn (d+1) t (.iface u v) .nilIface).run P w=.ok false w:=λd=>by simp[Op.equalIn,run_underlying ht]
 exact this 9999
theorem EF {t:TypeId} (ht:∃ ms,P.underlying t=some (.interface ms)) (w:World):(Op.equal t .nilIface .nilIface).run P w=.ok true w:=by
 obtain ⟨ms,ht⟩:=ht;have:∀ d,(Op.equalIn (d+1) t .nilIface .nilIface).run P w=.ok true w:=λd=>by simp[Op.equalIn,run_underlying ht]
 exact this 9999
theorem GG {xt yt u:TypeId} {fr:eZ} {x y:Operand} {v:AV} (ht:∃ ms,P.underlying xt=some (.interface ms)) (hx:fr.val x=.mI u v) (hy:fr.val y=Sc .nilIface):gD P (.binOp .neq xt x y yt) fr [] (Bo true):=by
 intro o ho g ev w _ hv _;have q1:=hv x (by simp[Op.operands]);rw[hx] at q1;have q2:=hv y (by simp[Op.operands]);rw[hy] at q2;generalize hq:ev x=c at q1;cases q1 with
 | mI _ h=>
  rename_i vv
  refine ⟨.bool true,?_,.pv (.sc _)⟩
  simp[execOp,ho,hq,q2.dV,eqGuard,binOp,ED ht u vv w]
theorem GH {xt yt:TypeId} {fr:eZ} {x:Operand} (ht:∃ ms,P.underlying xt=some (.interface ms)) (hx:fr.val x=Sc .nilIface):gD P (.binOp .neq xt x (.const .nilIface) yt) fr [] (Bo false):=by
 intro o ho g ev w _ hv _;have q1:=hv x (by simp[Op.operands]);rw[hx] at q1;have q2:=hv (.const .nilIface) (by simp[Op.operands]);have e2:ev (.const .nilIface)=.nilIface:=VR.dV q2;refine ⟨.bool false,?_,.pv (.sc _)⟩;simp[execOp,ho,q1.dV,e2,eqGuard,binOp,EF ht w]
theorem vn {xt yt u:TypeId} {x y:Operand} {v:AV} [ht:Dq P xt] (hx:bR l x=some (.mI u v)) (hy:bR l y=some (Sc .nilIface)):jr P (.binOp .neq xt x y yt) l ds s (Bo true) []:=.of (GG ht.h (aD hx) (aD hy))
theorem vo {xt yt:TypeId} {x:Operand} [ht:Dq P xt] (hx:bR l x=some (Sc .nilIface)):jr P (.binOp .neq xt x (.const .nilIface) yt) l ds s (Bo false) []:=.of (GH ht.h (aD hx))
theorem EG {xt yt T:TypeId} {x:Operand} {b:Bool} [ht:Dq P xt] (hx:bR l x=some (Oe T b)):jr P (.binOp .neq xt x (.const .nilIface) yt) l ds s (Bo b) []:=by
 cases b with
 | true=>exact vn hx rfl
 | false=>exact vo hx
theorem IW {xt t:TypeId} {fr:eZ} {x:Operand} {v:AV} {d:TypeDesc} (ht:P.underlying t=some d) (hd:D2 d=false) (hx:fr.val x=.mI t v):gD P (.typeAssert x xt t true) fr [] (.gU [v,Bo true]):=by
 intro o ho g ev w _ hv _;have q1:=hv x (by simp[Op.operands]);rw[hx] at q1;generalize hq:ev x=c at q1;cases q1 with
 | mI _ h=>
  rename_i vv
  refine ⟨.tuple [vv,.bool true].toArray,?_,.gU (.cons h (.cons (.pv (.sc _)) .nil))⟩
  simp only[execOp,ho,hq,Instr.typeAssert,Sem.run_bind,run_underlying ht,Result.andThen_ok]
  cases d<;>simp_all [D2]
theorem Ic {xt t:TypeId} {x:Operand} {v:AV} [ht:El P t] (hx:bR l x=some (.mI t v)):jr P (.typeAssert x xt t true) l ds s (.gU [v,Bo true]) []:=by
 have h:=ht.h;cases hu:P.underlying t with
 | none=>simp[hu] at h
 | some d=>simp[hu] at h;exact .of (IW hu h (aD hx))
theorem A2 (f:Int->AV):∀ {xs:List Int} {i:Int},0<=i->i<xs.length->(xs.map f)[i.toNat]?=some (f (jt xs i)):=λ{xs i} h0 h1=>by
 have:i.toNat<xs.length:=by omega
 simp[jt,this]
theorem IX (f:Int->AV) {t e:TypeId} {x ix:Operand} {n:Nat} {k:IntKind} {i:Int} {xs:List Int} {cs:List AV} [ht:kH P t (.array n e)] [ha:ja P e false] [hz:mJ P e 1]
  (hx:bR l x=some (.agg cs)) (hi:bR l ix=some (Sc (.int k i))) (hc:cs=xs.map f) (hn:xs.length=n) (h0:0<=i) (h1:i<n):jr P (.index t x ix) l ds s (f (jt xs i)) []:=
 .of (yY ht.h ha.h hz.h (aD hx) (aD hi) h0 h1 (by rw[hc];exact A2 f h0 (by rw[hn];exact h1)))
theorem zS (f:Int->AV) {t:TypeId} {x:Operand} {k:Nat} {i:Int} {xs:List Int} {cs:List AV} [ha:ja P t false] (hx:bR l x=some (.ptr k (0+i.toNat*1))) (hk:dZ s k=some (.box cs)) (hc:cs=xs.map f) (h0:0<=i) (h1:i<xs.length) :
  jr P (.load t x) l ds s (f (jt xs i)) [(k,.box cs)]:=
 .on hk (sj ha.h (aD hx) (by simp only[M.cells];rw[hc,show 0+i.toNat*1=i.toNat by omega];exact A2 f h0 h1))
end
theorem jh.om {g:Gh} {w:World} {k sz:Nat} {el:TypeId} {cells:List PV} (h:jh g w k (.arr el sz cells)):(g.ρ k=none/\cells=[])\/
  ∃ (b:Nat) (cs:Array Value) (el':TypeId),g.ρ k=some b/\w.heap[b]?=some (.cells cs el' (0,0))/\cells.length<=cs.size/\cs.size=g.cp k*sz:=by
 generalize he:M.arr el sz cells=e at h
 cases h with
 | box=>cases he
 | pb h=>cases he;exact .inl ⟨h,rfl⟩
 | arr h hw hl hz=>cases he;exact .inr ⟨_,_,_,h,hw,hl,hz⟩
 | wF=>cases he
 | app=>cases he
theorem VR.om {g:Gh} {k n:Nat} {c:Value} (h:VR g (.arr k n) c):(∃ b,g.ρ k=some b/\c=.slice (some ⟨b,0,none⟩) n (g.cp k))\/(g.ρ k=none/\n=0/\c=.slice none 0 0):=by
 generalize he:AV.arr k n=e at h;cases h with
 | arr m hb=>cases he;exact .inl ⟨_,hb,rfl⟩
 | pb hb=>cases he;exact .inr ⟨hb,rfl,rfl⟩
 | _=>cases he
theorem Rel.freeze {E:Env} {g:Gh} {σ:Z} {w:World} (h:Rel E g σ w) {k b:Nat} {e:M} {ys:List PV} (hk:σ k=some e) (hea:e.isApp=false) (hfx:E.fix k=none) (hb:g.ρ k=some b) (hc:e.cells=ys.map .pv) :
  Rel E (g.dE b ys) (σ.del k) w:=by
 have hG:=h.apart k b e hk hea hb
 have hle:ki (λ_=>False) g (g.dE b ys):=ki.dE g b ys hG
 have hks:(σ k).isSome=true:=by rw[hk];rfl
 have hdel:∀ j e',(σ.del k) j=some e'->j≠k/\σ j=some e':=λj e' hj=>by
  by_cases q:j=k
  ·subst q;simp[Z.del] at hj
  ·exact ⟨q,by simpa[Z.del,q] using hj⟩
 have hdels:∀ j,((σ.del k) j).isSome=true->j≠k/\(σ j).isSome=true:=λj hj=>by
  by_cases q:j=k
  ·subst q;simp[Z.del] at hj
  ·exact ⟨q,by simpa[Z.del,q] using hj⟩
 have hne:∀ j c,j≠k->(σ j).isSome=true->g.ρ j=some c->c≠b:=λj c hj hs hc q=>by
  subst q;exact hj (h.inj j k c hs hks hc hb)
 have hfb:∀ j,E.fix j≠some b:=λj q=>by
  have:=h.x.nK j b k q hks hb
  subst this;rw[hfx] at q;cases q
 obtain ⟨cs,el,hw,hcl,hcv⟩:=(h.jN k e hk).at hb
 rw[hc] at hcl hcv
 simp only[List.length_map] at hcl hcv
 refine { jN:=?_,inj:=?_,gl:=?_,apart:=?_,size:=h.size,oF:=h.oF,own:=?_,fix:=h.fix,iZ:=h.iZ,g0:=?_,gn:=?_,os:=h.os,out:=h.out,tape:=h.tape,x:=?_ }
 ·intro j e' hj
  obtain ⟨q,hj'⟩:=hdel j e' hj
  exact (h.jN j e' hj').le hle (λq=>q) (λc hc _=>by simp[Gh.dE,hne j c q (by rw[hj'];rfl) hc]) (λ_ q=>q.elim) (λ_ _=>rfl)
 ·exact λj j' c hj hj'=>h.inj j j' c (hdels j hj).2 (hdels j' hj').2
 ·intro c zs hz
  by_cases q:c=b
  ·subst q;simp[Gh.dE] at hz;subst hz
   exact ⟨cs,el,(0,0),hw,hcl,(lL.wK hcv).le hle⟩
  ·simp[Gh.dE,q] at hz
   obtain ⟨c1,e1,f1,h1,h2,h3⟩:=h.gl c zs hz
   exact ⟨c1,e1,f1,h1,h2,h3.le hle⟩
 ·intro j c e' hj hja hc'
  obtain ⟨q,hj'⟩:=hdel j e' hj
  have:=hne j c q (by rw[hj'];rfl) hc'
  simp only[Gh.dE,this,if_false]
  exact h.apart j c e' hj' hja hc'
 ·exact λj c hj hc=>h.own j c (hdels j hj).2 hc
 ·intro c zs hz
  obtain ⟨us,h1⟩:=h.g0 c zs hz
  obtain ⟨vs,h2⟩:=hle.G c _ h1
  exact ⟨us++vs,by rw[h2,List.append_assoc]⟩
 ·intro c zs hz
  by_cases q:c=b
  ·subst q
   rcases h.own k c hks hb with q|q
   ·exact .inr (.inl q)
   ·exact .inr (.inr q)
  ·simp[Gh.dE,q] at hz;exact h.gn c zs hz
 ·exact {
      xP:=h.x.xP,flat:=h.x.flat,set:=h.x.set,xQ:=h.x.xQ,gf:=h.x.gf,nJ:=h.x.nJ
      hi:=λj c hj hc=>h.x.hi j c (hdels j hj).2 hc
      oa:=λj c hf=>by
       have:c≠b:=λq=>by subst q;exact hfb j hf
       simp only[Gh.dE,this,if_false];exact h.x.oa j c hf
      nK:=λj c j' hf hj hc=>h.x.nK j c j' hf (hdels j' hj).2 hc
      nL:=λj c e' hf hj=>h.x.nL j c e' hf (hdel j e' hj).2 }
section
variable {P:Program} {E:Env} {n:Nat} {ops:Array Oper} {Q:eB} {rest:List Oper} {l:List (Nat×AV)} {ds:List (FuncId×List AV)} {s:List (Nat×M)}
 {ty:TypeId} {pos:String} {af:Array Edge}
theorem KY (l:List (Nat×AV)) (s:List (Nat×M)):fJ E n l ds s l s:=λg _ _ hR hF=>⟨g,hR,hF⟩
theorem EH {α:Type} {C:α->List PV} {Cs:List α->List PV} {g:Gh} {w:World} {b sz k:Nat} {el:TypeId} {xs:List α} (mK:∀ l,Cs l=l.flatMap C) (hC:∀ x,(C x).length=sz) (hz:0<sz) (hb:g.ρ k=some b)
  (he:jh g w k (.arr el sz (Cs xs))):VR (g.dE b (Cs xs)) (.pv (.sl xs.length (Cs xs))) (.slice (some ⟨b,0,none⟩) xs.length (g.cp k)):=by
 rcases he.om with ⟨h,_⟩|⟨b',cs,el',h,hw,hl,hz'⟩
 ·rw[h] at hb;cases hb
 ·rw[h] at hb;cases hb
  refine .pv (.sl _ (Cs xs) 0 _ _ (Cs xs) (by simp[Gh.dE]) (by simp) (by simp) ?_)
  have h1:xs.length*sz<=g.cp k*sz:=by
   rw[<- hz']
   rw[mK,iE hC] at hl;exact hl
  exact Nat.le_of_mul_le_mul_right h1 hz
theorem A3 {α:Type} {C:α->List PV} {sz:Nat} (hC:∀ x,(C x).length=sz) (hz:0<sz) {xs:List α} (h:xs.flatMap C=[]):xs=[]:=by
 have:=iE hC xs;rw[h] at this;cases xs with
 | nil=>rfl
 | cons a l=>simp[Nat.succ_mul] at this;omega
theorem EI {α:Type} {C:α->List PV} {Cs:List α->List PV} {d k sz:Nat} {el:TypeId} {xs:List α} (mK:∀ l,Cs l=l.flatMap C) (hC:∀ x,(C x).length=sz) (hz:Nat.blt 0 sz=true) (hd:kf l d=some (.arr k (List.length xs)))
  (hk:dZ s k=some (.arr el sz (Cs xs))) (hE:E.fix k=none):fJ E n l ds s ((d,.pv (.sl (List.length xs) (Cs xs)))::l) (oh k s):=λg a w hR hF=>by
 have hks:=bX hk
 have hz':0<sz:=by simpa[Nat.blt_eq] using hz
 have hs:=hF.iS d
 simp only[Y,fK hd] at hs
 rw[pq]
 cases hb:g.ρ k with
 | none=>
  have hx:xs=[]:=by
   rcases (hR.jN k _ hks).om with ⟨_,this⟩|⟨b',cs,el',h,_⟩
   ·rw[mK] at this;exact A3 hC hz' (by simpa using this)
   ·rw[h] at hb;cases hb
  subst hx
  have e0:Cs ([]:List α)=[]:=by rw[mK];rfl
  refine ⟨g,hR.sub λj e hj=>by
   unfold Z.del at hj
   split at hj
   ·cases hj
   ·exact hj,hF.size,λi=>?_,hF.ds⟩
  by_cases q:i=d
  ·subst q;simp only[Y,kY,if_true]
   generalize a.tmps.getD i undef=c at hs ⊢
   rcases hs.om with ⟨b',h,_⟩|⟨_,_,rfl⟩
   ·rw[h] at hb;cases hb
   ·rw[e0];exact .pv (.nil _ _)
  ·simpa[Y,kY,q] using hF.iS i
 | some b=>
  refine ⟨g.dE b (Cs xs),hR.freeze hks rfl hE hb rfl,?_⟩
  have hle:ki (λ_=>False) g (g.dE b (Cs xs)):=ki.dE g b _ (hR.apart k b _ hks rfl hb)
  have hF':=hF.le hle (λ_ q=>q.elim)
  refine ⟨hF'.size,λi=>?_,hF'.ds⟩
  by_cases q:i=d
  ·subst q;simp only[Y,kY,if_true]
   generalize a.tmps.getD i undef=c at hs ⊢
   rcases hs.om with ⟨b',h,rfl⟩|⟨h,_⟩
   ·rw[h] at hb;cases hb;exact EH mK hC hz' h (hR.jN k _ hks)
   ·rw[h] at hb;cases hb
  ·simpa[Y,kY,q] using hF'.iS i
theorem qW {α:Type} {C:α->List PV} {Cs:List α->List PV} {j off k sz:Nat} {el:TypeId} {xs:List α} {cs cs':List AV} (mK:∀ l,Cs l=l.flatMap C) (hC:∀ x,(C x).length=sz) (hz:Nat.blt 0 sz=true) (hj:dZ s j=some (.box cs))
  (hc:cs[off]?=some (.arr k (List.length xs))) (hk:dZ s k=some (.arr el sz (Cs xs))) (hE:E.fix k=none) (hcs:cs.set off (.pv (.sl (List.length xs) (Cs xs)))=cs') :
  fJ E n l ds s l ((j,.box cs')::oh k s):=λg a w hR hF=>by
 subst hcs
 have hks:=bX hk
 have hjs:=bX hj
 have hz':0<sz:=by simpa[Nat.blt_eq] using hz
 have hjk:j≠k:=λq=>by subst q;rw[hjs] at hks;cases hks
 have fin:∀ g',Rel E g' ((U s).del k) w->FR n g' (Y l ds) a->(∀ c,VR g (.arr k (List.length xs)) c->VR g' (.pv (.sl (List.length xs) (Cs xs))) c)->(∀ cs0:Array Value,gX g cs cs0.toList->gX g' (cs.set off (.pv (.sl (List.length xs) (Cs xs)))) cs0.toList)->
   g'.ρ j=g.ρ j->∃ g',Rel E g' (U ((j,.box (cs.set off (.pv (.sl (List.length xs) (Cs xs)))))::oh k s)) w/\FR n g' (Y l ds) a:=λg' hR' hF' _ hbx hρ=>by
  refine ⟨g',?_,hF'⟩
  have e1:U ((j,.box (cs.set off (.pv (.sl (List.length xs) (Cs xs)))))::oh k s)=((U s).del k).set j (.box (cs.set off (.pv (.sl (List.length xs) (Cs xs))))):=by
   rw[<- pq];rfl
  rw[e1]
  have hjd:((U s).del k) j=some (.box cs):=by simp[Z.del,hjk,hjs]
  cases hR.jN j _ hjs with
  | box h1 h2 h3 h4=>
   exact {
       jN:=λi e he=>by
        by_cases q:i=j
        ·subst q;simp[Z.set] at he;subst he
         exact .box (hρ.trans h1) h2 (hbx _ h3) h4
        ·simp[Z.set,q] at he;exact hR'.jN i e he
       inj:=λi i' b hi hi'=>hR'.inj i i' b (by
        by_cases q:i=j
        ·subst q;rw[hjd];rfl
        ·simpa[Z.set,q] using hi) (by
        by_cases q:i'=j
        ·subst q;rw[hjd];rfl
        ·simpa[Z.set,q] using hi')
       gl:=hR'.gl
       apart:=λi b e he hea hb=>by
        by_cases q:i=j
        ·subst q;exact hR'.apart i b _ hjd rfl hb
        ·exact hR'.apart i b e (by simpa[Z.set,q] using he) hea hb
       size:=hR'.size,oF:=hR'.oF
       own:=λi b hi hb=>hR'.own i b (by
        by_cases q:i=j
        ·subst q;rw[hjd];rfl
        ·simpa[Z.set,q] using hi) hb
       fix:=hR'.fix,iZ:=hR'.iZ,g0:=hR'.g0,gn:=hR'.gn,os:=hR'.os,out:=hR'.out,tape:=hR'.tape
       x:=hR'.x.sh rfl rfl (λi b hi hb=>⟨i,by
        by_cases q:i=j
        ·subst q;rw[hjd];rfl
        ·simpa[Z.set,q] using hi,hb,.inl rfl⟩) (λi b e' _ hi=>by
        by_cases q:i=j
        ·subst q;exact ⟨_,hjd,λ_=>(by simp[Z.set] at hi;exact ⟨_,hi.symm⟩)⟩
        ·exact ⟨e',by simpa[Z.set,q] using hi,id⟩) }
 cases hb:g.ρ k with
 | none=>
  have hx:xs=[]:=by
   rcases (hR.jN k _ hks).om with ⟨_,this⟩|⟨b',cs,el',h,_⟩
   ·rw[mK] at this;exact A3 hC hz' (by simpa using this)
   ·rw[h] at hb;cases hb
  have e0:Cs xs=[]:=by rw[hx,mK];rfl
  have hv:∀ c,VR g (.arr k (List.length xs)) c->VR g (.pv (.sl (List.length xs) (Cs xs))) c:=λc hcv=>by
   rw[e0]
   rcases hcv.om with ⟨b',h,_⟩|⟨_,hn,rfl⟩
   ·rw[h] at hb;cases hb
   ·rw[hn];exact .pv (.nil _ _)
  exact fin g (hR.sub λi e hi=>by
   unfold Z.del at hi
   split at hi
   ·cases hi
   ·exact hi) hF hv (λcs0 h3=>h3.set hc hv) rfl
 | some b=>
  have hle:ki (λ_=>False) g (g.dE b (Cs xs)):=ki.dE g b _ (hR.apart k b _ hks rfl hb)
  have hv:∀ c,VR g (.arr k (List.length xs)) c->VR (g.dE b (Cs xs)) (.pv (.sl (List.length xs) (Cs xs))) c:=λc hcv=>by
   rcases hcv.om with ⟨b',h,rfl⟩|⟨h,_⟩
   ·rw[h] at hb;cases hb;exact EH mK hC hz' h (hR.jN k _ hks)
   ·rw[h] at hb;cases hb
  refine fin _ (hR.freeze hks rfl hE hb rfl) (hF.le hle λ_ q=>q.elim) hv (λcs0 h3=>?_) rfl
  have h4:=h3.le hle (λ_ q=>q.elim)
  exact h4.set (g:=g.dE b (Cs xs)) hc λc hcv=>by
   rcases hcv.om with ⟨b',h,rfl⟩|⟨h,_⟩
   ·have h':g.ρ k=some b':=h
    rw[h'] at hb;cases hb;exact EH mK hC hz' h' (hR.jN k _ hks)
   ·have h':g.ρ k=none:=h
    rw[h'] at hb;cases hb
theorem IY {d k:Nat} {ps:List PV} (hd:kf l d=some (.ptr k 0)) (hk:dZ s k=some (.box (ps.map .pv))) (hE:E.fix k=none):fJ E n l ds s ((d,.pv (.pt (some ps)))::l) (oh k s):=λg a w hR hF=>by
 have hks:=bX hk;have hs:=hF.iS d;simp only[Y,fK hd] at hs;rw[pq];generalize hc:a.tmps.getD d undef=c at hs;cases hs with
 | ptr _ hb=>
  rename_i b
  refine ⟨g.dE b ps,hR.freeze hks rfl hE hb rfl,?_⟩
  have hle:ki (λ_=>False) g (g.dE b ps):=ki.dE g b _ (hR.apart k b _ hks rfl hb)
  have hF':=hF.le hle (λ_ q=>q.elim)
  refine ⟨hF'.size,λi=>?_,hF'.ds⟩
  by_cases q:i=d
  ·subst q;simp only[Y,kY,if_true];rw[hc];exact .pv (.DP b ps 0 ps (by simp[Gh.dE]) (by simp) (by simp))
  ·simpa[Y,kY,q] using hF'.iS i
theorem EJ (nm:Nat) {sz:Nat} {el:TypeId} (hE:E.fix nm=none) (hm:lE nm l=false/\jO nm ds=false/\nZ nm s=false):fJ E n l ds s l ((nm,.app el sz [])::s):=λg a w hR hF=>
 ⟨g.unbind nm,hR.wq (jP hm.2.2) hE,hF.le (ki.unbind g nm) (λk q=>by subst q;exact gO hm.1 hm.2.1)⟩
theorem IZ (nm:Nat) {sz:Nat} {el:TypeId} (l':List (Nat×AV)) (s':List (Nat×M)) (hE:E.fix nm=none) (h1:tM l l' l') (h2:ux s s' s') (hm:lE nm l'=false/\jO nm ds=false/\nZ nm s'=false) :
 fJ E n l ds s l' ((nm,.app el sz [])::s'):=(fJ.AB l' s' h1 h2).trans (EJ nm hE hm)
theorem Rel.A4 {E:Env} {g:Gh} {σ:Z} {w:World} (h:Rel E g σ w) {nm sz:Nat} {el:TypeId} (hc:σ.clear nm) (hf:E.fix nm=none):Rel E (g.unbind nm) (σ.set nm (.arr el sz [])) w:=by
 have h0:=h.wq (el:=el) (sz:=sz) hc hf;have hρn:(g.unbind nm).ρ nm=none:=by simp[Gh.unbind]
 have hne:∀ j e,σ.set nm (.arr el sz []) j=some e->j≠nm->σ.set nm (.app el sz []) j=some e:=λj e hj q=>by simpa[Z.set,q] using hj
 have hs:∀ j,(σ.set nm (.arr el sz []) j).isSome=true->(σ.set nm (.app el sz []) j).isSome=true:=λj hj=>by
  by_cases q:j=nm
  ·subst q;simp[Z.set]
  simpa[Z.set,q] using hj
 exact {
  jN:=λj e hj=>by
   by_cases q:j=nm
   ·subst q;simp[Z.set] at hj;subst hj;exact .pb hρn
   exact h0.jN j e (hne j e hj q)
  inj:=λj j' b hj hj'=>h0.inj j j' b (hs j hj) (hs j' hj')
  gl:=h0.gl
  apart:=λj b e hj hea hb=>by
   by_cases q:j=nm
   ·subst q;rw[hρn] at hb;cases hb
   exact h0.apart j b e (hne j e hj q) hea hb
  size:=h0.size,oF:=h0.oF,own:=λj b hj=>h0.own j b (hs j hj),fix:=h0.fix,iZ:=h0.iZ,g0:=h0.g0,gn:=h0.gn,os:=h0.os,out:=h0.out,tape:=h0.tape
  x:=h0.x.sh rfl rfl (λj b hj hb=>⟨j,hs j hj,hb,.inl rfl⟩) (λj b e' hfj hj=>by
   have q:j≠nm:=λq=>by subst q;rw[hf] at hfj;cases hfj
   exact ⟨e',hne j _ hj q,id⟩) }
theorem CK {d:Nat} (nm:Nat) {sz:Nat} {el:TypeId} (hE:E.fix nm=none) (hd:kf l d=some (nSl)) (hm:lE nm l=false/\jO nm ds=false/\nZ nm s=false) :
  fJ E n l ds s ((d,.arr nm 0)::l) ((nm,.arr el sz [])::s):=λg a w hR hF=>by
 have h1:=hR.A4 (el:=el) (sz:=sz) (jP hm.2.2) hE
 have h2:=hF.le (ki.unbind g nm) (λk q=>by subst q;exact gO hm.1 hm.2.1)
 refine ⟨g.unbind nm,h1,h2.size,λi=>?_,h2.ds⟩
 by_cases q:i=d
 ·subst q
  have h3:=h2.iS i
  simp only[Y,fK hd] at h3
  simp only[Y,kY,if_true]
  rw[h3.dV];exact .pb (by simp[Gh.unbind])
 ·simpa[Y,kY,q] using h2.iS i
theorem sE {j off:Nat} (nm:Nat) {sz:Nat} {el:TypeId} {cs cs':List AV} (hE:E.fix nm=none) (hj:dZ s j=some (.box cs)) (hc:cs[off]?=some (nSl))
  (hm:lE nm l=false/\jO nm ds=false/\nZ nm s=false) (hjn:Nat.beq j nm=false) (hcs:cs.set off (.arr nm 0)=cs') :
  fJ E n l ds s l ((j,.box cs')::(nm,.arr el sz [])::s):=λg a w hR hF=>by
 subst hcs
 have hR:=hR.A4 (el:=el) (sz:=sz) (jP hm.2.2) hE
 have hF:=hF.le (ki.unbind g nm) (λk q=>by subst q;exact gO hm.1 hm.2.1)
 have hjn':j≠nm:=λq=>by subst q;simp at hjn
 have hjs:(U s).set nm (.arr el sz []) j=some (.box cs):=by simp[Z.set,hjn',bX hj]
 refine ⟨g.unbind nm,?_,hF⟩
 have he:∀ i e,U ((j,.box (cs.set off (.arr nm 0)))::(nm,.arr el sz [])::s) i=some e->(((U s).set nm (.arr el sz [])) i).isSome=true/\(i≠j->((U s).set nm (.arr el sz [])) i=some e):=λi e h=>by
  by_cases q:i=j
  ·subst q;exact ⟨by rw[hjs];rfl,λq=>absurd rfl q⟩
  ·have:((U s).set nm (.arr el sz [])) i=some e:=by simpa[U,kN,Z.set,q] using h
   exact ⟨by rw[this];rfl,λ_=>this⟩
 have hs:∀ i,(U ((j,.box (cs.set off (.arr nm 0)))::(nm,.arr el sz [])::s) i).isSome=true->(((U s).set nm (.arr el sz [])) i).isSome=true:=λi h=>by
  cases q:U ((j,.box (cs.set off (.arr nm 0)))::(nm,.arr el sz [])::s) i with
  | none=>rw[q] at h;cases h
  | some e=>exact (he i e q).1
 exact {
     jN:=λi e h=>by
      by_cases q:i=j
      ·subst q
       have:e=.box (cs.set off (.arr nm 0)):=by simpa[U,kN] using h.symm
       subst this
       cases hR.jN i _ hjs with
       | box h1 h2 h3 h4=>exact .box h1 h2 (h3.set hc λc hc=>by rw[hc.dV];exact .pb (by simp[Gh.unbind])) h4
      ·exact hR.jN i e ((he i e h).2 q)
     inj:=λi i' b h h'=>hR.inj i i' b (hs i h) (hs i' h')
     gl:=hR.gl
     apart:=λi b e h hea hb=>by
      by_cases q:i=j
      ·subst q;exact hR.apart i b _ hjs rfl hb
      ·exact hR.apart i b e ((he i e h).2 q) hea hb
     size:=hR.size,oF:=hR.oF,own:=λi b h=>hR.own i b (hs i h),fix:=hR.fix,iZ:=hR.iZ,g0:=hR.g0,gn:=hR.gn,os:=hR.os,out:=hR.out,tape:=hR.tape
     x:=hR.x.sh rfl rfl (λi b hi hb=>⟨i,hs i hi,hb,.inl rfl⟩) (λi b e' _ hi=>by
      by_cases q:i=j
      ·subst q;exact ⟨_,hjs,λ_=>(by simp[U,kN] at hi;exact ⟨_,hi.symm⟩)⟩
      ·exact ⟨e',(he i _ hi).2 q,id⟩) }
end
theorem Dr {α:Type} {f:α->List PV} {sz:Nat} (hf:∀ x,(f x).length=sz):∀ (l:List α) (i:Nat),(l.flatMap f).take (i*sz)=(l.take i).flatMap f:=by
 intro l
 induction l with
 | nil=>intro i;simp
 | cons a l ih=>
  intro i
  cases i with
  | zero=>simp
  | succ i=>
   rw[List.take_succ_cons,List.flatMap_cons,List.flatMap_cons,Nat.succ_mul,Nat.add_comm,List.take_append]
   rw[List.take_of_length_le (by rw[hf];omega),hf,show sz+i*sz - sz=i*sz by omega,ih]
theorem EK {α:Type} {f:α->List PV} {sz:Nat} (hf:∀ x,(f x).length=sz) {l:List α} {i d:Nat} {a a':α} {vs:List PV} (ha:l[i]?=some a) (hd:d+vs.length<=sz) (hu:f a'=(f a).take d++vs++(f a).drop (d+vs.length)) :
  (l.flatMap f).take (i*sz+d)++vs++(l.flatMap f).drop (i*sz+d+vs.length)=(l.set i a').flatMap f:=by
 have hlt:i<l.length:=(List.getElem?_eq_some_iff.1 ha).1
 have hdrop:=yu hf ha
 have e1:(l.flatMap f).take (i*sz+d)=(l.take i).flatMap f++(f a).take d:=by
  rw[List.take_add,Dr hf,hdrop,List.take_append_of_le_length (by rw[hf];omega)]
 have e2:(l.flatMap f).drop (i*sz+d+vs.length)=(f a).drop (d+vs.length)++(l.drop (i+1)).flatMap f:=by
  rw[show i*sz+d+vs.length=i*sz+(d+vs.length) by omega,<- List.drop_drop,hdrop,List.drop_append_of_le_length (by rw[hf];omega)]
  congr 1
  have:∀ (l:List α) (j:Nat),(l.flatMap f).drop (j*sz)=(l.drop j).flatMap f:=by
   intro l
   induction l with
   | nil=>intro j;simp
   | cons b l ih=>
    intro j
    cases j with
    | zero=>simp
    | succ j=>
     rw[List.drop_succ_cons,List.flatMap_cons,Nat.succ_mul,Nat.add_comm,<- List.drop_drop]
     rw[List.drop_left' (hf b)];exact ih j
  exact this l (i+1)
 rw[e1,e2,List.set_eq_take_append_cons_drop,if_pos hlt,List.flatMap_append,List.flatMap_cons,hu]
 simp
section
variable {P:Program} {E:Env} {n:Nat} {ops:Array Oper} {Q:eB} {rest:List Oper} {l:List (Nat×AV)} {ds:List (FuncId×List AV)} {s:List (Nat×M)}
 {ty:TypeId} {pos:String} {af:Array Edge}
theorem A5 {k:Nat} {e:M}:U ((k,e)::oh k s)=(U s).set k e:=by
 funext j;have h:=congrFun (pq (k:=k) (s:=s)) j;simp only[U,Z.del,Z.set,kN] at h ⊢;by_cases q:j=k
 ·simp[q]
 simp only[q,if_false] at h ⊢;exact h
structure xS (P:Program) {α:Type} (C:α->List PV) (Cs:List α->List PV) (l:List (Nat×AV)) (s:List (Nat×M)) (t:TypeId) (x y:Operand) (k off m sz:Nat) (el:TypeId) (i:Int) (xs:List α) (a a':α) (v:AV) (vs:List PV):Prop where
 mK:∀ l,Cs l=l.flatMap C
 hC:∀ x,(C x).length=sz
 h0:0<=i
 ha:xs[i.toNat]?=some a
 hx:bR l x=some (.ptr k (i.toNat*sz+off))
 hk:dZ s k=some (.arr el sz (Cs xs))
 hy:bR l y=some v
 hv:v.fY=some (vs.map .pv)
 h1:PV.jK vs=true
 ht:xN P t=some m
 hm:vs.length=m
 hb:Nat.ble (off+vs.length) sz=true
 hu:C a'=(C a).take off++vs++(C a).drop (off+vs.length)
theorem xS.Cq {α:Type} {C:α->List PV} {Cs:List α->List PV} {t:TypeId} {x y:Operand} {k off m sz:Nat} {el:TypeId} {i:Int} {xs:List α} {a a':α} {v:AV} {vs:List PV} (h:xS P C Cs l s t x y k off m sz el i xs a a' v vs) :
  (M.arr el sz (Cs xs)).Cq (i.toNat*sz+off) (vs.map .pv)=.arr el sz (Cs (xs.set i.toNat a')):=by
 simp only[M.Cq,List.length_map,wM]
 rw[h.mK,h.mK,EK h.hC h.ha (Nat.le_of_ble_eq_true h.hb) h.hu]
theorem xS.le {α:Type} {C:α->List PV} {Cs:List α->List PV} {t:TypeId} {x y:Operand} {k off m sz:Nat} {el:TypeId} {i:Int} {xs:List α} {a a':α} {v:AV} {vs:List PV} (h:xS P C Cs l s t x y k off m sz el i xs a a' v vs) :
  i.toNat*sz+off+(vs.map AV.pv).length<=(M.arr el sz (Cs xs)).cells.length:=by
 have hlt:i.toNat<xs.length:=(List.getElem?_eq_some_iff.1 h.ha).1
 have hb:=Nat.le_of_ble_eq_true h.hb
 simp only[M.cells,List.length_map]
 rw[h.mK,iE h.hC]
 have:(i.toNat+1)*sz<=xs.length*sz:=Nat.mul_le_mul_right _ hlt
 rw[Nat.succ_mul] at this
 omega
theorem EL {α:Type} {C:α->List PV} {Cs:List α->List PV} {t:TypeId} {x y:Operand} {k off m sz:Nat} {el:TypeId} {i:Int} {xs:List α} {a a':α} {v:AV} {vs:List PV} (h:xS P C Cs l s t x y k off m sz el i xs a a' v vs)
  (hn:SL P E n ops Q rest (Y l ds) (U ((k,.arr el sz (Cs (xs.set i.toNat a')))::oh k s))):SL P E n ops Q (⟨none,.store t x y,ty,pos,af,none⟩::rest) (Y l ds) (U s):=by
 refine jo rfl (qP rfl rfl (aD h.hx) (bX h.hk) rfl (by rw[aD h.hy];exact h.hv) (wO h.h1) (by rw[List.length_map,h.hm];exact h.ht) h.le (λ_=>⟨_,rfl⟩) ?_)
 rw[h.Cq,<- A5];exact hn
structure sF (P:Program) (E:Env) (l:List (Nat×AV)) (ds:List (FuncId×List AV)) (s:List (Nat×M)) {α:Type} (C:α->List PV) (Cs:List α->List PV) (t e:TypeId) (sz bytes k nm:Nat) (a x:Operand) (xs ys:List α):Prop where
 hT:P.underlying t=some (.slice e)
 hB:qQ P e=some (sz,bytes)
 mK:∀ l,Cs l=l.flatMap C
 hL:∀ x,(C x).length=sz
 h1:∀ x,PV.jK (C x)=true
 hE:E.fix nm=none
 hs:bR l a=some (.arr k (List.length xs))
 hk:dZ s k=some (.arr e sz (Cs xs))
 hx:bR l x=some (.pv (.sl (List.length ys) (Cs ys)))\/(ys=[]/\bR l x=some (nSl))
 hm:lE nm l=false/\jO nm ds=false/\wW nm [k] s=false
 hg:lz bytes (List.length xs) (List.length ys)
section
variable {α:Type} {C:α->List PV} {Cs:List α->List PV} {t e:TypeId} {sz bytes k nm:Nat} {a x:Operand} {xs ys:List α}
theorem sF.Kd (h:sF P E l ds s C Cs t e sz bytes k nm a x xs ys):Gf sz ((Y l ds).val x) (List.length ys) (Cs ys):=by
 rcases h.hx with q|⟨q1,q2⟩
 ·rw[aD q];exact .sl _ _ (by rw[h.mK,iE h.hL])
 rw[aD q2];subst q1;rw[h.mK];exact .nil
theorem sF.Ke (h:sF P E l ds s C Cs t e sz bytes k nm a x xs ys):((U s).del k).clear nm:=by
 intro j e he;unfold Z.del at he;split at he
 ·cases he
 rename_i q;refine mQ h.hm.2.2 j e ?_ he;cases hb:Nat.beq j k with
 | true=>exact absurd (Nat.eq_of_beq_eq_true hb) q
 | false=>simp[hb]
theorem sF.st (h:sF P E l ds s C Cs t e sz bytes k nm a x xs ys):((U s).del k).set nm (.arr e sz (Cs xs++Cs ys))=U ((nm,.arr e sz (Cs (xs++ys)))::oh k s):=by
 rw[<- pq,show Cs xs++Cs ys=Cs (xs++ys) by rw[h.mK,h.mK,h.mK,List.flatMap_append]];rfl
theorem uz {d:Nat} (nm:Nat) (h:sF P E l ds s C Cs t e sz bytes k nm a x xs ys) (hd:Nat.blt d n=true)
  (hn:SL P E n ops Q rest (Y ((d,.arr nm (List.length (xs++ys)))::l) ds) (U ((nm,.arr e sz (Cs (xs++ys)))::oh k s))) :
  SL P E n ops Q (⟨some d,.call ⟨.builtin .append,#[a,x],#[t,t]⟩,ty,pos,af,none⟩::rest) (Y l ds) (U s):=by
 refine jo rfl (uu (nm:=nm) rfl h.hT h.hB (aD h.hs) (bX h.hk) (by rw[h.mK,iE h.hL]) h.Kd (by rw[h.mK];exact qn h.h1 ys) (gO h.hm.1 h.hm.2.1) h.Ke h.hE h.hg.1 h.hg.2 (mR hd) ?_)
 rw[h.st,<- List.length_append];exact hn
end
end
section
variable {P:Program} {E:Env} {n:Nat} {ops:Array Oper} {Q:eB} {B:List Rec->eZ->Z->Prop} {i:Nat} {L:List Nat} {recs:List Rec} {l:List (Nat×AV)} {ds:List (FuncId×List AV)} {s:List (Nat×M)}
 {ty:TypeId} {pos:String} {af:Array Edge}
theorem oo {α:Type} {C:α->List PV} {Cs:List α->List PV} {d:Nat} {t e:TypeId} {a x:Operand} {sz bytes k:Nat} {gd:Option (Nat×Bool)} (nm:Nat) {xs ys:List α}
  (ho:ops[i]?=some ⟨some d,.call ⟨.builtin .append,#[a,x],#[t,t]⟩,ty,pos,af,gd⟩) (hw:iv ops ⟨some d,.call ⟨.builtin .append,#[a,x],#[t,t]⟩,ty,pos,af,gd⟩ (Y l ds))
  (h:sF P E l ds s C Cs t e sz bytes k nm a x xs ys) (hd:Nat.blt d n=true) (hnm:kP recs=true)
  (hn:mh ops i ((nm,.arr e sz (Cs (xs++ys)))::oh k s) recs/\mE P E n ops Q B L recs (Y ((d,.arr nm (List.length (xs++ys)))::l) ds) (U ((nm,.arr e sz (Cs (xs++ys)))::oh k s))) :
  mE P E n ops Q B (i::L) recs (Y l ds) (U s):=by
 refine ⟨_,ho,.ep hw rfl (.Ct (nm:=nm) rfl h.hT h.hB (aD h.hs) (bX h.hk) (by rw[h.mK,iE h.hL]) h.Kd (by rw[h.mK];exact qn h.h1 ys) (gO h.hm.1 h.hm.2.1) h.Ke h.hE h.hg.1 h.hg.2 (mR hd) ?_)
  (λr hr k' _=>by rw[eY hnm r (List.mem_filter.1 hr).1];simp)⟩
 rw[h.st,<- List.length_append]
 exact ⟨λr hr=>⟨λp hp=>(let ⟨e,h1,h2⟩:=hn.1 r hr p hp;⟨e,bX h1,h2⟩),λnm q=>by rw[eY hnm r (List.mem_filter.1 hr).1] at q;cases q⟩,hn.2⟩
theorem I0 {α:Type} {C:α->List PV} {Cs:List α->List PV} {t:TypeId} {x y:Operand} {k off m sz:Nat} {el:TypeId} {ii:Int} {xs:List α} {a a':α} {v:AV} {vs:List PV}
  (ho:ops[i]?=some ⟨none,.store t x y,ty,pos,af,none⟩) (h:xS P C Cs l s t x y k off m sz el ii xs a a' v vs) (hnm:kP recs=true)
  (hn:mh ops i ((k,.arr el sz (Cs (xs.set ii.toNat a')))::oh k s) recs/\mE P E n ops Q B L recs (Y l ds) (U ((k,.arr el sz (Cs (xs.set ii.toNat a')))::oh k s))):mE P E n ops Q B (i::L) recs (Y l ds) (U s):=by
 refine ⟨_,ho,.ep (.inl rfl) rfl (.store rfl rfl (aD h.hx) (bX h.hk) rfl (by rw[aD h.hy];exact h.hv) (wO h.h1) (by rw[List.length_map,h.hm];exact h.ht) h.le (λ_=>⟨_,rfl⟩) ?_) (λr hr k' _=>by rw[eY hnm r (List.mem_filter.1 hr).1];simp)⟩
 rw[h.Cq,<- A5]
 exact ⟨λr hr=>⟨λp hp=>(let ⟨e,h1,h2⟩:=hn.1 r hr p hp;⟨e,bX h1,h2⟩),λnm q=>by rw[eY hnm r (List.mem_filter.1 hr).1] at q;cases q⟩,hn.2⟩
theorem ub {d:Nat} {x:Operand} {v:AV} (ho:ops[i]?=some ⟨some d,.assign x,ty,pos,af,none⟩) (hx:bR l x=some v) (hd:Nat.blt d n=true) (hs:mh ops i s recs) (hnm:kP (hY ops recs i)=true)
  (hn:mE P E n ops Q B L recs (Y ((d,v)::l) ds) (U s)):mE P E n ops Q B (i::L) recs (Y l ds) (U s):=
 ⟨_,ho,.ep (.inl rfl) rfl (.ev (v:=v) (by rw[<- aD (ds:=ds) hx];exact uR x) (mR hd)
  ⟨λr hr=>⟨λp hp=>(let ⟨e,h1,h2⟩:=hs r hr p hp;⟨e,bX h1,h2⟩),λnm q=>by rw[eY hnm r hr] at q;cases q⟩,hn⟩) (λr _ k hk=>by cases hk)⟩
theorem tf {t:TypeId} {x y:Operand} {k off m:Nat} {e:M} {v:AV} {c:List AV} [ht:mJ P t m] (ho:ops[i]?=some ⟨none,.store t x y,ty,pos,af,none⟩)
  (h:bR l x=some (.ptr k off)/\dZ s k=some e/\e.wY=true/\bR l y=some v/\v.fY=some c/\AV.jK c=true/\c.length=m/\Nat.ble (off+c.length) e.cells.length=true)
  (hnm:kP (hY ops recs i)=true) (hn:∀ e',e.put off c=e'->mh ops i ((k,e')::s) recs/\mE P E n ops Q B L recs (Y l ds) (U ((k,e')::s))):mE P E n ops Q B (i::L) recs (Y l ds) (U s):=by
 obtain ⟨hx,hk,hea,hy,hc,h1,hm,hl⟩:=h
 have hl':=Nat.le_of_ble_eq_true hl
 obtain ⟨hst,hn⟩:=hn _ rfl
 refine ⟨_,ho,.ep (.inl rfl) rfl (.store rfl rfl (aD hx) (bX hk) (ve hea) (by rw[aD hy];exact hc) h1 (by rw[hm];exact ht.h) hl' (vf hea) ?_) (λr hr k' _=>by rw[eY hnm r hr];simp)⟩
 rw[put_eq hea hl']
 exact ⟨λr hr=>⟨λp hp=>(let ⟨e,h1,h2⟩:=hst r hr p hp;⟨e,bX h1,h2⟩),λnm q=>by rw[eY hnm r hr] at q;cases q⟩,hn⟩
def qX (nm:Nat):List Rec->Bool
 | []=>true
 | r::rs=>(match r.nm with|none=>true|some k=>!Nat.beq k nm)&&r.rd.all (λp=>!Nat.beq p.1 nm)&&qX nm rs
theorem ll {nm:Nat}:∀ {recs:List Rec},qX nm recs=true->∀ r,r∈recs->r.nm≠some nm/\∀ p,p∈r.rd->p.1≠nm
 | [],_,r,hr=>by cases hr
 | a::rs,h,r,hr=>by
  simp only[qX,Bool.and_eq_true,List.all_eq_true] at h;rcases List.mem_cons.1 hr with q|q
  ·subst q;refine ⟨λq=>?_,λp hp q=>?_⟩
   ·have:=h.1.1;rw[q] at this;simp at this
   have:=h.1.2 p hp;rw[q] at this;simp at this
  exact ll h.2 r q
theorem I1 {d:Nat} {op:Op} {v:AV} {e:M} {gd:Option (Nat×Bool)} (nm:Nat) (ho:ops[i]?=some ⟨some d,op,ty,pos,af,gd⟩) (hw:iv ops ⟨some d,op,ty,pos,af,gd⟩ (Y l ds)) (h:BK P op (Y l ds) nm e v)
  (hE:E.fix nm=none) (hm:lE nm l=false/\jO nm ds=false/\nZ nm s=false/\dZ s nm=none) (hh:ep ⟨some d,op,ty,pos,af,gd⟩=false/\Nat.blt d n=true/\kP (hY ops recs i)=true/\qX nm recs=true) (hv:AV.eP.fW nm e.cells=false)
  (hn:mE P E n ops Q B L (⟨i,some d,[],some nm⟩::recs) (Y ((d,v)::l) ds) (U ((nm,e)::s))):mE P E n ops Q B (i::L) recs (Y l ds) (U s):=by
 have hs:U s nm=none:=by
  have:=qT (l:=s) (i:=nm)
  simp only[U];rw[this];exact hm.2.2.2
 exact ⟨_,ho,.nw hw hh.1 h (gO hm.1 hm.2.1) (jP hm.2.2.1) hs hE (mR hh.2.1) (λr hr k q=>by rw[eY hh.2.2.1 r hr] at q;cases q)
  (λr hr=>(ll hh.2.2.2 r hr).1) (λr hr=>(ll hh.2.2.2 r hr).2) hv hn⟩
theorem uA {d:Nat} {t:TypeId} {z:List Value} [hz:k3 P t z] {zs:List AV} {gd:Option (Nat×Bool)} (ho:ops[i]?=some ⟨some d,.alloc t,ty,pos,af,gd⟩) (hw:iv ops ⟨some d,.alloc t,ty,pos,af,gd⟩ (Y l ds)) (nm:Nat) (hE:E.fix nm=none)
  (hm:z.map (λv=>AV.pv (.sc v))=zs/\lE nm l=false/\jO nm ds=false/\nZ nm s=false/\dZ s nm=none) (hh:ep ⟨some d,.alloc t,ty,pos,af,gd⟩=false/\Nat.blt d n=true/\qX nm recs=true/\qX nm recs=true)
  (hn:mE P E n ops Q B L (⟨i,some d,[],some nm⟩::recs) (Y ((d,.ptr nm 0)::l) ds) (U ((nm,.box zs)::s))):mE P E n ops Q B (i::L) recs (Y l ds) (U s):=by
 obtain ⟨h1,h2⟩:=hm
 subst h1
 have this:∀ (k:Nat) (z:List Value),AV.eP.fW k (z.map λv=>AV.pv (.sc v))=false:=λk z=>by
  induction z with
  | nil=>rfl
  | cons a z ih=>simp[AV.eP.fW,AV.eP,ih]
 have hs:U s nm=none:=by
  have:=qT (l:=s) (i:=nm)
  simp only[U];rw[this];exact h2.2.2.2
 refine ⟨_,ho,.nw hw hh.1 (AH nm hz.h) (gO h2.1 h2.2.1) (jP h2.2.2.1) hs hE (mR hh.2.1) (λr hr k q=>⟨?_,this k z⟩)
  (λr hr=>(ll hh.2.2.2 r hr).1) (λr hr=>(ll hh.2.2.2 r hr).2) (this nm z) hn⟩
 have hne:=(ll hh.2.2.2 r (List.mem_filter.1 hr).1).1
 have:nm≠k:=λe=>hne (by rw[q,e])
 simpa[AV.eP] using this
theorem I2 {α:Type} {C:α->List PV} {Cs:List α->List PV} {sz:Nat} (xs:List α) (mK:∀ l,Cs l=l.flatMap C) (hC:∀ x,(C x).length=sz) {d:Nat} {t e:TypeId} {m:Nat} {parts:List (Nat×Operand)} {zs:List Value} {pl:List (Nat×Nat)} {pv:List (Nat×AV)}
  {gd:Option (Nat×Bool)} [ht:k4 P t m e sz zs pl] (ho:ops[i]?=some ⟨some d,.buildSlice t m parts.toArray,ty,pos,af,gd⟩) (hw:iv ops ⟨some d,.buildSlice t m parts.toArray,ty,pos,af,gd⟩ (Y l ds)) (nm:Nat) (hE:E.fix nm=none)
  (h:parts.mapM (λp=>(bR l p.2).map λv=>(p.1,v))=some pv/\mc pl (zs.map λv=>.pv (.sc v)) pv=some ((xs.flatMap C).map .pv)/\xs.length=m/\Nat.ble m 1000=true)
  (hm:lE nm l=false/\jO nm ds=false/\nZ nm s=false/\dZ s nm=none) (hh:ep ⟨some d,.buildSlice t m parts.toArray,ty,pos,af,gd⟩=false/\Nat.blt d n=true/\kP (hY ops recs i)=true/\qX nm recs=true)
  (hn:mE P E n ops Q B L (⟨i,some d,[],some nm⟩::recs) (Y ((d,.arr nm (List.length xs))::l) ds) (U ((nm,.app e sz (Cs xs))::s))):mE P E n ops Q B (i::L) recs (Y l ds) (U s):=by
 rw[h.2.2.1] at hn
 refine I1 nm ho hw (vI nm ht.h ?_ ?_ (Nat.le_trans (Nat.le_of_ble_eq_true h.2.2.2) (by simp[maxLen]))) hE hm hh (by simp only[M.cells];exact ni _ _) hn
 ·rw[uy h.1,mK];exact h.2.1
 ·rw[mK,iE hC,h.2.2.1]
end
section
variable {P:Program} {E:Env} {n:Nat} {ops:Array Oper} {Q:eB} {rest:List Oper} {l:List (Nat×AV)} {ds:List (FuncId×List AV)} {s:List (Nat×M)}
 {ty:TypeId} {pos:String} {af:Array Edge}
theorem I3 {α:Type} {C:α->List PV} {Cs:List α->List PV} {d:Nat} {t e:TypeId} {m sz:Nat} {parts:List (Nat×Operand)} {zs:List Value} {pl:List (Nat×Nat)} {pv:List (Nat×AV)} [ht:k4 P t m e sz zs pl] (nm:Nat)
  (xs:List α) (mK:∀ l,Cs l=l.flatMap C) (hC:∀ x,(C x).length=sz) (hE:E.fix nm=none)
  (h:parts.mapM (λp=>(bR l p.2).map λv=>(p.1,v))=some pv/\mc pl (zs.map λv=>.pv (.sc v)) pv=some ((xs.flatMap C).map .pv)/\xs.length=m/\Nat.ble m 1000=true)
  (hm:lE nm l=false/\jO nm ds=false/\nZ nm s=false) (hd:Nat.blt d n=true)
  (hn:SL P E n ops Q rest (Y ((d,.arr nm (List.length xs))::l) ds) (U ((nm,.app e sz (Cs xs))::s))):SL P E n ops Q (⟨some d,.buildSlice t m parts.toArray,ty,pos,af,none⟩::rest) (Y l ds) (U s):=by
 rw[h.2.2.1,mK] at hn
 exact Ei nm hE ⟨h.1,h.2.1,by rw[iE hC,h.2.2.1],h.2.2.2⟩ hm hd hn
theorem xa {fr:eZ} {t e:TypeId} {n sz:Nat} {zs:List Value} {places:List (Nat×Nat)} {parts:List (Nat×Operand)} {out:List AV} {cells:List PV} (ht:ym P t n=some (e,sz,zs,places))
  (h:mc places (zs.map λv=>.pv (.sc v)) (parts.map λp=>(p.1,fr.val p.2))=some out) (hn:AV.JU out=cells.map .pv):D4 P (.buildSlice t n parts.toArray) fr (.pv (.sl n cells)):=by
 intro o ho g ev w hv
 obtain ⟨place,hp,hzl,hb⟩:=oL ht
 obtain ⟨cs',hf,hr⟩:=sn (g:=g) (vs:=parts.map λp=>(p.1,ev p.2)) (cs:=zs.toArray) hp h (by simpa using gX.qO g zs) (by simp)
  (uV λp hp=>hv p.2 (by simp[Op.operands];exact ⟨_,hp⟩)) trivial (so h)
 have e1:(parts.toArray.map λ(x:Nat×Operand)=>(x.1,ev x.2)).toList=parts.map λp=>(p.1,ev p.2):=by simp
 have hrun:=hb (parts.toArray.map λ(x:Nat×Operand)=>(x.1,ev x.2)) cs' w (by rw[e1];exact hf)
 have hps:=lL.wK (g:=g) (ps:=cells) (by rw[<- hn];exact (AV.wu out).H8 hr)
 have hlen:=hps.length
 refine ⟨.slice (some ⟨w.heap.size,0,none⟩) n n,cs',e,cells,?_,by simp at hlen;omega,?_,.pv (.sl w.heap.size cells 0 n n cells (by simp[Gh.dE]) (by simp) (by simp) (Nat.le_refl _))⟩
 ·simp only[execOp,ho,Sem.run_bind,hrun,Result.andThen_ok,Sem.run_pure]
 ·rw[List.take_of_length_le (by simp at hlen;simp;omega)];exact hps
end
section
variable {P:Program} {E:Env} {n:Nat} {ops:Array Oper} {Q:eB} {B:List Rec->eZ->Z->Prop} {i:Nat} {L:List Nat} {recs:List Rec} {l:List (Nat×AV)} {ds:List (FuncId×List AV)} {s:List (Nat×M)}
 {ty:TypeId} {pos:String} {af:Array Edge}
theorem vp {α:Type} {C:α->List PV} {Cs:List α->List PV} (xs:List α) (mK:∀ l,Cs l=l.flatMap C) {d:Nat} {t e:TypeId} {m sz:Nat} {parts:List (Nat×Operand)} {zs:List Value} {pl:List (Nat×Nat)} {pv:List (Nat×AV)} {out:List AV}
  {gd:Option (Nat×Bool)} [ht:k4 P t m e sz zs pl] (ho:ops[i]?=some ⟨some d,.buildSlice t m parts.toArray,ty,pos,af,gd⟩) (hw:iv ops ⟨some d,.buildSlice t m parts.toArray,ty,pos,af,gd⟩ (Y l ds))
  (h:parts.mapM (λp=>(bR l p.2).map λv=>(p.1,v))=some pv/\mc pl (zs.map λv=>.pv (.sc v)) pv=some out/\AV.JU out=(xs.flatMap C).map .pv)
  (hc:ep ⟨some d,.buildSlice t m parts.toArray,ty,pos,af,gd⟩=false/\Nat.blt d n=true)
  (hn:mE P E n ops Q B L (⟨i,some d,[],none⟩::recs) (Y ((d,.pv (.sl m (Cs xs)))::l) ds) (U s)):mE P E n ops Q B (i::L) recs (Y l ds) (U s):=by
 refine ⟨_,ho,.fz hw hc.1 (v:=.pv (.sl m (Cs xs))) ?_ (mR hc.2) (λ_ _ _ _=>rfl) hn⟩
 rw[mK]
 exact xa ht.h (by rw[uy h.1];exact h.2.1) h.2.2
end
end Go.Abs
end
section
namespace Go.Abs
open al
theorem cM {P:Program} {f:FuncId} {args:List AV} {es:List M} {X:Type} {V:X->AV} {C:X->List M}:CT P f args es (al.stuck:al X) V C:=λ_ h hs=>absurd h.symm hs
theorem mj {α:Type} {H:rW->al α} {r rO:al α} {p:rW} (hc:ko r H=rO) (hp:r=.kA p):H p=rO:=by subst hp;exact hc
theorem qY {α:Type} {H:rW->al α} {r rO:al α} {x:α} (hc:ko r H=rO) (h:r=.ok x):rO=.ok x:=by subst h;exact hc.symm
def AV.wk:AV->AV
 | .ptr k o=>.ptr k o
 | _=>.any
theorem AV.Kg (v:AV):v.le v.wk:=by
 cases v<;>first|exact AV.le_refl _|exact AV.BQ _
theorem EM:∀ cs:List AV,Ax cs (cs.map AV.wk)
 | []=>.nil
 | c::cs=>.cons (AV.Kg c) (EM cs)
section
variable {P:Program} {E:Env} {n:Nat} {ops:Array Oper} {Q:eB} {rest:List Oper} {l:List (Nat×AV)} {ds:List (FuncId×List AV)} {s:List (Nat×M)} {ty:TypeId} {pos:String} {af:Array Edge}
def Kh:List Nat->List (Nat×M)->Option (List (Nat×M))
 | [],s=>some s
 | k::ks,s=>match Kh ks s with
  | some s'=>match dZ s' k with
   | some (.box cs)=>some ((k,.box (cs.map AV.wk))::s')
   | _=>none
  | none=>none
theorem Ki:∀ {ks:List Nat} {s':List (Nat×M)},Kh ks s=some s'->fJ E n l ds s l s'
 | [],s',h=>by simp[Kh] at h;subst h;exact KY l s
 | k::ks,s',h=>by
  simp only[Kh] at h;split at h
  ·rename_i s1 h1;split at h
   ·rename_i cs h2;cases h;exact (Ki h1).trans (CE h2 (EM cs))
   cases h
  cases h
def vq (P:Program) (E:Env) (n:Nat) (fn:Func) (R:pc->Z->Prop):eB
 | .panic v,fr,σ=>nN P fn R (.panic v) fr σ\/∃ l fid cap c s s',fr=Y l [(fid,cap)]/\σ=U s/\(∀ g c',VR g v c'->c'=c)/\fJ E n l [(fid,cap)] s l s'/\Dk P E fn R fid cap (some c) (Y l [(fid,cap)]) (U s')
 | e,fr,σ=>vN P E fn R e fr σ
theorem LQ.dg {fn:Func} {R:pc->Z->Prop} {e:Exit} {a:Act} {w:World} (h:LQ E n (vq P E n fn R) e a w):LQ E n (vN P E fn R) e a w:=by
 obtain ⟨g,ae,fr,σ,q,hx,hR,hF⟩:=h;cases hx with
 | normal=>exact ⟨g,.normal,fr,σ,q,.normal,hR,hF⟩
 | exit id=>exact ⟨g,.exit id,fr,σ,q,.exit id,hR,hF⟩
 | goto id=>exact ⟨g,.goto id,fr,σ,q,.goto id,hR,hF⟩
 | ret=>exact ⟨g,.ret,fr,σ,q,.ret,hR,hF⟩
 | @panic v c0 hv=>
  rcases q with q|⟨l,fid,cap,c,s,s',rfl,rfl,hc,hg,hq⟩
  ·exact ⟨g,.panic v,fr,σ,(show vN P E fn R (.panic v) fr σ from .inl q),.panic hv,hR,hF⟩
  ·obtain ⟨g',hR',hF'⟩:=hg g a w hR hF;have hcc:=hc _ _ hv;subst hcc;exact ⟨g',.panic (Sc c0),Y l [(fid,cap)],U s',(show vN P E fn R (.panic (Sc c0)) (Y l [(fid,cap)]) (U s') from .inr ⟨fid,cap,c0,rfl,λ_ _ h=>h.dV,hq⟩),.panic (.pv (.sc _)),hR',hF'⟩
theorem tg {f:FuncId} {fn:Func} {c:Code} {args:List AV} {es:List M} {X:Type} {res:al X} {V:X->AV} {C:X->List M} (hf:P.funcs[f]?=some fn) (hb:fn.body=some c) (hn:Nat.ble args.length fn.ntmps=true)
  (h:∀ r,res=r->r≠.stuck->∀ E:Env,(∀ k,k5 es k=true->E.fix k=none)->
   SW P E fn.ntmps c (vq P E fn.ntmps fn (qi V C (λx=>r=.ok x) (λv=>∃ p,r=.kA p/\v=p.av))) (Y ((List.range args.length).zip args) []) (U (fh 0 es))):CT P f args es res V C:=
 Eu hf hb hn λr hr hs E hE=>λg a w hR hF=>wp_mono (h r hr hs E hE g a w hR hF) λ_ _ _ q=>q.dg
theorem uB {fn:Func} {R:pc->Z->Prop} {ae:tI} (hae:ae=.ret\/ae=.normal) {fr:eZ} {σ:Z} (h:nN P fn R ae fr σ):vq P E n fn R ae fr σ:=by
 rcases hae with rfl|rfl
 ·exact Ex (.inl rfl) h
 exact Ex (.inr rfl) h
theorem wy {fn:Func} {X:Type} {V:X->AV} {C:X->List M} {r:al X} {p:rW} {fr:eZ} {σ:Z} (hd:fr.ds=[]) (h:r=.kA p) :
 vq P E n fn (qi V C (λx=>r=.ok x) (λv=>∃ p,r=.kA p/\v=p.av)) (.panic p.av) fr σ:=.inl (zO hd h)
theorem lT {fn:Func} {R:pc->Z->Prop} {ae:tI} (hae:ae=.ret\/ae=.normal) {fid:FuncId} {cap capC:List AV} {es:List M} (ks:List Nat) (hen:Enters P fid) (hC:Dj P fid capC es none (al.ok ()) (λ_=>es))
  (hk:CJ E l s ks cap capC es) (hx:jR (below ks.length) es=true) {s':List (Nat×M)} (hs:lR ks (kz (nth ks) es)++s=s') (hret:nN P fn R .ret (Y l []) (U s')):vq P E n fn R ae (Y l [(fid,cap)]) (U s):=by
 have hl:es.length=ks.length:=by
  have:=(oO hk.gs).1
  rwa [iD] at this
 have:=Dn (E:=E) hae ks hen hC hk (λ_=>⟨hl,hx⟩) hs hret
 rcases hae with rfl|rfl
 ·exact this
 ·exact this
theorem jc {fn:Func} {R:pc->Z->Prop} {T:TypeId} {v:Int} {fid:FuncId} {cap capC:List AV} {es:List M} (ks:List Nat) {s1:List (Nat×M)} {X:Type} {res:al X} {C:X->List M} (hen:Enters P fid)
  (hC:Dj P fid capC es (some (.iface T (.agg #[.int .i64 v]))) res C) (hns:res≠.stuck) (hw:Kh ks s=some s1) (hk:CJ E l s1 ks cap capC es) (hx:∀ x,(C x).length=ks.length/\jR (below ks.length) (C x)=true)
  (hret:∀ x,res=.ok x->nN P fn R .ret (Y l []) (U (lR ks (kz (nth ks) (C x))++s1))):vq P E n fn R (.panic (rW.av ⟨T,[.sc (.int .i64 v)]⟩)) (Y l [(fid,cap)]) (U s):=
 .inr ⟨l,fid,cap,_,s,s1,rfl,rfl,λ_ _ h=>Ew h,Ki hw,Ia hen hC hns hk hx hret⟩
def EN (R:Z->Prop):eB
 | .normal,fr,σ|.ret,fr,σ=>fr.ds=[]/\∃ σ',(∀ k e,σ' k=some e->σ k=some e)/\R σ'
 | _,_,_=>False
theorem th {ae:tI} (hae:ae=.ret\/ae=.normal) {X:Type} {r:al X} {C:X->List M} (x:X) (hg:r=.ok x) (hm:vg s 0 (C x)):EN (λσ=>∃ x,r=.ok x/\σ=U (fh 0 (C x))) ae (Y l []) (U s):=by
 have h:(Y l []).ds=[]/\∃ σ',(∀ k e,σ' k=some e->U s k=some e)/\∃ x,r=.ok x/\σ'=U (fh 0 (C x)):=
  ⟨rfl,U (fh 0 (C x)),AS (λj e hj=>by have:=vh hm j e hj;simpa using this),x,hg,rfl⟩
 rcases hae with rfl|rfl
 ·exact h
 exact h
theorem pr {es:List M} {r:al Unit} (h:al.ok ()=r) {ae:tI} (hae:ae=.ret\/ae=.normal:=by first|exact .inr rfl|exact .inl rfl):EN (λσ=>∃ x,r=.ok x/\σ=U (fh 0 ((λ_:Unit=>es) x))) ae (Y l []) (U (fh 0 es)):=by
 have q:(Y l []).ds=[]/\∃ σ',(∀ k e,σ' k=some e->U (fh 0 es) k=some e)/\∃ x,r=.ok x/\σ'=U (fh 0 ((λ_:Unit=>es) x)):=⟨rfl,_,λ_ _ h=>h,(),h.symm,rfl⟩;rcases hae with rfl|rfl
 ·exact q
 exact q
theorem nt {f:FuncId} {fn:Func} {y:Code} {id d1 d2:Nat} {ts ty1 ty2:_} {p1 p2:String} {a1 a2:Array Edge} {cap:List AV} {es:List M} {m:Option Value} {mv:AV} {X:Type} {res:al X} {C:X->List M}
  (hmv:∀ g,VR g mv (m.getD .nilIface)) (hf:P.funcs[f]?=some fn)
  (hb:fn.body=some (.seq (.region id #[⟨some d1,.call ⟨.builtin .recover,#[],ts⟩,ty1,p1,a1,none⟩,⟨some d2,.assign (.tmp d1),ty2,p2,a2,none⟩] false) y))
  (hres:fn.results = #[]) (hn:(Nat.ble cap.length fn.ntmps&&Nat.blt d1 fn.ntmps&&Nat.blt d2 fn.ntmps)=true)
  (h:∀ r,res=r->r≠.stuck->∀ E:Env,(∀ k,k5 es k=true->E.fix k=none)->
   SW P E fn.ntmps y (EN (λσ=>∃ x,r=.ok x/\σ=U (fh 0 (C x)))) (Y ((d2,mv)::(d1,mv)::(List.range cap.length).zip cap) []) (U (fh 0 es))):Dj P f cap es m res C:=by
 intro r hr hs wS g w vs u hR hv hu
 simp only[Bool.and_eq_true] at hn
 have hn1:=Nat.le_of_ble_eq_true hn.1.1
 have hd1:d1<fn.ntmps:=by simpa[Nat.blt_eq] using hn.1.2
 have hd2:d2<fn.ntmps:=by simpa[Nat.blt_eq] using hn.2
 have hlen:=hv.length
 let E:=Env.of wS g (U (fh 0 es)) w
 have hE:∀ k,k5 es k=true->E.fix k=none:=λk hk=>by
  have h3:∀ (es:List M) (k:Nat),k5 es k=true->∀ cs,es[k]?≠some (.box cs):=by
   intro es
   induction es with
   | nil=>intro k _ cs;simp
   | cons e es ih=>
    intro k hk cs
    cases k with
    | zero=>intro q;simp at q;subst q;simp[k5] at hk
    | succ k=>simpa using ih k (by cases e<;>simpa[k5] using hk) cs
  simp only[E,Env.of]
  split
  ·rename_i cs hcs
   obtain ⟨_,h2⟩:=fZ hcs
   exact absurd (by simpa using h2) (h3 es k hk cs)
  ·rfl
 have hW:=h r hr hs E hE
 refine callsD_of_wpS hf hb λc₀ cs hcm=>?_
 let a0:Act:={ tmps:=vs.toArray++Array.replicate (fn.ntmps - vs.toArray.size) undef,defers:=[] }
 have hF0:FR fn.ntmps g (Y ((List.range cap.length).zip cap) []) a0:=by
  rw[<- wZ]
  refine ⟨by simp[a0];omega,λi=>?_,.nil⟩
  rw[Array.getD_eq_getD_getElem?]
  rcases Nat.lt_or_ge i cap.length with q|q
  ·obtain ⟨c,h1,h2⟩:=hv.get i cap[i] (by simp)
   have:a0.tmps[i]?=some c:=by
    simp only[a0];rw[Array.getElem?_append_left (by simp;omega)];simpa using h1
   rw[this]
   simp[q];exact h2
  ·have e:cap[i]?=none:=List.getElem?_eq_none q
   simp only[e,Option.getD_none];exact .any _
 have hF1:=hF0.put (d:=some d1) (v:=mv) (c:=m.getD .nilIface) (λx hx=>by cases hx;exact hd1) (hmv g)
 have hF2:=hF1.put (d:=some d2) (v:=mv) (c:=m.getD .nilIface) (λx hx=>by cases hx;exact hd2) (hmv g)
 rw[AL,AL] at hF2
 have hwp:=hW g _ w hR hF2
 have fin:∀ u',(settle u'=.returning)->y.wpS P (bodyPostS P fn c₀ cs λe u' w'=>(∃ v,e=.returned v)/\settle u'=.returning/\∃ g' σ',(∃ x,r=.ok x/\σ'=U (fh 0 (C x)))/\Rel E g' σ' w')
   ((a0.put (some d1) (m.getD .nilIface)).put (some d2) (m.getD .nilIface)) ({ c₀ with mode:=u' }::cs) w:=λu' hu'=>by
  refine wpS_of_wp (wp_mono hwp λe a w' hq=>?_)
  obtain ⟨g',ae,fr',σ',q,hx,hR',hF'⟩:=hq
  have res:(results fn a.tmps).run P w'=.ok (.tuple #[]) w':=by
   rw[tV,hres];simp
  cases hx with
  | normal=>
   obtain ⟨hd,σ2,hs2,hx2⟩:=q
   have:=hF'.ds;rw[hd] at this
   exact ⟨this.ob,u',rfl,_,res,⟨_,rfl⟩,hu',g',σ2,hx2,hR'.sub hs2⟩
  | ret=>
   obtain ⟨hd,σ2,hs2,hx2⟩:=q
   have:=hF'.ds;rw[hd] at this
   exact ⟨this.ob,u',rfl,_,res,⟨_,rfl⟩,hu',g',σ2,hx2,hR'.sub hs2⟩
  | exit id=>exact q.elim
  | goto l=>exact q.elim
  | panic hv=>exact q.elim
 refine wpS_seq (wpS_region ?_)
 have hr2:List.range #[(⟨some d1,.call ⟨.builtin .recover,#[],ts⟩,ty1,p1,a1,none⟩:Oper),⟨some d2,.assign (.tmp d1),ty2,p2,a2,none⟩].size=[0,1]:=rfl
 rw[hr2]
 have hrec:∀ a:Act,(execOp a.eval (⟨some d1,.call ⟨.builtin .recover,#[],ts⟩,ty1,p1,a1,none⟩:Oper)).run P w=.ok .recover w:=λa=>by
  simp[execOp,resolve,invoke,builtin]
 have hev:∀ (a:Act) (c:Value),(a.put (some d1) c).tmps.getD d1 undef=c\/¬ d1<a.tmps.size:=λa c=>by
  by_cases q:d1<a.tmps.size
  ·left;simp[Act.put,q]
  ·right;exact q
 have hsz:d1<a0.tmps.size:=by rw[hF0.size];exact hd1
 have hasg:∀ c:Value,(execOp (a0.put (some d1) c).eval (⟨some d2,.assign (.tmp d1),ty2,p2,a2,none⟩:Oper)).run P w=.ok (.value c) w:=λc=>by
  have:=(hev a0 c).resolve_right (λq=>q hsz)
  simp[execOp,Act.eval,this]
 cases m with
 | none=>
  have hu':c₀.mode=.returning:=hcm.trans hu
  have hrd:recoverD (c₀::cs)=none:=by simp[recoverD,hu']
  simp only[wpOpsS,List.getElem?_toArray,List.getElem?_cons_zero,List.getElem?_cons_succ,Region.wanted,if_true,hrec,hrd]
  rw[show (Value.nilIface)=(none:Option Value).getD .nilIface from rfl,hasg]
  simp only[Oper.upon,Exit.thenS]
  exact fin c₀.mode (by rw[hu'];rfl)
 | some c=>
  have hu':c₀.mode=.panicking [{ v:=c,recovered:=false }]:=hcm.trans hu
  have hrd:recoverD (c₀::cs)=some (c,{ c₀ with mode:=.panicking [{ v:=c,recovered:=true }] }::cs):=by simp[recoverD,hu']
  simp only[wpOpsS,List.getElem?_toArray,List.getElem?_cons_zero,List.getElem?_cons_succ,Region.wanted,if_true,hrec,hrd]
  rw[hasg]
  simp only[Oper.upon,Exit.thenS]
  exact fin _ rfl
def NP {α:Type} (x:al α):Prop:=∀ p,x≠.kA p
theorem NP.ok {α:Type} (a:α):NP (al.ok a):=λ_ h=>by cases h
theorem NP.stuck {α:Type}:NP (al.stuck:al α):=λ_ h=>by cases h
theorem NP.br {α:Type} {b:Bool} {x y:al α} (hx:NP x) (hy:NP y):NP (al.br b x y):=by cases b<;>assumption
theorem NP.gd {α:Type} {p:Prop} [Decidable p] {x:al α} (hx:NP x):NP (al.gd p x):=by unfold al.gd;split;exact hx;exact NP.stuck
theorem NP.el {α β:Type} {l:List β} {i:Int} {k:β->al α} (hk:∀ x,NP (k x)):NP (al.el l i k):=by
 unfold al.el;split
 ·split
  ·exact hk _
  exact NP.stuck
 exact NP.stuck
theorem NP.some? {α β:Type} {o:Option β} {k:β->al α} (hk:∀ x,NP (k x)):NP (al.some? o k):=by cases o;exact NP.stuck;exact hk _
theorem NP.bind {α β:Type} {x:al α} {k:α->al β} (hx:NP x) (hk:∀ a,NP (k a)):NP (al.bind x k):=by
 cases x with
 | stuck=>exact NP.stuck
 | kA p=>exact absurd rfl (hx p)
 | ok a=>exact hk a
theorem NP.jn {α X:Type} {j:X->al α} {p:(X->al α)->al α} (h:∀ j,(∀ x,NP (j x))->NP (p j)) (hj:∀ x,NP (j x)):NP (al.jn j p):=h j hj
theorem NP.iter {α X:Type} {body:(X->al α)->X->al α} (h:∀ nx,(∀ x,NP (nx x))->∀ x,NP (body nx x)):∀ (n:Nat) (x:X),NP (al.iter body n x)
 | 0,_=>NP.stuck
 | n+1,x=>h _ (λy=>NP.iter h n y) x
end
section
variable {P:Program} {E:Env} {n:Nat} {ops:Array Oper} {Q:eB} {B:List Rec->eZ->Z->Prop} {i:Nat} {L:List Nat} {recs:List Rec} {rest:List Oper} {l:List (Nat×AV)} {ds:List (FuncId×List AV)} {s:List (Nat×M)}
 {ty:TypeId} {pos:String} {af:Array Edge}
theorem EO {d:Nat} {X R:Type} {res:al X} {kk:X->al R} {r:al R} {V V':X->AV} {C:X->List M} {C':X->List (Nat×M)} {f:Operand} {args:List Operand} {ts:Array TypeId} {fid:FuncId}
  {argsC first cap vs:List AV} {es:List M} (hr:r≠.stuck) (h:al.bind res kk=r) (ks:List Nat) (hen:Enters P fid)
  (hC:CT P fid argsC es res V C) (hk:lS E ds l s ks f args fid argsC es first cap vs) (hd:Nat.blt d n=true)
  (hx:∀ x,(C x).length=ks.length/\jR (below ks.length) (C x)=true/\(V x).only (below ks.length)=true)
  (hV:∀ x,(V x).gZ (nth ks)=V' x/\lR ks (kz (nth ks) (C x))=C' x) (hnp:NP res)
  (hret:∀ x,kk x=r->SL P E n ops Q rest (Y ((d,V' x)::l) ds) (U (C' x++s))) :
  SL P E n ops Q (⟨some d,.call ⟨.value f,args.toArray,ts⟩,ty,pos,af,none⟩::rest) (Y l ds) (U s):=by
 obtain ⟨hns,hok,hp⟩:=k8 hr h
 refine jo rfl (Dh ks hen rfl (hC res rfl hns) hk (mR hd) (λx _=>hx x) (λx hg=>?_) (λv hv=>?_))
 ·have:=hret x (hok x hg)
  rw[<- (hV x).1,<- (hV x).2] at this;exact this
 ·obtain ⟨p,hp1,_⟩:=hv
  exact absurd hp1 (hnp p)
theorem I4 {d:Nat} {X R:Type} {res:al X} {kk:X->al R} {r:al R} {V V':X->AV} {C:X->List M} {C':X->List (Nat×M)} {f:Operand} {args:List Operand} {ts:Array TypeId} {fid:FuncId}
  {argsC first cap vs:List AV} {es:List M} {gd:Option (Nat×Bool)} (ho:ops[i]?=some ⟨some d,.call ⟨.value f,args.toArray,ts⟩,ty,pos,af,gd⟩)
  (hw:iv ops ⟨some d,.call ⟨.value f,args.toArray,ts⟩,ty,pos,af,gd⟩ (Y l ds)) (hr:r≠.stuck) (h:al.bind res kk=r) (ks:List Nat) (hen:Enters P fid)
  (hC:CT P fid argsC es res V C) (hk:lS E ds l s ks f args fid argsC es first cap vs) (hd:Nat.blt d n=true) (hnm:vi ks recs=true)
  (hx:∀ x,(C x).length=ks.length/\jR (below ks.length) (C x)=true/\(V x).only (below ks.length)=true)
  (hV:∀ x,(V x).gZ (nth ks)=V' x/\lR ks (kz (nth ks) (C x))=C' x) (hnp:NP res)
  (hret:∀ x,kk x=r->mh ops i (C' x++s) recs/\mE P E n ops Q B L recs (Y ((d,V' x)::l) ds) (U (C' x++s))):mE P E n ops Q B (i::L) recs (Y l ds) (U s):=by
 obtain ⟨hns,hok,hp⟩:=k8 hr h
 refine CA ho hw ks hen (hC res rfl hns) hk hd hnm (λx _=>hx x) (λv hv=>?_) (λx hg v' s' hv hs=>?_)
 ·obtain ⟨p,hp1,_⟩:=hv
  exact absurd hp1 (hnp p)
 ·have:=hret x (hok x hg)
  rw[<- (hV x).1,<- (hV x).2] at this
  subst hv hs;exact this
theorem I5 {d:Nat} {X R:Type} {res:al X} {kk:X->al R} {r:al R} {V V':X->AV} {C:X->List M} {C':X->List (Nat×M)} {f:Operand} {args:List Operand} {ts:Array TypeId} {fid:FuncId}
  {argsC first cap vs:List AV} {es:List M} {gd:Option (Nat×Bool)} (ho:ops[i]?=some ⟨some d,.call ⟨.value f,args.toArray,ts⟩,ty,pos,af,gd⟩)
  (hw:iv ops ⟨some d,.call ⟨.value f,args.toArray,ts⟩,ty,pos,af,gd⟩ (Y l ds)) (hfl:hY ops recs i=[]) (hr:r≠.stuck) (h:al.bind res kk=r) (ks:List Nat) (hen:Enters P fid)
  (hC:CT P fid argsC es res V C) (hk:lS E ds l s ks f args fid argsC es first cap vs) (hbb:il es=true) (hd:Nat.blt d n=true)
  (hx:∀ x,(C x).length=ks.length/\jR (below ks.length) (C x)=true/\(V x).only (below ks.length)=true)
  (hV:∀ x,(V x).gZ (nth ks)=V' x/\lR ks (kz (nth ks) (C x))=C' x)
  {sp:List (Nat×M)} (hsp:lR ks (kz (nth ks) (es.map M.lost))++s=sp) (hpan:∀ p,r=.kA p->Q (.panic p.av) (Y l ds) (U sp))
  (hret:∀ x,kk x=r->mE P E n ops Q B L recs (Y ((d,V' x)::l) ds) (U (C' x++s))):mE P E n ops Q B (i::L) recs (Y l ds) (U s):=by
 obtain ⟨hns,hok,hp⟩:=k8 hr h
 subst hsp
 obtain ⟨hl,hat⟩:=oO hk.gs
 rw[iD] at hl
 have hC':=(hC res rfl hns).lost hbb
 refine ⟨_,ho,.ep hw rfl (.call (nth ks) (List.range ks.length) hen rfl (aD hk.f) (by rw[lQ hk.a];exact hk.e) hC' (λj hj=>by have:=oj hj;simp;omega) (λj e hj=>?_)
   (λj hj=>by
    have hj':j<es.length:=by simp at hj;omega
    have:=nq (i:=0) (List.getElem?_eq_getElem hj')
    simp at this;rw[this];rfl)
   (λj j' hj hj' he=>og hk.nd (by have:=oj hj;omega) (by have:=oj hj';omega) he) (mR hd) (λv σc hr=>?_) (λv σc hr=>?_)) (λr hr=>by rw[hfl] at hr;cases hr)⟩
 ·obtain ⟨_,h2⟩:=fZ hj
  exact hat j _ (by rw[na,show j=j - 0 by omega,h2];rfl)
 ·rcases hr with ⟨x,hg,he,rfl⟩|⟨_,_,he,_⟩
  ·cases he
   obtain ⟨h1,h2,h3⟩:=hx x
   refine ⟨qo ⟨rfl,rfl⟩ hl hk.nd hk.bx hk.fx h1 h2 h3,?_⟩
   rw[oR hk.nd h1,(hV x).1,(hV x).2]
   exact ⟨λr hr=>(by rw[hfl] at hr;cases hr),hret x (hok x hg)⟩
  ·cases he
 ·rcases hr with ⟨_,_,he,_⟩|⟨v',⟨p,hp1,hp2⟩,he,rfl⟩
  ·cases he
  ·cases he
   subst hp2
   refine ⟨qo ⟨rfl,rfl⟩ hl hk.nd hk.bx hk.fx (by simp[hl]) (vm _ hbb) (p.only _),λfr' σ' _ _ hq=>?_⟩
   obtain ⟨rfl,rfl⟩:=hq hfl
   rw[oR hk.nd (by simp[hl]),qg (p.only _)]
   exact hpan p (hp p hp1)
theorem CL (f:Int->AV):∀ {xs:List Int} {i:Nat} {v:Int},(xs.map f).take i++[f v]++(xs.map f).drop (i+1)=(xs.set i v).map f\/xs.length<=i:=by
 intro xs i v;rcases Nat.lt_or_ge i xs.length with q|q
 ·left;rw[List.set_eq_take_append_cons_drop,if_pos q];simp
 exact .inr q
theorem I6 (f:Int->AV):∀ {xs:List Int},xs.length=4->xs.map f=[f (jt xs 0),f (jt xs 1),f (jt xs 2),f (jt xs 3)]
 | [_,_,_,_],_=>rfl
theorem GI (f:Int->AV) {t:TypeId} {x y:Operand} {k:Nat} {ii:Int} {xs:List Int} {cs cs':List AV} {v:Int} [ht:mJ P t 1] (hx:bR l x=some (.ptr k (0+ii.toNat*1))) (hk:dZ s k=some (.box cs)) (hc:cs=xs.map f)
  (hy:bR l y=some (f v)) (h0:0<=ii) (h1:ii<xs.length) (ho:∀ v,(f v).fY=some [f v]/\AV.jK [f v]=true) (hn':(sD xs ii v).map f=cs')
  (hn:SL P E n ops Q rest (Y l ds) (U ((k,.box cs')::s))):SL P E n ops Q (⟨none,.store t x y,ty,pos,af,none⟩::rest) (Y l ds) (U s):=by
 have hlt:ii.toNat<xs.length:=by omega
 refine jo rfl (qP rfl rfl (aD hx) (bX hk) rfl (by rw[aD hy];exact (ho v).1) (ho v).2 ht.h (by simp only[M.cells,List.length_singleton];rw[hc,List.length_map];omega) (λq=>by cases q) ?_)
 have e1:(M.box cs).Cq (0+ii.toNat*1) [f v]=.box cs':=by
  simp only[M.Cq,List.length_singleton]
  rw[hc,<- hn',show 0+ii.toNat*1=ii.toNat by omega]
  rcases CL f (xs:=xs) (i:=ii.toNat) (v:=v) with q|q
  ·rw[q];rfl
  ·omega
 rw[e1];exact hn
end
end Go.Abs
end
section
namespace Go.Abs
open al
def KP:List AV->List AV->Prop
 | [],[]=>True
 | a::as,b::bs=>(a=b\/b=.any)/\KP as bs
 | _,_=>False
theorem CM:∀ {a b:List AV},KP a b->Ax a b
 | [],[],_=>.nil
 | a::as,b::bs,h=>.cons (by rcases h.1 with q|q<;>subst q;exact AV.le_refl _;exact AV.BQ _) (CM h.2)
 | [],_::_,h=>h.elim
 | _::_,[],h=>h.elim
def I7 (s':List (Nat×M)):List (Nat×M)->Prop
 | []=>True
 | p::ps=>(∃ e,dZ s' p.1=some e/\e.le p.2)/\I7 s' ps
theorem yA {s':List (Nat×M)}:∀ {l:List (Nat×M)},I7 s' l->∀ p,p∈l->∃ e,dZ s' p.1=some e/\e.le p.2
 | _::_,h,p,hp=>by
  rcases List.mem_cons.1 hp with q|q
  ·subst q;exact h.1
  exact yA h.2 p q
def CN (ops:Array Oper) (i:Nat) (s':List (Nat×M)):List Rec->Prop
 | []=>True
 | r::rs=>(match r.rd with
  | []=>True
  | p::ps=>match nj ops ops.size i r.i with
   | true=>True
   | false=>I7 s' (p::ps))/\CN ops i s' rs
theorem cW {ops:Array Oper} {i:Nat} {s':List (Nat×M)} {recs:List Rec} (h:CN ops i s' recs):mh ops i s' recs:=by
 induction recs with
 | nil=>intro r hr;simp[hY] at hr
 | cons a rs ih=>
  intro r hr p hp
  simp only[hY,List.mem_filter,Bool.not_eq_true'] at hr
  rcases List.mem_cons.1 hr.1 with q|q
  ·subst q;have h1:=h.1;cases hrd:r.rd with
   | nil=>rw[hrd] at hp;cases hp
   | cons x xs=>
    rw[hrd] at h1 hp
    simp only[hr.2] at h1
    exact yA h1 p hp
  ·exact ih h.2 r (by simp[hY,q,hr.2]) p hp
theorem M.fN {cs cs':List AV} (h:KP cs cs'):M.le (.box cs) (.box cs'):=λ_ _ _ he=>CD (CM h) he
section
variable {P:Program} {l:List (Nat×AV)} {ds:List (FuncId×List AV)} {s:List (Nat×M)}
theorem fV (cs':List AV) {t:TypeId} {x:Operand} {k off:Nat} {cs:List AV} {v:AV} [ha:ja P t false] (hx:bR l x=some (.ptr k off)) (hk:dZ s k=some (.box cs)) (hw:KP cs cs') (hv:cs'[off]?=some v) :
  jr P (.load t x) l ds s v [(k,.box cs')]:=
 ⟨sj ha.h (aD hx) hv,λp hp=>by simp at hp;subst hp;exact ⟨_,bX hk,M.fN hw⟩⟩
theorem EP {α β:Type} (f:α->β):∀ l:List α,(l.flatMap λx=>[f x])=l.map f
 | []=>rfl
 | x::l=>by simp[List.flatMap_cons,EP f l]
theorem Ds {α β:Type} {f:α->β} (l:List α):(l.flatMap λx=>[f x]).length=l.length:=by rw[EP,List.length_map]
theorem I8 {t:TypeId} {x:Operand} {k off:Nat} {cs:List AV} [ha:ja P t false] (hx:bR l x=some (.ptr k off)) (hk:dZ s k=some (.box cs)) (hv:cs[off]?=some .any) :
  jr P (.load t x) l ds s .oc [(k,.box cs)]:=.on hk (by
 intro o ho g ev w hG hv' hr
 have q:=hv' x (by simp[Op.operands]);rw[aD hx] at q
 have he:=hr (k,.box cs) (by simp)
 generalize hq:ev x=c at q
 cases q with
 | ptr _ hb=>
  cases he with
  | box h hw hc h1=>
   rw[h] at hb;cases hb
   obtain ⟨v,hv1,_⟩:=hc.get off _ hv
   refine ⟨v,?_,.oc (h1 v (List.mem_of_getElem? hv1))⟩
   simp only[execOp,ho,hq,Instr.loadAt,Instr.sureAddr,Sem.run_bind,Sem.run_pure,Result.andThen_ok,ng ha.h hw hv1])
theorem Dt {a b e:TypeId} (ha:P.underlying a=some (.slice e)) (he:P.underlying e=some (.int .u8)) (hb:P.underlying b=some .string) {g:Gh} {w:World} (hG:Ch g w) {xs:List Int} {n:Nat} (hn:n=xs.length) {c:Value}
  (h:VR g (.pv (.sl n (xs.flatMap λx=>[PV.sc (.int .u8 x)]))) c):(convert a b c).run P w=.ok (S (kQ xs)) w:=by
 subst hn
 cases h with
 | pv h=>
  generalize hcs:(xs.flatMap λx=>[PV.sc (.int .u8 x)])=cells at h
  generalize hl:xs.length=n at h
  cases h with
  | nil a' cap=>
   have:xs=[]:=List.length_eq_zero_iff.1 hl
   subst this
   rw[run_convert_bytes_string w a b e _ _ _ ha he hb]
   cases a' with
   | none=>simp[Conv.bytesToString,S,kQ,ByteArray.empty,ByteArray.emptyWithCapacity];rfl
   | some a0=>
    rw[run_bytesToString w a0 0 cap [] (by simp[loadCells,loadCellsFrom,Sem.run_pure])]
    simp[S,kQ,ByteArray.empty,ByteArray.emptyWithCapacity];rfl
  | sl blk ys off n cap cells h hl' hc hnc=>
   have hlen:cells.length=xs.length:=by rw[<- hcs];exact Ds xs
   obtain ⟨cs,el,fz,hw,h1,h2⟩:=Ck hG h hl' hc
   have:=run_convert_bytes_arg (P:=P) w a e ha he blk off xs.length cap xs rfl (λi hi=>by
    have hci:cells[i]?=some (.sc (.int .u8 (xs.getD i 0))):=by
     rw[<- hcs]
     rw[EP,List.getElem?_map,List.getElem?_eq_getElem hi]
     simp[List.getD,List.getElem?_eq_getElem hi]
    obtain ⟨v,hv1,hv2⟩:=h2.get i _ hci
    cases hv2
    rw[List.getElem?_take] at hv1
    split at hv1
    ·simp at hv1
     simp[World.cell?,hw]
     exact hv1
    ·cases hv1) b hb
   rw[<- hl,this]
   rfl
theorem CO {a b e:TypeId} {x:Operand} {n:Nat} {xs:List Int} [ha:kH P a (.slice e)] [he:kH P e (.int .u8)] [hb:kH P b .string] (hx:bR l x=some (.pv (.sl n (xs.flatMap λx=>[PV.sc (.int .u8 x)])))) (hn:n=xs.length) :
  jr P (.convert a b x) l ds s (F (kQ xs)) []:=.of (by
 intro o ho g ev w hG hv _
 have q1:=hv x (by simp[Op.operands]);rw[aD hx] at q1
 exact ⟨S (kQ xs),by simp only[execOp,ho,Sem.run_bind,Dt ha.h he.h hb.h hG hn q1,Result.andThen_ok,Sem.run_pure],.pv (.sc _)⟩)
end
section
variable {P:Program} {E:Env} {n:Nat} {c:Code} {Q:eB} {fr:eZ} {σ:Z}
def KZ (Q:eB):eB
 | .goto _,_,_=>False
 | e,fr,σ=>Q e fr σ
theorem A6 (h:SW P E n c (KZ Q) fr σ):SW P E n (.scope c) Q fr σ:=λg a w hR hF=>by
 refine wp_scope_straight (wp_mono (h g a w hR hF) λe a w hq=>?_);obtain ⟨g',ae,fr',σ',q,hx,hR',hF'⟩:=hq;cases hx with
 | goto l=>exact q.elim
 | normal=>exact ⟨g',_,fr',σ',q,.normal,hR',hF'⟩
 | exit id=>exact ⟨g',_,fr',σ',q,.exit id,hR',hF'⟩
 | ret=>exact ⟨g',_,fr',σ',q,.ret,hR',hF'⟩
 | panic hv=>exact ⟨g',_,fr',σ',q,.panic hv,hR',hF'⟩
end
theorem CP {q:Nat->Bool} {v:AV} {T:TypeId} {b:Bool} (h:v.only q=true):(AV.gU [v,Oe T b]).only q=true:=by cases b<;>simp[AV.only,AV.only.ky,h,Oe]
theorem ES {f:Nat->Nat} {v:AV} {T:TypeId} {b:Bool}:(AV.gU [v,Oe T b]).gZ f=.gU [v.gZ f,Oe T b]:=by cases b<;>rfl
theorem ti {α:Type} (X:List α) (z:α):((X.length:Int))<((X++[z]).length:Int):=by simp;omega
theorem kC {α:Type} (X:List α) (z:α):(X++[z])[((X.length:Int)).toNat]?=some z:=by simp
theorem ET {α:Type} (X:List α) (z a:α):(X++[z]).set ((X.length:Int)).toNat a=X++[a]:=by simp
section
variable {P:Program} {E:Env} {n:Nat} {ops:Array Oper} {Q:eB} {B:List Rec->eZ->Z->Prop} {i:Nat} {L:List Nat} {recs:List Rec} {rest:List Oper} {l:List (Nat×AV)} {ds:List (FuncId×List AV)} {s:List (Nat×M)}
 {ty:TypeId} {pos:String} {af:Array Edge}
theorem CR (f:Int->AV) {t:TypeId} {x y:Operand} {k:Nat} {ii:Int} {xs:List Int} {cs cs':List AV} {v:Int} [ht:mJ P t 1] (hop:ops[i]?=some ⟨none,.store t x y,ty,pos,af,none⟩)
  (hx:bR l x=some (.ptr k (0+ii.toNat*1))) (hk:dZ s k=some (.box cs)) (hc:cs=xs.map f)
  (hy:bR l y=some (f v)) (h0:0<=ii) (h1:ii<xs.length) (ho:∀ v,(f v).fY=some [f v]/\AV.jK [f v]=true) (hn':(sD xs ii v).map f=cs') (hnm:kP recs=true)
  (hn:mh ops i ((k,.box cs')::s) recs/\mE P E n ops Q B L recs (Y l ds) (U ((k,.box cs')::s))):mE P E n ops Q B (i::L) recs (Y l ds) (U s):=by
 have hlt:ii.toNat<xs.length:=by omega
 obtain ⟨hst,hn⟩:=hn
 refine ⟨_,hop,.ep (.inl rfl) rfl (.store rfl rfl (aD hx) (bX hk) rfl (by rw[aD hy];exact (ho v).1) (ho v).2 ht.h (by simp only[M.cells,List.length_singleton];rw[hc,List.length_map];omega) (λq=>by cases q) ?_) (λr hr k' _=>by rw[eY hnm r (List.mem_filter.1 hr).1];simp)⟩
 have e1:(M.box cs).Cq (0+ii.toNat*1) [f v]=.box cs':=by
  simp only[M.Cq,List.length_singleton]
  rw[hc,<- hn',show 0+ii.toNat*1=ii.toNat by omega]
  rcases CL f (xs:=xs) (i:=ii.toNat) (v:=v) with q|q
  ·rw[q];rfl
  ·omega
 rw[e1]
 exact ⟨λr hr=>⟨λp hp=>(let ⟨e,h1,h2⟩:=hst r hr p hp;⟨e,bX h1,h2⟩),λnm q=>by rw[eY hnm r (List.mem_filter.1 hr).1] at q;cases q⟩,hn⟩
theorem nO {α:Type} {C:α->List PV} {Cs:List α->List PV} {t:TypeId} {x y:Operand} {k off m sz:Nat} {el:TypeId} (xs:List α) {a a':α} {v:AV} {vs:List PV}
  (ho:ops[i]?=some ⟨none,.store t x y,ty,pos,af,none⟩) (h:xS P C Cs l s t x y k off m sz el (xs.length:Int) (xs++[a]) a a' v vs) (hnm:kP recs=true)
  (hn:mh ops i ((k,.arr el sz (Cs (xs++[a'])))::oh k s) recs/\mE P E n ops Q B L recs (Y l ds) (U ((k,.arr el sz (Cs (xs++[a'])))::oh k s))):mE P E n ops Q B (i::L) recs (Y l ds) (U s):=
 I0 ho h hnm (by rw[ET];exact hn)
end
section
variable {E:Env} {n:Nat} {l:List (Nat×AV)} {ds:List (FuncId×List AV)} {s:List (Nat×M)}
theorem EU (d:Nat) {k m m':Nat} (hd:kf l d=some (.arr k m)) (hm:m=m'):fJ E n l ds s ((d,.arr k m')::l) s:=λg a w hR hF=>by
 subst hm;refine ⟨g,hR,hF.size,λi=>?_,hF.ds⟩;by_cases q:i=d
 ·subst q;have:=hF.iS i;simp only[Y,fK hd] at this;simpa[Y,kY] using this
 have:=hF.iS i;simpa[Y,kY,q] using this
theorem nP (j off:Nat) {cs cs':List AV} {k m m':Nat} (hj:dZ s j=some (.box cs)) (hc:cs[off]?=some (.arr k m)) (hm:m=m') (hcs:cs.set off (.arr k m')=cs'):fJ E n l ds s l ((j,.box cs')::s):=by
 subst hm;have:cs.set off (.arr k m)=cs:=by
  obtain ⟨h1,h2⟩:=List.getElem?_eq_some_iff.1 hc;rw[<- h2];exact List.set_getElem_self h1
 rw[this] at hcs;subst hcs;exact CE hj (Ax.refl _)
end
section
variable {P:Program} {E:Env} {n:Nat} {ops:Array Oper} {Q:eB} {recs:List Rec} {l:List (Nat×AV)} {ds:List (FuncId×List AV)} {s:List (Nat×M)}
theorem tj {x y:Nat} (h1:DW P E n ops Q [x,y] recs (Y l ds) (U s)) (h2:DW P E n ops Q [y,x] recs (Y l ds) (U s)):DX P E n ops Q x y [] recs (Y l ds) (U s):=⟨h1,h2⟩
end
section
variable {P:Program} {l:List (Nat×AV)} {s:List (Nat×M)}
theorem gG {fn:Func} {X:Type} {V:X->AV} {C:X->List M} {vs:List AV} {ae:tI} {r:al X} (hae:ae=.ret\/ae=.normal) (x:X) (hr:Df P (Y l []) (U s) fn.results.toList vs)
 (hg:r=.ok x) (hle:(nM vs).le (V x)) (hm:vg s 0 (C x)):nN P fn (qi V C (λx=>r=.ok x) (λv=>∃ p,r=.kA p/\v=p.av)) ae (Y l []) (U s):=nr hae x hr hg hle hm
end
theorem ml {K:eZ->Z->Prop} {Q:eB} {v:AV} {fr:eZ} {σ:Z} (h:Q (.panic v) fr σ):vJ K Q (.panic v) fr σ:=h
theorem lf {id:Nat} {Q:eB} {v:AV} {fr:eZ} {σ:Z} (h:Q (.panic v) fr σ):BL id Q (.panic v) fr σ:=h
end Go.Abs
end
section
namespace Go.Abs
open al Go.RowKit
section
variable {E:Env} {g:Gh} {σ:Z} {w w':World}
theorem Ch.EV (h:Ch g w) {b:Nat} (hb:w.heap.size<=b):g.G b=none:=by
 cases q:g.G b with
 | none=>rfl
 | some ys=>have:=h.lt q;omega
theorem ki.Ie {b:Nat} {ys:List PV} (h:g.G b=none):ki (λ_=>False) g (g.dE b ys):=by
 refine ⟨λ_ _=>rfl,λ_ _=>rfl,λc zs hc=>?_⟩;have:c≠b:=λq=>by subst q;rw[h] at hc;cases hc
 exact ⟨[],by simp[Gh.dE,this,hc]⟩
theorem Rel.below (h:Rel E g σ w) (hb:Below w.heap.size w w'):Rel E g σ w':=by
 have hs:=hb.size;refine { jN:=?_,inj:=h.inj,gl:=?_,apart:=h.apart,size:=Nat.le_trans h.size hs,oF:=?_,own:=h.own,fix:=h.fix,iZ:=h.iZ,g0:=h.g0,gn:=h.gn,os:=hb.os.trans h.os,out:=hb.output.trans h.out,tape:=hb.tape.trans h.tape,x:=?_ }
 ·intro k e hk;exact (h.jN k e hk).le (ki.refl (λ_=>False) g) (λq=>q) (λ_ _ _=>rfl) (λ_ q=>q.elim) (λb hb'=>hb.block b ((h.jN k e hk).lt hb'))
 ·intro b ys hG;obtain ⟨c,e,f,h1,h2,h3⟩:=h.gl b ys hG;exact ⟨c,e,f,by rw[hb.block b (h.gl.lt hG)];exact h1,h2,h3⟩
 ·intro b hb' ho;rw[hb.block b (Nat.lt_of_lt_of_le hb' h.size)];exact h.oF b hb' ho
 exact {
  xP:=λb cs el fz h1=>let ⟨cs',h2,h3⟩:=h.x.xP b cs el fz h1;⟨cs',by rw[hb.block b (qM h2)];exact h2,h3⟩
  flat:=λk b cs el fz h0 h1 hf=>let ⟨cs',h2,h3⟩:=h.x.flat k b cs el fz h0 h1 hf;⟨cs',by rw[hb.block b (qM h2)];exact h2,h3⟩
  set:=λb hb'=>by
   have h1:=h.x.set b hb';have:E.wS.heap[b]?=some E.wS.heap[b]:=Array.getElem?_eq_getElem hb';rw[hb.block b (qM (h1.trans this))];exact h1
  xQ:=h.x.xQ,hi:=h.x.hi,gf:=h.x.gf,nJ:=h.x.nJ,oa:=h.x.oa,nK:=h.x.nK,nL:=h.x.nL }
theorem Rel.Kj (h:Rel E g σ w) {b:Nat} (hge:E.w0.heap.size<=b) (hG:g.G b=none) (hk:∀ k,(σ k).isSome=true->g.ρ k≠some b) {cs:Array Value} {el:TypeId} {fz:Nat×Nat} (hw:w.heap[b]?=some (.cells cs el fz)) {ys:List PV} (hl:ys.length<=cs.size) (hp:lL g ys (cs.toList.take ys.length)) :
  Rel E (g.dE b ys) σ w:=by
 have hle:ki (λ_=>False) g (g.dE b ys):=ki.Ie hG
 refine { jN:=?_,inj:=h.inj,gl:=?_,apart:=?_,size:=h.size,oF:=h.oF,own:=h.own,fix:=h.fix,iZ:=h.iZ,g0:=?_,gn:=?_,os:=h.os,out:=h.out,tape:=h.tape,x:=?_ }
 ·intro k e hk'
  exact (h.jN k e hk').le hle (λq=>q) (λc hc _=>by
   have:c≠b:=λq=>by subst q;exact hk k (by rw[hk'];rfl) hc
   simp[Gh.dE,this]) (λ_ q=>q.elim) (λ_ _=>rfl)
 ·intro c zs hc
  by_cases q:c=b
  ·subst q
   simp[Gh.dE] at hc;subst hc
   exact ⟨cs,el,fz,hw,hl,hp.le hle⟩
  ·simp[Gh.dE,q] at hc
   obtain ⟨c',e,f,h1,h2,h3⟩:=h.gl c zs hc
   exact ⟨c',e,f,h1,h2,h3.le hle⟩
 ·intro k c e' hk' hka hc
  have q:c≠b:=λq=>by subst q;exact hk k (by rw[hk'];rfl) hc
  simp only[Gh.dE,q,if_false]
  exact h.apart k c e' hk' hka hc
 ·intro c zs hc
  obtain ⟨us,h1⟩:=h.g0 c zs hc
  obtain ⟨vs,h2⟩:=hle.G c _ h1
  exact ⟨us++vs,by rw[h2,List.append_assoc]⟩
 ·intro c zs hc
  by_cases q:c=b
  ·subst q;exact .inr (.inr hge)
  ·simp[Gh.dE,q] at hc;exact h.gn c zs hc
 ·have hx:=h.x
  exact {
      xP:=hx.xP,flat:=hx.flat,set:=hx.set,xQ:=hx.xQ,hi:=hx.hi,gf:=hx.gf,nJ:=hx.nJ
      oa:=λk c hf=>by
       have:=hx.nJ k c hf
       have q:c≠b:=by omega
       simp only[Gh.dE,q,if_false];exact hx.oa k c hf
      nK:=hx.nK,nL:=hx.nL }
theorem Rel.grown (h:Rel E g σ w) (hb:Below w.heap.size w w') {b:Nat} (hge:w.heap.size<=b) {cs:Array Value} {el:TypeId} {fz:Nat×Nat} (hw:w'.heap[b]?=some (.cells cs el fz)) {ys:List PV} (hl:ys.length<=cs.size) (hp:lL g ys (cs.toList.take ys.length)) :
  Rel E (g.dE b ys) σ w':=
 (h.below hb).Kj (Nat.le_trans h.size hge) (h.gl.EV hge) (λk hk q=>by have:=h.lt hk q;omega) hw hl hp
theorem vO (w:World) (e:TypeId) (s:ByteArray):Below w.heap.size w (Lib.bytesWorld w e s):=
 ⟨rfl,rfl,rfl,by rw[Lib.bytesWorld_size];omega,λk hk=>Lib.bytesWorld_at_old w e s k hk⟩
end
def ofBytes (s:ByS):List Int:=s.map λb=>(b.toNat:Int)
theorem yB {g:Gh}:∀ l:ByS,lL g ((ofBytes l).flatMap λx=>[PV.sc (.int .u8 x)]) (l.map λb=>Value.int .u8 b.toNat)
 | []=>.nil
 | _::l=>.cons (.sc _) (yB l)
section
variable {P:Program} {E:Env} {n:Nat} {ops:Array Oper} {Q:eB} {rest:List Oper} {l:List (Nat×AV)} {ds:List (FuncId×List AV)} {s:List (Nat×M)}
 {ty:TypeId} {pos:String} {af:Array Edge}
theorem I9 {d:Nat} {a b e:TypeId} {u:TypeDesc} {x:Operand} {c:ByS} {Cs:List Int->List PV} [hs:kH P a u] [ht:kH P b (.slice e)] [he:kH P e (.int .u8)] (hx:bR l x=some (F c)) (hC:∀ l,Cs l=l.flatMap λx=>[PV.sc (.int .u8 x)])
  (hd:Nat.blt d n=true) (hn:SL P E n ops Q rest (Y ((d,.pv (.sl (ofBytes c).length (Cs (ofBytes c))))::l) ds) (U s)):SL P E n ops Q (⟨some d,.convert a b x,ty,pos,af,none⟩::rest) (Y l ds) (U s):=by
 refine jo rfl ?_
 intro g act w K hR hF hK
 have q:=hF.eval x
 rw[aD hx] at q
 have hq:=q.dV
 have hrun:=Lib.run_convert_string_bytes w a b e ⟨c.toArray⟩ hs.h ht.h he.h
 have hev:(execOp act.eval ⟨some d,.convert a b x,ty,pos,af,none⟩).run P w=.ok (.value (.slice (some ⟨w.heap.size,0,none⟩) (ByteArray.size ⟨c.toArray⟩) (grownCap w (ByteArray.size ⟨c.toArray⟩) 0 e))) (Lib.bytesWorld w e ⟨c.toArray⟩):=by
  simp only[execOp,hq];simp[S,hrun]
 simp only[Oper.wp,hev,Oper.upon]
 have hsz:ByteArray.size ⟨c.toArray⟩=c.length:=by simp[ByteArray.size]
 have hnew:=Lib.bytesWorld_at_new w e ⟨c.toArray⟩
 have hfl:((ofBytes c).flatMap λx=>[PV.sc (.int .u8 x)]).length=c.length:=by
  rw[iE (sz:=1) (λ_=>rfl)];simp[ofBytes]
 have hcl:(Lib.bytesCells w e ⟨c.toArray⟩).toList.take c.length=c.map λb=>Value.int .u8 b.toNat:=by
  simp[Lib.bytesCells]
 have hR':=hR.grown (vO w e ⟨c.toArray⟩) (Nat.le_refl _) hnew (ys:=(ofBytes c).flatMap λx=>[PV.sc (.int .u8 x)]) (by rw[hfl];simp[Lib.bytesCells]) (by rw[hfl,hcl];exact yB c)
 refine hK _ _ _ _ _ hn hR' ((hF.le (nn:=λ_=>False) (ki.Ie (hR.gl.EV (Nat.le_refl _))) λk q=>q.elim).put (mR hd) ?_)
 rw[hC]
 have hcap:(ofBytes c).length<=grownCap w (ByteArray.size ⟨c.toArray⟩) 0 e:=by
  have:(ofBytes c).length=ByteArray.size ⟨c.toArray⟩:=by simp[ofBytes,hsz]
  rw[this];exact grownCap_ge _ _ _ _
 have e2:ByteArray.size ⟨c.toArray⟩=(ofBytes c).length:=by simp[ofBytes,hsz]
 rw[e2] at hcap ⊢
 exact .pv (.sl w.heap.size ((ofBytes c).flatMap λx=>[PV.sc (.int .u8 x)]) 0 (ofBytes c).length _ _ (by simp[Gh.dE]) (by simp) (by rw[List.drop_zero,List.take_length]) hcap)
def Oi (e:Int):AV:=match e with
 | .ofNat 0=>Sc .nilIface
 | e=>.mI 213 (I e)
theorem EW {q:Nat->Bool} {T:TypeId} {b:Bool}:(Oe T b).only q=true:=by cases b<;>rfl
theorem GJ {f:Nat->Nat} {T:TypeId} {b:Bool}:(Oe T b).gZ f=Oe T b:=by cases b<;>rfl
theorem EX {q:Nat->Bool} {e:Int}:(Oi e).only q=true:=by unfold Oi;split<;>rfl
theorem CS {f:Nat->Nat} {e:Int}:(Oi e).gZ f=Oi e:=by unfold Oi;split<;>rfl
theorem GK {q:Nat->Bool} {v:AV} {e:Int} (h:v.only q=true):(AV.gU [v,Oi e]).only q=true:=by simp[AV.only,AV.only.ky,h,EX]
theorem Ja {f:Nat->Nat} {v:AV} {e:Int}:(AV.gU [v,Oi e]).gZ f=.gU [v.gZ f,Oi e]:=by simp[AV.gZ,AV.gZ.me,CS]
theorem CU {e:Int} (h:e≠0):Oi e=.mI 213 (I e):=by
 unfold Oi;split
 ·exact absurd rfl h
 rfl
theorem Jb {xt yt:TypeId} {x:Operand} {e:Int} [ht:Dq P xt] (hx:bR l x=some (Oi e)):jr P (.binOp .neq xt x (.const .nilIface) yt) l ds s (Bo (e !=0)) []:=by
 by_cases h:e=0
 ·subst h;exact vo hx
 rw[CU h] at hx;have:(e !=0)=true:=by simpa using h
 rw[this];exact vn hx rfl
end
end Go.Abs
end
section
namespace Go.Abs
def KQ (x:Int):List PV:=[.sc (.int .u8 x)]
def uc (l:List Int):List PV:=l.flatMap KQ
theorem ot (x:Int):(KQ x).length=1:=rfl
theorem wA (x:Int):PV.jK (KQ x)=true:=rfl
theorem lp (l:List Int):uc l=l.flatMap KQ:=rfl
def EY (x:Bool):List PV:=[.sc (.bool x)]
def xb (l:List Bool):List PV:=l.flatMap EY
theorem Du (x:Bool):(EY x).length=1:=rfl
theorem bE (l:List Bool):xb l=l.flatMap EY:=rfl
def GM (x:ByS):List PV:=[.sc (S x)]
def cn (l:List ByS):List PV:=l.flatMap GM
theorem iU (x:ByS):(GM x).length=1:=rfl
theorem sG (x:ByS):PV.jK (GM x)=true:=rfl
theorem ga (l:List ByS):cn l=l.flatMap GM:=rfl
mutual
inductive ak where
 | mk (Kind:Int) (Text:ByS) (kl:Int) (bn:ByS) (bu:ByS) (bc:(List ak)) (Decls:(List aA)) (bT:(List ByS)) (Pos:Int)
inductive aA where
 | mk (Kind:Int) (cG:Int) (Label:ByS) (bn:ByS) (bu:ByS) (bc:(List ak)) (Body:(List aA)) (bT:(List ByS)) (kh:(List ByS)) (Trail:ByS) (Pos:Int)
end
def ak.Kind:ak->Int|.mk v _ _ _ _ _ _ _ _=>v
def ak.Text:ak->ByS|.mk _ v _ _ _ _ _ _ _=>v
def ak.kl:ak->Int|.mk _ _ v _ _ _ _ _ _=>v
def ak.bn:ak->ByS|.mk _ _ _ v _ _ _ _ _=>v
def ak.bu:ak->ByS|.mk _ _ _ _ v _ _ _ _=>v
def ak.bc:ak->(List ak)|.mk _ _ _ _ _ v _ _ _=>v
def ak.Decls:ak->(List aA)|.mk _ _ _ _ _ _ v _ _=>v
def ak.bT:ak->(List ByS)|.mk _ _ _ _ _ _ _ v _=>v
def ak.Pos:ak->Int|.mk _ _ _ _ _ _ _ _ v=>v
def aA.Kind:aA->Int|.mk v _ _ _ _ _ _ _ _ _ _=>v
def aA.cG:aA->Int|.mk _ v _ _ _ _ _ _ _ _ _=>v
def aA.Label:aA->ByS|.mk _ _ v _ _ _ _ _ _ _ _=>v
def aA.bn:aA->ByS|.mk _ _ _ v _ _ _ _ _ _ _=>v
def aA.bu:aA->ByS|.mk _ _ _ _ v _ _ _ _ _ _=>v
def aA.bc:aA->(List ak)|.mk _ _ _ _ _ v _ _ _ _ _=>v
def aA.Body:aA->(List aA)|.mk _ _ _ _ _ _ v _ _ _ _=>v
def aA.bT:aA->(List ByS)|.mk _ _ _ _ _ _ _ v _ _ _=>v
def aA.kh:aA->(List ByS)|.mk _ _ _ _ _ _ _ _ v _ _=>v
def aA.Trail:aA->ByS|.mk _ _ _ _ _ _ _ _ _ v _=>v
def aA.Pos:aA->Int|.mk _ _ _ _ _ _ _ _ _ _ v=>v
mutual
def ak.E:ak->List PV
 | .mk v0 v1 v2 v3 v4 v5 v6 v7 v8=>[.sc (.int .i64 v0),.sc (Go.Abs.S v1),.sc (.int .i64 v2),.sc (Go.Abs.S v3),.sc (Go.Abs.S v4),.sl v5.length (ak.Cs v5),.sl v6.length (aA.Cs v6),.sl v7.length (cn v7),.sc (.int .i64 v8)]
def ak.Cs:List ak->List PV
 | []=>[]
 | e::es=>e.E++ak.Cs es
def aA.E:aA->List PV
 | .mk v0 v1 v2 v3 v4 v5 v6 v7 v8 v9 v10=>[.sc (.int .i64 v0),.sc (.int .i64 v1),.sc (Go.Abs.S v2),.sc (Go.Abs.S v3),.sc (Go.Abs.S v4),.sl v5.length (ak.Cs v5),.sl v6.length (aA.Cs v6),.sl v7.length (cn v7),.sl v8.length (cn v8),.sc (Go.Abs.S v9),.sc (.int .i64 v10)]
def aA.Cs:List aA->List PV
 | []=>[]
 | e::es=>e.E++aA.Cs es
end
def ak.C (x:ak):List PV:=[.sc (.int .i64 x.Kind),.sc (Go.Abs.S x.Text),.sc (.int .i64 x.kl),.sc (Go.Abs.S x.bn),.sc (Go.Abs.S x.bu),.sl x.bc.length (ak.Cs x.bc),.sl x.Decls.length (aA.Cs x.Decls),.sl x.bT.length (cn x.bT),.sc (.int .i64 x.Pos)]
theorem ak.EZ (x:ak):x.E=x.C:=by cases x;rfl
theorem ak.y:∀ l:List ak,ak.Cs l=l.flatMap ak.C
 | []=>rfl
 | e::es=>by rw[List.flatMap_cons,<- ak.y es,<- e.EZ];rfl
theorem ak.bW (x:ak):(ak.C x).length=9:=rfl
theorem ak.ju (x:ak):PV.jK (ak.C x)=true:=rfl
def aA.C (x:aA):List PV:=[.sc (.int .i64 x.Kind),.sc (.int .i64 x.cG),.sc (Go.Abs.S x.Label),.sc (Go.Abs.S x.bn),.sc (Go.Abs.S x.bu),.sl x.bc.length (ak.Cs x.bc),.sl x.Body.length (aA.Cs x.Body),.sl x.bT.length (cn x.bT),.sl x.kh.length (cn x.kh),.sc (Go.Abs.S x.Trail),.sc (.int .i64 x.Pos)]
theorem aA.EZ (x:aA):x.E=x.C:=by cases x;rfl
theorem aA.y:∀ l:List aA,aA.Cs l=l.flatMap aA.C
 | []=>rfl
 | e::es=>by rw[List.flatMap_cons,<- aA.y es,<- e.EZ];rfl
theorem aA.bW (x:aA):(aA.C x).length=11:=rfl
theorem aA.ju (x:aA):PV.jK (aA.C x)=true:=rfl
mutual
inductive u where
 | mk (Kind:Int) (GO:Int) (GP:Int) (GQ:Int) (GS:Int) (bc:(List u))
end
def u.Kind:u->Int|.mk v _ _ _ _ _=>v
def u.GO:u->Int|.mk _ v _ _ _ _=>v
def u.GP:u->Int|.mk _ _ v _ _ _=>v
def u.GQ:u->Int|.mk _ _ _ v _ _=>v
def u.GS:u->Int|.mk _ _ _ _ v _=>v
def u.bc:u->(List u)|.mk _ _ _ _ _ v=>v
mutual
def u.E:u->List PV
 | .mk v0 v1 v2 v3 v4 v5=>[.sc (.int .i64 v0),.sc (.int .u64 v1),.sc (.int .u64 v2),.sc (.int .u64 v3),.sc (.int .u64 v4),.sl v5.length (u.Cs v5)]
def u.Cs:List u->List PV
 | []=>[]
 | e::es=>e.E++u.Cs es
end
def u.C (x:u):List PV:=[.sc (.int .i64 x.Kind),.sc (.int .u64 x.GO),.sc (.int .u64 x.GP),.sc (.int .u64 x.GQ),.sc (.int .u64 x.GS),.sl x.bc.length (u.Cs x.bc)]
theorem u.EZ (x:u):x.E=x.C:=by cases x;rfl
theorem u.y:∀ l:List u,u.Cs l=l.flatMap u.C
 | []=>rfl
 | e::es=>by rw[List.flatMap_cons,<- u.y es,<- e.EZ];rfl
theorem u.bW (x:u):(u.C x).length=6:=rfl
theorem u.ju (x:u):PV.jK (u.C x)=true:=rfl
structure bY where
 Name:ByS
 Path:ByS
 Pos:Int
def bY.C (x:bY):List PV:=[.sc (Go.Abs.S x.Name),.sc (Go.Abs.S x.Path),.sc (.int .i64 x.Pos)]
def bY.Cs (l:List bY):List PV:=l.flatMap bY.C
theorem bY.bW (x:bY):(bY.C x).length=3:=rfl
theorem bY.ju (x:bY):PV.jK (bY.C x)=true:=rfl
theorem bY.y (l:List bY):bY.Cs l=l.flatMap bY.C:=rfl
structure cu where
 cb:ByS
 bo:(List bY)
 Decls:(List aA)
 bT:(List ByS)
structure dz where
 Errno:Int
 At:Int
structure iq where
 x0:ByS
 x1:ByS
structure aB where
 Kind:Int
 Text:ByS
 Pos:Int
 End:Int
def aB.C (x:aB):List PV:=[.sc (.int .i64 x.Kind),.sc (Go.Abs.S x.Text),.sc (.int .i64 x.Pos),.sc (.int .i64 x.End)]
def aB.Cs (l:List aB):List PV:=l.flatMap aB.C
theorem aB.bW (x:aB):(aB.C x).length=4:=rfl
theorem aB.ju (x:aB):PV.jK (aB.C x)=true:=rfl
theorem aB.y (l:List aB):aB.Cs l=l.flatMap aB.C:=rfl
structure L where
 text:ByS
 bd:(List aB)
 at_:Int
 base:Int
 skip:Bool
 pending:(Option ak)
structure P where
 text:ByS
 at_:Int
 out:(List aB)
 line:Bool
structure iz where
 at_:Int
structure X where
 nu:Bool
 deep:Bool
structure aP where
 mn:Bool
 Jc:Bool
 xc:Bool
 level:Int
structure gb where
 x0:Int
 x1:Int
 x2:Int
 x3:Int
structure aS where
 Text:ByS
 Code:Bool
 Pos:Int
def aS.C (x:aS):List PV:=[.sc (Go.Abs.S x.Text),.sc (.bool x.Code),.sc (.int .i64 x.Pos)]
def aS.Cs (l:List aS):List PV:=l.flatMap aS.C
theorem aS.bW (x:aS):(aS.C x).length=3:=rfl
theorem aS.ju (x:aS):PV.jK (aS.C x)=true:=rfl
theorem aS.y (l:List aS):aS.Cs l=l.flatMap aS.C:=rfl
structure R where
 text:ByS
 at_:Int
def run (p:Nat->UInt8->Bool):Nat->ByS->Nat
 | _,[]=>0
 | i,b::u=>if p i b then 1+run p (i+1) u else 0
section
variable {p:Nat->UInt8->Bool}
theorem sH:∀ {u:ByS} {i:Nat},run p i u<=u.length
 | [],_=>by simp[run]
 | b::u,i=>by
  simp only[run];split
  ·have:=sH (u:=u) (i:=i+1);simp;omega
  simp
theorem ud:∀ {u:ByS} {i j:Nat},j<run p i u->∃ b,u[j]?=some b/\p (i+j) b=true
 | [],_,_,h=>by simp[run] at h
 | b::u,i,j,h=>by
  simp only[run] at h;split at h
  ·rename_i hb;cases j with
   | zero=>exact ⟨b,rfl,hb⟩
   | succ j=>
    obtain ⟨c,h1,h2⟩:=ud (u:=u) (i:=i+1) (j:=j) (by omega)
    exact ⟨c,by simpa using h1,by rw[<- h2];congr 1;omega⟩
  omega
theorem oT:∀ {u:ByS} {i:Nat} {b:UInt8},u[run p i u]?=some b->p (i+run p i u) b=false
 | [],_,_,h=>by simp at h
 | c::u,i,b,h=>by
  simp only[run] at h ⊢;split at h
  ·rename_i hb;rw[if_pos hb];rw[show 1+run p (i+1) u=run p (i+1) u+1 by omega] at h ⊢;have:=oT (u:=u) (i:=i+1) (b:=b) (by simpa using h);rw[<- this];congr 1;omega
  rename_i hb;rw[if_neg hb];simp at h;subst h;simpa using hb
theorem run_eq {u:ByS} {i n:Nat} (h1:∀ j,j<n->∃ b,u[j]?=some b/\p (i+j) b=true) (h2:∀ b,u[n]?=some b->p (i+n) b=false):run p i u=n:=by
 rcases Nat.lt_trichotomy (run p i u) n with h|h|h
 ·obtain ⟨b,h3,h4⟩:=h1 _ h;rw[oT h3] at h4;cases h4
 ·exact h
 obtain ⟨b,h3,h4⟩:=ud h;rw[h2 b h3] at h4;cases h4
end
def Bk (o:Option UInt8):Prop:=o=none\/o=some 32\/o=some 9\/o=some 10
def LA (r r':ByS):Prop:=∀ j:Nat,(∀ i:Nat,i<j->r'[i]?=r[i]?/\¬ Bk r'[i]?)->r'[j]?=r[j]?\/Bk r'[j]?
section
variable {p:Nat->UInt8->Bool} {c r r':ByS}
theorem vP {j:Nat} (h:j<c.length):(c++r')[j]?=(c++r)[j]?:=by
 rw[List.getElem?_append_left h,List.getElem?_append_left h]
theorem vQ:(c++r)[c.length]?=r[0]?:=by rw[List.getElem?_append_right (by omega)];simp
theorem E0:(c++r)[c.length+1]?=r[1]?:=by rw[List.getElem?_append_right (by omega)];simp
theorem LA.run (h:LA r r') (hp:∀ i,p i 32=false/\p i 9=false/\p i 10=false) {i:Nat} (hc:run p i (c++r)<=c.length):run p i (c++r')=run p i (c++r):=by
 refine run_eq (λj hj=>?_) λb hb=>?_
 ·obtain ⟨b,h1,h2⟩:=ud hj;exact ⟨b,by rw[vP (r:=r) (by omega)];exact h1,h2⟩
 rcases Nat.lt_or_ge (Go.Abs.run p i (c++r)) c.length with q|q
 ·rw[vP (r:=r) q] at hb;exact oT hb
 have e:Go.Abs.run p i (c++r)=c.length:=by omega
 rw[e,vQ] at hb;rw[e];rcases h 0 (λi hi=>absurd hi (Nat.not_lt_zero i)) with q|q|q|q|q
 ·rw[q] at hb;have:=oT (p:=p) (u:=c++r) (i:=i) (b:=b) (by rw[e,vQ];exact hb);rwa [e] at this
 ·rw[q] at hb;cases hb
 ·rw[q] at hb;cases hb;exact (hp _).1
 ·rw[q] at hb;cases hb;exact (hp _).2.1
 rw[q] at hb;cases hb;exact (hp _).2.2
end
def Gg (b:UInt8):Bool:=(decide (97<=b)&&decide (b<=122))||(decide (65<=b)&&decide (b<=90))||b==95
def xT (b:UInt8):Bool:=decide (48<=b)&&decide (b<=57)
def pW (i:Nat) (b:UInt8):Bool:=Gg b||(decide (0<i)&&xT b)||(decide (i=0)&&b==35)
def pD (_:Nat) (b:UInt8):Bool:=xT b
def pC (_:Nat) (b:UInt8):Bool:=b !=10
theorem Kk (i:Nat):pW i 32=false/\pW i 9=false/\pW i 10=false:=by
 refine ⟨?_,?_,?_⟩<;>(unfold pW;simp[show Gg 10=false by decide,show xT 10=false by decide,show Gg 32=false by decide,show Gg 9=false by decide,show xT 32=false by decide,show xT 9=false by decide])
theorem E1 (i:Nat):pD i 32=false/\pD i 9=false/\pD i 10=false:=⟨show xT 32=false by decide,show xT 9=false by decide,show xT 10=false by decide⟩
def mo (u:ByS):Nat:=
 if run pW 0 u=1/\(u[0]?=some 35\/u[0]?=some 95) then 0 else run pW 0 u
def tx (u:ByS) (a:Nat):Bool:=u[a]?==some 46&&(match u[a+1]? with|some d=>xT d|none=>false)
def xU (u:ByS):Nat:=
 if tx u (run pD 0 u)=true then run pD 0 u+1+run pD 0 (u.drop (run pD 0 u+1)) else run pD 0 u
def gJ:ByS->Option (Nat×Bool)
 | []=>none
 | [b]=>if b=34 then some (1,false) else none
 | b::d::u=>if b=34 then some (1,false) else if b=92 then (gJ u).map λx=>(x.1+2,x.2||d==40) else (gJ (d::u)).map λx=>(x.1+1,x.2)
def ops:List ByS:=[[95,124,95],[46,46,46],[61,61],[33,61],[60,61],[62,61],[61,126],[33,126],[38,38],[124,124],[95],[40],[41],[91],[93],[123],[125],[58],[44],[46],[63],[33],[42],[38],[124],[61],[60],[62],[43],[45],[47],[37]]
def DQ (u:ByS):ByS:=(ops.find? λo=>o.isPrefixOf u).getD []
def ext (u:ByS):Option (Nat×Nat):=
 if [47,47].isPrefixOf u=true then some (6,run pC 0 u) else
 if 0<mo u then some (1,mo u) else
 match u with
 | []=>none
 | c::w=>if xT c=true then some (2,xU u) else if c=34 then (gJ w).map λx=>(3,x.1+1) else if DQ u=[] then none else some (5,(DQ u).length)
section
variable {c r r':ByS}
theorem E2 {u:ByS}:mo u<=run pW 0 u:=by unfold mo;split<;>omega
theorem GU (h:LA r r') (h0:0<c.length) (hc:run pW 0 (c++r)<=c.length):mo (c++r')=mo (c++r):=by
 unfold mo;rw[h.run Kk hc,vP (r:=r) h0]
theorem E3 (h:LA r r') {a:Nat} (ha:a<=c.length) (hd:a+1<c.length\/tx (c++r) a=false):tx (c++r') a=tx (c++r) a:=by
 by_cases q:a+1<c.length
 ·unfold tx;rw[vP (r:=r) (by omega),vP (r:=r) q]
 have hd:tx (c++r) a=false:=hd.resolve_left q;rw[hd];cases e:tx (c++r') a with
 | false=>rfl
 | true=>
  exfalso
  have e2:=e
  unfold tx at e hd
  simp only[Bool.and_eq_true,beq_iff_eq] at e
  obtain ⟨e1,e3⟩:=e
  by_cases q2:a<c.length
  ·have e4:a+1=c.length:=by omega
   rw[vP (r:=r) q2] at e1;rw[e1,e4,vQ] at hd;rw[e4,vQ] at e3;rcases h 0 (λi hi=>absurd hi (Nat.not_lt_zero i)) with w|w|w|w|w
   ·rw[w] at e3;simp[e3] at hd
   ·rw[w] at e3;cases e3
   all_goals (rw[w] at e3;revert e3;decide)
  ·have e4:a=c.length:=by omega
   subst e4;rw[vQ] at e1;rw[E0] at e3;have w0:r'[0]?=r[0]?:=by
    rcases h 0 (λi hi=>absurd hi (Nat.not_lt_zero i)) with w|w|w|w|w
    ·exact w
    all_goals (rw[w] at e1;cases e1)
   rw[vQ,E0,<- w0,e1] at hd;rcases h 1 (λi hi=>by
    obtain rfl:i=0:=by omega
    exact ⟨w0,by rw[e1];simp[Bk]⟩) with w|w|w|w|w
   ·rw[w] at e3;simp[e3] at hd
   ·rw[w] at e3;cases e3
   all_goals (rw[w] at e3;revert e3;decide)
theorem Jd (h:LA r r') (hc:xU (c++r)=c.length):xU (c++r')=c.length:=by
 unfold xU at hc ⊢;split at hc
 ·rename_i hd;have e1:=h.run (p:=pD) (i:=0) (c:=c) E1 (by omega);have e2:=E3 h (c:=c) (a:=run pD 0 (c++r)) (by omega) (by
   have:(c++r)[run pD 0 (c++r)+1]?≠none:=by
    intro q;unfold tx at hd;rw[q] at hd;simp at hd
   by_cases w:run pD 0 (c++r)+1<c.length
   ·exact .inl w
   exfalso;have e3:run pD 0 ((c++r).drop (run pD 0 (c++r)+1))=0:=by omega
   have hd2:(match (c++r)[run pD 0 (c++r)+1]? with|some d=>xT d|none=>false)=true:=by
    unfold tx at hd;simp only[Bool.and_eq_true] at hd;exact hd.2
   cases e4:(c++r)[run pD 0 (c++r)+1]? with
   | none=>exact this e4
   | some d=>
    rw[e4] at hd2
    have:=oT (p:=pD) (i:=0) (u:=(c++r).drop (run pD 0 (c++r)+1)) (b:=d) (by rw[e3,List.getElem?_drop];exact e4)
    simp[pD,hd2] at this)
  rw[e1,if_pos (e2.trans hd)];generalize ha:run pD 0 (c++r)=a at hc;rw[List.drop_append_of_le_length (by omega)] at hc ⊢;have:=h.run (p:=pD) (i:=0) (c:=c.drop (a+1)) E1 (by simp;omega);omega
 rename_i hd;have e1:=h.run (p:=pD) (i:=0) (c:=c) E1 (by omega);have e2:=E3 h (c:=c) (a:=run pD 0 (c++r)) (by omega) (.inr (by simpa using hd));rw[e1,e2,if_neg hd,hc]
theorem BT:∀ {u:ByS} {x:Nat×Bool},gJ u=some x->x.1<=u.length
 | [],_,h=>by cases h
 | [b],x,h=>by
  simp only[gJ] at h;split at h
  ·cases h;simp
  cases h
 | b::d::u,x,h=>by
  simp only[gJ] at h;split at h
  ·cases h;simp
  split at h
  ·cases e:gJ u with
   | none=>rw[e] at h;cases h
   | some y=>rw[e] at h;cases h;have:=BT e;simp;omega
  cases e:gJ (d::u) with
  | none=>rw[e] at h;cases h
  | some y=>rw[e] at h;cases h;have:=BT e;simp at this ⊢;omega
theorem CV {u:ByS} {x:Nat×Bool} (h:gJ u=some x):0<x.1:=by
 match u,h with
 | [],h=>cases h
 | [b],h=>
  simp only[gJ] at h
  split at h
  ·cases h;simp
  ·cases h
 | b::d::u,h=>
  simp only[gJ] at h
  split at h
  ·cases h;simp
  split at h
  ·cases e:gJ u with
   | none=>rw[e] at h;cases h
   | some y=>rw[e] at h;cases h;simp
  ·cases e:gJ (d::u) with
   | none=>rw[e] at h;cases h
   | some y=>rw[e] at h;cases h;simp
theorem BU {r r':ByS}:∀ {c:ByS} {b:Bool},gJ (c++r)=some (c.length,b)->gJ (c++r')=some (c.length,b)
 | [],b,h=>absurd (CV h) (Nat.lt_irrefl 0)
 | [a],b,h=>by
  cases r with
  | nil=>
   simp only[List.append_nil,gJ] at h
   split at h
   ·rename_i q;cases h;subst q;cases r'<;>simp[gJ]
   ·cases h
  | cons d w=>
   simp only[List.cons_append,List.nil_append,gJ] at h
   split at h
   ·rename_i q;cases h;subst q;cases r'<;>simp[gJ]
   split at h
   ·cases e:gJ w with
    | none=>rw[e] at h;cases h
    | some y=>rw[e] at h;simp at h
   ·cases e:gJ (d::w) with
    | none=>rw[e] at h;cases h
    | some y=>rw[e] at h;simp at h;have:=CV e;omega
 | a::d::c,b,h=>by
  simp only[List.cons_append,gJ] at h ⊢;split at h
  ·simp at h
  rename_i q;rw[if_neg q];split at h
  ·rename_i q2;rw[if_pos q2];cases e:gJ (c++r) with
   | none=>rw[e] at h;cases h
   | some y=>
    rw[e] at h;simp at h
    obtain ⟨h1,h2⟩:=h
    have e3:y=(c.length,y.2):=by rw[<- h1]
    rw[e3] at e
    rw[BU e];simp[h2]
  rename_i q2;rw[if_neg q2];cases e:gJ (d::(c++r)) with
  | none=>rw[e] at h;cases h
  | some y=>
   rw[e] at h;simp at h
   obtain ⟨h1,h2⟩:=h
   have e3:y=((d::c).length,y.2):=by rw[List.length_cons,<- h1]
   rw[e3] at e
   have:=BU (r':=r') (c:=d::c) e
   rw[List.cons_append] at this
   rw[this];simp[h2]
theorem tm:∀ {o u:ByS},o.isPrefixOf u=true↔∀ i,i<o.length->u[i]?=o[i]?
 | [],u=>by simp
 | a::o,[]=>by
  simp only[List.isPrefixOf,Bool.false_eq_true,false_iff];intro h;have:=h 0 (by simp);simp at this
 | a::o,b::u=>by
  rw[List.isPrefixOf_cons_cons,Bool.and_eq_true,tm];constructor
  ·rintro ⟨h1,h2⟩ i hi;cases i with
   | zero=>simp at h1;simp[h1]
   | succ i=>simpa using h2 i (by simpa using hi)
  intro h;refine ⟨by have:=h 0 (by simp);simp at this;simp[this],λi hi=>by simpa using h (i+1) (by simpa using hi)⟩
theorem E4 (h:LA r r') {o:ByS} (hb:∀ i:Nat,¬ (o[i]?=some 32\/o[i]?=some 9\/o[i]?=some 10)) (ho:o.isPrefixOf (c++r')=true):o.isPrefixOf (c++r)=true:=by
 rw[tm] at ho ⊢;have key:∀ j,c.length+j<o.length->r'[j]?=r[j]?/\¬ Bk r'[j]?:=by
  intro j
  induction j using Nat.strongRecOn with
  | _ j ih=>
   intro hj
   have h1:=ho (c.length+j) hj
   rw[List.getElem?_append_right (by omega),show c.length+j - c.length=j by omega] at h1
   have h2:¬ Bk r'[j]?:=by
    rw[h1];rintro (q|q)
    ·rw[List.getElem?_eq_getElem hj] at q;cases q
    exact hb _ q
   exact ⟨(h j λi hi=>ih i hi (by omega)).resolve_right h2,h2⟩
 intro i hi;rw[<- ho i hi];by_cases q:i<c.length
 ·rw[vP q]
 rw[List.getElem?_append_right (by omega),List.getElem?_append_right (by omega)];exact (key _ (by omega)).1.symm
theorem If {o:ByS} (hl:o.length<=c.length) (r r':ByS):o.isPrefixOf (c++r)=o.isPrefixOf (c++r'):=by
 rw[Bool.eq_iff_iff,tm,tm];constructor<;>intro h i hi<;>rw[<- h i hi]<;>exact vP (by omega)
theorem CW {f g:ByS->Bool} {n:Nat}:∀ {l:List ByS} {o:ByS},l.find? f=some o->(∀ p,p∈l->g p=true->f p=true)->g o=true->l.find? g=some o
 | [],_,h,_,_=>by cases h
 | a::l,o,h,hg,ho=>by
  simp only[List.find?] at h ⊢;cases e:f a with
  | true=>rw[e] at h;cases h;rw[ho]
  | false=>
   rw[e] at h
   have:g a=false:=by
    cases e2:g a with
    | false=>rfl
    | true=>rw[hg a (by simp) e2] at e;cases e
   rw[this]
   exact CW (n:=n) h (λp hp=>hg p (by simp[hp])) ho
theorem Kl {o:ByS} (h:o∈ops) (i:Nat):¬ (o[i]?=some 32\/o[i]?=some 9\/o[i]?=some 10):=by
 have:∀ o∈ops,∀ b∈o,¬ (b=32\/b=9\/b=10):=by decide
 rintro (q|q|q)
 ·exact this o h _ (List.mem_of_getElem? q) (.inl rfl)
 ·exact this o h _ (List.mem_of_getElem? q) (.inr (.inl rfl))
 exact this o h _ (List.mem_of_getElem? q) (.inr (.inr rfl))
theorem Km (h:LA r r') (hn:DQ (c++r)≠[]) (hc:(DQ (c++r)).length=c.length):DQ (c++r')=DQ (c++r):=by
 unfold DQ at hn hc ⊢;cases e:ops.find? λo=>o.isPrefixOf (c++r) with
 | none=>rw[e] at hn;exact absurd rfl hn
 | some o=>
  rw[e] at hc
  simp only[Option.getD_some] at hc ⊢
  rw[CW (n:=0) (g:=λo=>o.isPrefixOf (c++r')) e (λp hp hq=>E4 h (Kl hp) hq) ?_]
  ·rfl
  ·have:=List.find?_some e;rw[If (by omega) r' r];exact this
end
theorem GV {u:ByS} {n:Nat} (h:ext u=some (6,n)):n=run pC 0 u:=by
 unfold ext at h;split at h
 ·simp at h;exact h.symm
 split at h
 ·simp at h
 split at h
 ·cases h
 split at h
 ·simp at h
 split at h
 ·simp at h
 split at h<;>simp at h
end Go.Abs
end
section
namespace Go.Abs
open al
def di (m:Nat->Nat):Prop:=∀ N,∃ M,∀ i,M<=i->N<=m i
theorem di.id:di λi=>i:=λN=>⟨N,λ_ h=>h⟩
theorem di.pred {m:Nat->Nat} (h:di m):di λi=>m i - 1:=λN=>
 let ⟨M,hM⟩:=h (N+1);⟨M,λi hi=>by have:=hM i hi;show N<=m i - 1;omega⟩
def al.sat {α:Type} (r:al α) (Q:α->Prop) (R:rW->Prop):Prop:=match r with
 | .stuck=>False
 | .ok a=>Q a
 | .kA p=>R p
def Ev {α:Type} (F:Nat->al α) (Q:α->Prop) (R:rW->Prop):Prop:=∃ r:al α,r.sat Q R/\∃ N,∀ i,N<=i->F i=r
section
variable {α β X:Type} {Q Q':α->Prop} {R R':rW->Prop} {Qb:β->Prop}
theorem Ev.ok {a:α} (h:Q a):Ev (λ_=>.ok a) Q R:=⟨.ok a,h,0,λ_ _=>rfl⟩
theorem Ev.kA {p:rW} (h:R p):Ev (λ_=>(.kA p:al α)) Q R:=⟨.kA p,h,0,λ_ _=>rfl⟩
theorem Ev.mono {F:Nat->al α} (h:Ev F Q' R') (hq:∀ a,Q' a->Q a) (hr:∀ p,R' p->R p):Ev F Q R:=by
 obtain ⟨r,h1,h2⟩:=h;refine ⟨r,?_,h2⟩;cases r with
 | stuck=>exact h1
 | ok a=>exact hq a h1
 | kA p=>exact hr p h1
theorem Ev.Ig {F:Nat->al α} (h:Ev F Q' R) (hq:∀ a,Q' a->Q a):Ev F Q R:=h.mono hq λ_ q=>q
theorem Ev.bind {F:Nat->al α} {K:Nat->α->al β} (h:Ev F Q R') (hr:∀ p,R' p->R p) (hk:∀ a,Q a->Ev (λi=>K i a) Qb R):Ev (λi=>al.bind (F i) (K i)) Qb R:=by
 obtain ⟨r,h1,N,hN⟩:=h;cases r with
 | stuck=>exact h1.elim
 | ok a=>
  obtain ⟨r',h2,M,hM⟩:=hk a h1
  exact ⟨r',h2,N+M,λi hi=>by dsimp only;rw[hN i (by omega)];exact hM i (by omega)⟩
 | kA p=>exact ⟨.kA p,hr p h1,N,λi hi=>by dsimp only;rw[hN i hi];rfl⟩
theorem Ev.aQ {F:Nat->al α} {K:Nat->α->al β} (h:Ev F Q R) (hk:∀ a,Q a->Ev (λi=>K i a) Qb R):Ev (λi=>al.bind (F i) (K i)) Qb R:=Ev.bind h (λ_ q=>q) hk
theorem Ev.pw {x:al α} {a:α} {K:Nat->α->al β} (h:x=.ok a) (hk:Ev (λi=>K i a) Qb R):Ev (λi=>al.bind x (K i)) Qb R:=by
 subst h;exact hk
theorem Ev.br {b:Bool} {F G:Nat->al α} (ht:b=true->Ev F Q R) (hf:b=false->Ev G Q R):Ev (λi=>al.br b (F i) (G i)) Q R:=by
 cases b with
 | true=>exact ht rfl
 | false=>exact hf rfl
theorem Ev.gd {p:Prop} [Decidable p] {F:Nat->al α} (hp:p) (h:Ev F Q R):Ev (λi=>al.gd p (F i)) Q R:=by
 have:(λi=>al.gd p (F i))=F:=by funext i;simp[al.gd,hp]
 rw[this];exact h
theorem Ev.el {l:List X} {j:Int} {K:Nat->X->al α} (h0:0<=j) (h1:j<l.length) (h:∀ x,l[j.toNat]?=some x->Ev (λi=>K i x) Q R):Ev (λi=>al.el l j (K i)) Q R:=by
 have h2:j.toNat<l.length:=by omega
 have:=h _ (List.getElem?_eq_getElem h2);have he:(λi=>al.el l j (K i))=λi=>K i l[j.toNat]:=by funext i;simp[al.el,h0,List.getElem?_eq_getElem h2]
 rw[he];exact this
theorem Ev.JV {l:List X} {j:Int} {K:Nat->X->al α} {x:X} (h0:0<=j) (hx:l[j.toNat]?=some x) (h:Ev (λi=>K i x) Q R):Ev (λi=>al.el l j (K i)) Q R:=by
 have he:(λi=>al.el l j (K i))=λi=>K i x:=by funext i;simp[al.el,h0,hx]
 rw[he];exact h
theorem Ev.some {o:Option X} {x:X} {K:Nat->X->al α} (hx:o=some x) (h:Ev (λi=>K i x) Q R):Ev (λi=>al.some? o (K i)) Q R:=by subst hx;exact h
theorem Ev.jn {j:Nat->X->al α} {p:Nat->(X->al α)->al α} (J:X->Prop) (hj:∀ v,J v->Ev (λi=>j i v) Q R)
 (hp:∀ j:Nat->X->al α,(∀ v,J v->Ev (λi=>j i v) Q R)->Ev (λi=>p i (j i)) Q R):Ev (λi=>al.jn (j i) (p i)) Q R:=hp j hj
theorem Ev.grow {F:Nat->al α} {m:Nat->Nat} (hm:di m) (h:∀ m',di m'->Ev (λi=>F (m' i+1)) Q R):Ev (λi=>F (m i)) Q R:=by
 obtain ⟨r,h1,N,hN⟩:=h _ hm.pred;obtain ⟨M,hM⟩:=hm 1;refine ⟨r,h1,N+M,λi hi=>?_⟩;have:=hN i (by omega);have h2:=hM i (by omega);simp only[Nat.sub_add_cancel h2] at this;exact this
theorem Ev.iter {body:Nat->(X->al α)->X->al α} {m:Nat->Nat} (hm:di m) (I:X->Prop) (f:X->Nat) {x:X} (h0:I x)
  (hb:∀ x,I x->∀ next:Nat->X->al α,(∀ y,I y->f y<f x->Ev (λi=>next i y) Q R)->Ev (λi=>body i (next i) x) Q R) :
  Ev (λi=>al.iter (body i) (m i) x) Q R:=by
 have key:∀ (k:Nat) (x:X) (m:Nat->Nat),di m->I x->f x<k->Ev (λi=>al.iter (body i) (m i) x) Q R:=by
  intro k
  induction k with
  | zero=>intro x m _ _ h;exact absurd h (Nat.not_lt_zero _)
  | succ k ih=>
   intro x m hm hx hk
   obtain ⟨r,h1,N,hN⟩:=hb x hx (λi=>al.iter (body i) (m i - 1)) λy hy hlt=>ih y _ hm.pred hy (by omega)
   obtain ⟨M,hM⟩:=hm 1
   refine ⟨r,h1,N+M,λi hi=>?_⟩
   have h2:=hM i (by omega)
   rw[<- hN i (by omega)]
   obtain ⟨q,hq⟩:∃ q,m i=q+1:=⟨m i - 1,by omega⟩
   simp only[hq];rfl
 exact key _ x m hm h0 (Nat.lt_succ_self _)
theorem Ev.A7 {F:Nat->al α} {H:Nat->rW->al α} (h:Ev F Q R') (hh:∀ p,R' p->Ev (λi=>H i p) Q R):Ev (λi=>ko (F i) (H i)) Q R:=by
 obtain ⟨r,h1,N,hN⟩:=h;cases r with
 | stuck=>exact h1.elim
 | ok a=>exact ⟨.ok a,h1,N,λi hi=>by dsimp only;rw[hN i hi];rfl⟩
 | kA p=>
  obtain ⟨r',h2,M,hM⟩:=hh p h1
  exact ⟨r',h2,N+M,λi hi=>by dsimp only;rw[hN i (by omega)];exact hM i (by omega)⟩
theorem Ev.sC {T:TypeId} {v:Int} {K:Nat->Int->al α} (h:Ev (λi=>K i v) Q R):Ev (λi=>Go.Abs.sC T ⟨T,[.sc (.int .i64 v)]⟩ (K i)) Q R:=by
 have:(λi=>Go.Abs.sC T ⟨T,[.sc (.int .i64 v)]⟩ (K i))=λi=>K i v:=by funext i;simp[Go.Abs.sC]
 rw[this];exact h
theorem Ev.get {F:Nat->al α} (h:Ev F Q λ_=>False):∃ a,Q a/\∃ N,∀ i,N<=i->F i=.ok a:=by
 obtain ⟨r,h1,h2⟩:=h;cases r with
 | stuck=>exact h1.elim
 | ok a=>exact ⟨a,h1,h2⟩
 | kA p=>exact h1.elim
end
def l8:ByS->ByS->Option Nat
 | [],sub=>if sub.isEmpty then some 0 else none
 | b::l,sub=>if sub.isPrefixOf (b::l) then some 0 else match l8 l sub with|some i=>some (i+1)|none=>none
def nQ (sep:ByS):Nat->ByS->List ByS
 | 0,s=>[s]
 | k+1,s=>match l8 s sep with|none=>[s]|some i=>s.take i::nQ sep k (s.drop (i+sep.length))
def xV:Nat->Nat->ByS
 | 0,_=>[]
 | f+1,u=>if u<10 then [UInt8.ofNat (48+u)] else xV f (u / 10)++[UInt8.ofNat (48+u % 10)]
def strings_Contains (a b:ByS):al Bool:=gd (a.length<4294967281) (.ok (l8 a b).isSome)
def strings_Split (a b:ByS):al (List ByS):=gd (1<=b.length/\a.length<4294967281) (.ok (nQ b (a.length+1) a))
def strings_LastIndex (a b:ByS):al Int:=gd (a.length<4611686018427387904) (.ok (Lib.lastIndex a b))
def strings_Cut (a b:ByS):al (ByS×ByS×Bool):=
 gd (a.length<4294967281) (.ok (match l8 a b with|some i=>(a.take i,a.drop (i+b.length),true)|none=>(a,[],false)))
def strings_IndexByte (a:ByS) (b:Int):al Int:=.ok (match a.findIdx? (·==UInt8.ofNat b.toNat) with|some i=>(i:Int)|none=>-1)
def jd (a b:Int):al ByS:=gd (b=10/\0<=a/\a<18446744073709551616) (.ok (xV 20 a.toNat))
def mU (a:ByS) (b c:Int):al (Int×Bool):=
 gd (b=10/\c=64/\a.length<=281474976710656) (.ok (match Lib.parseIntB 64 a with|.ok v=>(v,false)|Lib.NumEnd.syntax=>(0,true)|.range=>(Lib.intSat 64 a,true)))
def nR (_ s:ByS) (_ _ e:Int):al Bool:=gd ((e=1\/e=2)/\s.length<=281474976710656) (.ok true)
section
variable {α β X:Type} {Q Q':α->Prop} {R R':rW->Prop} {F G:Nat->al α}
theorem Ev.gA {p:Prop} [Decidable p] (h:Ev F Q R) (hp:p:=by first|omega|(simp[dY,lz,rN,maxLen]<;>omega)):Ev (λi=>al.gd p (F i)) Q R:=Ev.gd hp h
theorem Ev.eA {l:List X} {j:Int} {K:Nat->X->al α} (hk:∀ x,l[j.toNat]?=Option.some x->Ev (λi=>K i x) Q R) (h:0<=j/\j<l.length:=by first|omega|(simp[dY,lz,rN,maxLen]<;>omega)):Ev (λi=>al.el l j (K i)) Q R:=Ev.el h.1 h.2 hk
theorem Ev.aW {p:Prop} [Decidable p] (ht:p->Ev F Q R) (hf:¬ p->Ev G Q R):Ev (λi=>al.br (decide p) (F i) (G i)) Q R:=
 Ev.br (λh=>ht (of_decide_eq_true h)) (λh=>hf (of_decide_eq_false h))
theorem Ev.bH [BEq β] [LawfulBEq β] {a b:β} (ht:a=b->Ev F Q R) (hf:a≠b->Ev G Q R):Ev (λi=>al.br (a==b) (F i) (G i)) Q R:=
 Ev.br (λh=>ht (beq_iff_eq.1 h)) (λh=>hf λe=>by subst e;simp at h)
theorem Ev.bU [BEq β] [LawfulBEq β] {a b:β} (ht:a≠b->Ev F Q R) (hf:a=b->Ev G Q R):Ev (λi=>al.br (a !=b) (F i) (G i)) Q R:=
 Ev.br (λh=>ht λe=>by subst e;simp at h) (λh=>hf (by simpa using h))
theorem Ev.bz {b:Bool} (ht:b=false->Ev F Q R) (hf:b=true->Ev G Q R):Ev (λi=>al.br (!b) (F i) (G i)) Q R:=
 Ev.br (λh=>ht (by simpa using h)) (λh=>hf (by simpa using h))
theorem Ev.de (h:Ev F Q R):Ev (λi=>al.br true (F i) (G i)) Q R:=h
theorem Ev.cR (h:Ev G Q R):Ev (λi=>al.br false (F i) (G i)) Q R:=h
theorem Ev.lk {j:Nat->X->al α} {p:Nat->(X->al α)->al α} (h:Ev (λi=>p i (j i)) Q R):Ev (λi=>al.jn (j i) (p i)) Q R:=h
theorem Ev.fX {F:Nat->al α} {K:Nat->α->al β} {Qb:β->Prop} (h:Ev F Q λ_=>False) (hk:∀ a,Q a->Ev (λi=>K i a) Qb R):Ev (λi=>al.bind (F i) (K i)) Qb R:=
 Ev.bind h (λ_ q=>q.elim) hk
end
theorem tp {c:ByS} {i j:Int} (h0:0<=i) (h1:i<=j) (h2:j<=c.length):((sub c i j).length:Int)=j - i:=by
 simp only[sub,List.length_take,List.length_drop];omega
theorem lq {c:ByS} {i:Int} (h0:0<=i) (h1:i<=c.length):((dI c i).length:Int)=c.length - i:=by
 simp only[dI,List.length_drop];omega
theorem yC {c:ByS} {j:Int} (h0:0<=j) (h1:j<=c.length):((kB c j).length:Int)=j:=by
 simp only[kB,List.length_take];omega
theorem xd {c:ByS} {j:Int}:(kB c j).length<=c.length:=by simp only[kB,List.length_take];omega
theorem xe (sep:ByS):∀ (k:Nat) (s:ByS),(nQ sep k s).length<=k+1
 | 0,_=>by simp[nQ]
 | k+1,s=>by
  unfold nQ;split
  ·simp
  have:=xe sep k (s.drop (by assumption+sep.length));simp;omega
theorem A8:∀ (f u:Nat),(xV f u).length<=f
 | 0,_=>by simp[xV]
 | f+1,u=>by
  unfold xV;split
  ·simp
  have:=A8 f (u / 10);simp;omega
theorem E5 (f u:Nat):1<=(xV (f+1) u).length:=by
 unfold xV;split
 ·simp
 simp
theorem wrap_u64 (x:Int):0<=IntKind.wrap .u64 x/\IntKind.wrap .u64 x<18446744073709551616:=by
 have:IntKind.wrap .u64 x=x % 18446744073709551616:=by simp[IntKind.wrap,IntKind.bits,IntKind.signed]
 rw[this];omega
end Go.Abs
end
