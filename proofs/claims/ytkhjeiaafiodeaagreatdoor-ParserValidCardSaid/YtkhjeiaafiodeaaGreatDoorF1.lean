/- PROVED: lemmas of the proof of: valid_card. CONDITIONS: as each lemma states. -/
import Derived.Test.YtkhjeiaafiodeaaGreatDoorF0
import Derived.Recover
import Derived.Laws.BytesArg
import Derived.Laws.StructEq
import Derived.Below
import Derived.Lib.ConvBytes
import Derived.Lib.IndexMore
import Derived.Lib.LastIndexLaws
import Derived.Lib.ParseIntB
set_option linter.all false
section
namespace Go.Abs
def qU (l:List (Nat×AV)):List Operand->Option (List AV)
 | []=>some []
 | x::xs=>match bj l x,qU l xs with
  | some v,some vs=>some (v::vs)
  | _,_=>none
theorem nb {l:List (Nat×AV)} {ds:List (FuncId×List AV)}:∀ {xs:List Operand} {vs:List AV},qU l xs=some vs->xs.map (bL l ds).val=vs
 | [],_,h=>by simp[qU] at h;simp[h]
 | x::xs,vs,h=>by
  simp only[qU] at h;split at h
  ·rename_i v vs' hv hvs;cases h;simp[N hv,nb hvs]
  cases h
mutual
theorem rE {π:Nat->Nat}:∀ {v:AV},v.only (λ_=>false)=true->v.hQ π=v
 | .any,_=>rfl
 | .oc,_=>rfl
 | .pv _,_=>rfl
 | .ptr _ _,h=>by simp[AV.only] at h
 | .arr _ _,h=>by simp[AV.only] at h
 | .sp _,_=>rfl
 | .fn f xs ys,h=>by simp only[AV.only,Bool.and_eq_true] at h;simp only[AV.hQ,rF h.1,rF h.2]
 | .agg cs,h=>by simp only[AV.only] at h;simp only[AV.hQ,rF h]
 | .gZ cs,h=>by simp only[AV.only] at h;simp only[AV.hQ,rF h]
 | .ny t v,h=>by simp only[AV.only] at h;simp only[AV.hQ,rE h]
theorem rF {π:Nat->Nat}:∀ {v:List AV},AV.only.lu (λ_=>false) v=true->AV.hQ.mE π v=v
 | [],_=>rfl
 | x::xs,h=>by simp only[AV.only.lu,Bool.and_eq_true] at h;simp only[AV.hQ.mE,rE h.1,rF h.2]
end
theorem oA {a b:Nat}:Nat.blt a b=true↔a<b:=by rw[Nat.blt_eq]
def eX:Nat->List bh->List (Nat×bh)
 | _,[]=>[]
 | i,e::es=>(i,e)::eX (i+1) es
def lX:List Nat->List bh->List (Nat×bh)
 | k::ks,e::es=>(k,e)::lX ks es
 | _,_=>[]
def rG (s:List (Nat×bh)):List Nat->Option (List bh)
 | []=>some []
 | k::ks=>match dq s k,rG s ks with
  | some e,some es=>some (e::es)
  | _,_=>none
def nodupB:List Nat->Bool
 | []=>true
 | k::ks=>!ks.any (Nat.beq k)&&nodupB ks
def kr (π:Nat->Nat):List bh->List bh
 | []=>[]
 | e::es=>e.hQ π::kr π es
def bh.oq (p:Nat->Bool):bh->Bool
 | .app _ _ _=>true
 | .box cs=>AV.only.lu p cs
 | .arr _ _ _=>true
theorem uZ (p:Nat->Bool):∀ l:List PV,AV.only.lu p (l.map .pv)=true
 | []=>rfl
 | x::l=>by simp[AV.only.lu,AV.only,uZ p l]
theorem bh.Iv {p:Nat->Bool}:∀ {e:bh},e.oq p=true->AV.only.lu p e.cells=true
 | .app _ _ c,_=>uZ p c
 | .box _,h=>h
 | .arr _ _ c,_=>uZ p c
def kf (p:Nat->Bool):List bh->Bool
 | []=>true
 | e::es=>e.oq p&&kf p es
def nth:List Nat->Nat->Nat
 | [],_=>0
 | k::_,0=>k
 | _::ks,j+1=>nth ks j
def below (m:Nat):Nat->Bool:=λj=>Nat.blt j m
theorem fX:∀ {es:List bh} {i j:Nat} {e:bh},bn (eX i es) j=some e->i<=j/\es[j - i]?=some e
 | [],_,_,_,h=>by cases h
 | a::es,i,j,e,h=>by
  simp only[eX,bn,lI] at h;split at h
  ·rename_i q;cases h;subst q;simp
  rename_i q;obtain ⟨h1,h2⟩:=fX (es:=es) (i:=i+1) h;refine ⟨by omega,?_⟩;rw[show j - i=(j - (i+1))+1 by omega];simpa using h2
theorem oM {es:List bh}:∀ {i j:Nat} {e:bh},es[j]?=some e->bn (eX i es) (i+j)=some e:=by
 induction es with
 | nil=>intro i j e h;simp at h
 | cons a es ih=>
  intro i j e h
  cases j with
  | zero=>simp at h;simp[eX,bn,lI,h]
  | succ j=>
   have:=ih (i:=i+1) (j:=j) (by simpa using h)
   simp only[bn] at this
   simp only[eX,bn,lI]
   rw[if_neg (by omega),show i+(j+1)=i+1+j by omega];exact this
theorem pG:∀ {ks:List Nat},nodupB ks=true->∀ {i j:Nat},i<ks.length->j<ks.length->nth ks i=nth ks j->i=j:=by
 have mem:∀ {ks:List Nat} {j:Nat},j<ks.length->nth ks j∈ks:=by
  intro ks
  induction ks with
  | nil=>intro j h;simp at h
  | cons k ks ih=>
   intro j h
   cases j with
   | zero=>simp[nth]
   | succ j=>simp only[nth];exact List.mem_cons_of_mem _ (ih (by simpa using h))
 intro ks
 induction ks with
 | nil=>intro _ i j h;simp at h
 | cons k ks ih=>
  intro h i j hi hj he
  simp only[nodupB,Bool.and_eq_true,Bool.not_eq_true'] at h
  have hk:∀ j,j<ks.length->nth ks j≠k:=λj hj q=>by
   have h1:=mem hj;rw[q] at h1;have:ks.any (Nat.beq k)=true:=List.any_eq_true.2 ⟨k,h1,by simp⟩;rw[h.1] at this;cases this
  cases i with
  | zero=>
   cases j with
   | zero=>rfl
   | succ j=>simp only[nth] at he;exact absurd he.symm (hk j (by simpa using hj))
  | succ i=>
   cases j with
   | zero=>simp only[nth] at he;exact absurd he (hk i (by simpa using hi))
   | succ j=>simp only[nth] at he;rw[ih h.2 (by simpa using hi) (by simpa using hj) he]
theorem qd {s:List (Nat×bh)}:∀ {ks:List Nat} {es:List bh},rG s ks=some es->es.length=ks.length/\∀ j e,es[j]?=some e->bn s (nth ks j)=some e
 | [],_,h=>by simp[rG] at h;simp[h]
 | k::ks,es,h=>by
  simp only[rG] at h;split at h
  ·rename_i e es' he hes;cases h;obtain ⟨h1,h2⟩:=qd hes;refine ⟨by simp[h1],λj e' hj=>?_⟩;cases j with
   | zero=>simp at hj;subst hj;exact bW he
   | succ j=>exact h2 j e' (by simpa using hj)
  cases h
theorem oB (π:Nat->Nat):∀ {es:List bh} {j:Nat},(kr π es)[j]?=(es[j]?).map (bh.hQ π)
 | [],_=>by simp[kr]
 | e::es,0=>by simp[kr]
 | e::es,j+1=>by simp[kr,oB π (es:=es)]
theorem jf (π:Nat->Nat):∀ es:List bh,(kr π es).length=es.length
 | []=>rfl
 | _::es=>by simp[kr,jf π es]
theorem tk {p:Nat->Bool}:∀ {es:List bh},kf p es=true->∀ {j:Nat} {e:bh},es[j]?=some e->AV.only.lu p e.cells=true
 | [],_,j,e,h=>by simp at h
 | a::es,h,0,e,he=>by simp only[kf,Bool.and_eq_true] at h;simp at he;subst he;exact bh.Iv h.1
 | a::es,h,j+1,e,he=>by simp only[kf,Bool.and_eq_true] at h;exact tk h.2 (by simpa using he)
def xw (k:Nat) (ks:List Nat):List (Nat×bh)->Bool
 | []=>false
 | (j,e)::s=>(!ks.any (Nat.beq j)&&e.mq k)||xw k ks s
def Bp (l:List (Nat×AV)) (ds:List (FuncId×List AV)) (s:List (Nat×bh)) (ks0:List Nat):List Nat->List bh->Bool
 | _::ks,.box _::es=>Bp l ds s ks0 ks es
 | k::ks,_::es=>!lL k l&&!kt k ds&&!xw k ks0 s&&Bp l ds s ks0 ks es
 | _,_=>true
def u9 (E:Env):List Nat->List bh->Prop
 | _::ks,.box _::es=>u9 E ks es
 | k::ks,_::es=>E.fix k=none/\u9 E ks es
 | _,_=>True
theorem oo {k:Nat} {ks:List Nat}:∀ {s:List (Nat×bh)},xw k ks s=false->∀ j e,ks.any (Nat.beq j)=false->bn s j=some e->AV.eG.fP k e.cells=false
 | [],_,j,e,_,h=>by cases h
 | (i,v)::s,h,j,e,hj,he=>by
  simp only[xw,Bool.or_eq_false_iff] at h;simp only[bn,lI] at he;split at he
  ·rename_i q;cases he;subst q;exact bh.AH (by simpa[hj] using h.1)
  exact oo h.2 j e hj he
theorem vM {E:Env} {l:List (Nat×AV)} {ds:List (FuncId×List AV)} {s:List (Nat×bh)} {ks0:List Nat}:∀ {ks:List Nat} {es:List bh},Bp l ds s ks0 ks es=true->u9 E ks es->∀ {j:Nat} {e:bh},
  j<ks.length->es[j]?=some e->(∃ cs,e=.box cs)\/(lL (nth ks j) l=false/\kt (nth ks j) ds=false/\xw (nth ks j) ks0 s=false/\E.fix (nth ks j)=none)
 | [],_,_,_,j,e,hj,_=>by simp at hj
 | _::_,[],_,_,j,e,_,he=>by simp at he
 | k::ks,.box cs::es,h,hf,0,e,_,he=>by simp at he;exact .inl ⟨cs,he.symm⟩
 | k::ks,.box cs::es,h,hf,j+1,e,hj,he=>vM (ks:=ks) (es:=es) h hf (by simpa using hj) (by simpa using he)
 | k::ks,.arr _ _ _::es,h,hf,0,e,_,he=>by
  simp only[Bp,Bool.and_eq_true,Bool.not_eq_true'] at h
  exact .inr ⟨h.1.1.1,h.1.1.2,h.1.2,hf.1⟩
 | k::ks,.arr _ _ _::es,h,hf,j+1,e,hj,he=>by
  simp only[Bp,Bool.and_eq_true] at h
  exact vM (ks:=ks) (es:=es) h.2 hf.2 (by simpa using hj) (by simpa using he)
 | k::ks,.app _ _ _::es,h,hf,0,e,_,he=>by
  simp only[Bp,Bool.and_eq_true,Bool.not_eq_true'] at h
  exact .inr ⟨h.1.1.1,h.1.1.2,h.1.2,hf.1⟩
 | k::ks,.app _ _ _::es,h,hf,j+1,e,hj,he=>by
  simp only[Bp,Bool.and_eq_true] at h
  exact vM (ks:=ks) (es:=es) h.2 hf.2 (by simpa using hj) (by simpa using he)
theorem AM {s:List (Nat×bh)}:∀ {ks:List Nat} {es:List bh},es.length=ks.length->nodupB ks=true->∀ k,
  bn (lX ks es++s) k=match (List.range ks.length).find? (λj=>nth ks j==k) with|some j=>es[j]?|none=>bn s k:=by
 intro ks
 induction ks with
 | nil=>intro es _ _ k;cases es<;>simp[lX]
 | cons a ks ih=>
  intro es hl hn k
  cases es with
  | nil=>simp at hl
  | cons e es=>
   simp only[nodupB,Bool.and_eq_true] at hn
   have hr:List.range (a::ks).length=0::(List.range ks.length).map (·+1):=by
    rw[List.length_cons,List.range_succ_eq_map]
   rw[hr]
   simp only[List.find?_cons,nth]
   by_cases q:a=k
   ·subst q;simp[lX,bn,lI]
   ·have q':(a==k)=false:=by simpa using q
    have:=ih (es:=es) (by simpa using hl) hn.2 k
    simp only[bn] at this
    simp only[q',lX,List.cons_append,bn,lI]
    rw[if_neg (λh=>q h.symm),this]
    rw[List.find?_map]
    have:((λj=>nth (a::ks) j==k) ∘ (·+1))=λj=>nth ks j==k:=by funext j;simp[nth]
    rw[this]
    cases (List.range ks.length).find? (λj=>nth ks j==k)<;>simp
def pH {X:Type} (V:X->AV) (C:X->List bh) (G:X->Prop) (H:AV->Prop):qI->cl->Prop:=
 λae σ=>(∃ x,G x/\ae=.ret (V x)/\σ=bn (eX 0 (C x)))\/(∃ v,H v/\ae=.panic v/\σ=bn [])
theorem AN {ks:List Nat} {k:Nat} (h:(List.range ks.length).any (λi=>nth ks i==k)=false):ks.any (Nat.beq k)=false:=by
 rw[List.any_eq_false] at h ⊢;intro x hx q;obtain ⟨i,hi,rfl⟩:=List.getElem_of_mem hx;have key:∀ (ks:List Nat) (i:Nat) (h:i<ks.length),nth ks i=ks[i]:=by
  intro ks
  induction ks with
  | nil=>intro i h;simp at h
  | cons a ks ih=>
   intro i h
   cases i with
   | zero=>rfl
   | succ i=>simp only[nth];exact ih i (by simpa using h)
 refine h i (by simpa using hi) ?_;rw[key ks i hi];have:=Nat.eq_of_beq_eq_true q;simp[this]
section
variable {P:Program} {E:Env} {n:Nat} {ops:Array Oper} {Q:dU} {rest:List Oper} {l:List (Nat×AV)} {ds:List (FuncId×List AV)} {s:List (Nat×bh)}
structure nc (E:Env) (ds:List (FuncId×List AV)) (l:List (Nat×AV)) (s:List (Nat×bh)) (ks:List Nat) (f:Operand) (args:List Operand) (fid:FuncId) (argsC:List AV) (es:List bh) (first cap vs:List AV) (l':List (Nat×AV):=l):Prop where
 f:bj l f=some (.fn fid first cap)
 a:qU l args=some vs
 e:first++vs++cap=AV.hQ.mE (nth ks) argsC
 gs:rG s ks=some (kr (nth ks) es)
 nd:nodupB ks=true
 bx:Bp l' ds s ks ks es=true
 fx:u9 E ks es
theorem xx {o:Oper} {X:Type} {V:X->AV} {C:X->List bh} {G:X->Prop} {H:AV->Prop} {f:Operand} {args:List Operand} {ts:Array TypeId} {fid:FuncId} {argsC first cap vs:List AV} {es:List bh}
  {next:eQ->cl->Prop} {l':List (Nat×AV)} (hwk:(bL l ds).le (bL l' ds)) (ks:List Nat) (hen:Enters P fid) (ho:o.op=.call ⟨.value f,args.toArray,ts⟩) (hC:SC P fid argsC (bn (eX 0 es)) (pH V C G H)) (hk:nc E ds l s ks f args fid argsC es first cap vs l')
  (hd:∀ d,o.dst=some d->d<n) (hx:∀ x,G x->(C x).length=ks.length/\kf (below ks.length) (C x)=true/\(V x).only (below ks.length)=true)
  (hret:∀ x,G x->next ((bL l' ds).jM o.dst ((V x).hQ (nth ks))) (bn (lX ks (kr (nth ks) (C x))++s)))
  (hpan:∀ v,H v->v.only (λ_=>false)=true/\Q (.panic v) (bL l' ds) (after (bn s) (nth ks) (List.range ks.length) [] (bn []))):Step P E n Q o (bL l ds) (bn s) next:=by
 obtain ⟨hl,hat⟩:=qd hk.gs
 rw[jf] at hl
 have hcon:∀ j,(List.range ks.length).contains j=below ks.length j:=λj=>by
  have h1:(List.range ks.length).contains j=decide (j<ks.length):=by
   by_cases q:j<ks.length<;>simp[q]
  rw[h1];simp only[below]
  by_cases q:j<ks.length
  ·simp[q,oA.2 q]
  ·have:Nat.blt j ks.length=false:=by
    cases h:Nat.blt j ks.length with
    | false=>rfl
    | true=>exact absurd (oA.1 h) q
   simp[q,this]
 have hconf:(List.range ks.length).contains=below ks.length:=funext hcon
 have hltr:∀ j,below ks.length j=true->j<ks.length:=λj h=>oA.1 h
 have hsome:∀ j,(bn (eX 0 es) j).isSome=true->j<ks.length:=λj hj=>by
  cases q:bn (eX 0 es) j with
  | none=>rw[q] at hj;cases hj
  | some e=>
   obtain ⟨_,h2⟩:=fX q
   have:=(List.getElem?_eq_some_iff.1 h2).1
   simp at this;omega
 refine xo hwk (nth ks) (List.range ks.length) hen ho (N hk.f) (by rw[nb hk.a];exact hk.e) hC (λj hj=>by simpa using hsome j hj) (λj e hj=>?_)
  (λj j' hj hj' he=>pG hk.nd (hsome j hj) (hsome j' hj') he) hd (λv σc hr=>?_) (λv σc hr=>?_)
 ·obtain ⟨_,h2⟩:=fX hj
  exact hat j _ (by rw[oB,show j=j - 0 by omega,h2];rfl)
 ·rcases hr with ⟨x,hg,he,rfl⟩|⟨_,_,he,_⟩
  ·cases he
   obtain ⟨h1,h2,h3⟩:=hx x hg
   refine ⟨List.range ks.length,{ Is:=λj e hj=>?_,val:=by rw[hconf];exact h3,inj:=λj j' hj hj' he=>pG hk.nd (by simpa using hj) (by simpa using hj') he,same:=λj hj=>?_ },?_⟩
   ·obtain ⟨_,h4⟩:=fX hj
    have h5:=(List.getElem?_eq_some_iff.1 h4).1
    exact ⟨by simp;omega,by rw[hconf];exact tk h2 h4⟩
   ·have hj':j<es.length:=by simp at hj;omega
    rcases vM hk.bx hk.fx (by simpa using hj) (List.getElem?_eq_getElem hj') with ⟨cs,hcs⟩|⟨q1,q2,q3,q4⟩
    ·exact .inl ⟨cs,by have:=oM (i:=0) (List.getElem?_eq_getElem hj');rw[hcs] at this;simpa using this⟩
    ·exact .inr ⟨hY q1 q2,λk e hkl he=>oo q3 k e (AN hkl) he,q4⟩
   ·have:after (bn s) (nth ks) (List.range ks.length) (List.range ks.length) (bn (eX 0 (C x)))=bn (lX ks (kr (nth ks) (C x))++s):=by
     funext k
     rw[AM (by rw[jf,h1]) hk.nd]
     simp only[after]
     cases hf:(List.range ks.length).find? (λj=>nth ks j==k) with
     | some j=>
      have hj:=List.mem_of_find?_eq_some hf
      simp at hj
      simp only[oB]
      have:j<(C x).length:=by omega
      rw[List.getElem?_eq_getElem this]
      have h6:=oM (i:=0) (List.getElem?_eq_getElem this)
      simp at h6
      rw[h6]
     | none=>
      have:(List.range ks.length).any (λj=>nth ks j==k)=false:=by
       rw[List.any_eq_false];intro j hj
       have:=List.find?_eq_none.1 hf j hj
       simpa using this
      simp[this]
    rw[this];exact hret x hg
  ·cases he
 ·rcases hr with ⟨_,_,he,_⟩|⟨v',hh,he,rfl⟩
  ·cases he
  ·cases he
   obtain ⟨h1,h2⟩:=hpan v hh
   refine ⟨[],{ Is:=λj e hj=>(by cases hj),val:=?_,inj:=λj _ hj=>(by simp at hj),same:=λj hj=>(by simp at hj) },?_⟩
   ·have:([]:List Nat).contains=λ_=>false:=by funext k;simp
    rw[this];exact h1
   ·rw[rE h1];exact h2
theorem ES {o:Oper} {X:Type} {V:X->AV} {C:X->List bh} {G:X->Prop} {H:AV->Prop} {f:Operand} {args:List Operand} {ts:Array TypeId} {fid:FuncId} {argsC first cap vs:List AV} {es:List bh}
  {next:eQ->cl->Prop} (ks:List Nat) (hen:Enters P fid) (ho:o.op=.call ⟨.value f,args.toArray,ts⟩) (hC:SC P fid argsC (bn (eX 0 es)) (pH V C G H)) (hk:nc E ds l s ks f args fid argsC es first cap vs)
  (hd:∀ d,o.dst=some d->d<n) (hx:∀ x,G x->(C x).length=ks.length/\kf (below ks.length) (C x)=true/\(V x).only (below ks.length)=true)
  (hret:∀ x,G x->next ((bL l ds).jM o.dst ((V x).hQ (nth ks))) (bn (lX ks (kr (nth ks) (C x))++s)))
  (hpan:∀ v,H v->v.only (λ_=>false)=true/\Q (.panic v) (bL l ds) (after (bn s) (nth ks) (List.range ks.length) [] (bn []))):Step P E n Q o (bL l ds) (bn s) next:=
 xx ⟨λ_=>.inl rfl,rfl⟩ ks hen ho hC hk hd hx hret hpan
end
end Go.Abs
end
section
namespace Go.Abs
section
variable {P:Program} {E:Env} {n:Nat} {ops:Array Oper} {Q:dU} {rest:List Oper} {l:List (Nat×AV)} {ds:List (FuncId×List AV)} {s:List (Nat×bh)}
 {ty:TypeId} {pos:String} {af:Array Edge}
theorem nv {d n:Nat} (h:Nat.blt d n=true):∀ x,some d=some x->x<n:=λx hx=>by cases hx;exact oA.1 h
theorem aM {d:Nat} {t:TypeId} {z:List Value} [hz:lx P t z] {zs:List AV} (nm:Nat) (hE:E.fix nm=none)
  (h:z.map (λv=>AV.pv (.sc v))=zs/\lL nm l=false/\kt nm ds=false/\nC nm s=false)
  (hd:Nat.blt d n=true) (hn:SL P E n ops Q rest (bL ((d,.ptr nm 0)::l) ds) (bn ((nm,.box zs)::s))):SL P E n ops Q (⟨some d,.alloc t,ty,pos,af,none⟩::rest) (bL l ds) (bn s):=
 kG rfl (AF (BB nm hz.h) (hY h.2.1 h.2.2.1) (kY h.2.2.2) hE (nv hd) (by rw[h.1];exact hn))
def BQ:List AV->Nat->List AV->List AV
 | cs,0,v=>Lz cs v
 | [],_+1,_=>[]
 | c::cs,k+1,v=>c::BQ cs k v
where
 Lz:List AV->List AV->List AV
  | cs,[]=>cs
  | [],_::_=>[]
  | _::cs,v::vs=>v::Lz cs vs
theorem F1:∀ {cs v:List AV},v.length<=cs.length->BQ.Lz cs v=v++cs.drop v.length
 | cs,[],_=>by simp[BQ.Lz]
 | [],_::_,h=>by simp at h
 | c::cs,v::vs,h=>by simp[BQ.Lz,F1 (cs:=cs) (v:=vs) (by simpa using h)]
theorem D0:∀ {cs:List AV} {off:Nat} {v:List AV},off+v.length<=cs.length->BQ cs off v=cs.take off++v++cs.drop (off+v.length)
 | cs,0,v,h=>by simp[BQ,F1 (cs:=cs) (v:=v) (by simpa using h)]
 | [],k+1,v,h=>by simp at h
 | c::cs,k+1,v,h=>by
  simp only[BQ];rw[D0 (cs:=cs) (off:=k) (v:=v) (by simp at h;omega)];simp[show k+1+v.length=(k+v.length)+1 by omega]
def bh.put (off:Nat) (v:List AV):bh->bh
 | .box cs=>.box (BQ cs off v)
 | e=>e
def bh.wz:bh->Bool
 | .box _=>true
 | _=>false
theorem put_eq {e:bh} {off:Nat} {v:List AV} (hb:e.wz=true) (h:off+v.length<=e.cells.length):e.DQ off v=e.put off v:=by
 cases e with
 | box cs=>simp only[bh.DQ,bh.put];rw[D0 (cs:=cs) h]
 | arr el sz cs=>cases hb
 | app el sz cs=>cases hb
theorem vN {e:bh} (h:e.wz=true):e.isApp=false:=by cases e<;>first|rfl|cases h
theorem vO {e:bh} {p:Prop} (h:e.wz=true) (q:e.FV=true):p:=by cases e with|box _=>cases q|arr _ _ _=>cases h|app _ _ _=>cases h
theorem F2 {t:TypeId} {x y:Operand} {k off m:Nat} {e:bh} {v:AV} {c:List AV} [ht:nA P t m]
  (h:bj l x=some (.ptr k off)/\dq s k=some e/\e.wz=true/\bj l y=some v/\v.fN=some c/\AV.kF c=true/\c.length=m/\Nat.ble (off+c.length) e.cells.length=true)
  (hn:∀ e',e.put off c=e'->SL P E n ops Q rest (bL l ds) (bn ((k,e')::s))):SL P E n ops Q (⟨none,.store t x y,ty,pos,af,none⟩::rest) (bL l ds) (bn s):=by
 obtain ⟨hx,hk,hea,hy,hc,h1,hm,hl⟩:=h
 have hl':=Nat.le_of_ble_eq_true hl
 refine kG rfl (r7 rfl rfl (N hx) (bW hk) (vN hea) (by rw[N hy];exact hc) h1 (by rw[hm];exact ht.h) hl' (vO hea) ?_)
 rw[put_eq hea hl'];exact hn _ rfl
theorem JZ {d:Nat} {t e:TypeId} {m sz:Nat} {parts:List (Nat×Operand)} {zs:List Value} {pl:List (Nat×Nat)} {pv:List (Nat×AV)} {cells:List PV} [ht:ku P t m e sz zs pl]
  (h:parts.mapM (λp=>(bj l p.2).map λv=>(p.1,v))=some pv/\lU pl (zs.map λv=>.pv (.sc v)) pv=some (cells.map .pv)) (hd:Nat.blt d n=true)
  (hn:SL P E n ops Q rest (bL ((d,.pv (.sl m cells))::l) ds) (bn s)):SL P E n ops Q (⟨some d,.buildSlice t m parts.toArray,ty,pos,af,none⟩::rest) (bL l ds) (bn s):=by
 refine kG rfl (DM (rf ht.h ?_) (nv hd) hn)
 have key:∀ (ps:List (Nat×Operand)) (pv:List (Nat×AV)),ps.mapM (λp=>(bj l p.2).map λv=>(p.1,v))=some pv->(ps.map λp=>(p.1,(bL l ds).val p.2))=pv:=by
  intro ps
  induction ps with
  | nil=>intro pv h;simp at h;simp[h]
  | cons p ps ih=>
   intro pv h
   rw[List.mapM_cons] at h
   cases hv:bj l p.2 with
   | none=>simp[hv] at h
   | some v=>
    cases hr:ps.mapM (λp=>(bj l p.2).map λv=>(p.1,v)) with
    | none=>simp[hv,hr] at h
    | some r=>
     simp[hv,hr] at h
     subst h
     simp[ih r hr,N (ds:=ds) hv]
 rw[key parts pv h.1];exact h.2
theorem C9 {fn:Func} {X:Type} {V:X->AV} {C:X->List bh} {G:X->Prop} {H:AV->Prop} {v:AV} {fr:eQ} {σ:cl} (hd:fr.ds=[]) (h:H v):nD P fn (pH V C G H) (.panic v) fr σ:=
 ⟨hd,bn [],λk e hk=>(by cases hk),.inr ⟨v,h,rfl,rfl⟩⟩
theorem BR {es:List bh} (h:∀ j e,es[j]?=some e->dq s j=some e):∀ k e,bn (eX 0 es) k=some e->bn s k=some e:=λk e hk=>by
 obtain ⟨_,h2⟩:=fX hk;exact bW (h k e (by simpa using h2))
def vP (s:List (Nat×bh)):Nat->List bh->Prop
 | _,[]=>True
 | i,e::es=>dq s i=some e/\vP s (i+1) es
theorem vQ:∀ {es:List bh} {i:Nat},vP s i es->∀ j e,es[j]?=some e->dq s (i+j)=some e
 | [],_,_,j,e,h=>by simp at h
 | a::es,i,h,0,e,he=>by simp at he;subst he;exact h.1
 | a::es,i,h,j+1,e,he=>by
  have:=vQ h.2 j e (by simpa using he);rw[show i+(j+1)=i+1+j by omega];exact this
theorem oN {fn:Func} {X:Type} {V:X->AV} {C:X->List bh} {G:X->Prop} {H:AV->Prop} {vs:List AV} {ae:uh} (hae:ae=.ret\/ae=.normal) (x:X) (hr:C8 P (bL l []) (bn s) fn.results.toList vs)
  (hg:G x) (hle:(pb vs).le (V x)) (hm:vP s 0 (C x)):nD P fn (pH V C G H) ae (bL l []) (bn s):=by
 have h:(bL l []).ds=[]/\∃ vs v σ',C8 P (bL l []) (bn s) fn.results.toList vs/\(pb vs).le v/\(∀ k e,σ' k=some e->bn s k=some e)/\pH V C G H (.ret v) σ':=
  ⟨rfl,vs,V x,bn (eX 0 (C x)),hr,hle,BR (λj e hj=>by have:=vQ hm j e hj;simpa using this),.inl ⟨x,hg,rfl,rfl⟩⟩
 rcases hae with rfl|rfl
 ·exact h
 ·exact h
theorem bT {t:Nat} {v:AV} (h:jo l t=some v):RV P (bL l ds) (bn s) (.tmp t) v:=by rw[<- ff h];exact .tmp t
theorem aU {a k:Nat} {t:TypeId} {cs:List AV} {m:Nat} [ht:nA P t m] [ha:je P t true] (hk:jo l a=some (.ptr k 0)) (hs:dq s k=some (.box cs)) (hm:cs.length=m) :
 RV P (bL l ds) (bn s) (.cell a t) (.agg cs):=.agg (ff hk) (bW hs) (by rw[hm];exact ht.h) ha.h
theorem xy {a k:Nat} {t:TypeId} {c:AV} [ha:je P t false] (hk:jo l a=some (.ptr k 0)) (hs:dq s k=some (.box [c])):RV P (bL l ds) (bn s) (.cell a t) c:=.one (ff hk) (bW hs) ha.h
theorem xz (args:List AV):(⟨λi=>args[i]?.getD .any,[]⟩:eQ)=bL ((List.range args.length).zip args) []:=by
 simp only[bL,eQ.mk.injEq,and_true];funext i;have key:∀ (l:List AV) (k i:Nat),lV ((List.range' k l.length).zip l) (k+i)=l[i]?.getD .any:=by
  intro l
  induction l with
  | nil=>intro k i;simp[lV]
  | cons a l ih=>
   intro k i
   simp only[List.length_cons,List.range'_succ,List.zip_cons_cons,lV]
   cases i with
   | zero=>simp
   | succ i=>
    rw[if_neg (by omega),show k+(i+1)=k+1+i by omega,ih];simp
 have:=key args 0 i;rw[List.range_eq_range'];simpa using this.symm
def jt:List bh->Nat->Bool
 | [],_=>true
 | .box _::_,0=>false
 | _::_,0=>true
 | _::es,k+1=>jt es k
theorem Iw {f:FuncId} {fn:Func} {c:Code} {args:List AV} {es:List bh} {R:qI->cl->Prop} (hf:P.funcs[f]?=some fn) (hb:fn.body=some c) (hn:Nat.ble args.length fn.ntmps=true)
  (h:∀ E:Env,(∀ k,jt es k=true->E.fix k=none)->SW P E fn.ntmps c (nD P fn R) (bL ((List.range args.length).zip args) []) (bn (eX 0 es))):SC P f args (bn (eX 0 es)) R:=
 FX hf hb (Nat.le_of_ble_eq_true hn) λE hE=>by
  rw[xz]
  refine h E λk hk=>hE k λcs hcs=>?_
  obtain ⟨_,h2⟩:=fX hcs
  have h3:∀ (es:List bh) (k:Nat),jt es k=true->es[k]?≠some (.box cs):=by
   intro es
   induction es with
   | nil=>intro k _;simp
   | cons e es ih=>
    intro k hk
    cases k with
    | zero=>intro q;simp at q;subst q;simp[jt] at hk
    | succ k=>simpa using ih k (by cases e<;>simpa[jt] using hk)
  exact h3 es k hk (by simpa using h2)
end
end Go.Abs
end
section
namespace Go.Abs
section
variable {P:Program} {E:Env} {n:Nat} {ops:Array Oper} {Q:dU}
variable (P E n ops Q) in
abbrev DX (x y:Nat):List Nat->List Rec->eQ->cl->Prop:=kZ P E n ops Q λrecs fr σ=>DW P E n ops Q [x,y] recs fr σ/\DW P E n ops Q [y,x] recs fr σ
theorem Inv.swap {x y:Nat} {listed:Array Bool} {recs:List Rec} {fr:eQ} {σ:cl} (h:Inv P E n ops listed [x,y] recs fr σ) (hp:nE ops [y,x]=true):Inv P E n ops listed [y,x] recs fr σ:=
 {
  size:=h.size
  todo:=λi hi=>h.todo i (by simp at hi ⊢;exact hi.symm)
  done:=λi o ho hi=>h.done i o ho (by simp at hi ⊢;exact ⟨hi.2,hi.1⟩)
  jr:=λr hr=>by
   obtain ⟨h1,h2⟩:=h.jr r hr;exact ⟨by simp at h1 ⊢;exact ⟨h1.2,h1.1⟩,h2⟩
  xr:=λi hi=>h.xr i (by simp at hi ⊢;exact hi.symm)
  apart:=h.apart,names:=h.names,zV:=h.zV
  wy:=λi j hi hiL hj=>h.wy i j hi (by simp at hiL ⊢;exact ⟨hiL.2,hiL.1⟩) (by simp at hj ⊢;exact hj.symm)
  vK:=hp
  down:=h.down,zW:=h.zW,reads:=h.reads,jH:=h.jH,ds:=h.ds,EP:=h.EP,ta:=h.ta }
theorem BS {x y:Nat} {listed:Array Bool} {i:Nat} {o:Oper} (ho:ops[i]?=some o) (hr:∀ e,e∈o.after.toList->Region.binds .any e=true->rC listed e.on=true) :
  ∀ (L:List Nat) (recs:List Rec) (fr:eQ) (σ:cl) (g:Gh) (a:Act) (w:World),i∈L++[x,y]->strict ops (L++[x])=true->strict ops (L++[y])=true->Inv P E n ops listed (L++[x,y]) recs fr σ->DX P E n ops Q x y L recs fr σ->
   Rel E g (eZ σ (mS listed recs)) w->FR n g (fe fr (mF listed recs)) a->
   (∃ L' recs' fr' σ',strict ops (i::L'++[x])=true/\strict ops (i::L'++[y])=true/\Inv P E n ops listed (i::(L'++[x,y])) recs' fr' σ'/\DX P E n ops Q x y (i::L') recs' fr' σ'/\Rel E g (eZ σ' (mS listed recs')) w/\FR n g (fe fr' (mF listed recs')) a)\/
   ((i=x\/i=y)/\∃ recs' fr' σ',Inv P E n ops listed [x,y] recs' fr' σ'/\DX P E n ops Q x y [] recs' fr' σ'/\Rel E g (eZ σ' (mS listed recs')) w/\FR n g (fe fr' (mF listed recs')) a)
 | [],recs,fr,σ,g,a,w,hi,_,_,hI,hD,hR,hF=>.inr ⟨by simpa using hi,recs,fr,σ,hI,hD,hR,hF⟩
 | c::L,recs,fr,σ,g,a,w,hi,hs1,hs2,hI,hD,hR,hF=>by
  by_cases q:c=i
  ·subst q;exact .inl ⟨L,recs,fr,σ,hs1,hs2,hI,hD,hR,hF⟩
  ·have hiL:i∈L++[x,y]:=by
    rcases List.mem_cons.1 hi with h|h
    ·exact absurd h.symm q
    ·exact h
   obtain ⟨oc,hoc,hS⟩:=hD
   have hPP:=hI.vK
   simp only[List.cons_append,nE,Bool.and_eq_true] at hPP
   have hpair:rh ops c i=true:=List.all_eq_true.1 hPP.1.2 i hiL
   have hhv:dI oc=false:=by
    cases h:dI oc with
    | false=>rfl
    | true=>
     have h1:oJ ops ops.size i c=true:=by
      rcases (mZ hoc ho hpair).2.2 h with h0|h0
      ·have:i∈L++[x]\/i∈L++[y]:=by
        simp only[List.mem_append,List.mem_cons,List.not_mem_nil,or_false] at hiL ⊢
        rcases hiL with h|h|h
        ·exact .inl (.inl h)
        ·exact .inl (.inr h)
        ·exact .inr (.inr h)
       rcases this with hm|hm
       ·exact vI hs1 hm hoc ho h h0
       ·exact vI hs2 hm hoc ho h h0
      ·exact h0
     have h2:=qb hI.down _ _ _ o ho hr h1
     rw[(hI.todo c (by simp)).2] at h2;cases h2
   obtain ⟨r,recs',fr',σ',rfl,_,hn,hI',hR',hF'⟩:=walk hI hoc hhv hS hR hF
   exact BS ho hr L _ fr' σ' g a w hiL (kH hs1) (kH hs2) hI' hn hR' hF'
theorem Ku {x y:Nat} {ox oy:Oper} (hox:ops[x]?=some ox) (hoy:ops[y]?=some oy) (hhx:dI ox=true) (hhy:dI oy=true) (hpp:nE ops [y,x]=true)
  (hsm:∀ i o,ops[i]?=some o->∀ e,e∈o.after.toList->Region.binds .any e=true->e.on<i) :
  ∀ (fuel:Nat) (listed:Array Bool) (L:List Nat) (recs:List Rec) (fr:eQ) (σ:cl) (g:Gh) (a:Act) (w:World),left ops listed<=fuel->strict ops (L++[x])=true->strict ops (L++[y])=true->Inv P E n ops listed (L++[x,y]) recs fr σ->DX P E n ops Q x y L recs fr σ->
   Rel E g (eZ σ (mS listed recs)) w->FR n g (fe fr (mF listed recs)) a->wpAny P .any ops (LQ E n Q) fuel listed a w:=by
 intro fuel
 have never:∀ listed L recs fr σ,Inv P E n ops listed (L++[x,y]) recs fr σ->(∀ i,i<ops.size->rC listed i=true)->False:=λlisted L recs fr σ hI hall=>by
  have:=hI.todo x (by simp)
  rw[hall x this.1] at this;cases this.2
 induction fuel with
 | zero=>
  intro listed L recs fr σ g a w hfu hs1 hs2 hI hD hR hF
  exfalso
  refine never listed L recs fr σ hI λi hi=>?_
  have:left ops listed=0:=by omega
  unfold left at this
  rw[List.countP_eq_zero] at this
  simpa using this i (by simpa using hi)
 | succ fuel ih=>
  intro listed L recs fr σ g a w hfu hs1 hs2 hI hD hR hF
  refine ⟨λhnil=>(never listed L recs fr σ hI (DY hI hsm hnil)).elim,λi hi=>?_⟩
  obtain ⟨h1,h2,o,ho,hr⟩:=uy hI.size hi
  have hlf:left ops (listed.setIfInBounds i true)<=fuel:=by have:=BJ hI.size h1 h2;omega
  have hpend:∀ L recs fr σ g a w,strict ops (L++[x])=true->strict ops (L++[y])=true->(∃ r,r∈mY listed recs/\r.i=i)->Inv P E n ops listed (L++[x,y]) recs fr σ->DX P E n ops Q x y L recs fr σ->Rel E g (eZ σ (mS listed recs)) w->FR n g (fe fr (mF listed recs)) a->
    wpOp P ops (LQ E n Q) i (wpAny P .any ops (LQ E n Q) fuel (listed.setIfInBounds i true)) a w:=by
   rintro L recs fr σ g a w hs1 hs2 ⟨r,hrp,hri⟩ hI hD hR hF
   exact BI hI ho hr hrp hri hR hF λg' a' w' hI' hR' hF'=>ih _ L recs fr σ g' a' w' hlf hs1 hs2 hI' hD hR' hF'
  by_cases hiL:i∈L++[x,y]
  ·rcases BS ho hr L recs fr σ g a w hiL hs1 hs2 hI hD hR hF with ⟨L',recs',fr',σ',hs1',hs2',hI',hD',hR',hF'⟩|⟨hxy,recs',fr',σ',hI',hD',hR',hF'⟩
   ·obtain ⟨oc,hoc,hS⟩:=hD'
    rw[ho] at hoc;cases hoc
    cases hh:dI o with
    | true=>
     exact vL hI' ho hh hr hS hR' hF' λg2 fr2 σ2 a2 w2 hn hI2 hR2 hF2=>ih _ L' recs' fr2 σ2 g2 a2 w2 hlf (kH hs1') (kH hs2') hI2 hn hR2 hF2
    | false=>
     obtain ⟨r,recs2,fr2,σ2,rfl,hri,hn,hI2,hR2,hF2⟩:=walk hI' ho hh hS hR' hF'
     exact hpend L' _ fr2 σ2 g a w (kH hs1') (kH hs2') ⟨r,dV.2 ⟨by simp,by rw[hri];exact h2⟩,hri⟩ hI2 hn hR2 hF2
   ·have fin:∀ u v ou,ops[u]?=some ou->dI ou=true->i=u->Inv P E n ops listed [u,v] recs' fr' σ'->DW P E n ops Q [u,v] recs' fr' σ'->
      wpOp P ops (LQ E n Q) i (wpAny P .any ops (LQ E n Q) fuel (listed.setIfInBounds i true)) a w:=λu v ou hou hhu hiu hIu hDu=>by
     subst hiu
     obtain ⟨oc,hoc,hS⟩:=hDu
     rw[ho] at hoc;cases hoc
     rw[ho] at hou;cases hou
     exact vL hIu ho hhu hr hS hR' hF' λg2 fr2 σ2 a2 w2 hn hI2 hR2 hF2=>BK hsm fuel _ [v] recs' fr2 σ2 g2 a2 w2 hlf rfl hI2 hn hR2 hF2
    rcases hxy with q|q
    ·exact fin x y ox hox hhx q hI' hD'.1
    ·exact fin y x oy hoy hhy q (hI'.swap hpp) hD'.2
  ·obtain ⟨hd1,hd2⟩:=hI.done i o ho hiL
   cases hh:dI o with
   | true=>rw[hd1 hh] at h2;cases h2
   | false=>
    obtain ⟨r,hrr,hri⟩:=hd2 hh
    exact hpend L recs fr σ g a w hs1 hs2 ⟨r,dV.2 ⟨hrr,by rw[hri];exact h2⟩,hri⟩ hI hD hR hF
def LA (ops:Array Oper) (L:List Nat) (x y:Nat):Bool:=
 (L++[x,y]).all (uw ops)&&(List.range ops.size).all (λi=>(L++[x,y]).contains i)&&(L++[x,y]).all (λi=>decide (i<ops.size))&&nE ops (L++[x,y])&&
  strict ops (L++[x])&&strict ops (L++[y])&&nE ops [y,x]&&(match ops[x]?,ops[y]? with|some a,some b=>dI a&&dI b|_,_=>false)
theorem rH {id:Nat} {fr:eQ} {σ:cl} (L:List Nat) (x y:Nat) (hm:P.follows .mixedOrders=true) (hchk:LA ops L x y=true) (h:DX P E n ops Q x y L [] fr σ):SW P E n (.region id ops true) Q fr σ:=by
 intro g a w hR hF;simp only[LA,Bool.and_eq_true,List.all_eq_true,decide_eq_true_eq] at hchk;obtain ⟨⟨⟨⟨⟨⟨⟨hself,hall⟩,hin⟩,hpairs⟩,hs1⟩,hs2⟩,hpp⟩,hhv⟩:=hchk;have hsm:∀ i o,ops[i]?=some o->∀ e,e∈o.after.toList->Region.binds .any e=true->e.on<i:=λi o ho e he hb=>by
  have hi:i<ops.size:=by
   rcases Nat.lt_or_ge i ops.size with q|q
   ·exact q
   rw[Array.getElem?_eq_none q] at ho;cases ho
  have h1:=hself i (by have:=hall i (List.mem_range.2 hi);simpa using this);simp only[uw,ho,Bool.and_eq_true,List.all_eq_true] at h1;have:=h1.1 e he;simpa[hb] using this
 have hnone:∀ i,rC (Array.replicate ops.size false) i=false:=λi=>by
  simp only[rC,Array.getD_eq_getD_getElem?];rcases Nat.lt_or_ge i ops.size with q|q
  ·simp[q]
  rw[Array.getElem?_eq_none (by simpa using q)];rfl
 have hmem:∀ i,i<ops.size->i∈L++[x,y]:=λi hi=>by have:=hall i (List.mem_range.2 hi);simpa using this
 have hI:Inv P E n ops (Array.replicate ops.size false) (L++[x,y]) [] fr σ:=
  Inv.mk (by simp) (λi hi=>⟨hin i hi,hnone i⟩) (λi o ho hi=>by
    exfalso
    have hlt:i<ops.size:=by
     rcases Nat.lt_or_ge i ops.size with q|q
     ·exact q
     ·rw[Array.getElem?_eq_none q] at ho;cases ho
    exact hi (hmem i hlt)) (λr hr=>by cases hr) hself (λr _ hr=>by cases hr) (λr _ _ hr=>by cases hr) (λr _ hr=>by cases hr)
   (λi j hi hiL hj=>absurd (hmem i hi) hiL) hpairs (λi o _ h=>by rw[hnone i] at h;cases h) (λr hr=>by cases hr) (λr hr=>by cases hr)
   (λr hr=>by cases hr) (λr hr=>by cases hr) (λr hr=>by cases hr) (λr _ hr=>by cases hr)
 have h1:mF (Array.replicate ops.size false) []=λ_=>false:=rfl;have h2:mS (Array.replicate ops.size false) []=λ_=>false:=rfl;have h3:fe fr (λ_=>false)=fr:=by simp[fe]
 have h4:eZ σ (λ_=>false)=σ:=by funext k;simp[eZ]
 split at hhv
 ·rename_i ox oy hox hoy;simp only[Bool.and_eq_true] at hhv;refine wp_region_any hm (Ku hox hoy hhv.1 hhv.2 hpp hsm ops.size _ L [] fr σ g a _ ?_ hs1 hs2 hI h ?_ ?_)
  ·exact Nat.le_trans (List.countP_le_length) (by simp)
  ·rw[h2,h4];exact hR.drew
  rw[h1,h3];exact hF
 cases hhv
end
end Go.Abs
end
section
namespace Go.Abs
def wA (ops:Array Oper) (i:Nat) (v:AV) (rd:List (Nat×bh)):List Rec->Bool
 | []=>true
 | r::rs=>(match r.nm with|none=>true|some nm=>oJ ops ops.size i r.i||(!v.eG nm&&rd.all λp=>!Nat.beq p.1 nm))&&wA ops i v rd rs
theorem uz {ops:Array Oper} {i:Nat} {v:AV} {rd:List (Nat×bh)}:∀ {recs:List Rec},wA ops i v rd recs=true->
  ∀ r,r∈iw ops recs i->∀ nm,r.nm=some nm->v.eG nm=false/\∀ p,p∈rd->p.1≠nm
 | [],_,r,hr=>by simp[iw] at hr
 | a::rs,h,r,hr=>by
  simp only[wA,Bool.and_eq_true] at h
  intro nm hnm
  simp only[iw,List.mem_filter,Bool.not_eq_true'] at hr
  rcases List.mem_cons.1 hr.1 with q|q
  ·subst q
   have h1:=h.1
   rw[hnm] at h1
   simp only[hr.2,Bool.false_or,Bool.and_eq_true,Bool.not_eq_true',List.all_eq_true] at h1
   refine ⟨h1.1,λp hp e=>?_⟩
   have:=h1.2 p hp
   rw[e] at this
   simp at this
  ·exact uz h.2 r (by simp[iw,q,hr.2]) nm hnm
section
variable {P:Program} {E:Env} {n:Nat} {ops:Array Oper} {Q:dU} {B:List Rec->eQ->cl->Prop} {i:Nat} {L:List Nat} {recs:List Rec} {l:List (Nat×AV)} {ds:List (FuncId×List AV)} {s:List (Nat×bh)}
 {ty:TypeId} {pos:String} {af:Array Edge}
theorem eR (h:Q .normal (bL l ds) (bn s)):DW P E n ops Q [] recs (bL l ds) (bn s):=h
theorem LB {d:Nat} {op:Op} {v:AV} {rd:List (Nat×bh)} (ho:ops[i]?=some ⟨some d,op,ty,pos,af,none⟩) (h:iy P op l ds s v rd)
  (hc:dI ⟨some d,op,ty,pos,af,none⟩=false/\Nat.blt d n=true/\wA ops i v rd recs=true)
  (hn:kZ P E n ops Q B L (⟨i,some d,rd,none⟩::recs) (bL ((d,v)::l) ds) (bn s)):kZ P E n ops Q B (i::L) recs (bL l ds) (bn s):=
 ⟨_,ho,.ev (.inl rfl) hc.1 h.h h.r (nv hc.2.1) (uz hc.2.2) hn⟩
theorem Kv {d j g:Nat} {op:Op} {v:AV} {rd:List (Nat×bh)} {want:Bool} (ho:ops[i]?=some ⟨some d,op,ty,pos,af,some (j,want)⟩)
  (hj:(ops[j]?).bind (·.dst)=some g/\jo l g=some (Bo want)) (h:iy P op l ds s v rd)
  (hc:dI ⟨some d,op,ty,pos,af,some (j,want)⟩=false/\Nat.blt d n=true/\wA ops i v rd recs=true)
  (hn:kZ P E n ops Q B L (⟨i,some d,rd,none⟩::recs) (bL ((d,v)::l) ds) (bn s)):kZ P E n ops Q B (i::L) recs (bL l ds) (bn s):=
 ⟨_,ho,.ev (.inr ⟨j,want,g,rfl,hj.1,ff hj.2⟩) hc.1 h.h h.r (nv hc.2.1) (uz hc.2.2) hn⟩
theorem LC {d j g:Nat} {op:Op} {want b:Bool} (ho:ops[i]?=some ⟨some d,op,ty,pos,af,some (j,want)⟩)
  (hj:(ops[j]?).bind (·.dst)=some g/\jo l g=some (Bo b)/\(b==want)=false) (hc:dI ⟨some d,op,ty,pos,af,some (j,want)⟩=false/\Nat.blt d n=true)
  (hn:kZ P E n ops Q B L (⟨i,some d,[],none⟩::recs) (bL ((d,Sc undef)::l) ds) (bn s)):kZ P E n ops Q B (i::L) recs (bL l ds) (bn s):=
 ⟨_,ho,.skip ⟨j,want,g,.bool b,rfl,hj.1,ff hj.2.1,λq=>by have:=hj.2.2;cases q;simp at this⟩ (nv hc.2) (by rw[hc.1];exact hn)⟩
theorem Kw {d j g:Nat} {op:Op} {want b:Bool} (ho:ops[i]?=some ⟨some d,op,ty,pos,af,some (j,want)⟩)
  (hj:(ops[j]?).bind (·.dst)=some g/\jo l g=some (Bo b)/\(b==want)=false) (hc:dI ⟨some d,op,ty,pos,af,some (j,want)⟩=true/\Nat.blt d n=true)
  (hn:kZ P E n ops Q B L recs (bL ((d,Sc undef)::l) ds) (bn s)):kZ P E n ops Q B (i::L) recs (bL l ds) (bn s):=
 ⟨_,ho,.skip ⟨j,want,g,.bool b,rfl,hj.1,ff hj.2.1,λq=>by have:=hj.2.2;cases q;simp at this⟩ (nv hc.2) (by rw[hc.1];exact hn)⟩
theorem qV {d j g:Nat} {op:Op} {want:Bool} (ho:ops[i]?=some ⟨some d,op,ty,pos,af,some (j,want)⟩)
  (hj:(ops[j]?).bind (·.dst)=some g/\jo l g=some (Sc undef)) (hc:dI ⟨some d,op,ty,pos,af,some (j,want)⟩=false/\Nat.blt d n=true)
  (hn:kZ P E n ops Q B L (⟨i,some d,[],none⟩::recs) (bL ((d,Sc undef)::l) ds) (bn s)):kZ P E n ops Q B (i::L) recs (bL l ds) (bn s):=
 ⟨_,ho,.skip ⟨j,want,g,undef,rfl,hj.1,ff hj.2,by simp[undef]⟩ (nv hc.2) (by rw[hc.1];exact hn)⟩
theorem Kx {d j g:Nat} {op:Op} {want:Bool} (ho:ops[i]?=some ⟨some d,op,ty,pos,af,some (j,want)⟩)
  (hj:(ops[j]?).bind (·.dst)=some g/\jo l g=some (Sc undef)) (hc:dI ⟨some d,op,ty,pos,af,some (j,want)⟩=true/\Nat.blt d n=true)
  (hn:kZ P E n ops Q B L recs (bL ((d,Sc undef)::l) ds) (bn s)):kZ P E n ops Q B (i::L) recs (bL l ds) (bn s):=
 ⟨_,ho,.skip ⟨j,want,g,undef,rfl,hj.1,ff hj.2,by simp[undef]⟩ (nv hc.2) (by rw[hc.1];exact hn)⟩
def kJ:List Rec->Bool
 | []=>true
 | r::rs=>r.nm.isNone&&kJ rs
theorem fb:∀ {recs:List Rec},kJ recs=true->∀ r,r∈recs->r.nm=none
 | [],_,r,hr=>by cases hr
 | a::rs,h,r,hr=>by
  simp only[kJ,Bool.and_eq_true,Option.isNone_iff_eq_none] at h;rcases List.mem_cons.1 hr with q|q
  ·subst q;exact h.1
  exact fb h.2 r q
mutual
theorem tQ {p q:Nat->Bool} (hpq:∀ k,p k=true->q k=true):∀ {v:AV},v.only p=true->v.only q=true
 | .any,_=>rfl
 | .oc,_=>rfl
 | .pv _,_=>rfl
 | .ptr _ _,h=>hpq _ h
 | .arr _ _,h=>hpq _ h
 | .sp _,_=>rfl
 | .fn f xs ys,h=>by simp only[AV.only,Bool.and_eq_true] at h ⊢;exact ⟨qe hpq h.1,qe hpq h.2⟩
 | .agg cs,h=>by simp only[AV.only] at h ⊢;exact qe hpq h
 | .gZ cs,h=>by simp only[AV.only] at h ⊢;exact qe hpq h
 | .ny t v,h=>by simp only[AV.only] at h ⊢;exact tQ hpq h
theorem qe {p q:Nat->Bool} (hpq:∀ k,p k=true->q k=true):∀ {v:List AV},AV.only.lu p v=true->AV.only.lu q v=true
 | [],_=>rfl
 | x::xs,h=>by simp only[AV.only.lu,Bool.and_eq_true] at h ⊢;exact ⟨tQ hpq h.1,qe hpq h.2⟩
end
def tm (ks:List Nat):List Rec->Bool
 | []=>true
 | r::rs=>(match r.nm with
  | none=>true
  | some k=>!ks.any (Nat.beq k))&&tm ks rs
theorem tn {ks:List Nat}:∀ {recs:List Rec},tm ks recs=true->∀ r,r∈recs->∀ nm,r.nm=some nm->nm ∉ ks
 | a::rs,h,r,hr,nm,hn,hk=>by
  simp only[tm,Bool.and_eq_true] at h;rcases List.mem_cons.1 hr with q|q
  ·subst q;rw[hn] at h;have h1:=h.1;simp only[Bool.not_eq_true',List.any_eq_false,Bool.not_eq_true] at h1;have:=h1 nm hk;simp at this
  exact tn h.2 r q nm hn hk
theorem wW:∀ {ks:List Nat} {j:Nat},j<ks.length->nth ks j∈ks
 | _::_,0,_=>by simp[nth]
 | _::ks,j+1,h=>by simp only[nth];exact List.mem_cons_of_mem _ (wW (by simpa using h))
mutual
theorem xA {ks:List Nat} {nm:Nat} (hn:nm ∉ ks):∀ {v:AV},v.only (below ks.length)=true->(v.hQ (nth ks)).eG nm=false
 | .any,_=>rfl
 | .oc,_=>rfl
 | .pv _,_=>rfl
 | .ptr j _,h=>by
  simp only[AV.only] at h;simp only[AV.hQ,AV.eG];have:=wW (ks:=ks) (oA.1 h);simp;intro q;subst q;exact hn this
 | .arr j _,h=>by
  simp only[AV.only] at h;simp only[AV.hQ,AV.eG];have:=wW (ks:=ks) (oA.1 h);simp;intro q;subst q;exact hn this
 | .sp _,_=>rfl
 | .fn f xs ys,h=>by simp only[AV.only,Bool.and_eq_true] at h;simp only[AV.hQ,AV.eG,pX hn h.1,pX hn h.2,Bool.or_self]
 | .agg cs,h=>by simp only[AV.only] at h;simp only[AV.hQ,AV.eG,pX hn h]
 | .gZ cs,h=>by simp only[AV.only] at h;simp only[AV.hQ,AV.eG,pX hn h]
 | .ny t v,h=>by simp only[AV.only] at h;simp only[AV.hQ,AV.eG];exact xA hn h
theorem pX {ks:List Nat} {nm:Nat} (hn:nm ∉ ks):∀ {v:List AV},AV.only.lu (below ks.length) v=true->AV.eG.fP nm (AV.hQ.mE (nth ks) v)=false
 | [],_=>rfl
 | x::xs,h=>by simp only[AV.only.lu,Bool.and_eq_true] at h;simp only[AV.hQ.mE,AV.eG.fP,xA hn h.1,pX hn h.2,Bool.or_self]
end
def lJ (ops:Array Oper) (i:Nat) (s':List (Nat×bh)) (recs:List Rec):Prop:=
 ∀ r,r∈iw ops recs i->∀ p,p∈r.rd->∃ e,dq s' p.1=some e/\e.le p.2
theorem mu {d:Nat} {x:Operand} {v:AV} (ho:ops[i]?=some ⟨some d,.assign x,ty,pos,af,none⟩) (hx:bj l x=some v) (hd:Nat.blt d n=true) (hs:lJ ops i s recs) (hnm:kJ recs=true)
  (hn:kZ P E n ops Q B L recs (bL ((d,v)::l) ds) (bn s)):kZ P E n ops Q B (i::L) recs (bL l ds) (bn s):=
 ⟨_,ho,.dI (.inl rfl) rfl (.ev (v:=v) (by rw[<- N (ds:=ds) hx];exact vC x) (nv hd)
  ⟨λr hr=>⟨λp hp=>(let ⟨e,h1,h2⟩:=hs r hr p hp;⟨e,bW h1,h2⟩),λnm q=>by rw[fb hnm r (List.mem_filter.1 hr).1] at q;cases q⟩,hn⟩) (λr _ k hk=>by cases hk)⟩
theorem cg {t:TypeId} {x y:Operand} {k off m:Nat} {e:bh} {v:AV} {c:List AV} [ht:nA P t m] (ho:ops[i]?=some ⟨none,.store t x y,ty,pos,af,none⟩)
  (h:bj l x=some (.ptr k off)/\dq s k=some e/\e.wz=true/\bj l y=some v/\v.fN=some c/\AV.kF c=true/\c.length=m/\Nat.ble (off+c.length) e.cells.length=true)
  (hnm:kJ recs=true) (hn:∀ e',e.put off c=e'->lJ ops i ((k,e')::s) recs/\kZ P E n ops Q B L recs (bL l ds) (bn ((k,e')::s))):kZ P E n ops Q B (i::L) recs (bL l ds) (bn s):=by
 obtain ⟨hx,hk,hea,hy,hc,h1,hm,hl⟩:=h
 have hl':=Nat.le_of_ble_eq_true hl
 obtain ⟨hst,hn⟩:=hn _ rfl
 refine ⟨_,ho,.dI (.inl rfl) rfl (.store rfl rfl (N hx) (bW hk) (vN hea) (by rw[N hy];exact hc) h1 (by rw[hm];exact ht.h) hl' (vO hea) ?_) (λr hr k' _=>by rw[fb hnm r (List.mem_filter.1 hr).1];simp)⟩
 rw[put_eq hea hl']
 exact ⟨λr hr=>⟨λp hp=>(let ⟨e,h1,h2⟩:=hst r hr p hp;⟨e,bW h1,h2⟩),λnm q=>by rw[fb hnm r (List.mem_filter.1 hr).1] at q;cases q⟩,hn⟩
theorem D1 {d:Nat} {X:Type} {V:X->AV} {C:X->List bh} {G:X->Prop} {H:AV->Prop} {f:Operand} {args:List Operand} {ts:Array TypeId} {fid:FuncId} {argsC first cap vs:List AV} {es:List bh}
  {gd:Option (Nat×Bool)} (ho:ops[i]?=some ⟨some d,.call ⟨.value f,args.toArray,ts⟩,ty,pos,af,gd⟩) (hw:iQ ops ⟨some d,.call ⟨.value f,args.toArray,ts⟩,ty,pos,af,gd⟩ (bL l ds)) (ks:List Nat) (hen:Enters P fid)
  (hC:SC P fid argsC (bn (eX 0 es)) (pH V C G H)) (hk:nc E ds l s ks f args fid argsC es first cap vs) (hd:Nat.blt d n=true) (hnm:tm ks recs=true)
  (hx:∀ x,G x->(C x).length=ks.length/\kf (below ks.length) (C x)=true/\(V x).only (below ks.length)=true)
  (hpan:∀ v,H v->v.only (λ_=>false)=true/\∀ fr' σ',fr'.ds=ds->Q (.panic v) fr' σ')
  (hret:∀ x,G x->∀ v' s',(V x).hQ (nth ks)=v'->lX ks (kr (nth ks) (C x))++s=s'->lJ ops i s' recs/\kZ P E n ops Q B L recs (bL ((d,v')::l) ds) (bn s')) :
  kZ P E n ops Q B (i::L) recs (bL l ds) (bn s):=by
 obtain ⟨hl,hat⟩:=qd hk.gs
 rw[jf] at hl
 have hcon:∀ j,(List.range ks.length).contains j=below ks.length j:=λj=>by
  have h1:(List.range ks.length).contains j=decide (j<ks.length):=by
   by_cases q:j<ks.length<;>simp[q]
  rw[h1];simp only[below]
  by_cases q:j<ks.length
  ·simp[q,oA.2 q]
  ·have:Nat.blt j ks.length=false:=by
    cases h:Nat.blt j ks.length with
    | false=>rfl
    | true=>exact absurd (oA.1 h) q
   simp[q,this]
 have hconf:(List.range ks.length).contains=below ks.length:=funext hcon
 have hsome:∀ j,(bn (eX 0 es) j).isSome=true->j<ks.length:=λj hj=>by
  cases q:bn (eX 0 es) j with
  | none=>rw[q] at hj;cases hj
  | some e=>
   obtain ⟨_,h2⟩:=fX q
   have:=(List.getElem?_eq_some_iff.1 h2).1
   simp at this;omega
 have hinj:∀ j j',(List.range ks.length).contains j=true->(List.range ks.length).contains j'=true->nth ks j=nth ks j'->j=j':=λj j' hj hj' he=>pG hk.nd (by simpa using hj) (by simpa using hj') he
 have hat0:∀ j,(List.range ks.length).contains j=true->∃ e,bn (eX 0 es) j=some e:=λj hj=>by
  have hj':j<es.length:=by simp at hj;omega
  exact ⟨_,by have:=oM (i:=0) (List.getElem?_eq_getElem hj');simpa using this⟩
 have hsame:∀ j,(List.range ks.length).contains j=true->(∃ cs,bn (eX 0 es) j=some (.box cs))\/((bL l ds).clear (nth ks j)/\
   (∀ k e,(List.range ks.length).any (λi=>nth ks i==k)=false->bn s k=some e->AV.eG.fP (nth ks j) e.cells=false)/\E.fix (nth ks j)=none):=λj hj=>by
  have hj':j<es.length:=by simp at hj;omega
  rcases vM hk.bx hk.fx (by simpa using hj) (List.getElem?_eq_getElem hj') with ⟨cs,hcs⟩|⟨q1,q2,q3,q4⟩
  ·exact .inl ⟨cs,by have:=oM (i:=0) (List.getElem?_eq_getElem hj');rw[hcs] at this;simpa using this⟩
  ·exact .inr ⟨hY q1 q2,λk e hkl he=>oo q3 k e (AN hkl) he,q4⟩
 refine ⟨_,ho,.dI hw rfl (.call (nth ks) (List.range ks.length) hen rfl (N hk.f) (by rw[nb hk.a];exact hk.e) hC (λj hj=>by simpa using hsome j hj) (λj e hj=>?_)
   (λj hj=>by obtain ⟨e,he⟩:=hat0 j hj;rw[he];rfl) (λj j' hj hj' he=>pG hk.nd (hsome j hj) (hsome j' hj') he) (nv hd) (λv σc hr=>?_) (λv σc hr=>?_))
  (λr hr k hk' q=>by
   obtain ⟨j,hj,rfl⟩:=List.mem_map.1 hk'
   exact tn hnm r (List.mem_filter.1 hr).1 _ q (wW (by simpa using hj)))⟩
 ·obtain ⟨_,h2⟩:=fX hj
  exact hat j _ (by rw[oB,show j=j - 0 by omega,h2];rfl)
 ·rcases hr with ⟨x,hg,he,rfl⟩|⟨_,_,he,_⟩
  ·cases he
   obtain ⟨h1,h2,h3⟩:=hx x hg
   obtain ⟨hst,hn⟩:=hret x hg _ _ rfl rfl
   refine ⟨{ Is:=λj e hj=>?_,val:=by rw[hconf];exact h3,inj:=hinj,same:=hsame },?_⟩
   ·obtain ⟨_,h4⟩:=fX hj
    have h5:=(List.getElem?_eq_some_iff.1 h4).1
    exact ⟨by simp;omega,by rw[hconf];exact tk h2 h4⟩
   ·have:after (bn s) (nth ks) (List.range ks.length) (List.range ks.length) (bn (eX 0 (C x)))=bn (lX ks (kr (nth ks) (C x))++s):=by
     funext k
     rw[AM (by rw[jf,h1]) hk.nd]
     simp only[after]
     cases hf:(List.range ks.length).find? (λj=>nth ks j==k) with
     | some j=>
      have hj:=List.mem_of_find?_eq_some hf
      simp at hj
      simp only[oB]
      have:j<(C x).length:=by omega
      rw[List.getElem?_eq_getElem this]
      have h6:=oM (i:=0) (List.getElem?_eq_getElem this)
      simp at h6
      rw[h6]
     | none=>
      have:(List.range ks.length).any (λj=>nth ks j==k)=false:=by
       rw[List.any_eq_false];intro j hj
       have:=List.find?_eq_none.1 hf j hj
       simpa using this
      simp[this]
    rw[this]
    refine ⟨λr hr=>⟨λp hp=>(let ⟨e,h1,h2⟩:=hst r hr p hp;⟨e,bW h1,h2⟩),λnm q=>?_⟩,hn⟩
    have hnk:=tn hnm r (List.mem_filter.1 hr).1 nm q
    refine ⟨λd' hd'=>?_,λk hk' e he=>?_⟩
    ·cases hd'
     simp only[eQ.jM,eQ.put,if_true]
     exact xA hnk h3
    ·obtain ⟨j,hj,rfl⟩:=List.mem_map.1 hk'
     have hj':j<ks.length:=by simpa using hj
     have hcl:j<(C x).length:=by omega
     rw[AM (by rw[jf,h1]) hk.nd] at he
     have hfd:(List.range ks.length).find? (λj'=>nth ks j'==nth ks j)=some j:=by
      cases hf:(List.range ks.length).find? (λj'=>nth ks j'==nth ks j) with
      | none=>have:=List.find?_eq_none.1 hf j (by simpa using hj');simp at this
      | some j2=>
       have h7:=List.find?_some hf
       have h8:=List.mem_of_find?_eq_some hf
       simp at h7 h8
       rw[pG hk.nd h8 hj' h7]
     rw[hfd] at he
     simp only[oB,List.getElem?_eq_getElem hcl,Option.map_some] at he
     injection he with he
     subst he
     have:=tk h2 (List.getElem?_eq_getElem hcl)
     generalize (C x)[j]=ce at this
     cases ce with
     | box cs=>exact pX hnk this
     | arr _ _ cs=>exact oI _ _
     | app _ _ cs=>exact oI _ _
  ·cases he
 ·rcases hr with ⟨_,_,he,_⟩|⟨v',hh,he,rfl⟩
  ·cases he
  ·cases he
   obtain ⟨h1,h2⟩:=hpan v hh
   refine ⟨{ Is:=λj e hj=>(by cases hj),val:=?_,inj:=hinj,same:=hsame },λfr' σ' hds _ _=>?_⟩
   ·exact tQ (λk hk=>by cases hk) h1
   ·rw[rE h1];exact h2 fr' σ' hds
end
end Go.Abs
end
section
namespace Go.Abs
structure sB where
 t:TypeId
 cells:List PV
def sB.av (p:sB):AV:=.ny p.t (.agg (p.cells.map .pv))
theorem sB.only (p:sB) (q:Nat->Bool):p.av.only q=true:=by simp[sB.av,AV.only,uZ]
inductive U (α:Type) where
 | stuck
 | mw (p:sB)
 | ok (a:α)
namespace U
variable {α β:Type}
def bind (x:U α) (k:α->U β):U β:=
 match x with
 | .stuck=>.stuck
 | .mw v=>.mw v
 | .ok a=>k a
def br (b:Bool) (x y:U α):U α:=match b with|true=>x|false=>y
def gd (p:Prop) [Decidable p] (x:U α):U α:=if p then x else .stuck
def el (l:List β) (i:Int) (k:β->U α):U α:=if 0<=i then (match l[i.toNat]? with|some x=>k x|none=>.stuck) else .stuck
def some? (x:Option β) (k:β->U α):U α:=match x with|some x=>k x|none=>.stuck
def jn {X:Type} (j:X->U α) (p:(X->U α)->U α):U α:=p j
def iter {X:Type} (body:(X->U α)->X->U α):Nat->X->U α
 | 0,_=>.stuck
 | n+1,x=>body (iter body n) x
theorem Ky {b:Bool} {x y r:U α} (hb:b=true) (h:br b x y=r):x=r:=by subst hb;exact h
theorem Kz {b:Bool} {x y r:U α} (hb:b=false) (h:br b x y=r):y=r:=by subst hb;exact h
theorem KA {p:Prop} [Decidable p] {x r:U α} (hr:r≠.stuck) (h:gd p x=r):p/\x=r:=by
 unfold gd at h;split at h
 ·exact ⟨‹p›,h⟩
 exact absurd h.symm hr
theorem Mt {l:List β} {i:Int} {k:β->U α} {r:U α} (hr:r≠.stuck) (h:el l i k=r):∃ x,0<=i/\i<l.length/\l[i.toNat]?=some x/\k x=r:=by
 unfold el at h;split at h
 ·rename_i h0;split at h
  ·rename_i x hx;have:=(List.getElem?_eq_some_iff.1 hx).1;exact ⟨x,h0,by omega,hx,h⟩
  exact absurd h.symm hr
 exact absurd h.symm hr
theorem KB {x:Option β} {k:β->U α} {r:U α} (hr:r≠.stuck) (h:some? x k=r):∃ y,x=some y/\k y=r:=by
 cases x with
 | none=>exact absurd h.symm hr
 | some y=>exact ⟨y,rfl,h⟩
end U
open U
class CT (P:outParam Program) (f:outParam FuncId) (args:outParam (List AV)) (es:outParam (List bh)) {X:Type} (res:U X) (V:outParam (X->AV)) (C:outParam (X->List bh)):Prop where
 h:∀ r,res=r->r≠.stuck->SC P f args (bn (eX 0 es)) (pH V C (λx=>r=.ok x) (λv=>∃ p,r=.mw p/\v=p.av))
section
variable {P:Program} {E:Env} {n:Nat} {ops:Array Oper} {Q:dU} {rest:List Oper} {l:List (Nat×AV)} {ds:List (FuncId×List AV)} {s:List (Nat×bh)}
 {ty:TypeId} {pos:String} {af:Array Edge}
theorem Ix {f:FuncId} {fn:Func} {c:Code} {args:List AV} {es:List bh} {X:Type} {res:U X} {V:X->AV} {C:X->List bh} (hf:P.funcs[f]?=some fn) (hb:fn.body=some c) (hn:Nat.ble args.length fn.ntmps=true)
  (h:∀ r,res=r->r≠.stuck->∀ E:Env,(∀ k,jt es k=true->E.fix k=none)->
   SW P E fn.ntmps c (nD P fn (pH V C (λx=>r=.ok x) (λv=>∃ p,r=.mw p/\v=p.av))) (bL ((List.range args.length).zip args) []) (bn (eX 0 es))):CT P f args es res V C:=
 ⟨λr hr hs=>Iw hf hb hn (h r hr hs)⟩
theorem iz {c:Operand} {x y:Code} {b:Bool} (hb:bj l c=some (Bo b)) (ht:b=true->SW P E n x Q (bL l ds) (bn s)) (hf:b=false->SW P E n y Q (bL l ds) (bn s)):SW P E n (.cond c x y) Q (bL l ds) (bn s):=
 Iq (N hb) ht hf
def uk (l G:List (Nat×AV)):List (Nat×AV)->Prop
 | []=>True
 | (i,_)::F=>jo l i=jo G i/\uk l G F
def vd (s G:List (Nat×bh)):List (Nat×bh)->Prop
 | []=>True
 | (i,_)::F=>dq s i=dq G i/\vd s G F
theorem z6 {l:List (Nat×AV)} {i:Nat}:lV l i=(jo l i).getD .any:=by
 induction l with
 | nil=>rfl
 | cons a l ih=>
  obtain ⟨j,v⟩:=a
  simp only[lV,jo]
  by_cases q:i=j
  ·subst q;simp
  ·have:Nat.beq i j=false:=by
    cases h:Nat.beq i j with
    | false=>rfl
    | true=>exact absurd (Nat.eq_of_beq_eq_true h) q
   simp[this,q,ih]
theorem sb {l:List (Nat×bh)} {i:Nat}:lI l i=dq l i:=by
 induction l with
 | nil=>rfl
 | cons a l ih=>
  obtain ⟨j,v⟩:=a
  simp only[lI,dq]
  by_cases q:i=j
  ·subst q;simp
  ·have:Nat.beq i j=false:=by
    cases h:Nat.beq i j with
    | false=>rfl
    | true=>exact absurd (Nat.eq_of_beq_eq_true h) q
   simp[this,q,ih]
theorem qg {l G:List (Nat×AV)}:∀ {F:List (Nat×AV)},uk l G F->∀ p∈F,lV l p.1=lV G p.1
 | [],_,p,hp=>by cases hp
 | (i,v)::F,h,p,hp=>by
  rcases List.mem_cons.1 hp with q|q
  ·subst q;rw[z6,z6,h.1]
  exact qg h.2 p q
theorem sd {s G:List (Nat×bh)}:∀ {F:List (Nat×bh)},vd s G F->∀ p∈F,lI s p.1=lI G p.1
 | [],_,p,hp=>by cases hp
 | (i,v)::F,h,p,hp=>by
  rcases List.mem_cons.1 hp with q|q
  ·subst q;rw[sb,sb,h.1]
  exact sd h.2 p q
theorem D2 {c:Code} (l':List (Nat×AV)) (s':List (Nat×bh)) (h1:uk l l' l') (h2:vd s s' s') (h:SW P E n c Q (bL l' ds) (bn s')):SW P E n c Q (bL l ds) (bn s):=
 DO (AI (qg h1)) (AJ (sd h2)) h
theorem Iy {X:Type} {x y:Code} (F:X->List (Nat×AV)) (H:X->List (Nat×bh)) (G:X->Prop)
  (hy:∀ v,G v->SW P E n y Q (bL (F v) ds) (bn (H v)))
  (hx:∀ K:eQ->cl->Prop,(∀ v l s,G v->uk l (F v) (F v)->vd s (H v) (H v)->K (bL l ds) (bn s))->SW P E n x (s9 K Q) (bL l ds) (bn s)):SW P E n (.seq x y) Q (bL l ds) (bn s):=
 FU (hx _ λv _ _ hg h1 h2=>D2 (F v) (H v) h1 h2 (hy v hg))
theorem ET {X R:Type} {c:Code} (F:X->List (Nat×AV)) (H:X->List (Nat×bh)) (body:(X->U R)->X->U R) (r:U R) (m:Nat) (v:X) (hr:r≠.stuck) (h0:iter body m v=r)
  (h1:uk l (F v) (F v)) (h2:vd s (H v) (H v))
  (hx:∀ (next:X->U R) (v:X) (K:eQ->cl->Prop),(∀ v l s,next v=r->uk l (F v) (F v)->vd s (H v) (H v)->K (bL l ds) (bn s))->body next v=r->SW P E n c (s9 K Q) (bL (F v) ds) (bn (H v))) :
  SW P E n (.loop c) Q (bL l ds) (bn s):=by
 refine D2 (F v) (H v) h1 h2 (Ir (λk fr σ=>∃ v,iter body k v=r/\fr.le (bL (F v) ds)/\∀ j e,bn (H v) j=some e->σ j=some e) m ⟨v,h0,⟨λ_=>.inl rfl,rfl⟩,λ_ _ h=>h⟩ ?_)
 rintro k fr σ ⟨v,hv,hle,hsub⟩
 cases k with
 | zero=>exact absurd hv.symm hr
 | succ k=>
  refine DO hle hsub (hx (iter body k) v _ ?_ hv)
  intro v' l' s' hv' hf hs
  exact ⟨k,Nat.lt_succ_self k,v',hv',AI (qg hf),AJ (sd hs)⟩
end
end Go.Abs
end
section
namespace Go.Abs
open U
theorem z7 {α:Type} {f:α->List PV} {sz:Nat} (hf:∀ x,(f x).length=sz):∀ {l:List α} {i:Nat} {x:α},l[i]?=some x->
  (l.flatMap f).drop (i*sz)=f x++(l.flatMap f).drop ((i+1)*sz):=by
 intro l
 induction l with
 | nil=>intro i x h;simp at h
 | cons a l ih=>
  intro i x h
  cases i with
  | zero=>
   simp at h;subst h
   rw[List.flatMap_cons,Nat.zero_mul,List.drop_zero,Nat.zero_add,Nat.one_mul,<- hf a,List.drop_left]
  | succ i=>
   have h1:=ih (i:=i) (x:=x) (by simpa using h)
   have h2:∀ j,(f a++l.flatMap f).drop ((j+1)*sz)=(l.flatMap f).drop (j*sz):=λj=>by
    rw[Nat.succ_mul,Nat.add_comm,<- hf a,<- List.drop_drop,List.drop_left]
   rw[List.flatMap_cons,h2,h2,h1]
theorem jg {α:Type} {f:α->List PV} {sz:Nat} (hf:∀ x,(f x).length=sz):∀ (l:List α),(l.flatMap f).length=l.length*sz
 | []=>by simp
 | a::l=>by simp[jg hf l,hf a,Nat.succ_mul,Nat.add_comm]
section
variable {P:Program} {l:List (Nat×AV)} {ds:List (FuncId×List AV)} {s:List (Nat×bh)}
theorem iy.two {op:Op} {v:AV} {k j:Nat} {e e':bh} (hk:dq s k=some e) (hj:dq s j=some e') (h:fD P op (bL l ds) [(k,e),(j,e')] v):iy P op l ds s v [(k,e),(j,e')]:=
 ⟨h,λp hp=>by
  simp at hp;rcases hp with q|q
  ·subst q;exact ⟨_,bW hk,bh.le_refl _⟩
  subst q;exact ⟨_,bW hj,bh.le_refl _⟩⟩
theorem fD.BD {op:Op} {fr:eQ} {rd:List (Nat×bh)} {v v':AV} (h:fD P op fr rd v) (hle:v.le v'):fD P op fr rd v':=λo ho g ev w hG hv hr=>
 let ⟨c,h1,h2⟩:=h o ho g ev w hG hv hr;⟨c,h1,hle g c h2⟩
theorem iy.BD {op:Op} {v v':AV} {rd:List (Nat×bh)} (h:iy P op l ds s v rd) (hle:v.le v'):iy P op l ds s v' rd:=⟨h.h.BD hle,h.r⟩
theorem AV.LD:(Sc (.pointer none)).le (.pv (.pt none)):=λg c h=>by rw[h.c6];exact .pv .FE
theorem KC {x:Operand} {k m sz:Nat} {el:TypeId} {cells:List PV} (hx:bj l x=some (.arr k m)) (hk:dq s k=some (.app el sz cells)) (hz:Nat.blt 0 sz=true) (hn:cells.length=m*sz) :
 iy P (.move x) l ds s (.pv (.sl m cells)) [(k,.app el sz cells)]:=.on hk (Av (N hx) (by simpa[Nat.blt_eq] using hz) hn)
theorem F3 {t:TypeId} {x:Operand} {k j off m sz:Nat} {el:TypeId} {cells:List PV} {e:bh} [ha:je P t false] (hx:bj l x=some (.ptr k off)) (hk:dq s k=some e)
 (hv:e.cells[off]?=some (.arr j m)) (hj:dq s j=some (.app el sz cells)) (hz:Nat.blt 0 sz=true) (hn:cells.length=m*sz) :
 iy P (.load t x) l ds s (.pv (.sl m cells)) [(k,e),(j,.app el sz cells)]:=.two hk hj (Aw ha.h (N hx) hv (by simpa[Nat.blt_eq] using hz) hn)
theorem rj {α:Type} {f:α->List PV} {Cs:List α->List PV} {t e:TypeId} {sz m:Nat} {x ix:Operand} {k:IntKind} {i:Int} {xs:List α} {a:α} [ht:CX P t e sz]
  (n5:∀ l,Cs l=l.flatMap f) (hf:∀ x,(f x).length=sz) (h0:0<=i) (h1:i<xs.length) (ha:xs[i.toNat]?=some a)
  (hx:bj l x=some (.pv (.sl m (Cs xs)))) (hm:m=xs.length) (hi:bj l ix=some (Sc (.int k i))) :
  iy P (.indexAddr t x ix) l ds s (.sp (f a++(xs.flatMap f).drop ((i.toNat+1)*sz))) []:=by
 subst hm
 rw[n5] at hx
 refine Iu hx hi h0 h1 ?_ (by rw[z7 hf ha])
 rw[jg hf];exact Nat.mul_le_mul_right _ (by omega)
theorem tp {parts:List (Nat×Operand)} {pv:List (Nat×AV)} (h:parts.mapM (λp=>(bj l p.2).map λv=>(p.1,v))=some pv):(parts.map λp=>(p.1,(bL l ds).val p.2))=pv:=by
 have key:∀ (ps:List (Nat×Operand)) (pv:List (Nat×AV)),ps.mapM (λp=>(bj l p.2).map λv=>(p.1,v))=some pv->(ps.map λp=>(p.1,(bL l ds).val p.2))=pv:=by
  intro ps
  induction ps with
  | nil=>intro pv h;simp at h;simp[h]
  | cons p ps ih=>
   intro pv h
   rw[List.mapM_cons] at h
   cases hv:bj l p.2 with
   | none=>simp[hv] at h
   | some v=>
    cases hr:ps.mapM (λp=>(bj l p.2).map λv=>(p.1,v)) with
    | none=>simp[hv,hr] at h
    | some r=>
     simp[hv,hr] at h
     subst h
     simp[ih r hr,N (ds:=ds) hv]
 exact key parts pv h
def pI (k:Nat):List (Nat×bh)->List (Nat×bh)
 | []=>[]
 | (j,e)::s=>match Nat.beq j k with
  | true=>pI k s
  | false=>(j,e)::pI k s
theorem qW {k:Nat}:∀ {s:List (Nat×bh)},bn (pI k s)=(bn s).del k
 | []=>by funext j;simp[pI,bn,lI,cl.del]
 | (i,e)::s=>by
  have ih:=qW (k:=k) (s:=s);funext j;have ihj:=congrFun ih j;simp only[bn,cl.del] at ihj;simp only[pI];split
  ·rename_i q;have hik:=Nat.eq_of_beq_eq_true q;subst hik;simp only[bn,lI,cl.del];rw[ihj];split<;>simp_all
  rename_i q;have hik:i≠k:=λh=>by subst h;simp at q
  simp only[bn,lI,cl.del];by_cases hj:j=i
  ·subst hj;simp[hik]
  simp only[hj,if_false];exact ihj
theorem Iz {xt yt el:TypeId} {fr:eQ} {x y:Operand} {o:Option (List PV)} (ht:P.underlying xt=some (.pointer el)) (hx:fr.val x=.pv (.pt o)) (hy:fr.val y=Sc (.pointer none)) :
  fD P (.binOp .eql xt x y yt) fr [] (Bo o.isNone):=by
 intro o' ho g ev w _ hv _
 have q1:=hv x (by simp[Op.operands]);rw[hx] at q1
 have q2:=hv y (by simp[Op.operands]);rw[hy] at q2
 generalize hq:ev x=c at q1
 cases q1 with
 | pv q1=>cases q1 with
  | FE=>
   refine ⟨.bool true,?_,.pv (.sc _)⟩
   simp only[execOp,ho,hq,q2.c6,binOp,Sem.run_bind,qP,Sem.run_pure,Result.andThen_ok];simp[Op.equal,Op.maxDepth,mR ht 9999]
  | Fx=>
   refine ⟨.bool false,?_,.pv (.sc _)⟩
   simp only[execOp,ho,hq,q2.c6,eqGuard,binOp];simp[Op.equal,Op.maxDepth,mT ht 9999]
theorem IA {xt yt el:TypeId} {fr:eQ} {x y:Operand} {o:Option (List PV)} (ht:P.underlying xt=some (.pointer el)) (hx:fr.val x=.pv (.pt o)) (hy:fr.val y=Sc (.pointer none)) :
  fD P (.binOp .neq xt x y yt) fr [] (Bo o.isSome):=by
 intro o' ho g ev w _ hv _
 have q1:=hv x (by simp[Op.operands]);rw[hx] at q1
 have q2:=hv y (by simp[Op.operands]);rw[hy] at q2
 generalize hq:ev x=c at q1
 cases q1 with
 | pv q1=>cases q1 with
  | FE=>
   refine ⟨.bool false,?_,.pv (.sc _)⟩
   simp only[execOp,ho,hq,q2.c6,binOp,Sem.run_bind,qP,Sem.run_pure,Result.andThen_ok];simp[Op.equal,Op.maxDepth,mR ht 9999]
  | Fx=>
   refine ⟨.bool true,?_,.pv (.sc _)⟩
   simp only[execOp,ho,hq,q2.c6,eqGuard,binOp];simp[Op.equal,Op.maxDepth,mT ht 9999]
theorem F4 {fr:eQ} {x:Operand} {c:List PV} (hx:fr.val x=.pv (.pt (some c))):fD P (.nilCheck x) fr [] (.sp c):=by
 intro o ho g ev w _ hv _;have h1:=hv x (by simp[Op.operands]);rw[hx] at h1;generalize hq:ev x=c at h1;cases h1 with
 | pv h1=>cases h1 with
  | Fx b ys off cells h hl hc=>exact ⟨_,by simp[execOp,ho,hq],.sp off h hl hc⟩
theorem uA {xt yt el:TypeId} {x y:Operand} {o:Option (List PV)} [ht:kI P xt (.pointer el)] (hx:bj l x=some (.pv (.pt o))) (hy:bj l y=some (Sc (.pointer none))) :
 iy P (.binOp .eql xt x y yt) l ds s (Bo o.isNone) []:=.of (Iz ht.h (N hx) (N hy))
theorem uB {xt yt el:TypeId} {x y:Operand} {o:Option (List PV)} [ht:kI P xt (.pointer el)] (hx:bj l x=some (.pv (.pt o))) (hy:bj l y=some (Sc (.pointer none))) :
 iy P (.binOp .neq xt x y yt) l ds s (Bo o.isSome) []:=.of (IA ht.h (N hx) (N hy))
theorem tR {x:Operand} {c:List PV} (hx:bj l x=some (.pv (.pt (some c)))):iy P (.nilCheck x) l ds s (.sp c) []:=.of (F4 (N hx))
theorem iN {c a b:Operand} {v:AV} {t:Bool} (ht:t=true) (hc:bj l c=some (Bo t)) (ha:bj l a=some v):iy P (.pick c a b) l ds s v []:=by subst ht;exact tP hc ha
theorem ja {c a b:Operand} {v:AV} {t:Bool} (ht:t=false) (hc:bj l c=some (Bo t)) (hb:bj l b=some v):iy P (.pick c a b) l ds s v []:=by subst ht;exact jN hc hb
theorem tq {xt yt:TypeId} {x y:Operand} {k:IntKind} {a b:Int} (hx:bj l x=some (Sc (.int k a))) (hy:bj l y=some (Sc (.int k b))):iy P (.binOp .add xt x y yt) l ds s (Sc (.int k (k.wrap (a+b)))) []:=
 .of (DJ (N hx) (N hy))
theorem tt {xt yt:TypeId} {x y:Operand} {k:IntKind} {a b:Int} (hx:bj l x=some (Sc (.int k a))) (hy:bj l y=some (Sc (.int k b))):iy P (.binOp .sub xt x y yt) l ds s (Sc (.int k (k.wrap (a - b)))) []:=
 .of (DK (N hx) (N hy))
theorem vR {xt yt:TypeId} {x y:Operand} {k:IntKind} {a b:Int} (hx:bj l x=some (Sc (.int k a))) (hy:bj l y=some (Sc (.int k b))):iy P (.binOp .mul xt x y yt) l ds s (Sc (.int k (k.wrap (a*b)))) []:=
 .of (Im (N hx) (N hy))
theorem lN {a b:TypeId} {x:Operand} {k k':IntKind} {v:Int} [hs:kI P a (.int k')] [ht:kI P b (.int k)] (hx:bj l x=some (Sc (.int k' v))):iy P (.convert a b x) l ds s (Sc (.int k (k.wrap v))) []:=
 .of (C3 hs.h ht.h (N hx))
end
section
variable {P:Program} {E:Env} {n:Nat} {ops:Array Oper} {Q:dU} {rest:List Oper} {l:List (Nat×AV)} {ds:List (FuncId×List AV)} {s:List (Nat×bh)}
 {ty:TypeId} {pos:String} {af:Array Edge}
theorem LF {d j g:Nat} {op:Op} {v:AV} {rd:List (Nat×bh)} {want b:Bool} (hb:b=want) (hj:(ops[j]?).bind (·.dst)=some g/\jo l g=some (Bo b))
  (h:iy P op l ds s v rd) (hd:Nat.blt d n=true) (hn:SL P E n ops Q rest (bL ((d,v)::l) ds) (bn s)):SL P E n ops Q (⟨some d,op,ty,pos,af,some (j,want)⟩::rest) (bL l ds) (bn s):=by
 subst hb;exact Kt hj h hd hn
theorem J0 {d j g:Nat} {op:Op} {want b:Bool} (hb:b = !want) (hj:(ops[j]?).bind (·.dst)=some g/\jo l g=some (Bo b)) (hd:Nat.blt d n=true)
  (hn:SL P E n ops Q rest (bL ((d,Sc undef)::l) ds) (bn s)):SL P E n ops Q (⟨some d,op,ty,pos,af,some (j,want)⟩::rest) (bL l ds) (bn s):=by
 subst hb;exact Lx ⟨hj.1,hj.2,by cases want<;>rfl⟩ hd hn
theorem F5 {d:Nat} {t e:TypeId} {m sz:Nat} {parts:List (Nat×Operand)} {zs:List Value} {pl:List (Nat×Nat)} {pv:List (Nat×AV)} {cells:List PV} [ht:ku P t m e sz zs pl] (nm:Nat) (hE:E.fix nm=none)
  (h:parts.mapM (λp=>(bj l p.2).map λv=>(p.1,v))=some pv/\lU pl (zs.map λv=>.pv (.sc v)) pv=some (cells.map .pv)/\cells.length=m*sz/\Nat.ble m 1000=true)
  (hm:lL nm l=false/\kt nm ds=false/\nC nm s=false) (hd:Nat.blt d n=true)
  (hn:SL P E n ops Q rest (bL ((d,.arr nm m)::l) ds) (bn ((nm,.app e sz cells)::s))):SL P E n ops Q (⟨some d,.buildSlice t m parts.toArray,ty,pos,af,none⟩::rest) (bL l ds) (bn s):=by
 refine kG rfl (AF (wu nm ht.h ?_ h.2.2.1 (Nat.le_trans (Nat.le_of_ble_eq_true h.2.2.2) (by simp[maxLen]))) (hY hm.1 hm.2.1) (kY hm.2.2) hE (nv hd) hn)
 rw[tp h.1];exact h.2.1
end
end Go.Abs
end
section
namespace Go.Abs
open U
section
variable {P:Program} {E:Env} {n:Nat} {ops:Array Oper} {Q:dU} {B:List Rec->eQ->cl->Prop} {i:Nat} {L:List Nat} {recs:List Rec} {l:List (Nat×AV)} {ds:List (FuncId×List AV)} {s:List (Nat×bh)}
 {ty:TypeId} {pos:String} {af:Array Edge}
theorem dr {d j g:Nat} {op:Op} {v:AV} {rd:List (Nat×bh)} {want b:Bool} (hb:b=want) (ho:ops[i]?=some ⟨some d,op,ty,pos,af,some (j,want)⟩)
  (hj:(ops[j]?).bind (·.dst)=some g/\jo l g=some (Bo b)) (h:iy P op l ds s v rd)
  (hc:dI ⟨some d,op,ty,pos,af,some (j,want)⟩=false/\Nat.blt d n=true/\wA ops i v rd recs=true)
  (hn:kZ P E n ops Q B L (⟨i,some d,rd,none⟩::recs) (bL ((d,v)::l) ds) (bn s)):kZ P E n ops Q B (i::L) recs (bL l ds) (bn s):=by
 subst hb;exact Kv ho hj h hc hn
theorem bR {d j g:Nat} {op:Op} {want b:Bool} (hb:b = !want) (ho:ops[i]?=some ⟨some d,op,ty,pos,af,some (j,want)⟩)
  (hj:(ops[j]?).bind (·.dst)=some g/\jo l g=some (Bo b)) (hc:dI ⟨some d,op,ty,pos,af,some (j,want)⟩=false/\Nat.blt d n=true)
  (hn:kZ P E n ops Q B L (⟨i,some d,[],none⟩::recs) (bL ((d,Sc undef)::l) ds) (bn s)):kZ P E n ops Q B (i::L) recs (bL l ds) (bn s):=by
 subst hb;exact LC ho ⟨hj.1,hj.2,by cases want<;>rfl⟩ hc hn
theorem uC {d j g:Nat} {op:Op} {want b:Bool} (hb:b = !want) (ho:ops[i]?=some ⟨some d,op,ty,pos,af,some (j,want)⟩)
  (hj:(ops[j]?).bind (·.dst)=some g/\jo l g=some (Bo b)) (hc:dI ⟨some d,op,ty,pos,af,some (j,want)⟩=true/\Nat.blt d n=true)
  (hn:kZ P E n ops Q B L recs (bL ((d,Sc undef)::l) ds) (bn s)):kZ P E n ops Q B (i::L) recs (bL l ds) (bn s):=by
 subst hb;exact Kw ho ⟨hj.1,hj.2,by cases want<;>rfl⟩ hc hn
theorem cE {id:Nat} {fr:eQ} {σ:cl} (L:List Nat) (hm:P.follows .mixedOrders=true) (hchk:Mm ops L=true) (h:DW P E n ops Q L [] fr σ):SW P E n (.region id ops true) Q fr σ:=It L hm hchk h
end
theorem lY {α β:Type} {x:U α} {k:α->U β} {r:U β} (hr:r≠.stuck) (h:U.bind x k=r):x≠.stuck/\(∀ a,x=.ok a->k a=r)/\∀ p,x=.mw p->r=.mw p:=by
 cases x with
 | stuck=>exact absurd h.symm hr
 | mw p=>exact ⟨by simp,λ_ q=>by simp at q,λq hq=>by cases hq;exact h.symm⟩
 | ok a=>exact ⟨by simp,λb q=>by cases q;exact h,λ_ q=>by simp at q⟩
section
variable {P:Program} {E:Env} {n:Nat} {ops:Array Oper} {Q:dU} {rest:List Oper} {l:List (Nat×AV)} {ds:List (FuncId×List AV)} {s:List (Nat×bh)}
 {ty:TypeId} {pos:String} {af:Array Edge}
theorem BT {o:Oper} {X R:Type} {res:U X} {kk:X->U R} {r:U R} {V V':X->AV} {C:X->List bh} {C':X->List (Nat×bh)} {f:Operand} {args:List Operand} {ts:Array TypeId} {fid:FuncId}
  {argsC first cap vs:List AV} {es:List bh} {next:eQ->cl->Prop} (hr:r≠.stuck) (h:U.bind res kk=r) {l':List (Nat×AV)} (hwk:(bL l ds).le (bL l' ds)) (ks:List Nat) (hen:Enters P fid) (ho:o.op=.call ⟨.value f,args.toArray,ts⟩)
  (hC:CT P fid argsC es res V C) (hk:nc E ds l s ks f args fid argsC es first cap vs l') (hd:∀ d,o.dst=some d->d<n)
  (hx:∀ x,(C x).length=ks.length/\kf (below ks.length) (C x)=true/\(V x).only (below ks.length)=true)
  (hV:∀ x,(V x).hQ (nth ks)=V' x/\lX ks (kr (nth ks) (C x))=C' x)
  (hpan:∀ p fr σ,fr.ds=ds->r=.mw p->Q (.panic p.av) fr σ)
  (hret:∀ x,kk x=r->next ((bL l' ds).jM o.dst (V' x)) (bn (C' x++s))):Step P E n Q o (bL l ds) (bn s) next:=by
 obtain ⟨hns,hok,hp⟩:=lY hr h
 refine xx hwk ks hen ho (hC.h res rfl hns) hk hd (λx _=>hx x) (λx hg=>?_) (λv hv=>?_)
 ·have:=hret x (hok x hg)
  rw[<- (hV x).1,<- (hV x).2] at this;exact this
 ·obtain ⟨p,hp1,rfl⟩:=hv
  exact ⟨p.only _,hpan p _ _ rfl (hp p hp1)⟩
theorem D3 {o:Oper} {X R:Type} {res:U X} {kk:X->U R} {r:U R} {V V':X->AV} {C:X->List bh} {C':X->List (Nat×bh)} {f:Operand} {args:List Operand} {ts:Array TypeId} {fid:FuncId}
  {argsC first cap vs:List AV} {es:List bh} {next:eQ->cl->Prop} (hr:r≠.stuck) (h:U.bind res kk=r) (ks:List Nat) (hen:Enters P fid) (ho:o.op=.call ⟨.value f,args.toArray,ts⟩)
  (hC:CT P fid argsC es res V C) (hk:nc E ds l s ks f args fid argsC es first cap vs) (hd:∀ d,o.dst=some d->d<n)
  (hx:∀ x,(C x).length=ks.length/\kf (below ks.length) (C x)=true/\(V x).only (below ks.length)=true)
  (hV:∀ x,(V x).hQ (nth ks)=V' x/\lX ks (kr (nth ks) (C x))=C' x)
  (hpan:∀ p fr σ,fr.ds=ds->r=.mw p->Q (.panic p.av) fr σ)
  (hret:∀ x,kk x=r->next ((bL l ds).jM o.dst (V' x)) (bn (C' x++s))):Step P E n Q o (bL l ds) (bn s) next:=
 BT hr h ⟨λ_=>.inl rfl,rfl⟩ ks hen ho hC hk hd hx hV hpan hret
theorem oa {d:Nat} {X R:Type} {res:U X} {kk:X->U R} {r:U R} {V V':X->AV} {C:X->List bh} {C':X->List (Nat×bh)} {f:Operand} {args:List Operand} {ts:Array TypeId} {fid:FuncId}
  {argsC first cap vs:List AV} {es:List bh} (hr:r≠.stuck) (h:U.bind res kk=r) (ks:List Nat) (hen:Enters P fid)
  (hC:CT P fid argsC es res V C) (hk:nc E ds l s ks f args fid argsC es first cap vs) (hd:Nat.blt d n=true)
  (hx:∀ x,(C x).length=ks.length/\kf (below ks.length) (C x)=true/\(V x).only (below ks.length)=true)
  (hV:∀ x,(V x).hQ (nth ks)=V' x/\lX ks (kr (nth ks) (C x))=C' x)
  (hpan:∀ p fr σ,fr.ds=ds->r=.mw p->Q (.panic p.av) fr σ)
  (hret:∀ x,kk x=r->SL P E n ops Q rest (bL ((d,V' x)::l) ds) (bn (C' x++s))) :
  SL P E n ops Q (⟨some d,.call ⟨.value f,args.toArray,ts⟩,ty,pos,af,none⟩::rest) (bL l ds) (bn s):=
 kG rfl (D3 hr h ks hen rfl hC hk (nv hd) hx hV hpan hret)
theorem KD {d:Nat} {X R:Type} {res:U X} {kk:X->U R} {r:U R} {V V':X->AV} {C:X->List bh} {C':X->List (Nat×bh)} {f:Operand} {args:List Operand} {ts:Array TypeId} {fid:FuncId}
  {argsC first cap vs:List AV} {es:List bh} (l':List (Nat×AV)) (hwk:uk l l' l') (hr:r≠.stuck) (h:U.bind res kk=r) (ks:List Nat) (hen:Enters P fid)
  (hC:CT P fid argsC es res V C) (hk:nc E ds l s ks f args fid argsC es first cap vs l') (hd:Nat.blt d n=true)
  (hx:∀ x,(C x).length=ks.length/\kf (below ks.length) (C x)=true/\(V x).only (below ks.length)=true)
  (hV:∀ x,(V x).hQ (nth ks)=V' x/\lX ks (kr (nth ks) (C x))=C' x)
  (hpan:∀ p fr σ,fr.ds=ds->r=.mw p->Q (.panic p.av) fr σ)
  (hret:∀ x,kk x=r->SL P E n ops Q rest (bL ((d,V' x)::l') ds) (bn (C' x++s))) :
  SL P E n ops Q (⟨some d,.call ⟨.value f,args.toArray,ts⟩,ty,pos,af,none⟩::rest) (bL l ds) (bn s):=
 kG rfl (BT hr h (AI (qg hwk)) ks hen rfl hC hk (nv hd) hx hV hpan hret)
theorem F6 {d j g:Nat} {want b:Bool} {X R:Type} {res:U X} {kk:X->U R} {r:U R} {V V':X->AV} {C:X->List bh} {C':X->List (Nat×bh)} {f:Operand} {args:List Operand} {ts:Array TypeId} {fid:FuncId}
  {argsC first cap vs:List AV} {es:List bh} (hb:b=want) (hj:(ops[j]?).bind (·.dst)=some g/\jo l g=some (Bo b)) (hr:r≠.stuck) (h:U.bind res kk=r) (ks:List Nat) (hen:Enters P fid)
  (hC:CT P fid argsC es res V C) (hk:nc E ds l s ks f args fid argsC es first cap vs) (hd:Nat.blt d n=true)
  (hx:∀ x,(C x).length=ks.length/\kf (below ks.length) (C x)=true/\(V x).only (below ks.length)=true)
  (hV:∀ x,(V x).hQ (nth ks)=V' x/\lX ks (kr (nth ks) (C x))=C' x)
  (hpan:∀ p fr σ,fr.ds=ds->r=.mw p->Q (.panic p.av) fr σ)
  (hret:∀ x,kk x=r->SL P E n ops Q rest (bL ((d,V' x)::l) ds) (bn (C' x++s))) :
  SL P E n ops Q (⟨some d,.call ⟨.value f,args.toArray,ts⟩,ty,pos,af,some (j,want)⟩::rest) (bL l ds) (bn s):=by
 subst hb
 exact uQ rfl hj.1 (ff hj.2) (nv hd) (λ_=>D3 hr h ks hen rfl hC hk (nv hd) hx hV hpan hret) (λq=>absurd rfl q)
end
section
variable {P:Program} {E:Env} {n:Nat} {ops:Array Oper} {Q:dU} {B:List Rec->eQ->cl->Prop} {i:Nat} {L:List Nat} {recs:List Rec} {l:List (Nat×AV)} {ds:List (FuncId×List AV)} {s:List (Nat×bh)}
 {ty:TypeId} {pos:String} {af:Array Edge}
theorem hO {d:Nat} {X R:Type} {res:U X} {kk:X->U R} {r:U R} {V V':X->AV} {C:X->List bh} {C':X->List (Nat×bh)} {f:Operand} {args:List Operand} {ts:Array TypeId} {fid:FuncId}
  {argsC first cap vs:List AV} {es:List bh} {gd:Option (Nat×Bool)} (ho:ops[i]?=some ⟨some d,.call ⟨.value f,args.toArray,ts⟩,ty,pos,af,gd⟩)
  (hw:iQ ops ⟨some d,.call ⟨.value f,args.toArray,ts⟩,ty,pos,af,gd⟩ (bL l ds)) (hr:r≠.stuck) (h:U.bind res kk=r) (ks:List Nat) (hen:Enters P fid)
  (hC:CT P fid argsC es res V C) (hk:nc E ds l s ks f args fid argsC es first cap vs) (hd:Nat.blt d n=true) (hnm:tm ks recs=true)
  (hx:∀ x,(C x).length=ks.length/\kf (below ks.length) (C x)=true/\(V x).only (below ks.length)=true)
  (hV:∀ x,(V x).hQ (nth ks)=V' x/\lX ks (kr (nth ks) (C x))=C' x)
  (hpan:∀ p fr σ,fr.ds=ds->r=.mw p->Q (.panic p.av) fr σ)
  (hret:∀ x,kk x=r->lJ ops i (C' x++s) recs/\kZ P E n ops Q B L recs (bL ((d,V' x)::l) ds) (bn (C' x++s))):kZ P E n ops Q B (i::L) recs (bL l ds) (bn s):=by
 obtain ⟨hns,hok,hp⟩:=lY hr h
 refine D1 ho hw ks hen (hC.h res rfl hns) hk hd hnm (λx _=>hx x) (λv hv=>?_) (λx hg v' s' hv hs=>?_)
 ·obtain ⟨p,hp1,rfl⟩:=hv
  exact ⟨p.only _,λfr' σ' hds=>hpan p _ _ hds (hp p hp1)⟩
 ·have:=hret x (hok x hg)
  rw[<- (hV x).1,<- (hV x).2] at this
  subst hv hs;exact this
theorem da {o:Oper} {fr:eQ} (h:o.guard=none):iQ ops o fr:=.inl h
theorem D4 {o:Oper} {j g:Nat} {want b:Bool} (hb:b=want) (h:o.guard=some (j,want)) (hj:(ops[j]?).bind (·.dst)=some g/\jo l g=some (Bo b)):iQ ops o (bL l ds):=by
 subst hb;exact .inr ⟨j,b,g,h,hj.1,ff hj.2⟩
end
theorem F7 {P:Program} {fn:Func} {X:Type} {V:X->AV} {C:X->List bh} {r:U X} {p:sB} {fr:eQ} {σ:cl} (hd:fr.ds=[]) (h:r=.mw p) :
 nD P fn (pH V C (λx=>r=.ok x) (λv=>∃ p,r=.mw p/\v=p.av)) (.panic p.av) fr σ:=C9 hd ⟨p,h,rfl⟩
end Go.Abs
end
section
namespace Go.Abs
open U
theorem Rel.wX {E:Env} {g:Gh} {σ:cl} {w:World} (h:Rel E g σ w) {nm sz:Nat} {el:TypeId} (hc:σ.clear nm) (hf:E.fix nm=none) :
  Rel E (g.unbind nm) (σ.set nm (.app el sz [])) w:=by
 have hle:=lj.unbind g nm
 have hρ:∀ j,j≠nm->(g.unbind nm).ρ j=g.ρ j:=λj q=>by simp[Gh.unbind,q]
 have hρn:(g.unbind nm).ρ nm=none:=by simp[Gh.unbind]
 have hne:∀ j e,σ.set nm (.app el sz []) j=some e->j≠nm->σ j=some e:=λj e hj q=>by simpa[cl.set,q] using hj
 have hnes:∀ j,(σ.set nm (.app el sz []) j).isSome=true->j≠nm->(σ j).isSome=true:=λj hj q=>by simpa[cl.set,q] using hj
 refine { kX:=?_,inj:=?_,gl:=?_,apart:=?_,size:=h.size,pV:=h.pV,own:=?_,fix:=?_,ke:=?_,g0:=h.g0,gn:=h.gn,os:=h.os,out:=h.out,tape:=h.tape,x:=h.x.sZ rfl rfl (λj b hj hb=>by
   by_cases q:j=nm
   ·subst q;rw[hρn] at hb;cases hb
   ·exact ⟨j,hnes j hj q,by rw[<- hρ j q];exact hb,.inl rfl⟩) (λj b e' hfj hj=>by
   have q:j≠nm:=λq=>by subst q;rw[hf] at hfj;cases hfj
   exact ⟨e',hne j _ hj q,id⟩) }
 ·intro k e hk
  by_cases q:k=nm
  ·subst q;simp[cl.set] at hk;subst hk;exact .xd hρn
  ·have hk':=hne k e hk q
   exact (h.kX k e hk').le hle q (λ_ _ _=>rfl) (λj hj=>by subst hj;exact hc k e hk') (λ_ _=>rfl)
 ·intro k k' b hk hk' hb hb'
  by_cases q:k=nm
  ·subst q;rw[hρn] at hb;cases hb
  ·by_cases q':k'=nm
   ·subst q';rw[hρn] at hb';cases hb'
   ·rw[hρ k q] at hb;rw[hρ k' q'] at hb'
    exact h.inj k k' b (hnes k hk q) (hnes k' hk' q') hb hb'
 ·exact h.gl.le hle rfl (λ_ _ _=>rfl)
 ·intro k b e hk hka hb
  by_cases q:k=nm
  ·subst q;rw[hρn] at hb;cases hb
  ·rw[hρ k q] at hb;exact h.apart k b e (hne k e hk q) hka hb
 ·intro k b hk hb
  by_cases q:k=nm
  ·subst q;rw[hρn] at hb;cases hb
  ·rw[hρ k q] at hb;exact h.own k b (hnes k hk q) hb
 ·intro k b hk
  have q:k≠nm:=λq=>by subst q;rw[hf] at hk;cases hk
  rw[hρ k q];exact h.fix k b hk
 ·intro k b hk
  have q:k≠nm:=λq=>by subst q;rw[hf] at hk;cases hk
  have:(g.unbind nm).cp k=g.cp k:=rfl
  rw[this];exact h.ke k b hk
section
variable {P:Program} {E:Env} {n:Nat} {ops:Array Oper} {Q:dU} {rest:List Oper} {c:Code} {l:List (Nat×AV)} {ds:List (FuncId×List AV)} {s:List (Nat×bh)}
def fC (E:Env) (n:Nat) (l:List (Nat×AV)) (ds:List (FuncId×List AV)) (s:List (Nat×bh)) (l':List (Nat×AV)) (s':List (Nat×bh)):Prop:=
 ∀ (g:Gh) (a:Act) (w:World),Rel E g (bn s) w->FR n g (bL l ds) a->∃ g',Rel E g' (bn s') w/\FR n g' (bL l' ds) a
theorem bC {l':List (Nat×AV)} {s':List (Nat×bh)} (hg:fC E n l ds s l' s') (h:SW P E n c Q (bL l' ds) (bn s')):SW P E n c Q (bL l ds) (bn s):=λg a w hR hF=>
 let ⟨g',hR',hF'⟩:=hg g a w hR hF;h g' a w hR' hF'
theorem y {l':List (Nat×AV)} {s':List (Nat×bh)} (hg:fC E n l ds s l' s') (h:SL P E n ops Q rest (bL l' ds) (bn s')):SL P E n ops Q rest (bL l ds) (bn s):=λg a w hR hF=>
 let ⟨g',hR',hF'⟩:=hg g a w hR hF;h g' a w hR' hF'
theorem iv.set {g:Gh} {v:AV}:∀ {cells:List AV} {vs:List Value} {off:Nat} {u:AV},iv g cells vs->cells[off]?=some u->(∀ c,VR g u c->VR g v c)->iv g (cells.set off v) vs
 | [],_,_,_,_,h,_=>by simp at h
 | x::xs,_,0,u,.cons h t,hu,hv=>by simp at hu;subst hu;exact .cons (hv _ h) t
 | x::xs,_,off+1,u,.cons h t,hu,hv=>.cons h (iv.set t (by simpa using hu) hv)
theorem IB {j off k m sz:Nat} {el:TypeId} {cells:List PV} {cs:List AV} (hj:dq s j=some (.box cs)) (hc:cs[off]?=some (.arr k m)) (hk:dq s k=some (.app el sz cells)) (hz:Nat.blt 0 sz=true)
  (hn:cells.length=m*sz):fC E n l ds s l ((j,.box (cs.set off (.pv (.sl m cells))))::s):=λg a w hR hF=>by
 refine ⟨g,?_,hF⟩
 have hjs:=bW hj
 have hks:=bW hk
 have he:∀ i e,bn ((j,.box (cs.set off (.pv (.sl m cells))))::s) i=some e->(bn s i).isSome=true/\(i≠j->bn s i=some e):=λi e h=>by
  by_cases q:i=j
  ·subst q;exact ⟨by rw[hjs];rfl,λq=>absurd rfl q⟩
  ·have:bn s i=some e:=by simpa[bn,lI,q] using h
   exact ⟨by rw[this];rfl,λ_=>this⟩
 have hs:∀ i,(bn ((j,.box (cs.set off (.pv (.sl m cells))))::s) i).isSome=true->(bn s i).isSome=true:=λi h=>by
  cases q:bn ((j,.box (cs.set off (.pv (.sl m cells))))::s) i with
  | none=>rw[q] at h;cases h
  | some e=>exact (he i e q).1
 exact {
     kX:=λi e h=>by
      by_cases q:i=j
      ·subst q
       have:e=.box (cs.set off (.pv (.sl m cells))):=by simpa[bn,lI] using h.symm
       subst this
       cases hR.kX i _ hjs with
       | box h1 h2 h3 h4=>exact .box h1 h2 (h3.set hc λc hc=>hc.view (hR.kX k _ hks) (by simpa[Nat.blt_eq] using hz) hn) h4
      ·exact hR.kX i e ((he i e h).2 q)
     inj:=λi i' b h h'=>hR.inj i i' b (hs i h) (hs i' h')
     gl:=hR.gl
     apart:=λi b e h hea hb=>by
      by_cases q:i=j
      ·subst q;exact hR.apart i b _ hjs rfl hb
      ·exact hR.apart i b e ((he i e h).2 q) hea hb
     size:=hR.size,pV:=hR.pV,own:=λi b h=>hR.own i b (hs i h),fix:=hR.fix,ke:=hR.ke,g0:=hR.g0,gn:=hR.gn,os:=hR.os,out:=hR.out,tape:=hR.tape
     x:=hR.x.sZ rfl rfl (λi b hi hb=>⟨i,hs i hi,hb,.inl rfl⟩) (λi b e' _ hi=>by
      by_cases q:i=j
      ·subst q;exact ⟨_,hjs,λ_=>(by simp[bn,lI] at hi;exact ⟨_,hi.symm⟩)⟩
      ·exact ⟨e',(he i _ hi).2 q,id⟩) }
theorem uD {d:Nat} (nm:Nat) {sz:Nat} {el:TypeId} (hE:E.fix nm=none) (hd:jo l d=some (nSl)) (hm:lL nm l=false/\kt nm ds=false/\nC nm s=false) :
  fC E n l ds s ((d,.arr nm 0)::l) ((nm,.app el sz [])::s):=λg a w hR hF=>by
 have h1:=hR.wX (el:=el) (sz:=sz) (kY hm.2.2) hE
 have h2:=hF.le (lj.unbind g nm) (λk q=>by subst q;exact hY hm.1 hm.2.1)
 refine ⟨g.unbind nm,h1,h2.size,λi=>?_,h2.ds⟩
 by_cases q:i=d
 ·subst q
  have h3:=h2.jH i
  simp only[bL,ff hd] at h3
  simp only[bL,lV,if_true]
  rw[h3.c6];exact .qH (by simp[Gh.unbind])
 ·simpa[bL,lV,q] using h2.jH i
theorem tS {j off:Nat} (nm:Nat) {sz:Nat} {el:TypeId} {cs:List AV} (hE:E.fix nm=none) (hj:dq s j=some (.box cs)) (hc:cs[off]?=some (nSl))
  (hm:lL nm l=false/\kt nm ds=false/\nC nm s=false) (hjn:Nat.beq j nm=false) :
  fC E n l ds s l ((j,.box (cs.set off (.arr nm 0)))::(nm,.app el sz [])::s):=λg a w hR hF=>by
 have hR:=hR.wX (el:=el) (sz:=sz) (kY hm.2.2) hE
 have hF:=hF.le (lj.unbind g nm) (λk q=>by subst q;exact hY hm.1 hm.2.1)
 have hjn':j≠nm:=λq=>by subst q;simp at hjn
 have hjs:(bn s).set nm (.app el sz []) j=some (.box cs):=by simp[cl.set,hjn',bW hj]
 refine ⟨g.unbind nm,?_,hF⟩
 have he:∀ i e,bn ((j,.box (cs.set off (.arr nm 0)))::(nm,.app el sz [])::s) i=some e->(((bn s).set nm (.app el sz [])) i).isSome=true/\(i≠j->((bn s).set nm (.app el sz [])) i=some e):=λi e h=>by
  by_cases q:i=j
  ·subst q;exact ⟨by rw[hjs];rfl,λq=>absurd rfl q⟩
  ·have:((bn s).set nm (.app el sz [])) i=some e:=by simpa[bn,lI,cl.set,q] using h
   exact ⟨by rw[this];rfl,λ_=>this⟩
 have hs:∀ i,(bn ((j,.box (cs.set off (.arr nm 0)))::(nm,.app el sz [])::s) i).isSome=true->(((bn s).set nm (.app el sz [])) i).isSome=true:=λi h=>by
  cases q:bn ((j,.box (cs.set off (.arr nm 0)))::(nm,.app el sz [])::s) i with
  | none=>rw[q] at h;cases h
  | some e=>exact (he i e q).1
 exact {
     kX:=λi e h=>by
      by_cases q:i=j
      ·subst q
       have:e=.box (cs.set off (.arr nm 0)):=by simpa[bn,lI] using h.symm
       subst this
       cases hR.kX i _ hjs with
       | box h1 h2 h3 h4=>exact .box h1 h2 (h3.set hc λc hc=>by rw[hc.c6];exact .qH (by simp[Gh.unbind])) h4
      ·exact hR.kX i e ((he i e h).2 q)
     inj:=λi i' b h h'=>hR.inj i i' b (hs i h) (hs i' h')
     gl:=hR.gl
     apart:=λi b e h hea hb=>by
      by_cases q:i=j
      ·subst q;exact hR.apart i b _ hjs rfl hb
      ·exact hR.apart i b e ((he i e h).2 q) hea hb
     size:=hR.size,pV:=hR.pV,own:=λi b h=>hR.own i b (hs i h),fix:=hR.fix,ke:=hR.ke,g0:=hR.g0,gn:=hR.gn,os:=hR.os,out:=hR.out,tape:=hR.tape
     x:=hR.x.sZ rfl rfl (λi b hi hb=>⟨i,hs i hi,hb,.inl rfl⟩) (λi b e' _ hi=>by
      by_cases q:i=j
      ·subst q;exact ⟨_,hjs,λ_=>(by simp[bn,lI] at hi;exact ⟨_,hi.symm⟩)⟩
      ·exact ⟨e',(he i _ hi).2 q,id⟩) }
end
end Go.Abs
end
section
namespace Go.Abs
open U
def J (x:Int):Prop:=-9223372036854775808<=x/\x<=9223372036854775807
instance (x:Int):Decidable (J x):=by unfold J;exact inferInstance
def sX (a b:ByS):Prop:=a.length+b.length<=9223372036854775807
instance (a b:ByS):Decidable (sX a b):=by unfold sX;exact inferInstance
def sub (c:ByS) (i j:Int):ByS:=(c.drop i.toNat).take (j.toNat - i.toNat)
def gB (c:ByS) (i:Int):ByS:=c.drop i.toNat
def ob (c:ByS) (j:Int):ByS:=c.take j.toNat
def AV.nz:AV->AV
 | .pv (.sc (.slice none 0 0))=>.pv (.sl 0 [])
 | .pv (.sc (.pointer none))=>.pv (.pt none)
 | v=>v
theorem AV.F8 (v:AV):v.le v.nz:=by
 unfold AV.nz;split
 ·exact AV.le_nil
 ·exact AV.LD
 exact AV.le_refl _
def AV.Lr:List AV->List AV
 | []=>[]
 | v::vs=>v.nz::Lr vs
theorem AV.wY:∀ l:List AV,Bn l (AV.Lr l)
 | []=>.nil
 | v::l=>.cons (AV.F8 v) (AV.wY l)
section
variable {P:Program} {l:List (Nat×AV)} {ds:List (FuncId×List AV)} {s:List (Nat×bh)}
theorem cb {t:TypeId} {parts:List (Nat×Operand)} {z:List Value} {pl:List (Nat×Nat)} {pv:List (Nat×AV)} {out out':List AV} [ht:iZ P t z pl]
  (hp:parts.mapM (λp=>(bj l p.2).map λv=>(p.1,v))=some pv) (h:lU pl (z.map λv=>.pv (.sc v)) pv=some out) (hn:AV.Lr out=out'):iy P (.build t parts.toArray) l ds s (.agg out') []:=by
 subst hn;exact (cj hp h).BD (AV.Ks (AV.wY out))
end
class F9 (P:Program) (t:TypeId):Prop where h:(P.underlying t).map FP=some false
section
variable {P:Program} {l:List (Nat×AV)} {ds:List (FuncId×List AV)} {s:List (Nat×bh)}
theorem Ga {t:TypeId} {x:Operand} {f d:Nat} {cs:List AV} {v:AV} [hd:T P t f d] (ha:∀ fields fd,P.underlying t=some (.struct fields)->fields[f]?=some fd->p7 P fd.type=some false)
  (hx:bj l x=some (.agg cs)) (hv:cs[d]?=some v):iy P (.field t x f) l ds s v []:=by
 have h:=hd.h
 unfold Lp at h
 split at h
 ·rename_i fs hu
  split at h
  ·rename_i fd hf
   split at h
   ·cases h;exact .of (AA hu hf rfl (ha _ _ hu hf) (N hx) hv)
   ·cases h
  ·cases h
 ·cases h
theorem pq {t:TypeId} {x:Operand} {v:AV} [ht:F9 P t] (hx:bj l x=some v):iy P (.makeInterface t x) l ds s (.ny t v) []:=by
 have h:=ht.h;cases hu:P.underlying t with
 | none=>simp[hu] at h
 | some d=>simp[hu] at h;exact .of (Az hu h (N hx))
theorem od {f:FuncId} {a b:List Operand} {va vb:List AV} (ha:qU l a=some va) (hb:qU l b=some vb):iy P (.makeFunc (.func f) a.toArray b.toArray) l ds s (.fn f va vb) []:=
 .of (by have:=Bz (P:=P) (fr:=bL l ds) (f:=f) (a:=a) (b:=b);rw[nb ha,nb hb] at this;exact this)
end
section
variable {P:Program} {E:Env} {n:Nat} {ops:Array Oper} {Q:dU} {rest:List Oper} {l:List (Nat×AV)} {ds:List (FuncId×List AV)} {s:List (Nat×bh)}
 {ty:TypeId} {pos:String} {af:Array Edge}
theorem D5 {g:Gh} {w:World} {k:Nat} {cs cs':List AV} (h:Bn cs cs') (he:kz g w k (.box cs)):kz g w k (.box cs'):=by
 cases he with|box h1 h2 h3 h4=>exact .box h1 h2 (h.JX h3) h4
theorem D6 {j:Nat} {cs cs':List AV} (hj:dq s j=some (.box cs)) (hl:Bn cs cs'):fC E n l ds s l ((j,.box cs')::s):=λg a w hR hF=>by
 refine ⟨g,?_,hF⟩;have hjs:=bW hj;have he:∀ i e,bn ((j,.box cs')::s) i=some e->(bn s i).isSome=true/\(i≠j->bn s i=some e):=λi e h=>by
  by_cases q:i=j
  ·subst q;exact ⟨by rw[hjs];rfl,λq=>absurd rfl q⟩
  have:bn s i=some e:=by simpa[bn,lI,q] using h
  exact ⟨by rw[this];rfl,λ_=>this⟩
 have hs:∀ i,(bn ((j,.box cs')::s) i).isSome=true->(bn s i).isSome=true:=λi h=>by
  cases q:bn ((j,.box cs')::s) i with
  | none=>rw[q] at h;cases h
  | some e=>exact (he i e q).1
 exact {
  kX:=λi e h=>by
   by_cases q:i=j
   ·subst q;have:e=.box cs':=by simpa[bn,lI] using h.symm
    subst this;exact D5 hl (hR.kX i _ hjs)
   exact hR.kX i e ((he i e h).2 q)
  inj:=λi i' b h h'=>hR.inj i i' b (hs i h) (hs i' h')
  gl:=hR.gl
  apart:=λi b e h hea hb=>by
   by_cases q:i=j
   ·subst q;exact hR.apart i b _ hjs rfl hb
   exact hR.apart i b e ((he i e h).2 q) hea hb
  size:=hR.size,pV:=hR.pV,own:=λi b h=>hR.own i b (hs i h),fix:=hR.fix,ke:=hR.ke,g0:=hR.g0,gn:=hR.gn,os:=hR.os,out:=hR.out,tape:=hR.tape
  x:=hR.x.sZ rfl rfl (λi b hi hb=>⟨i,hs i hi,hb,.inl rfl⟩) (λi b e' _ hi=>by
   by_cases q:i=j
   ·subst q;exact ⟨_,hjs,λ_=>(by simp[bn,lI] at hi;exact ⟨_,hi.symm⟩)⟩
   exact ⟨e',(he i _ hi).2 q,id⟩) }
theorem iR (j:Nat) {cs cs':List AV} (hj:dq s j=some (.box cs)) (hn:AV.Lr cs=cs'):fC E n l ds s l ((j,.box cs')::s):=by subst hn;exact D6 hj (AV.wY cs)
theorem KE {x:Operand} (p:sB) (hx:bj l x=some p.av) (hq:Q (.panic p.av) (bL l ds) (bn s)):SL P E n ops Q (⟨none,.panic x,ty,pos,af,none⟩::rest) (bL l ds) (bn s):=
 kG rfl (C6 rfl (N hx) hq)
end
end Go.Abs
end
section
namespace Go.Abs
open U
def quiet (ops:Array Oper) (i:Nat):List Rec->Bool
 | []=>true
 | r::rs=>(match r.rd with|[]=>true|_=>oJ ops ops.size i r.i)&&quiet ops i rs
theorem aQ {ops:Array Oper} {i:Nat} {s':List (Nat×bh)} {recs:List Rec} (h:quiet ops i recs=true):lJ ops i s' recs:=by
 induction recs with
 | nil=>intro r hr;simp[iw] at hr
 | cons a rs ih=>
  simp only[quiet,Bool.and_eq_true] at h
  intro r hr p hp
  simp only[iw,List.mem_filter,Bool.not_eq_true'] at hr
  rcases List.mem_cons.1 hr.1 with q|q
  ·subst q;have h1:=h.1;split at h1
   ·rename_i h0;rw[h0] at hp;cases hp
   rw[hr.2] at h1;cases h1
  ·exact ih h.2 r (by simp[iw,q,hr.2]) p hp
def MU (P:Program) (s:TypeId) (f:Nat):Option Bool:=
 match P.underlying s with
 | some (.struct fs)=>match fs[f]? with
  | some fd=>p7 P fd.type
  | none=>none
 | _=>none
class Mn (P:Program) (t:TypeId) (f:Nat) (b:outParam Bool):Prop where h:MU P t f=some b
section
variable {P:Program} {l:List (Nat×AV)} {ds:List (FuncId×List AV)} {s:List (Nat×bh)}
theorem nf {t:TypeId} {x:Operand} {f d:Nat} {cs:List AV} {v:AV} [hd:T P t f d] [hb:Mn P t f false] (hx:bj l x=some (.agg cs)) (hv:cs[d]?=some v):iy P (.field t x f) l ds s v []:=
 Ga (λfields fd hu hf=>by have:=hb.h;simp only[MU,hu,hf] at this;exact this) hx hv
end
section
variable {P:Program} {E:Env} {n:Nat} {ops:Array Oper} {Q:dU} {rest:List Oper} {l:List (Nat×AV)} {ds:List (FuncId×List AV)} {s:List (Nat×bh)}
 {ty:TypeId} {pos:String} {af:Array Edge}
theorem fY {α:Type} {C:α->List PV} {Cs:List α->List PV} (xs:List α) (n5:∀ l,Cs l=l.flatMap C) {d:Nat} {t e:TypeId} {m sz:Nat} {parts:List (Nat×Operand)} {zs:List Value} {pl:List (Nat×Nat)} {pv:List (Nat×AV)}
  [ht:ku P t m e sz zs pl] (h:parts.mapM (λp=>(bj l p.2).map λv=>(p.1,v))=some pv/\lU pl (zs.map λv=>.pv (.sc v)) pv=some ((xs.flatMap C).map .pv)) (hd:Nat.blt d n=true)
  (hn:SL P E n ops Q rest (bL ((d,.pv (.sl m (Cs xs)))::l) ds) (bn s)):SL P E n ops Q (⟨some d,.buildSlice t m parts.toArray,ty,pos,af,none⟩::rest) (bL l ds) (bn s):=
 JZ h hd (by rw[<- n5];exact hn)
end
end Go.Abs
end
section
namespace Go.Abs
open U
def GN (E:Env) (n:Nat) (ds:List (FuncId×List AV)) (Q:dU):dU
 | .normal,fr,σ=>∃ l s l' s',fr=bL l ds/\σ=bn s/\fC E n l ds s l' s'/\Q .normal (bL l' ds) (bn s')
 | e,fr,σ=>Q e fr σ
section
variable {P:Program} {E:Env} {n:Nat} {ops:Array Oper} {Q:dU} {rest:List Oper} {c:Code} {l:List (Nat×AV)} {ds:List (FuncId×List AV)} {s:List (Nat×bh)}
theorem LQ.gn {e:Exit} {a:Act} {w:World} (h:LQ E n (GN E n ds Q) e a w):LQ E n Q e a w:=by
 obtain ⟨g,ae,fr,σ,q,hx,hR,hF⟩:=h;cases hx with
 | normal=>
  obtain ⟨l,s,l',s',rfl,rfl,hg,hq⟩:=q
  obtain ⟨g',hR',hF'⟩:=hg g a w hR hF
  exact ⟨g',_,_,_,hq,.normal,hR',hF'⟩
 | exit id=>exact ⟨g,_,_,_,q,.exit id,hR,hF⟩
 | goto id=>exact ⟨g,_,_,_,q,.goto id,hR,hF⟩
 | ret=>exact ⟨g,_,_,_,q,.ret,hR,hF⟩
 | panic hv=>exact ⟨g,_,_,_,q,.panic hv,hR,hF⟩
theorem oO {fr:eQ} {σ:cl} (ds:List (FuncId×List AV)) (h:SW P E n c (GN E n ds Q) fr σ):SW P E n c Q fr σ:=λg a w hR hF=>wp_mono (h g a w hR hF) λ_ _ _ q=>q.gn
theorem fC.trans {l1 l2:List (Nat×AV)} {s1 s2:List (Nat×bh)} (h:fC E n l ds s l1 s1) (h':fC E n l1 ds s1 l2 s2):fC E n l ds s l2 s2:=λg a w hR hF=>
 let ⟨g',hR',hF'⟩:=h g a w hR hF;h' g' a w hR' hF'
theorem fC.Bw (l':List (Nat×AV)) (s':List (Nat×bh)) (h1:uk l l' l') (h2:vd s s' s'):fC E n l ds s l' s':=λg _ _ hR hF=>
 ⟨g,hR.sub (AJ (sd h2)),hF.BD (AI (qg h1))⟩
def oP (nm k:Nat):Nat->Nat:=λj=>match Nat.beq j nm with
 | true=>k
 | false=>j
def Gb (nm k:Nat) (l:List (Nat×AV)):List (Nat×AV)->Prop
 | []=>True
 | (i,v')::F=>(∃ v,jo l i=some v/\v.eG k=false/\v.hQ (oP nm k)=v')/\Gb nm k l F
def Gc (nm k:Nat) (s:List (Nat×bh)):List (Nat×bh)->Prop
 | []=>True
 | (i,e')::F=>(∃ e,dq s i=some e/\e.mq k=false/\e.hQ (oP nm k)=e'/\Nat.beq i nm=false/\Nat.beq i k=false)/\Gc nm k s F
theorem wZ (nm k:Nat):oP nm k nm=k:=by simp[oP]
theorem D7 {nm k j:Nat} (h:j≠nm):oP nm k j=j:=by
 unfold oP;split
 ·rename_i q;exact absurd (Nat.eq_of_beq_eq_true q) h
 rfl
mutual
theorem VR.oP {g:Gh} {nm k:Nat}:∀ {v:AV} {c:Value},v.eG k=false->VR g v c->VR (g.alias k nm) (v.hQ (oP nm k)) c
 | .any,_,_,_=>.any _
 | .oc,_,_,h=>by cases h with|oc h=>exact .oc h
 | .pv _,_,_,h=>by cases h with|pv h=>exact .pv (PR.congr (g:=g) (g':=g.alias k nm) (λ_ _ q=>q) h)
 | .ptr j off,_,hm,h=>by
  have hj:j≠k:=by simpa[AV.eG] using hm
  cases h with|ptr _ h=>
   by_cases q:j=nm
   ·subst q;simp only[AV.hQ,wZ];exact .ptr off (by simp[Gh.alias,h])
   ·simp only[AV.hQ,D7 q];exact .ptr off (by simp[Gh.alias,hj,h])
 | .arr j m,_,hm,h=>by
  have hj:j≠k:=by simpa[AV.eG] using hm
  by_cases q:j=nm
  ·subst q;simp only[AV.hQ,wZ];have e1:(g.alias k j).ρ k=g.ρ j:=by simp[Gh.alias]
   have e2:(g.alias k j).cp k=g.cp j:=by simp[Gh.alias]
   cases h with
   | arr _ h=>rw[<- e2];exact .arr m (e1.trans h)
   | qH h=>exact .qH (e1.trans h)
  simp only[AV.hQ,D7 q];have e1:(g.alias k nm).ρ j=g.ρ j:=by simp[Gh.alias,hj]
  have e2:(g.alias k nm).cp j=g.cp j:=by simp[Gh.alias,hj]
  cases h with
  | arr _ h=>rw[<- e2];exact .arr m (e1.trans h)
  | qH h=>exact .qH (e1.trans h)
 | .sp _,_,_,h=>by cases h with|sp off h hl hc=>exact .sp off h hl hc
 | .fn f x y,_,hm,h=>by
  simp[AV.eG] at hm;cases h with|fn _ hx hy=>exact .fn f (iv.oP hm.1 hx) (iv.oP hm.2 hy)
 | .agg x,_,hm,h=>by cases h with|agg h=>exact .agg (iv.oP (by simpa[AV.eG] using hm) h)
 | .gZ x,_,hm,h=>by cases h with|gZ h=>exact .gZ (iv.oP (by simpa[AV.eG] using hm) h)
 | .ny t x,_,hm,h=>by cases h with|ny _ h=>exact .ny t (VR.oP (by simpa[AV.eG] using hm) h)
theorem iv.oP {g:Gh} {nm k:Nat}:∀ {v:List AV} {c:List Value},AV.eG.fP k v=false->iv g v c->iv (g.alias k nm) (AV.hQ.mE (oP nm k) v) c
 | [],_,_,h=>by cases h;exact .nil
 | x::xs,_,hm,h=>by
  simp[AV.eG.fP] at hm;cases h with|cons h t=>exact .cons (VR.oP hm.1 h) (iv.oP hm.2 t)
end
theorem mQ.alias {g:Gh} {nm k:Nat} {ps:List PV} {vs:List Value} (h:mQ g ps vs):mQ (g.alias k nm) ps vs:=mQ.congr (g:=g) (g':=g.alias k nm) (λ_ _ q=>q) h
theorem kz.oP {g:Gh} {w:World} {nm k j:Nat} {e:bh} (hj:j≠k) (hm:AV.eG.fP k e.cells=false) (h:kz g w j e):kz (g.alias k nm) w j (e.hQ (oP nm k)):=by
 have e1:(g.alias k nm).ρ j=g.ρ j:=by simp[Gh.alias,hj]
 have e2:(g.alias k nm).cp j=g.cp j:=by simp[Gh.alias,hj]
 cases h with
 | box h hw hc h1=>exact .box (e1.trans h) hw (hc.oP hm) h1
 | qH h=>exact .qH (e1.trans h)
 | arr h hw hl hz hx hc=>exact .arr (e1.trans h) hw hl (by rw[e2];exact hz) (by rw[e2];exact hx) hc.alias
 | xd h=>exact .xd (e1.trans h)
 | app h hG hw hl hz hx hc=>exact .app (e1.trans h) hG hw hl (by rw[e2];exact hz) (by rw[e2];exact hx) hc.alias
theorem kz.wZ {g:Gh} {w:World} {nm k:Nat} {el:TypeId} {sz:Nat} {cells:List PV} (h:kz g w nm (.app el sz cells)):kz (g.alias k nm) w k (.app el sz cells):=by
 have e1:(g.alias k nm).ρ k=g.ρ nm:=by simp[Gh.alias]
 have e2:(g.alias k nm).cp k=g.cp nm:=by simp[Gh.alias]
 cases h with
 | xd h=>exact .xd (e1.trans h)
 | app h hG hw hl hz hx hc=>exact .app (e1.trans h) hG hw hl (by rw[e2];exact hz) (by rw[e2];exact hx) hc.alias
theorem z8 {nm k:Nat} {l:List (Nat×AV)}:∀ {F:List (Nat×AV)},Gb nm k l F->∀ i,(∃ v,lV l i=v/\v.eG k=false/\lV F i=v.hQ (oP nm k))\/lV F i=.any
 | [],_,i=>.inr rfl
 | (j,v')::F,h,i=>by
  obtain ⟨⟨v,h1,h2,h3⟩,ht⟩:=h;simp only[lV];by_cases q:i=j
  ·subst q;rw[if_pos rfl];exact .inl ⟨v,ff h1,h2,h3.symm⟩
  rw[if_neg q];exact z8 ht i
theorem Aa {nm k:Nat} {s:List (Nat×bh)}:∀ {F:List (Nat×bh)},Gc nm k s F->∀ i e',bn F i=some e'->∃ e,bn s i=some e/\AV.eG.fP k e.cells=false/\e.hQ (oP nm k)=e'/\i≠nm/\i≠k
 | [],_,i,e',h=>by cases h
 | (j,v')::F,h,i,e',he=>by
  obtain ⟨⟨e,h1,h2,h3,h4,h5⟩,ht⟩:=h;simp only[bn,lI] at he;by_cases q:i=j
  ·subst q;rw[if_pos rfl] at he;cases he;exact ⟨e,bW h1,bh.AH h2,h3,λq=>by subst q;simp at h4,λq=>by subst q;simp at h5⟩
  rw[if_neg q] at he;exact Aa ht i e' he
theorem Gd (nm k:Nat) {e0:bh} (he0:∀ g w,kz g w nm e0->kz (g.alias k nm) w k e0) (hnb:∀ cs,e0≠.box cs) (l':List (Nat×AV)) (s':List (Nat×bh)) (hE:E.fix k=none) (hnk:Nat.beq nm k=false) (hk:dq s nm=some e0)
  (hd:kt nm ds=false/\kt k ds=false) (h1:Gb nm k l l') (h2:Gc nm k s s'):fC E n l ds s l' ((k,e0)::s'):=λg a w hR hF=>by
 have hne:nm≠k:=λq=>by subst q;simp at hnk
 have hks:=bW hk
 have hs':∀ i e',bn ((k,e0)::s') i=some e'->(i=k/\e'=e0)\/(i≠k/\i≠nm/\∃ e,bn s i=some e/\AV.eG.fP k e.cells=false/\e.hQ (oP nm k)=e'):=λi e' he=>by
  simp only[bn,lI] at he
  by_cases q:i=k
  ·subst q;rw[if_pos rfl] at he;cases he;exact .inl ⟨rfl,rfl⟩
  ·rw[if_neg q] at he
   obtain ⟨e,h3,h4,h5,h6,h7⟩:=Aa h2 i e' he
   exact .inr ⟨q,h6,e,h3,h4,h5⟩
 have hρk:(g.alias k nm).ρ k=g.ρ nm:=by simp[Gh.alias]
 have hρ:∀ j,j≠k->(g.alias k nm).ρ j=g.ρ j:=λj hj=>by simp[Gh.alias,hj]
 have hcp:∀ j,j≠k->(g.alias k nm).cp j=g.cp j:=λj hj=>by simp[Gh.alias,hj]
 have hold:∀ i,(bn ((k,e0)::s') i).isSome=true->∃ j,(bn s j).isSome=true/\(g.alias k nm).ρ i=g.ρ j/\((i=k/\j=nm)\/(i≠k/\i≠nm/\j=i)):=λi hi=>by
  cases q:bn ((k,e0)::s') i with
  | none=>rw[q] at hi;cases hi
  | some e'=>
   rcases hs' i e' q with ⟨rfl,_⟩|⟨q1,q2,e,q3,_⟩
   ·exact ⟨nm,by rw[hks];rfl,hρk,.inl ⟨rfl,rfl⟩⟩
   ·exact ⟨i,by rw[q3];rfl,hρ i q1,.inr ⟨q1,q2,rfl⟩⟩
 refine ⟨g.alias k nm,?_,⟨hF.size,λi=>?_,?_⟩⟩
 ·exact {
      kX:=λi e' h=>by
       rcases hs' i e' h with ⟨rfl,rfl⟩|⟨q1,q2,e,q3,q4,rfl⟩
       ·exact he0 _ _ (hR.kX nm _ hks)
       ·exact (hR.kX i e q3).oP q1 q4
      inj:=λi i' b h h' hb hb'=>by
       obtain ⟨j,j1,j2,j3⟩:=hold i h
       obtain ⟨j',j1',j2',j3'⟩:=hold i' h'
       have:=hR.inj j j' b j1 j1' (j2▸hb) (j2'▸hb')
       rcases j3 with ⟨rfl,rfl⟩|⟨q1,q2,rfl⟩<;>rcases j3' with ⟨rfl,rfl⟩|⟨q1',q2',rfl⟩
       ·rfl
       ·exact absurd this.symm q2'
       ·exact absurd this q2
       ·exact this
      gl:=λb ys hb=>by
       obtain ⟨cs,el,fz,h1,h2,h3⟩:=hR.gl b ys hb
       exact ⟨cs,el,fz,h1,h2,h3.alias⟩
      apart:=λi b e' h hea hb=>by
       rcases hs' i e' h with ⟨rfl,rfl⟩|⟨q1,q2,e,q3,q4,rfl⟩
       ·rw[hρk] at hb;exact hR.apart nm b _ hks hea hb
       ·exact hR.apart i b e q3 (by rw[<- bh.AG (oP nm k) e];exact hea) (by rw[<- hρ i q1];exact hb)
      size:=hR.size,pV:=hR.pV
      own:=λi b h hb=>by
       obtain ⟨j,j1,j2,_⟩:=hold i h
       exact hR.own j b j1 (j2▸hb)
      fix:=λi b h=>by
       have q:i≠k:=λq=>by subst q;rw[hE] at h;cases h
       rw[hρ i q];exact hR.fix i b h
      ke:=λi b h=>by
       have q:i≠k:=λq=>by subst q;rw[hE] at h;cases h
       rw[hcp i q];exact hR.ke i b h
      g0:=hR.g0,gn:=hR.gn,os:=hR.os,out:=hR.out,tape:=hR.tape
      x:=hR.x.sZ rfl rfl (λi b hi hb=>by
       obtain ⟨j,j1,j2,j3⟩:=hold i hi
       refine ⟨j,j1,j2▸hb,?_⟩
       rcases j3 with ⟨_,rfl⟩|⟨_,_,rfl⟩
       ·exact .inr ⟨_,hks,hnb⟩
       ·exact .inl rfl) (λi b e' hfi hi=>by
       rcases hs' i _ hi with ⟨rfl,q⟩|⟨q1,q2,e,q3,q4,q5⟩
       ·rw[hE] at hfi;cases hfi
       ·refine ⟨e,q3,λ⟨c,q⟩=>?_⟩
        subst q;exact ⟨_,q5.symm⟩) }
 ·have hsl:=hF.jH i
  rcases z8 h1 i with ⟨v,q1,q2,q3⟩|q
  ·simp only[bL] at hsl ⊢
   rw[q3];rw[q1] at hsl;exact hsl.oP q2
  ·simp only[bL];rw[q];exact .any _
 ·refine hF.ds.le (lj.alias g k nm) λj q p hp=>?_
  subst q;exact uu hd.2 p hp
theorem lk (nm k:Nat) {el:TypeId} {sz:Nat} {cells:List PV} (l':List (Nat×AV)) (s':List (Nat×bh)) (hE:E.fix k=none) (hnk:Nat.beq nm k=false) (hk:dq s nm=some (.app el sz cells))
  (hd:kt nm ds=false/\kt k ds=false) (h1:Gb nm k l l') (h2:Gc nm k s s'):fC E n l ds s l' ((k,.app el sz cells)::s'):=
 Gd nm k (λ_ _ h=>h.wZ) (λ_ q=>by cases q) l' s' hE hnk hk hd h1 h2
theorem kz.Ge {g:Gh} {w:World} {nm k:Nat} {el:TypeId} {sz:Nat} {cells:List PV} (h:kz g w nm (.arr el sz cells)):kz (g.alias k nm) w k (.arr el sz cells):=by
 have e1:(g.alias k nm).ρ k=g.ρ nm:=by simp[Gh.alias]
 have e2:(g.alias k nm).cp k=g.cp nm:=by simp[Gh.alias]
 cases h with
 | qH h=>exact .qH (e1.trans h)
 | arr h hw hl hz hx hc=>exact .arr (e1.trans h) hw hl (by rw[e2];exact hz) (by rw[e2];exact hx) hc.alias
theorem k2 (nm k:Nat) {el:TypeId} {sz:Nat} {cells:List PV} (l':List (Nat×AV)) (s':List (Nat×bh)) (hE:E.fix k=none) (hnk:Nat.beq nm k=false) (hk:dq s nm=some (.arr el sz cells))
  (hd:kt nm ds=false/\kt k ds=false) (h1:Gb nm k l l') (h2:Gc nm k s s'):fC E n l ds s l' ((k,.arr el sz cells)::s'):=
 Gd nm k (λ_ _ h=>h.Ge) (λ_ q=>by cases q) l' s' hE hnk hk hd h1 h2
end
def mV (bytes a b:Nat):Prop:=(a+b)*bytes<=140737488355328/\a+b<=maxLen
instance (bytes a b:Nat):Decidable (mV bytes a b):=by unfold mV;exact inferInstance
theorem BU:∀ {a b:List PV},PV.kF a=true->PV.kF b=true->PV.kF (a++b)=true
 | [],_,_,h=>h
 | x::a,b,h,h'=>by simp[PV.kF] at h ⊢;exact ⟨h.1,BU h.2 h'⟩
theorem rI {α:Type} {C:α->List PV} (hC:∀ x,PV.kF (C x)=true):∀ l:List α,PV.kF (l.flatMap C)=true
 | []=>rfl
 | x::l=>by rw[List.flatMap_cons];exact BU (hC x) (rI hC l)
section
variable {P:Program} {E:Env} {n:Nat} {ops:Array Oper} {Q:dU} {rest:List Oper} {l:List (Nat×AV)} {ds:List (FuncId×List AV)} {s:List (Nat×bh)}
 {ty:TypeId} {pos:String} {af:Array Edge}
structure Ab (P:Program) (E:Env) (l:List (Nat×AV)) (ds:List (FuncId×List AV)) (s:List (Nat×bh)) {α:Type} (C:α->List PV) (Cs:List α->List PV) (t e:TypeId) (sz bytes k nm:Nat) (a x:Operand) (xs ys:List α):Prop where
 hT:P.underlying t=some (.slice e)
 hB:r8 P e=some (sz,bytes)
 n5:∀ l,Cs l=l.flatMap C
 hL:∀ x,(C x).length=sz
 h1:∀ x,PV.kF (C x)=true
 hE:E.fix nm=none
 hs:bj l a=some (.arr k (List.length xs))
 hk:dq s k=some (.app e sz (Cs xs))
 hx:bj l x=some (.pv (.sl (List.length ys) (Cs ys)))\/(ys=[]/\bj l x=some (nSl))
 hm:lL nm l=false/\kt nm ds=false/\xw nm [k] s=false
 hg:mV bytes (List.length xs) (List.length ys)
theorem Ab.LG {α:Type} {C:α->List PV} {Cs:List α->List PV} {t e:TypeId} {sz bytes k nm:Nat} {a x:Operand} {xs ys:List α} (h:Ab P E l ds s C Cs t e sz bytes k nm a x xs ys) :
  HV sz ((bL l ds).val x) (List.length ys) (Cs ys):=by
 rcases h.hx with q|⟨q1,q2⟩
 ·rw[N q];exact .sl _ _ (by rw[h.n5,jg h.hL])
 ·rw[N q2];subst q1;rw[h.n5];exact .nil
theorem Ab.LH {α:Type} {C:α->List PV} {Cs:List α->List PV} {t e:TypeId} {sz bytes k nm:Nat} {a x:Operand} {xs ys:List α} (h:Ab P E l ds s C Cs t e sz bytes k nm a x xs ys) :
  ((bn s).del k).clear nm:=by
 intro j e he
 unfold cl.del at he
 split at he
 ·cases he
 ·rename_i q
  refine oo h.hm.2.2 j e ?_ he
  cases hb:Nat.beq j k with
  | true=>exact absurd (Nat.eq_of_beq_eq_true hb) q
  | false=>simp[hb]
theorem ng {α:Type} {C:α->List PV} {Cs:List α->List PV} {d:Nat} {t e:TypeId} {a x:Operand} {sz bytes k:Nat} (nm:Nat) {xs ys:List α} (h:Ab P E l ds s C Cs t e sz bytes k nm a x xs ys) (hd:Nat.blt d n=true)
  (hn:SL P E n ops Q rest (bL ((d,.arr nm (List.length (xs++ys)))::l) ds) (bn ((nm,.app e sz (Cs (xs++ys)))::pI k s))) :
  SL P E n ops Q (⟨some d,.call ⟨.builtin .append,#[a,x],#[t,t]⟩,ty,pos,af,none⟩::rest) (bL l ds) (bn s):=by
 refine kG rfl (uS (nm:=nm) rfl h.hT h.hB (N h.hs) (bW h.hk) (by rw[h.n5,jg h.hL]) h.LG (by rw[h.n5];exact rI h.h1 ys) (hY h.hm.1 h.hm.2.1) h.LH h.hE h.hg.1 h.hg.2 (nv hd) ?_)
 rw[<- qW,<- List.length_append,show Cs xs++Cs ys=Cs (xs++ys) by rw[h.n5,h.n5,h.n5,List.flatMap_append]];exact hn
theorem BV {α:Type} {C:α->List PV} {Cs:List α->List PV} {j off k sz:Nat} {el:TypeId} {xs:List α} {cs:List AV} (n5:∀ l,Cs l=l.flatMap C) (hC:∀ x,(C x).length=sz) (hz:Nat.blt 0 sz=true) (hj:dq s j=some (.box cs)) (hc:cs[off]?=some (.arr k (List.length xs)))
  (hk:dq s k=some (.app el sz (Cs xs))) {cs':List AV} (hcs:cs.set off (.pv (.sl (List.length xs) (Cs xs)))=cs'):fC E n l ds s l ((j,.box cs')::s):=by
 subst hcs;exact IB hj hc hk hz (by rw[n5,jg hC])
theorem lO {α:Type} {C:α->List PV} {Cs:List α->List PV} {x:Operand} {k sz:Nat} {el:TypeId} {xs:List α} (n5:∀ l,Cs l=l.flatMap C) (hC:∀ x,(C x).length=sz) (hz:Nat.blt 0 sz=true) (hx:bj l x=some (.arr k (List.length xs))) (hk:dq s k=some (.app el sz (Cs xs))) :
 iy P (.move x) l ds s (.pv (.sl (List.length xs) (Cs xs))) [(k,.app el sz (Cs xs))]:=KC hx hk hz (by rw[n5,jg hC])
theorem pY {α:Type} {C:α->List PV} {Cs:List α->List PV} {t:TypeId} {x:Operand} {k j off sz:Nat} {el:TypeId} {xs:List α} {e:bh} [ha:je P t false] (n5:∀ l,Cs l=l.flatMap C) (hC:∀ x,(C x).length=sz) (hz:Nat.blt 0 sz=true)
 (hx:bj l x=some (.ptr k off)) (hk:dq s k=some e) (hv:e.cells[off]?=some (.arr j (List.length xs))) (hj:dq s j=some (.app el sz (Cs xs))) :
 iy P (.load t x) l ds s (.pv (.sl (List.length xs) (Cs xs))) [(k,e),(j,.app el sz (Cs xs))]:=F3 hx hk hv hj hz (by rw[n5,jg hC])
theorem BW {d:Nat} {v:AV} (hd:jo l d=some v) {v':AV} (hv:v.nz=v'):fC E n l ds s ((d,v')::l) s:=λg a w hR hF=>by
 subst hv;refine ⟨g,hR,hF.size,λi=>?_,hF.ds⟩;have h:=hF.jH i;by_cases q:i=d
 ·subst q;simp only[bL,lV,if_true];simp only[bL,ff hd] at h;exact AV.F8 v g _ h
 simpa[bL,lV,q] using h
theorem AV.Da (v:AV):v.le .any:=λ_ _ _=>.any _
theorem D8:∀ (cs:List AV) (off:Nat),Bn cs (cs.set off .any)
 | [],_=>.nil
 | c::cs,0=>.cons (AV.Da c) (xB cs)
 | c::cs,off+1=>.cons (AV.le_refl c) (D8 cs off)
where xB:∀ cs:List AV,Bn cs cs
 | []=>.nil
 | c::cs=>.cons (AV.le_refl c) (xB cs)
theorem D9:∀ (cs:List AV) (off:Nat) (v:AV),cs[off]?=some v->Bn cs (cs.set off v.nz)
 | [],_,_,h=>by simp at h
 | c::cs,0,v,h=>by simp at h;subst h;exact .cons (AV.F8 c) (D8.xB cs)
 | c::cs,off+1,v,h=>.cons (AV.le_refl c) (D9 cs off v (by simpa using h))
theorem iY (j off:Nat) {cs cs':List AV} {v:AV} (hj:dq s j=some (.box cs)) (hv:cs[off]?=some v) (hn:cs.set off v.nz=cs'):fC E n l ds s l ((j,.box cs')::s):=by subst hn;exact D6 hj (D9 cs off v hv)
end
section
variable {P:Program} {E:Env} {n:Nat} {ops:Array Oper} {Q:dU} {B:List Rec->eQ->cl->Prop} {i:Nat} {L:List Nat} {recs:List Rec} {l:List (Nat×AV)} {ds:List (FuncId×List AV)} {s:List (Nat×bh)}
 {ty:TypeId} {pos:String} {af:Array Edge}
theorem iA {l':List (Nat×AV)} {s':List (Nat×bh)} (hg:fC E n l ds s l' s') (h:Q .normal (bL l' ds) (bn s')):DW P E n ops (GN E n ds Q) [] recs (bL l ds) (bn s):=⟨l,s,l',s',rfl,rfl,hg,h⟩
theorem nh {α:Type} {C:α->List PV} {Cs:List α->List PV} (xs:List α) (n5:∀ l,Cs l=l.flatMap C) {d:Nat} {t e:TypeId} {m sz:Nat} {parts:List (Nat×Operand)} {zs:List Value} {pl:List (Nat×Nat)} {pv:List (Nat×AV)}
  {gd:Option (Nat×Bool)} [ht:ku P t m e sz zs pl] (ho:ops[i]?=some ⟨some d,.buildSlice t m parts.toArray,ty,pos,af,gd⟩) (hw:iQ ops ⟨some d,.buildSlice t m parts.toArray,ty,pos,af,gd⟩ (bL l ds))
  (h:parts.mapM (λp=>(bj l p.2).map λv=>(p.1,v))=some pv/\lU pl (zs.map λv=>.pv (.sc v)) pv=some ((xs.flatMap C).map .pv))
  (hc:dI ⟨some d,.buildSlice t m parts.toArray,ty,pos,af,gd⟩=false/\Nat.blt d n=true)
  (hn:kZ P E n ops Q B L (⟨i,some d,[],none⟩::recs) (bL ((d,.pv (.sl m (Cs xs)))::l) ds) (bn s)):kZ P E n ops Q B (i::L) recs (bL l ds) (bn s):=by
 refine ⟨_,ho,.fz hw hc.1 (v:=.pv (.sl m (Cs xs))) ?_ (nv hc.2) (λ_ _ _ _=>rfl) hn⟩
 rw[n5]
 refine rf ht.h ?_
 rw[tp h.1];exact h.2
theorem AO {α:Type} {C:α->List PV} {Cs:List α->List PV} {d:Nat} {t e:TypeId} {a x:Operand} {sz bytes k:Nat} {gd:Option (Nat×Bool)} (nm:Nat) {xs ys:List α}
  (ho:ops[i]?=some ⟨some d,.call ⟨.builtin .append,#[a,x],#[t,t]⟩,ty,pos,af,gd⟩) (hw:iQ ops ⟨some d,.call ⟨.builtin .append,#[a,x],#[t,t]⟩,ty,pos,af,gd⟩ (bL l ds))
  (h:Ab P E l ds s C Cs t e sz bytes k nm a x xs ys) (hd:Nat.blt d n=true) (hnm:kJ recs=true)
  (hn:lJ ops i ((nm,.app e sz (Cs (xs++ys)))::pI k s) recs/\kZ P E n ops Q B L recs (bL ((d,.arr nm (List.length (xs++ys)))::l) ds) (bn ((nm,.app e sz (Cs (xs++ys)))::pI k s))) :
  kZ P E n ops Q B (i::L) recs (bL l ds) (bn s):=by
 refine ⟨_,ho,.dI hw rfl (.append (nm:=nm) rfl h.hT h.hB (N h.hs) (bW h.hk) (by rw[h.n5,jg h.hL]) h.LG (by rw[h.n5];exact rI h.h1 ys) (hY h.hm.1 h.hm.2.1) h.LH h.hE h.hg.1 h.hg.2 (nv hd) ?_)
  (λr hr k' _=>by rw[fb hnm r (List.mem_filter.1 hr).1];simp)⟩
 have e1:((bn s).del k).set nm (.app e sz (Cs xs++Cs ys))=bn ((nm,.app e sz (Cs (xs++ys)))::pI k s):=by
  rw[<- qW,show Cs xs++Cs ys=Cs (xs++ys) by rw[h.n5,h.n5,h.n5,List.flatMap_append]];rfl
 rw[e1,<- List.length_append]
 exact ⟨λr hr=>⟨λp hp=>(let ⟨e,h1,h2⟩:=hn.1 r hr p hp;⟨e,bW h1,h2⟩),λnm q=>by rw[fb hnm r (List.mem_filter.1 hr).1] at q;cases q⟩,hn.2⟩
end
end Go.Abs
end
section
namespace Go.Abs
open U
def bh.lost:bh->bh
 | .box cs=>.box (cs.map λ_=>.any)
 | e=>e
def iO:List bh->Bool
 | []=>true
 | .box _::es=>iO es
 | _::_=>false
theorem Ea (g:Gh):∀ {cells:List AV} {vs:List Value},cells.length=vs.length->iv g (cells.map λ_=>AV.any) vs
 | [],[],_=>.nil
 | _::cells,v::vs,h=>.cons (.any v) (Ea g (by simpa using h))
 | [],_::_,h=>by simp at h
 | _::_,[],h=>by simp at h
theorem Rel.lost {wS:World} {g g':Gh} {σ σ':cl} {w w':World} (h0:Rel (Env.of wS g σ w) g σ w) (hb:∀ k e,σ k=some e->∃ cs,e=.box cs) (h:Rel (Env.of wS g σ w) g' σ' w') :
   Rel (Env.of wS g σ w) g' (λk=>(σ k).map bh.lost) w':=by
 have key:∀ k e,(σ k).map bh.lost=some e->∃ cs b,σ k=some (.box cs)/\e=.box (cs.map λ_=>.any)/\g.ρ k=some b/\g'.ρ k=some b/\(Env.of wS g σ w).fix k=some b:=λk e he=>by
   cases q:σ k with
   | none=>rw[q] at he;cases he
   | some e0=>
     rw[q] at he
     obtain ⟨cs,rfl⟩:=hb k e0 q
     have he':e=.box (cs.map λ_=>.any):=by simpa[bh.lost] using he.symm
     cases h0.kX k _ q with
     | box h1 h2 h3=>
       rename_i b _ _ _
       have hf:(Env.of wS g σ w).fix k=some b:=by simp only[Env.of,q];exact h1
       exact ⟨cs,b,rfl,he',h1,h.fix k b hf,hf⟩
 have hks:∀ k,((σ k).map bh.lost).isSome=true->∃ e,(σ k).map bh.lost=some e:=λk hk=>by
   cases q:(σ k).map bh.lost with
   | none=>rw[q] at hk;cases hk
   | some e=>exact ⟨e,rfl⟩
 exact {
         kX:=λk e he=>by
           obtain ⟨cs,b,h1,rfl,h3,h4,h5⟩:=key k e he
           cases h0.kX k _ h1 with
           | box h6 h7 h8 h13=>
             rw[h3] at h6;cases h6
             obtain ⟨cs',h9,h10⟩:=h.x.yM b _ _ _ h7
             obtain ⟨cs'',h11,h12⟩:=h.x.flat k b _ _ _ h5 h7 h13
             rw[h9] at h11;cases h11
             refine .box h4 h9 (Ea g' ?_) h12
             rw[h8.length];simp[h10]
         inj:=λk k' b hk hk' hb hb'=>by
           obtain ⟨e,he⟩:=hks k hk
           obtain ⟨e',he'⟩:=hks k' hk'
           obtain ⟨cs,c,h1,_,h3,h4,_⟩:=key k e he
           obtain ⟨cs',c',h1',_,h3',h4',_⟩:=key k' e' he'
           rw[h4] at hb;cases hb
           rw[h4'] at hb';cases hb'
           exact h0.inj k k' _ (by rw[h1];rfl) (by rw[h1'];rfl) h3 h3'
         gl:=h.gl
         apart:=λk b e he _ hb=>by
           obtain ⟨cs,c,h1,_,h3,h4,h5⟩:=key k e he
           rw[h4] at hb;cases hb
           exact h.x.pD k _ h5
         size:=h.size,pV:=h.pV
         own:=λk b hk hb=>by
           obtain ⟨e,he⟩:=hks k hk
           obtain ⟨cs,c,h1,_,h3,h4,_⟩:=key k e he
           rw[h4] at hb;cases hb
           exact .inl ⟨k,by rw[h1];rfl,h3⟩
         fix:=h.fix,ke:=h.ke,g0:=h.g0,gn:=h.gn,os:=h.os,out:=h.out,tape:=h.tape
         x:={
                yM:=h.x.yM,flat:=h.x.flat,set:=h.x.set,yN:=h.x.yN
                hi:=λk b hk hb=>by
                  obtain ⟨e,he⟩:=hks k hk
                  obtain ⟨cs,c,h1,_,h3,h4,_⟩:=key k e he
                  rw[h4] at hb;cases hb
                  exact h0.x.hi k b (by rw[h1];rfl) h3
                gf:=h.x.gf
                o7:=h.x.o7,pD:=h.x.pD
                o8:=λk b k' hf hk hb=>by
                  obtain ⟨e,he⟩:=hks k' hk
                  obtain ⟨cs,c,h1,_,h3,h4,h5⟩:=key k' e he
                  rw[h4] at hb;cases hb
                  have h6:=h.fix k _ hf
                  simp only[Env.of] at hf
                  split at hf
                  · rename_i cs0 hc
                    exact h0.inj k' k _ (by rw[h1];rfl) (by rw[hc];rfl) h3 hf
                  · cases hf
                o9:=λk b e hf hk=>by
                  obtain ⟨cs,c,h1,h2,_⟩:=key k _ hk
                  exact ⟨_,h2⟩ } }
def Mu {X:Type} (V:X->AV) (C:X->List bh) (G:X->Prop) (H:AV->Prop) (es:List bh):qI->cl->Prop:=
 λae σ=>(∃ x,G x/\ae=.ret (V x)/\σ=bn (eX 0 (C x)))\/(∃ v,H v/\ae=.panic v/\σ=bn (eX 0 (es.map bh.lost)))
theorem BX:∀ {es:List bh} {i:Nat},bn (eX i (es.map bh.lost))=λk=>(bn (eX i es) k).map bh.lost
 | [],i=>by funext k;rfl
 | e::es,i=>by
  funext k;have ih:=congrFun (BX (es:=es) (i:=i+1)) k;simp only[List.map_cons,eX,bn,lI] at ih ⊢;split
  ·rfl
  exact ih
theorem xC:∀ {es:List bh},iO es=true->∀ {j:Nat} {e:bh},es[j]?=some e->∃ cs,e=.box cs
 | [],_,j,e,h=>by simp at h
 | .box cs::es,h,0,e,he=>by simp at he;exact ⟨cs,he.symm⟩
 | .box cs::es,h,j+1,e,he=>xC (es:=es) (by simpa[iO] using h) (by simpa using he)
 | .arr _ _ _::es,h,_,_,_=>by simp[iO] at h
 | .app _ _ _::es,h,_,_,_=>by simp[iO] at h
theorem SC.lost {P:Program} {f:FuncId} {args:List AV} {es:List bh} {X:Type} {V:X->AV} {C:X->List bh} {G:X->Prop} {H:AV->Prop} (hb:iO es=true) (h:SC P f args (bn (eX 0 es)) (pH V C G H)) :
  SC P f args (bn (eX 0 es)) (Mu V C G H es):=λwS g w vs hR hv=>(h wS g w vs hR hv).mono λe w' ⟨g',ae,σ',q,hE,hR'⟩=>by
 rcases q with q|⟨v,hH,rfl,rfl⟩
 ·exact ⟨g',ae,σ',.inl q,hE,hR'⟩
 ·refine ⟨g',_,bn (eX 0 (es.map bh.lost)),.inr ⟨v,hH,rfl,rfl⟩,hE,?_⟩
  rw[BX]
  exact hR.lost (λk e hk=>by
   obtain ⟨_,h2⟩:=fX hk
   exact xC hb h2) hR'
section
variable {P:Program} {E:Env} {n:Nat} {ops:Array Oper} {Q:dU} {rest:List Oper} {l:List (Nat×AV)} {ds:List (FuncId×List AV)} {s:List (Nat×bh)}
theorem tu (m:Nat):(List.range m).contains=below m:=by
 funext j;have h1:(List.range m).contains j=decide (j<m):=by
  by_cases q:j<m<;>simp[q]
 rw[h1];simp only[below];by_cases q:j<m
 ·simp[q,oA.2 q]
 have:Nat.blt j m=false:=by
  cases h:Nat.blt j m with
  | false=>rfl
  | true=>exact absurd (oA.1 h) q
 simp[q,this]
theorem qh {ks:List Nat} (hnd:nodupB ks=true) {cs:List bh} (h1:cs.length=ks.length) :
  after (bn s) (nth ks) (List.range ks.length) (List.range ks.length) (bn (eX 0 cs))=bn (lX ks (kr (nth ks) cs)++s):=by
 funext k
 rw[AM (by rw[jf,h1]) hnd]
 simp only[after]
 cases hf:(List.range ks.length).find? (λj=>nth ks j==k) with
 | some j=>
  have hj:=List.mem_of_find?_eq_some hf
  simp at hj
  simp only[oB]
  have:j<cs.length:=by omega
  rw[List.getElem?_eq_getElem this]
  have h6:=oM (i:=0) (List.getElem?_eq_getElem this)
  simp at h6
  rw[h6]
 | none=>
  have:(List.range ks.length).any (λj=>nth ks j==k)=false:=by
   rw[List.any_eq_false];intro j hj
   have:=List.find?_eq_none.1 hf j hj
   simpa using this
  simp[this]
theorem pJ {es:List bh} {j:Nat} (hj:(bn (eX 0 es) j).isSome=true):j<es.length:=by
 cases q:bn (eX 0 es) j with
 | none=>rw[q] at hj;cases hj
 | some e=>
  obtain ⟨_,h2⟩:=fX q
  have:=(List.getElem?_eq_some_iff.1 h2).1
  simpa using this
theorem vS (p:Nat->Bool):∀ {es:List bh},iO es=true->kf p (es.map bh.lost)=true
 | [],_=>rfl
 | .box cs::es,h=>by
  simp only[List.map_cons,kf,bh.lost,bh.oq,Bool.and_eq_true];refine ⟨?_,vS p (by simpa[iO] using h)⟩;have:∀ cs:List AV,AV.only.lu p (cs.map λ_=>AV.any)=true:=λcs=>by
   induction cs with
   | nil=>rfl
   | cons c cs ih=>simp[AV.only.lu,AV.only,ih]
  exact this cs
 | .arr _ _ _::_,h=>by simp[iO] at h
 | .app _ _ _::_,h=>by simp[iO] at h
theorem rJ {fr:eQ} {ks:List Nat} {es:List bh} (hfr:fr.s=(bL l ds).s/\fr.ds=ds) (hl:es.length=ks.length) (hnd:nodupB ks=true) (hbx:Bp l ds s ks ks es=true) (hfx:u9 E ks es)
  {cs:List bh} {v:AV} (hcs:cs.length=ks.length) (ho:kf (below ks.length) cs=true) (hv:v.only (below ks.length)=true) :
  wM E fr (bn s) (nth ks) (List.range ks.length) (List.range ks.length) (bn (eX 0 es)) (bn (eX 0 cs)) v:=by
 have hfr':fr=bL l ds:=by cases fr;simp only[bL] at hfr ⊢;rw[hfr.1,hfr.2]
 subst hfr'
 refine { Is:=λj e hj=>?_,val:=by rw[tu];exact hv,inj:=λj j' hj hj' he=>pG hnd (by simpa using hj) (by simpa using hj') he,same:=λj hj=>?_ }
 ·obtain ⟨_,h4⟩:=fX hj
  have h5:=(List.getElem?_eq_some_iff.1 h4).1
  exact ⟨by simp;omega,by rw[tu];exact tk ho h4⟩
 ·have hj':j<es.length:=by simp at hj;omega
  rcases vM hbx hfx (by simpa using hj) (List.getElem?_eq_getElem hj') with ⟨cs,hcs⟩|⟨q1,q2,q3,q4⟩
  ·exact .inl ⟨cs,by have:=oM (i:=0) (List.getElem?_eq_getElem hj');rw[hcs] at this;simpa using this⟩
  ·exact .inr ⟨hY q1 q2,λk e hkl he=>oo q3 k e (AN hkl) he,q4⟩
theorem Db {o:Oper} {X:Type} {V:X->AV} {C:X->List bh} {G:X->Prop} {H:AV->Prop} {f:Operand} {args:List Operand} {ts:Array TypeId} {fid:FuncId} {argsC first cap vs:List AV} {es:List bh}
  {next:eQ->cl->Prop} (ks:List Nat) (hen:Enters P fid) (ho:o.op=.call ⟨.value f,args.toArray,ts⟩) (hC:SC P fid argsC (bn (eX 0 es)) (pH V C G H)) (hk:nc E ds l s ks f args fid argsC es first cap vs) (hbb:iO es=true)
  (hd:∀ d,o.dst=some d->d<n) (hx:∀ x,G x->(C x).length=ks.length/\kf (below ks.length) (C x)=true/\(V x).only (below ks.length)=true)
  (hret:∀ x,G x->next ((bL l ds).jM o.dst ((V x).hQ (nth ks))) (bn (lX ks (kr (nth ks) (C x))++s)))
  (hpan:∀ v,H v->v.only (λ_=>false)=true/\Q (.panic v) (bL l ds) (bn (lX ks (kr (nth ks) (es.map bh.lost))++s))):Step P E n Q o (bL l ds) (bn s) next:=by
 obtain ⟨hl,hat⟩:=qd hk.gs
 rw[jf] at hl
 refine zT (nth ks) (List.range ks.length) hen ho (N hk.f) (by rw[nb hk.a];exact hk.e) (hC.lost hbb) (λj hj=>by have:=pJ hj;simp;omega) (λj e hj=>?_)
  (λj j' hj hj' he=>pG hk.nd (by have:=pJ hj;omega) (by have:=pJ hj';omega) he) hd (λv σc hr=>?_) (λv σc hr=>?_)
 ·obtain ⟨_,h2⟩:=fX hj
  exact hat j _ (by rw[oB,show j=j - 0 by omega,h2];rfl)
 ·rcases hr with ⟨x,hg,he,rfl⟩|⟨_,_,he,_⟩
  ·cases he
   obtain ⟨h1,h2,h3⟩:=hx x hg
   exact ⟨List.range ks.length,rJ ⟨rfl,rfl⟩ hl hk.nd hk.bx hk.fx h1 h2 h3,by rw[qh hk.nd h1];exact hret x hg⟩
  ·cases he
 ·rcases hr with ⟨_,_,he,_⟩|⟨v',hh,he,rfl⟩
  ·cases he
  ·cases he
   obtain ⟨h1,h2⟩:=hpan v hh
   refine ⟨List.range ks.length,rJ ⟨rfl,rfl⟩ hl hk.nd hk.bx hk.fx (by simp[hl]) (vS _ hbb) (tQ (λk hk=>by cases hk) h1),?_⟩
   rw[qh hk.nd (by simp[hl]),rE h1];exact h2
end
section
variable {P:Program} {E:Env} {n:Nat} {ops:Array Oper} {Q:dU} {rest:List Oper} {fr:eQ} {σ:cl}
theorem Gf {o:Oper} {x:Operand} {ts:Array TypeId} {fid:FuncId} {cap:List AV} {next:eQ->cl->Prop} (ho:o.op=.defer ⟨.value x,#[],ts⟩) (hx:fr.val x=.fn fid [] cap) (hd:∀ d,o.dst=some d->d<n)
  (hn:next (eQ.jM ⟨fr.s,(fid,cap)::fr.ds⟩ o.dst .any) σ):Step P E n Q o fr σ next:=by
 intro g a w K hR hF hK
 have q:=hF.eval x;rw[hx] at q
 generalize hq:a.eval x=c at q
 cases q with
 | fn _ h1 h2=>
  rename_i xs ys
  have hxs:xs=[]:=by cases h1;rfl
  subst hxs
  have hrun:(execOp a.eval o).run P w=.ok (.defer { target:=.fn (.func fid) ys.toArray,args:=#[] }) w:=by
   simp[execOp,ho,resolve,hq,Deferred.ofValue]
  simp only[Oper.wp,hrun,Oper.upon]
  refine hK g _ _ _ _ hn hR ?_
  have hF':FR n g ⟨fr.s,(fid,cap)::fr.ds⟩ { a with defers:={ target:=.fn (.func fid) ys.toArray,args:=#[] }::a.defers }:=⟨hF.size,hF.jH,.cons h2 hF.ds⟩
  exact hF'.put hd (.any _)
theorem AP {l:List (Nat×AV)} {ds:List (FuncId×List AV)} {s:List (Nat×bh)} {ty:TypeId} {pos:String} {af:Array Edge} {x:Operand} {ts:Array TypeId} {fid:FuncId} {cap:List AV} (hx:bj l x=some (.fn fid [] cap))
  (hn:SL P E n ops Q rest (bL l ((fid,cap)::ds)) (bn s)):SL P E n ops Q (⟨none,.defer ⟨.value x,#[],ts⟩,ty,pos,af,none⟩::rest) (bL l ds) (bn s):=
 kG rfl (Gf rfl (N hx) (λ_ q=>by cases q) hn)
def MV:Option Value->FrameMode->Prop
 | none,u=>u=.returning
 | some c,u=>u=.panicking [{ v:=c,recovered:=false }]
def MW (P:Program) (f:FuncId) (cap:List AV) (σ:cl) (m:Option Value) (R:cl->Prop):Prop:=
 ∀ (wS:World) (g:Gh) (w:World) (vs:List Value) (u:FrameMode),Rel (Env.of wS g σ w) g σ w->iv g cap vs->MV m u->
  CallsD P f vs.toArray u w λe u' w'=>(∃ v,e=.returned v)/\settle u'=.returning/\∃ g' σ',R σ'/\Rel (Env.of wS g σ w) g' σ' w'
def EU (P:Program) (f:FuncId) (cap:List AV) (es:List bh) (m:Option Value) {X:Type} (res:U X) (C:X->List bh):Prop:=
 ∀ r,res=r->r≠.stuck->MW P f cap (bn (eX 0 es)) m (λσ=>∃ x,r=.ok x/\σ=bn (eX 0 (C x)))
def EW (P:Program) (E:Env) (fn:Func) (R:qI->cl->Prop) (fid:FuncId) (cap:List AV) (m:Option Value) (fr:eQ) (σ:cl):Prop:=
 ∃ (π:Nat->Nat) (L:List Nat) (σ0:cl) (capC:List AV) (R0:cl->Prop),Enters P fid/\cap=AV.hQ.mE π capC/\MW P fid capC σ0 m R0/\(∀ j,(σ0 j).isSome=true->L.contains j=true)/\
  (∀ j e,σ0 j=some e->σ (π j)=some (e.hQ π))/\(∀ j j',(σ0 j).isSome=true->(σ0 j').isSome=true->π j=π j'->j=j')/\
  ∀ σc,R0 σc->wM E fr σ π L L σ0 σc (.gZ [])/\nD P fn R .ret ⟨fr.s,[]⟩ (after σ π L L σc)
def wB (P:Program) (E:Env) (fn:Func) (R:qI->cl->Prop):dU
 | .normal,fr,σ|.ret,fr,σ=>nD P fn R .ret fr σ\/∃ fid cap,fr.ds=[(fid,cap)]/\EW P E fn R fid cap none fr σ
 | .panic v,fr,σ=>nD P fn R (.panic v) fr σ\/∃ fid cap c,fr.ds=[(fid,cap)]/\(∀ g c',VR g v c'->c'=c)/\EW P E fn R fid cap (some c) fr σ
 | _,_,_=>False
theorem EX {f:FuncId} {fn:Func} {c:Code} {args:List AV} {R:qI->cl->Prop} (hf:P.funcs[f]?=some fn) (hb:fn.body=some c) (hn:args.length<=fn.ntmps)
  (h:∀ E:Env,(∀ k,(∀ cs,σ k≠some (.box cs))->E.fix k=none)->SW P E fn.ntmps c (wB P E fn R) ⟨λi=>args[i]?.getD .any,[]⟩ σ):SC P f args σ R:=by
 intro wS g w vs hR hv
 have hE:∀ k,(∀ cs,σ k≠some (.box cs))->(Env.of wS g σ w).fix k=none:=λk hk=>by
  cases q:σ k with
  | none=>simp only[Env.of,q]
  | some e=>cases e with
   | box cs=>exact absurd q (hk cs)
   | arr el sz cs=>simp only[Env.of,q]
   | app el sz cs=>simp only[Env.of,q]
 have hlen:=hv.length
 refine calls_of_wp_defers hf hb (wp_mono (h _ hE g { tmps:=vs.toArray++Array.replicate (fn.ntmps - vs.toArray.size) undef,defers:=[] } w hR ⟨by simp;omega,λi=>?_,.nil⟩) λe a w' hq=>?_)
 ·rw[Array.getD_eq_getD_getElem?]
  rcases Nat.lt_or_ge i args.length with q|q
  ·obtain ⟨c,h1,h2⟩:=hv.get i args[i] (by simp)
   have:(vs.toArray++Array.replicate (fn.ntmps - vs.toArray.size) undef)[i]?=some c:=by
    rw[Array.getElem?_append_left (by simp;omega)];simpa using h1
   rw[this]
   simp[q];exact h2
  ·have e:args[i]?=none:=List.getElem?_eq_none q
   simp only[e,Option.getD_none];exact .any _
 ·obtain ⟨g',ae,fr',σ',q,hx,hR',hF'⟩:=hq
  have fin:∀ g' (fr':eQ) (a:Act) σ' w',Rel (Env.of wS g σ w) g' σ' w'->FR fn.ntmps g' fr' a->nD P fn R .ret fr' σ'->
    ∃ c,(results fn a.tmps).run P w'=.ok c w'/\∃ g' ae σ',R ae σ'/\ER g' ae (.returned c)/\Rel (Env.of wS g σ w) g' σ' w':=by
   intro g' fr' a σ' w' hR' hF' ⟨_,vs,v,σ2,h1,h2,hs,h3⟩
   obtain ⟨cs,h4,h5⟩:=h1.run hR' hF'
   refine ⟨if hh:cs.toArray.size=1 then cs.toArray[0] else .tuple cs.toArray,?_,g',.ret v,σ2,h3,.ret (h2 g' _ h5.pb),hR'.sub hs⟩
   rw[uv,<- Array.toArray_toList (xs:=fn.results)]
   simp only[List.mapM_toArray,Sem.run_bind,Sem.run_map,h4,Result.andThen_ok,Sem.run_pure]
  have runs:∀ fid cap m u,fr'.ds=[(fid,cap)]->EW P (Env.of wS g σ w) fn R fid cap m fr' σ'->MV m u->u≠.run->
    Leaves P fn a.tmps (λe w'=>∃ g' ae σ',R ae σ'/\ER g' ae e/\Rel (Env.of wS g σ w) g' σ' w') a.defers u w':=by
   intro fid cap m u hds ⟨π,L,σ0,capC,R0,hen,hcap,hC,hL,hσ,hinj,hback⟩ hm hu
   have hdr:=hF'.ds;rw[hds] at hdr
   generalize hdf:a.defers=dd at hdr
   cases hdr with
   | cons hv hnil=>
    rename_i cv ds
    have:ds=[]:=hnil.pE
    subst this
    rw[hcap] at hv
    refine ⟨hu,.func fid,cv.toArray,fid,cv.toArray,rfl,by simpa[invoke] using hen cv.toArray w',?_⟩
    refine (hC (Env.of wS g σ w).wS (g'.pull π) w' cv u (DS hR' hσ hinj) hv.pull hm).mono λe u' w2 ⟨⟨v,he⟩,hset,g2,σ2,hr0,hR2⟩=>?_
    subst he
    obtain ⟨hB,hpost⟩:=hback σ2 hr0
    obtain ⟨h1,h2,_⟩:=vH (v:=.gZ []) (c:=.tuple #[]) hR' hF' hL hσ hB hR2 (.gZ .nil)
    simp only[hset]
    exact fin _ ⟨fr'.s,[]⟩ { tmps:=a.tmps,defers:=[] } _ _ h1 ⟨h2.size,h2.jH,.nil⟩ hpost
  cases hx with
  | normal=>
   rcases q with q|⟨fid,cap,hds,hrun⟩
   ·have hd:=hF'.ds;rw[q.1] at hd
    simp only[bodyPostD,hd.pE]
    exact fin _ _ _ _ _ hR' hF' q
   ·exact runs fid cap none .returning hds hrun rfl (by simp)
  | ret=>
   rcases q with q|⟨fid,cap,hds,hrun⟩
   ·have hd:=hF'.ds;rw[q.1] at hd
    simp only[bodyPostD,hd.pE]
    exact fin _ _ _ _ _ hR' hF' q
   ·exact runs fid cap none .returning hds hrun rfl (by simp)
  | panic hv=>
   rcases q with ⟨hd,σ2,hs,h1⟩|⟨fid,cap,c,hds,hc,hrun⟩
   ·have hdd:=hF'.ds;rw[hd] at hdd
    simp only[bodyPostD,hdd.pE]
    exact ⟨g',_,σ2,h1,.panic hv,hR'.sub hs⟩
   ·rw[hc _ _ hv]
    exact runs fid cap (some c) _ hds hrun rfl (by simp)
  | exit id=>exact q.elim
  | goto l=>exact q.elim
end
section
variable {P:Program} {E:Env} {n:Nat} {ops:Array Oper} {Q:dU} {rest:List Oper} {l:List (Nat×AV)} {ds:List (FuncId×List AV)} {s:List (Nat×bh)} {ty:TypeId} {pos:String} {af:Array Edge}
theorem Gg {f:FuncId} {fn:Func} {c:Code} {args:List AV} {es:List bh} {X:Type} {res:U X} {V:X->AV} {C:X->List bh} (hf:P.funcs[f]?=some fn) (hb:fn.body=some c) (hn:Nat.ble args.length fn.ntmps=true)
  (h:∀ r,res=r->r≠.stuck->∀ E:Env,(∀ k,jt es k=true->E.fix k=none)->
   SW P E fn.ntmps c (wB P E fn (pH V C (λx=>r=.ok x) (λv=>∃ p,r=.mw p/\v=p.av))) (bL ((List.range args.length).zip args) []) (bn (eX 0 es))):CT P f args es res V C:=.mk <|
 λr hr hs=>EX hf hb (Nat.le_of_ble_eq_true hn) λE hE=>by
  rw[xz]
  refine h r hr hs E λk hk=>hE k λcs hcs=>?_
  obtain ⟨_,h2⟩:=fX hcs
  have h3:∀ (es:List bh) (k:Nat),jt es k=true->es[k]?≠some (.box cs):=by
   intro es
   induction es with
   | nil=>intro k _;simp
   | cons e es ih=>
    intro k hk
    cases k with
    | zero=>intro q;simp at q;subst q;simp[jt] at hk
    | succ k=>simpa using ih k (by cases e<;>simpa[jt] using hk)
  exact h3 es k hk (by simpa using h2)
def pc {α:Type} (x:U α) (h:sB->U α):U α:=match x with
 | .stuck=>.stuck
 | .mw p=>h p
 | .ok a=>.ok a
theorem w7 {α:Type} {x:U α} {h:sB->U α} {r:U α} (hr:r≠.stuck) (hc:pc x h=r):∃ r0,r0≠.stuck/\x=r0/\pc r0 h=r:=by
 refine ⟨x,?_,rfl,hc⟩;intro q;subst q;exact hr hc.symm
def qJ {α:Type} (T:TypeId) (p:sB) (k:Int->U α):U α:=match p with
 | ⟨t,[.sc (.int .i64 v)]⟩=>if t=T then k v else .stuck
 | _=>.stuck
theorem qk {α:Type} {T:TypeId} {p:sB} {k:Int->U α} {r:U α} (hr:r≠.stuck) (h:qJ T p k=r):∃ v,p=⟨T,[.sc (.int .i64 v)]⟩/\k v=r:=by
 unfold qJ at h;split at h
 ·split at h
  ·rename_i v q;subst q;exact ⟨v,rfl,h⟩
  exact absurd h.symm hr
 exact absurd h.symm hr
theorem Gi {g:Gh} {T:TypeId} {v:Int} {c:Value} (h:VR g (sB.av ⟨T,[.sc (.int .i64 v)]⟩) c):c=.iface T (.agg #[.int .i64 v]):=by
 simp only[sB.av,List.map_cons,List.map_nil] at h;cases h with
 | ny _ h=>cases h with
  | agg h=>cases h with
   | cons h t=>
    cases t
    rw[h.c6]
theorem EY {fn:Func} {R:qI->cl->Prop} {fr:eQ} {σ:cl} (h:nD P fn R .normal fr σ):nD P fn R .ret fr σ:=h
theorem Gj {fn:Func} {R:qI->cl->Prop} {ae:uh} (hae:ae=.ret\/ae=.normal) {fr:eQ} {σ:cl} (h:nD P fn R ae fr σ):wB P E fn R ae fr σ:=by
 rcases hae with rfl|rfl
 ·exact .inl h
 exact .inl (EY h)
structure Eb (E:Env) (l:List (Nat×AV)) (s:List (Nat×bh)) (ks:List Nat) (cap capC:List AV) (es:List bh):Prop where
 c:cap=AV.hQ.mE (nth ks) capC
 gs:rG s ks=some (kr (nth ks) es)
 nd:nodupB ks=true
 bx:iO es=true
theorem Ac:∀ {ks:List Nat} {es:List bh},iO es=true->u9 E ks es
 | [],_,_=>by cases ‹List bh›<;>trivial
 | _::_,[],_=>trivial
 | k::ks,.box cs::es,h=>by simp only[u9];exact Ac (by simpa[iO] using h)
 | _::_,.arr _ _ _::_,h=>by simp[iO] at h
 | _::_,.app _ _ _::_,h=>by simp[iO] at h
theorem BY {ks0:List Nat}:∀ {ks:List Nat} {es:List bh},iO es=true->Bp l ds s ks0 ks es=true
 | [],_,_=>by cases ‹List bh›<;>rfl
 | _::_,[],_=>rfl
 | k::ks,.box cs::es,h=>by simp only[Bp];simp[BY (ks:=ks) (es:=es) (by simpa[iO] using h)]
 | _::_,.arr _ _ _::_,h=>by simp[iO] at h
 | _::_,.app _ _ _::_,h=>by simp[iO] at h
theorem J1 {fn:Func} {R:qI->cl->Prop} {fid:FuncId} {cap capC:List AV} {es:List bh} {ks:List Nat} {m:Option Value} {X:Type} {res:U X} {C:X->List bh} (hen:Enters P fid) (hC:EU P fid capC es m res C) (hns:res≠.stuck)
  (hk:Eb E l s ks cap capC es) (hx:∀ x,(C x).length=ks.length/\kf (below ks.length) (C x)=true)
  (hret:∀ x,res=.ok x->nD P fn R .ret (bL l []) (bn (lX ks (kr (nth ks) (C x))++s))):EW P E fn R fid cap m (bL l [(fid,cap)]) (bn s):=by
 obtain ⟨hl,hat⟩:=qd hk.gs
 rw[jf] at hl
 refine ⟨nth ks,List.range ks.length,bn (eX 0 es),capC,_,hen,hk.c,hC res rfl hns,λj hj=>by have:=pJ hj;simp;omega,λj e hj=>?_,
  λj j' hj hj' he=>pG hk.nd (by have:=pJ hj;omega) (by have:=pJ hj';omega) he,?_⟩
 ·obtain ⟨_,h2⟩:=fX hj
  exact hat j _ (by rw[oB,show j=j - 0 by omega,h2];rfl)
 ·rintro σc ⟨x,hxr,rfl⟩
  obtain ⟨h1,h2⟩:=hx x
  refine ⟨rJ (l:=l) (ds:=[(fid,cap)]) ⟨rfl,rfl⟩ hl hk.nd (BY hk.bx) (Ac hk.bx) h1 h2 rfl,?_⟩
  rw[qh hk.nd h1];exact hret x hxr
theorem EZ {fn:Func} {R:qI->cl->Prop} {ae:uh} (hae:ae=.ret\/ae=.normal) {fid:FuncId} {cap capC:List AV} {es:List bh} (ks:List Nat) {X:Type} {x:X} {C:X->List bh} (hen:Enters P fid) (hC:EU P fid capC es none (U.ok x) C)
  (hk:Eb E l s ks cap capC es) (hx:∀ x,(C x).length=ks.length/\kf (below ks.length) (C x)=true) {s':List (Nat×bh)} (hs:lX ks (kr (nth ks) (C x))++s=s')
  (hret:nD P fn R .ret (bL l []) (bn s')):wB P E fn R ae (bL l [(fid,cap)]) (bn s):=by
 have:EW P E fn R fid cap none (bL l [(fid,cap)]) (bn s):=J1 hen hC (by simp) hk hx λy q=>by cases q;rw[hs];exact hret
 rcases hae with rfl|rfl
 ·exact .inr ⟨fid,cap,rfl,this⟩
 ·exact .inr ⟨fid,cap,rfl,this⟩
theorem rk {d:Nat} {X R:Type} {res:U X} {kk:X->U R} {r:U R} {V V':X->AV} {C:X->List bh} {C':X->List (Nat×bh)} {f:Operand} {args:List Operand} {ts:Array TypeId} {fid:FuncId}
  {argsC first cap vs:List AV} {es:List bh} (hr:r≠.stuck) (h:U.bind res kk=r) (ks:List Nat) (hen:Enters P fid)
  (hC:CT P fid argsC es res V C) (hk:nc E ds l s ks f args fid argsC es first cap vs) (hbb:iO es=true) (hd:Nat.blt d n=true)
  (hx:∀ x,(C x).length=ks.length/\kf (below ks.length) (C x)=true/\(V x).only (below ks.length)=true)
  (hV:∀ x,(V x).hQ (nth ks)=V' x/\lX ks (kr (nth ks) (C x))=C' x)
  {sp:List (Nat×bh)} (hsp:lX ks (kr (nth ks) (es.map bh.lost))++s=sp) (hpan:∀ p,r=.mw p->Q (.panic p.av) (bL l ds) (bn sp))
  (hret:∀ x,kk x=r->SL P E n ops Q rest (bL ((d,V' x)::l) ds) (bn (C' x++s))) :
  SL P E n ops Q (⟨some d,.call ⟨.value f,args.toArray,ts⟩,ty,pos,af,none⟩::rest) (bL l ds) (bn s):=by
 obtain ⟨hns,hok,hp⟩:=lY hr h
 subst hsp
 refine kG rfl (Db ks hen rfl (hC.h res rfl hns) hk hbb (nv hd) (λx _=>hx x) (λx hg=>?_) (λv hv=>?_))
 ·have:=hret x (hok x hg)
  rw[<- (hV x).1,<- (hV x).2] at this;exact this
 ·obtain ⟨p,hp1,rfl⟩:=hv
  exact ⟨p.only _,hpan p (hp p hp1)⟩
end
end Go.Abs
end
section
namespace Go.Abs
open U
def lS (k:IntKind) (x y:Int):Int:=k.wrap (x*2 ^ (min y.toNat k.bits))
def LI (k:IntKind) (x y:Int):Int:=x.fdiv (2 ^ (min y.toNat k.bits))
def Gk (k:IntKind) (x y:Int):Int:=k.wrap (BitVec.ofInt k.bits x&&& BitVec.ofInt k.bits y).toNat
def sJ (k:IntKind) (x y:Int):Int:=k.wrap (BitVec.ofInt k.bits x||| BitVec.ofInt k.bits y).toNat
def IC (k:IntKind) (x y:Int):Int:=k.wrap (BitVec.ofInt k.bits x ^^^ BitVec.ofInt k.bits y).toNat
def Ec (k:IntKind) (x y:Int):Int:=k.wrap (BitVec.ofInt k.bits x&&& ~~~BitVec.ofInt k.bits y).toNat
def yO (k:IntKind) (x:Int):Int:=IC k (if k.signed then -1 else k.max) x
def eY (l:List Int) (i:Int):Int:=l.getD i.toNat 0
def lh (l:List Int) (i v:Int):List Int:=l.set i.toNat v
def lP (l:List Int):ByS:=l.map λi=>UInt8.ofNat i.toNat
section
variable {P:Program} {l:List (Nat×AV)} {ds:List (FuncId×List AV)} {s:List (Nat×bh)}
theorem vT {xt yt:TypeId} {x y:Operand} {k:IntKind} {a b:Int} (hx:bj l x=some (Sc (.int k a))) (hy:bj l y=some (Sc (.int k b))) (h:b≠0):iy P (.binOp .quo xt x y yt) l ds s (Sc (.int k (k.wrap (a.tdiv b)))) []:=
 .of (qQ (N hx) (N hy) λw=>by simp[binOp,Op.intDiv,h])
theorem xD {xt yt:TypeId} {x y:Operand} {k:IntKind} {a b:Int} (hx:bj l x=some (Sc (.int k a))) (hy:bj l y=some (Sc (.int k b))) (h:b≠0):iy P (.binOp .rem xt x y yt) l ds s (Sc (.int k (a.tmod b))) []:=
 .of (qQ (N hx) (N hy) λw=>by simp[binOp,Op.intDiv,h])
theorem tv {xt yt:TypeId} {x y:Operand} {k k':IntKind} {a b:Int} (hx:bj l x=some (Sc (.int k a))) (hy:bj l y=some (Sc (.int k' b))) (h:0<=b):iy P (.binOp .shl xt x y yt) l ds s (Sc (.int k (lS k a b))) []:=
 .of (qQ (N hx) (N hy) λw=>by simp[binOp,Op.shift,Int.not_lt.2 h,lS])
theorem xE {xt yt:TypeId} {x y:Operand} {k k':IntKind} {a b:Int} (hx:bj l x=some (Sc (.int k a))) (hy:bj l y=some (Sc (.int k' b))) (h:0<=b):iy P (.binOp .shr xt x y yt) l ds s (Sc (.int k (LI k a b))) []:=
 .of (qQ (N hx) (N hy) λw=>by simp[binOp,Op.shift,Int.not_lt.2 h,LI])
theorem xF {xt yt:TypeId} {x y:Operand} {k:IntKind} {a b:Int} (hx:bj l x=some (Sc (.int k a))) (hy:bj l y=some (Sc (.int k b))):iy P (.binOp .and xt x y yt) l ds s (Sc (.int k (Gk k a b))) []:=
 .of (qQ (N hx) (N hy) λw=>by simp[binOp,Op.intBits,Gk])
theorem xG {xt yt:TypeId} {x y:Operand} {k:IntKind} {a b:Int} (hx:bj l x=some (Sc (.int k a))) (hy:bj l y=some (Sc (.int k b))):iy P (.binOp .or xt x y yt) l ds s (Sc (.int k (sJ k a b))) []:=
 .of (qQ (N hx) (N hy) λw=>by simp[binOp,Op.intBits,sJ])
theorem xH {xt yt:TypeId} {x y:Operand} {k:IntKind} {a b:Int} (hx:bj l x=some (Sc (.int k a))) (hy:bj l y=some (Sc (.int k b))):iy P (.binOp .xor xt x y yt) l ds s (Sc (.int k (IC k a b))) []:=
 .of (qQ (N hx) (N hy) λw=>by simp[binOp,Op.intBits,IC])
theorem rK {xt yt:TypeId} {x y:Operand} {k:IntKind} {a b:Int} (hx:bj l x=some (Sc (.int k a))) (hy:bj l y=some (Sc (.int k b))):iy P (.binOp .andNot xt x y yt) l ds s (Sc (.int k (Ec k a b))) []:=
 .of (qQ (N hx) (N hy) λw=>by simp[binOp,Op.intBits,Ec])
theorem J2 {op:UnOp} {t:TypeId} {fr:eQ} {x:Operand} {a c:Value} (hx:fr.val x=Sc a) (h:∀ w,(Op.unary op a).run P w=.ok c w):fD P (.unOp op t x) fr [] (Sc c):=by
 intro o ho g ev w _ hv _;have q1:=hv x (by simp[Op.operands]);rw[hx] at q1;exact ⟨c,by simp[execOp,ho,q1.c6,h],.pv (.sc _)⟩
theorem xI {t:TypeId} {x:Operand} {k:IntKind} {a:Int} (hx:bj l x=some (Sc (.int k a))):iy P (.unOp .neg t x) l ds s (Sc (.int k (k.wrap (0 - a)))) []:=
 .of (J2 (N hx) λw=>by simp[Op.unary,Op.intArith])
theorem xJ {t:TypeId} {x:Operand} {k:IntKind} {a:Int} (hx:bj l x=some (Sc (.int k a))):iy P (.unOp .xor t x) l ds s (Sc (.int k (yO k a))) []:=
 .of (J2 (N hx) λw=>by simp[Op.unary,Op.intBits,yO,IC])
def Oe (T:TypeId) (b:Bool):AV:=match b with
 | true=>.ny T .any
 | false=>Sc .nilIface
class BZ (P:Program) (t:TypeId):Prop where h:∃ ms,P.underlying t=some (.interface ms)
theorem B0 {t:TypeId} (ht:∃ ms,P.underlying t=some (.interface ms)) (u:TypeId) (v:Value) (w:World):(Op.equal t (.iface u v) .nilIface).run P w=.ok false w:=by
 obtain ⟨ms,ht⟩:=ht;have:∀ d,(Op.equalIn (d+1) t (.iface u v) .nilIface).run P w=.ok false w:=λd=>by simp[Op.equalIn,run_underlying ht]
 exact this 9999
theorem B1 {t:TypeId} (ht:∃ ms,P.underlying t=some (.interface ms)) (w:World):(Op.equal t .nilIface .nilIface).run P w=.ok true w:=by
 obtain ⟨ms,ht⟩:=ht;have:∀ d,(Op.equalIn (d+1) t .nilIface .nilIface).run P w=.ok true w:=λd=>by simp[Op.equalIn,run_underlying ht]
 exact this 9999
theorem ID {xt yt u:TypeId} {fr:eQ} {x y:Operand} {v:AV} (ht:∃ ms,P.underlying xt=some (.interface ms)) (hx:fr.val x=.ny u v) (hy:fr.val y=Sc .nilIface):fD P (.binOp .neq xt x y yt) fr [] (Bo true):=by
 intro o ho g ev w _ hv _;have q1:=hv x (by simp[Op.operands]);rw[hx] at q1;have q2:=hv y (by simp[Op.operands]);rw[hy] at q2;generalize hq:ev x=c at q1;cases q1 with
 | ny _ h=>
  rename_i vv
  refine ⟨.bool true,?_,.pv (.sc _)⟩
  simp[execOp,ho,hq,q2.c6,eqGuard,binOp,B0 ht u vv w]
theorem IE {xt yt u:TypeId} {fr:eQ} {x y:Operand} {v:AV} (ht:∃ ms,P.underlying xt=some (.interface ms)) (hx:fr.val x=.ny u v) (hy:fr.val y=Sc .nilIface):fD P (.binOp .eql xt x y yt) fr [] (Bo false):=by
 intro o ho g ev w _ hv _;have q1:=hv x (by simp[Op.operands]);rw[hx] at q1;have q2:=hv y (by simp[Op.operands]);rw[hy] at q2;generalize hq:ev x=c at q1;cases q1 with
 | ny _ h=>
  rename_i vv
  refine ⟨.bool false,?_,.pv (.sc _)⟩
  simp[execOp,ho,hq,q2.c6,eqGuard,binOp,B0 ht u vv w]
theorem IF {xt yt:TypeId} {fr:eQ} {x:Operand} (ht:∃ ms,P.underlying xt=some (.interface ms)) (hx:fr.val x=Sc .nilIface):fD P (.binOp .neq xt x (.const .nilIface) yt) fr [] (Bo false):=by
 intro o ho g ev w _ hv _;have q1:=hv x (by simp[Op.operands]);rw[hx] at q1;have q2:=hv (.const .nilIface) (by simp[Op.operands]);have e2:ev (.const .nilIface)=.nilIface:=VR.c6 q2;refine ⟨.bool false,?_,.pv (.sc _)⟩;simp[execOp,ho,q1.c6,e2,eqGuard,binOp,B1 ht w]
theorem IG {xt yt:TypeId} {fr:eQ} {x:Operand} (ht:∃ ms,P.underlying xt=some (.interface ms)) (hx:fr.val x=Sc .nilIface):fD P (.binOp .eql xt x (.const .nilIface) yt) fr [] (Bo true):=by
 intro o ho g ev w _ hv _;have q1:=hv x (by simp[Op.operands]);rw[hx] at q1;have q2:=hv (.const .nilIface) (by simp[Op.operands]);have e2:ev (.const .nilIface)=.nilIface:=VR.c6 q2;refine ⟨.bool true,?_,.pv (.sc _)⟩;simp[execOp,ho,q1.c6,e2,eqGuard,binOp,B1 ht w]
theorem qm {xt yt u:TypeId} {x y:Operand} {v:AV} [ht:BZ P xt] (hx:bj l x=some (.ny u v)) (hy:bj l y=some (Sc .nilIface)):iy P (.binOp .neq xt x y yt) l ds s (Bo true) []:=.of (ID ht.h (N hx) (N hy))
theorem xK {xt yt u:TypeId} {x y:Operand} {v:AV} [ht:BZ P xt] (hx:bj l x=some (.ny u v)) (hy:bj l y=some (Sc .nilIface)):iy P (.binOp .eql xt x y yt) l ds s (Bo false) []:=.of (IE ht.h (N hx) (N hy))
theorem qn {xt yt:TypeId} {x:Operand} [ht:BZ P xt] (hx:bj l x=some (Sc .nilIface)):iy P (.binOp .neq xt x (.const .nilIface) yt) l ds s (Bo false) []:=.of (IF ht.h (N hx))
theorem xL {xt yt:TypeId} {x:Operand} [ht:BZ P xt] (hx:bj l x=some (Sc .nilIface)):iy P (.binOp .eql xt x (.const .nilIface) yt) l ds s (Bo true) []:=.of (IG ht.h (N hx))
theorem Gl {xt yt T:TypeId} {x:Operand} {b:Bool} [ht:BZ P xt] (hx:bj l x=some (Oe T b)):iy P (.binOp .neq xt x (.const .nilIface) yt) l ds s (Bo b) []:=by
 cases b with
 | true=>exact qm hx rfl
 | false=>exact qn hx
theorem KF {xt t:TypeId} {fr:eQ} {x:Operand} {v:AV} {d:TypeDesc} (ht:P.underlying t=some d) (hd:FP d=false) (hx:fr.val x=.ny t v):fD P (.typeAssert x xt t true) fr [] (.gZ [v,Bo true]):=by
 intro o ho g ev w _ hv _;have q1:=hv x (by simp[Op.operands]);rw[hx] at q1;generalize hq:ev x=c at q1;cases q1 with
 | ny _ h=>
  rename_i vv
  refine ⟨.tuple [vv,.bool true].toArray,?_,.gZ (.cons h (.cons (.pv (.sc _)) .nil))⟩
  simp only[execOp,ho,hq,Instr.typeAssert,Sem.run_bind,run_underlying ht,Result.andThen_ok]
  cases d<;>simp_all [FP]
theorem Ad {xt t:TypeId} {x:Operand} {v:AV} [ht:F9 P t] (hx:bj l x=some (.ny t v)):iy P (.typeAssert x xt t true) l ds s (.gZ [v,Bo true]) []:=by
 have h:=ht.h;cases hu:P.underlying t with
 | none=>simp[hu] at h
 | some d=>simp[hu] at h;exact .of (KF hu h (N hx))
theorem B2 (f:Int->AV):∀ {xs:List Int} {i:Int},0<=i->i<xs.length->(xs.map f)[i.toNat]?=some (f (eY xs i)):=λ{xs i} h0 h1=>by
 have:i.toNat<xs.length:=by omega
 simp[eY,this]
theorem Gm (f:Int->AV) {t e:TypeId} {x ix:Operand} {n:Nat} {k:IntKind} {i:Int} {xs:List Int} {cs:List AV} [ht:kI P t (.array n e)] [ha:je P e false] [hz:nA P e 1]
  (hx:bj l x=some (.agg cs)) (hi:bj l ix=some (Sc (.int k i))) (hc:cs=xs.map f) (hn:xs.length=n) (h0:0<=i) (h1:i<n):iy P (.index t x ix) l ds s (f (eY xs i)) []:=
 .of (AB ht.h ha.h hz.h (N hx) (N hi) h0 h1 (by rw[hc];exact B2 f h0 (by rw[hn];exact h1)))
theorem KG (f:Int->AV) {t:TypeId} {x:Operand} {k:Nat} {i:Int} {xs:List Int} {cs:List AV} [ha:je P t false] (hx:bj l x=some (.ptr k (0+i.toNat*1))) (hk:dq s k=some (.box cs)) (hc:cs=xs.map f) (h0:0<=i) (h1:i<xs.length) :
  iy P (.load t x) l ds s (f (eY xs i)) [(k,.box cs)]:=
 .on hk (s5 ha.h (N hx) (by simp only[bh.cells];rw[hc,show 0+i.toNat*1=i.toNat by omega];exact B2 f h0 h1))
theorem ve {a b:TypeId} {x:Operand} {c:ByS} [hs:kI P a .string] [ht:kI P b .string] (hx:bj l x=some (aZ c)):iy P (.convert a b x) l ds s (aZ c) []:=.of (by
 intro o ho g ev w _ hv _
 have q1:=hv x (by simp[Op.operands]);rw[N hx] at q1
 exact ⟨S c,by simp[execOp,ho,q1.c6,convert,run_underlying hs.h,run_underlying ht.h,S],.pv (.sc _)⟩)
end
end Go.Abs
end
section
namespace Go.Abs
open U
theorem kz.pK {g:Gh} {w:World} {k sz:Nat} {el:TypeId} {cells:List PV} (h:kz g w k (.arr el sz cells)):(g.ρ k=none/\cells=[])\/
  ∃ (b:Nat) (cs:Array Value) (el':TypeId),g.ρ k=some b/\w.heap[b]?=some (.cells cs el' (0,0))/\cells.length<=cs.size/\cs.size=g.cp k*sz:=by
 generalize he:bh.arr el sz cells=e at h
 cases h with
 | box=>cases he
 | qH h=>cases he;exact .inl ⟨h,rfl⟩
 | arr h hw hl hz=>cases he;exact .inr ⟨_,_,_,h,hw,hl,hz⟩
 | xd=>cases he
 | app=>cases he
theorem VR.pK {g:Gh} {k n:Nat} {c:Value} (h:VR g (.arr k n) c):(∃ b,g.ρ k=some b/\c=.slice (some ⟨b,0,none⟩) n (g.cp k))\/(g.ρ k=none/\n=0/\c=.slice none 0 0):=by
 generalize he:AV.arr k n=e at h;cases h with
 | arr m hb=>cases he;exact .inl ⟨_,hb,rfl⟩
 | qH hb=>cases he;exact .inr ⟨hb,rfl,rfl⟩
 | _=>cases he
theorem Rel.freeze {E:Env} {g:Gh} {σ:cl} {w:World} (h:Rel E g σ w) {k b:Nat} {e:bh} {ys:List PV} (hk:σ k=some e) (hea:e.isApp=false) (hfx:E.fix k=none) (hb:g.ρ k=some b) (hc:e.cells=ys.map .pv) :
  Rel E (g.dH b ys) (σ.del k) w:=by
 have hG:=h.apart k b e hk hea hb
 have hle:lj (λ_=>False) g (g.dH b ys):=lj.dH g b ys hG
 have hks:(σ k).isSome=true:=by rw[hk];rfl
 have hdel:∀ j e',(σ.del k) j=some e'->j≠k/\σ j=some e':=λj e' hj=>by
  by_cases q:j=k
  ·subst q;simp[cl.del] at hj
  ·exact ⟨q,by simpa[cl.del,q] using hj⟩
 have hdels:∀ j,((σ.del k) j).isSome=true->j≠k/\(σ j).isSome=true:=λj hj=>by
  by_cases q:j=k
  ·subst q;simp[cl.del] at hj
  ·exact ⟨q,by simpa[cl.del,q] using hj⟩
 have hne:∀ j c,j≠k->(σ j).isSome=true->g.ρ j=some c->c≠b:=λj c hj hs hc q=>by
  subst q;exact hj (h.inj j k c hs hks hc hb)
 have hfb:∀ j,E.fix j≠some b:=λj q=>by
  have:=h.x.o8 j b k q hks hb
  subst this;rw[hfx] at q;cases q
 obtain ⟨cs,el,hw,hcl,hcv⟩:=(h.kX k e hk).at hb
 rw[hc] at hcl hcv
 simp only[List.length_map] at hcl hcv
 refine { kX:=?_,inj:=?_,gl:=?_,apart:=?_,size:=h.size,pV:=h.pV,own:=?_,fix:=h.fix,ke:=h.ke,g0:=?_,gn:=?_,os:=h.os,out:=h.out,tape:=h.tape,x:=?_ }
 ·intro j e' hj
  obtain ⟨q,hj'⟩:=hdel j e' hj
  exact (h.kX j e' hj').le hle (λq=>q) (λc hc _=>by simp[Gh.dH,hne j c q (by rw[hj'];rfl) hc]) (λ_ q=>q.elim) (λ_ _=>rfl)
 ·exact λj j' c hj hj'=>h.inj j j' c (hdels j hj).2 (hdels j' hj').2
 ·intro c zs hz
  by_cases q:c=b
  ·subst q;simp[Gh.dH] at hz;subst hz
   exact ⟨cs,el,(0,0),hw,hcl,(mQ.xk hcv).le hle⟩
  ·simp[Gh.dH,q] at hz
   obtain ⟨c1,e1,f1,h1,h2,h3⟩:=h.gl c zs hz
   exact ⟨c1,e1,f1,h1,h2,h3.le hle⟩
 ·intro j c e' hj hja hc'
  obtain ⟨q,hj'⟩:=hdel j e' hj
  have:=hne j c q (by rw[hj'];rfl) hc'
  simp only[Gh.dH,this,if_false]
  exact h.apart j c e' hj' hja hc'
 ·exact λj c hj hc=>h.own j c (hdels j hj).2 hc
 ·intro c zs hz
  obtain ⟨us,h1⟩:=h.g0 c zs hz
  obtain ⟨vs,h2⟩:=hle.G c _ h1
  exact ⟨us++vs,by rw[h2,List.append_assoc]⟩
 ·intro c zs hz
  by_cases q:c=b
  ·subst q
   rcases h.own k c hks hb with q|q
   ·exact .inr (.inl q)
   ·exact .inr (.inr q)
  ·simp[Gh.dH,q] at hz;exact h.gn c zs hz
 ·exact {
      yM:=h.x.yM,flat:=h.x.flat,set:=h.x.set,yN:=h.x.yN,gf:=h.x.gf,o7:=h.x.o7
      hi:=λj c hj hc=>h.x.hi j c (hdels j hj).2 hc
      pD:=λj c hf=>by
       have:c≠b:=λq=>by subst q;exact hfb j hf
       simp only[Gh.dH,this,if_false];exact h.x.pD j c hf
      o8:=λj c j' hf hj hc=>h.x.o8 j c j' hf (hdels j' hj).2 hc
      o9:=λj c e' hf hj=>h.x.o9 j c e' hf (hdel j e' hj).2 }
section
variable {P:Program} {E:Env} {n:Nat} {ops:Array Oper} {Q:dU} {rest:List Oper} {l:List (Nat×AV)} {ds:List (FuncId×List AV)} {s:List (Nat×bh)}
 {ty:TypeId} {pos:String} {af:Array Edge}
theorem Mv (l:List (Nat×AV)) (s:List (Nat×bh)):fC E n l ds s l s:=λg _ _ hR hF=>⟨g,hR,hF⟩
theorem Gn {α:Type} {C:α->List PV} {Cs:List α->List PV} {g:Gh} {w:World} {b sz k:Nat} {el:TypeId} {xs:List α} (n5:∀ l,Cs l=l.flatMap C) (hC:∀ x,(C x).length=sz) (hz:0<sz) (hb:g.ρ k=some b)
  (he:kz g w k (.arr el sz (Cs xs))):VR (g.dH b (Cs xs)) (.pv (.sl xs.length (Cs xs))) (.slice (some ⟨b,0,none⟩) xs.length (g.cp k)):=by
 rcases he.pK with ⟨h,_⟩|⟨b',cs,el',h,hw,hl,hz'⟩
 ·rw[h] at hb;cases hb
 ·rw[h] at hb;cases hb
  refine .pv (.sl _ (Cs xs) 0 _ _ (Cs xs) (by simp[Gh.dH]) (by simp) (by simp) ?_)
  have h1:xs.length*sz<=g.cp k*sz:=by
   rw[<- hz']
   rw[n5,jg hC] at hl;exact hl
  exact Nat.le_of_mul_le_mul_right h1 hz
theorem B3 {α:Type} {C:α->List PV} {sz:Nat} (hC:∀ x,(C x).length=sz) (hz:0<sz) {xs:List α} (h:xs.flatMap C=[]):xs=[]:=by
 have:=jg hC xs;rw[h] at this;cases xs with
 | nil=>rfl
 | cons a l=>simp[Nat.succ_mul] at this;omega
theorem Gp {α:Type} {C:α->List PV} {Cs:List α->List PV} {d k sz:Nat} {el:TypeId} {xs:List α} (n5:∀ l,Cs l=l.flatMap C) (hC:∀ x,(C x).length=sz) (hz:Nat.blt 0 sz=true) (hd:jo l d=some (.arr k (List.length xs)))
  (hk:dq s k=some (.arr el sz (Cs xs))) (hE:E.fix k=none):fC E n l ds s ((d,.pv (.sl (List.length xs) (Cs xs)))::l) (pI k s):=λg a w hR hF=>by
 have hks:=bW hk
 have hz':0<sz:=by simpa[Nat.blt_eq] using hz
 have hs:=hF.jH d
 simp only[bL,ff hd] at hs
 rw[qW]
 cases hb:g.ρ k with
 | none=>
  have hx:xs=[]:=by
   rcases (hR.kX k _ hks).pK with ⟨_,this⟩|⟨b',cs,el',h,_⟩
   ·rw[n5] at this;exact B3 hC hz' (by simpa using this)
   ·rw[h] at hb;cases hb
  subst hx
  have e0:Cs ([]:List α)=[]:=by rw[n5];rfl
  refine ⟨g,hR.sub λj e hj=>by
   unfold cl.del at hj
   split at hj
   ·cases hj
   ·exact hj,hF.size,λi=>?_,hF.ds⟩
  by_cases q:i=d
  ·subst q;simp only[bL,lV,if_true]
   generalize a.tmps.getD i undef=c at hs ⊢
   rcases hs.pK with ⟨b',h,_⟩|⟨_,_,rfl⟩
   ·rw[h] at hb;cases hb
   ·rw[e0];exact .pv (.nil _ _)
  ·simpa[bL,lV,q] using hF.jH i
 | some b=>
  refine ⟨g.dH b (Cs xs),hR.freeze hks rfl hE hb rfl,?_⟩
  have hle:lj (λ_=>False) g (g.dH b (Cs xs)):=lj.dH g b _ (hR.apart k b _ hks rfl hb)
  have hF':=hF.le hle (λ_ q=>q.elim)
  refine ⟨hF'.size,λi=>?_,hF'.ds⟩
  by_cases q:i=d
  ·subst q;simp only[bL,lV,if_true]
   generalize a.tmps.getD i undef=c at hs ⊢
   rcases hs.pK with ⟨b',h,rfl⟩|⟨h,_⟩
   ·rw[h] at hb;cases hb;exact Gn n5 hC hz' h (hR.kX k _ hks)
   ·rw[h] at hb;cases hb
  ·simpa[bL,lV,q] using hF'.jH i
theorem se {α:Type} {C:α->List PV} {Cs:List α->List PV} {j off k sz:Nat} {el:TypeId} {xs:List α} {cs cs':List AV} (n5:∀ l,Cs l=l.flatMap C) (hC:∀ x,(C x).length=sz) (hz:Nat.blt 0 sz=true) (hj:dq s j=some (.box cs))
  (hc:cs[off]?=some (.arr k (List.length xs))) (hk:dq s k=some (.arr el sz (Cs xs))) (hE:E.fix k=none) (hcs:cs.set off (.pv (.sl (List.length xs) (Cs xs)))=cs') :
  fC E n l ds s l ((j,.box cs')::pI k s):=λg a w hR hF=>by
 subst hcs
 have hks:=bW hk
 have hjs:=bW hj
 have hz':0<sz:=by simpa[Nat.blt_eq] using hz
 have hjk:j≠k:=λq=>by subst q;rw[hjs] at hks;cases hks
 have fin:∀ g',Rel E g' ((bn s).del k) w->FR n g' (bL l ds) a->(∀ c,VR g (.arr k (List.length xs)) c->VR g' (.pv (.sl (List.length xs) (Cs xs))) c)->(∀ cs0:Array Value,iv g cs cs0.toList->iv g' (cs.set off (.pv (.sl (List.length xs) (Cs xs)))) cs0.toList)->
   g'.ρ j=g.ρ j->∃ g',Rel E g' (bn ((j,.box (cs.set off (.pv (.sl (List.length xs) (Cs xs)))))::pI k s)) w/\FR n g' (bL l ds) a:=λg' hR' hF' _ hbx hρ=>by
  refine ⟨g',?_,hF'⟩
  have e1:bn ((j,.box (cs.set off (.pv (.sl (List.length xs) (Cs xs)))))::pI k s)=((bn s).del k).set j (.box (cs.set off (.pv (.sl (List.length xs) (Cs xs))))):=by
   rw[<- qW];rfl
  rw[e1]
  have hjd:((bn s).del k) j=some (.box cs):=by simp[cl.del,hjk,hjs]
  cases hR.kX j _ hjs with
  | box h1 h2 h3 h4=>
   exact {
       kX:=λi e he=>by
        by_cases q:i=j
        ·subst q;simp[cl.set] at he;subst he
         exact .box (hρ.trans h1) h2 (hbx _ h3) h4
        ·simp[cl.set,q] at he;exact hR'.kX i e he
       inj:=λi i' b hi hi'=>hR'.inj i i' b (by
        by_cases q:i=j
        ·subst q;rw[hjd];rfl
        ·simpa[cl.set,q] using hi) (by
        by_cases q:i'=j
        ·subst q;rw[hjd];rfl
        ·simpa[cl.set,q] using hi')
       gl:=hR'.gl
       apart:=λi b e he hea hb=>by
        by_cases q:i=j
        ·subst q;exact hR'.apart i b _ hjd rfl hb
        ·exact hR'.apart i b e (by simpa[cl.set,q] using he) hea hb
       size:=hR'.size,pV:=hR'.pV
       own:=λi b hi hb=>hR'.own i b (by
        by_cases q:i=j
        ·subst q;rw[hjd];rfl
        ·simpa[cl.set,q] using hi) hb
       fix:=hR'.fix,ke:=hR'.ke,g0:=hR'.g0,gn:=hR'.gn,os:=hR'.os,out:=hR'.out,tape:=hR'.tape
       x:=hR'.x.sZ rfl rfl (λi b hi hb=>⟨i,by
        by_cases q:i=j
        ·subst q;rw[hjd];rfl
        ·simpa[cl.set,q] using hi,hb,.inl rfl⟩) (λi b e' _ hi=>by
        by_cases q:i=j
        ·subst q;exact ⟨_,hjd,λ_=>(by simp[cl.set] at hi;exact ⟨_,hi.symm⟩)⟩
        ·exact ⟨e',by simpa[cl.set,q] using hi,id⟩) }
 cases hb:g.ρ k with
 | none=>
  have hx:xs=[]:=by
   rcases (hR.kX k _ hks).pK with ⟨_,this⟩|⟨b',cs,el',h,_⟩
   ·rw[n5] at this;exact B3 hC hz' (by simpa using this)
   ·rw[h] at hb;cases hb
  have e0:Cs xs=[]:=by rw[hx,n5];rfl
  have hv:∀ c,VR g (.arr k (List.length xs)) c->VR g (.pv (.sl (List.length xs) (Cs xs))) c:=λc hcv=>by
   rw[e0]
   rcases hcv.pK with ⟨b',h,_⟩|⟨_,hn,rfl⟩
   ·rw[h] at hb;cases hb
   ·rw[hn];exact .pv (.nil _ _)
  exact fin g (hR.sub λi e hi=>by
   unfold cl.del at hi
   split at hi
   ·cases hi
   ·exact hi) hF hv (λcs0 h3=>h3.set hc hv) rfl
 | some b=>
  have hle:lj (λ_=>False) g (g.dH b (Cs xs)):=lj.dH g b _ (hR.apart k b _ hks rfl hb)
  have hv:∀ c,VR g (.arr k (List.length xs)) c->VR (g.dH b (Cs xs)) (.pv (.sl (List.length xs) (Cs xs))) c:=λc hcv=>by
   rcases hcv.pK with ⟨b',h,rfl⟩|⟨h,_⟩
   ·rw[h] at hb;cases hb;exact Gn n5 hC hz' h (hR.kX k _ hks)
   ·rw[h] at hb;cases hb
  refine fin _ (hR.freeze hks rfl hE hb rfl) (hF.le hle λ_ q=>q.elim) hv (λcs0 h3=>?_) rfl
  have h4:=h3.le hle (λ_ q=>q.elim)
  exact h4.set (g:=g.dH b (Cs xs)) hc λc hcv=>by
   rcases hcv.pK with ⟨b',h,rfl⟩|⟨h,_⟩
   ·have h':g.ρ k=some b':=h
    rw[h'] at hb;cases hb;exact Gn n5 hC hz' h' (hR.kX k _ hks)
   ·have h':g.ρ k=none:=h
    rw[h'] at hb;cases hb
theorem KH {d k:Nat} {ps:List PV} (hd:jo l d=some (.ptr k 0)) (hk:dq s k=some (.box (ps.map .pv))) (hE:E.fix k=none):fC E n l ds s ((d,.pv (.pt (some ps)))::l) (pI k s):=λg a w hR hF=>by
 have hks:=bW hk;have hs:=hF.jH d;simp only[bL,ff hd] at hs;rw[qW];generalize hc:a.tmps.getD d undef=c at hs;cases hs with
 | ptr _ hb=>
  rename_i b
  refine ⟨g.dH b ps,hR.freeze hks rfl hE hb rfl,?_⟩
  have hle:lj (λ_=>False) g (g.dH b ps):=lj.dH g b _ (hR.apart k b _ hks rfl hb)
  have hF':=hF.le hle (λ_ q=>q.elim)
  refine ⟨hF'.size,λi=>?_,hF'.ds⟩
  by_cases q:i=d
  ·subst q;simp only[bL,lV,if_true];rw[hc];exact .pv (.Fx b ps 0 ps (by simp[Gh.dH]) (by simp) (by simp))
  ·simpa[bL,lV,q] using hF'.jH i
theorem Gq (nm:Nat) {sz:Nat} {el:TypeId} (hE:E.fix nm=none) (hm:lL nm l=false/\kt nm ds=false/\nC nm s=false):fC E n l ds s l ((nm,.app el sz [])::s):=λg a w hR hF=>
 ⟨g.unbind nm,hR.wX (kY hm.2.2) hE,hF.le (lj.unbind g nm) (λk q=>by subst q;exact hY hm.1 hm.2.1)⟩
theorem KI (nm:Nat) {sz:Nat} {el:TypeId} (l':List (Nat×AV)) (s':List (Nat×bh)) (hE:E.fix nm=none) (h1:uk l l' l') (h2:vd s s' s') (hm:lL nm l'=false/\kt nm ds=false/\nC nm s'=false) :
 fC E n l ds s l' ((nm,.app el sz [])::s'):=(fC.Bw l' s' h1 h2).trans (Gq nm hE hm)
theorem Rel.B4 {E:Env} {g:Gh} {σ:cl} {w:World} (h:Rel E g σ w) {nm sz:Nat} {el:TypeId} (hc:σ.clear nm) (hf:E.fix nm=none):Rel E (g.unbind nm) (σ.set nm (.arr el sz [])) w:=by
 have h0:=h.wX (el:=el) (sz:=sz) hc hf;have hρn:(g.unbind nm).ρ nm=none:=by simp[Gh.unbind]
 have hne:∀ j e,σ.set nm (.arr el sz []) j=some e->j≠nm->σ.set nm (.app el sz []) j=some e:=λj e hj q=>by simpa[cl.set,q] using hj
 have hs:∀ j,(σ.set nm (.arr el sz []) j).isSome=true->(σ.set nm (.app el sz []) j).isSome=true:=λj hj=>by
  by_cases q:j=nm
  ·subst q;simp[cl.set]
  simpa[cl.set,q] using hj
 exact {
  kX:=λj e hj=>by
   by_cases q:j=nm
   ·subst q;simp[cl.set] at hj;subst hj;exact .qH hρn
   exact h0.kX j e (hne j e hj q)
  inj:=λj j' b hj hj'=>h0.inj j j' b (hs j hj) (hs j' hj')
  gl:=h0.gl
  apart:=λj b e hj hea hb=>by
   by_cases q:j=nm
   ·subst q;rw[hρn] at hb;cases hb
   exact h0.apart j b e (hne j e hj q) hea hb
  size:=h0.size,pV:=h0.pV,own:=λj b hj=>h0.own j b (hs j hj),fix:=h0.fix,ke:=h0.ke,g0:=h0.g0,gn:=h0.gn,os:=h0.os,out:=h0.out,tape:=h0.tape
  x:=h0.x.sZ rfl rfl (λj b hj hb=>⟨j,hs j hj,hb,.inl rfl⟩) (λj b e' hfj hj=>by
   have q:j≠nm:=λq=>by subst q;rw[hf] at hfj;cases hfj
   exact ⟨e',hne j _ hj q,id⟩) }
theorem Ed {d:Nat} (nm:Nat) {sz:Nat} {el:TypeId} (hE:E.fix nm=none) (hd:jo l d=some (nSl)) (hm:lL nm l=false/\kt nm ds=false/\nC nm s=false) :
  fC E n l ds s ((d,.arr nm 0)::l) ((nm,.arr el sz [])::s):=λg a w hR hF=>by
 have h1:=hR.B4 (el:=el) (sz:=sz) (kY hm.2.2) hE
 have h2:=hF.le (lj.unbind g nm) (λk q=>by subst q;exact hY hm.1 hm.2.1)
 refine ⟨g.unbind nm,h1,h2.size,λi=>?_,h2.ds⟩
 by_cases q:i=d
 ·subst q
  have h3:=h2.jH i
  simp only[bL,ff hd] at h3
  simp only[bL,lV,if_true]
  rw[h3.c6];exact .qH (by simp[Gh.unbind])
 ·simpa[bL,lV,q] using h2.jH i
theorem tw {j off:Nat} (nm:Nat) {sz:Nat} {el:TypeId} {cs cs':List AV} (hE:E.fix nm=none) (hj:dq s j=some (.box cs)) (hc:cs[off]?=some (nSl))
  (hm:lL nm l=false/\kt nm ds=false/\nC nm s=false) (hjn:Nat.beq j nm=false) (hcs:cs.set off (.arr nm 0)=cs') :
  fC E n l ds s l ((j,.box cs')::(nm,.arr el sz [])::s):=λg a w hR hF=>by
 subst hcs
 have hR:=hR.B4 (el:=el) (sz:=sz) (kY hm.2.2) hE
 have hF:=hF.le (lj.unbind g nm) (λk q=>by subst q;exact hY hm.1 hm.2.1)
 have hjn':j≠nm:=λq=>by subst q;simp at hjn
 have hjs:(bn s).set nm (.arr el sz []) j=some (.box cs):=by simp[cl.set,hjn',bW hj]
 refine ⟨g.unbind nm,?_,hF⟩
 have he:∀ i e,bn ((j,.box (cs.set off (.arr nm 0)))::(nm,.arr el sz [])::s) i=some e->(((bn s).set nm (.arr el sz [])) i).isSome=true/\(i≠j->((bn s).set nm (.arr el sz [])) i=some e):=λi e h=>by
  by_cases q:i=j
  ·subst q;exact ⟨by rw[hjs];rfl,λq=>absurd rfl q⟩
  ·have:((bn s).set nm (.arr el sz [])) i=some e:=by simpa[bn,lI,cl.set,q] using h
   exact ⟨by rw[this];rfl,λ_=>this⟩
 have hs:∀ i,(bn ((j,.box (cs.set off (.arr nm 0)))::(nm,.arr el sz [])::s) i).isSome=true->(((bn s).set nm (.arr el sz [])) i).isSome=true:=λi h=>by
  cases q:bn ((j,.box (cs.set off (.arr nm 0)))::(nm,.arr el sz [])::s) i with
  | none=>rw[q] at h;cases h
  | some e=>exact (he i e q).1
 exact {
     kX:=λi e h=>by
      by_cases q:i=j
      ·subst q
       have:e=.box (cs.set off (.arr nm 0)):=by simpa[bn,lI] using h.symm
       subst this
       cases hR.kX i _ hjs with
       | box h1 h2 h3 h4=>exact .box h1 h2 (h3.set hc λc hc=>by rw[hc.c6];exact .qH (by simp[Gh.unbind])) h4
      ·exact hR.kX i e ((he i e h).2 q)
     inj:=λi i' b h h'=>hR.inj i i' b (hs i h) (hs i' h')
     gl:=hR.gl
     apart:=λi b e h hea hb=>by
      by_cases q:i=j
      ·subst q;exact hR.apart i b _ hjs rfl hb
      ·exact hR.apart i b e ((he i e h).2 q) hea hb
     size:=hR.size,pV:=hR.pV,own:=λi b h=>hR.own i b (hs i h),fix:=hR.fix,ke:=hR.ke,g0:=hR.g0,gn:=hR.gn,os:=hR.os,out:=hR.out,tape:=hR.tape
     x:=hR.x.sZ rfl rfl (λi b hi hb=>⟨i,hs i hi,hb,.inl rfl⟩) (λi b e' _ hi=>by
      by_cases q:i=j
      ·subst q;exact ⟨_,hjs,λ_=>(by simp[bn,lI] at hi;exact ⟨_,hi.symm⟩)⟩
      ·exact ⟨e',(he i _ hi).2 q,id⟩) }
end
end Go.Abs
end
section
namespace Go.Abs
open U
theorem E0 {α:Type} {f:α->List PV} {sz:Nat} (hf:∀ x,(f x).length=sz):∀ (l:List α) (i:Nat),(l.flatMap f).take (i*sz)=(l.take i).flatMap f:=by
 intro l
 induction l with
 | nil=>intro i;simp
 | cons a l ih=>
  intro i
  cases i with
  | zero=>simp
  | succ i=>
   rw[List.take_succ_cons,List.flatMap_cons,List.flatMap_cons,Nat.succ_mul,Nat.add_comm,List.take_append]
   rw[List.take_of_length_le (by rw[hf];omega),hf,show sz+i*sz - sz=i*sz by omega,ih]
theorem Gr {α:Type} {f:α->List PV} {sz:Nat} (hf:∀ x,(f x).length=sz) {l:List α} {i d:Nat} {a a':α} {vs:List PV} (ha:l[i]?=some a) (hd:d+vs.length<=sz) (hu:f a'=(f a).take d++vs++(f a).drop (d+vs.length)) :
  (l.flatMap f).take (i*sz+d)++vs++(l.flatMap f).drop (i*sz+d+vs.length)=(l.set i a').flatMap f:=by
 have hlt:i<l.length:=(List.getElem?_eq_some_iff.1 ha).1
 have hdrop:=z7 hf ha
 have e1:(l.flatMap f).take (i*sz+d)=(l.take i).flatMap f++(f a).take d:=by
  rw[List.take_add,E0 hf,hdrop,List.take_append_of_le_length (by rw[hf];omega)]
 have e2:(l.flatMap f).drop (i*sz+d+vs.length)=(f a).drop (d+vs.length)++(l.drop (i+1)).flatMap f:=by
  rw[show i*sz+d+vs.length=i*sz+(d+vs.length) by omega,<- List.drop_drop,hdrop,List.drop_append_of_le_length (by rw[hf];omega)]
  congr 1
  have:∀ (l:List α) (j:Nat),(l.flatMap f).drop (j*sz)=(l.drop j).flatMap f:=by
   intro l
   induction l with
   | nil=>intro j;simp
   | cons b l ih=>
    intro j
    cases j with
    | zero=>simp
    | succ j=>
     rw[List.drop_succ_cons,List.flatMap_cons,Nat.succ_mul,Nat.add_comm,<- List.drop_drop]
     rw[List.drop_left' (hf b)];exact ih j
  exact this l (i+1)
 rw[e1,e2,List.set_eq_take_append_cons_drop,if_pos hlt,List.flatMap_append,List.flatMap_cons,hu]
 simp
section
variable {P:Program} {E:Env} {n:Nat} {ops:Array Oper} {Q:dU} {rest:List Oper} {l:List (Nat×AV)} {ds:List (FuncId×List AV)} {s:List (Nat×bh)}
 {ty:TypeId} {pos:String} {af:Array Edge}
theorem B5 {k:Nat} {e:bh}:bn ((k,e)::pI k s)=(bn s).set k e:=by
 funext j;have h:=congrFun (qW (k:=k) (s:=s)) j;simp only[bn,cl.del,cl.set,lI] at h ⊢;by_cases q:j=k
 ·simp[q]
 simp only[q,if_false] at h ⊢;exact h
structure yP (P:Program) {α:Type} (C:α->List PV) (Cs:List α->List PV) (l:List (Nat×AV)) (s:List (Nat×bh)) (t:TypeId) (x y:Operand) (k off m sz:Nat) (el:TypeId) (i:Int) (xs:List α) (a a':α) (v:AV) (vs:List PV):Prop where
 n5:∀ l,Cs l=l.flatMap C
 hC:∀ x,(C x).length=sz
 h0:0<=i
 ha:xs[i.toNat]?=some a
 hx:bj l x=some (.ptr k (i.toNat*sz+off))
 hk:dq s k=some (.arr el sz (Cs xs))
 hy:bj l y=some v
 hv:v.fN=some (vs.map .pv)
 h1:PV.kF vs=true
 ht:yI P t=some m
 hm:vs.length=m
 hb:Nat.ble (off+vs.length) sz=true
 hu:C a'=(C a).take off++vs++(C a).drop (off+vs.length)
theorem yP.DQ {α:Type} {C:α->List PV} {Cs:List α->List PV} {t:TypeId} {x y:Operand} {k off m sz:Nat} {el:TypeId} {i:Int} {xs:List α} {a a':α} {v:AV} {vs:List PV} (h:yP P C Cs l s t x y k off m sz el i xs a a' v vs) :
  (bh.arr el sz (Cs xs)).DQ (i.toNat*sz+off) (vs.map .pv)=.arr el sz (Cs (xs.set i.toNat a')):=by
 simp only[bh.DQ,List.length_map,xl]
 rw[h.n5,h.n5,Gr h.hC h.ha (Nat.le_of_ble_eq_true h.hb) h.hu]
theorem yP.le {α:Type} {C:α->List PV} {Cs:List α->List PV} {t:TypeId} {x y:Operand} {k off m sz:Nat} {el:TypeId} {i:Int} {xs:List α} {a a':α} {v:AV} {vs:List PV} (h:yP P C Cs l s t x y k off m sz el i xs a a' v vs) :
  i.toNat*sz+off+(vs.map AV.pv).length<=(bh.arr el sz (Cs xs)).cells.length:=by
 have hlt:i.toNat<xs.length:=(List.getElem?_eq_some_iff.1 h.ha).1
 have hb:=Nat.le_of_ble_eq_true h.hb
 simp only[bh.cells,List.length_map]
 rw[h.n5,jg h.hC]
 have:(i.toNat+1)*sz<=xs.length*sz:=Nat.mul_le_mul_right _ hlt
 rw[Nat.succ_mul] at this
 omega
theorem Gs {α:Type} {C:α->List PV} {Cs:List α->List PV} {t:TypeId} {x y:Operand} {k off m sz:Nat} {el:TypeId} {i:Int} {xs:List α} {a a':α} {v:AV} {vs:List PV} (h:yP P C Cs l s t x y k off m sz el i xs a a' v vs)
  (hn:SL P E n ops Q rest (bL l ds) (bn ((k,.arr el sz (Cs (xs.set i.toNat a')))::pI k s))):SL P E n ops Q (⟨none,.store t x y,ty,pos,af,none⟩::rest) (bL l ds) (bn s):=by
 refine kG rfl (r7 rfl rfl (N h.hx) (bW h.hk) rfl (by rw[N h.hy];exact h.hv) (xn h.h1) (by rw[List.length_map,h.hm];exact h.ht) h.le (λ_=>⟨_,rfl⟩) ?_)
 rw[h.DQ,<- B5];exact hn
structure tx (P:Program) (E:Env) (l:List (Nat×AV)) (ds:List (FuncId×List AV)) (s:List (Nat×bh)) {α:Type} (C:α->List PV) (Cs:List α->List PV) (t e:TypeId) (sz bytes k nm:Nat) (a x:Operand) (xs ys:List α):Prop where
 hT:P.underlying t=some (.slice e)
 hB:r8 P e=some (sz,bytes)
 n5:∀ l,Cs l=l.flatMap C
 hL:∀ x,(C x).length=sz
 h1:∀ x,PV.kF (C x)=true
 hE:E.fix nm=none
 hs:bj l a=some (.arr k (List.length xs))
 hk:dq s k=some (.arr e sz (Cs xs))
 hx:bj l x=some (.pv (.sl (List.length ys) (Cs ys)))\/(ys=[]/\bj l x=some (nSl))
 hm:lL nm l=false/\kt nm ds=false/\xw nm [k] s=false
 hg:mV bytes (List.length xs) (List.length ys)
section
variable {α:Type} {C:α->List PV} {Cs:List α->List PV} {t e:TypeId} {sz bytes k nm:Nat} {a x:Operand} {xs ys:List α}
theorem tx.LG (h:tx P E l ds s C Cs t e sz bytes k nm a x xs ys):HV sz ((bL l ds).val x) (List.length ys) (Cs ys):=by
 rcases h.hx with q|⟨q1,q2⟩
 ·rw[N q];exact .sl _ _ (by rw[h.n5,jg h.hL])
 rw[N q2];subst q1;rw[h.n5];exact .nil
theorem tx.LH (h:tx P E l ds s C Cs t e sz bytes k nm a x xs ys):((bn s).del k).clear nm:=by
 intro j e he;unfold cl.del at he;split at he
 ·cases he
 rename_i q;refine oo h.hm.2.2 j e ?_ he;cases hb:Nat.beq j k with
 | true=>exact absurd (Nat.eq_of_beq_eq_true hb) q
 | false=>simp[hb]
theorem tx.st (h:tx P E l ds s C Cs t e sz bytes k nm a x xs ys):((bn s).del k).set nm (.arr e sz (Cs xs++Cs ys))=bn ((nm,.arr e sz (Cs (xs++ys)))::pI k s):=by
 rw[<- qW,show Cs xs++Cs ys=Cs (xs++ys) by rw[h.n5,h.n5,h.n5,List.flatMap_append]];rfl
theorem vg {d:Nat} (nm:Nat) (h:tx P E l ds s C Cs t e sz bytes k nm a x xs ys) (hd:Nat.blt d n=true)
  (hn:SL P E n ops Q rest (bL ((d,.arr nm (List.length (xs++ys)))::l) ds) (bn ((nm,.arr e sz (Cs (xs++ys)))::pI k s))) :
  SL P E n ops Q (⟨some d,.call ⟨.builtin .append,#[a,x],#[t,t]⟩,ty,pos,af,none⟩::rest) (bL l ds) (bn s):=by
 refine kG rfl (uT (nm:=nm) rfl h.hT h.hB (N h.hs) (bW h.hk) (by rw[h.n5,jg h.hL]) h.LG (by rw[h.n5];exact rI h.h1 ys) (hY h.hm.1 h.hm.2.1) h.LH h.hE h.hg.1 h.hg.2 (nv hd) ?_)
 rw[h.st,<- List.length_append];exact hn
end
end
section
variable {P:Program} {E:Env} {n:Nat} {ops:Array Oper} {Q:dU} {B:List Rec->eQ->cl->Prop} {i:Nat} {L:List Nat} {recs:List Rec} {l:List (Nat×AV)} {ds:List (FuncId×List AV)} {s:List (Nat×bh)}
 {ty:TypeId} {pos:String} {af:Array Edge}
theorem pL {α:Type} {C:α->List PV} {Cs:List α->List PV} {d:Nat} {t e:TypeId} {a x:Operand} {sz bytes k:Nat} {gd:Option (Nat×Bool)} (nm:Nat) {xs ys:List α}
  (ho:ops[i]?=some ⟨some d,.call ⟨.builtin .append,#[a,x],#[t,t]⟩,ty,pos,af,gd⟩) (hw:iQ ops ⟨some d,.call ⟨.builtin .append,#[a,x],#[t,t]⟩,ty,pos,af,gd⟩ (bL l ds))
  (h:tx P E l ds s C Cs t e sz bytes k nm a x xs ys) (hd:Nat.blt d n=true) (hnm:kJ recs=true)
  (hn:lJ ops i ((nm,.arr e sz (Cs (xs++ys)))::pI k s) recs/\kZ P E n ops Q B L recs (bL ((d,.arr nm (List.length (xs++ys)))::l) ds) (bn ((nm,.arr e sz (Cs (xs++ys)))::pI k s))) :
  kZ P E n ops Q B (i::L) recs (bL l ds) (bn s):=by
 refine ⟨_,ho,.dI hw rfl (.DT (nm:=nm) rfl h.hT h.hB (N h.hs) (bW h.hk) (by rw[h.n5,jg h.hL]) h.LG (by rw[h.n5];exact rI h.h1 ys) (hY h.hm.1 h.hm.2.1) h.LH h.hE h.hg.1 h.hg.2 (nv hd) ?_)
  (λr hr k' _=>by rw[fb hnm r (List.mem_filter.1 hr).1];simp)⟩
 rw[h.st,<- List.length_append]
 exact ⟨λr hr=>⟨λp hp=>(let ⟨e,h1,h2⟩:=hn.1 r hr p hp;⟨e,bW h1,h2⟩),λnm q=>by rw[fb hnm r (List.mem_filter.1 hr).1] at q;cases q⟩,hn.2⟩
theorem KJ {α:Type} {C:α->List PV} {Cs:List α->List PV} {t:TypeId} {x y:Operand} {k off m sz:Nat} {el:TypeId} {ii:Int} {xs:List α} {a a':α} {v:AV} {vs:List PV}
  (ho:ops[i]?=some ⟨none,.store t x y,ty,pos,af,none⟩) (h:yP P C Cs l s t x y k off m sz el ii xs a a' v vs) (hnm:kJ recs=true)
  (hn:lJ ops i ((k,.arr el sz (Cs (xs.set ii.toNat a')))::pI k s) recs/\kZ P E n ops Q B L recs (bL l ds) (bn ((k,.arr el sz (Cs (xs.set ii.toNat a')))::pI k s))):kZ P E n ops Q B (i::L) recs (bL l ds) (bn s):=by
 refine ⟨_,ho,.dI (.inl rfl) rfl (.store rfl rfl (N h.hx) (bW h.hk) rfl (by rw[N h.hy];exact h.hv) (xn h.h1) (by rw[List.length_map,h.hm];exact h.ht) h.le (λ_=>⟨_,rfl⟩) ?_) (λr hr k' _=>by rw[fb hnm r (List.mem_filter.1 hr).1];simp)⟩
 rw[h.DQ,<- B5]
 exact ⟨λr hr=>⟨λp hp=>(let ⟨e,h1,h2⟩:=hn.1 r hr p hp;⟨e,bW h1,h2⟩),λnm q=>by rw[fb hnm r (List.mem_filter.1 hr).1] at q;cases q⟩,hn.2⟩
theorem uE {d:Nat} {x:Operand} {v:AV} (ho:ops[i]?=some ⟨some d,.assign x,ty,pos,af,none⟩) (hx:bj l x=some v) (hd:Nat.blt d n=true) (hs:lJ ops i s recs) (hnm:kJ (iw ops recs i)=true)
  (hn:kZ P E n ops Q B L recs (bL ((d,v)::l) ds) (bn s)):kZ P E n ops Q B (i::L) recs (bL l ds) (bn s):=
 ⟨_,ho,.dI (.inl rfl) rfl (.ev (v:=v) (by rw[<- N (ds:=ds) hx];exact vC x) (nv hd)
  ⟨λr hr=>⟨λp hp=>(let ⟨e,h1,h2⟩:=hs r hr p hp;⟨e,bW h1,h2⟩),λnm q=>by rw[fb hnm r hr] at q;cases q⟩,hn⟩) (λr _ k hk=>by cases hk)⟩
theorem Ae {t:TypeId} {x y:Operand} {k off m:Nat} {e:bh} {v:AV} {c:List AV} [ht:nA P t m] (ho:ops[i]?=some ⟨none,.store t x y,ty,pos,af,none⟩)
  (h:bj l x=some (.ptr k off)/\dq s k=some e/\e.wz=true/\bj l y=some v/\v.fN=some c/\AV.kF c=true/\c.length=m/\Nat.ble (off+c.length) e.cells.length=true)
  (hnm:kJ (iw ops recs i)=true) (hn:∀ e',e.put off c=e'->lJ ops i ((k,e')::s) recs/\kZ P E n ops Q B L recs (bL l ds) (bn ((k,e')::s))):kZ P E n ops Q B (i::L) recs (bL l ds) (bn s):=by
 obtain ⟨hx,hk,hea,hy,hc,h1,hm,hl⟩:=h
 have hl':=Nat.le_of_ble_eq_true hl
 obtain ⟨hst,hn⟩:=hn _ rfl
 refine ⟨_,ho,.dI (.inl rfl) rfl (.store rfl rfl (N hx) (bW hk) (vN hea) (by rw[N hy];exact hc) h1 (by rw[hm];exact ht.h) hl' (vO hea) ?_) (λr hr k' _=>by rw[fb hnm r hr];simp)⟩
 rw[put_eq hea hl']
 exact ⟨λr hr=>⟨λp hp=>(let ⟨e,h1,h2⟩:=hst r hr p hp;⟨e,bW h1,h2⟩),λnm q=>by rw[fb hnm r hr] at q;cases q⟩,hn⟩
def qX (nm:Nat):List Rec->Bool
 | []=>true
 | r::rs=>(match r.nm with|none=>true|some k=>!Nat.beq k nm)&&r.rd.all (λp=>!Nat.beq p.1 nm)&&qX nm rs
theorem mx {nm:Nat}:∀ {recs:List Rec},qX nm recs=true->∀ r,r∈recs->r.nm≠some nm/\∀ p,p∈r.rd->p.1≠nm
 | [],_,r,hr=>by cases hr
 | a::rs,h,r,hr=>by
  simp only[qX,Bool.and_eq_true,List.all_eq_true] at h;rcases List.mem_cons.1 hr with q|q
  ·subst q;refine ⟨λq=>?_,λp hp q=>?_⟩
   ·have:=h.1.1;rw[q] at this;simp at this
   have:=h.1.2 p hp;rw[q] at this;simp at this
  exact mx h.2 r q
theorem KK {d:Nat} {op:Op} {v:AV} {e:bh} {gd:Option (Nat×Bool)} (nm:Nat) (ho:ops[i]?=some ⟨some d,op,ty,pos,af,gd⟩) (hw:iQ ops ⟨some d,op,ty,pos,af,gd⟩ (bL l ds)) (h:C4 P op (bL l ds) nm e v)
  (hE:E.fix nm=none) (hm:lL nm l=false/\kt nm ds=false/\nC nm s=false/\dq s nm=none) (hh:dI ⟨some d,op,ty,pos,af,gd⟩=false/\Nat.blt d n=true/\kJ (iw ops recs i)=true/\qX nm recs=true) (hv:AV.eG.fP nm e.cells=false)
  (hn:kZ P E n ops Q B L (⟨i,some d,[],some nm⟩::recs) (bL ((d,v)::l) ds) (bn ((nm,e)::s))):kZ P E n ops Q B (i::L) recs (bL l ds) (bn s):=by
 have hs:bn s nm=none:=by
  have:=sb (l:=s) (i:=nm)
  simp only[bn];rw[this];exact hm.2.2.2
 exact ⟨_,ho,.nw hw hh.1 h (hY hm.1 hm.2.1) (kY hm.2.2.1) hs hE (nv hh.2.1) (λr hr k q=>by rw[fb hh.2.2.1 r hr] at q;cases q)
  (λr hr=>(mx hh.2.2.2 r hr).1) (λr hr=>(mx hh.2.2.2 r hr).2) hv hn⟩
theorem xM {d:Nat} {t:TypeId} {z:List Value} [hz:lx P t z] {zs:List AV} {gd:Option (Nat×Bool)} (ho:ops[i]?=some ⟨some d,.alloc t,ty,pos,af,gd⟩) (hw:iQ ops ⟨some d,.alloc t,ty,pos,af,gd⟩ (bL l ds)) (nm:Nat) (hE:E.fix nm=none)
  (hm:z.map (λv=>AV.pv (.sc v))=zs/\lL nm l=false/\kt nm ds=false/\nC nm s=false/\dq s nm=none) (hh:dI ⟨some d,.alloc t,ty,pos,af,gd⟩=false/\Nat.blt d n=true/\qX nm recs=true/\qX nm recs=true)
  (hn:kZ P E n ops Q B L (⟨i,some d,[],some nm⟩::recs) (bL ((d,.ptr nm 0)::l) ds) (bn ((nm,.box zs)::s))):kZ P E n ops Q B (i::L) recs (bL l ds) (bn s):=by
 obtain ⟨h1,h2⟩:=hm
 subst h1
 have this:∀ (k:Nat) (z:List Value),AV.eG.fP k (z.map λv=>AV.pv (.sc v))=false:=λk z=>by
  induction z with
  | nil=>rfl
  | cons a z ih=>simp[AV.eG.fP,AV.eG,ih]
 have hs:bn s nm=none:=by
  have:=sb (l:=s) (i:=nm)
  simp only[bn];rw[this];exact h2.2.2.2
 refine ⟨_,ho,.nw hw hh.1 (BB nm hz.h) (hY h2.1 h2.2.1) (kY h2.2.2.1) hs hE (nv hh.2.1) (λr hr k q=>⟨?_,this k z⟩)
  (λr hr=>(mx hh.2.2.2 r hr).1) (λr hr=>(mx hh.2.2.2 r hr).2) (this nm z) hn⟩
 have hne:=(mx hh.2.2.2 r (List.mem_filter.1 hr).1).1
 have:nm≠k:=λe=>hne (by rw[q,e])
 simpa[AV.eG] using this
theorem KM {α:Type} {C:α->List PV} {Cs:List α->List PV} {sz:Nat} (xs:List α) (n5:∀ l,Cs l=l.flatMap C) (hC:∀ x,(C x).length=sz) {d:Nat} {t e:TypeId} {m:Nat} {parts:List (Nat×Operand)} {zs:List Value} {pl:List (Nat×Nat)} {pv:List (Nat×AV)}
  {gd:Option (Nat×Bool)} [ht:ku P t m e sz zs pl] (ho:ops[i]?=some ⟨some d,.buildSlice t m parts.toArray,ty,pos,af,gd⟩) (hw:iQ ops ⟨some d,.buildSlice t m parts.toArray,ty,pos,af,gd⟩ (bL l ds)) (nm:Nat) (hE:E.fix nm=none)
  (h:parts.mapM (λp=>(bj l p.2).map λv=>(p.1,v))=some pv/\lU pl (zs.map λv=>.pv (.sc v)) pv=some ((xs.flatMap C).map .pv)/\xs.length=m/\Nat.ble m 1000=true)
  (hm:lL nm l=false/\kt nm ds=false/\nC nm s=false/\dq s nm=none) (hh:dI ⟨some d,.buildSlice t m parts.toArray,ty,pos,af,gd⟩=false/\Nat.blt d n=true/\kJ (iw ops recs i)=true/\qX nm recs=true)
  (hn:kZ P E n ops Q B L (⟨i,some d,[],some nm⟩::recs) (bL ((d,.arr nm (List.length xs))::l) ds) (bn ((nm,.app e sz (Cs xs))::s))):kZ P E n ops Q B (i::L) recs (bL l ds) (bn s):=by
 rw[h.2.2.1] at hn
 refine KK nm ho hw (wu nm ht.h ?_ ?_ (Nat.le_trans (Nat.le_of_ble_eq_true h.2.2.2) (by simp[maxLen]))) hE hm hh (by simp only[bh.cells];exact oI _ _) hn
 ·rw[tp h.1,n5];exact h.2.1
 ·rw[n5,jg hC,h.2.2.1]
end
section
variable {P:Program} {E:Env} {n:Nat} {ops:Array Oper} {Q:dU} {rest:List Oper} {l:List (Nat×AV)} {ds:List (FuncId×List AV)} {s:List (Nat×bh)}
 {ty:TypeId} {pos:String} {af:Array Edge}
theorem Dc {α:Type} {C:α->List PV} {Cs:List α->List PV} {d:Nat} {t e:TypeId} {m sz:Nat} {parts:List (Nat×Operand)} {zs:List Value} {pl:List (Nat×Nat)} {pv:List (Nat×AV)} [ht:ku P t m e sz zs pl] (nm:Nat)
  (xs:List α) (n5:∀ l,Cs l=l.flatMap C) (hC:∀ x,(C x).length=sz) (hE:E.fix nm=none)
  (h:parts.mapM (λp=>(bj l p.2).map λv=>(p.1,v))=some pv/\lU pl (zs.map λv=>.pv (.sc v)) pv=some ((xs.flatMap C).map .pv)/\xs.length=m/\Nat.ble m 1000=true)
  (hm:lL nm l=false/\kt nm ds=false/\nC nm s=false) (hd:Nat.blt d n=true)
  (hn:SL P E n ops Q rest (bL ((d,.arr nm (List.length xs))::l) ds) (bn ((nm,.app e sz (Cs xs))::s))):SL P E n ops Q (⟨some d,.buildSlice t m parts.toArray,ty,pos,af,none⟩::rest) (bL l ds) (bn s):=by
 rw[h.2.2.1,n5] at hn
 exact F5 nm hE ⟨h.1,h.2.1,by rw[jg hC,h.2.2.1],h.2.2.2⟩ hm hd hn
theorem xN {fr:eQ} {t e:TypeId} {n sz:Nat} {zs:List Value} {places:List (Nat×Nat)} {parts:List (Nat×Operand)} {out:List AV} {cells:List PV} (ht:zS P t n=some (e,sz,zs,places))
  (h:lU places (zs.map λv=>.pv (.sc v)) (parts.map λp=>(p.1,fr.val p.2))=some out) (hn:AV.Lr out=cells.map .pv):FT P (.buildSlice t n parts.toArray) fr (.pv (.sl n cells)):=by
 intro o ho g ev w hv
 obtain ⟨place,hp,hzl,hb⟩:=p9 ht
 obtain ⟨cs',hf,hr⟩:=s7 (g:=g) (vs:=parts.map λp=>(p.1,ev p.2)) (cs:=zs.toArray) hp h (by simpa using iv.r6 g zs) (by simp)
  (vG λp hp=>hv p.2 (by simp[Op.operands];exact ⟨_,hp⟩)) trivial (s8 h)
 have e1:(parts.toArray.map λ(x:Nat×Operand)=>(x.1,ev x.2)).toList=parts.map λp=>(p.1,ev p.2):=by simp
 have hrun:=hb (parts.toArray.map λ(x:Nat×Operand)=>(x.1,ev x.2)) cs' w (by rw[e1];exact hf)
 have hps:=mQ.xk (g:=g) (ps:=cells) (by rw[<- hn];exact (AV.wY out).JX hr)
 have hlen:=hps.length
 refine ⟨.slice (some ⟨w.heap.size,0,none⟩) n n,cs',e,cells,?_,by simp at hlen;omega,?_,.pv (.sl w.heap.size cells 0 n n cells (by simp[Gh.dH]) (by simp) (by simp) (Nat.le_refl _))⟩
 ·simp only[execOp,ho,Sem.run_bind,hrun,Result.andThen_ok,Sem.run_pure]
 ·rw[List.take_of_length_le (by simp at hlen;simp;omega)];exact hps
theorem IH {α:Type} {C:α->List PV} {Cs:List α->List PV} (xs:List α) (n5:∀ l,Cs l=l.flatMap C) {d j g:Nat} {want b:Bool} {t e:TypeId} {m sz:Nat} {parts:List (Nat×Operand)} {zs:List Value} {pl:List (Nat×Nat)} {pv:List (Nat×AV)}
  [ht:ku P t m e sz zs pl] (hb:b=want) (hj:(ops[j]?).bind (·.dst)=some g/\jo l g=some (Bo b)) (h:parts.mapM (λp=>(bj l p.2).map λv=>(p.1,v))=some pv/\lU pl (zs.map λv=>.pv (.sc v)) pv=some ((xs.flatMap C).map .pv)) (hd:Nat.blt d n=true)
  (hn:SL P E n ops Q rest (bL ((d,.pv (.sl m (Cs xs)))::l) ds) (bn s)):SL P E n ops Q (⟨some d,.buildSlice t m parts.toArray,ty,pos,af,some (j,want)⟩::rest) (bL l ds) (bn s):=by
 subst hb
 rw[n5] at hn
 exact uQ rfl hj.1 (ff hj.2) (nv hd) (λ_=>DM (rf ht.h (by rw[tp h.1];exact h.2)) (nv hd) hn) (λq=>absurd rfl q)
end
section
variable {P:Program} {E:Env} {n:Nat} {ops:Array Oper} {Q:dU} {B:List Rec->eQ->cl->Prop} {i:Nat} {L:List Nat} {recs:List Rec} {l:List (Nat×AV)} {ds:List (FuncId×List AV)} {s:List (Nat×bh)}
 {ty:TypeId} {pos:String} {af:Array Edge}
theorem vU {α:Type} {C:α->List PV} {Cs:List α->List PV} (xs:List α) (n5:∀ l,Cs l=l.flatMap C) {d:Nat} {t e:TypeId} {m sz:Nat} {parts:List (Nat×Operand)} {zs:List Value} {pl:List (Nat×Nat)} {pv:List (Nat×AV)} {out:List AV}
  {gd:Option (Nat×Bool)} [ht:ku P t m e sz zs pl] (ho:ops[i]?=some ⟨some d,.buildSlice t m parts.toArray,ty,pos,af,gd⟩) (hw:iQ ops ⟨some d,.buildSlice t m parts.toArray,ty,pos,af,gd⟩ (bL l ds))
  (h:parts.mapM (λp=>(bj l p.2).map λv=>(p.1,v))=some pv/\lU pl (zs.map λv=>.pv (.sc v)) pv=some out/\AV.Lr out=(xs.flatMap C).map .pv)
  (hc:dI ⟨some d,.buildSlice t m parts.toArray,ty,pos,af,gd⟩=false/\Nat.blt d n=true)
  (hn:kZ P E n ops Q B L (⟨i,some d,[],none⟩::recs) (bL ((d,.pv (.sl m (Cs xs)))::l) ds) (bn s)):kZ P E n ops Q B (i::L) recs (bL l ds) (bn s):=by
 refine ⟨_,ho,.fz hw hc.1 (v:=.pv (.sl m (Cs xs))) ?_ (nv hc.2) (λ_ _ _ _=>rfl) hn⟩
 rw[n5]
 exact xN ht.h (by rw[tp h.1];exact h.2.1) h.2.2
end
end Go.Abs
end
section
namespace Go.Abs
open U
theorem cd {P:Program} {f:FuncId} {args:List AV} {es:List bh} {X:Type} {V:X->AV} {C:X->List bh}:CT P f args es (U.stuck:U X) V C:=⟨λ_ h hs=>absurd h.symm hs⟩
theorem nH {α:Type} {H:sB->U α} {r rO:U α} {p:sB} (hc:pc r H=rO) (hp:r=.mw p):H p=rO:=by subst hp;exact hc
theorem sf {α:Type} {H:sB->U α} {r rO:U α} {x:α} (hc:pc r H=rO) (h:r=.ok x):rO=.ok x:=by subst h;exact hc.symm
def AV.wk:AV->AV
 | .ptr k o=>.ptr k o
 | _=>.any
theorem AV.LJ (v:AV):v.le v.wk:=by
 cases v<;>first|exact AV.le_refl _|exact AV.Da _
theorem Gt:∀ cs:List AV,Bn cs (cs.map AV.wk)
 | []=>.nil
 | c::cs=>.cons (AV.LJ c) (Gt cs)
section
variable {P:Program} {E:Env} {n:Nat} {ops:Array Oper} {Q:dU} {rest:List Oper} {l:List (Nat×AV)} {ds:List (FuncId×List AV)} {s:List (Nat×bh)} {ty:TypeId} {pos:String} {af:Array Edge}
def LK:List Nat->List (Nat×bh)->Option (List (Nat×bh))
 | [],s=>some s
 | k::ks,s=>match LK ks s with
  | some s'=>match dq s' k with
   | some (.box cs)=>some ((k,.box (cs.map AV.wk))::s')
   | _=>none
  | none=>none
theorem LL:∀ {ks:List Nat} {s':List (Nat×bh)},LK ks s=some s'->fC E n l ds s l s'
 | [],s',h=>by simp[LK] at h;subst h;exact Mv l s
 | k::ks,s',h=>by
  simp only[LK] at h;split at h
  ·rename_i s1 h1;split at h
   ·rename_i cs h2;cases h;exact (LL h1).trans (D6 h2 (Gt cs))
   cases h
  cases h
def vV (P:Program) (E:Env) (n:Nat) (fn:Func) (R:qI->cl->Prop):dU
 | .panic v,fr,σ=>nD P fn R (.panic v) fr σ\/∃ l fid cap c s s',fr=bL l [(fid,cap)]/\σ=bn s/\(∀ g c',VR g v c'->c'=c)/\fC E n l [(fid,cap)] s l s'/\EW P E fn R fid cap (some c) (bL l [(fid,cap)]) (bn s')
 | e,fr,σ=>wB P E fn R e fr σ
theorem LQ.dg {fn:Func} {R:qI->cl->Prop} {e:Exit} {a:Act} {w:World} (h:LQ E n (vV P E n fn R) e a w):LQ E n (wB P E fn R) e a w:=by
 obtain ⟨g,ae,fr,σ,q,hx,hR,hF⟩:=h;cases hx with
 | normal=>exact ⟨g,.normal,fr,σ,q,.normal,hR,hF⟩
 | exit id=>exact ⟨g,.exit id,fr,σ,q,.exit id,hR,hF⟩
 | goto id=>exact ⟨g,.goto id,fr,σ,q,.goto id,hR,hF⟩
 | ret=>exact ⟨g,.ret,fr,σ,q,.ret,hR,hF⟩
 | @panic v c0 hv=>
  rcases q with q|⟨l,fid,cap,c,s,s',rfl,rfl,hc,hg,hq⟩
  ·exact ⟨g,.panic v,fr,σ,(show wB P E fn R (.panic v) fr σ from .inl q),.panic hv,hR,hF⟩
  ·obtain ⟨g',hR',hF'⟩:=hg g a w hR hF;have hcc:=hc _ _ hv;subst hcc;exact ⟨g',.panic (Sc c0),bL l [(fid,cap)],bn s',(show wB P E fn R (.panic (Sc c0)) (bL l [(fid,cap)]) (bn s') from .inr ⟨fid,cap,c0,rfl,λ_ _ h=>h.c6,hq⟩),.panic (.pv (.sc _)),hR',hF'⟩
theorem tT {f:FuncId} {fn:Func} {c:Code} {args:List AV} {es:List bh} {X:Type} {res:U X} {V:X->AV} {C:X->List bh} (hf:P.funcs[f]?=some fn) (hb:fn.body=some c) (hn:Nat.ble args.length fn.ntmps=true)
  (h:∀ r,res=r->r≠.stuck->∀ E:Env,(∀ k,jt es k=true->E.fix k=none)->
   SW P E fn.ntmps c (vV P E fn.ntmps fn (pH V C (λx=>r=.ok x) (λv=>∃ p,r=.mw p/\v=p.av))) (bL ((List.range args.length).zip args) []) (bn (eX 0 es))):CT P f args es res V C:=
 Gg hf hb hn λr hr hs E hE=>λg a w hR hF=>wp_mono (h r hr hs E hE g a w hR hF) λ_ _ _ q=>q.dg
theorem vh {fn:Func} {R:qI->cl->Prop} {ae:uh} (hae:ae=.ret\/ae=.normal) {fr:eQ} {σ:cl} (h:nD P fn R ae fr σ):vV P E n fn R ae fr σ:=by
 rcases hae with rfl|rfl
 ·exact Gj (.inl rfl) h
 exact Gj (.inr rfl) h
theorem w8 {fn:Func} {X:Type} {V:X->AV} {C:X->List bh} {r:U X} {p:sB} {fr:eQ} {σ:cl} (hd:fr.ds=[]) (h:r=.mw p) :
 vV P E n fn (pH V C (λx=>r=.ok x) (λv=>∃ p,r=.mw p/\v=p.av)) (.panic p.av) fr σ:=.inl (F7 hd h)
theorem ni {fn:Func} {R:qI->cl->Prop} {ae:uh} (hae:ae=.ret\/ae=.normal) {fid:FuncId} {cap capC:List AV} {es:List bh} (ks:List Nat) (hen:Enters P fid) (hC:EU P fid capC es none (U.ok ()) (λ_=>es))
  (hk:Eb E l s ks cap capC es) (hx:kf (below ks.length) es=true) {s':List (Nat×bh)} (hs:lX ks (kr (nth ks) es)++s=s') (hret:nD P fn R .ret (bL l []) (bn s')):vV P E n fn R ae (bL l [(fid,cap)]) (bn s):=by
 have hl:es.length=ks.length:=by
  have:=(qd hk.gs).1
  rwa [jf] at this
 have:=EZ (E:=E) hae ks hen hC hk (λ_=>⟨hl,hx⟩) hs hret
 rcases hae with rfl|rfl
 ·exact this
 ·exact this
theorem kg {fn:Func} {R:qI->cl->Prop} {T:TypeId} {v:Int} {fid:FuncId} {cap capC:List AV} {es:List bh} (ks:List Nat) {s1:List (Nat×bh)} {X:Type} {res:U X} {C:X->List bh} (hen:Enters P fid)
  (hC:EU P fid capC es (some (.iface T (.agg #[.int .i64 v]))) res C) (hns:res≠.stuck) (hw:LK ks s=some s1) (hk:Eb E l s1 ks cap capC es) (hx:∀ x,(C x).length=ks.length/\kf (below ks.length) (C x)=true)
  (hret:∀ x,res=.ok x->nD P fn R .ret (bL l []) (bn (lX ks (kr (nth ks) (C x))++s1))):vV P E n fn R (.panic (sB.av ⟨T,[.sc (.int .i64 v)]⟩)) (bL l [(fid,cap)]) (bn s):=
 .inr ⟨l,fid,cap,_,s,s1,rfl,rfl,λ_ _ h=>Gi h,LL hw,J1 hen hC hns hk hx hret⟩
def Gu (R:cl->Prop):dU
 | .normal,fr,σ|.ret,fr,σ=>fr.ds=[]/\∃ σ',(∀ k e,σ' k=some e->σ k=some e)/\R σ'
 | _,_,_=>False
theorem tU {ae:uh} (hae:ae=.ret\/ae=.normal) {X:Type} {r:U X} {C:X->List bh} (x:X) (hg:r=.ok x) (hm:vP s 0 (C x)):Gu (λσ=>∃ x,r=.ok x/\σ=bn (eX 0 (C x))) ae (bL l []) (bn s):=by
 have h:(bL l []).ds=[]/\∃ σ',(∀ k e,σ' k=some e->bn s k=some e)/\∃ x,r=.ok x/\σ'=bn (eX 0 (C x)):=
  ⟨rfl,bn (eX 0 (C x)),BR (λj e hj=>by have:=vQ hm j e hj;simpa using this),x,hg,rfl⟩
 rcases hae with rfl|rfl
 ·exact h
 exact h
theorem qY {es:List bh} {r:U Unit} (h:U.ok ()=r) {ae:uh} (hae:ae=.ret\/ae=.normal:=by first|exact .inr rfl|exact .inl rfl):Gu (λσ=>∃ x,r=.ok x/\σ=bn (eX 0 ((λ_:Unit=>es) x))) ae (bL l []) (bn (eX 0 es)):=by
 have q:(bL l []).ds=[]/\∃ σ',(∀ k e,σ' k=some e->bn (eX 0 es) k=some e)/\∃ x,r=.ok x/\σ'=bn (eX 0 ((λ_:Unit=>es) x)):=⟨rfl,_,λ_ _ h=>h,(),h.symm,rfl⟩;rcases hae with rfl|rfl
 ·exact q
 exact q
theorem oQ {f:FuncId} {fn:Func} {y:Code} {id d1 d2:Nat} {ts ty1 ty2:_} {p1 p2:String} {a1 a2:Array Edge} {cap:List AV} {es:List bh} {m:Option Value} {mv:AV} {X:Type} {res:U X} {C:X->List bh}
  (hmv:∀ g,VR g mv (m.getD .nilIface)) (hf:P.funcs[f]?=some fn)
  (hb:fn.body=some (.seq (.region id #[⟨some d1,.call ⟨.builtin .recover,#[],ts⟩,ty1,p1,a1,none⟩,⟨some d2,.assign (.tmp d1),ty2,p2,a2,none⟩] false) y))
  (hres:fn.results = #[]) (hn:(Nat.ble cap.length fn.ntmps&&Nat.blt d1 fn.ntmps&&Nat.blt d2 fn.ntmps)=true)
  (h:∀ r,res=r->r≠.stuck->∀ E:Env,(∀ k,jt es k=true->E.fix k=none)->
   SW P E fn.ntmps y (Gu (λσ=>∃ x,r=.ok x/\σ=bn (eX 0 (C x)))) (bL ((d2,mv)::(d1,mv)::(List.range cap.length).zip cap) []) (bn (eX 0 es))):EU P f cap es m res C:=by
 intro r hr hs wS g w vs u hR hv hu
 simp only[Bool.and_eq_true] at hn
 have hn1:=Nat.le_of_ble_eq_true hn.1.1
 have hd1:d1<fn.ntmps:=by simpa[Nat.blt_eq] using hn.1.2
 have hd2:d2<fn.ntmps:=by simpa[Nat.blt_eq] using hn.2
 have hlen:=hv.length
 let E:=Env.of wS g (bn (eX 0 es)) w
 have hE:∀ k,jt es k=true->E.fix k=none:=λk hk=>by
  have h3:∀ (es:List bh) (k:Nat),jt es k=true->∀ cs,es[k]?≠some (.box cs):=by
   intro es
   induction es with
   | nil=>intro k _ cs;simp
   | cons e es ih=>
    intro k hk cs
    cases k with
    | zero=>intro q;simp at q;subst q;simp[jt] at hk
    | succ k=>simpa using ih k (by cases e<;>simpa[jt] using hk) cs
  simp only[E,Env.of]
  split
  ·rename_i cs hcs
   obtain ⟨_,h2⟩:=fX hcs
   exact absurd (by simpa using h2) (h3 es k hk cs)
  ·rfl
 have hW:=h r hr hs E hE
 refine callsD_of_wpS hf hb λc₀ cs hcm=>?_
 let a0:Act:={ tmps:=vs.toArray++Array.replicate (fn.ntmps - vs.toArray.size) undef,defers:=[] }
 have hF0:FR fn.ntmps g (bL ((List.range cap.length).zip cap) []) a0:=by
  rw[<- xz]
  refine ⟨by simp[a0];omega,λi=>?_,.nil⟩
  rw[Array.getD_eq_getD_getElem?]
  rcases Nat.lt_or_ge i cap.length with q|q
  ·obtain ⟨c,h1,h2⟩:=hv.get i cap[i] (by simp)
   have:a0.tmps[i]?=some c:=by
    simp only[a0];rw[Array.getElem?_append_left (by simp;omega)];simpa using h1
   rw[this]
   simp[q];exact h2
  ·have e:cap[i]?=none:=List.getElem?_eq_none q
   simp only[e,Option.getD_none];exact .any _
 have hF1:=hF0.put (d:=some d1) (v:=mv) (c:=m.getD .nilIface) (λx hx=>by cases hx;exact hd1) (hmv g)
 have hF2:=hF1.put (d:=some d2) (v:=mv) (c:=m.getD .nilIface) (λx hx=>by cases hx;exact hd2) (hmv g)
 rw[BF,BF] at hF2
 have hwp:=hW g _ w hR hF2
 have fin:∀ u',(settle u'=.returning)->y.wpS P (bodyPostS P fn c₀ cs λe u' w'=>(∃ v,e=.returned v)/\settle u'=.returning/\∃ g' σ',(∃ x,r=.ok x/\σ'=bn (eX 0 (C x)))/\Rel E g' σ' w')
   ((a0.put (some d1) (m.getD .nilIface)).put (some d2) (m.getD .nilIface)) ({ c₀ with mode:=u' }::cs) w:=λu' hu'=>by
  refine wpS_of_wp (wp_mono hwp λe a w' hq=>?_)
  obtain ⟨g',ae,fr',σ',q,hx,hR',hF'⟩:=hq
  have res:(results fn a.tmps).run P w'=.ok (.tuple #[]) w':=by
   rw[uv,hres];simp
  cases hx with
  | normal=>
   obtain ⟨hd,σ2,hs2,hx2⟩:=q
   have:=hF'.ds;rw[hd] at this
   exact ⟨this.pE,u',rfl,_,res,⟨_,rfl⟩,hu',g',σ2,hx2,hR'.sub hs2⟩
  | ret=>
   obtain ⟨hd,σ2,hs2,hx2⟩:=q
   have:=hF'.ds;rw[hd] at this
   exact ⟨this.pE,u',rfl,_,res,⟨_,rfl⟩,hu',g',σ2,hx2,hR'.sub hs2⟩
  | exit id=>exact q.elim
  | goto l=>exact q.elim
  | panic hv=>exact q.elim
 refine wpS_seq (wpS_region ?_)
 have hr2:List.range #[(⟨some d1,.call ⟨.builtin .recover,#[],ts⟩,ty1,p1,a1,none⟩:Oper),⟨some d2,.assign (.tmp d1),ty2,p2,a2,none⟩].size=[0,1]:=rfl
 rw[hr2]
 have hrec:∀ a:Act,(execOp a.eval (⟨some d1,.call ⟨.builtin .recover,#[],ts⟩,ty1,p1,a1,none⟩:Oper)).run P w=.ok .recover w:=λa=>by
  simp[execOp,resolve,invoke,builtin]
 have hev:∀ (a:Act) (c:Value),(a.put (some d1) c).tmps.getD d1 undef=c\/¬ d1<a.tmps.size:=λa c=>by
  by_cases q:d1<a.tmps.size
  ·left;simp[Act.put,q]
  ·right;exact q
 have hsz:d1<a0.tmps.size:=by rw[hF0.size];exact hd1
 have hasg:∀ c:Value,(execOp (a0.put (some d1) c).eval (⟨some d2,.assign (.tmp d1),ty2,p2,a2,none⟩:Oper)).run P w=.ok (.value c) w:=λc=>by
  have:=(hev a0 c).resolve_right (λq=>q hsz)
  simp[execOp,Act.eval,this]
 cases m with
 | none=>
  have hu':c₀.mode=.returning:=hcm.trans hu
  have hrd:recoverD (c₀::cs)=none:=by simp[recoverD,hu']
  simp only[wpOpsS,List.getElem?_toArray,List.getElem?_cons_zero,List.getElem?_cons_succ,Region.wanted,if_true,hrec,hrd]
  rw[show (Value.nilIface)=(none:Option Value).getD .nilIface from rfl,hasg]
  simp only[Oper.upon,Exit.thenS]
  exact fin c₀.mode (by rw[hu'];rfl)
 | some c=>
  have hu':c₀.mode=.panicking [{ v:=c,recovered:=false }]:=hcm.trans hu
  have hrd:recoverD (c₀::cs)=some (c,{ c₀ with mode:=.panicking [{ v:=c,recovered:=true }] }::cs):=by simp[recoverD,hu']
  simp only[wpOpsS,List.getElem?_toArray,List.getElem?_cons_zero,List.getElem?_cons_succ,Region.wanted,if_true,hrec,hrd]
  rw[hasg]
  simp only[Oper.upon,Exit.thenS]
  exact fin _ rfl
def NP {α:Type} (x:U α):Prop:=∀ p,x≠.mw p
theorem NP.ok {α:Type} (a:α):NP (U.ok a):=λ_ h=>by cases h
theorem NP.stuck {α:Type}:NP (U.stuck:U α):=λ_ h=>by cases h
theorem NP.br {α:Type} {b:Bool} {x y:U α} (hx:NP x) (hy:NP y):NP (U.br b x y):=by cases b<;>assumption
theorem NP.gd {α:Type} {p:Prop} [Decidable p] {x:U α} (hx:NP x):NP (U.gd p x):=by unfold U.gd;split;exact hx;exact NP.stuck
theorem NP.el {α β:Type} {l:List β} {i:Int} {k:β->U α} (hk:∀ x,NP (k x)):NP (U.el l i k):=by
 unfold U.el;split
 ·split
  ·exact hk _
  exact NP.stuck
 exact NP.stuck
theorem NP.some? {α β:Type} {o:Option β} {k:β->U α} (hk:∀ x,NP (k x)):NP (U.some? o k):=by cases o;exact NP.stuck;exact hk _
theorem NP.bind {α β:Type} {x:U α} {k:α->U β} (hx:NP x) (hk:∀ a,NP (k a)):NP (U.bind x k):=by
 cases x with
 | stuck=>exact NP.stuck
 | mw p=>exact absurd rfl (hx p)
 | ok a=>exact hk a
theorem NP.jn {α X:Type} {j:X->U α} {p:(X->U α)->U α} (h:∀ j,(∀ x,NP (j x))->NP (p j)) (hj:∀ x,NP (j x)):NP (U.jn j p):=h j hj
theorem NP.iter {α X:Type} {body:(X->U α)->X->U α} (h:∀ nx,(∀ x,NP (nx x))->∀ x,NP (body nx x)):∀ (n:Nat) (x:X),NP (U.iter body n x)
 | 0,_=>NP.stuck
 | n+1,x=>h _ (λy=>NP.iter h n y) x
end
section
variable {P:Program} {E:Env} {n:Nat} {ops:Array Oper} {Q:dU} {B:List Rec->eQ->cl->Prop} {i:Nat} {L:List Nat} {recs:List Rec} {rest:List Oper} {l:List (Nat×AV)} {ds:List (FuncId×List AV)} {s:List (Nat×bh)}
 {ty:TypeId} {pos:String} {af:Array Edge}
theorem Gv {d:Nat} {X R:Type} {res:U X} {kk:X->U R} {r:U R} {V V':X->AV} {C:X->List bh} {C':X->List (Nat×bh)} {f:Operand} {args:List Operand} {ts:Array TypeId} {fid:FuncId}
  {argsC first cap vs:List AV} {es:List bh} (hr:r≠.stuck) (h:U.bind res kk=r) (ks:List Nat) (hen:Enters P fid)
  (hC:CT P fid argsC es res V C) (hk:nc E ds l s ks f args fid argsC es first cap vs) (hd:Nat.blt d n=true)
  (hx:∀ x,(C x).length=ks.length/\kf (below ks.length) (C x)=true/\(V x).only (below ks.length)=true)
  (hV:∀ x,(V x).hQ (nth ks)=V' x/\lX ks (kr (nth ks) (C x))=C' x) (hnp:NP res)
  (hret:∀ x,kk x=r->SL P E n ops Q rest (bL ((d,V' x)::l) ds) (bn (C' x++s))) :
  SL P E n ops Q (⟨some d,.call ⟨.value f,args.toArray,ts⟩,ty,pos,af,none⟩::rest) (bL l ds) (bn s):=by
 obtain ⟨hns,hok,hp⟩:=lY hr h
 refine kG rfl (ES ks hen rfl (hC.h res rfl hns) hk (nv hd) (λx _=>hx x) (λx hg=>?_) (λv hv=>?_))
 ·have:=hret x (hok x hg)
  rw[<- (hV x).1,<- (hV x).2] at this;exact this
 ·obtain ⟨p,hp1,_⟩:=hv
  exact absurd hp1 (hnp p)
theorem KN {d:Nat} {X R:Type} {res:U X} {kk:X->U R} {r:U R} {V V':X->AV} {C:X->List bh} {C':X->List (Nat×bh)} {f:Operand} {args:List Operand} {ts:Array TypeId} {fid:FuncId}
  {argsC first cap vs:List AV} {es:List bh} {gd:Option (Nat×Bool)} (ho:ops[i]?=some ⟨some d,.call ⟨.value f,args.toArray,ts⟩,ty,pos,af,gd⟩)
  (hw:iQ ops ⟨some d,.call ⟨.value f,args.toArray,ts⟩,ty,pos,af,gd⟩ (bL l ds)) (hr:r≠.stuck) (h:U.bind res kk=r) (ks:List Nat) (hen:Enters P fid)
  (hC:CT P fid argsC es res V C) (hk:nc E ds l s ks f args fid argsC es first cap vs) (hd:Nat.blt d n=true) (hnm:tm ks recs=true)
  (hx:∀ x,(C x).length=ks.length/\kf (below ks.length) (C x)=true/\(V x).only (below ks.length)=true)
  (hV:∀ x,(V x).hQ (nth ks)=V' x/\lX ks (kr (nth ks) (C x))=C' x) (hnp:NP res)
  (hret:∀ x,kk x=r->lJ ops i (C' x++s) recs/\kZ P E n ops Q B L recs (bL ((d,V' x)::l) ds) (bn (C' x++s))):kZ P E n ops Q B (i::L) recs (bL l ds) (bn s):=by
 obtain ⟨hns,hok,hp⟩:=lY hr h
 refine D1 ho hw ks hen (hC.h res rfl hns) hk hd hnm (λx _=>hx x) (λv hv=>?_) (λx hg v' s' hv hs=>?_)
 ·obtain ⟨p,hp1,_⟩:=hv
  exact absurd hp1 (hnp p)
 ·have:=hret x (hok x hg)
  rw[<- (hV x).1,<- (hV x).2] at this
  subst hv hs;exact this
theorem KO {d:Nat} {X R:Type} {res:U X} {kk:X->U R} {r:U R} {V V':X->AV} {C:X->List bh} {C':X->List (Nat×bh)} {f:Operand} {args:List Operand} {ts:Array TypeId} {fid:FuncId}
  {argsC first cap vs:List AV} {es:List bh} {gd:Option (Nat×Bool)} (ho:ops[i]?=some ⟨some d,.call ⟨.value f,args.toArray,ts⟩,ty,pos,af,gd⟩)
  (hw:iQ ops ⟨some d,.call ⟨.value f,args.toArray,ts⟩,ty,pos,af,gd⟩ (bL l ds)) (hfl:iw ops recs i=[]) (hr:r≠.stuck) (h:U.bind res kk=r) (ks:List Nat) (hen:Enters P fid)
  (hC:CT P fid argsC es res V C) (hk:nc E ds l s ks f args fid argsC es first cap vs) (hbb:iO es=true) (hd:Nat.blt d n=true)
  (hx:∀ x,(C x).length=ks.length/\kf (below ks.length) (C x)=true/\(V x).only (below ks.length)=true)
  (hV:∀ x,(V x).hQ (nth ks)=V' x/\lX ks (kr (nth ks) (C x))=C' x)
  {sp:List (Nat×bh)} (hsp:lX ks (kr (nth ks) (es.map bh.lost))++s=sp) (hpan:∀ p,r=.mw p->Q (.panic p.av) (bL l ds) (bn sp))
  (hret:∀ x,kk x=r->kZ P E n ops Q B L recs (bL ((d,V' x)::l) ds) (bn (C' x++s))):kZ P E n ops Q B (i::L) recs (bL l ds) (bn s):=by
 obtain ⟨hns,hok,hp⟩:=lY hr h
 subst hsp
 obtain ⟨hl,hat⟩:=qd hk.gs
 rw[jf] at hl
 have hC':=(hC.h res rfl hns).lost hbb
 refine ⟨_,ho,.dI hw rfl (.call (nth ks) (List.range ks.length) hen rfl (N hk.f) (by rw[nb hk.a];exact hk.e) hC' (λj hj=>by have:=pJ hj;simp;omega) (λj e hj=>?_)
   (λj hj=>by
    have hj':j<es.length:=by simp at hj;omega
    have:=oM (i:=0) (List.getElem?_eq_getElem hj')
    simp at this;rw[this];rfl)
   (λj j' hj hj' he=>pG hk.nd (by have:=pJ hj;omega) (by have:=pJ hj';omega) he) (nv hd) (λv σc hr=>?_) (λv σc hr=>?_)) (λr hr=>by rw[hfl] at hr;cases hr)⟩
 ·obtain ⟨_,h2⟩:=fX hj
  exact hat j _ (by rw[oB,show j=j - 0 by omega,h2];rfl)
 ·rcases hr with ⟨x,hg,he,rfl⟩|⟨_,_,he,_⟩
  ·cases he
   obtain ⟨h1,h2,h3⟩:=hx x
   refine ⟨rJ ⟨rfl,rfl⟩ hl hk.nd hk.bx hk.fx h1 h2 h3,?_⟩
   rw[qh hk.nd h1,(hV x).1,(hV x).2]
   exact ⟨λr hr=>(by rw[hfl] at hr;cases hr),hret x (hok x hg)⟩
  ·cases he
 ·rcases hr with ⟨_,_,he,_⟩|⟨v',⟨p,hp1,hp2⟩,he,rfl⟩
  ·cases he
  ·cases he
   subst hp2
   refine ⟨rJ ⟨rfl,rfl⟩ hl hk.nd hk.bx hk.fx (by simp[hl]) (vS _ hbb) (p.only _),λfr' σ' _ _ hq=>?_⟩
   obtain ⟨rfl,rfl⟩:=hq hfl
   rw[qh hk.nd (by simp[hl]),rE (p.only _)]
   exact hpan p (hp p hp1)
theorem Ee (f:Int->AV):∀ {xs:List Int} {i:Nat} {v:Int},(xs.map f).take i++[f v]++(xs.map f).drop (i+1)=(xs.set i v).map f\/xs.length<=i:=by
 intro xs i v;rcases Nat.lt_or_ge i xs.length with q|q
 ·left;rw[List.set_eq_take_append_cons_drop,if_pos q];simp
 exact .inr q
theorem Mw (f:Int->AV):∀ {xs:List Int},xs.length=4->xs.map f=[f (eY xs 0),f (eY xs 1),f (eY xs 2),f (eY xs 3)]
 | [_,_,_,_],_=>rfl
theorem II (f:Int->AV) {t:TypeId} {x y:Operand} {k:Nat} {ii:Int} {xs:List Int} {cs cs':List AV} {v:Int} [ht:nA P t 1] (hx:bj l x=some (.ptr k (0+ii.toNat*1))) (hk:dq s k=some (.box cs)) (hc:cs=xs.map f)
  (hy:bj l y=some (f v)) (h0:0<=ii) (h1:ii<xs.length) (ho:∀ v,(f v).fN=some [f v]/\AV.kF [f v]=true) (hn':(lh xs ii v).map f=cs')
  (hn:SL P E n ops Q rest (bL l ds) (bn ((k,.box cs')::s))):SL P E n ops Q (⟨none,.store t x y,ty,pos,af,none⟩::rest) (bL l ds) (bn s):=by
 have hlt:ii.toNat<xs.length:=by omega
 refine kG rfl (r7 rfl rfl (N hx) (bW hk) rfl (by rw[N hy];exact (ho v).1) (ho v).2 ht.h (by simp only[bh.cells,List.length_singleton];rw[hc,List.length_map];omega) (λq=>by cases q) ?_)
 have e1:(bh.box cs).DQ (0+ii.toNat*1) [f v]=.box cs':=by
  simp only[bh.DQ,List.length_singleton]
  rw[hc,<- hn',show 0+ii.toNat*1=ii.toNat by omega]
  rcases Ee f (xs:=xs) (i:=ii.toNat) (v:=v) with q|q
  ·rw[q];rfl
  ·omega
 rw[e1];exact hn
end
end Go.Abs
end
section
namespace Go.Abs
open U
def Ls:List AV->List AV->Prop
 | [],[]=>True
 | a::as,b::bs=>(a=b\/b=.any)/\Ls as bs
 | _,_=>False
theorem Ef:∀ {a b:List AV},Ls a b->Bn a b
 | [],[],_=>.nil
 | a::as,b::bs,h=>.cons (by rcases h.1 with q|q<;>subst q;exact AV.le_refl _;exact AV.Da _) (Ef h.2)
 | [],_::_,h=>h.elim
 | _::_,[],h=>h.elim
def KP (s':List (Nat×bh)):List (Nat×bh)->Prop
 | []=>True
 | p::ps=>(∃ e,dq s' p.1=some e/\e.le p.2)/\KP s' ps
theorem Af {s':List (Nat×bh)}:∀ {l:List (Nat×bh)},KP s' l->∀ p,p∈l->∃ e,dq s' p.1=some e/\e.le p.2
 | _::_,h,p,hp=>by
  rcases List.mem_cons.1 hp with q|q
  ·subst q;exact h.1
  exact Af h.2 p q
def Eg (ops:Array Oper) (i:Nat) (s':List (Nat×bh)):List Rec->Prop
 | []=>True
 | r::rs=>(match r.rd with
  | []=>True
  | p::ps=>match oJ ops ops.size i r.i with
   | true=>True
   | false=>KP s' (p::ps))/\Eg ops i s' rs
theorem db {ops:Array Oper} {i:Nat} {s':List (Nat×bh)} {recs:List Rec} (h:Eg ops i s' recs):lJ ops i s' recs:=by
 induction recs with
 | nil=>intro r hr;simp[iw] at hr
 | cons a rs ih=>
  intro r hr p hp
  simp only[iw,List.mem_filter,Bool.not_eq_true'] at hr
  rcases List.mem_cons.1 hr.1 with q|q
  ·subst q;have h1:=h.1;cases hrd:r.rd with
   | nil=>rw[hrd] at hp;cases hp
   | cons x xs=>
    rw[hrd] at h1 hp
    simp only[hr.2] at h1
    exact Af h1 p hp
  ·exact ih h.2 r (by simp[iw,q,hr.2]) p hp
theorem bh.iB {cs cs':List AV} (h:Ls cs cs'):bh.le (.box cs) (.box cs'):=λ_ _ _ he=>D5 (Ef h) he
section
variable {P:Program} {l:List (Nat×AV)} {ds:List (FuncId×List AV)} {s:List (Nat×bh)}
theorem ju (cs':List AV) {t:TypeId} {x:Operand} {k off:Nat} {cs:List AV} {v:AV} [ha:je P t false] (hx:bj l x=some (.ptr k off)) (hk:dq s k=some (.box cs)) (hw:Ls cs cs') (hv:cs'[off]?=some v) :
  iy P (.load t x) l ds s v [(k,.box cs')]:=
 ⟨s5 ha.h (N hx) hv,λp hp=>by simp at hp;subst hp;exact ⟨_,bW hk,bh.iB hw⟩⟩
theorem Gw {α β:Type} (f:α->β):∀ l:List α,(l.flatMap λx=>[f x])=l.map f
 | []=>rfl
 | x::l=>by simp[List.flatMap_cons,Gw f l]
theorem E1 {α β:Type} {f:α->β} (l:List α):(l.flatMap λx=>[f x]).length=l.length:=by rw[Gw,List.length_map]
theorem KQ {t:TypeId} {x:Operand} {k off:Nat} {cs:List AV} [ha:je P t false] (hx:bj l x=some (.ptr k off)) (hk:dq s k=some (.box cs)) (hv:cs[off]?=some .any) :
  iy P (.load t x) l ds s .oc [(k,.box cs)]:=.on hk (by
 intro o ho g ev w hG hv' hr
 have q:=hv' x (by simp[Op.operands]);rw[N hx] at q
 have he:=hr (k,.box cs) (by simp)
 generalize hq:ev x=c at q
 cases q with
 | ptr _ hb=>
  cases he with
  | box h hw hc h1=>
   rw[h] at hb;cases hb
   obtain ⟨v,hv1,_⟩:=hc.get off _ hv
   refine ⟨v,?_,.oc (h1 v (List.mem_of_getElem? hv1))⟩
   simp only[execOp,ho,hq,Instr.loadAt,Instr.sureAddr,Sem.run_bind,Sem.run_pure,Result.andThen_ok,oG ha.h hw hv1])
theorem E2 {a b e:TypeId} (ha:P.underlying a=some (.slice e)) (he:P.underlying e=some (.int .u8)) (hb:P.underlying b=some .string) {g:Gh} {w:World} (hG:DF g w) {xs:List Int} {n:Nat} (hn:n=xs.length) {c:Value}
  (h:VR g (.pv (.sl n (xs.flatMap λx=>[PV.sc (.int .u8 x)]))) c):(convert a b c).run P w=.ok (S (lP xs)) w:=by
 subst hn
 cases h with
 | pv h=>
  generalize hcs:(xs.flatMap λx=>[PV.sc (.int .u8 x)])=cells at h
  generalize hl:xs.length=n at h
  cases h with
  | nil a' cap=>
   have:xs=[]:=List.length_eq_zero_iff.1 hl
   subst this
   rw[run_convert_bytes_string w a b e _ _ _ ha he hb]
   cases a' with
   | none=>simp[Conv.bytesToString,S,lP,ByteArray.empty,ByteArray.emptyWithCapacity];rfl
   | some a0=>
    rw[run_bytesToString w a0 0 cap [] (by simp[loadCells,loadCellsFrom,Sem.run_pure])]
    simp[S,lP,ByteArray.empty,ByteArray.emptyWithCapacity];rfl
  | sl blk ys off n cap cells h hl' hc hnc=>
   have hlen:cells.length=xs.length:=by rw[<- hcs];exact E1 xs
   obtain ⟨cs,el,fz,hw,h1,h2⟩:=DI hG h hl' hc
   have:=run_convert_bytes_arg (P:=P) w a e ha he blk off xs.length cap xs rfl (λi hi=>by
    have hci:cells[i]?=some (.sc (.int .u8 (xs.getD i 0))):=by
     rw[<- hcs]
     rw[Gw,List.getElem?_map,List.getElem?_eq_getElem hi]
     simp[List.getD,List.getElem?_eq_getElem hi]
    obtain ⟨v,hv1,hv2⟩:=h2.get i _ hci
    cases hv2
    rw[List.getElem?_take] at hv1
    split at hv1
    ·simp at hv1
     simp[World.cell?,hw]
     exact hv1
    ·cases hv1) b hb
   rw[<- hl,this]
   rfl
theorem sg {a b e:TypeId} {x:Operand} {n:Nat} {xs:List Int} [ha:kI P a (.slice e)] [he:kI P e (.int .u8)] [hb:kI P b .string] (hx:bj l x=some (.pv (.sl n (xs.flatMap λx=>[PV.sc (.int .u8 x)])))) (hn:n=xs.length) :
  iy P (.convert a b x) l ds s (aZ (lP xs)) []:=.of (by
 intro o ho g ev w hG hv _
 have q1:=hv x (by simp[Op.operands]);rw[N hx] at q1
 exact ⟨S (lP xs),by simp only[execOp,ho,Sem.run_bind,E2 ha.h he.h hb.h hG hn q1,Result.andThen_ok,Sem.run_pure],.pv (.sc _)⟩)
end
section
variable {P:Program} {E:Env} {n:Nat} {c:Code} {Q:dU} {fr:eQ} {σ:cl}
def Mx (Q:dU):dU
 | .goto _,_,_=>False
 | e,fr,σ=>Q e fr σ
theorem B6 (h:SW P E n c (Mx Q) fr σ):SW P E n (.scope c) Q fr σ:=λg a w hR hF=>by
 refine wp_scope_straight (wp_mono (h g a w hR hF) λe a w hq=>?_);obtain ⟨g',ae,fr',σ',q,hx,hR',hF'⟩:=hq;cases hx with
 | goto l=>exact q.elim
 | normal=>exact ⟨g',_,fr',σ',q,.normal,hR',hF'⟩
 | exit id=>exact ⟨g',_,fr',σ',q,.exit id,hR',hF'⟩
 | ret=>exact ⟨g',_,fr',σ',q,.ret,hR',hF'⟩
 | panic hv=>exact ⟨g',_,fr',σ',q,.panic hv,hR',hF'⟩
end
theorem Eh {q:Nat->Bool} {v:AV} {T:TypeId} {b:Bool} (h:v.only q=true):(AV.gZ [v,Oe T b]).only q=true:=by cases b<;>simp[AV.only,AV.only.lu,h,Oe]
theorem Gx {f:Nat->Nat} {v:AV} {T:TypeId} {b:Bool}:(AV.gZ [v,Oe T b]).hQ f=.gZ [v.hQ f,Oe T b]:=by cases b<;>rfl
theorem tV {α:Type} (X:List α) (z:α):((X.length:Int))<((X++[z]).length:Int):=by simp;omega
theorem ly {α:Type} (X:List α) (z:α):(X++[z])[((X.length:Int)).toNat]?=some z:=by simp
theorem Gy {α:Type} (X:List α) (z a:α):(X++[z]).set ((X.length:Int)).toNat a=X++[a]:=by simp
section
variable {P:Program} {E:Env} {n:Nat} {ops:Array Oper} {Q:dU} {B:List Rec->eQ->cl->Prop} {i:Nat} {L:List Nat} {recs:List Rec} {rest:List Oper} {l:List (Nat×AV)} {ds:List (FuncId×List AV)} {s:List (Nat×bh)}
 {ty:TypeId} {pos:String} {af:Array Edge}
theorem IJ (f:Int->AV) {t:TypeId} {x y:Operand} {k:Nat} {ii:Int} {xs:List Int} {cs cs':List AV} {v:Int} [ht:nA P t 1] (hop:ops[i]?=some ⟨none,.store t x y,ty,pos,af,none⟩)
  (hx:bj l x=some (.ptr k (0+ii.toNat*1))) (hk:dq s k=some (.box cs)) (hc:cs=xs.map f)
  (hy:bj l y=some (f v)) (h0:0<=ii) (h1:ii<xs.length) (ho:∀ v,(f v).fN=some [f v]/\AV.kF [f v]=true) (hn':(lh xs ii v).map f=cs') (hnm:kJ recs=true)
  (hn:lJ ops i ((k,.box cs')::s) recs/\kZ P E n ops Q B L recs (bL l ds) (bn ((k,.box cs')::s))):kZ P E n ops Q B (i::L) recs (bL l ds) (bn s):=by
 have hlt:ii.toNat<xs.length:=by omega
 obtain ⟨hst,hn⟩:=hn
 refine ⟨_,hop,.dI (.inl rfl) rfl (.store rfl rfl (N hx) (bW hk) rfl (by rw[N hy];exact (ho v).1) (ho v).2 ht.h (by simp only[bh.cells,List.length_singleton];rw[hc,List.length_map];omega) (λq=>by cases q) ?_) (λr hr k' _=>by rw[fb hnm r (List.mem_filter.1 hr).1];simp)⟩
 have e1:(bh.box cs).DQ (0+ii.toNat*1) [f v]=.box cs':=by
  simp only[bh.DQ,List.length_singleton]
  rw[hc,<- hn',show 0+ii.toNat*1=ii.toNat by omega]
  rcases Ee f (xs:=xs) (i:=ii.toNat) (v:=v) with q|q
  ·rw[q];rfl
  ·omega
 rw[e1]
 exact ⟨λr hr=>⟨λp hp=>(let ⟨e,h1,h2⟩:=hst r hr p hp;⟨e,bW h1,h2⟩),λnm q=>by rw[fb hnm r (List.mem_filter.1 hr).1] at q;cases q⟩,hn⟩
theorem pd {α:Type} {C:α->List PV} {Cs:List α->List PV} {t:TypeId} {x y:Operand} {k off m sz:Nat} {el:TypeId} (xs:List α) {a a':α} {v:AV} {vs:List PV}
  (ho:ops[i]?=some ⟨none,.store t x y,ty,pos,af,none⟩) (h:yP P C Cs l s t x y k off m sz el (xs.length:Int) (xs++[a]) a a' v vs) (hnm:kJ recs=true)
  (hn:lJ ops i ((k,.arr el sz (Cs (xs++[a'])))::pI k s) recs/\kZ P E n ops Q B L recs (bL l ds) (bn ((k,.arr el sz (Cs (xs++[a'])))::pI k s))):kZ P E n ops Q B (i::L) recs (bL l ds) (bn s):=
 KJ ho h hnm (by rw[Gy];exact hn)
end
section
variable {E:Env} {n:Nat} {l:List (Nat×AV)} {ds:List (FuncId×List AV)} {s:List (Nat×bh)}
theorem Gz (d:Nat) {k m m':Nat} (hd:jo l d=some (.arr k m)) (hm:m=m'):fC E n l ds s ((d,.arr k m')::l) s:=λg a w hR hF=>by
 subst hm;refine ⟨g,hR,hF.size,λi=>?_,hF.ds⟩;by_cases q:i=d
 ·subst q;have:=hF.jH i;simp only[bL,ff hd] at this;simpa[bL,lV] using this
 have:=hF.jH i;simpa[bL,lV,q] using this
theorem pf (j off:Nat) {cs cs':List AV} {k m m':Nat} (hj:dq s j=some (.box cs)) (hc:cs[off]?=some (.arr k m)) (hm:m=m') (hcs:cs.set off (.arr k m')=cs'):fC E n l ds s l ((j,.box cs')::s):=by
 subst hm;have:cs.set off (.arr k m)=cs:=by
  obtain ⟨h1,h2⟩:=List.getElem?_eq_some_iff.1 hc;rw[<- h2];exact List.set_getElem_self h1
 rw[this] at hcs;subst hcs;exact D6 hj (Bn.refl _)
end
section
variable {P:Program} {E:Env} {n:Nat} {ops:Array Oper} {Q:dU} {recs:List Rec} {l:List (Nat×AV)} {ds:List (FuncId×List AV)} {s:List (Nat×bh)}
theorem tW {x y:Nat} (h1:DW P E n ops Q [x,y] recs (bL l ds) (bn s)) (h2:DW P E n ops Q [y,x] recs (bL l ds) (bn s)):DX P E n ops Q x y [] recs (bL l ds) (bn s):=⟨h1,h2⟩
end
section
variable {P:Program} {l:List (Nat×AV)} {s:List (Nat×bh)}
theorem gJ {fn:Func} {X:Type} {V:X->AV} {C:X->List bh} {vs:List AV} {ae:uh} {r:U X} (hae:ae=.ret\/ae=.normal) (x:X) (hr:C8 P (bL l []) (bn s) fn.results.toList vs)
 (hg:r=.ok x) (hle:(pb vs).le (V x)) (hm:vP s 0 (C x)):nD P fn (pH V C (λx=>r=.ok x) (λv=>∃ p,r=.mw p/\v=p.av)) ae (bL l []) (bn s):=oN hae x hr hg hle hm
end
theorem nI {K:eQ->cl->Prop} {Q:dU} {v:AV} {fr:eQ} {σ:cl} (h:Q (.panic v) fr σ):s9 K Q (.panic v) fr σ:=h
theorem lZ {id:Nat} {Q:dU} {v:AV} {fr:eQ} {σ:cl} (h:Q (.panic v) fr σ):C5 id Q (.panic v) fr σ:=h
end Go.Abs
end
section
namespace Go.Abs
open U
def g (m:Nat->Nat):Prop:=∀ N,∃ M,∀ i,M<=i->N<=m i
theorem g.id:g λi=>i:=λN=>⟨N,λ_ h=>h⟩
theorem g.pred {m:Nat->Nat} (h:g m):g λi=>m i - 1:=λN=>
 let ⟨M,hM⟩:=h (N+1);⟨M,λi hi=>by have:=hM i hi;show N<=m i - 1;omega⟩
def U.sat {α:Type} (r:U α) (Q:α->Prop) (R:sB->Prop):Prop:=match r with
 | .stuck=>False
 | .ok a=>Q a
 | .mw p=>R p
def Ev {α:Type} (F:Nat->U α) (Q:α->Prop) (R:sB->Prop):Prop:=∃ r:U α,r.sat Q R/\∃ N,∀ i,N<=i->F i=r
section
variable {α β X:Type} {Q Q':α->Prop} {R R':sB->Prop} {Qb:β->Prop}
theorem Ev.ok {a:α} (h:Q a):Ev (λ_=>.ok a) Q R:=⟨.ok a,h,0,λ_ _=>rfl⟩
theorem Ev.mw {p:sB} (h:R p):Ev (λ_=>(.mw p:U α)) Q R:=⟨.mw p,h,0,λ_ _=>rfl⟩
theorem Ev.mono {F:Nat->U α} (h:Ev F Q' R') (hq:∀ a,Q' a->Q a) (hr:∀ p,R' p->R p):Ev F Q R:=by
 obtain ⟨r,h1,h2⟩:=h;refine ⟨r,?_,h2⟩;cases r with
 | stuck=>exact h1
 | ok a=>exact hq a h1
 | mw p=>exact hr p h1
theorem Ev.Ag {F:Nat->U α} (h:Ev F Q' R) (hq:∀ a,Q' a->Q a):Ev F Q R:=h.mono hq λ_ q=>q
theorem Ev.bind {F:Nat->U α} {K:Nat->α->U β} (h:Ev F Q R') (hr:∀ p,R' p->R p) (hk:∀ a,Q a->Ev (λi=>K i a) Qb R):Ev (λi=>U.bind (F i) (K i)) Qb R:=by
 obtain ⟨r,h1,N,hN⟩:=h;cases r with
 | stuck=>exact h1.elim
 | ok a=>
  obtain ⟨r',h2,M,hM⟩:=hk a h1
  exact ⟨r',h2,N+M,λi hi=>by dsimp only;rw[hN i (by omega)];exact hM i (by omega)⟩
 | mw p=>exact ⟨.mw p,hr p h1,N,λi hi=>by dsimp only;rw[hN i hi];rfl⟩
theorem Ev.Y {F:Nat->U α} {K:Nat->α->U β} (h:Ev F Q R) (hk:∀ a,Q a->Ev (λi=>K i a) Qb R):Ev (λi=>U.bind (F i) (K i)) Qb R:=Ev.bind h (λ_ q=>q) hk
theorem Ev.fh {x:U α} {a:α} {K:Nat->α->U β} (h:x=.ok a) (hk:Ev (λi=>K i a) Qb R):Ev (λi=>U.bind x (K i)) Qb R:=by
 subst h;exact hk
theorem Ev.br {b:Bool} {F G:Nat->U α} (ht:b=true->Ev F Q R) (hf:b=false->Ev G Q R):Ev (λi=>U.br b (F i) (G i)) Q R:=by
 cases b with
 | true=>exact ht rfl
 | false=>exact hf rfl
theorem Ev.gd {p:Prop} [Decidable p] {F:Nat->U α} (hp:p) (h:Ev F Q R):Ev (λi=>U.gd p (F i)) Q R:=by
 have:(λi=>U.gd p (F i))=F:=by funext i;simp[U.gd,hp]
 rw[this];exact h
theorem Ev.el {l:List X} {j:Int} {K:Nat->X->U α} (h0:0<=j) (h1:j<l.length) (h:∀ x,l[j.toNat]?=some x->Ev (λi=>K i x) Q R):Ev (λi=>U.el l j (K i)) Q R:=by
 have h2:j.toNat<l.length:=by omega
 have:=h _ (List.getElem?_eq_getElem h2);have he:(λi=>U.el l j (K i))=λi=>K i l[j.toNat]:=by funext i;simp[U.el,h0,List.getElem?_eq_getElem h2]
 rw[he];exact this
theorem Ev.E3 {l:List X} {j:Int} {K:Nat->X->U α} {x:X} (h0:0<=j) (hx:l[j.toNat]?=some x) (h:Ev (λi=>K i x) Q R):Ev (λi=>U.el l j (K i)) Q R:=by
 have he:(λi=>U.el l j (K i))=λi=>K i x:=by funext i;simp[U.el,h0,hx]
 rw[he];exact h
theorem Ev.some {o:Option X} {x:X} {K:Nat->X->U α} (hx:o=some x) (h:Ev (λi=>K i x) Q R):Ev (λi=>U.some? o (K i)) Q R:=by subst hx;exact h
theorem Ev.jn {j:Nat->X->U α} {p:Nat->(X->U α)->U α} (J:X->Prop) (hj:∀ v,J v->Ev (λi=>j i v) Q R)
 (hp:∀ j:Nat->X->U α,(∀ v,J v->Ev (λi=>j i v) Q R)->Ev (λi=>p i (j i)) Q R):Ev (λi=>U.jn (j i) (p i)) Q R:=hp j hj
theorem Ev.grow {F:Nat->U α} {m:Nat->Nat} (hm:g m) (h:∀ m',g m'->Ev (λi=>F (m' i+1)) Q R):Ev (λi=>F (m i)) Q R:=by
 obtain ⟨r,h1,N,hN⟩:=h _ hm.pred;obtain ⟨M,hM⟩:=hm 1;refine ⟨r,h1,N+M,λi hi=>?_⟩;have:=hN i (by omega);have h2:=hM i (by omega);simp only[Nat.sub_add_cancel h2] at this;exact this
theorem Ev.iter {body:Nat->(X->U α)->X->U α} {m:Nat->Nat} (hm:g m) (I:X->Prop) (f:X->Nat) {x:X} (h0:I x)
  (hb:∀ x,I x->∀ next:Nat->X->U α,(∀ y,I y->f y<f x->Ev (λi=>next i y) Q R)->Ev (λi=>body i (next i) x) Q R) :
  Ev (λi=>U.iter (body i) (m i) x) Q R:=by
 have key:∀ (k:Nat) (x:X) (m:Nat->Nat),g m->I x->f x<k->Ev (λi=>U.iter (body i) (m i) x) Q R:=by
  intro k
  induction k with
  | zero=>intro x m _ _ h;exact absurd h (Nat.not_lt_zero _)
  | succ k ih=>
   intro x m hm hx hk
   obtain ⟨r,h1,N,hN⟩:=hb x hx (λi=>U.iter (body i) (m i - 1)) λy hy hlt=>ih y _ hm.pred hy (by omega)
   obtain ⟨M,hM⟩:=hm 1
   refine ⟨r,h1,N+M,λi hi=>?_⟩
   have h2:=hM i (by omega)
   rw[<- hN i (by omega)]
   obtain ⟨q,hq⟩:∃ q,m i=q+1:=⟨m i - 1,by omega⟩
   simp only[hq];rfl
 exact key _ x m hm h0 (Nat.lt_succ_self _)
theorem Ev.jh {F:Nat->U α} {H:Nat->sB->U α} (h:Ev F Q R') (hh:∀ p,R' p->Ev (λi=>H i p) Q R):Ev (λi=>pc (F i) (H i)) Q R:=by
 obtain ⟨r,h1,N,hN⟩:=h;cases r with
 | stuck=>exact h1.elim
 | ok a=>exact ⟨.ok a,h1,N,λi hi=>by dsimp only;rw[hN i hi];rfl⟩
 | mw p=>
  obtain ⟨r',h2,M,hM⟩:=hh p h1
  exact ⟨r',h2,N+M,λi hi=>by dsimp only;rw[hN i (by omega)];exact hM i (by omega)⟩
theorem Ev.qJ {T:TypeId} {v:Int} {K:Nat->Int->U α} (h:Ev (λi=>K i v) Q R):Ev (λi=>Go.Abs.qJ T ⟨T,[.sc (.int .i64 v)]⟩ (K i)) Q R:=by
 have:(λi=>Go.Abs.qJ T ⟨T,[.sc (.int .i64 v)]⟩ (K i))=λi=>K i v:=by funext i;simp[Go.Abs.qJ]
 rw[this];exact h
theorem Ev.get {F:Nat->U α} (h:Ev F Q λ_=>False):∃ a,Q a/\∃ N,∀ i,N<=i->F i=.ok a:=by
 obtain ⟨r,h1,h2⟩:=h;cases r with
 | stuck=>exact h1.elim
 | ok a=>exact ⟨a,h1,h2⟩
 | mw p=>exact h1.elim
theorem Ev.of_eq {F:Nat->U α} {r:U α} {N:Nat} (h:∀ i,N<=i->F i=r) (hr:r.sat Q R):Ev F Q R:=⟨r,hr,N,h⟩
end
end Go.Abs
end
section
namespace Go.Abs
open U Go.RowKit
section
variable {E:Env} {g:Gh} {σ:cl} {w w':World}
theorem DF.GA (h:DF g w) {b:Nat} (hb:w.heap.size<=b):g.G b=none:=by
 cases q:g.G b with
 | none=>rfl
 | some ys=>have:=h.lt q;omega
theorem lj.J3 {b:Nat} {ys:List PV} (h:g.G b=none):lj (λ_=>False) g (g.dH b ys):=by
 refine ⟨λ_ _=>rfl,λ_ _=>rfl,λc zs hc=>?_⟩;have:c≠b:=λq=>by subst q;rw[h] at hc;cases hc
 exact ⟨[],by simp[Gh.dH,this,hc]⟩
theorem Rel.below (h:Rel E g σ w) (hb:Below w.heap.size w w'):Rel E g σ w':=by
 have hs:=hb.size;refine { kX:=?_,inj:=h.inj,gl:=?_,apart:=h.apart,size:=Nat.le_trans h.size hs,pV:=?_,own:=h.own,fix:=h.fix,ke:=h.ke,g0:=h.g0,gn:=h.gn,os:=hb.os.trans h.os,out:=hb.output.trans h.out,tape:=hb.tape.trans h.tape,x:=?_ }
 ·intro k e hk;exact (h.kX k e hk).le (lj.refl (λ_=>False) g) (λq=>q) (λ_ _ _=>rfl) (λ_ q=>q.elim) (λb hb'=>hb.block b ((h.kX k e hk).lt hb'))
 ·intro b ys hG;obtain ⟨c,e,f,h1,h2,h3⟩:=h.gl b ys hG;exact ⟨c,e,f,by rw[hb.block b (h.gl.lt hG)];exact h1,h2,h3⟩
 ·intro b hb' ho;rw[hb.block b (Nat.lt_of_lt_of_le hb' h.size)];exact h.pV b hb' ho
 exact {
  yM:=λb cs el fz h1=>let ⟨cs',h2,h3⟩:=h.x.yM b cs el fz h1;⟨cs',by rw[hb.block b (r5 h2)];exact h2,h3⟩
  flat:=λk b cs el fz h0 h1 hf=>let ⟨cs',h2,h3⟩:=h.x.flat k b cs el fz h0 h1 hf;⟨cs',by rw[hb.block b (r5 h2)];exact h2,h3⟩
  set:=λb hb'=>by
   have h1:=h.x.set b hb';have:E.wS.heap[b]?=some E.wS.heap[b]:=Array.getElem?_eq_getElem hb';rw[hb.block b (r5 (h1.trans this))];exact h1
  yN:=h.x.yN,hi:=h.x.hi,gf:=h.x.gf,o7:=h.x.o7,pD:=h.x.pD,o8:=h.x.o8,o9:=h.x.o9 }
theorem Rel.LM (h:Rel E g σ w) {b:Nat} (hge:E.w0.heap.size<=b) (hG:g.G b=none) (hk:∀ k,(σ k).isSome=true->g.ρ k≠some b) {cs:Array Value} {el:TypeId} {fz:Nat×Nat} (hw:w.heap[b]?=some (.cells cs el fz)) {ys:List PV} (hl:ys.length<=cs.size) (hp:mQ g ys (cs.toList.take ys.length)) :
  Rel E (g.dH b ys) σ w:=by
 have hle:lj (λ_=>False) g (g.dH b ys):=lj.J3 hG
 refine { kX:=?_,inj:=h.inj,gl:=?_,apart:=?_,size:=h.size,pV:=h.pV,own:=h.own,fix:=h.fix,ke:=h.ke,g0:=?_,gn:=?_,os:=h.os,out:=h.out,tape:=h.tape,x:=?_ }
 ·intro k e hk'
  exact (h.kX k e hk').le hle (λq=>q) (λc hc _=>by
   have:c≠b:=λq=>by subst q;exact hk k (by rw[hk'];rfl) hc
   simp[Gh.dH,this]) (λ_ q=>q.elim) (λ_ _=>rfl)
 ·intro c zs hc
  by_cases q:c=b
  ·subst q
   simp[Gh.dH] at hc;subst hc
   exact ⟨cs,el,fz,hw,hl,hp.le hle⟩
  ·simp[Gh.dH,q] at hc
   obtain ⟨c',e,f,h1,h2,h3⟩:=h.gl c zs hc
   exact ⟨c',e,f,h1,h2,h3.le hle⟩
 ·intro k c e' hk' hka hc
  have q:c≠b:=λq=>by subst q;exact hk k (by rw[hk'];rfl) hc
  simp only[Gh.dH,q,if_false]
  exact h.apart k c e' hk' hka hc
 ·intro c zs hc
  obtain ⟨us,h1⟩:=h.g0 c zs hc
  obtain ⟨vs,h2⟩:=hle.G c _ h1
  exact ⟨us++vs,by rw[h2,List.append_assoc]⟩
 ·intro c zs hc
  by_cases q:c=b
  ·subst q;exact .inr (.inr hge)
  ·simp[Gh.dH,q] at hc;exact h.gn c zs hc
 ·have hx:=h.x
  exact {
      yM:=hx.yM,flat:=hx.flat,set:=hx.set,yN:=hx.yN,hi:=hx.hi,gf:=hx.gf,o7:=hx.o7
      pD:=λk c hf=>by
       have:=hx.o7 k c hf
       have q:c≠b:=by omega
       simp only[Gh.dH,q,if_false];exact hx.pD k c hf
      o8:=hx.o8,o9:=hx.o9 }
theorem Rel.grown (h:Rel E g σ w) (hb:Below w.heap.size w w') {b:Nat} (hge:w.heap.size<=b) {cs:Array Value} {el:TypeId} {fz:Nat×Nat} (hw:w'.heap[b]?=some (.cells cs el fz)) {ys:List PV} (hl:ys.length<=cs.size) (hp:mQ g ys (cs.toList.take ys.length)) :
  Rel E (g.dH b ys) σ w':=
 (h.below hb).LM (Nat.le_trans h.size hge) (h.gl.GA hge) (λk hk q=>by have:=h.lt hk q;omega) hw hl hp
theorem wC (w:World) (e:TypeId) (s:ByteArray):Below w.heap.size w (Lib.bytesWorld w e s):=
 ⟨rfl,rfl,rfl,by rw[Lib.bytesWorld_size];omega,λk hk=>Lib.bytesWorld_at_old w e s k hk⟩
end
def ofBytes (s:ByS):List Int:=s.map λb=>(b.toNat:Int)
theorem Ah {g:Gh}:∀ l:ByS,mQ g ((ofBytes l).flatMap λx=>[PV.sc (.int .u8 x)]) (l.map λb=>Value.int .u8 b.toNat)
 | []=>.nil
 | b::l=>.cons (.sc _) (Ah l)
section
variable {P:Program} {E:Env} {n:Nat} {ops:Array Oper} {Q:dU} {rest:List Oper} {l:List (Nat×AV)} {ds:List (FuncId×List AV)} {s:List (Nat×bh)}
 {ty:TypeId} {pos:String} {af:Array Edge}
theorem KS {d:Nat} {a b e:TypeId} {u:TypeDesc} {x:Operand} {c:ByS} {Cs:List Int->List PV} [hs:kI P a u] [ht:kI P b (.slice e)] [he:kI P e (.int .u8)] (hx:bj l x=some (aZ c)) (hC:∀ l,Cs l=l.flatMap λx=>[PV.sc (.int .u8 x)])
  (hd:Nat.blt d n=true) (hn:SL P E n ops Q rest (bL ((d,.pv (.sl (ofBytes c).length (Cs (ofBytes c))))::l) ds) (bn s)):SL P E n ops Q (⟨some d,.convert a b x,ty,pos,af,none⟩::rest) (bL l ds) (bn s):=by
 refine kG rfl ?_
 intro g act w K hR hF hK
 have q:=hF.eval x
 rw[N hx] at q
 have hq:=q.c6
 have hrun:=Lib.run_convert_string_bytes w a b e ⟨c.toArray⟩ hs.h ht.h he.h
 have hev:(execOp act.eval ⟨some d,.convert a b x,ty,pos,af,none⟩).run P w=.ok (.value (.slice (some ⟨w.heap.size,0,none⟩) (ByteArray.size ⟨c.toArray⟩) (grownCap w (ByteArray.size ⟨c.toArray⟩) 0 e))) (Lib.bytesWorld w e ⟨c.toArray⟩):=by
  simp only[execOp,hq];simp[S,hrun]
 simp only[Oper.wp,hev,Oper.upon]
 have hsz:ByteArray.size ⟨c.toArray⟩=c.length:=by simp[ByteArray.size]
 have hnew:=Lib.bytesWorld_at_new w e ⟨c.toArray⟩
 have hfl:((ofBytes c).flatMap λx=>[PV.sc (.int .u8 x)]).length=c.length:=by
  rw[jg (sz:=1) (λ_=>rfl)];simp[ofBytes]
 have hcl:(Lib.bytesCells w e ⟨c.toArray⟩).toList.take c.length=c.map λb=>Value.int .u8 b.toNat:=by
  simp[Lib.bytesCells]
 have hR':=hR.grown (wC w e ⟨c.toArray⟩) (Nat.le_refl _) hnew (ys:=(ofBytes c).flatMap λx=>[PV.sc (.int .u8 x)]) (by rw[hfl];simp[Lib.bytesCells]) (by rw[hfl,hcl];exact Ah c)
 refine hK _ _ _ _ _ hn hR' ((hF.le (nn:=λ_=>False) (lj.J3 (hR.gl.GA (Nat.le_refl _))) λk q=>q.elim).put (nv hd) ?_)
 rw[hC]
 have hcap:(ofBytes c).length<=grownCap w (ByteArray.size ⟨c.toArray⟩) 0 e:=by
  have:(ofBytes c).length=ByteArray.size ⟨c.toArray⟩:=by simp[ofBytes,hsz]
  rw[this];exact grownCap_ge _ _ _ _
 have e2:ByteArray.size ⟨c.toArray⟩=(ofBytes c).length:=by simp[ofBytes,hsz]
 rw[e2] at hcap ⊢
 exact .pv (.sl w.heap.size ((ofBytes c).flatMap λx=>[PV.sc (.int .u8 x)]) 0 (ofBytes c).length _ _ (by simp[Gh.dH]) (by simp) (by rw[List.drop_zero,List.take_length]) hcap)
def Oi (e:Int):AV:=match e with
 | .ofNat 0=>Sc .nilIface
 | e=>.ny 213 (I e)
theorem GB {q:Nat->Bool} {T:TypeId} {b:Bool}:(Oe T b).only q=true:=by cases b<;>rfl
theorem IK {f:Nat->Nat} {T:TypeId} {b:Bool}:(Oe T b).hQ f=Oe T b:=by cases b<;>rfl
theorem GC {q:Nat->Bool} {e:Int}:(Oi e).only q=true:=by unfold Oi;split<;>rfl
theorem Ei {f:Nat->Nat} {e:Int}:(Oi e).hQ f=Oi e:=by unfold Oi;split<;>rfl
theorem IL {q:Nat->Bool} {v:AV} {e:Int} (h:v.only q=true):(AV.gZ [v,Oi e]).only q=true:=by simp[AV.only,AV.only.lu,h,GC]
theorem KT {f:Nat->Nat} {v:AV} {e:Int}:(AV.gZ [v,Oi e]).hQ f=.gZ [v.hQ f,Oi e]:=by simp[AV.hQ,AV.hQ.mE,Ei]
theorem Ej {e:Int} (h:e≠0):Oi e=.ny 213 (I e):=by
 unfold Oi;split
 ·exact absurd rfl h
 rfl
theorem KU {xt yt:TypeId} {x:Operand} {e:Int} [ht:BZ P xt] (hx:bj l x=some (Oi e)):iy P (.binOp .neq xt x (.const .nilIface) yt) l ds s (Bo (e !=0)) []:=by
 by_cases h:e=0
 ·subst h;exact qn hx
 rw[Ej h] at hx;have:(e !=0)=true:=by simpa using h
 rw[this];exact qm hx rfl
end
end Go.Abs
end
section
namespace Go.Abs
open U
def n7:ByS->ByS->Option Nat
 | [],sub=>if sub.isEmpty then some 0 else none
 | b::l,sub=>if sub.isPrefixOf (b::l) then some 0 else match n7 l sub with|some i=>some (i+1)|none=>none
def ot (sep:ByS):Nat->ByS->List ByS
 | 0,s=>[s]
 | k+1,s=>match n7 s sep with|none=>[s]|some i=>s.take i::ot sep k (s.drop (i+sep.length))
def yQ:Nat->Nat->ByS
 | 0,_=>[]
 | f+1,u=>if u<10 then [UInt8.ofNat (48+u)] else yQ f (u / 10)++[UInt8.ofNat (48+u % 10)]
def strings_Contains (a b:ByS):U Bool:=gd (a.length<4294967281) (.ok (n7 a b).isSome)
def strings_Split (a b:ByS):U (List ByS):=gd (1<=b.length/\a.length<4294967281) (.ok (ot b (a.length+1) a))
def strings_LastIndex (a b:ByS):U Int:=gd (a.length<4611686018427387904) (.ok (Lib.lastIndex a b))
def strings_Cut (a b:ByS):U (ByS×ByS×Bool):=
 gd (a.length<4294967281) (.ok (match n7 a b with|some i=>(a.take i,a.drop (i+b.length),true)|none=>(a,[],false)))
def strings_IndexByte (a:ByS) (b:Int):U Int:=.ok (match a.findIdx? (·==UInt8.ofNat b.toNat) with|some i=>(i:Int)|none=>-1)
def kh (a b:Int):U ByS:=gd (b=10/\0<=a/\a<18446744073709551616) (.ok (yQ 20 a.toNat))
def ov (a:ByS) (b c:Int):U (Int×Bool):=
 gd (b=10/\c=64/\a.length<=281474976710656) (.ok (match Lib.parseIntB 64 a with|.ok v=>(v,false)|Lib.NumEnd.syntax=>(0,true)|.range=>(Lib.intSat 64 a,true)))
def pg (fn s:ByS) (base bits e:Int):U Bool:=gd ((e=1\/e=2)/\s.length<=281474976710656) (.ok true)
end Go.Abs
end
section
namespace Go.Abs
open U
section
variable {α β X:Type} {Q Q':α->Prop} {R R':sB->Prop} {F G:Nat->U α}
theorem Ev.gA {p:Prop} [Decidable p] (h:Ev F Q R) (hp:p:=by first|omega|(simp[J,mV,sX,maxLen]<;>omega)):Ev (λi=>U.gd p (F i)) Q R:=Ev.gd hp h
theorem Ev.eA {l:List X} {j:Int} {K:Nat->X->U α} (hk:∀ x,l[j.toNat]?=Option.some x->Ev (λi=>K i x) Q R) (h:0<=j/\j<l.length:=by first|omega|(simp[J,mV,sX,maxLen]<;>omega)):Ev (λi=>U.el l j (K i)) Q R:=Ev.el h.1 h.2 hk
theorem Ev.bk {p:Prop} [Decidable p] (ht:p->Ev F Q R) (hf:¬ p->Ev G Q R):Ev (λi=>U.br (decide p) (F i) (G i)) Q R:=
 Ev.br (λh=>ht (of_decide_eq_true h)) (λh=>hf (of_decide_eq_false h))
theorem Ev.W [BEq β] [LawfulBEq β] {a b:β} (ht:a=b->Ev F Q R) (hf:a≠b->Ev G Q R):Ev (λi=>U.br (a==b) (F i) (G i)) Q R:=
 Ev.br (λh=>ht (beq_iff_eq.1 h)) (λh=>hf λe=>by subst e;simp at h)
theorem Ev.cr [BEq β] [LawfulBEq β] {a b:β} (ht:a≠b->Ev F Q R) (hf:a=b->Ev G Q R):Ev (λi=>U.br (a !=b) (F i) (G i)) Q R:=
 Ev.br (λh=>ht λe=>by subst e;simp at h) (λh=>hf (by simpa using h))
theorem Ev.bz {b:Bool} (ht:b=false->Ev F Q R) (hf:b=true->Ev G Q R):Ev (λi=>U.br (!b) (F i) (G i)) Q R:=
 Ev.br (λh=>ht (by simpa using h)) (λh=>hf (by simpa using h))
theorem Ev.bK (h:Ev F Q R):Ev (λi=>U.br true (F i) (G i)) Q R:=h
theorem Ev.bE (h:Ev G Q R):Ev (λi=>U.br false (F i) (G i)) Q R:=h
theorem Ev.lK {j:Nat->X->U α} {p:Nat->(X->U α)->U α} (h:Ev (λi=>p i (j i)) Q R):Ev (λi=>U.jn (j i) (p i)) Q R:=h
theorem Ev.fQ {F:Nat->U α} {K:Nat->α->U β} {Qb:β->Prop} (h:Ev F Q λ_=>False) (hk:∀ a,Q a->Ev (λi=>K i a) Qb R):Ev (λi=>U.bind (F i) (K i)) Qb R:=
 Ev.bind h (λ_ q=>q.elim) hk
end
theorem tX {c:ByS} {i j:Int} (h0:0<=i) (h1:i<=j) (h2:j<=c.length):((sub c i j).length:Int)=j - i:=by
 simp only[sub,List.length_take,List.length_drop];omega
theorem my {c:ByS} {i:Int} (h0:0<=i) (h1:i<=c.length):((gB c i).length:Int)=c.length - i:=by
 simp only[gB,List.length_drop];omega
theorem Ai {c:ByS} {j:Int} (h0:0<=j) (h1:j<=c.length):((ob c j).length:Int)=j:=by
 simp only[ob,List.length_take];omega
theorem xO {c:ByS} {j:Int}:(ob c j).length<=c.length:=by simp only[ob,List.length_take];omega
theorem xP (sep:ByS):∀ (k:Nat) (s:ByS),(ot sep k s).length<=k+1
 | 0,_=>by simp[ot]
 | k+1,s=>by
  unfold ot;split
  ·simp
  have:=xP sep k (s.drop (by assumption+sep.length));simp;omega
theorem B7:∀ (f u:Nat),(yQ f u).length<=f
 | 0,_=>by simp[yQ]
 | f+1,u=>by
  unfold yQ;split
  ·simp
  have:=B7 f (u / 10);simp;omega
theorem GD (f u:Nat):1<=(yQ (f+1) u).length:=by
 unfold yQ;split
 ·simp
 simp
theorem wrap_u64 (x:Int):0<=IntKind.wrap .u64 x/\IntKind.wrap .u64 x<18446744073709551616:=by
 have:IntKind.wrap .u64 x=x % 18446744073709551616:=by simp[IntKind.wrap,IntKind.bits,IntKind.signed]
 rw[this];omega
end Go.Abs
end
section
namespace Go.Abs
theorem O.{u} {α:Sort u} {a:α}:a=a:=rfl
theorem O2.{u0,u1} {a0:Sort u0} {a1:Sort u1} {b0:a0} {b1:a1}:b0=b0/\b1=b1:=⟨rfl,rfl⟩
theorem O3.{u0,u1,u2} {a0:Sort u0} {a1:Sort u1} {a2:Sort u2} {b0:a0} {b1:a1} {b2:a2}:b0=b0/\b1=b1/\b2=b2:=⟨rfl,rfl,rfl⟩
theorem O4.{u0,u1,u2,u3} {a0:Sort u0} {a1:Sort u1} {a2:Sort u2} {a3:Sort u3} {b0:a0} {b1:a1} {b2:a2} {b3:a3}:b0=b0/\b1=b1/\b2=b2/\b3=b3:=⟨rfl,rfl,rfl,rfl⟩
theorem O5.{u0,u1,u2,u3,u4} {a0:Sort u0} {a1:Sort u1} {a2:Sort u2} {a3:Sort u3} {a4:Sort u4} {b0:a0} {b1:a1} {b2:a2} {b3:a3} {b4:a4}:b0=b0/\b1=b1/\b2=b2/\b3=b3/\b4=b4:=⟨rfl,rfl,rfl,rfl,rfl⟩
theorem O7.{u0,u1,u2,u3,u4,u5,u6} {a0:Sort u0} {a1:Sort u1} {a2:Sort u2} {a3:Sort u3} {a4:Sort u4} {a5:Sort u5} {a6:Sort u6} {b0:a0} {b1:a1} {b2:a2} {b3:a3} {b4:a4} {b5:a5} {b6:a6}:b0=b0/\b1=b1/\b2=b2/\b3=b3/\b4=b4/\b5=b5/\b6=b6:=⟨rfl,rfl,rfl,rfl,rfl,rfl,rfl⟩
theorem O8.{u0,u1,u2,u3,u4,u5,u6,u7} {a0:Sort u0} {a1:Sort u1} {a2:Sort u2} {a3:Sort u3} {a4:Sort u4} {a5:Sort u5} {a6:Sort u6} {a7:Sort u7} {b0:a0} {b1:a1} {b2:a2} {b3:a3} {b4:a4} {b5:a5} {b6:a6} {b7:a7}:b0=b0/\b1=b1/\b2=b2/\b3=b3/\b4=b4/\b5=b5/\b6=b6/\b7=b7:=⟨rfl,rfl,rfl,rfl,rfl,rfl,rfl,rfl⟩
open U
section
variable {P:Program} {E:Env} {n:Nat} {ops:Array Oper} {Q:dU} {rest:List Oper} {l:List (Nat×AV)} {ds:List (FuncId×List AV)} {s:List (Nat×bh)}
 {ty:TypeId} {pos:String} {af:Array Edge} {d:Nat}
theorem p1 {α β:Type} {a c:α} {b e:β} (h:(a,b)=(c,e)):a=c:=congrArg Prod.fst h
theorem p2 {α β:Type} {a c:α} {b e:β} (h:(a,b)=(c,e)):b=e:=congrArg Prod.snd h
theorem zm {x:Operand} {v:AV} (h:(bj l x,Nat.blt d n)=(some v,true)) (hn:SL P E n ops Q rest (bL ((d,v)::l) ds) (bn s)):SL P E n ops Q (⟨some d,.move x,ty,pos,af,none⟩::rest) (bL l ds) (bn s):=
 aB (aK (p1 h)) (p2 h) hn
theorem za {x:Operand} {v:AV} (h:(bj l x,Nat.blt d n)=(some v,true)) (hn:SL P E n ops Q rest (bL ((d,v)::l) ds) (bn s)):SL P E n ops Q (⟨some d,.assign x,ty,pos,af,none⟩::rest) (bL l ds) (bn s):=
 aB (rD (p1 h)) (p2 h) hn
theorem zn {x:Operand} {k off:Nat} (h:(bj l x,Nat.blt d n)=(some (.ptr k off),true)) (hn:SL P E n ops Q rest (bL ((d,.ptr k off)::l) ds) (bn s)):SL P E n ops Q (⟨some d,.nilCheck x,ty,pos,af,none⟩::rest) (bL l ds) (bn s):=
 aB (eH (p1 h)) (p2 h) hn
theorem zf {t:TypeId} {x:Operand} {f k off m:Nat} [hf:T P t f m] (h:(bj l x,Nat.blt d n)=(some (.ptr k off),true)) (hn:SL P E n ops Q rest (bL ((d,.ptr k (off+m))::l) ds) (bn s)) :
 SL P E n ops Q (⟨some d,.fieldAddr t x f,ty,pos,af,none⟩::rest) (bL l ds) (bn s):=aB (fa (p1 h)) (p2 h) hn
theorem zl {t:TypeId} {x:Operand} {k off:Nat} {e:bh} {v:AV} [ha:je P t false] (h:(bj l x,dq s k,e.cells[off]?,Nat.blt d n)=(some (.ptr k off),some e,some v,true))
 (hn:SL P E n ops Q rest (bL ((d,v)::l) ds) (bn s)):SL P E n ops Q (⟨some d,.load t x,ty,pos,af,none⟩::rest) (bL l ds) (bn s):=aB (dZ (p1 h) (p1 (p2 h)) (p1 (p2 (p2 h)))) (p2 (p2 (p2 h))) hn
theorem zA {t:TypeId} {x:Operand} {k off m:Nat} {e:bh} {cs:List AV} [ha:je P t true] [hz:nA P t m] (h:(bj l x,dq s k,Nat.ble (off+m) e.cells.length,(e.cells.drop off).take m,Nat.blt d n)=(some (.ptr k off),some e,true,cs,true))
 (hn:SL P E n ops Q rest (bL ((d,.agg cs)::l) ds) (bn s)):SL P E n ops Q (⟨some d,.load t x,ty,pos,af,none⟩::rest) (bL l ds) (bn s):=aB (lM (p1 h) (p1 (p2 h)) (p1 (p2 (p2 h))) (p1 (p2 (p2 (p2 h))))) (p2 (p2 (p2 (p2 h)))) hn
theorem zc {op:BinOp} {xt yt:TypeId} {x y:Operand} {k:IntKind} {a b:Int} {r:Bool} (h:(bj l x,bj l y,Ik op a b,Nat.blt d n)=(some (Sc (.int k a)),some (Sc (.int k b)),some r,true))
 (hn:SL P E n ops Q rest (bL ((d,Bo r)::l) ds) (bn s)):SL P E n ops Q (⟨some d,.binOp op xt x y yt,ty,pos,af,none⟩::rest) (bL l ds) (bn s):=aB (dT (p1 h) (p1 (p2 h)) (p1 (p2 (p2 h)))) (p2 (p2 (p2 h))) hn
theorem zy {c a b:Operand} {v:AV} {t:Bool} (ht:t=true) (h:(bj l c,bj l a,Nat.blt d n)=(some (Bo t),some v,true)) (hn:SL P E n ops Q rest (bL ((d,v)::l) ds) (bn s)) :
 SL P E n ops Q (⟨some d,.pick c a b,ty,pos,af,none⟩::rest) (bL l ds) (bn s):=aB (iN ht (p1 h) (p1 (p2 h))) (p2 (p2 h)) hn
theorem zw {c a b:Operand} {v:AV} {t:Bool} (ht:t=false) (h:(bj l c,bj l b,Nat.blt d n)=(some (Bo t),some v,true)) (hn:SL P E n ops Q rest (bL ((d,v)::l) ds) (bn s)) :
 SL P E n ops Q (⟨some d,.pick c a b,ty,pos,af,none⟩::rest) (bL l ds) (bn s):=aB (ja ht (p1 h) (p1 (p2 h))) (p2 (p2 h)) hn
theorem zt {c a b:Operand} {v:AV} (h:(bj l c,bj l a,Nat.blt d n)=(some (Bo true),some v,true)) (hn:SL P E n ops Q rest (bL ((d,v)::l) ds) (bn s)) :
 SL P E n ops Q (⟨some d,.pick c a b,ty,pos,af,none⟩::rest) (bL l ds) (bn s):=aB (tP (p1 h) (p1 (p2 h))) (p2 (p2 h)) hn
theorem zo {xt yt:TypeId} {x y:Operand} {a b:Int} (hg:-9223372036854775808<=a+b/\a+b<=9223372036854775807) (h:(bj l x,bj l y,Nat.blt d n)=(some (I a),some (I b),true))
 (hn:SL P E n ops Q rest (bL ((d,I (a+b))::l) ds) (bn s)):SL P E n ops Q (⟨some d,.binOp .add xt x y yt,ty,pos,af,none⟩::rest) (bL l ds) (bn s):=aB (ti (p1 h) (p1 (p2 h)) hg) (p2 (p2 h)) hn
theorem zx {x:Operand} {i:Nat} {vs:List AV} {v:AV} (h:(bj l x,vs[i]?,Nat.blt d n)=(some (.gZ vs),some v,true)) (hn:SL P E n ops Q rest (bL ((d,v)::l) ds) (bn s)) :
 SL P E n ops Q (⟨some d,.extract x i,ty,pos,af,none⟩::rest) (bL l ds) (bn s):=aB (ns (p1 h) (p1 (p2 h))) (p2 (p2 h)) hn
theorem zg {j g:Nat} {op:Op} {want b:Bool} (hb:b = !want) (h:((ops[j]?).bind (·.dst),jo l g,Nat.blt d n)=(some g,some (Bo b),true))
 (hn:SL P E n ops Q rest (bL ((d,Sc undef)::l) ds) (bn s)):SL P E n ops Q (⟨some d,op,ty,pos,af,some (j,want)⟩::rest) (bL l ds) (bn s):=J0 hb ⟨p1 h,p1 (p2 h)⟩ (p2 (p2 h)) hn
def GG (ops:Array Oper) (n:Nat):Nat->List (Nat×AV)->List Oper->Option (List (Option AV×Bool)×List (Nat×AV)×List Oper)
 | 0,l,r=>some ([],l,r)
 | k+1,l,r=>match r with
  | ⟨some d,_,_,_,_,some (j,want)⟩::r=>match (ops[j]?).bind (·.dst),Nat.blt d n with
   | some g,true=>match GG ops n k ((d,Sc undef)::l) r with
    | some (vs,x)=>some ((jo l g,want)::vs,x)
    | none=>none
   | _,_=>none
  | _=>none
theorem zH {w b:Bool}:∀ (k:Nat) {l l':List (Nat×AV)} {r r':List Oper},GG ops n k l r=some (List.replicate k (some (Bo b),w),l',r')->b = !w->SL P E n ops Q r' (bL l' ds) (bn s)->SL P E n ops Q r (bL l ds) (bn s)
 | 0,_,_,_,_,h,_,hn=>by cases h;exact hn
 | k+1,l,l',r,r',h,hb,hn=>by
  unfold GG at h;split at h
  ·split at h
   ·rename_i g hj hd;split at h
    ·rename_i vs x hx;simp only[List.replicate_succ,Option.some.injEq,Prod.mk.injEq,List.cons.injEq] at h;obtain ⟨⟨⟨h1,rfl⟩,rfl⟩,rfl⟩:=h;exact J0 hb ⟨hj,h1⟩ hd (zH k hx hb hn)
    cases h
   cases h
  cases h
theorem zG {j g:Nat} {op:Op} {v:AV} {rd:List (Nat×bh)} {want b:Bool} (hb:b=want) (h:((ops[j]?).bind (·.dst),jo l g,Nat.blt d n)=(some g,some (Bo b),true))
 (he:iy P op l ds s v rd) (hn:SL P E n ops Q rest (bL ((d,v)::l) ds) (bn s)):SL P E n ops Q (⟨some d,op,ty,pos,af,some (j,want)⟩::rest) (bL l ds) (bn s):=LF hb ⟨p1 h,p1 (p2 h)⟩ he (p2 (p2 h)) hn
theorem zu {j g:Nat} {op:Op} {want:Bool} (h:((ops[j]?).bind (·.dst),jo l g,Nat.blt d n)=(some g,some (Sc undef),true))
 (hn:SL P E n ops Q rest (bL ((d,Sc undef)::l) ds) (bn s)):SL P E n ops Q (⟨some d,op,ty,pos,af,some (j,want)⟩::rest) (bL l ds) (bn s):=Ly ⟨p1 h,p1 (p2 h)⟩ (p2 (p2 h)) hn
theorem zs {t:TypeId} {x y:Operand} {k off m:Nat} {e:bh} {v:AV} {c:List AV} [ht:nA P t m]
  (h:(bj l x,dq s k,e.wz,bj l y,v.fN,AV.kF c,c.length,Nat.ble (off+c.length) e.cells.length)=(some (.ptr k off),some e,true,some v,some c,true,m,true))
  (hn:SL P E n ops Q rest (bL l ds) (bn ((k,e.put off c)::s))):SL P E n ops Q (⟨none,.store t x y,ty,pos,af,none⟩::rest) (bL l ds) (bn s):=
 F2 ⟨p1 h,p1 (p2 h),p1 (p2 (p2 h)),p1 (p2 (p2 (p2 h))),p1 (p2 (p2 (p2 (p2 h)))),p1 (p2 (p2 (p2 (p2 (p2 h))))),p1 (p2 (p2 (p2 (p2 (p2 (p2 h)))))),p2 (p2 (p2 (p2 (p2 (p2 (p2 h))))))⟩ (λ_ q=>q▸hn)
def B8 (E:Env) (ds:List (FuncId×List AV)) (l:List (Nat×AV)) (s:List (Nat×bh)) (ks:List Nat) (f:Operand) (args:List Operand) (fid:FuncId) (argsC:List AV) (es:List bh) (first cap vs:List AV) (l':List (Nat×AV)) (d n:Nat):Prop:=
 (bj l f,qU l args,first++vs++cap,rG s ks,nodupB ks,Bp l' ds s ks ks es,u9 E ks es,Nat.blt d n)=(some (.fn fid first cap),some vs,AV.hQ.mE (nth ks) argsC,some (kr (nth ks) es),true,true,True,true)
theorem B8.ok {ks:List Nat} {f:Operand} {args:List Operand} {fid:FuncId} {argsC:List AV} {es:List bh} {first cap vs:List AV} {l':List (Nat×AV)} (h:B8 E ds l s ks f args fid argsC es first cap vs l' d n) :
  nc E ds l s ks f args fid argsC es first cap vs l':=
 ⟨p1 h,p1 (p2 h),p1 (p2 (p2 h)),p1 (p2 (p2 (p2 h))),p1 (p2 (p2 (p2 (p2 h)))),p1 (p2 (p2 (p2 (p2 (p2 h))))),of_eq_true (p1 (p2 (p2 (p2 (p2 (p2 (p2 h)))))))⟩
theorem B8.bl {ks:List Nat} {f:Operand} {args:List Operand} {fid:FuncId} {argsC:List AV} {es:List bh} {first cap vs:List AV} {l':List (Nat×AV)} (h:B8 E ds l s ks f args fid argsC es first cap vs l' d n) :
 Nat.blt d n=true:=p2 (p2 (p2 (p2 (p2 (p2 (p2 h))))))
theorem zk {X R:Type} {res:U X} {kk:X->U R} {r:U R} {V V':X->AV} {C:X->List bh} {C':X->List (Nat×bh)} {f:Operand} {args:List Operand} {ts:Array TypeId} {fid:FuncId}
  {argsC first cap vs:List AV} {es:List bh} (hp:∀ p fr σ,fr.ds=ds->r=.mw p->Q (.panic p.av) fr σ) (hr:r≠.stuck) (h:U.bind res kk=r) (ks:List Nat) (hen:Enters P fid)
  (hC:CT P fid argsC es res V C) (hk:(bj l f,qU l args,first++vs++cap,rG s ks,nodupB ks,Bp l ds s ks ks es,u9 E ks es,Nat.blt d n)=(some (.fn fid first cap),some vs,AV.hQ.mE (nth ks) argsC,some (kr (nth ks) es),true,true,True,true))
  (hx:∀ x,((C x).length,kf (below ks.length) (C x),(V x).only (below ks.length),(V x).hQ (nth ks),lX ks (kr (nth ks) (C x)))=(ks.length,true,true,V' x,C' x))
  (hret:∀ x,kk x=r->SL P E n ops Q rest (bL ((d,V' x)::l) ds) (bn (C' x++s))) :
  SL P E n ops Q (⟨some d,.call ⟨.value f,args.toArray,ts⟩,ty,pos,af,none⟩::rest) (bL l ds) (bn s):=
 oa hr h ks hen hC (B8.ok (d:=d) (n:=n) hk) (B8.bl hk) (λx=>⟨p1 (hx x),p1 (p2 (hx x)),p1 (p2 (p2 (hx x)))⟩) (λx=>⟨p1 (p2 (p2 (p2 (hx x)))),p2 (p2 (p2 (p2 (hx x))))⟩) hp hret
theorem zK {j g:Nat} {want b:Bool} {X R:Type} {res:U X} {kk:X->U R} {r:U R} {V V':X->AV} {C:X->List bh} {C':X->List (Nat×bh)} {f:Operand} {args:List Operand} {ts:Array TypeId} {fid:FuncId}
  {argsC first cap vs:List AV} {es:List bh} (hb:b=want) (hj:((ops[j]?).bind (·.dst),jo l g)=(some g,some (Bo b))) (hp:∀ p fr σ,fr.ds=ds->r=.mw p->Q (.panic p.av) fr σ) (hr:r≠.stuck) (h:U.bind res kk=r) (ks:List Nat) (hen:Enters P fid)
  (hC:CT P fid argsC es res V C) (hk:(bj l f,qU l args,first++vs++cap,rG s ks,nodupB ks,Bp l ds s ks ks es,u9 E ks es,Nat.blt d n)=(some (.fn fid first cap),some vs,AV.hQ.mE (nth ks) argsC,some (kr (nth ks) es),true,true,True,true))
  (hx:∀ x,((C x).length,kf (below ks.length) (C x),(V x).only (below ks.length),(V x).hQ (nth ks),lX ks (kr (nth ks) (C x)))=(ks.length,true,true,V' x,C' x))
  (hret:∀ x,kk x=r->SL P E n ops Q rest (bL ((d,V' x)::l) ds) (bn (C' x++s))) :
  SL P E n ops Q (⟨some d,.call ⟨.value f,args.toArray,ts⟩,ty,pos,af,some (j,want)⟩::rest) (bL l ds) (bn s):=
 F6 hb ⟨p1 hj,p2 hj⟩ hr h ks hen hC (B8.ok (d:=d) (n:=n) hk) (B8.bl hk) (λx=>⟨p1 (hx x),p1 (p2 (hx x)),p1 (p2 (p2 (hx x)))⟩) (λx=>⟨p1 (p2 (p2 (p2 (hx x)))),p2 (p2 (p2 (p2 (hx x))))⟩) hp hret
theorem zC {f:FuncId} {fn:Func} {c:Code} {args:List AV} {es:List bh} {X:Type} {res:U X} {V:X->AV} {C:X->List bh} (hf:P.funcs[f]?=some fn) (hb:(fn.body,Nat.ble args.length fn.ntmps)=(some c,true))
  (h:∀ r,(∀ p fr (σ:cl),fr.ds=[]->r=.mw p->nD P fn (pH V C (λx=>r=.ok x) (λv=>∃ p,r=.mw p/\v=p.av)) (.panic p.av) fr σ)->res=r->r≠.stuck->∀ E:Env,(∀ k,jt es k=true->E.fix k=none)->
   SW P E fn.ntmps c (nD P fn (pH V C (λx=>r=.ok x) (λv=>∃ p,r=.mw p/\v=p.av))) (bL ((List.range args.length).zip args) []) (bn (eX 0 es))):CT P f args es res V C:=
 Ix hf (p1 hb) (p2 hb) λr hr hs=>h r (λ_ _ _ hd hp=>F7 hd hp) hr hs
theorem zB {R:Type} {c:Operand} {x y:Code} {b:Bool} {u v r:U R} (hb:bj l c=some (Bo b)) (h:br b u v=r) (ht:b=true->u=r->SW P E n x Q (bL l ds) (bn s)) (hf:b=false->v=r->SW P E n y Q (bL l ds) (bn s)):SW P E n (.cond c x y) Q (bL l ds) (bn s):=
 iz hb (λq=>ht q (Ky q h)) (λq=>hf q (Kz q h))
theorem zd {R:Type} {p:Prop} [Decidable p] {x r:U R} {q:Prop} (hr:r≠.stuck) (h:gd p x=r) (k:p->x=r->q):q:=k (KA hr h).1 (KA hr h).2
theorem ze {R β:Type} {l:List β} {i:Int} {k:β->U R} {r:U R} {q:Prop} (hr:r≠.stuck) (h:el l i k=r) (c:∀ x,0<=i->i<l.length->l[i.toNat]?=some x->k x=r->q):q:=
 let ⟨x,a,b,d,e⟩:=Mt hr h;c x a b d e
theorem z1 {R:Type} {b:Bool} {u v r:U R} {q:Prop} (hb:b=true) (h:br b u v=r) (k:u=r->q):q:=k (Ky hb h)
theorem z2 {R:Type} {b:Bool} {u v r:U R} {q:Prop} (hb:b=false) (h:br b u v=r) (k:v=r->q):q:=k (Kz hb h)
theorem zb {q:Prop} (b:Bool) (h1:b=true->q) (h2:b=false->q):q:=by cases b;exact h2 rfl;exact h1 rfl
def gF (l:List (Nat×AV)):List (Nat×AV)->List (Option AV)
 | []=>[]
 | (i,_)::F=>jo l i::gF l F
def gS (s:List (Nat×bh)):List (Nat×bh)->List (Option bh)
 | []=>[]
 | (i,_)::F=>dq s i::gS s F
theorem IN {l G:List (Nat×AV)}:∀ {F:List (Nat×AV)},gF l F=gF G F->uk l G F
 | [],_=>trivial
 | (_,_)::_,h=>⟨(List.cons.inj h).1,IN (List.cons.inj h).2⟩
theorem IP {l G:List (Nat×bh)}:∀ {F:List (Nat×bh)},gS l F=gS G F->vd l G F
 | [],_=>trivial
 | (_,_)::_,h=>⟨(List.cons.inj h).1,IP (List.cons.inj h).2⟩
theorem zM {X R:Type} {x y:Code} {j:X->U R} {p:(X->U R)->U R} {r:U R} (h:jn j p=r) (F:X->List (Nat×AV)) (H:X->List (Nat×bh))
  (hy:∀ v,j v=r->SW P E n y Q (bL (F v) ds) (bn (H v)))
  (hx:∀ (j':X->U R) (K:eQ->cl->Prop),(∀ v l s,j' v=r->(gF l (F v),gS s (H v))=(gF (F v) (F v),gS (H v) (H v))->K (bL l ds) (bn s))->p j'=r->SW P E n x (s9 K Q) (bL l ds) (bn s)):SW P E n (.seq x y) Q (bL l ds) (bn s):=
 Iy F H (λv=>j v=r) hy (λK hK=>hx j K (λv l s a b=>hK v l s a (IN (p1 b)) (IP (p2 b))) h)
theorem zL {X R:Type} {c:Code} {body:(X->U R)->X->U R} {r:U R} {m:Nat} {v:X} (hr:r≠.stuck) (h0:iter body m v=r) (F:X->List (Nat×AV)) (H:X->List (Nat×bh))
  (h1:(gF l (F v),gS s (H v))=(gF (F v) (F v),gS (H v) (H v)))
  (hx:∀ (next:X->U R) (v:X) (K:eQ->cl->Prop),(∀ v l s,next v=r->(gF l (F v),gS s (H v))=(gF (F v) (F v),gS (H v) (H v))->K (bL l ds) (bn s))->body next v=r->SW P E n c (s9 K Q) (bL (F v) ds) (bn (H v))) :
  SW P E n (.loop c) Q (bL l ds) (bn s):=
 ET F H body r m v hr h0 (IN (p1 h1)) (IP (p2 h1)) (λnext v K hK h=>hx next v K (λv l s a b=>hK v l s a (IN (p1 b)) (IP (p2 b))) h)
theorem zQ {c:Code} {Q':dU} {fr:eQ} {σ:cl} (k:∀ fr σ,SW P E n c Q' fr σ->Q .normal fr σ) (h:SW P E n c Q' fr σ):SL P E n ops Q [] fr σ:=aH (k _ _ h)
def gM (s:List (Nat×bh)):Nat->List bh->List (Option bh)
 | _,[]=>[]
 | i,_::es=>dq s i::gM s (i+1) es
theorem KV {s:List (Nat×bh)}:∀ {es:List bh} {i:Nat},gM s i es=es.map some->vP s i es
 | [],_,_=>trivial
 | _::_,_,h=>⟨(List.cons.inj h).1,KV (List.cons.inj h).2⟩
theorem zX {fn:Func} {X:Type} {V:X->AV} {C:X->List bh} {r:U X} {H:AV->Prop} {vs:List AV} {x:X} (hr:C8 P (bL l []) (bn s) fn.results.toList vs) (hg:.ok x=r) (hm:(pb vs,gM s 0 (C x))=(V x,(C x).map some)) :
 nD P fn (pH V C (λx=>r=.ok x) H) .ret (bL l []) (bn s):=oN (.inl rfl) x hr hg.symm (p1 hm▸AV.le_refl _) (KV (p2 hm))
theorem Ek {fn:Func} {X:Type} {V:X->AV} {C:X->List bh} {r:U X} {H:AV->Prop} {v:AV} {x:X} {t:Nat} (h:(fn.results.toList,jo l t)=([.tmp t],some v)) (hg:.ok x=r) (hm:(v,gM s 0 (C x))=(V x,(C x).map some)) :
 nD P fn (pH V C (λx=>r=.ok x) H) .ret (bL l []) (bn s):=zX (vs:=[v]) (by rw[p1 h];exact .cons (bT (p2 h)) .nil) hg hm
theorem zY {fn:Func} {X:Type} {V:X->AV} {C:X->List bh} {r:U X} {H:AV->Prop} {vs:List AV} {x:X} (hr:C8 P (bL l []) (bn s) fn.results.toList vs) (hg:.ok x=r) (hm:(pb vs,gM s 0 (C x))=(V x,(C x).map some)) :
 nD P fn (pH V C (λx=>r=.ok x) H) .normal (bL l []) (bn s):=oN (.inr rfl) x hr hg.symm (p1 hm▸AV.le_refl _) (KV (p2 hm))
end
section
variable {P:Program} {E:Env} {n:Nat} {ops:Array Oper} {Q:dU} {B:List Rec->eQ->cl->Prop} {i:Nat} {L:List Nat} {recs:List Rec} {l:List (Nat×AV)} {ds:List (FuncId×List AV)} {s:List (Nat×bh)}
 {ty:TypeId} {pos:String} {af:Array Edge} {d:Nat}
theorem zD {op:Op} {v:AV} {rd:List (Nat×bh)} (ho:ops[i]?=some ⟨some d,op,ty,pos,af,none⟩) (h:iy P op l ds s v rd)
 (hc:(dI ⟨some d,op,ty,pos,af,none⟩,Nat.blt d n,wA ops i v rd recs)=(false,true,true))
 (hn:kZ P E n ops Q B L (⟨i,some d,rd,none⟩::recs) (bL ((d,v)::l) ds) (bn s)):kZ P E n ops Q B (i::L) recs (bL l ds) (bn s):=LB ho h ⟨p1 hc,p1 (p2 hc),p2 (p2 hc)⟩ hn
end
end Go.Abs
end
