/- PROVED: lemmas of the proof that configlanglaw26.ParserFaults returns true for every input. CONDITIONS: as each lemma states. (Put together by a program of my own out of my own texts.) -/
import Derived.Test.YtkhjeiaafiodeaaGreatDoorF5
section
namespace Go.Abs
open ay
section
variable {m:Nat→Nat}
theorem vh (hm:b1 m) {l:List Bool} {x:Bool} (hl:l.length≤70000):Ev (fun i=>iA (m i) l x) (fun _=>True) gp:=by
 unfold iA
 refine Ev.bind (Q:=fun _=>True) (R':=gp) ?_ (fun _ q=>q) fun y _=>Ev.ok trivial
 unfold lg
 refine Ev.iter hm (fun (x:Int)=>0≤x∧x≤l.length) (fun x=>(l.length - x).toNat) (by omega) ?_
 intro x hx next hn
 refine Ev.aW (fun _=>?_) (fun _=>Ev.ok trivial)
 refine Ev.el (by omega) (by omega) fun t _=>Ev.br (fun _=>Ev.ok trivial) (fun _=>Ev.gd (by (first|omega|(simp only[aD]<;>omega)|(simp[aD,aL,aN,maxLen]<;>omega))) (hn _ (by omega) (by omega)))
theorem cV (hm:b1 m) {l:List Bool} {p:ak} (hl:l.length≤70000):Ev (fun i=>aA (m i) l p) (fun _=>True) gp:=by
 unfold aA
 refine Ev.br (fun _=>Ev.ok trivial) (fun _=>Ev.bind (vh hm hl) (fun _ q=>q) fun y _=>Ev.ok trivial)
theorem vK (hm:b1 m) {l:fS}:Ev (fun i=>kx (m i) l) (fun _=>True) gp:=by
 unfold kx
 refine Ev.bind (eJ hm) (fun _ q=>q) fun y _=>Ev.br (fun _=>Ev.bind (eJ hm) (fun _ q=>q) fun y _=>Ev.br (fun _=>Ev.ok trivial) (fun _=>Ev.ok trivial)) (fun _=>Ev.ok trivial)
theorem nG (hm:b1 m) {l:List (List UInt8)} (hl:l.length≤70000) (hs:∀ x,x∈l→x.length≤65536):Ev (fun i=>fI (m i) l) (fun _=>True) gp:=by
 unfold fI gO
 refine Ev.bind (Q:=fun _=>True) (R':=gp) ?_ (fun _ q=>q) fun y _=>Ev.ok trivial
 refine Ev.bind (Q:=fun _=>True) (R':=gp) ?_ (fun _ q=>q) fun y _=>Ev.ok trivial
 unfold jb
 refine Ev.iter hm (fun (x:Int)=>0≤x∧x≤l.length) (fun x=>(l.length - x).toNat) (by omega) ?_
 intro x hx next hn
 refine Ev.aW (fun _=>?_) (fun _=>Ev.ok trivial)
 refine Ev.el (by omega) (by omega) fun t ht=>?_
 have:=hs t (List.mem_of_getElem? ht)
 refine Ev.bind (Q:=fun _=>True) (R':=gp) ?_ (fun _ q=>q) fun y _=>Ev.br (fun _=>Ev.ok trivial) (fun _=>Ev.gd (by (first|omega|(simp only[aD]<;>omega)|(simp[aD,aL,aN,maxLen]<;>omega))) (hn _ (by omega) (by omega)))
 unfold nE
 exact Ev.bind (nX (by omega)) (fun _ q=>q) fun y _=>Ev.ok trivial
theorem nZ (hm:b1 m) {a b:List UInt8} (hb:b.length≤60000):Ev (fun i=>gb (m i) a b) (fun _=>True) gp:=by
 unfold gb
 refine Ev.br (fun _=>?_) (fun _=>Ev.ok trivial)
 exact Ev.bind (uF (by simp) (by omega)) (fun _ q=>q) fun y hy=>Ev.bind (hO hm (by omega)) (fun _ q=>q) fun z _=>Ev.ok trivial
theorem wL {l:fS}:Ev (fun _=>mc l) (fun _=>True) gp:=Ev.ok trivial
theorem wM (hm:b1 m) {e:ai} {p:ak}:Ev (fun i=>fJ (m i) e p) (fun _=>True) gp:=by
 unfold fJ
 refine Ev.bind (eJ hm) (fun _ q=>q) fun y _=>Ev.bind (cV hm (by simp)) (fun _ q=>q) fun y _=>?_
 refine Ev.br (fun _=>Ev.bind wL (fun _ q=>q) fun y _=>Ev.bind (cV hm (by simp)) (fun _ q=>q) fun y _=>Ev.ok trivial) (fun _=>?_)
 refine Ev.br (fun _=>Ev.bind (cV hm (by simp)) (fun _ q=>q) fun y _=>Ev.ok trivial) (fun _=>?_)
 refine Ev.jn (fun _=>True) (fun v _=>Ev.br (fun _=>Ev.bind (cV hm (by simp)) (fun _ q=>q) fun y _=>Ev.ok trivial) (fun _=>Ev.bind (cV hm (by simp)) (fun _ q=>q) fun y _=>Ev.ok trivial)) (fun j hj=>?_)
 (repeat' (first|((with_reducible refine Ev.gd ?_ ?_);(next=>(first|omega|(simp only[aD,aL,aN,maxLen,List.length_append,List.length_cons,List.length_nil]<;>omega)|(simp[aD,aL,aN,maxLen]<;>omega))))|with_reducible refine Ev.cq ?_|with_reducible refine Ev.cr ?_|with_reducible refine Ev.aW (fun _=>?_) (fun _=>?_)|with_reducible refine Ev.bm (fun _=>?_) (fun _=>?_)|with_reducible refine Ev.bM (fun _=>?_) (fun _=>?_)|with_reducible refine Ev.bj (fun _=>?_) (fun _=>?_)|with_reducible refine Ev.br (fun _=>?_) (fun _=>?_)|((with_reducible refine Ev.el ?_ ?_ (fun _ _=>?_));(next=>(first|omega|(simp only[aD,aL,aN,maxLen,List.length_append,List.length_cons,List.length_nil]<;>omega)|(simp[aD,aL,aN,maxLen]<;>omega)));(next=>(first|omega|(simp only[aD,aL,aN,maxLen,List.length_append,List.length_cons,List.length_nil]<;>omega)|(simp[aD,aL,aN,maxLen]<;>omega))))|((with_reducible refine Ev.ka ?_);try dsimp only)))
 all_goals exact hj _ trivial
theorem Cn (hm:b1 m) {e:ai} {p:ak}:Ev (fun i=>iJ (m i) e p) (fun _=>True) gp:=by
 unfold iJ
 have M:∀ {l:List Bool},l.length≤70000→Ev (fun i=>ay.bind (aA (m i) l p) fun y=>.ok y) (fun _=>True) gp:=fun h=>Ev.bind (cV hm h) (fun _ q=>q) fun y _=>Ev.ok trivial
 refine Ev.jn (fun _=>True) (fun v _=>?_) (fun j hj=>?_)
 ·refine Ev.br (fun _=>Ev.ok trivial) (fun _=>Ev.br (fun _=>M (by simp)) (fun _=>?_))
  refine Ev.jn (fun _=>True) (fun v _=>?_) (fun j hj=>?_)
  ·refine Ev.br (fun _=>M (by simp)) (fun _=>?_)
   refine Ev.jn (fun _=>True) (fun v _=>?_) (fun j hj=>?_)
   ·refine Ev.br (fun _=>M (by simp)) (fun _=>Ev.br (fun _=>Ev.br (fun _=>M (by simp)) (fun _=>M (by simp))) (fun _=>Ev.br (fun _=>M (by simp)) (fun _=>Ev.br (fun _=>M (by simp)) (fun _=>M (by simp)))))
   ·(repeat' (first|((with_reducible refine Ev.gd ?_ ?_);(next=>(first|omega|(simp only[aD,aL,aN,maxLen,List.length_append,List.length_cons,List.length_nil]<;>omega)|(simp[aD,aL,aN,maxLen]<;>omega))))|with_reducible refine Ev.cq ?_|with_reducible refine Ev.cr ?_|with_reducible refine Ev.aW (fun _=>?_) (fun _=>?_)|with_reducible refine Ev.bm (fun _=>?_) (fun _=>?_)|with_reducible refine Ev.bM (fun _=>?_) (fun _=>?_)|with_reducible refine Ev.bj (fun _=>?_) (fun _=>?_)|with_reducible refine Ev.br (fun _=>?_) (fun _=>?_)|((with_reducible refine Ev.el ?_ ?_ (fun _ _=>?_));(next=>(first|omega|(simp only[aD,aL,aN,maxLen,List.length_append,List.length_cons,List.length_nil]<;>omega)|(simp[aD,aL,aN,maxLen]<;>omega)));(next=>(first|omega|(simp only[aD,aL,aN,maxLen,List.length_append,List.length_cons,List.length_nil]<;>omega)|(simp[aD,aL,aN,maxLen]<;>omega))))|((with_reducible refine Ev.ka ?_);try dsimp only)))
    all_goals exact hj _ trivial
  ·(repeat' (first|((with_reducible refine Ev.gd ?_ ?_);(next=>(first|omega|(simp only[aD,aL,aN,maxLen,List.length_append,List.length_cons,List.length_nil]<;>omega)|(simp[aD,aL,aN,maxLen]<;>omega))))|with_reducible refine Ev.cq ?_|with_reducible refine Ev.cr ?_|with_reducible refine Ev.aW (fun _=>?_) (fun _=>?_)|with_reducible refine Ev.bm (fun _=>?_) (fun _=>?_)|with_reducible refine Ev.bM (fun _=>?_) (fun _=>?_)|with_reducible refine Ev.bj (fun _=>?_) (fun _=>?_)|with_reducible refine Ev.br (fun _=>?_) (fun _=>?_)|((with_reducible refine Ev.el ?_ ?_ (fun _ _=>?_));(next=>(first|omega|(simp only[aD,aL,aN,maxLen,List.length_append,List.length_cons,List.length_nil]<;>omega)|(simp[aD,aL,aN,maxLen]<;>omega)));(next=>(first|omega|(simp only[aD,aL,aN,maxLen,List.length_append,List.length_cons,List.length_nil]<;>omega)|(simp[aD,aL,aN,maxLen]<;>omega))))|((with_reducible refine Ev.ka ?_);try dsimp only)))
   all_goals exact hj _ trivial
 ·(repeat' (first|((with_reducible refine Ev.gd ?_ ?_);(next=>(first|omega|(simp only[aD,aL,aN,maxLen,List.length_append,List.length_cons,List.length_nil]<;>omega)|(simp[aD,aL,aN,maxLen]<;>omega))))|with_reducible refine Ev.cq ?_|with_reducible refine Ev.cr ?_|with_reducible refine Ev.aW (fun _=>?_) (fun _=>?_)|with_reducible refine Ev.bm (fun _=>?_) (fun _=>?_)|with_reducible refine Ev.bM (fun _=>?_) (fun _=>?_)|with_reducible refine Ev.bj (fun _=>?_) (fun _=>?_)|with_reducible refine Ev.br (fun _=>?_) (fun _=>?_)|((with_reducible refine Ev.el ?_ ?_ (fun _ _=>?_));(next=>(first|omega|(simp only[aD,aL,aN,maxLen,List.length_append,List.length_cons,List.length_nil]<;>omega)|(simp[aD,aL,aN,maxLen]<;>omega)));(next=>(first|omega|(simp only[aD,aL,aN,maxLen,List.length_append,List.length_cons,List.length_nil]<;>omega)|(simp[aD,aL,aN,maxLen]<;>omega))))|((with_reducible refine Ev.ka ?_);try dsimp only)))
  all_goals exact hj _ trivial
theorem Co (hm:b1 m) {e:ai} {p:ak}:Ev (fun i=>iK (m i) e p) (fun _=>True) gp:=by
 unfold iK
 have M:∀ {l:List Bool},l.length≤70000→Ev (fun i=>ay.bind (aA (m i) l p) fun y=>.ok y) (fun _=>True) gp:=fun h=>Ev.bind (cV hm h) (fun _ q=>q) fun y _=>Ev.ok trivial
 refine Ev.jn (fun _=>True) (fun v _=>?_) (fun j hj=>?_)
 ·refine Ev.br (fun _=>Ev.ok trivial) (fun _=>?_)
  refine Ev.br (fun _=>Ev.bind (nZ hm (by simp)) (fun _ q=>q) fun y _=>M (by simp)) (fun _=>?_)
  refine Ev.br (fun _=>Ev.bind (nZ hm (by simp)) (fun _ q=>q) fun y _=>M (by simp)) (fun _=>?_)
  refine Ev.br (fun _=>Ev.bind (nZ hm (by simp)) (fun _ q=>q) fun y _=>M (by simp)) (fun _=>?_)
  refine Ev.br (fun _=>Ev.bind (nZ hm (by simp)) (fun _ q=>q) fun y _=>M (by simp)) (fun _=>?_)
  refine Ev.br (fun _=>Ev.bind (eJ hm) (fun _ q=>q) fun y _=>M (by simp)) (fun _=>M (by simp))
 ·(repeat' (first|((with_reducible refine Ev.gd ?_ ?_);(next=>(first|omega|(simp only[aD,aL,aN,maxLen,List.length_append,List.length_cons,List.length_nil]<;>omega)|(simp[aD,aL,aN,maxLen]<;>omega))))|with_reducible refine Ev.cq ?_|with_reducible refine Ev.cr ?_|with_reducible refine Ev.aW (fun _=>?_) (fun _=>?_)|with_reducible refine Ev.bm (fun _=>?_) (fun _=>?_)|with_reducible refine Ev.bM (fun _=>?_) (fun _=>?_)|with_reducible refine Ev.bj (fun _=>?_) (fun _=>?_)|with_reducible refine Ev.br (fun _=>?_) (fun _=>?_)|((with_reducible refine Ev.el ?_ ?_ (fun _ _=>?_));(next=>(first|omega|(simp only[aD,aL,aN,maxLen,List.length_append,List.length_cons,List.length_nil]<;>omega)|(simp[aD,aL,aN,maxLen]<;>omega)));(next=>(first|omega|(simp only[aD,aL,aN,maxLen,List.length_append,List.length_cons,List.length_nil]<;>omega)|(simp[aD,aL,aN,maxLen]<;>omega))))|((with_reducible refine Ev.ka ?_);try dsimp only)))
  all_goals exact hj _ trivial
theorem DE (hm:b1 m) {e:ai} (he:gQ e) {at_:aR} {p:ak}:Ev (fun i=>jq (m i) e at_ p) (fun _=>True) gp:=by
 unfold jq
 have M:∀ {l:List Bool} {p:ak},l.length≤70000→Ev (fun i=>ay.bind (aA (m i) l p) fun y=>.ok y) (fun _=>True) gp:=fun h=>Ev.bind (cV hm h) (fun _ q=>q) fun y _=>Ev.ok trivial
 have h2:=he.l2
 have h3:=he.l3
 refine Ev.jn (fun _=>True) (fun v _=>?_) (fun j hj=>?_)
 ·refine Ev.bind (Cn hm) (fun _ q=>q) fun y _=>Ev.bind (Co hm) (fun _ q=>q) fun y _=>?_
  refine Ev.jn (fun _=>True) (fun v _=>?_) (fun j hj=>Ev.br (fun _=>hj _ trivial) (fun _=>hj _ trivial))
  refine Ev.jn (fun _=>True) (fun v _=>?_) (fun j hj=>?_)
  ·refine Ev.jn (fun _=>True) (fun v _=>?_) (fun j hj=>?_)
   ·refine Ev.jn (fun _=>True) (fun v _=>?_) (fun j hj=>?_)
    ·refine Ev.jn (fun _=>True) (fun v _=>?_) (fun j hj=>?_)
     ·exact Ev.br (fun _=>Ev.br (fun _=>M (by simp)) (fun _=>M (by simp))) (fun _=>Ev.br (fun _=>M (by simp)) (fun _=>M (by simp)))
     ·exact Ev.br (fun _=>Ev.br (fun _=>Ev.bind (cV hm (by simp)) (fun _ q=>q) fun y _=>hj _ trivial) (fun _=>Ev.bind (cV hm (by simp)) (fun _ q=>q) fun y _=>hj _ trivial)) (fun _=>Ev.br (fun _=>Ev.bind (cV hm (by simp)) (fun _ q=>q) fun y _=>hj _ trivial) (fun _=>Ev.bind (cV hm (by simp)) (fun _ q=>q) fun y _=>hj _ trivial))
    ·exact Ev.br (fun _=>Ev.bind (vK hm) (fun _ q=>q) fun y _=>Ev.bind (cV hm (by simp)) (fun _ q=>q) fun y _=>hj _ trivial) (fun _=>Ev.bind wL (fun _ q=>q) fun y _=>Ev.bind (cV hm (by simp)) (fun _ q=>q) fun y _=>hj _ trivial)
   ·refine Ev.br (fun _=>Ev.bind (wM hm) (fun _ q=>q) fun y _=>Ev.ok trivial) (fun _=>?_)
    refine Ev.jn (fun _=>True) (fun v _=>?_) (fun j2 hj2=>Ev.br (fun _=>hj2 _ trivial) (fun _=>hj2 _ trivial))
    refine Ev.br (fun _=>Ev.br (fun _=>Ev.bind (cV hm (by simp)) (fun _ q=>q) fun y _=>hj _ trivial) (fun _=>Ev.bind (cV hm (by simp)) (fun _ q=>q) fun y _=>hj _ trivial)) (fun _=>?_)
    exact Ev.br (fun _=>Ev.bind nt (fun _ q=>q) fun y _=>Ev.bind (cV hm (by simp)) (fun _ q=>q) fun y _=>hj _ trivial) (fun _=>Ev.bind (cV hm (by simp)) (fun _ q=>q) fun y _=>hj _ trivial)
  ·refine Ev.br (fun _=>Ev.bind (nG hm h3 he.l4) (fun _ q=>q) fun y _=>Ev.bind (cV hm (by simp)) (fun _ q=>q) fun y _=>hj _ trivial) (fun _=>?_)
   refine Ev.gd (by (first|omega|(simp only[aD]<;>omega)|(simp[aD,aL,aN,maxLen]<;>omega))) (Ev.bind (nG hm h3 he.l4) (fun _ q=>q) fun y _=>Ev.bind (cV hm (by simp)) (fun _ q=>q) fun y _=>hj _ trivial)
 ·exact Ev.br (fun _=>Ev.bind (cV hm (by simp)) (fun _ q=>q) fun y _=>hj _ trivial) (fun _=>Ev.bind (cV hm (by simp)) (fun _ q=>q) fun y _=>hj _ trivial)
end
structure SG (N:Nat):Prop where
 e:∀ {m:Nat→Nat} {x:ai} {at_:aR} {p:ak},b1 m→gQ x→2*SizeOf.sizeOf x<N→Ev (fun i=>aP (m i) x at_ p) (fun _=>True) gp
 d:∀ {m:Nat→Nat} {x:ax} {t:Bool} {l:Int} {p:ak},b1 m→kQ x→2*SizeOf.sizeOf x<N→Ev (fun i=>dX (m i) x t l p) (fun _=>True) gp
theorem tb {N:Nat} (ih:SG N) {m:Nat→Nat} (hm:b1 m) {l:List ax} {t:Bool} {lv:Int} {p:ak} (hl:l.length≤70000) (hs:∀ x,x∈l→kQ x∧2*SizeOf.sizeOf x<N):Ev (fun i=>ck (m i) l t lv p) (fun _=>True) gp:=by
 refine Ev.grow (F:=fun n=>ck n l t lv p) hm fun m hm=>?_
 show Ev (fun i=>gC (m i) (bW (m i)) l t lv p) _ _
 unfold gC
 refine Ev.iter hm (fun (x:ak×Int)=>0≤x.2∧x.2≤l.length) (fun x=>(l.length - x.2).toNat) (by simp) ?_
 intro x hx next hn
 refine Ev.aW (fun _=>?_) (fun _=>Ev.ok trivial)
 refine Ev.el (by omega) (by omega) fun d hd=>?_
 have:=hs d (List.mem_of_getElem? hd)
 exact Ev.bind (ih.d hm this.1 this.2) (fun _ q=>q) fun y _=>Ev.gd (by (first|omega|(simp only[aD]<;>omega)|(simp[aD,aL,aN,maxLen]<;>omega))) (hn _ (by dsimp only;omega) (by dsimp only;omega))
theorem Bn:∀ N,SG N:=by
 intro N
 induction N with
 | zero=>exact ⟨fun _ _ h=>absurd h (Nat.not_lt_zero _),fun _ _ h=>absurd h (Nat.not_lt_zero _)⟩
 | succ N ih=>
  refine ⟨?_,?_⟩
  ·intro m x at_ p hm he hN
   have hls:=he.l1
   have hld:=he.l2
   refine Ev.grow (F:=fun n=>aP n x at_ p) hm fun m hm=>?_
   show Ev (fun i=>gY (m i) (bW (m i)) x at_ p) _ _
   unfold gY
   refine Ev.jn (fun _=>True) (fun v _=>?_) (fun j hj=>Ev.aW (fun _=>hj _ trivial) (fun _=>hj _ trivial))
   refine Ev.bind (DE hm he) (fun _ q=>q) fun y _=>?_
   refine Ev.iter hm (fun (w:ak×Int)=>0≤w.2∧w.2≤x.bc.length) (fun w=>(x.bc.length - w.2).toNat) (by simp) ?_
   intro w hw next hn
   refine Ev.aW (fun _=>?_) (fun _=>?_)
   ·refine Ev.jn (fun _=>True) (fun v _=>Ev.gd (by (first|omega|(simp only[aD]<;>omega)|(simp[aD,aL,aN,maxLen]<;>omega))) (hn _ (by dsimp only;omega) (by dsimp only;omega))) (fun j hj=>?_)
    refine Ev.el (by omega) (by omega) fun z hz=>?_
    have hzm:=List.mem_of_getElem? hz
    have hsz:=Be hzm
    have hE:∀ {at_:aR} {p:ak},Ev (fun i=>aP (m i) z at_ p) (fun _=>True) gp:=ih.e hm (he.s z hzm) (by omega)
    have hB:∀ {at_:aR} {p:ak},Ev (fun i=>ay.bind ((bW (m i)).aP z at_ p) fun y=>j i y) (fun _=>True) gp:=Ev.bind hE (fun _ q=>q) fun y _=>hj _ trivial
    have hG:Ev (fun i=>ay.br (x.Kind==14) (ay.br (x.jD==0) (.ok p) (.ok p)) (.ok p)) (fun _=>True) gp:=Ev.br (fun _=>Ev.br (fun _=>Ev.ok trivial) (fun _=>Ev.ok trivial)) (fun _=>Ev.ok trivial)
    refine Ev.br (fun _=>Ev.br (fun _=>Ev.br (fun _=>Ev.br (fun _=>hB) (fun _=>Ev.gd (by (first|omega|(simp only[aD]<;>omega)|(simp[aD,aL,aN,maxLen]<;>omega))) hB)) (fun _=>hB)) (fun _=>Ev.br (fun _=>Ev.br (fun _=>hB) (fun _=>Ev.gd (by (first|omega|(simp only[aD]<;>omega)|(simp[aD,aL,aN,maxLen]<;>omega))) hB)) (fun _=>hB)))
     (fun _=>Ev.br (fun _=>Ev.br (fun _=>hB) (fun _=>Ev.gd (by (first|omega|(simp only[aD]<;>omega)|(simp[aD,aL,aN,maxLen]<;>omega))) hB)) (fun _=>hB))
   ·exact Ev.bind (tb ih hm hld fun d hd=>⟨he.d d hd,by have:=Bf hd;omega⟩) (fun _ q=>q) fun y _=>Ev.ok trivial
  ·intro m x t l p hm he hN
   have hls:=he.l1
   have hlb:=he.l2
   have hlt:=he.l3
   refine Ev.grow (F:=fun n=>dX n x t l p) hm fun m hm=>?_
   show Ev (fun i=>gX (m i) (bW (m i)) x t l p) _ _
   unfold gX
   refine Ev.jn (fun _=>True) (fun v _=>?_) (fun j hj=>Ev.aW (fun _=>hj _ trivial) (fun _=>hj _ trivial))
   refine Ev.jn (fun _=>True) (fun v _=>?_) (fun j hj=>Ev.bm (fun _=>hj _ trivial) (fun _=>hj _ trivial))
   refine Ev.jn (fun _=>True) (fun v _=>?_) (fun j hj=>Ev.aW (fun _=>Ev.bind (cV hm (by simp)) (fun _ q=>q) fun y _=>hj _ trivial) (fun _=>Ev.bind (cV hm (by simp)) (fun _ q=>q) fun y _=>hj _ trivial))
   refine Ev.jn (fun _=>True) (fun v _=>?_) (fun j hj=>?_)
   ·refine Ev.jn (fun _=>True) (fun v _=>?_) (fun j hj=>?_)
    ·refine Ev.jn (fun _=>True) (fun v _=>?_) (fun j hj=>?_)
     ·refine Ev.jn (fun _=>True) (fun v _=>?_) (fun j hj=>?_)
      ·refine Ev.jn (fun _=>True) (fun v _=>?_) (fun j hj=>Ev.br (fun _=>hj _ trivial) (fun _=>Ev.br (fun _=>hj _ trivial) (fun _=>hj _ trivial)))
       refine Ev.bind (cV hm (by simp)) (fun _ q=>q) fun y _=>?_
       refine Ev.jn (fun _=>True) (fun v _=>?_) (fun j hj=>Ev.br (fun _=>hj _ trivial) (fun _=>Ev.br (fun _=>hj _ trivial) (fun _=>Ev.br (fun _=>hj _ trivial) (fun _=>hj _ trivial))))
       refine Ev.iter hm (fun (w:ak×Int)=>0≤w.2∧w.2≤x.bc.length) (fun w=>(x.bc.length - w.2).toNat) (by simp) ?_
       intro w hw next hn
       refine Ev.aW (fun _=>?_) (fun _=>?_)
       ·refine Ev.el (by omega) (by omega) fun z hz=>?_
        have hzm:=List.mem_of_getElem? hz
        have hsz:=CG hzm
        have hB:∀ {at_:aR} {p:ak},Ev (fun i=>ay.bind ((bW (m i)).aP z at_ p) fun y=>ay.gd (aD (w.2+1)) (next i (y,w.2+1))) (fun _=>True) gp:=
         Ev.bind (ih.e hm (he.s z hzm) (by omega)) (fun _ q=>q) fun y _=>Ev.gd (by (first|omega|(simp only[aD]<;>omega)|(simp[aD,aL,aN,maxLen]<;>omega))) (hn _ (by dsimp only;omega) (by dsimp only;omega))
        exact Ev.br (fun _=>Ev.br (fun _=>hB) (fun _=>hB)) (fun _=>hB)
       ·exact Ev.bind (tb ih hm hlb fun d hd=>⟨he.d d hd,by have:=DB hd;omega⟩) (fun _ q=>q) fun y _=>Ev.ok trivial
      ·exact Ev.br (fun _=>Ev.bind (vK hm) (fun _ q=>q) fun y _=>Ev.bind (cV hm (by simp)) (fun _ q=>q) fun y _=>hj _ trivial) (fun _=>Ev.bind wL (fun _ q=>q) fun y _=>Ev.bind (cV hm (by simp)) (fun _ q=>q) fun y _=>hj _ trivial)
     ·refine Ev.br (fun _=>hj _ trivial) (fun _=>Ev.br (fun _=>Ev.bind (qU hm) (fun _ q=>q) fun y _=>Ev.bind (cV hm (by simp)) (fun _ q=>q) fun y _=>hj _ trivial) (fun _=>?_))
      refine Ev.br (fun _=>Ev.bind (eJ hm) (fun _ q=>q) fun y _=>Ev.bind (cV hm (by simp)) (fun _ q=>q) fun y _=>hj _ trivial) (fun _=>?_)
      exact Ev.br (fun _=>Ev.bind (cV hm (by simp)) (fun _ q=>q) fun y _=>hj _ trivial) (fun _=>Ev.bind (cV hm (by simp)) (fun _ q=>q) fun y _=>hj _ trivial)
    ·exact Ev.br (fun _=>Ev.aW (fun _=>Ev.bind (cV hm (by simp)) (fun _ q=>q) fun y _=>hj _ trivial) (fun _=>Ev.bind (cV hm (by simp)) (fun _ q=>q) fun y _=>hj _ trivial)) (fun _=>Ev.bind (cV hm (by simp)) (fun _ q=>q) fun y _=>hj _ trivial)
   ·refine Ev.bind (nG hm he.l5 he.l6) (fun _ q=>q) fun y _=>Ev.bind (nG hm hlt he.l4) (fun _ q=>q) fun y _=>Ev.bind (nG hm (by simp) (by simpa using he.l7)) (fun _ q=>q) fun y _=>?_
    exact Ev.br (fun _=>Ev.bind (cV hm (by simp)) (fun _ q=>q) fun y _=>hj _ trivial) (fun _=>Ev.gd (by (first|omega|(simp only[aD]<;>omega)|(simp[aD,aL,aN,maxLen]<;>omega))) (Ev.bind (cV hm (by simp)) (fun _ q=>q) fun y _=>hj _ trivial))
theorem xK {p:ak}:Ev (fun _=>fO p) (fun _=>True) gp:=by
 unfold fO
 exact Ev.br (fun _=>Ev.ok trivial) (fun _=>Ev.br (fun _=>Ev.ok trivial) (fun _=>Ev.ok trivial))
theorem wN {m:Nat→Nat} (hm:b1 m) {e:ai} (he:gQ e):Ev (fun i=>ki (m i) e) (fun _=>True) gp:=by
 unfold ki
 exact Ev.bind ((Bn _).e hm he (Nat.lt_succ_self _)) (fun _ q=>q) fun y _=>Ev.bind xK (fun _ q=>q) fun y _=>Ev.ok trivial
end Go.Abs
end
section
namespace Go.Abs
open ay
section
variable {s:List UInt8} {T:List aS} {b:Int} {m:Nat→Nat} {a:Int} {k:Bool} {q:Option ai}
theorem tr (hC:PC s T b) (hm:b1 m) (h0:0≤a) (h1:a<T.length) (_:QS q) :
  Ev (fun i=>gD (m i) (dh s T a b k q)) (fun r=>∃ a',r.2=dh s T a' b k q∧a≤a'∧a'<T.length∧(r.1.length:Int)≤a' - a∧∀ x,x∈r.1→x.length≤65536) (PP (b+s.length)):=by
 unfold gD
 have hl:=hC.kL
 refine Ev.iter hm (fun (x:ag×List (List UInt8))=>∃ a',x.1=dh s T a' b k q∧a≤a'∧a'<T.length∧(x.2.length:Int)≤a' - a∧∀ z,z∈x.2→z.length≤65536) (fun x=>(T.length - x.1.at_).toNat) ⟨a,rfl,by omega,h1,by simp,by simp⟩ ?_
 rintro ⟨p,l⟩ ⟨a1,hp,h2,h3,h4,h5⟩ next hn
 dsimp only at hp h4 h5;subst hp;dsimp only at hn ⊢
 refine dI hm hC (by omega) h3 fun a2 t h6 h7 ht h8 _=>?_
 dsimp only
 refine Ev.bm (fun hk=>?_) (fun _=>Ev.ok ⟨a2,rfl,by omega,h7,by dsimp only;omega,h5⟩)
 have hnx:=hC.next (by omega) ht (by omega)
 have htt:=(hC.tok ht).2.2.2.1
 refine Ev.jn (fun v=>v=dh s T a2 b k q) (fun v hv=>?_) (fun j hj=>?_)
 ·subst hv
  refine dI hm hC (by omega) h7 fun a3 t3 h8 h9 ht3 h10 e3=>?_
  have e3:=e3 t ht (fun _=>by omega)
  subst e3
  rw[ht] at ht3;cases ht3
  dsimp only
  refine Ev.gd (by (first|omega|(simp only[aL,maxLen,List.length_cons,List.length_nil]<;>omega)|(simp[aD,aL,aN,maxLen]<;>omega))) (Ev.gd (by (first|omega|(simp only[aD]<;>omega)|(simp[aD,aL,aN,maxLen]<;>omega))) (hn _ ⟨a3+1,rfl,by omega,by omega,by simp;omega,fun z hz=>?_⟩ (by dsimp only;omega)))
  rcases List.mem_append.1 hz with w|w
  ·exact h5 z w
  ·simp at w;subst w;exact htt
 ·refine Ev.bind (pS hm hC (by omega) h7) (fun _ q=>q.elim) fun r hr=>?_
  obtain ⟨x,p⟩:=r
  dsimp only at hr;subst hr
  exact Ev.bj (fun _=>fy hm hC (by omega) h7 (by omega)) (fun _=>hj _ rfl)
theorem sC (hC:PC s T b) (hm:b1 m) (h0:0≤a) (h1:a<T.length) :
  Ev (fun i=>eR (m i) (dh s T a b k q)) (fun r=>∃ a',r=dh s T a' b k q∧a<a'∧a'<T.length) (PP (b+s.length)):=by
 unfold eR
 have hl:=hC.kL
 refine Ev.jn (fun v=>∃ a',v=dh s T a' b k q∧a≤a'∧a'+1<T.length) (fun v hv=>?_) (fun j hj=>?_)
 ·obtain ⟨a',rfl,h2,h3⟩:=hv
  exact Ev.gd (by (first|omega|(simp only[aD]<;>omega)|(simp[aD,aL,aN,maxLen]<;>omega))) (Ev.ok ⟨a'+1,rfl,by omega,by omega⟩)
 ·refine dI hm hC h0 h1 fun a2 t h6 h7 ht h8 _=>?_
  dsimp only
  refine Ev.bM (fun _=>?_) (fun hk=>hj _ ⟨a2,rfl,h6,hC.next (by omega) ht (by omega)⟩)
  refine dI hm hC (by omega) h7 fun a3 t3 h8 h9 ht3 h10 e3=>?_
  dsimp only
  exact iZ fun r hr _=>Ev.bj (fun _=>fy hm hC (by omega) h9 (by omega)) (fun hr1=>hj _ ⟨a3,rfl,by omega,hC.next (by omega) ht3 (by have:=(hr hr1).1;omega)⟩)
theorem Cp {l:List UInt8} {c:UInt8}:0≤Lib.lastIndex l [c]+1∧Lib.lastIndex l [c]+1≤l.length:=by
 unfold Lib.lastIndex
 split
 ·rename_i h
  simp at h
  rcases Lib.lastOcc_spec l [c] (l.length - [c].length+1) with ⟨h,_⟩|⟨i,h1,h2,_⟩
  ·rw[h];omega
  ·rw[h2];simp at h1;omega
 ·omega
theorem xL (hC:PC s T b) (hm:b1 m) (h0:0≤a) (h1:a<T.length) {t:aS} (ht:T[a.toNat]?=some t) (hk:t.Kind=1) :
  Ev (fun i=>ew (m i) (dh s T a b k q)) (fun r=>∃ a',r.2=dh s T a' b k q∧a<a'∧a'<T.length) (PP (b+s.length)):=by
 unfold ew
 have hl:=hC.kL
 have hnx:=hC.next h0 ht (by omega)
 refine kp hm hC h0 h1 fun a2 t2 v h2 h3 _ e2 _ _ _=>?_
 have e2:=e2 t ht (fun _=>by omega)
 subst e2
 dsimp only
 refine Ev.gd (by (first|omega|(simp only[aD]<;>omega)|(simp[aD,aL,aN,maxLen]<;>omega))) ?_
 refine Ev.jn (fun v=>∃ a',v.1=dh s T a' b k q∧a2<a'∧a'<T.length) (fun v hv=>?_) (fun j hj=>?_)
 ·obtain ⟨p,x⟩:=v
  obtain ⟨a3,hp,h4,h5⟩:=hv
  dsimp only at hp;subst hp;dsimp only
  refine dI hm hC (by omega) h5 fun a4 t4 h6 h7 ht4 h8 _=>?_
  dsimp only
  refine Ev.jn (fun v=>v=dh s T a4 b k q∧t4.Kind=3) (fun v hv=>?_) (fun j hj=>?_)
  ·obtain ⟨rfl,hk4⟩:=hv
   have hnx4:=hC.next (by omega) ht4 (by omega)
   have htt:=(hC.tok ht4).2.2.2.1
   refine Ev.jn (fun v=>v.1=dh s T a4 b k q) (fun v hv=>?_) (fun j hj=>?_)
   ·obtain ⟨p,x⟩:=v
    dsimp only at hv;subst hv;dsimp only
    refine Ev.gd (by (first|omega|(simp only[aD]<;>omega)|(simp[aD,aL,aN,maxLen]<;>omega))) (Ev.bind (sC hC hm (by omega) hnx4) (fun _ q=>q) fun r hr=>?_)
    obtain ⟨a5,rfl,h9,h10⟩:=hr
    exact Ev.ok ⟨a5,rfl,by omega,h10⟩
   ·refine Ev.bm (fun _=>?_) (fun _=>hj _ rfl)
    refine Ev.vF (Q:=fun (r:Int)=>0≤r+1∧r+1≤t4.Text.length) ?_ fun r hr=>?_
    ·unfold strings_LastIndex
     exact Ev.gd (by omega) (Ev.ok Cp)
    ·refine Ev.gd (by (first|omega|(simp only[aD]<;>omega)|(simp[aD,aL,aN,maxLen]<;>omega))) (Ev.gd hr (Ev.bind (eJ hm) (fun _ q=>q.elim) fun y _=>?_))
     exact Ev.bj (fun _=>fy hm hC (by omega) h7 (by omega)) (fun _=>hj _ rfl)
  ·exact Ev.bM (fun _=>fy hm hC (by omega) h7 (by omega)) (fun hk=>hj _ ⟨rfl,hk⟩)
 ·refine dI hm hC (by omega) hnx fun a4 t4 h6 h7 ht4 h8 _=>?_
  dsimp only
  refine Ev.bm (fun _=>?_) (fun _=>hj _ ⟨a4,rfl,by omega,h7⟩)
  refine rp hm hC (by omega) h7 (by omega) fun a5 x h9 h10=>?_
  exact hj _ ⟨a5,rfl,by omega,h10⟩
structure Ej (f:eI):Prop where
 im:f.cB.length≤70000
 dl:f.Decls.length≤70000
 ds:∀ d,d∈f.Decls→kQ d
 tl:f.b3.length≤70000
 ts:∀ x,x∈f.b3→x.length≤65536
theorem Cq (hC:PC s T b) (hX:sa s b) (hm:b1 m) (h0:0≤a) (h1:a<T.length) (hq:QS q) :
  Ev (fun i=>jr (m i) (dh s T a b k q)) (fun r=>Ej r.1) (PP (b+s.length)):=by
 unfold jr
 have hl:=hC.kL
 refine Ev.bind (tr hC hm h0 h1 hq) (fun _ q=>q) fun r hr=>?_
 obtain ⟨lead,p⟩:=r
 obtain ⟨a1,hp,h2,h3,h4,h5⟩:=hr
 dsimp only at hp h4 h5;subst hp;dsimp only
 refine Ev.jn (fun v=>∃ a',v.1=dh s T a' b k q∧a≤a'∧a'<T.length∧(v.2.2.length:Int)≤a' - a∧∀ x,x∈v.2.2→x.length≤65536) (fun v hv=>?_) (fun j hj=>?_)
 ·obtain ⟨p,f,lead⟩:=v
  obtain ⟨a2,hp,h6,h7,h8,h9⟩:=hv
  dsimp only at hp h8 h9;subst hp;dsimp only
  refine Ev.jn (fun v=>∃ a',v.1=dh s T a' b k q∧a2≤a'∧a'<T.length∧v.2.cB.length≤70000) (fun v hv=>?_) (fun j hj=>?_)
  ·obtain ⟨p,f⟩:=v
   obtain ⟨a3,hp,h10,h11,h12⟩:=hv
   dsimp only at hp h12;subst hp;dsimp only
   refine Ev.bind (xJ hC hm (by omega) h11 hq (by omega) h9 fun hm2 ha h2 hq2 ht hk hk7=>(ya hC hX _).decl hm2 (by omega) h2 hq2 ht hk hk7 (Nat.lt_succ_self _)) (fun _ q=>q) fun r hr=>?_
   obtain ⟨ds,tl,p⟩:=r
   obtain ⟨⟨a4,q4,hp,h13,h14,hq4⟩,g1,g2,g3,g4⟩:=hr
   dsimp only at hp g1 g2 g3 g4;subst hp;dsimp only
   refine dI hm hC (by omega) (by omega) fun a5 t h15 h16 _ _ _=>?_
   dsimp only
   exact Ev.bM (fun _=>fy hm hC (by omega) h16 (by omega)) (fun _=>Ev.ok ⟨h12,g1,g2,g3,g4⟩)
  ·refine Ev.iter hm (fun (x:ag×eI)=>∃ a',x.1=dh s T a' b k q∧a2≤a'∧a'<T.length∧(x.2.cB.length:Int)≤a') (fun x=>(T.length - x.1.at_).toNat) ⟨a2,rfl,by omega,h7,by simp;omega⟩ ?_
   rintro ⟨p,f⟩ ⟨a3,hp,h10,h11,h12⟩ next hn
   dsimp only at hp h12;subst hp;dsimp only at hn ⊢
   refine dI hm hC (by omega) h11 fun a4 t h13 h14 ht _ _=>?_
   dsimp only
   have hI:∀ {K:Nat→bJ×ag→ay (eI×ag)},t.Kind=1→(∀ a' x,a4<a'→a'<T.length→Ev (fun i=>K i (x,dh s T a' b k q)) (fun r=>Ej r.1) (PP (b+s.length)))→Ev (fun i=>ay.bind (ew (m i) (dh s T a4 b k q)) (K i)) (fun r=>Ej r.1) (PP (b+s.length)):=by
    intro K hk hK
    refine Ev.bind (xL hC hm (by omega) h14 ht hk) (fun _ q=>q) fun r hr=>?_
    obtain ⟨x,p⟩:=r
    obtain ⟨a5,hp,h15,h16⟩:=hr
    dsimp only at hp;subst hp
    exact hK a5 x h15 h16
   refine mU fun r hr _=>Ev.br (fun hr1=>?_) (fun _=>hj _ ⟨a4,rfl,by omega,h14,by dsimp only;omega⟩)
   have hk:=(hr hr1).1
   refine Ev.bm (fun h0=>?_) (fun h0=>?_)
   ·refine hI hk fun a5 x h15 h16=>?_
    dsimp only
    exact Ev.gd (by (first|omega|(simp only[aL,maxLen,List.length_cons,List.length_nil]<;>omega)|(simp[aD,aL,aN,maxLen]<;>omega))) (hn _ ⟨a5,rfl,by omega,h16,by simp;omega⟩ (by dsimp only;omega))
   ·refine Ev.gd (by (first|omega|(simp only[aD]<;>omega)|(simp[aD,aL,aN,maxLen]<;>omega))) (Ev.el (by omega) (by omega) fun u _=>Ev.bM (fun _=>?_) (fun _=>hj _ ⟨a4,rfl,by omega,h14,by dsimp only;omega⟩))
    refine hI hk fun a5 x h15 h16=>?_
    dsimp only
    exact Ev.gd (by (first|omega|(simp only[aL,maxLen,List.length_cons,List.length_nil]<;>omega)|(simp[aD,aL,aN,maxLen]<;>omega))) (hn _ ⟨a5,rfl,by omega,h16,by simp;omega⟩ (by dsimp only;omega))
 ·refine dI hm hC (by omega) h3 fun a4 t h13 h14 ht _ _=>?_
  dsimp only
  refine mU fun r hr _=>Ev.br (fun hr1=>?_) (fun _=>hj _ ⟨a4,rfl,by omega,h14,by dsimp only;omega,h5⟩)
  have hk:=(hr hr1).1
  have hnx:=hC.next (by omega) ht (by omega)
  refine Ev.gd (by (first|omega|(simp only[aD]<;>omega)|(simp[aD,aL,aN,maxLen]<;>omega))) (rp hm hC (by omega) hnx (by omega) fun a5 x h15 h16=>?_)
  dsimp only
  refine Ev.bind (sC hC hm (by omega) h16) (fun _ q=>q) fun r hr=>?_
  obtain ⟨a6,rfl,h17,h18⟩:=hr
  refine Ev.bind (tr hC hm (by omega) h18 hq) (fun _ q=>q) fun r hr=>?_
  obtain ⟨l2,p⟩:=r
  obtain ⟨a7,hp,h19,h20,h21,h22⟩:=hr
  dsimp only at hp h21 h22;subst hp;dsimp only
  refine Ev.gd (by (first|omega|(simp only[aL,maxLen]<;>omega)|(simp[aD,aL,aN,maxLen]<;>omega))) (hj _ ⟨a7,rfl,by omega,h20,by simp;omega,fun z hz=>?_⟩)
  rcases List.mem_append.1 hz with w|w
  ·exact h5 z w
  ·exact h22 z w
end
theorem Bp {m:Nat→Nat} (hm:b1 m) {f:eI} (hf:Ej f):Ev (fun i=>mW (m i) f) (fun _=>True) gp:=by
 unfold mW
 have hi:=hf.im
 refine Ev.jn (fun _=>True) (fun v _=>?_) (fun j hj=>?_)
 ·refine Ev.iter hm (fun (x:ak×Int)=>0≤x.2∧x.2≤f.cB.length) (fun x=>(f.cB.length - x.2).toNat) (by simp) ?_
  intro x hx next hn
  refine Ev.aW (fun _=>?_) (fun _=>?_)
  ·refine Ev.el (by omega) (by omega) fun d hd=>Ev.bind (eJ hm) (fun _ q=>q) fun y _=>Ev.bind (cV hm (by simp)) (fun _ q=>q) fun y _=>Ev.gd (by (first|omega|(simp only[aD]<;>omega)|(simp[aD,aL,aN,maxLen]<;>omega))) (hn _ (by dsimp only;omega) (by dsimp only;omega))
  ·exact Ev.bind (tb (Bn (2*SizeOf.sizeOf f.Decls+1)) hm hf.dl fun d hd=>⟨hf.ds d hd,by have:=List.sizeOf_lt_of_mem hd;omega⟩) (fun _ q=>q) fun y _=>Ev.bind xK (fun _ q=>q) fun y _=>Ev.ok trivial
 ·refine Ev.br (fun _=>?_) (fun _=>?_)
  ·exact Ev.bind (nG hm hf.tl hf.ts) (fun _ q=>q) fun y _=>Ev.bind (cV hm (by simp)) (fun _ q=>q) fun y _=>hj _ trivial
  ·exact Ev.bind (eJ hm) (fun _ q=>q) fun y _=>Ev.bind (nG hm hf.tl hf.ts) (fun _ q=>q) fun y _=>Ev.bind (cV hm (by simp)) (fun _ q=>q) fun y _=>hj _ trivial
def Bq:eI:=eI.mk [] [] [] []
def tc:ai:=ai.mk 0 [] 0 [] [] [] [] [] 0
theorem uO {m:Nat→Nat} (hm:b1 m) {s:List UInt8}:Ev (fun i=>jg (m i) s) (fun r=>0≤r.2.At∧r.2.At≤s.length∧(r.2.Errno=0→r.2.At=0∧Ej r.1)∧(r.2.Errno≠0→r.1=Bq)) gp:=by
 unfold jg
 refine Ev.bind (oj hm) (fun _ q=>q) fun y hy=>?_
 refine Ev.bM (fun he=>Ev.ok ⟨hy.1,hy.2.1,fun h=>absurd h he,fun _=>rfl⟩) (fun he=>?_)
 have hT:=(hy.2.2 he).2
 have hC:PC s y.1 0:=⟨hT,by simp,by have:=hT.EN;omega⟩
 have hX:sa s 0:=uN hC.bs
 have hp:=hC.pos
 refine Ev.yQ (R':=PP (0+s.length)) ?_ ?_
 ·refine Ev.bind (Cq hC hX hm (Int.le_refl _) (by omega) .none) (fun _ q=>q) fun r hr=>?_
  refine Ev.bind (Bp hm hr) (fun _ q=>q.elim) fun z _=>?_
  refine Ev.br (fun _=>Ev.ok ⟨by simp,by simp,by simp,fun _=>rfl⟩) (fun _=>Ev.ok ⟨by simp,by simp,fun _=>⟨rfl,hr⟩,by simp⟩)
 ·rintro p ⟨v,rfl,h1,h2⟩
  refine Ev.ss ?_
  unfold lh iC
  exact Ev.ok ⟨h1,by simp;omega,by simp,fun _=>rfl⟩
theorem uP {m:Nat→Nat} (hm:b1 m) {s:List UInt8}:Ev (fun i=>me (m i) s) (fun r=>0≤r.2.At∧r.2.At≤s.length∧(r.2.Errno=0→r.2.At=0∧gQ r.1)∧(r.2.Errno≠0→r.1=tc)) gp:=by
 unfold me
 refine Ev.bind (oj hm) (fun _ q=>q) fun y hy=>?_
 refine Ev.bM (fun he=>Ev.ok ⟨hy.1,hy.2.1,fun h=>absurd h he,fun _=>rfl⟩) (fun he=>?_)
 have hT:=(hy.2.2 he).2
 have hC:PC s y.1 0:=⟨hT,by simp,by have:=hT.EN;omega⟩
 have hX:sa s 0:=uN hC.bs
 have hp:=hC.pos
 have hl:=hC.kL
 refine Ev.yQ (R':=PP (0+s.length)) ?_ ?_
 ·refine ey (s:=s) (T:=y.1) (b:=0) (k:=false) (a:=0) (d:=0) (P:=gQ) ((ya hC hX _).expr hm (Int.le_refl _) (by omega) .none (Nat.lt_succ_self _)) fun e a2 q2 h2 h3 hq2 he=>?_
  dsimp only
  refine Ev.jn (fun v=>∃ a',v=dh s y.1 a' 0 false q2∧0≤a'∧a'<y.1.length) (fun v hv=>?_) (fun j hj=>?_)
  ·obtain ⟨a3,rfl,h4,h5⟩:=hv
   refine Ev.jn (fun _=>True) (fun v _=>?_) (fun j hj=>?_)
   ·refine Ev.bind (wN hm he) (fun _ q=>q.elim) fun z _=>?_
    refine Ev.br (fun _=>Ev.ok ⟨by simp,by simp,by simp,fun _=>rfl⟩) (fun _=>Ev.ok ⟨by simp,by simp,fun _=>⟨rfl,he⟩,by simp⟩)
   ·refine dI hm hC h4 h5 fun a4 t h6 h7 _ _ _=>?_
    dsimp only
    exact Ev.bM (fun _=>fy hm hC (by omega) h7 (by omega)) (fun _=>hj _ trivial)
  ·refine dI hm hC (by omega) (by omega) fun a4 t h6 h7 ht _ _=>?_
   dsimp only
   refine Ev.bm (fun hk=>?_) (fun _=>hj _ ⟨a4,rfl,by omega,h7⟩)
   have hnx:=hC.next (by omega) ht (by omega)
   exact Ev.gd (by (first|omega|(simp only[aD]<;>omega)|(simp[aD,aL,aN,maxLen]<;>omega))) (hj _ ⟨a4+1,rfl,by omega,hnx⟩)
 ·rintro p ⟨v,rfl,h1,h2⟩
  refine Ev.ss ?_
  unfold k2 iC
  exact Ev.ok ⟨h1,by simp;omega,by simp,fun _=>rfl⟩
end Go.Abs
end
section
namespace Go.Abs
open Go.Proofs ay
structure eS where
 cX:(List ax)→(List ax)→ay (Bool)
 dA:ai→ai→ay (Bool)
def js (n:Nat) (T:eS) (p0:(List ax)) (p1:(List ax)):ay (Bool):=
 br ((List.length p0:Int) !=(List.length p1:Int)) (.ok (false)) (iter (fun next9 (v8:Int)=>br (decide (v8<(List.length p0:Int))) (el p0 v8 fun sb=>el p1 v8 fun x21=>br (sb.Kind !=x21.Kind) (.ok (false)) (br (sb.cj !=x21.cj) (.ok (false)) (br (sb.Label !=x21.Label) (.ok (false)) (br (!((sb.bk==x21.bk)&&(sb.bt==x21.bt))) (.ok (false)) (br (sb.Trail !=x21.Trail) (.ok (false)) (br ((List.length sb.bc:Int) !=(List.length x21.bc:Int)) (.ok (false)) (ay.bind (gg n sb.jG x21.jG) fun y41=>br (!y41) (.ok (false)) (ay.bind (gg n sb.b3 x21.b3) fun y44=>br (!y44) (.ok (false)) (ay.bind (T.cX sb.Body x21.Body) fun y47=>br (!y47) (.ok (false)) (iter (fun next52 (v51:Int)=>br (decide (v51<(List.length sb.bc:Int))) (el sb.bc v51 fun x60=>el x21.bc v51 fun x64=>ay.bind (T.dA x60 x64) fun y68=>br (!y68) (.ok (false)) (gd (aD (v51+1)) (next52 (v51+1)))) (gd (aD (v8+1)) (next9 (v8+1)))) n (0))))))))))) (.ok (true))) n (0))
def jN (n:Nat) (T:eS) (p0:ai) (p1:ai):ay (Bool):=
 br (p0.Kind !=p1.Kind) (.ok (false)) (br (p0.Text !=p1.Text) (.ok (false)) (br (p0.jD !=p1.jD) (.ok (false)) (br (!((p0.bk==p1.bk)&&(p0.bt==p1.bt))) (.ok (false)) (br ((List.length p0.bc:Int) !=(List.length p1.bc:Int)) (.ok (false)) (ay.bind (gg n p0.b3 p1.b3) fun y14=>br (!y14) (.ok (false)) (iter (fun next20 (v19:Int)=>br (decide (v19<(List.length p0.bc:Int))) (el p0.bc v19 fun x28=>el p1.bc v19 fun x32=>ay.bind (T.dA x28 x32) fun y36=>br (!y36) (.ok (false)) (gd (aD (v19+1)) (next20 (v19+1)))) (ay.bind (T.cX p0.Decls p1.Decls) fun y41=>.ok (y41))) n (0)))))))
def ea:Nat→eS
 | 0=>⟨fun _ _=>.stuck,fun _ _=>.stuck⟩
 | n+1=>⟨js n (ea n),jN n (ea n)⟩
def cX (n:Nat) (p0:(List ax)) (p1:(List ax)):ay (Bool):=(ea n).cX p0 p1
def dA (n:Nat) (p0:ai) (p1:ai):ay (Bool):=(ea n).dA p0 p1
structure jt (T:eS):Prop where
 cX:∀ (p0:(List ax)) (p1:(List ax)),CT Tryz.prog 52 [.pv (.sl (List.length p0) (ax.Cs p0)),.pv (.sl (List.length p1) (ax.Cs p1))] [] (T.cX p0 p1) (fun x=>Bo x) (fun _=>[])
 dA:∀ (p0:ai) (p1:ai),CT Tryz.prog 23 [.agg (aV p0),.agg (aV p1)] [] (T.dA p0 p1) (fun x=>Bo x) (fun _=>[])
theorem rA (n:Nat) (T:eS) (hT:jt T) (p0:(List ax)) (p1:(List ax)):CT Tryz.prog 52 [.pv (.sl (List.length p0) (ax.Cs p0)),.pv (.sl (List.length p1) (ax.Cs p1))] [] (js n T p0 p1) (fun x=>Bo x) (fun _=>[]):=by
 refine zC Tryz.func52 rfl fun r hp h hr E hE=>ab fun _ hK1=>aa (za rfl (zQ hK1 (ab fun _ hK2=>ab fun _ hK3=>aa (zm rfl (al (bQ rfl) rfl (zm rfl (al (bQ rfl) rfl (zc rfl (zQ hK3 (zB rfl h (fun _ h=>?_) fun _ h=>?_))))))))))
 · exact ab fun _ hK5=>aa (za rfl (zQ hK5 (ar (zX (.cons (aw rfl) .nil) h rfl))))
 · refine an (hK2 _ _ (ab fun _ hK6=>ab fun _ hK7=>aa (zm rfl (al (bQ rfl) rfl (zm rfl (zQ hK7 (aB (zL hr h (fun (v8:Int)=>[(0,.pv (.sl (List.length p0) (ax.Cs p0))),(1,.pv (.sl (List.length p1) (ax.Cs p1))),(15,I (List.length p0:Int)),(16,I v8)]) (fun (v8:Int)=>[]) rfl fun _ v8 _ hK10 h=>ab fun _ hK11=>aa (zc rfl (zQ hK11 (ab fun _ hK12=>zB rfl h (fun _ h=>?_) fun _ h=>?_)))))))))))
   · refine an (hK12 _ _ (ab fun _ hK14=>aB (ab fun _ hK15=>aa (zm rfl (za rfl (zQ hK15 (ab fun _ hK16=>bo [0,1,2,3,4,5,6,7,8,9,10,11] rfl (by kernel_rfl) (zD rfl (aq rfl) rfl (zD rfl (aq rfl) rfl (ze hr h fun sb h18 h19 h20 h=>zD rfl (eE ax.bb ax.bE h18 h19 h20 rfl rfl rfl) rfl (zD rfl (fi rfl rfl) rfl ?_)))))))))))
     refine zD rfl (aq rfl) rfl (zD rfl (aq rfl) rfl (ze hr h fun x21 h22 h23 h24 h=>zD rfl (eE ax.bb ax.bE h22 h23 h24 rfl rfl rfl) rfl (zD rfl (fi rfl rfl) rfl ?_)))
     refine sv rfl (bF rfl) 106 (hE _ rfl) ⟨rfl,rfl,rfl,rfl,rfl⟩ ⟨rfl,rfl,rfl,rfl⟩ ?_
     refine sv rfl (bF rfl) 107 (hE _ rfl) ⟨rfl,rfl,rfl,rfl,rfl⟩ ⟨rfl,rfl,rfl,rfl⟩ ?_
     refine rh rfl ⟨rfl,rfl,rfl,rfl,rfl,rfl,rfl,rfl⟩ rfl (fun e10 he=>⟨aJ rfl,?_⟩)
     subst he
     refine rh rfl ⟨rfl,rfl,rfl,rfl,rfl,rfl,rfl,rfl⟩ rfl (fun e11 he=>⟨aJ rfl,?_⟩)
     subst he
     refine b4 (hK16 _ _ (ab fun _ hK25=>ab fun _ hK26=>aa (zf rfl (zl rfl (zf rfl (zl rfl (zc rfl (zm rfl (zb (sb.Kind !=x21.Kind) (fun hb27=>?_) fun hb27=>?_)))))))))
     · refine z1 hb27 h fun h=>zg hb27 rfl (zg hb27 rfl (zg hb27 rfl (zg hb27 rfl (zg hb27 rfl (zy hb27 rfl (zm rfl (zg rfl rfl (zg rfl rfl (zg rfl rfl (zg rfl rfl (zg rfl rfl (zt rfl (zm rfl (zg rfl rfl (zg rfl rfl (zg rfl rfl (zg rfl rfl (zg rfl rfl (zt rfl (zm rfl (zg rfl rfl (zg rfl rfl (zg rfl rfl ?_)))))))))))))))))))))))
       refine zg rfl rfl (zg rfl rfl (zt rfl (zm rfl (zg rfl rfl (zg rfl rfl (zg rfl rfl (zg rfl rfl (zg rfl rfl (zg rfl rfl (zg rfl rfl (zt rfl (zQ hK26 (cg rfl (fun hc=>?_) (fun hc=>?_))))))))))))))
       · exact ab fun _ hK28=>aa (za rfl (zQ hK28 (ar (zX (.cons (aw rfl) .nil) h rfl))))
       · exact absurd (hc) (by simp)
     · refine z2 hb27 h fun h=>zG hb27 rfl (bn rfl) (zG hb27 rfl (aX rfl rfl rfl) (zG hb27 rfl (bn rfl) (zG hb27 rfl (aX rfl rfl rfl) (zG hb27 rfl (bf rfl rfl rfl) (zw hb27 rfl (zm rfl (zb (sb.cj !=x21.cj) (fun hb29=>?_) fun hb29=>?_)))))))
       · refine z1 hb29 h fun h=>zg hb29 rfl (zg hb29 rfl (zg hb29 rfl (zg hb29 rfl (zg hb29 rfl (zy hb29 rfl (zm rfl (zg rfl rfl (zg rfl rfl (zg rfl rfl (zg rfl rfl (zg rfl rfl (zt rfl (zm rfl (zg rfl rfl (zg rfl rfl (zg rfl rfl (zg rfl rfl (zg rfl rfl (zt rfl (zm rfl (zg rfl rfl (zg rfl rfl (zg rfl rfl ?_)))))))))))))))))))))))
         refine zg rfl rfl (zg rfl rfl (zg rfl rfl (zg rfl rfl (zt rfl (zQ hK26 (cg rfl (fun hc=>?_) (fun hc=>?_)))))))
         · exact ab fun _ hK30=>aa (za rfl (zQ hK30 (ar (zX (.cons (aw rfl) .nil) h rfl))))
         · exact absurd (hc) (by simp)
       · refine z2 hb29 h fun h=>zG hb29 rfl (bn rfl) (zG hb29 rfl (aX rfl rfl rfl) (zG hb29 rfl (bn rfl) (zG hb29 rfl (aX rfl rfl rfl) (zG hb29 rfl (qy rfl rfl) (zw hb29 rfl (zm rfl (zb (sb.Label !=x21.Label) (fun hb31=>?_) fun hb31=>?_)))))))
         · refine z1 hb31 h fun h=>zg hb31 rfl (zg hb31 rfl (zg hb31 rfl (zg hb31 rfl (zg hb31 rfl (zy hb31 rfl (zm rfl (zg rfl rfl (zg rfl rfl (zg rfl rfl (zg rfl rfl (zg rfl rfl (zt rfl (zm rfl (zg rfl rfl (zg rfl rfl (zg rfl rfl (zg rfl rfl (zg rfl rfl (zg rfl rfl (zg rfl rfl (zt rfl (zQ hK26 (cg rfl (fun hc=>?_) (fun hc=>?_))))))))))))))))))))))))
           · exact ab fun _ hK32=>aa (za rfl (zQ hK32 (ar (zX (.cons (aw rfl) .nil) h rfl))))
           · exact absurd (hc) (by simp)
         · refine z2 hb31 h fun h=>zG hb31 rfl (bn rfl) (zG hb31 rfl (hY rfl rfl rfl rfl) ?_)
           refine zG hb31 rfl (bn rfl) (zG hb31 rfl (hY rfl rfl rfl rfl) ?_)
           refine zG hb31 rfl (Bb rfl rfl) (zw hb31 rfl (zm rfl (zb (!((sb.bk==x21.bk)&&(sb.bt==x21.bt))) (fun hb33=>?_) fun hb33=>?_)))
           · refine z1 hb33 h fun h=>zg hb33 rfl (zg hb33 rfl (zg hb33 rfl (zg hb33 rfl (zg hb33 rfl (zy hb33 rfl (zm rfl (zg rfl rfl (zg rfl rfl (zg rfl rfl (zg rfl rfl (zg rfl rfl (zg rfl rfl (zg rfl rfl (zt rfl (zQ hK26 (cg rfl (fun hc=>?_) (fun hc=>?_)))))))))))))))))
             · exact ab fun _ hK34=>aa (za rfl (zQ hK34 (ar (zX (.cons (aw rfl) .nil) h rfl))))
             · exact absurd (hc) (by simp)
           · refine z2 hb33 h fun h=>zG hb33 rfl (bn rfl) (zG hb33 rfl (aX rfl rfl rfl) (zG hb33 rfl (bn rfl) (zG hb33 rfl (aX rfl rfl rfl) (zG hb33 rfl (qy rfl rfl) (zw hb33 rfl (zm rfl (zb (sb.Trail !=x21.Trail) (fun hb35=>?_) fun hb35=>?_)))))))
             · refine z1 hb35 h fun h=>zg hb35 rfl (zg hb35 rfl (zg hb35 rfl (zg hb35 rfl (zg hb35 rfl (zg hb35 rfl (zg hb35 rfl (zy hb35 rfl (zQ hK26 (cg rfl (fun hc=>?_) (fun hc=>?_))))))))))
               · exact ab fun _ hK36=>aa (za rfl (zQ hK36 (ar (zX (.cons (aw rfl) .nil) h rfl))))
               · exact absurd (hc) (by simp)
             · refine z2 hb35 h fun h=>zG hb35 rfl (bn rfl) (zG hb35 rfl (aX rfl rfl rfl) (zG hb35 rfl (bQ rfl) (zG hb35 rfl (bn rfl) (zG hb35 rfl (aX rfl rfl rfl) (zG hb35 rfl (bQ rfl) (zG hb35 rfl (bf rfl rfl rfl) (zw hb35 rfl (zQ hK26 (zB rfl h (fun _ h=>?_) fun _ h=>?_)))))))))
               · exact ab fun _ hK38=>aa (za rfl (zQ hK38 (ar (zX (.cons (aw rfl) .nil) h rfl))))
               · refine an (hK25 _ _ (ab fun _ hK39=>ab fun _ hK40=>aa (zf rfl (zl rfl (zf rfl (zl rfl (zk hp hr h [] Tryz.call51 (jM n sb.jG x21.jG) rfl (fun _=>rfl) fun y41 h=>al (du rfl) rfl (zm rfl (zb (!y41) (fun hb42=>?_) fun hb42=>?_)))))))))
                 · refine z1 hb42 h fun h=>zg hb42 rfl (zg hb42 rfl (zg hb42 rfl (zg hb42 rfl (zg hb42 rfl (zg hb42 rfl (zy hb42 rfl (zm rfl (zg rfl rfl (zg rfl rfl (zg rfl rfl (zg rfl rfl (zg rfl rfl (zg rfl rfl (zt rfl (zQ hK40 (cg rfl (fun hc=>?_) (fun hc=>?_)))))))))))))))))
                   · exact ab fun _ hK43=>aa (za rfl (zQ hK43 (ar (zX (.cons (aw rfl) .nil) h rfl))))
                   · exact absurd (hc) (by simp)
                 · refine z2 hb42 h fun h=>zG hb42 rfl (bn rfl) (zG hb42 rfl (aX rfl rfl rfl) (zG hb42 rfl (bn rfl) (zG hb42 rfl (aX rfl rfl rfl) (zK hb42 rfl hp hr h [] Tryz.call51 (jM n sb.b3 x21.b3) rfl (fun _=>rfl) fun y44 h=>zG hb42 rfl (du rfl) (zw hb42 rfl (zm rfl (zb (!y44) (fun hb45=>?_) fun hb45=>?_)))))))
                   · refine z1 hb45 h fun h=>zg hb45 rfl (zg hb45 rfl (zg hb45 rfl (zg hb45 rfl (zg hb45 rfl (zg hb45 rfl (zy hb45 rfl (zQ hK40 (cg rfl (fun hc=>?_) (fun hc=>?_)))))))))
                     · exact ab fun _ hK46=>aa (za rfl (zQ hK46 (ar (zX (.cons (aw rfl) .nil) h rfl))))
                     · exact absurd (hc) (by simp)
                   · refine z2 hb45 h fun h=>zG hb45 rfl (bn rfl) (zG hb45 rfl (aX rfl rfl rfl) (zG hb45 rfl (bn rfl) (zG hb45 rfl (aX rfl rfl rfl) (zK hb45 rfl hp hr h [] Tryz.call52 (hT.cX sb.Body x21.Body) rfl (fun _=>rfl) fun y47 h=>zG hb45 rfl (du rfl) (zw hb45 rfl (zQ hK40 (zB rfl h (fun _ h=>?_) fun _ h=>?_)))))))
                     · exact ab fun _ hK49=>aa (za rfl (zQ hK49 (ar (zX (.cons (aw rfl) .nil) h rfl))))
                     · refine an (hK39 _ _ (ab fun _ hK50=>aa (zf rfl (zl rfl (al (bQ rfl) rfl (zm rfl (zQ hK50 (aB (zL hr h (fun (v51:Int)=>[(0,.pv (.sl (List.length p0) (ax.Cs p0))),(1,.pv (.sl (List.length p1) (ax.Cs p1))),(6,.ptr 106 0),(7,.ptr 107 0),(15,I (List.length p0:Int)),(16,I v8),(93,I (List.length sb.bc:Int)),(94,I v51)]) (fun (v51:Int)=>[(106,.box (cU sb)),(107,.box (cU x21))]) rfl fun _ v51 _ hK53 h=>ab fun _ hK54=>aa (zc rfl (zQ hK54 (ab fun _ hK55=>zB rfl h (fun _ h=>?_) fun _ h=>?_))))))))))))
                       · refine an (hK55 _ _ (ab fun _ hK57=>aB (ab fun _ hK58=>aa (zm rfl (za rfl (zQ hK58 (ab fun _ hK59=>bo [0,1,2,3,4,5,6,7,8,9,10,11] rfl (by kernel_rfl) (zD rfl (bn rfl) rfl (zD rfl (aX rfl rfl rfl) rfl (zD rfl (aq rfl) rfl (ze hr h fun x60 h61 h62 h63 h=>zD rfl (eE ai.bb ai.bE h61 h62 h63 rfl rfl rfl) rfl (zD rfl (fi rfl rfl) rfl ?_))))))))))))
                         refine zD rfl (bn rfl) rfl (zD rfl (aX rfl rfl rfl) rfl (zD rfl (aq rfl) rfl (ze hr h fun x64 h65 h66 h67 h=>zD rfl (eE ai.bb ai.bE h65 h66 h67 rfl rfl rfl) rfl (zD rfl (fi rfl rfl) rfl ?_))))
                         refine cS rfl (bF rfl) hr h [] Tryz.call23 (hT.dA x60 x64) ⟨rfl,rfl,rfl,rfl,rfl,rfl,trivial⟩ rfl rfl (fun _=>⟨rfl,rfl,rfl⟩) (fun _=>⟨rfl,rfl⟩) hp (fun y68 h=>⟨aJ rfl,?_⟩)
                         refine zD rfl (du rfl) rfl (b4 (hK59 _ _ (zB rfl h (fun _ h=>?_) fun _ h=>?_)))
                         · exact ab fun _ hK70=>aa (za rfl (zQ hK70 (ar (zX (.cons (aw rfl) .nil) h rfl))))
                         · exact an (hK57 _ _ (aa (zd hr h fun hg71 h=>zo hg71 rfl (zm rfl (ao (hK53 _ _ _ h rfl))))))
                       · exact bh (hK14 _ _ (aa (zd hr h fun hg72 h=>zo hg72 rfl (zm rfl (ao (hK10 _ _ _ h rfl))))))
   · exact bh (hK6 _ _ (ab fun _ hK73=>aa (za rfl (zQ hK73 (ar (zX (.cons (aw rfl) .nil) h rfl))))))
theorem sd (n:Nat) (T:eS) (hT:jt T) (p0:ai) (p1:ai):CT Tryz.prog 23 [.agg (aV p0),.agg (aV p1)] [] (jN n T p0 p1) (fun x=>Bo x) (fun _=>[]):=by
 refine zC Tryz.func23 rfl fun r hp h hr E hE=>ab fun _ hK1=>aa (cM 102 (hE _ rfl) ⟨rfl,rfl,rfl,rfl,rfl,rfl,rfl⟩ rfl ?_)
 refine cM 103 (hE _ rfl) ⟨rfl,rfl,rfl,rfl,rfl,rfl,rfl⟩ rfl ?_
 refine za rfl (zQ hK1 (ab fun _ hK2=>ab fun _ hK3=>aa (zf rfl (zl rfl (zf rfl (zl rfl (zc rfl (zm rfl (zb (p0.Kind !=p1.Kind) (fun hb4=>?_) fun hb4=>?_)))))))))
 · refine z1 hb4 h fun h=>zg hb4 rfl (zg hb4 rfl (zg hb4 rfl (zg hb4 rfl (zg hb4 rfl (zy hb4 rfl (zm rfl (zg rfl rfl (zg rfl rfl (zg rfl rfl (zg rfl rfl (zg rfl rfl (zt rfl (zm rfl (zg rfl rfl (zg rfl rfl (zg rfl rfl (zg rfl rfl (zg rfl rfl (zt rfl (zm rfl (zg rfl rfl (zg rfl rfl (zg rfl rfl ?_)))))))))))))))))))))))
   refine zg rfl rfl (zg rfl rfl (zg rfl rfl (zg rfl rfl (zt rfl (zm rfl (zg rfl rfl (zg rfl rfl (zg rfl rfl (zg rfl rfl (zg rfl rfl (zg rfl rfl (zt rfl (zQ hK3 (cg rfl (fun hc=>?_) (fun hc=>?_)))))))))))))))
   · exact ab fun _ hK5=>aa (za rfl (zQ hK5 (ar (zX (.cons (aw rfl) .nil) h rfl))))
   · exact absurd (hc) (by simp)
 · refine z2 hb4 h fun h=>zG hb4 rfl (bn rfl) (zG hb4 rfl (aX rfl rfl rfl) (zG hb4 rfl (bn rfl) (zG hb4 rfl (aX rfl rfl rfl) (zG hb4 rfl (qy rfl rfl) (zw hb4 rfl (zm rfl (zb (p0.Text !=p1.Text) (fun hb6=>?_) fun hb6=>?_)))))))
   · refine z1 hb6 h fun h=>zg hb6 rfl (zg hb6 rfl (zg hb6 rfl (zg hb6 rfl (zg hb6 rfl (zy hb6 rfl (zm rfl (zg rfl rfl (zg rfl rfl (zg rfl rfl (zg rfl rfl (zg rfl rfl (zt rfl (zm rfl (zg rfl rfl (zg rfl rfl (zg rfl rfl (zg rfl rfl (zg rfl rfl (zg rfl rfl (zg rfl rfl (zt rfl (zm rfl (zg rfl rfl ?_)))))))))))))))))))))))
     refine zg rfl rfl (zg rfl rfl (zg rfl rfl (zg rfl rfl (zg rfl rfl (zt rfl (zQ hK3 (cg rfl (fun hc=>?_) (fun hc=>?_))))))))
     · exact ab fun _ hK7=>aa (za rfl (zQ hK7 (ar (zX (.cons (aw rfl) .nil) h rfl))))
     · exact absurd (hc) (by simp)
   · refine z2 hb6 h fun h=>zG hb6 rfl (bn rfl) (zG hb6 rfl (aX rfl rfl rfl) (zG hb6 rfl (bn rfl) (zG hb6 rfl (aX rfl rfl rfl) (zG hb6 rfl (bf rfl rfl rfl) (zw hb6 rfl (zm rfl (zb (p0.jD !=p1.jD) (fun hb8=>?_) fun hb8=>?_)))))))
     · refine z1 hb8 h fun h=>zg hb8 rfl (zg hb8 rfl (zg hb8 rfl (zg hb8 rfl (zg hb8 rfl (zy hb8 rfl (zm rfl (zg rfl rfl (zg rfl rfl (zg rfl rfl (zg rfl rfl (zg rfl rfl (zg rfl rfl (zg rfl rfl (zt rfl (zm rfl (zg rfl rfl (zg rfl rfl (zg rfl rfl (zg rfl rfl (zg rfl rfl (zg rfl rfl (zt rfl (zQ hK3 ?_)))))))))))))))))))))))
       refine cg rfl (fun hc=>?_) (fun hc=>?_)
       · exact ab fun _ hK9=>aa (za rfl (zQ hK9 (ar (zX (.cons (aw rfl) .nil) h rfl))))
       · exact absurd (hc) (by simp)
     · refine z2 hb8 h fun h=>zG hb8 rfl (bn rfl) (zG hb8 rfl (hY rfl rfl rfl rfl) ?_)
       refine zG hb8 rfl (bn rfl) (zG hb8 rfl (hY rfl rfl rfl rfl) ?_)
       refine zG hb8 rfl (Bb rfl rfl) (zw hb8 rfl (zm rfl (zb (!((p0.bk==p1.bk)&&(p0.bt==p1.bt))) (fun hb10=>?_) fun hb10=>?_)))
       · refine z1 hb10 h fun h=>zg hb10 rfl (zg hb10 rfl (zg hb10 rfl (zg hb10 rfl (zg hb10 rfl (zg hb10 rfl (zg hb10 rfl (zy hb10 rfl (zm rfl (zg rfl rfl (zg rfl rfl (zg rfl rfl (zg rfl rfl (zg rfl rfl (zg rfl rfl (zt rfl (zQ hK3 (cg rfl (fun hc=>?_) (fun hc=>?_))))))))))))))))))
         · exact ab fun _ hK11=>aa (za rfl (zQ hK11 (ar (zX (.cons (aw rfl) .nil) h rfl))))
         · exact absurd (hc) (by simp)
       · refine z2 hb10 h fun h=>zG hb10 rfl (bn rfl) (zG hb10 rfl (aX rfl rfl rfl) (zG hb10 rfl (bQ rfl) (zG hb10 rfl (bn rfl) (zG hb10 rfl (aX rfl rfl rfl) (zG hb10 rfl (bQ rfl) (zG hb10 rfl (bf rfl rfl rfl) (zw hb10 rfl (zm rfl (zb ((List.length p0.bc:Int) !=(List.length p1.bc:Int)) (fun hb12=>?_) fun hb12=>?_)))))))))
         · refine z1 hb12 h fun h=>zg hb12 rfl (zg hb12 rfl (zg hb12 rfl (zg hb12 rfl (zg hb12 rfl (zg hb12 rfl (zy hb12 rfl (zQ hK3 (cg rfl (fun hc=>?_) (fun hc=>?_)))))))))
           · exact ab fun _ hK13=>aa (za rfl (zQ hK13 (ar (zX (.cons (aw rfl) .nil) h rfl))))
           · exact absurd (hc) (by simp)
         · refine z2 hb12 h fun h=>zG hb12 rfl (bn rfl) (zG hb12 rfl (aX rfl rfl rfl) (zG hb12 rfl (bn rfl) (zG hb12 rfl (aX rfl rfl rfl) (zK hb12 rfl hp hr h [] Tryz.call51 (jM n p0.b3 p1.b3) rfl (fun _=>rfl) fun y14 h=>zG hb12 rfl (du rfl) (zw hb12 rfl (zQ hK3 (zB rfl h (fun _ h=>?_) fun _ h=>?_)))))))
           · exact ab fun _ hK16=>aa (za rfl (zQ hK16 (ar (zX (.cons (aw rfl) .nil) h rfl))))
           · refine an (hK2 _ _ (ab fun _ hK17=>ab fun _ hK18=>aa (zf rfl (zl rfl (al (bQ rfl) rfl (zm rfl (zQ hK18 (aB (zL hr h (fun (v19:Int)=>[(0,.agg (aV p0)),(1,.agg (aV p1)),(2,.ptr 102 0),(3,.ptr 103 0),(51,I (List.length p0.bc:Int)),(52,I v19)]) (fun (v19:Int)=>[(102,.box (aV p0)),(103,.box (aV p1))]) rfl fun _ v19 _ hK21 h=>ab fun _ hK22=>aa (zc rfl (zQ hK22 (ab fun _ hK23=>zB rfl h (fun _ h=>?_) fun _ h=>?_))))))))))))
             · refine an (hK23 _ _ (ab fun _ hK25=>aB (ab fun _ hK26=>aa (zm rfl (za rfl (zQ hK26 (ab fun _ hK27=>bo [0,1,2,3,4,5,6,7,8,9,10,11] rfl (by kernel_rfl) (zD rfl (bn rfl) rfl (zD rfl (aX rfl rfl rfl) rfl (zD rfl (aq rfl) rfl (ze hr h fun x28 h29 h30 h31 h=>zD rfl (eE ai.bb ai.bE h29 h30 h31 rfl rfl rfl) rfl (zD rfl (fi rfl rfl) rfl ?_))))))))))))
               refine zD rfl (bn rfl) rfl (zD rfl (aX rfl rfl rfl) rfl (zD rfl (aq rfl) rfl (ze hr h fun x32 h33 h34 h35 h=>zD rfl (eE ai.bb ai.bE h33 h34 h35 rfl rfl rfl) rfl (zD rfl (fi rfl rfl) rfl ?_))))
               refine cS rfl (bF rfl) hr h [] Tryz.call23 (hT.dA x28 x32) ⟨rfl,rfl,rfl,rfl,rfl,rfl,trivial⟩ rfl rfl (fun _=>⟨rfl,rfl,rfl⟩) (fun _=>⟨rfl,rfl⟩) hp (fun y36 h=>⟨aJ rfl,?_⟩)
               refine zD rfl (du rfl) rfl (b4 (hK27 _ _ (zB rfl h (fun _ h=>?_) fun _ h=>?_)))
               · exact ab fun _ hK38=>aa (za rfl (zQ hK38 (ar (zX (.cons (aw rfl) .nil) h rfl))))
               · exact an (hK25 _ _ (aa (zd hr h fun hg39 h=>zo hg39 rfl (zm rfl (ao (hK21 _ _ _ h rfl))))))
             · exact bh (hK17 _ _ (ab fun _ hK40=>aa (zf rfl (zl rfl (zf rfl (zl rfl (zk hp hr h [] Tryz.call52 (hT.cX p0.Decls p1.Decls) rfl (fun _=>rfl) fun y41 h=>za rfl (zQ hK40 (ar (zX (.cons (aw rfl) .nil) h rfl))))))))))
theorem fK:∀ n,jt (ea n)
 | 0=>⟨fun _ _=>bY,fun _ _=>bY⟩
 | n+1=>⟨fun p0 p1=>rA n _ (fK n) p0 p1,fun p0 p1=>sd n _ (fK n) p0 p1⟩
theorem se (n:Nat) (p0:(List ax)) (p1:(List ax)):CT Tryz.prog 52 [.pv (.sl (List.length p0) (ax.Cs p0)),.pv (.sl (List.length p1) (ax.Cs p1))] [] (cX n p0 p1) (fun x=>Bo x) (fun _=>[]):=(fK n).cX p0 p1
theorem sD (n:Nat) (p0:ai) (p1:ai):CT Tryz.prog 23 [.agg (aV p0),.agg (aV p1)] [] (dA n p0 p1) (fun x=>Bo x) (fun _=>[]):=(fK n).dA p0 p1
def qX (n:Nat) (p0:eI) (p1:eI):ay (Bool):=
 br (p0.fC !=p1.fC) (.ok (false)) (br ((List.length p0.cB:Int) !=(List.length p1.cB:Int)) (.ok (false)) (ay.bind (gg n p0.b3 p1.b3) fun y8=>br (!y8) (.ok (false)) (iter (fun next14 (v13:Int)=>br (decide (v13<(List.length p0.cB:Int))) (el p0.cB v13 fun x22=>el p1.cB v13 fun x26=>br (x22.Name !=x26.Name) (.ok (false)) (el p0.cB v13 fun x32=>el p1.cB v13 fun x36=>br (x32.Path !=x36.Path) (.ok (false)) (gd (aD (v13+1)) (next14 (v13+1))))) (ay.bind (cX n p0.Decls p1.Decls) fun y44=>.ok (y44))) n (0))))
theorem vi (n:Nat) (p0:eI) (p1:eI):CT Tryz.prog 22 [.agg (ga p0),.agg (ga p1)] [] (qX n p0 p1) (fun x=>Bo x) (fun _=>[]):=by
 refine zC Tryz.func22 rfl fun r hp h hr E hE=>ab fun _ hK1=>aa (cM 102 (hE _ rfl) ⟨rfl,rfl,rfl,rfl,rfl,rfl,rfl⟩ rfl ?_)
 refine cM 103 (hE _ rfl) ⟨rfl,rfl,rfl,rfl,rfl,rfl,rfl⟩ rfl ?_
 refine za rfl (zQ hK1 (ab fun _ hK2=>ab fun _ hK3=>aa (zf rfl (zl rfl (zf rfl (zl rfl (al (qy rfl rfl) rfl (zm rfl (zb (p0.fC !=p1.fC) (fun hb4=>?_) fun hb4=>?_)))))))))
 · refine z1 hb4 h fun h=>zg hb4 rfl (zg hb4 rfl (zg hb4 rfl (zg hb4 rfl (zg hb4 rfl (zg hb4 rfl (zg hb4 rfl (zy hb4 rfl (zm rfl (zg rfl rfl (zg rfl rfl (zg rfl rfl (zg rfl rfl (zg rfl rfl (zg rfl rfl (zt rfl (zQ hK3 (cg rfl (fun hc=>?_) (fun hc=>?_))))))))))))))))))
   · exact ab fun _ hK5=>aa (za rfl (zQ hK5 (ar (zX (.cons (aw rfl) .nil) h rfl))))
   · exact absurd (hc) (by simp)
 · refine z2 hb4 h fun h=>zG hb4 rfl (bn rfl) (zG hb4 rfl (aX rfl rfl rfl) (zG hb4 rfl (bQ rfl) (zG hb4 rfl (bn rfl) (zG hb4 rfl (aX rfl rfl rfl) (zG hb4 rfl (bQ rfl) (zG hb4 rfl (bf rfl rfl rfl) (zw hb4 rfl (zm rfl (zb ((List.length p0.cB:Int) !=(List.length p1.cB:Int)) (fun hb6=>?_) fun hb6=>?_)))))))))
   · refine z1 hb6 h fun h=>zg hb6 rfl (zg hb6 rfl (zg hb6 rfl (zg hb6 rfl (zg hb6 rfl (zg hb6 rfl (zy hb6 rfl (zQ hK3 (cg rfl (fun hc=>?_) (fun hc=>?_)))))))))
     · exact ab fun _ hK7=>aa (za rfl (zQ hK7 (ar (zX (.cons (aw rfl) .nil) h rfl))))
     · exact absurd (hc) (by simp)
   · refine z2 hb6 h fun h=>zG hb6 rfl (bn rfl) (zG hb6 rfl (aX rfl rfl rfl) (zG hb6 rfl (bn rfl) (zG hb6 rfl (aX rfl rfl rfl) (zK hb6 rfl hp hr h [] Tryz.call51 (jM n p0.b3 p1.b3) rfl (fun _=>rfl) fun y8 h=>zG hb6 rfl (du rfl) (zw hb6 rfl (zQ hK3 (zB rfl h (fun _ h=>?_) fun _ h=>?_)))))))
     · exact ab fun _ hK10=>aa (za rfl (zQ hK10 (ar (zX (.cons (aw rfl) .nil) h rfl))))
     · refine an (hK2 _ _ (ab fun _ hK11=>ab fun _ hK12=>aa (zf rfl (zl rfl (al (bQ rfl) rfl (zm rfl (zQ hK12 (aB (zL hr h (fun (v13:Int)=>[(0,.agg (ga p0)),(1,.agg (ga p1)),(2,.ptr 102 0),(3,.ptr 103 0),(30,I (List.length p0.cB:Int)),(31,I v13)]) (fun (v13:Int)=>[(102,.box (ga p0)),(103,.box (ga p1))]) rfl fun _ v13 _ hK15 h=>ab fun _ hK16=>aa (zc rfl (zQ hK16 (ab fun _ hK17=>zB rfl h (fun _ h=>?_) fun _ h=>?_))))))))))))
       · refine an (hK17 _ _ (ab fun _ hK19=>aB (ab fun _ hK20=>aa (zm rfl (za rfl (zQ hK20 (ab fun _ hK21=>bo [0,1,2,3,4,5,6,7,8,9,10,11,12,13,14,15,16,17,18,19,20,21,22,23,24,25,26,27] rfl (by kernel_rfl) (zD rfl (bn rfl) rfl (zD rfl (aX rfl rfl rfl) rfl (zD rfl (aq rfl) rfl (ze hr h fun x22 h23 h24 h25 h=>zD rfl (eE bJ.bb bJ.bE h23 h24 h25 rfl rfl rfl) rfl (zD rfl (gH rfl rfl) rfl (zD rfl (dM rfl rfl) rfl (zD rfl (bn rfl) rfl (zD rfl (aX rfl rfl rfl) rfl (zD rfl (aq rfl) rfl (ze hr h fun x26 h27 h28 h29 h=>zD rfl (eE bJ.bb bJ.bE h27 h28 h29 rfl rfl rfl) rfl (zD rfl (gH rfl rfl) rfl (zD rfl (dM rfl rfl) rfl ?_)))))))))))))))))))
         refine zD rfl (qy rfl rfl) rfl (zD rfl (aq rfl) rfl (zb (x22.Name !=x26.Name) (fun hb30=>?_) fun hb30=>?_))
         · refine z1 hb30 h fun h=>cl hb30 rfl ⟨rfl,rfl⟩ ⟨rfl,rfl⟩ ?_
           refine cl hb30 rfl ⟨rfl,rfl⟩ ⟨rfl,rfl⟩ ?_
           refine cl hb30 rfl ⟨rfl,rfl⟩ ⟨rfl,rfl⟩ ?_
           refine cl hb30 rfl ⟨rfl,rfl⟩ ⟨rfl,rfl⟩ ?_
           refine cl hb30 rfl ⟨rfl,rfl⟩ ⟨rfl,rfl⟩ ?_
           refine cl hb30 rfl ⟨rfl,rfl⟩ ⟨rfl,rfl⟩ ?_
           refine cl hb30 rfl ⟨rfl,rfl⟩ ⟨rfl,rfl⟩ ?_
           refine cl hb30 rfl ⟨rfl,rfl⟩ ⟨rfl,rfl⟩ ?_
           refine cl hb30 rfl ⟨rfl,rfl⟩ ⟨rfl,rfl⟩ ?_
           refine cl hb30 rfl ⟨rfl,rfl⟩ ⟨rfl,rfl⟩ ?_
           refine cl hb30 rfl ⟨rfl,rfl⟩ ⟨rfl,rfl⟩ ?_
           refine cl hb30 rfl ⟨rfl,rfl⟩ ⟨rfl,rfl⟩ ?_
           refine cl hb30 rfl ⟨rfl,rfl⟩ ⟨rfl,rfl⟩ ?_
           refine zD rfl (cx hb30 rfl rfl) rfl (b4 (hK21 _ _ (cg rfl (fun hc=>?_) (fun hc=>?_))))
           · exact ab fun _ hK31=>aa (za rfl (zQ hK31 (ar (zX (.cons (aw rfl) .nil) h rfl))))
           · exact absurd (hc) (by simp)
         · refine z2 hb30 h fun h=>cn hb30 rfl ⟨rfl,rfl⟩ (bn rfl) ⟨rfl,rfl,rfl⟩ ?_
           refine cn hb30 rfl ⟨rfl,rfl⟩ (aX rfl rfl rfl) ⟨rfl,rfl,rfl⟩ ?_
           refine cn hb30 rfl ⟨rfl,rfl⟩ (aq rfl) ⟨rfl,rfl,rfl⟩ ?_
           refine ze hr h fun x32 h33 h34 h35 h=>cn hb30 rfl ⟨rfl,rfl⟩ (eE bJ.bb bJ.bE h33 h34 h35 rfl rfl rfl) ⟨rfl,rfl,rfl⟩ ?_
           refine cn hb30 rfl ⟨rfl,rfl⟩ (gH rfl rfl) ⟨rfl,rfl,rfl⟩ ?_
           refine cn hb30 rfl ⟨rfl,rfl⟩ (dM rfl rfl) ⟨rfl,rfl,rfl⟩ ?_
           refine cn hb30 rfl ⟨rfl,rfl⟩ (bn rfl) ⟨rfl,rfl,rfl⟩ ?_
           refine cn hb30 rfl ⟨rfl,rfl⟩ (aX rfl rfl rfl) ⟨rfl,rfl,rfl⟩ ?_
           refine cn hb30 rfl ⟨rfl,rfl⟩ (aq rfl) ⟨rfl,rfl,rfl⟩ ?_
           refine ze hr h fun x36 h37 h38 h39 h=>cn hb30 rfl ⟨rfl,rfl⟩ (eE bJ.bb bJ.bE h37 h38 h39 rfl rfl rfl) ⟨rfl,rfl,rfl⟩ ?_
           refine cn hb30 rfl ⟨rfl,rfl⟩ (gH rfl rfl) ⟨rfl,rfl,rfl⟩ ?_
           refine cn hb30 rfl ⟨rfl,rfl⟩ (dM rfl rfl) ⟨rfl,rfl,rfl⟩ ?_
           refine cn hb30 rfl ⟨rfl,rfl⟩ (qy rfl rfl) ⟨rfl,rfl,rfl⟩ ?_
           refine zD rfl (ct hb30 rfl rfl) rfl (b4 (hK21 _ _ (zB rfl h (fun _ h=>?_) fun _ h=>?_)))
           · exact ab fun _ hK41=>aa (za rfl (zQ hK41 (ar (zX (.cons (aw rfl) .nil) h rfl))))
           · exact an (hK19 _ _ (aa (zd hr h fun hg42 h=>zo hg42 rfl (zm rfl (ao (hK15 _ _ _ h rfl))))))
       · exact bh (hK11 _ _ (ab fun _ hK43=>aa (zf rfl (zl rfl (zf rfl (zl rfl (zk hp hr h [] Tryz.call52 (se n p0.Decls p1.Decls) rfl (fun _=>rfl) fun y44 h=>za rfl (zQ hK43 (ar (zX (.cons (aw rfl) .nil) h rfl))))))))))
structure eH where
 cK:(List ax)→(List ax)→ay (Bool)
 di:ai→ai→ay (Bool)
def iM (n:Nat) (T:eH) (p0:(List ax)) (p1:(List ax)):ay (Bool):=
 iter (fun next5 (v4:Int)=>br (decide (v4<(List.length p0:Int))) (el p0 v4 fun EE=>el p1 v4 fun CH=>br (EE.Pos !=CH.Pos) (.ok (false)) (el p0 v4 fun x24=>el p1 v4 fun x28=>ay.bind (T.cK x24.Body x28.Body) fun y32=>br (!y32) (.ok (false)) (el p0 v4 fun x36=>iter (fun next41 (v40:Int)=>br (decide (v40<(List.length x36.bc:Int))) (el p0 v4 fun x49=>el x49.bc v40 fun x53=>el p1 v4 fun x57=>el x57.bc v40 fun x61=>ay.bind (T.di x53 x61) fun y65=>br (!y65) (.ok (false)) (gd (aD (v40+1)) (next41 (v40+1)))) (gd (aD (v4+1)) (next5 (v4+1)))) n (0)))) (.ok (true))) n (0)
def ju (n:Nat) (T:eH) (p0:ai) (p1:ai):ay (Bool):=
 iter (fun next5 (v4:Int)=>br (decide (v4<(List.length p0.bc:Int))) (el p0.bc v4 fun vI=>el p1.bc v4 fun sb=>ay.bind (T.di vI sb) fun y21=>br (!y21) (.ok (false)) (gd (aD (v4+1)) (next5 (v4+1)))) (br (p0.Pos==p1.Pos) (ay.bind (T.cK p0.Decls p1.Decls) fun y27=>.ok (y27)) (.ok (false)))) n (0)
def dT:Nat→eH
 | 0=>⟨fun _ _=>.stuck,fun _ _=>.stuck⟩
 | n+1=>⟨iM n (dT n),ju n (dT n)⟩
def cK (n:Nat) (p0:(List ax)) (p1:(List ax)):ay (Bool):=(dT n).cK p0 p1
def di (n:Nat) (p0:ai) (p1:ai):ay (Bool):=(dT n).di p0 p1
structure jc (T:eH):Prop where
 cK:∀ (p0:(List ax)) (p1:(List ax)),CT Tryz.prog 31 [.pv (.sl (List.length p0) (ax.Cs p0)),.pv (.sl (List.length p1) (ax.Cs p1))] [] (T.cK p0 p1) (fun x=>Bo x) (fun _=>[])
 di:∀ (p0:ai) (p1:ai),CT Tryz.prog 41 [.agg (aV p0),.agg (aV p1)] [] (T.di p0 p1) (fun x=>Bo x) (fun _=>[])
theorem qY (n:Nat) (T:eH) (hT:jc T) (p0:(List ax)) (p1:(List ax)):CT Tryz.prog 31 [.pv (.sl (List.length p0) (ax.Cs p0)),.pv (.sl (List.length p1) (ax.Cs p1))] [] (iM n T p0 p1) (fun x=>Bo x) (fun _=>[]):=by
 refine zC Tryz.func31 rfl fun r hp h hr E hE=>ab fun _ hK1=>aa (za rfl (zQ hK1 (ab fun _ hK2=>ab fun _ hK3=>aa (zm rfl (al (bQ rfl) rfl (zm rfl (zQ hK3 (aB (zL hr h (fun (v4:Int)=>[(0,.pv (.sl (List.length p0) (ax.Cs p0))),(1,.pv (.sl (List.length p1) (ax.Cs p1))),(8,I (List.length p0:Int)),(9,I v4)]) (fun (v4:Int)=>[]) rfl fun _ v4 _ hK6 h=>ab fun _ hK7=>aa (zc rfl (zQ hK7 (ab fun _ hK8=>zB rfl h (fun _ h=>?_) fun _ h=>?_))))))))))))
 · refine an (hK8 _ _ (ab fun _ hK10=>aB (ab fun _ hK11=>aa (zm rfl (za rfl (zQ hK11 (ab fun _ hK12=>ab fun _ hK13=>bo [0,1,2,3,4,5,6,7,8,9,10,11,12,13,14,15,16,17,18,19,20,21,22,23,24] rfl (by kernel_rfl) (zD rfl (aq rfl) rfl (zD rfl (aq rfl) rfl (ze hr h fun EE h15 h16 h17 h=>zD rfl (eE ax.bb ax.bE h15 h16 h17 rfl rfl rfl) rfl (zD rfl (gH rfl rfl) rfl (zD rfl (dM rfl rfl) rfl (zD rfl (aq rfl) rfl (zD rfl (aq rfl) rfl (ze hr h fun CH h19 h20 h21 h=>zD rfl (eE ax.bb ax.bE h19 h20 h21 rfl rfl rfl) rfl (zD rfl (gH rfl rfl) rfl (zD rfl (dM rfl rfl) rfl (zD rfl (bf rfl rfl rfl) rfl ?_))))))))))))))))))
   refine zD rfl (aq rfl) rfl (zb (EE.Pos !=CH.Pos) (fun hb22=>?_) fun hb22=>?_)
   · refine z1 hb22 h fun h=>cl hb22 rfl ⟨rfl,rfl⟩ ⟨rfl,rfl⟩ ?_
     refine cl hb22 rfl ⟨rfl,rfl⟩ ⟨rfl,rfl⟩ ?_
     refine cl hb22 rfl ⟨rfl,rfl⟩ ⟨rfl,rfl⟩ ?_
     refine cl hb22 rfl ⟨rfl,rfl⟩ ⟨rfl,rfl⟩ ?_
     refine cl hb22 rfl ⟨rfl,rfl⟩ ⟨rfl,rfl⟩ ?_
     refine cl hb22 rfl ⟨rfl,rfl⟩ ⟨rfl,rfl⟩ ?_
     refine cl hb22 rfl ⟨rfl,rfl⟩ ⟨rfl,rfl⟩ ?_
     refine cl hb22 rfl ⟨rfl,rfl⟩ ⟨rfl,rfl⟩ ?_
     refine cl hb22 rfl ⟨rfl,rfl⟩ ⟨rfl,rfl⟩ ?_
     refine cl hb22 rfl ⟨rfl,rfl⟩ ⟨rfl,rfl⟩ ?_
     refine rY hb22 rfl ⟨rfl,rfl⟩ ⟨rfl,rfl⟩ ?_
     refine cl hb22 rfl ⟨rfl,rfl⟩ ⟨rfl,rfl⟩ ?_
     refine zD rfl (cx hb22 rfl rfl) rfl (b4 (hK13 _ _ (cg rfl (fun hc=>?_) (fun hc=>?_))))
     · exact ab fun _ hK23=>aa (za rfl (zQ hK23 (ar (zX (.cons (aw rfl) .nil) h rfl))))
     · exact absurd (hc) (by simp)
   · refine z2 hb22 h fun h=>cn hb22 rfl ⟨rfl,rfl⟩ (aq rfl) ⟨rfl,rfl,rfl⟩ ?_
     refine cn hb22 rfl ⟨rfl,rfl⟩ (aq rfl) ⟨rfl,rfl,rfl⟩ ?_
     refine ze hr h fun x24 h25 h26 h27 h=>cn hb22 rfl ⟨rfl,rfl⟩ (eE ax.bb ax.bE h25 h26 h27 rfl rfl rfl) ⟨rfl,rfl,rfl⟩ ?_
     refine cn hb22 rfl ⟨rfl,rfl⟩ (gH rfl rfl) ⟨rfl,rfl,rfl⟩ ?_
     refine cn hb22 rfl ⟨rfl,rfl⟩ (dM rfl rfl) ⟨rfl,rfl,rfl⟩ ?_
     refine cn hb22 rfl ⟨rfl,rfl⟩ (aq rfl) ⟨rfl,rfl,rfl⟩ ?_
     refine cn hb22 rfl ⟨rfl,rfl⟩ (aq rfl) ⟨rfl,rfl,rfl⟩ ?_
     refine ze hr h fun x28 h29 h30 h31 h=>cn hb22 rfl ⟨rfl,rfl⟩ (eE ax.bb ax.bE h29 h30 h31 rfl rfl rfl) ⟨rfl,rfl,rfl⟩ ?_
     refine cn hb22 rfl ⟨rfl,rfl⟩ (gH rfl rfl) ⟨rfl,rfl,rfl⟩ ?_
     refine cn hb22 rfl ⟨rfl,rfl⟩ (dM rfl rfl) ⟨rfl,rfl,rfl⟩ ?_
     refine cS rfl (vw hb22 rfl ⟨rfl,rfl⟩) hr h [] Tryz.call31 (hT.cK x24.Body x28.Body) ⟨rfl,rfl,rfl,rfl,rfl,rfl,trivial⟩ rfl rfl (fun _=>⟨rfl,rfl,rfl⟩) (fun _=>⟨rfl,rfl⟩) hp (fun y32 h=>⟨aJ rfl,?_⟩)
     refine cn hb22 rfl ⟨rfl,rfl⟩ (du rfl) ⟨rfl,rfl,rfl⟩ ?_
     refine zD rfl (ct hb22 rfl rfl) rfl (b4 (hK13 _ _ (zB rfl h (fun _ h=>?_) fun _ h=>?_)))
     · exact ab fun _ hK34=>aa (za rfl (zQ hK34 (ar (zX (.cons (aw rfl) .nil) h rfl))))
     · refine an (hK12 _ _ (ab fun _ hK35=>aa (zm rfl (zm rfl (ze hr h fun x36 h37 h38 h39 h=>al (eE ax.bb ax.bE h37 h38 h39 rfl rfl rfl) rfl (al (gH rfl rfl) rfl (al (dM rfl rfl) rfl (al (bQ rfl) rfl (zm rfl (zQ hK35 (aB (zL hr h (fun (v40:Int)=>[(0,.pv (.sl (List.length p0) (ax.Cs p0))),(1,.pv (.sl (List.length p1) (ax.Cs p1))),(5,I v4),(8,I (List.length p0:Int)),(9,I v4),(42,I (List.length x36.bc:Int)),(43,I v40)]) (fun (v40:Int)=>[]) rfl fun _ v40 _ hK42 h=>ab fun _ hK43=>aa (zc rfl (zQ hK43 (ab fun _ hK44=>zB rfl h (fun _ h=>?_) fun _ h=>?_)))))))))))))))
       · refine an (hK44 _ _ (ab fun _ hK46=>aB (ab fun _ hK47=>aa (zm rfl (za rfl (zQ hK47 (ab fun _ hK48=>bo [0,1,2,3,4,5,6,7,8,9,10,11,12,13,14,15,16,17] rfl (by kernel_rfl) (zD rfl (aq rfl) rfl (zD rfl (aq rfl) rfl (ze hr h fun x49 h50 h51 h52 h=>zD rfl (eE ax.bb ax.bE h50 h51 h52 rfl rfl rfl) rfl (zD rfl (gH rfl rfl) rfl (zD rfl (dM rfl rfl) rfl (zD rfl (aq rfl) rfl (ze hr h fun x53 h54 h55 h56 h=>zD rfl (eE ai.bb ai.bE h54 h55 h56 rfl rfl rfl) rfl (zD rfl (fi rfl rfl) rfl ?_)))))))))))))))
         refine zD rfl (aq rfl) rfl (zD rfl (aq rfl) rfl (ze hr h fun x57 h58 h59 h60 h=>zD rfl (eE ax.bb ax.bE h58 h59 h60 rfl rfl rfl) rfl (zD rfl (gH rfl rfl) rfl (zD rfl (dM rfl rfl) rfl (zD rfl (aq rfl) rfl (ze hr h fun x61 h62 h63 h64 h=>zD rfl (eE ai.bb ai.bE h62 h63 h64 rfl rfl rfl) rfl (zD rfl (fi rfl rfl) rfl ?_)))))))
         refine cS rfl (bF rfl) hr h [] Tryz.call41 (hT.di x53 x61) ⟨rfl,rfl,rfl,rfl,rfl,rfl,trivial⟩ rfl rfl (fun _=>⟨rfl,rfl,rfl⟩) (fun _=>⟨rfl,rfl⟩) hp (fun y65 h=>⟨aJ rfl,?_⟩)
         refine zD rfl (du rfl) rfl (b4 (hK48 _ _ (zB rfl h (fun _ h=>?_) fun _ h=>?_)))
         · exact ab fun _ hK67=>aa (za rfl (zQ hK67 (ar (zX (.cons (aw rfl) .nil) h rfl))))
         · exact an (hK46 _ _ (aa (zd hr h fun hg68 h=>zo hg68 rfl (zm rfl (ao (hK42 _ _ _ h rfl))))))
       · exact bh (hK10 _ _ (aa (zd hr h fun hg69 h=>zo hg69 rfl (zm rfl (ao (hK6 _ _ _ h rfl))))))
 · exact bh (hK2 _ _ (ab fun _ hK70=>aa (za rfl (zQ hK70 (ar (zX (.cons (aw rfl) .nil) h rfl))))))
theorem rB (n:Nat) (T:eH) (hT:jc T) (p0:ai) (p1:ai):CT Tryz.prog 41 [.agg (aV p0),.agg (aV p1)] [] (ju n T p0 p1) (fun x=>Bo x) (fun _=>[]):=by
 refine zC Tryz.func41 rfl fun r hp h hr E hE=>ab fun _ hK1=>aa (cM 102 (hE _ rfl) ⟨rfl,rfl,rfl,rfl,rfl,rfl,rfl⟩ rfl ?_)
 refine cM 103 (hE _ rfl) ⟨rfl,rfl,rfl,rfl,rfl,rfl,rfl⟩ rfl ?_
 refine za rfl (zQ hK1 (ab fun _ hK2=>ab fun _ hK3=>aa (zf rfl (zl rfl (al (bQ rfl) rfl (zm rfl (zQ hK3 (aB (zL hr h (fun (v4:Int)=>[(0,.agg (aV p0)),(1,.agg (aV p1)),(2,.ptr 102 0),(3,.ptr 103 0),(8,I (List.length p0.bc:Int)),(9,I v4)]) (fun (v4:Int)=>[(102,.box (aV p0)),(103,.box (aV p1))]) rfl fun _ v4 _ hK6 h=>ab fun _ hK7=>aa (zc rfl (zQ hK7 (ab fun _ hK8=>zB rfl h (fun _ h=>?_) fun _ h=>?_))))))))))))
 · refine an (hK8 _ _ (ab fun _ hK10=>aB (ab fun _ hK11=>aa (zm rfl (za rfl (zQ hK11 (ab fun _ hK12=>bo [0,1,2,3,4,5,6,7,8,9,10,11] rfl (by kernel_rfl) (zD rfl (bn rfl) rfl (zD rfl (aX rfl rfl rfl) rfl (zD rfl (aq rfl) rfl (ze hr h fun vI h14 h15 h16 h=>zD rfl (eE ai.bb ai.bE h14 h15 h16 rfl rfl rfl) rfl (zD rfl (fi rfl rfl) rfl ?_))))))))))))
   refine zD rfl (bn rfl) rfl (zD rfl (aX rfl rfl rfl) rfl (zD rfl (aq rfl) rfl (ze hr h fun sb h18 h19 h20 h=>zD rfl (eE ai.bb ai.bE h18 h19 h20 rfl rfl rfl) rfl (zD rfl (fi rfl rfl) rfl ?_))))
   refine cS rfl (bF rfl) hr h [] Tryz.call41 (hT.di vI sb) ⟨rfl,rfl,rfl,rfl,rfl,rfl,trivial⟩ rfl rfl (fun _=>⟨rfl,rfl,rfl⟩) (fun _=>⟨rfl,rfl⟩) hp (fun y21 h=>⟨aJ rfl,?_⟩)
   refine zD rfl (du rfl) rfl (b4 (hK12 _ _ (zB rfl h (fun _ h=>?_) fun _ h=>?_)))
   · exact ab fun _ hK23=>aa (za rfl (zQ hK23 (ar (zX (.cons (aw rfl) .nil) h rfl))))
   · exact an (hK10 _ _ (aa (zd hr h fun hg24 h=>zo hg24 rfl (zm rfl (ao (hK6 _ _ _ h rfl))))))
 · refine bh (hK2 _ _ (ab fun _ hK25=>aa (zf rfl (zl rfl (zf rfl (zl rfl (zc rfl (zm rfl (zb (p0.Pos==p1.Pos) (fun hb26=>?_) fun hb26=>?_)))))))))
   · exact z1 hb26 h fun h=>zG hb26 rfl (bn rfl) (zG hb26 rfl (aX rfl rfl rfl) (zG hb26 rfl (bn rfl) (zG hb26 rfl (aX rfl rfl rfl) (zK hb26 rfl hp hr h [] Tryz.call31 (hT.cK p0.Decls p1.Decls) rfl (fun _=>rfl) fun y27 h=>zy hb26 rfl (za rfl (zQ hK25 (ar (zX (.cons (aw rfl) .nil) h rfl))))))))
   · exact z2 hb26 h fun h=>zg hb26 rfl (zg hb26 rfl (zg hb26 rfl (zg hb26 rfl (zg hb26 rfl (zw hb26 rfl (za rfl (zQ hK25 (ar (zX (.cons (aw rfl) .nil) h rfl)))))))))
theorem fw:∀ n,jc (dT n)
 | 0=>⟨fun _ _=>bY,fun _ _=>bY⟩
 | n+1=>⟨fun p0 p1=>qY n _ (fw n) p0 p1,fun p0 p1=>rB n _ (fw n) p0 p1⟩
theorem rC (n:Nat) (p0:(List ax)) (p1:(List ax)):CT Tryz.prog 31 [.pv (.sl (List.length p0) (ax.Cs p0)),.pv (.sl (List.length p1) (ax.Cs p1))] [] (cK n p0 p1) (fun x=>Bo x) (fun _=>[]):=(fw n).cK p0 p1
theorem sf (n:Nat) (p0:ai) (p1:ai):CT Tryz.prog 41 [.agg (aV p0),.agg (aV p1)] [] (di n p0 p1) (fun x=>Bo x) (fun _=>[]):=(fw n).di p0 p1
def mX (n:Nat) (p0:eI) (p1:eI):ay (Bool):=
 ay.bind (qX n p0 p1) fun y4=>br (!y4) (.ok (false)) (iter (fun next10 (v9:Int)=>br (decide (v9<(List.length p0.cB:Int))) (el p0.cB v9 fun CH=>el p1.cB v9 fun x22=>br (!((CH.Name==x22.Name)&&(CH.Path==x22.Path)&&(CH.Pos==x22.Pos))) (.ok (false)) (gd (aD (v9+1)) (next10 (v9+1)))) (ay.bind (cK n p0.Decls p1.Decls) fun y30=>.ok (y30))) n (0))
theorem uQ (n:Nat) (p0:eI) (p1:eI):CT Tryz.prog 14 [.agg (ga p0),.agg (ga p1)] [] (mX n p0 p1) (fun x=>Bo x) (fun _=>[]):=by
 refine zC Tryz.func14 rfl fun r hp h hr E hE=>ab fun _ hK1=>aa (cM 102 (hE _ rfl) ⟨rfl,rfl,rfl,rfl,rfl,rfl,rfl⟩ rfl ?_)
 refine cM 103 (hE _ rfl) ⟨rfl,rfl,rfl,rfl,rfl,rfl,rfl⟩ rfl ?_
 refine za rfl (zQ hK1 (ab fun _ hK2=>ab fun _ hK3=>aa (zA rfl ?_)))
 refine zA rfl ?_
 refine zk hp hr h [] Tryz.call22 (vi n p0 p1) rfl (fun _=>rfl) fun y4 h=>al (du rfl) rfl (zQ hK3 (zB rfl h (fun _ h=>?_) fun _ h=>?_))
 · exact ab fun _ hK6=>aa (za rfl (zQ hK6 (ar (zX (.cons (aw rfl) .nil) h rfl))))
 · refine an (hK2 _ _ (ab fun _ hK7=>ab fun _ hK8=>aa (zf rfl (zl rfl (al (bQ rfl) rfl (zm rfl (zQ hK8 (aB (zL hr h (fun (v9:Int)=>[(0,.agg (ga p0)),(1,.agg (ga p1)),(2,.ptr 102 0),(3,.ptr 103 0),(12,I (List.length p0.cB:Int)),(13,I v9)]) (fun (v9:Int)=>[(102,.box (ga p0)),(103,.box (ga p1))]) rfl fun _ v9 _ hK11 h=>ab fun _ hK12=>aa (zc rfl (zQ hK12 (ab fun _ hK13=>zB rfl h (fun _ h=>?_) fun _ h=>?_))))))))))))
   · refine an (hK13 _ _ (ab fun _ hK15=>aB (ab fun _ hK16=>aa (zm rfl (za rfl (zQ hK16 (ab fun _ hK17=>bo [0,1,2,3,4,5,6,7,8,9,10] rfl (by kernel_rfl) (zD rfl (bn rfl) rfl (zD rfl (aX rfl rfl rfl) rfl (zD rfl (aq rfl) rfl (ze hr h fun CH h19 h20 h21 h=>zD rfl (eE bJ.bb bJ.bE h19 h20 h21 rfl rfl rfl) rfl (zD rfl (fi rfl rfl) rfl ?_))))))))))))
     refine zD rfl (bn rfl) rfl (zD rfl (aX rfl rfl rfl) rfl (zD rfl (aq rfl) rfl (ze hr h fun x22 h23 h24 h25 h=>zD rfl (eE bJ.bb bJ.bE h23 h24 h25 rfl rfl rfl) rfl (zD rfl (fi rfl rfl) rfl ?_))))
     refine zD rfl (Dt rfl rfl) rfl (b4 (hK17 _ _ (zB rfl h (fun _ h=>?_) fun _ h=>?_)))
     · exact ab fun _ hK27=>aa (za rfl (zQ hK27 (ar (zX (.cons (aw rfl) .nil) h rfl))))
     · exact an (hK15 _ _ (aa (zd hr h fun hg28 h=>zo hg28 rfl (zm rfl (ao (hK11 _ _ _ h rfl))))))
   · exact bh (hK7 _ _ (ab fun _ hK29=>aa (zf rfl (zl rfl (zf rfl (zl rfl (zk hp hr h [] Tryz.call31 (rC n p0.Decls p1.Decls) rfl (fun _=>rfl) fun y30 h=>za rfl (zQ hK29 (ar (zX (.cons (aw rfl) .nil) h rfl))))))))))
def gG (n:Nat) (p0:ai) (p1:ai):ay (Bool):=
 ay.bind (dA n p0 p1) fun y3=>br y3 (ay.bind (di n p0 p1) fun y5=>.ok (y5)) (.ok (false))
theorem nH (n:Nat) (p0:ai) (p1:ai):CT Tryz.prog 17 [.agg (aV p0),.agg (aV p1)] [] (gG n p0 p1) (fun x=>Bo x) (fun _=>[]):=by
 refine zC Tryz.func17 rfl fun r hp h hr E hE=>ab fun _ hK1=>aa (cM 102 (hE _ rfl) ⟨rfl,rfl,rfl,rfl,rfl,rfl,rfl⟩ rfl ?_)
 refine cM 103 (hE _ rfl) ⟨rfl,rfl,rfl,rfl,rfl,rfl,rfl⟩ rfl ?_
 refine za rfl (zQ hK1 (ab fun _ hK2=>aa (zA rfl ?_)))
 refine zA rfl ?_
 refine zk hp hr h [] Tryz.call23 (sD n p0 p1) rfl (fun _=>rfl) fun y3 h=>zm rfl (zb y3 (fun hb4=>?_) fun hb4=>?_)
 · refine z1 hb4 h fun h=>zG hb4 rfl (hY rfl rfl rfl rfl) ?_
   refine zG hb4 rfl (hY rfl rfl rfl rfl) ?_
   exact zK hb4 rfl hp hr h [] Tryz.call41 (sf n p0 p1) rfl (fun _=>rfl) fun y5 h=>zy hb4 rfl (za rfl (zQ hK2 (ar (zX (.cons (aw rfl) .nil) h rfl))))
 · exact z2 hb4 h fun h=>zg hb4 rfl (zg hb4 rfl (zg hb4 rfl (zw hb4 rfl (za rfl (zQ hK2 (ar (zX (.cons (aw rfl) .nil) h rfl)))))))
def jv (n:Nat) (p0:(List UInt8)):ay (Bool):=
 br (decide ((List.length p0:Int)>400)) (ay.bind (iB 64) fun y6=>.ok (y6)) (ay.bind (jg n p0) fun y8=>ay.bind (me n p0) fun y10=>jn (fun (_:Unit)=>br (y8.2.Errno==0) (br (y10.2.Errno==0) (ay.bind (iB 64) fun y17=>.ok (y17)) (ay.bind (gG n y10.1 (ai.mk 0 [] 0 [] [] [] [] [] 0)) fun y18=>br y18 (ay.bind (iB 64) fun y20=>.ok (y20)) (.ok (false)))) (ay.bind (mX n y8.1 (eI.mk [] [] [] [])) fun y21=>br y21 (br (y10.2.Errno==0) (ay.bind (iB 64) fun y24=>.ok (y24)) (ay.bind (gG n y10.1 (ai.mk 0 [] 0 [] [] [] [] [] 0)) fun y25=>br y25 (ay.bind (iB 64) fun y27=>.ok (y27)) (.ok (false)))) (.ok (false)))) fun j12=>br (decide (y8.2.At<0)) (.ok (false)) (br (decide (y8.2.At>(List.length p0:Int))) (.ok (false)) (br (decide (y10.2.At<0)) (.ok (false)) (br (decide (y10.2.At>(List.length p0:Int))) (.ok (false)) (br (y8.2.Errno==0) (br (y8.2.At !=0) (.ok (false)) (br (y10.2.Errno==0) (br (y10.2.At !=0) (.ok (false)) (j12 ())) (j12 ()))) (br (y10.2.Errno==0) (br (y10.2.At !=0) (.ok (false)) (j12 ())) (j12 ())))))))
theorem qZ (n:Nat) (p0:(List UInt8)):CT Tryz.prog 6 [bd p0] [] (jv n p0) (fun x=>Bo x) (fun _=>[]):=by
 refine zC Tryz.func6 rfl fun r hp h hr E hE=>ab fun _ hK1=>aa (za rfl (zQ hK1 (ab fun _ hK2=>ab fun _ hK3=>aa (zm rfl (al (cD rfl) rfl (zc rfl (zQ hK3 (zB rfl h (fun _ h=>?_) fun _ h=>?_))))))))
 · exact ab fun _ hK5=>aa (zk hp hr h [] Tryz.call11 (kA 64) rfl (fun _=>rfl) fun y6 h=>za rfl (zQ hK5 (ar (zX (.cons (aw rfl) .nil) h rfl))))
 · refine an (hK2 _ _ (ab fun _ hK7=>aa (zm rfl (zk hp hr h [] Tryz.call12 (kz n p0) rfl (fun _=>rfl) fun y8 h=>zm rfl (zx rfl (zx rfl (aM 103 (hE _ rfl) ⟨rfl,rfl,rfl,rfl⟩ rfl ?_)))))))
   refine aM 104 (hE _ rfl) ⟨rfl,rfl,rfl,rfl⟩ rfl ?_
   refine zs rfl (zs rfl (zQ hK7 (ab fun _ hK9=>aa (zm rfl (zk hp hr h [] Tryz.call15 (rN n p0) rfl (fun _=>rfl) fun y10 h=>zm rfl (zx rfl (zx rfl (aM 105 (hE _ rfl) ⟨rfl,rfl,rfl,rfl⟩ rfl ?_))))))))
   refine aM 106 (hE _ rfl) ⟨rfl,rfl,rfl,rfl⟩ rfl ?_
   refine zs rfl (zs rfl (zQ hK9 (zM h (fun (v11:Unit)=>[(0,bd p0),(3,.ptr 103 0),(4,.ptr 104 0),(5,.ptr 105 0),(6,.ptr 106 0)]) (fun (v11:Unit)=>[(103,.box (ga y8.1)),(104,.box [I y8.2.Errno,I y8.2.At]),(105,.box (aV y10.1)),(106,.box [I y10.2.Errno,I y10.2.At])]) (fun v11 h=>?_) fun _ _ hK13 h=>?_)))
   · refine ab fun _ hK14=>aa (zf rfl (zl rfl (zc rfl (zm rfl (zb (y8.2.Errno==0) (fun hb15=>?_) fun hb15=>?_)))))
     · refine z1 hb15 h fun h=>zg hb15 rfl (zg hb15 rfl (zg hb15 rfl (zy hb15 rfl (zm rfl (zG rfl rfl (bn rfl) (zG rfl rfl (aX rfl rfl rfl) (zG rfl rfl (bf rfl rfl rfl) (zG rfl rfl (aq rfl) (zb (y10.2.Errno==0) (fun hb16=>?_) fun hb16=>?_)))))))))
       · exact z1 hb16 h fun h=>zg hb16 rfl (zg hb16 rfl (zg hb16 rfl (zG rfl rfl (cx hb16 rfl rfl) (zt rfl (zm rfl (zK rfl rfl hp hr h [] Tryz.call11 (kA 64) rfl (fun _=>rfl) fun y17 h=>zt rfl (za rfl (zQ hK14 (ar (zX (.cons (aw rfl) .nil) h rfl))))))))))
       · refine z2 hb16 h fun h=>zG hb16 rfl (hY rfl rfl rfl rfl) ?_
         refine zG hb16 rfl (bA rfl rfl rfl) ?_
         refine zK hb16 rfl hp hr h [] Tryz.call17 (nH n y10.1 (ai.mk 0 [] 0 [] [] [] [] [] 0)) rfl (fun _=>rfl) fun y18 h=>zG rfl rfl (ct hb16 rfl rfl) (zt rfl (zm rfl (zb y18 (fun hb19=>?_) fun hb19=>?_)))
         · exact z1 hb19 h fun h=>zK hb19 rfl hp hr h [] Tryz.call11 (kA 64) rfl (fun _=>rfl) fun y20 h=>zy hb19 rfl (za rfl (zQ hK14 (ar (zX (.cons (aw rfl) .nil) h rfl))))
         · exact z2 hb19 h fun h=>zg hb19 rfl (zw hb19 rfl (za rfl (zQ hK14 (ar (zX (.cons (aw rfl) .nil) h rfl)))))
     · refine z2 hb15 h fun h=>zG hb15 rfl (hY rfl rfl rfl rfl) ?_
       refine zG hb15 rfl (bA rfl rfl rfl) ?_
       refine zK hb15 rfl hp hr h [] Tryz.call14 (uQ n y8.1 (eI.mk [] [] [] [])) rfl (fun _=>rfl) fun y21 h=>zw hb15 rfl (zm rfl (zb y21 (fun hb22=>?_) fun hb22=>?_))
       · refine z1 hb22 h fun h=>zG hb22 rfl (bn rfl) (zG hb22 rfl (aX rfl rfl rfl) (zG hb22 rfl (bf rfl rfl rfl) (zG hb22 rfl (aq rfl) (zb (y10.2.Errno==0) (fun hb23=>?_) fun hb23=>?_))))
         · exact z1 hb23 h fun h=>zg hb23 rfl (zg hb23 rfl (zg hb23 rfl (zG hb22 rfl (cx hb23 rfl rfl) (zy hb22 rfl (zm rfl (zK rfl rfl hp hr h [] Tryz.call11 (kA 64) rfl (fun _=>rfl) fun y24 h=>zt rfl (za rfl (zQ hK14 (ar (zX (.cons (aw rfl) .nil) h rfl))))))))))
         · refine z2 hb23 h fun h=>zG hb23 rfl (hY rfl rfl rfl rfl) ?_
           refine zG hb23 rfl (bA rfl rfl rfl) ?_
           refine zK hb23 rfl hp hr h [] Tryz.call17 (nH n y10.1 (ai.mk 0 [] 0 [] [] [] [] [] 0)) rfl (fun _=>rfl) fun y25 h=>zG hb22 rfl (ct hb23 rfl rfl) (zy hb22 rfl (zm rfl (zb y25 (fun hb26=>?_) fun hb26=>?_)))
           · exact z1 hb26 h fun h=>zK hb26 rfl hp hr h [] Tryz.call11 (kA 64) rfl (fun _=>rfl) fun y27 h=>zy hb26 rfl (za rfl (zQ hK14 (ar (zX (.cons (aw rfl) .nil) h rfl))))
           · exact z2 hb26 h fun h=>zg hb26 rfl (zw hb26 rfl (za rfl (zQ hK14 (ar (zX (.cons (aw rfl) .nil) h rfl)))))
       · exact z2 hb22 h fun h=>zg hb22 rfl (zg hb22 rfl (zg hb22 rfl (zg hb22 rfl (zu rfl (zu rfl (zu rfl (zg hb22 rfl (zw hb22 rfl (zm rfl (zg rfl rfl (al (dj rfl rfl) rfl (za rfl (zQ hK14 (ar (zX (.cons (aw rfl) .nil) h rfl)))))))))))))))
   · refine ab fun _ hK28=>aa (zf rfl (zl rfl (zc rfl (zm rfl (zb (decide (y8.2.At<0)) (fun hb29=>?_) fun hb29=>?_)))))
     · refine z1 hb29 h fun h=>zg hb29 rfl (zg hb29 rfl (zg hb29 rfl (zg hb29 rfl (zg hb29 rfl (zy hb29 rfl (zm rfl (zg rfl rfl (zg rfl rfl (zg rfl rfl (zt rfl (zm rfl (zg rfl rfl (zg rfl rfl (zg rfl rfl (zg rfl rfl (zg rfl rfl (zt rfl (zm rfl (zg rfl rfl (zg rfl rfl (zg rfl rfl (zg rfl rfl (zu rfl ?_)))))))))))))))))))))))
       refine zu rfl (zu rfl (zg rfl rfl (zt rfl (zm rfl (zg rfl rfl (zg rfl rfl (zg rfl rfl (zg rfl rfl (zu rfl (zu rfl (zu rfl (zg rfl rfl (zt rfl (zQ hK28 (cg rfl (fun hc=>?_) (fun hc=>?_))))))))))))))))
       · exact ab fun _ hK30=>aa (za rfl (zQ hK30 (ar (zX (.cons (aw rfl) .nil) h rfl))))
       · exact absurd (hc) (by simp)
     · refine z2 hb29 h fun h=>zG hb29 rfl (bn rfl) (zG hb29 rfl (aX rfl rfl rfl) (zG hb29 rfl (aq rfl) (zG hb29 rfl (cD rfl) (zG hb29 rfl (bf rfl rfl rfl) (zw hb29 rfl (zm rfl (zb (decide (y8.2.At>(List.length p0:Int))) (fun hb31=>?_) fun hb31=>?_)))))))
       · refine z1 hb31 h fun h=>zg hb31 rfl (zg hb31 rfl (zg hb31 rfl (zy hb31 rfl (zm rfl (zg rfl rfl (zg rfl rfl (zg rfl rfl (zg rfl rfl (zg rfl rfl (zt rfl (zm rfl (zg rfl rfl (zg rfl rfl (zg rfl rfl (zg rfl rfl (zu rfl (zu rfl (zu rfl (zg rfl rfl (zt rfl (zm rfl (zg rfl rfl (zg rfl rfl ?_)))))))))))))))))))))))
         refine zg rfl rfl (zg rfl rfl (zu rfl (zu rfl (zu rfl (zg rfl rfl (zt rfl (zQ hK28 (cg rfl (fun hc=>?_) (fun hc=>?_)))))))))
         · exact ab fun _ hK32=>aa (za rfl (zQ hK32 (ar (zX (.cons (aw rfl) .nil) h rfl))))
         · exact absurd (hc) (by simp)
       · refine z2 hb31 h fun h=>zG hb31 rfl (bn rfl) (zG hb31 rfl (aX rfl rfl rfl) (zG hb31 rfl (bf rfl rfl rfl) (zw hb31 rfl (zm rfl (zb (decide (y10.2.At<0)) (fun hb33=>?_) fun hb33=>?_)))))
         · refine z1 hb33 h fun h=>zg hb33 rfl (zg hb33 rfl (zg hb33 rfl (zg hb33 rfl (zg hb33 rfl (zy hb33 rfl (zm rfl (zg rfl rfl (zg rfl rfl (zg rfl rfl (zg rfl rfl (zu rfl (zu rfl (zu rfl (zg rfl rfl (zt rfl (zm rfl (zg rfl rfl (zg rfl rfl (zg rfl rfl (zg rfl rfl (zu rfl (zu rfl (zu rfl ?_)))))))))))))))))))))))
           refine zg rfl rfl (zt rfl (zQ hK28 (cg rfl (fun hc=>?_) (fun hc=>?_))))
           · exact ab fun _ hK34=>aa (za rfl (zQ hK34 (ar (zX (.cons (aw rfl) .nil) h rfl))))
           · exact absurd (hc) (by simp)
         · refine z2 hb33 h fun h=>zG hb33 rfl (bn rfl) (zG hb33 rfl (aX rfl rfl rfl) (zG hb33 rfl (aq rfl) (zG hb33 rfl (cD rfl) (zG hb33 rfl (bf rfl rfl rfl) (zw hb33 rfl (zm rfl (zb (decide (y10.2.At>(List.length p0:Int))) (fun hb35=>?_) fun hb35=>?_)))))))
           · refine z1 hb35 h fun h=>zg hb35 rfl (zg hb35 rfl (zg hb35 rfl (zg hb35 rfl (zu rfl (zu rfl (zu rfl (zg hb35 rfl (zy hb35 rfl (zm rfl (zg rfl rfl (zg rfl rfl (zg rfl rfl (zg rfl rfl (zu rfl (zu rfl (zu rfl (zg rfl rfl (zt rfl (zQ hK28 (cg rfl (fun hc=>?_) (fun hc=>?_)))))))))))))))))))))
             · exact ab fun _ hK36=>aa (za rfl (zQ hK36 (ar (zX (.cons (aw rfl) .nil) h rfl))))
             · exact absurd (hc) (by simp)
           · refine z2 hb35 h fun h=>zG hb35 rfl (bn rfl) (zG hb35 rfl (aX rfl rfl rfl) (zG hb35 rfl (bf rfl rfl rfl) (zG hb35 rfl (aq rfl) (zb (y8.2.Errno==0) (fun hb37=>?_) fun hb37=>?_))))
             · refine z1 hb37 h fun h=>zG hb37 rfl (bn rfl) (zG hb37 rfl (aX rfl rfl rfl) (zG hb37 rfl (bf rfl rfl rfl) (zG hb35 rfl (cx hb37 rfl rfl) (zw hb35 rfl (zm rfl (zb (y8.2.At !=0) (fun hb38=>?_) fun hb38=>?_))))))
               · refine z1 hb38 h fun h=>zg hb38 rfl (zg hb38 rfl (zg hb38 rfl (zg hb38 rfl (zu rfl (zu rfl (zu rfl (zg hb38 rfl (zy hb38 rfl (zQ hK28 (cg rfl (fun hc=>?_) (fun hc=>?_)))))))))))
                 · exact ab fun _ hK39=>aa (za rfl (zQ hK39 (ar (zX (.cons (aw rfl) .nil) h rfl))))
                 · exact absurd (hc) (by simp)
               · refine z2 hb38 h fun h=>zG hb38 rfl (bn rfl) (zG hb38 rfl (aX rfl rfl rfl) (zG hb38 rfl (bf rfl rfl rfl) (zG hb38 rfl (aq rfl) (zb (y10.2.Errno==0) (fun hb40=>?_) fun hb40=>?_))))
                 · refine z1 hb40 h fun h=>zG hb40 rfl (bn rfl) (zG hb40 rfl (aX rfl rfl rfl) (zG hb40 rfl (bf rfl rfl rfl) (zG hb38 rfl (cx hb40 rfl rfl) (zw hb38 rfl (zQ hK28 (zB rfl h (fun _ h=>?_) fun _ h=>?_))))))
                   · exact ab fun _ hK42=>aa (za rfl (zQ hK42 (ar (zX (.cons (aw rfl) .nil) h rfl))))
                   · exact an (hK13 _ _ _ h rfl)
                 · refine z2 hb40 h fun h=>zg hb40 rfl (zg hb40 rfl (zg hb40 rfl (zG hb38 rfl (ct hb40 rfl rfl) (zw hb38 rfl (zQ hK28 (cg rfl (fun hc=>?_) (fun hc=>?_)))))))
                   · exact absurd (hc) (by simp)
                   · exact an (hK13 _ _ _ h rfl)
             · refine z2 hb37 h fun h=>zg hb37 rfl (zg hb37 rfl (zg hb37 rfl (zG hb35 rfl (ct hb37 rfl rfl) (zw hb35 rfl (zm rfl (zG rfl rfl (bn rfl) (zG rfl rfl (aX rfl rfl rfl) (zG rfl rfl (bf rfl rfl rfl) (zG rfl rfl (aq rfl) (zb (y10.2.Errno==0) (fun hb43=>?_) fun hb43=>?_))))))))))
               · refine z1 hb43 h fun h=>zG hb43 rfl (bn rfl) (zG hb43 rfl (aX rfl rfl rfl) (zG hb43 rfl (bf rfl rfl rfl) (zG rfl rfl (cx hb43 rfl rfl) (al (dj rfl rfl) rfl (zQ hK28 (zB rfl h (fun _ h=>?_) fun _ h=>?_))))))
                 · exact ab fun _ hK45=>aa (za rfl (zQ hK45 (ar (zX (.cons (aw rfl) .nil) h rfl))))
                 · exact an (hK13 _ _ _ h rfl)
               · refine z2 hb43 h fun h=>zg hb43 rfl (zg hb43 rfl (zg hb43 rfl (zG rfl rfl (ct hb43 rfl rfl) (al (dj rfl rfl) rfl (zQ hK28 (cg rfl (fun hc=>?_) (fun hc=>?_)))))))
                 · exact absurd (hc) (by simp)
                 · exact an (hK13 _ _ _ h rfl)
end Go.Abs
end
section
namespace Go.Abs
open ay
theorem Br:iB 64=.ok true:=by kernel_rfl
section
variable {m:Nat→Nat}
theorem rQ (hm:b1 m):Ev (fun i=>gg (m i) [] []) (fun r=>r=true) gp:=by
 unfold gg
 refine Ev.bM (fun h=>absurd rfl h) (fun _=>?_)
 refine Ev.iter hm (fun (x:Int)=>x=0) (fun _=>0) rfl ?_
 intro x hx next hn
 exact Ev.aW (fun h=>by simp at h;omega) (fun _=>Ev.ok rfl)
theorem ra (hm:b1 m):Ev (fun i=>cX (m i) [] []) (fun r=>r=true) gp:=by
 refine Ev.grow (F:=fun n=>cX n [] []) hm fun m hm=>?_
 show Ev (fun i=>js (m i) (ea (m i)) [] []) _ _
 unfold js
 refine Ev.bM (fun h=>absurd rfl h) (fun _=>?_)
 refine Ev.iter hm (fun (x:Int)=>x=0) (fun _=>0) rfl ?_
 intro x hx next hn
 exact Ev.aW (fun h=>by simp at h;omega) (fun _=>Ev.ok rfl)
theorem pU (hm:b1 m):Ev (fun i=>cK (m i) [] []) (fun r=>r=true) gp:=by
 refine Ev.grow (F:=fun n=>cK n [] []) hm fun m hm=>?_
 show Ev (fun i=>iM (m i) (dT (m i)) [] []) _ _
 unfold iM
 refine Ev.iter hm (fun (x:Int)=>x=0) (fun _=>0) rfl ?_
 intro x hx next hn
 exact Ev.aW (fun h=>by simp at h;omega) (fun _=>Ev.ok rfl)
theorem yb (hm:b1 m):Ev (fun i=>mX (m i) Bq Bq) (fun r=>r=true) gp:=by
 unfold mX
 refine Ev.bind (Q:=fun r=>r=true) (R':=gp) ?_ (fun _ q=>q) fun r hr=>?_
 ·unfold qX
  refine Ev.bM (fun h=>absurd rfl h) (fun _=>Ev.bM (fun h=>absurd rfl h) (fun _=>?_))
  refine Ev.bind (rQ hm) (fun _ q=>q) fun y hy=>Ev.bj (fun h=>by rw[hy] at h;cases h) (fun _=>?_)
  refine Ev.iter hm (fun (x:Int)=>x=0) (fun _=>0) rfl ?_
  intro x hx next hn
  exact Ev.aW (fun h=>by simp[Bq] at h;omega) (fun _=>Ev.bind (ra hm) (fun _ q=>q) fun y hy=>Ev.ok hy)
 ·refine Ev.bj (fun h=>by rw[hr] at h;cases h) (fun _=>?_)
  refine Ev.iter hm (fun (x:Int)=>x=0) (fun _=>0) rfl ?_
  intro x hx next hn
  exact Ev.aW (fun h=>by simp[Bq] at h;omega) (fun _=>Ev.bind (pU hm) (fun _ q=>q) fun y hy=>Ev.ok hy)
theorem uR (hm:b1 m):Ev (fun i=>gG (m i) tc tc) (fun r=>r=true) gp:=by
 unfold gG
 refine Ev.bind (Q:=fun r=>r=true) (R':=gp) ?_ (fun _ q=>q) fun r hr=>?_
 ·refine Ev.grow (F:=fun n=>dA n tc tc) hm fun m hm=>?_
  show Ev (fun i=>jN (m i) (ea (m i)) tc tc) _ _
  unfold jN
  refine Ev.bM (fun h=>absurd rfl h) (fun _=>Ev.bM (fun h=>absurd rfl h) (fun _=>Ev.bM (fun h=>absurd rfl h) (fun _=>?_)))
  refine Ev.bj (fun h=>by cases h) (fun _=>Ev.bM (fun h=>absurd rfl h) (fun _=>?_))
  refine Ev.bind (rQ hm) (fun _ q=>q) fun y hy=>Ev.bj (fun h=>by rw[hy] at h;cases h) (fun _=>?_)
  refine Ev.iter hm (fun (x:Int)=>x=0) (fun _=>0) rfl ?_
  intro x hx next hn
  exact Ev.aW (fun h=>by simp[tc,TS] at h;omega) (fun _=>Ev.bind (ra hm) (fun _ q=>q) fun y hy=>Ev.ok hy)
 ·refine Ev.br (fun _=>?_) (fun h=>by rw[hr] at h;cases h)
  refine Ev.bind (Q:=fun r=>r=true) (R':=gp) ?_ (fun _ q=>q) fun r hr=>Ev.ok hr
  refine Ev.grow (F:=fun n=>di n tc tc) hm fun m hm=>?_
  show Ev (fun i=>ju (m i) (dT (m i)) tc tc) _ _
  unfold ju
  refine Ev.iter hm (fun (x:Int)=>x=0) (fun _=>0) rfl ?_
  intro x hx next hn
  refine Ev.aW (fun h=>by simp[tc,TS] at h;omega) (fun _=>Ev.bm (fun _=>?_) (fun h=>absurd rfl h))
  exact Ev.bind (pU hm) (fun _ q=>q) fun y hy=>Ev.ok hy
theorem tF (hm:b1 m) {s:List UInt8}:Ev (fun i=>jv (m i) s) (fun r=>r=true) gp:=by
 unfold jv
 have hA:Ev (fun _=>ay.bind (iB 64) fun y=>.ok y) (fun r=>r=true) gp:=Ev.vD Br (Ev.ok rfl)
 refine Ev.aW (fun _=>hA) (fun _=>?_)
 refine Ev.bind (uO hm) (fun _ q=>q) fun y hy=>Ev.bind (uP hm) (fun _ q=>q) fun z hz=>?_
 obtain ⟨y1,y2,y3,y4⟩:=hy
 obtain ⟨z1,z2,z3,z4⟩:=hz
 refine Ev.jn (fun _=>True) (fun v _=>?_) (fun j hj=>?_)
 ·have hE:z.2.Errno≠0→Ev (fun i=>ay.bind (gG (m i) z.1 (ai.mk 0 [] 0 [] [] [] [] [] 0)) fun y=>ay.br y (ay.bind (iB 64) fun y=>.ok y) (.ok false)) (fun r=>r=true) gp:=fun h=>by
   rw[z4 h]
   exact Ev.bind (uR hm) (fun _ q=>q) fun y hy=>Ev.br (fun _=>hA) (fun h=>by rw[hy] at h;cases h)
  refine Ev.bm (fun _=>Ev.bm (fun _=>hA) (fun h=>hE h)) (fun h=>?_)
  rw[y4 h]
  exact Ev.bind (yb hm) (fun _ q=>q) fun y hy=>Ev.br (fun _=>Ev.bm (fun _=>hA) (fun h=>hE h)) (fun h=>by rw[hy] at h;cases h)
 ·refine Ev.aW (fun h=>by omega) (fun _=>Ev.aW (fun h=>by omega) (fun _=>Ev.aW (fun h=>by omega) (fun _=>Ev.aW (fun h=>by omega) (fun _=>?_))))
  refine Ev.bm (fun h=>Ev.bM (fun h2=>absurd (y3 h).1 h2) (fun _=>?_)) (fun _=>?_)
  ·exact Ev.bm (fun h=>Ev.bM (fun h2=>absurd (z3 h).1 h2) (fun _=>hj _ trivial)) (fun _=>hj _ trivial)
  ·exact Ev.bm (fun h=>Ev.bM (fun h2=>absurd (z3 h).1 h2) (fun _=>hj _ trivial)) (fun _=>hj _ trivial)
theorem sg (s:List UInt8):∃ n,jv n s=.ok true:=by
 obtain ⟨a,rfl,N,hN⟩:=(tF b1.id (s:=s)).get
 exact ⟨N,hN N (Nat.le_refl _)⟩
end
end Go.Abs
end
