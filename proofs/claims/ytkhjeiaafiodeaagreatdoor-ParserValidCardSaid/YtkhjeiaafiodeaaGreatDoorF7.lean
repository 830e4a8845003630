/- PROVED: lemmas of the proof of: valid_card. CONDITIONS: as each lemma states. -/
import Derived.Test.YtkhjeiaafiodeaaGreatDoorF6
import Derived.Test.YtkhjeiaafiodeaaGreatDoorRows
import Derived.Shelf.Vars
import Derived.HandedShaped
import Derived.ProofKit
import Derived.OpenShut
import Derived.LaidMore
import Derived.Lay
import Derived.SevenTiedAt
import Derived.Stop.Joined
import Derived.Lib.LaidU8
set_option linter.all false
section
namespace Go.Abs
open Go.ChangeShapes Go.WideShapes Go.ChangeAt Go.RowKit
theorem JR {H:Type} {enc:TypeId×Value->H} {P:Program} {w:World} {base:Nat} {sp:Nat->Bool} {fuel:Nat} {t:TypeId} {ms:Array (String×TypeId)} {cs:List Value} {nm:String} {d:DataW H} {p:List MemPlace}
  (ht:P.underlying t=some (.interface ms)) (h:DataW.trod enc P w base sp false fuel t cs=some (.iface nm d,p)):∃ u v,cs=[.iface u v]:=by
 cases fuel with
 | zero=>simp[DataW.trod] at h
 | succ fuel=>
  simp only[DataW.trod,ht] at h
  split at h<;>first|(exact ⟨_,_,rfl⟩)|(simp at h;done)|(rename_i q;simp at q;done)|skip
theorem JS {H:Type} {enc:TypeId×Value->H} {a:Assume} {C:Checked} {os:Os} {f:FuncId} {fn:Func} {s:ChangeSpec} {conds:List PathCond} {apart fresh handsOn again:Bool} {X:World->Array Value->Prop}
  (hX:∀ (w w':World) (args:Array Value),w.heap=w'.heap->X w args->X w' args)
  (own:ownKnob C.prog.godebug=none) (started:os.Started) (noInit:C.prog.inits.idxOf? f=none) (hfn:C.prog.funcs[f]?=some fn)
  (witness:∃ (w:World) (tape:Tape) (i:Input),w.os=os/\(w.forCall tape i).Shaped C.prog/\i.vars=[]/\Input.okWide C.prog (w.forCall tape i) .any w.heap.size f i/\
   ((s.pre enc C.prog fn conds apart (w.forCall tape i).memory i.args/\X (w.forCall tape i).memory i.args)/\sizedMet enc C.prog fn (OpenSpec.ofChange s) apart (w.forCall tape i).memory i.args)/\a.holds C.prog (lone (Frame.enter C.prog f i.args .normal) [] (w.forCall tape i)))
  (contract:∀ (W:World) (base:Nat) (args:Array Value) (ds gs:List (DataW H)) (before:List MemPlace),
   (∀ (j:Nat) t v,fn.params[j]?=some t->args[j]?=some v->Value.okWide C.prog W .any base t v)->
   DataW.Whole enc C.prog fn.params.toList s.vars apart W args.toList ds gs before->
   W.ShapedOpen C.prog->X W args->
   Calls C.prog f args W λe W'=>∃ v,e=.returned v/\s.post enc C.prog fn apart fresh handsOn again W args v W') :
  ReturnsInHanded a C os f .any (λw args=>(s.pre enc C.prog fn conds apart w args/\X w args)/\sizedMet enc C.prog fn (OpenSpec.ofChange s) apart w args) (s.post enc C.prog fn apart fresh handsOn again):=by
 refine returnsInHanded_of_calls own started noInit witness ?_
 intro w tape i _ hsh _ hok hpre hholds
 obtain ⟨_,_,_,fn',hfn',_,_,_,_,hval⟩:=hok
 have e:fn'=fn:=Option.some.inj (hfn'.symm.trans hfn)
 subst e
 obtain ⟨⟨⟨ds,gs,before,hw,hc⟩,hx⟩,hz⟩:=hpre
 have hw':=DataW.Whole.of_heap (w':=w.forCall tape i) (by rfl) hw
 refine (contract (w.forCall tape i) w.heap.size i.args ds gs before hval hw' hsh (hX _ _ _ (by rfl) hx)).mono λe W' ⟨v,he,hp⟩=>?_
 subst he
 exact ChangeSpec.post_blind hp
def Mj:Gh:=⟨λ_=>none,λ_=>0,λ_=>none⟩
theorem MQ {W:World} (h:GF W):Rel (Env.of W Mj (bn []) W) Mj (bn []) W where
 kX:=λk e q=>by cases q
 inj:=λk k' b q=>by cases q
 gl:=λb ys q=>by cases q
 apart:=λk b e q=>by cases q
 size:=Nat.le_refl _
 pV:=λ_ _ _=>rfl
 own:=λk b q=>by cases q
 fix:=λk b q=>q
 ke:=λ_ _ _=>rfl
 g0:=λb ys q=>by cases q
 gn:=λb ys q=>by cases q
 os:=rfl
 out:=rfl
 tape:=rfl
 x:=⟨λb cs el fz q=>⟨cs,q,rfl⟩,λk b cs el fz _ q hf=>⟨cs,q,hf⟩,λ_ _=>rfl,Nat.le_refl _,λk b q=>(by cases q),h,λk b q=>(by cases q),λk b q=>(by cases q),λk b k' q=>(by cases q),λk b e q=>(by cases q)⟩
theorem DA {W W':World} {g:Gh} {σ:cl} (h:Rel (Env.of W Mj (bn []) W) g σ W'):Below W.heap.size W W':=
 ⟨h.os,h.tape,h.out,h.size,λk hk=>h.pV k hk (λ⟨j,q,_⟩=>by cases q)⟩
theorem Ln {P:Program} {f:FuncId} {args:List AV} {vs:List Value} {res:U Bool} {W:World} (hc:CT P f args [] res (λx=>Bo x) (λ_=>[])) (hr:res=.ok true) (hg:GF W) (hv:iv Mj args vs) :
  Calls P f vs.toArray W λe W'=>e=.returned (.bool true)/\Below W.heap.size W W':=by
 refine (hc.h res rfl (by rw[hr];exact λq=>by cases q) W Mj W vs (MQ hg) hv).mono λe W' ⟨g,ae,σ,hR,hE,hw⟩=>⟨?_,DA hw⟩
 rcases hR with ⟨x,hx,rfl,_⟩|⟨v,⟨p,hp,_⟩,_⟩
 ·rw[hr] at hx;cases hx
  cases hE with
  | ret h=>rw[<- h.c6]
 ·rw[hr] at hp;cases hp
end Go.Abs
end
section
namespace Go.Abs
open Go.Proofs Go.ChangeShapes Go.WideShapes Go.ChangeAt Go.RowKit
theorem Mk:ownKnob Tryz.prog.godebug=none:=by kernel_rfl
abbrev KR:OpenClaim:=YtkhjeiaafiodeaaGreatDoor.Rows.parserValidRow
abbrev KL:List (String×DataW Unit):=YtkhjeiaafiodeaaGreatDoor.Rows.parserValidRow.laid
theorem Ke {W:World} {n:String} {g:Nat} {d:DataW Unit} {nm:String} (hg:Tryz.prog.globalNamed n=some g) (ht:(Tryz.prog.globals[g]?).map (·.type)=some 150) (h:Lib.VarReads Tryz.prog W n (.iface nm d)) :
  ∃ ev,W.cell? ⟨g,0,none⟩=some ev/\(ev=.nilIface\/∃ te pe,ev=.iface te pe):=by
 obtain ⟨g',t,cs,fuel,p,h1,h2,h3,h4⟩:=h
 obtain rfl:=Option.some.inj (hg.symm.trans h1)
 obtain rfl:=Option.some.inj (ht.symm.trans h2)
 obtain ⟨u,v,e⟩:=JR Tryz.underlying150 h4
 have:=World.var?_cell hg h3 0
 rw[<- Array.getElem?_toList,e] at this
 exact ⟨_,this,.inr ⟨u,v,rfl⟩⟩
theorem Ml:(YtkhjeiaafiodeaaGreatDoor.Rows.laid_internal_strconv_uint64pow10:DataW Unit)=Lib.tabData .u64 Lib.pow10Tab:=by rfl
theorem MR {W:World} (hsh:W.ShapedOpen Tryz.prog) (hL:laidMetH Tryz.prog KL W):GF W:=by
 rw[MakeChecks.laidMetH_plain _ _ _ (by kernel_rfl)] at hL;refine ⟨cell_of_shapedOpen_int (t:=3) (zero:=#[.int .i64 0]) hsh (of_decide_eq_true (by kernel_rfl)) (by kernel_rfl) rfl (by kernel_rfl) (by kernel_rfl) Tryz.underlying3,?_,?_,?_⟩
 ·exact Ke (n:= "strconv.ErrSyntax") (by kernel_rfl) (by kernel_rfl) (Lib.laidMet.reads hL (.tail _ (.tail _ (.tail _ (.tail _ (.tail _ (.head _)))))))
 ·exact Ke (n:= "strconv.ErrRange") (by kernel_rfl) (by kernel_rfl) (Lib.laidMet.reads hL (.tail _ (.tail _ (.tail _ (.tail _ (.head _))))))
 have h:Lib.VarReads Tryz.prog W "internal/strconv.uint64pow10" (Lib.tabData .u64 Lib.pow10Tab):=Ml▸Lib.laidMet.reads hL (.tail _ (.tail _ (.head _)));obtain ⟨g,t,cs,fuel,p,h1,h2,h3,h4⟩:=h;obtain rfl:=Option.some.inj ((show Tryz.prog.globalNamed "internal/strconv.uint64pow10"=some 3 by kernel_rfl).symm.trans h1);obtain rfl:=Option.some.inj ((show (Tryz.prog.globals[3]?).map (·.type)=some 237 by kernel_rfl).symm.trans h2);have hcs:=Lib.cells_of_tab Tryz.underlying237 Tryz.underlying44 (by kernel_rfl) (by kernel_rfl) h4;simp only[World.var?,h1,Option.bind_some] at h3;split at h3
 ·rename_i cs' el fz hh;cases h3;exact ⟨el,fz,by rw[hh,<- hcs]⟩
 cases h3
noncomputable abbrev KW (os:Os):World:=World.laidAll Tryz.prog os KL
theorem Fs (os:Os):((KW os).forCall (λ_ _=>0) ⟨#[],#[eSt],[]⟩).Shaped Tryz.prog:=World.shaped_of_ZipB (by kernel_rfl) (by kernel_rfl)
theorem Lo (os:Os):laidMetH Tryz.prog KL ((KW os).forCall (λ_ _=>0) ⟨#[],#[eSt],[]⟩).memory:=by
 rw[MakeChecks.laidMetH_plain _ _ _ (by kernel_rfl)];exact laidMet_laidAll _ (by kernel_rfl) (by kernel_rfl)
theorem nq {a b:Bool} (h:a=true) (k:b=true):(a&&b)=true:=by rw[h,k];rfl
theorem DB:laidOutB Tryz.prog=true:=by kernel_rfl
theorem JT:mapsRowed Tryz.prog=true:=by kernel_rfl
theorem Ft:(Tryz.prog.stops==[])=true:=by kernel_rfl
theorem HP:(Tryz.prog.stopKnobs==[])=true:=by kernel_rfl
theorem HQ:(KR.plainKeys==Tryz.prog.plainKeys)=true:=by kernel_rfl
theorem HR:Tryz.prog.stopsHeard=true:=by kernel_rfl
theorem HS:Tryz.prog.mayEnter=true:=by kernel_rfl
theorem JU:(KR.lifted==Tryz.prog.liftsFinal)=true:=by kernel_rfl
theorem JV:(Tryz.prog.make==some KR.make)=true:=by kernel_rfl
theorem JW:Tryz.prog.mainIs=some (true,"76ae8481d8504df2a2dbfa608091ef326e9f1ac9b471349d33c210ff9f5d9874".toList):=by kernel_rfl
theorem HT:true=Tryz.prog.looks []:=by kernel_rfl
theorem MS:Tryz.prog.wantsStandIn 9=false:=by kernel_rfl
end Go.Abs
end
