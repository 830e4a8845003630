/- PROVED: lemmas of the proof of: configlanglaw26.ParserExprs returns true for every input. CONDITIONS: as each lemma states. -/
import Derived.Test.YtlfolpjenfkhiaaGreatDoorX12
import Derived.Test.YtlfolpjenfkhiaaGreatDoorRows
set_option linter.all false
namespace Go.Abs
open Go.ChangeShapes Go.WideShapes Go.ChangeAt Go.RowKit
section
variable {H:Type} {SD:TypeId×Value->H} {P:Program} {W:World}
def abT {w:World} {base:Nat} {sp:Nat->Bool} {fuel:Nat} {t:TypeId} {ms:Array (String×TypeId)} {cs:List Value} {nm:String} {d:DataW H} {p:List MemPlace} (ht:P.underlying t=some (.interface ms)) (h:DataW.trod SD P w base sp false fuel t cs=some (.iface nm d,p)):∃ u v,cs=[.iface u v]:=by
 cases fuel with
 | zero=>simp[DataW.trod] at h
 | succ fuel=>
  simp only[DataW.trod,ht] at h
  split at h<;>first|(exact ⟨_,_,rfl⟩)|(simp at h;done)|(rename_i q;simp at q;done)|skip
variable {f:FuncId}
def abU {a:Assume} {C:Checked} {os:Os} {fn:Func} {s:ChangeSpec} {conds:List PathCond} {apart fresh handsOn again:Bool} {X:World->Array Value->Prop} (hX:∀ (w w':World) (args:Array Value),w.heap=w'.heap->X w args->X w' args) (own:ownKnob C.prog.godebug=none) (started:os.Started) (noInit:C.prog.inits.idxOf? f=none) (hfn:C.prog.funcs[f]?=some fn) (witness:∃ (w:World) (tape:Tape) (i:Input),w.os=os/\(w.forCall tape i).Shaped C.prog/\i.vars=[]/\Input.okWide C.prog (w.forCall tape i) .any w.heap.size f i/\
   ((s.pre SD C.prog fn conds apart (w.forCall tape i).memory i.args/\X (w.forCall tape i).memory i.args)/\sizedMet SD C.prog fn (OpenSpec.ofChange s) apart (w.forCall tape i).memory i.args)/\a.holds C.prog (lone (Frame.enter C.prog f i.args .normal) [] (w.forCall tape i))) (contract:∀ (W:World) (base:Nat) (args:Array Value) (ds gs:List (DataW H)) (before:List MemPlace),
   (∀ (j:Nat) t v,fn.params[j]?=some t->args[j]?=some v->Value.okWide C.prog W .any base t v)->
   DataW.Whole SD C.prog fn.params.toList s.vars apart W args.toList ds gs before->
   W.ShapedOpen C.prog->X W args->
   Calls C.prog f args W λe W'=>∃ v,e=.returned v/\s.post SD C.prog fn apart fresh handsOn again W args v W') :
  ReturnsInHanded a C os f .any (λw args=>(s.pre SD C.prog fn conds apart w args/\X w args)/\sizedMet SD C.prog fn (OpenSpec.ofChange s) apart w args) (s.post SD C.prog fn apart fresh handsOn again):=by
 refine returnsInHanded_of_calls own started noInit witness ?_
 intro w tape i _ hsh _ Gz hpre hholds
 obtain ⟨_,_,_,fn',hfn',_,_,_,_,zi⟩:=Gz
 have e:fn'=fn:=jy (hfn'.symm.trans hfn)
 subst e
 obtain ⟨⟨⟨ds,gs,before,hw,hc⟩,hx⟩,hz⟩:=hpre
 have Lw:=DataW.Whole.of_heap (w':=w.forCall tape i) (by rfl) hw
 refine (contract (w.forCall tape i) w.heap.size i.args ds gs before zi Lw hsh (hX _ _ _ (by rfl) hx)).mono λe W' ⟨v,he,hp⟩=>?_
 subst he
 exact ChangeSpec.post_blind hp
def gh0:Gh:=⟨λ_=>none,λ_=>0,λ_=>none⟩
def alo (h:GF W):Rel (Env.of W gh0 (bU []) W) gh0 (bU []) W where
 rU:=λk e q=>by cases q
 inj:=λk k' b q=>by cases q
 gl:=λb ys q=>by cases q
 apart:=λk b e q=>by cases q
 size:=ik _
 yq:=λ_ _ _=>rfl
 own:=λk b q=>by cases q
 fix:=λk b q=>q
 pP:=λ_ _ _=>rfl
 g0:=λb ys q=>by cases q
 gn:=λb ys q=>by cases q
 os:=rfl
 out:=rfl
 tape:=rfl
 x:=⟨λb cs el fz q=>⟨cs,q,rfl⟩,λk b cs el fz _ q hf=>⟨cs,q,hf⟩,λ_ _=>rfl,ik _,λk b q=>DQ,h,λk b q=>DQ,λk b q=>DQ,λk b k' q=>DQ,λk b e q=>DQ⟩
def Uw {W':World} {g:Gh} {σ:fi} (h:Rel (Env.of W gh0 (bU []) W) g σ W'):Below W.heap.size W W':=
 ⟨h.os,h.tape,h.out,h.size,λk hk=>h.yq k hk (λ⟨j,q,_⟩=>by cases q)⟩
def agp {args:List AV} {vs:List Value} {res:aG Bool} (hc:CT P f args [] res (λx=>Bo x) (λ_=>[])) (hr:res=.ok true) (hg:GF W) (hv:Y gh0 args vs) :
  Calls P f vs.toArray W λe W'=>e=.returned (.bool true)/\Below W.heap.size W W':=by
 refine (hc.h res rfl (by rw[hr];exact dC) W gh0 W vs (alo hg) hv).mono λe W' ⟨g,ae,σ,hR,hE,hw⟩=>⟨?_,Uw hw⟩
 rcases hR with ⟨x,hx,rfl,_⟩|⟨v,⟨p,hp,_⟩,_⟩
 ·rw[hr] at hx;cases hx
  cases hE with
  | ret h=>rw[<- h.gO]
 ·rw[hr] at hp;cases hp
end
end Go.Abs
namespace Go.Abs
open Go.Proofs Go.ChangeShapes Go.WideShapes Go.ChangeAt Go.RowKit
section
def ajR:ownKnob Tryz.prog.godebug=none:=by kernel_rfl
abbrev KR:OpenClaim:=YtlfolpjenfkhiaaGreatDoor.Rows.parserExprsRow
abbrev KL:List (String×DataW Unit):=YtlfolpjenfkhiaaGreatDoor.Rows.parserExprsRow.laid
variable {W:World}
def adF {n:String} {g:Nat} {d:DataW Unit} {nm:String} (hg:Tryz.prog.globalNamed n=some g) (ht:(Tryz.prog.globals[g]?).map (·.type)=some 129) (h:Lib.VarReads Tryz.prog W n (.iface nm d)) :
  ∃ ev,W.cell? ⟨g,0,none⟩=some ev/\(ev=.nilIface\/∃ te pe,ev=.iface te pe):=by
 obtain ⟨g',t,cs,fuel,p,h1,h2,h3,h4⟩:=h
 obtain rfl:=jy (hg.symm.trans h1)
 obtain rfl:=jy (ht.symm.trans h2)
 obtain ⟨u,v,e⟩:=abT Tryz.underlying129 h4
 have:=World.var?_cell hg h3 0
 rw[<- Array.getElem?_toList,e] at this
 exact ⟨_,this,.inr ⟨u,v,rfl⟩⟩
def ajS:(YtlfolpjenfkhiaaGreatDoor.Rows.laid_internal_strconv_uint64pow10:DataW Unit)=Lib.tabData .u64 Lib.pow10Tab:=by rfl
def alp (hsh:W.ShapedOpen Tryz.prog) (hL:laidMetH Tryz.prog KL W):GF W:=by
 rw[MakeChecks.laidMetH_plain _ _ _ (by kernel_rfl)] at hL;refine ⟨cell_of_shapedOpen_int (t:=3) (zero:=#[.int .i64 0]) hsh (bg (by kernel_rfl)) (by kernel_rfl) rfl (by kernel_rfl) (by kernel_rfl) Tryz.underlying3,?_,?_,?_⟩
 ·exact adF (n:= "strconv.ErrSyntax") (by kernel_rfl) (by kernel_rfl) (Lib.laidMet.reads hL (.tail _ (.tail _ (.tail _ (.tail _ (.tail _ (.head _)))))))
 ·exact adF (n:= "strconv.ErrRange") (by kernel_rfl) (by kernel_rfl) (Lib.laidMet.reads hL (.tail _ (.tail _ (.tail _ (.tail _ (.head _))))))
 have h:Lib.VarReads Tryz.prog W "internal/strconv.uint64pow10" (Lib.tabData .u64 Lib.pow10Tab):=ajS▸Lib.laidMet.reads hL (.tail _ (.tail _ (.head _)));obtain ⟨g,t,cs,fuel,p,h1,h2,h3,h4⟩:=h;obtain rfl:=jy ((show Tryz.prog.globalNamed "internal/strconv.uint64pow10"=some 3 by kernel_rfl).symm.trans h1);obtain rfl:=jy ((show (Tryz.prog.globals[3]?).map (·.type)=some 235 by kernel_rfl).symm.trans h2);have xm:=Lib.cells_of_tab Tryz.underlying235 Tryz.underlying151 (by kernel_rfl) (by kernel_rfl) h4;simp only[World.var?,h1,sJ] at h3;split at h3
 ·rename_i lj el fz hh;cases h3;exact ⟨el,fz,by rw[hh,<- xm]⟩
 cases h3
noncomputable abbrev KW (os:Os):World:=World.laidAll Tryz.prog os KL
def Yx (os:Os):((KW os).forCall (λ_ _=>0) ⟨#[],#[eSt],[]⟩).Shaped Tryz.prog:=World.shaped_of_ZipB (by kernel_rfl) (by kernel_rfl)
def agq (os:Os):laidMetH Tryz.prog KL ((KW os).forCall (λ_ _=>0) ⟨#[],#[eSt],[]⟩).memory:=by
 rw[MakeChecks.laidMetH_plain _ _ _ (by kernel_rfl)];exact laidMet_laidAll _ (by kernel_rfl) (by kernel_rfl)
def vr {a b:Bool} (h:a=true) (k:b=true):(a&&b)=true:=by rw[h,k];rfl
def Ux:laidOutB Tryz.prog=true:=by kernel_rfl
def abV:mapsRowed Tryz.prog=true:=by kernel_rfl
def Yy:(Tryz.prog.stops==[])=true:=by kernel_rfl
def Ģ:(Tryz.prog.stopKnobs==[])=true:=by kernel_rfl
def ģ:(KR.plainKeys==Tryz.prog.plainKeys)=true:=by kernel_rfl
def Ĥ:Tryz.prog.stopsHeard=true:=by kernel_rfl
def ĥ:Tryz.prog.mayEnter=true:=by kernel_rfl
def abW:(KR.lifted==Tryz.prog.liftsFinal)=true:=by kernel_rfl
def abX:(Tryz.prog.make==some KR.make)=true:=by kernel_rfl
def abY:Tryz.prog.mainIs=some (true,"58b9937d4313d5c67c7b8f838783fc3e3b3947e6a3f061afd85fb61dc1ba3fab".toList):=by kernel_rfl
def Ħ:true=Tryz.prog.looks []:=by kernel_rfl
def alq:Tryz.prog.wantsStandIn 9=false:=by kernel_rfl
end
end Go.Abs
