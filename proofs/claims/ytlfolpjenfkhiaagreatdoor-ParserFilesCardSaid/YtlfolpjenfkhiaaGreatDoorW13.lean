/- PROVED: configlanglaw26.ParserFiles returns true for every input. CONDITIONS: none. -/
import Derived.Test.YtlfolpjenfkhiaaGreatDoorW12
import Derived.Test.YtlfolpjenfkhiaaGreatDoorRows
import Derived.Test.YtlfolpjenfkhiaaGreatDoorTie
import Derived.Test.YtlfolpjenfkhiaaGreatDoorCards
set_option linter.all false
namespace Go.Abs
open Go.ChangeShapes Go.WideShapes Go.ChangeAt Go.RowKit
section
variable {H:Type} {enc:TypeId×Value->H} {P:Program} {W:World}
def acj {w:World} {base:Nat} {sp:Nat->Bool} {fuel:Nat} {t:TypeId} {ms:Array (String×TypeId)} {cs:List Value} {nm:String} {d:DataW H} {p:List MemPlace} (ht:P.underlying t=some (.interface ms)) (h:DataW.trod enc P w base sp false fuel t cs=some (.iface nm d,p)):∃ u v,cs=[.iface u v]:=by
 cases fuel with
 | zero=>simp[DataW.trod] at h
 | succ fuel=>
  simp only[DataW.trod,ht] at h
  split at h<;>first|(exact ⟨_,_,rfl⟩)|(simp at h;done)|(rename_i q;simp at q;done)|skip
variable {f:FuncId}
def ack {a:Assume} {C:Checked} {os:Os} {fn:Func} {s:ChangeSpec} {conds:List PathCond} {apart fresh handsOn again:Bool} {X:World->Array Value->Prop} (hX:∀ (w w':World) (args:Array Value),w.heap=w'.heap->X w args->X w' args) (own:ownKnob C.prog.godebug=none) (started:os.Started) (noInit:C.prog.inits.idxOf? f=none) (hfn:C.prog.funcs[f]?=some fn) (witness:∃ (w:World) (tape:Tape) (i:Input),w.os=os/\(w.forCall tape i).Shaped C.prog/\i.vars=[]/\Input.okWide C.prog (w.forCall tape i) .any w.heap.size f i/\
   ((s.pre enc C.prog fn conds apart (w.forCall tape i).memory i.args/\X (w.forCall tape i).memory i.args)/\sizedMet enc C.prog fn (OpenSpec.ofChange s) apart (w.forCall tape i).memory i.args)/\a.holds C.prog (lone (Frame.enter C.prog f i.args .normal) [] (w.forCall tape i))) (contract:∀ (W:World) (base:Nat) (args:Array Value) (ds gs:List (DataW H)) (before:List MemPlace),
   (∀ (j:Nat) t v,fn.params[j]?=some t->args[j]?=some v->Value.okWide C.prog W .any base t v)->
   DataW.Whole enc C.prog fn.params.toList s.vars apart W args.toList ds gs before->
   W.ShapedOpen C.prog->X W args->
   Calls C.prog f args W λe W'=>∃ v,e=.returned v/\s.post enc C.prog fn apart fresh handsOn again W args v W') :
  ReturnsInHanded a C os f .any (λw args=>(s.pre enc C.prog fn conds apart w args/\X w args)/\sizedMet enc C.prog fn (OpenSpec.ofChange s) apart w args) (s.post enc C.prog fn apart fresh handsOn again):=by
 refine returnsInHanded_of_calls own started noInit witness ?_
 intro w tape i _ hsh _ GX hpre hholds
 obtain ⟨_,_,_,fn',hfn',_,_,_,_,Al⟩:=GX
 have e:fn'=fn:=jP (hfn'.symm.trans hfn)
 subst e
 obtain ⟨⟨⟨ds,gs,before,hw,hc⟩,hx⟩,hz⟩:=hpre
 have Mc:=DataW.Whole.of_heap (w':=w.forCall tape i) (by rfl) hw
 refine (contract (w.forCall tape i) w.heap.size i.args ds gs before Al Mc hsh (hX _ _ _ (by rfl) hx)).mono λe W' ⟨v,he,hp⟩=>?_
 subst he
 exact ChangeSpec.post_blind hp
def gh0:Gh:=⟨λ_=>none,λ_=>0,λ_=>none⟩
def al4 (h:GF W):Rel (Env.of W gh0 (bW []) W) gh0 (bW []) W where
 sv:=λk e q=>by cases q
 inj:=λk k' b q=>by cases q
 gl:=λb ys q=>by cases q
 apart:=λk b e q=>by cases q
 size:=iJ _
 yV:=λ_ _ _=>rfl
 own:=λk b q=>by cases q
 fix:=λk b q=>q
 qq:=λ_ _ _=>rfl
 g0:=λb ys q=>by cases q
 gn:=λb ys q=>by cases q
 os:=rfl
 out:=rfl
 tape:=rfl
 x:=⟨λb cs el fz q=>⟨cs,q,rfl⟩,λk b cs el fz _ q hf=>⟨cs,q,hf⟩,λ_ _=>rfl,iJ _,λk b q=>El,h,λk b q=>El,λk b q=>El,λk b k' q=>El,λk b e q=>El⟩
def UP {W':World} {g:Gh} {σ:fC} (h:Rel (Env.of W gh0 (bW []) W) g σ W'):Below W.heap.size W W':=
 ⟨h.os,h.tape,h.out,h.size,λk hk=>h.yV k hk (λ⟨j,q,_⟩=>by cases q)⟩
def agT {args:List AV} {vs:List Value} {res:aI Bool} (hc:CT P f args [] res (λx=>Bo x) (λ_=>[])) (hr:res=.ok true) (hg:GF W) (hv:M gh0 args vs) :
  Calls P f vs.toArray W λe W'=>e=.returned (.bool true)/\Below W.heap.size W W':=by
 refine (hc.h res rfl (by rw[hr];exact du) W gh0 W vs (al4 hg) hv).mono λe W' ⟨g,ae,σ,hR,hE,hw⟩=>⟨?_,UP hw⟩
 obtain ⟨x,hx,rfl,_⟩|⟨v,⟨p,hp,_⟩,_⟩:=hR
 ·rw[hr] at hx;cases hx
  cases hE with
  | ret h=>rw[<- h.iv]
 ·rw[hr] at hp;cases hp
end
end Go.Abs
namespace Go.Abs
open Go.Proofs Go.ChangeShapes Go.WideShapes Go.ChangeAt Go.RowKit
section
def akp:ownKnob Tryz.prog.godebug=none:=by kernel_rfl
abbrev KR:OpenClaim:=YtlfolpjenfkhiaaGreatDoor.Rows.parserFilesRow
abbrev KL:List (String×DataW Unit):=YtlfolpjenfkhiaaGreatDoor.Rows.parserFilesRow.laid
variable {W:World}
def ad6 {n:String} {g:Nat} {d:DataW Unit} {nm:String} (hg:Tryz.prog.globalNamed n=some g) (ht:(Tryz.prog.globals[g]?).map (·.type)=some 129) (h:Lib.VarReads Tryz.prog W n (.iface nm d)) :
  ∃ ev,W.cell? ⟨g,0,none⟩=some ev/\(ev=.nilIface\/∃ te pe,ev=.iface te pe):=by
 obtain ⟨g',t,cs,fuel,p,h1,h2,h3,h4⟩:=h
 obtain rfl:=jP (hg.symm.trans h1)
 obtain rfl:=jP (ht.symm.trans h2)
 obtain ⟨u,v,e⟩:=acj Tryz.underlying129 h4
 have:=World.var?_cell hg h3 0
 rw[<- Array.getElem?_toList,e] at this
 exact ⟨_,this,.inr ⟨u,v,rfl⟩⟩
def akq:(YtlfolpjenfkhiaaGreatDoor.Rows.laid_internal_strconv_uint64pow10:DataW Unit)=Lib.tabData .u64 Lib.pow10Tab:=by rfl
def al5 (hsh:W.ShapedOpen Tryz.prog) (hL:laidMetH Tryz.prog KL W):GF W:=by
 rw[MakeChecks.laidMetH_plain _ _ _ (by kernel_rfl)] at hL;refine ⟨cell_of_shapedOpen_int (t:=3) (zero:=#[.int .i64 0]) hsh (bh (by kernel_rfl)) (by kernel_rfl) rfl (by kernel_rfl) (by kernel_rfl) Tryz.underlying3,?_,?_,?_⟩
 ·exact ad6 (n:= "strconv.ErrSyntax") (by kernel_rfl) (by kernel_rfl) (Lib.laidMet.reads hL (.tail _ (.tail _ (.tail _ (.tail _ (.tail _ (.head _)))))))
 ·exact ad6 (n:= "strconv.ErrRange") (by kernel_rfl) (by kernel_rfl) (Lib.laidMet.reads hL (.tail _ (.tail _ (.tail _ (.tail _ (.head _))))))
 have h:Lib.VarReads Tryz.prog W "internal/strconv.uint64pow10" (Lib.tabData .u64 Lib.pow10Tab):=akq▸Lib.laidMet.reads hL (.tail _ (.tail _ (.head _)));obtain ⟨g,t,cs,fuel,p,h1,h2,h3,h4⟩:=h;obtain rfl:=jP ((show Tryz.prog.globalNamed "internal/strconv.uint64pow10"=some 3 by kernel_rfl).symm.trans h1);obtain rfl:=jP ((show (Tryz.prog.globals[3]?).map (·.type)=some 235 by kernel_rfl).symm.trans h2);have xJ:=Lib.cells_of_tab Tryz.underlying235 Tryz.underlying151 (by kernel_rfl) (by kernel_rfl) h4;simp only[World.var?,h1,tg] at h3;split at h3
 ·rename_i lO el fz hh;cases h3;exact ⟨el,fz,by rw[hh,<- xJ]⟩
 cases h3
noncomputable abbrev KW (os:Os):World:=World.laidAll Tryz.prog os KL
def YO (os:Os):((KW os).forCall (λ_ _=>0) ⟨#[],#[eSt],[]⟩).Shaped Tryz.prog:=World.shaped_of_ZipB (by kernel_rfl) (by kernel_rfl)
def agU (os:Os):laidMetH Tryz.prog KL ((KW os).forCall (λ_ _=>0) ⟨#[],#[eSt],[]⟩).memory:=by
 rw[MakeChecks.laidMetH_plain _ _ _ (by kernel_rfl)];exact laidMet_laidAll _ (by kernel_rfl) (by kernel_rfl)
def vT {a b:Bool} (h:a=true) (k:b=true):(a&&b)=true:=by rw[h,k];rfl
def UQ:laidOutB Tryz.prog=true:=by kernel_rfl
def acm:mapsRowed Tryz.prog=true:=by kernel_rfl
def YP:(Tryz.prog.stops==[])=true:=by kernel_rfl
def Ĳ:(Tryz.prog.stopKnobs==[])=true:=by kernel_rfl
def ĳ:(KR.plainKeys==Tryz.prog.plainKeys)=true:=by kernel_rfl
def Ĵ:Tryz.prog.stopsHeard=true:=by kernel_rfl
def ĵ:Tryz.prog.mayEnter=true:=by kernel_rfl
def acn:(KR.lifted==Tryz.prog.liftsFinal)=true:=by kernel_rfl
def aco:(Tryz.prog.make==some KR.make)=true:=by kernel_rfl
def acp:Tryz.prog.mainIs=some (true,"58b9937d4313d5c67c7b8f838783fc3e3b3947e6a3f061afd85fb61dc1ba3fab".toList):=by kernel_rfl
def Ķ:true=Tryz.prog.looks []:=by kernel_rfl
def al6:Tryz.prog.wantsStandIn 9=false:=by kernel_rfl
end
end Go.Abs
section
namespace Go.Proofs.YtlfolpjenfkhiaaGreatDoor
open Go.ChangeShapes Go.WideShapes Go.ChangeAt Go.RowKit Go.Abs
open Go.ChangeMaps (open_string shut_string)
def S3 (s:ByS) {W:World} (hg:GF W):Calls Tryz.prog 3 #[.string ⟨s.toArray⟩] W λe W'=>e=.returned (.bool true)/\Below W.heap.size W W':=by
 obtain ⟨n,hn⟩:=HE s;exact agT (vs:=[.string ⟨s.toArray⟩]) (FQ n s) hn hg (.cons (.sc _ _) .nil)
set_option maxRecDepth 100000 in
def PS (os:Os) (started:os.Started) (H:Type) (enc:TypeId×Value->H) :
  ReturnsInHanded {} Tryz.checked os 3 .any (λw args=>(Rows.parserFilesSpec.pre enc Tryz.prog Tryz.f3 Rows.parserFilesRow.domain false w args/\laidMetH Tryz.prog Rows.parserFilesRow.laid w)/\sizedMet enc Tryz.prog Tryz.f3 (OpenSpec.ofChange Rows.parserFilesSpec) false w args)
   (Rows.parserFilesSpec.post enc Tryz.prog Tryz.f3 false true false false):=by
 refine ack (C:=Tryz.checked) (X:=λw _=>laidMetH Tryz.prog Rows.parserFilesRow.laid w) (λ_ _ _ hh h=>h.of_heap hh) akp started (by kernel_rfl) Tryz.func3
  (ChangeSpec.witness_shaped (enc:=enc) (C:=Tryz.checked) (os:=os) (X:=λw _=>laidMetH Tryz.prog Rows.parserFilesRow.laid w) false (KW os) #[eSt] 8 (World.laidAll_os _ _ _)
   (YO os) (by kernel_rfl) (by kernel_rfl) (by kernel_rfl) (agU os)) ?_
 intro W base args ds gs before hval0 hW hsh hL
 have Al:∀ (j:Nat) t v,Tryz.f3.params[j]?=some t->args[j]?=some v->Value.okWide Tryz.prog W .any base t v:=hval0
 have hW':=hW
 obtain ⟨p,q,hA0,hV,rfl,_,_⟩:=hW
 have hA:DataW.TrodAll enc Tryz.prog W 0 (λ_=>true) true Tryz.f3.params.toList args.toList ds p:=hA0
 rw[Tryz.params3] at hA Al
 obtain ⟨v0,d0,rfl,rfl,h0⟩:=trodAll_one hA
 obtain ⟨rfl,rfl⟩:=trodVars_none hV
 obtain ⟨⟨⟨s⟩⟩,rfl,rfl,rfl,ws⟩:=open_string Tryz.underlying9 (Al 0 9 v0 rfl rfl) h0
 refine (S3 s (al5 hsh hL)).mono λe W' ⟨he,hb⟩=>?_
 subst he
 exact ⟨_,rfl,_,_,_,[],_,[],hW',trodAll_mk1 (shut_bool Tryz.underlying4 true),trodAll_mk1 (shut_string Tryz.underlying9 ws),rfl,hb.frame _,λh=>by cases h⟩
def ķ:Rows.parserFilesRow.wf (OpenSpec.ofChange Rows.parserFilesSpec)=true:=by kernel_rfl
def L7:(Tryz.f3.params.all (Tryz.prog.readableRec ·))=true:=by kernel_rfl
def YQ:namedTie Tryz.prog Rows.parserFilesRow.named Rows.parserFilesSpec.vars=true:=by kernel_rfl
def M0:(Rows.parserFilesRow.inPlace==Tryz.prog.inPlace 3)=true:=by kernel_rfl
def YR:(Rows.parserFilesRow.unfollowed==Tryz.prog.unfollowed 3)=true:=by kernel_rfl
def YS:(Rows.parserFilesRow.recurses==Tryz.prog.recurses 3)=true:=by kernel_rfl
def S4:(Rows.parserFilesRow.named==Tryz.prog.varsNamed 3)=true:=by kernel_rfl
def L8:Tryz.prog.funcNamed "configlang/configlanglaw26.ParserFiles"=some 3:=by kernel_rfl
def UR:Tryz.f3.isInstance Tryz.prog Rows.parserFilesRow.origin Rows.parserFilesRow.targs:=of_decide_eq_true (by kernel_rfl)
def US:Tryz.f3.isWrapper Tryz.prog Rows.parserFilesRow.wrapper Rows.parserFilesRow.mainSum:=by
 unfold Func.isWrapper;rw[if_neg (by decide +kernel)];exact ⟨rfl,rfl⟩
def PT:joinedFacts Tryz.prog 3 Tryz.f3 Rows.parserFilesSpec Rows.parserFilesRow=true:=by
 unfold joinedFacts;refine vT (vT (vT (vT (vT (vT (vT (vT (vT (vT (vT (vT (vT (vT (vT (vT (vT (vT (vT (vT (vT (vT (vT (vT (vT (vT (vT (vT (vT (vT (vT ķ UQ) acm) L7) YQ) ?_) YP) ?_) Ĳ) M0) YR) YS) S4) ?_) ?_) ?_) ?_) ?_) ?_) ?_) ?_) ?_) ĳ) ?_) Ĵ) ĵ) acn) aco) ?_) ?_) ?_) ?_;all_goals kernel_rfl
theorem files_holds:Rows.ParserFilesSaid:=
 OpenClaim.holds_of_wide 3 Tryz.f3 rfl rfl rfl rfl rfl rfl rfl ⟨rfl,rfl,rfl,rfl,rfl⟩ rfl rfl rfl rfl rfl L8 Tryz.func3 PT UR US
  (λos started H enc _=>PS os started H enc)
def PU:Rows.parserFilesRow.wfByText (OpenSpec.ofChange Rows.parserFilesSpec)=true:=by kernel_rfl
def UT:false=Rows.parserFilesRow.goesBy Tryz.prog:=by kernel_rfl
theorem files_card:Rows.ParserFilesCardSaid:=
 Claim7.holds_tied_plain_at .later [] [.data,.data,.data,.data,.sentinel,.sentinel,.pinned] true (true,"58b9937d4313d5c67c7b8f838783fc3e3b3947e6a3f061afd85fb61dc1ba3fab") true
  files_holds (λ_ h=>by cases h) PU (λ_ h=>by cases h) parserFiles_row_tie rfl ⟨rfl,rfl⟩ acp rfl
  (λf fn hf hfn=>by
   obtain rfl:f=3:=Option.some.inj (L8.symm.trans hf) |>.symm;obtain rfl:fn=Tryz.f3:=(Option.some.inj (Tryz.func3.symm.trans hfn)).symm;exact ⟨Ķ,λj t ht=>by
    rw[Tryz.params3] at ht;have h9:t=9:=by
     obtain _|j:=j
     ·simpa using ht.symm
     simp at ht
    subst h9;exact al6⟩)
  UT
end Go.Proofs.YtlfolpjenfkhiaaGreatDoor
end
