/- PROVED: configlanglaw26.ParserParens returns true for every input. CONDITIONS: none. -/
import Derived.Test.YtkhjeiaafiodeaaGreatDoorF7
import Derived.Test.YtkhjeiaafiodeaaGreatDoorTie
import Derived.Test.YtkhjeiaafiodeaaGreatDoorCards
section
namespace Go.Proofs.YtkhjeiaafiodeaaGreatDoor
open Go.ChangeShapes Go.WideShapes Go.ChangeAt Go.RowKit Go.Abs
open Go.ChangeMaps (open_string shut_string)
theorem xS (s:List UInt8) {W:World} (hg:GF W):Calls Tryz.prog 9 #[.string ⟨s.toArray⟩] W fun e W'=>e=.returned (.bool true)∧Below W.heap.size W W':=by
 obtain ⟨n,hn⟩:=sQ s
 exact Gy (vs:=[.string ⟨s.toArray⟩]) (rQ n s) hn hg (.cons (.sc _ _) .nil)
set_option maxRecDepth 100000 in
theorem wh (os:Os) (started:os.Started) (H:Type) (enc:TypeId×Value→H) :
  ReturnsInHanded {} Tryz.checked os 9 .any (fun w args=>(Rows.parserParensSpec.pre enc Tryz.prog Tryz.f9 Rows.parserParensRow.domain false w args∧laidMetH Tryz.prog Rows.parserParensRow.laid w)∧sizedMet enc Tryz.prog Tryz.f9 (OpenSpec.ofChange Rows.parserParensSpec) false w args)
   (Rows.parserParensSpec.post enc Tryz.prog Tryz.f9 false true false false):=by
 refine EZ (C:=Tryz.checked) (X:=fun w _=>laidMetH Tryz.prog Rows.parserParensRow.laid w) (fun _ _ _ hh h=>h.of_heap hh) Ht started (by kernel_rfl) Tryz.func9
  (ChangeSpec.witness_shaped (enc:=enc) (C:=Tryz.checked) (os:=os) (X:=fun w _=>laidMetH Tryz.prog Rows.parserParensRow.laid w) false (KW os) #[.string ⟨#[]⟩] 8 (World.laidAll_os _ _ _)
   (BI os) (by kernel_rfl) (by kernel_rfl) (by kernel_rfl) (Gz os)) ?_
 intro W base args ds gs before hval0 hW hsh hL
 have hval:∀ (j:Nat) t v,Tryz.f9.params[j]?=some t→args[j]?=some v→Value.okWide Tryz.prog W .any base t v:=hval0
 have hW':=hW
 obtain ⟨p,q,hA0,hV,rfl,_,_⟩:=hW
 have hA:DataW.TrodAll enc Tryz.prog W 0 (fun _=>true) true Tryz.f9.params.toList args.toList ds p:=hA0
 rw[Tryz.params9] at hA hval
 obtain ⟨v0,d0,rfl,rfl,h0⟩:=trodAll_one hA
 obtain ⟨rfl,rfl⟩:=trodVars_none hV
 obtain ⟨⟨⟨s⟩⟩,rfl,rfl,rfl,ws⟩:=open_string Tryz.underlying9 (hval 0 9 v0 rfl rfl) h0
 refine (xS s (HM hsh hL)).mono fun e W' ⟨he,hb⟩=>?_
 subst he
 exact ⟨_,rfl,_,_,_,[],_,[],hW',trodAll_mk1 (shut_bool Tryz.underlying4 true),trodAll_mk1 (shut_string Tryz.underlying9 ws),rfl,hb.frame _,fun h=>by cases h⟩
theorem BK:Rows.parserParensRow.wf (OpenSpec.ofChange Rows.parserParensSpec)=true:=by kernel_rfl
theorem uJ:(Tryz.f9.params.all (Tryz.prog.readableRec ·))=true:=by kernel_rfl
theorem Ak:namedTie Tryz.prog Rows.parserParensRow.named Rows.parserParensSpec.vars=true:=by kernel_rfl
theorem vK:(Rows.parserParensRow.inPlace==Tryz.prog.inPlace 9)=true:=by kernel_rfl
theorem Al:(Rows.parserParensRow.unfollowed==Tryz.prog.unfollowed 9)=true:=by kernel_rfl
theorem Am:(Rows.parserParensRow.recurses==Tryz.prog.recurses 9)=true:=by kernel_rfl
theorem xT:(Rows.parserParensRow.named==Tryz.prog.varsNamed 9)=true:=by kernel_rfl
theorem uv:Tryz.prog.funcNamed "configlang/configlanglaw26.ParserParens"=some 9:=by kernel_rfl
theorem zF:Tryz.f9.isInstance Tryz.prog Rows.parserParensRow.origin Rows.parserParensRow.targs:=of_decide_eq_true (by kernel_rfl)
theorem zH:Tryz.f9.isWrapper Tryz.prog Rows.parserParensRow.wrapper Rows.parserParensRow.mainSum:=by
 unfold Func.isWrapper
 rw[if_neg (by decide +kernel)]
 exact ⟨rfl,rfl⟩
theorem wi:joinedFacts Tryz.prog 9 Tryz.f9 Rows.parserParensSpec Rows.parserParensRow=true:=by
 unfold joinedFacts
 refine kX (kX (kX (kX (kX (kX (kX (kX (kX (kX (kX (kX (kX (kX (kX (kX (kX (kX (kX (kX (kX (kX (kX (kX (kX (kX (kX (kX (kX (kX (kX BK Aj) E0) uJ) Ak) ?_) BJ) ?_) Dr) vK) Al) Am) xT) ?_) ?_) ?_) ?_) ?_) ?_) ?_) ?_) ?_) Ds) ?_) Dt) Du) E1) E2) ?_) ?_) ?_) ?_
 all_goals kernel_rfl
theorem parens_holds:Rows.ParserParensSaid:=
 OpenClaim.holds_of_wide 9 Tryz.f9 rfl rfl rfl rfl rfl rfl rfl ⟨rfl,rfl,rfl,rfl,rfl⟩ rfl rfl rfl rfl rfl uv Tryz.func9 wi zF zH
  (fun os started H enc _=>wh os started H enc)
theorem wj:Rows.parserParensRow.wfByText (OpenSpec.ofChange Rows.parserParensSpec)=true:=by kernel_rfl
theorem zI:false=Rows.parserParensRow.goesBy Tryz.prog:=by kernel_rfl
theorem parens_card:Rows.ParserParensCardSaid:=
 Claim7.holds_tied_plain_at .later [] [.data,.data,.data,.data,.sentinel,.sentinel,.pinned] true (true,"76ae8481d8504df2a2dbfa608091ef326e9f1ac9b471349d33c210ff9f5d9874") true
  parens_holds (fun _ h=>by cases h) wj (fun _ h=>by cases h) parserParens_row_tie rfl ⟨rfl,rfl⟩ E3 rfl
  (fun f fn hf hfn=>by
   obtain rfl:f=9:=Option.some.inj (uv.symm.trans hf) |>.symm
   obtain rfl:fn=Tryz.f9:=(Option.some.inj (Tryz.func9.symm.trans hfn)).symm
   exact ⟨Dv,fun j t ht=>by
    rw[Tryz.params9] at ht
    have h9:t=9:=by
     rcases j with _|j
     ·simpa using ht.symm
     ·simp at ht
    subst h9
    exact HN⟩)
  zI
end Go.Proofs.YtkhjeiaafiodeaaGreatDoor
end
