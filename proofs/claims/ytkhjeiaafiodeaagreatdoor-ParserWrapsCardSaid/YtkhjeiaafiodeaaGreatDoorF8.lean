/- PROVED: configlanglaw26.ParserWraps returns true for every input. CONDITIONS: none. -/
import Derived.Test.YtkhjeiaafiodeaaGreatDoorF7
import Derived.Test.YtkhjeiaafiodeaaGreatDoorTie
import Derived.Test.YtkhjeiaafiodeaaGreatDoorCards
section
namespace Go.Proofs.YtkhjeiaafiodeaaGreatDoor
open Go.ChangeShapes Go.WideShapes Go.ChangeAt Go.RowKit Go.Abs
open Go.ChangeMaps (open_string shut_string)
theorem xX (s:List UInt8) {W:World} (hg:GF W):Calls Tryz.prog 8 #[.string ⟨s.toArray⟩] W fun e W'=>e=.returned (.bool true)∧Below W.heap.size W W':=by
 obtain ⟨n,hn⟩:=sC s
 exact ET (vs:=[.string ⟨s.toArray⟩]) (rH n s) hn hg (.cons (.sc _ _) .nil)
set_option maxRecDepth 100000 in
theorem wV (os:Os) (started:os.Started) (H:Type) (enc:TypeId×Value→H) :
  ReturnsInHanded {} Tryz.checked os 8 .any (fun w args=>(Rows.parserWrapsSpec.pre enc Tryz.prog Tryz.f8 Rows.parserWrapsRow.domain false w args∧laidMetH Tryz.prog Rows.parserWrapsRow.laid w)∧sizedMet enc Tryz.prog Tryz.f8 (OpenSpec.ofChange Rows.parserWrapsSpec) false w args)
   (Rows.parserWrapsSpec.post enc Tryz.prog Tryz.f8 false true false false):=by
 refine Dl (C:=Tryz.checked) (X:=fun w _=>laidMetH Tryz.prog Rows.parserWrapsRow.laid w) (fun _ _ _ hh h=>h.of_heap hh) FD started (by kernel_rfl) Tryz.func8
  (ChangeSpec.witness_shaped (enc:=enc) (C:=Tryz.checked) (os:=os) (X:=fun w _=>laidMetH Tryz.prog Rows.parserWrapsRow.laid w) false (KW os) #[.string ⟨#[]⟩] 8 (World.laidAll_os _ _ _)
   (Au os) (by kernel_rfl) (by kernel_rfl) (by kernel_rfl) (EU os)) ?_
 intro W base args ds gs before hval0 hW hsh hL
 have hval:∀ (j:Nat) t v,Tryz.f8.params[j]?=some t→args[j]?=some v→Value.okWide Tryz.prog W .any base t v:=hval0
 have hW':=hW
 obtain ⟨p,q,hA0,hV,rfl,_,_⟩:=hW
 have hA:DataW.TrodAll enc Tryz.prog W 0 (fun _=>true) true Tryz.f8.params.toList args.toList ds p:=hA0
 rw[Tryz.params8] at hA hval
 obtain ⟨v0,d0,rfl,rfl,h0⟩:=trodAll_one hA
 obtain ⟨rfl,rfl⟩:=trodVars_none hV
 obtain ⟨⟨⟨s⟩⟩,rfl,rfl,rfl,ws⟩:=open_string Tryz.underlying9 (hval 0 9 v0 rfl rfl) h0
 refine (xX s (FY hsh hL)).mono fun e W' ⟨he,hb⟩=>?_
 subst he
 exact ⟨_,rfl,_,_,_,[],_,[],hW',trodAll_mk1 (shut_bool Tryz.underlying4 true),trodAll_mk1 (shut_string Tryz.underlying9 ws),rfl,hb.frame _,fun h=>by cases h⟩
theorem B8:Rows.parserWrapsRow.wf (OpenSpec.ofChange Rows.parserWrapsSpec)=true:=by kernel_rfl
theorem uZ:(Tryz.f8.params.all (Tryz.prog.readableRec ·))=true:=by kernel_rfl
theorem Aw:namedTie Tryz.prog Rows.parserWrapsRow.named Rows.parserWrapsSpec.vars=true:=by kernel_rfl
theorem vr:(Rows.parserWrapsRow.inPlace==Tryz.prog.inPlace 8)=true:=by kernel_rfl
theorem Ax:(Rows.parserWrapsRow.unfollowed==Tryz.prog.unfollowed 8)=true:=by kernel_rfl
theorem Ay:(Rows.parserWrapsRow.recurses==Tryz.prog.recurses 8)=true:=by kernel_rfl
theorem xY:(Rows.parserWrapsRow.named==Tryz.prog.varsNamed 8)=true:=by kernel_rfl
theorem u0:Tryz.prog.funcNamed "configlang/configlanglaw26.ParserWraps"=some 8:=by kernel_rfl
theorem yx:Tryz.f8.isInstance Tryz.prog Rows.parserWrapsRow.origin Rows.parserWrapsRow.targs:=of_decide_eq_true (by kernel_rfl)
theorem yy:Tryz.f8.isWrapper Tryz.prog Rows.parserWrapsRow.wrapper Rows.parserWrapsRow.mainSum:=by
 unfold Func.isWrapper
 rw[if_neg (by decide +kernel)]
 exact ⟨rfl,rfl⟩
theorem wW:joinedFacts Tryz.prog 8 Tryz.f8 Rows.parserWrapsSpec Rows.parserWrapsRow=true:=by
 unfold joinedFacts
 refine kO (kO (kO (kO (kO (kO (kO (kO (kO (kO (kO (kO (kO (kO (kO (kO (kO (kO (kO (kO (kO (kO (kO (kO (kO (kO (kO (kO (kO (kO (kO B8 yw) Dm) uZ) Aw) ?_) Av) ?_) B3) vr) Ax) Ay) xY) ?_) ?_) ?_) ?_) ?_) ?_) ?_) ?_) ?_) B4) ?_) B5) B6) Dn) Dp) ?_) ?_) ?_) ?_
 all_goals kernel_rfl
theorem wraps_holds:Rows.ParserWrapsSaid:=
 OpenClaim.holds_of_wide 8 Tryz.f8 rfl rfl rfl rfl rfl rfl rfl ⟨rfl,rfl,rfl,rfl,rfl⟩ rfl rfl rfl rfl rfl u0 Tryz.func8 wW yx yy
  (fun os started H enc _=>wV os started H enc)
theorem wX:Rows.parserWrapsRow.wfByText (OpenSpec.ofChange Rows.parserWrapsSpec)=true:=by kernel_rfl
theorem yz:false=Rows.parserWrapsRow.goesBy Tryz.prog:=by kernel_rfl
theorem wraps_card:Rows.ParserWrapsCardSaid:=
 Claim7.holds_tied_plain_at .later [] [.data,.data,.data,.data,.sentinel,.sentinel,.pinned] true (true,"76ae8481d8504df2a2dbfa608091ef326e9f1ac9b471349d33c210ff9f5d9874") true
  wraps_holds (fun _ h=>by cases h) wX (fun _ h=>by cases h) parserWraps_row_tie rfl ⟨rfl,rfl⟩ Dq rfl
  (fun f fn hf hfn=>by
   obtain rfl:f=8:=Option.some.inj (u0.symm.trans hf) |>.symm
   obtain rfl:fn=Tryz.f8:=(Option.some.inj (Tryz.func8.symm.trans hfn)).symm
   exact ⟨B7,fun j t ht=>by
    rw[Tryz.params8] at ht
    have h9:t=9:=by
     rcases j with _|j
     ·simpa using ht.symm
     ·simp at ht
    subst h9
    exact FZ⟩)
  yz
end Go.Proofs.YtkhjeiaafiodeaaGreatDoor
end
