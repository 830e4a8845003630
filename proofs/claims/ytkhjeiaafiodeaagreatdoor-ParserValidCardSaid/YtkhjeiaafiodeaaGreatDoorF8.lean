/- PROVED: valid_card. CONDITIONS: none. -/
import Derived.Test.YtkhjeiaafiodeaaGreatDoorF7
import Derived.Test.YtkhjeiaafiodeaaGreatDoorTie
import Derived.Test.YtkhjeiaafiodeaaGreatDoorCards
set_option linter.all false
section
namespace Go.Proofs.YtkhjeiaafiodeaaGreatDoor
open Go.ChangeShapes Go.WideShapes Go.ChangeAt Go.RowKit Go.Abs
open Go.ChangeMaps (open_string shut_string)
theorem CU (s:ByS) {W:World} (hg:GF W):Calls Tryz.prog 5 #[.string ⟨s.toArray⟩] W λe W'=>e=.returned (.bool true)/\Below W.heap.size W W':=by
 obtain ⟨n,hn⟩:=vA s;exact Ln (vs:=[.string ⟨s.toArray⟩]) (uf n s) hn hg (.cons (.sc _ _) .nil)
set_option maxRecDepth 100000 in
theorem Bk (os:Os) (started:os.Started) (H:Type) (enc:TypeId×Value->H) :
  ReturnsInHanded {} Tryz.checked os 5 .any (λw args=>(Rows.parserValidSpec.pre enc Tryz.prog Tryz.f5 Rows.parserValidRow.domain false w args/\laidMetH Tryz.prog Rows.parserValidRow.laid w)/\sizedMet enc Tryz.prog Tryz.f5 (OpenSpec.ofChange Rows.parserValidSpec) false w args)
   (Rows.parserValidSpec.post enc Tryz.prog Tryz.f5 false true false false):=by
 refine JS (C:=Tryz.checked) (X:=λw _=>laidMetH Tryz.prog Rows.parserValidRow.laid w) (λ_ _ _ hh h=>h.of_heap hh) Mk started (by kernel_rfl) Tryz.func5
  (ChangeSpec.witness_shaped (enc:=enc) (C:=Tryz.checked) (os:=os) (X:=λw _=>laidMetH Tryz.prog Rows.parserValidRow.laid w) false (KW os) #[eSt] 8 (World.laidAll_os _ _ _)
   (Fs os) (by kernel_rfl) (by kernel_rfl) (by kernel_rfl) (Lo os)) ?_
 intro W base args ds gs before hval0 hW hsh hL
 have hval:∀ (j:Nat) t v,Tryz.f5.params[j]?=some t->args[j]?=some v->Value.okWide Tryz.prog W .any base t v:=hval0
 have hW':=hW
 obtain ⟨p,q,hA0,hV,rfl,_,_⟩:=hW
 have hA:DataW.TrodAll enc Tryz.prog W 0 (λ_=>true) true Tryz.f5.params.toList args.toList ds p:=hA0
 rw[Tryz.params5] at hA hval
 obtain ⟨v0,d0,rfl,rfl,h0⟩:=trodAll_one hA
 obtain ⟨rfl,rfl⟩:=trodVars_none hV
 obtain ⟨⟨⟨s⟩⟩,rfl,rfl,rfl,ws⟩:=open_string Tryz.underlying9 (hval 0 9 v0 rfl rfl) h0
 refine (CU s (MR hsh hL)).mono λe W' ⟨he,hb⟩=>?_
 subst he
 exact ⟨_,rfl,_,_,_,[],_,[],hW',trodAll_mk1 (shut_bool Tryz.underlying4 true),trodAll_mk1 (shut_string Tryz.underlying9 ws),rfl,hb.frame _,λh=>by cases h⟩
theorem HU:Rows.parserValidRow.wf (OpenSpec.ofChange Rows.parserValidSpec)=true:=by kernel_rfl
theorem yG:(Tryz.f5.params.all (Tryz.prog.readableRec ·))=true:=by kernel_rfl
theorem Fu:namedTie Tryz.prog Rows.parserValidRow.named Rows.parserValidSpec.vars=true:=by kernel_rfl
theorem zP:(Rows.parserValidRow.inPlace==Tryz.prog.inPlace 5)=true:=by kernel_rfl
theorem Fv:(Rows.parserValidRow.unfollowed==Tryz.prog.unfollowed 5)=true:=by kernel_rfl
theorem Fw:(Rows.parserValidRow.recurses==Tryz.prog.recurses 5)=true:=by kernel_rfl
theorem CW:(Rows.parserValidRow.named==Tryz.prog.varsNamed 5)=true:=by kernel_rfl
theorem yH:Tryz.prog.funcNamed "configlang/configlanglaw26.ParserValid"=some 5:=by kernel_rfl
theorem DC:Tryz.f5.isInstance Tryz.prog Rows.parserValidRow.origin Rows.parserValidRow.targs:=of_decide_eq_true (by kernel_rfl)
theorem DD:Tryz.f5.isWrapper Tryz.prog Rows.parserValidRow.wrapper Rows.parserValidRow.mainSum:=by
 unfold Func.isWrapper;rw[if_neg (by decide +kernel)];exact ⟨rfl,rfl⟩
theorem Bl:joinedFacts Tryz.prog 5 Tryz.f5 Rows.parserValidSpec Rows.parserValidRow=true:=by
 unfold joinedFacts;refine nq (nq (nq (nq (nq (nq (nq (nq (nq (nq (nq (nq (nq (nq (nq (nq (nq (nq (nq (nq (nq (nq (nq (nq (nq (nq (nq (nq (nq (nq (nq HU DB) JT) yG) Fu) ?_) Ft) ?_) HP) zP) Fv) Fw) CW) ?_) ?_) ?_) ?_) ?_) ?_) ?_) ?_) ?_) HQ) ?_) HR) HS) JU) JV) ?_) ?_) ?_) ?_;all_goals kernel_rfl
theorem valid_holds:Rows.ParserValidSaid:=
 OpenClaim.holds_of_wide 5 Tryz.f5 rfl rfl rfl rfl rfl rfl rfl ⟨rfl,rfl,rfl,rfl,rfl⟩ rfl rfl rfl rfl rfl yH Tryz.func5 Bl DC DD
  (λos started H enc _=>Bk os started H enc)
theorem Bm:Rows.parserValidRow.wfByText (OpenSpec.ofChange Rows.parserValidSpec)=true:=by kernel_rfl
theorem DE:false=Rows.parserValidRow.goesBy Tryz.prog:=by kernel_rfl
theorem valid_card:Rows.ParserValidCardSaid:=
 Claim7.holds_tied_plain_at .later [] [.data,.data,.data,.data,.sentinel,.sentinel,.pinned] true (true,"76ae8481d8504df2a2dbfa608091ef326e9f1ac9b471349d33c210ff9f5d9874") true
  valid_holds (λ_ h=>by cases h) Bm (λ_ h=>by cases h) parserValid_row_tie rfl ⟨rfl,rfl⟩ JW rfl
  (λf fn hf hfn=>by
   obtain rfl:f=5:=Option.some.inj (yH.symm.trans hf) |>.symm;obtain rfl:fn=Tryz.f5:=(Option.some.inj (Tryz.func5.symm.trans hfn)).symm;exact ⟨HT,λj t ht=>by
    rw[Tryz.params5] at ht;have h9:t=9:=by
     rcases j with _|j
     ·simpa using ht.symm
     simp at ht
    subst h9;exact MS⟩)
  DE
end Go.Proofs.YtkhjeiaafiodeaaGreatDoor
end
