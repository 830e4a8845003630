/- PROVED: configlanglaw26.ParserBlanks returns true for every input. CONDITIONS: none. -/
import Derived.Test.YtkhjeiaafiodeaaGreatDoorF8
import Derived.Test.YtkhjeiaafiodeaaGreatDoorTie
import Derived.Test.YtkhjeiaafiodeaaGreatDoorCards
section
namespace Go.Proofs.YtkhjeiaafiodeaaGreatDoor
open Go.ChangeShapes Go.WideShapes Go.ChangeAt Go.RowKit Go.Abs
open Go.ChangeMaps (open_string shut_string)
theorem Av (s:ByS) (z:Int) {W:World} (hg:GF W):Calls Tryz.prog 7 #[.string ⟨s.toArray⟩,.int .u64 z] W λe W'=>e=.returned (.bool true)/\Below W.heap.size W W':=by
 obtain ⟨n,hn⟩:=tQ s z;exact Is (vs:=[.string ⟨s.toArray⟩,.int .u64 z]) (sM n s z) hn hg (.cons (.sc _ _) (.cons (.sc _ _) .nil))
set_option maxRecDepth 100000 in
theorem yf (os:Os) (started:os.Started) (H:Type) (enc:TypeId×Value->H) :
  ReturnsInHanded {} Tryz.checked os 7 .any (λw args=>(Rows.parserBlanksSpec.pre enc Tryz.prog Tryz.f7 Rows.parserBlanksRow.domain false w args/\laidMetH Tryz.prog Rows.parserBlanksRow.laid w)/\sizedMet enc Tryz.prog Tryz.f7 (OpenSpec.ofChange Rows.parserBlanksSpec) false w args)
   (Rows.parserBlanksSpec.post enc Tryz.prog Tryz.f7 false true false false):=by
 refine GY (C:=Tryz.checked) (X:=λw _=>laidMetH Tryz.prog Rows.parserBlanksRow.laid w) (λ_ _ _ hh h=>h.of_heap hh) Jg started (by kernel_rfl) Tryz.func7
  (ChangeSpec.witness_shaped (enc:=enc) (C:=Tryz.checked) (os:=os) (X:=λw _=>laidMetH Tryz.prog Rows.parserBlanksRow.laid w) false (KW os) #[eSt,.int .u64 0] 8 (World.laidAll_os _ _ _)
   (Du os) (by kernel_rfl) (by kernel_rfl) (by kernel_rfl) (It os)) ?_
 intro W base args ds gs before hval0 hW hsh hL
 have hval:∀ (j:Nat) t v,Tryz.f7.params[j]?=some t->args[j]?=some v->Value.okWide Tryz.prog W .any base t v:=hval0
 have hW':=hW
 obtain ⟨p,q,hA0,hV,rfl,_,_⟩:=hW
 have hA:DataW.TrodAll enc Tryz.prog W 0 (λ_=>true) true Tryz.f7.params.toList args.toList ds p:=hA0
 rw[Tryz.params7] at hA hval
 obtain ⟨v0,v1,d0,d1,p0,p1,rfl,rfl,rfl,h0,h1⟩:=trodAll_two hA
 obtain ⟨rfl,rfl⟩:=trodVars_none hV
 obtain ⟨⟨⟨s⟩⟩,rfl,rfl,rfl,ws⟩:=open_string Tryz.underlying9 (hval 0 9 v0 rfl rfl) h0
 obtain ⟨z,rfl,rfl,rfl,wz⟩:=open_int Tryz.underlying44 (hval 1 44 v1 rfl rfl) h1
 refine (Av s z (JC hsh hL)).mono λe W' ⟨he,hb⟩=>?_
 subst he
 exact ⟨_,rfl,_,_,_,[],_,[],hW',trodAll_mk1 (shut_bool Tryz.underlying4 true),trodAll_mk2 (shut_string Tryz.underlying9 ws) (shut_int Tryz.underlying44 wz),rfl,hb.frame _,λh=>by cases h⟩
theorem Dw:Rows.parserBlanksRow.wf (OpenSpec.ofChange Rows.parserBlanksSpec)=true:=by kernel_rfl
theorem vV:(Tryz.f7.params.all (Tryz.prog.readableRec ·))=true:=by kernel_rfl
theorem B4:namedTie Tryz.prog Rows.parserBlanksRow.named Rows.parserBlanksSpec.vars=true:=by kernel_rfl
theorem xz:(Rows.parserBlanksRow.inPlace==Tryz.prog.inPlace 7)=true:=by kernel_rfl
theorem B5:(Rows.parserBlanksRow.unfollowed==Tryz.prog.unfollowed 7)=true:=by kernel_rfl
theorem B6:(Rows.parserBlanksRow.recurses==Tryz.prog.recurses 7)=true:=by kernel_rfl
theorem Aw:(Rows.parserBlanksRow.named==Tryz.prog.varsNamed 7)=true:=by kernel_rfl
theorem vF:Tryz.prog.funcNamed "configlang/configlanglaw26.ParserBlanks"=some 7:=by kernel_rfl
theorem BA:Tryz.f7.isInstance Tryz.prog Rows.parserBlanksRow.origin Rows.parserBlanksRow.targs:=of_decide_eq_true (by kernel_rfl)
theorem BB:Tryz.f7.isWrapper Tryz.prog Rows.parserBlanksRow.wrapper Rows.parserBlanksRow.mainSum:=by
 unfold Func.isWrapper;rw[if_neg (by decide +kernel)];exact ⟨rfl,rfl⟩
theorem yg:joinedFacts Tryz.prog 7 Tryz.f7 Rows.parserBlanksSpec Rows.parserBlanksRow=true:=by
 unfold joinedFacts;refine lE (lE (lE (lE (lE (lE (lE (lE (lE (lE (lE (lE (lE (lE (lE (lE (lE (lE (lE (lE (lE (lE (lE (lE (lE (lE (lE (lE (lE (lE (lE Dw B3) GZ) vV) B4) ?_) Dv) ?_) Ff) xz) B5) B6) Aw) ?_) ?_) ?_) ?_) ?_) ?_) ?_) ?_) ?_) Fg) ?_) Fh) Fi) G1) G2) ?_) ?_) ?_) ?_;all_goals kernel_rfl
theorem blanks_holds:Rows.ParserBlanksSaid:=
 OpenClaim.holds_of_wide 7 Tryz.f7 rfl rfl rfl rfl rfl rfl rfl ⟨rfl,rfl,rfl,rfl,rfl⟩ rfl rfl rfl rfl rfl vF Tryz.func7 yg BA BB
  (λos started H enc _=>yf os started H enc)
theorem yh:Rows.parserBlanksRow.wfByText (OpenSpec.ofChange Rows.parserBlanksSpec)=true:=by kernel_rfl
theorem BC:false=Rows.parserBlanksRow.goesBy Tryz.prog:=by kernel_rfl
theorem blanks_card:Rows.ParserBlanksCardSaid:=
 Claim7.holds_tied_plain_at .later [] [.data,.data,.data,.data,.sentinel,.sentinel,.pinned] true (true,"76ae8481d8504df2a2dbfa608091ef326e9f1ac9b471349d33c210ff9f5d9874") true
  blanks_holds (λ_ h=>by cases h) yh (λ_ h=>by cases h) parserBlanks_row_tie rfl ⟨rfl,rfl⟩ G3 rfl
  (λf fn hf hfn=>by
   obtain rfl:f=7:=Option.some.inj (vF.symm.trans hf) |>.symm;obtain rfl:fn=Tryz.f7:=(Option.some.inj (Tryz.func7.symm.trans hfn)).symm;exact ⟨Fj,λj t ht=>by
    rw[Tryz.params7] at ht;rcases j with _|_|j
    ·have h9:t=9:=by simpa using ht.symm
     subst h9;exact JD
    ·have h9:t=44:=by simpa using ht.symm
     subst h9;exact JE
    simp at ht⟩)
  BC
end Go.Proofs.YtkhjeiaafiodeaaGreatDoor
end
