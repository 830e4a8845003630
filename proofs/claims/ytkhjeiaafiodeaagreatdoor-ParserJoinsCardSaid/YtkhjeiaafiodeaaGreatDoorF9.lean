/- PROVED: a law CONDITIONS: none. -/
import Derived.Test.YtkhjeiaafiodeaaGreatDoorF8
import Derived.Test.YtkhjeiaafiodeaaGreatDoorTie
import Derived.Test.YtkhjeiaafiodeaaGreatDoorCards
section
namespace Go.Proofs.YtkhjeiaafiodeaaGreatDoor
open Go.ChangeShapes Go.WideShapes Go.ChangeAt Go.RowKit Go.Abs
open Go.ChangeMaps (open_string shut_string)
theorem BG (s z:ByS) {W:World} (hg:GF W):Calls Tryz.prog 10 #[.string ⟨s.toArray⟩,.string ⟨z.toArray⟩] W λe W'=>e=.returned (.bool true)/\Below W.heap.size W W':=by
 obtain ⟨n,hn⟩:=uP s z;exact JQ (vs:=[.string ⟨s.toArray⟩,.string ⟨z.toArray⟩]) (tG n s z) hn hg (.cons (.sc _ _) (.cons (.sc _ _) .nil))
set_option maxRecDepth 100000 in
theorem Au (os:Os) (started:os.Started) (H:Type) (enc:TypeId×Value->H) :
  ReturnsInHanded {} Tryz.checked os 10 .any (λw args=>(Rows.parserJoinsSpec.pre enc Tryz.prog Tryz.f10 Rows.parserJoinsRow.domain false w args/\laidMetH Tryz.prog Rows.parserJoinsRow.laid w)/\sizedMet enc Tryz.prog Tryz.f10 (OpenSpec.ofChange Rows.parserJoinsSpec) false w args)
   (Rows.parserJoinsSpec.post enc Tryz.prog Tryz.f10 false true false false):=by
 refine H3 (C:=Tryz.checked) (X:=λw _=>laidMetH Tryz.prog Rows.parserJoinsRow.laid w) (λ_ _ _ hh h=>h.of_heap hh) KK started (by kernel_rfl) Tryz.func10
  (ChangeSpec.witness_shaped (enc:=enc) (C:=Tryz.checked) (os:=os) (X:=λw _=>laidMetH Tryz.prog Rows.parserJoinsRow.laid w) false (KW os) #[eSt,eSt] 8 (World.laidAll_os _ _ _)
   (DK os) (by kernel_rfl) (by kernel_rfl) (by kernel_rfl) (JR os)) ?_
 intro W base args ds gs before hval0 hW hsh hL
 have hval:∀ (j:Nat) t v,Tryz.f10.params[j]?=some t->args[j]?=some v->Value.okWide Tryz.prog W .any base t v:=hval0
 have hW':=hW
 obtain ⟨p,q,hA0,hV,rfl,_,_⟩:=hW
 have hA:DataW.TrodAll enc Tryz.prog W 0 (λ_=>true) true Tryz.f10.params.toList args.toList ds p:=hA0
 rw[Tryz.params10] at hA hval
 obtain ⟨v0,v1,d0,d1,p0,p1,rfl,rfl,rfl,h0,h1⟩:=trodAll_two hA
 obtain ⟨rfl,rfl⟩:=trodVars_none hV
 obtain ⟨⟨⟨s⟩⟩,rfl,rfl,rfl,ws⟩:=open_string Tryz.underlying9 (hval 0 9 v0 rfl rfl) h0
 obtain ⟨⟨⟨z⟩⟩,rfl,rfl,rfl,wz⟩:=open_string Tryz.underlying9 (hval 1 9 v1 rfl rfl) h1
 refine (BG s z (Lh hsh hL)).mono λe W' ⟨he,hb⟩=>?_
 subst he
 exact ⟨_,rfl,_,_,_,[],_,[],hW',trodAll_mk1 (shut_bool Tryz.underlying4 true),trodAll_mk2 (shut_string Tryz.underlying9 ws) (shut_string Tryz.underlying9 wz),rfl,hb.frame _,λh=>by cases h⟩
theorem Ge:Rows.parserJoinsRow.wf (OpenSpec.ofChange Rows.parserJoinsSpec)=true:=by kernel_rfl
theorem xL:(Tryz.f10.params.all (Tryz.prog.readableRec ·))=true:=by kernel_rfl
theorem DM:namedTie Tryz.prog Rows.parserJoinsRow.named Rows.parserJoinsSpec.vars=true:=by kernel_rfl
theorem yk:(Rows.parserJoinsRow.inPlace==Tryz.prog.inPlace 10)=true:=by kernel_rfl
theorem DN:(Rows.parserJoinsRow.unfollowed==Tryz.prog.unfollowed 10)=true:=by kernel_rfl
theorem DO:(Rows.parserJoinsRow.recurses==Tryz.prog.recurses 10)=true:=by kernel_rfl
theorem BH:(Rows.parserJoinsRow.named==Tryz.prog.varsNamed 10)=true:=by kernel_rfl
theorem xM:Tryz.prog.funcNamed "configlang/configlanglaw26.ParserJoins"=some 10:=by kernel_rfl
theorem Ce:Tryz.f10.isInstance Tryz.prog Rows.parserJoinsRow.origin Rows.parserJoinsRow.targs:=of_decide_eq_true (by kernel_rfl)
theorem Cf:Tryz.f10.isWrapper Tryz.prog Rows.parserJoinsRow.wrapper Rows.parserJoinsRow.mainSum:=by
 unfold Func.isWrapper;rw[if_neg (by decide +kernel)];exact ⟨rfl,rfl⟩
theorem Av:joinedFacts Tryz.prog 10 Tryz.f10 Rows.parserJoinsSpec Rows.parserJoinsRow=true:=by
 unfold joinedFacts;refine lV (lV (lV (lV (lV (lV (lV (lV (lV (lV (lV (lV (lV (lV (lV (lV (lV (lV (lV (lV (lV (lV (lV (lV (lV (lV (lV (lV (lV (lV (lV Ge Cd) H4) xL) DM) ?_) DL) ?_) F9) yk) DN) DO) BH) ?_) ?_) ?_) ?_) ?_) ?_) ?_) ?_) ?_) Ga) ?_) Gb) Gc) H5) H6) ?_) ?_) ?_) ?_;all_goals kernel_rfl
theorem joins_holds:Rows.ParserJoinsSaid:=
 OpenClaim.holds_of_wide 10 Tryz.f10 rfl rfl rfl rfl rfl rfl rfl ⟨rfl,rfl,rfl,rfl,rfl⟩ rfl rfl rfl rfl rfl xM Tryz.func10 Av Ce Cf
  (λos started H enc _=>Au os started H enc)
theorem Aw:Rows.parserJoinsRow.wfByText (OpenSpec.ofChange Rows.parserJoinsSpec)=true:=by kernel_rfl
theorem Cg:false=Rows.parserJoinsRow.goesBy Tryz.prog:=by kernel_rfl
theorem joins_card:Rows.ParserJoinsCardSaid:=
 Claim7.holds_tied_plain_at .later [] [.data,.data,.data,.data,.sentinel,.sentinel,.pinned] true (true,"76ae8481d8504df2a2dbfa608091ef326e9f1ac9b471349d33c210ff9f5d9874") true
  joins_holds (λ_ h=>by cases h) Aw (λ_ h=>by cases h) parserJoins_row_tie rfl ⟨rfl,rfl⟩ H7 rfl
  (λf fn hf hfn=>by
   obtain rfl:f=10:=Option.some.inj (xM.symm.trans hf) |>.symm;obtain rfl:fn=Tryz.f10:=(Option.some.inj (Tryz.func10.symm.trans hfn)).symm;exact ⟨Gd,λj t ht=>by
    rw[Tryz.params10] at ht;rcases j with _|_|j
    ·have h9:t=9:=by simpa using ht.symm
     subst h9;exact KN
    ·have h9:t=9:=by simpa using ht.symm
     subst h9;exact KN
    simp at ht⟩)
  Cg
end Go.Proofs.YtkhjeiaafiodeaaGreatDoor
end
