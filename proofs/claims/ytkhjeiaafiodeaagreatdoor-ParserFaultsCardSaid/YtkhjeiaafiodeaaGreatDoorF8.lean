/- PROVED: configlanglaw26.ParserFaults returns true for every input, and the input reads as it did (the tied card). CONDITIONS: none. -/
import Derived.Test.YtkhjeiaafiodeaaGreatDoorF7
import Derived.Test.YtkhjeiaafiodeaaGreatDoorTie
import Derived.Test.YtkhjeiaafiodeaaGreatDoorCards
section
namespace Go.Proofs.YtkhjeiaafiodeaaGreatDoor
open Go.ChangeShapes Go.WideShapes Go.ChangeAt Go.RowKit Go.Abs
open Go.ChangeMaps (open_string shut_string)
theorem wO (s:List UInt8) {W:World} (hg:GF W):Calls Tryz.prog 6 #[.string ⟨s.toArray⟩] W fun e W'=>e=.returned (.bool true)∧Below W.heap.size W W':=by
 obtain ⟨n,hn⟩:=sg s
 exact DF (vs:=[.string ⟨s.toArray⟩]) (qZ n s) hn hg (.cons (.sc _ _) .nil)
set_option maxRecDepth 100000 in
theorem vj (os:Os) (started:os.Started) (H:Type) (enc:TypeId×Value→H) :
  ReturnsInHanded {} Tryz.checked os 6 .any (fun w args=>(Rows.parserFaultsSpec.pre enc Tryz.prog Tryz.f6 Rows.parserFaultsRow.domain false w args∧laidMetH Tryz.prog Rows.parserFaultsRow.laid w)∧sizedMet enc Tryz.prog Tryz.f6 (OpenSpec.ofChange Rows.parserFaultsSpec) false w args)
   (Rows.parserFaultsSpec.post enc Tryz.prog Tryz.f6 false true false false):=by
 refine Ct (C:=Tryz.checked) (X:=fun w _=>laidMetH Tryz.prog Rows.parserFaultsRow.laid w) (fun _ _ _ hh h=>h.of_heap hh) El started (by kernel_rfl) Tryz.func6
  (ChangeSpec.witness_shaped (enc:=enc) (C:=Tryz.checked) (os:=os) (X:=fun w _=>laidMetH Tryz.prog Rows.parserFaultsRow.laid w) false (KW os) #[.string ⟨#[]⟩] 8 (World.laidAll_os _ _ _)
   (zZ os) (by kernel_rfl) (by kernel_rfl) (by kernel_rfl) (DG os)) ?_
 intro W base args ds gs before hval0 hW hsh hL
 have hval:∀ (j:Nat) t v,Tryz.f6.params[j]?=some t→args[j]?=some v→Value.okWide Tryz.prog W .any base t v:=hval0
 have hW':=hW
 obtain ⟨p,q,hA0,hV,rfl,_,_⟩:=hW
 have hA:DataW.TrodAll enc Tryz.prog W 0 (fun _=>true) true Tryz.f6.params.toList args.toList ds p:=hA0
 rw[Tryz.params6] at hA hval
 obtain ⟨v0,d0,rfl,rfl,h0⟩:=trodAll_one hA
 obtain ⟨rfl,rfl⟩:=trodVars_none hV
 obtain ⟨⟨⟨s⟩⟩,rfl,rfl,rfl,ws⟩:=open_string Tryz.underlying9 (hval 0 9 v0 rfl rfl) h0
 refine (wO s (EG hsh hL)).mono fun e W' ⟨he,hb⟩=>?_
 subst he
 exact ⟨_,rfl,_,_,_,[],_,[],hW',trodAll_mk1 (shut_bool Tryz.underlying4 true),trodAll_mk1 (shut_string Tryz.underlying9 ws),rfl,hb.frame _,fun h=>by cases h⟩
theorem z7:Rows.parserFaultsRow.wf (OpenSpec.ofChange Rows.parserFaultsSpec)=true:=by kernel_rfl
theorem tG:(Tryz.f6.params.all (Tryz.prog.readableRec ·))=true:=by kernel_rfl
theorem ye:namedTie Tryz.prog Rows.parserFaultsRow.named Rows.parserFaultsSpec.vars=true:=by kernel_rfl
theorem uS:(Rows.parserFaultsRow.inPlace==Tryz.prog.inPlace 6)=true:=by kernel_rfl
theorem yf:(Rows.parserFaultsRow.unfollowed==Tryz.prog.unfollowed 6)=true:=by kernel_rfl
theorem yg:(Rows.parserFaultsRow.recurses==Tryz.prog.recurses 6)=true:=by kernel_rfl
theorem wP:(Rows.parserFaultsRow.named==Tryz.prog.varsNamed 6)=true:=by kernel_rfl
theorem tt:Tryz.prog.funcNamed "configlang/configlanglaw26.ParserFaults"=some 6:=by kernel_rfl
theorem xM:Tryz.f6.isInstance Tryz.prog Rows.parserFaultsRow.origin Rows.parserFaultsRow.targs:=of_decide_eq_true (by kernel_rfl)
theorem xN:Tryz.f6.isWrapper Tryz.prog Rows.parserFaultsRow.wrapper Rows.parserFaultsRow.mainSum:=by
 unfold Func.isWrapper
 rw[if_neg (by decide +kernel)]
 exact ⟨rfl,rfl⟩
theorem vk:joinedFacts Tryz.prog 6 Tryz.f6 Rows.parserFaultsSpec Rows.parserFaultsRow=true:=by
 unfold joinedFacts
 refine kM (kM (kM (kM (kM (kM (kM (kM (kM (kM (kM (kM (kM (kM (kM (kM (kM (kM (kM (kM (kM (kM (kM (kM (kM (kM (kM (kM (kM (kM (kM z7 yd) Cu) tG) ye) ?_) z6) ?_) Bs) uS) yf) yg) wP) ?_) ?_) ?_) ?_) ?_) ?_) ?_) ?_) ?_) Bt) ?_) Bu) Bv) Cv) Cw) ?_) ?_) ?_) ?_
 all_goals kernel_rfl
theorem faults_holds:Rows.ParserFaultsSaid:=
 OpenClaim.holds_of_wide 6 Tryz.f6 rfl rfl rfl rfl rfl rfl rfl ⟨rfl,rfl,rfl,rfl,rfl⟩ rfl rfl rfl rfl rfl tt Tryz.func6 vk xM xN
  (fun os started H enc _=>vj os started H enc)
theorem vl:Rows.parserFaultsRow.wfByText (OpenSpec.ofChange Rows.parserFaultsSpec)=true:=by kernel_rfl
theorem xO:false=Rows.parserFaultsRow.goesBy Tryz.prog:=by kernel_rfl
theorem faults_card:Rows.ParserFaultsCardSaid:=
 Claim7.holds_tied_plain_at .later [] [.data,.data,.data,.data,.sentinel,.sentinel,.pinned] true (true,"76ae8481d8504df2a2dbfa608091ef326e9f1ac9b471349d33c210ff9f5d9874") true
  faults_holds (fun _ h=>by cases h) vl (fun _ h=>by cases h) parserFaults_row_tie rfl ⟨rfl,rfl⟩ Cx rfl
  (fun f fn hf hfn=>by
   obtain rfl:f=6:=Option.some.inj (tt.symm.trans hf) |>.symm
   obtain rfl:fn=Tryz.f6:=(Option.some.inj (Tryz.func6.symm.trans hfn)).symm
   exact ⟨Bw,fun j t ht=>by
    rw[Tryz.params6] at ht
    have h9:t=9:=by
     rcases j with _|j
     ·simpa using ht.symm
     ·simp at ht
    subst h9
    exact EH⟩)
  xO
end Go.Proofs.YtkhjeiaafiodeaaGreatDoor
end
