/- PROVED: configlanglaw26.ParserExprs returns true for every input. CONDITIONS: none. -/
import Derived.Test.YtlfolpjenfkhiaaGreatDoorX13
import Derived.Test.YtlfolpjenfkhiaaGreatDoorTie
import Derived.Test.YtlfolpjenfkhiaaGreatDoorCards
set_option linter.all false
section
namespace Go.Proofs.YtlfolpjenfkhiaaGreatDoor
open Go.ChangeShapes Go.WideShapes Go.ChangeAt Go.RowKit Go.Abs
open Go.ChangeMaps (open_string shut_string)
def SE (s:ByS) {W:World} (hg:GF W):Calls Tryz.prog 4 #[.string ⟨s.toArray⟩] W λe W'=>e=.returned (.bool true)/\Below W.heap.size W W':=by
 obtain ⟨n,hn⟩:=Hl s;exact agp (vs:=[.string ⟨s.toArray⟩]) (Fv n s) hn hg (.cons (.sc _ _) .nil)
set_option maxRecDepth 100000 in
def Pv (os:Os) (started:os.Started) (H:Type) (SD:TypeId×Value->H) :
  ReturnsInHanded {} Tryz.checked os 4 .any (λw args=>(Rows.parserExprsSpec.pre SD Tryz.prog Tryz.f4 Rows.parserExprsRow.domain false w args/\laidMetH Tryz.prog Rows.parserExprsRow.laid w)/\sizedMet SD Tryz.prog Tryz.f4 (OpenSpec.ofChange Rows.parserExprsSpec) false w args)
   (Rows.parserExprsSpec.post SD Tryz.prog Tryz.f4 false true false false):=by
 refine abU (C:=Tryz.checked) (X:=λw _=>laidMetH Tryz.prog Rows.parserExprsRow.laid w) (λ_ _ _ hh h=>h.of_heap hh) ajR started (by kernel_rfl) Tryz.func4
  (ChangeSpec.witness_shaped (enc:=SD) (C:=Tryz.checked) (os:=os) (X:=λw _=>laidMetH Tryz.prog Rows.parserExprsRow.laid w) false (KW os) #[eSt] 8 (World.laidAll_os _ _ _)
   (Yx os) (by kernel_rfl) (by kernel_rfl) (by kernel_rfl) (agq os)) ?_
 intro W base args ds gs before hval0 hW hsh hL
 have zi:∀ (j:Nat) t v,Tryz.f4.params[j]?=some t->args[j]?=some v->Value.okWide Tryz.prog W .any base t v:=hval0
 have hW':=hW
 obtain ⟨p,q,hA0,hV,rfl,_,_⟩:=hW
 have hA:DataW.TrodAll SD Tryz.prog W 0 (λ_=>true) true Tryz.f4.params.toList args.toList ds p:=hA0
 rw[Tryz.params4] at hA zi
 obtain ⟨v0,d0,rfl,rfl,h0⟩:=trodAll_one hA
 obtain ⟨rfl,rfl⟩:=trodVars_none hV
 obtain ⟨⟨⟨s⟩⟩,rfl,rfl,rfl,ws⟩:=open_string Tryz.underlying9 (zi 0 9 v0 rfl rfl) h0
 refine (SE s (alp hsh hL)).mono λe W' ⟨he,hb⟩=>?_
 subst he
 exact ⟨_,rfl,_,_,_,[],_,[],hW',trodAll_mk1 (shut_bool Tryz.underlying4 true),trodAll_mk1 (shut_string Tryz.underlying9 ws),rfl,hb.frame _,λh=>by cases h⟩
def ħ:Rows.parserExprsRow.wf (OpenSpec.ofChange Rows.parserExprsSpec)=true:=by kernel_rfl
def Lt:(Tryz.f4.params.all (Tryz.prog.readableRec ·))=true:=by kernel_rfl
def Yz:namedTie Tryz.prog Rows.parserExprsRow.named Rows.parserExprsSpec.vars=true:=by kernel_rfl
def Mz:(Rows.parserExprsRow.inPlace==Tryz.prog.inPlace 4)=true:=by kernel_rfl
def YA:(Rows.parserExprsRow.unfollowed==Tryz.prog.unfollowed 4)=true:=by kernel_rfl
def YB:(Rows.parserExprsRow.recurses==Tryz.prog.recurses 4)=true:=by kernel_rfl
def SF:(Rows.parserExprsRow.named==Tryz.prog.varsNamed 4)=true:=by kernel_rfl
def Lu:Tryz.prog.funcNamed "configlang/configlanglaw26.ParserExprs"=some 4:=by kernel_rfl
def Uy:Tryz.f4.isInstance Tryz.prog Rows.parserExprsRow.origin Rows.parserExprsRow.targs:=of_decide_eq_true (by kernel_rfl)
def Uz:Tryz.f4.isWrapper Tryz.prog Rows.parserExprsRow.wrapper Rows.parserExprsRow.mainSum:=by
 unfold Func.isWrapper;rw[if_neg (by decide +kernel)];exact ⟨rfl,rfl⟩
def Pw:joinedFacts Tryz.prog 4 Tryz.f4 Rows.parserExprsSpec Rows.parserExprsRow=true:=by
 unfold joinedFacts;refine vr (vr (vr (vr (vr (vr (vr (vr (vr (vr (vr (vr (vr (vr (vr (vr (vr (vr (vr (vr (vr (vr (vr (vr (vr (vr (vr (vr (vr (vr (vr ħ Ux) abV) Lt) Yz) ?_) Yy) ?_) Ģ) Mz) YA) YB) SF) ?_) ?_) ?_) ?_) ?_) ?_) ?_) ?_) ?_) ģ) ?_) Ĥ) ĥ) abW) abX) ?_) ?_) ?_) ?_;all_goals kernel_rfl
theorem exprs_holds:Rows.ParserExprsSaid:=
 OpenClaim.holds_of_wide 4 Tryz.f4 rfl rfl rfl rfl rfl rfl rfl ⟨rfl,rfl,rfl,rfl,rfl⟩ rfl rfl rfl rfl rfl Lu Tryz.func4 Pw Uy Uz
  (λos started H SD _=>Pv os started H SD)
def Px:Rows.parserExprsRow.wfByText (OpenSpec.ofChange Rows.parserExprsSpec)=true:=by kernel_rfl
def UA:false=Rows.parserExprsRow.goesBy Tryz.prog:=by kernel_rfl
theorem exprs_card:Rows.ParserExprsCardSaid:=
 Claim7.holds_tied_plain_at .later [] [.data,.data,.data,.data,.sentinel,.sentinel,.pinned] true (true,"58b9937d4313d5c67c7b8f838783fc3e3b3947e6a3f061afd85fb61dc1ba3fab") true
  exprs_holds (λ_ h=>by cases h) Px (λ_ h=>by cases h) parserExprs_row_tie rfl ⟨rfl,rfl⟩ abY rfl
  (λf fn hf hfn=>by
   obtain rfl:f=4:=Option.some.inj (Lu.symm.trans hf) |>.symm;obtain rfl:fn=Tryz.f4:=(Option.some.inj (Tryz.func4.symm.trans hfn)).symm;exact ⟨Ħ,λj t ht=>by
    rw[Tryz.params4] at ht;have h9:t=9:=by
     rcases j with _|j
     ·simpa using ht.symm
     simp at ht
    subst h9;exact alq⟩)
  UA
end Go.Proofs.YtlfolpjenfkhiaaGreatDoor
end
