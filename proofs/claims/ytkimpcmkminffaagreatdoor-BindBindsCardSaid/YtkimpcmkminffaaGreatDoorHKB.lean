/- Texts beside the shared ones. -/
import Derived.Test.YtkimpcmkminffaaGreatDoorHX0
import Derived.Test.YtkimpcmkminffaaGreatDoorHHF
import Derived.Test.YtkimpcmkminffaaGreatDoorHHG
import Derived.Test.YtkimpcmkminffaaGreatDoorTie
import Derived.Test.YtkimpcmkminffaaGreatDoorCards
import Derived.SevenTiedAt
import Derived.OpenShut
import Derived.Deep.Strs
namespace Go.Proofs.YtkimpcmkminffaaGreatDoor
open Go.ChangeShapes Go.WideShapes Go.ChangeAt Go.RowKit
open _root_.And renaming intro->bT
open _root_.Bool renaming and_eq_true->aQ
open _root_.List renaming all_eq_true->jA
set_option maxRecDepth 100000
set_option maxHeartbeats 8000000
section
theorem bbinds_lifted(os:Os)(started:os.Started)(H:Type)(enc:TypeId×Value->H):
  ReturnsInHanded {} Tryz.checked os 4 .any (fun w args=>(Rows.bindBindsSpec.pre enc Tryz.prog Tryz.f4 [] false w args/\laidMetH Tryz.prog b2j w)/\sizedMet enc Tryz.prog Tryz.f4 (OpenSpec.ofChange Rows.bindBindsSpec) false w args)
   (Rows.bindBindsSpec.post enc Tryz.prog Tryz.f4 false true false false):=by
 refine wrap (C:=Tryz.checked) (X:=fun w _=>laidMetH Tryz.prog b2j w) (fun _ _ _ hh h=>h.of_heap hh) own started (by kernel_rfl) Tryz.func4
  (ChangeSpec.witness_shaped (enc:=enc) (C:=Tryz.checked) (os:=os) (X:=fun w _=>laidMetH Tryz.prog b2j w) false (World.laidAll Tryz.prog os b2j) #[.slice none 0 0,.agg #[.int .i64 0,.int .i64 0,.int .i64 0,S [],S [],S [],.int .i64 0,.slice none 0 0],.int .i64 0] 8 (World.laidAll_os _ _ _)
   (World.shaped_of_ZipB (by kernel_rfl) (by kernel_rfl)) (by kernel_rfl) (by kernel_rfl) (by kernel_rfl)
   (by rw[MakeChecks.laidMetH_plain _ _ _ (by kernel_rfl)];exact laidMet_laidAll _ (by kernel_rfl) (by kernel_rfl))) ?_
 intro W base args ds gs before hval0 hW _ hL hsh;have hval:∀(j:Nat) t v,Tryz.f4.params[j]?=some t->args[j]?=some v->Value.okWide Tryz.prog W .any base t v:=hval0;have hW':=hW;obtain⟨p,q,hA0,hV,hpq,_,_⟩:=hW;have hA:DataW.TrodAll enc Tryz.prog W 0 (fun _=>true) true Tryz.f4.params.toList args.toList ds p:=hA0;rw[Tryz.params4] at hA hval;obtain⟨v0,v1,v2,d0,d1,d2,p0,p1,p2,rfl,rfl,rfl,h0,h1,h2⟩:=trodAll_three hA;obtain⟨rfl,rfl⟩:=trodVars_none hV;obtain⟨l,ra,rc,rfl,hle,hcm,hr⟩:=fields_of_trod (hval 0 43 v0 rfl rfl) h0;obtain⟨x,hx,_,hk⟩:=b8e (hval 1 47 v1 rfl rfl) h1;obtain⟨i,rfl,rfl,rfl,wi⟩:=open_int Tryz.underlying3 (hval 2 3 v2 rfl rfl) h2;refine(bbinds_all l x i (c8r wi).1 (c8r wi).2 W v1 ra rc hle hx hk hr (c3o hL hsh)).mono fun e W' ⟨he,hb⟩=>?_;subst he;exact⟨_,rfl,b8p laidOut Tryz.underlying4 (by kernel_rfl) (by rw[Tryz.params4];intro t ht;have h3:t=43\/t=47\/t=3:=(by simpa using ht);rcases h3 with rfl|rfl|rfl<;>exact⟨by kernel_rfl,of_decide_eq_true (by kernel_rfl)⟩) rfl hW' rfl hb⟩
theorem bbinds_holds:Rows.BindBindsSaid:=
 OpenClaim.holds_of_wide 4 Tryz.f4 rfl rfl rfl rfl rfl rfl rfl ⟨rfl,rfl,rfl,rfl,rfl⟩ rfl rfl rfl rfl rfl (by as_aux_lemma=>kernel_rfl) Tryz.func4 (by unfold joinedFacts;simp only[aQ];(repeat' apply bT);all_goals (as_aux_lemma=>kernel_rfl))
  (of_decide_eq_true (by as_aux_lemma=>kernel_rfl)) (by unfold Func.isWrapper;first |(rw[if_pos (by decide+kernel)];kernel_rfl)|(rw[if_neg (by decide+kernel)];exact⟨rfl,rfl⟩))
  (fun os started H enc _=>bbinds_lifted os started H enc)
theorem bbinds_card:Rows.BindBindsCardSaid:=
 Claim7.holds_tied_plain_at .later [] [.data,.data,.data,.data,.sentinel,.sentinel,.pinned] true Rows.bindBindsCard.stood.harness true bbinds_holds (fun _ h=>by cases h) (by as_aux_lemma=>kernel_rfl) (fun _ h=>by cases h) bindBinds_row_tie rfl ⟨rfl,rfl⟩ (by as_aux_lemma=>kernel_rfl) rfl
  (fun f fn hf hfn=>by
   obtain rfl:f=4:=Option.some.inj ((show Tryz.prog.funcNamed "loupe/loupelaw20.BindBinds" =some 4 by kernel_rfl).symm.trans hf) |>.symm;obtain rfl:fn=Tryz.f4:=(Option.some.inj (Tryz.func4.symm.trans hfn)).symm;exact⟨by kernel_rfl,fun j t ht=>by
    rw[Tryz.params4] at ht;have hm:t∈[43,47,3]:=(by simpa using Array.mem_of_getElem? ht);have hall:([43,47,3].all fun u=> !Tryz.prog.wantsStandIn u)=true:=(by kernel_rfl);exact(show Tryz.prog.wantsStandIn t=false by simpa using jA.1 hall t hm)⟩)
  (by as_aux_lemma=>kernel_rfl)
#print axioms bbinds_card
end
end Go.Proofs.YtkimpcmkminffaaGreatDoor
