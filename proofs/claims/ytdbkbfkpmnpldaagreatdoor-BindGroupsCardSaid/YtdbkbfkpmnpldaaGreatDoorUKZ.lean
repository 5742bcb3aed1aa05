/- Texts beside the shared ones. -/
import Derived.Test.YtdbkbfkpmnpldaaGreatDoorNS
import Derived.Test.YtdbkbfkpmnpldaaGreatDoorNA
import Derived.Test.YtdbkbfkpmnpldaaGreatDoorNB
import Derived.Test.YtdbkbfkpmnpldaaGreatDoorNC
import Derived.Test.YtdbkbfkpmnpldaaGreatDoorNX
import Derived.Test.YtdbkbfkpmnpldaaGreatDoorNI
import Derived.Test.YtdbkbfkpmnpldaaGreatDoorND
import Derived.Test.YtdbkbfkpmnpldaaGreatDoorNE
import Derived.Test.YtdbkbfkpmnpldaaGreatDoorWXS
import Derived.Test.YtdbkbfkpmnpldaaGreatDoorWX0
import Derived.Test.YtdbkbfkpmnpldaaGreatDoorWM1
import Derived.Test.YtdbkbfkpmnpldaaGreatDoorWM2
import Derived.Test.YtdbkbfkpmnpldaaGreatDoorWCA
import Derived.Test.YtdbkbfkpmnpldaaGreatDoorWM3
import Derived.Test.YtdbkbfkpmnpldaaGreatDoorWM4
import Derived.Test.YtdbkbfkpmnpldaaGreatDoorWM5
import Derived.Test.YtdbkbfkpmnpldaaGreatDoorWM6
import Derived.Test.YtdbkbfkpmnpldaaGreatDoorWM7
import Derived.Test.YtdbkbfkpmnpldaaGreatDoorWM8
import Derived.Test.YtdbkbfkpmnpldaaGreatDoorWM9
import Derived.Test.YtdbkbfkpmnpldaaGreatDoorWFA
import Derived.Test.YtdbkbfkpmnpldaaGreatDoorWFB
import Derived.Test.YtdbkbfkpmnpldaaGreatDoorWFC
import Derived.Test.YtdbkbfkpmnpldaaGreatDoorWOB
import Derived.Test.YtdbkbfkpmnpldaaGreatDoorVX0
import Derived.Test.YtdbkbfkpmnpldaaGreatDoorVBY
import Derived.Test.YtdbkbfkpmnpldaaGreatDoorVOV
import Derived.Test.YtdbkbfkpmnpldaaGreatDoorVFD
import Derived.Test.YtdbkbfkpmnpldaaGreatDoorVFE
import Derived.Test.YtdbkbfkpmnpldaaGreatDoorVFG
import Derived.Test.YtdbkbfkpmnpldaaGreatDoorVFI
import Derived.Test.YtdbkbfkpmnpldaaGreatDoorVFJ
import Derived.Test.YtdbkbfkpmnpldaaGreatDoorVFH
import Derived.Test.YtdbkbfkpmnpldaaGreatDoorVFO
import Derived.Test.YtdbkbfkpmnpldaaGreatDoorVFP
import Derived.Test.YtdbkbfkpmnpldaaGreatDoorVFR
import Derived.Test.YtdbkbfkpmnpldaaGreatDoorVFS
import Derived.Test.YtdbkbfkpmnpldaaGreatDoorVFT
import Derived.Test.YtdbkbfkpmnpldaaGreatDoorUFW
import Derived.Test.YtdbkbfkpmnpldaaGreatDoorUOW
import Derived.Test.YtdbkbfkpmnpldaaGreatDoorTie
import Derived.Test.YtdbkbfkpmnpldaaGreatDoorCards
import Derived.SevenTiedAt
namespace Go.Proofs.YtdbkbfkpmnpldaaGreatDoor
open Go.ChangeShapes Go.WideShapes Go.ChangeAt Go.RowKit
open _root_.And renaming intro->bT
open _root_.Bool renaming and_eq_true->aQ
open _root_.List renaming all_eq_true->jA
set_option maxRecDepth 100000
set_option maxHeartbeats 8000000
section
theorem bgroups_lifted(os:Os)(started:os.Started)(H:Type)(enc:TypeId×Value->H):
  ReturnsInHanded {} Tryz.checked os 4 .any (fun w args=>(Rows.bindGroupsSpec.pre enc Tryz.prog Tryz.f4 [] false w args/\laidMetH Tryz.prog b2j w)/\sizedMet enc Tryz.prog Tryz.f4 (OpenSpec.ofChange Rows.bindGroupsSpec) false w args)
   (Rows.bindGroupsSpec.post enc Tryz.prog Tryz.f4 false true false false):=by
 refine wrap (C:=Tryz.checked) (X:=fun w _=>laidMetH Tryz.prog b2j w) (fun _ _ _ hh h=>h.of_heap hh) own started (by kernel_rfl) Tryz.func4
  (ChangeSpec.witness_shaped (enc:=enc) (C:=Tryz.checked) (os:=os) (X:=fun w _=>laidMetH Tryz.prog b2j w) false (World.laidAll Tryz.prog os b2j) #[.agg #[.int .i64 0,.int .i64 0,.int .i64 0,.int .i64 0,S [],.int .i64 0,.int .i64 0,S [],.slice none 0 0],.slice none 0 0] 8 (World.laidAll_os _ _ _)
   (World.shaped_of_ZipB (by kernel_rfl) (by kernel_rfl)) (by kernel_rfl) (by kernel_rfl) (by kernel_rfl)
   (by rw[MakeChecks.laidMetH_plain _ _ _ (by kernel_rfl)];exact laidMet_laidAll _ (by kernel_rfl) (by kernel_rfl))) ?_
 intro W base args ds gs before hval0 hW _ hL hsh;have hval:∀(j:Nat) t v,Tryz.f4.params[j]?=some t->args[j]?=some v->Value.okWide Tryz.prog W .any base t v:=hval0;have hW':=hW;obtain⟨p,q,hA0,hV,hpq,_,_⟩:=hW;have hA:DataW.TrodAll enc Tryz.prog W 0 (fun _=>true) true Tryz.f4.params.toList args.toList ds p:=hA0;rw[Tryz.params4] at hA hval;obtain⟨v0,v1,d0,d1,p0,p1,rfl,rfl,rfl,h0,h1⟩:=trodAll_two hA;obtain⟨rfl,rfl⟩:=trodVars_none hV;obtain⟨a,ha,hi⟩:=bound_of_trod (hval 0 30 v0 rfl rfl) h0;obtain⟨l,ra,rc,rfl,hle,hcm,hr,hint⟩:=rows_of_trod (hval 1 39 v1 rfl rfl) h1;refine(bgroups_all a l W v0 ra rc (by unfold maxLen at hcm;omega) hle ha hr hi hint (c3o hL hsh)).mono fun e W' ⟨he,hb⟩=>?_;subst he;exact⟨_,rfl,b8p laidOut Tryz.underlying4 (by kernel_rfl) (by rw[Tryz.params4];intro t ht;have h3:t=30\/t=39:=(by simpa using ht);rcases h3 with rfl|rfl<;>exact⟨by kernel_rfl,of_decide_eq_true (by kernel_rfl)⟩) rfl hW' rfl hb⟩
theorem bgroups_holds:Rows.BindGroupsSaid:=
 OpenClaim.holds_of_wide 4 Tryz.f4 rfl rfl rfl rfl rfl rfl rfl ⟨rfl,rfl,rfl,rfl,rfl⟩ rfl rfl rfl rfl rfl (by as_aux_lemma=>kernel_rfl) Tryz.func4 (by unfold joinedFacts;simp only[aQ];(repeat' apply bT);all_goals (as_aux_lemma=>kernel_rfl))
  (of_decide_eq_true (by as_aux_lemma=>kernel_rfl)) (by unfold Func.isWrapper;first |(rw[if_pos (by decide+kernel)];kernel_rfl)|(rw[if_neg (by decide+kernel)];exact⟨rfl,rfl⟩))
  (fun os started H enc _=>bgroups_lifted os started H enc)
theorem bgroups_card:Rows.BindGroupsCardSaid:=
 Claim7.holds_tied_plain_at .later [] [.data,.data,.data,.data,.sentinel,.sentinel,.pinned] true Rows.bindGroupsCard.stood.harness true bgroups_holds (fun _ h=>by cases h) (by as_aux_lemma=>kernel_rfl) (fun _ h=>by cases h) bindGroups_row_tie rfl ⟨rfl,rfl⟩ (by as_aux_lemma=>kernel_rfl) rfl
  (fun f fn hf hfn=>by
   obtain rfl:f=4:=Option.some.inj ((show Tryz.prog.funcNamed "loupe/loupelaw20.BindGroups" =some 4 by kernel_rfl).symm.trans hf) |>.symm;obtain rfl:fn=Tryz.f4:=(Option.some.inj (Tryz.func4.symm.trans hfn)).symm;exact⟨by kernel_rfl,fun j t ht=>by
    rw[Tryz.params4] at ht;have hm:t∈[30,39]:=(by simpa using Array.mem_of_getElem? ht);have hall:([30,39].all fun u=> !Tryz.prog.wantsStandIn u)=true:=(by kernel_rfl);exact(show Tryz.prog.wantsStandIn t=false by simpa using jA.1 hall t hm)⟩)
  (by as_aux_lemma=>kernel_rfl)
#print axioms bgroups_card
end
end Go.Proofs.YtdbkbfkpmnpldaaGreatDoor
