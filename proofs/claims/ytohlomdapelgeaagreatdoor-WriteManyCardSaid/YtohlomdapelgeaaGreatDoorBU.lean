/- Texts KA1. -/
import Derived.Test.YtohlomdapelgeaaGreatDoorAL
import Derived.Test.YtohlomdapelgeaaGreatDoorTie
import Derived.Test.YtohlomdapelgeaaGreatDoorCards
import Derived.SevenTiedAt
import Derived.OpenShut
import Derived.Deep.Strs
namespace Go.Proofs.YtohlomdapelgeaaGreatDoor
open _root_.Go.Proofs.Tryz
open Go.ChangeShapes Go.WideShapes Go.ChangeAt Go.RowKit
open Go.ChangeMaps (open_string shut_string)
open _root_.And renaming intro->bT
open _root_.Bool renaming and_eq_true->aQ
open _root_.List renaming all_eq_true->jA
set_option maxRecDepth 100000
set_option maxHeartbeats 8000000
section
def WmLifted:Prop:=∀(os:Os) (_:os.Started) (H:Type) (enc:TypeId×Value->H),
  ReturnsInHanded {} Tryz.checked os 3 .any (fun w args=>(Rows.writeManySpec.pre enc prog Tryz.f3 [] false w args/\laidMetH prog b2j w)/\sizedMet enc prog Tryz.f3 (OpenSpec.ofChange Rows.writeManySpec) false w args)
   (Rows.writeManySpec.post enc prog Tryz.f3 false true false false)
theorem wmany_holds_of(hl:WmLifted):Rows.WriteManySaid:=
 OpenClaim.holds_of_wide 3 Tryz.f3 rfl rfl rfl rfl rfl rfl rfl ⟨rfl,rfl,rfl,rfl,rfl⟩ rfl rfl rfl rfl rfl dr func3 (by unfold joinedFacts;simp only[aQ];(repeat' apply bT);all_goals (as_aux_lemma=>kernel_rfl))
  (of_decide_eq_true dr) (by unfold Func.isWrapper;first |(rw[if_pos au];kernel_rfl)|(rw[if_neg au];exact⟨rfl,rfl⟩))
  (fun os started H enc _=>hl os started H enc)
theorem wmany_card_of(hl:WmLifted):Rows.WriteManyCardSaid:=
 Claim7.holds_tied_plain_at .later [] [.data,.data,.data,.data,.sentinel,.sentinel,.pinned] true Rows.writeManyCard.stood.harness true (wmany_holds_of hl) (fun _ h=>by cases h) dr (fun _ h=>by cases h) writeMany_row_tie rfl ⟨rfl,rfl⟩ dr rfl
  (fun f fn hf hfn=>by
   obtain rfl:f=3:=Option.some.inj ((show prog.funcNamed "loupe/loupelaw18.WriteMany" =some 3 by kernel_rfl).symm.trans hf) |>.symm;obtain rfl:fn=Tryz.f3:=(Option.some.inj (func3.symm.trans hfn)).symm;exact⟨by kernel_rfl,fun j t ht=>by
    rw[params3] at ht;have hm:t∈[3,3,3]:=(by simpa using Array.mem_of_getElem? ht);have hall:([3,3,3].all fun u=> !prog.wantsStandIn u)=true:=af;exact(show prog.wantsStandIn t=false by simpa using jA.1 hall t hm)⟩)
  dr
end
end Go.Proofs.YtohlomdapelgeaaGreatDoor
