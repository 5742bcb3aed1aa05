/- Texts beside the shared ones. -/
import Derived.Test.YtohlomdapelgeaaGreatDoorWX0
import Derived.Test.YtohlomdapelgeaaGreatDoorTie
import Derived.Test.YtohlomdapelgeaaGreatDoorCards
import Derived.SevenTiedAt
import Derived.OpenShut
import Derived.Deep.Strs
namespace Go.Proofs.YtohlomdapelgeaaGreatDoor
open _root_.Go.Proofs.Tryz
open Go.ChangeShapes Go.WideShapes Go.ChangeAt Go.RowKit
open Go.ChangeMaps (open_string shut_string)
open _root_.And renaming intro->bT
open _root_.Bool renaming and_eq_true->aQ
open _root_.List renaming all_eq_true->jA
set_option maxRecDepth 100000
set_option maxHeartbeats 8000000
section
def WsLifted:Prop:=∀(os:Os) (_:os.Started) (H:Type) (enc:TypeId×Value->H),
  ReturnsInHanded {} Tryz.checked os 5 .any (fun w args=>(Rows.writeSetsSpec.pre enc Tryz.prog Tryz.f5 [] false w args/\laidMetH Tryz.prog b2j w)/\sizedMet enc Tryz.prog Tryz.f5 (OpenSpec.ofChange Rows.writeSetsSpec) false w args)
   (Rows.writeSetsSpec.post enc Tryz.prog Tryz.f5 false true false false)
theorem wsets_holds_of(hl:WsLifted):Rows.WriteSetsSaid:=
 OpenClaim.holds_of_wide 5 Tryz.f5 rfl rfl rfl rfl rfl rfl rfl ⟨rfl,rfl,rfl,rfl,rfl⟩ rfl rfl rfl rfl rfl (by as_aux_lemma=>kernel_rfl) func5 (by unfold joinedFacts;simp only[aQ];(repeat' apply bT);all_goals (as_aux_lemma=>kernel_rfl))
  (of_decide_eq_true (by as_aux_lemma=>kernel_rfl)) (by unfold Func.isWrapper;first |(rw[if_pos (by decide+kernel)];kernel_rfl)|(rw[if_neg (by decide+kernel)];exact⟨rfl,rfl⟩))
  (fun os started H enc _=>hl os started H enc)
theorem wsets_card_of(hl:WsLifted):Rows.WriteSetsCardSaid:=
 Claim7.holds_tied_plain_at .later [] [.data,.data,.data,.data,.sentinel,.sentinel,.pinned] true Rows.writeSetsCard.stood.harness true (wsets_holds_of hl) (fun _ h=>by cases h) (by as_aux_lemma=>kernel_rfl) (fun _ h=>by cases h) writeSets_row_tie rfl ⟨rfl,rfl⟩ (by as_aux_lemma=>kernel_rfl) rfl
  (fun f fn hf hfn=>by
   obtain rfl:f=5:=Option.some.inj ((show Tryz.prog.funcNamed "loupe/loupelaw18.WriteSets" =some 5 by kernel_rfl).symm.trans hf) |>.symm;obtain rfl:fn=Tryz.f5:=(Option.some.inj (func5.symm.trans hfn)).symm;exact⟨by kernel_rfl,fun j t ht=>by
    rw[params5] at ht;have hm:t∈[46,3]:=(by simpa using Array.mem_of_getElem? ht);have hall:([46,3].all fun u=> !Tryz.prog.wantsStandIn u)=true:=af;exact(show Tryz.prog.wantsStandIn t=false by simpa using jA.1 hall t hm)⟩)
  (by as_aux_lemma=>kernel_rfl)
end
end Go.Proofs.YtohlomdapelgeaaGreatDoor
