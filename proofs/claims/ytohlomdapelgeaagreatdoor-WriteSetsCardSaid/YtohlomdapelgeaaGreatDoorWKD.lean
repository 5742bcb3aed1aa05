/- Texts beside the shared ones. -/
import Derived.Test.YtohlomdapelgeaaGreatDoorWX0
import Derived.Test.YtohlomdapelgeaaGreatDoorWKD1
import Derived.Test.YtohlomdapelgeaaGreatDoorWWJ
import Derived.Test.YtohlomdapelgeaaGreatDoorWOY
import Derived.Test.YtohlomdapelgeaaGreatDoorTie
import Derived.Test.YtohlomdapelgeaaGreatDoorCards
import Derived.SevenTiedAt
import Derived.OpenShut
import Derived.Deep.Strs
namespace Go.Proofs.YtohlomdapelgeaaGreatDoor
open _root_.Go.Proofs.Tryz
open Go.ChangeShapes Go.WideShapes Go.ChangeAt Go.RowKit
open Go.ChangeMaps (open_string shut_string)
set_option maxRecDepth 100000
set_option maxHeartbeats 2000000
section
theorem wsets_lifted(os:Os)(started:os.Started)(H:Type)(enc:TypeId×Value->H):
  ReturnsInHanded {} Tryz.checked os 5 .any (fun w args=>(Rows.writeSetsSpec.pre enc Tryz.prog Tryz.f5 [] false w args/\laidMetH Tryz.prog b2j w)/\sizedMet enc Tryz.prog Tryz.f5 (OpenSpec.ofChange Rows.writeSetsSpec) false w args)
   (Rows.writeSetsSpec.post enc Tryz.prog Tryz.f5 false true false false):=by
 refine wrap (C:=Tryz.checked) (X:=fun w _=>laidMetH Tryz.prog b2j w) (fun _ _ _ hh h=>h.of_heap hh) own started af func5
  (ChangeSpec.witness_shaped (enc:=enc) (C:=Tryz.checked) (os:=os) (X:=fun w _=>laidMetH Tryz.prog b2j w) false (World.laidAll Tryz.prog os b2j) #[.agg #[.int .i64 0,S [],S [],.slice none 0 0,.slice none 0 0,.bool false,.bool false,.slice none 0 0,S [],S [],.slice none 0 0,.int .i64 0,.int .i64 0,.int .i64 0,S [],S [],S [],.int .i64 0,.slice none 0 0,.slice none 0 0,.int .i64 0,.int .i64 0,.int .i64 0,S [],S [],S [],.int .i64 0,.slice none 0 0,.slice none 0 0,.int .i64 0,.slice none 0 0,.int .i64 0,.slice none 0 0,.int .i64 0,.int .i64 0,.int .i64 0,S [],S [],S [],.int .i64 0,.slice none 0 0,S [],S [],.int .i64 0,.int .i64 0,.int .i64 0,S [],S [],S [],.int .i64 0,.slice none 0 0,.slice none 0 0,.slice none 0 0],.int .i64 0] 8 (World.laidAll_os _ _ _)
   (World.shaped_of_ZipB af af) af af af
   (by rw[MakeChecks.laidMetH_plain _ _ _ af];exact laidMet_laidAll _ af af)) ?_
 intro W base args ds gs before hval0 hW _ hL hsh;have hval:∀(j:Nat) t v,Tryz.f5.params[j]?=some t->args[j]?=some v->Value.okWide Tryz.prog W .any base t v:=hval0;have hW':=hW;obtain⟨p,q,hA0,hV,hpq,_,_⟩:=hW;have hA:DataW.TrodAll enc Tryz.prog W 0 (fun _=>true) true Tryz.f5.params.toList args.toList ds p:=hA0;rw[params5] at hA hval;obtain⟨v0,v1,d0,d1,p0,p1,rfl,rfl,rfl,h0,h1⟩:=trodAll_two hA;obtain⟨rfl,rfl⟩:=trodVars_none hV;obtain⟨wr,sl,rfl,hr,hl⟩:=write_of_trod (hval 0 46 v0 rfl rfl) h0;obtain⟨i,rfl,rfl,rfl,wi⟩:=open_int underlying3 (hval 1 3 v1 rfl rfl) h1;refine(wsets_all hl W (c3o hL hsh) hr i (c8r wi).1 (c8r wi).2).mono fun e W' ⟨he,hb⟩=>?_;subst he;exact⟨_,rfl,b8p laidOut Tryz.underlying4 af (by rw[params5];intro t ht;have h3:t=46\/t=3:=cI;rcases h3 with rfl|rfl<;>exact⟨by kernel_rfl,of_decide_eq_true af⟩) rfl hW' rfl hb⟩
theorem wsets_card:Rows.WriteSetsCardSaid:=wsets_card_of wsets_lifted
#print axioms wsets_card
end
end Go.Proofs.YtohlomdapelgeaaGreatDoor
