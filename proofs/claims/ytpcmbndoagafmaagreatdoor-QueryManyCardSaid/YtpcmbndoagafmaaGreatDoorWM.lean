/- Texts beside the shared ones. -/
import Derived.Test.YtpcmbndoagafmaaGreatDoorB
import Derived.Test.YtpcmbndoagafmaaGreatDoorWN
import Derived.Test.YtpcmbndoagafmaaGreatDoorTie
import Derived.Test.YtpcmbndoagafmaaGreatDoorCards
import Derived.SevenTiedAt
import Derived.OpenShut
import Derived.Deep.Strs
namespace Go.Proofs.YtpcmbndoagafmaaGreatDoor
open Go.ChangeShapes Go.WideShapes Go.ChangeAt Go.RowKit
open Go.ChangeMaps (open_string shut_string)
open _root_.And renaming intro->bT
open _root_.Bool renaming and_eq_true->aQ
open _root_.List renaming all_eq_true->jA
set_option maxRecDepth 100000
set_option maxHeartbeats 8000000
section
theorem okWide_arr{P:Program}{w:World}{r:Reach}{base:Nat}{t:TypeId}{v:Value}{n:Nat}{e:TypeId}(ht:P.underlying t=some (.array n e))(h:Value.okWide P w r base t v):∃cs,v= .agg cs/\cs.size=P.cellsOf t:=by
 simp only[Value.okWide,ht] at h;obtain⟨cs,h1,h2,_⟩:=h;exact⟨cs,h1,h2⟩
theorem intOne:Tryz.prog.cellsOf 3=1:=by kernel_rfl
theorem arrTwo:Tryz.prog.cellsOf 46=2:=by kernel_rfl
theorem pair_ints{H:Type}{enc:TypeId×Value->H}{W:World}{r:Reach}{b0 b1:Nat}{sp:Nat->Bool}{held:Bool}{v:Value}{d:DataW H}{p:List MemPlace}
  (hv:Value.okWide Tryz.prog W r b0 46 v) (h:DataW.Trod enc Tryz.prog W b1 sp held 46 v d p):∃(x y:Int),v= .agg #[.int .i64 x,.int .i64 y]:=by
 obtain⟨⟨cs⟩,rfl,hsz⟩:=okWide_arr Tryz.underlying46 hv;rw[arrTwo] at hsz;obtain⟨a0,a1,rfl⟩:∃a b,cs=[a,b]:=by
  match cs,hsz with
  |[a,b],_=>exact⟨a,b,rfl⟩
 obtain⟨fuel,hf⟩:=h;obtain⟨xs,m,_,_,_,hlen,hx⟩:=DataW.trod_array Tryz.underlying46 hf
 match xs,hlen with
 |[y0,y1],_=>
  have g0:=hx 0 (by omega);have g1:=hx 1 (by omega);simp[intOne,Value.cells] at g0 g1;obtain⟨x,e0,_,_⟩:=DataW.trod_int Tryz.underlying3 g0;obtain⟨y,e1,_,_⟩:=DataW.trod_int Tryz.underlying3 g1;simp only[List.cons.injEq,and_true] at e0 e1;subst e0 e1;exact⟨x,y,rfl⟩
theorem qmany_lifted(os:Os)(started:os.Started)(H:Type)(enc:TypeId×Value->H):
  ReturnsInHanded {} Tryz.checked os 4 .any (fun w args=>(Rows.queryManySpec.pre enc Tryz.prog Tryz.f4 [] false w args/\laidMetH Tryz.prog b2j w)/\sizedMet enc Tryz.prog Tryz.f4 (OpenSpec.ofChange Rows.queryManySpec) false w args)
   (Rows.queryManySpec.post enc Tryz.prog Tryz.f4 false true false false):=by
 refine wrap (C:=Tryz.checked) (X:=fun w _=>laidMetH Tryz.prog b2j w) (fun _ _ _ hh h=>h.of_heap hh) own started (by kernel_rfl) Tryz.func4
  (ChangeSpec.witness_shaped (enc:=enc) (C:=Tryz.checked) (os:=os) (X:=fun w _=>laidMetH Tryz.prog b2j w) false (World.laidAll Tryz.prog os b2j) #[.int .i64 0,.int .i64 0,.agg #[.int .i64 0,.int .i64 0]] 8 (World.laidAll_os _ _ _)
   (World.shaped_of_ZipB (by kernel_rfl) (by kernel_rfl)) (by kernel_rfl) (by kernel_rfl) (by kernel_rfl)
   (by rw[MakeChecks.laidMetH_plain _ _ _ (by kernel_rfl)];exact laidMet_laidAll _ (by kernel_rfl) (by kernel_rfl))) ?_
 intro W base args ds gs before hval0 hW _ hL hsh;have hval:∀(j:Nat) t v,Tryz.f4.params[j]?=some t->args[j]?=some v->Value.okWide Tryz.prog W .any base t v:=hval0;have hW':=hW;obtain⟨p,q,hA0,hV,hpq,_,_⟩:=hW;have hA:DataW.TrodAll enc Tryz.prog W 0 (fun _=>true) true Tryz.f4.params.toList args.toList ds p:=hA0;rw[Tryz.params4] at hA hval;obtain⟨v0,v1,v2,d0,d1,d2,p0,p1,p2,rfl,rfl,rfl,h0,h1,h2⟩:=trodAll_three hA;obtain⟨rfl,rfl⟩:=trodVars_none hV;obtain⟨i,rfl,rfl,rfl,wi⟩:=open_int Tryz.underlying3 (hval 0 3 v0 rfl rfl) h0;obtain⟨j,rfl,rfl,rfl,wj⟩:=open_int Tryz.underlying3 (hval 1 3 v1 rfl rfl) h1;obtain⟨x,y,rfl⟩:=pair_ints (hval 2 46 v2 rfl rfl) h2;refine(qmany_all i j x y W (c3o hL hsh)).mono fun e W' ⟨he,hb⟩=>?_;subst he;exact⟨_,rfl,b8p laidOut Tryz.underlying4 (by kernel_rfl) (by rw[Tryz.params4];intro t ht;have h3:t=3\/t=46:=(by simpa using ht);rcases h3 with rfl|rfl<;>exact⟨by kernel_rfl,of_decide_eq_true (by kernel_rfl)⟩) rfl hW' rfl hb⟩
theorem qmany_holds:Rows.QueryManySaid:=
 OpenClaim.holds_of_wide 4 Tryz.f4 rfl rfl rfl rfl rfl rfl rfl ⟨rfl,rfl,rfl,rfl,rfl⟩ rfl rfl rfl rfl rfl (by as_aux_lemma=>kernel_rfl) Tryz.func4 (by unfold joinedFacts;simp only[aQ];(repeat' apply bT);all_goals (as_aux_lemma=>kernel_rfl))
  (of_decide_eq_true (by as_aux_lemma=>kernel_rfl)) (by unfold Func.isWrapper;first |(rw[if_pos (by decide+kernel)];kernel_rfl)|(rw[if_neg (by decide+kernel)];exact⟨rfl,rfl⟩))
  (fun os started H enc _=>qmany_lifted os started H enc)
theorem qmany_card:Rows.QueryManyCardSaid:=
 Claim7.holds_tied_plain_at .later [] [.data,.data,.data,.data,.sentinel,.sentinel,.pinned] true Rows.queryManyCard.stood.harness true qmany_holds (fun _ h=>by cases h) (by as_aux_lemma=>kernel_rfl) (fun _ h=>by cases h) queryMany_row_tie rfl ⟨rfl,rfl⟩ (by as_aux_lemma=>kernel_rfl) rfl
  (fun f fn hf hfn=>by
   obtain rfl:f=4:=Option.some.inj ((show Tryz.prog.funcNamed "loupe/loupelaw17.QueryMany" =some 4 by kernel_rfl).symm.trans hf) |>.symm;obtain rfl:fn=Tryz.f4:=(Option.some.inj (Tryz.func4.symm.trans hfn)).symm;exact⟨by kernel_rfl,fun j t ht=>by
    rw[Tryz.params4] at ht;have hm:t∈[3,3,46]:=(by simpa using Array.mem_of_getElem? ht);have hall:([3,3,46].all fun u=> !Tryz.prog.wantsStandIn u)=true:=(by kernel_rfl);exact(show Tryz.prog.wantsStandIn t=false by simpa using jA.1 hall t hm)⟩)
  (by as_aux_lemma=>kernel_rfl)
#print axioms qmany_card
end
end Go.Proofs.YtpcmbndoagafmaaGreatDoor
