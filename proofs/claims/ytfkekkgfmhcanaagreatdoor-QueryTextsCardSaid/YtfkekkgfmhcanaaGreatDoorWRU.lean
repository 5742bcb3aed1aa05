/- Texts beside the shared ones. -/
import Derived.Test.YtfkekkgfmhcanaaGreatDoorTS
import Derived.Test.YtfkekkgfmhcanaaGreatDoorTA
import Derived.Test.YtfkekkgfmhcanaaGreatDoorTB
import Derived.Test.YtfkekkgfmhcanaaGreatDoorTC
import Derived.Test.YtfkekkgfmhcanaaGreatDoorTD
import Derived.Test.YtfkekkgfmhcanaaGreatDoorTE
import Derived.Test.YtfkekkgfmhcanaaGreatDoorTF
import Derived.Test.YtfkekkgfmhcanaaGreatDoorTG
import Derived.Test.YtfkekkgfmhcanaaGreatDoorTH
import Derived.Test.YtfkekkgfmhcanaaGreatDoorTI
import Derived.Test.YtfkekkgfmhcanaaGreatDoorTJ
import Derived.Test.YtfkekkgfmhcanaaGreatDoorWRG
namespace Go.Proofs.YtfkekkgfmhcanaaGreatDoor
open Go.RowKit
open _root_.Bool renaming and_eq_true->aQ
open _root_.Go.Lib renaming hid->aB
open _root_.List renaming all_eq_true->jA
set_option maxRecDepth 100000
set_option maxHeartbeats 2000000
section
theorem qItemsText_yes{l:List It}(hlen:l.length<=1000000)(hi:∀i∈l,e7f i)(hr:d4l l=true)(hT:(d5q l).length<=100000000){p:Nat->Prop}{W:World}{v:Value}(hR:d2p fIt p W v l)(hG:nD W):Calls Tryz.prog 24 #[v] W fun e w'=>e= .returned (.tuple #[S (d5q l),.int .i64 0])/\Bl W w':=by
 obtain⟨a,c,rfl,-⟩:=hR.shape;have hr2:=hr;unfold d4l at hr2;simp only[aQ,decide_eq_true_eq] at hr2;have ha:=jA.1 hr2.2;have hne:l≠[]:=fun h=>(by rw[h] at hr2;exact absurd hr2.1.1 (by decide));have H1:Hid (∀w,Bl W w->Calls Tryz.prog 65 #[.slice a l.length c] w fun e w'=>e= .returned (.bool true)/\Bl w w'):=fun w hb=>by
  have h:=e1x hlen hi (hR.bl hb) (hG.bl hb);rw[hr] at h;exact h
 have HTI:Hid (∀w,Bl W w->Calls Tryz.prog 67 #[.slice a l.length c,.func (.func 68) #[] #[]] w fun e w'=>(∃v,e= .returned v/\sW w' v (l.map d5x))/\Bl w w'):=fun w hb=>by
  refine(e1p (tx:=d5x) (fn:=68) #[] d6v hlen (hR.bl hb) (fun y hy W' s hb' hs=>d8r (ha y hy) (hi y hy) (d5g (s:=[44,32]) (show(jR [44,32] (l.map d5x)).length<=100000000 from hT) y hy) hs (hG.bl (hb.call hb')))).mono ?_;rintro e w' ⟨⟨v,he,hv⟩,hb2⟩;exact⟨⟨v,he,d8m hv hne⟩,hb2⟩
 have HC:Hid (∀w v,sW w v (l.map d5x)->Calls Tryz.prog 66 #[v] w fun e w'=>e= .returned (S (d5q l))/\Bl w w'):=fun w v hv=>d5r hv (by simpa using hlen) hT;clear hR hi hr hr2 ha hG hT;generalize d5q l=u1 at *;go_enter Tryz.func24,Tryz.ntmps24;go_wp2_with fail;refine(H1.o _ (Bl.refl W)).mono ?_;rintro e w1 ⟨rfl,hb1⟩;go_wp2_with fail;refine(HTI.o _ hb1).mono ?_;rintro e w2 ⟨⟨v,rfl,hv⟩,hb2⟩;have HV:=aB hv;clear hv;go_wp2_with fail;refine(HC.o _ _ HV.o).mono ?_;rintro e w3 ⟨rfl,hb3⟩;go_wp2;go_ret2;exact⟨rfl,(hb1.call hb2).call hb3⟩
theorem qItemsText_no{l:List It}(hlen:l.length<=1000000)(hi:∀i∈l,e7f i)(hr:d4l l=false){p:Nat->Prop}{W:World}{v:Value}(hR:d2p fIt p W v l)(hG:nD W):Calls Tryz.prog 24 #[v] W fun e w'=>e= .returned (.tuple #[S [],.int .i64 2])/\Bl W w':=by
 obtain⟨a,c,rfl,-⟩:=hR.shape;have H1:=aB (e1x hlen hi hR hG);rw[hr] at H1;clear hR hi hr hG;go_enter Tryz.func24,Tryz.ntmps24;go_wp2_with fail;refine H1.o.mono ?_;rintro e w1 ⟨rfl,hb1⟩;go_wp2;go_ret2;exact⟨rfl,hb1⟩
end
end Go.Proofs.YtfkekkgfmhcanaaGreatDoor
