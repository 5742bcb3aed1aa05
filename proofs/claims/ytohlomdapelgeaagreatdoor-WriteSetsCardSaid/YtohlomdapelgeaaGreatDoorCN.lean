/- Texts Q3 Q4. -/
import Derived.Test.YtohlomdapelgeaaGreatDoorCC
namespace Go.Proofs.YtohlomdapelgeaaGreatDoor
open Go.RowKit
set_option maxRecDepth 100000
section
theorem Lx.nil:Lx [] []:=fun r _=>by simp
theorem end_blank(s r:List UInt8):yL (32::s++r):=yL.of _ ae ae
def Bl32(o:List UInt8):Prop:=o=[]\/∃s,o=32::s
theorem Bl32.fin{o:List UInt8}(h:Bl32 o):∀r,yL r->yL (o++r):=by
 intro r hr;rcases h with rfl|⟨s,rfl⟩
 ·exact hr
 ·exact end_blank s r
end
section
end
end Go.Proofs.YtohlomdapelgeaaGreatDoor
