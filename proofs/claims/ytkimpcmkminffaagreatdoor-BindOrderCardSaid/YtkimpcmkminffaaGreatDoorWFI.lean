/- Texts beside the shared ones. -/
import Derived.Test.YtkimpcmkminffaaGreatDoorWX0
import Derived.Test.YtkimpcmkminffaaGreatDoorWFG
namespace Go.Proofs.YtkimpcmkminffaaGreatDoor
open Go.RowKit
set_option maxRecDepth 100000
section
theorem ok_kind{v:Vl}(h:okVl v=true):I64 v.1:=by
 unfold okVl chk at h;unfold I64;split at h
 ·cases h
 ·split at h
  ·rename_i h2;omega
  ·cases h
abbrev wholeE(o a b:Int):Ending:= .returned (.tuple #[.int .i64 (wholeO o a b).1.2.1,.int .i64 (wholeO o a b).2])
theorem whole_num{o a b n:Int}(h:wholeO o a b=numV n):wholeE o a b=numI n:=by unfold wholeE numI;rw[h]
end
end Go.Proofs.YtkimpcmkminffaaGreatDoor
