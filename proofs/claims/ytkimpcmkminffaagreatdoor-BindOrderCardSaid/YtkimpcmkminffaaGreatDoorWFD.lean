/- Texts beside the shared ones. -/
import Derived.Test.YtkimpcmkminffaaGreatDoorWX0
import Derived.Test.YtkimpcmkminffaaGreatDoorWFC
import Derived.Test.YtkimpcmkminffaaGreatDoorWM3
namespace Go.Proofs.YtkimpcmkminffaaGreatDoor
open Go.RowKit
open _root_.Go.Ending renaming returned->bQ
set_option maxRecDepth 100000
section
abbrev numI(n:Int):Ending:= .returned (.tuple #[.int .i64 (numV n).1.2.1,.int .i64 (numV n).2])
theorem numI_yes{n:Int}(h:fits64 n=true):numI n= .returned (.tuple #[.int .i64 n,.int .i64 0]):=by unfold numI numV;rw[h];rfl
theorem numI_no{n:Int}(h:fits64 n=false):numI n= .returned (.tuple #[.int .i64 0,.int .i64 122]):=by unfold numI numV;rw[h];rfl
theorem numI_ifs(n:Int):bQ (.tuple #[.int .i64 (if -9223372036854775808<=n/\n<=9223372036854775807 then n else 0),.int .i64 (if -9223372036854775808<=n/\n<=9223372036854775807 then 0 else 122)])=numI n:=by
 by_cases h: -9223372036854775808<=n/\n<=9223372036854775807
 ·rw[numI_yes (by unfold fits64;simp[h.1,h.2]),if_pos h,if_pos h]
 ·rw[numI_no (by unfold fits64;rw[Bool.and_eq_false_iff];simp only[decide_eq_false_iff_not];omega),if_neg h,if_neg h]
theorem ubool_vl(b:Bool):tVl b=if b then(1,1,[]) else(1,0,[]):=rfl
end
end Go.Proofs.YtkimpcmkminffaaGreatDoor
