/- Texts beside the shared ones. -/
import Derived.Test.YtdbkbfkpmnpldaaGreatDoorVX0
import Derived.WalkKit
import Derived.WalkSpells
import Derived.StillTailTactics
import Derived.Lib.Hide
import Derived.Test.YtdbkbfkpmnpldaaGreatDoorProg
namespace Go.Proofs.YtdbkbfkpmnpldaaGreatDoor
open Go.RowKit
set_option maxRecDepth 100000
set_option maxHeartbeats 1000000
section
theorem uadd_any(a b:Int)(ha0: -9223372036854775808<=a)(ha1:a<=9223372036854775807)(hb0: -9223372036854775808<=b)(hb1:b<=9223372036854775807)(w:World):
  Calls Tryz.prog 130 #[.int .i64 a,.int .i64 b] w fun e w'=>e= .returned (.tuple #[.int .i64 (if -9223372036854775808<=a+b/\a+b<=9223372036854775807 then a+b else 0),.int .i64 (if -9223372036854775808<=a+b/\a+b<=9223372036854775807 then 0 else 122)])/\w'=w:=by
 by_cases h: -9223372036854775808<=a+b/\a+b<=9223372036854775807
 ·rw[if_pos h,if_pos h];obtain⟨h1,h2⟩:=h;go_enter Tryz.func130,Tryz.ntmps130;go_wp2
  all_goals
   go_ret2;exact⟨rfl,rfl⟩
 ·rw[if_neg h,if_neg h];go_enter Tryz.func130,Tryz.ntmps130;go_wp2
  all_goals
   go_ret2;exact⟨rfl,rfl⟩
theorem usub_any(a b:Int)(ha0: -9223372036854775808<=a)(ha1:a<=9223372036854775807)(hb0: -9223372036854775808<=b)(hb1:b<=9223372036854775807)(w:World):
  Calls Tryz.prog 131 #[.int .i64 a,.int .i64 b] w fun e w'=>e= .returned (.tuple #[.int .i64 (if -9223372036854775808<=a-b/\a-b<=9223372036854775807 then a-b else 0),.int .i64 (if -9223372036854775808<=a-b/\a-b<=9223372036854775807 then 0 else 122)])/\w'=w:=by
 by_cases h: -9223372036854775808<=a-b/\a-b<=9223372036854775807
 ·rw[if_pos h,if_pos h];obtain⟨h1,h2⟩:=h;go_enter Tryz.func131,Tryz.ntmps131;go_wp2
  all_goals
   go_ret2;exact⟨rfl,rfl⟩
 ·rw[if_neg h,if_neg h];go_enter Tryz.func131,Tryz.ntmps131;go_wp2
  all_goals
   go_ret2;exact⟨rfl,rfl⟩
end
end Go.Proofs.YtdbkbfkpmnpldaaGreatDoor
