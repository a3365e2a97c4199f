/-
  Contracts of the two functions that ask whether a number lies in a range. Nothing here is a claim.
-/
import Derived.Test.YtaepnacbmeajoaaDoorBase
import Derived.Test.YtaepnacbmeajoaaDoorOpen
import Derived.Test.YtaepnacbmeajoaaDoorRows
import Derived.WalkSpells
import Derived.WalkLawsBesides
import Derived.Handy
namespace Go.Proofs.YtaepnacbmeajoaaDoor
open Go.RowKit
set_option maxRecDepth 100000
set_option maxHeartbeats 400000 in
theorem i_between(n a b:Int)(w:World):
  Calls Tryd.prog 39 #[.int .i64 n,.int .i64 a,.int .i64 b] w fun e w'=>e = .returned (.bool (inB n a b))/\w=w':=by
 go_enter Tryd.func39,Tryd.ntmps39
 by_cases h1:a<=n
 ·go_wp2
  go_ret
  exact⟨by simp[inB,h1],rfl⟩
 ·go_wp2
  go_ret
  exact⟨by simp[inB];omega,rfl⟩
set_option maxHeartbeats 400000 in
theorem s_l01In(n a b:Int)(w:World):
  Calls Tryd.prog 29 #[.int .i64 n,.int .i64 a,.int .i64 b] w fun e w'=>e = .returned (.bool (inB n a b))/\w=w':=by
 go_enter Tryd.func29,Tryd.ntmps29
 by_cases h1:a<=n
 ·go_wp2
  go_ret
  exact⟨by simp[inB,h1],rfl⟩
 ·go_wp2
  go_ret
  exact⟨by simp[inB];omega,rfl⟩
end Go.Proofs.YtaepnacbmeajoaaDoor
