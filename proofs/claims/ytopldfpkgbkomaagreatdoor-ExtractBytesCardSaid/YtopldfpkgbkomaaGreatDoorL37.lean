/- Laws that ExtractBytes leans on, part 37. No condition of its own. -/
import Derived.Test.YtopldfpkgbkomaaGreatDoorL31
import Derived.Test.YtopldfpkgbkomaaGreatDoorL32
set_option linter.all false
set_option maxRecDepth 100000
set_option maxHeartbeats 4000000
noncomputable section
namespace Go.Va
open Go.Proofs
def I6:Int→Int→Bool:=fw MU.length oi
section
variable (l l2:List Int)
theorem WQ {r:Rgt} (h:r∈Nc (A7 l)):r∈A7 l:=(IF (GD l)).mem_iff.1 h
theorem Ih:(A7 l).length≤4:=by
 have h1:=rT Ag ((List.range (Ai l 0 5).toNat).map (DI l));have h2:=El l 0 5 (by decide);rw[qr,tg]at h1;unfold A7;omega
theorem WR:(Nc (A7 l)).length≤4:=by rw[(IF (GD l)).length_eq];exact Ih l
theorem Ro:MU.length=6:=rfl
theorem QV:(A6 l2).good:=LI l2 2 0
end
section
variable {J:List Row}
theorem Lows.both {K:List Row} (h:Lows J) (k:Lows K):Lows (J++K):=λrow hr n=>by
 rcases qW.1 hr with hr|hr
 ·exact h row hr n
 ·exact k row hr n
section
variable (l l2:List Int)
end
end
end Go.Va
