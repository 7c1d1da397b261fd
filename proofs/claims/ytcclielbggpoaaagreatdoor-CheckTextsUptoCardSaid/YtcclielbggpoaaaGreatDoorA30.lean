/- Part of the proof of CheckTexts (see the last text). -/
import Derived.Test.YtcclielbggpoaaaGreatDoorA28
set_option linter.all false
namespace Go.cK
open Go.Proofs
set_option maxHeartbeats 0
set_option maxRecDepth 1000000
theorem Px:Wx.runs Tryz.prog 100000 Ij 1000=true:=by kernel_rfl
end Go.cK
