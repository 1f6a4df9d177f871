/- The plain statement of DigestOthers: all is known of the walk. -/
import Derived.Test.YtffmflmpiekcfaaDoorStmDigestOthers
import Derived.Test.YtffmflmpiekcfaaDoorGlib
namespace Go.Proofs.YtffmflmpiekcfaaDoor.DigestOthersPure
open Go.RowKit Go.Proofs.YtffmflmpiekcfaaDoor.PAll Go.Proofs.YtffmflmpiekcfaaDoorW.PrintWords Go.Proofs.YtffmflmpiekcfaaDoorW.PrintLast Go.Proofs.YtffmflmpiekcfaaDoorW.PrintMore Go.Proofs.YtffmflmpiekcfaaDoorGopen Go.Proofs.YtffmflmpiekcfaaDoorGlib
open DigestOthersStm

theorem proved : DigestOthersStm.Pure := by
  intro l0 a1 a2 l3 a4 h0 h1 h2 h3
  unfold formelaw04_DigestOthers.f
  have := wfu16 h1
  rw [if_pos this]

end Go.Proofs.YtffmflmpiekcfaaDoor.DigestOthersPure
