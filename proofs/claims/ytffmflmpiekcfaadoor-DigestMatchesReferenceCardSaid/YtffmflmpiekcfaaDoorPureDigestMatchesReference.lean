/- The plain statement of DigestMatchesReference: all is known of the walk. -/
import Derived.Test.YtffmflmpiekcfaaDoorStmDigestMatchesReference
import Derived.Test.YtffmflmpiekcfaaDoorGlib
namespace Go.Proofs.YtffmflmpiekcfaaDoor.DigestMatchesReferencePure
open Go.RowKit Go.Proofs.YtffmflmpiekcfaaDoor.PAll Go.Proofs.YtffmflmpiekcfaaDoorW.PrintWords Go.Proofs.YtffmflmpiekcfaaDoorW.PrintLast Go.Proofs.YtffmflmpiekcfaaDoorW.PrintMore Go.Proofs.YtffmflmpiekcfaaDoorGopen Go.Proofs.YtffmflmpiekcfaaDoorGlib
open DigestMatchesReferenceStm

theorem proved : DigestMatchesReferenceStm.Pure := by
  intro l0 a1 l2 l3 a4 a5 l6 a7 h0 h1 h2 h3 h4 h5 h6 h7
  unfold formelaw04_DigestMatchesReference.f
  rw [if_pos fun x hx => wf64 (h2.2 x hx)]

end Go.Proofs.YtffmflmpiekcfaaDoor.DigestMatchesReferencePure
