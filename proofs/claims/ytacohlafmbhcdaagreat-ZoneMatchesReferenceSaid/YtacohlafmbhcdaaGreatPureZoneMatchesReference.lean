/- The plain statement of ZoneMatchesReference: behind the hand walk (givenZ) only the two bounds of the lengths are left. -/
import Derived.Test.YtacohlafmbhcdaaGreatStmZoneMatchesReference
namespace Go.Proofs.YtacohlafmbhcdaaGreat.ZoneMatchesReferencePure
open Go.RowKit Go.Proofs.YtacohlafmbhcdaaGreat.PAll Go.Proofs.YtacohlafmbhcdaaGreatW.PrintWords Go.Proofs.YtacohlafmbhcdaaGreatW.PrintLast Go.Proofs.YtacohlafmbhcdaaGreatW.PrintMore Go.Proofs.YtacohlafmbhcdaaGreatGopen

theorem proved : ZoneMatchesReferenceStm.Pure := by
 intro a b r ha hb _
 unfold formelaw03_ZoneMatchesReference.f
 rw [if_pos ⟨by have := ha.1; omega, by have := hb.1; omega⟩]
end Go.Proofs.YtacohlafmbhcdaaGreat.ZoneMatchesReferencePure
