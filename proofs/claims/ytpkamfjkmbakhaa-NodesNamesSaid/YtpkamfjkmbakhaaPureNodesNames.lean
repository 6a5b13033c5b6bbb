/- The chapter's examples, limits, lists that are no expressions, errors: run through. Nothing is assumed. -/
import Derived.Test.YtpkamfjkmbakhaaQ10
namespace Go.Proofs.Ytpkamfjkmbakhaa.Pure
open Go.RowKit Go.Proofs.Ytpkamfjkmbakhaa.Q Go.Proofs.YtpkamfjkmbakhaaW.PrintWords Go.Proofs.YtpkamfjkmbakhaaW.PrintLast

theorem NodesNames : tNN.Pure := ⟨450, by decide +kernel⟩

end Go.Proofs.Ytpkamfjkmbakhaa.Pure
