/- The limits and errors of sliding windows are as they are told. Nothing is assumed: the law has no parameters. -/
import Derived.Test.YtheobaaegpfbjaaN14
namespace Go.Proofs.Ytheobaaegpfbjaa.Pure
open Go.RowKit Go.Proofs.Ytheobaaegpfbjaa.N1 Go.Proofs.YtheobaaegpfbjaaW.PrintWords Go.Proofs.YtheobaaegpfbjaaW.PrintLast

theorem SlideNames : tailwaterlaw14_SlideNames.Pure := ⟨40, by decide +kernel⟩

end Go.Proofs.Ytheobaaegpfbjaa.Pure
