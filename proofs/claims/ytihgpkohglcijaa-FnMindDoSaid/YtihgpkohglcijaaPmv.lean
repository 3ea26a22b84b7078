/- Plain laws: minds: the program's. -/
import Derived.Test.YtihgpkohglcijaaPx3
import Derived.Test.YtihgpkohglcijaaPim
namespace Go.Proofs.Ytihgpkohglcijaa.Pl
open Go.RowKit Go.Proofs.YtihgpkohglcijaaW.PrintWords Go.Proofs.YtihgpkohglcijaaW.PrintLast Go.Proofs.YtihgpkohglcijaaW.PrintMore Go.Proofs.Ytihgpkohglcijaa.P Go.Proofs.Ytihgpkohglcijaa.Mt
theorem impl_MindValid_ev (t:Int) {l:List Int} {ls:List (List Int)} (hn:l.length≤9223372036854775807) (hl:∀y∈ls,y.length≤9223372036854775807):Ev (fun k=>impl_MindValid.f k t l ls) (mindOk t l ls):=by
 unfold impl_MindValid.f
 exact Ev.bind (isMind_ev t hn hl) (Ev.now _)
end Go.Proofs.Ytihgpkohglcijaa.Pl
