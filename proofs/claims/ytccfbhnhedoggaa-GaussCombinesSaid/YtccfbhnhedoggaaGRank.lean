import Derived.Test.YtccfbhnhedoggaaQx19
import Derived.Test.YtccfbhnhedoggaaGRef3
namespace Go.Proofs.Ytccfbhnhedoggaa.M
open Go.RowKit Go.Proofs.YtccfbhnhedoggaaW.PrintWords Go.Proofs.YtccfbhnhedoggaaW.PrintLast Go.Proofs.YtccfbhnhedoggaaW.PrintMore Go.Proofs.Ytccfbhnhedoggaa.Q
theorem Rank_ends {r c : Nat} {l : List Int} (hr : r ≤ 64) (hc : c ≤ 64) (hl : l.length = r * c) (hb : bytesB l = true) : Ends (fun k => recoupref04_Rank.f k (r : Int) (c : Int) l) (((redL r c l).2.length : Int), 0) := by
 unfold recoupref04_Rank.f
 exact Ends.bind (Reduce_ends hr hc hl hb) (Ends.const rfl)
end Go.Proofs.Ytccfbhnhedoggaa.M
