import Derived.Test.YtccfbhnhedoggaaQx14
import Derived.Test.YtccfbhnhedoggaaGRef3
namespace Go.Proofs.Ytccfbhnhedoggaa.M
open Go.RowKit Go.Proofs.YtccfbhnhedoggaaW.PrintWords Go.Proofs.YtccfbhnhedoggaaW.PrintLast Go.Proofs.YtccfbhnhedoggaaW.PrintMore Go.Proofs.Ytccfbhnhedoggaa.Q
theorem ints_l0 {l : List Int} (hl : l.length ≤ 4096) : ∀ n i : Nat, i + n = l.length → Ends (fun k => recouplaw04_ints.l0 k l l (i : Int)) true
 | 0, i, hi => Ends.succ (fun k => by rw [recouplaw04_ints.l0]) (Ends.neg (by omega) (Ends.const rfl))
 | n + 1, i, hi => by
  refine Ends.succ (fun k => by rw [recouplaw04_ints.l0]) (Ends.pos (by omega) (Ends.pos (by omega) (Ends.pos (by omega) (Ends.pos rfl ?_))))
  rw [i64_succ (by omega)]
  exact ints_l0 hl n (i + 1) (by omega)
theorem ints_self {l : List Int} (hl : l.length ≤ 4096) : Ends (fun k => recouplaw04_ints.f k l l) true := by
 unfold recouplaw04_ints.f
 exact Ends.pos rfl (ints_l0 hl l.length 0 (by omega))
end Go.Proofs.Ytccfbhnhedoggaa.M
