/- Walks through functions, by program out of the session's annotations. -/
import Derived.Test.YthlhmpknngidmaaGreatA207
import Derived.Test.YthlhmpknngidmaaGreatF4
namespace Go.Proofs.YthlhmpknngidmaaGreat.E
open Go Go.RowKit Go.Proofs
set_option linter.unusedVariables false
set_option linter.unusedSimpArgs false

theorem mst_le {s : MSt} (h : msZ s ≤ 1048576) : s.head.length ≤ 1048576 ∧ (s.tails.length ≤ 1048576 ∧ totL s.tails ≤ 1048576) ∧ s.hist.length ≤ 1048576 ∧ (s.maps.length ≤ 1048576 ∧ totZ s.maps ≤ 1048576) ∧ s.built.length ≤ 1048576 ∧ s.used.length ≤ 1048576 := by
 unfold msZ at h
 omega
end Go.Proofs.YthlhmpknngidmaaGreat.E
