/- The pure statement of FnExactHashBytes, with no condition beyond the law's own. -/
import Derived.Test.YtjgggiophbnghacSz
import Derived.Test.YtjgggiophbnghacQFnExactHashBytes
namespace Go.Proofs.Ytjgggiophbnghac.Pure
open Go.RowKit Go.Proofs.Ytjgggiophbnghac.QFnExactHashBytes Go.Proofs.Ytjgggiophbnghac.PFnExactHashBytes Go.Proofs.YtjgggiophbnghacW.PrintWords Go.Proofs.YtjgggiophbnghacW.PrintLast Go.Proofs.Ytjgggiophbnghac.Math
set_option linter.unusedVariables false
set_option linter.unusedSimpArgs false

theorem FnExactHashBytes : laws_FnExactHashBytes.Pure := by
  intro l hm hn hw
  have hb := isB_of hw
  obtain ⟨n, h1, h2, h3, h4⟩ := evs4 (toByteS_ev l (by omega)) (sHash_ev l (by omega) hb) (iHash_ev l (by omega) hb) (eqByteS_ev l (by omega))
  refine ⟨n + 1, ?_⟩
  simp only [laws_FnExactHashBytes.f, h1, h2, h3, h4, Option.bind_some, if_true]
  split <;> rfl

end Go.Proofs.Ytjgggiophbnghac.Pure
