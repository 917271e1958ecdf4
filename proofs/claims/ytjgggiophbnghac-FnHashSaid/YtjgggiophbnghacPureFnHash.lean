/- The pure statement of FnHash, with no condition beyond the law's own. -/
import Derived.Test.YtjgggiophbnghacSz
import Derived.Test.YtjgggiophbnghacQFnHash
namespace Go.Proofs.Ytjgggiophbnghac.Pure
open Go.RowKit Go.Proofs.Ytjgggiophbnghac.QFnHash Go.Proofs.Ytjgggiophbnghac.PFnHash Go.Proofs.YtjgggiophbnghacW.PrintWords Go.Proofs.YtjgggiophbnghacW.PrintLast Go.Proofs.Ytjgggiophbnghac.Math
set_option linter.unusedVariables false
set_option linter.unusedSimpArgs false

theorem FnHash : laws_FnHash.Pure := by
  intro l hm hn hw
  by_cases hbig : (l.length : Int) > 1048576
  · refine ⟨0, ?_⟩
    simp only [laws_FnHash.f, laws_big.f, hbig, decide_true, Option.bind_some, if_true]
  · obtain ⟨b, hb, hB, hl⟩ := drawHash l (by omega)
    obtain ⟨x, hx, hx0, hx1⟩ := lawsAtB l (isB_of hw) (by omega) 5 (by omega)
    have hx : laws_at.f l 5 = some x := hx
    have hB2 : isB (b ++ [x]) := isB_append hB (by intro y hy; simp at hy; omega)
    obtain ⟨n, h1, h2, h3, h4, h5⟩ := evs5 hb (cpBytes_ev b (by omega)) (iHash_ev b (by omega) hB) (iHash_ev (b ++ [x]) (by simp; omega) hB2) (iHash_ev [] (by simp) (by intro y hy; simp at hy))
    refine ⟨n, ?_⟩
    have h1 := h1 0
    have h2 := h2 0
    have h3 := h3 0
    have h4 := h4 0
    have h5 := h5 0
    simp only [Nat.add_zero] at h1 h2 h3 h4 h5
    have hr := hash_range b 1 1 (by omega) (by omega) (by omega) (by omega)
    have hr2 := hash_range (b ++ [x]) 1 1 (by omega) (by omega) (by omega) (by omega)
    have s1 : impl_Split.f (hashP b) = some ((hashS b 1 1).1, (hashS b 1 1).2) := by
      rw [iSplit]; unfold hashP; rw [join_mod6 hr.1.1 hr.1.2, join_mod7 hr.2.1 hr.2.2]
    have s2 : impl_Split.f (hashP (b ++ [x])) = some ((hashS (b ++ [x]) 1 1).1, (hashS (b ++ [x]) 1 1).2) := by
      rw [iSplit]; unfold hashP; rw [join_mod6 hr2.1.1 hr2.1.2, join_mod7 hr2.2.1 hr2.2.2]
    have hs := hash_snoc b x 1 1
    have hp1 : hashP [] = 1 := by simp [hashP, hashS, joinP]
    have hxx : x % 256 = x := by omega
    simp only [laws_FnHash.f, laws_big.f, hbig, decide_false, Bool.false_eq_true, if_false, Option.bind_some, h1, h2, h3, hx, hxx, h4, h5, s1, s2, hp1]
    rw [if_pos (by omega), hs]
    generalize (hashS b 1 1).1 = u at hr
    generalize (hashS b 1 1).2 = v at hr
    simp only [sReduce, fldOk6, fldOk7, md6, md7, if_true, Option.bind_some]
    rw [w64 (x := 257 * u) (by omega) (by omega), w64 (x := 263 * v) (by omega) (by omega), w64 (x := 257 * u + x) (by omega) (by omega), w64 (x := 263 * v + x) (by omega) (by omega), w64 (x := 257 * u + x + 1) (by omega) (by omega), w64 (x := 263 * v + x + 1) (by omega) (by omega), if_pos rfl, if_pos rfl]
    rfl

end Go.Proofs.Ytjgggiophbnghac.Pure
