-- Written by a program of this session (the print of the kit with contracts of this session's own added)
import Derived.Test.YtogdhclomgafdaaZFJBx17
namespace Go.Proofs.Ytogdhclomgafdaa.PFnJobBytes
open Go.RowKit Go.Proofs.YtogdhclomgafdaaW.PrintWords Go.Proofs.YtogdhclomgafdaaW.PrintLast Go.Proofs.YtogdhclomgafdaaW.PrintMore Go.Proofs.YtogdhclomgafdaaW.PrintPack
set_option linter.unusedVariables false
set_option linter.unusedSimpArgs false

mutual
def spec_l10TakeList.j0 : Nat → List Int → Int → List Int → Int → Bool → Option (List Int × Int × Bool)
 | 0, _, _, _, _, _ => none
 | k + 1, x0, x1, x7, x8, x26 => if x26 = true then (some (([] : List Int), 0, false)) else (spec_l10TakeList.l0 k x0 x1 x7 x8 0)
def spec_l10TakeList.l0 : Nat → List Int → Int → List Int → Int → Int → Option (List Int × Int × Bool)
 | 0, _, _, _, _, _ => none
 | k + 1, x0, x1, x7, x8, x10 => if x10 < x8 then ((spec_TakeNumber.f k x0 x1).bind fun bt758 => (if bt758.2.2 = true then (if x7.length < 17592186044416 then (spec_l10TakeList.l0 k x0 bt758.2.1 (x7 ++ [bt758.1]) x8 (wrap64 (x10 + 1))) else (none)) else (some (([] : List Int), 0, false)))) else (some (x7, x1, true))
end
def spec_l10TakeList.f (k : Nat) (l0 : List Int) (a1 : Int) : Option (List Int × Int × Bool) := (some (([] : List Int) : List Int)).bind fun y751 => ((spec_TakeNumber.f k l0 a1).bind fun bt754 => (if bt754.2.2 = true then ((spec_l01In.f bt754.1 0 400).bind fun t757 => (spec_l10TakeList.j0 k l0 bt754.2.1 y751 bt754.1 (!t757))) else (spec_l10TakeList.j0 k l0 bt754.2.1 y751 bt754.1 true)))
theorem spec_l10TakeList.mono_l : ∀ k, (∀ y0 y1 y2 y3 y4, LeO (spec_l10TakeList.j0 k y0 y1 y2 y3 y4) (spec_l10TakeList.j0 (k + 1) y0 y1 y2 y3 y4)) ∧ (∀ y0 y1 y2 y3 y4, LeO (spec_l10TakeList.l0 k y0 y1 y2 y3 y4) (spec_l10TakeList.l0 (k + 1) y0 y1 y2 y3 y4))
 | 0 => ⟨fun _ _ _ _ _ r h => by simp [spec_l10TakeList.j0] at h, fun _ _ _ _ _ r h => by simp [spec_l10TakeList.l0] at h⟩
 | k + 1 => by
  obtain ⟨ih0, ih1⟩ := spec_l10TakeList.mono_l k; refine ⟨?_, ?_⟩
  · intro y0 y1 y2 y3 y4; unfold spec_l10TakeList.j0; exact xq64
  · intro y0 y1 y2 y3 y4; unfold spec_l10TakeList.l0; exact xq64
theorem spec_l10TakeList.mono : ∀ a0 a1 k, LeO (spec_l10TakeList.f k a0 a1) (spec_l10TakeList.f (k + 1) a0 a1) := by
 intro a0 a1 k; obtain ⟨ih0, ih1⟩ := spec_l10TakeList.mono_l k
 unfold spec_l10TakeList.f
 exact xq64
set_option maxHeartbeats 8000000 in
set_option maxRecDepth 100000 in
theorem spec_l10TakeList.calls (k : Nat) (A0 : Option Addr) (c0 : Nat) (l0 : List Int) (a1 : Int) (r1 : List Int) (r2 : Int) (r3 : Bool) (w : World) (hr0 : Kd.C (Kd.int .u8) w A0 l0.length l0) (hc0 : l0.length ≤ c0) (h : spec_l10TakeList.f k l0 a1 = some (r1, r2, r3)) :
 Calls Try.prog 93 #[.slice A0 l0.length c0, .int .i64 a1] w fun e w' => ∃ v0_ : Value, e = .returned (.tuple #[v0_, .int .i64 r2, .bool r3]) ∧ Kd.R (Kd.int .i64) 3 w' w.heap.size (fun _ => True) v0_ r1 ∧ Below w.heap.size w w' := by
 have HR0 := ak hr0; have HC0 := ak hc0; clear hr0 hc0; have HB := ak (Below.refl w.heap.size w); have H : ((some (([] : List Int) : List Int)).bind fun y751 => ((spec_TakeNumber.f k l0 a1).bind fun bt754 => (if bt754.2.2 = true then ((spec_l01In.f bt754.1 0 400).bind fun t757 => (spec_l10TakeList.j0 k l0 bt754.2.1 y751 bt754.1 (!t757))) else (spec_l10TakeList.j0 k l0 bt754.2.1 y751 bt754.1 true)))) = some (r1, r2, r3) := h; clear h; obtain ⟨y751, hyq⟩ : ∃ y_ : List Int, y_ = (([] : List Int)) := ⟨_, rfl⟩; replace H : ((spec_TakeNumber.f k l0 a1).bind fun bt754 => (if bt754.2.2 = true then ((spec_l01In.f bt754.1 0 400).bind fun t757 => (spec_l10TakeList.j0 k l0 bt754.2.1 y751 bt754.1 (!t757))) else (spec_l10TakeList.j0 k l0 bt754.2.1 y751 bt754.1 true))) = some (r1, r2, r3) := by first | (rw [hyq]; with_reducible exact H) | (have H2_ := (Option.bind_some _ _).symm.trans H; rw [hyq]; with_reducible exact H2_) | (have H2_ := (Option.bind_some _ _).symm.trans H; with_reducible exact H2_) | with_reducible exact H | (rw [hyq]; exact H) | exact H
 have Ny751 := ak hyq; clear hyq; replace H := Option.bind_eq_some_iff.mp H; obtain ⟨⟨t754, t755, t756⟩, A30, H⟩ := H; (try dsimp only at H); have A3 := ak A30; clear A30; have HC4 := ak H; clear H; go_enter Try.func93, Try.ntmps93
 go_upto_region 3 with (first | ((with_reducible refine gate_dst (N := 12) rfl ?_); refine Kd.R_lit (Kd.int .i64) _ 3 ?hg (N := 12) ?hd (xs := ([] : List Int)) (inner := []) (ok := fun _ => True) (okp := fun _ => True) ?hr ?hp (fun _ hk => hk) trivial (Below.refl _ _) (Nat.le_refl _) (by simp) ?_; (case hd => rfl); (case hg => rfl); (case hr => exact xq11); (case hp => exact (Reps.none _ _)); intro v752 w5 ho6 hb hg_ hnew_; clear hg_ hnew_; (first | rw [← Ny751.out] at ho6 | (simp only [Int.reduceToNat] at ho6; rw [← Ny751.out] at ho6)); have HO753 := rL ho6; replace HB := bS hb; clear hb ho6) | ((with_reducible refine gate_callee (f := 92) rfl ?_); refine goB 16 Try.func92 #[.slice A0 l0.length c0, .int .i64 a1] rfl ?_; (with_reducible refine (spec_TakeNumber.calls k _ _ l0 a1 t754 t755 t756 _ ?side1 ?side2 A3.out).mono ?_); (case side1 => exact cA (Kd.C_below HR0.out HB.out)); (case side2 => exact HC0.out); rintro e w7 ⟨rfl, hb⟩; refine ⟨_, rfl, ?_⟩; replace HO753 := ak (Kd.R_below (rF HO753) hb); replace HB := bS hb; (try clear hb)))
 (try simp only [Act.put, sa, sb, sc])
 go_cut [26] (fun v26 wc => ∃ (kq : Nat) (x26_3 : Bool), v26 = .bool x26_3 ∧ Aside0 (spec_l10TakeList.j0 kq l0 t755 y751 t754 x26_3 = some (r1, r2, r3)) ∧ Aside0 (kq ≤ k) ∧ Aside0 (Kd.R (Kd.int .i64) 3 wc w.heap.size (fun _ => True) v752 y751) ∧ Aside0 (Below w.heap.size w wc))
 case first =>
  have H := HC4.out; clear HC4
  by_cases c8 : t756 = true; rotate_left
  · replace c8 := Bool.eq_false_iff.mpr c8; subst c8; have H1 : (spec_l10TakeList.j0 k l0 t755 y751 t754 true) = some (r1, r2, r3) := by rw [if_neg (show ¬ (false = true) by decide)] at H; exact H
    clear H; have H := H1; clear H1; have H' := ak H; clear H; go_wp2
    go_meet
    case rel => exact ⟨_, (true), eqA, H', ⟨xq12⟩, ⟨rA HO753⟩, ⟨belA⟩⟩
  subst c8; have H1 : ((spec_l01In.f t754 0 400).bind fun t757 => (spec_l10TakeList.j0 k l0 t755 y751 t754 (!t757))) = some (r1, r2, r3) := by rw [if_pos rfl] at H; exact H
  clear H; have H := H1; clear H1; replace H := Option.bind_eq_some_iff.mp H; obtain ⟨t757, A90, H⟩ := H; (try dsimp only at H); have A9 := ak A90; clear A90; have H' := ak H; clear H; go_wp2_with (first | (go_at_call 62; (with_reducible refine (spec_l01In.calls t754 0 400 t757 _ A9.out).mono ?_); rintro e w' ⟨rfl, ⟨nd, rfl⟩⟩))
  go_meet
  case rel => exact ⟨_, (!t757), eqA, H', ⟨xq12⟩, ⟨rA HO753⟩, ⟨belA⟩⟩
 case rest =>
  clear HC4; obtain ⟨kq, x26_3, rfl, HA, HJ3, HO_7, HB⟩ := hcut
  cases kq with
  | zero => exact absurd HA.out (by simp [spec_l10TakeList.j0])
  | succ kj3 =>
   have H := HA.out; clear HA; simp only [spec_l10TakeList.j0] at H
   by_cases c10 : x26_3 = true
   · subst c10; have H1 : (some (([] : List Int), 0, false)) = some (r1, r2, r3) := by rw [if_pos rfl] at H; exact H
     clear H; have H := H1; clear H1; simp only [Option.some.injEq, Prod.mk.injEq] at H; obtain ⟨rfl, rfl, rfl⟩ := H; go_wp2
     go_ret3
     exact ⟨_, xq6, xq16, belA⟩
   replace c10 := Bool.eq_false_iff.mpr c10; subst c10; have H1 : (spec_l10TakeList.l0 kj3 l0 t755 y751 t754 0) = some (r1, r2, r3) := by rw [if_neg (show ¬ (false = true) by decide)] at H; exact H
   clear H; have H := H1; clear H1; have H' := ak H; clear H; go_wp2
   go_loopg [1, 7, 10] kj3 (fun kq v1 v7 v10 w' => ∃ (x1_2 : Int) (x7_2 : List Int) (x10_2 : Int), v1 = .int .i64 x1_2 ∧ v10 = .int .i64 x10_2 ∧ Aside0 (spec_l10TakeList.l0 kq l0 x1_2 x7_2 t754 x10_2 = some (r1, r2, r3)) ∧ Aside0 (kq ≤ kj3) ∧ Aside0 (Kd.R (Kd.int .i64) 3 w' w.heap.size (fun _ => True) v7 x7_2) ∧ Aside0 (Below w.heap.size w w'))
   case atStart => exact ⟨(t755), (y751), (0), eqA, eqA, H', ⟨Nat.le_refl _⟩, ⟨rA HO_7⟩, ⟨belA⟩⟩
   case round =>
    clear H'; obtain ⟨x1_2, x7_2, x10_2, rfl, rfl, HA, HK2, HO_7, HB⟩ := hrel
    cases gk with
    | zero => exact absurd HA.out (by simp [spec_l10TakeList.l0])
    | succ k2 =>
     have H := HA.out; clear HA; simp only [spec_l10TakeList.l0] at H
     by_cases c11 : x10_2 < t754; rotate_left
     · rw [if_neg c11] at H; have c11b0 := decide_eq_false c11; clear c11; simp only [Option.some.injEq, Prod.mk.injEq] at H; obtain ⟨rfl, rfl, rfl⟩ := H; go_wp2
       go_ret3
       exact ⟨_, xq6, xq48, belA⟩
     rw [if_pos c11] at H; have c11b0 := decide_eq_true c11; clear c11; replace H := Option.bind_eq_some_iff.mp H; obtain ⟨⟨t758, t759, t760⟩, A120, H⟩ := H; (try dsimp only at H); have A12 := ak A120; clear A120
     by_cases c13 : t760 = true; rotate_left
     · replace c13 := Bool.eq_false_iff.mpr c13; subst c13; have H1 : (some (([] : List Int), 0, false)) = some (r1, r2, r3) := by rw [if_neg (show ¬ (false = true) by decide)] at H; exact H
       clear H; have H := H1; clear H1; simp only [Option.some.injEq, Prod.mk.injEq] at H; obtain ⟨rfl, rfl, rfl⟩ := H; go_wp2_with (first | ((with_reducible refine gate_callee (f := 92) rfl ?_); refine goB 35 Try.func92 #[.slice A0 l0.length c0, .int .i64 x1_2] rfl ?_; (with_reducible refine (spec_TakeNumber.calls k2 _ _ l0 x1_2 t758 t759 false _ ?side1 ?side2 A12.out).mono ?_); (case side1 => exact cA (Kd.C_below HR0.out HB.out)); (case side2 => exact HC0.out); rintro e w17 ⟨rfl, hb⟩; refine ⟨_, rfl, ?_⟩; replace HO_7 := ak (Kd.R_below (rF HO_7) hb); replace HB := bS hb; (try clear hb)))
       go_ret3
       exact ⟨_, xq6, xq16, belA⟩
     subst c13; have H1 : (if x7_2.length < 17592186044416 then (spec_l10TakeList.l0 k2 l0 t759 (x7_2 ++ [t758]) t754 (wrap64 (x10_2 + 1))) else (none)) = some (r1, r2, r3) := by rw [if_pos rfl] at H; exact H
     clear H; have H := H1; clear H1
     by_cases c14 : x7_2.length < 17592186044416; rotate_left
     · rw [if_neg c14] at H; exact absurd H (by simp)
     rw [if_pos c14] at H; have LMc14 := ak c14; clear c14; obtain ⟨y761, hyq⟩ : ∃ y_ : List Int, y_ = (x7_2 ++ [t758]) := ⟨_, rfl⟩; replace H : (spec_l10TakeList.l0 k2 l0 t759 y761 t754 (wrap64 (x10_2 + 1))) = some (r1, r2, r3) := by first | (rw [hyq]; with_reducible exact H) | (have H2_ := (Option.bind_some _ _).symm.trans H; rw [hyq]; with_reducible exact H2_) | (have H2_ := (Option.bind_some _ _).symm.trans H; with_reducible exact H2_) | with_reducible exact H | (rw [hyq]; exact H) | exact H
     have Ny761 := ak hyq; clear hyq; have H' := ak H; clear H; go_wp2_with (first | ((with_reducible refine gate_callee (f := 92) rfl ?_); refine goB 35 Try.func92 #[.slice A0 l0.length c0, .int .i64 x1_2] rfl ?_; (with_reducible refine (spec_TakeNumber.calls k2 _ _ l0 x1_2 t758 t759 true _ ?side1 ?side2 A12.out).mono ?_); (case side1 => exact cA (Kd.C_below HR0.out HB.out)); (case side2 => exact HC0.out); rintro e w15 ⟨rfl, hb⟩; refine ⟨_, rfl, ?_⟩; replace HO_7 := ak (Kd.R_below (rF HO_7) hb); replace HB := bS hb; (try clear hb)) | ((with_reducible refine gate_builtin (b := .append) (xs := #[.tmp 41, .tmp 43]) rfl ?_); at_builtin; refine Kd.R_append (Kd.int .i64) (w0 := w) w.heap.size rfl (.tmp 41) (.tmp 43) 33 3 (.int .i64 0) 8 rfl Try.underlying33 info3 rfl (by decide) (by omega) u7 x7_2 t758 [.int .i64 t758] (fun _ => True) (fun _ => False) rfl rfl ?aP (fun _ hk => hk.elim) ?aF ?aO ?aB ?aS ?aL ?_; (case aP => exact rfl); (case aB => exact belA); (case aF => exact (fun _ _ => trivial)); (case aO => exact (rF HO_7)); (case aS => exact (below_size belA)); (case aL => have := LMc14.out; omega); intro v762 w16 ho hb hg hat; rw [← Ny761.out] at ho; have HO763 := ak ho; replace HB := ak hb; clear HO_7; clear ho hb hg hat))
     go_roundg k2
     case measure => have := HJ3.out; have := HK2.out; omega
     case rel => exact ⟨(t759), (y761), (wrap64 (x10_2 + 1)), eqA, eqA, H', ⟨by have := HJ3.out; have := HK2.out; omega⟩, ⟨rA HO763⟩, ⟨belA⟩⟩

end Go.Proofs.Ytogdhclomgafdaa.PFnJobBytes
