-- Written by a program of this session (the print of the kit with contracts of this session's own added)
import Derived.Test.YtogdhclomgafdaaZFDx6
set_option maxHeartbeats 8000000
set_option maxRecDepth 100000
namespace Go.Proofs.Ytogdhclomgafdaa.PFnDealt
open Go.RowKit Go.Proofs.YtogdhclomgafdaaW.PrintWords Go.Proofs.YtogdhclomgafdaaW.PrintLast Go.Proofs.YtogdhclomgafdaaW.PrintMore Go.Proofs.YtogdhclomgafdaaW.PrintPack Go.Proofs.YtogdhclomgafdaaW.PrintPack
attribute [local go_sem] max2_int min2_int max_two min_two max_three min_three max_four min_four   -- for this text's walks alone
set_option linter.unusedVariables false
set_option linter.unusedSimpArgs false

mutual
def spec_Deal.j0 : Nat → Int → Bool → Int → Int → List (S93) → Option ((List (List Int)) × Bool)
 | 0, _, _, _, _, _ => none
 | k + 1, x1, x18, x244000, x244001, x244002 => if x18 = true then (some (([] : List (List Int)), false)) else (spec_Deal.l0 k x1 (([] : List (List Int))) 0 x244000 x244001 x244002)
def spec_Deal.l0 : Nat → Int → List (List Int) → Int → Int → Int → List (S93) → Option ((List (List Int)) × Bool)
 | 0, _, _, _, _, _, _ => none
 | k + 1, x1, x6, x7, x244000, x244001, x244002 => if x7 < x1 then (spec_Deal.l1 k x1 x6 x7 (([] : List Int)) 0 0 x244000 x244001 x244002) else (some (x6, true))
def spec_Deal.l1 : Nat → Int → List (List Int) → Int → List Int → Int → Int → Int → Int → List (S93) → Option ((List (List Int)) × Bool)
 | 0, _, _, _, _, _, _, _, _, _ => none
 | k + 1, x1, x6, x7, x8, x9, x10, x244000, x244001, x244002 => if x10 < (x244002.length : Int) then (if x10 > 0 then (if 0 ≤ x10 then (if 0 ≤ (wrap64 (x10 - 1)) then (if (wrap64 (x10 - 1)) < (x244002.length : Int) then (spec_Deal.j3 k x1 x6 x7 x8 x9 x10 (((rd_T93 x244002 x10).f0) != ((rd_T93 x244002 (wrap64 (x10 - 1))).f0)) x244000 x244001 x244002) else (none)) else (none)) else (none)) else (spec_Deal.j3 k x1 x6 x7 x8 x9 x10 false x244000 x244001 x244002)) else (if x6.length < 5864062014805 then (spec_Deal.l0 k x1 (x6 ++ [x8]) (wrap64 (x7 + 1)) x244000 x244001 x244002) else (none))
def spec_Deal.j3 : Nat → Int → List (List Int) → Int → List Int → Int → Int → Bool → Int → Int → List (S93) → Option ((List (List Int)) × Bool)
 | 0, _, _, _, _, _, _, _, _, _, _ => none
 | k + 1, x1, x6, x7, x8, x9, x10, x50, x244000, x244001, x244002 => if x50 = true then (if x1 = 0 then (none) else (if ((0 : Int) % x1) = x7 then (if x8.length < 17592186044416 then (spec_Deal.l1 k x1 x6 x7 (x8 ++ [x10]) (0 + 1) (wrap64 (x10 + 1)) x244000 x244001 x244002) else (none)) else (spec_Deal.l1 k x1 x6 x7 x8 (0 + 1) (wrap64 (x10 + 1)) x244000 x244001 x244002))) else (if x1 = 0 then (none) else (if (Int.tmod x9 x1) = x7 then (if x8.length < 17592186044416 then (spec_Deal.l1 k x1 x6 x7 (x8 ++ [x10]) (wrap64 (x9 + 1)) (wrap64 (x10 + 1)) x244000 x244001 x244002) else (none)) else (spec_Deal.l1 k x1 x6 x7 x8 (wrap64 (x9 + 1)) (wrap64 (x10 + 1)) x244000 x244001 x244002)))
end
def spec_Deal.f (k : Nat) (a0_0 : Int) (a0_1 : Int) (l0_2 : List (S93)) (a1 : Int) : Option ((List (List Int)) × Bool) := (spec_PlanOk.f k a0_0 a0_1 l0_2).bind fun t244 => (if t244 = true then ((spec_l01In.f a1 1 16).bind fun t245 => (spec_Deal.j0 k a1 (!t245) a0_0 a0_1 l0_2)) else (spec_Deal.j0 k a1 true a0_0 a0_1 l0_2))
theorem spec_Deal.mono_l : ∀ k, (∀ y0 y1 y2 y3 y4, LeO (spec_Deal.j0 k y0 y1 y2 y3 y4) (spec_Deal.j0 (k + 1) y0 y1 y2 y3 y4)) ∧ (∀ y0 y1 y2 y3 y4 y5, LeO (spec_Deal.l0 k y0 y1 y2 y3 y4 y5) (spec_Deal.l0 (k + 1) y0 y1 y2 y3 y4 y5)) ∧ (∀ y0 y1 y2 y3 y4 y5 y6 y7 y8, LeO (spec_Deal.l1 k y0 y1 y2 y3 y4 y5 y6 y7 y8) (spec_Deal.l1 (k + 1) y0 y1 y2 y3 y4 y5 y6 y7 y8)) ∧ (∀ y0 y1 y2 y3 y4 y5 y6 y7 y8 y9, LeO (spec_Deal.j3 k y0 y1 y2 y3 y4 y5 y6 y7 y8 y9) (spec_Deal.j3 (k + 1) y0 y1 y2 y3 y4 y5 y6 y7 y8 y9))
 | 0 => ⟨fun _ _ _ _ _ r h => by simp [spec_Deal.j0] at h, fun _ _ _ _ _ _ r h => by simp [spec_Deal.l0] at h, fun _ _ _ _ _ _ _ _ _ r h => by simp [spec_Deal.l1] at h, fun _ _ _ _ _ _ _ _ _ _ r h => by simp [spec_Deal.j3] at h⟩
 | k + 1 => by
  obtain ⟨ih0, ih1, ih2, ih3⟩ := spec_Deal.mono_l k; refine ⟨?_, ?_, ?_, ?_⟩
  · intro y0 y1 y2 y3 y4; unfold spec_Deal.j0; exact xq38
  · intro y0 y1 y2 y3 y4 y5; unfold spec_Deal.l0; exact xq38
  · intro y0 y1 y2 y3 y4 y5 y6 y7 y8; unfold spec_Deal.l1; exact xq38
  · intro y0 y1 y2 y3 y4 y5 y6 y7 y8 y9; unfold spec_Deal.j3; exact xq38
theorem spec_Deal.mono : ∀ a0 a1 a2 a3 k, LeO (spec_Deal.f k a0 a1 a2 a3) (spec_Deal.f (k + 1) a0 a1 a2 a3) := by
 intro a0 a1 a2 a3 k; obtain ⟨ih0, ih1, ih2, ih3⟩ := spec_Deal.mono_l k
 unfold spec_Deal.f
 exact xq38
theorem spec_Deal.calls (k : Nat) (a0_0 : Int) (a0_1 : Int) (A0_2 : Option Addr) (c0_2 : Nat) (l0_2 : List (S93)) (a1 : Int) (r1 : List (List Int)) (r2 : Bool) (w : World) (hr0_2 : Kd.C k93 w A0_2 l0_2.length l0_2) (hc0_2 : l0_2.length ≤ c0_2) (h : spec_Deal.f k a0_0 a0_1 l0_2 a1 = some (r1, r2)) :
 Calls Try.prog 11 #[.agg #[.int .i64 a0_0, .int .i64 a0_1, .slice A0_2 l0_2.length c0_2], .int .i64 a1] w fun e w' => ∃ v0_ : Value, e = .returned (.tuple #[v0_, .bool r2]) ∧ Kd.S (Kd.slice 3 (Kd.int .i64)) 33 w' w.heap.size (fun _ => True) v0_ r1 ∧ Below w.heap.size w w' := by
 have hu26 := Try.underlying26; have HR0_2 := ak hr0_2; have HC0_2 := ak hc0_2; clear hr0_2 hc0_2; have HB := ak (Below.refl w.heap.size w); have H : ((spec_PlanOk.f k a0_0 a0_1 l0_2).bind fun t244 => (if t244 = true then ((spec_l01In.f a1 1 16).bind fun t245 => (spec_Deal.j0 k a1 (!t245) a0_0 a0_1 l0_2)) else (spec_Deal.j0 k a1 true a0_0 a0_1 l0_2))) = some (r1, r2) := h; clear h; have HC3 := ak H; clear H; go_enter Try.func11, Try.ntmps11
 go_upto_region 1 with (first | ((with_reducible refine gate_dst (N := 2) rfl ?_); refine boxA 2 #[.int .i64 a0_0, .int .i64 a0_1, .slice A0_2 l0_2.length c0_2] 26 ?_; intro gb243 hg w4 hbox hb; have BK243 := ak hbox; have GW243 := leA (w := w) hg; have GE243 := leA (w := w) hg; replace HB := bS hb; clear hb hbox hg))
 repeat (go_quiet (first | ((with_reducible refine gate_dst (N := 2) rfl ?_); refine boxA 2 #[.int .i64 a0_0, .int .i64 a0_1, .slice A0_2 l0_2.length c0_2] 26 ?_; intro gb243 hg w4 hbox hb; have BK243 := ak hbox; have GW243 := leA (w := w) hg; have GE243 := leA (w := w) hg; replace HB := bS hb; clear hb hbox hg)); go_upto_region 1 with (first | ((with_reducible refine gate_dst (N := 2) rfl ?_); refine boxA 2 #[.int .i64 a0_0, .int .i64 a0_1, .slice A0_2 l0_2.length c0_2] 26 ?_; intro gb243 hg w4 hbox hb; have BK243 := ak hbox; have GW243 := leA (w := w) hg; have GE243 := leA (w := w) hg; replace HB := bS hb; clear hb hbox hg)))
 (try simp only [Act.put, sa, sb, sc])
 go_cut [18] (fun v18 wc => ∃ (kq : Nat) (x18_2 : Bool), v18 = .bool x18_2 ∧ Aside0 (spec_Deal.j0 kq a1 x18_2 a0_0 a0_1 l0_2 = some (r1, r2)) ∧ Aside0 (kq ≤ k) ∧ Aside0 (wc.heap[gb243]? = some (.cells #[.int .i64 a0_0, .int .i64 a0_1, (.slice A0_2 l0_2.length c0_2)] 26 (0, 0))) ∧ Aside0 (Below w.heap.size w wc))
 case first =>
  have H := HC3.out; clear HC3; replace H := Option.bind_eq_some_iff.mp H; obtain ⟨t244, A50, H⟩ := H; (try dsimp only at H); have A5 := ak A50; clear A50
  by_cases c6 : t244 = true; rotate_left
  · replace c6 := Bool.eq_false_iff.mpr c6; subst c6; have H1 : (spec_Deal.j0 k a1 true a0_0 a0_1 l0_2) = some (r1, r2) := by rw [if_neg (show ¬ (false = true) by decide)] at H; exact H
    clear H; have H := H1; clear H1; have H' := ak H; clear H; obtain ⟨_, _, _, _, _, _⟩ := cel3 BK243; go_wp2_with (first | (go_at_call 61; (with_reducible refine (spec_PlanOk.calls k a0_0 a0_1 _ _ l0_2 false _ ?side1 ?side2 A5.out).mono ?_); (case side1 => exact cA (Kd.C_below HR0_2.out HB.out)); (case side2 => exact HC0_2.out); rintro e w11 ⟨rfl, hb⟩; replace BK243 := bB BK243 hb; replace HB := bS hb; (try clear hb)))
    repeat (go_quiet (first | (go_at_call 61; (with_reducible refine (spec_PlanOk.calls k a0_0 a0_1 _ _ l0_2 false _ ?side1 ?side2 A5.out).mono ?_); (case side1 => exact cA (Kd.C_below HR0_2.out HB.out)); (case side2 => exact HC0_2.out); rintro e w11 ⟨rfl, hb⟩; replace BK243 := bB BK243 hb; replace HB := bS hb; (try clear hb))); try go_wp2_with (first | (go_at_call 61; (with_reducible refine (spec_PlanOk.calls k a0_0 a0_1 _ _ l0_2 false _ ?side1 ?side2 A5.out).mono ?_); (case side1 => exact cA (Kd.C_below HR0_2.out HB.out)); (case side2 => exact HC0_2.out); rintro e w11 ⟨rfl, hb⟩; replace BK243 := bB BK243 hb; replace HB := bS hb; (try clear hb))))
    go_meet
    case rel => exact ⟨_, (true), eqA, H', ⟨xq13⟩, ⟨blkA⟩, ⟨belA⟩⟩
  subst c6; have H1 : ((spec_l01In.f a1 1 16).bind fun t245 => (spec_Deal.j0 k a1 (!t245) a0_0 a0_1 l0_2)) = some (r1, r2) := by rw [if_pos rfl] at H; exact H
  clear H; have H := H1; clear H1; replace H := Option.bind_eq_some_iff.mp H; obtain ⟨t245, A70, H⟩ := H; (try dsimp only at H); have A7 := ak A70; clear A70; have H' := ak H; clear H; obtain ⟨_, _, _, _, _, _⟩ := cel3 BK243; go_wp2_with (first | (go_at_call 61; (with_reducible refine (spec_PlanOk.calls k a0_0 a0_1 _ _ l0_2 true _ ?side1 ?side2 A5.out).mono ?_); (case side1 => exact cA (Kd.C_below HR0_2.out HB.out)); (case side2 => exact HC0_2.out); rintro e w9 ⟨rfl, hb⟩; replace BK243 := bB BK243 hb; replace HB := bS hb; (try clear hb)) | (go_at_call 62; (with_reducible refine (spec_l01In.calls a1 1 16 t245 _ A7.out).mono ?_); rintro e w' ⟨rfl, ⟨nd, rfl⟩⟩; (try first | exact ⟨rfl, _, World.drewN_drewN _ _ _⟩ | exact ⟨rfl, _, Eq.trans (World.drewN_drewN _ _ _) (congrArg (World.drewN _) (Nat.add_assoc _ _ _))⟩)))
  repeat (go_quiet (first | (go_at_call 61; (with_reducible refine (spec_PlanOk.calls k a0_0 a0_1 _ _ l0_2 true _ ?side1 ?side2 A5.out).mono ?_); (case side1 => exact cA (Kd.C_below HR0_2.out HB.out)); (case side2 => exact HC0_2.out); rintro e w9 ⟨rfl, hb⟩; replace BK243 := bB BK243 hb; replace HB := bS hb; (try clear hb)) | (go_at_call 62; (with_reducible refine (spec_l01In.calls a1 1 16 t245 _ A7.out).mono ?_); rintro e w' ⟨rfl, ⟨nd, rfl⟩⟩; (try first | exact ⟨rfl, _, World.drewN_drewN _ _ _⟩ | exact ⟨rfl, _, Eq.trans (World.drewN_drewN _ _ _) (congrArg (World.drewN _) (Nat.add_assoc _ _ _))⟩))); try go_wp2_with (first | (go_at_call 61; (with_reducible refine (spec_PlanOk.calls k a0_0 a0_1 _ _ l0_2 true _ ?side1 ?side2 A5.out).mono ?_); (case side1 => exact cA (Kd.C_below HR0_2.out HB.out)); (case side2 => exact HC0_2.out); rintro e w9 ⟨rfl, hb⟩; replace BK243 := bB BK243 hb; replace HB := bS hb; (try clear hb)) | (go_at_call 62; (with_reducible refine (spec_l01In.calls a1 1 16 t245 _ A7.out).mono ?_); rintro e w' ⟨rfl, ⟨nd, rfl⟩⟩; (try first | exact ⟨rfl, _, World.drewN_drewN _ _ _⟩ | exact ⟨rfl, _, Eq.trans (World.drewN_drewN _ _ _) (congrArg (World.drewN _) (Nat.add_assoc _ _ _))⟩))))
  go_meet
  case rel => exact ⟨_, (!t245), eqA, H', ⟨xq13⟩, ⟨blkA⟩, ⟨belA⟩⟩
 case rest =>
  clear HC3; obtain ⟨kq, x18_2, rfl, HA, HJ2, BK243, HB⟩ := hcut
  cases kq with
  | zero => exact absurd HA.out (by simp [spec_Deal.j0])
  | succ kj2 =>
   have H := HA.out; clear HA; simp only [spec_Deal.j0] at H
   by_cases c12 : x18_2 = true
   · subst c12; have H1 : (some (([] : List (List Int)), false)) = some (r1, r2) := by rw [if_pos rfl] at H; exact H
     clear H; have H := H1; clear H1; simp only [Option.some.injEq, Prod.mk.injEq] at H; obtain ⟨rfl, rfl⟩ := H; go_wp2
     repeat (go_quiet (fail); try go_wp2)
     go_ret2
     exact ⟨_, xq2, xq46, belA⟩
   replace c12 := Bool.eq_false_iff.mpr c12; subst c12; have H1 : (spec_Deal.l0 kj2 a1 (([] : List (List Int))) 0 a0_0 a0_1 l0_2) = some (r1, r2) := by rw [if_neg (show ¬ (false = true) by decide)] at H; exact H
   clear H; have H := H1; clear H1; obtain ⟨y246, hyq⟩ : ∃ y_ : List (List Int), y_ = (([] : List (List Int))) := ⟨_, rfl⟩; replace H : (spec_Deal.l0 kj2 a1 y246 0 a0_0 a0_1 l0_2) = some (r1, r2) := by first | (rw [hyq]; with_reducible exact H) | (have H2_ := (Option.bind_some _ _).symm.trans H; rw [hyq]; with_reducible exact H2_) | (have H2_ := (Option.bind_some _ _).symm.trans H; with_reducible exact H2_) | with_reducible exact H | (rw [hyq]; exact H) | exact H
   have Ny246 := ak hyq; clear hyq; have H' := ak H; clear H; go_wp2_with (first | ((with_reducible refine gate_dst (N := 19) rfl ?_); refine Kd.S_lit (Kd.slice 3 (Kd.int .i64)) _ 33 ?hg (N := 19) ?hd (xs := ([] : List (List Int))) (inner := []) (ok := fun _ => True) (okp := fun _ => True) ?hr ?hp (fun _ hk => hk) trivial (Below.refl _ _) (Nat.le_refl _) (by simp) ?_; (case hd => rfl); (case hg => rfl); (case hr => exact xq5); (case hp => exact (Reps.none _ _)); intro v247 w13 ho14 hb hg_ hnew_; clear hg_ hnew_; (first | rw [← Ny246.out] at ho14 | (simp only [Int.reduceToNat] at ho14; rw [← Ny246.out] at ho14)); have HO248 := sL ho14; replace BK243 := bB BK243 hb; replace HB := bS hb; clear hb ho14))
   repeat (go_quiet (first | ((with_reducible refine gate_dst (N := 19) rfl ?_); refine Kd.S_lit (Kd.slice 3 (Kd.int .i64)) _ 33 ?hg (N := 19) ?hd (xs := ([] : List (List Int))) (inner := []) (ok := fun _ => True) (okp := fun _ => True) ?hr ?hp (fun _ hk => hk) trivial (Below.refl _ _) (Nat.le_refl _) (by simp) ?_; (case hd => rfl); (case hg => rfl); (case hr => exact xq5); (case hp => exact (Reps.none _ _)); intro v247 w13 ho14 hb hg_ hnew_; clear hg_ hnew_; (first | rw [← Ny246.out] at ho14 | (simp only [Int.reduceToNat] at ho14; rw [← Ny246.out] at ho14)); have HO248 := sL ho14; replace BK243 := bB BK243 hb; replace HB := bS hb; clear hb ho14)); try go_wp2_with (first | ((with_reducible refine gate_dst (N := 19) rfl ?_); refine Kd.S_lit (Kd.slice 3 (Kd.int .i64)) _ 33 ?hg (N := 19) ?hd (xs := ([] : List (List Int))) (inner := []) (ok := fun _ => True) (okp := fun _ => True) ?hr ?hp (fun _ hk => hk) trivial (Below.refl _ _) (Nat.le_refl _) (by simp) ?_; (case hd => rfl); (case hg => rfl); (case hr => exact xq5); (case hp => exact (Reps.none _ _)); intro v247 w13 ho14 hb hg_ hnew_; clear hg_ hnew_; (first | rw [← Ny246.out] at ho14 | (simp only [Int.reduceToNat] at ho14; rw [← Ny246.out] at ho14)); have HO248 := sL ho14; replace BK243 := bB BK243 hb; replace HB := bS hb; clear hb ho14)))
   go_loopg [6, 7] kj2 (fun kq v6 v7 w' => ∃ (x6_2 : List (List Int)) (x7_2 : Int), v7 = .int .i64 x7_2 ∧ Aside0 (spec_Deal.l0 kq a1 x6_2 x7_2 a0_0 a0_1 l0_2 = some (r1, r2)) ∧ Aside0 (kq ≤ kj2) ∧ Aside0 (Kd.S (Kd.slice 3 (Kd.int .i64)) 33 w' w.heap.size (fun _ => True) v6 x6_2) ∧ Aside0 (w'.heap[gb243]? = some (.cells #[.int .i64 a0_0, .int .i64 a0_1, (.slice A0_2 l0_2.length c0_2)] 26 (0, 0))) ∧ Aside0 (Below w.heap.size w w'))
   case atStart => exact ⟨(y246), (0), eqA, H', ⟨Nat.le_refl _⟩, ⟨sA HO248⟩, ⟨blkA⟩, ⟨belA⟩⟩
   case round =>
    clear H'; obtain ⟨x6_2, x7_2, rfl, HA, HK2, HO_6, BK243, HB⟩ := hrel
    cases gk with
    | zero => exact absurd HA.out (by simp [spec_Deal.l0])
    | succ k2 =>
     have H := HA.out; clear HA; simp only [spec_Deal.l0] at H
     by_cases c15 : x7_2 < a1; rotate_left
     · rw [if_neg c15] at H; have c15b0 := decide_eq_false c15; clear c15; simp only [Option.some.injEq, Prod.mk.injEq] at H; obtain ⟨rfl, rfl⟩ := H; go_wp2
       repeat (go_quiet (fail); try go_wp2)
       go_ret2
       exact ⟨_, xq2, by (with_reducible repeat (first | apply Kd.S_alloc | apply Kd.S_drewN | apply Kd.S_drew)); exact HO_6.out, belA⟩
     rw [if_pos c15] at H; have c15b0 := decide_eq_true c15; clear c15; obtain ⟨y249, hyq⟩ : ∃ y_ : List Int, y_ = (([] : List Int)) := ⟨_, rfl⟩; replace H : (spec_Deal.l1 k2 a1 x6_2 x7_2 y249 0 0 a0_0 a0_1 l0_2) = some (r1, r2) := by first | (rw [hyq]; with_reducible exact H) | (have H2_ := (Option.bind_some _ _).symm.trans H; rw [hyq]; with_reducible exact H2_) | (have H2_ := (Option.bind_some _ _).symm.trans H; with_reducible exact H2_) | with_reducible exact H | (rw [hyq]; exact H) | exact H
     have Ny249 := ak hyq; clear hyq; have H' := ak H; clear H; go_wp2_with (first | ((with_reducible refine gate_dst (N := 25) rfl ?_); refine Kd.R_lit (Kd.int .i64) _ 3 ?hg (N := 25) ?hd (xs := ([] : List Int)) (inner := []) (ok := fun _ => True) (okp := fun _ => True) ?hr ?hp (fun _ hk => hk) trivial (Below.refl _ _) (Nat.le_refl _) (by simp) ?_; (case hd => rfl); (case hg => rfl); (case hr => exact xq5); (case hp => exact (Reps.none _ _)); intro v250 w16 ho17 hb hg_ hnew_; clear hg_ hnew_; (first | rw [← Ny249.out] at ho17 | (simp only [Int.reduceToNat] at ho17; rw [← Ny249.out] at ho17)); have HO251 := rL ho17; replace HO_6 := sD HO_6 (Kd.R_base ho17) hb; replace BK243 := bB BK243 hb; replace HB := bS hb; clear hb ho17))
     repeat (go_quiet (first | ((with_reducible refine gate_dst (N := 25) rfl ?_); refine Kd.R_lit (Kd.int .i64) _ 3 ?hg (N := 25) ?hd (xs := ([] : List Int)) (inner := []) (ok := fun _ => True) (okp := fun _ => True) ?hr ?hp (fun _ hk => hk) trivial (Below.refl _ _) (Nat.le_refl _) (by simp) ?_; (case hd => rfl); (case hg => rfl); (case hr => exact xq5); (case hp => exact (Reps.none _ _)); intro v250 w16 ho17 hb hg_ hnew_; clear hg_ hnew_; (first | rw [← Ny249.out] at ho17 | (simp only [Int.reduceToNat] at ho17; rw [← Ny249.out] at ho17)); have HO251 := rL ho17; replace HO_6 := sD HO_6 (Kd.R_base ho17) hb; replace BK243 := bB BK243 hb; replace HB := bS hb; clear hb ho17)); try go_wp2_with (first | ((with_reducible refine gate_dst (N := 25) rfl ?_); refine Kd.R_lit (Kd.int .i64) _ 3 ?hg (N := 25) ?hd (xs := ([] : List Int)) (inner := []) (ok := fun _ => True) (okp := fun _ => True) ?hr ?hp (fun _ hk => hk) trivial (Below.refl _ _) (Nat.le_refl _) (by simp) ?_; (case hd => rfl); (case hg => rfl); (case hr => exact xq5); (case hp => exact (Reps.none _ _)); intro v250 w16 ho17 hb hg_ hnew_; clear hg_ hnew_; (first | rw [← Ny249.out] at ho17 | (simp only [Int.reduceToNat] at ho17; rw [← Ny249.out] at ho17)); have HO251 := rL ho17; replace HO_6 := sD HO_6 (Kd.R_base ho17) hb; replace BK243 := bB BK243 hb; replace HB := bS hb; clear hb ho17)))
     go_loopg [8, 9, 10] k2 (fun kq v8 v9 v10 w' => ∃ (x8_3 : List Int) (x9_3 : Int) (x10_3 : Int), v9 = .int .i64 x9_3 ∧ v10 = .int .i64 x10_3 ∧ Aside0 (spec_Deal.l1 kq a1 x6_2 x7_2 x8_3 x9_3 x10_3 a0_0 a0_1 l0_2 = some (r1, r2)) ∧ Aside0 (kq ≤ k2) ∧ Aside0 (Kd.S (Kd.slice 3 (Kd.int .i64)) 33 w' w.heap.size (fun k_ => some k_ ≠ (v8 : Value).ownBlock) u6 x6_2) ∧ Aside0 (Kd.R (Kd.int .i64) 3 w' w.heap.size (fun _ => True) v8 x8_3) ∧ Aside0 (w'.heap[gb243]? = some (.cells #[.int .i64 a0_0, .int .i64 a0_1, (.slice A0_2 l0_2.length c0_2)] 26 (0, 0))) ∧ Aside0 (Below w.heap.size w w'))
     case atStart => exact ⟨(y249), (0), (0), eqA, eqA, H', ⟨Nat.le_refl _⟩, ⟨sE (Kd.S_mono HO_6.out (fun _ hk => hk.2))⟩, ⟨rA HO251⟩, ⟨blkA⟩, ⟨belA⟩⟩
     case round =>
      clear H'; obtain ⟨x8_3, x9_3, x10_3, rfl, rfl, HA, HK3, HO_6, HO_8, BK243, HB⟩ := hrel
      cases gk with
      | zero => exact absurd HA.out (by simp [spec_Deal.l1])
      | succ k3 =>
       have H := HA.out; clear HA; simp only [spec_Deal.l1] at H
       by_cases c18 : x10_3 < (l0_2.length : Int); rotate_left
       · rw [if_neg c18] at H; have c18b0 := decide_eq_false c18; clear c18
         by_cases c36 : x6_2.length < 5864062014805; rotate_left
         · rw [if_neg c36] at H; exact absurd H (by simp)
         rw [if_pos c36] at H; have LMc36 := ak c36; clear c36; obtain ⟨y252, hyq⟩ : ∃ y_ : List (List Int), y_ = (x6_2 ++ [x8_3]) := ⟨_, rfl⟩; replace H : (spec_Deal.l0 k3 a1 y252 (wrap64 (x7_2 + 1)) a0_0 a0_1 l0_2) = some (r1, r2) := by first | (rw [hyq]; with_reducible exact H) | (have H2_ := (Option.bind_some _ _).symm.trans H; rw [hyq]; with_reducible exact H2_) | (have H2_ := (Option.bind_some _ _).symm.trans H; with_reducible exact H2_) | with_reducible exact H | (rw [hyq]; exact H) | exact H
         have Ny252 := ak hyq; clear hyq; have H' := ak H; clear H; obtain ⟨_, _, _, _, _, _⟩ := cel3 BK243; obtain ⟨Ao39, co39, eo39⟩ := Kd.R_slice HO_8.out; subst eo39; go_wp2_with (first | ((with_reducible refine gate_builtin (b := .append) (xs := #[.tmp 62, .tmp 64]) rfl ?_); at_builtin; refine Kd.S_append (Kd.slice 3 (Kd.int .i64)) (w0 := w) w.heap.size rfl (.tmp 62) (.tmp 64) 29 33 (.slice none 0 0) 24 rfl Try.underlying29 info33 rfl (by decide) (by omega) u6 x6_2 x8_3 [.slice Ao39 x8_3.length co39] (fun _ => True) (fun k_ => some k_ = (.slice Ao39 x8_3.length co39 : Value).ownBlock) rfl rfl ?aP (fun k_ hk_ => ((Kd.R_mono (ok' := fun k_ => ((fun _ => True)) k_ ∧ some k_ ≠ (u6 : Value).ownBlock) (Kd.R_apart' (HO_8.out) (Kd.S_typed HO_6.out) (by decide)) (fun k_ hk => ⟨trivial, hk.2⟩))).1 k_ hk_.symm) ?aF ?aO ?aB ?aS ?aL ?_; (case aP => exact xq54); (case aB => exact belA); (case aF => exact (fun _ _ => trivial)); (case aO => exact xq55); (case aS => exact (below_size belA)); (case aL => have := LMc36.out; omega); intro v253 w38 ho hb hg hat; rw [← Ny252.out] at ho; have HO254 := ak ho; replace BK243 := ak (blk_grown (g := gb243) (o := .cells #[.int .i64 a0_0, .int .i64 a0_1, .slice A0_2 l0_2.length c0_2] 26 (0, 0)) blkA hg (Kd.S_ne HO_6.out BK243.out (by decide))); replace HB := ak hb; clear HO_6 HO_8; clear ho hb hg hat))
         repeat (go_quiet (first | ((with_reducible refine gate_builtin (b := .append) (xs := #[.tmp 62, .tmp 64]) rfl ?_); at_builtin; refine Kd.S_append (Kd.slice 3 (Kd.int .i64)) (w0 := w) w.heap.size rfl (.tmp 62) (.tmp 64) 29 33 (.slice none 0 0) 24 rfl Try.underlying29 info33 rfl (by decide) (by omega) u6 x6_2 x8_3 [.slice Ao39 x8_3.length co39] (fun _ => True) (fun k_ => some k_ = (.slice Ao39 x8_3.length co39 : Value).ownBlock) rfl rfl ?aP (fun k_ hk_ => ((Kd.R_mono (ok' := fun k_ => ((fun _ => True)) k_ ∧ some k_ ≠ (u6 : Value).ownBlock) (Kd.R_apart' (HO_8.out) (Kd.S_typed HO_6.out) (by decide)) (fun k_ hk => ⟨trivial, hk.2⟩))).1 k_ hk_.symm) ?aF ?aO ?aB ?aS ?aL ?_; (case aP => exact xq54); (case aB => exact belA); (case aF => exact (fun _ _ => trivial)); (case aO => exact xq55); (case aS => exact (below_size belA)); (case aL => have := LMc36.out; omega); intro v253 w38 ho hb hg hat; rw [← Ny252.out] at ho; have HO254 := ak ho; replace BK243 := ak (blk_grown (g := gb243) (o := .cells #[.int .i64 a0_0, .int .i64 a0_1, .slice A0_2 l0_2.length c0_2] 26 (0, 0)) blkA hg (Kd.S_ne HO_6.out BK243.out (by decide))); replace HB := ak hb; clear HO_6 HO_8; clear ho hb hg hat)); try go_wp2_with (first | ((with_reducible refine gate_builtin (b := .append) (xs := #[.tmp 62, .tmp 64]) rfl ?_); at_builtin; refine Kd.S_append (Kd.slice 3 (Kd.int .i64)) (w0 := w) w.heap.size rfl (.tmp 62) (.tmp 64) 29 33 (.slice none 0 0) 24 rfl Try.underlying29 info33 rfl (by decide) (by omega) u6 x6_2 x8_3 [.slice Ao39 x8_3.length co39] (fun _ => True) (fun k_ => some k_ = (.slice Ao39 x8_3.length co39 : Value).ownBlock) rfl rfl ?aP (fun k_ hk_ => ((Kd.R_mono (ok' := fun k_ => ((fun _ => True)) k_ ∧ some k_ ≠ (u6 : Value).ownBlock) (Kd.R_apart' (HO_8.out) (Kd.S_typed HO_6.out) (by decide)) (fun k_ hk => ⟨trivial, hk.2⟩))).1 k_ hk_.symm) ?aF ?aO ?aB ?aS ?aL ?_; (case aP => exact xq54); (case aB => exact belA); (case aF => exact (fun _ _ => trivial)); (case aO => exact xq55); (case aS => exact (below_size belA)); (case aL => have := LMc36.out; omega); intro v253 w38 ho hb hg hat; rw [← Ny252.out] at ho; have HO254 := ak ho; replace BK243 := ak (blk_grown (g := gb243) (o := .cells #[.int .i64 a0_0, .int .i64 a0_1, .slice A0_2 l0_2.length c0_2] 26 (0, 0)) blkA hg (Kd.S_ne HO_6.out BK243.out (by decide))); replace HB := ak hb; clear HO_6 HO_8; clear ho hb hg hat)))
         go_roundg k3
         case measure => have := HJ2.out; have := HK2.out; have := HK3.out; omega
         case rel => exact ⟨(y252), (wrap64 (x7_2 + 1)), eqA, H', ⟨xq53⟩, ⟨sA HO254⟩, ⟨blkA⟩, ⟨belA⟩⟩
       rw [if_pos c18] at H; have c18b0 := decide_eq_true c18; clear c18; have HC19 := ak H; clear H; obtain ⟨_, _, _, _, _, _⟩ := cel3 BK243; go_upto_region 12 with (fail)
       repeat (go_quiet (fail); go_upto_region 12 with (fail))
       go_cut [50] (fun v50 wc => ∃ (kq : Nat) (x50_18 : Bool), v50 = .bool x50_18 ∧ Aside0 (spec_Deal.j3 kq a1 x6_2 x7_2 x8_3 x9_3 x10_3 x50_18 a0_0 a0_1 l0_2 = some (r1, r2)) ∧ Aside0 (kq ≤ k3) ∧ Aside0 (Kd.S (Kd.slice 3 (Kd.int .i64)) 33 wc w.heap.size (fun k_ => some k_ ≠ (u8 : Value).ownBlock) u6 x6_2) ∧ Aside0 (Kd.R (Kd.int .i64) 3 wc w.heap.size (fun _ => True) u8 x8_3) ∧ Aside0 (wc.heap[gb243]? = some (.cells #[.int .i64 a0_0, .int .i64 a0_1, (.slice A0_2 l0_2.length c0_2)] 26 (0, 0))) ∧ Aside0 (Below w.heap.size w wc))
       case first =>
        have H := HC19.out; clear HC19
        by_cases c21 : x10_3 > 0; rotate_left
        · rw [if_neg c21] at H; have c21b0 : decide (0 < x10_3) = false := decide_eq_false c21; clear c21; (first | rw [c21b0] | (simp only [i64_w, i32_w]; rw [c21b0]) | skip)
          have H' := ak H; clear H; go_wp2
          repeat (go_quiet (fail); try go_wp2)
          go_meet
          case rel => exact ⟨_, (false), eqA, H', ⟨xq87⟩, ⟨sA HO_6⟩, ⟨rA HO_8⟩, ⟨blkA⟩, ⟨belA⟩⟩
        rw [if_pos c21] at H; have c21b0 : decide (0 < x10_3) = true := decide_eq_true c21; clear c21; (first | rw [c21b0] | (simp only [i64_w, i32_w]; rw [c21b0]) | skip)
        by_cases c22 : 0 ≤ x10_3; rotate_left
        · rw [if_neg c22] at H; exact absurd H (by simp)
        rw [if_pos c22] at H; have c22b0 := decide_eq_true c22; clear c22; obtain ⟨ji23, hji23⟩ : ∃ j_ : Int, (wrap64 (x10_3 - 1)) = j_ := ⟨_, rfl⟩; replace H : (if 0 ≤ (ji23) then (if (ji23) < (l0_2.length : Int) then (spec_Deal.j3 k3 a1 x6_2 x7_2 x8_3 x9_3 x10_3 (((rd_T93 l0_2 x10_3).f0) != ((rd_T93 l0_2 (ji23)).f0)) a0_0 a0_1 l0_2) else (none)) else (none)) = some (r1, r2) := by first | (rw [hji23] at H; exact H) | (simp only [hji23] at H ⊢; exact H)
        have hji23w : (IntKind.i64.wrap (x10_3 - 1)) = ji23 := (i64_w _).trans hji23
        by_cases c24 : 0 ≤ (ji23); rotate_left
        · rw [if_neg c24] at H; exact absurd H (by simp)
        rw [if_pos c24] at H; have c24b0 := decide_eq_true c24; clear c24
        by_cases c25 : (ji23) < (l0_2.length : Int); rotate_left
        · rw [if_neg c25] at H; exact absurd H (by simp)
        rw [if_pos c25] at H; have c25b0 := decide_eq_true c25; clear c25; have H' := ak H; clear H; obtain ⟨_, _, _, _, _, _⟩ := cel3 BK243; have p255 : 0 ≤ (x10_3 : Int) := odA; have q255 : x10_3 < (l0_2.length : Int) := odA; obtain ⟨ad255, e255, hx255_0, hx255_1, hx255_2⟩ := at_T93 HR0_2.out x10_3 p255 q255
        cases e255
        try replace hx255_0 := cB HB hx255_0
        try replace hx255_1 := cB HB hx255_1
        try replace hx255_2 := cB HB hx255_2
        replace p255 := eq_true p255; replace q255 := eq_true q255; have p256 : 0 ≤ ((ji23) : Int) := odA; have q256 : (ji23) < (l0_2.length : Int) := odA; obtain ⟨ad256, e256, hx256_0, hx256_1, hx256_2⟩ := at_T93 HR0_2.out (ji23) p256 q256; obtain rfl : ad255 = ad256 := (by injection e256); try replace hx256_0 := cB HB hx256_0
        try replace hx256_1 := cB HB hx256_1
        try replace hx256_2 := cB HB hx256_2
        replace p256 := eq_true p256; replace q256 := eq_true q256; go_wp2
        repeat (go_quiet (fail); try go_wp2)
        go_meet
        case rel => exact ⟨_, ((((rd_T93 l0_2 x10_3).f0) != ((rd_T93 l0_2 (ji23)).f0))), (by first | rfl | (simp; done) | (simp only [← hji23] <;> (first | rfl | simp)) | (simp [*]; done)), H', ⟨xq87⟩, ⟨sA HO_6⟩, ⟨rA HO_8⟩, ⟨blkA⟩, ⟨belA⟩⟩
       case rest =>
        clear HC19; obtain ⟨kq, x50_18, rfl, HA, HJ18, HO_6, HO_8, BK243, HB⟩ := hcut
        cases kq with
        | zero => exact absurd HA.out (by simp [spec_Deal.j3])
        | succ kj18 =>
         have H := HA.out; clear HA; simp only [spec_Deal.j3] at H
         by_cases c27 : x50_18 = true; rotate_left
         · replace c27 := Bool.eq_false_iff.mpr c27; subst c27; have H1 : (if a1 = 0 then (none) else (if (Int.tmod x9_3 a1) = x7_2 then (if x8_3.length < 17592186044416 then (spec_Deal.l1 kj18 a1 x6_2 x7_2 (x8_3 ++ [x10_3]) (wrap64 (x9_3 + 1)) (wrap64 (x10_3 + 1)) a0_0 a0_1 l0_2) else (none)) else (spec_Deal.l1 kj18 a1 x6_2 x7_2 x8_3 (wrap64 (x9_3 + 1)) (wrap64 (x10_3 + 1)) a0_0 a0_1 l0_2))) = some (r1, r2) := by rw [if_neg (show ¬ (false = true) by decide)] at H; exact H
           clear H; have H := H1; clear H1
           by_cases c32 : a1 = 0
           · rw [if_pos c32] at H; exact absurd H (by simp)
           rw [if_neg c32] at H; have c32b0 : (a1 == 0) = false := beq_eq_false_iff_ne.mpr c32; have c32b1 : (a1 != 0) = true := bne_iff_ne.mpr c32
           by_cases c33 : (Int.tmod x9_3 a1) = x7_2; rotate_left
           · rw [if_neg c33] at H; have c33b0 : ((Int.tmod x9_3 a1) == x7_2) = false := beq_eq_false_iff_ne.mpr c33; have c33b1 : ((Int.tmod x9_3 a1) != x7_2) = true := bne_iff_ne.mpr c33; have H' := ak H; clear H; go_wp2
             repeat (go_quiet (fail); try go_wp2)
             go_roundg kj18
             case measure => have := HJ2.out; have := HK2.out; have := HK3.out; have := HJ18.out; omega
             case rel => exact ⟨(x8_3), (wrap64 (x9_3 + 1)), (wrap64 (x10_3 + 1)), eqA, eqA, H', ⟨xq47⟩, ⟨sA HO_6⟩, ⟨rA HO_8⟩, ⟨blkA⟩, ⟨belA⟩⟩
           rw [if_pos c33] at H; have c33b0 : ((Int.tmod x9_3 a1) == x7_2) = true := beq_iff_eq.mpr c33; have c33b1 : ((Int.tmod x9_3 a1) != x7_2) = false := bne_eq_false_iff_eq.mpr c33; clear c33
           by_cases c34 : x8_3.length < 17592186044416; rotate_left
           · rw [if_neg c34] at H; exact absurd H (by simp)
           rw [if_pos c34] at H; have LMc34 := ak c34; clear c34; obtain ⟨y260, hyq⟩ : ∃ y_ : List Int, y_ = (x8_3 ++ [x10_3]) := ⟨_, rfl⟩; replace H : (spec_Deal.l1 kj18 a1 x6_2 x7_2 y260 (wrap64 (x9_3 + 1)) (wrap64 (x10_3 + 1)) a0_0 a0_1 l0_2) = some (r1, r2) := by first | (rw [hyq]; with_reducible exact H) | (have H2_ := (Option.bind_some _ _).symm.trans H; rw [hyq]; with_reducible exact H2_) | (have H2_ := (Option.bind_some _ _).symm.trans H; with_reducible exact H2_) | with_reducible exact H | (rw [hyq]; exact H) | exact H
           have Ny260 := ak hyq; clear hyq; have H' := ak H; clear H; go_wp2_with (first | ((with_reducible refine gate_builtin (b := .append) (xs := #[.tmp 56, .tmp 58]) rfl ?_); at_builtin; refine Kd.R_append (Kd.int .i64) (w0 := w) w.heap.size rfl (.tmp 56) (.tmp 58) 33 3 (.int .i64 0) 8 rfl Try.underlying33 info3 rfl (by decide) (by omega) u8 x8_3 x10_3 [.int .i64 x10_3] (fun _ => True) (fun _ => False) rfl rfl ?aP (fun _ hk => hk.elim) ?aF ?aO ?aB ?aS ?aL ?_; (case aP => exact rfl); (case aB => exact belA); (case aF => exact (fun _ _ => trivial)); (case aO => exact (rF HO_8)); (case aS => exact (below_size belA)); (case aL => have := LMc34.out; omega); intro v261 w35 ho hb hg hat; rw [← Ny260.out] at ho; have HO262 := ak ho; replace HO_6 := ak (Kd.S_after (ok := (fun _ => True)) (sE (Kd.S_mono HO_6.out (fun _ hk => ⟨trivial, hk⟩))) hg hat); replace BK243 := ak (blk_grown (g := gb243) (o := .cells #[.int .i64 a0_0, .int .i64 a0_1, .slice A0_2 l0_2.length c0_2] 26 (0, 0)) blkA hg (Kd.R_ne HO_8.out BK243.out (by decide))); replace HB := ak hb; clear HO_8; clear ho hb hg hat))
           repeat (go_quiet (first | ((with_reducible refine gate_builtin (b := .append) (xs := #[.tmp 56, .tmp 58]) rfl ?_); at_builtin; refine Kd.R_append (Kd.int .i64) (w0 := w) w.heap.size rfl (.tmp 56) (.tmp 58) 33 3 (.int .i64 0) 8 rfl Try.underlying33 info3 rfl (by decide) (by omega) u8 x8_3 x10_3 [.int .i64 x10_3] (fun _ => True) (fun _ => False) rfl rfl ?aP (fun _ hk => hk.elim) ?aF ?aO ?aB ?aS ?aL ?_; (case aP => exact rfl); (case aB => exact belA); (case aF => exact (fun _ _ => trivial)); (case aO => exact (rF HO_8)); (case aS => exact (below_size belA)); (case aL => have := LMc34.out; omega); intro v261 w35 ho hb hg hat; rw [← Ny260.out] at ho; have HO262 := ak ho; replace HO_6 := ak (Kd.S_after (ok := (fun _ => True)) (sE (Kd.S_mono HO_6.out (fun _ hk => ⟨trivial, hk⟩))) hg hat); replace BK243 := ak (blk_grown (g := gb243) (o := .cells #[.int .i64 a0_0, .int .i64 a0_1, .slice A0_2 l0_2.length c0_2] 26 (0, 0)) blkA hg (Kd.R_ne HO_8.out BK243.out (by decide))); replace HB := ak hb; clear HO_8; clear ho hb hg hat)); try go_wp2_with (first | ((with_reducible refine gate_builtin (b := .append) (xs := #[.tmp 56, .tmp 58]) rfl ?_); at_builtin; refine Kd.R_append (Kd.int .i64) (w0 := w) w.heap.size rfl (.tmp 56) (.tmp 58) 33 3 (.int .i64 0) 8 rfl Try.underlying33 info3 rfl (by decide) (by omega) u8 x8_3 x10_3 [.int .i64 x10_3] (fun _ => True) (fun _ => False) rfl rfl ?aP (fun _ hk => hk.elim) ?aF ?aO ?aB ?aS ?aL ?_; (case aP => exact rfl); (case aB => exact belA); (case aF => exact (fun _ _ => trivial)); (case aO => exact (rF HO_8)); (case aS => exact (below_size belA)); (case aL => have := LMc34.out; omega); intro v261 w35 ho hb hg hat; rw [← Ny260.out] at ho; have HO262 := ak ho; replace HO_6 := ak (Kd.S_after (ok := (fun _ => True)) (sE (Kd.S_mono HO_6.out (fun _ hk => ⟨trivial, hk⟩))) hg hat); replace BK243 := ak (blk_grown (g := gb243) (o := .cells #[.int .i64 a0_0, .int .i64 a0_1, .slice A0_2 l0_2.length c0_2] 26 (0, 0)) blkA hg (Kd.R_ne HO_8.out BK243.out (by decide))); replace HB := ak hb; clear HO_8; clear ho hb hg hat)))
           go_roundg kj18
           case measure => have := HJ2.out; have := HK2.out; have := HK3.out; have := HJ18.out; omega
           case rel => exact ⟨(y260), (wrap64 (x9_3 + 1)), (wrap64 (x10_3 + 1)), eqA, eqA, H', ⟨xq47⟩, ⟨sE (Kd.S_mono HO_6.out (fun _ hk => hk.2))⟩, ⟨rA HO262⟩, ⟨blkA⟩, ⟨belA⟩⟩
         subst c27; have H1 : (if a1 = 0 then (none) else (if ((0 : Int) % a1) = x7_2 then (if x8_3.length < 17592186044416 then (spec_Deal.l1 kj18 a1 x6_2 x7_2 (x8_3 ++ [x10_3]) (0 + 1) (wrap64 (x10_3 + 1)) a0_0 a0_1 l0_2) else (none)) else (spec_Deal.l1 kj18 a1 x6_2 x7_2 x8_3 (0 + 1) (wrap64 (x10_3 + 1)) a0_0 a0_1 l0_2))) = some (r1, r2) := by rw [if_pos rfl] at H; exact H
         clear H; have H := H1; clear H1
         by_cases c28 : a1 = 0
         · rw [if_pos c28] at H; exact absurd H (by simp)
         rw [if_neg c28] at H; have c28b0 : (a1 == 0) = false := beq_eq_false_iff_ne.mpr c28; have c28b1 : (a1 != 0) = true := bne_iff_ne.mpr c28
         by_cases c29 : ((0 : Int) % a1) = x7_2; rotate_left
         · rw [if_neg c29] at H; have c29b0 : (((0 : Int) % a1) == x7_2) = false := beq_eq_false_iff_ne.mpr c29; try simp only [Int.zero_emod] at c29b0
           have c29b1 : (((0 : Int) % a1) != x7_2) = true := bne_iff_ne.mpr c29; try simp only [Int.zero_emod] at c29b1
           have H' := ak H; clear H; go_wp2
           repeat (go_quiet (fail); try go_wp2)
           go_roundg kj18
           case measure => have := HJ2.out; have := HK2.out; have := HK3.out; have := HJ18.out; omega
           case rel => exact ⟨(x8_3), (0 + 1), (wrap64 (x10_3 + 1)), eqA, eqA, H', ⟨xq47⟩, ⟨sA HO_6⟩, ⟨rA HO_8⟩, ⟨blkA⟩, ⟨belA⟩⟩
         rw [if_pos c29] at H; have c29b0 : (((0 : Int) % a1) == x7_2) = true := beq_iff_eq.mpr c29; try simp only [Int.zero_emod] at c29b0
         have c29b1 : (((0 : Int) % a1) != x7_2) = false := bne_eq_false_iff_eq.mpr c29; try simp only [Int.zero_emod] at c29b1
         clear c29
         by_cases c30 : x8_3.length < 17592186044416; rotate_left
         · rw [if_neg c30] at H; exact absurd H (by simp)
         rw [if_pos c30] at H; have LMc30 := ak c30; clear c30; obtain ⟨y257, hyq⟩ : ∃ y_ : List Int, y_ = (x8_3 ++ [x10_3]) := ⟨_, rfl⟩; replace H : (spec_Deal.l1 kj18 a1 x6_2 x7_2 y257 (0 + 1) (wrap64 (x10_3 + 1)) a0_0 a0_1 l0_2) = some (r1, r2) := by first | (rw [hyq]; with_reducible exact H) | (have H2_ := (Option.bind_some _ _).symm.trans H; rw [hyq]; with_reducible exact H2_) | (have H2_ := (Option.bind_some _ _).symm.trans H; with_reducible exact H2_) | with_reducible exact H | (rw [hyq]; exact H) | exact H
         have Ny257 := ak hyq; clear hyq; have H' := ak H; clear H; go_wp2_with (first | ((with_reducible refine gate_builtin (b := .append) (xs := #[.tmp 56, .tmp 58]) rfl ?_); at_builtin; refine Kd.R_append (Kd.int .i64) (w0 := w) w.heap.size rfl (.tmp 56) (.tmp 58) 33 3 (.int .i64 0) 8 rfl Try.underlying33 info3 rfl (by decide) (by omega) u8 x8_3 x10_3 [.int .i64 x10_3] (fun _ => True) (fun _ => False) rfl rfl ?aP (fun _ hk => hk.elim) ?aF ?aO ?aB ?aS ?aL ?_; (case aP => exact rfl); (case aB => exact belA); (case aF => exact (fun _ _ => trivial)); (case aO => exact (rF HO_8)); (case aS => exact (below_size belA)); (case aL => have := LMc30.out; omega); intro v258 w31 ho hb hg hat; rw [← Ny257.out] at ho; have HO259 := ak ho; replace HO_6 := ak (Kd.S_after (ok := (fun _ => True)) (sE (Kd.S_mono HO_6.out (fun _ hk => ⟨trivial, hk⟩))) hg hat); replace BK243 := ak (blk_grown (g := gb243) (o := .cells #[.int .i64 a0_0, .int .i64 a0_1, .slice A0_2 l0_2.length c0_2] 26 (0, 0)) blkA hg (Kd.R_ne HO_8.out BK243.out (by decide))); replace HB := ak hb; clear HO_8; clear ho hb hg hat))
         repeat (go_quiet (first | ((with_reducible refine gate_builtin (b := .append) (xs := #[.tmp 56, .tmp 58]) rfl ?_); at_builtin; refine Kd.R_append (Kd.int .i64) (w0 := w) w.heap.size rfl (.tmp 56) (.tmp 58) 33 3 (.int .i64 0) 8 rfl Try.underlying33 info3 rfl (by decide) (by omega) u8 x8_3 x10_3 [.int .i64 x10_3] (fun _ => True) (fun _ => False) rfl rfl ?aP (fun _ hk => hk.elim) ?aF ?aO ?aB ?aS ?aL ?_; (case aP => exact rfl); (case aB => exact belA); (case aF => exact (fun _ _ => trivial)); (case aO => exact (rF HO_8)); (case aS => exact (below_size belA)); (case aL => have := LMc30.out; omega); intro v258 w31 ho hb hg hat; rw [← Ny257.out] at ho; have HO259 := ak ho; replace HO_6 := ak (Kd.S_after (ok := (fun _ => True)) (sE (Kd.S_mono HO_6.out (fun _ hk => ⟨trivial, hk⟩))) hg hat); replace BK243 := ak (blk_grown (g := gb243) (o := .cells #[.int .i64 a0_0, .int .i64 a0_1, .slice A0_2 l0_2.length c0_2] 26 (0, 0)) blkA hg (Kd.R_ne HO_8.out BK243.out (by decide))); replace HB := ak hb; clear HO_8; clear ho hb hg hat)); try go_wp2_with (first | ((with_reducible refine gate_builtin (b := .append) (xs := #[.tmp 56, .tmp 58]) rfl ?_); at_builtin; refine Kd.R_append (Kd.int .i64) (w0 := w) w.heap.size rfl (.tmp 56) (.tmp 58) 33 3 (.int .i64 0) 8 rfl Try.underlying33 info3 rfl (by decide) (by omega) u8 x8_3 x10_3 [.int .i64 x10_3] (fun _ => True) (fun _ => False) rfl rfl ?aP (fun _ hk => hk.elim) ?aF ?aO ?aB ?aS ?aL ?_; (case aP => exact rfl); (case aB => exact belA); (case aF => exact (fun _ _ => trivial)); (case aO => exact (rF HO_8)); (case aS => exact (below_size belA)); (case aL => have := LMc30.out; omega); intro v258 w31 ho hb hg hat; rw [← Ny257.out] at ho; have HO259 := ak ho; replace HO_6 := ak (Kd.S_after (ok := (fun _ => True)) (sE (Kd.S_mono HO_6.out (fun _ hk => ⟨trivial, hk⟩))) hg hat); replace BK243 := ak (blk_grown (g := gb243) (o := .cells #[.int .i64 a0_0, .int .i64 a0_1, .slice A0_2 l0_2.length c0_2] 26 (0, 0)) blkA hg (Kd.R_ne HO_8.out BK243.out (by decide))); replace HB := ak hb; clear HO_8; clear ho hb hg hat)))
         go_roundg kj18
         case measure => have := HJ2.out; have := HK2.out; have := HK3.out; have := HJ18.out; omega
         case rel => exact ⟨(y257), (0 + 1), (wrap64 (x10_3 + 1)), eqA, eqA, H', ⟨xq47⟩, ⟨sE (Kd.S_mono HO_6.out (fun _ hk => hk.2))⟩, ⟨rA HO259⟩, ⟨blkA⟩, ⟨belA⟩⟩

def impl_fieldOf.f (a0 : Int) : Option (Int × Int × Int × Bool) := Go.Proofs.Ytogdhclomgafdaa.Fld.impl_fieldOf.f a0
theorem impl_fieldOf.calls (a0 : Int) (r1 : Int) (r2 : Int) (r3 : Int) (r4 : Bool) (w : World) (h : impl_fieldOf.f a0 = some (r1, r2, r3, r4)) :
 Calls Try.prog 103 #[.int .i64 a0] w fun e w' => e = .returned (.tuple #[.agg #[.int .i64 r1, .int .i64 r2, .int .i64 r3], .bool r4]) ∧ Below w.heap.size w w' :=
 Go.Proofs.Ytogdhclomgafdaa.Fld.impl_fieldOf.calls a0 r1 r2 r3 r4 w h

def impl_isStep.f (a0_0 : Int) (a0_1 : Int) (a0_2 : Int) (a1 : Int) : Option (Bool) := if a0_0 ≥ 0 then (if a0_0 < a1 then (if a0_1 ≥ 0 then (if a0_1 < a0_2 then (if 0 ≤ (wrap64 (a1 - 1)) then (some (decide (a0_2 ≤ (shl .i64 1 (wrap64 (a1 - 1)))))) else (none)) else (some false)) else (some false)) else (some false)) else (some false)
theorem impl_isStep.calls (a0_0 : Int) (a0_1 : Int) (a0_2 : Int) (a1 : Int) (r : Bool) (w : World) (h : impl_isStep.f a0_0 a0_1 a0_2 a1 = some r) :
 Calls Try.prog 104 #[.agg #[.int .i64 a0_0, .int .i64 a0_1, .int .i64 a0_2], .int .i64 a1] w fun e w' => e = .returned (.bool r) ∧ Below w.heap.size w w' := by
 have hu93 := Try.underlying93; have HB := ak (Below.refl w.heap.size w); have H : (if a0_0 ≥ 0 then (if a0_0 < a1 then (if a0_1 ≥ 0 then (if a0_1 < a0_2 then (if 0 ≤ (wrap64 (a1 - 1)) then (some (decide (a0_2 ≤ (shl .i64 1 (wrap64 (a1 - 1)))))) else (none)) else (some false)) else (some false)) else (some false)) else (some false)) = some r := h; clear h
 by_cases c3 : a0_0 ≥ 0; rotate_left
 · rw [if_neg c3] at H; have c3b0 : decide (0 ≤ a0_0) = false := decide_eq_false c3; clear c3; obtain rfl := Option.some.inj H; go_enter Try.func104, Try.ntmps104
   go_wp2_with (first | ((with_reducible refine gate_dst (N := 2) rfl ?_); refine boxA 2 #[.int .i64 a0_0, .int .i64 a0_1, .int .i64 a0_2] 93 ?_; intro gb263 hg w18 hbox hb; have BK263 := ak hbox; have GW263 := leA (w := w) hg; have GE263 := leA (w := w) hg; replace HB := bS hb; clear hb hbox hg; obtain ⟨_, _, _, _, _, _⟩ := cel3 BK263))
   repeat (go_quiet (first | ((with_reducible refine gate_dst (N := 2) rfl ?_); refine boxA 2 #[.int .i64 a0_0, .int .i64 a0_1, .int .i64 a0_2] 93 ?_; intro gb263 hg w18 hbox hb; have BK263 := ak hbox; have GW263 := leA (w := w) hg; have GE263 := leA (w := w) hg; replace HB := bS hb; clear hb hbox hg; obtain ⟨_, _, _, _, _, _⟩ := cel3 BK263)); try go_wp2_with (first | ((with_reducible refine gate_dst (N := 2) rfl ?_); refine boxA 2 #[.int .i64 a0_0, .int .i64 a0_1, .int .i64 a0_2] 93 ?_; intro gb263 hg w18 hbox hb; have BK263 := ak hbox; have GW263 := leA (w := w) hg; have GE263 := leA (w := w) hg; replace HB := bS hb; clear hb hbox hg; obtain ⟨_, _, _, _, _, _⟩ := cel3 BK263)))
   go_ret
   exact ⟨xq2, belA⟩
 rw [if_pos c3] at H; have c3b0 : decide (0 ≤ a0_0) = true := decide_eq_true c3; clear c3
 by_cases c4 : a0_0 < a1; rotate_left
 · rw [if_neg c4] at H; have c4b0 := decide_eq_false c4; clear c4; obtain rfl := Option.some.inj H; go_enter Try.func104, Try.ntmps104
   go_wp2_with (first | ((with_reducible refine gate_dst (N := 2) rfl ?_); refine boxA 2 #[.int .i64 a0_0, .int .i64 a0_1, .int .i64 a0_2] 93 ?_; intro gb263 hg w16 hbox hb; have BK263 := ak hbox; have GW263 := leA (w := w) hg; have GE263 := leA (w := w) hg; replace HB := bS hb; clear hb hbox hg; obtain ⟨_, _, _, _, _, _⟩ := cel3 BK263))
   repeat (go_quiet (first | ((with_reducible refine gate_dst (N := 2) rfl ?_); refine boxA 2 #[.int .i64 a0_0, .int .i64 a0_1, .int .i64 a0_2] 93 ?_; intro gb263 hg w16 hbox hb; have BK263 := ak hbox; have GW263 := leA (w := w) hg; have GE263 := leA (w := w) hg; replace HB := bS hb; clear hb hbox hg; obtain ⟨_, _, _, _, _, _⟩ := cel3 BK263)); try go_wp2_with (first | ((with_reducible refine gate_dst (N := 2) rfl ?_); refine boxA 2 #[.int .i64 a0_0, .int .i64 a0_1, .int .i64 a0_2] 93 ?_; intro gb263 hg w16 hbox hb; have BK263 := ak hbox; have GW263 := leA (w := w) hg; have GE263 := leA (w := w) hg; replace HB := bS hb; clear hb hbox hg; obtain ⟨_, _, _, _, _, _⟩ := cel3 BK263)))
   go_ret
   exact ⟨xq2, belA⟩
 rw [if_pos c4] at H; have c4b0 := decide_eq_true c4; clear c4
 by_cases c5 : a0_1 ≥ 0; rotate_left
 · rw [if_neg c5] at H; have c5b0 : decide (0 ≤ a0_1) = false := decide_eq_false c5; clear c5; obtain rfl := Option.some.inj H; go_enter Try.func104, Try.ntmps104
   go_wp2_with (first | ((with_reducible refine gate_dst (N := 2) rfl ?_); refine boxA 2 #[.int .i64 a0_0, .int .i64 a0_1, .int .i64 a0_2] 93 ?_; intro gb263 hg w14 hbox hb; have BK263 := ak hbox; have GW263 := leA (w := w) hg; have GE263 := leA (w := w) hg; replace HB := bS hb; clear hb hbox hg; obtain ⟨_, _, _, _, _, _⟩ := cel3 BK263))
   repeat (go_quiet (first | ((with_reducible refine gate_dst (N := 2) rfl ?_); refine boxA 2 #[.int .i64 a0_0, .int .i64 a0_1, .int .i64 a0_2] 93 ?_; intro gb263 hg w14 hbox hb; have BK263 := ak hbox; have GW263 := leA (w := w) hg; have GE263 := leA (w := w) hg; replace HB := bS hb; clear hb hbox hg; obtain ⟨_, _, _, _, _, _⟩ := cel3 BK263)); try go_wp2_with (first | ((with_reducible refine gate_dst (N := 2) rfl ?_); refine boxA 2 #[.int .i64 a0_0, .int .i64 a0_1, .int .i64 a0_2] 93 ?_; intro gb263 hg w14 hbox hb; have BK263 := ak hbox; have GW263 := leA (w := w) hg; have GE263 := leA (w := w) hg; replace HB := bS hb; clear hb hbox hg; obtain ⟨_, _, _, _, _, _⟩ := cel3 BK263)))
   go_ret
   exact ⟨xq2, belA⟩
 rw [if_pos c5] at H; have c5b0 : decide (0 ≤ a0_1) = true := decide_eq_true c5; clear c5
 by_cases c6 : a0_1 < a0_2; rotate_left
 · rw [if_neg c6] at H; have c6b0 := decide_eq_false c6; clear c6; obtain rfl := Option.some.inj H; go_enter Try.func104, Try.ntmps104
   go_wp2_with (first | ((with_reducible refine gate_dst (N := 2) rfl ?_); refine boxA 2 #[.int .i64 a0_0, .int .i64 a0_1, .int .i64 a0_2] 93 ?_; intro gb263 hg w12 hbox hb; have BK263 := ak hbox; have GW263 := leA (w := w) hg; have GE263 := leA (w := w) hg; replace HB := bS hb; clear hb hbox hg; obtain ⟨_, _, _, _, _, _⟩ := cel3 BK263))
   repeat (go_quiet (first | ((with_reducible refine gate_dst (N := 2) rfl ?_); refine boxA 2 #[.int .i64 a0_0, .int .i64 a0_1, .int .i64 a0_2] 93 ?_; intro gb263 hg w12 hbox hb; have BK263 := ak hbox; have GW263 := leA (w := w) hg; have GE263 := leA (w := w) hg; replace HB := bS hb; clear hb hbox hg; obtain ⟨_, _, _, _, _, _⟩ := cel3 BK263)); try go_wp2_with (first | ((with_reducible refine gate_dst (N := 2) rfl ?_); refine boxA 2 #[.int .i64 a0_0, .int .i64 a0_1, .int .i64 a0_2] 93 ?_; intro gb263 hg w12 hbox hb; have BK263 := ak hbox; have GW263 := leA (w := w) hg; have GE263 := leA (w := w) hg; replace HB := bS hb; clear hb hbox hg; obtain ⟨_, _, _, _, _, _⟩ := cel3 BK263)))
   go_ret
   exact ⟨xq2, belA⟩
 rw [if_pos c6] at H; have c6b0 := decide_eq_true c6; clear c6; obtain ⟨ji7, hji7⟩ : ∃ j_ : Int, (wrap64 (a1 - 1)) = j_ := ⟨_, rfl⟩; replace H : (if 0 ≤ (ji7) then (some (decide (a0_2 ≤ (shl .i64 1 (ji7))))) else (none)) = some r := by first | (rw [hji7] at H; exact H) | (simp only [hji7] at H ⊢; exact H)
 have hji7w : (IntKind.i64.wrap (a1 - 1)) = ji7 := (i64_w _).trans hji7
 by_cases c8 : 0 ≤ (ji7); rotate_left
 · rw [if_neg c8] at H; exact absurd H (by simp)
 rw [if_pos c8] at H; have c8b0 := eq_true c8; have c8b1 : decide (0 ≤ (ji7)) = true := decide_eq_true c8; clear c8; obtain ⟨ji9, hji9⟩ : ∃ j_ : Int, (shl .i64 1 (ji7)) = j_ := ⟨_, rfl⟩; replace H : (some (decide (a0_2 ≤ (ji9)))) = some r := by first | (rw [hji9] at H; exact H) | (simp only [hji9] at H ⊢; exact H)
 have hji9_ : (IntKind.i64.wrap (1 * 2 ^ min (ji7).toNat 64)) = ji9 := hji9; have hji9z : (ji7) ≤ 64 → (IntKind.i64.wrap (1 * 2 ^ (ji7).toNat)) = ji9 := shl_small hji9; have hji9u : (IntKind.i64.wrap (2 ^ min (ji7).toNat 64)) = ji9 := by have h_ := hji9_; rw [Int.one_mul] at h_; exact h_
 have hji9v : (ji7) ≤ 64 → (IntKind.i64.wrap (2 ^ (ji7).toNat)) = ji9 := fun hle_ => by have h_ := hji9z hle_; rw [Int.one_mul] at h_; exact h_
 have hji9y : (wrap64 (1 * 2 ^ min (ji7).toNat 64)) = ji9 := (i64_w _).symm.trans hji9_; have hji9x : (ji7) ≤ 64 → (wrap64 (1 * 2 ^ (ji7).toNat)) = ji9 := fun h_ => (i64_w _).symm.trans (hji9z h_)
 obtain rfl := Option.some.inj H; go_enter Try.func104, Try.ntmps104
 go_wp2_with (first | ((with_reducible refine gate_dst (N := 2) rfl ?_); refine boxA 2 #[.int .i64 a0_0, .int .i64 a0_1, .int .i64 a0_2] 93 ?_; intro gb263 hg w10 hbox hb; have BK263 := ak hbox; have GW263 := leA (w := w) hg; have GE263 := leA (w := w) hg; replace HB := bS hb; clear hb hbox hg; obtain ⟨_, _, _, _, _, _⟩ := cel3 BK263))
 repeat (go_quiet (first | ((with_reducible refine gate_dst (N := 2) rfl ?_); refine boxA 2 #[.int .i64 a0_0, .int .i64 a0_1, .int .i64 a0_2] 93 ?_; intro gb263 hg w10 hbox hb; have BK263 := ak hbox; have GW263 := leA (w := w) hg; have GE263 := leA (w := w) hg; replace HB := bS hb; clear hb hbox hg; obtain ⟨_, _, _, _, _, _⟩ := cel3 BK263)); try go_wp2_with (first | ((with_reducible refine gate_dst (N := 2) rfl ?_); refine boxA 2 #[.int .i64 a0_0, .int .i64 a0_1, .int .i64 a0_2] 93 ?_; intro gb263 hg w10 hbox hb; have BK263 := ak hbox; have GW263 := leA (w := w) hg; have GE263 := leA (w := w) hg; replace HB := bS hb; clear hb hbox hg; obtain ⟨_, _, _, _, _, _⟩ := cel3 BK263)))
 go_ret
 exact ⟨xq86, belA⟩

end Go.Proofs.Ytogdhclomgafdaa.PFnDealt
