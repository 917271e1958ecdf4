-- Written by a program of this session (the print of the kit with contracts of this session's own added)
import Derived.Test.YtdefnccngnilmaaZFRx6
namespace Go.Proofs.Ytdefnccngnilmaa.PFnResync
open Go.RowKit Go.Proofs.YtdefnccngnilmaaW.PrintWords Go.Proofs.YtdefnccngnilmaaW.PrintLast Go.Proofs.YtdefnccngnilmaaW.PrintMore Go.Proofs.YtdefnccngnilmaaW.PrintPack
attribute [local go_sem] max2_int min2_int max_two min_two max_three min_three max_four min_four   -- for this text's walks alone
set_option linter.unusedVariables false
set_option linter.unusedSimpArgs false

/-! ### spec_PointsOk: function 154 -/
mutual
def spec_PointsOk.j0 : Nat → List Int → Bool → Option (Bool)
 | 0, _, _ => none
 | k + 1, x1, x15 => if x15 = true then (some false) else (spec_PointsOk.l0 k x1 0)
def spec_PointsOk.l0 : Nat → List Int → Int → Option (Bool)
 | 0, _, _ => none
 | k + 1, x1, x5 => if x5 < (x1.length : Int) then (if 0 ≤ x5 then (if x5 ≤ (x1.length : Int) then ((spec_l01Has.f k (x1.take (x5 : Int).toNat) (rd x1 x5)).bind fun t361 => (if t361 = true then (some false) else (spec_PointsOk.l0 k x1 (wrap64 (x5 + 1))))) else (none)) else (none)) else (some true)
end
def spec_PointsOk.f (k : Nat) (a0 : Int) (l1 : List Int) : Option (Bool) := (spec_l01In.f (l1.length : Int) 1 40).bind fun t357 => (if t357 = true then ((spec_l03Elements.f k a0 l1).bind fun t358 => (spec_PointsOk.j0 k l1 (!t358))) else (spec_PointsOk.j0 k l1 true))
theorem spec_PointsOk.mono_l : ∀ k, (∀ y0 y1, LeO (spec_PointsOk.j0 k y0 y1) (spec_PointsOk.j0 (k + 1) y0 y1)) ∧ (∀ y0 y1, LeO (spec_PointsOk.l0 k y0 y1) (spec_PointsOk.l0 (k + 1) y0 y1))
 | 0 => ⟨fun _ _ r h => by simp [spec_PointsOk.j0] at h, fun _ _ r h => by simp [spec_PointsOk.l0] at h⟩
 | k + 1 => by
  obtain ⟨ih0, ih1⟩ := spec_PointsOk.mono_l k; refine ⟨?_, ?_⟩
  · intro y0 y1; unfold spec_PointsOk.j0; exact xq66
  · intro y0 y1; unfold spec_PointsOk.l0; exact xq66
theorem spec_PointsOk.mono : ∀ a0 a1 k, LeO (spec_PointsOk.f k a0 a1) (spec_PointsOk.f (k + 1) a0 a1) := by
 intro a0 a1 k; obtain ⟨ih0, ih1⟩ := spec_PointsOk.mono_l k
 unfold spec_PointsOk.f
 exact xq66
set_option maxHeartbeats 8000000 in
set_option maxRecDepth 100000 in
theorem spec_PointsOk.calls (k : Nat) (a0 : Int) (A1 : Option Addr) (c1 : Nat) (l1 : List Int) (r : Bool) (w : World) (hr1 : Kd.C (Kd.int .i64) w A1 l1.length l1) (hc1 : l1.length ≤ c1) (h : spec_PointsOk.f k a0 l1 = some r) :
 Calls Try.prog 154 #[.int .i64 a0, .slice A1 l1.length c1] w fun e w' => e = .returned (.bool r) ∧ Drawn0 w w' := by
 have HR1 := ak hr1; have HC1 := ak hc1; clear hr1 hc1; have H : ((spec_l01In.f (l1.length : Int) 1 40).bind fun t357 => (if t357 = true then ((spec_l03Elements.f k a0 l1).bind fun t358 => (spec_PointsOk.j0 k l1 (!t358))) else (spec_PointsOk.j0 k l1 true))) = some r := h; clear h; have HC3 := ak H; clear H; go_enter Try.func154, Try.ntmps154
 go_upto_region 1 with (fail)
 repeat (go_quiet (fail); go_upto_region 1 with (fail))
 go_cut [15] (fun v15 wc => ∃ (kq : Nat) (x15_2 : Bool), v15 = .bool x15_2 ∧ Aside0 (spec_PointsOk.j0 kq l1 x15_2 = some r) ∧ Aside0 (kq ≤ k) ∧ Drawn0 w wc)
 case first =>
  have H := HC3.out; clear HC3; replace H := Option.bind_eq_some_iff.mp H; obtain ⟨t357, A40, H⟩ := H; (try dsimp only at H); have A4 := ak A40; clear A40
  by_cases c5 : t357 = true; rotate_left
  · replace c5 := Bool.eq_false_iff.mpr c5; subst c5; have H1 : (spec_PointsOk.j0 k l1 true) = some r := by rw [if_neg (show ¬ (false = true) by decide)] at H; exact H
    clear H; have H := H1; clear H1; have H' := ak H; clear H; go_wp2_with (first | (go_at_call 50; (with_reducible refine (spec_l01In.calls (l1.length : Int) 1 40 false _ A4.out).mono ?_); rintro e w' ⟨rfl, ⟨nd, rfl⟩⟩; (try first | exact ⟨rfl, _, World.drewN_drewN _ _ _⟩ | exact ⟨rfl, _, Eq.trans (World.drewN_drewN _ _ _) (congrArg (World.drewN _) (Nat.add_assoc _ _ _))⟩)))
    repeat (go_quiet (first | (go_at_call 50; (with_reducible refine (spec_l01In.calls (l1.length : Int) 1 40 false _ A4.out).mono ?_); rintro e w' ⟨rfl, ⟨nd, rfl⟩⟩; (try first | exact ⟨rfl, _, World.drewN_drewN _ _ _⟩ | exact ⟨rfl, _, Eq.trans (World.drewN_drewN _ _ _) (congrArg (World.drewN _) (Nat.add_assoc _ _ _))⟩))); try go_wp2_with (first | (go_at_call 50; (with_reducible refine (spec_l01In.calls (l1.length : Int) 1 40 false _ A4.out).mono ?_); rintro e w' ⟨rfl, ⟨nd, rfl⟩⟩; (try first | exact ⟨rfl, _, World.drewN_drewN _ _ _⟩ | exact ⟨rfl, _, Eq.trans (World.drewN_drewN _ _ _) (congrArg (World.drewN _) (Nat.add_assoc _ _ _))⟩))))
    go_meet
    case rel => exact ⟨_, (true), eqA, H', ⟨xq15⟩, xq5⟩
  subst c5; have H1 : ((spec_l03Elements.f k a0 l1).bind fun t358 => (spec_PointsOk.j0 k l1 (!t358))) = some r := by rw [if_pos rfl] at H; exact H
  clear H; have H := H1; clear H1; replace H := Option.bind_eq_some_iff.mp H; obtain ⟨t358, A60, H⟩ := H; (try dsimp only at H); have A6 := ak A60; clear A60; have H' := ak H; clear H; go_wp2_with (first | (go_at_call 50; (with_reducible refine (spec_l01In.calls (l1.length : Int) 1 40 true _ A4.out).mono ?_); rintro e w' ⟨rfl, ⟨nd, rfl⟩⟩; (try first | exact ⟨rfl, _, World.drewN_drewN _ _ _⟩ | exact ⟨rfl, _, Eq.trans (World.drewN_drewN _ _ _) (congrArg (World.drewN _) (Nat.add_assoc _ _ _))⟩)) | (go_at_call 65; (with_reducible refine (spec_l03Elements.calls k a0 _ _ l1 t358 _ ?side1 ?side2 A6.out).mono ?_); (case side1 => exact cA HR1.out); (case side2 => exact HC1.out); rintro e w' ⟨rfl, ⟨nd, rfl⟩⟩; (try first | exact ⟨rfl, _, World.drewN_drewN _ _ _⟩ | exact ⟨rfl, _, Eq.trans (World.drewN_drewN _ _ _) (congrArg (World.drewN _) (Nat.add_assoc _ _ _))⟩)))
  repeat (go_quiet (first | (go_at_call 50; (with_reducible refine (spec_l01In.calls (l1.length : Int) 1 40 true _ A4.out).mono ?_); rintro e w' ⟨rfl, ⟨nd, rfl⟩⟩; (try first | exact ⟨rfl, _, World.drewN_drewN _ _ _⟩ | exact ⟨rfl, _, Eq.trans (World.drewN_drewN _ _ _) (congrArg (World.drewN _) (Nat.add_assoc _ _ _))⟩)) | (go_at_call 65; (with_reducible refine (spec_l03Elements.calls k a0 _ _ l1 t358 _ ?side1 ?side2 A6.out).mono ?_); (case side1 => exact cA HR1.out); (case side2 => exact HC1.out); rintro e w' ⟨rfl, ⟨nd, rfl⟩⟩; (try first | exact ⟨rfl, _, World.drewN_drewN _ _ _⟩ | exact ⟨rfl, _, Eq.trans (World.drewN_drewN _ _ _) (congrArg (World.drewN _) (Nat.add_assoc _ _ _))⟩))); try go_wp2_with (first | (go_at_call 50; (with_reducible refine (spec_l01In.calls (l1.length : Int) 1 40 true _ A4.out).mono ?_); rintro e w' ⟨rfl, ⟨nd, rfl⟩⟩; (try first | exact ⟨rfl, _, World.drewN_drewN _ _ _⟩ | exact ⟨rfl, _, Eq.trans (World.drewN_drewN _ _ _) (congrArg (World.drewN _) (Nat.add_assoc _ _ _))⟩)) | (go_at_call 65; (with_reducible refine (spec_l03Elements.calls k a0 _ _ l1 t358 _ ?side1 ?side2 A6.out).mono ?_); (case side1 => exact cA HR1.out); (case side2 => exact HC1.out); rintro e w' ⟨rfl, ⟨nd, rfl⟩⟩; (try first | exact ⟨rfl, _, World.drewN_drewN _ _ _⟩ | exact ⟨rfl, _, Eq.trans (World.drewN_drewN _ _ _) (congrArg (World.drewN _) (Nat.add_assoc _ _ _))⟩))))
  go_meet
  case rel => exact ⟨_, (!t358), eqA, H', ⟨xq15⟩, xq5⟩
 case rest =>
  clear HC3; obtain ⟨kq, x15_2, rfl, HA, HJ2, ⟨mc2, rfl⟩⟩ := hcut
  cases kq with
  | zero => exact absurd HA.out (by simp [spec_PointsOk.j0])
  | succ kj2 =>
   have H := HA.out; clear HA; simp only [spec_PointsOk.j0] at H
   by_cases c7 : x15_2 = true
   · subst c7; have H1 : (some false) = some r := by rw [if_pos rfl] at H; exact H
     clear H; have H := H1; clear H1; obtain rfl := Option.some.inj H; go_wp2
     repeat (go_quiet (fail); try go_wp2)
     go_ret
     exact ⟨xq8, xq5⟩
   replace c7 := Bool.eq_false_iff.mpr c7; subst c7; have H1 : (spec_PointsOk.l0 kj2 l1 0) = some r := by rw [if_neg (show ¬ (false = true) by decide)] at H; exact H
   clear H; have H := H1; clear H1; have H' := ak H; clear H; go_wp2
   repeat (go_quiet (fail); try go_wp2)
   go_loopg [5] kj2 (fun kq v5 w' => ∃ (x5_2 : Int), v5 = .int .i64 x5_2 ∧ Aside0 (spec_PointsOk.l0 kq l1 x5_2 = some r) ∧ Aside0 (kq ≤ kj2) ∧ Drawn0 w w')
   case atStart => exact ⟨(0), eqA, H', ⟨Nat.le_refl _⟩, xq5⟩
   case round =>
    clear H'; obtain ⟨x5_2, rfl, HA, HK2, ⟨m2, rfl⟩⟩ := hrel
    cases gk with
    | zero => exact absurd HA.out (by simp [spec_PointsOk.l0])
    | succ k2 =>
     have H := HA.out; clear HA; simp only [spec_PointsOk.l0] at H
     by_cases c8 : x5_2 < (l1.length : Int); rotate_left
     · rw [if_neg c8] at H; have c8b0 := decide_eq_false c8; clear c8; obtain rfl := Option.some.inj H; go_wp2
       repeat (go_quiet (fail); try go_wp2)
       go_ret
       exact ⟨xq8, xq5⟩
     rw [if_pos c8] at H; have c8b0 := decide_eq_true c8; clear c8
     by_cases c9 : 0 ≤ x5_2; rotate_left
     · rw [if_neg c9] at H; exact absurd H (by simp)
     rw [if_pos c9] at H; have c9b0 := eq_true c9; have c9b1 : decide (0 ≤ x5_2) = true := decide_eq_true c9; clear c9
     by_cases c10 : x5_2 ≤ (l1.length : Int); rotate_left
     · rw [if_neg c10] at H; exact absurd H (by simp)
     rw [if_pos c10] at H; have c10b0 := eq_true c10; have c10b1 : decide (x5_2 ≤ (l1.length : Int)) = true := decide_eq_true c10; clear c10; replace H := Option.bind_eq_some_iff.mp H; obtain ⟨t361, A110, H⟩ := H; (try dsimp only at H); have A11 := ak A110; clear A110
     by_cases c12 : t361 = true
     · subst c12; have H1 : (some false) = some r := by rw [if_pos rfl] at H; exact H
       clear H; have H := H1; clear H1; obtain rfl := Option.some.inj H; obtain ⟨i013, hi013, _, hsz13, _⟩ := info_parts info3; obtain ⟨hcut13, hA13, hC13⟩ := print_take_of (P := Try.prog) (Value.int .i64) 0 37 3 .i64 Try.underlying37 hi013 hsz13 A1 c1 l1 x5_2 (odA) (odA) HC1.out; have HR359 := ak (Kd.C_of_reads (h1 := fun _ => rfl) (hA13 _ (Kd.reads_of_C HR1.out))); have HC359 := ak hC13; clear hA13 hC13 hi013 hsz13; have p360 : 0 ≤ (x5_2 : Int) := odA; have q360 : x5_2 < (l1.length : Int) := odA; obtain ⟨ad360, e360, hx360_0⟩ := Kd.at_int HR1.out x5_2 p360 q360
       cases e360
       replace p360 := eq_true p360; replace q360 := eq_true q360; have hlT_ := ak (show (x5_2 : Int).toNat = (l1.take (x5_2 : Int).toNat).length by have h1 := of_decide_eq_true c10b1; rw [List.length_take]; omega); go_wp2_with (first | (go_at_call 134; (with_reducible refine (spec_l01Has.calls k2 _ _ (l1.take (x5_2 : Int).toNat) (rd l1 x5_2) true _ ?side1 ?side2 A11.out).mono ?_); (case side1 => exact cA HR359.out); (case side2 => exact HC359.out); rintro e w' ⟨rfl, ⟨nd, rfl⟩⟩; (try first | exact ⟨rfl, _, World.drewN_drewN _ _ _⟩ | exact ⟨rfl, _, Eq.trans (World.drewN_drewN _ _ _) (congrArg (World.drewN _) (Nat.add_assoc _ _ _))⟩)))
       go_region_with (first | (go_at_call 134; rw [hlT_.out]; (with_reducible refine (spec_l01Has.calls k2 _ _ (l1.take (x5_2 : Int).toNat) (rd l1 x5_2) true _ ?side1 ?side2 A11.out).mono ?_); (case side1 => exact cA HR359.out); (case side2 => exact HC359.out); rintro e w' ⟨rfl, ⟨nd, rfl⟩⟩; (try first | exact ⟨rfl, _, World.drewN_drewN _ _ _⟩ | exact ⟨rfl, _, Eq.trans (World.drewN_drewN _ _ _) (congrArg (World.drewN _) (Nat.add_assoc _ _ _))⟩)))
       go_wp2
       go_ret
       exact ⟨xq8, xq5⟩
     replace c12 := Bool.eq_false_iff.mpr c12; subst c12; have H1 : (spec_PointsOk.l0 k2 l1 (wrap64 (x5_2 + 1))) = some r := by rw [if_neg (show ¬ (false = true) by decide)] at H; exact H
     clear H; have H := H1; clear H1; have H' := ak H; clear H; obtain ⟨i014, hi014, _, hsz14, _⟩ := info_parts info3; obtain ⟨hcut14, hA14, hC14⟩ := print_take_of (P := Try.prog) (Value.int .i64) 0 37 3 .i64 Try.underlying37 hi014 hsz14 A1 c1 l1 x5_2 (odA) (odA) HC1.out; have HR359 := ak (Kd.C_of_reads (h1 := fun _ => rfl) (hA14 _ (Kd.reads_of_C HR1.out))); have HC359 := ak hC14; clear hA14 hC14 hi014 hsz14; have p360 : 0 ≤ (x5_2 : Int) := odA; have q360 : x5_2 < (l1.length : Int) := odA; obtain ⟨ad360, e360, hx360_0⟩ := Kd.at_int HR1.out x5_2 p360 q360
     cases e360
     replace p360 := eq_true p360; replace q360 := eq_true q360; have hlT_ := ak (show (x5_2 : Int).toNat = (l1.take (x5_2 : Int).toNat).length by have h1 := of_decide_eq_true c10b1; rw [List.length_take]; omega); go_wp2_with (first | (go_at_call 134; (with_reducible refine (spec_l01Has.calls k2 _ _ (l1.take (x5_2 : Int).toNat) (rd l1 x5_2) false _ ?side1 ?side2 A11.out).mono ?_); (case side1 => exact cA HR359.out); (case side2 => exact HC359.out); rintro e w' ⟨rfl, ⟨nd, rfl⟩⟩; (try first | exact ⟨rfl, _, World.drewN_drewN _ _ _⟩ | exact ⟨rfl, _, Eq.trans (World.drewN_drewN _ _ _) (congrArg (World.drewN _) (Nat.add_assoc _ _ _))⟩)))
     go_region_with (first | (go_at_call 134; rw [hlT_.out]; (with_reducible refine (spec_l01Has.calls k2 _ _ (l1.take (x5_2 : Int).toNat) (rd l1 x5_2) false _ ?side1 ?side2 A11.out).mono ?_); (case side1 => exact cA HR359.out); (case side2 => exact HC359.out); rintro e w' ⟨rfl, ⟨nd, rfl⟩⟩; (try first | exact ⟨rfl, _, World.drewN_drewN _ _ _⟩ | exact ⟨rfl, _, Eq.trans (World.drewN_drewN _ _ _) (congrArg (World.drewN _) (Nat.add_assoc _ _ _))⟩)))
     go_wp2
     go_roundg k2
     case measure => have := HJ2.out; have := HK2.out; omega
     case rel => exact ⟨(wrap64 (x5_2 + 1)), eqA, H', ⟨by have := HJ2.out; have := HK2.out; omega⟩, xq5⟩

/-! ### spec_l07Code: function 152 -/
def spec_l07Code.f (k : Nat) (a0 : Int) (l1 : List Int) (a2 : Int) : Option (Bool) := if (l1.length : Int) ≤ 10 then ((spec_PointsOk.f k a0 l1).bind fun t362 => (if t362 = true then ((spec_l01In.f a2 1 (l1.length : Int)).bind fun t363 => (some t363)) else (some false))) else (some false)
theorem spec_l07Code.mono : ∀ a0 a1 a2 k, LeO (spec_l07Code.f k a0 a1 a2) (spec_l07Code.f (k + 1) a0 a1 a2) := by
 intro a0 a1 a2 k
 unfold spec_l07Code.f
 exact (by repeat' (with_reducible first | exact spec_PointsOk.mono _ _ _ | exact LeO.refl _ | exact LeO.none _ | refine LeO.ite ?_ ?_ | refine LeO.bind ?_ (fun _ => ?_)))
set_option maxHeartbeats 8000000 in
set_option maxRecDepth 100000 in
theorem spec_l07Code.calls (k : Nat) (a0 : Int) (A1 : Option Addr) (c1 : Nat) (l1 : List Int) (a2 : Int) (r : Bool) (w : World) (hr1 : Kd.C (Kd.int .i64) w A1 l1.length l1) (hc1 : l1.length ≤ c1) (h : spec_l07Code.f k a0 l1 a2 = some r) :
 Calls Try.prog 152 #[.int .i64 a0, .slice A1 l1.length c1, .int .i64 a2] w fun e w' => e = .returned (.bool r) ∧ Drawn0 w w' := by
 have HR1 := ak hr1; have HC1 := ak hc1; clear hr1 hc1; have H : (if (l1.length : Int) ≤ 10 then ((spec_PointsOk.f k a0 l1).bind fun t362 => (if t362 = true then ((spec_l01In.f a2 1 (l1.length : Int)).bind fun t363 => (some t363)) else (some false))) else (some false)) = some r := h; clear h
 by_cases c4 : (l1.length : Int) ≤ 10; rotate_left
 · rw [if_neg c4] at H; have c4b0 := decide_eq_false c4; have c4b1 : decide (l1.length ≤ 10) = false := decide_eq_false (by omega); clear c4; obtain rfl := Option.some.inj H; go_enter Try.func152, Try.ntmps152
   go_wp2
   go_ret
   exact ⟨xq8, xq5⟩
 rw [if_pos c4] at H; have c4b0 := decide_eq_true c4; have c4b1 : decide (l1.length ≤ 10) = true := decide_eq_true (by omega); clear c4; replace H := Option.bind_eq_some_iff.mp H; obtain ⟨t362, A50, H⟩ := H; (try dsimp only at H); have A5 := ak A50; clear A50
 by_cases c6 : t362 = true; rotate_left
 · replace c6 := Bool.eq_false_iff.mpr c6; subst c6; have H1 : (some false) = some r := by rw [if_neg (show ¬ (false = true) by decide)] at H; exact H
   clear H; have H := H1; clear H1; obtain rfl := Option.some.inj H; go_enter Try.func152, Try.ntmps152
   go_wp2_with (first | (go_at_call 154; (with_reducible refine (spec_PointsOk.calls k a0 _ _ l1 false _ ?side1 ?side2 A5.out).mono ?_); (case side1 => exact cA HR1.out); (case side2 => exact HC1.out); rintro e w' ⟨rfl, ⟨nd, rfl⟩⟩))
   go_ret
   exact ⟨xq8, xq5⟩
 subst c6; have H1 : ((spec_l01In.f a2 1 (l1.length : Int)).bind fun t363 => (some t363)) = some r := by rw [if_pos rfl] at H; exact H
 clear H; have H := H1; clear H1; replace H := Option.bind_eq_some_iff.mp H; obtain ⟨t363, A70, H⟩ := H; (try dsimp only at H); have A7 := ak A70; clear A70; obtain rfl := Option.some.inj H; go_enter Try.func152, Try.ntmps152
 go_wp2_with (first | (go_at_call 154; (with_reducible refine (spec_PointsOk.calls k a0 _ _ l1 true _ ?side1 ?side2 A5.out).mono ?_); (case side1 => exact cA HR1.out); (case side2 => exact HC1.out); rintro e w' ⟨rfl, ⟨nd, rfl⟩⟩) | (go_at_call 50; (with_reducible refine (spec_l01In.calls a2 1 (l1.length : Int) t363 _ A7.out).mono ?_); rintro e w' ⟨rfl, ⟨nd, rfl⟩⟩))
 go_ret
 exact ⟨xq8, xq5⟩

/-! ### spec_Reduce: function 109 -/
def spec_Reduce.f (a0 : Int) (a1 : Int) : Option (Int) := (spec_Modulus.f a0).bind fun t364 => (if t364 = 0 then (some (-1)) else (if (Int.tmod a1 t364) < 0 then (some (wrap64 ((Int.tmod a1 t364) + t364))) else (some (Int.tmod a1 t364))))
set_option maxHeartbeats 8000000 in
set_option maxRecDepth 100000 in
theorem spec_Reduce.calls (a0 : Int) (a1 : Int) (r : Int) (w : World) (h : spec_Reduce.f a0 a1 = some r) :
 Calls Try.prog 109 #[.int .i64 a0, .int .i64 a1] w fun e w' => e = .returned (.int .i64 r) ∧ Drawn0 w w' := by
 have H : ((spec_Modulus.f a0).bind fun t364 => (if t364 = 0 then (some (-1)) else (if (Int.tmod a1 t364) < 0 then (some (wrap64 ((Int.tmod a1 t364) + t364))) else (some (Int.tmod a1 t364))))) = some r := h; clear h; replace H := Option.bind_eq_some_iff.mp H; obtain ⟨t364, A30, H⟩ := H; (try dsimp only at H); have A3 := ak A30; clear A30
 by_cases c4 : t364 = 0
 · rw [if_pos c4] at H; have c4b0 : (t364 == 0) = true := beq_iff_eq.mpr c4; have c4b1 : (t364 != 0) = false := bne_eq_false_iff_eq.mpr c4; clear c4; obtain rfl := Option.some.inj H; go_enter Try.func109, Try.ntmps109
   go_wp2_with (first | ((with_reducible refine gate_callee (f := 74) rfl ?_); refine goB 8 Try.func74 #[.int .i64 a0] rfl ?_; (with_reducible refine (spec_Modulus.calls a0 t364 _ A3.out).mono ?_); rintro e w' ⟨rfl, ⟨nd, rfl⟩⟩; refine ⟨_, rfl, ?_⟩))
   go_ret
   exact ⟨xq8, xq5⟩
 rw [if_neg c4] at H; have c4b0 : (t364 == 0) = false := beq_eq_false_iff_ne.mpr c4; have c4b1 : (t364 != 0) = true := bne_iff_ne.mpr c4
 by_cases c5 : (Int.tmod a1 t364) < 0
 · rw [if_pos c5] at H; have c5b0 := decide_eq_true c5; clear c5; obtain rfl := Option.some.inj H; go_enter Try.func109, Try.ntmps109
   go_wp2_with (first | ((with_reducible refine gate_callee (f := 74) rfl ?_); refine goB 8 Try.func74 #[.int .i64 a0] rfl ?_; (with_reducible refine (spec_Modulus.calls a0 t364 _ A3.out).mono ?_); rintro e w' ⟨rfl, ⟨nd, rfl⟩⟩; refine ⟨_, rfl, ?_⟩))
   go_ret
   exact ⟨xq8, xq5⟩
 rw [if_neg c5] at H; have c5b0 := decide_eq_false c5; clear c5; obtain rfl := Option.some.inj H; go_enter Try.func109, Try.ntmps109
 go_wp2_with (first | ((with_reducible refine gate_callee (f := 74) rfl ?_); refine goB 8 Try.func74 #[.int .i64 a0] rfl ?_; (with_reducible refine (spec_Modulus.calls a0 t364 _ A3.out).mono ?_); rintro e w' ⟨rfl, ⟨nd, rfl⟩⟩; refine ⟨_, rfl, ?_⟩))
 go_ret
 exact ⟨xq8, xq5⟩

/-! ### spec_Mul: function 66 -/
def spec_Mul.f (a0 : Int) (a1 : Int) (a2 : Int) : Option (Int) := (spec_Modulus.f a0).bind fun t365 => (if t365 = 0 then (some (-1)) else ((spec_Reduce.f a0 a1).bind fun t366 => ((spec_Reduce.f a0 a2).bind fun t367 => ((spec_Reduce.f a0 (wrap64 (t366 * t367))).bind fun t368 => (some t368)))))
set_option maxHeartbeats 8000000 in
set_option maxRecDepth 100000 in
theorem spec_Mul.calls (a0 : Int) (a1 : Int) (a2 : Int) (r : Int) (w : World) (h : spec_Mul.f a0 a1 a2 = some r) :
 Calls Try.prog 66 #[.int .i64 a0, .int .i64 a1, .int .i64 a2] w fun e w' => e = .returned (.int .i64 r) ∧ Drawn0 w w' := by
 have H : ((spec_Modulus.f a0).bind fun t365 => (if t365 = 0 then (some (-1)) else ((spec_Reduce.f a0 a1).bind fun t366 => ((spec_Reduce.f a0 a2).bind fun t367 => ((spec_Reduce.f a0 (wrap64 (t366 * t367))).bind fun t368 => (some t368)))))) = some r := h; clear h; replace H := Option.bind_eq_some_iff.mp H; obtain ⟨t365, A40, H⟩ := H; (try dsimp only at H); have A4 := ak A40; clear A40
 by_cases c5 : t365 = 0
 · rw [if_pos c5] at H; have c5b0 : (t365 == 0) = true := beq_iff_eq.mpr c5; have c5b1 : (t365 != 0) = false := bne_eq_false_iff_eq.mpr c5; clear c5; obtain rfl := Option.some.inj H; go_enter Try.func66, Try.ntmps66
   go_wp2_with (first | ((with_reducible refine gate_callee (f := 74) rfl ?_); refine goB 8 Try.func74 #[.int .i64 a0] rfl ?_; (with_reducible refine (spec_Modulus.calls a0 t365 _ A4.out).mono ?_); rintro e w' ⟨rfl, ⟨nd, rfl⟩⟩; refine ⟨_, rfl, ?_⟩))
   go_ret
   exact ⟨xq8, xq5⟩
 rw [if_neg c5] at H; have c5b0 : (t365 == 0) = false := beq_eq_false_iff_ne.mpr c5; have c5b1 : (t365 != 0) = true := bne_iff_ne.mpr c5; replace H := Option.bind_eq_some_iff.mp H; obtain ⟨t366, A60, H⟩ := H; (try dsimp only at H); have A6 := ak A60; clear A60; replace H := Option.bind_eq_some_iff.mp H; obtain ⟨t367, A70, H⟩ := H; (try dsimp only at H); have A7 := ak A70; clear A70; replace H := Option.bind_eq_some_iff.mp H; obtain ⟨t368, A80, H⟩ := H; (try dsimp only at H); have A8 := ak A80; clear A80; obtain rfl := Option.some.inj H; go_enter Try.func66, Try.ntmps66
 go_wp2_with (first | ((with_reducible refine gate_callee (f := 74) rfl ?_); refine goB 8 Try.func74 #[.int .i64 a0] rfl ?_; (with_reducible refine (spec_Modulus.calls a0 t365 _ A4.out).mono ?_); rintro e w' ⟨rfl, ⟨nd, rfl⟩⟩; refine ⟨_, rfl, ?_⟩) | ((with_reducible refine gate_callee (f := 109) rfl ?_); refine goB 13 Try.func109 #[.int .i64 a0, .int .i64 a1] rfl ?_; (with_reducible refine (spec_Reduce.calls a0 a1 t366 _ A6.out).mono ?_); rintro e w' ⟨rfl, ⟨nd, rfl⟩⟩; refine ⟨_, rfl, ?_⟩) | ((with_reducible refine gate_callee (f := 109) rfl ?_); refine goB 16 Try.func109 #[.int .i64 a0, .int .i64 a2] rfl ?_; (with_reducible refine (spec_Reduce.calls a0 a2 t367 _ A7.out).mono ?_); rintro e w' ⟨rfl, ⟨nd, rfl⟩⟩; refine ⟨_, rfl, ?_⟩) | ((with_reducible refine gate_callee (f := 109) rfl ?_); refine goB 18 Try.func109 #[.int .i64 a0, .int .i64 (wrap64 (t366 * t367))] rfl ?_; (with_reducible refine (spec_Reduce.calls a0 (wrap64 (t366 * t367)) t368 _ A8.out).mono ?_); rintro e w' ⟨rfl, ⟨nd, rfl⟩⟩; refine ⟨_, rfl, ?_⟩))
 go_ret
 exact ⟨xq8, xq5⟩

/-! ### spec_Power: function 106 -/
mutual
def spec_Power.j0 : Nat → Int → Int → Int → Option (Int)
 | 0, _, _, _ => none
 | k + 1, x7, x8, x9 => spec_Power.l0 k x7 x8 x9 1
def spec_Power.l0 : Nat → Int → Int → Int → Int → Option (Int)
 | 0, _, _, _, _ => none
 | k + 1, x7, x8, x9, x10 => if x9 > 0 then (if (Int.tmod x9 2) = 1 then (if x7 = 0 then (none) else (spec_Power.l0 k x7 (Int.tmod (wrap64 (x8 * x8)) x7) (wrap64 (Int.tdiv x9 2)) (Int.tmod (wrap64 (x10 * x8)) x7))) else (if x7 = 0 then (none) else (spec_Power.l0 k x7 (Int.tmod (wrap64 (x8 * x8)) x7) (wrap64 (Int.tdiv x9 2)) x10))) else (some x10)
end
def spec_Power.f (k : Nat) (a0 : Int) (a1 : Int) (a2 : Int) : Option (Int) := (spec_Modulus.f a0).bind fun t369 => (if t369 = 0 then (some (-1)) else ((spec_Reduce.f a0 a1).bind fun t370 => (if t370 = 0 then (if a2 = 0 then (some 1) else (if a2 < 0 then (some (-1)) else (some 0))) else (if (wrap64 (t369 - 1)) = 0 then (none) else (if (Int.tmod a2 (wrap64 (t369 - 1))) < 0 then (spec_Power.j0 k t369 t370 (wrap64 ((wrap64 ((Int.tmod a2 (wrap64 (t369 - 1))) + t369)) - 1))) else (spec_Power.j0 k t369 t370 (Int.tmod a2 (wrap64 (t369 - 1)))))))))
theorem spec_Power.mono_l : ∀ k, (∀ y0 y1 y2, LeO (spec_Power.j0 k y0 y1 y2) (spec_Power.j0 (k + 1) y0 y1 y2)) ∧ (∀ y0 y1 y2 y3, LeO (spec_Power.l0 k y0 y1 y2 y3) (spec_Power.l0 (k + 1) y0 y1 y2 y3))
 | 0 => ⟨fun _ _ _ r h => by simp [spec_Power.j0] at h, fun _ _ _ _ r h => by simp [spec_Power.l0] at h⟩
 | k + 1 => by
  obtain ⟨ih0, ih1⟩ := spec_Power.mono_l k; refine ⟨?_, ?_⟩
  · intro y0 y1 y2; unfold spec_Power.j0; exact xq67
  · intro y0 y1 y2 y3; unfold spec_Power.l0; exact xq67
theorem spec_Power.mono : ∀ a0 a1 a2 k, LeO (spec_Power.f k a0 a1 a2) (spec_Power.f (k + 1) a0 a1 a2) := by
 intro a0 a1 a2 k; obtain ⟨ih0, ih1⟩ := spec_Power.mono_l k
 unfold spec_Power.f
 exact xq67
set_option maxHeartbeats 8000000 in
set_option maxRecDepth 100000 in
theorem spec_Power.calls (k : Nat) (a0 : Int) (a1 : Int) (a2 : Int) (r : Int) (w : World) (h : spec_Power.f k a0 a1 a2 = some r) :
 Calls Try.prog 106 #[.int .i64 a0, .int .i64 a1, .int .i64 a2] w fun e w' => e = .returned (.int .i64 r) ∧ Drawn0 w w' := by
 have H : ((spec_Modulus.f a0).bind fun t369 => (if t369 = 0 then (some (-1)) else ((spec_Reduce.f a0 a1).bind fun t370 => (if t370 = 0 then (if a2 = 0 then (some 1) else (if a2 < 0 then (some (-1)) else (some 0))) else (if (wrap64 (t369 - 1)) = 0 then (none) else (if (Int.tmod a2 (wrap64 (t369 - 1))) < 0 then (spec_Power.j0 k t369 t370 (wrap64 ((wrap64 ((Int.tmod a2 (wrap64 (t369 - 1))) + t369)) - 1))) else (spec_Power.j0 k t369 t370 (Int.tmod a2 (wrap64 (t369 - 1)))))))))) = some r := h; clear h; replace H := Option.bind_eq_some_iff.mp H; obtain ⟨t369, A40, H⟩ := H; (try dsimp only at H); have A4 := ak A40; clear A40
 by_cases c5 : t369 = 0
 · rw [if_pos c5] at H; have c5b0 : (t369 == 0) = true := beq_iff_eq.mpr c5; have c5b1 : (t369 != 0) = false := bne_eq_false_iff_eq.mpr c5; clear c5; obtain rfl := Option.some.inj H; go_enter Try.func106, Try.ntmps106
   go_wp2_with (first | ((with_reducible refine gate_callee (f := 74) rfl ?_); refine goB 12 Try.func74 #[.int .i64 a0] rfl ?_; (with_reducible refine (spec_Modulus.calls a0 t369 _ A4.out).mono ?_); rintro e w' ⟨rfl, ⟨nd, rfl⟩⟩; refine ⟨_, rfl, ?_⟩))
   go_ret
   exact ⟨xq8, xq5⟩
 rw [if_neg c5] at H; have c5b0 : (t369 == 0) = false := beq_eq_false_iff_ne.mpr c5; have c5b1 : (t369 != 0) = true := bne_iff_ne.mpr c5; replace H := Option.bind_eq_some_iff.mp H; obtain ⟨t370, A60, H⟩ := H; (try dsimp only at H); have A6 := ak A60; clear A60
 by_cases c7 : t370 = 0
 · rw [if_pos c7] at H; have c7b0 : (t370 == 0) = true := beq_iff_eq.mpr c7; have c7b1 : (t370 != 0) = false := bne_eq_false_iff_eq.mpr c7; clear c7
   by_cases c8 : a2 = 0
   · rw [if_pos c8] at H; have c8b0 : (a2 == 0) = true := beq_iff_eq.mpr c8; have c8b1 : (a2 != 0) = false := bne_eq_false_iff_eq.mpr c8; clear c8; obtain rfl := Option.some.inj H; go_enter Try.func106, Try.ntmps106
     go_wp2_with (first | ((with_reducible refine gate_callee (f := 74) rfl ?_); refine goB 12 Try.func74 #[.int .i64 a0] rfl ?_; (with_reducible refine (spec_Modulus.calls a0 t369 _ A4.out).mono ?_); rintro e w' ⟨rfl, ⟨nd, rfl⟩⟩; refine ⟨_, rfl, ?_⟩) | ((with_reducible refine gate_callee (f := 109) rfl ?_); refine goB 17 Try.func109 #[.int .i64 a0, .int .i64 a1] rfl ?_; (with_reducible refine (spec_Reduce.calls a0 a1 t370 _ A6.out).mono ?_); rintro e w' ⟨rfl, ⟨nd, rfl⟩⟩; refine ⟨_, rfl, ?_⟩))
     go_ret
     exact ⟨xq8, xq5⟩
   rw [if_neg c8] at H; have c8b0 : (a2 == 0) = false := beq_eq_false_iff_ne.mpr c8; have c8b1 : (a2 != 0) = true := bne_iff_ne.mpr c8
   by_cases c9 : a2 < 0
   · rw [if_pos c9] at H; have c9b0 := decide_eq_true c9; clear c9; obtain rfl := Option.some.inj H; go_enter Try.func106, Try.ntmps106
     go_wp2_with (first | ((with_reducible refine gate_callee (f := 74) rfl ?_); refine goB 12 Try.func74 #[.int .i64 a0] rfl ?_; (with_reducible refine (spec_Modulus.calls a0 t369 _ A4.out).mono ?_); rintro e w' ⟨rfl, ⟨nd, rfl⟩⟩; refine ⟨_, rfl, ?_⟩) | ((with_reducible refine gate_callee (f := 109) rfl ?_); refine goB 17 Try.func109 #[.int .i64 a0, .int .i64 a1] rfl ?_; (with_reducible refine (spec_Reduce.calls a0 a1 t370 _ A6.out).mono ?_); rintro e w' ⟨rfl, ⟨nd, rfl⟩⟩; refine ⟨_, rfl, ?_⟩))
     go_ret
     exact ⟨xq8, xq5⟩
   rw [if_neg c9] at H; have c9b0 := decide_eq_false c9; clear c9; obtain rfl := Option.some.inj H; go_enter Try.func106, Try.ntmps106
   go_wp2_with (first | ((with_reducible refine gate_callee (f := 74) rfl ?_); refine goB 12 Try.func74 #[.int .i64 a0] rfl ?_; (with_reducible refine (spec_Modulus.calls a0 t369 _ A4.out).mono ?_); rintro e w' ⟨rfl, ⟨nd, rfl⟩⟩; refine ⟨_, rfl, ?_⟩) | ((with_reducible refine gate_callee (f := 109) rfl ?_); refine goB 17 Try.func109 #[.int .i64 a0, .int .i64 a1] rfl ?_; (with_reducible refine (spec_Reduce.calls a0 a1 t370 _ A6.out).mono ?_); rintro e w' ⟨rfl, ⟨nd, rfl⟩⟩; refine ⟨_, rfl, ?_⟩))
   go_ret
   exact ⟨xq8, xq5⟩
 rw [if_neg c7] at H; have c7b0 : (t370 == 0) = false := beq_eq_false_iff_ne.mpr c7; have c7b1 : (t370 != 0) = true := bne_iff_ne.mpr c7
 by_cases c10 : (wrap64 (t369 - 1)) = 0
 · rw [if_pos c10] at H; exact absurd H (by simp)
 rw [if_neg c10] at H; have c10b0 : ((wrap64 (t369 - 1)) == 0) = false := beq_eq_false_iff_ne.mpr c10; have c10b1 : ((wrap64 (t369 - 1)) != 0) = true := bne_iff_ne.mpr c10; have HC11 := ak H; clear H; go_enter Try.func106, Try.ntmps106
 go_upto_if 29 with (first | ((with_reducible refine gate_callee (f := 74) rfl ?_); refine goB 12 Try.func74 #[.int .i64 a0] rfl ?_; (with_reducible refine (spec_Modulus.calls a0 t369 _ A4.out).mono ?_); rintro e w' ⟨rfl, ⟨nd, rfl⟩⟩; refine ⟨_, rfl, ?_⟩) | ((with_reducible refine gate_callee (f := 109) rfl ?_); refine goB 17 Try.func109 #[.int .i64 a0, .int .i64 a1] rfl ?_; (with_reducible refine (spec_Reduce.calls a0 a1 t370 _ A6.out).mono ?_); rintro e w' ⟨rfl, ⟨nd, rfl⟩⟩; refine ⟨_, rfl, ?_⟩))
 (try simp only [Act.put, sa, sb, sc])
 go_cut [9] (fun v9 wc => ∃ (kq : Nat) (x9_10 : Int), v9 = .int .i64 x9_10 ∧ Aside0 (spec_Power.j0 kq t369 t370 x9_10 = some r) ∧ Aside0 (kq ≤ k) ∧ Drawn0 w wc)
 case first =>
  have H := HC11.out; clear HC11
  by_cases c12 : (Int.tmod a2 (wrap64 (t369 - 1))) < 0; rotate_left
  · rw [if_neg c12] at H; have c12b0 := decide_eq_false c12; have c12b0w : decide ((Int.tmod a2 (IntKind.i64.wrap (t369 - 1))) < 0) = false := by simp only [i64_w]; exact c12b0
    clear c12; (first | rw [c12b0] | (simp only [i64_w, i32_w]; rw [c12b0]) | skip)
    have H' := ak H; clear H; go_wp2
    go_meet
    case rel => exact ⟨_, (Int.tmod a2 (wrap64 (t369 - 1))), eqA, H', ⟨xq15⟩, xq5⟩
  rw [if_pos c12] at H; have c12b0 := decide_eq_true c12; have c12b0w : decide ((Int.tmod a2 (IntKind.i64.wrap (t369 - 1))) < 0) = true := by simp only [i64_w]; exact c12b0
  clear c12; (first | rw [c12b0] | (simp only [i64_w, i32_w]; rw [c12b0]) | skip)
  have H' := ak H; clear H; go_wp2
  go_meet
  case rel => exact ⟨_, (wrap64 ((wrap64 ((Int.tmod a2 (wrap64 (t369 - 1))) + t369)) - 1)), eqA, H', ⟨xq15⟩, xq5⟩
 case rest =>
  clear HC11; obtain ⟨kq, x9_10, rfl, HA, HJ10, ⟨mc10, rfl⟩⟩ := hcut
  cases kq with
  | zero => exact absurd HA.out (by simp [spec_Power.j0])
  | succ kj10 =>
   have H := HA.out; clear HA; simp only [spec_Power.j0] at H; have H' := ak H; clear H; go_wp2
   go_loopg [8, 9, 10] kj10 (fun kq v8 v9 v10 w' => ∃ (x8_2 : Int) (x9_2 : Int) (x10_2 : Int), v8 = .int .i64 x8_2 ∧ v9 = .int .i64 x9_2 ∧ v10 = .int .i64 x10_2 ∧ Aside0 (spec_Power.l0 kq t369 x8_2 x9_2 x10_2 = some r) ∧ Aside0 (kq ≤ kj10) ∧ Drawn0 w w')
   case atStart => exact ⟨(t370), (x9_10), (1), eqA, eqA, eqA, H', ⟨Nat.le_refl _⟩, xq5⟩
   case round =>
    clear H'; obtain ⟨x8_2, x9_2, x10_2, rfl, rfl, rfl, HA, HK2, ⟨m2, rfl⟩⟩ := hrel
    cases gk with
    | zero => exact absurd HA.out (by simp [spec_Power.l0])
    | succ k2 =>
     have H := HA.out; clear HA; simp only [spec_Power.l0] at H
     by_cases c13 : x9_2 > 0; rotate_left
     · rw [if_neg c13] at H; have c13b0 : decide (0 < x9_2) = false := decide_eq_false c13; clear c13; obtain rfl := Option.some.inj H; go_wp2
       go_ret
       exact ⟨xq8, xq5⟩
     rw [if_pos c13] at H; have c13b0 : decide (0 < x9_2) = true := decide_eq_true c13; clear c13
     by_cases c14 : (Int.tmod x9_2 2) = 1; rotate_left
     · rw [if_neg c14] at H; have c14b0 : ((Int.tmod x9_2 2) == 1) = false := beq_eq_false_iff_ne.mpr c14; have c14b1 : ((Int.tmod x9_2 2) != 1) = true := bne_iff_ne.mpr c14
       by_cases c16 : t369 = 0
       · rw [if_pos c16] at H; exact absurd H (by simp)
       rw [if_neg c16] at H; have c16b0 : (t369 == 0) = false := beq_eq_false_iff_ne.mpr c16; have c16b1 : (t369 != 0) = true := bne_iff_ne.mpr c16; have H' := ak H; clear H; go_wp2
       go_roundg k2
       case measure => have := HJ10.out; have := HK2.out; omega
       case rel => exact ⟨(Int.tmod (wrap64 (x8_2 * x8_2)) t369), (wrap64 (Int.tdiv x9_2 2)), (x10_2), eqA, eqA, eqA, H', ⟨by have := HJ10.out; have := HK2.out; omega⟩, xq5⟩
     rw [if_pos c14] at H; have c14b0 : ((Int.tmod x9_2 2) == 1) = true := beq_iff_eq.mpr c14; have c14b1 : ((Int.tmod x9_2 2) != 1) = false := bne_eq_false_iff_eq.mpr c14; clear c14
     by_cases c15 : t369 = 0
     · rw [if_pos c15] at H; exact absurd H (by simp)
     rw [if_neg c15] at H; have c15b0 : (t369 == 0) = false := beq_eq_false_iff_ne.mpr c15; have c15b1 : (t369 != 0) = true := bne_iff_ne.mpr c15; have H' := ak H; clear H; go_wp2
     go_roundg k2
     case measure => have := HJ10.out; have := HK2.out; omega
     case rel => exact ⟨(Int.tmod (wrap64 (x8_2 * x8_2)) t369), (wrap64 (Int.tdiv x9_2 2)), (Int.tmod (wrap64 (x10_2 * x8_2)) t369), eqA, eqA, eqA, H', ⟨by have := HJ10.out; have := HK2.out; omega⟩, xq5⟩

/-! ### spec_PolyOk: function 155 -/
def spec_PolyOk.f (k : Nat) (a0 : Int) (l1 : List Int) : Option (Bool) := if (l1.length : Int) > 400 then (some false) else ((spec_l03Elements.f k a0 l1).bind fun t371 => (if t371 = true then (if (l1.length : Int) = 0 then (some true) else (if 0 ≤ (wrap64 ((l1.length : Int) - 1)) then (if (wrap64 ((l1.length : Int) - 1)) < (l1.length : Int) then (some ((rd l1 (wrap64 ((l1.length : Int) - 1))) != 0)) else (none)) else (none))) else (some false)))
theorem spec_PolyOk.mono : ∀ a0 a1 k, LeO (spec_PolyOk.f k a0 a1) (spec_PolyOk.f (k + 1) a0 a1) := by
 intro a0 a1 k
 unfold spec_PolyOk.f
 exact (by repeat' (with_reducible first | exact spec_l03Elements.mono _ _ _ | exact LeO.refl _ | exact LeO.none _ | refine LeO.ite ?_ ?_ | refine LeO.bind ?_ (fun _ => ?_)))
set_option maxHeartbeats 8000000 in
set_option maxRecDepth 100000 in
theorem spec_PolyOk.calls (k : Nat) (a0 : Int) (A1 : Option Addr) (c1 : Nat) (l1 : List Int) (r : Bool) (w : World) (hr1 : Kd.C (Kd.int .i64) w A1 l1.length l1) (hc1 : l1.length ≤ c1) (h : spec_PolyOk.f k a0 l1 = some r) :
 Calls Try.prog 155 #[.int .i64 a0, .slice A1 l1.length c1] w fun e w' => e = .returned (.bool r) ∧ Drawn0 w w' := by
 have HR1 := ak hr1; have HC1 := ak hc1; clear hr1 hc1; have H : (if (l1.length : Int) > 400 then (some false) else ((spec_l03Elements.f k a0 l1).bind fun t371 => (if t371 = true then (if (l1.length : Int) = 0 then (some true) else (if 0 ≤ (wrap64 ((l1.length : Int) - 1)) then (if (wrap64 ((l1.length : Int) - 1)) < (l1.length : Int) then (some ((rd l1 (wrap64 ((l1.length : Int) - 1))) != 0)) else (none)) else (none))) else (some false)))) = some r := h; clear h
 by_cases c3 : (l1.length : Int) > 400
 · rw [if_pos c3] at H; have c3b0 : decide (400 < (l1.length : Int)) = true := decide_eq_true c3; have c3b1 : decide (400 < l1.length) = true := decide_eq_true (by omega); clear c3; obtain rfl := Option.some.inj H; go_enter Try.func155, Try.ntmps155
   go_wp2
   go_ret
   exact ⟨xq8, xq5⟩
 rw [if_neg c3] at H; have c3b0 : decide (400 < (l1.length : Int)) = false := decide_eq_false c3; have c3b1 : decide (400 < l1.length) = false := decide_eq_false (by omega); clear c3; replace H := Option.bind_eq_some_iff.mp H; obtain ⟨t371, A40, H⟩ := H; (try dsimp only at H); have A4 := ak A40; clear A40
 by_cases c5 : t371 = true; rotate_left
 · replace c5 := Bool.eq_false_iff.mpr c5; subst c5; have H1 : (some false) = some r := by rw [if_neg (show ¬ (false = true) by decide)] at H; exact H
   clear H; have H := H1; clear H1; obtain rfl := Option.some.inj H; go_enter Try.func155, Try.ntmps155
   go_wp2_with (first | (go_at_call 65; (with_reducible refine (spec_l03Elements.calls k a0 _ _ l1 false _ ?side1 ?side2 A4.out).mono ?_); (case side1 => exact cA HR1.out); (case side2 => exact HC1.out); rintro e w' ⟨rfl, ⟨nd, rfl⟩⟩))
   go_ret
   exact ⟨xq8, xq5⟩
 subst c5; have H1 : (if (l1.length : Int) = 0 then (some true) else (if 0 ≤ (wrap64 ((l1.length : Int) - 1)) then (if (wrap64 ((l1.length : Int) - 1)) < (l1.length : Int) then (some ((rd l1 (wrap64 ((l1.length : Int) - 1))) != 0)) else (none)) else (none))) = some r := by rw [if_pos rfl] at H; exact H
 clear H; have H := H1; clear H1
 by_cases c6 : (l1.length : Int) = 0
 · rw [if_pos c6] at H; have c6b0 : ((l1.length : Int) == 0) = true := beq_iff_eq.mpr c6; have c6b1 : ((l1.length : Int) != 0) = false := bne_eq_false_iff_eq.mpr c6; clear c6; obtain rfl := Option.some.inj H; go_enter Try.func155, Try.ntmps155
   go_wp2_with (first | (go_at_call 65; (with_reducible refine (spec_l03Elements.calls k a0 _ _ l1 true _ ?side1 ?side2 A4.out).mono ?_); (case side1 => exact cA HR1.out); (case side2 => exact HC1.out); rintro e w' ⟨rfl, ⟨nd, rfl⟩⟩))
   go_ret
   exact ⟨xq8, xq5⟩
 rw [if_neg c6] at H; have c6b0 : ((l1.length : Int) == 0) = false := beq_eq_false_iff_ne.mpr c6; have c6b1 : ((l1.length : Int) != 0) = true := bne_iff_ne.mpr c6; have c6b2 : ¬ (l1 = []) := fun h_ => c6 (by rw [h_]; rfl)
 obtain ⟨ji7, hji7⟩ : ∃ j_ : Int, (wrap64 ((l1.length : Int) - 1)) = j_ := ⟨_, rfl⟩; replace H : (if 0 ≤ (ji7) then (if (ji7) < (l1.length : Int) then (some ((rd l1 (ji7)) != 0)) else (none)) else (none)) = some r := by first | (rw [hji7] at H; exact H) | (simp only [hji7] at H ⊢; exact H)
 (try rw [hji7] at A4)
 have hji7w : (IntKind.i64.wrap ((l1.length : Int) - 1)) = ji7 := (i64_w _).trans hji7
 by_cases c8 : 0 ≤ (ji7); rotate_left
 · rw [if_neg c8] at H; exact absurd H (by simp)
 rw [if_pos c8] at H; have c8b0 := decide_eq_true c8; clear c8
 by_cases c9 : (ji7) < (l1.length : Int); rotate_left
 · rw [if_neg c9] at H; exact absurd H (by simp)
 rw [if_pos c9] at H; have c9b0 := decide_eq_true c9; clear c9; obtain rfl := Option.some.inj H; go_enter Try.func155, Try.ntmps155
 go_wp2_with (first | (go_at_call 65; (with_reducible refine (spec_l03Elements.calls k a0 _ _ l1 true _ ?side1 ?side2 A4.out).mono ?_); (case side1 => exact cA HR1.out); (case side2 => exact HC1.out); rintro e w' ⟨rfl, ⟨nd, rfl⟩⟩; have p372 : 0 ≤ ((ji7) : Int) := odA; have q372 : (ji7) < (l1.length : Int) := odA; obtain ⟨ad372, e372, hx372_0⟩ := Kd.at_int HR1.out (ji7) p372 q372; cases e372; replace p372 := eq_true p372; replace q372 := eq_true q372))
 go_ret
 exact ⟨by first | rfl | (simp; done) | (simp only [← hji7] <;> (first | rfl | simp)) | (simp [*]; done), xq5⟩

/-! ### spec_Add: function 156 -/
def spec_Add.f (a0 : Int) (a1 : Int) (a2 : Int) : Option (Int) := (spec_Modulus.f a0).bind fun t373 => (if t373 = 0 then (some (-1)) else ((spec_Reduce.f a0 a1).bind fun t374 => ((spec_Reduce.f a0 a2).bind fun t375 => ((spec_Reduce.f a0 (wrap64 (t374 + t375))).bind fun t376 => (some t376)))))
set_option maxHeartbeats 8000000 in
set_option maxRecDepth 100000 in
theorem spec_Add.calls (a0 : Int) (a1 : Int) (a2 : Int) (r : Int) (w : World) (h : spec_Add.f a0 a1 a2 = some r) :
 Calls Try.prog 156 #[.int .i64 a0, .int .i64 a1, .int .i64 a2] w fun e w' => e = .returned (.int .i64 r) ∧ Drawn0 w w' := by
 have H : ((spec_Modulus.f a0).bind fun t373 => (if t373 = 0 then (some (-1)) else ((spec_Reduce.f a0 a1).bind fun t374 => ((spec_Reduce.f a0 a2).bind fun t375 => ((spec_Reduce.f a0 (wrap64 (t374 + t375))).bind fun t376 => (some t376)))))) = some r := h; clear h; replace H := Option.bind_eq_some_iff.mp H; obtain ⟨t373, A40, H⟩ := H; (try dsimp only at H); have A4 := ak A40; clear A40
 by_cases c5 : t373 = 0
 · rw [if_pos c5] at H; have c5b0 : (t373 == 0) = true := beq_iff_eq.mpr c5; have c5b1 : (t373 != 0) = false := bne_eq_false_iff_eq.mpr c5; clear c5; obtain rfl := Option.some.inj H; go_enter Try.func156, Try.ntmps156
   go_wp2_with (first | ((with_reducible refine gate_callee (f := 74) rfl ?_); refine goB 8 Try.func74 #[.int .i64 a0] rfl ?_; (with_reducible refine (spec_Modulus.calls a0 t373 _ A4.out).mono ?_); rintro e w' ⟨rfl, ⟨nd, rfl⟩⟩; refine ⟨_, rfl, ?_⟩))
   go_ret
   exact ⟨xq8, xq5⟩
 rw [if_neg c5] at H; have c5b0 : (t373 == 0) = false := beq_eq_false_iff_ne.mpr c5; have c5b1 : (t373 != 0) = true := bne_iff_ne.mpr c5; replace H := Option.bind_eq_some_iff.mp H; obtain ⟨t374, A60, H⟩ := H; (try dsimp only at H); have A6 := ak A60; clear A60; replace H := Option.bind_eq_some_iff.mp H; obtain ⟨t375, A70, H⟩ := H; (try dsimp only at H); have A7 := ak A70; clear A70; replace H := Option.bind_eq_some_iff.mp H; obtain ⟨t376, A80, H⟩ := H; (try dsimp only at H); have A8 := ak A80; clear A80; obtain rfl := Option.some.inj H; go_enter Try.func156, Try.ntmps156
 go_wp2_with (first | ((with_reducible refine gate_callee (f := 74) rfl ?_); refine goB 8 Try.func74 #[.int .i64 a0] rfl ?_; (with_reducible refine (spec_Modulus.calls a0 t373 _ A4.out).mono ?_); rintro e w' ⟨rfl, ⟨nd, rfl⟩⟩; refine ⟨_, rfl, ?_⟩) | ((with_reducible refine gate_callee (f := 109) rfl ?_); refine goB 13 Try.func109 #[.int .i64 a0, .int .i64 a1] rfl ?_; (with_reducible refine (spec_Reduce.calls a0 a1 t374 _ A6.out).mono ?_); rintro e w' ⟨rfl, ⟨nd, rfl⟩⟩; refine ⟨_, rfl, ?_⟩) | ((with_reducible refine gate_callee (f := 109) rfl ?_); refine goB 16 Try.func109 #[.int .i64 a0, .int .i64 a2] rfl ?_; (with_reducible refine (spec_Reduce.calls a0 a2 t375 _ A7.out).mono ?_); rintro e w' ⟨rfl, ⟨nd, rfl⟩⟩; refine ⟨_, rfl, ?_⟩) | ((with_reducible refine gate_callee (f := 109) rfl ?_); refine goB 18 Try.func109 #[.int .i64 a0, .int .i64 (wrap64 (t374 + t375))] rfl ?_; (with_reducible refine (spec_Reduce.calls a0 (wrap64 (t374 + t375)) t376 _ A8.out).mono ?_); rintro e w' ⟨rfl, ⟨nd, rfl⟩⟩; refine ⟨_, rfl, ?_⟩))
 go_ret
 exact ⟨xq8, xq5⟩

end Go.Proofs.Ytdefnccngnilmaa.PFnResync
