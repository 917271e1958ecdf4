-- Written by a program of this session (the print of the kit with contracts of this session's own added)
import Derived.Test.YtbojabmpcfclhaaZFEPJx11
set_option maxHeartbeats 8000000
set_option maxRecDepth 100000
namespace Go.Proofs.Ytbojabmpcfclhaa.PFnExactPackJobs
open Go.RowKit Go.Proofs.YtbojabmpcfclhaaW.PrintWords Go.Proofs.YtbojabmpcfclhaaW.PrintLast Go.Proofs.YtbojabmpcfclhaaW.PrintMore Go.Proofs.YtbojabmpcfclhaaW.PrintPack Go.Proofs.YtbojabmpcfclhaaW.PrintPack
set_option linter.unusedVariables false
set_option linter.unusedSimpArgs false

def laws_markByteS.l0 : Nat → List Int → Int → Int → Option (Int × List Int)
 | 0, _, _, _ => none
 | k + 1, x0, x1, x5 => if x5 < (x0.length : Int) then (if 0 ≤ x5 then (laws_markByteS.l0 k (x0.set (x5 : Int).toNat ((x1) % 256)) (wrap64 (x1 + 1)) (wrap64 (x5 + 1))) else (none)) else (some (x1, x0))
def laws_markByteS.f (k : Nat) (l0 : List Int) (a1 : Int) : Option (Int × List Int) := laws_markByteS.l0 k l0 a1 0
theorem laws_markByteS.mono_l : ∀ k, (∀ y0 y1 y2, LeO (laws_markByteS.l0 k y0 y1 y2) (laws_markByteS.l0 (k + 1) y0 y1 y2))
 | 0 => fun _ _ _ r h => by simp [laws_markByteS.l0] at h
 | k + 1 => by
  have ih0 := laws_markByteS.mono_l k
  · intro y0 y1 y2; unfold laws_markByteS.l0; exact xq5
theorem laws_markByteS.mono : ∀ a0 a1 k, LeO (laws_markByteS.f k a0 a1) (laws_markByteS.f (k + 1) a0 a1) := by
 intro a0 a1 k; have ih0 := laws_markByteS.mono_l k
 unfold laws_markByteS.f
 exact xq5
theorem laws_markByteS.calls (k : Nat) (P0_ : Nat → Prop) (u9000_ : Value) (l0 : List Int) (a1 : Int) (r1 : Int) (r2 : List Int) (w0 w : World) (hB : Below w0.heap.size w0 w) (ho0 : Kd.R (Kd.int .u8) 5 w w0.heap.size P0_ u9000_ l0) (h : laws_markByteS.f k l0 a1 = some (r1, r2)) :
 Calls Try.prog 28 #[u9000_, .int .i64 a1] w fun e w' => e = .returned (.int .i64 r1) ∧ Kd.R (Kd.int .u8) 5 w' w0.heap.size (fun k_ => (P0_ k_ ∨ w.heap.size ≤ k_)) u9000_ r2 ∧ Below w0.heap.size w0 w' ∧ Kept w w' (fun k_ => P0_ k_) := by
 have HO0 := ak (show Kd.R (Kd.int .u8) 5 w w0.heap.size (fun k_ => (P0_ k_ ∨ w.heap.size ≤ k_)) u9000_ l0 from Kd.R_mono ho0 (fun k_ hk => (.inl hk))); have HK := ak (Kept.refl w (fun k_ => P0_ k_)); have HW0 := ak hB.size; have HB := ak hB; clear hB; have H : (laws_markByteS.l0 k l0 a1 0) = some (r1, r2) := h; clear h; have H' := ak H; clear H; go_enter Try.func28, Try.ntmps28
 go_wp2
 go_loopg [1, 5] k (fun kq v1 v5 w' => ∃ (x0_1 : List Int) (x1_1 : Int) (x5_1 : Int), v1 = .int .i64 x1_1 ∧ v5 = .int .i64 x5_1 ∧ Aside0 (laws_markByteS.l0 kq x0_1 x1_1 x5_1 = some (r1, r2)) ∧ Aside0 (kq ≤ k) ∧ Aside0 (Kd.R (Kd.int .u8) 5 w' w0.heap.size (fun k_ => (P0_ k_ ∨ w.heap.size ≤ k_)) u9000_ x0_1) ∧ Aside0 (Kept w w' (fun k_ => P0_ k_)) ∧ Aside0 (Below w0.heap.size w0 w'))
 case atStart => exact ⟨(l0), (a1), (0), eqA, eqA, H', ⟨Nat.le_refl _⟩, ⟨rA HO0⟩, ⟨kdA⟩, ⟨belA⟩⟩
 case round =>
  clear H'; obtain ⟨x0_1, x1_1, x5_1, rfl, rfl, HA, HK1, HO_0, HK, HB⟩ := hrel
  cases gk with
  | zero => exact absurd HA.out (by simp [laws_markByteS.l0])
  | succ k1 =>
   have H := HA.out; clear HA; simp only [laws_markByteS.l0] at H
   by_cases c3 : x5_1 < (x0_1.length : Int); rotate_left
   · rw [if_neg c3] at H; have c3b0 := decide_eq_false c3; clear c3; simp only [Option.some.injEq, Prod.mk.injEq] at H; obtain ⟨rfl, rfl⟩ := H; obtain ⟨Ao9, co9, eo9⟩ := Kd.R_slice HO_0.out; subst eo9; go_wp2
     go_ret
     exact ⟨xq1, xq17, belA, xq18⟩
   rw [if_pos c3] at H; have c3b0 := decide_eq_true c3; clear c3
   by_cases c4 : 0 ≤ x5_1; rotate_left
   · rw [if_neg c4] at H; exact absurd H (by simp)
   rw [if_pos c4] at H; have c4b0 := decide_eq_true c4; clear c4; obtain ⟨y374, hyq⟩ : ∃ y_ : List Int, y_ = (x0_1.set (x5_1 : Int).toNat ((x1_1) % 256)) := ⟨_, rfl⟩; replace H : (laws_markByteS.l0 k1 y374 (wrap64 (x1_1 + 1)) (wrap64 (x5_1 + 1))) = some (r1, r2) := by first | (rw [hyq]; with_reducible exact H) | (have H2_ := (Option.bind_some _ _).symm.trans H; rw [hyq]; with_reducible exact H2_) | (have H2_ := (Option.bind_some _ _).symm.trans H; with_reducible exact H2_) | with_reducible exact H | (rw [hyq]; exact H) | exact H
   have Ny374 := ak hyq; clear hyq; have H' := ak H; clear H; obtain ⟨Ao6, co6, eo6⟩ := Kd.R_slice HO_0.out; subst eo6; have p5 : 0 ≤ (x5_1 : Int) := odA; have q5 : (x5_1 : Int) < ((x0_1.length : Int) : Int) := odA; obtain ⟨go5, co5, eo5, gb5, gl5, cl5, HG5⟩ := Kd.R_form HO_0.out (by omega); (first | cases eo5 | (injection eo5 with ea_ en_ ec_; (first | subst ea_ | (injection ea_ with ea_; subst ea_)); subst ec_; clear en_))
   have GB5 := ak gb5; have GG5 := ak HG5; clear gb5 gl5 HG5; have HMgo5 := ak (show (P0_ go5 ∨ w.heap.size ≤ go5) from (HO_0.out.1 _ rfl)); obtain ⟨hx5_0, hf5_0⟩ := Kd.R_celln 0 HO_0.out (x5_1 : Int) p5 q5; replace p5 := eq_true p5; replace q5 := eq_true q5; have HP7 := Kd.R_putg HO_0.out (x5_1 : Int) ((x1_1) % 256); go_wp2_with (first | ((with_reducible refine gate_store (t := 5) (p := 16) rfl ?_); refine store_event (t := 5) (p := 16) (v := ?vo_w8) (w1 := (wr.setCell ⟨go5, (x5_1 : Int).toNat, none⟩ (.int .u8 ((x1_1) % 256)))) ?hg ?ho ?hn ?hr ?_; (case ho => rfl); (case hg => rfl); (case hn => rfl); (case hr => exact xq4); intro w8 hw; have hg : wr.grownBy w8 (some go5) := (by rw [hw]; exact HP7.2); have hp_ : Kd.R (Kd.int .u8) 5 w8 w0.heap.size (fun k_ => (P0_ k_ ∨ w.heap.size ≤ k_)) (.slice (some ⟨go5, 0, none⟩) x0_1.length co6) y374 := (by rw [hw, Ny374.out]; exact HP7.1); clear HP7; replace HB := ak ((by rw [hw]; exact below_set (HB.out) GB5.out : Below w0.heap.size w0 w8)); replace HK := ak (Kept.of_grown (S := (fun k_ => P0_ k_)) hg kdA (fun k_ e_ => (HO_0.out.1 k_ e_))); replace HO_0 := ak hp_; clear hg hw hp_))
   go_roundg k1
   case measure => have := HK1.out; omega
   case rel => exact ⟨(y374), (wrap64 (x1_1 + 1)), (wrap64 (x5_1 + 1)), eqA, eqA, H', ⟨xq6⟩, ⟨rA HO_0⟩, ⟨kdA⟩, ⟨belA⟩⟩

def laws_heldByteS.l0 : Nat → List Int → Int → Int → Option (Int)
 | 0, _, _, _ => none
 | k + 1, x0, x1, x5 => if x5 < (x0.length : Int) then (if 0 ≤ x5 then (if (rd x0 x5) = ((x1) % 256) then (laws_heldByteS.l0 k x0 (wrap64 (x1 + 1)) (wrap64 (x5 + 1))) else (some (-1))) else (none)) else (some x1)
def laws_heldByteS.f (k : Nat) (l0 : List Int) (a1 : Int) : Option (Int) := laws_heldByteS.l0 k l0 a1 0
theorem laws_heldByteS.mono_l : ∀ k, (∀ y0 y1 y2, LeO (laws_heldByteS.l0 k y0 y1 y2) (laws_heldByteS.l0 (k + 1) y0 y1 y2))
 | 0 => fun _ _ _ r h => by simp [laws_heldByteS.l0] at h
 | k + 1 => by
  have ih0 := laws_heldByteS.mono_l k
  · intro y0 y1 y2; unfold laws_heldByteS.l0; exact xq5
theorem laws_heldByteS.mono : ∀ a0 a1 k, LeO (laws_heldByteS.f k a0 a1) (laws_heldByteS.f (k + 1) a0 a1) := by
 intro a0 a1 k; have ih0 := laws_heldByteS.mono_l k
 unfold laws_heldByteS.f
 exact xq5
theorem laws_heldByteS.calls (k : Nat) (A0 : Option Addr) (c0 : Nat) (l0 : List Int) (a1 : Int) (r : Int) (w : World) (hr0 : Kd.C (Kd.int .u8) w A0 l0.length l0) (hc0 : l0.length ≤ c0) (h : laws_heldByteS.f k l0 a1 = some r) :
 Calls Try.prog 29 #[.slice A0 l0.length c0, .int .i64 a1] w fun e w' => e = .returned (.int .i64 r) ∧ Drawn0 w w' := by
 have HR0 := ak hr0; have HC0 := ak hc0; clear hr0 hc0; have H : (laws_heldByteS.l0 k l0 a1 0) = some r := h; clear h; have H' := ak H; clear H; go_enter Try.func29, Try.ntmps29
 go_wp2
 go_loopg [1, 5] k (fun kq v1 v5 w' => ∃ (x1_1 : Int) (x5_1 : Int), v1 = .int .i64 x1_1 ∧ v5 = .int .i64 x5_1 ∧ Aside0 (laws_heldByteS.l0 kq l0 x1_1 x5_1 = some r) ∧ Aside0 (kq ≤ k) ∧ Drawn0 w w')
 case atStart => exact ⟨(a1), (0), eqA, eqA, H', ⟨Nat.le_refl _⟩, xq2⟩
 case round =>
  clear H'; obtain ⟨x1_1, x5_1, rfl, rfl, HA, HK1, ⟨m1, rfl⟩⟩ := hrel
  cases gk with
  | zero => exact absurd HA.out (by simp [laws_heldByteS.l0])
  | succ k1 =>
   have H := HA.out; clear HA; simp only [laws_heldByteS.l0] at H
   by_cases c3 : x5_1 < (l0.length : Int); rotate_left
   · rw [if_neg c3] at H; have c3b0 := decide_eq_false c3; clear c3; obtain rfl := Option.some.inj H; go_wp2
     go_ret
     exact ⟨xq3, xq2⟩
   rw [if_pos c3] at H; have c3b0 := decide_eq_true c3; clear c3
   by_cases c4 : 0 ≤ x5_1; rotate_left
   · rw [if_neg c4] at H; exact absurd H (by simp)
   rw [if_pos c4] at H; have c4b0 := decide_eq_true c4; clear c4
   by_cases c5 : (rd l0 x5_1) = ((x1_1) % 256); rotate_left
   · rw [if_neg c5] at H; have c5b0 : ((rd l0 x5_1) == ((x1_1) % 256)) = false := beq_eq_false_iff_ne.mpr c5; have c5b1 : ((rd l0 x5_1) != ((x1_1) % 256)) = true := bne_iff_ne.mpr c5; obtain rfl := Option.some.inj H; have p375 : 0 ≤ (x5_1 : Int) := odA; have q375 : x5_1 < (l0.length : Int) := odA; obtain ⟨ad375, e375, hx375_0⟩ := Kd.at_int HR0.out x5_1 p375 q375
     cases e375
     replace p375 := eq_true p375; replace q375 := eq_true q375; go_wp2
     go_ret
     exact ⟨xq3, xq2⟩
   rw [if_pos c5] at H; have c5b0 : ((rd l0 x5_1) == ((x1_1) % 256)) = true := beq_iff_eq.mpr c5; have c5b1 : ((rd l0 x5_1) != ((x1_1) % 256)) = false := bne_eq_false_iff_eq.mpr c5; clear c5; have H' := ak H; clear H; have p375 : 0 ≤ (x5_1 : Int) := odA; have q375 : x5_1 < (l0.length : Int) := odA; obtain ⟨ad375, e375, hx375_0⟩ := Kd.at_int HR0.out x5_1 p375 q375
   cases e375
   replace p375 := eq_true p375; replace q375 := eq_true q375; go_wp2
   go_roundg k1
   case measure => have := HK1.out; omega
   case rel => exact ⟨(wrap64 (x1_1 + 1)), (wrap64 (x5_1 + 1)), eqA, eqA, H', ⟨xq6⟩, xq2⟩

mutual
def laws_FnExactPackJobs.j0 : Nat → Int → Int → List (S102) → List Int → Bool → List (S104) → List Int → Bool → Bool → Option (Bool)
 | 0, _, _, _, _, _, _, _, _, _ => none
 | k + 1, x0, x1, x2, x8, x9, x10, x11, x12, x48 => if x48 = true then (some false) else ((laws_toJobS.f k x2).bind fun t392 => ((laws_eqJobS.f k x10 t392).bind fun t395 => (if t395 = true then ((laws_markJobS.f k x10 1).bind fun bt396 => (if bt396.1 < 0 then (laws_FnExactPackJobs.j1 k x0 x1 x2 x8 x9 x11 true) else ((laws_eqByteS.f k x11 x8).bind fun t397 => (if t397 = true then (laws_FnExactPackJobs.j1 k x0 x1 x2 x8 x9 x11 (x12 != x9)) else (laws_FnExactPackJobs.j1 k x0 x1 x2 x8 x9 x11 true))))) else (some false))))
def laws_FnExactPackJobs.j1 : Nat → Int → Int → List (S102) → List Int → Bool → List Int → Bool → Option (Bool)
 | 0, _, _, _, _, _, _, _ => none
 | k + 1, x0, x1, x2, x8, x9, x11, x69 => if x69 = true then (some false) else ((laws_markByteS.f k x11 1).bind fun bt398 => ((laws_heldByteS.f k bt398.2 1).bind fun t400 => (if t400 < 0 then (some false) else (if t400 = bt398.1 then ((laws_toJobS.f k x2).bind fun t401 => ((impl_PackJobs.f k x0 x1 t401).bind fun bt404 => ((laws_eqByteS.f k bt404.1 x8).bind fun t408 => (if t408 = true then (laws_FnExactPackJobs.j2 k bt398.2 bt398.1 (bt404.2 != x9)) else (laws_FnExactPackJobs.j2 k bt398.2 bt398.1 true))))) else (some false)))))
def laws_FnExactPackJobs.j2 : Nat → List Int → Int → Bool → Option (Bool)
 | 0, _, _, _ => none
 | k + 1, x11, x14, x97 => if x97 = true then (some false) else ((laws_heldByteS.f k x11 1).bind fun t409 => (if t409 < 0 then (some false) else (if t409 = x14 then (some true) else (some false))))
end
def laws_FnExactPackJobs.f (k : Nat) (a0 : Int) (a1 : Int) (l2 : List (S102)) : Option (Bool) := (laws_szJobS.f k l2 1048576).bind fun t376 => (if t376 < 0 then (some true) else ((laws_toJobS.f k l2).bind fun t377 => ((spec_PackJobs.f k a0 a1 t377).bind fun bt380 => ((laws_toJobS.f k l2).bind fun t384 => ((impl_PackJobs.f k a0 a1 t384).bind fun bt387 => ((laws_eqByteS.f k bt387.1 bt380.1).bind fun t391 => (if t391 = true then (laws_FnExactPackJobs.j0 k a0 a1 l2 bt380.1 bt380.2 t384 bt387.1 bt387.2 (bt387.2 != bt380.2)) else (laws_FnExactPackJobs.j0 k a0 a1 l2 bt380.1 bt380.2 t384 bt387.1 bt387.2 true))))))))
theorem laws_FnExactPackJobs.mono_l : ∀ k, (∀ y0 y1 y2 y3 y4 y5 y6 y7 y8, LeO (laws_FnExactPackJobs.j0 k y0 y1 y2 y3 y4 y5 y6 y7 y8) (laws_FnExactPackJobs.j0 (k + 1) y0 y1 y2 y3 y4 y5 y6 y7 y8)) ∧ (∀ y0 y1 y2 y3 y4 y5 y6, LeO (laws_FnExactPackJobs.j1 k y0 y1 y2 y3 y4 y5 y6) (laws_FnExactPackJobs.j1 (k + 1) y0 y1 y2 y3 y4 y5 y6)) ∧ (∀ y0 y1 y2, LeO (laws_FnExactPackJobs.j2 k y0 y1 y2) (laws_FnExactPackJobs.j2 (k + 1) y0 y1 y2))
 | 0 => ⟨fun _ _ _ _ _ _ _ _ _ r h => by simp [laws_FnExactPackJobs.j0] at h, fun _ _ _ _ _ _ _ r h => by simp [laws_FnExactPackJobs.j1] at h, fun _ _ _ r h => by simp [laws_FnExactPackJobs.j2] at h⟩
 | k + 1 => by
  obtain ⟨ih0, ih1, ih2⟩ := laws_FnExactPackJobs.mono_l k; refine ⟨?_, ?_, ?_⟩
  · intro y0 y1 y2 y3 y4 y5 y6 y7 y8; unfold laws_FnExactPackJobs.j0; exact xq14
  · intro y0 y1 y2 y3 y4 y5 y6; unfold laws_FnExactPackJobs.j1; exact xq14
  · intro y0 y1 y2; unfold laws_FnExactPackJobs.j2; exact xq14
theorem laws_FnExactPackJobs.mono : ∀ a0 a1 a2 k, LeO (laws_FnExactPackJobs.f k a0 a1 a2) (laws_FnExactPackJobs.f (k + 1) a0 a1 a2) := by
 intro a0 a1 a2 k; obtain ⟨ih0, ih1, ih2⟩ := laws_FnExactPackJobs.mono_l k
 unfold laws_FnExactPackJobs.f
 exact xq14
theorem laws_FnExactPackJobs.calls (k : Nat) (a0 : Int) (a1 : Int) (A2 : Option Addr) (c2 : Nat) (l2 : List (S102)) (r : Bool) (w : World) (hr2 : Kd.C k102 w A2 l2.length l2) (hc2 : l2.length ≤ c2) (h : laws_FnExactPackJobs.f k a0 a1 l2 = some r) :
 Calls Try.prog 4 #[.int .i64 a0, .int .i64 a1, .slice A2 l2.length c2] w fun e w' => e = .returned (.bool r) ∧ Below w.heap.size w w' := by
 have HR2 := ak hr2; have HC2 := ak hc2; clear hr2 hc2; have HB := ak (Below.refl w.heap.size w); have H : ((laws_szJobS.f k l2 1048576).bind fun t376 => (if t376 < 0 then (some true) else ((laws_toJobS.f k l2).bind fun t377 => ((spec_PackJobs.f k a0 a1 t377).bind fun bt380 => ((laws_toJobS.f k l2).bind fun t384 => ((impl_PackJobs.f k a0 a1 t384).bind fun bt387 => ((laws_eqByteS.f k bt387.1 bt380.1).bind fun t391 => (if t391 = true then (laws_FnExactPackJobs.j0 k a0 a1 l2 bt380.1 bt380.2 t384 bt387.1 bt387.2 (bt387.2 != bt380.2)) else (laws_FnExactPackJobs.j0 k a0 a1 l2 bt380.1 bt380.2 t384 bt387.1 bt387.2 true))))))))) = some r := h; clear h; replace H := Option.bind_eq_some_iff.mp H; obtain ⟨t376, A40, H⟩ := H; (try dsimp only at H); have A4 := ak A40; clear A40
 by_cases c5 : t376 < 0
 · rw [if_pos c5] at H; have c5b0 := decide_eq_true c5; clear c5; obtain rfl := Option.some.inj H; go_enter Try.func4, Try.ntmps4
   go_wp2_with (first | ((with_reducible refine gate_callee (f := 21) rfl ?_); refine goB 20 Try.func21 #[.slice A2 l2.length c2, .int .i64 1048576] rfl ?_; (with_reducible refine (laws_szJobS.calls k _ _ l2 1048576 t376 _ ?side1 ?side2 A4.out).mono ?_); (case side1 => exact cA HR2.out); (case side2 => exact HC2.out); rintro e w6 ⟨rfl, hb⟩; refine ⟨_, rfl, ?_⟩; replace HB := bS hb; (try clear hb)))
   go_ret
   exact ⟨xq1, belA⟩
 rw [if_neg c5] at H; have c5b0 := decide_eq_false c5; clear c5; replace H := Option.bind_eq_some_iff.mp H; obtain ⟨t377, A70, H⟩ := H; (try dsimp only at H); have A7 := ak A70; clear A70; replace H := Option.bind_eq_some_iff.mp H; obtain ⟨⟨t380, t381⟩, A80, H⟩ := H; (try dsimp only at H); have A8 := ak A80; clear A80; replace H := Option.bind_eq_some_iff.mp H; obtain ⟨t384, A90, H⟩ := H; (try dsimp only at H); have A9 := ak A90; clear A90; replace H := Option.bind_eq_some_iff.mp H; obtain ⟨⟨t387, t388⟩, A100, H⟩ := H; (try dsimp only at H); have A10 := ak A100; clear A100; have HC11 := ak H; clear H; go_enter Try.func4, Try.ntmps4
 go_upto_region 8 with (first | ((with_reducible refine gate_callee (f := 21) rfl ?_); refine goB 20 Try.func21 #[.slice A2 l2.length c2, .int .i64 1048576] rfl ?_; (with_reducible refine (laws_szJobS.calls k _ _ l2 1048576 t376 _ ?side1 ?side2 A4.out).mono ?_); (case side1 => exact cA HR2.out); (case side2 => exact HC2.out); rintro e w12 ⟨rfl, hb⟩; refine ⟨_, rfl, ?_⟩; replace HB := bS hb; (try clear hb)) | ((with_reducible refine gate_callee (f := 23) rfl ?_); refine goB 27 Try.func23 #[.slice A2 l2.length c2] rfl ?_; (with_reducible refine (laws_toJobS.calls k _ _ l2 t377 _ ?side1 ?side2 A7.out).mono ?_); (case side1 => exact cA (Kd.C_below HR2.out HB.out)); (case side2 => exact HC2.out); rintro e w13 ⟨v378, rfl, ho0, hb⟩; refine ⟨_, rfl, ?_⟩; have HO379 := sL ho0; replace HB := bS hb; (try clear hb ho0); obtain ⟨Ao14, co14, eo14⟩ := Kd.S_slice HO379.out; subst eo14) | ((with_reducible refine gate_callee (f := 22) rfl ?_); refine goB 28 Try.func22 #[.int .i64 a0, .int .i64 a1, .slice Ao14 t377.length co14] rfl ?_; (with_reducible refine (spec_PackJobs.calls k a0 a1 _ _ t377 t380 t381 _ ?side1 ?side2 A8.out).mono ?_); (case side1 => exact cA ((Kd.S_reads' HO379.out).2.2)); (case side2 => exact (Kd.S_reads' HO379.out).2.1); rintro e w15 ⟨v382, rfl, ho0, hb⟩; refine ⟨_, rfl, ?_⟩; have HO383 := rL ho0; replace HO379 := sB HO379 hb; replace HB := bS hb; (try clear hb ho0)) | ((with_reducible refine gate_callee (f := 23) rfl ?_); refine goB 32 Try.func23 #[.slice A2 l2.length c2] rfl ?_; (with_reducible refine (laws_toJobS.calls0 k _ _ l2 t384 _ ?side1 ?side2 A9.out).mono ?_); (case side1 => exact cA (Kd.C_below HR2.out HB.out)); (case side2 => exact HC2.out); rintro e w16 ⟨v385, rfl, ho0, hb⟩; refine ⟨_, rfl, ?_⟩; have HO386 := sL (Kd.S_new' ho0 (sT HO379)); replace HO379 := sD HO379 (Kd.S_base ho0) hb; replace HO383 := ak (Kd.R_below (rF HO383) hb); replace HB := bS hb; (try clear hb ho0); obtain ⟨Ao17, co17, eo17⟩ := Kd.S_slice HO386.out; subst eo17) | ((with_reducible refine gate_callee (f := 24) rfl ?_); refine goB 37 Try.func24 #[.int .i64 a0, .int .i64 a1, .slice Ao17 t384.length co17] rfl ?_; (with_reducible refine (impl_PackJobs.calls k a0 a1 _ _ t384 t387 t388 _ ?side1 ?side2 A10.out).mono ?_); (case side1 => repeat (first | exact (Kd.S_reads' (k104a_S HO386.out)).2.2 | (with_reducible refine Kd.C_alloc ?_ _) | (with_reducible refine Kd.C_drewN ?_ _) | (with_reducible refine Kd.C_drew ?_))); (case side2 => exact (Kd.S_reads' HO386.out).2.1); rintro e w18 ⟨v389, rfl, ho0, hb⟩; refine ⟨_, rfl, ?_⟩; have HO390 := rL (Kd.R_new' ho0 (Kd.R_lt (rF HO383))); replace HO379 := sB HO379 hb; replace HO383 := ak (Kd.R_elder' (rF HO383) (Kd.R_base ho0) hb); replace HO386 := sB HO386 hb; replace HB := bS hb; (try clear hb ho0)))
 (try simp only [Act.put, sa, sb, sc])
 go_cut [48] (fun v48 wc => ∃ (kq : Nat) (x48_10 : Bool), v48 = .bool x48_10 ∧ Aside0 (laws_FnExactPackJobs.j0 kq a0 a1 l2 t380 t381 t384 t387 t388 x48_10 = some r) ∧ Aside0 (kq ≤ k) ∧ Aside0 (Kd.R (Kd.int .u8) 5 wc w.heap.size (fun k_ => some k_ ≠ (v389 : Value).ownBlock) v382 t380) ∧ Aside0 (Kd.S k104a 104 wc w.heap.size (fun _ => True) (.slice Ao17 t384.length co17) t384) ∧ Aside0 (Kd.R (Kd.int .u8) 5 wc w.heap.size (fun k_ => some k_ ≠ (v382 : Value).ownBlock) v389 t387) ∧ Aside0 (Below w.heap.size w wc))
 case first =>
  have H := HC11.out; clear HC11; replace H := Option.bind_eq_some_iff.mp H; obtain ⟨t391, A190, H⟩ := H; (try dsimp only at H); have A19 := ak A190; clear A190
  by_cases c20 : t391 = true
  · subst c20; have H1 : (laws_FnExactPackJobs.j0 k a0 a1 l2 t380 t381 t384 t387 t388 (t388 != t381)) = some r := by rw [if_pos rfl] at H; exact H
    clear H; have H := H1; clear H1; have H' := ak H; clear H; obtain ⟨Ao21, co21, eo21⟩ := Kd.R_slice HO390.out; subst eo21; obtain ⟨Ao22, co22, eo22⟩ := Kd.R_slice HO383.out; subst eo22; go_wp2_with (first | ((with_reducible refine gate_callee (f := 25) rfl ?_); refine goB 42 Try.func25 #[.slice Ao21 t387.length co21, .slice Ao22 t380.length co22] rfl ?_; (with_reducible refine (laws_eqByteS.calls k _ _ t387 _ _ t380 true _ ?side1 ?side2 ?side3 ?side4 A19.out).mono ?_); (case side1 => exact cA ((Kd.R_reads' HO390.out).2.2)); (case side2 => exact (Kd.R_reads' HO390.out).2.1); (case side3 => exact cA ((Kd.R_reads' HO383.out).2.2)); (case side4 => exact (Kd.R_reads' HO383.out).2.1); rintro e w' ⟨rfl, ⟨nd, rfl⟩⟩; refine ⟨_, rfl, ?_⟩))
    go_meet
    case rel => exact ⟨_, ((t388 != t381)), eqA, H', ⟨xq7⟩, ⟨rE (Kd.R_mono HO383.out (fun _ hk => hk.2))⟩, ⟨sE (Kd.S_mono HO386.out (fun _ hk => trivial))⟩, ⟨rE (Kd.R_mono HO390.out (fun _ hk => hk.2))⟩, ⟨belA⟩⟩
  replace c20 := Bool.eq_false_iff.mpr c20; subst c20; have H1 : (laws_FnExactPackJobs.j0 k a0 a1 l2 t380 t381 t384 t387 t388 true) = some r := by rw [if_neg (show ¬ (false = true) by decide)] at H; exact H
  clear H; have H := H1; clear H1; have H' := ak H; clear H; obtain ⟨Ao23, co23, eo23⟩ := Kd.R_slice HO390.out; subst eo23; obtain ⟨Ao24, co24, eo24⟩ := Kd.R_slice HO383.out; subst eo24; go_wp2_with (first | ((with_reducible refine gate_callee (f := 25) rfl ?_); refine goB 42 Try.func25 #[.slice Ao23 t387.length co23, .slice Ao24 t380.length co24] rfl ?_; (with_reducible refine (laws_eqByteS.calls k _ _ t387 _ _ t380 false _ ?side1 ?side2 ?side3 ?side4 A19.out).mono ?_); (case side1 => exact cA ((Kd.R_reads' HO390.out).2.2)); (case side2 => exact (Kd.R_reads' HO390.out).2.1); (case side3 => exact cA ((Kd.R_reads' HO383.out).2.2)); (case side4 => exact (Kd.R_reads' HO383.out).2.1); rintro e w' ⟨rfl, ⟨nd, rfl⟩⟩; refine ⟨_, rfl, ?_⟩))
  go_meet
  case rel => exact ⟨_, (true), eqA, H', ⟨xq7⟩, ⟨rE (Kd.R_mono HO383.out (fun _ hk => hk.2))⟩, ⟨sE (Kd.S_mono HO386.out (fun _ hk => trivial))⟩, ⟨rE (Kd.R_mono HO390.out (fun _ hk => hk.2))⟩, ⟨belA⟩⟩
 case rest =>
  clear HC11; obtain ⟨kq, x48_10, rfl, HA, HJ10, HO_8, HO_10, HO_11, HB⟩ := hcut
  cases kq with
  | zero => exact absurd HA.out (by simp [laws_FnExactPackJobs.j0])
  | succ kj10 =>
   have H := HA.out; clear HA; simp only [laws_FnExactPackJobs.j0] at H
   by_cases c25 : x48_10 = true
   · subst c25; have H1 : (some false) = some r := by rw [if_pos rfl] at H; exact H
     clear H; have H := H1; clear H1; obtain rfl := Option.some.inj H; go_wp2
     go_ret
     exact ⟨xq1, belA⟩
   replace c25 := Bool.eq_false_iff.mpr c25; subst c25; have H1 : ((laws_toJobS.f kj10 l2).bind fun t392 => ((laws_eqJobS.f kj10 t384 t392).bind fun t395 => (if t395 = true then ((laws_markJobS.f kj10 t384 1).bind fun bt396 => (if bt396.1 < 0 then (laws_FnExactPackJobs.j1 kj10 a0 a1 l2 t380 t381 t387 true) else ((laws_eqByteS.f kj10 t387 t380).bind fun t397 => (if t397 = true then (laws_FnExactPackJobs.j1 kj10 a0 a1 l2 t380 t381 t387 (t388 != t381)) else (laws_FnExactPackJobs.j1 kj10 a0 a1 l2 t380 t381 t387 true))))) else (some false)))) = some r := by rw [if_neg (show ¬ (false = true) by decide)] at H; exact H
   clear H; have H := H1; clear H1; replace H := Option.bind_eq_some_iff.mp H; obtain ⟨t392, A260, H⟩ := H; (try dsimp only at H); have A26 := ak A260; clear A260; replace H := Option.bind_eq_some_iff.mp H; obtain ⟨t395, A270, H⟩ := H; (try dsimp only at H); have A27 := ak A270; clear A270
   by_cases c28 : t395 = true; rotate_left
   · replace c28 := Bool.eq_false_iff.mpr c28; subst c28; have H1 : (some false) = some r := by rw [if_neg (show ¬ (false = true) by decide)] at H; exact H
     clear H; have H := H1; clear H1; obtain rfl := Option.some.inj H; go_wp2_with (first | ((with_reducible refine gate_callee (f := 23) rfl ?_); refine goB 51 Try.func23 #[.slice A2 l2.length c2] rfl ?_; (with_reducible refine (laws_toJobS.calls kj10 _ _ l2 t392 _ ?side1 ?side2 A26.out).mono ?_); (case side1 => exact cA (Kd.C_below HR2.out HB.out)); (case side2 => exact HC2.out); rintro e w69 ⟨v393, rfl, ho0, hb⟩; refine ⟨_, rfl, ?_⟩; have HO394 := sL (Kd.S_new' ho0 (sT HO_10)); replace HO_8 := ak (Kd.R_below (rF HO_8) hb); replace HO_10 := sD HO_10 (Kd.S_base ho0) hb; replace HO_11 := ak (Kd.R_below (rF HO_11) hb); replace HB := bS hb; (try clear hb ho0); obtain ⟨Ao70, co70, eo70⟩ := Kd.S_slice HO394.out; subst eo70) | ((with_reducible refine gate_callee (f := 26) rfl ?_); refine goB 52 Try.func26 #[.slice Ao17 t384.length co17, .slice Ao70 t392.length co70] rfl ?_; (with_reducible refine (laws_eqJobS.calls kj10 _ _ t384 _ _ t392 false _ ?side1 ?side2 ?side3 ?side4 A27.out).mono ?_); (case side1 => exact xq35); (case side2 => exact (Kd.S_reads' HO_10.out).2.1); (case side3 => exact cA ((Kd.S_reads' HO394.out).2.2)); (case side4 => exact (Kd.S_reads' HO394.out).2.1); rintro e w71 ⟨rfl, hb⟩; refine ⟨_, rfl, ?_⟩; replace HO_8 := ak (Kd.R_below (rF HO_8) hb); replace HO_10 := sB HO_10 hb; replace HO_11 := ak (Kd.R_below (rF HO_11) hb); replace HO394 := sB HO394 hb; replace HB := bS hb; (try clear hb)))
     go_ret
     exact ⟨xq1, belA⟩
   subst c28; have H1 : ((laws_markJobS.f kj10 t384 1).bind fun bt396 => (if bt396.1 < 0 then (laws_FnExactPackJobs.j1 kj10 a0 a1 l2 t380 t381 t387 true) else ((laws_eqByteS.f kj10 t387 t380).bind fun t397 => (if t397 = true then (laws_FnExactPackJobs.j1 kj10 a0 a1 l2 t380 t381 t387 (t388 != t381)) else (laws_FnExactPackJobs.j1 kj10 a0 a1 l2 t380 t381 t387 true))))) = some r := by rw [if_pos rfl] at H; exact H
   clear H; have H := H1; clear H1; replace H := Option.bind_eq_some_iff.mp H; obtain ⟨⟨t396, tM⟩, A290, H⟩ := H; (try dsimp only at H); have A29 := ak A290; clear A290; have HC30 := ak H; clear H; go_upto_region 14 with (first | ((with_reducible refine gate_callee (f := 23) rfl ?_); refine goB 51 Try.func23 #[.slice A2 l2.length c2] rfl ?_; (with_reducible refine (laws_toJobS.calls kj10 _ _ l2 t392 _ ?side1 ?side2 A26.out).mono ?_); (case side1 => exact cA (Kd.C_below HR2.out HB.out)); (case side2 => exact HC2.out); rintro e w31 ⟨v393, rfl, ho0, hb⟩; refine ⟨_, rfl, ?_⟩; have HO394 := sL (Kd.S_new' ho0 (sT HO_10)); replace HO_8 := ak (Kd.R_below (rF HO_8) hb); replace HO_10 := sD HO_10 (Kd.S_base ho0) hb; replace HO_11 := ak (Kd.R_below (rF HO_11) hb); replace HB := bS hb; (try clear hb ho0); obtain ⟨Ao32, co32, eo32⟩ := Kd.S_slice HO394.out; subst eo32) | ((with_reducible refine gate_callee (f := 26) rfl ?_); refine goB 52 Try.func26 #[.slice Ao17 t384.length co17, .slice Ao32 t392.length co32] rfl ?_; (with_reducible refine (laws_eqJobS.calls kj10 _ _ t384 _ _ t392 true _ ?side1 ?side2 ?side3 ?side4 A27.out).mono ?_); (case side1 => exact xq35); (case side2 => exact (Kd.S_reads' HO_10.out).2.1); (case side3 => exact cA ((Kd.S_reads' HO394.out).2.2)); (case side4 => exact (Kd.S_reads' HO394.out).2.1); rintro e w33 ⟨rfl, hb⟩; refine ⟨_, rfl, ?_⟩; replace HO_8 := ak (Kd.R_below (rF HO_8) hb); replace HO_10 := sB HO_10 hb; replace HO_11 := ak (Kd.R_below (rF HO_11) hb); replace HO394 := sB HO394 hb; replace HB := bS hb; (try clear hb)) | ((with_reducible refine gate_callee (f := 27) rfl ?_); refine goB 56 Try.func27 #[.slice Ao17 t384.length co17, .int .i64 1] rfl ?_; have HT_ := Kd.S_mono (ok' := fun k_ => ∃ q, q ∈ (104 : Nat) :: k104a.E ∧ ∃ cells, w33.heap[k_]? = some (.cells cells q (0, 0))) (Kd.S_bound HO_10.out) (fun _ h_ => h_.2.2.2); (with_reducible refine (laws_markJobS.calls kj10 (fun k_ => ∃ q, q ∈ (104 : Nat) :: k104a.E ∧ ∃ cells, w33.heap[k_]? = some (.cells cells q (0, 0))) _ t384 1 t396 tM w _ ?side1 ?side2 A29.out).mono ?_); (case side1 => exact xq10); (case side2 => (with_reducible repeat (first | apply Kd.S_alloc | apply Kd.S_drewN | apply Kd.S_drew)); exact HT_); rintro e w34 ⟨rfl, _, hb, hkp⟩; refine ⟨_, rfl, ?_⟩; clear HT_; have n0_ := ak (Kd.R_reok rfl (Kd.R_kept (rE (Kd.R_tight rfl HO_8.out)) hkp (fun k_ e_ hs_ => by obtain ⟨q_, hq_, cs_, hc_⟩ := hs_; obtain ⟨c5_, h5_⟩ := Kd.R_typed HO_8.out k_ e_.symm; rw [h5_] at hc_; injection hc_ with hc_; injection hc_ with _ hc_; subst hc_; revert hq_; decide)) (fun k_ e_ => HO_8.out.1 k_ e_)); have n2_ := ak (Kd.R_reok rfl (Kd.R_kept (rE (Kd.R_tight rfl HO_11.out)) hkp (fun k_ e_ hs_ => by obtain ⟨q_, hq_, cs_, hc_⟩ := hs_; obtain ⟨c5_, h5_⟩ := Kd.R_typed HO_11.out k_ e_.symm; rw [h5_] at hc_; injection hc_ with hc_; injection hc_ with _ hc_; subst hc_; revert hq_; decide)) (fun k_ e_ => HO_11.out.1 k_ e_)); have n4_ := ak hb; clear HO_8 HO_10 HO_11 HO394 HB hb hkp; have HO_8 := n0_; have HO_11 := n2_; have HB := n4_; clear n0_ n2_ n4_))
   (try simp only [Act.put, sa, sb, sc])
   go_cut [69] (fun v69 wc => ∃ (kq : Nat) (x69_29 : Bool), v69 = .bool x69_29 ∧ Aside0 (laws_FnExactPackJobs.j1 kq a0 a1 l2 t380 t381 t387 x69_29 = some r) ∧ Aside0 (kq ≤ kj10) ∧ Aside0 (Kd.R (Kd.int .u8) 5 wc w.heap.size (fun k_ => some k_ ≠ (v389 : Value).ownBlock) v382 t380) ∧ Aside0 (Kd.R (Kd.int .u8) 5 wc w.heap.size (fun k_ => some k_ ≠ (v382 : Value).ownBlock) v389 t387) ∧ Aside0 (Below w.heap.size w wc))
   case first =>
    have H := HC30.out; clear HC30
    by_cases c35 : t396 < 0
    · rw [if_pos c35] at H; have c35b0 := decide_eq_true c35; clear c35; (first | rw [c35b0] | (simp only [i64_w, i32_w]; rw [c35b0]) | skip)
      have H' := ak H; clear H; go_wp2
      go_meet
      case rel => exact ⟨_, (true), eqA, H', ⟨xq19⟩, ⟨rA HO_8⟩, ⟨rA HO_11⟩, ⟨belA⟩⟩
    rw [if_neg c35] at H; have c35b0 := decide_eq_false c35; clear c35; (first | rw [c35b0] | (simp only [i64_w, i32_w]; rw [c35b0]) | skip)
    replace H := Option.bind_eq_some_iff.mp H; obtain ⟨t397, A360, H⟩ := H; (try dsimp only at H); have A36 := ak A360; clear A360
    by_cases c37 : t397 = true
    · subst c37; have H1 : (laws_FnExactPackJobs.j1 kj10 a0 a1 l2 t380 t381 t387 (t388 != t381)) = some r := by rw [if_pos rfl] at H; exact H
      clear H; have H := H1; clear H1; have H' := ak H; clear H; obtain ⟨Ao38, co38, eo38⟩ := Kd.R_slice HO_11.out; subst eo38; obtain ⟨Ao39, co39, eo39⟩ := Kd.R_slice HO_8.out; subst eo39; go_wp2_with (first | (go_at_call 25; (with_reducible refine (laws_eqByteS.calls kj10 _ _ t387 _ _ t380 true _ ?side1 ?side2 ?side3 ?side4 A36.out).mono ?_); (case side1 => exact cA ((Kd.R_reads' HO_11.out).2.2)); (case side2 => exact (Kd.R_reads' HO_11.out).2.1); (case side3 => exact cA ((Kd.R_reads' HO_8.out).2.2)); (case side4 => exact (Kd.R_reads' HO_8.out).2.1); rintro e w' ⟨rfl, ⟨nd, rfl⟩⟩))
      go_meet
      case rel => exact ⟨_, ((t388 != t381)), eqA, H', ⟨xq19⟩, ⟨rA HO_8⟩, ⟨rA HO_11⟩, ⟨belA⟩⟩
    replace c37 := Bool.eq_false_iff.mpr c37; subst c37; have H1 : (laws_FnExactPackJobs.j1 kj10 a0 a1 l2 t380 t381 t387 true) = some r := by rw [if_neg (show ¬ (false = true) by decide)] at H; exact H
    clear H; have H := H1; clear H1; have H' := ak H; clear H; obtain ⟨Ao40, co40, eo40⟩ := Kd.R_slice HO_11.out; subst eo40; obtain ⟨Ao41, co41, eo41⟩ := Kd.R_slice HO_8.out; subst eo41; go_wp2_with (first | (go_at_call 25; (with_reducible refine (laws_eqByteS.calls kj10 _ _ t387 _ _ t380 false _ ?side1 ?side2 ?side3 ?side4 A36.out).mono ?_); (case side1 => exact cA ((Kd.R_reads' HO_11.out).2.2)); (case side2 => exact (Kd.R_reads' HO_11.out).2.1); (case side3 => exact cA ((Kd.R_reads' HO_8.out).2.2)); (case side4 => exact (Kd.R_reads' HO_8.out).2.1); rintro e w' ⟨rfl, ⟨nd, rfl⟩⟩))
    go_meet
    case rel => exact ⟨_, (true), eqA, H', ⟨xq19⟩, ⟨rA HO_8⟩, ⟨rA HO_11⟩, ⟨belA⟩⟩
   case rest =>
    clear HC30; obtain ⟨kq, x69_29, rfl, HA, HJ29, HO_8, HO_11, HB⟩ := hcut
    cases kq with
    | zero => exact absurd HA.out (by simp [laws_FnExactPackJobs.j1])
    | succ kj29 =>
     have H := HA.out; clear HA; simp only [laws_FnExactPackJobs.j1] at H
     by_cases c42 : x69_29 = true
     · subst c42; have H1 : (some false) = some r := by rw [if_pos rfl] at H; exact H
       clear H; have H := H1; clear H1; obtain rfl := Option.some.inj H; go_wp2
       go_ret
       exact ⟨xq1, belA⟩
     replace c42 := Bool.eq_false_iff.mpr c42; subst c42; have H1 : ((laws_markByteS.f kj29 t387 1).bind fun bt398 => ((laws_heldByteS.f kj29 bt398.2 1).bind fun t400 => (if t400 < 0 then (some false) else (if t400 = bt398.1 then ((laws_toJobS.f kj29 l2).bind fun t401 => ((impl_PackJobs.f kj29 a0 a1 t401).bind fun bt404 => ((laws_eqByteS.f kj29 bt404.1 t380).bind fun t408 => (if t408 = true then (laws_FnExactPackJobs.j2 kj29 bt398.2 bt398.1 (bt404.2 != t381)) else (laws_FnExactPackJobs.j2 kj29 bt398.2 bt398.1 true))))) else (some false))))) = some r := by rw [if_neg (show ¬ (false = true) by decide)] at H; exact H
     clear H; have H := H1; clear H1; replace H := Option.bind_eq_some_iff.mp H; obtain ⟨⟨t398, t399⟩, A430, H⟩ := H; (try dsimp only at H); have A43 := ak A430; clear A430; replace H := Option.bind_eq_some_iff.mp H; obtain ⟨t400, A440, H⟩ := H; (try dsimp only at H); have A44 := ak A440; clear A440
     by_cases c45 : t400 < 0
     · rw [if_pos c45] at H; have c45b0 := decide_eq_true c45; clear c45; obtain rfl := Option.some.inj H; obtain ⟨Ao46, co46, eo46⟩ := Kd.R_slice HO_11.out; subst eo46; go_wp2_with (first | ((with_reducible refine gate_callee (f := 28) rfl ?_); refine goB 72 Try.func28 #[.slice Ao46 t387.length co46, .int .i64 1] rfl ?_; (with_reducible refine (laws_markByteS.calls kj29 (fun k_ => some k_ = (.slice Ao46 t387.length co46 : Value).ownBlock) (.slice Ao46 t387.length co46) t387 1 t398 t399 w _ ?side1 ?side2 A43.out).mono ?_); (case side1 => exact xq10); (case side2 => exact Kd.R_tight rfl HO_11.out); rintro e w47 ⟨rfl, hy0, hb, hkp⟩; refine ⟨_, rfl, ?_⟩; replace HO_8 := ak (Kd.R_mono (ok' := fun k_ => some k_ ≠ (.slice Ao46 t387.length co46 : Value).ownBlock) (Kd.R_keptB (HO_8.out) hkp (fun k_ hk_ hs_ => (hk_) hs_)) (fun k_ hk_ => hk_.1)); replace HO_11 := ak (Kd.R_reok rfl hy0 (fun k_ e_ => HO_11.out.1 k_ e_)); replace HB := ak hb; (try clear hb); (try clear hkp); (try clear hy0)) | ((with_reducible refine gate_callee (f := 29) rfl ?_); refine goesL_ (some 75) rfl rfl Try.func29 (by kernel_rfl) rfl #[.slice Ao46 t399.length co46, .int .i64 1] rfl xq20 ?_; (with_reducible refine (laws_heldByteS.calls kj29 _ _ t399 1 t400 _ ?side1 ?side2 A44.out).mono ?_); (case side1 => exact cA ((Kd.R_reads' HO_11.out).2.2)); (case side2 => exact xq21); rintro e w' ⟨rfl, ⟨nd, rfl⟩⟩; refine ⟨_, rfl, ?_⟩))
       go_ret
       exact ⟨xq1, belA⟩
     rw [if_neg c45] at H; have c45b0 := decide_eq_false c45; clear c45
     by_cases c48 : t400 = t398; rotate_left
     · rw [if_neg c48] at H; have c48b0 : (t400 == t398) = false := beq_eq_false_iff_ne.mpr c48; have c48b1 : (t400 != t398) = true := bne_iff_ne.mpr c48; obtain rfl := Option.some.inj H; obtain ⟨Ao67, co67, eo67⟩ := Kd.R_slice HO_11.out; subst eo67; go_wp2_with (first | ((with_reducible refine gate_callee (f := 28) rfl ?_); refine goB 72 Try.func28 #[.slice Ao67 t387.length co67, .int .i64 1] rfl ?_; (with_reducible refine (laws_markByteS.calls kj29 (fun k_ => some k_ = (.slice Ao67 t387.length co67 : Value).ownBlock) (.slice Ao67 t387.length co67) t387 1 t398 t399 w _ ?side1 ?side2 A43.out).mono ?_); (case side1 => exact xq10); (case side2 => exact Kd.R_tight rfl HO_11.out); rintro e w68 ⟨rfl, hy0, hb, hkp⟩; refine ⟨_, rfl, ?_⟩; replace HO_8 := ak (Kd.R_mono (ok' := fun k_ => some k_ ≠ (.slice Ao67 t387.length co67 : Value).ownBlock) (Kd.R_keptB (HO_8.out) hkp (fun k_ hk_ hs_ => (hk_) hs_)) (fun k_ hk_ => hk_.1)); replace HO_11 := ak (Kd.R_reok rfl hy0 (fun k_ e_ => HO_11.out.1 k_ e_)); replace HB := ak hb; (try clear hb); (try clear hkp); (try clear hy0)) | ((with_reducible refine gate_callee (f := 29) rfl ?_); refine goesL_ (some 75) rfl rfl Try.func29 (by kernel_rfl) rfl #[.slice Ao67 t399.length co67, .int .i64 1] rfl xq20 ?_; (with_reducible refine (laws_heldByteS.calls kj29 _ _ t399 1 t400 _ ?side1 ?side2 A44.out).mono ?_); (case side1 => exact cA ((Kd.R_reads' HO_11.out).2.2)); (case side2 => exact xq21); rintro e w' ⟨rfl, ⟨nd, rfl⟩⟩; refine ⟨_, rfl, ?_⟩))
       go_ret
       exact ⟨xq1, belA⟩
     rw [if_pos c48] at H; have c48b0 : (t400 == t398) = true := beq_iff_eq.mpr c48; have c48b1 : (t400 != t398) = false := bne_eq_false_iff_eq.mpr c48; clear c48; replace H := Option.bind_eq_some_iff.mp H; obtain ⟨t401, A490, H⟩ := H; (try dsimp only at H); have A49 := ak A490; clear A490; replace H := Option.bind_eq_some_iff.mp H; obtain ⟨⟨t404, t405⟩, A500, H⟩ := H; (try dsimp only at H); have A50 := ak A500; clear A500; have HC51 := ak H; clear H; obtain ⟨Ao52, co52, eo52⟩ := Kd.R_slice HO_11.out; subst eo52; go_upto_region 25 with (first | ((with_reducible refine gate_callee (f := 28) rfl ?_); refine goB 72 Try.func28 #[.slice Ao52 t387.length co52, .int .i64 1] rfl ?_; (with_reducible refine (laws_markByteS.calls kj29 (fun k_ => some k_ = (.slice Ao52 t387.length co52 : Value).ownBlock) (.slice Ao52 t387.length co52) t387 1 t398 t399 w _ ?side1 ?side2 A43.out).mono ?_); (case side1 => exact xq10); (case side2 => exact Kd.R_tight rfl HO_11.out); rintro e w53 ⟨rfl, hy0, hb, hkp⟩; refine ⟨_, rfl, ?_⟩; replace HO_8 := ak (Kd.R_mono (ok' := fun k_ => some k_ ≠ (.slice Ao52 t387.length co52 : Value).ownBlock) (Kd.R_keptB (HO_8.out) hkp (fun k_ hk_ hs_ => (hk_) hs_)) (fun k_ hk_ => hk_.1)); replace HO_11 := ak (Kd.R_reok rfl hy0 (fun k_ e_ => HO_11.out.1 k_ e_)); replace HB := ak hb; (try clear hb); (try clear hkp); (try clear hy0)) | ((with_reducible refine gate_callee (f := 29) rfl ?_); refine goesL_ (some 75) rfl rfl Try.func29 (by kernel_rfl) rfl #[.slice Ao52 t399.length co52, .int .i64 1] rfl xq20 ?_; (with_reducible refine (laws_heldByteS.calls kj29 _ _ t399 1 t400 _ ?side1 ?side2 A44.out).mono ?_); (case side1 => exact cA ((Kd.R_reads' HO_11.out).2.2)); (case side2 => exact xq21); rintro e w' ⟨rfl, ⟨nd, rfl⟩⟩; refine ⟨_, rfl, ?_⟩) | ((with_reducible refine gate_callee (f := 23) rfl ?_); refine goB 85 Try.func23 #[.slice A2 l2.length c2] rfl ?_; (with_reducible refine (laws_toJobS.calls kj29 _ _ l2 t401 _ ?side1 ?side2 A49.out).mono ?_); (case side1 => exact cA (Kd.C_below HR2.out belA)); (case side2 => exact HC2.out); rintro e w54 ⟨v402, rfl, ho0, hb⟩; refine ⟨_, rfl, ?_⟩; have HO403 := sL ho0; replace HO_8 := ak (Kd.R_below (rF HO_8) hb); replace HO_11 := ak (Kd.R_below (rF HO_11) hb); replace HB := bS hb; (try clear hb ho0); obtain ⟨Ao55, co55, eo55⟩ := Kd.S_slice HO403.out; subst eo55) | ((with_reducible refine gate_callee (f := 24) rfl ?_); refine goB 86 Try.func24 #[.int .i64 a0, .int .i64 a1, .slice Ao55 t401.length co55] rfl ?_; (with_reducible refine (impl_PackJobs.calls kj29 a0 a1 _ _ t401 t404 t405 _ ?side1 ?side2 A50.out).mono ?_); (case side1 => exact cA ((Kd.S_reads' HO403.out).2.2)); (case side2 => exact (Kd.S_reads' HO403.out).2.1); rintro e w56 ⟨v406, rfl, ho0, hb⟩; refine ⟨_, rfl, ?_⟩; have HO407 := rL (Kd.R_new' (Kd.R_new' ho0 (Kd.R_lt (rF HO_8))) (Kd.R_lt (rF HO_11))); replace HO_8 := ak (Kd.R_elder' (rF HO_8) (Kd.R_base ho0) hb); replace HO_11 := ak (Kd.R_elder' (rF HO_11) (Kd.R_base ho0) hb); replace HO403 := sB HO403 hb; replace HB := bS hb; (try clear hb ho0)))
     (try simp only [Act.put, sa, sb, sc])
     go_cut [97] (fun v97 wc => ∃ (kq : Nat) (x97_50 : Bool), v97 = .bool x97_50 ∧ Aside0 (laws_FnExactPackJobs.j2 kq t399 t398 x97_50 = some r) ∧ Aside0 (kq ≤ kj29) ∧ Aside0 (Kd.R (Kd.int .u8) 5 wc w.heap.size (fun _ => True) (.slice Ao52 t387.length co52) t399) ∧ Aside0 (Below w.heap.size w wc))
     case first =>
      have H := HC51.out; clear HC51; replace H := Option.bind_eq_some_iff.mp H; obtain ⟨t408, A570, H⟩ := H; (try dsimp only at H); have A57 := ak A570; clear A570
      by_cases c58 : t408 = true
      · subst c58; have H1 : (laws_FnExactPackJobs.j2 kj29 t399 t398 (t405 != t381)) = some r := by rw [if_pos rfl] at H; exact H
        clear H; have H := H1; clear H1; have H' := ak H; clear H; obtain ⟨Ao59, co59, eo59⟩ := Kd.R_slice HO407.out; subst eo59; obtain ⟨Ao60, co60, eo60⟩ := Kd.R_slice HO_8.out; subst eo60; go_wp2_with (first | ((with_reducible refine gate_callee (f := 25) rfl ?_); refine goB 91 Try.func25 #[.slice Ao59 t404.length co59, .slice Ao60 t380.length co60] rfl ?_; (with_reducible refine (laws_eqByteS.calls kj29 _ _ t404 _ _ t380 true _ ?side1 ?side2 ?side3 ?side4 A57.out).mono ?_); (case side1 => exact cA ((Kd.R_reads' HO407.out).2.2)); (case side2 => exact (Kd.R_reads' HO407.out).2.1); (case side3 => exact cA ((Kd.R_reads' HO_8.out).2.2)); (case side4 => exact (Kd.R_reads' HO_8.out).2.1); rintro e w' ⟨rfl, ⟨nd, rfl⟩⟩; refine ⟨_, rfl, ?_⟩))
        go_meet
        case rel => exact ⟨_, ((t405 != t381)), eqA, H', ⟨by have := HJ10.out; have := HJ29.out; first | omega | exact Nat.le_refl _⟩, ⟨rE (Kd.R_mono HO_11.out (fun _ hk => trivial))⟩, ⟨belA⟩⟩
      replace c58 := Bool.eq_false_iff.mpr c58; subst c58; have H1 : (laws_FnExactPackJobs.j2 kj29 t399 t398 true) = some r := by rw [if_neg (show ¬ (false = true) by decide)] at H; exact H
      clear H; have H := H1; clear H1; have H' := ak H; clear H; obtain ⟨Ao61, co61, eo61⟩ := Kd.R_slice HO407.out; subst eo61; obtain ⟨Ao62, co62, eo62⟩ := Kd.R_slice HO_8.out; subst eo62; go_wp2_with (first | ((with_reducible refine gate_callee (f := 25) rfl ?_); refine goB 91 Try.func25 #[.slice Ao61 t404.length co61, .slice Ao62 t380.length co62] rfl ?_; (with_reducible refine (laws_eqByteS.calls kj29 _ _ t404 _ _ t380 false _ ?side1 ?side2 ?side3 ?side4 A57.out).mono ?_); (case side1 => exact cA ((Kd.R_reads' HO407.out).2.2)); (case side2 => exact (Kd.R_reads' HO407.out).2.1); (case side3 => exact cA ((Kd.R_reads' HO_8.out).2.2)); (case side4 => exact (Kd.R_reads' HO_8.out).2.1); rintro e w' ⟨rfl, ⟨nd, rfl⟩⟩; refine ⟨_, rfl, ?_⟩))
      go_meet
      case rel => exact ⟨_, (true), eqA, H', ⟨by have := HJ10.out; have := HJ29.out; first | omega | exact Nat.le_refl _⟩, ⟨rE (Kd.R_mono HO_11.out (fun _ hk => trivial))⟩, ⟨belA⟩⟩
     case rest =>
      clear HC51; obtain ⟨kq, x97_50, rfl, HA, HJ50, HO_11, HB⟩ := hcut; have hl11_50 := (Kd.R_reads' HO_11.out).1; rw [hl11_50] at HO_11; (try simp only [hl11_50])
      cases kq with
      | zero => exact absurd HA.out (by simp [laws_FnExactPackJobs.j2])
      | succ kj50 =>
       have H := HA.out; clear HA; simp only [laws_FnExactPackJobs.j2] at H
       by_cases c63 : x97_50 = true
       · subst c63; have H1 : (some false) = some r := by rw [if_pos rfl] at H; exact H
         clear H; have H := H1; clear H1; obtain rfl := Option.some.inj H; go_wp2
         go_ret
         exact ⟨xq1, belA⟩
       replace c63 := Bool.eq_false_iff.mpr c63; subst c63; have H1 : ((laws_heldByteS.f kj50 t399 1).bind fun t409 => (if t409 < 0 then (some false) else (if t409 = t398 then (some true) else (some false)))) = some r := by rw [if_neg (show ¬ (false = true) by decide)] at H; exact H
       clear H; have H := H1; clear H1; replace H := Option.bind_eq_some_iff.mp H; obtain ⟨t409, A640, H⟩ := H; (try dsimp only at H); have A64 := ak A640; clear A640
       by_cases c65 : t409 < 0
       · rw [if_pos c65] at H; have c65b0 := decide_eq_true c65; clear c65; obtain rfl := Option.some.inj H; go_wp2_with (first | ((with_reducible refine gate_callee (f := 29) rfl ?_); refine goB 100 Try.func29 #[.slice Ao52 t399.length co52, .int .i64 1] rfl ?_; (with_reducible refine (laws_heldByteS.calls kj50 _ _ t399 1 t409 _ ?side1 ?side2 A64.out).mono ?_); (case side1 => exact cA ((Kd.R_reads' HO_11.out).2.2)); (case side2 => exact (Kd.R_reads' HO_11.out).2.1); rintro e w' ⟨rfl, ⟨nd, rfl⟩⟩; refine ⟨_, rfl, ?_⟩))
         go_ret
         exact ⟨xq1, belA⟩
       rw [if_neg c65] at H; have c65b0 := decide_eq_false c65; clear c65
       by_cases c66 : t409 = t398; rotate_left
       · rw [if_neg c66] at H; have c66b0 : (t409 == t398) = false := beq_eq_false_iff_ne.mpr c66; have c66b1 : (t409 != t398) = true := bne_iff_ne.mpr c66; obtain rfl := Option.some.inj H; go_wp2_with (first | ((with_reducible refine gate_callee (f := 29) rfl ?_); refine goB 100 Try.func29 #[.slice Ao52 t399.length co52, .int .i64 1] rfl ?_; (with_reducible refine (laws_heldByteS.calls kj50 _ _ t399 1 t409 _ ?side1 ?side2 A64.out).mono ?_); (case side1 => exact cA ((Kd.R_reads' HO_11.out).2.2)); (case side2 => exact (Kd.R_reads' HO_11.out).2.1); rintro e w' ⟨rfl, ⟨nd, rfl⟩⟩; refine ⟨_, rfl, ?_⟩))
         go_ret
         exact ⟨xq1, belA⟩
       rw [if_pos c66] at H; have c66b0 : (t409 == t398) = true := beq_iff_eq.mpr c66; have c66b1 : (t409 != t398) = false := bne_eq_false_iff_eq.mpr c66; clear c66; obtain rfl := Option.some.inj H; go_wp2_with (first | ((with_reducible refine gate_callee (f := 29) rfl ?_); refine goB 100 Try.func29 #[.slice Ao52 t399.length co52, .int .i64 1] rfl ?_; (with_reducible refine (laws_heldByteS.calls kj50 _ _ t399 1 t409 _ ?side1 ?side2 A64.out).mono ?_); (case side1 => exact cA ((Kd.R_reads' HO_11.out).2.2)); (case side2 => exact (Kd.R_reads' HO_11.out).2.1); rintro e w' ⟨rfl, ⟨nd, rfl⟩⟩; refine ⟨_, rfl, ?_⟩))
       go_ret
       exact ⟨xq1, belA⟩

end Go.Proofs.Ytbojabmpcfclhaa.PFnExactPackJobs
