-- Written by a program of this session (the print of the kit with contracts of this session's own added)
import Derived.Test.YtdefnccngnilmaaZFRx11
namespace Go.Proofs.Ytdefnccngnilmaa.PFnResync
open Go.RowKit Go.Proofs.YtdefnccngnilmaaW.PrintWords Go.Proofs.YtdefnccngnilmaaW.PrintLast Go.Proofs.YtdefnccngnilmaaW.PrintMore Go.Proofs.YtdefnccngnilmaaW.PrintPack
attribute [local go_sem] max2_int min2_int max_two min_two max_three min_three max_four min_four   -- for this text's walks alone
set_option linter.unusedVariables false
set_option linter.unusedSimpArgs false

/-! ### impl_bigEndian: function 126 -/
def impl_bigEndian.l0 : Nat → Int → List Int → Int → Option (List Int)
 | 0, _, _, _ => none
 | k + 1, x0, x5, x6 => if x6 ≥ 0 then (if 0 ≤ x6 then (if x6 < (x5.length : Int) then (impl_bigEndian.l0 k (x0 / 256) (x5.set (x6 : Int).toNat ((x0) % 256)) (wrap64 (x6 - 1))) else (none)) else (none)) else (some x5)
def impl_bigEndian.f (k : Nat) (a0 : Int) (a1 : Int) : Option (List Int) := if 0 ≤ a1 then (if (a1 : Int).toNat ≤ 281474976710656 then (impl_bigEndian.l0 k a0 (List.replicate (a1 : Int).toNat 0) (wrap64 (a1 - 1))) else (none)) else (none)
theorem impl_bigEndian.mono_l : ∀ k, (∀ y0 y1 y2, LeO (impl_bigEndian.l0 k y0 y1 y2) (impl_bigEndian.l0 (k + 1) y0 y1 y2))
 | 0 => fun _ _ _ r h => by simp [impl_bigEndian.l0] at h
 | k + 1 => by
  have ih0 := impl_bigEndian.mono_l k
  · intro y0 y1 y2; unfold impl_bigEndian.l0; exact xq18
theorem impl_bigEndian.mono : ∀ a0 a1 k, LeO (impl_bigEndian.f k a0 a1) (impl_bigEndian.f (k + 1) a0 a1) := by
 intro a0 a1 k; have ih0 := impl_bigEndian.mono_l k
 unfold impl_bigEndian.f
 exact xq18
set_option maxHeartbeats 8000000 in
set_option maxRecDepth 100000 in
theorem impl_bigEndian.calls (k : Nat) (a0 : Int) (a1 : Int) (r : List Int) (w : World) (h : impl_bigEndian.f k a0 a1 = some r) :
 Calls Try.prog 126 #[.int .i64 a0, .int .i64 a1] w fun e w' => ∃ v0_ : Value, e = .returned (v0_) ∧ Kd.R (Kd.int .u8) 5 w' w.heap.size (fun _ => True) v0_ r ∧ Below w.heap.size w w' := by
 have HB := ak (Below.refl w.heap.size w); have H : (if 0 ≤ a1 then (if (a1 : Int).toNat ≤ 281474976710656 then (impl_bigEndian.l0 k a0 (List.replicate (a1 : Int).toNat 0) (wrap64 (a1 - 1))) else (none)) else (none)) = some r := h; clear h
 by_cases c3 : 0 ≤ a1; rotate_left
 · rw [if_neg c3] at H; exact absurd H (by simp)
 rw [if_pos c3] at H; have c3b0 := eq_true c3; have c3b1 : decide (0 ≤ a1) = true := decide_eq_true c3; clear c3
 by_cases c4 : (a1 : Int).toNat ≤ 281474976710656; rotate_left
 · rw [if_neg c4] at H; exact absurd H (by simp)
 rw [if_pos c4] at H; have c4b0 := eq_true c4; have c4b1 : decide ((a1 : Int).toNat ≤ 281474976710656) = true := decide_eq_true c4; clear c4; obtain ⟨y735, hyq⟩ : ∃ y_ : List Int, y_ = (List.replicate (a1 : Int).toNat 0) := ⟨_, rfl⟩; replace H : (impl_bigEndian.l0 k a0 y735 (wrap64 (a1 - 1))) = some r := by first | (rw [hyq]; with_reducible exact H) | (have H2_ := (Option.bind_some _ _).symm.trans H; rw [hyq]; with_reducible exact H2_) | (have H2_ := (Option.bind_some _ _).symm.trans H; with_reducible exact H2_) | with_reducible exact H | (rw [hyq]; exact H) | exact H
 have Ny735 := ak hyq; clear hyq; have H' := ak H; clear H; go_enter Try.func126, Try.ntmps126
 go_wp2_with (first | ((with_reducible refine gate_dst (N := 8) rfl ?_); refine Kd.R_make (Kd.int .u8) _ 5 rfl (N := 8) rfl 35 _ _ rfl a1 rfl rfl Try.underlying35 (.int .u8 0) 1 info5 rfl (by decide) (by omega) 0 (ok := fun _ => True) (okp := fun _ => True) rfl (fun _ hk => hk) trivial (odA) (Nat.le_trans (Nat.mul_le_mul_right _ (odA : a1.toNat ≤ 281474976710656)) (by omega)) (Below.refl _ _) (Nat.le_refl _) ?_; intro v736 w5 ho6 hb hg_ hnew_; clear hg_ hnew_; (first | rw [← Ny735.out] at ho6 | (simp only [Int.reduceToNat] at ho6; rw [← Ny735.out] at ho6)); have HO737 := rL ho6; replace HB := bS hb; clear hb ho6))
 go_loopg [0, 6] k (fun kq v0 v6 w' => ∃ (x0_1 : Int) (x5_1 : List Int) (x6_1 : Int), v0 = .int .i64 x0_1 ∧ v6 = .int .i64 x6_1 ∧ Aside0 (impl_bigEndian.l0 kq x0_1 x5_1 x6_1 = some r) ∧ Aside0 (kq ≤ k) ∧ Aside0 (Kd.R (Kd.int .u8) 5 w' w.heap.size (fun _ => True) v736 x5_1) ∧ Aside0 (Below w.heap.size w w'))
 case atStart => exact ⟨(a0), (y735), (wrap64 (a1 - 1)), eqA, eqA, H', ⟨Nat.le_refl _⟩, ⟨rA HO737⟩, ⟨belA⟩⟩
 case round =>
  clear H'; obtain ⟨x0_1, x5_1, x6_1, rfl, rfl, HA, HK1, HO_5, HB⟩ := hrel
  cases gk with
  | zero => exact absurd HA.out (by simp [impl_bigEndian.l0])
  | succ k1 =>
   have H := HA.out; clear HA; simp only [impl_bigEndian.l0] at H
   by_cases c7 : x6_1 ≥ 0; rotate_left
   · rw [if_neg c7] at H; have c7b0 : decide (0 ≤ x6_1) = false := decide_eq_false c7; clear c7; obtain rfl := Option.some.inj H; go_wp2
     go_ret
     exact ⟨_, xq4, xq38, belA⟩
   rw [if_pos c7] at H; have c7b0 : decide (0 ≤ x6_1) = true := decide_eq_true c7; clear c7
   by_cases c8 : 0 ≤ x6_1; rotate_left
   · rw [if_neg c8] at H; exact absurd H (by simp)
   rw [if_pos c8] at H; have c8b0 := decide_eq_true c8; clear c8
   by_cases c9 : x6_1 < (x5_1.length : Int); rotate_left
   · rw [if_neg c9] at H; exact absurd H (by simp)
   rw [if_pos c9] at H; have c9b0 := decide_eq_true c9; clear c9; obtain ⟨y738, hyq⟩ : ∃ y_ : List Int, y_ = (x5_1.set (x6_1 : Int).toNat ((x0_1) % 256)) := ⟨_, rfl⟩; replace H : (impl_bigEndian.l0 k1 (x0_1 / 256) y738 (wrap64 (x6_1 - 1))) = some r := by first | (rw [hyq]; with_reducible exact H) | (have H2_ := (Option.bind_some _ _).symm.trans H; rw [hyq]; with_reducible exact H2_) | (have H2_ := (Option.bind_some _ _).symm.trans H; with_reducible exact H2_) | with_reducible exact H | (rw [hyq]; exact H) | exact H
   have Ny738 := ak hyq; clear hyq; have H' := ak H; clear H; have p10 : 0 ≤ (x6_1 : Int) := odA; have q10 : (x6_1 : Int) < ((x5_1.length : Int) : Int) := odA; obtain ⟨go10, co10, eo10, gb10, gl10, cl10, HG10⟩ := Kd.R_form HO_5.out (by omega); (first | cases eo10 | (injection eo10 with ea_ en_ ec_; (first | subst ea_ | (injection ea_ with ea_; subst ea_)); subst ec_; clear en_))
   have GB10 := ak gb10; have GG10 := ak HG10; clear gb10 gl10 HG10; obtain ⟨hx10_0, hf10_0⟩ := Kd.R_celln 0 HO_5.out (x6_1 : Int) p10 q10; replace p10 := eq_true p10; replace q10 := eq_true q10; have HP11 := Kd.R_putg HO_5.out (x6_1 : Int) ((x0_1) % 256); go_wp2_with (first | ((with_reducible refine gate_store (t := 5) (p := 19) rfl ?_); refine store_event (t := 5) (p := 19) (v := ?vo_w12) (w1 := (wr.setCell ⟨go10, (x6_1 : Int).toNat, none⟩ (.int .u8 ((x0_1) % 256)))) ?hg ?ho ?hn ?hr ?_; (case ho => rfl); (case hg => rfl); (case hn => rfl); (case hr => exact xq9); intro w12 hw; have hg : wr.grownBy w12 (some go10) := (by rw [hw]; exact HP11.2); have hp_ : Kd.R (Kd.int .u8) 5 w12 w.heap.size (fun _ => True) (.slice (some ⟨go10, 0, none⟩) x5_1.length co10) y738 := (by rw [hw, Ny738.out]; exact HP11.1); clear HP11; replace HO_5 := ak hp_; replace HB := ak ((by rw [hw]; exact below_set (HB.out) GB10.out : Below w.heap.size w w12)); clear hg hw hp_))
   go_roundg k1
   case measure => have := HK1.out; omega
   case rel => exact ⟨(x0_1 / 256), (y738), (wrap64 (x6_1 - 1)), eqA, eqA, H', ⟨xq14⟩, ⟨rA HO_5⟩, ⟨belA⟩⟩

/-! ### impl_checkSum: function 127 -/
def impl_checkSum.l0 : Nat → Int → Int → List Int → Int → Int → Option (Int)
 | 0, _, _, _, _, _ => none
 | k + 1, x3, x4, x7, x8, x9 => if x9 < x8 then (if 0 ≤ x9 then (if x9 < (x7.length : Int) then (impl_checkSum.l0 k (Int.tmod (wrap64 (x3 + (wrap64 (rd x7 x9)))) 65521) (Int.tmod (wrap64 (x4 + (Int.tmod (wrap64 (x3 + (wrap64 (rd x7 x9)))) 65521))) 65521) x7 x8 (wrap64 (x9 + 1))) else (none)) else (none)) else (some (wrap64 ((wrap64 (65536 * x4)) + x3)))
def impl_checkSum.f (k : Nat) (l0 : List Int) : Option (Int) := impl_checkSum.l0 k 1 0 l0 (l0.length : Int) 0
theorem impl_checkSum.mono_l : ∀ k, (∀ y0 y1 y2 y3 y4, LeO (impl_checkSum.l0 k y0 y1 y2 y3 y4) (impl_checkSum.l0 (k + 1) y0 y1 y2 y3 y4))
 | 0 => fun _ _ _ _ _ r h => by simp [impl_checkSum.l0] at h
 | k + 1 => by
  have ih0 := impl_checkSum.mono_l k
  · intro y0 y1 y2 y3 y4; unfold impl_checkSum.l0; exact xq78
theorem impl_checkSum.mono : ∀ a0 k, LeO (impl_checkSum.f k a0) (impl_checkSum.f (k + 1) a0) := by
 intro a0 k; have ih0 := impl_checkSum.mono_l k
 unfold impl_checkSum.f
 exact xq78
set_option maxHeartbeats 8000000 in
set_option maxRecDepth 100000 in
theorem impl_checkSum.calls (k : Nat) (A0 : Option Addr) (c0 : Nat) (l0 : List Int) (r : Int) (w : World) (hr0 : Kd.C (Kd.int .u8) w A0 l0.length l0) (hc0 : l0.length ≤ c0) (h : impl_checkSum.f k l0 = some r) :
 Calls Try.prog 127 #[.slice A0 l0.length c0] w fun e w' => e = .returned (.int .i64 r) ∧ Drawn0 w w' := by
 have HR0 := ak hr0; have HC0 := ak hc0; clear hr0 hc0; have H : (impl_checkSum.l0 k 1 0 l0 (l0.length : Int) 0) = some r := h; clear h; have H' := ak H; clear H; go_enter Try.func127, Try.ntmps127
 go_wp2
 go_loopg [3, 4, 9] k (fun kq v3 v4 v9 w' => ∃ (x3_1 : Int) (x4_1 : Int) (x9_1 : Int), v3 = .int .i64 x3_1 ∧ v4 = .int .i64 x4_1 ∧ v9 = .int .i64 x9_1 ∧ Aside0 (impl_checkSum.l0 kq x3_1 x4_1 l0 (l0.length : Int) x9_1 = some r) ∧ Aside0 (kq ≤ k) ∧ Drawn0 w w')
 case atStart => exact ⟨(1), (0), (0), eqA, eqA, eqA, H', ⟨Nat.le_refl _⟩, xq5⟩
 case round =>
  clear H'; obtain ⟨x3_1, x4_1, x9_1, rfl, rfl, rfl, HA, HK1, ⟨m1, rfl⟩⟩ := hrel
  cases gk with
  | zero => exact absurd HA.out (by simp [impl_checkSum.l0])
  | succ k1 =>
   have H := HA.out; clear HA; simp only [impl_checkSum.l0] at H
   by_cases c2 : x9_1 < (l0.length : Int); rotate_left
   · rw [if_neg c2] at H; have c2b0 := decide_eq_false c2; clear c2; obtain rfl := Option.some.inj H; go_wp2
     go_ret
     exact ⟨xq8, xq5⟩
   rw [if_pos c2] at H; have c2b0 := decide_eq_true c2; clear c2
   by_cases c3 : 0 ≤ x9_1; rotate_left
   · rw [if_neg c3] at H; exact absurd H (by simp)
   rw [if_pos c3] at H; have c3b0 := decide_eq_true c3; clear c3
   by_cases c4 : x9_1 < (l0.length : Int); rotate_left
   · rw [if_neg c4] at H; exact absurd H (by simp)
   rw [if_pos c4] at H; have c4b0 := decide_eq_true c4; clear c4; have H' := ak H; clear H; have p739 : 0 ≤ (x9_1 : Int) := odA; have q739 : x9_1 < (l0.length : Int) := odA; obtain ⟨ad739, e739, hx739_0⟩ := Kd.at_int HR0.out x9_1 p739 q739
   cases e739
   replace p739 := eq_true p739; replace q739 := eq_true q739; go_wp2
   go_roundg k1
   case measure => have := HK1.out; omega
   case rel => exact ⟨(Int.tmod (wrap64 (x3_1 + (wrap64 (rd l0 x9_1)))) 65521), (Int.tmod (wrap64 (x4_1 + (Int.tmod (wrap64 (x3_1 + (wrap64 (rd l0 x9_1)))) 65521))) 65521), (wrap64 (x9_1 + 1)), eqA, eqA, eqA, H', ⟨xq14⟩, xq5⟩

/-! ### impl_encodeFrame: function 85 -/
def impl_encodeFrame.f (k : Nat) (a0_0 : Int) (a0_1 : Int) (l0_2 : List Int) : Option (List Int) := (some (([199, 77, (a0_0) % 256] : List Int) : List Int)).bind fun y741 => ((impl_bigEndian.f k a0_1 4).bind fun t744 => (if y741.length + t744.length < 140737488355328 then ((some (y741 ++ t744 : List Int)).bind fun y747 => ((impl_bigEndian.f k (l0_2.length : Int) 2).bind fun t750 => (if y747.length + t750.length < 140737488355328 then ((some (y747 ++ t750 : List Int)).bind fun y753 => (if y753.length + l0_2.length < 140737488355328 then ((some (y753 ++ l0_2 : List Int)).bind fun y756 => (if 2 ≤ (y756.length : Int) then ((impl_checkSum.f k (y756.drop 2)).bind fun t763 => ((impl_bigEndian.f k t763 4).bind fun t764 => (if y756.length + t764.length < 140737488355328 then (some (y756 ++ t764)) else (none)))) else (none))) else (none))) else (none)))) else (none)))
theorem impl_encodeFrame.mono : ∀ a0 a1 a2 k, LeO (impl_encodeFrame.f k a0 a1 a2) (impl_encodeFrame.f (k + 1) a0 a1 a2) := by
 intro a0 a1 a2 k
 unfold impl_encodeFrame.f
 exact (by repeat' (with_reducible first | exact impl_bigEndian.mono _ _ _ | exact impl_checkSum.mono _ _ | exact LeO.refl _ | exact LeO.none _ | refine LeO.ite ?_ ?_ | refine LeO.bind ?_ (fun _ => ?_)))
set_option maxHeartbeats 8000000 in
set_option maxRecDepth 100000 in
theorem impl_encodeFrame.calls (k : Nat) (a0_0 : Int) (a0_1 : Int) (A0_2 : Option Addr) (c0_2 : Nat) (l0_2 : List Int) (r : List Int) (w : World) (hr0_2 : Kd.C (Kd.int .u8) w A0_2 l0_2.length l0_2) (hc0_2 : l0_2.length ≤ c0_2) (h : impl_encodeFrame.f k a0_0 a0_1 l0_2 = some r) :
 Calls Try.prog 85 #[.agg #[.int .i64 a0_0, .int .i64 a0_1, .slice A0_2 l0_2.length c0_2]] w fun e w' => ∃ v0_ : Value, e = .returned (v0_) ∧ Kd.R (Kd.int .u8) 5 w' w.heap.size (fun _ => True) v0_ r ∧ Below w.heap.size w w' := by
 have hu59 := Try.underlying59; have HR0_2 := ak hr0_2; have HC0_2 := ak hc0_2; clear hr0_2 hc0_2; have HB := ak (Below.refl w.heap.size w); have H : ((some (([199, 77, (a0_0) % 256] : List Int) : List Int)).bind fun y741 => ((impl_bigEndian.f k a0_1 4).bind fun t744 => (if y741.length + t744.length < 140737488355328 then ((some (y741 ++ t744 : List Int)).bind fun y747 => ((impl_bigEndian.f k (l0_2.length : Int) 2).bind fun t750 => (if y747.length + t750.length < 140737488355328 then ((some (y747 ++ t750 : List Int)).bind fun y753 => (if y753.length + l0_2.length < 140737488355328 then ((some (y753 ++ l0_2 : List Int)).bind fun y756 => (if 2 ≤ (y756.length : Int) then ((impl_checkSum.f k (y756.drop 2)).bind fun t763 => ((impl_bigEndian.f k t763 4).bind fun t764 => (if y756.length + t764.length < 140737488355328 then (some (y756 ++ t764)) else (none)))) else (none))) else (none))) else (none)))) else (none)))) = some r := h; clear h; obtain ⟨y741, hyq⟩ : ∃ y_ : List Int, y_ = (([199, 77, (a0_0) % 256] : List Int)) := ⟨_, rfl⟩; replace H : ((impl_bigEndian.f k a0_1 4).bind fun t744 => (if y741.length + t744.length < 140737488355328 then ((some (y741 ++ t744 : List Int)).bind fun y747 => ((impl_bigEndian.f k (l0_2.length : Int) 2).bind fun t750 => (if y747.length + t750.length < 140737488355328 then ((some (y747 ++ t750 : List Int)).bind fun y753 => (if y753.length + l0_2.length < 140737488355328 then ((some (y753 ++ l0_2 : List Int)).bind fun y756 => (if 2 ≤ (y756.length : Int) then ((impl_checkSum.f k (y756.drop 2)).bind fun t763 => ((impl_bigEndian.f k t763 4).bind fun t764 => (if y756.length + t764.length < 140737488355328 then (some (y756 ++ t764)) else (none)))) else (none))) else (none))) else (none)))) else (none))) = some r := by first | (rw [hyq]; with_reducible exact H) | (have H2_ := (Option.bind_some _ _).symm.trans H; rw [hyq]; with_reducible exact H2_) | (have H2_ := (Option.bind_some _ _).symm.trans H; with_reducible exact H2_) | with_reducible exact H | (rw [hyq]; exact H) | exact H
 have Ny741 := ak hyq; clear hyq; replace H := Option.bind_eq_some_iff.mp H; obtain ⟨t744, A20, H⟩ := H; (try dsimp only at H); have A2 := ak A20; clear A20
 by_cases c3 : y741.length + t744.length < 140737488355328; rotate_left
 · rw [if_neg c3] at H; exact absurd H (by simp)
 rw [if_pos c3] at H; have LMc3 := ak c3; clear c3; obtain ⟨y747, hyq⟩ : ∃ y_ : List Int, y_ = (y741 ++ t744) := ⟨_, rfl⟩; replace H : ((impl_bigEndian.f k (l0_2.length : Int) 2).bind fun t750 => (if y747.length + t750.length < 140737488355328 then ((some (y747 ++ t750 : List Int)).bind fun y753 => (if y753.length + l0_2.length < 140737488355328 then ((some (y753 ++ l0_2 : List Int)).bind fun y756 => (if 2 ≤ (y756.length : Int) then ((impl_checkSum.f k (y756.drop 2)).bind fun t763 => ((impl_bigEndian.f k t763 4).bind fun t764 => (if y756.length + t764.length < 140737488355328 then (some (y756 ++ t764)) else (none)))) else (none))) else (none))) else (none))) = some r := by first | (rw [hyq]; with_reducible exact H) | (have H2_ := (Option.bind_some _ _).symm.trans H; rw [hyq]; with_reducible exact H2_) | (have H2_ := (Option.bind_some _ _).symm.trans H; with_reducible exact H2_) | with_reducible exact H | (rw [hyq]; exact H) | exact H
 have Ny747 := ak hyq; clear hyq; replace H := Option.bind_eq_some_iff.mp H; obtain ⟨t750, A40, H⟩ := H; (try dsimp only at H); have A4 := ak A40; clear A40
 by_cases c5 : y747.length + t750.length < 140737488355328; rotate_left
 · rw [if_neg c5] at H; exact absurd H (by simp)
 rw [if_pos c5] at H; have LMc5 := ak c5; clear c5; obtain ⟨y753, hyq⟩ : ∃ y_ : List Int, y_ = (y747 ++ t750) := ⟨_, rfl⟩; replace H : (if y753.length + l0_2.length < 140737488355328 then ((some (y753 ++ l0_2 : List Int)).bind fun y756 => (if 2 ≤ (y756.length : Int) then ((impl_checkSum.f k (y756.drop 2)).bind fun t763 => ((impl_bigEndian.f k t763 4).bind fun t764 => (if y756.length + t764.length < 140737488355328 then (some (y756 ++ t764)) else (none)))) else (none))) else (none)) = some r := by first | (rw [hyq]; with_reducible exact H) | (have H2_ := (Option.bind_some _ _).symm.trans H; rw [hyq]; with_reducible exact H2_) | (have H2_ := (Option.bind_some _ _).symm.trans H; with_reducible exact H2_) | with_reducible exact H | (rw [hyq]; exact H) | exact H
 have Ny753 := ak hyq; clear hyq
 by_cases c6 : y753.length + l0_2.length < 140737488355328; rotate_left
 · rw [if_neg c6] at H; exact absurd H (by simp)
 rw [if_pos c6] at H; have LMc6 := ak c6; clear c6; obtain ⟨y756, hyq⟩ : ∃ y_ : List Int, y_ = (y753 ++ l0_2) := ⟨_, rfl⟩; replace H : (if 2 ≤ (y756.length : Int) then ((impl_checkSum.f k (y756.drop 2)).bind fun t763 => ((impl_bigEndian.f k t763 4).bind fun t764 => (if y756.length + t764.length < 140737488355328 then (some (y756 ++ t764)) else (none)))) else (none)) = some r := by first | (rw [hyq]; with_reducible exact H) | (have H2_ := (Option.bind_some _ _).symm.trans H; rw [hyq]; with_reducible exact H2_) | (have H2_ := (Option.bind_some _ _).symm.trans H; with_reducible exact H2_) | with_reducible exact H | (rw [hyq]; exact H) | exact H
 have Ny756 := ak hyq; clear hyq
 by_cases c7 : 2 ≤ (y756.length : Int); rotate_left
 · rw [if_neg c7] at H; exact absurd H (by simp)
 rw [if_pos c7] at H; have c7b0 := eq_true c7; have c7b1 : decide (2 ≤ (y756.length : Int)) = true := decide_eq_true c7; clear c7; obtain ⟨y759, hyq⟩ : ∃ y_ : List Int, y_ = (y756.drop 2) := ⟨_, rfl⟩; replace H : ((impl_checkSum.f k y759).bind fun t763 => ((impl_bigEndian.f k t763 4).bind fun t764 => (if y756.length + t764.length < 140737488355328 then (some (y756 ++ t764)) else (none)))) = some r := by first | (rw [hyq]; with_reducible exact H) | (have H2_ := (Option.bind_some _ _).symm.trans H; rw [hyq]; with_reducible exact H2_) | (have H2_ := (Option.bind_some _ _).symm.trans H; with_reducible exact H2_) | with_reducible exact H | (rw [hyq]; exact H) | exact H
 have Ny759 := ak hyq; clear hyq; replace H := Option.bind_eq_some_iff.mp H; obtain ⟨t763, A80, H⟩ := H; (try dsimp only at H); have A8 := ak A80; clear A80; replace H := Option.bind_eq_some_iff.mp H; obtain ⟨t764, A90, H⟩ := H; (try dsimp only at H); have A9 := ak A90; clear A90
 by_cases c10 : y756.length + t764.length < 140737488355328; rotate_left
 · rw [if_neg c10] at H; exact absurd H (by simp)
 rw [if_pos c10] at H; have LMc10 := ak c10; clear c10; obtain ⟨y767, hyq⟩ : ∃ y_ : List Int, y_ = (y756 ++ t764) := ⟨_, rfl⟩; replace H : (some y767) = some r := by first | (rw [hyq]; with_reducible exact H) | (have H2_ := (Option.bind_some _ _).symm.trans H; rw [hyq]; with_reducible exact H2_) | (have H2_ := (Option.bind_some _ _).symm.trans H; with_reducible exact H2_) | with_reducible exact H | (rw [hyq]; exact H) | exact H
 have Ny767 := ak hyq; clear hyq; obtain rfl := Option.some.inj H; go_enter Try.func85, Try.ntmps85
 go_wp2_with (first | ((with_reducible refine gate_dst (N := 1) rfl ?_); refine boxA 1 #[.int .i64 a0_0, .int .i64 a0_1, .slice A0_2 l0_2.length c0_2] 59 ?_; intro gb740 hg w11 hbox hb; have BK740 := ak hbox; have GW740 := leA (w := w) hg; have GE740 := leA (w := w) hg; replace HB := bS hb; clear hb hbox hg; obtain ⟨hcz12_0, hcz12_1, hcz12_2, hfz12_0, hfz12_1, hfz12_2⟩ := cel3 BK740) | ((with_reducible refine gate_dst (N := 7) rfl ?_); refine Kd.R_lit (Kd.int .u8) _ 5 ?hg (N := 7) ?hd (xs := ([199, 77, (a0_0) % 256] : List Int)) (inner := [.int .u8 199, .int .u8 77, .int .u8 ((a0_0) % 256)]) (ok := fun _ => True) (okp := fun _ => True) ?hr ?hp (fun _ hk => hk) trivial (Below.refl _ _) (Nat.le_refl _) (by simp) ?_; (case hd => rfl); (case hg => rfl); (case hr => exact xq9); (case hp => exact (Reps.one (show Kd.M (Kd.int .u8) _ _ _ 199 [.int .u8 199] from rfl) (Reps.one (show Kd.M (Kd.int .u8) _ _ _ 77 [.int .u8 77] from rfl) (Reps.one (show Kd.M (Kd.int .u8) _ _ _ ((a0_0) % 256) [.int .u8 ((a0_0) % 256)] from rfl) (Reps.none _ _))))); intro v742 w13 ho14 hb hg_ hnew_; clear hg_ hnew_; (first | rw [← Ny741.out] at ho14 | (simp only [Int.reduceToNat] at ho14; rw [← Ny741.out] at ho14)); have HO743 := rL ho14; replace BK740 := bB BK740 hb; replace HB := bS hb; clear hb ho14; obtain ⟨hcz15_0, hcz15_1, hcz15_2, hfz15_0, hfz15_1, hfz15_2⟩ := cel3 BK740) | ((with_reducible refine gate_callee (f := 126) rfl ?_); refine goB 11 Try.func126 #[.int .i64 a0_1, .int .i64 4] rfl ?_; (with_reducible refine (impl_bigEndian.calls k a0_1 4 t744 _ A2.out).mono ?_); rintro e w16 ⟨v745, rfl, ho0, hb⟩; refine ⟨_, rfl, ?_⟩; have HO746 := rL (Kd.R_new' ho0 (Kd.R_lt (rF HO743))); replace HO743 := ak (Kd.R_elder' (rF HO743) (Kd.R_base ho0) hb); replace BK740 := bB BK740 hb; replace HB := bS hb; (try clear hb ho0); obtain ⟨Ao18, co18, eo18⟩ := Kd.R_slice HO746.out; subst eo18) | ((with_reducible refine gate_builtin (b := .append) (xs := #[.tmp 8, .tmp 11]) rfl ?_); at_builtin; refine Kd.R_append_rows (Kd.int .u8) (w0 := w) w.heap.size rfl (.tmp 8) (.tmp 11) 35 5 (.int .u8 0) 1 rfl Try.underlying35 info5 rfl (by decide) (by omega) v742 y741 t744 _ _ _ (fun k_ => some k_ ≠ (.slice Ao18 t744.length co18 : Value).ownBlock) (fun _ => False) rfl rfl ?aO ?aR (fun _ _ h => h) (fun _ h => h.elim) ?aF ?aB ?aS ?aL ?_; (case aR => repeat (first | exact (Kd.R_reads' HO746.out).2.2 | (with_reducible refine Kd.C_alloc ?_ _) | (with_reducible refine Kd.C_drewN ?_ _) | (with_reducible refine Kd.C_drew ?_))); (case aB => exact belA); (case aF => exact (fun k_ hk => Kd.fresh' (Kd.R_lt (rF HO746)) k_ hk)); (case aO => exact (rE (Kd.R_mono HO743.out (fun _ hk => hk.2)))); (case aS => exact (below_size belA)); (case aL => have := LMc3.out; omega); intro v748 w17 ho hb hg hat; rw [← Ny747.out] at ho; have HO749 := ak ho; replace BK740 := ak (blk_grown (g := gb740) (o := .cells #[.int .i64 a0_0, .int .i64 a0_1, .slice A0_2 l0_2.length c0_2] 59 (0, 0)) blkA hg (Kd.R_ne HO743.out BK740.out (by decide))); replace HO746 := ak (Kd.R_after (ok := (fun _ => True)) (rF HO746) hg hat); replace HB := ak hb; clear HO743; clear ho hb hg hat; obtain ⟨hcz19_0, hcz19_1, hcz19_2, hfz19_0, hfz19_1, hfz19_2⟩ := cel3 BK740) | ((with_reducible refine gate_callee (f := 126) rfl ?_); refine goB 17 Try.func126 #[.int .i64 (l0_2.length : Int), .int .i64 2] rfl ?_; (with_reducible refine (impl_bigEndian.calls k (l0_2.length : Int) 2 t750 _ A4.out).mono ?_); rintro e w20 ⟨v751, rfl, ho0, hb⟩; refine ⟨_, rfl, ?_⟩; have HO752 := rL (Kd.R_new' (Kd.R_new' ho0 (Kd.R_lt (rF HO746))) (Kd.R_lt (rF HO749))); replace HO746 := ak (Kd.R_elder' (rF HO746) (Kd.R_base ho0) hb); replace HO749 := ak (Kd.R_elder' (rF HO749) (Kd.R_base ho0) hb); replace BK740 := bB BK740 hb; replace HB := bS hb; (try clear hb ho0); obtain ⟨Ao22, co22, eo22⟩ := Kd.R_slice HO752.out; subst eo22) | ((with_reducible refine gate_builtin (b := .append) (xs := #[.tmp 13, .tmp 17]) rfl ?_); at_builtin; refine Kd.R_append_rows (Kd.int .u8) (w0 := w) w.heap.size rfl (.tmp 13) (.tmp 17) 35 5 (.int .u8 0) 1 rfl Try.underlying35 info5 rfl (by decide) (by omega) v748 y747 t750 _ _ _ (fun k_ => some k_ ≠ (.slice Ao18 t744.length co18 : Value).ownBlock ∧ some k_ ≠ (.slice Ao22 t750.length co22 : Value).ownBlock) (fun _ => False) rfl rfl ?aO ?aR (fun _ _ h => h) (fun _ h => h.elim) ?aF ?aB ?aS ?aL ?_; (case aR => repeat (first | exact (Kd.R_reads' HO752.out).2.2 | (with_reducible refine Kd.C_alloc ?_ _) | (with_reducible refine Kd.C_drewN ?_ _) | (with_reducible refine Kd.C_drew ?_))); (case aB => exact belA); (case aF => exact xq81); (case aO => exact (rF HO749)); (case aS => exact (below_size belA)); (case aL => have := LMc5.out; omega); intro v754 w21 ho hb hg hat; rw [← Ny753.out] at ho; have HO755 := ak ho; replace BK740 := ak (blk_grown (g := gb740) (o := .cells #[.int .i64 a0_0, .int .i64 a0_1, .slice A0_2 l0_2.length c0_2] 59 (0, 0)) blkA hg (Kd.R_ne HO749.out BK740.out (by decide))); replace HO746 := ak (Kd.R_after (ok := (fun k_ => some k_ ≠ (.slice Ao22 t750.length co22 : Value).ownBlock)) (by (with_reducible repeat (first | apply Kd.R_alloc | apply Kd.R_drewN | apply Kd.R_drew)); first | exact Kd.R_mono HO746.out (fun _ hk => ⟨hk.2, hk.1.2⟩) | exact Kd.R_mono HO746.out (fun _ _ => trivial)) hg hat); replace HO752 := ak (Kd.R_after (ok := (fun k_ => some k_ ≠ (.slice Ao18 t744.length co18 : Value).ownBlock)) (by (with_reducible repeat (first | apply Kd.R_alloc | apply Kd.R_drewN | apply Kd.R_drew)); first | exact Kd.R_mono HO752.out (fun _ hk => ⟨hk.1.2, hk.2⟩) | exact Kd.R_mono HO752.out (fun _ _ => trivial)) hg hat); replace HB := ak hb; clear HO749; clear ho hb hg hat; obtain ⟨hcz23_0, hcz23_1, hcz23_2, hfz23_0, hfz23_1, hfz23_2⟩ := cel3 BK740) | ((with_reducible refine gate_builtin (b := .append) (xs := #[.tmp 19, .tmp 21]) rfl ?_); at_builtin; refine Kd.R_append_rows (Kd.int .u8) (w0 := w) w.heap.size rfl (.tmp 19) (.tmp 21) 35 5 (.int .u8 0) 1 rfl Try.underlying35 info5 rfl (by decide) (by omega) v754 y753 l0_2 _ _ _ (fun k_ => some k_ ≠ (.slice Ao18 t744.length co18 : Value).ownBlock ∧ some k_ ≠ (.slice Ao22 t750.length co22 : Value).ownBlock) (fun _ => False) rfl rfl ?aO ?aR (fun _ _ h => h) (fun _ h => h.elim) ?aF ?aB ?aS ?aL ?_; (case aR => repeat (first | exact (Kd.C_below HR0_2.out HB.out) | (with_reducible refine Kd.C_alloc ?_ _) | (with_reducible refine Kd.C_drewN ?_ _) | (with_reducible refine Kd.C_drew ?_))); (case aB => exact belA); (case aF => exact xq81); (case aO => exact (rF HO755)); (case aS => exact (below_size belA)); (case aL => have := LMc6.out; omega); intro v757 w24 ho hb hg hat; rw [← Ny756.out] at ho; have HO758 := ak ho; replace BK740 := ak (blk_grown (g := gb740) (o := .cells #[.int .i64 a0_0, .int .i64 a0_1, .slice A0_2 l0_2.length c0_2] 59 (0, 0)) blkA hg (Kd.R_ne HO755.out BK740.out (by decide))); replace HO746 := ak (Kd.R_after (ok := (fun k_ => some k_ ≠ (.slice Ao22 t750.length co22 : Value).ownBlock)) (rF HO746) hg hat); replace HO752 := ak (Kd.R_after (ok := (fun k_ => some k_ ≠ (.slice Ao18 t744.length co18 : Value).ownBlock)) (rF HO752) hg hat); replace HB := ak hb; clear HO755; clear ho hb hg hat; obtain ⟨Ao26, co26, eo26⟩ := Kd.R_slice HO758.out; subst eo26; have q25 : (2 : Int) ≤ ((y756.length : Int) : Int) := odA; obtain ⟨i025, hi025, _, hsz25, _⟩ := info_parts info5; have hroom25 : y756.length ≤ co26 := (Kd.R_reads' HO758.out).2.1; have hC25 : Kd.C (Kd.int .u8) _ Ao26 y756.length y756 := (Kd.R_reads' HO758.out).2.2; have hcut25 := cut_from (P := Try.prog) 35 5 .i64 Try.underlying35 hi025 1 hsz25 Ao26 y756.length co26 2 (by omega) q25; have hr25 := Kd.C_drop (m := (2 : Int).toNat) (c := co26) hC25 (by omega) hroom25; obtain ⟨A25, hA25⟩ : ∃ A1, A1 = (if co26 = (2 : Int).toNat then Ao26 else (Ao26 : Option Addr).map (·.add ((2 : Int).toNat * 1))) := ⟨_, rfl⟩; obtain ⟨c25, hc25⟩ : ∃ c1, c1 = co26 - (2 : Int).toNat := ⟨_, rfl⟩; have hy25 : y759.length = y756.length - (2 : Int).toNat := (by rw [Ny759.out, List.length_drop] <;> omega); rw [show (y756).drop (2 : Int).toNat = y759 from Ny759.out.symm] at hr25; replace hr25 : Kd.C (Kd.int .u8) _ A25 y759.length y759 := (by rw [hA25]; exact hr25); rw [← hy25, ← hA25, ← hc25] at hcut25; have HR762 := ak hr25; have HC762 := ak (show y759.length ≤ c25 from by rw [hy25, hc25]; exact Nat.sub_le_sub_right hroom25 _); clear hr25 hC25 hroom25 hi025 hsz25 hc25; have KY25 := ak hy25; have KA25 := ak hA25; clear hy25 hA25; have KL25 := ak (show 2 ≤ y756.length from by omega); replace q25 := eq_true q25) | ((with_reducible refine gate_callee (f := 127) rfl ?_); refine goB 26 Try.func127 #[.slice A25 y759.length c25] rfl ?_; (with_reducible refine (impl_checkSum.calls k _ _ y759 t763 _ ?side1 ?side2 A8.out).mono ?_); (case side1 => repeat (first | exact xq79 | (with_reducible refine Kd.C_alloc ?_ _) | (with_reducible refine Kd.C_drewN ?_ _) | (with_reducible refine Kd.C_drew ?_))); (case side2 => exact HC762.out); rintro e w' ⟨rfl, ⟨nd, rfl⟩⟩; refine ⟨_, rfl, ?_⟩) | ((with_reducible refine gate_callee (f := 126) rfl ?_); refine goB 27 Try.func126 #[.int .i64 t763, .int .i64 4] rfl ?_; (with_reducible refine (impl_bigEndian.calls k t763 4 t764 _ A9.out).mono ?_); rintro e w27 ⟨v765, rfl, ho0, hb⟩; refine ⟨_, rfl, ?_⟩; have HO766 := rL (Kd.R_new' (Kd.R_new' (Kd.R_new' ho0 (Kd.R_lt (rF HO746))) (Kd.R_lt (rF HO752))) (Kd.R_lt (rF HO758))); replace HO746 := ak (Kd.R_elder' (rF HO746) (Kd.R_base ho0) hb); replace HO752 := ak (Kd.R_elder' (rF HO752) (Kd.R_base ho0) hb); replace HO758 := ak (Kd.R_elder' (rF HO758) (Kd.R_base ho0) hb); replace BK740 := bB BK740 hb; replace HR762 := ak (Kd.C_below xq79 hb); replace HB := bS hb; (try clear hb ho0); obtain ⟨Ao29, co29, eo29⟩ := Kd.R_slice HO766.out; subst eo29) | ((with_reducible refine gate_builtin (b := .append) (xs := #[.tmp 23, .tmp 27]) rfl ?_); at_builtin; refine Kd.R_append_rows (Kd.int .u8) (w0 := w) w.heap.size rfl (.tmp 23) (.tmp 27) 35 5 (.int .u8 0) 1 rfl Try.underlying35 info5 rfl (by decide) (by omega) (.slice Ao26 y756.length co26) y756 t764 _ _ _ (fun k_ => some k_ ≠ (.slice Ao18 t744.length co18 : Value).ownBlock ∧ some k_ ≠ (.slice Ao22 t750.length co22 : Value).ownBlock ∧ some k_ ≠ (.slice Ao29 t764.length co29 : Value).ownBlock) (fun _ => False) rfl rfl ?aO ?aR (fun _ _ h => h) (fun _ h => h.elim) ?aF ?aB ?aS ?aL ?_; (case aR => repeat (first | exact (Kd.R_reads' HO766.out).2.2 | (with_reducible refine Kd.C_alloc ?_ _) | (with_reducible refine Kd.C_drewN ?_ _) | (with_reducible refine Kd.C_drew ?_))); (case aB => exact belA); (case aF => exact (fun k_ hk => ⟨Kd.fresh' (Kd.R_lt (rF HO746)) k_ hk, Kd.fresh' (Kd.R_lt (rF HO752)) k_ hk, Kd.fresh' (Kd.R_lt (rF HO766)) k_ hk⟩)); (case aO => exact (rE (Kd.R_mono HO758.out (fun _ hk => ⟨hk.1.1, ⟨hk.1.2, hk.2⟩⟩)))); (case aS => exact (below_size belA)); (case aL => have := LMc10.out; omega); intro v768 w28 ho hb hg hat; rw [← Ny767.out] at ho; have HO769 := ak ho; replace BK740 := ak (blk_grown (g := gb740) (o := .cells #[.int .i64 a0_0, .int .i64 a0_1, .slice A0_2 l0_2.length c0_2] 59 (0, 0)) blkA hg (Kd.R_ne HO758.out BK740.out (by decide))); replace HO746 := ak (Kd.R_after (ok := (fun k_ => some k_ ≠ (.slice Ao22 t750.length co22 : Value).ownBlock ∧ some k_ ≠ (.slice Ao29 t764.length co29 : Value).ownBlock)) (rE (Kd.R_mono HO746.out (fun _ hk => ⟨⟨hk.1.1, hk.2⟩, hk.1.2⟩))) hg hat); replace HO752 := ak (Kd.R_after (ok := (fun k_ => some k_ ≠ (.slice Ao18 t744.length co18 : Value).ownBlock ∧ some k_ ≠ (.slice Ao29 t764.length co29 : Value).ownBlock)) (rE (Kd.R_mono HO752.out (fun _ hk => ⟨⟨hk.1.1, hk.2⟩, hk.1.2⟩))) hg hat); replace HO766 := ak (Kd.R_after (ok := (fun k_ => some k_ ≠ (.slice Ao18 t744.length co18 : Value).ownBlock ∧ some k_ ≠ (.slice Ao22 t750.length co22 : Value).ownBlock)) (rE (Kd.R_mono HO766.out (fun _ hk => ⟨⟨hk.1.1.2, hk.1.2⟩, hk.2⟩))) hg hat); replace HB := ak hb; clear HO758; clear ho hb hg hat))
 go_ret
 exact ⟨_, xq4, by (with_reducible repeat (first | apply Kd.R_alloc | apply Kd.R_drewN | apply Kd.R_drew)); exact Kd.R_mono HO769.out (fun _ hk => trivial), belA⟩

/-! ### impl_EncodeFrame: function 38 -/
def impl_EncodeFrame.f (k : Nat) (a0_0 : Int) (a0_1 : Int) (l0_2 : List Int) : Option (List Int) := (impl_isFrame.f a0_0 a0_1 l0_2).bind fun t771 => (if t771 = true then ((impl_encodeFrame.f k a0_0 a0_1 l0_2).bind fun t772 => (some t772)) else (some ([] : List Int)))
theorem impl_EncodeFrame.mono : ∀ a0 a1 a2 k, LeO (impl_EncodeFrame.f k a0 a1 a2) (impl_EncodeFrame.f (k + 1) a0 a1 a2) := by
 intro a0 a1 a2 k
 unfold impl_EncodeFrame.f
 exact (by repeat' (with_reducible first | exact impl_encodeFrame.mono _ _ _ _ | exact LeO.refl _ | exact LeO.none _ | refine LeO.ite ?_ ?_ | refine LeO.bind ?_ (fun _ => ?_)))
set_option maxHeartbeats 8000000 in
set_option maxRecDepth 100000 in
theorem impl_EncodeFrame.calls (k : Nat) (a0_0 : Int) (a0_1 : Int) (A0_2 : Option Addr) (c0_2 : Nat) (l0_2 : List Int) (r : List Int) (w : World) (hr0_2 : Kd.C (Kd.int .u8) w A0_2 l0_2.length l0_2) (hc0_2 : l0_2.length ≤ c0_2) (h : impl_EncodeFrame.f k a0_0 a0_1 l0_2 = some r) :
 Calls Try.prog 38 #[.agg #[.int .i64 a0_0, .int .i64 a0_1, .slice A0_2 l0_2.length c0_2]] w fun e w' => ∃ v0_ : Value, e = .returned (v0_) ∧ Kd.R (Kd.int .u8) 5 w' w.heap.size (fun _ => True) v0_ r ∧ Below w.heap.size w w' := by
 have hu59 := Try.underlying59; have HR0_2 := ak hr0_2; have HC0_2 := ak hc0_2; clear hr0_2 hc0_2; have HB := ak (Below.refl w.heap.size w); have H : ((impl_isFrame.f a0_0 a0_1 l0_2).bind fun t771 => (if t771 = true then ((impl_encodeFrame.f k a0_0 a0_1 l0_2).bind fun t772 => (some t772)) else (some ([] : List Int)))) = some r := h; clear h; replace H := Option.bind_eq_some_iff.mp H; obtain ⟨t771, A20, H⟩ := H; (try dsimp only at H); have A2 := ak A20; clear A20
 by_cases c3 : t771 = true; rotate_left
 · replace c3 := Bool.eq_false_iff.mpr c3; subst c3; have H1 : (some ([] : List Int)) = some r := by rw [if_neg (show ¬ (false = true) by decide)] at H; exact H
   clear H; have H := H1; clear H1; obtain rfl := Option.some.inj H; go_enter Try.func38, Try.ntmps38
   go_wp2_with (first | ((with_reducible refine gate_dst (N := 1) rfl ?_); refine boxA 1 #[.int .i64 a0_0, .int .i64 a0_1, .slice A0_2 l0_2.length c0_2] 59 ?_; intro gb770 hg w10 hbox hb; have BK770 := ak hbox; have GW770 := leA (w := w) hg; have GE770 := leA (w := w) hg; replace HB := bS hb; clear hb hbox hg; obtain ⟨hcz11_0, hcz11_1, hcz11_2, hfz11_0, hfz11_1, hfz11_2⟩ := cel3 BK770) | ((with_reducible refine gate_callee (f := 84) rfl ?_); refine goB 4 Try.func84 #[.agg #[.int .i64 a0_0, .int .i64 a0_1, .slice A0_2 l0_2.length c0_2]] rfl ?_; (with_reducible refine (impl_isFrame.calls a0_0 a0_1 _ _ l0_2 false _ ?side1 ?side2 A2.out).mono ?_); (case side1 => exact cA (Kd.C_below HR0_2.out HB.out)); (case side2 => exact HC0_2.out); rintro e w12 ⟨rfl, hb⟩; refine ⟨_, rfl, ?_⟩; replace BK770 := bB BK770 hb; replace HB := bS hb; (try clear hb)))
   go_ret
   exact ⟨_, xq4, xq19, belA⟩
 subst c3; have H1 : ((impl_encodeFrame.f k a0_0 a0_1 l0_2).bind fun t772 => (some t772)) = some r := by rw [if_pos rfl] at H; exact H
 clear H; have H := H1; clear H1; replace H := Option.bind_eq_some_iff.mp H; obtain ⟨t772, A40, H⟩ := H; (try dsimp only at H); have A4 := ak A40; clear A40; obtain rfl := Option.some.inj H; go_enter Try.func38, Try.ntmps38
 go_wp2_with (first | ((with_reducible refine gate_dst (N := 1) rfl ?_); refine boxA 1 #[.int .i64 a0_0, .int .i64 a0_1, .slice A0_2 l0_2.length c0_2] 59 ?_; intro gb770 hg w5 hbox hb; have BK770 := ak hbox; have GW770 := leA (w := w) hg; have GE770 := leA (w := w) hg; replace HB := bS hb; clear hb hbox hg; obtain ⟨hcz6_0, hcz6_1, hcz6_2, hfz6_0, hfz6_1, hfz6_2⟩ := cel3 BK770) | ((with_reducible refine gate_callee (f := 84) rfl ?_); refine goB 4 Try.func84 #[.agg #[.int .i64 a0_0, .int .i64 a0_1, .slice A0_2 l0_2.length c0_2]] rfl ?_; (with_reducible refine (impl_isFrame.calls a0_0 a0_1 _ _ l0_2 true _ ?side1 ?side2 A2.out).mono ?_); (case side1 => exact cA (Kd.C_below HR0_2.out HB.out)); (case side2 => exact HC0_2.out); rintro e w7 ⟨rfl, hb⟩; refine ⟨_, rfl, ?_⟩; replace BK770 := bB BK770 hb; replace HB := bS hb; (try clear hb); obtain ⟨hcz8_0, hcz8_1, hcz8_2, hfz8_0, hfz8_1, hfz8_2⟩ := cel3 BK770) | ((with_reducible refine gate_callee (f := 85) rfl ?_); refine goB 7 Try.func85 #[.agg #[.int .i64 a0_0, .int .i64 a0_1, .slice A0_2 l0_2.length c0_2]] rfl ?_; (with_reducible refine (impl_encodeFrame.calls k a0_0 a0_1 _ _ l0_2 t772 _ ?side1 ?side2 A4.out).mono ?_); (case side1 => exact cA (Kd.C_below HR0_2.out HB.out)); (case side2 => exact HC0_2.out); rintro e w9 ⟨v773, rfl, ho0, hb⟩; refine ⟨_, rfl, ?_⟩; have HO774 := rL ho0; replace BK770 := bB BK770 hb; replace HB := bS hb; (try clear hb ho0)))
 go_ret
 exact ⟨_, xq4, by (with_reducible repeat (first | apply Kd.R_alloc | apply Kd.R_drewN | apply Kd.R_drew)); exact HO774.out, belA⟩

/-! ### impl_numberIn: function 139 -/
def impl_numberIn.l0 : Nat → Int → List Int → Int → Int → Option (Int)
 | 0, _, _, _, _ => none
 | k + 1, x3, x6, x7, x8 => if x8 < x7 then (if 0 ≤ x8 then (if x8 < (x6.length : Int) then (impl_numberIn.l0 k (Go.bits .or .i64 (wrap64 (x3 * 256)) (wrap64 (rd x6 x8))) x6 x7 (wrap64 (x8 + 1))) else (none)) else (none)) else (some x3)
def impl_numberIn.f (k : Nat) (l0 : List Int) : Option (Int) := impl_numberIn.l0 k 0 l0 (l0.length : Int) 0
theorem impl_numberIn.mono_l : ∀ k, (∀ y0 y1 y2 y3, LeO (impl_numberIn.l0 k y0 y1 y2 y3) (impl_numberIn.l0 (k + 1) y0 y1 y2 y3))
 | 0 => fun _ _ _ _ r h => by simp [impl_numberIn.l0] at h
 | k + 1 => by
  have ih0 := impl_numberIn.mono_l k
  · intro y0 y1 y2 y3; unfold impl_numberIn.l0; exact xq80
theorem impl_numberIn.mono : ∀ a0 k, LeO (impl_numberIn.f k a0) (impl_numberIn.f (k + 1) a0) := by
 intro a0 k; have ih0 := impl_numberIn.mono_l k
 unfold impl_numberIn.f
 exact xq80
set_option maxHeartbeats 8000000 in
set_option maxRecDepth 100000 in
theorem impl_numberIn.calls (k : Nat) (A0 : Option Addr) (c0 : Nat) (l0 : List Int) (r : Int) (w : World) (hr0 : Kd.C (Kd.int .u8) w A0 l0.length l0) (hc0 : l0.length ≤ c0) (h : impl_numberIn.f k l0 = some r) :
 Calls Try.prog 139 #[.slice A0 l0.length c0] w fun e w' => e = .returned (.int .i64 r) ∧ Drawn0 w w' := by
 have HR0 := ak hr0; have HC0 := ak hc0; clear hr0 hc0; have H : (impl_numberIn.l0 k 0 l0 (l0.length : Int) 0) = some r := h; clear h; have H' := ak H; clear H; go_enter Try.func139, Try.ntmps139
 go_wp2
 go_loopg [3, 8] k (fun kq v3 v8 w' => ∃ (x3_1 : Int) (x8_1 : Int), v3 = .int .i64 x3_1 ∧ v8 = .int .i64 x8_1 ∧ Aside0 (impl_numberIn.l0 kq x3_1 l0 (l0.length : Int) x8_1 = some r) ∧ Aside0 (kq ≤ k) ∧ Drawn0 w w')
 case atStart => exact ⟨(0), (0), eqA, eqA, H', ⟨Nat.le_refl _⟩, xq5⟩
 case round =>
  clear H'; obtain ⟨x3_1, x8_1, rfl, rfl, HA, HK1, ⟨m1, rfl⟩⟩ := hrel
  cases gk with
  | zero => exact absurd HA.out (by simp [impl_numberIn.l0])
  | succ k1 =>
   have H := HA.out; clear HA; simp only [impl_numberIn.l0] at H
   by_cases c2 : x8_1 < (l0.length : Int); rotate_left
   · rw [if_neg c2] at H; have c2b0 := decide_eq_false c2; clear c2; obtain rfl := Option.some.inj H; go_wp2
     go_ret
     exact ⟨xq8, xq5⟩
   rw [if_pos c2] at H; have c2b0 := decide_eq_true c2; clear c2
   by_cases c3 : 0 ≤ x8_1; rotate_left
   · rw [if_neg c3] at H; exact absurd H (by simp)
   rw [if_pos c3] at H; have c3b0 := decide_eq_true c3; clear c3
   by_cases c4 : x8_1 < (l0.length : Int); rotate_left
   · rw [if_neg c4] at H; exact absurd H (by simp)
   rw [if_pos c4] at H; have c4b0 := decide_eq_true c4; clear c4; have H' := ak H; clear H; have p775 : 0 ≤ (x8_1 : Int) := odA; have q775 : x8_1 < (l0.length : Int) := odA; obtain ⟨ad775, e775, hx775_0⟩ := Kd.at_int HR0.out x8_1 p775 q775
   cases e775
   replace p775 := eq_true p775; replace q775 := eq_true q775; go_wp2
   go_roundg k1
   case measure => have := HK1.out; omega
   case rel => exact ⟨(Go.bits .or .i64 (wrap64 (x3_1 * 256)) (wrap64 (rd l0 x8_1))), (wrap64 (x8_1 + 1)), eqA, eqA, H', ⟨xq14⟩, xq5⟩

end Go.Proofs.Ytdefnccngnilmaa.PFnResync
