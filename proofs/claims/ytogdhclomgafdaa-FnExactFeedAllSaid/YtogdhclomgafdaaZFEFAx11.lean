-- Written by a program of this session (the print of the kit with contracts of this session's own added)
import Derived.Test.YtogdhclomgafdaaZFEFAx0
import Derived.Test.YtogdhclomgafdaaZFEFAx1
set_option maxHeartbeats 8000000
set_option maxRecDepth 100000
namespace Go.Proofs.Ytogdhclomgafdaa.PFnExactFeedAll
open Go.RowKit Go.Proofs.YtogdhclomgafdaaW.PrintWords Go.Proofs.YtogdhclomgafdaaW.PrintLast Go.Proofs.YtogdhclomgafdaaW.PrintMore Go.Proofs.YtogdhclomgafdaaW.PrintPack Go.Proofs.YtogdhclomgafdaaW.PrintPack
set_option linter.unusedVariables false
set_option linter.unusedSimpArgs false

def laws_markByteS.l0 : Nat → List Int → Int → Int → Option (Int × List Int)
 | 0, _, _, _ => none
 | k + 1, x0, x1, x5 => if x5 < (x0.length : Int) then (if 0 ≤ x5 then (laws_markByteS.l0 k (x0.set (x5 : Int).toNat ((x1) % 256)) (wrap64 (x1 + 1)) (wrap64 (x5 + 1))) else (none)) else (some (x1, x0))
def laws_markByteS.f (k : Nat) (l0 : List Int) (a1 : Int) : Option (Int × List Int) := laws_markByteS.l0 k l0 a1 0
theorem laws_markByteS.mono_l : ∀ k, (∀ y0 y1 y2, LeO (laws_markByteS.l0 k y0 y1 y2) (laws_markByteS.l0 (k + 1) y0 y1 y2))
 | 0 => fun _ _ _ r h => by simp [laws_markByteS.l0] at h
 | k + 1 => by
  have ih0 := laws_markByteS.mono_l k
  · intro y0 y1 y2; unfold laws_markByteS.l0; exact xq6
theorem laws_markByteS.mono : ∀ a0 a1 k, LeO (laws_markByteS.f k a0 a1) (laws_markByteS.f (k + 1) a0 a1) := by
 intro a0 a1 k; have ih0 := laws_markByteS.mono_l k
 unfold laws_markByteS.f
 exact xq6
theorem laws_markByteS.calls (k : Nat) (P0_ : Nat → Prop) (u9000_ : Value) (l0 : List Int) (a1 : Int) (r1 : Int) (r2 : List Int) (w0 w : World) (hB : Below w0.heap.size w0 w) (ho0 : Kd.R (Kd.int .u8) 5 w w0.heap.size P0_ u9000_ l0) (h : laws_markByteS.f k l0 a1 = some (r1, r2)) :
 Calls Try.prog 77 #[u9000_, .int .i64 a1] w fun e w' => e = .returned (.int .i64 r1) ∧ Kd.R (Kd.int .u8) 5 w' w0.heap.size (fun k_ => (P0_ k_ ∨ w.heap.size ≤ k_)) u9000_ r2 ∧ Below w0.heap.size w0 w' ∧ Kept w w' (fun k_ => P0_ k_) := by
 have HO0 := ak (show Kd.R (Kd.int .u8) 5 w w0.heap.size (fun k_ => (P0_ k_ ∨ w.heap.size ≤ k_)) u9000_ l0 from Kd.R_mono ho0 (fun k_ hk => (.inl hk))); have HK := ak (Kept.refl w (fun k_ => P0_ k_)); have HW0 := ak hB.size; have HB := ak hB; clear hB; have H : (laws_markByteS.l0 k l0 a1 0) = some (r1, r2) := h; clear h; have H' := ak H; clear H; go_enter Try.func77, Try.ntmps77
 go_wp2
 go_loopg [1, 5] k (fun kq v1 v5 w' => ∃ (x0_1 : List Int) (x1_1 : Int) (x5_1 : Int), v1 = .int .i64 x1_1 ∧ v5 = .int .i64 x5_1 ∧ Aside0 (laws_markByteS.l0 kq x0_1 x1_1 x5_1 = some (r1, r2)) ∧ Aside0 (kq ≤ k) ∧ Aside0 (Kd.R (Kd.int .u8) 5 w' w0.heap.size (fun k_ => (P0_ k_ ∨ w.heap.size ≤ k_)) u9000_ x0_1) ∧ Aside0 (Kept w w' (fun k_ => P0_ k_)) ∧ Aside0 (Below w0.heap.size w0 w'))
 case atStart => exact ⟨(l0), (a1), (0), eqA, eqA, H', ⟨Nat.le_refl _⟩, ⟨rA HO0⟩, ⟨kdA⟩, ⟨belA⟩⟩
 case round =>
  clear H'; obtain ⟨x0_1, x1_1, x5_1, rfl, rfl, HA, HK1, HO_0, HK, HB⟩ := hrel
  cases gk with
  | zero => exact absurd HA.out (by simp [laws_markByteS.l0])
  | succ k1 =>
   have H := HA.out; clear HA; simp only [laws_markByteS.l0] at H
   by_cases c3 : x5_1 < (x0_1.length : Int); rotate_left
   · rw [if_neg c3] at H; have c3b0 := decide_eq_false c3; clear c3; simp only [Option.some.injEq, Prod.mk.injEq] at H; obtain ⟨rfl, rfl⟩ := H; obtain ⟨Ao9, co9, eo9⟩ := Kd.R_slice HO_0.out; subst eo9; go_wp2
     go_ret
     exact ⟨xq2, by (with_reducible repeat (first | apply Kd.R_alloc | apply Kd.R_drewN | apply Kd.R_drew)); exact HO_0.out, belA, xq34⟩
   rw [if_pos c3] at H; have c3b0 := decide_eq_true c3; clear c3
   by_cases c4 : 0 ≤ x5_1; rotate_left
   · rw [if_neg c4] at H; exact absurd H (by simp)
   rw [if_pos c4] at H; have c4b0 := decide_eq_true c4; clear c4; obtain ⟨y272, hyq⟩ : ∃ y_ : List Int, y_ = (x0_1.set (x5_1 : Int).toNat ((x1_1) % 256)) := ⟨_, rfl⟩; replace H : (laws_markByteS.l0 k1 y272 (wrap64 (x1_1 + 1)) (wrap64 (x5_1 + 1))) = some (r1, r2) := by first | (rw [hyq]; with_reducible exact H) | (have H2_ := (Option.bind_some _ _).symm.trans H; rw [hyq]; with_reducible exact H2_) | (have H2_ := (Option.bind_some _ _).symm.trans H; with_reducible exact H2_) | with_reducible exact H | (rw [hyq]; exact H) | exact H
   have Ny272 := ak hyq; clear hyq; have H' := ak H; clear H; obtain ⟨Ao6, co6, eo6⟩ := Kd.R_slice HO_0.out; subst eo6; have p5 : 0 ≤ (x5_1 : Int) := odA; have q5 : (x5_1 : Int) < ((x0_1.length : Int) : Int) := odA; obtain ⟨go5, co5, eo5, gb5, gl5, cl5, HG5⟩ := Kd.R_form HO_0.out (by omega); (first | cases eo5 | (injection eo5 with ea_ en_ ec_; (first | subst ea_ | (injection ea_ with ea_; subst ea_)); subst ec_; clear en_))
   have GB5 := ak gb5; have GG5 := ak HG5; clear gb5 gl5 HG5; have HMgo5 := ak (show (P0_ go5 ∨ w.heap.size ≤ go5) from (HO_0.out.1 _ rfl)); obtain ⟨hx5_0, hf5_0⟩ := Kd.R_celln 0 HO_0.out (x5_1 : Int) p5 q5; replace p5 := eq_true p5; replace q5 := eq_true q5; have HP7 := Kd.R_putg HO_0.out (x5_1 : Int) ((x1_1) % 256); go_wp2_with (first | ((with_reducible refine gate_store (t := 5) (p := 16) rfl ?_); refine store_event (t := 5) (p := 16) (v := ?vo_w8) (w1 := (wr.setCell ⟨go5, (x5_1 : Int).toNat, none⟩ (.int .u8 ((x1_1) % 256)))) ?hg ?ho ?hn ?hr ?_; (case ho => rfl); (case hg => rfl); (case hn => rfl); (case hr => exact xq4); intro w8 hw; have hg : wr.grownBy w8 (some go5) := (by rw [hw]; exact HP7.2); have hp_ : Kd.R (Kd.int .u8) 5 w8 w0.heap.size (fun k_ => (P0_ k_ ∨ w.heap.size ≤ k_)) (.slice (some ⟨go5, 0, none⟩) x0_1.length co6) y272 := (by rw [hw, Ny272.out]; exact HP7.1); clear HP7; replace HB := ak ((by rw [hw]; exact below_set (HB.out) GB5.out : Below w0.heap.size w0 w8)); replace HK := ak (Kept.of_grown (S := (fun k_ => P0_ k_)) hg kdA (fun k_ e_ => (HO_0.out.1 k_ e_))); replace HO_0 := ak hp_; clear hg hw hp_))
   go_roundg k1
   case measure => have := HK1.out; omega
   case rel => exact ⟨(y272), (wrap64 (x1_1 + 1)), (wrap64 (x5_1 + 1)), eqA, eqA, H', ⟨xq5⟩, ⟨rA HO_0⟩, ⟨kdA⟩, ⟨belA⟩⟩

def laws_markByteSS.l0 : Nat → List (List Int) → Int → Int → Option (Int × List (List Int))
 | 0, _, _, _ => none
 | k + 1, x0, x1, x5 => if x5 < (x0.length : Int) then (if 0 ≤ x5 then ((laws_markByteS.f k (x0.getD x5.toNat []) x1).bind fun bt => (laws_markByteSS.l0 k (x0.set (x5 : Int).toNat bt.2) bt.1 (wrap64 (x5 + 1)))) else (none)) else (some (x1, x0))
def laws_markByteSS.f (k : Nat) (l0 : List (List Int)) (a1 : Int) : Option (Int × List (List Int)) := laws_markByteSS.l0 k l0 a1 0
theorem laws_markByteSS.mono_l : ∀ k, (∀ y0 y1 y2, LeO (laws_markByteSS.l0 k y0 y1 y2) (laws_markByteSS.l0 (k + 1) y0 y1 y2))
 | 0 => fun _ _ _ r h => by simp [laws_markByteSS.l0] at h
 | k + 1 => by
  have ih0 := laws_markByteSS.mono_l k
  · intro y0 y1 y2; unfold laws_markByteSS.l0; exact xq54
theorem laws_markByteSS.mono : ∀ a0 a1 k, LeO (laws_markByteSS.f k a0 a1) (laws_markByteSS.f (k + 1) a0 a1) := by
 intro a0 a1 k; exact laws_markByteSS.mono_l k _ _ _
theorem laws_markByteSS.calls (k : Nat) (P0_ : Nat → Prop) (u9000_ : Value) (l0 : List (List Int)) (a1 : Int) (r1 : Int) (r2 : List (List Int)) (w0 w : World) (hB : Below w0.heap.size w0 w) (ho0 : Kd.S (Kd.slice 5 (Kd.int .u8)) 22 w w0.heap.size P0_ u9000_ l0) (h : laws_markByteSS.f k l0 a1 = some (r1, r2)) :
 Calls Try.prog 39 #[u9000_, .int .i64 a1] w fun e w' => e = .returned (.int .i64 r1) ∧ Kd.S (Kd.slice 5 (Kd.int .u8)) 22 w' w0.heap.size P0_ u9000_ r2 ∧ Below w0.heap.size w0 w' ∧ Kept w w' (fun k_ => P0_ k_) := by
 have HO0 := ak ho0; have HK := ak (Kept.refl w (fun k_ => P0_ k_)); have HB := ak hB; clear hB ho0; have H : (laws_markByteSS.l0 k l0 a1 0) = some (r1, r2) := h; clear h; have H' := ak H; clear H; go_enter Try.func39, Try.ntmps39
 go_wp2
 go_loopg [1, 5] k (fun kq v1 v5 w' => ∃ (x0_1 : List (List Int)) (x1_1 : Int) (x5_1 : Int), v1 = .int .i64 x1_1 ∧ v5 = .int .i64 x5_1 ∧ Aside0 (laws_markByteSS.l0 kq x0_1 x1_1 x5_1 = some (r1, r2)) ∧ Aside0 (kq ≤ k) ∧ Aside0 (Kd.S (Kd.slice 5 (Kd.int .u8)) 22 w' w0.heap.size P0_ u9000_ x0_1) ∧ Aside0 (Kept w w' (fun k_ => P0_ k_)) ∧ Aside0 (Below w0.heap.size w0 w'))
 case atStart => exact ⟨(l0), (a1), (0), eqA, eqA, H', ⟨Nat.le_refl _⟩, ⟨sA HO0⟩, ⟨kdA⟩, ⟨belA⟩⟩
 case round =>
  clear H'; obtain ⟨x0_1, x1_1, x5_1, rfl, rfl, HA, HK1, HO_0, HK, HB⟩ := hrel
  cases gk with
  | zero => exact absurd HA.out (by simp [laws_markByteSS.l0])
  | succ k1 =>
   have H := HA.out; clear HA; simp only [laws_markByteSS.l0] at H
   by_cases c3 : x5_1 < (x0_1.length : Int); rotate_left
   · rw [if_neg c3] at H; have c3b0 := decide_eq_false c3; clear c3; simp only [Option.some.injEq, Prod.mk.injEq] at H; obtain ⟨rfl, rfl⟩ := H; obtain ⟨Ao15, co15, eo15⟩ := Kd.R_slice (Kd.S_R HO_0.out); subst eo15; go_wp2
     go_ret
     exact ⟨by first | rfl | (simp [errW_none, errW_some] <;> rfl), xq55, belA, xq34⟩
   rw [if_pos c3] at H; have c3b0 := decide_eq_true c3
   by_cases c4 : 0 ≤ x5_1; rotate_left
   · rw [if_neg c4] at H; exact absurd H (by simp)
   rw [if_pos c4] at H; have c4b0 := decide_eq_true c4; replace H := Option.bind_eq_some_iff.mp H; obtain ⟨⟨t250, t251⟩, A30, H⟩ := H; obtain ⟨row5, hrow5⟩ : ∃ r_ : List Int, r_ = x0_1.getD x5_1.toNat [] := ⟨_, rfl⟩; rw [← hrow5] at A30; have A3 := ak A30; clear A30; have H' := ak H; clear H; obtain ⟨Ao8, co8, eo8⟩ := Kd.R_slice (Kd.S_R HO_0.out); subst eo8; obtain ⟨go5, co5, eo5, gb5, gl5, cl5, HG5⟩ := Kd.R_form (Kd.S_R HO_0.out) (by have h1 := of_decide_eq_true c3b0; have h2 := of_decide_eq_true c4b0; omega); injection eo5 with ea_ en_ ec_
   subst ea_; clear en_ ec_ gb5 gl5 HG5; obtain ⟨oki5, ce5, hcl5, hM5, hcc5, hfr5, hoki5, hH5⟩ := Kd.S_elem HO_0.out ([] : List Int) (x5_1 : Int) c4 c3; rw [← hrow5] at hM5; clear hrow5; obtain ⟨v5_0, rfl, g5_0⟩ := hM5; obtain ⟨A5, c5, rfl⟩ := Kd.R_slice g5_0
   have hx5_0 : wr.cell? ⟨go5, (x5_1 : Int).toNat, none⟩ = some (.slice A5 row5.length c5) := by
    have hq := hcc5 0 _ rfl; rwa [show (x5_1 : Int).toNat * (Kd.slice 5 (Kd.int .u8)).sz + 0 = (x5_1 : Int).toNat from Nat.mul_one _] at hq
   have G5 := ak g5_0; have OK5 := ak hoki5; have HH5 := ak hH5; clear hcl5 hcc5 hfr5 g5_0 hoki5 hH5; have p5 := eq_true c4; have q5 := eq_true c3; clear c3 c4; go_wp2_with (first | ((with_reducible refine gate_callee (f := 77) rfl ?_); refine goA (some 17) Try.func77 #[.slice A5 row5.length c5, .int .i64 x1_1] rfl ?_; (with_reducible refine (laws_markByteS.calls k1 oki5 _ _ _ t250 t251 w0 _ ?side1 ?side2 A3.out).mono ?_); (case side1 => exact xq58); (case side2 => (with_reducible repeat (first | apply Kd.R_alloc | apply Kd.R_drewN | apply Kd.R_drew)); exact G5.out); rintro e w12 ⟨rfl, hy0, hb, hkp⟩; refine ⟨_, rfl, ?_⟩; have n0_ := ak (Kd.H_back (Kd.H_kept (by (with_reducible repeat (first | apply Kd.H_alloc | apply Kd.H_drewN | apply Kd.H_drew)); exact HH5.out) hkp (fun k_ _ hn_ hs_ => hn_ hs_)) (Kd.M_row (Kd.R_reok rfl hy0 (fun k_ e_ => G5.out.1 k_ e_))) (fun _ hk => hk)); have n1_ := ak hb; have n2_ := ak (Kept.then_ (S := (fun k_ => P0_ k_)) kdA hkp (fun k_ hs_ => .inl (OK5.out k_ hs_).1)); clear HO_0 HB HK HH5; have HO_0 := n0_; have HB := n1_; have HK := n2_; clear n0_ n1_ n2_ hy0 hb hkp))
   go_roundg k1
   case measure => have := HK1.out; omega
   case rel => exact ⟨(x0_1.set (x5_1 : Int).toNat t251), t250, (wrap64 (x5_1 + 1)), eqA, eqA, H', ⟨xq5⟩, ⟨sA HO_0⟩, ⟨kdA⟩, ⟨belA⟩⟩

def laws_markStream.f (k : Nat) (l0_0 : List Int) (a0_1 : Int) (a1 : Int) : Option (Int × List Int) := (laws_markByteS.f k l0_0 a1).bind fun bt274 => (some (bt274.1, bt274.2))
theorem laws_markStream.mono : ∀ a0 a1 a2 k, LeO (laws_markStream.f k a0 a1 a2) (laws_markStream.f (k + 1) a0 a1 a2) := by
 intro a0 a1 a2 k
 unfold laws_markStream.f
 exact (by repeat' (with_reducible first | exact laws_markByteS.mono _ _ _ | exact LeO.refl _ | exact LeO.none _ | refine LeO.ite ?_ ?_ | refine LeO.bind ?_ (fun _ => ?_)))
theorem laws_markStream.calls (k : Nat) (P0_0_ : Nat → Prop) (u9000_ : Value) (l0_0 : List Int) (a0_1 : Int) (a1 : Int) (r1 : Int) (r2 : List Int) (w0 w : World) (hB : Below w0.heap.size w0 w) (ho0_0 : Kd.R (Kd.int .u8) 5 w w0.heap.size P0_0_ u9000_ l0_0) (h : laws_markStream.f k l0_0 a0_1 a1 = some (r1, r2)) :
 Calls Try.prog 40 #[.agg #[u9000_, .int .i64 a0_1], .int .i64 a1] w fun e w' => e = .returned (.int .i64 r1) ∧ Kd.R (Kd.int .u8) 5 w' w0.heap.size (fun k_ => (P0_0_ k_ ∨ w.heap.size ≤ k_)) u9000_ r2 ∧ Below w0.heap.size w0 w' ∧ Kept w w' (fun k_ => P0_0_ k_) := by
 have hu62 := Try.underlying62; have HO0_0 := ak (show Kd.R (Kd.int .u8) 5 w w0.heap.size (fun k_ => (P0_0_ k_ ∨ w.heap.size ≤ k_)) u9000_ l0_0 from Kd.R_mono ho0_0 (fun k_ hk => (.inl hk))); have HK := ak (Kept.refl w (fun k_ => P0_0_ k_)); have HW0 := ak hB.size; have HB := ak hB; clear hB; have H : ((laws_markByteS.f k l0_0 a1).bind fun bt274 => (some (bt274.1, bt274.2))) = some (r1, r2) := h; clear h; replace H := Option.bind_eq_some_iff.mp H; obtain ⟨⟨t274, t275⟩, A30, H⟩ := H; (try dsimp only at H); have A3 := ak A30; clear A30; simp only [Option.some.injEq, Prod.mk.injEq] at H; obtain ⟨rfl, rfl⟩ := H; obtain ⟨Ao4, co4, eo4⟩ := Kd.R_slice HO0_0.out; subst eo4; go_enter Try.func40, Try.ntmps40
 go_wp2_with (first | ((with_reducible refine gate_dst (N := 2) rfl ?_); refine boxA 2 #[.slice Ao4 l0_0.length co4, .int .i64 a0_1] 62 ?_; intro gb273 hg w5 hbox hb; have BK273 := ak hbox; have GW273 := ak ((by rw [hg]; exact (by first | exact HK.out.1 | exact (show Kept w _ (fun k_ => P0_0_ k_) from by repeat (first | (with_reducible first | exact HK.out | apply Kept.alloc | apply Kept.drewN | apply Kept.drew) | exact HK.out)).1) : w.heap.size ≤ gb273)); have GE273 := ak ((by rw [hg]; exact (below_size belA) : w0.heap.size ≤ gb273)); replace HO0_0 := ak (Kd.R_below (rF HO0_0) hb); replace HK := ak (Kept.below (S := (fun k_ => P0_0_ k_)) kdA hb); replace HB := bS hb; clear hb hbox hg; obtain ⟨_, _, _, _⟩ := cel2 BK273) | ((with_reducible refine gate_callee (f := 77) rfl ?_); refine goB 8 Try.func77 #[.slice Ao4 l0_0.length co4, .int .i64 a1] rfl ?_; (with_reducible refine (laws_markByteS.calls k (fun k_ => some k_ = (.slice Ao4 l0_0.length co4 : Value).ownBlock) (.slice Ao4 l0_0.length co4) l0_0 a1 t274 t275 w0 _ ?side1 ?side2 A3.out).mono ?_); (case side1 => repeat (first | (with_reducible first | exact HB.out | apply below_alloc | apply pw_below_drewN | apply below_drew1 | refine below_set ?_ GE273.out) | exact HB.out)); (case side2 => exact Kd.R_tight rfl HO0_0.out); rintro e w7 ⟨rfl, hy0, hb, hkp⟩; refine ⟨_, rfl, ?_⟩; replace BK273 := ak (blk_kept blkA hkp (fun hs_ => (fun e_ => (Kd.R_ne HO0_0.out BK273.out (by decide)) e_) hs_)); replace HK := ak (Kept.then_ (S := (fun k_ => P0_0_ k_)) xq56 hkp (fun k_ hs_ => (fun e_ => (HO0_0.out.1 k_ e_.symm)) hs_)); replace HO0_0 := ak (Kd.R_reok rfl hy0 (fun k_ e_ => HO0_0.out.1 k_ e_)); replace HB := ak hb; (try clear hb); (try clear hkp); (try clear hy0)))
 go_ret
 exact ⟨xq2, by (with_reducible repeat (first | apply Kd.R_alloc | apply Kd.R_drewN | apply Kd.R_drew)); exact HO0_0.out, belA, xq56⟩

def laws_markFrameS.l0 : Nat → List S52 → Int → Int → Option (Int × List S52)
 | 0, _, _, _ => none
 | k + 1, x0, x1, x5 => if x5 < (x0.length : Int) then (if 0 ≤ x5 then ((some (x0.set (x5 : Int).toNat (⟨x1, (rd_T52 x0 x5).f1, (rd_T52 x0 x5).f2⟩ : S52))).bind fun y1 => ((some (y1.set (x5 : Int).toNat (⟨(rd_T52 y1 x5).f0, wrap64 (x1 + 1), (rd_T52 y1 x5).f2⟩ : S52))).bind fun y2 => ((laws_markByteS.f k (rd_T52 y2 x5).f2 (wrap64 ((wrap64 (x1 + 1)) + 1))).bind fun bt => (laws_markFrameS.l0 k (y2.set (x5 : Int).toNat (⟨(rd_T52 y2 x5).f0, (rd_T52 y2 x5).f1, bt.2⟩ : S52)) bt.1 (wrap64 (x5 + 1)))))) else (none)) else (some (x1, x0))
def laws_markFrameS.f (k : Nat) (l0 : List S52) (a1 : Int) : Option (Int × List S52) := laws_markFrameS.l0 k l0 a1 0
theorem laws_markFrameS.mono_l : ∀ k, (∀ y0 y1 y2, LeO (laws_markFrameS.l0 k y0 y1 y2) (laws_markFrameS.l0 (k + 1) y0 y1 y2))
 | 0 => fun _ _ _ r h => by simp [laws_markFrameS.l0] at h
 | k + 1 => by
  have ih0 := laws_markFrameS.mono_l k
  · intro y0 y1 y2; unfold laws_markFrameS.l0; exact xq54
theorem laws_markFrameS.mono : ∀ a0 a1 k, LeO (laws_markFrameS.f k a0 a1) (laws_markFrameS.f (k + 1) a0 a1) := by
 intro a0 a1 k; exact laws_markFrameS.mono_l k _ _ _
theorem laws_markFrameS.calls (k : Nat) (P0_ : Nat → Prop) (u9000_ : Value) (l0 : List S52) (a1 : Int) (r1 : Int) (r2 : List S52) (w0 w : World) (hB : Below w0.heap.size w0 w) (ho0 : Kd.S k52 52 w w0.heap.size P0_ u9000_ l0) (h : laws_markFrameS.f k l0 a1 = some (r1, r2)) :
 Calls Try.prog 41 #[u9000_, .int .i64 a1] w fun e w' => e = .returned (.int .i64 r1) ∧ Kd.S k52 52 w' w0.heap.size P0_ u9000_ r2 ∧ Below w0.heap.size w0 w' ∧ Kept w w' (fun k_ => P0_ k_) := by
 have HO0 := ak ho0; have HK := ak (Kept.refl w (fun k_ => P0_ k_)); have HB := ak hB; clear hB ho0; have H : (laws_markFrameS.l0 k l0 a1 0) = some (r1, r2) := h; clear h; have H' := ak H; clear H; go_enter Try.func41, Try.ntmps41
 go_wp2
 go_loopg [1, 5] k (fun kq v1 v5 w' => ∃ (x0_1 : List S52) (x1_1 : Int) (x5_1 : Int), v1 = .int .i64 x1_1 ∧ v5 = .int .i64 x5_1 ∧ Aside0 (laws_markFrameS.l0 kq x0_1 x1_1 x5_1 = some (r1, r2)) ∧ Aside0 (kq ≤ k) ∧ Aside0 (Kd.S k52 52 w' w0.heap.size P0_ u9000_ x0_1) ∧ Aside0 (Kept w w' (fun k_ => P0_ k_)) ∧ Aside0 (Below w0.heap.size w0 w'))
 case atStart => exact ⟨(l0), (a1), (0), eqA, eqA, H', ⟨Nat.le_refl _⟩, ⟨sA HO0⟩, ⟨kdA⟩, ⟨belA⟩⟩
 case round =>
  clear H'; obtain ⟨x0_1, x1_1, x5_1, rfl, rfl, HA, HK1, HO_0, HK, HB⟩ := hrel
  cases gk with
  | zero => exact absurd HA.out (by simp [laws_markFrameS.l0])
  | succ k1 =>
   have H := HA.out; clear HA; simp only [laws_markFrameS.l0] at H
   by_cases c3 : x5_1 < (x0_1.length : Int); rotate_left
   · rw [if_neg c3] at H; have c3b0 := decide_eq_false c3; clear c3; simp only [Option.some.injEq, Prod.mk.injEq] at H; obtain ⟨rfl, rfl⟩ := H; obtain ⟨Ao15, co15, eo15⟩ := Kd.R_slice (Kd.S_R HO_0.out); subst eo15; go_wp2
     go_ret
     exact ⟨by first | rfl | (simp [errW_none, errW_some] <;> rfl), xq55, belA, xq34⟩
   rw [if_pos c3] at H; have c3b0 := decide_eq_true c3
   by_cases c4 : 0 ≤ x5_1; rotate_left
   · rw [if_neg c4] at H; exact absurd H (by simp)
   rw [if_pos c4] at H; have c4b0 := decide_eq_true c4; rw [Option.bind_some, Option.bind_some] at H; obtain ⟨y1, hyq⟩ : ∃ y_ : List S52, y_ = (x0_1.set (x5_1 : Int).toNat (⟨x1_1, (rd_T52 x0_1 x5_1).f1, (rd_T52 x0_1 x5_1).f2⟩ : S52)) := ⟨_, rfl⟩; rw [← hyq] at H; have Ny1 := ak hyq; clear hyq; obtain ⟨y2, hyq⟩ : ∃ y_ : List S52, y_ = (y1.set (x5_1 : Int).toNat (⟨(rd_T52 y1 x5_1).f0, wrap64 (x1_1 + 1), (rd_T52 y1 x5_1).f2⟩ : S52)) := ⟨_, rfl⟩; rw [← hyq] at H; have Ny2 := ak hyq; clear hyq; replace H := Option.bind_eq_some_iff.mp H; obtain ⟨⟨t250, t251⟩, A30, H⟩ := H; have A3 := ak A30; clear A30; have H' := ak H; clear H; have P5 := ak c4; have Q5 := ak c3; clear c3 c4; obtain ⟨Ao8, co8, eo8⟩ := Kd.R_slice (Kd.S_R HO_0.out); subst eo8; obtain ⟨go5, co5, eo5, gb5, gl5, cl5, HG5⟩ := Kd.R_form (Kd.S_R HO_0.out) (by have h1 := of_decide_eq_true c3b0; have h2 := of_decide_eq_true c4b0; omega); injection eo5 with ea_ en_ ec_
   subst ea_; clear en_ ec_; have GB5 := ak gb5; have HMgo5 := ak (show P0_ go5 from (Kd.S_R HO_0.out).1 _ rfl); clear gb5 gl5 HG5; obtain ⟨oki5, ce5, hcl5, hM5, hcc5, hfr5, hoki5, hH5⟩ := Kd.S_elem HO_0.out z52 (x5_1 : Int) P5.out Q5.out; obtain ⟨v5_2, rfl, g5_2⟩ := k52_openM hM5; have HP9 := ak (Kd.S_seg0 hH5 P5.out Q5.out (seg := [.int .i64 x1_1]) (j := 0) (show 1 ≤ 3 from by decide) (x' := (⟨x1_1, (rd_T52 x0_1 x5_1).f1, (rd_T52 x0_1 x5_1).f2⟩ : S52)) (k52_mkM _ _ _ (⟨x1_1, (rd_T52 x0_1 x5_1).f1, (rd_T52 x0_1 x5_1).f2⟩ : S52) g5_2) (fun _ hk => hk)); have hx5_0 : wr.cell? ⟨go5, (x5_1 : Int).toNat * 3, none⟩ = some (.int .i64 ((rd_T52 x0_1 x5_1).f0)) := hcc5 0 _ rfl; have hf5_0 : wr.frozen? ⟨go5, (x5_1 : Int).toNat * 3, none⟩ = false := hfr5 0; clear hcl5 hcc5 hfr5 hM5 g5_2 hoki5 hH5; have p5 := eq_true P5.out; have q5 := eq_true Q5.out; go_wp2_with (first | ((with_reducible refine gate_store (t := 3) (p := 16) rfl ?_); refine store_event (t := 3) (p := 16) (v := ?vo_w10) (w1 := (wr.setCell ⟨go5, (x5_1 : Int).toNat * 3, none⟩ (.int .i64 x1_1))) ?hg ?ho ?hn ?hr ?_; (case ho => rfl); (case hg => rfl); (case hn => rfl); (case hr => exact xq4); intro w10 hw; have hg : wr.grownBy w10 (some go5) := (by rw [hw]; exact HP9.out.2); have n0_ : Aside0 (Kd.S k52 52 w10 w0.heap.size P0_ (.slice (some ⟨go5, 0, none⟩) x0_1.length co8) y1) := ak (by rw [hw, Ny1.out]; exact HP9.out.1); have n1_ := ak ((by rw [hw]; exact below_set (HB.out) GB5.out : Below w0.heap.size w0 w10)); have n2_ := ak (Kept.of_grown (S := (fun k_ => P0_ k_)) hg HK.out (fun k_ e_ => .inl (by injection e_ with e_; rw [← e_]; exact HMgo5.out))); clear HO_0 HB HK HP9; have HO_0 := n0_; have HB := n1_; have HK := n2_; clear n0_ n1_ n2_; clear hg hw; obtain ⟨oki6, ce6, hcl6, hM6, hcc6, hfr6, hoki6, hH6⟩ := Kd.S_elem HO_0.out z52 (x5_1 : Int) P5.out Q5.out; obtain ⟨v6_2, rfl, g6_2⟩ := k52_openM hM6; have HP10 := ak (Kd.S_seg0 hH6 P5.out Q5.out (seg := [.int .i64 (wrap64 (x1_1 + 1))]) (j := 1) (show 2 ≤ 3 from by decide) (x' := (⟨(rd_T52 y1 x5_1).f0, wrap64 (x1_1 + 1), (rd_T52 y1 x5_1).f2⟩ : S52)) (k52_mkM _ _ _ (⟨(rd_T52 y1 x5_1).f0, wrap64 (x1_1 + 1), (rd_T52 y1 x5_1).f2⟩ : S52) g6_2) (fun _ hk => hk)); have hx6_1 : w10.cell? ⟨go5, (x5_1 : Int).toNat * 3 + 1, none⟩ = some (.int .i64 ((rd_T52 y1 x5_1).f1)) := hcc6 1 _ rfl; have hf6_1 : w10.frozen? ⟨go5, (x5_1 : Int).toNat * 3 + 1, none⟩ = false := hfr6 1; clear hcl6 hcc6 hfr6 hM6 g6_2 hoki6 hH6) | ((with_reducible refine gate_store (t := 3) (p := 23) rfl ?_); refine store_event (t := 3) (p := 23) (v := ?vo_w11) (w1 := (w10.setCell ⟨go5, (x5_1 : Int).toNat * 3 + 1, none⟩ (.int .i64 (wrap64 (x1_1 + 1))))) ?hg ?ho ?hn ?hr ?_; (case ho => rfl); (case hg => rfl); (case hn => rfl); (case hr => exact xq4); intro w11 hw; have hg : w10.grownBy w11 (some go5) := (by rw [hw]; exact HP10.out.2); have n0_ : Aside0 (Kd.S k52 52 w11 w0.heap.size P0_ (.slice (some ⟨go5, 0, none⟩) x0_1.length co8) y2) := ak (by rw [hw, Ny2.out]; exact HP10.out.1); have n1_ := ak ((by rw [hw]; exact below_set (HB.out) GB5.out : Below w0.heap.size w0 w11)); have n2_ := ak (Kept.of_grown (S := (fun k_ => P0_ k_)) hg HK.out (fun k_ e_ => .inl (by injection e_ with e_; rw [← e_]; exact HMgo5.out))); clear HO_0 HB HK HP10; have HO_0 := n0_; have HB := n1_; have HK := n2_; clear n0_ n1_ n2_; clear hg hw; obtain ⟨oki7, ce7, hcl7, hM7, hcc7, hfr7, hoki7, hH7⟩ := Kd.S_elem HO_0.out z52 (x5_1 : Int) P5.out Q5.out; obtain ⟨v7_2, rfl, g7_2⟩ := k52_openM hM7; obtain ⟨A7, c7, rfl⟩ := Kd.R_slice g7_2; have hx7_2 : w11.cell? ⟨go5, (x5_1 : Int).toNat * 3 + 2, none⟩ = some (.slice A7 (rd_T52 y2 x5_1).f2.length c7) := hcc7 2 _ rfl; have G7 := ak g7_2; have OK7 := ak hoki7; have HH7 := ak hH7; clear hcl7 hcc7 hfr7 hM7 g7_2 hoki7 hH7) | ((with_reducible refine gate_callee (f := 77) rfl ?_); refine goA (some 32) Try.func77 #[.slice A7 (rd_T52 y2 x5_1).f2.length c7, .int .i64 (wrap64 ((wrap64 (x1_1 + 1)) + 1))] rfl ?_; (with_reducible refine (laws_markByteS.calls k1 oki7 _ _ _ t250 t251 w0 _ ?side1 ?side2 A3.out).mono ?_); (case side1 => exact xq58); (case side2 => (with_reducible repeat (first | apply Kd.R_alloc | apply Kd.R_drewN | apply Kd.R_drew)); exact G7.out); rintro e w12 ⟨rfl, hy0, hb, hkp⟩; refine ⟨_, rfl, ?_⟩; have n0_ := ak (Kd.H_back (Kd.H_kept (by (with_reducible repeat (first | apply Kd.H_alloc | apply Kd.H_drewN | apply Kd.H_drew)); exact HH7.out) hkp (fun k_ _ hn_ hs_ => hn_ hs_)) (k52_mkM _ _ oki7 (⟨(rd_T52 y2 x5_1).f0, (rd_T52 y2 x5_1).f1, t251⟩ : S52) (Kd.R_reok rfl hy0 (fun k_ e_ => G7.out.1 k_ e_))) (fun _ hk => hk)); have n1_ := ak hb; have n2_ := ak (Kept.then_ (S := (fun k_ => P0_ k_)) kdA hkp (fun k_ hs_ => .inl (OK7.out k_ hs_).1)); clear HO_0 HB HK HH7; have HO_0 := n0_; have HB := n1_; have HK := n2_; clear n0_ n1_ n2_ hy0 hb hkp))
   go_roundg k1
   case measure => have := HK1.out; omega
   case rel => exact ⟨(y2.set (x5_1 : Int).toNat (⟨(rd_T52 y2 x5_1).f0, (rd_T52 y2 x5_1).f1, t251⟩ : S52)), t250, (wrap64 (x5_1 + 1)), eqA, eqA, H', ⟨xq5⟩, ⟨sA HO_0⟩, ⟨kdA⟩, ⟨belA⟩⟩

def laws_heldByteS.l0 : Nat → List Int → Int → Int → Option (Int)
 | 0, _, _, _ => none
 | k + 1, x0, x1, x5 => if x5 < (x0.length : Int) then (if 0 ≤ x5 then (if (rd x0 x5) = ((x1) % 256) then (laws_heldByteS.l0 k x0 (wrap64 (x1 + 1)) (wrap64 (x5 + 1))) else (some (-1))) else (none)) else (some x1)
def laws_heldByteS.f (k : Nat) (l0 : List Int) (a1 : Int) : Option (Int) := laws_heldByteS.l0 k l0 a1 0
theorem laws_heldByteS.mono_l : ∀ k, (∀ y0 y1 y2, LeO (laws_heldByteS.l0 k y0 y1 y2) (laws_heldByteS.l0 (k + 1) y0 y1 y2))
 | 0 => fun _ _ _ r h => by simp [laws_heldByteS.l0] at h
 | k + 1 => by
  have ih0 := laws_heldByteS.mono_l k
  · intro y0 y1 y2; unfold laws_heldByteS.l0; exact xq6
theorem laws_heldByteS.mono : ∀ a0 a1 k, LeO (laws_heldByteS.f k a0 a1) (laws_heldByteS.f (k + 1) a0 a1) := by
 intro a0 a1 k; have ih0 := laws_heldByteS.mono_l k
 unfold laws_heldByteS.f
 exact xq6
theorem laws_heldByteS.calls (k : Nat) (A0 : Option Addr) (c0 : Nat) (l0 : List Int) (a1 : Int) (r : Int) (w : World) (hr0 : Kd.C (Kd.int .u8) w A0 l0.length l0) (hc0 : l0.length ≤ c0) (h : laws_heldByteS.f k l0 a1 = some r) :
 Calls Try.prog 80 #[.slice A0 l0.length c0, .int .i64 a1] w fun e w' => e = .returned (.int .i64 r) ∧ Drawn0 w w' := by
 have HR0 := ak hr0; have HC0 := ak hc0; clear hr0 hc0; have H : (laws_heldByteS.l0 k l0 a1 0) = some r := h; clear h; have H' := ak H; clear H; go_enter Try.func80, Try.ntmps80
 go_wp2
 go_loopg [1, 5] k (fun kq v1 v5 w' => ∃ (x1_1 : Int) (x5_1 : Int), v1 = .int .i64 x1_1 ∧ v5 = .int .i64 x5_1 ∧ Aside0 (laws_heldByteS.l0 kq l0 x1_1 x5_1 = some r) ∧ Aside0 (kq ≤ k) ∧ Drawn0 w w')
 case atStart => exact ⟨(a1), (0), eqA, eqA, H', ⟨Nat.le_refl _⟩, xq1⟩
 case round =>
  clear H'; obtain ⟨x1_1, x5_1, rfl, rfl, HA, HK1, ⟨m1, rfl⟩⟩ := hrel
  cases gk with
  | zero => exact absurd HA.out (by simp [laws_heldByteS.l0])
  | succ k1 =>
   have H := HA.out; clear HA; simp only [laws_heldByteS.l0] at H
   by_cases c3 : x5_1 < (l0.length : Int); rotate_left
   · rw [if_neg c3] at H; have c3b0 := decide_eq_false c3; clear c3; obtain rfl := Option.some.inj H; go_wp2
     go_ret
     exact ⟨xq3, xq1⟩
   rw [if_pos c3] at H; have c3b0 := decide_eq_true c3; clear c3
   by_cases c4 : 0 ≤ x5_1; rotate_left
   · rw [if_neg c4] at H; exact absurd H (by simp)
   rw [if_pos c4] at H; have c4b0 := decide_eq_true c4; clear c4
   by_cases c5 : (rd l0 x5_1) = ((x1_1) % 256); rotate_left
   · rw [if_neg c5] at H; have c5b0 : ((rd l0 x5_1) == ((x1_1) % 256)) = false := beq_eq_false_iff_ne.mpr c5; have c5b1 : ((rd l0 x5_1) != ((x1_1) % 256)) = true := bne_iff_ne.mpr c5; obtain rfl := Option.some.inj H; have p276 : 0 ≤ (x5_1 : Int) := odA; have q276 : x5_1 < (l0.length : Int) := odA; obtain ⟨ad276, e276, hx276_0⟩ := Kd.at_int HR0.out x5_1 p276 q276
     cases e276
     replace p276 := eq_true p276; replace q276 := eq_true q276; go_wp2
     go_ret
     exact ⟨xq3, xq1⟩
   rw [if_pos c5] at H; have c5b0 : ((rd l0 x5_1) == ((x1_1) % 256)) = true := beq_iff_eq.mpr c5; have c5b1 : ((rd l0 x5_1) != ((x1_1) % 256)) = false := bne_eq_false_iff_eq.mpr c5; clear c5; have H' := ak H; clear H; have p276 : 0 ≤ (x5_1 : Int) := odA; have q276 : x5_1 < (l0.length : Int) := odA; obtain ⟨ad276, e276, hx276_0⟩ := Kd.at_int HR0.out x5_1 p276 q276
   cases e276
   replace p276 := eq_true p276; replace q276 := eq_true q276; go_wp2
   go_roundg k1
   case measure => have := HK1.out; omega
   case rel => exact ⟨(wrap64 (x1_1 + 1)), (wrap64 (x5_1 + 1)), eqA, eqA, H', ⟨xq5⟩, xq1⟩

def laws_heldStream.f (k : Nat) (l0_0 : List Int) (a0_1 : Int) (a1 : Int) : Option (Int) := (laws_heldByteS.f k l0_0 a1).bind fun t278 => (if t278 < 0 then (some (-1)) else (some t278))
theorem laws_heldStream.mono : ∀ a0 a1 a2 k, LeO (laws_heldStream.f k a0 a1 a2) (laws_heldStream.f (k + 1) a0 a1 a2) := by
 intro a0 a1 a2 k
 unfold laws_heldStream.f
 exact (by repeat' (with_reducible first | exact laws_heldByteS.mono _ _ _ | exact LeO.refl _ | exact LeO.none _ | refine LeO.ite ?_ ?_ | refine LeO.bind ?_ (fun _ => ?_)))
theorem laws_heldStream.calls (k : Nat) (A0_0 : Option Addr) (c0_0 : Nat) (l0_0 : List Int) (a0_1 : Int) (a1 : Int) (r : Int) (w : World) (hr0_0 : Kd.C (Kd.int .u8) w A0_0 l0_0.length l0_0) (hc0_0 : l0_0.length ≤ c0_0) (h : laws_heldStream.f k l0_0 a0_1 a1 = some r) :
 Calls Try.prog 42 #[.agg #[.slice A0_0 l0_0.length c0_0, .int .i64 a0_1], .int .i64 a1] w fun e w' => e = .returned (.int .i64 r) ∧ Below w.heap.size w w' := by
 have hu62 := Try.underlying62; have HR0_0 := ak hr0_0; have HC0_0 := ak hc0_0; clear hr0_0 hc0_0; have HB := ak (Below.refl w.heap.size w); have H : ((laws_heldByteS.f k l0_0 a1).bind fun t278 => (if t278 < 0 then (some (-1)) else (some t278))) = some r := h; clear h; replace H := Option.bind_eq_some_iff.mp H; obtain ⟨t278, A30, H⟩ := H; (try dsimp only at H); have A3 := ak A30; clear A30
 by_cases c4 : t278 < 0
 · rw [if_pos c4] at H; have c4b0 := decide_eq_true c4; clear c4; obtain rfl := Option.some.inj H; go_enter Try.func42, Try.ntmps42
   go_wp2_with (first | ((with_reducible refine gate_dst (N := 2) rfl ?_); refine boxA 2 #[.slice A0_0 l0_0.length c0_0, .int .i64 a0_1] 62 ?_; intro gb277 hg w5 hbox hb; have BK277 := ak hbox; have GW277 := leA (w := w) hg; have GE277 := leA (w := w) hg; replace HB := bS hb; clear hb hbox hg; obtain ⟨_, _, _, _⟩ := cel2 BK277) | ((with_reducible refine gate_callee (f := 80) rfl ?_); refine goB 8 Try.func80 #[.slice A0_0 l0_0.length c0_0, .int .i64 a1] rfl ?_; (with_reducible refine (laws_heldByteS.calls k _ _ l0_0 a1 t278 _ ?side1 ?side2 A3.out).mono ?_); (case side1 => exact cA (Kd.C_below HR0_0.out HB.out)); (case side2 => exact HC0_0.out); rintro e w' ⟨rfl, ⟨nd, rfl⟩⟩; refine ⟨_, rfl, ?_⟩))
   go_ret
   exact ⟨xq2, belA⟩
 rw [if_neg c4] at H; have c4b0 := decide_eq_false c4; clear c4; obtain rfl := Option.some.inj H; go_enter Try.func42, Try.ntmps42
 go_wp2_with (first | ((with_reducible refine gate_dst (N := 2) rfl ?_); refine boxA 2 #[.slice A0_0 l0_0.length c0_0, .int .i64 a0_1] 62 ?_; intro gb277 hg w7 hbox hb; have BK277 := ak hbox; have GW277 := leA (w := w) hg; have GE277 := leA (w := w) hg; replace HB := bS hb; clear hb hbox hg; obtain ⟨_, _, _, _⟩ := cel2 BK277) | ((with_reducible refine gate_callee (f := 80) rfl ?_); refine goB 8 Try.func80 #[.slice A0_0 l0_0.length c0_0, .int .i64 a1] rfl ?_; (with_reducible refine (laws_heldByteS.calls k _ _ l0_0 a1 t278 _ ?side1 ?side2 A3.out).mono ?_); (case side1 => exact cA (Kd.C_below HR0_0.out HB.out)); (case side2 => exact HC0_0.out); rintro e w' ⟨rfl, ⟨nd, rfl⟩⟩; refine ⟨_, rfl, ?_⟩))
 go_ret
 exact ⟨xq2, belA⟩

def laws_heldFrameS.l0 : Nat → List (S52) → Int → Int → Option (Int)
 | 0, _, _, _ => none
 | k + 1, x0, x1, x5 => if x5 < (x0.length : Int) then (if 0 ≤ x5 then (if ((rd_T52 x0 x5).f0) = x1 then (if ((rd_T52 x0 x5).f1) = (wrap64 (x1 + 1)) then ((laws_heldByteS.f k ((rd_T52 x0 x5).f2) (wrap64 ((wrap64 (x1 + 1)) + 1))).bind fun t282 => (if t282 < 0 then (some (-1)) else (laws_heldFrameS.l0 k x0 t282 (wrap64 (x5 + 1))))) else (some (-1))) else (some (-1))) else (none)) else (some x1)
def laws_heldFrameS.f (k : Nat) (l0 : List (S52)) (a1 : Int) : Option (Int) := laws_heldFrameS.l0 k l0 a1 0
theorem laws_heldFrameS.mono_l : ∀ k, (∀ y0 y1 y2, LeO (laws_heldFrameS.l0 k y0 y1 y2) (laws_heldFrameS.l0 (k + 1) y0 y1 y2))
 | 0 => fun _ _ _ r h => by simp [laws_heldFrameS.l0] at h
 | k + 1 => by
  have ih0 := laws_heldFrameS.mono_l k
  · intro y0 y1 y2; unfold laws_heldFrameS.l0; exact xq57
theorem laws_heldFrameS.mono : ∀ a0 a1 k, LeO (laws_heldFrameS.f k a0 a1) (laws_heldFrameS.f (k + 1) a0 a1) := by
 intro a0 a1 k; have ih0 := laws_heldFrameS.mono_l k
 unfold laws_heldFrameS.f
 exact xq57
theorem laws_heldFrameS.calls (k : Nat) (A0 : Option Addr) (c0 : Nat) (l0 : List (S52)) (a1 : Int) (r : Int) (w : World) (hr0 : Kd.C k52 w A0 l0.length l0) (hc0 : l0.length ≤ c0) (h : laws_heldFrameS.f k l0 a1 = some r) :
 Calls Try.prog 43 #[.slice A0 l0.length c0, .int .i64 a1] w fun e w' => e = .returned (.int .i64 r) ∧ Drawn0 w w' := by
 have HR0 := ak hr0; have HC0 := ak hc0; clear hr0 hc0; have H : (laws_heldFrameS.l0 k l0 a1 0) = some r := h; clear h; have H' := ak H; clear H; go_enter Try.func43, Try.ntmps43
 go_wp2
 go_loopg [1, 5] k (fun kq v1 v5 w' => ∃ (x1_1 : Int) (x5_1 : Int), v1 = .int .i64 x1_1 ∧ v5 = .int .i64 x5_1 ∧ Aside0 (laws_heldFrameS.l0 kq l0 x1_1 x5_1 = some r) ∧ Aside0 (kq ≤ k) ∧ Drawn0 w w')
 case atStart => exact ⟨(a1), (0), eqA, eqA, H', ⟨Nat.le_refl _⟩, xq1⟩
 case round =>
  clear H'; obtain ⟨x1_1, x5_1, rfl, rfl, HA, HK1, ⟨m1, rfl⟩⟩ := hrel
  cases gk with
  | zero => exact absurd HA.out (by simp [laws_heldFrameS.l0])
  | succ k1 =>
   have H := HA.out; clear HA; simp only [laws_heldFrameS.l0] at H
   by_cases c3 : x5_1 < (l0.length : Int); rotate_left
   · rw [if_neg c3] at H; have c3b0 := decide_eq_false c3; clear c3; obtain rfl := Option.some.inj H; go_wp2
     go_ret
     exact ⟨xq3, xq1⟩
   rw [if_pos c3] at H; have c3b0 := decide_eq_true c3; clear c3
   by_cases c4 : 0 ≤ x5_1; rotate_left
   · rw [if_neg c4] at H; exact absurd H (by simp)
   rw [if_pos c4] at H; have c4b0 := decide_eq_true c4; clear c4
   by_cases c5 : ((rd_T52 l0 x5_1).f0) = x1_1; rotate_left
   · rw [if_neg c5] at H; have c5b0 : (((rd_T52 l0 x5_1).f0) == x1_1) = false := beq_eq_false_iff_ne.mpr c5; have c5b1 : (((rd_T52 l0 x5_1).f0) != x1_1) = true := bne_iff_ne.mpr c5; obtain rfl := Option.some.inj H; have p279 : 0 ≤ (x5_1 : Int) := odA; have q279 : x5_1 < (l0.length : Int) := odA; obtain ⟨ad279, A279_2, c279_2, e279, hx279_0, hx279_1, hx279_2, hl279_2, hi279_2⟩ := at_T52 HR0.out x5_1 p279 q279
     cases e279
     have HR279_2 := ak hi279_2; have HC279_2 := ak hl279_2; clear hi279_2 hl279_2; replace p279 := eq_true p279; replace q279 := eq_true q279; go_wp2
     go_ret
     exact ⟨xq3, xq1⟩
   rw [if_pos c5] at H; have c5b0 : (((rd_T52 l0 x5_1).f0) == x1_1) = true := beq_iff_eq.mpr c5; have c5b1 : (((rd_T52 l0 x5_1).f0) != x1_1) = false := bne_eq_false_iff_eq.mpr c5; clear c5
   by_cases c6 : ((rd_T52 l0 x5_1).f1) = (wrap64 (x1_1 + 1)); rotate_left
   · rw [if_neg c6] at H; have c6b0 : (((rd_T52 l0 x5_1).f1) == (wrap64 (x1_1 + 1))) = false := beq_eq_false_iff_ne.mpr c6; have c6b1 : (((rd_T52 l0 x5_1).f1) != (wrap64 (x1_1 + 1))) = true := bne_iff_ne.mpr c6; obtain rfl := Option.some.inj H; have p279 : 0 ≤ (x5_1 : Int) := odA; have q279 : x5_1 < (l0.length : Int) := odA; obtain ⟨ad279, A279_2, c279_2, e279, hx279_0, hx279_1, hx279_2, hl279_2, hi279_2⟩ := at_T52 HR0.out x5_1 p279 q279
     cases e279
     have HR279_2 := ak hi279_2; have HC279_2 := ak hl279_2; clear hi279_2 hl279_2; replace p279 := eq_true p279; replace q279 := eq_true q279; have p280 : 0 ≤ (x5_1 : Int) := odA; have q280 : x5_1 < (l0.length : Int) := odA; obtain ⟨ad280, A280_2, c280_2, e280, hx280_0, hx280_1, hx280_2, hl280_2, hi280_2⟩ := at_T52 HR0.out x5_1 p280 q280; obtain rfl : ad279 = ad280 := (by injection e280); have HR280_2 := ak hi280_2; have HC280_2 := ak hl280_2; clear hi280_2 hl280_2; replace p280 := eq_true p280; replace q280 := eq_true q280; have ea_ := Option.some.inj (hx279_2.symm.trans hx280_2); injection ea_ with ea_ en_ ec_
     subst ea_; subst ec_; clear en_; go_wp2
     go_ret
     exact ⟨xq3, xq1⟩
   rw [if_pos c6] at H; have c6b0 : (((rd_T52 l0 x5_1).f1) == (wrap64 (x1_1 + 1))) = true := beq_iff_eq.mpr c6; have c6b1 : (((rd_T52 l0 x5_1).f1) != (wrap64 (x1_1 + 1))) = false := bne_eq_false_iff_eq.mpr c6; clear c6; replace H := Option.bind_eq_some_iff.mp H; obtain ⟨t282, A70, H⟩ := H; (try dsimp only at H); have A7 := ak A70; clear A70
   by_cases c8 : t282 < 0
   · rw [if_pos c8] at H; have c8b0 := decide_eq_true c8; clear c8; obtain rfl := Option.some.inj H; have p279 : 0 ≤ (x5_1 : Int) := odA; have q279 : x5_1 < (l0.length : Int) := odA; obtain ⟨ad279, A279_2, c279_2, e279, hx279_0, hx279_1, hx279_2, hl279_2, hi279_2⟩ := at_T52 HR0.out x5_1 p279 q279
     cases e279
     have HR279_2 := ak hi279_2; have HC279_2 := ak hl279_2; clear hi279_2 hl279_2; replace p279 := eq_true p279; replace q279 := eq_true q279; have p280 : 0 ≤ (x5_1 : Int) := odA; have q280 : x5_1 < (l0.length : Int) := odA; obtain ⟨ad280, A280_2, c280_2, e280, hx280_0, hx280_1, hx280_2, hl280_2, hi280_2⟩ := at_T52 HR0.out x5_1 p280 q280; obtain rfl : ad279 = ad280 := (by injection e280); have HR280_2 := ak hi280_2; have HC280_2 := ak hl280_2; clear hi280_2 hl280_2; replace p280 := eq_true p280; replace q280 := eq_true q280; have ea_ := Option.some.inj (hx279_2.symm.trans hx280_2); injection ea_ with ea_ en_ ec_
     subst ea_; subst ec_; clear en_; have p281 : 0 ≤ (x5_1 : Int) := odA; have q281 : x5_1 < (l0.length : Int) := odA; obtain ⟨ad281, A281_2, c281_2, e281, hx281_0, hx281_1, hx281_2, hl281_2, hi281_2⟩ := at_T52 HR0.out x5_1 p281 q281; obtain rfl : ad279 = ad281 := (by injection e281); have HR281_2 := ak hi281_2; have HC281_2 := ak hl281_2; clear hi281_2 hl281_2; replace p281 := eq_true p281; replace q281 := eq_true q281; have ea_ := Option.some.inj (hx279_2.symm.trans hx281_2); injection ea_ with ea_ en_ ec_
     subst ea_; subst ec_; clear en_; go_wp2_with (first | ((with_reducible refine gate_callee (f := 80) rfl ?_); refine goB 36 Try.func80 #[.slice A279_2 ((rd_T52 l0 x5_1).f2).length c279_2, .int .i64 (wrap64 ((wrap64 (x1_1 + 1)) + 1))] rfl ?_; (with_reducible refine (laws_heldByteS.calls k1 _ _ ((rd_T52 l0 x5_1).f2) (wrap64 ((wrap64 (x1_1 + 1)) + 1)) t282 _ ?side1 ?side2 A7.out).mono ?_); (case side1 => exact cA HR281_2.out); (case side2 => exact HC281_2.out); rintro e w' ⟨rfl, ⟨nd, rfl⟩⟩; refine ⟨_, rfl, ?_⟩))
     go_ret
     exact ⟨xq3, xq1⟩
   rw [if_neg c8] at H; have c8b0 := decide_eq_false c8; clear c8; have H' := ak H; clear H; have p279 : 0 ≤ (x5_1 : Int) := odA; have q279 : x5_1 < (l0.length : Int) := odA; obtain ⟨ad279, A279_2, c279_2, e279, hx279_0, hx279_1, hx279_2, hl279_2, hi279_2⟩ := at_T52 HR0.out x5_1 p279 q279
   cases e279
   have HR279_2 := ak hi279_2; have HC279_2 := ak hl279_2; clear hi279_2 hl279_2; replace p279 := eq_true p279; replace q279 := eq_true q279; have p280 : 0 ≤ (x5_1 : Int) := odA; have q280 : x5_1 < (l0.length : Int) := odA; obtain ⟨ad280, A280_2, c280_2, e280, hx280_0, hx280_1, hx280_2, hl280_2, hi280_2⟩ := at_T52 HR0.out x5_1 p280 q280; obtain rfl : ad279 = ad280 := (by injection e280); have HR280_2 := ak hi280_2; have HC280_2 := ak hl280_2; clear hi280_2 hl280_2; replace p280 := eq_true p280; replace q280 := eq_true q280; have ea_ := Option.some.inj (hx279_2.symm.trans hx280_2); injection ea_ with ea_ en_ ec_
   subst ea_; subst ec_; clear en_; have p281 : 0 ≤ (x5_1 : Int) := odA; have q281 : x5_1 < (l0.length : Int) := odA; obtain ⟨ad281, A281_2, c281_2, e281, hx281_0, hx281_1, hx281_2, hl281_2, hi281_2⟩ := at_T52 HR0.out x5_1 p281 q281; obtain rfl : ad279 = ad281 := (by injection e281); have HR281_2 := ak hi281_2; have HC281_2 := ak hl281_2; clear hi281_2 hl281_2; replace p281 := eq_true p281; replace q281 := eq_true q281; have ea_ := Option.some.inj (hx279_2.symm.trans hx281_2); injection ea_ with ea_ en_ ec_
   subst ea_; subst ec_; clear en_; go_wp2_with (first | ((with_reducible refine gate_callee (f := 80) rfl ?_); refine goB 36 Try.func80 #[.slice A279_2 ((rd_T52 l0 x5_1).f2).length c279_2, .int .i64 (wrap64 ((wrap64 (x1_1 + 1)) + 1))] rfl ?_; (with_reducible refine (laws_heldByteS.calls k1 _ _ ((rd_T52 l0 x5_1).f2) (wrap64 ((wrap64 (x1_1 + 1)) + 1)) t282 _ ?side1 ?side2 A7.out).mono ?_); (case side1 => exact cA HR281_2.out); (case side2 => exact HC281_2.out); rintro e w' ⟨rfl, ⟨nd, rfl⟩⟩; refine ⟨_, rfl, ?_⟩))
   go_roundg k1
   case measure => have := HK1.out; omega
   case rel => exact ⟨(t282), (wrap64 (x5_1 + 1)), eqA, eqA, H', ⟨xq5⟩, xq1⟩

end Go.Proofs.Ytogdhclomgafdaa.PFnExactFeedAll
