-- Written by a program of this session (the print of the kit with contracts of this session's own added)
import Derived.Test.YtogdhclomgafdaaZFEFAx5
set_option maxHeartbeats 8000000
set_option maxRecDepth 100000
namespace Go.Proofs.Ytogdhclomgafdaa.PFnExactFeedAll
open Go.RowKit Go.Proofs.YtogdhclomgafdaaW.PrintWords Go.Proofs.YtogdhclomgafdaaW.PrintLast Go.Proofs.YtogdhclomgafdaaW.PrintMore Go.Proofs.YtogdhclomgafdaaW.PrintPack Go.Proofs.YtogdhclomgafdaaW.PrintPack
set_option linter.unusedVariables false
set_option linter.unusedSimpArgs false

mutual
def spec_FeedAll.l0 : Nat → List (List Int) → List Int → Int → Option (List Int × Int × (List (S52)))
 | 0, _, _, _ => none
 | k + 1, x0, x4, x5 => if x5 < (x0.length : Int) then (if 0 ≤ x5 then (if ((rd_L1 x0 x5).length : Int) > (wrap64 (20000 - (x4.length : Int))) then (some (([] : List Int), 0, ([] : List (S52)))) else (spec_FeedAll.l1 k x0 x4 x5 0)) else (none)) else ((spec_Feed.f k ([] : List Int) 0 x4).bind fun bt161 => (some (bt161.1, bt161.2.1, bt161.2.2)))
def spec_FeedAll.l1 : Nat → List (List Int) → List Int → Int → Int → Option (List Int × Int × (List (S52)))
 | 0, _, _, _, _ => none
 | k + 1, x0, x4, x5, x6 => if 0 ≤ x5 then (if x5 < (x0.length : Int) then (if x6 < ((rd_L1 x0 x5).length : Int) then (if 0 ≤ x6 then (if x4.length < 140737488355328 then (spec_FeedAll.l1 k x0 (x4 ++ [rd (rd_L1 x0 x5) x6]) x5 (wrap64 (x6 + 1))) else (none)) else (none)) else (spec_FeedAll.l0 k x0 x4 (wrap64 (x5 + 1)))) else (none)) else (none)
end
def spec_FeedAll.f (k : Nat) (l0 : List (List Int)) : Option (List Int × Int × (List (S52))) := if (l0.length : Int) > 4096 then (some (([] : List Int), 0, ([] : List (S52)))) else (spec_FeedAll.l0 k l0 (([] : List Int)) 0)
theorem spec_FeedAll.mono_l : ∀ k, (∀ y0 y1 y2, LeO (spec_FeedAll.l0 k y0 y1 y2) (spec_FeedAll.l0 (k + 1) y0 y1 y2)) ∧ (∀ y0 y1 y2 y3, LeO (spec_FeedAll.l1 k y0 y1 y2 y3) (spec_FeedAll.l1 (k + 1) y0 y1 y2 y3))
 | 0 => ⟨fun _ _ _ r h => by simp [spec_FeedAll.l0] at h, fun _ _ _ _ r h => by simp [spec_FeedAll.l1] at h⟩
 | k + 1 => by
  obtain ⟨ih0, ih1⟩ := spec_FeedAll.mono_l k; refine ⟨?_, ?_⟩
  · intro y0 y1 y2; unfold spec_FeedAll.l0; exact xq42
  · intro y0 y1 y2 y3; unfold spec_FeedAll.l1; exact xq42
theorem spec_FeedAll.mono : ∀ a0 k, LeO (spec_FeedAll.f k a0) (spec_FeedAll.f (k + 1) a0) := by
 intro a0 k; obtain ⟨ih0, ih1⟩ := spec_FeedAll.mono_l k
 unfold spec_FeedAll.f
 exact xq42
theorem spec_FeedAll.calls (k : Nat) (A0 : Option Addr) (c0 : Nat) (l0 : List (List Int)) (r1 : List Int) (r2 : Int) (r3 : List (S52)) (w : World) (hr0 : Kd.C (Kd.slice 5 (Kd.int .u8)) w A0 l0.length l0) (hc0 : l0.length ≤ c0) (h : spec_FeedAll.f k l0 = some (r1, r2, r3)) :
 Calls Try.prog 33 #[.slice A0 l0.length c0] w fun e w' => ∃ v0_ v2_ : Value, e = .returned (.tuple #[.agg #[v0_, .int .i64 r2], v2_]) ∧ Kd.R (Kd.int .u8) 5 w' w.heap.size (fun _ => True) v0_ r1 ∧ Kd.S k52 52 w' w.heap.size (fun k_ => some k_ ≠ (v0_ : Value).ownBlock) v2_ r3 ∧ Below w.heap.size w w' := by
 have hu62 := Try.underlying62; have HR0 := ak hr0; have HC0 := ak hc0; clear hr0 hc0; have HB := ak (Below.refl w.heap.size w); have H : (if (l0.length : Int) > 4096 then (some (([] : List Int), 0, ([] : List (S52)))) else (spec_FeedAll.l0 k l0 (([] : List Int)) 0)) = some (r1, r2, r3) := h; clear h
 by_cases c2 : (l0.length : Int) > 4096
 · rw [if_pos c2] at H; have c2b0 : decide (4096 < (l0.length : Int)) = true := decide_eq_true c2; have c2b1 : decide (4096 < l0.length) = true := decide_eq_true (by omega); clear c2; simp only [Option.some.injEq, Prod.mk.injEq] at H; obtain ⟨rfl, rfl, rfl⟩ := H; go_enter Try.func33, Try.ntmps33
   go_wp2_with (first | ((with_reducible refine gate_dst (N := 2) rfl ?_); refine boxA 2 #[.slice none 0 0, .int .i64 0] 62 ?_; intro gb157 hg w3 hbox hb; have BK157 := ak hbox; have GW157 := leA (w := w) hg; have GE157 := leA (w := w) hg; replace HB := bS hb; clear hb hbox hg; obtain ⟨_, _, _, _⟩ := cel2 BK157))
   refine bodyPost_ret (results_ct rfl _ _ gb157 62 #[.slice none 0 0, .int .i64 0] (0, 0) _ rfl (by (with_reducible repeat (first | refine blk_drewN ?_ _ | refine blk_drew ?_ | refine blk_alloc ?_ _)); refine blk_put (cs := #[.slice none 0 0, .int .i64 0]) ?_ 1 _ rfl; (with_reducible repeat (first | refine blk_drewN ?_ _ | refine blk_drew ?_ | refine blk_alloc ?_ _)); refine blk_put (cs := #[.slice none 0 0, .int .i64 0]) ?_ 0 _ rfl; (with_reducible repeat (first | refine blk_drewN ?_ _ | refine blk_drew ?_ | refine blk_alloc ?_ _)); exact BK157.out) Try.underlying62 rfl (by kernel_rfl)) rfl ?_
   exact ⟨_, _, xq2, xq9, xq41, belA⟩
 rw [if_neg c2] at H; have c2b0 : decide (4096 < (l0.length : Int)) = false := decide_eq_false c2; have c2b1 : decide (4096 < l0.length) = false := decide_eq_false (by omega); clear c2; obtain ⟨y158, hyq⟩ : ∃ y_ : List Int, y_ = (([] : List Int)) := ⟨_, rfl⟩; replace H : (spec_FeedAll.l0 k l0 y158 0) = some (r1, r2, r3) := by first | (rw [hyq]; with_reducible exact H) | (have H2_ := (Option.bind_some _ _).symm.trans H; rw [hyq]; with_reducible exact H2_) | (have H2_ := (Option.bind_some _ _).symm.trans H; with_reducible exact H2_) | with_reducible exact H | (rw [hyq]; exact H) | exact H
 have Ny158 := ak hyq; clear hyq; have H' := ak H; clear H; go_enter Try.func33, Try.ntmps33
 go_wp2_with (first | ((with_reducible refine gate_dst (N := 2) rfl ?_); refine boxA 2 #[.slice none 0 0, .int .i64 0] 62 ?_; intro gb157 hg w5 hbox hb; have BK157 := ak hbox; have GW157 := leA (w := w) hg; have GE157 := leA (w := w) hg; replace HB := bS hb; clear hb hbox hg) | ((with_reducible refine gate_dst (N := 11) rfl ?_); refine Kd.R_lit (Kd.int .u8) _ 5 ?hg (N := 11) ?hd (xs := ([] : List Int)) (inner := []) (ok := fun _ => True) (okp := fun _ => True) ?hr ?hp (fun _ hk => hk) trivial (Below.refl _ _) (Nat.le_refl _) (by simp) ?_; (case hd => rfl); (case hg => rfl); (case hr => exact xq4); (case hp => exact (Reps.none _ _)); intro v159 w6 ho7 hb hg_ hnew_; clear hg_ hnew_; (first | rw [← Ny158.out] at ho7 | (simp only [Int.reduceToNat] at ho7; rw [← Ny158.out] at ho7)); have HO160 := rL ho7; replace BK157 := bB BK157 hb; replace HB := bS hb; clear hb ho7))
 go_loopg [4, 5] k (fun kq v4 v5 w' => ∃ (x4_1 : List Int) (x5_1 : Int) (x158001_1 : Int), v5 = .int .i64 x5_1 ∧ Aside0 (spec_FeedAll.l0 kq l0 x4_1 x5_1 = some (r1, r2, r3)) ∧ Aside0 (kq ≤ k) ∧ Aside0 (Kd.R (Kd.int .u8) 5 w' w.heap.size (fun _ => True) v4 x4_1) ∧ Aside0 (w'.heap[gb157]? = some (.cells #[(.slice none 0 0), .int .i64 x158001_1] 62 (0, 0))) ∧ Aside0 (Below w.heap.size w w'))
 case atStart => exact ⟨(y158), (0), (0), eqA, H', ⟨Nat.le_refl _⟩, ⟨rA HO160⟩, ⟨blkA⟩, ⟨belA⟩⟩
 case round =>
  clear H'; obtain ⟨x4_1, x5_1, x158001_1, rfl, HA, HK1, HO_4, BK157, HB⟩ := hrel
  cases gk with
  | zero => exact absurd HA.out (by simp [spec_FeedAll.l0])
  | succ k1 =>
   have H := HA.out; clear HA; simp only [spec_FeedAll.l0] at H
   by_cases c8 : x5_1 < (l0.length : Int); rotate_left
   · rw [if_neg c8] at H; have c8b0 := decide_eq_false c8; clear c8; replace H := Option.bind_eq_some_iff.mp H; obtain ⟨⟨t161, t164, t165⟩, A200, H⟩ := H; (try dsimp only at H); have A20 := ak A200; clear A200; simp only [Option.some.injEq, Prod.mk.injEq] at H; obtain ⟨rfl, rfl, rfl⟩ := H; obtain ⟨Ao21, co21, eo21⟩ := Kd.R_slice HO_4.out; subst eo21; go_wp2_with (first | ((with_reducible refine gate_callee (f := 78) rfl ?_); refine goB 49 Try.func78 #[.agg #[.slice none 0 0, .int .i64 0], .slice Ao21 x4_1.length co21] rfl ?_; (refine (spec_Feed.calls k1 _ _ ([] : List Int) 0 _ _ x4_1 t161 t164 t165 _ ?side1 ?side2 ?side3 ?side4 A20.out).mono ?_); (case side1 => exact Kd.C_nil _ _); (case side2 => exact Nat.le_refl _); (case side3 => exact cA ((Kd.R_reads' HO_4.out).2.2)); (case side4 => exact (Kd.R_reads' HO_4.out).2.1); rintro e w22 ⟨v162, v166, rfl, ho0, ho1, hb⟩; refine ⟨_, rfl, ?_⟩; have HO163 := rL (Kd.R_new' ho0 (Kd.R_lt (rF HO_4))); have HO167 := sL (Kd.S_new' ho1 (Kd.R_lt (rF HO_4))); replace HO_4 := ak (Kd.R_elder' (rF HO_4) (Kd.R_base ho0) hb); replace BK157 := bB BK157 hb; replace HB := bS hb; (try clear hb ho0 ho1); obtain ⟨Ao23, co23, eo23⟩ := Kd.R_slice HO163.out; subst eo23; obtain ⟨_, _, _, _⟩ := cel2 BK157))
     refine bodyPost_ret (results_ct rfl _ _ gb157 62 #[.slice Ao23 t161.length co23, .int .i64 t164] (0, 0) _ rfl (by (with_reducible repeat (first | refine blk_drewN ?_ _ | refine blk_drew ?_ | refine blk_alloc ?_ _)); refine blk_put (cs := #[.slice Ao23 t161.length co23, .int .i64 x158001_1]) ?_ 1 _ rfl; (with_reducible repeat (first | refine blk_drewN ?_ _ | refine blk_drew ?_ | refine blk_alloc ?_ _)); refine blk_put (cs := #[.slice none 0 0, .int .i64 x158001_1]) ?_ 0 _ rfl; (with_reducible repeat (first | refine blk_drewN ?_ _ | refine blk_drew ?_ | refine blk_alloc ?_ _)); exact BK157.out) Try.underlying62 rfl (by kernel_rfl)) rfl ?_
     exact ⟨_, _, xq2, by (with_reducible repeat (first | apply Kd.R_alloc | apply Kd.R_drewN | apply Kd.R_drew)); exact Kd.R_mono (Kd.R_far (p := ⟨gb157, 1, none⟩) (Kd.R_far (p := ⟨gb157, 0, none⟩) (Kd.R_types HO163.out BK157.out (by decide)) (fun _ hk => hk.2) (.slice Ao23 t161.length co23)) (fun _ hk => hk.2) (.int .i64 t164)) (fun _ hk => trivial), by (with_reducible repeat (first | apply Kd.S_alloc | apply Kd.S_drewN | apply Kd.S_drew)); exact Kd.S_mono (Kd.S_far (p := ⟨gb157, 1, none⟩) (Kd.S_far (p := ⟨gb157, 0, none⟩) (Kd.S_types HO167.out BK157.out (by decide)) (fun _ hk => hk.2) (.slice Ao23 t161.length co23)) (fun _ hk => hk.2) (.int .i64 t164)) (fun _ hk => hk.1.1), belA⟩
   rw [if_pos c8] at H; have c8b0 := decide_eq_true c8; clear c8
   by_cases c9 : 0 ≤ x5_1; rotate_left
   · rw [if_neg c9] at H; exact absurd H (by simp)
   rw [if_pos c9] at H; have c9b0 := decide_eq_true c9; clear c9
   by_cases c10 : ((rd_L1 l0 x5_1).length : Int) > (wrap64 (20000 - (x4_1.length : Int)))
   · rw [if_pos c10] at H; have c10b0 : decide ((wrap64 (20000 - (x4_1.length : Int))) < ((rd_L1 l0 x5_1).length : Int)) = true := decide_eq_true c10; have c10b0w : decide ((IntKind.i64.wrap (20000 - (x4_1.length : Int))) < ((rd_L1 l0 x5_1).length : Int)) = true := by simp only [i64_w]; exact c10b0
     clear c10; simp only [Option.some.injEq, Prod.mk.injEq] at H; obtain ⟨rfl, rfl, rfl⟩ := H; have p168 : 0 ≤ (x5_1 : Int) := odA; have q168 : x5_1 < (l0.length : Int) := odA; obtain ⟨ad168, A168_0, c168_0, e168, hx168_0, hl168_0, hi168_0⟩ := at_L1 HR0.out x5_1 p168 q168
     cases e168
     try replace hx168_0 := cB HB hx168_0
     have HR168_0 := ak hi168_0; have HC168_0 := ak hl168_0; clear hi168_0 hl168_0; replace p168 := eq_true p168; replace q168 := eq_true q168; obtain ⟨Ao11, co11, eo11⟩ := Kd.R_slice HO_4.out; subst eo11; obtain ⟨_, _, _, _⟩ := cel2 BK157; go_wp2
     refine bodyPost_ret (results_ct rfl _ _ gb157 62 #[.slice none 0 0, .int .i64 0] (0, 0) _ rfl (by (with_reducible repeat (first | refine blk_drewN ?_ _ | refine blk_drew ?_ | refine blk_alloc ?_ _)); refine blk_put (cs := #[.slice none 0 0, .int .i64 x158001_1]) ?_ 1 _ rfl; (with_reducible repeat (first | refine blk_drewN ?_ _ | refine blk_drew ?_ | refine blk_alloc ?_ _)); refine blk_put (cs := #[.slice none 0 0, .int .i64 x158001_1]) ?_ 0 _ rfl; (with_reducible repeat (first | refine blk_drewN ?_ _ | refine blk_drew ?_ | refine blk_alloc ?_ _)); exact BK157.out) Try.underlying62 rfl (by kernel_rfl)) rfl ?_
     exact ⟨_, _, xq2, xq9, xq41, belA⟩
   rw [if_neg c10] at H; have c10b0 : decide ((wrap64 (20000 - (x4_1.length : Int))) < ((rd_L1 l0 x5_1).length : Int)) = false := decide_eq_false c10; have c10b0w : decide ((IntKind.i64.wrap (20000 - (x4_1.length : Int))) < ((rd_L1 l0 x5_1).length : Int)) = false := by simp only [i64_w]; exact c10b0
   clear c10; have H' := ak H; clear H; have p168 : 0 ≤ (x5_1 : Int) := odA; have q168 : x5_1 < (l0.length : Int) := odA; obtain ⟨ad168, A168_0, c168_0, e168, hx168_0, hl168_0, hi168_0⟩ := at_L1 HR0.out x5_1 p168 q168
   cases e168
   try replace hx168_0 := cB HB hx168_0
   have HR168_0 := ak hi168_0; have HC168_0 := ak hl168_0; clear hi168_0 hl168_0; replace p168 := eq_true p168; replace q168 := eq_true q168; obtain ⟨Ao13, co13, eo13⟩ := Kd.R_slice HO_4.out; subst eo13; go_wp2
   go_loopg [4, 6] k1 (fun kq v4 v6 w' => ∃ (x4_2 : List Int) (x6_2 : Int), v6 = .int .i64 x6_2 ∧ Aside0 (spec_FeedAll.l1 kq l0 x4_2 x5_1 x6_2 = some (r1, r2, r3)) ∧ Aside0 (kq ≤ k1) ∧ Aside0 (Kd.R (Kd.int .u8) 5 w' w.heap.size (fun _ => True) v4 x4_2) ∧ Aside0 (w'.heap[gb157]? = some (.cells #[(.slice none 0 0), .int .i64 x158001_1] 62 (0, 0))) ∧ Aside0 (Below w.heap.size w w'))
   case atStart => exact ⟨(x4_1), (0), eqA, H', ⟨Nat.le_refl _⟩, ⟨rA HO_4⟩, ⟨blkA⟩, ⟨belA⟩⟩
   case round =>
    clear H'; obtain ⟨x4_2, x6_2, rfl, HA, HK2, HO_4, BK157, HB⟩ := hrel
    cases gk with
    | zero => exact absurd HA.out (by simp [spec_FeedAll.l1])
    | succ k2 =>
     have H := HA.out; clear HA; simp only [spec_FeedAll.l1] at H
     by_cases c14 : 0 ≤ x5_1; rotate_left
     · rw [if_neg c14] at H; exact absurd H (by simp)
     rw [if_pos c14] at H; have c14b0 := decide_eq_true c14; clear c14
     by_cases c15 : x5_1 < (l0.length : Int); rotate_left
     · rw [if_neg c15] at H; exact absurd H (by simp)
     rw [if_pos c15] at H; have c15b0 := decide_eq_true c15; clear c15
     by_cases c16 : x6_2 < ((rd_L1 l0 x5_1).length : Int); rotate_left
     · rw [if_neg c16] at H; have c16b0 := decide_eq_false c16; clear c16; have H' := ak H; clear H; have p169 : 0 ≤ (x5_1 : Int) := odA; have q169 : x5_1 < (l0.length : Int) := odA; obtain ⟨ad169, A169_0, c169_0, e169, hx169_0, hl169_0, hi169_0⟩ := at_L1 HR0.out x5_1 p169 q169; obtain rfl : ad168 = ad169 := (by injection e169); try replace hx169_0 := cB HB hx169_0
       have HR169_0 := ak hi169_0; have HC169_0 := ak hl169_0; clear hi169_0 hl169_0; replace p169 := eq_true p169; replace q169 := eq_true q169; go_wp2
       go_roundg k2
       case measure => have := HK1.out; have := HK2.out; omega
       case rel => exact ⟨(x4_2), (wrap64 (x5_1 + 1)), (x158001_1), eqA, H', ⟨by have := HK1.out; have := HK2.out; omega⟩, ⟨rA HO_4⟩, ⟨blkA⟩, ⟨belA⟩⟩
     rw [if_pos c16] at H; have c16b0 := decide_eq_true c16; clear c16
     by_cases c17 : 0 ≤ x6_2; rotate_left
     · rw [if_neg c17] at H; exact absurd H (by simp)
     rw [if_pos c17] at H; have c17b0 := decide_eq_true c17; clear c17
     by_cases c18 : x4_2.length < 140737488355328; rotate_left
     · rw [if_neg c18] at H; exact absurd H (by simp)
     rw [if_pos c18] at H; have LMc18 := ak c18; clear c18; obtain ⟨y172, hyq⟩ : ∃ y_ : List Int, y_ = (x4_2 ++ [rd (rd_L1 l0 x5_1) x6_2]) := ⟨_, rfl⟩; replace H : (spec_FeedAll.l1 k2 l0 y172 x5_1 (wrap64 (x6_2 + 1))) = some (r1, r2, r3) := by first | (rw [hyq]; with_reducible exact H) | (have H2_ := (Option.bind_some _ _).symm.trans H; rw [hyq]; with_reducible exact H2_) | (have H2_ := (Option.bind_some _ _).symm.trans H; with_reducible exact H2_) | with_reducible exact H | (rw [hyq]; exact H) | exact H
     have Ny172 := ak hyq; clear hyq; have H' := ak H; clear H; have p169 : 0 ≤ (x5_1 : Int) := odA; have q169 : x5_1 < (l0.length : Int) := odA; obtain ⟨ad169, A169_0, c169_0, e169, hx169_0, hl169_0, hi169_0⟩ := at_L1 HR0.out x5_1 p169 q169; obtain rfl : ad168 = ad169 := (by injection e169); try replace hx169_0 := cB HB hx169_0
     have HR169_0 := ak hi169_0; have HC169_0 := ak hl169_0; clear hi169_0 hl169_0; replace p169 := eq_true p169; replace q169 := eq_true q169; have p170 : 0 ≤ (x5_1 : Int) := odA; have q170 : x5_1 < (l0.length : Int) := odA; obtain ⟨ad170, A170_0, c170_0, e170, hx170_0, hl170_0, hi170_0⟩ := at_L1 HR0.out x5_1 p170 q170; obtain rfl : ad168 = ad170 := (by injection e170); try replace hx170_0 := cB HB hx170_0
     have HR170_0 := ak hi170_0; have HC170_0 := ak hl170_0; clear hi170_0 hl170_0; replace p170 := eq_true p170; replace q170 := eq_true q170; have ea_ := Option.some.inj (hx169_0.symm.trans hx170_0); injection ea_ with ea_ en_ ec_
     subst ea_; subst ec_; clear en_; have p171 : 0 ≤ (x6_2 : Int) := odA; have q171 : x6_2 < ((rd_L1 l0 x5_1).length : Int) := odA; obtain ⟨ad171, e171, hx171_0⟩ := Kd.at_int HR170_0.out x6_2 p171 q171
     cases e171
     try replace hx171_0 := cB HB hx171_0
     replace p171 := eq_true p171; replace q171 := eq_true q171; go_wp2_with (first | ((with_reducible refine gate_builtin (b := .append) (xs := #[.tmp 37, .tmp 45]) rfl ?_); at_builtin; refine Kd.R_append (Kd.int .u8) (w0 := w) w.heap.size rfl (.tmp 37) (.tmp 45) 22 5 (.int .u8 0) 1 rfl Try.underlying22 info5 rfl (by decide) (by omega) u4 x4_2 (rd (rd_L1 l0 x5_1) x6_2) [.int .u8 (rd (rd_L1 l0 x5_1) x6_2)] (fun _ => True) (fun _ => False) rfl rfl ?aP (fun _ hk => hk.elim) ?aF ?aO ?aB ?aS ?aL ?_; (case aP => exact rfl); (case aB => exact belA); (case aF => exact (fun _ _ => trivial)); (case aO => exact (rF HO_4)); (case aS => exact (below_size belA)); (case aL => have := LMc18.out; omega); intro v173 w19 ho hb hg hat; rw [← Ny172.out] at ho; have HO174 := ak ho; replace BK157 := ak (blk_grown (g := gb157) (o := .cells #[.slice none 0 0, .int .i64 x158001_1] 62 (0, 0)) blkA hg (Kd.R_ne HO_4.out BK157.out (by decide))); replace HB := ak hb; clear HO_4; clear ho hb hg hat))
     go_roundg k2
     case measure => have := HK1.out; have := HK2.out; omega
     case rel => exact ⟨(y172), (wrap64 (x6_2 + 1)), eqA, H', ⟨by have := HK1.out; have := HK2.out; omega⟩, ⟨rA HO174⟩, ⟨blkA⟩, ⟨belA⟩⟩

def laws_toByteS.l0 : Nat → List Int → List Int → Int → Option (List Int)
 | 0, _, _, _ => none
 | k + 1, x0, x3, x4 => if x4 < (x0.length : Int) then (if 0 ≤ x4 then (if x4 < (x3.length : Int) then (laws_toByteS.l0 k x0 (x3.set (x4 : Int).toNat (rd x0 x4)) (wrap64 (x4 + 1))) else (none)) else (none)) else (some x3)
def laws_toByteS.f (k : Nat) (l0 : List Int) : Option (List Int) := if 0 ≤ (l0.length : Int) then (if ((l0.length : Int) : Int).toNat ≤ 281474976710656 then (laws_toByteS.l0 k l0 (List.replicate ((l0.length : Int) : Int).toNat 0) 0) else (none)) else (none)
theorem laws_toByteS.mono_l : ∀ k, (∀ y0 y1 y2, LeO (laws_toByteS.l0 k y0 y1 y2) (laws_toByteS.l0 (k + 1) y0 y1 y2))
 | 0 => fun _ _ _ r h => by simp [laws_toByteS.l0] at h
 | k + 1 => by
  have ih0 := laws_toByteS.mono_l k
  · intro y0 y1 y2; unfold laws_toByteS.l0; exact xq6
theorem laws_toByteS.mono : ∀ a0 k, LeO (laws_toByteS.f k a0) (laws_toByteS.f (k + 1) a0) := by
 intro a0 k; have ih0 := laws_toByteS.mono_l k
 unfold laws_toByteS.f
 exact xq6
theorem laws_toByteS.calls (k : Nat) (A0 : Option Addr) (c0 : Nat) (l0 : List Int) (r : List Int) (w : World) (hr0 : Kd.C (Kd.int .u8) w A0 l0.length l0) (hc0 : l0.length ≤ c0) (h : laws_toByteS.f k l0 = some r) :
 Calls Try.prog 74 #[.slice A0 l0.length c0] w fun e w' => ∃ v0_ : Value, e = .returned (v0_) ∧ Kd.R (Kd.int .u8) 5 w' w.heap.size (fun _ => True) v0_ r ∧ Below w.heap.size w w' := by
 have HR0 := ak hr0; have HC0 := ak hc0; clear hr0 hc0; have HB := ak (Below.refl w.heap.size w); have H : (if 0 ≤ (l0.length : Int) then (if ((l0.length : Int) : Int).toNat ≤ 281474976710656 then (laws_toByteS.l0 k l0 (List.replicate ((l0.length : Int) : Int).toNat 0) 0) else (none)) else (none)) = some r := h; clear h
 by_cases c2 : 0 ≤ (l0.length : Int); rotate_left
 · rw [if_neg c2] at H; exact absurd H (by simp)
 rw [if_pos c2] at H; have c2b0 := eq_true c2; have c2b1 : decide (0 ≤ (l0.length : Int)) = true := decide_eq_true c2; clear c2
 by_cases c3 : ((l0.length : Int) : Int).toNat ≤ 281474976710656; rotate_left
 · rw [if_neg c3] at H; exact absurd H (by simp)
 rw [if_pos c3] at H; have c3b0 := eq_true c3; have c3b1 : decide (((l0.length : Int) : Int).toNat ≤ 281474976710656) = true := decide_eq_true c3; clear c3; obtain ⟨y175, hyq⟩ : ∃ y_ : List Int, y_ = (List.replicate ((l0.length : Int) : Int).toNat 0) := ⟨_, rfl⟩; replace H : (laws_toByteS.l0 k l0 y175 0) = some r := by first | (rw [hyq]; with_reducible exact H) | (have H2_ := (Option.bind_some _ _).symm.trans H; rw [hyq]; with_reducible exact H2_) | (have H2_ := (Option.bind_some _ _).symm.trans H; with_reducible exact H2_) | with_reducible exact H | (rw [hyq]; exact H) | exact H
 have Ny175 := ak hyq; clear hyq; have H' := ak H; clear H; go_enter Try.func74, Try.ntmps74
 go_wp2_with (first | ((with_reducible refine gate_dst (N := 7) rfl ?_); refine Kd.R_make (Kd.int .u8) _ 5 rfl (N := 7) rfl 22 _ _ rfl (l0.length : Int) rfl rfl Try.underlying22 (.int .u8 0) 1 info5 rfl (by decide) (by omega) 0 (ok := fun _ => True) (okp := fun _ => True) rfl (fun _ hk => hk) trivial (odA) (Nat.le_trans (Nat.mul_le_mul_right _ (odA : (l0.length : Int).toNat ≤ 281474976710656)) (by omega)) (Below.refl _ _) (Nat.le_refl _) ?_; intro v176 w4 ho5 hb hg_ hnew_; clear hg_ hnew_; (first | rw [← Ny175.out] at ho5 | (simp only [Int.reduceToNat] at ho5; rw [← Ny175.out] at ho5)); have HO177 := rL ho5; replace HB := bS hb; clear hb ho5))
 go_loopg [4] k (fun kq v4 w' => ∃ (x3_1 : List Int) (x4_1 : Int), v4 = .int .i64 x4_1 ∧ Aside0 (laws_toByteS.l0 kq l0 x3_1 x4_1 = some r) ∧ Aside0 (kq ≤ k) ∧ Aside0 (Kd.R (Kd.int .u8) 5 w' w.heap.size (fun _ => True) v176 x3_1) ∧ Aside0 (Below w.heap.size w w'))
 case atStart => exact ⟨(y175), (0), eqA, H', ⟨Nat.le_refl _⟩, ⟨rA HO177⟩, ⟨belA⟩⟩
 case round =>
  clear H'; obtain ⟨x3_1, x4_1, rfl, HA, HK1, HO_3, HB⟩ := hrel
  cases gk with
  | zero => exact absurd HA.out (by simp [laws_toByteS.l0])
  | succ k1 =>
   have H := HA.out; clear HA; simp only [laws_toByteS.l0] at H
   by_cases c6 : x4_1 < (l0.length : Int); rotate_left
   · rw [if_neg c6] at H; have c6b0 := decide_eq_false c6; clear c6; obtain rfl := Option.some.inj H; go_wp2
     go_ret
     exact ⟨_, xq2, xq52, belA⟩
   rw [if_pos c6] at H; have c6b0 := decide_eq_true c6; clear c6
   by_cases c7 : 0 ≤ x4_1; rotate_left
   · rw [if_neg c7] at H; exact absurd H (by simp)
   rw [if_pos c7] at H; have c7b0 := decide_eq_true c7; clear c7
   by_cases c8 : x4_1 < (x3_1.length : Int); rotate_left
   · rw [if_neg c8] at H; exact absurd H (by simp)
   rw [if_pos c8] at H; have c8b0 := decide_eq_true c8; clear c8; obtain ⟨y179, hyq⟩ : ∃ y_ : List Int, y_ = (x3_1.set (x4_1 : Int).toNat (rd l0 x4_1)) := ⟨_, rfl⟩; replace H : (laws_toByteS.l0 k1 l0 y179 (wrap64 (x4_1 + 1))) = some r := by first | (rw [hyq]; with_reducible exact H) | (have H2_ := (Option.bind_some _ _).symm.trans H; rw [hyq]; with_reducible exact H2_) | (have H2_ := (Option.bind_some _ _).symm.trans H; with_reducible exact H2_) | with_reducible exact H | (rw [hyq]; exact H) | exact H
   have Ny179 := ak hyq; clear hyq; have H' := ak H; clear H; have p178 : 0 ≤ (x4_1 : Int) := odA; have q178 : x4_1 < (l0.length : Int) := odA; obtain ⟨ad178, e178, hx178_0⟩ := Kd.at_int HR0.out x4_1 p178 q178
   cases e178
   try replace hx178_0 := cB HB hx178_0
   replace p178 := eq_true p178; replace q178 := eq_true q178; have p9 : 0 ≤ (x4_1 : Int) := odA; have q9 : (x4_1 : Int) < ((x3_1.length : Int) : Int) := odA; obtain ⟨go9, co9, eo9, gb9, gl9, cl9, HG9⟩ := Kd.R_form HO_3.out (by omega); (first | cases eo9 | (injection eo9 with ea_ en_ ec_; (first | subst ea_ | (injection ea_ with ea_; subst ea_)); subst ec_; clear en_))
   have GB9 := ak gb9; have GG9 := ak HG9; clear gb9 gl9 HG9; obtain ⟨hx9_0, hf9_0⟩ := Kd.R_celln 0 HO_3.out (x4_1 : Int) p9 q9; replace p9 := eq_true p9; replace q9 := eq_true q9; have HP10 := Kd.R_putg HO_3.out (x4_1 : Int) (rd l0 x4_1); go_wp2_with (first | ((with_reducible refine gate_store (t := 5) (p := 20) rfl ?_); refine store_event (t := 5) (p := 20) (v := ?vo_w11) (w1 := (wr.setCell ⟨go9, (x4_1 : Int).toNat, none⟩ (.int .u8 (rd l0 x4_1)))) ?hg ?ho ?hn ?hr ?_; (case ho => rfl); (case hg => rfl); (case hn => rfl); (case hr => exact xq4); intro w11 hw; have hg : wr.grownBy w11 (some go9) := (by rw [hw]; exact HP10.2); have hp_ : Kd.R (Kd.int .u8) 5 w11 w.heap.size (fun _ => True) (.slice (some ⟨go9, 0, none⟩) x3_1.length co9) y179 := (by rw [hw, Ny179.out]; exact HP10.1); clear HP10; replace HO_3 := ak hp_; replace HB := ak ((by rw [hw]; exact below_set (HB.out) GB9.out : Below w.heap.size w w11)); clear hg hw hp_))
   go_roundg k1
   case measure => have := HK1.out; omega
   case rel => exact ⟨(y179), (wrap64 (x4_1 + 1)), eqA, H', ⟨xq5⟩, ⟨rA HO_3⟩, ⟨belA⟩⟩

def laws_toByteSS.l0 : Nat → List (List Int) → List (List Int) → Int → Option ((List (List Int)))
 | 0, _, _, _ => none
 | k + 1, x0, x3, x4 => if x4 < (x0.length : Int) then (if 0 ≤ x4 then ((laws_toByteS.f k (rd_L1 x0 x4)).bind fun t184 => (if x4 < (x3.length : Int) then (laws_toByteSS.l0 k x0 (x3.set (x4 : Int).toNat t184) (wrap64 (x4 + 1))) else (none))) else (none)) else (some x3)
def laws_toByteSS.f (k : Nat) (l0 : List (List Int)) : Option ((List (List Int))) := if 0 ≤ (l0.length : Int) then (if ((l0.length : Int) : Int).toNat ≤ 11728124029610 then (laws_toByteSS.l0 k l0 (List.replicate ((l0.length : Int) : Int).toNat []) 0) else (none)) else (none)
theorem laws_toByteSS.mono_l : ∀ k, (∀ y0 y1 y2, LeO (laws_toByteSS.l0 k y0 y1 y2) (laws_toByteSS.l0 (k + 1) y0 y1 y2))
 | 0 => fun _ _ _ r h => by simp [laws_toByteSS.l0] at h
 | k + 1 => by
  have ih0 := laws_toByteSS.mono_l k
  · intro y0 y1 y2; unfold laws_toByteSS.l0; exact xq75
theorem laws_toByteSS.mono : ∀ a0 k, LeO (laws_toByteSS.f k a0) (laws_toByteSS.f (k + 1) a0) := by
 intro a0 k; have ih0 := laws_toByteSS.mono_l k
 unfold laws_toByteSS.f
 exact xq75
theorem laws_toByteSS.calls (k : Nat) (A0 : Option Addr) (c0 : Nat) (l0 : List (List Int)) (r : List (List Int)) (w : World) (hr0 : Kd.C (Kd.slice 5 (Kd.int .u8)) w A0 l0.length l0) (hc0 : l0.length ≤ c0) (h : laws_toByteSS.f k l0 = some r) :
 Calls Try.prog 34 #[.slice A0 l0.length c0] w fun e w' => ∃ v0_ : Value, e = .returned (v0_) ∧ Kd.S (Kd.slice 5 (Kd.int .u8)) 22 w' w.heap.size (fun _ => True) v0_ r ∧ Below w.heap.size w w' := by
 have HR0 := ak hr0; have HC0 := ak hc0; clear hr0 hc0; have HB := ak (Below.refl w.heap.size w); have H : (if 0 ≤ (l0.length : Int) then (if ((l0.length : Int) : Int).toNat ≤ 11728124029610 then (laws_toByteSS.l0 k l0 (List.replicate ((l0.length : Int) : Int).toNat []) 0) else (none)) else (none)) = some r := h; clear h
 by_cases c2 : 0 ≤ (l0.length : Int); rotate_left
 · rw [if_neg c2] at H; exact absurd H (by simp)
 rw [if_pos c2] at H; have c2b0 := eq_true c2; have c2b1 : decide (0 ≤ (l0.length : Int)) = true := decide_eq_true c2; clear c2
 by_cases c3 : ((l0.length : Int) : Int).toNat ≤ 11728124029610; rotate_left
 · rw [if_neg c3] at H; exact absurd H (by simp)
 rw [if_pos c3] at H; have c3b0 := eq_true c3; have c3b1 : decide (((l0.length : Int) : Int).toNat ≤ 11728124029610) = true := decide_eq_true c3; clear c3; obtain ⟨y180, hyq⟩ : ∃ y_ : List (List Int), y_ = (List.replicate ((l0.length : Int) : Int).toNat []) := ⟨_, rfl⟩; replace H : (laws_toByteSS.l0 k l0 y180 0) = some r := by first | (rw [hyq]; with_reducible exact H) | (have H2_ := (Option.bind_some _ _).symm.trans H; rw [hyq]; with_reducible exact H2_) | (have H2_ := (Option.bind_some _ _).symm.trans H; with_reducible exact H2_) | with_reducible exact H | (rw [hyq]; exact H) | exact H
 have Ny180 := ak hyq; clear hyq; have H' := ak H; clear H; go_enter Try.func34, Try.ntmps34
 go_wp2_with (first | ((with_reducible refine gate_dst (N := 7) rfl ?_); refine Kd.S_make (Kd.slice 5 (Kd.int .u8)) _ 22 rfl (N := 7) rfl 59 _ _ rfl (l0.length : Int) rfl rfl Try.underlying59 (.slice none 0 0) 24 info22 rfl (by decide) (by omega) [] (ok := fun _ => True) (okp := fun _ => True) ⟨_, rfl, Kd.R_nil _ _ _ _ _⟩ (fun _ hk => hk) trivial (odA) (Nat.le_trans (Nat.mul_le_mul_right _ (odA : (l0.length : Int).toNat ≤ 11728124029610)) (by omega)) (Below.refl _ _) (Nat.le_refl _) ?_; intro v181 w4 ho5 hb hg_ hnew_; clear hg_ hnew_; (first | rw [← Ny180.out] at ho5 | (simp only [Int.reduceToNat] at ho5; rw [← Ny180.out] at ho5)); have HO182 := sL ho5; replace HB := bS hb; clear hb ho5))
 go_loopg [4] k (fun kq v4 w' => ∃ (x3_1 : List (List Int)) (x4_1 : Int), v4 = .int .i64 x4_1 ∧ Aside0 (laws_toByteSS.l0 kq l0 x3_1 x4_1 = some r) ∧ Aside0 (kq ≤ k) ∧ Aside0 (Kd.S (Kd.slice 5 (Kd.int .u8)) 22 w' w.heap.size (fun _ => True) v181 x3_1) ∧ Aside0 (Below w.heap.size w w'))
 case atStart => exact ⟨(y180), (0), eqA, H', ⟨Nat.le_refl _⟩, ⟨sA HO182⟩, ⟨belA⟩⟩
 case round =>
  clear H'; obtain ⟨x3_1, x4_1, rfl, HA, HK1, HO_3, HB⟩ := hrel
  cases gk with
  | zero => exact absurd HA.out (by simp [laws_toByteSS.l0])
  | succ k1 =>
   have H := HA.out; clear HA; simp only [laws_toByteSS.l0] at H
   by_cases c6 : x4_1 < (l0.length : Int); rotate_left
   · rw [if_neg c6] at H; have c6b0 := decide_eq_false c6; clear c6; obtain rfl := Option.some.inj H; go_wp2
     go_ret
     exact ⟨_, xq2, by (with_reducible repeat (first | apply Kd.S_alloc | apply Kd.S_drewN | apply Kd.S_drew)); exact HO_3.out, belA⟩
   rw [if_pos c6] at H; have c6b0 := decide_eq_true c6; clear c6
   by_cases c7 : 0 ≤ x4_1; rotate_left
   · rw [if_neg c7] at H; exact absurd H (by simp)
   rw [if_pos c7] at H; have c7b0 := decide_eq_true c7; clear c7; replace H := Option.bind_eq_some_iff.mp H; obtain ⟨t184, A80, H⟩ := H; (try dsimp only at H); have A8 := ak A80; clear A80
   by_cases c9 : x4_1 < (x3_1.length : Int); rotate_left
   · rw [if_neg c9] at H; exact absurd H (by simp)
   rw [if_pos c9] at H; have c9b0 := decide_eq_true c9; clear c9; obtain ⟨y187, hyq⟩ : ∃ y_ : List (List Int), y_ = (x3_1.set (x4_1 : Int).toNat t184) := ⟨_, rfl⟩; replace H : (laws_toByteSS.l0 k1 l0 y187 (wrap64 (x4_1 + 1))) = some r := by first | (rw [hyq]; with_reducible exact H) | (have H2_ := (Option.bind_some _ _).symm.trans H; rw [hyq]; with_reducible exact H2_) | (have H2_ := (Option.bind_some _ _).symm.trans H; with_reducible exact H2_) | with_reducible exact H | (rw [hyq]; exact H) | exact H
   have Ny187 := ak hyq; clear hyq; have H' := ak H; clear H; have p183 : 0 ≤ (x4_1 : Int) := odA; have q183 : x4_1 < (l0.length : Int) := odA; obtain ⟨ad183, A183_0, c183_0, e183, hx183_0, hl183_0, hi183_0⟩ := at_L1 HR0.out x4_1 p183 q183
   cases e183
   try replace hx183_0 := cB HB hx183_0
   have HR183_0 := ak hi183_0; have HC183_0 := ak hl183_0; clear hi183_0 hl183_0; replace p183 := eq_true p183; replace q183 := eq_true q183; go_wp2_with (first | ((with_reducible refine gate_callee (f := 74) rfl ?_); refine goB 20 Try.func74 #[.slice A183_0 (rd_L1 l0 x4_1).length c183_0] rfl ?_; (with_reducible refine (laws_toByteS.calls k1 _ _ (rd_L1 l0 x4_1) t184 _ ?side1 ?side2 A8.out).mono ?_); (case side1 => exact cA (Kd.C_below HR183_0.out HB.out)); (case side2 => exact HC183_0.out); rintro e w11 ⟨v185, rfl, ho0, hb⟩; refine ⟨_, rfl, ?_⟩; have HO186 := rL ho0; replace HO_3 := sD HO_3 (Kd.R_base ho0) hb; replace HB := bS hb; (try clear hb ho0); have p10 : 0 ≤ (x4_1 : Int) := odA; have q10 : (x4_1 : Int) < ((x3_1.length : Int) : Int) := odA; obtain ⟨go10, co10, eo10, gb10, gl10, cl10, HG10⟩ := Kd.S_form HO_3.out (by omega); (first | cases eo10 | (injection eo10 with ea_ en_ ec_; (first | subst ea_ | (injection ea_ with ea_; subst ea_)); subst ec_; clear en_)); have GB10 := ak gb10; have GG10 := ak HG10; clear gb10 gl10 HG10; obtain ⟨_, ce10, hcl10, hM10, hcc10, hfr10, _, _⟩ := Kd.S_elem HO_3.out [] (x4_1 : Int) p10 q10; obtain ⟨ve10_0, rfl, ge10_0⟩ := hM10; have hx10_0 := hcc10 0 _ rfl; have hf10_0 := hfr10 0; (try simp only [show ((Kd.slice 5 (Kd.int .u8))).sz = 1 from rfl, Nat.mul_one, Nat.add_zero] at hx10_0); (try simp only [show ((Kd.slice 5 (Kd.int .u8))).sz = 1 from rfl, Nat.mul_one, Nat.add_zero] at hf10_0); clear hcl10 hcc10 hfr10; (try clear hM10); replace p10 := eq_true p10; replace q10 := eq_true q10; have n_ := ak (Kd.S_mono (ok' := (fun k_ => some k_ ≠ (v185 : Value).ownBlock)) HO_3.out (fun k_ hk => hk.2)); clear HO_3; have HO_3 := n_; clear n_; have HX12 := ak (show Kd.S (Kd.slice 5 (Kd.int .u8)) 22 w11 w.heap.size (fun k_ => ((fun _ => True)) k_ ∧ ¬ ((fun k_ => some k_ = (v185 : Value).ownBlock)) k_) (.slice (some ⟨go10, 0, none⟩) x3_1.length co10) x3_1 from (sE (Kd.S_mono HO_3.out (fun k_ hk => ⟨trivial, fun e_ => hk e_⟩)))); obtain ⟨oki12, ce12, hcl12, hM12, hcc12, hfr12, hoki12, hH12⟩ := Kd.S_elem HX12.out [] (x4_1 : Int) (odA) xq76; obtain ⟨ve12_0, rfl, ge12_0⟩ := hM12; have HP12 := Kd.S_seg hH12 (odA) xq76 (seg := [v185]) (j := 0) (show 1 ≤ 1 from by decide) (x' := t184) (Kd.M_row (Kd.R_mono (Kd.R_tight rfl (Kd.R_mono (ok' := fun k_ => ((fun _ => True)) k_ ∧ k_ ≠ go10) (Kd.R_apart' (HO186.out) (Kd.S_typed HO_3.out) (by decide)) (fun k_ hk => ⟨trivial, fun e_ => (hk.2) (by rw [e_]; rfl)⟩))) (fun _ h_ => Or.inr (h_)))) (fun _ hk => hk) (fun k_ hk_ => ((Kd.R_mono (ok' := fun k_ => ((fun _ => True)) k_ ∧ k_ ≠ go10) (Kd.R_apart' (HO186.out) (Kd.S_typed HO_3.out) (by decide)) (fun k_ hk => ⟨trivial, fun e_ => (hk.2) (by rw [e_]; rfl)⟩))).1 k_ hk_.symm); have hx12_0 := hcc12 0 _ rfl; (try simp only [show ((Kd.slice 5 (Kd.int .u8))).sz = 1 from rfl, Nat.mul_one, Nat.add_zero] at hx12_0); have hf12_0 := hfr12 0; (try simp only [show ((Kd.slice 5 (Kd.int .u8))).sz = 1 from rfl, Nat.mul_one, Nat.add_zero] at hf12_0); clear hcl12 hcc12 hfr12 hoki12 hH12; (try clear hM12); (try simp only [show ((Kd.slice 5 (Kd.int .u8))).sz = 1 from rfl, Nat.mul_one, Nat.add_zero] at HP12)) | ((with_reducible refine gate_store (t := 22) (p := 21) rfl ?_); refine store_event (t := 22) (p := 21) (v := ?vo_w13) (w1 := (w11.setCell ⟨go10, (x4_1 : Int).toNat, none⟩ (v185))) ?hg ?ho ?hn ?hr ?_; (case ho => rfl); (case hg => rfl); (case hn => rfl); (case hr => (try (obtain ⟨Aq_, cq_, eq_⟩ := Kd.R_slice (v := v185) (Aside0.out (by assumption)); subst eq_)); first | (go_simp; done) | (go_simp; rfl)); intro w13 hw; have hg : w11.grownBy w13 (some go10) := (by rw [hw]; exact HP12.2); have hp_ : Kd.S (Kd.slice 5 (Kd.int .u8)) 22 w13 w.heap.size (fun _ => True) (.slice (some ⟨go10, 0, none⟩) x3_1.length co10) y187 := (by rw [hw, Ny187.out]; exact HP12.1); clear HP12; replace HO_3 := ak hp_; replace HB := ak ((by rw [hw]; exact below_set (HB.out) GB10.out : Below w.heap.size w w13)); clear HO186; clear hg hw hp_))
   go_roundg k1
   case measure => have := HK1.out; omega
   case rel => exact ⟨(y187), (wrap64 (x4_1 + 1)), eqA, H', ⟨xq5⟩, ⟨sA HO_3⟩, ⟨belA⟩⟩

def impl_bigEndian.l0 : Nat → Int → List Int → Int → Option (List Int)
 | 0, _, _, _ => none
 | k + 1, x0, x5, x6 => if x6 ≥ 0 then (if 0 ≤ x6 then (if x6 < (x5.length : Int) then (impl_bigEndian.l0 k (x0 / 256) (x5.set (x6 : Int).toNat ((x0) % 256)) (wrap64 (x6 - 1))) else (none)) else (none)) else (some x5)
def impl_bigEndian.f (k : Nat) (a0 : Int) (a1 : Int) : Option (List Int) := if 0 ≤ a1 then (if (a1 : Int).toNat ≤ 281474976710656 then (impl_bigEndian.l0 k a0 (List.replicate (a1 : Int).toNat 0) (wrap64 (a1 - 1))) else (none)) else (none)
theorem impl_bigEndian.mono_l : ∀ k, (∀ y0 y1 y2, LeO (impl_bigEndian.l0 k y0 y1 y2) (impl_bigEndian.l0 (k + 1) y0 y1 y2))
 | 0 => fun _ _ _ r h => by simp [impl_bigEndian.l0] at h
 | k + 1 => by
  have ih0 := impl_bigEndian.mono_l k
  · intro y0 y1 y2; unfold impl_bigEndian.l0; exact xq6
theorem impl_bigEndian.mono : ∀ a0 a1 k, LeO (impl_bigEndian.f k a0 a1) (impl_bigEndian.f (k + 1) a0 a1) := by
 intro a0 a1 k; have ih0 := impl_bigEndian.mono_l k
 unfold impl_bigEndian.f
 exact xq6
theorem impl_bigEndian.calls (k : Nat) (a0 : Int) (a1 : Int) (r : List Int) (w : World) (h : impl_bigEndian.f k a0 a1 = some r) :
 Calls Try.prog 122 #[.int .i64 a0, .int .i64 a1] w fun e w' => ∃ v0_ : Value, e = .returned (v0_) ∧ Kd.R (Kd.int .u8) 5 w' w.heap.size (fun _ => True) v0_ r ∧ Below w.heap.size w w' := by
 have HB := ak (Below.refl w.heap.size w); have H : (if 0 ≤ a1 then (if (a1 : Int).toNat ≤ 281474976710656 then (impl_bigEndian.l0 k a0 (List.replicate (a1 : Int).toNat 0) (wrap64 (a1 - 1))) else (none)) else (none)) = some r := h; clear h
 by_cases c3 : 0 ≤ a1; rotate_left
 · rw [if_neg c3] at H; exact absurd H (by simp)
 rw [if_pos c3] at H; have c3b0 := eq_true c3; have c3b1 : decide (0 ≤ a1) = true := decide_eq_true c3; clear c3
 by_cases c4 : (a1 : Int).toNat ≤ 281474976710656; rotate_left
 · rw [if_neg c4] at H; exact absurd H (by simp)
 rw [if_pos c4] at H; have c4b0 := eq_true c4; have c4b1 : decide ((a1 : Int).toNat ≤ 281474976710656) = true := decide_eq_true c4; clear c4; obtain ⟨y188, hyq⟩ : ∃ y_ : List Int, y_ = (List.replicate (a1 : Int).toNat 0) := ⟨_, rfl⟩; replace H : (impl_bigEndian.l0 k a0 y188 (wrap64 (a1 - 1))) = some r := by first | (rw [hyq]; with_reducible exact H) | (have H2_ := (Option.bind_some _ _).symm.trans H; rw [hyq]; with_reducible exact H2_) | (have H2_ := (Option.bind_some _ _).symm.trans H; with_reducible exact H2_) | with_reducible exact H | (rw [hyq]; exact H) | exact H
 have Ny188 := ak hyq; clear hyq; have H' := ak H; clear H; go_enter Try.func122, Try.ntmps122
 go_wp2_with (first | ((with_reducible refine gate_dst (N := 8) rfl ?_); refine Kd.R_make (Kd.int .u8) _ 5 rfl (N := 8) rfl 22 _ _ rfl a1 rfl rfl Try.underlying22 (.int .u8 0) 1 info5 rfl (by decide) (by omega) 0 (ok := fun _ => True) (okp := fun _ => True) rfl (fun _ hk => hk) trivial (odA) (Nat.le_trans (Nat.mul_le_mul_right _ (odA : a1.toNat ≤ 281474976710656)) (by omega)) (Below.refl _ _) (Nat.le_refl _) ?_; intro v189 w5 ho6 hb hg_ hnew_; clear hg_ hnew_; (first | rw [← Ny188.out] at ho6 | (simp only [Int.reduceToNat] at ho6; rw [← Ny188.out] at ho6)); have HO190 := rL ho6; replace HB := bS hb; clear hb ho6))
 go_loopg [0, 6] k (fun kq v0 v6 w' => ∃ (x0_1 : Int) (x5_1 : List Int) (x6_1 : Int), v0 = .int .i64 x0_1 ∧ v6 = .int .i64 x6_1 ∧ Aside0 (impl_bigEndian.l0 kq x0_1 x5_1 x6_1 = some r) ∧ Aside0 (kq ≤ k) ∧ Aside0 (Kd.R (Kd.int .u8) 5 w' w.heap.size (fun _ => True) v189 x5_1) ∧ Aside0 (Below w.heap.size w w'))
 case atStart => exact ⟨(a0), (y188), (wrap64 (a1 - 1)), eqA, eqA, H', ⟨Nat.le_refl _⟩, ⟨rA HO190⟩, ⟨belA⟩⟩
 case round =>
  clear H'; obtain ⟨x0_1, x5_1, x6_1, rfl, rfl, HA, HK1, HO_5, HB⟩ := hrel
  cases gk with
  | zero => exact absurd HA.out (by simp [impl_bigEndian.l0])
  | succ k1 =>
   have H := HA.out; clear HA; simp only [impl_bigEndian.l0] at H
   by_cases c7 : x6_1 ≥ 0; rotate_left
   · rw [if_neg c7] at H; have c7b0 : decide (0 ≤ x6_1) = false := decide_eq_false c7; clear c7; obtain rfl := Option.some.inj H; go_wp2
     go_ret
     exact ⟨_, xq2, xq33, belA⟩
   rw [if_pos c7] at H; have c7b0 : decide (0 ≤ x6_1) = true := decide_eq_true c7; clear c7
   by_cases c8 : 0 ≤ x6_1; rotate_left
   · rw [if_neg c8] at H; exact absurd H (by simp)
   rw [if_pos c8] at H; have c8b0 := decide_eq_true c8; clear c8
   by_cases c9 : x6_1 < (x5_1.length : Int); rotate_left
   · rw [if_neg c9] at H; exact absurd H (by simp)
   rw [if_pos c9] at H; have c9b0 := decide_eq_true c9; clear c9; obtain ⟨y191, hyq⟩ : ∃ y_ : List Int, y_ = (x5_1.set (x6_1 : Int).toNat ((x0_1) % 256)) := ⟨_, rfl⟩; replace H : (impl_bigEndian.l0 k1 (x0_1 / 256) y191 (wrap64 (x6_1 - 1))) = some r := by first | (rw [hyq]; with_reducible exact H) | (have H2_ := (Option.bind_some _ _).symm.trans H; rw [hyq]; with_reducible exact H2_) | (have H2_ := (Option.bind_some _ _).symm.trans H; with_reducible exact H2_) | with_reducible exact H | (rw [hyq]; exact H) | exact H
   have Ny191 := ak hyq; clear hyq; have H' := ak H; clear H; have p10 : 0 ≤ (x6_1 : Int) := odA; have q10 : (x6_1 : Int) < ((x5_1.length : Int) : Int) := odA; obtain ⟨go10, co10, eo10, gb10, gl10, cl10, HG10⟩ := Kd.R_form HO_5.out (by omega); (first | cases eo10 | (injection eo10 with ea_ en_ ec_; (first | subst ea_ | (injection ea_ with ea_; subst ea_)); subst ec_; clear en_))
   have GB10 := ak gb10; have GG10 := ak HG10; clear gb10 gl10 HG10; obtain ⟨hx10_0, hf10_0⟩ := Kd.R_celln 0 HO_5.out (x6_1 : Int) p10 q10; replace p10 := eq_true p10; replace q10 := eq_true q10; have HP11 := Kd.R_putg HO_5.out (x6_1 : Int) ((x0_1) % 256); go_wp2_with (first | ((with_reducible refine gate_store (t := 5) (p := 19) rfl ?_); refine store_event (t := 5) (p := 19) (v := ?vo_w12) (w1 := (wr.setCell ⟨go10, (x6_1 : Int).toNat, none⟩ (.int .u8 ((x0_1) % 256)))) ?hg ?ho ?hn ?hr ?_; (case ho => rfl); (case hg => rfl); (case hn => rfl); (case hr => exact xq4); intro w12 hw; have hg : wr.grownBy w12 (some go10) := (by rw [hw]; exact HP11.2); have hp_ : Kd.R (Kd.int .u8) 5 w12 w.heap.size (fun _ => True) (.slice (some ⟨go10, 0, none⟩) x5_1.length co10) y191 := (by rw [hw, Ny191.out]; exact HP11.1); clear HP11; replace HO_5 := ak hp_; replace HB := ak ((by rw [hw]; exact below_set (HB.out) GB10.out : Below w.heap.size w w12)); clear hg hw hp_))
   go_roundg k1
   case measure => have := HK1.out; omega
   case rel => exact ⟨(x0_1 / 256), (y191), (wrap64 (x6_1 - 1)), eqA, eqA, H', ⟨xq5⟩, ⟨rA HO_5⟩, ⟨belA⟩⟩

def impl_checkSum.l0 : Nat → Int → Int → List Int → Int → Int → Option (Int)
 | 0, _, _, _, _, _ => none
 | k + 1, x3, x4, x7, x8, x9 => if x9 < x8 then (if 0 ≤ x9 then (if x9 < (x7.length : Int) then (impl_checkSum.l0 k (Int.tmod (wrap64 (x3 + (wrap64 (rd x7 x9)))) 65521) (Int.tmod (wrap64 (x4 + (Int.tmod (wrap64 (x3 + (wrap64 (rd x7 x9)))) 65521))) 65521) x7 x8 (wrap64 (x9 + 1))) else (none)) else (none)) else (some (wrap64 ((wrap64 (65536 * x4)) + x3)))
def impl_checkSum.f (k : Nat) (l0 : List Int) : Option (Int) := impl_checkSum.l0 k 1 0 l0 (l0.length : Int) 0
theorem impl_checkSum.mono_l : ∀ k, (∀ y0 y1 y2 y3 y4, LeO (impl_checkSum.l0 k y0 y1 y2 y3 y4) (impl_checkSum.l0 (k + 1) y0 y1 y2 y3 y4))
 | 0 => fun _ _ _ _ _ r h => by simp [impl_checkSum.l0] at h
 | k + 1 => by
  have ih0 := impl_checkSum.mono_l k
  · intro y0 y1 y2 y3 y4; unfold impl_checkSum.l0; exact xq77
theorem impl_checkSum.mono : ∀ a0 k, LeO (impl_checkSum.f k a0) (impl_checkSum.f (k + 1) a0) := by
 intro a0 k; have ih0 := impl_checkSum.mono_l k
 unfold impl_checkSum.f
 exact xq77
theorem impl_checkSum.calls (k : Nat) (A0 : Option Addr) (c0 : Nat) (l0 : List Int) (r : Int) (w : World) (hr0 : Kd.C (Kd.int .u8) w A0 l0.length l0) (hc0 : l0.length ≤ c0) (h : impl_checkSum.f k l0 = some r) :
 Calls Try.prog 123 #[.slice A0 l0.length c0] w fun e w' => e = .returned (.int .i64 r) ∧ Drawn0 w w' := by
 have HR0 := ak hr0; have HC0 := ak hc0; clear hr0 hc0; have H : (impl_checkSum.l0 k 1 0 l0 (l0.length : Int) 0) = some r := h; clear h; have H' := ak H; clear H; go_enter Try.func123, Try.ntmps123
 go_wp2
 go_loopg [3, 4, 9] k (fun kq v3 v4 v9 w' => ∃ (x3_1 : Int) (x4_1 : Int) (x9_1 : Int), v3 = .int .i64 x3_1 ∧ v4 = .int .i64 x4_1 ∧ v9 = .int .i64 x9_1 ∧ Aside0 (impl_checkSum.l0 kq x3_1 x4_1 l0 (l0.length : Int) x9_1 = some r) ∧ Aside0 (kq ≤ k) ∧ Drawn0 w w')
 case atStart => exact ⟨(1), (0), (0), eqA, eqA, eqA, H', ⟨Nat.le_refl _⟩, xq1⟩
 case round =>
  clear H'; obtain ⟨x3_1, x4_1, x9_1, rfl, rfl, rfl, HA, HK1, ⟨m1, rfl⟩⟩ := hrel
  cases gk with
  | zero => exact absurd HA.out (by simp [impl_checkSum.l0])
  | succ k1 =>
   have H := HA.out; clear HA; simp only [impl_checkSum.l0] at H
   by_cases c2 : x9_1 < (l0.length : Int); rotate_left
   · rw [if_neg c2] at H; have c2b0 := decide_eq_false c2; clear c2; obtain rfl := Option.some.inj H; go_wp2
     go_ret
     exact ⟨xq3, xq1⟩
   rw [if_pos c2] at H; have c2b0 := decide_eq_true c2; clear c2
   by_cases c3 : 0 ≤ x9_1; rotate_left
   · rw [if_neg c3] at H; exact absurd H (by simp)
   rw [if_pos c3] at H; have c3b0 := decide_eq_true c3; clear c3
   by_cases c4 : x9_1 < (l0.length : Int); rotate_left
   · rw [if_neg c4] at H; exact absurd H (by simp)
   rw [if_pos c4] at H; have c4b0 := decide_eq_true c4; clear c4; have H' := ak H; clear H; have p192 : 0 ≤ (x9_1 : Int) := odA; have q192 : x9_1 < (l0.length : Int) := odA; obtain ⟨ad192, e192, hx192_0⟩ := Kd.at_int HR0.out x9_1 p192 q192
   cases e192
   replace p192 := eq_true p192; replace q192 := eq_true q192; go_wp2
   go_roundg k1
   case measure => have := HK1.out; omega
   case rel => exact ⟨(Int.tmod (wrap64 (x3_1 + (wrap64 (rd l0 x9_1)))) 65521), (Int.tmod (wrap64 (x4_1 + (Int.tmod (wrap64 (x3_1 + (wrap64 (rd l0 x9_1)))) 65521))) 65521), (wrap64 (x9_1 + 1)), eqA, eqA, eqA, H', ⟨xq5⟩, xq1⟩

end Go.Proofs.Ytogdhclomgafdaa.PFnExactFeedAll
