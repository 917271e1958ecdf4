-- Written by a program of this session (the print of the kit with contracts of this session's own added)
import Derived.Test.YtbojabmpcfclhaaZFLOx1
import Derived.Test.YtbojabmpcfclhaaZFLOx3
import Derived.Test.YtbojabmpcfclhaaZFLOx4
import Derived.Test.YtbojabmpcfclhaaZFLOV
namespace Go.Proofs.Ytbojabmpcfclhaa.PFnLineOrder
open Go.RowKit Go.Proofs.YtbojabmpcfclhaaW.PrintWords Go.Proofs.YtbojabmpcfclhaaW.PrintLast Go.Proofs.YtbojabmpcfclhaaW.PrintMore Go.Proofs.YtbojabmpcfclhaaW.PrintPack
attribute [local go_sem] max2_int min2_int max_two min_two max_three min_three max_four min_four   -- for this text's walks alone
set_option linter.unusedVariables false
set_option linter.unusedSimpArgs false

/-! ### impl_Pop: function 46 -/
def impl_Pop.j0 : Nat → Bool → List (S65) → Option ((List (S65)) × Int × Int × Bool)
 | 0, _, _ => none
 | k + 1, x13, x157000 => if x13 = true then ((impl_copyLine.f x157000).bind fun t160 => (some (t160, 0, 0, false))) else (if 1 ≤ (x157000.length : Int) then ((impl_copyLine.f (x157000.drop 1)).bind fun t167 => (if 0 < (x157000.length : Int) then (some (t167, (rd_T65 x157000 0).f0, (rd_T65 x157000 0).f1, true)) else (none))) else (none))
def impl_Pop.f (k : Nat) (l0_0 : List (S65)) : Option ((List (S65)) × Int × Int × Bool) := (impl_isLine.f k l0_0).bind fun t159 => (if t159 = true then (impl_Pop.j0 k ((l0_0.length : Int) == 0) l0_0) else (impl_Pop.j0 k true l0_0))
theorem impl_Pop.mono_l : ∀ k, (∀ y0 y1, LeO (impl_Pop.j0 k y0 y1) (impl_Pop.j0 (k + 1) y0 y1))
 | 0 => fun _ _ r h => by simp [impl_Pop.j0] at h
 | k + 1 => by
  have ih0 := impl_Pop.mono_l k
  · intro y0 y1
    unfold impl_Pop.j0
    repeat' first
    | (with_reducible exact ih0 _ _)
    | (with_reducible exact impl_isLine.mono _ _)
    | (with_reducible exact LeO.refl _)
    | (with_reducible exact LeO.none _)
    | (with_reducible refine LeO.ite ?_ ?_)
    | (with_reducible refine LeO.bind ?_ (fun _ => ?_))
    | exact ih0 _ _
    | exact impl_isLine.mono _ _
    | exact LeO.none _
    | refine LeO.ite ?_ ?_
    | refine LeO.bind ?_ (fun _ => ?_)
theorem impl_Pop.mono : ∀ a0 k, LeO (impl_Pop.f k a0) (impl_Pop.f (k + 1) a0) := by
 intro a0 k; have ih0 := impl_Pop.mono_l k
 unfold impl_Pop.f
 repeat' first
  | (with_reducible exact ih0 _ _)
  | (with_reducible exact impl_isLine.mono _ _)
  | (with_reducible exact LeO.refl _)
  | (with_reducible exact LeO.none _)
  | (with_reducible refine LeO.ite ?_ ?_)
  | (with_reducible refine LeO.bind ?_ (fun _ => ?_))
  | exact ih0 _ _
  | exact impl_isLine.mono _ _
  | exact LeO.none _
  | refine LeO.ite ?_ ?_
  | refine LeO.bind ?_ (fun _ => ?_)
def impl_Pop.T3 : Bool × List (List Nat × List Nat) := (true, [([], []), ([0], [0]), ([1], [1]), ([2], [2]), ([3], [3]), ([], []), ([5], [5]), ([6], [6]), ([7], [7]), ([4, 4, 0, 1, 2, 3, 4], [4]), ([8, 9, 0, 1, 2, 3, 4, 5, 6, 7, 8, 9], [8]), ([10, 0, 1, 2, 3, 4, 5, 6, 7, 8, 9, 10], [])])
def impl_Pop.B3 : List Nat := [0, 1, 3, 7, 15, 0, 32, 96, 224, 31, 1023, 2047]
theorem impl_Pop.tab3 : rtab .any (opsOf Try.f46 3) = impl_Pop.T3 := by kernel_rfl
theorem impl_Pop.bits3 : waitsOk impl_Pop.T3.2 impl_Pop.B3 = true := by kernel_rfl
set_option maxHeartbeats 8000000 in
set_option maxRecDepth 100000 in
theorem impl_Pop.calls (k : Nat) (A0_0 : Option Addr) (c0_0 : Nat) (l0_0 : List (S65)) (r1 : List (S65)) (r2 : Int) (r3 : Int) (r4 : Bool) (w : World) (hr0_0 : Kd.C k65 w A0_0 l0_0.length l0_0) (hc0_0 : l0_0.length ≤ c0_0) (h : impl_Pop.f k l0_0 = some (r1, r2, r3, r4)) :
 Calls Try.prog 46 #[.agg #[.slice A0_0 l0_0.length c0_0]] w fun e w' => ∃ v0_ : Value, e = .returned (.tuple #[.agg #[v0_], .agg #[.int .i64 r2, .int .i64 r3], .bool r4]) ∧ Kd.R k65 65 w' w.heap.size (fun _ => True) v0_ r1 ∧ Below w.heap.size w w' := by
 have hu61 := Try.underlying61; have hu65 := Try.underlying65; have HR0_0 := Aside0.mk hr0_0; have HC0_0 := Aside0.mk hc0_0; clear hr0_0 hc0_0; have HB := Aside0.mk (Below.refl w.heap.size w); have H : ((impl_isLine.f k l0_0).bind fun t159 => (if t159 = true then (impl_Pop.j0 k ((l0_0.length : Int) == 0) l0_0) else (impl_Pop.j0 k true l0_0))) = some (r1, r2, r3, r4) := h; clear h; have HC2 := Aside0.mk H; clear H; go_enter Try.func46, Try.ntmps46
 go_upto_region 1 with (first | ((with_reducible refine gate_dst (N := 1) rfl ?_); (try (refine gate_guard (by rfl) ?_; dsimp only)); refine boxA 1 #[.slice A0_0 l0_0.length c0_0] 61 ?_; intro gb156 hg w3 hbox hb; have BK156 := Aside0.mk hbox; have GW156 := leA (w := w) hg; have GE156 := leA (w := w) hg; replace HB := bS hb; clear hb hbox hg) | ((with_reducible refine gate_dst (N := 2) rfl ?_); (try (refine gate_guard (by rfl) ?_; dsimp only)); refine boxA 2 #[.slice none 0 0] 61 ?_; intro gb157 hg w4 hbox hb; have BK157 := Aside0.mk hbox; have GW157 := leA (w := w) hg; have GE157 := leA (w := w) hg; have NB156_157 := neL hg BK156; have NB157_156 := neG hg BK156; replace BK156 := bB BK156 hb; replace HB := bS hb; clear hb hbox hg) | ((with_reducible refine gate_dst (N := 3) rfl ?_); (try (refine gate_guard (by rfl) ?_; dsimp only)); refine boxA 3 #[.int .i64 0, .int .i64 0] 65 ?_; intro gb158 hg w5 hbox hb; have BK158 := Aside0.mk hbox; have GW158 := leA (w := w) hg; have GE158 := leA (w := w) hg; have NB156_158 := neL hg BK156; have NB158_156 := neG hg BK156; have NB157_158 := neL hg BK157; have NB158_157 := neG hg BK157; replace BK156 := bB BK156 hb; replace BK157 := bB BK157 hb; replace HB := bS hb; clear hb hbox hg))
 (try simp only [Act.put, sa, sb, sc])
 go_cut [13] (fun v13 wc => ∃ (kq : Nat) (x13_1 : Bool), v13 = .bool x13_1 ∧ Aside0 (impl_Pop.j0 kq x13_1 l0_0 = some (r1, r2, r3, r4)) ∧ Aside0 (kq ≤ k) ∧ Aside0 (wc.heap[gb156]? = some (.cells #[(.slice A0_0 l0_0.length c0_0)] 61 (0, 0))) ∧ Aside0 (wc.heap[gb157]? = some (.cells #[(.slice none 0 0)] 61 (0, 0))) ∧ Aside0 (wc.heap[gb158]? = some (.cells #[.int .i64 0, .int .i64 0] 65 (0, 0))) ∧ Aside0 (Below w.heap.size w wc))
 case first =>
  have H := HC2.out; clear HC2; replace H := Option.bind_eq_some_iff.mp H; obtain ⟨t159, A60, H⟩ := H; replace H : (if t159 = true then (impl_Pop.j0 k ((l0_0.length : Int) == 0) l0_0) else (impl_Pop.j0 k true l0_0)) = some (r1, r2, r3, r4) := H
  have A6 := Aside0.mk A60; clear A60
  by_cases c7 : t159 = true
  · subst c7; have H1 : (impl_Pop.j0 k ((l0_0.length : Int) == 0) l0_0) = some (r1, r2, r3, r4) := by rw [if_pos rfl] at H; exact H
    clear H; have H := H1; clear H1; have H' := Aside0.mk H; clear H; have hnb8 := NB156_157.out; have hnc8 := NB157_156.out; have hnb9 := NB156_158.out; have hnc9 := NB158_156.out; obtain ⟨hcz10_0, hfz10_0⟩ := cel1 BK156; go_wp2_with (first | ((with_reducible refine gate_callee (f := 99) rfl ?_); refine goesL_ (some 6) rfl rfl Try.func99 (by kernel_rfl) rfl #[.agg #[.slice A0_0 l0_0.length c0_0]] rfl (by (try simp only [List.map_toArray, List.map_cons, List.map_nil]); first | done | rfl | (simp only [List.length_drop, List.length_take]; rfl) | (simp only [Int.tmod_eq_emod_of_nonneg (Int.natCast_nonneg _)]; done) | (simp only [Int.tmod_eq_emod_of_nonneg (Int.natCast_nonneg _)]; rfl)) ?_; (with_reducible refine (impl_isLine.calls k _ _ l0_0 true _ ?side1 ?side2 A6.out).mono ?_); (case side1 => exact cA (Kd.C_below HR0_0.out HB.out)); (case side2 => exact HC0_0.out); rintro e w11 ⟨rfl, hb⟩; refine ⟨_, rfl, ?_⟩; replace BK156 := bB BK156 hb; replace BK157 := bB BK157 hb; replace BK158 := bB BK158 hb; replace HB := bS hb; (try clear hb); (try clear hb2); (try clear hk); (try clear hi); obtain ⟨hcz12_0, hfz12_0⟩ := cel1 BK156))
    go_meet
    case rel => exact ⟨_, (((l0_0.length : Int) == 0)), eqA, H', ⟨by first | omega | exact Nat.le_refl _⟩, ⟨blkA⟩, ⟨blkA⟩, ⟨blkA⟩, ⟨belA⟩⟩
  · replace c7 := Bool.eq_false_iff.mpr c7; subst c7; have H1 : (impl_Pop.j0 k true l0_0) = some (r1, r2, r3, r4) := by rw [if_neg (show ¬ (false = true) by decide)] at H; exact H
    clear H; have H := H1; clear H1; have H' := Aside0.mk H; clear H; have hnb13 := NB156_157.out; have hnc13 := NB157_156.out; have hnb14 := NB156_158.out; have hnc14 := NB158_156.out; obtain ⟨hcz15_0, hfz15_0⟩ := cel1 BK156; go_wp2_with (first | ((with_reducible refine gate_callee (f := 99) rfl ?_); refine goesL_ (some 6) rfl rfl Try.func99 (by kernel_rfl) rfl #[.agg #[.slice A0_0 l0_0.length c0_0]] rfl (by (try simp only [List.map_toArray, List.map_cons, List.map_nil]); first | done | rfl | (simp only [List.length_drop, List.length_take]; rfl) | (simp only [Int.tmod_eq_emod_of_nonneg (Int.natCast_nonneg _)]; done) | (simp only [Int.tmod_eq_emod_of_nonneg (Int.natCast_nonneg _)]; rfl)) ?_; (with_reducible refine (impl_isLine.calls k _ _ l0_0 false _ ?side1 ?side2 A6.out).mono ?_); (case side1 => exact cA (Kd.C_below HR0_0.out HB.out)); (case side2 => exact HC0_0.out); rintro e w16 ⟨rfl, hb⟩; refine ⟨_, rfl, ?_⟩; replace BK156 := bB BK156 hb; replace BK157 := bB BK157 hb; replace BK158 := bB BK158 hb; replace HB := bS hb; (try clear hb); (try clear hb2); (try clear hk); (try clear hi)))
    go_meet
    case rel => exact ⟨_, (true), eqA, H', ⟨by first | omega | exact Nat.le_refl _⟩, ⟨blkA⟩, ⟨blkA⟩, ⟨blkA⟩, ⟨belA⟩⟩
 case rest =>
  clear HC2; obtain ⟨kq, x13_1, rfl, HA, HJ1, BK156, BK157, BK158, HB⟩ := hcut
  cases kq with
  | zero => exact absurd HA.out (by simp [impl_Pop.j0])
  | succ kj1 =>
   have H := HA.out; clear HA; simp only [impl_Pop.j0] at H
   by_cases c17 : x13_1 = true
   · subst c17; have H1 : ((impl_copyLine.f l0_0).bind fun t160 => (some (t160, 0, 0, false))) = some (r1, r2, r3, r4) := by rw [if_pos rfl] at H; exact H
     clear H; have H := H1; clear H1; replace H := Option.bind_eq_some_iff.mp H; obtain ⟨t160, A180, H⟩ := H; replace H : (some (t160, 0, 0, false)) = some (r1, r2, r3, r4) := H
     have A18 := Aside0.mk A180; clear A180; simp only [Option.some.injEq, Prod.mk.injEq] at H; obtain ⟨rfl, rfl, rfl, rfl⟩ := H; have hnb19 := NB156_157.out; have hnc19 := NB157_156.out; have hnb20 := NB156_158.out; have hnc20 := NB158_156.out; obtain ⟨hcz21_0, hfz21_0⟩ := cel1 BK156; go_wp2_with (first | ((with_reducible refine gate_callee (f := 100) rfl ?_); refine goesL_ (some 15) rfl rfl Try.func100 (by kernel_rfl) rfl #[.agg #[.slice A0_0 l0_0.length c0_0]] rfl (by (try simp only [List.map_toArray, List.map_cons, List.map_nil]); first | done | rfl | (simp only [List.length_drop, List.length_take]; rfl) | (simp only [Int.tmod_eq_emod_of_nonneg (Int.natCast_nonneg _)]; done) | (simp only [Int.tmod_eq_emod_of_nonneg (Int.natCast_nonneg _)]; rfl)) ?_; (with_reducible refine (impl_copyLine.calls _ _ l0_0 t160 _ ?side1 ?side2 A18.out).mono ?_); (case side1 => exact cA (Kd.C_below HR0_0.out HB.out)); (case side2 => exact HC0_0.out); rintro e w22 ⟨v161, rfl, ho0, hb⟩; refine ⟨_, rfl, ?_⟩; have HO162 := rL (Kd.R_newB ho0 (g := gb158) (o := .cells #[.int .i64 0, .int .i64 0] 65 (0, 0)) blkA); replace BK156 := bB BK156 hb; replace BK157 := bB BK157 hb; replace BK158 := bB BK158 hb; replace HB := bS hb; (try clear hb); (try clear hb2); (try clear hk); (try clear hi); (try clear ho0); obtain ⟨Ao23, co23, eo23⟩ := Kd.R_slice HO162.out; subst eo23; have hnb24 := NB157_158.out; have hnc24 := NB158_157.out; obtain ⟨hcz25_0, hfz25_0⟩ := cel1 BK157; obtain ⟨hcz26_0, hcz26_1, hfz26_0, hfz26_1⟩ := cel2 BK158))
     refine bodyPost_ret (results_list (rs := [.cell 2 61, .cell 3 65, .tmp 4]) rfl (by simp) (.cell gb157 61 #[.slice Ao23 t160.length co23] (0, 0) _ rfl (by (with_reducible repeat (first | refine blk_drewN ?_ _ | refine blk_drew ?_ | refine blk_alloc ?_ _)); refine blk_far ?_ NB157_158.out _; (with_reducible repeat (first | refine blk_drewN ?_ _ | refine blk_drew ?_ | refine blk_alloc ?_ _)); refine blk_far ?_ NB157_158.out _; (with_reducible repeat (first | refine blk_drewN ?_ _ | refine blk_drew ?_ | refine blk_alloc ?_ _)); refine blk_put (cs := #[.slice none 0 0]) ?_ 0 _ rfl; (with_reducible repeat (first | refine blk_drewN ?_ _ | refine blk_drew ?_ | refine blk_alloc ?_ _)); exact BK157.out) Try.underlying61 rfl (by kernel_rfl) (.cell gb158 65 #[.int .i64 0, .int .i64 0] (0, 0) _ rfl (by (with_reducible repeat (first | refine blk_drewN ?_ _ | refine blk_drew ?_ | refine blk_alloc ?_ _)); refine blk_put (cs := #[.int .i64 0, .int .i64 0]) ?_ 1 _ rfl; (with_reducible repeat (first | refine blk_drewN ?_ _ | refine blk_drew ?_ | refine blk_alloc ?_ _)); refine blk_put (cs := #[.int .i64 0, .int .i64 0]) ?_ 0 _ rfl; (with_reducible repeat (first | refine blk_drewN ?_ _ | refine blk_drew ?_ | refine blk_alloc ?_ _)); refine blk_far ?_ NB158_157.out _; (with_reducible repeat (first | refine blk_drewN ?_ _ | refine blk_drew ?_ | refine blk_alloc ?_ _)); exact BK158.out) Try.underlying65 rfl (by kernel_rfl) (.tmp .nil)))) rfl ?_
     exact ⟨_, by first | rfl | (simp [errW_none, errW_some] <;> rfl) | (simp [*, errW_none, errW_some] <;> rfl) | (simp [wrap64]; done) | (simp [*, wrap64]; done), by (with_reducible repeat (first | apply Kd.R_alloc | apply Kd.R_drewN | apply Kd.R_drew)); exact Kd.R_mono (Kd.R_far (p := ⟨gb158, 1, none⟩) (Kd.R_far (p := ⟨gb158, 0, none⟩) (Kd.R_far (p := ⟨gb157, 0, none⟩) (Kd.R_mono (Kd.R_types HO162.out BK157.out (by decide)) (fun k_ hk => (⟨hk, hk.1.2⟩ : _ ∧ k_ ≠ gb158))) (fun _ hk => hk.1.2) (.slice Ao23 t160.length co23)) (fun _ hk => hk.2) (.int .i64 0)) (fun _ hk => hk.2) (.int .i64 0)) (fun _ hk => trivial), belA⟩
   · replace c17 := Bool.eq_false_iff.mpr c17; subst c17; have H1 : (if 1 ≤ (l0_0.length : Int) then ((impl_copyLine.f (l0_0.drop 1)).bind fun t167 => (if 0 < (l0_0.length : Int) then (some (t167, (rd_T65 l0_0 0).f0, (rd_T65 l0_0 0).f1, true)) else (none))) else (none)) = some (r1, r2, r3, r4) := by rw [if_neg (show ¬ (false = true) by decide)] at H; exact H
     clear H; have H := H1; clear H1
     by_cases c27 : 1 ≤ (l0_0.length : Int)
     · rw [if_pos c27] at H; have c27b0 := eq_true c27; have c27b1 : decide (1 ≤ (l0_0.length : Int)) = true := decide_eq_true c27; clear c27; obtain ⟨y163, hy163⟩ : ∃ y_ : List (S65), y_ = (l0_0.drop 1) := ⟨_, rfl⟩; replace H : ((impl_copyLine.f y163).bind fun t167 => (if 0 < (l0_0.length : Int) then (some (t167, (rd_T65 l0_0 0).f0, (rd_T65 l0_0 0).f1, true)) else (none))) = some (r1, r2, r3, r4) := by first | (rw [hy163]; with_reducible exact H) | (have H2_ := (Option.bind_some _ _).symm.trans H; rw [hy163]; with_reducible exact H2_) | (have H2_ := (Option.bind_some _ _).symm.trans H; with_reducible exact H2_) | with_reducible exact H | (rw [hy163]; exact H) | exact H
       have Ny163 := Aside0.mk hy163; clear hy163; replace H := Option.bind_eq_some_iff.mp H; obtain ⟨t167, A280, H⟩ := H; replace H : (if 0 < (l0_0.length : Int) then (some (t167, (rd_T65 l0_0 0).f0, (rd_T65 l0_0 0).f1, true)) else (none)) = some (r1, r2, r3, r4) := H
       have A28 := Aside0.mk A280; clear A280
       by_cases c29 : 0 < (l0_0.length : Int)
       · rw [if_pos c29] at H; have c29b0 := decide_eq_true c29; have c29b1 : decide (0 < l0_0.length) = true := decide_eq_true (by omega); clear c29; simp only [Option.some.injEq, Prod.mk.injEq] at H; obtain ⟨rfl, rfl, rfl, rfl⟩ := H; try go_wp2
         replace BK156 := Aside0.mk (blk_drew BK156.out); replace BK157 := Aside0.mk (blk_drew BK157.out); replace BK158 := Aside0.mk (blk_drew BK158.out); replace HB := Aside0.mk (below_drew1 HB.out); have q31 : (1 : Int) ≤ ((l0_0.length : Int) : Int) := odA; obtain ⟨i031, hi031, _, hsz31, _⟩ := info_parts info65; have hroom31 : l0_0.length ≤ c0_0 := HC0_0.out; have hC31 : Kd.C k65 _ A0_0 l0_0.length l0_0 := HR0_0.out; have hcut31 := cut_from (P := Try.prog) 59 65 .i64 Try.underlying59 hi031 2 hsz31 A0_0 l0_0.length c0_0 1 (by omega) q31; have hr31 := Kd.C_drop (m := (1 : Int).toNat) (c := c0_0) hC31 (by omega) hroom31; obtain ⟨A31, hA31⟩ : ∃ A1, A1 = (if c0_0 = (1 : Int).toNat then A0_0 else (A0_0 : Option Addr).map (·.add ((1 : Int).toNat * 2))) := ⟨_, rfl⟩; obtain ⟨c31, hc31⟩ : ∃ c1, c1 = c0_0 - (1 : Int).toNat := ⟨_, rfl⟩; have hy31 : y163.length = l0_0.length - (1 : Int).toNat := (by rw [Ny163.out, List.length_drop] <;> omega); rw [show (l0_0).drop (1 : Int).toNat = y163 from Ny163.out.symm] at hr31; replace hr31 : Kd.C k65 _ A31 y163.length y163 := (by rw [hA31]; exact hr31)
         rw [← hy31, ← hA31, ← hc31] at hcut31; have HR166 := Aside0.mk hr31; have HC166 := Aside0.mk (show y163.length ≤ c31 from by rw [hy31, hc31]; exact Nat.sub_le_sub_right hroom31 _); clear hr31 hC31 hroom31 hi031 hsz31 hc31; have KY31 := Aside0.mk hy31; have KA31 := Aside0.mk hA31; clear hy31 hA31; replace q31 := eq_true q31; have p170 : 0 ≤ (0 : Int) := (by omega); have q170 : 0 < (l0_0.length : Int) := odA; obtain ⟨ad170, e170, hx170_0, hx170_1⟩ := at_T65 HR0_0.out 0 p170 q170; have hw170_1 := hx170_1; (try rw [show ((0 : Int)).toNat = 0 from rfl] at hw170_1)
         (try rw [show 0 * 2 = 0 from rfl] at hw170_1)
         (try rw [Addr.add_zero'] at hw170_1)
         have hw170_0 := hx170_0; (try rw [show ((0 : Int)).toNat = 0 from rfl] at hw170_0)
         (try rw [show 0 * 2 = 0 from rfl] at hw170_0)
         (try rw [Addr.add_zero'] at hw170_0)
         cases e170
         have qi170 : (0 < l0_0.length) = True := eq_true (by omega); (try rw [show ((0 : Int)).toNat = 0 from rfl] at hx170_0)
         (try rw [show 0 * 2 = 0 from rfl] at hx170_0)
         (try rw [Addr.add_zero'] at hx170_0)
         (try rw [show ((0 : Int)).toNat = 0 from rfl] at hx170_1)
         (try rw [show 0 * 2 = 0 from rfl] at hx170_1)
         (try rw [Addr.add_zero'] at hx170_1)
         try replace hx170_0 := cB HB hx170_0
         try replace hx170_1 := cB HB hx170_1
         replace p170 := eq_true p170; replace q170 := eq_true q170; refine start_ (n := 12) (S := fun w' => w'.cell? ⟨gb156, 0, none⟩ = some (.slice (some ad170) l0_0.length c0_0) ∧ w'.cell? ad170 = some (.int .i64 ((rd_T65 l0_0 0).f0)) ∧ w'.cell? ⟨ad170.block, ad170.off + 1, none⟩ = some (.int .i64 ((rd_T65 l0_0 0).f1))) (ds := []) #[false, false, false, false, false, false, false, false, false, false, false, false] (by kernel_rfl) rfl rfl ⟨(blk_cell BK156.out 0).trans rfl, (cB HB hw170_0), (cB HB hw170_1)⟩ (fun hHeld => ?_); refine with_tabW impl_Pop.tab3 impl_Pop.bits3 (fun HT_ HW_ => ?_)
         generalize wc.drew = w30 at BK156 BK157 BK158 HB HR166 hx170_0 hx170_1 hHeld ⊢
         refine pure_ (i := 0) (N := some 17) (v := ?_) (a' := ?_) #[true, false, false, false, false, false, false, false, false, false, false, false] rfl rfl (any_of HT_.out (by kernel_rfl)) (fun _ _ _ h => h) (Or.inl ⟨by rfl, ?_⟩) ?_ ?_
         rotate_left
         · intro w'; go_simp
           with_reducible rfl
         rotate_left
         · simp only [Act.put, sa, sb, sc, i64_w, i32_w]
           rfl
         refine pure_ (i := 5) (N := some 22) (v := ?_) (a' := ?_) #[true, false, false, false, false, true, false, false, false, false, false, false] rfl rfl (any_of HT_.out (by kernel_rfl)) (fun _ _ _ h => h) (Or.inl ⟨by rfl, ?_⟩) ?_ ?_
         rotate_left
         · intro w'; go_simp
           with_reducible rfl
         rotate_left
         · simp only [Act.put, sa, sb, sc, i64_w, i32_w]
           rfl
         refine take_ (i := 1) (N := some 18) (v := ?_) (a' := ?_) #[true, true, false, false, false, true, false, false, false, false, false, false] rfl rfl (take_ofW HT_.out HW_.out (by kernel_rfl)) (fun _ _ _ h => h) (Or.inl ⟨by rfl, ?_⟩) hHeld ?_ ?_
         rotate_left
         · rintro w' ⟨s0, s1, s2⟩
           go_simp
           with_reducible rfl
         rotate_left
         · simp only [Act.put, sa, sb, sc, i64_w, i32_w]
           rfl
         refine pure_ (i := 2) (N := some 19) (v := ?_) (a' := ?_) #[true, true, true, false, false, true, false, false, false, false, false, false] rfl rfl (any_of HT_.out (by kernel_rfl)) (fun _ _ _ h => h) (Or.inl ⟨by rfl, ?_⟩) ?_ ?_
         rotate_left
         · intro w'; go_simp
           with_reducible rfl
         rotate_left
         · simp only [Act.put, sa, sb, sc, i64_w, i32_w]
           rfl
         refine pure_ (i := 3) (N := some 20) (v := ?_) (a' := ?_) #[true, true, true, true, false, true, false, false, false, false, false, false] rfl rfl (any_of HT_.out (by kernel_rfl)) (fun _ _ _ h => h) (Or.inl ⟨by rfl, ?_⟩) ?_ ?_
         rotate_left
         · intro w'; go_simp
           with_reducible rfl
         rotate_left
         · simp only [Act.put, sa, sb, sc, i64_w, i32_w]
           rfl
         refine take_ (i := 6) (N := some 23) (v := ?_) (a' := ?_) #[true, true, true, true, false, true, true, false, false, false, false, false] rfl rfl (take_ofW HT_.out HW_.out (by kernel_rfl)) (fun _ _ _ h => h) (Or.inl ⟨by rfl, ?_⟩) hHeld ?_ ?_
         rotate_left
         · rintro w' ⟨s0, s1, s2⟩
           go_simp
           with_reducible rfl
         rotate_left
         · simp only [Act.put, sa, sb, sc, i64_w, i32_w]
           rfl
         refine pure_ (i := 7) (N := some 24) (v := ?_) (a' := ?_) #[true, true, true, true, false, true, true, true, false, false, false, false] rfl rfl (any_of HT_.out (by kernel_rfl)) (fun _ _ _ h => h) (Or.inl ⟨by rfl, ?_⟩) ?_ ?_
         rotate_left
         · intro w'; go_simp
           with_reducible rfl
         rotate_left
         · simp only [Act.put, sa, sb, sc, i64_w, i32_w]
           rfl
         refine take_ (i := 8) (N := some 25) (v := ?_) (a' := ?_) #[true, true, true, true, false, true, true, true, true, false, false, false] rfl rfl (take_ofW HT_.out HW_.out (by kernel_rfl)) (fun _ _ _ h => h) (Or.inl ⟨by rfl, ?_⟩) hHeld ?_ ?_
         rotate_left
         · rintro w' ⟨s0, s1, s2⟩
           go_simp
           with_reducible rfl
         rotate_left
         · simp only [Act.put, sa, sb, sc, i64_w, i32_w]
           rfl
         refine one_ (i := 4) (N := some 21) #[true, true, true, true, true, true, true, true, true, false, false, false] rfl rfl (one_of HT_.out (by kernel_rfl)) (by decide) (fun K hK => ?_)
         refine goes_ Try.func100 (by kernel_rfl) rfl #[.agg #[.slice A31 y163.length c31]] (by rfl) rfl rfl (by (try simp only [List.map_toArray, List.map_cons, List.map_nil]); first | done | rfl | (simp only [List.length_drop, List.length_take]; rfl) | (simp only [Int.tmod_eq_emod_of_nonneg (Int.natCast_nonneg _)]; done) | (simp only [Int.tmod_eq_emod_of_nonneg (Int.natCast_nonneg _)]; rfl)) ?_
         with_reducible refine (impl_copyLine.calls _ _ y163 t167 _ ?side1 ?side2 A28.out).mono ?_
         (case side1 => exact cA (Kd.C_below HR166.out HB.out))
         (case side2 => exact HC166.out)
         rintro e w32 ⟨v168, rfl, ho0, hb⟩
         refine ⟨_, rfl, ?_⟩
         have HO169 := rL (Kd.R_newB ho0 (g := gb158) (o := .cells #[.int .i64 0, .int .i64 0] 65 (0, 0)) blkA); replace BK156 := bB BK156 hb; replace BK157 := bB BK157 hb; replace BK158 := bB BK158 hb; replace HB := bS hb; (try clear hb); (try clear hb2); (try clear hk); (try clear hi); (try clear ho0); obtain ⟨Ao33, co33, eo33⟩ := Kd.R_slice HO169.out; (first | subst eo33 | (injection eo33 with f1_ f2_ f3_; have f4_ := f1_.symm; have f5_ := f3_.symm; clear f1_ f2_ f3_; subst f4_; subst f5_))
         refine hK.out _ _ ⟨(blk_cell BK156.out 0).trans rfl, (cB HB hw170_0), (cB HB hw170_1)⟩ (fun hHeld => ?_)
         clear hK K; refine norm_ (a' := ?_) ?_ ?_
         rotate_left
         · show Act.put _ (some 21) _ = _
           simp only [Act.put, sa, sb, sc, i64_w, i32_w]
           rfl
         refine one_ (i := 9) (N := none) #[true, true, true, true, true, true, true, true, true, true, false, false] rfl rfl (one_of HT_.out (by kernel_rfl)) (by decide) (fun K hK => ?_)
         have hs34 : w32.cell? ⟨gb157, 0, none⟩ = some (.slice none 0 0) := (blk_cell BK157.out 0).trans rfl; have hfs34 := blk_frozen BK157.out 0; have hns34_0 := NB156_157.out; have hns34_2 := NB158_157.out; have hms34_0 := NB157_156.out; have hms34_2 := NB157_158.out; refine skip_ (w1 := ?_) (by rfl) rfl ?_ ?_
         rotate_left
         · go_simp
           rfl
         refine hK.out _ _ ⟨((cell_far (p := ⟨gb157, _, none⟩) NB156_157.out _).trans (hHeld.1)), ((cell_far (p := ⟨gb157, _, none⟩) (by first | exact Nat.ne_of_lt (Nat.lt_of_lt_of_le (by have := World.block_lt_of_cell? _ _ hw170_0; first | rwa [add_block] at this | exact this) GW157.out) | (rw [add_block]; exact Nat.ne_of_lt (Nat.lt_of_lt_of_le (by have := World.block_lt_of_cell? _ _ hw170_0; first | rwa [add_block] at this | exact this) GW157.out)) | (show (Addr.add _ _).block ≠ _; rw [add_block]; exact Nat.ne_of_lt (Nat.lt_of_lt_of_le (by have := World.block_lt_of_cell? _ _ hw170_0; first | rwa [add_block] at this | exact this) GW157.out)) | (dsimp only; exact Nat.ne_of_lt (Nat.lt_of_lt_of_le (by have := World.block_lt_of_cell? _ _ hw170_0; first | rwa [add_block] at this | exact this) GW157.out))) _).trans (hHeld.2.1)), ((cell_far (p := ⟨gb157, _, none⟩) (by first | exact Nat.ne_of_lt (Nat.lt_of_lt_of_le (by have := World.block_lt_of_cell? _ _ hw170_1; first | rwa [add_block] at this | exact this) GW157.out) | (rw [add_block]; exact Nat.ne_of_lt (Nat.lt_of_lt_of_le (by have := World.block_lt_of_cell? _ _ hw170_1; first | rwa [add_block] at this | exact this) GW157.out)) | (show (Addr.add _ _).block ≠ _; rw [add_block]; exact Nat.ne_of_lt (Nat.lt_of_lt_of_le (by have := World.block_lt_of_cell? _ _ hw170_1; first | rwa [add_block] at this | exact this) GW157.out)) | (dsimp only; exact Nat.ne_of_lt (Nat.lt_of_lt_of_le (by have := World.block_lt_of_cell? _ _ hw170_1; first | rwa [add_block] at this | exact this) GW157.out))) _).trans (hHeld.2.2))⟩ (fun hHeld => ?_)
         clear hK K; refine one_ (i := 10) (N := none) #[true, true, true, true, true, true, true, true, true, true, true, false] rfl rfl (one_of HT_.out (by kernel_rfl)) (by decide) (fun K hK => ?_)
         have hs35 : w32.cell? ⟨gb158, 0, none⟩ = some (.int .i64 0) := (blk_cell BK158.out 0).trans rfl; have hfs35 := blk_frozen BK158.out 0; have hns35_0 := NB156_158.out; have hns35_1 := NB157_158.out; have hms35_0 := NB158_156.out; have hms35_1 := NB158_157.out; have hs36 : w32.cell? ⟨gb158, 1, none⟩ = some (.int .i64 0) := (blk_cell BK158.out 1).trans rfl; have hfs36 := blk_frozen BK158.out 1; have hns36_0 := NB156_158.out; have hns36_1 := NB157_158.out; have hms36_0 := NB158_156.out; have hms36_1 := NB158_157.out; refine skip_ (w1 := ?_) (by rfl) rfl ?_ ?_
         rotate_left
         · go_simp
           rfl
         refine hK.out _ _ ⟨((cell_far (p := ⟨gb158, _, none⟩) NB156_158.out _).trans (((cell_far (p := ⟨gb158, _, none⟩) NB156_158.out _).trans (hHeld.1)))), ((cell_far (p := ⟨gb158, _, none⟩) (by first | exact Nat.ne_of_lt (Nat.lt_of_lt_of_le (by have := World.block_lt_of_cell? _ _ hw170_0; first | rwa [add_block] at this | exact this) GW158.out) | (rw [add_block]; exact Nat.ne_of_lt (Nat.lt_of_lt_of_le (by have := World.block_lt_of_cell? _ _ hw170_0; first | rwa [add_block] at this | exact this) GW158.out)) | (show (Addr.add _ _).block ≠ _; rw [add_block]; exact Nat.ne_of_lt (Nat.lt_of_lt_of_le (by have := World.block_lt_of_cell? _ _ hw170_0; first | rwa [add_block] at this | exact this) GW158.out)) | (dsimp only; exact Nat.ne_of_lt (Nat.lt_of_lt_of_le (by have := World.block_lt_of_cell? _ _ hw170_0; first | rwa [add_block] at this | exact this) GW158.out))) _).trans (((cell_far (p := ⟨gb158, _, none⟩) (by first | exact Nat.ne_of_lt (Nat.lt_of_lt_of_le (by have := World.block_lt_of_cell? _ _ hw170_0; first | rwa [add_block] at this | exact this) GW158.out) | (rw [add_block]; exact Nat.ne_of_lt (Nat.lt_of_lt_of_le (by have := World.block_lt_of_cell? _ _ hw170_0; first | rwa [add_block] at this | exact this) GW158.out)) | (show (Addr.add _ _).block ≠ _; rw [add_block]; exact Nat.ne_of_lt (Nat.lt_of_lt_of_le (by have := World.block_lt_of_cell? _ _ hw170_0; first | rwa [add_block] at this | exact this) GW158.out)) | (dsimp only; exact Nat.ne_of_lt (Nat.lt_of_lt_of_le (by have := World.block_lt_of_cell? _ _ hw170_0; first | rwa [add_block] at this | exact this) GW158.out))) _).trans (hHeld.2.1)))), ((cell_far (p := ⟨gb158, _, none⟩) (by first | exact Nat.ne_of_lt (Nat.lt_of_lt_of_le (by have := World.block_lt_of_cell? _ _ hw170_1; first | rwa [add_block] at this | exact this) GW158.out) | (rw [add_block]; exact Nat.ne_of_lt (Nat.lt_of_lt_of_le (by have := World.block_lt_of_cell? _ _ hw170_1; first | rwa [add_block] at this | exact this) GW158.out)) | (show (Addr.add _ _).block ≠ _; rw [add_block]; exact Nat.ne_of_lt (Nat.lt_of_lt_of_le (by have := World.block_lt_of_cell? _ _ hw170_1; first | rwa [add_block] at this | exact this) GW158.out)) | (dsimp only; exact Nat.ne_of_lt (Nat.lt_of_lt_of_le (by have := World.block_lt_of_cell? _ _ hw170_1; first | rwa [add_block] at this | exact this) GW158.out))) _).trans (((cell_far (p := ⟨gb158, _, none⟩) (by first | exact Nat.ne_of_lt (Nat.lt_of_lt_of_le (by have := World.block_lt_of_cell? _ _ hw170_1; first | rwa [add_block] at this | exact this) GW158.out) | (rw [add_block]; exact Nat.ne_of_lt (Nat.lt_of_lt_of_le (by have := World.block_lt_of_cell? _ _ hw170_1; first | rwa [add_block] at this | exact this) GW158.out)) | (show (Addr.add _ _).block ≠ _; rw [add_block]; exact Nat.ne_of_lt (Nat.lt_of_lt_of_le (by have := World.block_lt_of_cell? _ _ hw170_1; first | rwa [add_block] at this | exact this) GW158.out)) | (dsimp only; exact Nat.ne_of_lt (Nat.lt_of_lt_of_le (by have := World.block_lt_of_cell? _ _ hw170_1; first | rwa [add_block] at this | exact this) GW158.out))) _).trans (hHeld.2.2))))⟩ (fun hHeld => ?_)
         clear hK K; refine pure_ (i := 11) (N := some 4) (v := ?_) (a' := ?_) #[true, true, true, true, true, true, true, true, true, true, true, true] rfl rfl (any_of HT_.out (by kernel_rfl)) (fun _ _ _ h => h) (Or.inl ⟨by rfl, ?_⟩) ?_ ?_
         rotate_left
         · intro w'; go_simp
           with_reducible rfl
         rotate_left
         · simp only [Act.put, sa, sb, sc, i64_w, i32_w]
           rfl
         refine done_ (done_of HT_.out (by kernel_rfl)) ?_
         try go_wp2
         refine bodyPost_ret (results_list (rs := [.cell 2 61, .cell 3 65, .tmp 4]) rfl (by simp) (.cell gb157 61 #[.slice Ao33 t167.length co33] (0, 0) _ rfl (by (with_reducible repeat (first | refine blk_drewN ?_ _ | refine blk_drew ?_ | refine blk_alloc ?_ _)); refine blk_far ?_ NB157_158.out _; (with_reducible repeat (first | refine blk_drewN ?_ _ | refine blk_drew ?_ | refine blk_alloc ?_ _)); refine blk_far ?_ NB157_158.out _; (with_reducible repeat (first | refine blk_drewN ?_ _ | refine blk_drew ?_ | refine blk_alloc ?_ _)); refine blk_put (cs := #[.slice none 0 0]) ?_ 0 _ rfl; (with_reducible repeat (first | refine blk_drewN ?_ _ | refine blk_drew ?_ | refine blk_alloc ?_ _)); exact BK157.out) Try.underlying61 rfl (by kernel_rfl) (.cell gb158 65 #[.int .i64 ((rd_T65 l0_0 0).f0), .int .i64 ((rd_T65 l0_0 0).f1)] (0, 0) _ rfl (by (with_reducible repeat (first | refine blk_drewN ?_ _ | refine blk_drew ?_ | refine blk_alloc ?_ _)); refine blk_put (cs := #[.int .i64 ((rd_T65 l0_0 0).f0), .int .i64 0]) ?_ 1 _ rfl; (with_reducible repeat (first | refine blk_drewN ?_ _ | refine blk_drew ?_ | refine blk_alloc ?_ _)); refine blk_put (cs := #[.int .i64 0, .int .i64 0]) ?_ 0 _ rfl; (with_reducible repeat (first | refine blk_drewN ?_ _ | refine blk_drew ?_ | refine blk_alloc ?_ _)); refine blk_far ?_ NB158_157.out _; (with_reducible repeat (first | refine blk_drewN ?_ _ | refine blk_drew ?_ | refine blk_alloc ?_ _)); exact BK158.out) Try.underlying65 rfl (by kernel_rfl) (.tmp .nil)))) rfl ?_
         exact ⟨_, by first | rfl | (simp [errW_none, errW_some] <;> rfl) | (simp [*, errW_none, errW_some] <;> rfl) | (simp [wrap64]; done) | (simp [*, wrap64]; done), by (with_reducible repeat (first | apply Kd.R_alloc | apply Kd.R_drewN | apply Kd.R_drew)); exact Kd.R_mono (Kd.R_far (p := ⟨gb158, 1, none⟩) (Kd.R_far (p := ⟨gb158, 0, none⟩) (Kd.R_far (p := ⟨gb157, 0, none⟩) (Kd.R_mono (Kd.R_types HO169.out BK157.out (by decide)) (fun k_ hk => (⟨hk, hk.1.2⟩ : _ ∧ k_ ≠ gb158))) (fun _ hk => hk.1.2) (.slice Ao33 t167.length co33)) (fun _ hk => hk.2) (.int .i64 ((rd_T65 l0_0 0).f0))) (fun _ hk => hk.2) (.int .i64 ((rd_T65 l0_0 0).f1))) (fun _ hk => trivial), belA⟩
       · rw [if_neg c29] at H; exact absurd H (by simp)
     · rw [if_neg c27] at H; exact absurd H (by simp)

end Go.Proofs.Ytbojabmpcfclhaa.PFnLineOrder
