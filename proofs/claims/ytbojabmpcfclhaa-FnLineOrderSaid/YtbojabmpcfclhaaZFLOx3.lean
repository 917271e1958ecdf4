-- Written by a program of this session (the print of the kit with contracts of this session's own added)
import Derived.Test.YtbojabmpcfclhaaZFLOx1
import Derived.Test.YtbojabmpcfclhaaZFLOx2
import Derived.Test.YtbojabmpcfclhaaZFLOV
namespace Go.Proofs.Ytbojabmpcfclhaa.PFnLineOrder
open Go.RowKit Go.Proofs.YtbojabmpcfclhaaW.PrintWords Go.Proofs.YtbojabmpcfclhaaW.PrintLast Go.Proofs.YtbojabmpcfclhaaW.PrintMore Go.Proofs.YtbojabmpcfclhaaW.PrintPack
attribute [local go_sem] max2_int min2_int max_two min_two max_three min_three max_four min_four   -- for this text's walks alone
set_option linter.unusedVariables false
set_option linter.unusedSimpArgs false

/-! ### impl_isLine: function 99 -/
def impl_isLine.l0 : Nat → List (S65) → Int → Int → List (S65) → Option (Bool)
 | 0, _, _, _, _ => none
 | k + 1, x6, x7, x8, x104000 => if x8 < x7 then (if 0 ≤ x8 then (if x8 < (x6.length : Int) then ((impl_isTicket.f ((rd_T65 x6 x8).f0) ((rd_T65 x6 x8).f1)).bind fun t106 => (if t106 = true then (if x8 > 0 then (if 0 ≤ (wrap64 (x8 - 1)) then (if (wrap64 (x8 - 1)) < (x104000.length : Int) then (if ((rd_T65 x104000 (wrap64 (x8 - 1))).f0) ≥ ((rd_T65 x6 x8).f0) then (some false) else (impl_isLine.l0 k x6 x7 (wrap64 (x8 + 1)) x104000)) else (none)) else (none)) else (impl_isLine.l0 k x6 x7 (wrap64 (x8 + 1)) x104000)) else (some false))) else (none)) else (none)) else (some (decide ((x104000.length : Int) ≤ 40)))
def impl_isLine.f (k : Nat) (l0_0 : List (S65)) : Option (Bool) := impl_isLine.l0 k l0_0 (l0_0.length : Int) 0 l0_0
theorem impl_isLine.mono_l : ∀ k, (∀ y0 y1 y2 y3, LeO (impl_isLine.l0 k y0 y1 y2 y3) (impl_isLine.l0 (k + 1) y0 y1 y2 y3))
 | 0 => fun _ _ _ _ r h => by simp [impl_isLine.l0] at h
 | k + 1 => by
  have ih0 := impl_isLine.mono_l k
  · intro y0 y1 y2 y3
    unfold impl_isLine.l0
    repeat' first
    | (with_reducible exact ih0 _ _ _ _)
    | (with_reducible exact LeO.refl _)
    | (with_reducible exact LeO.none _)
    | (with_reducible refine LeO.ite ?_ ?_)
    | (with_reducible refine LeO.bind ?_ (fun _ => ?_))
    | exact ih0 _ _ _ _
    | exact LeO.none _
    | refine LeO.ite ?_ ?_
    | refine LeO.bind ?_ (fun _ => ?_)
theorem impl_isLine.mono : ∀ a0 k, LeO (impl_isLine.f k a0) (impl_isLine.f (k + 1) a0) := by
 intro a0 k; have ih0 := impl_isLine.mono_l k
 unfold impl_isLine.f
 repeat' first
  | (with_reducible exact ih0 _ _ _ _)
  | (with_reducible exact LeO.refl _)
  | (with_reducible exact LeO.none _)
  | (with_reducible refine LeO.ite ?_ ?_)
  | (with_reducible refine LeO.bind ?_ (fun _ => ?_))
  | exact ih0 _ _ _ _
  | exact LeO.none _
  | refine LeO.ite ?_ ?_
  | refine LeO.bind ?_ (fun _ => ?_)
def impl_isLine.T4 : Bool × List (List Nat × List Nat) := (true, [([], []), ([0], [0]), ([1], [1]), ([2, 1], [2]), ([3], [3]), ([4, 3], [3, 4]), ([5, 3, 3], [3, 5]), ([6], [6]), ([7, 6], [6, 7]), ([6], [6]), ([9, 6], [6, 9]), ([8, 10, 6], [6, 8, 10]), ([11, 6], [6, 11]), ([12, 6], [6, 12]), ([6], [6]), ([14, 6], [6, 14]), ([13, 15, 6], [6, 13, 15]), ([6, 16, 3], [3, 6, 16]), ([3, 17], [3, 17])])
def impl_isLine.B4 : List Nat := [0, 1, 3, 7, 15, 31, 63, 127, 255, 127, 639, 2047, 4095, 8191, 127, 16511, 65535, 131071, 262143]
theorem impl_isLine.tab4 : rtab .any (opsOf Try.f99 4) = impl_isLine.T4 := by kernel_rfl
theorem impl_isLine.bits4 : waitsOk impl_isLine.T4.2 impl_isLine.B4 = true := by kernel_rfl
set_option maxHeartbeats 8000000 in
set_option maxRecDepth 100000 in
theorem impl_isLine.calls (k : Nat) (A0_0 : Option Addr) (c0_0 : Nat) (l0_0 : List (S65)) (r : Bool) (w : World) (hr0_0 : Kd.C k65 w A0_0 l0_0.length l0_0) (hc0_0 : l0_0.length ≤ c0_0) (h : impl_isLine.f k l0_0 = some r) :
 Calls Try.prog 99 #[.agg #[.slice A0_0 l0_0.length c0_0]] w fun e w' => e = .returned (.bool r) ∧ Below w.heap.size w w' := by
 have hu61 := Try.underlying61; have hu65 := Try.underlying65; have HR0_0 := Aside0.mk hr0_0; have HC0_0 := Aside0.mk hc0_0; clear hr0_0 hc0_0; have HB := Aside0.mk (Below.refl w.heap.size w); have H : (impl_isLine.l0 k l0_0 (l0_0.length : Int) 0 l0_0) = some r := h; clear h; have H' := Aside0.mk H; clear H; go_enter Try.func99, Try.ntmps99
 go_wp2_with (first | ((with_reducible refine gate_dst (N := 1) rfl ?_); refine boxA 1 #[.slice A0_0 l0_0.length c0_0] 61 ?_; intro gb103 hg w2 hbox hb; have BK103 := Aside0.mk hbox; have GW103 := leA (w := w) hg; have GE103 := leA (w := w) hg; replace HB := bS hb; clear hb hbox hg; obtain ⟨hcz3_0, hfz3_0⟩ := cel1 BK103))
 go_loopg [8] k (fun kq v8 w' => ∃ (x8_1 : Int), v8 = .int .i64 x8_1 ∧ Aside0 (impl_isLine.l0 kq l0_0 (l0_0.length : Int) x8_1 l0_0 = some r) ∧ Aside0 (kq ≤ k) ∧ Aside0 (w'.heap[gb103]? = some (.cells #[(.slice A0_0 l0_0.length c0_0)] 61 (0, 0))) ∧ Aside0 (Below w.heap.size w w'))
 case atStart => exact ⟨(0), eqA, H', ⟨Nat.le_refl _⟩, ⟨blkA⟩, ⟨belA⟩⟩
 case round =>
  clear H'; obtain ⟨x8_1, rfl, HA, HK1, BK103, HB⟩ := hrel
  cases gk with
  | zero => exact absurd HA.out (by simp [impl_isLine.l0])
  | succ k1 =>
   have H := HA.out; clear HA; simp only [impl_isLine.l0] at H
   by_cases c4 : x8_1 < (l0_0.length : Int)
   · rw [if_pos c4] at H; have c4b0 := decide_eq_true c4; clear c4
     by_cases c5 : 0 ≤ x8_1
     · rw [if_pos c5] at H; have c5b0 := decide_eq_true c5; clear c5
       by_cases c6 : x8_1 < (l0_0.length : Int)
       · rw [if_pos c6] at H; have c6b0 := decide_eq_true c6; clear c6; replace H := Option.bind_eq_some_iff.mp H; obtain ⟨t106, A70, H⟩ := H; replace H : (if t106 = true then (if x8_1 > 0 then (if 0 ≤ (wrap64 (x8_1 - 1)) then (if (wrap64 (x8_1 - 1)) < (l0_0.length : Int) then (if ((rd_T65 l0_0 (wrap64 (x8_1 - 1))).f0) ≥ ((rd_T65 l0_0 x8_1).f0) then (some false) else (impl_isLine.l0 k1 l0_0 (l0_0.length : Int) (wrap64 (x8_1 + 1)) l0_0)) else (none)) else (none)) else (impl_isLine.l0 k1 l0_0 (l0_0.length : Int) (wrap64 (x8_1 + 1)) l0_0)) else (some false)) = some r := H
         have A7 := Aside0.mk A70; clear A70
         by_cases c8 : t106 = true
         · subst c8; have H1 : (if x8_1 > 0 then (if 0 ≤ (wrap64 (x8_1 - 1)) then (if (wrap64 (x8_1 - 1)) < (l0_0.length : Int) then (if ((rd_T65 l0_0 (wrap64 (x8_1 - 1))).f0) ≥ ((rd_T65 l0_0 x8_1).f0) then (some false) else (impl_isLine.l0 k1 l0_0 (l0_0.length : Int) (wrap64 (x8_1 + 1)) l0_0)) else (none)) else (none)) else (impl_isLine.l0 k1 l0_0 (l0_0.length : Int) (wrap64 (x8_1 + 1)) l0_0)) = some r := by rw [if_pos rfl] at H; exact H
           clear H; have H := H1; clear H1
           by_cases c9 : x8_1 > 0
           · rw [if_pos c9] at H; have c9b0 := decide_eq_true c9; clear c9; obtain ⟨ji10, hji10⟩ : ∃ j_ : Int, (wrap64 (x8_1 - 1)) = j_ := ⟨_, rfl⟩; replace H : (if 0 ≤ (ji10) then (if (ji10) < (l0_0.length : Int) then (if ((rd_T65 l0_0 (ji10)).f0) ≥ ((rd_T65 l0_0 x8_1).f0) then (some false) else (impl_isLine.l0 k1 l0_0 (l0_0.length : Int) (wrap64 (x8_1 + 1)) l0_0)) else (none)) else (none)) = some r := by first | (rw [hji10] at H; exact H) | (simp only [hji10] at H ⊢; exact H)
             (try rw [hji10] at A7)
             have hji10w : (IntKind.i64.wrap (x8_1 - 1)) = ji10 := (i64_w _).trans hji10
             by_cases c11 : 0 ≤ (ji10)
             · rw [if_pos c11] at H; have c11b0 := decide_eq_true c11; clear c11
               by_cases c12 : (ji10) < (l0_0.length : Int)
               · rw [if_pos c12] at H; have c12b0 := decide_eq_true c12; clear c12
                 by_cases c13 : ((rd_T65 l0_0 (ji10)).f0) ≥ ((rd_T65 l0_0 x8_1).f0)
                 · rw [if_pos c13] at H; have c13b0 := decide_eq_true c13; clear c13; obtain rfl := Option.some.inj H; have p104 : 0 ≤ (x8_1 : Int) := odA; have q104 : x8_1 < (l0_0.length : Int) := odA; obtain ⟨ad104, e104, hx104_0, hx104_1⟩ := at_T65 HR0_0.out x8_1 p104 q104
                   cases e104
                   try replace hx104_0 := cB HB hx104_0
                   try replace hx104_1 := cB HB hx104_1
                   replace p104 := eq_true p104; replace q104 := eq_true q104; try go_wp2_with (first | ((with_reducible refine gate_dst (N := 4) rfl ?_); refine boxA 4 #[.int .i64 0, .int .i64 0] 65 ?_; intro gb105 hg w14 hbox hb; have BK105 := Aside0.mk hbox; have GW105 := leA (w := w) hg; have GE105 := leA (w := w) hg; have NB103_105 := neL hg BK103; have NB105_103 := neG hg BK103; replace BK103 := bB BK103 hb; replace HB := bS hb; clear hb hbox hg; have hnb15 := NB105_103.out; have hnc15 := NB103_105.out; obtain ⟨hcz16_0, hcz16_1, hfz16_0, hfz16_1⟩ := cel2 BK105))
                   generalize hw_ : ((w14.setCell ⟨gb105, 0, none⟩ (.int .i64 ((rd_T65 l0_0 x8_1).f0))).setCell ⟨gb105, 1, none⟩ (.int .i64 ((rd_T65 l0_0 x8_1).f1))) = w17; have n0_ : Aside0 (w17.heap[gb103]? = some (.cells #[.slice (some ad104) l0_0.length c0_0] 61 (0, 0))) := ⟨by rw [← hw_]; refine blk_far ?_ NB103_105.out _; refine blk_far ?_ NB103_105.out _; exact BK103.out⟩; have n1_ : Aside0 (w17.heap[gb105]? = some (.cells #[.int .i64 ((rd_T65 l0_0 x8_1).f0), .int .i64 ((rd_T65 l0_0 x8_1).f1)] 65 (0, 0))) := ⟨by rw [← hw_]; refine blk_put (cs := #[.int .i64 ((rd_T65 l0_0 x8_1).f0), .int .i64 0]) ?_ 1 _ rfl; refine blk_put (cs := #[.int .i64 0, .int .i64 0]) ?_ 0 _ rfl; exact BK105.out⟩; have n2_ : Aside0 (Below w.heap.size w w17) := ⟨by rw [← hw_]; exact belA⟩; (try clear BK103); (try clear BK105); (try clear HB); clear hw_; have BK103 := n0_; have BK105 := n1_; have HB := n2_; clear n0_ n1_ n2_; replace BK103 := Aside0.mk (blk_drew BK103.out); replace BK105 := Aside0.mk (blk_drew BK105.out); replace HB := Aside0.mk (below_drew1 HB.out); have p107 : 0 ≤ ((ji10) : Int) := odA; have q107 : (ji10) < (l0_0.length : Int) := odA; obtain ⟨ad107, e107, hx107_0, hx107_1⟩ := at_T65 HR0_0.out (ji10) p107 q107; have hw107_1 := hx107_1; have hw107_0 := hx107_0; obtain rfl : ad104 = ad107 := (by injection e107); try replace hx107_0 := cB HB hx107_0
                   try replace hx107_1 := cB HB hx107_1
                   replace p107 := eq_true p107; replace q107 := eq_true q107; refine start_ (n := 19) (S := fun w' => w'.cell? ⟨gb105, 0, none⟩ = some (.int .i64 ((rd_T65 l0_0 x8_1).f0)) ∧ w'.cell? ⟨gb105, 1, none⟩ = some (.int .i64 ((rd_T65 l0_0 x8_1).f1)) ∧ w'.cell? ⟨gb103, 0, none⟩ = some (.slice (some ad104) l0_0.length c0_0) ∧ w'.cell? (ad104.add (((ji10)).toNat * 2)) = some (.int .i64 ((rd_T65 l0_0 (ji10)).f0)) ∧ w'.cell? ⟨(ad104.add (((ji10)).toNat * 2)).block, (ad104.add (((ji10)).toNat * 2)).off + 1, none⟩ = some (.int .i64 ((rd_T65 l0_0 (ji10)).f1))) (ds := []) #[false, false, false, false, false, false, false, false, false, false, false, false, false, false, false, false, false, false, false] (by kernel_rfl) rfl rfl ⟨(blk_cell BK105.out 0).trans rfl, (blk_cell BK105.out 1).trans rfl, (blk_cell BK103.out 0).trans rfl, (cB HB hw107_0), (cB HB hw107_1)⟩ (fun hHeld => ?_); refine with_tabW impl_isLine.tab4 impl_isLine.bits4 (fun HT_ HW_ => ?_)
                   generalize w17.drew = w18 at BK103 BK105 HB hx107_0 hx107_1 hHeld ⊢
                   refine take_ (i := 0) (N := some 13) (v := ?_) (a' := ?_) #[true, false, false, false, false, false, false, false, false, false, false, false, false, false, false, false, false, false, false] rfl rfl (take_ofW HT_.out HW_.out (by kernel_rfl)) (fun _ _ _ h => h) (Or.inl ⟨by rfl, ?_⟩) hHeld ?_ ?_
                   rotate_left
                   · rintro w' ⟨s0, s1, s2, s3, s4⟩
                     go_simp
                     with_reducible rfl
                   rotate_left
                   · simp only [Act.put, sa, sb, sc, i64_w, i32_w]
                     rfl
                   refine one_ (i := 1) (N := some 14) #[true, true, false, false, false, false, false, false, false, false, false, false, false, false, false, false, false, false, false] rfl rfl (one_of HT_.out (by kernel_rfl)) (by decide) (fun K hK => ?_)
                   refine goes_ Try.func145 (by kernel_rfl) rfl #[.agg #[.int .i64 ((rd_T65 l0_0 x8_1).f0), .int .i64 ((rd_T65 l0_0 x8_1).f1)]] (by rfl) rfl rfl (by (try simp only [List.map_toArray, List.map_cons, List.map_nil]); first | done | rfl | (simp only [List.length_drop, List.length_take]; rfl) | (simp only [Int.tmod_eq_emod_of_nonneg (Int.natCast_nonneg _)]; done) | (simp only [Int.tmod_eq_emod_of_nonneg (Int.natCast_nonneg _)]; rfl)) ?_
                   with_reducible refine (impl_isTicket.calls ((rd_T65 l0_0 x8_1).f0) ((rd_T65 l0_0 x8_1).f1) true _ A7.out).mono ?_
                   rintro e w19 ⟨rfl, hb⟩
                   refine ⟨_, rfl, ?_⟩
                   replace BK103 := bB BK103 hb; replace BK105 := bB BK105 hb; replace HB := bS hb; (try clear hb); (try clear hb2); (try clear hk); (try clear hi); refine hK.out _ _ ⟨(blk_cell BK105.out 0).trans rfl, (blk_cell BK105.out 1).trans rfl, (blk_cell BK103.out 0).trans rfl, (cB HB hw107_0), (cB HB hw107_1)⟩ (fun hHeld => ?_)
                   clear hK K; refine norm_ (a' := ?_) ?_ ?_
                   rotate_left
                   · show Act.put _ (some 14) _ = _
                     simp only [Act.put, sa, sb, sc, i64_w, i32_w]
                     rfl
                   refine pure_ (i := 2) (N := some 15) (v := ?_) (a' := ?_) #[true, true, true, false, false, false, false, false, false, false, false, false, false, false, false, false, false, false, false] rfl rfl (any_of HT_.out (by kernel_rfl)) (fun _ _ _ h => h) (Or.inl ⟨by rfl, ?_⟩) ?_ ?_
                   rotate_left
                   · intro w'; go_simp
                     with_reducible rfl
                   rotate_left
                   · simp only [Act.put, sa, sb, sc, i64_w, i32_w]
                     rfl
                   refine pure_ (i := 3) (N := some 16) (v := ?_) (a' := ?_) #[true, true, true, true, false, false, false, false, false, false, false, false, false, false, false, false, false, false, false] rfl rfl (any_of HT_.out (by kernel_rfl)) (fun _ _ _ h => h) (Or.inl ⟨by rfl, ?_⟩) ?_ ?_
                   rotate_left
                   · intro w'; go_simp
                     with_reducible rfl
                   rotate_left
                   · simp only [Act.put, sa, sb, sc, i64_w, i32_w]
                     rfl
                   refine pure_ (i := 4) (N := some 17) (v := ?_) (a' := ?_) #[true, true, true, true, true, false, false, false, false, false, false, false, false, false, false, false, false, false, false] rfl rfl (any_of HT_.out (by kernel_rfl)) (fun _ _ _ h => h) (Or.inl ⟨by rfl, ?_⟩) ?_ ?_
                   rotate_left
                   · intro w'; go_simp
                     with_reducible rfl
                   rotate_left
                   · simp only [Act.put, sa, sb, sc, i64_w, i32_w]
                     rfl
                   refine pure_ (i := 5) (N := some 18) (v := ?_) (a' := ?_) #[true, true, true, true, true, true, false, false, false, false, false, false, false, false, false, false, false, false, false] rfl rfl (any_of HT_.out (by kernel_rfl)) (fun _ _ _ h => h) (Or.inl ⟨by rfl, ?_⟩) ?_ ?_
                   rotate_left
                   · intro w'; go_simp
                     with_reducible rfl
                   rotate_left
                   · simp only [Act.put, sa, sb, sc, i64_w, i32_w]
                     rfl
                   refine pure_ (i := 6) (N := some 19) (v := ?_) (a' := ?_) #[true, true, true, true, true, true, true, false, false, false, false, false, false, false, false, false, false, false, false] rfl rfl (any_of HT_.out (by kernel_rfl)) (fun _ _ _ h => h) (Or.inl ⟨by rfl, ?_⟩) ?_ ?_
                   rotate_left
                   · intro w'; go_simp
                     with_reducible rfl
                   rotate_left
                   · simp only [Act.put, sa, sb, sc, i64_w, i32_w]
                     rfl
                   refine pure_ (i := 7) (N := some 20) (v := ?_) (a' := ?_) #[true, true, true, true, true, true, true, true, false, false, false, false, false, false, false, false, false, false, false] rfl rfl (any_of HT_.out (by kernel_rfl)) (fun _ _ _ h => h) (Or.inl ⟨by rfl, ?_⟩) ?_ ?_
                   rotate_left
                   · intro w'; go_simp
                     with_reducible rfl
                   rotate_left
                   · simp only [Act.put, sa, sb, sc, i64_w, i32_w]
                     rfl
                   refine pure_ (i := 9) (N := some 22) (v := ?_) (a' := ?_) #[true, true, true, true, true, true, true, true, false, true, false, false, false, false, false, false, false, false, false] rfl rfl (any_of HT_.out (by kernel_rfl)) (fun _ _ _ h => h) (Or.inl ⟨by rfl, ?_⟩) ?_ ?_
                   rotate_left
                   · intro w'; go_simp
                     with_reducible rfl
                   rotate_left
                   · simp only [Act.put, sa, sb, sc, i64_w, i32_w]
                     rfl
                   refine pure_ (i := 10) (N := some 23) (v := ?_) (a' := ?_) #[true, true, true, true, true, true, true, true, false, true, true, false, false, false, false, false, false, false, false] rfl rfl (any_of HT_.out (by kernel_rfl)) (fun _ _ _ h => h) (Or.inl ⟨by rfl, ?_⟩) ?_ ?_
                   rotate_left
                   · intro w'; go_simp
                     with_reducible rfl
                   rotate_left
                   · simp only [Act.put, sa, sb, sc, i64_w, i32_w]
                     rfl
                   refine pure_ (i := 14) (N := some 27) (v := ?_) (a' := ?_) #[true, true, true, true, true, true, true, true, false, true, true, false, false, false, true, false, false, false, false] rfl rfl (any_of HT_.out (by kernel_rfl)) (fun _ _ _ h => h) (Or.inl ⟨by rfl, ?_⟩) ?_ ?_
                   rotate_left
                   · intro w'; go_simp
                     with_reducible rfl
                   rotate_left
                   · simp only [Act.put, sa, sb, sc, i64_w, i32_w]
                     rfl
                   refine take_ (i := 8) (N := some 21) (v := ?_) (a' := ?_) #[true, true, true, true, true, true, true, true, true, true, true, false, false, false, true, false, false, false, false] rfl rfl (take_ofW HT_.out HW_.out (by kernel_rfl)) (fun _ _ _ h => h) (Or.inl ⟨by rfl, ?_⟩) hHeld ?_ ?_
                   rotate_left
                   · rintro w' ⟨s0, s1, s2, s3, s4⟩
                     go_simp
                     with_reducible rfl
                   rotate_left
                   · simp only [Act.put, sa, sb, sc, i64_w, i32_w]
                     rfl
                   refine pure_ (i := 11) (N := some 24) (v := ?_) (a' := ?_) #[true, true, true, true, true, true, true, true, true, true, true, true, false, false, true, false, false, false, false] rfl rfl (any_of HT_.out (by kernel_rfl)) (fun _ _ _ h => h) (Or.inl ⟨by rfl, ?_⟩) ?_ ?_
                   rotate_left
                   · intro w'; go_simp
                     with_reducible rfl
                   rotate_left
                   · simp only [Act.put, sa, sb, sc, i64_w, i32_w]
                     rfl
                   refine pure_ (i := 12) (N := some 25) (v := ?_) (a' := ?_) #[true, true, true, true, true, true, true, true, true, true, true, true, true, false, true, false, false, false, false] rfl rfl (any_of HT_.out (by kernel_rfl)) (fun _ _ _ h => h) (Or.inl ⟨by rfl, ?_⟩) ?_ ?_
                   rotate_left
                   · intro w'; go_simp
                     with_reducible rfl
                   rotate_left
                   · simp only [Act.put, sa, sb, sc, i64_w, i32_w]
                     rfl
                   refine take_ (i := 13) (N := some 26) (v := ?_) (a' := ?_) #[true, true, true, true, true, true, true, true, true, true, true, true, true, true, true, false, false, false, false] rfl rfl (take_ofW HT_.out HW_.out (by kernel_rfl)) (fun _ _ _ h => h) (Or.inl ⟨by rfl, ?_⟩) hHeld ?_ ?_
                   rotate_left
                   · rintro w' ⟨s0, s1, s2, s3, s4⟩
                     go_simp
                     with_reducible rfl
                   rotate_left
                   · simp only [Act.put, sa, sb, sc, i64_w, i32_w]
                     rfl
                   refine take_ (i := 15) (N := some 28) (v := ?_) (a' := ?_) #[true, true, true, true, true, true, true, true, true, true, true, true, true, true, true, true, false, false, false] rfl rfl (take_ofW HT_.out HW_.out (by kernel_rfl)) (fun _ _ _ h => h) (Or.inl ⟨by rfl, ?_⟩) hHeld ?_ ?_
                   rotate_left
                   · rintro w' ⟨s0, s1, s2, s3, s4⟩
                     go_simp
                     with_reducible rfl
                   rotate_left
                   · simp only [Act.put, sa, sb, sc, i64_w, i32_w]
                     rfl
                   refine pure_ (i := 16) (N := some 29) (v := ?_) (a' := ?_) #[true, true, true, true, true, true, true, true, true, true, true, true, true, true, true, true, true, false, false] rfl rfl (any_of HT_.out (by kernel_rfl)) (fun _ _ _ h => h) (Or.inl ⟨by rfl, ?_⟩) ?_ ?_
                   rotate_left
                   · intro w'; go_simp
                     with_reducible rfl
                   rotate_left
                   · simp only [Act.put, sa, sb, sc, i64_w, i32_w]
                     rfl
                   refine pure_ (i := 17) (N := some 30) (v := ?_) (a' := ?_) #[true, true, true, true, true, true, true, true, true, true, true, true, true, true, true, true, true, true, false] rfl rfl (any_of HT_.out (by kernel_rfl)) (fun _ _ _ h => h) (Or.inl ⟨by rfl, ?_⟩) ?_ ?_
                   rotate_left
                   · intro w'; go_simp
                     with_reducible rfl
                   rotate_left
                   · simp only [Act.put, sa, sb, sc, i64_w, i32_w]
                     rfl
                   refine pure_ (i := 18) (N := some 31) (v := ?_) (a' := ?_) #[true, true, true, true, true, true, true, true, true, true, true, true, true, true, true, true, true, true, true] rfl rfl (any_of HT_.out (by kernel_rfl)) (fun _ _ _ h => h) (Or.inl ⟨by rfl, ?_⟩) ?_ ?_
                   rotate_left
                   · intro w'; go_simp
                     with_reducible rfl
                   rotate_left
                   · simp only [Act.put, sa, sb, sc, i64_w, i32_w]
                     rfl
                   refine done_ (done_of HT_.out (by kernel_rfl)) ?_
                   try go_wp2
                   go_ret
                   exact ⟨by first | rfl | (simp [errW_none, errW_some] <;> rfl) | (simp only [← hji10]; first | rfl | (simp [errW_none, errW_some] <;> rfl)) | (simp [*, errW_none, errW_some] <;> rfl) | (simp [wrap64]; done) | (simp [*, wrap64]; done), belA⟩
                 · rw [if_neg c13] at H; have c13b0 := decide_eq_false c13; clear c13; have H' := Aside0.mk H; clear H; have p104 : 0 ≤ (x8_1 : Int) := odA; have q104 : x8_1 < (l0_0.length : Int) := odA; obtain ⟨ad104, e104, hx104_0, hx104_1⟩ := at_T65 HR0_0.out x8_1 p104 q104
                   cases e104
                   try replace hx104_0 := cB HB hx104_0
                   try replace hx104_1 := cB HB hx104_1
                   replace p104 := eq_true p104; replace q104 := eq_true q104; try go_wp2_with (first | ((with_reducible refine gate_dst (N := 4) rfl ?_); refine boxA 4 #[.int .i64 0, .int .i64 0] 65 ?_; intro gb105 hg w20 hbox hb; have BK105 := Aside0.mk hbox; have GW105 := leA (w := w) hg; have GE105 := leA (w := w) hg; have NB103_105 := neL hg BK103; have NB105_103 := neG hg BK103; replace BK103 := bB BK103 hb; replace HB := bS hb; clear hb hbox hg; have hnb21 := NB105_103.out; have hnc21 := NB103_105.out; obtain ⟨hcz22_0, hcz22_1, hfz22_0, hfz22_1⟩ := cel2 BK105))
                   generalize hw_ : ((w20.setCell ⟨gb105, 0, none⟩ (.int .i64 ((rd_T65 l0_0 x8_1).f0))).setCell ⟨gb105, 1, none⟩ (.int .i64 ((rd_T65 l0_0 x8_1).f1))) = w23; have n0_ : Aside0 (w23.heap[gb103]? = some (.cells #[.slice (some ad104) l0_0.length c0_0] 61 (0, 0))) := ⟨by rw [← hw_]; refine blk_far ?_ NB103_105.out _; refine blk_far ?_ NB103_105.out _; exact BK103.out⟩; have n1_ : Aside0 (w23.heap[gb105]? = some (.cells #[.int .i64 ((rd_T65 l0_0 x8_1).f0), .int .i64 ((rd_T65 l0_0 x8_1).f1)] 65 (0, 0))) := ⟨by rw [← hw_]; refine blk_put (cs := #[.int .i64 ((rd_T65 l0_0 x8_1).f0), .int .i64 0]) ?_ 1 _ rfl; refine blk_put (cs := #[.int .i64 0, .int .i64 0]) ?_ 0 _ rfl; exact BK105.out⟩; have n2_ : Aside0 (Below w.heap.size w w23) := ⟨by rw [← hw_]; exact belA⟩; (try clear BK103); (try clear BK105); (try clear HB); clear hw_; have BK103 := n0_; have BK105 := n1_; have HB := n2_; clear n0_ n1_ n2_; replace BK103 := Aside0.mk (blk_drew BK103.out); replace BK105 := Aside0.mk (blk_drew BK105.out); replace HB := Aside0.mk (below_drew1 HB.out); have p107 : 0 ≤ ((ji10) : Int) := odA; have q107 : (ji10) < (l0_0.length : Int) := odA; obtain ⟨ad107, e107, hx107_0, hx107_1⟩ := at_T65 HR0_0.out (ji10) p107 q107; have hw107_1 := hx107_1; have hw107_0 := hx107_0; obtain rfl : ad104 = ad107 := (by injection e107); try replace hx107_0 := cB HB hx107_0
                   try replace hx107_1 := cB HB hx107_1
                   replace p107 := eq_true p107; replace q107 := eq_true q107; refine start_ (n := 19) (S := fun w' => w'.cell? ⟨gb105, 0, none⟩ = some (.int .i64 ((rd_T65 l0_0 x8_1).f0)) ∧ w'.cell? ⟨gb105, 1, none⟩ = some (.int .i64 ((rd_T65 l0_0 x8_1).f1)) ∧ w'.cell? ⟨gb103, 0, none⟩ = some (.slice (some ad104) l0_0.length c0_0) ∧ w'.cell? (ad104.add (((ji10)).toNat * 2)) = some (.int .i64 ((rd_T65 l0_0 (ji10)).f0)) ∧ w'.cell? ⟨(ad104.add (((ji10)).toNat * 2)).block, (ad104.add (((ji10)).toNat * 2)).off + 1, none⟩ = some (.int .i64 ((rd_T65 l0_0 (ji10)).f1))) (ds := []) #[false, false, false, false, false, false, false, false, false, false, false, false, false, false, false, false, false, false, false] (by kernel_rfl) rfl rfl ⟨(blk_cell BK105.out 0).trans rfl, (blk_cell BK105.out 1).trans rfl, (blk_cell BK103.out 0).trans rfl, (cB HB hw107_0), (cB HB hw107_1)⟩ (fun hHeld => ?_); refine with_tabW impl_isLine.tab4 impl_isLine.bits4 (fun HT_ HW_ => ?_)
                   generalize w23.drew = w24 at BK103 BK105 HB hx107_0 hx107_1 hHeld ⊢
                   refine take_ (i := 0) (N := some 13) (v := ?_) (a' := ?_) #[true, false, false, false, false, false, false, false, false, false, false, false, false, false, false, false, false, false, false] rfl rfl (take_ofW HT_.out HW_.out (by kernel_rfl)) (fun _ _ _ h => h) (Or.inl ⟨by rfl, ?_⟩) hHeld ?_ ?_
                   rotate_left
                   · rintro w' ⟨s0, s1, s2, s3, s4⟩
                     go_simp
                     with_reducible rfl
                   rotate_left
                   · simp only [Act.put, sa, sb, sc, i64_w, i32_w]
                     rfl
                   refine one_ (i := 1) (N := some 14) #[true, true, false, false, false, false, false, false, false, false, false, false, false, false, false, false, false, false, false] rfl rfl (one_of HT_.out (by kernel_rfl)) (by decide) (fun K hK => ?_)
                   refine goes_ Try.func145 (by kernel_rfl) rfl #[.agg #[.int .i64 ((rd_T65 l0_0 x8_1).f0), .int .i64 ((rd_T65 l0_0 x8_1).f1)]] (by rfl) rfl rfl (by (try simp only [List.map_toArray, List.map_cons, List.map_nil]); first | done | rfl | (simp only [List.length_drop, List.length_take]; rfl) | (simp only [Int.tmod_eq_emod_of_nonneg (Int.natCast_nonneg _)]; done) | (simp only [Int.tmod_eq_emod_of_nonneg (Int.natCast_nonneg _)]; rfl)) ?_
                   with_reducible refine (impl_isTicket.calls ((rd_T65 l0_0 x8_1).f0) ((rd_T65 l0_0 x8_1).f1) true _ A7.out).mono ?_
                   rintro e w25 ⟨rfl, hb⟩
                   refine ⟨_, rfl, ?_⟩
                   replace BK103 := bB BK103 hb; replace BK105 := bB BK105 hb; replace HB := bS hb; (try clear hb); (try clear hb2); (try clear hk); (try clear hi); refine hK.out _ _ ⟨(blk_cell BK105.out 0).trans rfl, (blk_cell BK105.out 1).trans rfl, (blk_cell BK103.out 0).trans rfl, (cB HB hw107_0), (cB HB hw107_1)⟩ (fun hHeld => ?_)
                   clear hK K; refine norm_ (a' := ?_) ?_ ?_
                   rotate_left
                   · show Act.put _ (some 14) _ = _
                     simp only [Act.put, sa, sb, sc, i64_w, i32_w]
                     rfl
                   refine pure_ (i := 2) (N := some 15) (v := ?_) (a' := ?_) #[true, true, true, false, false, false, false, false, false, false, false, false, false, false, false, false, false, false, false] rfl rfl (any_of HT_.out (by kernel_rfl)) (fun _ _ _ h => h) (Or.inl ⟨by rfl, ?_⟩) ?_ ?_
                   rotate_left
                   · intro w'; go_simp
                     with_reducible rfl
                   rotate_left
                   · simp only [Act.put, sa, sb, sc, i64_w, i32_w]
                     rfl
                   refine pure_ (i := 3) (N := some 16) (v := ?_) (a' := ?_) #[true, true, true, true, false, false, false, false, false, false, false, false, false, false, false, false, false, false, false] rfl rfl (any_of HT_.out (by kernel_rfl)) (fun _ _ _ h => h) (Or.inl ⟨by rfl, ?_⟩) ?_ ?_
                   rotate_left
                   · intro w'; go_simp
                     with_reducible rfl
                   rotate_left
                   · simp only [Act.put, sa, sb, sc, i64_w, i32_w]
                     rfl
                   refine pure_ (i := 4) (N := some 17) (v := ?_) (a' := ?_) #[true, true, true, true, true, false, false, false, false, false, false, false, false, false, false, false, false, false, false] rfl rfl (any_of HT_.out (by kernel_rfl)) (fun _ _ _ h => h) (Or.inl ⟨by rfl, ?_⟩) ?_ ?_
                   rotate_left
                   · intro w'; go_simp
                     with_reducible rfl
                   rotate_left
                   · simp only [Act.put, sa, sb, sc, i64_w, i32_w]
                     rfl
                   refine pure_ (i := 5) (N := some 18) (v := ?_) (a' := ?_) #[true, true, true, true, true, true, false, false, false, false, false, false, false, false, false, false, false, false, false] rfl rfl (any_of HT_.out (by kernel_rfl)) (fun _ _ _ h => h) (Or.inl ⟨by rfl, ?_⟩) ?_ ?_
                   rotate_left
                   · intro w'; go_simp
                     with_reducible rfl
                   rotate_left
                   · simp only [Act.put, sa, sb, sc, i64_w, i32_w]
                     rfl
                   refine pure_ (i := 6) (N := some 19) (v := ?_) (a' := ?_) #[true, true, true, true, true, true, true, false, false, false, false, false, false, false, false, false, false, false, false] rfl rfl (any_of HT_.out (by kernel_rfl)) (fun _ _ _ h => h) (Or.inl ⟨by rfl, ?_⟩) ?_ ?_
                   rotate_left
                   · intro w'; go_simp
                     with_reducible rfl
                   rotate_left
                   · simp only [Act.put, sa, sb, sc, i64_w, i32_w]
                     rfl
                   refine pure_ (i := 7) (N := some 20) (v := ?_) (a' := ?_) #[true, true, true, true, true, true, true, true, false, false, false, false, false, false, false, false, false, false, false] rfl rfl (any_of HT_.out (by kernel_rfl)) (fun _ _ _ h => h) (Or.inl ⟨by rfl, ?_⟩) ?_ ?_
                   rotate_left
                   · intro w'; go_simp
                     with_reducible rfl
                   rotate_left
                   · simp only [Act.put, sa, sb, sc, i64_w, i32_w]
                     rfl
                   refine pure_ (i := 9) (N := some 22) (v := ?_) (a' := ?_) #[true, true, true, true, true, true, true, true, false, true, false, false, false, false, false, false, false, false, false] rfl rfl (any_of HT_.out (by kernel_rfl)) (fun _ _ _ h => h) (Or.inl ⟨by rfl, ?_⟩) ?_ ?_
                   rotate_left
                   · intro w'; go_simp
                     with_reducible rfl
                   rotate_left
                   · simp only [Act.put, sa, sb, sc, i64_w, i32_w]
                     rfl
                   refine pure_ (i := 10) (N := some 23) (v := ?_) (a' := ?_) #[true, true, true, true, true, true, true, true, false, true, true, false, false, false, false, false, false, false, false] rfl rfl (any_of HT_.out (by kernel_rfl)) (fun _ _ _ h => h) (Or.inl ⟨by rfl, ?_⟩) ?_ ?_
                   rotate_left
                   · intro w'; go_simp
                     with_reducible rfl
                   rotate_left
                   · simp only [Act.put, sa, sb, sc, i64_w, i32_w]
                     rfl
                   refine pure_ (i := 14) (N := some 27) (v := ?_) (a' := ?_) #[true, true, true, true, true, true, true, true, false, true, true, false, false, false, true, false, false, false, false] rfl rfl (any_of HT_.out (by kernel_rfl)) (fun _ _ _ h => h) (Or.inl ⟨by rfl, ?_⟩) ?_ ?_
                   rotate_left
                   · intro w'; go_simp
                     with_reducible rfl
                   rotate_left
                   · simp only [Act.put, sa, sb, sc, i64_w, i32_w]
                     rfl
                   refine take_ (i := 8) (N := some 21) (v := ?_) (a' := ?_) #[true, true, true, true, true, true, true, true, true, true, true, false, false, false, true, false, false, false, false] rfl rfl (take_ofW HT_.out HW_.out (by kernel_rfl)) (fun _ _ _ h => h) (Or.inl ⟨by rfl, ?_⟩) hHeld ?_ ?_
                   rotate_left
                   · rintro w' ⟨s0, s1, s2, s3, s4⟩
                     go_simp
                     with_reducible rfl
                   rotate_left
                   · simp only [Act.put, sa, sb, sc, i64_w, i32_w]
                     rfl
                   refine pure_ (i := 11) (N := some 24) (v := ?_) (a' := ?_) #[true, true, true, true, true, true, true, true, true, true, true, true, false, false, true, false, false, false, false] rfl rfl (any_of HT_.out (by kernel_rfl)) (fun _ _ _ h => h) (Or.inl ⟨by rfl, ?_⟩) ?_ ?_
                   rotate_left
                   · intro w'; go_simp
                     with_reducible rfl
                   rotate_left
                   · simp only [Act.put, sa, sb, sc, i64_w, i32_w]
                     rfl
                   refine pure_ (i := 12) (N := some 25) (v := ?_) (a' := ?_) #[true, true, true, true, true, true, true, true, true, true, true, true, true, false, true, false, false, false, false] rfl rfl (any_of HT_.out (by kernel_rfl)) (fun _ _ _ h => h) (Or.inl ⟨by rfl, ?_⟩) ?_ ?_
                   rotate_left
                   · intro w'; go_simp
                     with_reducible rfl
                   rotate_left
                   · simp only [Act.put, sa, sb, sc, i64_w, i32_w]
                     rfl
                   refine take_ (i := 13) (N := some 26) (v := ?_) (a' := ?_) #[true, true, true, true, true, true, true, true, true, true, true, true, true, true, true, false, false, false, false] rfl rfl (take_ofW HT_.out HW_.out (by kernel_rfl)) (fun _ _ _ h => h) (Or.inl ⟨by rfl, ?_⟩) hHeld ?_ ?_
                   rotate_left
                   · rintro w' ⟨s0, s1, s2, s3, s4⟩
                     go_simp
                     with_reducible rfl
                   rotate_left
                   · simp only [Act.put, sa, sb, sc, i64_w, i32_w]
                     rfl
                   refine take_ (i := 15) (N := some 28) (v := ?_) (a' := ?_) #[true, true, true, true, true, true, true, true, true, true, true, true, true, true, true, true, false, false, false] rfl rfl (take_ofW HT_.out HW_.out (by kernel_rfl)) (fun _ _ _ h => h) (Or.inl ⟨by rfl, ?_⟩) hHeld ?_ ?_
                   rotate_left
                   · rintro w' ⟨s0, s1, s2, s3, s4⟩
                     go_simp
                     with_reducible rfl
                   rotate_left
                   · simp only [Act.put, sa, sb, sc, i64_w, i32_w]
                     rfl
                   refine pure_ (i := 16) (N := some 29) (v := ?_) (a' := ?_) #[true, true, true, true, true, true, true, true, true, true, true, true, true, true, true, true, true, false, false] rfl rfl (any_of HT_.out (by kernel_rfl)) (fun _ _ _ h => h) (Or.inl ⟨by rfl, ?_⟩) ?_ ?_
                   rotate_left
                   · intro w'; go_simp
                     with_reducible rfl
                   rotate_left
                   · simp only [Act.put, sa, sb, sc, i64_w, i32_w]
                     rfl
                   refine pure_ (i := 17) (N := some 30) (v := ?_) (a' := ?_) #[true, true, true, true, true, true, true, true, true, true, true, true, true, true, true, true, true, true, false] rfl rfl (any_of HT_.out (by kernel_rfl)) (fun _ _ _ h => h) (Or.inl ⟨by rfl, ?_⟩) ?_ ?_
                   rotate_left
                   · intro w'; go_simp
                     with_reducible rfl
                   rotate_left
                   · simp only [Act.put, sa, sb, sc, i64_w, i32_w]
                     rfl
                   refine pure_ (i := 18) (N := some 31) (v := ?_) (a' := ?_) #[true, true, true, true, true, true, true, true, true, true, true, true, true, true, true, true, true, true, true] rfl rfl (any_of HT_.out (by kernel_rfl)) (fun _ _ _ h => h) (Or.inl ⟨by rfl, ?_⟩) ?_ ?_
                   rotate_left
                   · intro w'; go_simp
                     with_reducible rfl
                   rotate_left
                   · simp only [Act.put, sa, sb, sc, i64_w, i32_w]
                     rfl
                   refine done_ (done_of HT_.out (by kernel_rfl)) ?_
                   try go_wp2
                   go_roundg k1
                   case measure => have := HK1.out; omega
                   case rel => exact ⟨(wrap64 (x8_1 + 1)), eqA, H', ⟨by have := HK1.out; omega⟩, ⟨blkA⟩, ⟨belA⟩⟩
               · rw [if_neg c12] at H; exact absurd H (by simp)
             · rw [if_neg c11] at H; exact absurd H (by simp)
           · rw [if_neg c9] at H; have c9b0 := decide_eq_false c9; clear c9; have H' := Aside0.mk H; clear H; have p104 : 0 ≤ (x8_1 : Int) := odA; have q104 : x8_1 < (l0_0.length : Int) := odA; obtain ⟨ad104, e104, hx104_0, hx104_1⟩ := at_T65 HR0_0.out x8_1 p104 q104
             cases e104
             try replace hx104_0 := cB HB hx104_0
             try replace hx104_1 := cB HB hx104_1
             replace p104 := eq_true p104; replace q104 := eq_true q104; try go_wp2_with (first | ((with_reducible refine gate_dst (N := 4) rfl ?_); refine boxA 4 #[.int .i64 0, .int .i64 0] 65 ?_; intro gb105 hg w26 hbox hb; have BK105 := Aside0.mk hbox; have GW105 := leA (w := w) hg; have GE105 := leA (w := w) hg; have NB103_105 := neL hg BK103; have NB105_103 := neG hg BK103; replace BK103 := bB BK103 hb; replace HB := bS hb; clear hb hbox hg; have hnb27 := NB105_103.out; have hnc27 := NB103_105.out; obtain ⟨hcz28_0, hcz28_1, hfz28_0, hfz28_1⟩ := cel2 BK105))
             generalize hw_ : ((w26.setCell ⟨gb105, 0, none⟩ (.int .i64 ((rd_T65 l0_0 x8_1).f0))).setCell ⟨gb105, 1, none⟩ (.int .i64 ((rd_T65 l0_0 x8_1).f1))) = w29; have n0_ : Aside0 (w29.heap[gb103]? = some (.cells #[.slice (some ad104) l0_0.length c0_0] 61 (0, 0))) := ⟨by rw [← hw_]; refine blk_far ?_ NB103_105.out _; refine blk_far ?_ NB103_105.out _; exact BK103.out⟩; have n1_ : Aside0 (w29.heap[gb105]? = some (.cells #[.int .i64 ((rd_T65 l0_0 x8_1).f0), .int .i64 ((rd_T65 l0_0 x8_1).f1)] 65 (0, 0))) := ⟨by rw [← hw_]; refine blk_put (cs := #[.int .i64 ((rd_T65 l0_0 x8_1).f0), .int .i64 0]) ?_ 1 _ rfl; refine blk_put (cs := #[.int .i64 0, .int .i64 0]) ?_ 0 _ rfl; exact BK105.out⟩; have n2_ : Aside0 (Below w.heap.size w w29) := ⟨by rw [← hw_]; exact belA⟩; (try clear BK103); (try clear BK105); (try clear HB); clear hw_; have BK103 := n0_; have BK105 := n1_; have HB := n2_; clear n0_ n1_ n2_; replace BK103 := Aside0.mk (blk_drew BK103.out); replace BK105 := Aside0.mk (blk_drew BK105.out); replace HB := Aside0.mk (below_drew1 HB.out); refine start_ (n := 19) (S := fun w' => w'.cell? ⟨gb105, 0, none⟩ = some (.int .i64 ((rd_T65 l0_0 x8_1).f0)) ∧ w'.cell? ⟨gb105, 1, none⟩ = some (.int .i64 ((rd_T65 l0_0 x8_1).f1))) (ds := []) #[false, false, false, false, false, false, false, false, false, false, false, false, false, false, false, false, false, false, false] (by kernel_rfl) rfl rfl ⟨(blk_cell BK105.out 0).trans rfl, (blk_cell BK105.out 1).trans rfl⟩ (fun hHeld => ?_); refine with_tabW impl_isLine.tab4 impl_isLine.bits4 (fun HT_ HW_ => ?_)
             generalize w29.drew = w30 at BK103 BK105 HB hHeld ⊢
             refine take_ (i := 0) (N := some 13) (v := ?_) (a' := ?_) #[true, false, false, false, false, false, false, false, false, false, false, false, false, false, false, false, false, false, false] rfl rfl (take_ofW HT_.out HW_.out (by kernel_rfl)) (fun _ _ _ h => h) (Or.inl ⟨by rfl, ?_⟩) hHeld ?_ ?_
             rotate_left
             · rintro w' ⟨s0, s1⟩
               go_simp
               with_reducible rfl
             rotate_left
             · simp only [Act.put, sa, sb, sc, i64_w, i32_w]
               rfl
             refine one_ (i := 1) (N := some 14) #[true, true, false, false, false, false, false, false, false, false, false, false, false, false, false, false, false, false, false] rfl rfl (one_of HT_.out (by kernel_rfl)) (by decide) (fun K hK => ?_)
             refine goes_ Try.func145 (by kernel_rfl) rfl #[.agg #[.int .i64 ((rd_T65 l0_0 x8_1).f0), .int .i64 ((rd_T65 l0_0 x8_1).f1)]] (by rfl) rfl rfl (by (try simp only [List.map_toArray, List.map_cons, List.map_nil]); first | done | rfl | (simp only [List.length_drop, List.length_take]; rfl) | (simp only [Int.tmod_eq_emod_of_nonneg (Int.natCast_nonneg _)]; done) | (simp only [Int.tmod_eq_emod_of_nonneg (Int.natCast_nonneg _)]; rfl)) ?_
             with_reducible refine (impl_isTicket.calls ((rd_T65 l0_0 x8_1).f0) ((rd_T65 l0_0 x8_1).f1) true _ A7.out).mono ?_
             rintro e w31 ⟨rfl, hb⟩
             refine ⟨_, rfl, ?_⟩
             replace BK103 := bB BK103 hb; replace BK105 := bB BK105 hb; replace HB := bS hb; (try clear hb); (try clear hb2); (try clear hk); (try clear hi); refine hK.out _ _ ⟨(blk_cell BK105.out 0).trans rfl, (blk_cell BK105.out 1).trans rfl⟩ (fun hHeld => ?_)
             clear hK K; refine norm_ (a' := ?_) ?_ ?_
             rotate_left
             · show Act.put _ (some 14) _ = _
               simp only [Act.put, sa, sb, sc, i64_w, i32_w]
               rfl
             refine pure_ (i := 2) (N := some 15) (v := ?_) (a' := ?_) #[true, true, true, false, false, false, false, false, false, false, false, false, false, false, false, false, false, false, false] rfl rfl (any_of HT_.out (by kernel_rfl)) (fun _ _ _ h => h) (Or.inl ⟨by rfl, ?_⟩) ?_ ?_
             rotate_left
             · intro w'; go_simp
               with_reducible rfl
             rotate_left
             · simp only [Act.put, sa, sb, sc, i64_w, i32_w]
               rfl
             refine pure_ (i := 3) (N := some 16) (v := ?_) (a' := ?_) #[true, true, true, true, false, false, false, false, false, false, false, false, false, false, false, false, false, false, false] rfl rfl (any_of HT_.out (by kernel_rfl)) (fun _ _ _ h => h) (Or.inl ⟨by rfl, ?_⟩) ?_ ?_
             rotate_left
             · intro w'; go_simp
               with_reducible rfl
             rotate_left
             · simp only [Act.put, sa, sb, sc, i64_w, i32_w]
               rfl
             refine pure_ (i := 4) (N := some 17) (v := ?_) (a' := ?_) #[true, true, true, true, true, false, false, false, false, false, false, false, false, false, false, false, false, false, false] rfl rfl (any_of HT_.out (by kernel_rfl)) (fun _ _ _ h => h) (Or.inl ⟨by rfl, ?_⟩) ?_ ?_
             rotate_left
             · intro w'; go_simp
               with_reducible rfl
             rotate_left
             · simp only [Act.put, sa, sb, sc, i64_w, i32_w]
               rfl
             refine pure_ (i := 5) (N := some 18) (v := ?_) (a' := ?_) #[true, true, true, true, true, true, false, false, false, false, false, false, false, false, false, false, false, false, false] rfl rfl (any_of HT_.out (by kernel_rfl)) (fun _ _ _ h => h) (Or.inl ⟨by rfl, ?_⟩) ?_ ?_
             rotate_left
             · intro w'; go_simp
               with_reducible rfl
             rotate_left
             · simp only [Act.put, sa, sb, sc, i64_w, i32_w]
               rfl
             refine pure_ (i := 6) (N := some 19) (v := ?_) (a' := ?_) #[true, true, true, true, true, true, true, false, false, false, false, false, false, false, false, false, false, false, false] rfl rfl (any_of HT_.out (by kernel_rfl)) (fun _ _ _ h => h) (Or.inl ⟨by rfl, ?_⟩) ?_ ?_
             rotate_left
             · intro w'; go_simp
               with_reducible rfl
             rotate_left
             · simp only [Act.put, sa, sb, sc, i64_w, i32_w]
               rfl
             refine pure_ (i := 7) (N := some 20) (v := undef) (a' := ?_) #[true, true, true, true, true, true, true, true, false, false, false, false, false, false, false, false, false, false, false] rfl rfl (any_of HT_.out (by kernel_rfl)) (fun _ _ _ h => h) (Or.inr ⟨by rfl, rfl⟩) ?_ ?_
             rotate_left
             · simp only [Act.put, sa, sb, sc, i64_w, i32_w]
               rfl
             refine pure_ (i := 8) (N := some 21) (v := undef) (a' := ?_) #[true, true, true, true, true, true, true, true, true, false, false, false, false, false, false, false, false, false, false] rfl rfl (any_of HT_.out (by kernel_rfl)) (fun _ _ _ h => h) (Or.inr ⟨by rfl, rfl⟩) ?_ ?_
             rotate_left
             · simp only [Act.put, sa, sb, sc, i64_w, i32_w]
               rfl
             refine pure_ (i := 9) (N := some 22) (v := undef) (a' := ?_) #[true, true, true, true, true, true, true, true, true, true, false, false, false, false, false, false, false, false, false] rfl rfl (any_of HT_.out (by kernel_rfl)) (fun _ _ _ h => h) (Or.inr ⟨by rfl, rfl⟩) ?_ ?_
             rotate_left
             · simp only [Act.put, sa, sb, sc, i64_w, i32_w]
               rfl
             refine pure_ (i := 10) (N := some 23) (v := undef) (a' := ?_) #[true, true, true, true, true, true, true, true, true, true, true, false, false, false, false, false, false, false, false] rfl rfl (any_of HT_.out (by kernel_rfl)) (fun _ _ _ h => h) (Or.inr ⟨by rfl, rfl⟩) ?_ ?_
             rotate_left
             · simp only [Act.put, sa, sb, sc, i64_w, i32_w]
               rfl
             refine pure_ (i := 11) (N := some 24) (v := undef) (a' := ?_) #[true, true, true, true, true, true, true, true, true, true, true, true, false, false, false, false, false, false, false] rfl rfl (any_of HT_.out (by kernel_rfl)) (fun _ _ _ h => h) (Or.inr ⟨by rfl, rfl⟩) ?_ ?_
             rotate_left
             · simp only [Act.put, sa, sb, sc, i64_w, i32_w]
               rfl
             refine pure_ (i := 12) (N := some 25) (v := undef) (a' := ?_) #[true, true, true, true, true, true, true, true, true, true, true, true, true, false, false, false, false, false, false] rfl rfl (any_of HT_.out (by kernel_rfl)) (fun _ _ _ h => h) (Or.inr ⟨by rfl, rfl⟩) ?_ ?_
             rotate_left
             · simp only [Act.put, sa, sb, sc, i64_w, i32_w]
               rfl
             refine pure_ (i := 13) (N := some 26) (v := undef) (a' := ?_) #[true, true, true, true, true, true, true, true, true, true, true, true, true, true, false, false, false, false, false] rfl rfl (any_of HT_.out (by kernel_rfl)) (fun _ _ _ h => h) (Or.inr ⟨by rfl, rfl⟩) ?_ ?_
             rotate_left
             · simp only [Act.put, sa, sb, sc, i64_w, i32_w]
               rfl
             refine pure_ (i := 14) (N := some 27) (v := undef) (a' := ?_) #[true, true, true, true, true, true, true, true, true, true, true, true, true, true, true, false, false, false, false] rfl rfl (any_of HT_.out (by kernel_rfl)) (fun _ _ _ h => h) (Or.inr ⟨by rfl, rfl⟩) ?_ ?_
             rotate_left
             · simp only [Act.put, sa, sb, sc, i64_w, i32_w]
               rfl
             refine pure_ (i := 15) (N := some 28) (v := undef) (a' := ?_) #[true, true, true, true, true, true, true, true, true, true, true, true, true, true, true, true, false, false, false] rfl rfl (any_of HT_.out (by kernel_rfl)) (fun _ _ _ h => h) (Or.inr ⟨by rfl, rfl⟩) ?_ ?_
             rotate_left
             · simp only [Act.put, sa, sb, sc, i64_w, i32_w]
               rfl
             refine pure_ (i := 16) (N := some 29) (v := undef) (a' := ?_) #[true, true, true, true, true, true, true, true, true, true, true, true, true, true, true, true, true, false, false] rfl rfl (any_of HT_.out (by kernel_rfl)) (fun _ _ _ h => h) (Or.inr ⟨by rfl, rfl⟩) ?_ ?_
             rotate_left
             · simp only [Act.put, sa, sb, sc, i64_w, i32_w]
               rfl
             refine pure_ (i := 17) (N := some 30) (v := ?_) (a' := ?_) #[true, true, true, true, true, true, true, true, true, true, true, true, true, true, true, true, true, true, false] rfl rfl (any_of HT_.out (by kernel_rfl)) (fun _ _ _ h => h) (Or.inl ⟨by rfl, ?_⟩) ?_ ?_
             rotate_left
             · intro w'; go_simp
               with_reducible rfl
             rotate_left
             · simp only [Act.put, sa, sb, sc, i64_w, i32_w]
               rfl
             refine pure_ (i := 18) (N := some 31) (v := ?_) (a' := ?_) #[true, true, true, true, true, true, true, true, true, true, true, true, true, true, true, true, true, true, true] rfl rfl (any_of HT_.out (by kernel_rfl)) (fun _ _ _ h => h) (Or.inl ⟨by rfl, ?_⟩) ?_ ?_
             rotate_left
             · intro w'; go_simp
               with_reducible rfl
             rotate_left
             · simp only [Act.put, sa, sb, sc, i64_w, i32_w]
               rfl
             refine done_ (done_of HT_.out (by kernel_rfl)) ?_
             try go_wp2
             go_roundg k1
             case measure => have := HK1.out; omega
             case rel => exact ⟨(wrap64 (x8_1 + 1)), eqA, H', ⟨by have := HK1.out; omega⟩, ⟨blkA⟩, ⟨belA⟩⟩
         · replace c8 := Bool.eq_false_iff.mpr c8; subst c8; have H1 : (some false) = some r := by rw [if_neg (show ¬ (false = true) by decide)] at H; exact H
           clear H; have H := H1; clear H1; obtain rfl := Option.some.inj H; have p104 : 0 ≤ (x8_1 : Int) := odA; have q104 : x8_1 < (l0_0.length : Int) := odA; obtain ⟨ad104, e104, hx104_0, hx104_1⟩ := at_T65 HR0_0.out x8_1 p104 q104
           cases e104
           try replace hx104_0 := cB HB hx104_0
           try replace hx104_1 := cB HB hx104_1
           replace p104 := eq_true p104; replace q104 := eq_true q104; try go_wp2_with (first | ((with_reducible refine gate_dst (N := 4) rfl ?_); refine boxA 4 #[.int .i64 0, .int .i64 0] 65 ?_; intro gb105 hg w32 hbox hb; have BK105 := Aside0.mk hbox; have GW105 := leA (w := w) hg; have GE105 := leA (w := w) hg; have NB103_105 := neL hg BK103; have NB105_103 := neG hg BK103; replace BK103 := bB BK103 hb; replace HB := bS hb; clear hb hbox hg; have hnb33 := NB105_103.out; have hnc33 := NB103_105.out; obtain ⟨hcz34_0, hcz34_1, hfz34_0, hfz34_1⟩ := cel2 BK105))
           generalize hw_ : ((w32.setCell ⟨gb105, 0, none⟩ (.int .i64 ((rd_T65 l0_0 x8_1).f0))).setCell ⟨gb105, 1, none⟩ (.int .i64 ((rd_T65 l0_0 x8_1).f1))) = w35; have n0_ : Aside0 (w35.heap[gb103]? = some (.cells #[.slice (some ad104) l0_0.length c0_0] 61 (0, 0))) := ⟨by rw [← hw_]; refine blk_far ?_ NB103_105.out _; refine blk_far ?_ NB103_105.out _; exact BK103.out⟩; have n1_ : Aside0 (w35.heap[gb105]? = some (.cells #[.int .i64 ((rd_T65 l0_0 x8_1).f0), .int .i64 ((rd_T65 l0_0 x8_1).f1)] 65 (0, 0))) := ⟨by rw [← hw_]; refine blk_put (cs := #[.int .i64 ((rd_T65 l0_0 x8_1).f0), .int .i64 0]) ?_ 1 _ rfl; refine blk_put (cs := #[.int .i64 0, .int .i64 0]) ?_ 0 _ rfl; exact BK105.out⟩; have n2_ : Aside0 (Below w.heap.size w w35) := ⟨by rw [← hw_]; exact belA⟩; (try clear BK103); (try clear BK105); (try clear HB); clear hw_; have BK103 := n0_; have BK105 := n1_; have HB := n2_; clear n0_ n1_ n2_; replace BK103 := Aside0.mk (blk_drew BK103.out); replace BK105 := Aside0.mk (blk_drew BK105.out); replace HB := Aside0.mk (below_drew1 HB.out); refine start_ (n := 19) (S := fun w' => w'.cell? ⟨gb105, 0, none⟩ = some (.int .i64 ((rd_T65 l0_0 x8_1).f0)) ∧ w'.cell? ⟨gb105, 1, none⟩ = some (.int .i64 ((rd_T65 l0_0 x8_1).f1))) (ds := []) #[false, false, false, false, false, false, false, false, false, false, false, false, false, false, false, false, false, false, false] (by kernel_rfl) rfl rfl ⟨(blk_cell BK105.out 0).trans rfl, (blk_cell BK105.out 1).trans rfl⟩ (fun hHeld => ?_); refine with_tabW impl_isLine.tab4 impl_isLine.bits4 (fun HT_ HW_ => ?_)
           generalize w35.drew = w36 at BK103 BK105 HB hHeld ⊢
           refine take_ (i := 0) (N := some 13) (v := ?_) (a' := ?_) #[true, false, false, false, false, false, false, false, false, false, false, false, false, false, false, false, false, false, false] rfl rfl (take_ofW HT_.out HW_.out (by kernel_rfl)) (fun _ _ _ h => h) (Or.inl ⟨by rfl, ?_⟩) hHeld ?_ ?_
           rotate_left
           · rintro w' ⟨s0, s1⟩
             go_simp
             with_reducible rfl
           rotate_left
           · simp only [Act.put, sa, sb, sc, i64_w, i32_w]
             rfl
           refine one_ (i := 1) (N := some 14) #[true, true, false, false, false, false, false, false, false, false, false, false, false, false, false, false, false, false, false] rfl rfl (one_of HT_.out (by kernel_rfl)) (by decide) (fun K hK => ?_)
           refine goes_ Try.func145 (by kernel_rfl) rfl #[.agg #[.int .i64 ((rd_T65 l0_0 x8_1).f0), .int .i64 ((rd_T65 l0_0 x8_1).f1)]] (by rfl) rfl rfl (by (try simp only [List.map_toArray, List.map_cons, List.map_nil]); first | done | rfl | (simp only [List.length_drop, List.length_take]; rfl) | (simp only [Int.tmod_eq_emod_of_nonneg (Int.natCast_nonneg _)]; done) | (simp only [Int.tmod_eq_emod_of_nonneg (Int.natCast_nonneg _)]; rfl)) ?_
           with_reducible refine (impl_isTicket.calls ((rd_T65 l0_0 x8_1).f0) ((rd_T65 l0_0 x8_1).f1) false _ A7.out).mono ?_
           rintro e w37 ⟨rfl, hb⟩
           refine ⟨_, rfl, ?_⟩
           replace BK103 := bB BK103 hb; replace BK105 := bB BK105 hb; replace HB := bS hb; (try clear hb); (try clear hb2); (try clear hk); (try clear hi); refine hK.out _ _ ⟨(blk_cell BK105.out 0).trans rfl, (blk_cell BK105.out 1).trans rfl⟩ (fun hHeld => ?_)
           clear hK K; refine norm_ (a' := ?_) ?_ ?_
           rotate_left
           · show Act.put _ (some 14) _ = _
             simp only [Act.put, sa, sb, sc, i64_w, i32_w]
             rfl
           refine pure_ (i := 2) (N := some 15) (v := ?_) (a' := ?_) #[true, true, true, false, false, false, false, false, false, false, false, false, false, false, false, false, false, false, false] rfl rfl (any_of HT_.out (by kernel_rfl)) (fun _ _ _ h => h) (Or.inl ⟨by rfl, ?_⟩) ?_ ?_
           rotate_left
           · intro w'; go_simp
             with_reducible rfl
           rotate_left
           · simp only [Act.put, sa, sb, sc, i64_w, i32_w]
             rfl
           refine pure_ (i := 3) (N := some 16) (v := ?_) (a' := ?_) #[true, true, true, true, false, false, false, false, false, false, false, false, false, false, false, false, false, false, false] rfl rfl (any_of HT_.out (by kernel_rfl)) (fun _ _ _ h => h) (Or.inl ⟨by rfl, ?_⟩) ?_ ?_
           rotate_left
           · intro w'; go_simp
             with_reducible rfl
           rotate_left
           · simp only [Act.put, sa, sb, sc, i64_w, i32_w]
             rfl
           refine pure_ (i := 4) (N := some 17) (v := undef) (a' := ?_) #[true, true, true, true, true, false, false, false, false, false, false, false, false, false, false, false, false, false, false] rfl rfl (any_of HT_.out (by kernel_rfl)) (fun _ _ _ h => h) (Or.inr ⟨by rfl, rfl⟩) ?_ ?_
           rotate_left
           · simp only [Act.put, sa, sb, sc, i64_w, i32_w]
             rfl
           refine pure_ (i := 5) (N := some 18) (v := undef) (a' := ?_) #[true, true, true, true, true, true, false, false, false, false, false, false, false, false, false, false, false, false, false] rfl rfl (any_of HT_.out (by kernel_rfl)) (fun _ _ _ h => h) (Or.inr ⟨by rfl, rfl⟩) ?_ ?_
           rotate_left
           · simp only [Act.put, sa, sb, sc, i64_w, i32_w]
             rfl
           refine pure_ (i := 6) (N := some 19) (v := undef) (a' := ?_) #[true, true, true, true, true, true, true, false, false, false, false, false, false, false, false, false, false, false, false] rfl rfl (any_of HT_.out (by kernel_rfl)) (fun _ _ _ h => h) (Or.inr ⟨by rfl, rfl⟩) ?_ ?_
           rotate_left
           · simp only [Act.put, sa, sb, sc, i64_w, i32_w]
             rfl
           refine pure_ (i := 7) (N := some 20) (v := undef) (a' := ?_) #[true, true, true, true, true, true, true, true, false, false, false, false, false, false, false, false, false, false, false] rfl rfl (any_of HT_.out (by kernel_rfl)) (fun _ _ _ h => h) (Or.inr ⟨by rfl, rfl⟩) ?_ ?_
           rotate_left
           · simp only [Act.put, sa, sb, sc, i64_w, i32_w]
             rfl
           refine pure_ (i := 8) (N := some 21) (v := undef) (a' := ?_) #[true, true, true, true, true, true, true, true, true, false, false, false, false, false, false, false, false, false, false] rfl rfl (any_of HT_.out (by kernel_rfl)) (fun _ _ _ h => h) (Or.inr ⟨by rfl, rfl⟩) ?_ ?_
           rotate_left
           · simp only [Act.put, sa, sb, sc, i64_w, i32_w]
             rfl
           refine pure_ (i := 9) (N := some 22) (v := undef) (a' := ?_) #[true, true, true, true, true, true, true, true, true, true, false, false, false, false, false, false, false, false, false] rfl rfl (any_of HT_.out (by kernel_rfl)) (fun _ _ _ h => h) (Or.inr ⟨by rfl, rfl⟩) ?_ ?_
           rotate_left
           · simp only [Act.put, sa, sb, sc, i64_w, i32_w]
             rfl
           refine pure_ (i := 10) (N := some 23) (v := undef) (a' := ?_) #[true, true, true, true, true, true, true, true, true, true, true, false, false, false, false, false, false, false, false] rfl rfl (any_of HT_.out (by kernel_rfl)) (fun _ _ _ h => h) (Or.inr ⟨by rfl, rfl⟩) ?_ ?_
           rotate_left
           · simp only [Act.put, sa, sb, sc, i64_w, i32_w]
             rfl
           refine pure_ (i := 11) (N := some 24) (v := undef) (a' := ?_) #[true, true, true, true, true, true, true, true, true, true, true, true, false, false, false, false, false, false, false] rfl rfl (any_of HT_.out (by kernel_rfl)) (fun _ _ _ h => h) (Or.inr ⟨by rfl, rfl⟩) ?_ ?_
           rotate_left
           · simp only [Act.put, sa, sb, sc, i64_w, i32_w]
             rfl
           refine pure_ (i := 12) (N := some 25) (v := undef) (a' := ?_) #[true, true, true, true, true, true, true, true, true, true, true, true, true, false, false, false, false, false, false] rfl rfl (any_of HT_.out (by kernel_rfl)) (fun _ _ _ h => h) (Or.inr ⟨by rfl, rfl⟩) ?_ ?_
           rotate_left
           · simp only [Act.put, sa, sb, sc, i64_w, i32_w]
             rfl
           refine pure_ (i := 13) (N := some 26) (v := undef) (a' := ?_) #[true, true, true, true, true, true, true, true, true, true, true, true, true, true, false, false, false, false, false] rfl rfl (any_of HT_.out (by kernel_rfl)) (fun _ _ _ h => h) (Or.inr ⟨by rfl, rfl⟩) ?_ ?_
           rotate_left
           · simp only [Act.put, sa, sb, sc, i64_w, i32_w]
             rfl
           refine pure_ (i := 14) (N := some 27) (v := undef) (a' := ?_) #[true, true, true, true, true, true, true, true, true, true, true, true, true, true, true, false, false, false, false] rfl rfl (any_of HT_.out (by kernel_rfl)) (fun _ _ _ h => h) (Or.inr ⟨by rfl, rfl⟩) ?_ ?_
           rotate_left
           · simp only [Act.put, sa, sb, sc, i64_w, i32_w]
             rfl
           refine pure_ (i := 15) (N := some 28) (v := undef) (a' := ?_) #[true, true, true, true, true, true, true, true, true, true, true, true, true, true, true, true, false, false, false] rfl rfl (any_of HT_.out (by kernel_rfl)) (fun _ _ _ h => h) (Or.inr ⟨by rfl, rfl⟩) ?_ ?_
           rotate_left
           · simp only [Act.put, sa, sb, sc, i64_w, i32_w]
             rfl
           refine pure_ (i := 16) (N := some 29) (v := undef) (a' := ?_) #[true, true, true, true, true, true, true, true, true, true, true, true, true, true, true, true, true, false, false] rfl rfl (any_of HT_.out (by kernel_rfl)) (fun _ _ _ h => h) (Or.inr ⟨by rfl, rfl⟩) ?_ ?_
           rotate_left
           · simp only [Act.put, sa, sb, sc, i64_w, i32_w]
             rfl
           refine pure_ (i := 17) (N := some 30) (v := undef) (a' := ?_) #[true, true, true, true, true, true, true, true, true, true, true, true, true, true, true, true, true, true, false] rfl rfl (any_of HT_.out (by kernel_rfl)) (fun _ _ _ h => h) (Or.inr ⟨by rfl, rfl⟩) ?_ ?_
           rotate_left
           · simp only [Act.put, sa, sb, sc, i64_w, i32_w]
             rfl
           refine pure_ (i := 18) (N := some 31) (v := ?_) (a' := ?_) #[true, true, true, true, true, true, true, true, true, true, true, true, true, true, true, true, true, true, true] rfl rfl (any_of HT_.out (by kernel_rfl)) (fun _ _ _ h => h) (Or.inl ⟨by rfl, ?_⟩) ?_ ?_
           rotate_left
           · intro w'; go_simp
             with_reducible rfl
           rotate_left
           · simp only [Act.put, sa, sb, sc, i64_w, i32_w]
             rfl
           refine done_ (done_of HT_.out (by kernel_rfl)) ?_
           try go_wp2
           go_ret
           exact ⟨by first | rfl | (simp [errW_none, errW_some] <;> rfl) | (simp [*, errW_none, errW_some] <;> rfl) | (simp [wrap64]; done) | (simp [*, wrap64]; done), belA⟩
       · rw [if_neg c6] at H; exact absurd H (by simp)
     · rw [if_neg c5] at H; exact absurd H (by simp)
   · rw [if_neg c4] at H; have c4b0 := decide_eq_false c4; clear c4; obtain rfl := Option.some.inj H; obtain ⟨hcz38_0, hfz38_0⟩ := cel1 BK103; go_wp2
     go_ret
     exact ⟨by first | rfl | (simp [errW_none, errW_some] <;> rfl) | (simp [*, errW_none, errW_some] <;> rfl) | (simp [wrap64]; done) | (simp [*, wrap64]; done), belA⟩

end Go.Proofs.Ytbojabmpcfclhaa.PFnLineOrder
