-- Written by a program of this session (the print of the kit with contracts of this session's own added)
import Derived.Test.YtogdhclomgafdaaZFJBx5
import Derived.Test.YtogdhclomgafdaaZFJBx6
set_option maxHeartbeats 8000000
set_option maxRecDepth 100000
namespace Go.Proofs.Ytogdhclomgafdaa.PFnJobBytes
open Go.RowKit Go.Proofs.YtogdhclomgafdaaW.PrintWords Go.Proofs.YtogdhclomgafdaaW.PrintLast Go.Proofs.YtogdhclomgafdaaW.PrintMore Go.Proofs.YtogdhclomgafdaaW.PrintPack Go.Proofs.YtogdhclomgafdaaW.PrintPack
set_option linter.unusedVariables false
set_option linter.unusedSimpArgs false

mutual
def spec_EncodeWord.j0 : Nat → Int → List Int → List Int → List Int → Bool → Option (List Int)
 | 0, _, _, _, _, _ => none
 | k + 1, x0, x1, x2, x7, x21 => if x21 = true then (some ([] : List Int)) else (spec_EncodeWord.l0 k x0 x1 x2 x7 0)
def spec_EncodeWord.l0 : Nat → Int → List Int → List Int → List Int → Int → Option (List Int)
 | 0, _, _, _, _, _ => none
 | k + 1, x0, x1, x2, x7, x8 => if x8 < (x1.length : Int) then ((spec_l03Cut.f k x2).bind fun t301 => (if 0 ≤ x8 then ((spec_EvalPoly.f k x0 t301 (rd x1 x8)).bind fun t305 => (if x7.length < 17592186044416 then (spec_EncodeWord.l0 k x0 x1 x2 (x7 ++ [t305]) (wrap64 (x8 + 1))) else (none))) else (none))) else (some x7)
end
def spec_EncodeWord.f (k : Nat) (a0 : Int) (l1 : List Int) (l2 : List Int) : Option (List Int) := (some (([] : List Int) : List Int)).bind fun y296 => ((spec_l07Code.f k a0 l1 (l2.length : Int)).bind fun t299 => (if t299 = true then ((spec_l03Elements.f k a0 l2).bind fun t300 => (spec_EncodeWord.j0 k a0 l1 l2 y296 (!t300))) else (spec_EncodeWord.j0 k a0 l1 l2 y296 true)))
theorem spec_EncodeWord.mono_l : ∀ k, (∀ y0 y1 y2 y3 y4, LeO (spec_EncodeWord.j0 k y0 y1 y2 y3 y4) (spec_EncodeWord.j0 (k + 1) y0 y1 y2 y3 y4)) ∧ (∀ y0 y1 y2 y3 y4, LeO (spec_EncodeWord.l0 k y0 y1 y2 y3 y4) (spec_EncodeWord.l0 (k + 1) y0 y1 y2 y3 y4))
 | 0 => ⟨fun _ _ _ _ _ r h => by simp [spec_EncodeWord.j0] at h, fun _ _ _ _ _ r h => by simp [spec_EncodeWord.l0] at h⟩
 | k + 1 => by
  obtain ⟨ih0, ih1⟩ := spec_EncodeWord.mono_l k; refine ⟨?_, ?_⟩
  · intro y0 y1 y2 y3 y4; unfold spec_EncodeWord.j0; exact xq71
  · intro y0 y1 y2 y3 y4; unfold spec_EncodeWord.l0; exact xq71
theorem spec_EncodeWord.mono : ∀ a0 a1 a2 k, LeO (spec_EncodeWord.f k a0 a1 a2) (spec_EncodeWord.f (k + 1) a0 a1 a2) := by
 intro a0 a1 a2 k; obtain ⟨ih0, ih1⟩ := spec_EncodeWord.mono_l k
 unfold spec_EncodeWord.f
 exact xq71
def spec_EncodeWord.T7 : Bool × List (List Nat × List Nat) := (true, [([], []), ([], []), ([], []), ([2], [2]), ([], []), ([], []), ([4, 5], [4, 5]), ([6], [6]), ([1, 3, 7, 3], [1, 3, 7]), ([8], [8]), ([0, 9, 8], [0, 9]), ([10, 10, 0, 1, 2, 3, 4, 5, 6, 7, 8, 9, 10], [0, 10])])
def spec_EncodeWord.B7 : List Nat := [0, 0, 0, 4, 0, 0, 48, 112, 254, 510, 1023, 2047]
theorem spec_EncodeWord.tab7 : rtab .any (opsOf Try.f136 7) = spec_EncodeWord.T7 := by kernel_rfl
theorem spec_EncodeWord.bits7 : waitsOk spec_EncodeWord.T7.2 spec_EncodeWord.B7 = true := by kernel_rfl
theorem spec_EncodeWord.calls (k : Nat) (a0 : Int) (A1 : Option Addr) (c1 : Nat) (l1 : List Int) (A2 : Option Addr) (c2 : Nat) (l2 : List Int) (r : List Int) (w : World) (hr1 : Kd.C (Kd.int .i64) w A1 l1.length l1) (hc1 : l1.length ≤ c1) (hr2 : Kd.C (Kd.int .i64) w A2 l2.length l2) (hc2 : l2.length ≤ c2) (h : spec_EncodeWord.f k a0 l1 l2 = some r) :
 Calls Try.prog 136 #[.int .i64 a0, .slice A1 l1.length c1, .slice A2 l2.length c2] w fun e w' => ∃ v0_ : Value, e = .returned (v0_) ∧ Kd.R (Kd.int .i64) 3 w' w.heap.size (fun _ => True) v0_ r ∧ Below w.heap.size w w' := by
 have HR1 := ak hr1; have HC1 := ak hc1; clear hr1 hc1; have HR2 := ak hr2; have HC2 := ak hc2; clear hr2 hc2; have HB := ak (Below.refl w.heap.size w); have H : ((some (([] : List Int) : List Int)).bind fun y296 => ((spec_l07Code.f k a0 l1 (l2.length : Int)).bind fun t299 => (if t299 = true then ((spec_l03Elements.f k a0 l2).bind fun t300 => (spec_EncodeWord.j0 k a0 l1 l2 y296 (!t300))) else (spec_EncodeWord.j0 k a0 l1 l2 y296 true)))) = some r := h; clear h; obtain ⟨y296, hyq⟩ : ∃ y_ : List Int, y_ = (([] : List Int)) := ⟨_, rfl⟩; replace H : ((spec_l07Code.f k a0 l1 (l2.length : Int)).bind fun t299 => (if t299 = true then ((spec_l03Elements.f k a0 l2).bind fun t300 => (spec_EncodeWord.j0 k a0 l1 l2 y296 (!t300))) else (spec_EncodeWord.j0 k a0 l1 l2 y296 true))) = some r := by first | (rw [hyq]; with_reducible exact H) | (have H2_ := (Option.bind_some _ _).symm.trans H; rw [hyq]; with_reducible exact H2_) | (have H2_ := (Option.bind_some _ _).symm.trans H; with_reducible exact H2_) | with_reducible exact H | (rw [hyq]; exact H) | exact H
 have Ny296 := ak hyq; clear hyq; have HC4 := ak H; clear H; go_enter Try.func136, Try.ntmps136
 go_upto_region 2 with (first | ((with_reducible refine gate_dst (N := 9) rfl ?_); refine Kd.R_lit (Kd.int .i64) _ 3 ?hg (N := 9) ?hd (xs := ([] : List Int)) (inner := []) (ok := fun _ => True) (okp := fun _ => True) ?hr ?hp (fun _ hk => hk) trivial (Below.refl _ _) (Nat.le_refl _) (by simp) ?_; (case hd => rfl); (case hg => rfl); (case hr => exact xq11); (case hp => exact (Reps.none _ _)); intro v297 w5 ho6 hb hg_ hnew_; clear hg_ hnew_; (first | rw [← Ny296.out] at ho6 | (simp only [Int.reduceToNat] at ho6; rw [← Ny296.out] at ho6)); have HO298 := rL ho6; replace HB := bS hb; clear hb ho6))
 (try simp only [Act.put, sa, sb, sc])
 go_cut [21] (fun v21 wc => ∃ (kq : Nat) (x21_3 : Bool), v21 = .bool x21_3 ∧ Aside0 (spec_EncodeWord.j0 kq a0 l1 l2 y296 x21_3 = some r) ∧ Aside0 (kq ≤ k) ∧ Aside0 (Kd.R (Kd.int .i64) 3 wc w.heap.size (fun _ => True) v297 y296) ∧ Aside0 (Below w.heap.size w wc))
 case first =>
  have H := HC4.out; clear HC4; replace H := Option.bind_eq_some_iff.mp H; obtain ⟨t299, A70, H⟩ := H; (try dsimp only at H); have A7 := ak A70; clear A70
  by_cases c8 : t299 = true; rotate_left
  · replace c8 := Bool.eq_false_iff.mpr c8; subst c8; have H1 : (spec_EncodeWord.j0 k a0 l1 l2 y296 true) = some r := by rw [if_neg (show ¬ (false = true) by decide)] at H; exact H
    clear H; have H := H1; clear H1; have H' := ak H; clear H; go_wp2_with (first | ((with_reducible refine gate_callee (f := 137) rfl ?_); refine goB 14 Try.func137 #[.int .i64 a0, .slice A1 l1.length c1, .int .i64 (l2.length : Int)] rfl ?_; (with_reducible refine (spec_l07Code.calls k a0 _ _ l1 (l2.length : Int) false _ ?side1 ?side2 A7.out).mono ?_); (case side1 => exact cA (Kd.C_below HR1.out HB.out)); (case side2 => exact HC1.out); rintro e w' ⟨rfl, ⟨nd, rfl⟩⟩; refine ⟨_, rfl, ?_⟩))
    go_meet
    case rel => exact ⟨_, (true), eqA, H', ⟨xq12⟩, ⟨rA HO298⟩, ⟨belA⟩⟩
  subst c8; have H1 : ((spec_l03Elements.f k a0 l2).bind fun t300 => (spec_EncodeWord.j0 k a0 l1 l2 y296 (!t300))) = some r := by rw [if_pos rfl] at H; exact H
  clear H; have H := H1; clear H1; replace H := Option.bind_eq_some_iff.mp H; obtain ⟨t300, A90, H⟩ := H; (try dsimp only at H); have A9 := ak A90; clear A90; have H' := ak H; clear H; go_wp2_with (first | ((with_reducible refine gate_callee (f := 137) rfl ?_); refine goB 14 Try.func137 #[.int .i64 a0, .slice A1 l1.length c1, .int .i64 (l2.length : Int)] rfl ?_; (with_reducible refine (spec_l07Code.calls k a0 _ _ l1 (l2.length : Int) true _ ?side1 ?side2 A7.out).mono ?_); (case side1 => exact cA (Kd.C_below HR1.out HB.out)); (case side2 => exact HC1.out); rintro e w' ⟨rfl, ⟨nd, rfl⟩⟩; refine ⟨_, rfl, ?_⟩) | (go_at_call 138; (with_reducible refine (spec_l03Elements.calls k a0 _ _ l2 t300 _ ?side1 ?side2 A9.out).mono ?_); (case side1 => exact cA (Kd.C_below HR2.out belA)); (case side2 => exact HC2.out); rintro e w' ⟨rfl, ⟨nd, rfl⟩⟩))
  go_meet
  case rel => exact ⟨_, (!t300), eqA, H', ⟨xq12⟩, ⟨rA HO298⟩, ⟨belA⟩⟩
 case rest =>
  clear HC4; obtain ⟨kq, x21_3, rfl, HA, HJ3, HO_7, HB⟩ := hcut
  cases kq with
  | zero => exact absurd HA.out (by simp [spec_EncodeWord.j0])
  | succ kj3 =>
   have H := HA.out; clear HA; simp only [spec_EncodeWord.j0] at H
   by_cases c10 : x21_3 = true
   · subst c10; have H1 : (some ([] : List Int)) = some r := by rw [if_pos rfl] at H; exact H
     clear H; have H := H1; clear H1; obtain rfl := Option.some.inj H; go_wp2
     go_ret
     exact ⟨_, xq6, xq16, belA⟩
   replace c10 := Bool.eq_false_iff.mpr c10; subst c10; have H1 : (spec_EncodeWord.l0 kj3 a0 l1 l2 y296 0) = some r := by rw [if_neg (show ¬ (false = true) by decide)] at H; exact H
   clear H; have H := H1; clear H1; have H' := ak H; clear H; go_wp2
   go_loopg [7, 8] kj3 (fun kq v7 v8 w' => ∃ (x7_2 : List Int) (x8_2 : Int), v8 = .int .i64 x8_2 ∧ Aside0 (spec_EncodeWord.l0 kq a0 l1 l2 x7_2 x8_2 = some r) ∧ Aside0 (kq ≤ kj3) ∧ Aside0 (Kd.R (Kd.int .i64) 3 w' w.heap.size (fun _ => True) v7 x7_2) ∧ Aside0 (Below w.heap.size w w'))
   case atStart => exact ⟨(y296), (0), eqA, H', ⟨Nat.le_refl _⟩, ⟨rA HO_7⟩, ⟨belA⟩⟩
   case round =>
    clear H'; obtain ⟨x7_2, x8_2, rfl, HA, HK2, HO_7, HB⟩ := hrel
    cases gk with
    | zero => exact absurd HA.out (by simp [spec_EncodeWord.l0])
    | succ k2 =>
     have H := HA.out; clear HA; simp only [spec_EncodeWord.l0] at H
     by_cases c11 : x8_2 < (l1.length : Int); rotate_left
     · rw [if_neg c11] at H; have c11b0 := decide_eq_false c11; clear c11; obtain rfl := Option.some.inj H; go_wp2
       go_ret
       exact ⟨_, xq6, xq48, belA⟩
     rw [if_pos c11] at H; have c11b0 := decide_eq_true c11; clear c11; replace H := Option.bind_eq_some_iff.mp H; obtain ⟨t301, A120, H⟩ := H; (try dsimp only at H); have A12 := ak A120; clear A120
     by_cases c13 : 0 ≤ x8_2; rotate_left
     · rw [if_neg c13] at H; exact absurd H (by simp)
     rw [if_pos c13] at H; have c13b0 := decide_eq_true c13; clear c13; replace H := Option.bind_eq_some_iff.mp H; obtain ⟨t305, A140, H⟩ := H; (try dsimp only at H); have A14 := ak A140; clear A140
     by_cases c15 : x7_2.length < 17592186044416; rotate_left
     · rw [if_neg c15] at H; exact absurd H (by simp)
     rw [if_pos c15] at H; have LMc15 := ak c15; clear c15; obtain ⟨y306, hyq⟩ : ∃ y_ : List Int, y_ = (x7_2 ++ [t305]) := ⟨_, rfl⟩; replace H : (spec_EncodeWord.l0 k2 a0 l1 l2 y306 (wrap64 (x8_2 + 1))) = some r := by first | (rw [hyq]; with_reducible exact H) | (have H2_ := (Option.bind_some _ _).symm.trans H; rw [hyq]; with_reducible exact H2_) | (have H2_ := (Option.bind_some _ _).symm.trans H; with_reducible exact H2_) | with_reducible exact H | (rw [hyq]; exact H) | exact H
     have Ny306 := ak hyq; clear hyq; have H' := ak H; clear H; try go_wp2
     replace HO_7 := ak (Kd.R_drew HO_7.out); replace HB := ak (below_drew1 HB.out); have p304 : 0 ≤ (x8_2 : Int) := odA; have q304 : x8_2 < (l1.length : Int) := odA; obtain ⟨ad304, e304, hx304_0⟩ := Kd.at_int HR1.out x8_2 p304 q304; have hw304_0 := hx304_0
     cases e304
     try replace hx304_0 := cB HB hx304_0
     replace p304 := eq_true p304; replace q304 := eq_true q304; refine start_ (n := 12) (S := fun w' => w'.cell? (ad304.add (x8_2).toNat) = some (.int .i64 (rd l1 x8_2))) (ds := []) #[false, false, false, false, false, false, false, false, false, false, false, false] (by kernel_rfl) rfl rfl (((HB.out.cell (World.block_lt_of_cell? w _ hw304_0)).trans hw304_0)) (fun hHeld => ?_); refine with_tabW spec_EncodeWord.tab7 spec_EncodeWord.bits7 (fun HT_ HW_ => ?_)
     generalize wr.drew = w16 at HO_7 HB hx304_0 hHeld ⊢
     refine pure_ (i := 0) (N := some 28) (v := ?_) (a' := ?_) #[true, false, false, false, false, false, false, false, false, false, false, false] rfl rfl (any_of HT_.out (by kernel_rfl)) (fun _ _ _ h => h) (Or.inl ⟨by rfl, ?_⟩) ?_ ?_
     rotate_left
     · intro w'; go_simp
       with_reducible rfl
     rotate_left
     · simp only [Act.put, sa, sb, sc, i64_w, i32_w]
       rfl
     refine pure_ (i := 1) (N := some 29) (v := ?_) (a' := ?_) #[true, true, false, false, false, false, false, false, false, false, false, false] rfl rfl (any_of HT_.out (by kernel_rfl)) (fun _ _ _ h => h) (Or.inl ⟨by rfl, ?_⟩) ?_ ?_
     rotate_left
     · intro w'; go_simp
       with_reducible rfl
     rotate_left
     · simp only [Act.put, sa, sb, sc, i64_w, i32_w]
       rfl
     refine pure_ (i := 2) (N := some 30) (v := ?_) (a' := ?_) #[true, true, true, false, false, false, false, false, false, false, false, false] rfl rfl (any_of HT_.out (by kernel_rfl)) (fun _ _ _ h => h) (Or.inl ⟨by rfl, ?_⟩) ?_ ?_
     rotate_left
     · intro w'; go_simp
       with_reducible rfl
     rotate_left
     · simp only [Act.put, sa, sb, sc, i64_w, i32_w]
       rfl
     refine pure_ (i := 4) (N := some 32) (v := ?_) (a' := ?_) #[true, true, true, false, true, false, false, false, false, false, false, false] rfl rfl (any_of HT_.out (by kernel_rfl)) (fun _ _ _ h => h) (Or.inl ⟨by rfl, ?_⟩) ?_ ?_
     rotate_left
     · intro w'; go_simp
       with_reducible rfl
     rotate_left
     · simp only [Act.put, sa, sb, sc, i64_w, i32_w]
       rfl
     refine pure_ (i := 5) (N := some 33) (v := ?_) (a' := ?_) #[true, true, true, false, true, true, false, false, false, false, false, false] rfl rfl (any_of HT_.out (by kernel_rfl)) (fun _ _ _ h => h) (Or.inl ⟨by rfl, ?_⟩) ?_ ?_
     rotate_left
     · intro w'; go_simp
       with_reducible rfl
     rotate_left
     · simp only [Act.put, sa, sb, sc, i64_w, i32_w]
       rfl
     refine pure_ (i := 6) (N := some 34) (v := ?_) (a' := ?_) #[true, true, true, false, true, true, true, false, false, false, false, false] rfl rfl (any_of HT_.out (by kernel_rfl)) (fun _ _ _ h => h) (Or.inl ⟨by rfl, ?_⟩) ?_ ?_
     rotate_left
     · intro w'; go_simp
       with_reducible rfl
     rotate_left
     · simp only [Act.put, sa, sb, sc, i64_w, i32_w]
       rfl
     refine take_ (i := 7) (N := some 35) (v := ?_) (a' := ?_) #[true, true, true, false, true, true, true, true, false, false, false, false] rfl rfl (take_ofW HT_.out HW_.out (by kernel_rfl)) (fun _ _ _ h => h) (Or.inl ⟨by rfl, ?_⟩) hHeld ?_ ?_
     rotate_left
     · intro w' s0; go_simp
       with_reducible rfl
     rotate_left
     · simp only [Act.put, sa, sb, sc, i64_w, i32_w]
       rfl
     refine one_ (i := 3) (N := some 31) #[true, true, true, true, true, true, true, true, false, false, false, false] rfl rfl (one_of HT_.out (by kernel_rfl)) (by decide) (fun K hK => ?_)
     refine goes_ Try.func128 (by kernel_rfl) rfl #[.slice A2 l2.length c2] (by rfl) rfl rfl xq29 ?_
     with_reducible refine (spec_l03Cut.calls k2 _ _ l2 t301 _ ?side1 ?side2 A12.out).mono ?_
     (case side1 => exact cA (Kd.C_below HR2.out HB.out))
     (case side2 => exact HC2.out)
     rintro e w17 ⟨v302, rfl, ho0, hb⟩
     refine ⟨_, rfl, ?_⟩
     have HO303 := rL (Kd.R_new' ho0 (Kd.R_lt (rF HO_7))); replace HO_7 := ak (Kd.R_elder' (rF HO_7) (Kd.R_base ho0) hb); replace HB := bS hb; (try clear hb ho0); obtain ⟨Ao18, co18, eo18⟩ := Kd.R_slice HO303.out; (first | subst eo18 | (injection eo18 with f1_ f2_ f3_; have f4_ := f1_.symm; have f5_ := f3_.symm; clear f1_ f2_ f3_; subst f4_; subst f5_))
     refine hK.out _ _ (((HB.out.cell (World.block_lt_of_cell? w _ hw304_0)).trans hw304_0)) (fun hHeld => ?_)
     clear hK K; refine norm_ (a' := ?_) ?_ ?_
     rotate_left
     · show Act.put _ (some 31) _ = _
       simp only [Act.put, sa, sb, sc, i64_w, i32_w]
       rfl
     refine one_ (i := 8) (N := some 36) #[true, true, true, true, true, true, true, true, true, false, false, false] rfl rfl (one_of HT_.out (by kernel_rfl)) (by decide) (fun K hK => ?_)
     refine goes_ Try.func139 (by kernel_rfl) rfl #[.int .i64 a0, .slice Ao18 t301.length co18, .int .i64 (rd l1 x8_2)] (by rfl) rfl rfl xq29 ?_
     with_reducible refine (spec_EvalPoly.calls k2 a0 _ _ t301 (rd l1 x8_2) t305 _ ?side1 ?side2 A14.out).mono ?_
     (case side1 => exact cA ((Kd.R_reads' HO303.out).2.2))
     (case side2 => exact (Kd.R_reads' HO303.out).2.1)
     rintro e w' ⟨rfl, ⟨nd, rfl⟩⟩
     refine ⟨_, rfl, ?_⟩
     refine hK.out _ _ (((HB.out.cell (World.block_lt_of_cell? w _ hw304_0)).trans hw304_0)) (fun hHeld => ?_)
     clear hK K; refine norm_ (a' := ?_) ?_ ?_
     rotate_left
     · show Act.put _ (some 36) _ = _
       simp only [Act.put, sa, sb, sc, i64_w, i32_w]
       rfl
     refine one_ (i := 9) (N := some 37) #[true, true, true, true, true, true, true, true, true, true, false, false] rfl rfl (one_of HT_.out (by kernel_rfl)) (by decide) (fun K hK => ?_)
     refine value_ (w1 := ?_) (v := ?_) (by rfl) rfl ?_ ?_
     rotate_left 2
     · go_simp
       constructor
       · rfl
       · rfl
     refine hK.out _ _ ((World.cell?_alloc_lt _ _ _ (World.block_lt_of_cell? _ _ (((HB.out.cell (World.block_lt_of_cell? w _ hw304_0)).trans hw304_0)))).trans (((HB.out.cell (World.block_lt_of_cell? w _ hw304_0)).trans hw304_0))) (fun hHeld => ?_)
     clear hK K; refine norm_ (a' := ?_) ?_ ?_
     rotate_left
     · show Act.put _ (some 37) _ = _
       simp only [Act.put, sa, sb, sc, i64_w, i32_w]
       rfl
     refine one_ (i := 10) (N := some 38) #[true, true, true, true, true, true, true, true, true, true, true, false] rfl rfl (one_of HT_.out (by kernel_rfl)) (by decide) (fun K hK => ?_)
     refine Kd.R_append_step (Kd.int .i64) (w0 := w) w.heap.size (by rfl) (.tmp 28) (.tmp 37) 33 3 (.int .i64 0) 8 rfl Try.underlying33 info3 rfl (by decide) (by omega) u7 x7_2 t305 [.int .i64 t305] (fun k_ => some k_ ≠ (.slice Ao18 t301.length co18 : Value).ownBlock) (fun _ => False) rfl rfl ?aP (fun _ hk => hk.elim) ?aF ?aO ?aB ?aS ?aL ?_
     (case aP => exact rfl)
     (case aB => exact belA)
     (case aF => exact (fun k_ hk => Kd.fresh' (Kd.R_lt (rF HO303)) k_ hk))
     (case aO => exact (rE (Kd.R_mono HO_7.out (fun _ hk => hk.2))))
     (case aS => exact (below_size belA))
     (case aL => have := LMc15.out; omega)
     intro v307 w19 ho hb hg hat; rw [← Ny306.out] at ho; have HO308 := ak ho; replace HO303 := ak (Kd.R_after (ok := (fun _ => True)) (rF HO303) hg hat); replace HB := ak hb; clear HO_7; clear ho hb hg hat; refine hK.out _ _ (((HB.out.cell (World.block_lt_of_cell? w _ hw304_0)).trans hw304_0)) (fun hHeld => ?_)
     clear hK K; refine norm_ (a' := ?_) ?_ ?_
     rotate_left
     · show Act.put _ (some 38) _ = _
       simp only [Act.put, sa, sb, sc, i64_w, i32_w]
       rfl
     refine pure_ (i := 11) (N := some 7) (v := ?_) (a' := ?_) #[true, true, true, true, true, true, true, true, true, true, true, true] rfl rfl (any_of HT_.out (by kernel_rfl)) (fun _ _ _ h => h) (Or.inl ⟨by rfl, ?_⟩) ?_ ?_
     rotate_left
     · intro w'; go_simp
       with_reducible rfl
     rotate_left
     · simp only [Act.put, sa, sb, sc, i64_w, i32_w]
       rfl
     refine done_ (done_of HT_.out (by kernel_rfl)) ?_
     try go_wp2
     go_roundg k2
     case measure => have := HJ3.out; have := HK2.out; omega
     case rel => exact ⟨(y306), (wrap64 (x8_2 + 1)), eqA, H', ⟨by have := HJ3.out; have := HK2.out; omega⟩, ⟨rE (Kd.R_mono HO308.out (fun _ hk => trivial))⟩, ⟨belA⟩⟩

mutual
def spec_l07DrawWord.j0 : Nat → Int → List Int → Int → List Int → Int → Int → Option (Int × List Int × List Int × Int × List Int × Int × Int)
 | 0, _, _, _, _, _, _ => none
 | k + 1, x7, x8, x9, x1000, x1001, x1002 => (spec_l01DrawList.f k x1000 x1001 x1002 x7 x9).bind fun bt329 => ((spec_EncodeWord.f k x7 x8 bt329.1).bind fun t334 => (if (t334.length : Int) = 0 then ((spec_l01DrawList.f k x1000 bt329.2.1 bt329.2.2 x7 (x8.length : Int)).bind fun bt337 => (spec_l07DrawWord.j1 k x7 x8 x9 bt329.1 bt337.1 x1000 bt337.2.1 bt337.2.2)) else (spec_l07DrawWord.j1 k x7 x8 x9 bt329.1 t334 x1000 bt329.2.1 bt329.2.2)))
def spec_l07DrawWord.j1 : Nat → Int → List Int → Int → List Int → List Int → List Int → Int → Int → Option (Int × List Int × List Int × Int × List Int × Int × Int)
 | 0, _, _, _, _, _, _, _, _ => none
 | k + 1, x7, x8, x9, x10, x11, x1000, x1001, x1002 => (spec_l01Below.f x1000 x1001 x1002 (wrap64 ((wrap64 (Int.tdiv (wrap64 ((x8.length : Int) - x9)) 2)) + 2))).bind fun bt342 => ((spec_l01Once.f x1000 bt342.2.1 bt342.2.2 5).bind fun bt345 => (if bt345.1 = true then ((spec_l01Below.f x1000 bt345.2.1 bt345.2.2 (wrap64 ((x8.length : Int) + 1))).bind fun bt348 => (spec_l07DrawWord.j2 k x7 x8 x9 x10 x11 bt348.1 x1000 bt348.2.1 bt348.2.2)) else (spec_l07DrawWord.j2 k x7 x8 x9 x10 x11 bt342.1 x1000 bt345.2.1 bt345.2.2)))
def spec_l07DrawWord.j2 : Nat → Int → List Int → Int → List Int → List Int → Int → List Int → Int → Int → Option (Int × List Int × List Int × Int × List Int × Int × Int)
 | 0, _, _, _, _, _, _, _, _, _ => none
 | k + 1, x7, x8, x9, x10, x11, x12, x1000, x1001, x1002 => spec_l07DrawWord.l0 k x7 x8 x9 x10 x11 x12 0 x1000 x1001 x1002
def spec_l07DrawWord.l0 : Nat → Int → List Int → Int → List Int → List Int → Int → Int → List Int → Int → Int → Option (Int × List Int × List Int × Int × List Int × Int × Int)
 | 0, _, _, _, _, _, _, _, _, _, _ => none
 | k + 1, x7, x8, x9, x10, x11, x12, x13, x1000, x1001, x1002 => if x13 < x12 then ((spec_l01Below.f x1000 x1001 x1002 (x11.length : Int)).bind fun bt351 => ((spec_l01DrawElement.f x1000 bt351.2.1 bt351.2.2 x7).bind fun bt354 => (if 0 ≤ bt351.1 then (if bt351.1 < (x11.length : Int) then (spec_l07DrawWord.l0 k x7 x8 x9 x10 (x11.set (bt351.1 : Int).toNat bt354.1) x12 (wrap64 (x13 + 1)) x1000 bt354.2.1 bt354.2.2) else (none)) else (none)))) else (some (x7, x8, x11, x9, x10, x1001, x1002))
end
def spec_l07DrawWord.f (k : Nat) (s0_0 : List Int) (s0_1 : Int) (s0_2 : Int) : Option (Int × List Int × List Int × Int × List Int × Int × Int) := (spec_l01DrawField.f s0_0 s0_1 s0_2).bind fun bt309 => ((spec_l01Below.f s0_0 bt309.2.1 bt309.2.2 8).bind fun bt312 => ((spec_l07DrawPoints.f k s0_0 bt312.2.1 bt312.2.2 bt309.1 (wrap64 (3 + bt312.1))).bind fun bt315 => ((spec_l01Below.f s0_0 bt315.2.1 bt315.2.2 (bt315.1.length : Int)).bind fun bt320 => ((spec_l01Once.f s0_0 bt320.2.1 bt320.2.2 2).bind fun bt323 => (if bt323.1 = true then ((spec_l01Below.f s0_0 bt323.2.1 bt323.2.2 (wrap64 (Int.tdiv (wrap64 ((bt315.1.length : Int) + 1)) 2))).bind fun bt326 => (spec_l07DrawWord.j0 k bt309.1 bt315.1 (wrap64 (1 + bt326.1)) s0_0 bt326.2.1 bt326.2.2)) else (spec_l07DrawWord.j0 k bt309.1 bt315.1 (wrap64 (1 + bt320.1)) s0_0 bt323.2.1 bt323.2.2))))))
theorem spec_l07DrawWord.mono_l : ∀ k, (∀ y0 y1 y2 y3 y4 y5, LeO (spec_l07DrawWord.j0 k y0 y1 y2 y3 y4 y5) (spec_l07DrawWord.j0 (k + 1) y0 y1 y2 y3 y4 y5)) ∧ (∀ y0 y1 y2 y3 y4 y5 y6 y7, LeO (spec_l07DrawWord.j1 k y0 y1 y2 y3 y4 y5 y6 y7) (spec_l07DrawWord.j1 (k + 1) y0 y1 y2 y3 y4 y5 y6 y7)) ∧ (∀ y0 y1 y2 y3 y4 y5 y6 y7 y8, LeO (spec_l07DrawWord.j2 k y0 y1 y2 y3 y4 y5 y6 y7 y8) (spec_l07DrawWord.j2 (k + 1) y0 y1 y2 y3 y4 y5 y6 y7 y8)) ∧ (∀ y0 y1 y2 y3 y4 y5 y6 y7 y8 y9, LeO (spec_l07DrawWord.l0 k y0 y1 y2 y3 y4 y5 y6 y7 y8 y9) (spec_l07DrawWord.l0 (k + 1) y0 y1 y2 y3 y4 y5 y6 y7 y8 y9))
 | 0 => ⟨fun _ _ _ _ _ _ r h => by simp [spec_l07DrawWord.j0] at h, fun _ _ _ _ _ _ _ _ r h => by simp [spec_l07DrawWord.j1] at h, fun _ _ _ _ _ _ _ _ _ r h => by simp [spec_l07DrawWord.j2] at h, fun _ _ _ _ _ _ _ _ _ _ r h => by simp [spec_l07DrawWord.l0] at h⟩
 | k + 1 => by
  obtain ⟨ih0, ih1, ih2, ih3⟩ := spec_l07DrawWord.mono_l k; refine ⟨?_, ?_, ?_, ?_⟩
  · intro y0 y1 y2 y3 y4 y5; unfold spec_l07DrawWord.j0; exact xq44
  · intro y0 y1 y2 y3 y4 y5 y6 y7; unfold spec_l07DrawWord.j1; exact xq44
  · intro y0 y1 y2 y3 y4 y5 y6 y7 y8; unfold spec_l07DrawWord.j2; exact xq44
  · intro y0 y1 y2 y3 y4 y5 y6 y7 y8 y9; unfold spec_l07DrawWord.l0; exact xq44
theorem spec_l07DrawWord.mono : ∀ a0 a1 a2 k, LeO (spec_l07DrawWord.f k a0 a1 a2) (spec_l07DrawWord.f (k + 1) a0 a1 a2) := by
 intro a0 a1 a2 k; obtain ⟨ih0, ih1, ih2, ih3⟩ := spec_l07DrawWord.mono_l k
 unfold spec_l07DrawWord.f
 exact xq44
theorem spec_l07DrawWord.calls (k : Nat) (g : Nat) (s0_0 : List Int) (s0_1 : Int) (s0_2 : Int) (r1 : Int) (r2 : List Int) (r3 : List Int) (r4 : Int) (r5 : List Int) (r6 : Int) (r7 : Int) (w0 w : World) (hI : IsS121 w0 w g s0_0 s0_1 s0_2) (hB : Below w0.heap.size w0 w) (h : spec_l07DrawWord.f k s0_0 s0_1 s0_2 = some (r1, r2, r3, r4, r5, r6, r7)) :
 Calls Try.prog 132 #[.pointer (some ⟨g, 0, none⟩)] w fun e w' => ∃ v1_ v2_ v4_ : Value, e = .returned (.tuple #[.int .i64 r1, v1_, v2_, .int .i64 r4, v4_]) ∧ Kd.R (Kd.int .i64) 3 w' w.heap.size (fun k_ => some k_ ≠ (v2_ : Value).ownBlock ∧ some k_ ≠ (v4_ : Value).ownBlock) v1_ r2 ∧ Kd.R (Kd.int .i64) 3 w' w.heap.size (fun k_ => some k_ ≠ (v1_ : Value).ownBlock ∧ some k_ ≠ (v4_ : Value).ownBlock) v2_ r3 ∧ Kd.R (Kd.int .i64) 3 w' w.heap.size (fun k_ => some k_ ≠ (v1_ : Value).ownBlock ∧ some k_ ≠ (v2_ : Value).ownBlock) v4_ r5 ∧ IsS121 w0 w' g s0_0 r6 r7 ∧ Below w0.heap.size w0 w' ∧ KeepBut w w' g none := by
 have HI0 := ak hI; have HK := ak (KeepBut.refl w g none); have HL := ak hB.size; clear hI; have HW0 := ak hB.size; have HB := ak hB; clear hB; have H : ((spec_l01DrawField.f s0_0 s0_1 s0_2).bind fun bt309 => ((spec_l01Below.f s0_0 bt309.2.1 bt309.2.2 8).bind fun bt312 => ((spec_l07DrawPoints.f k s0_0 bt312.2.1 bt312.2.2 bt309.1 (wrap64 (3 + bt312.1))).bind fun bt315 => ((spec_l01Below.f s0_0 bt315.2.1 bt315.2.2 (bt315.1.length : Int)).bind fun bt320 => ((spec_l01Once.f s0_0 bt320.2.1 bt320.2.2 2).bind fun bt323 => (if bt323.1 = true then ((spec_l01Below.f s0_0 bt323.2.1 bt323.2.2 (wrap64 (Int.tdiv (wrap64 ((bt315.1.length : Int) + 1)) 2))).bind fun bt326 => (spec_l07DrawWord.j0 k bt309.1 bt315.1 (wrap64 (1 + bt326.1)) s0_0 bt326.2.1 bt326.2.2)) else (spec_l07DrawWord.j0 k bt309.1 bt315.1 (wrap64 (1 + bt320.1)) s0_0 bt323.2.1 bt323.2.2))))))) = some (r1, r2, r3, r4, r5, r6, r7) := h; clear h; replace H := Option.bind_eq_some_iff.mp H; obtain ⟨⟨t309, t310, t311⟩, A20, H⟩ := H; (try dsimp only at H); have A2 := ak A20; clear A20; replace H := Option.bind_eq_some_iff.mp H; obtain ⟨⟨t312, t313, t314⟩, A30, H⟩ := H; (try dsimp only at H); have A3 := ak A30; clear A30; replace H := Option.bind_eq_some_iff.mp H; obtain ⟨⟨t315, t318, t319⟩, A40, H⟩ := H; (try dsimp only at H); have A4 := ak A40; clear A40; replace H := Option.bind_eq_some_iff.mp H; obtain ⟨⟨t320, t321, t322⟩, A50, H⟩ := H; (try dsimp only at H); have A5 := ak A50; clear A50; replace H := Option.bind_eq_some_iff.mp H; obtain ⟨⟨t323, t324, t325⟩, A60, H⟩ := H; (try dsimp only at H); have A6 := ak A60; clear A60; have HC7 := ak H; clear H; go_enter Try.func132, Try.ntmps132
 go_upto_if 28 with (first | ((with_reducible refine gate_callee (f := 100) rfl ?_); refine goB 15 Try.func100 #[.pointer (some ⟨g, 0, none⟩)] rfl ?_; (with_reducible refine (spec_l01DrawField.calls g s0_0 s0_1 s0_2 t309 t310 t311 w0 _ ?side1 ?side2 A2.out).mono ?_); (case side1 => exact xq2); (case side2 => exact xq1); rintro e w8 ⟨rfl, hi, hb, hk⟩; refine ⟨_, rfl, ?_⟩; replace HK := ak (KeepBut.trans kpA hk (.inl rfl)); replace HB := ak hb; replace HI0 := ak hi; (try clear hb hk hi)) | ((with_reducible refine gate_callee (f := 91) rfl ?_); refine goB 19 Try.func91 #[.pointer (some ⟨g, 0, none⟩), .int .i64 8] rfl ?_; (with_reducible refine (spec_l01Below.calls g s0_0 t310 t311 8 t312 t313 t314 w0 _ ?side1 ?side2 A3.out).mono ?_); (case side1 => exact xq2); (case side2 => exact xq1); rintro e w9 ⟨rfl, hi, hb, hk⟩; refine ⟨_, rfl, ?_⟩; replace HK := ak (KeepBut.trans kpA hk (.inl rfl)); replace HB := ak hb; replace HI0 := ak hi; (try clear hb hk hi)) | ((with_reducible refine gate_callee (f := 131) rfl ?_); refine goB 21 Try.func131 #[.pointer (some ⟨g, 0, none⟩), .int .i64 t309, .int .i64 (wrap64 (3 + t312))] rfl ?_; (with_reducible refine (spec_l07DrawPoints.calls k g s0_0 t313 t314 t309 (wrap64 (3 + t312)) t315 t318 t319 w0 _ ?side1 ?side2 A4.out).mono ?_); (case side1 => exact xq2); (case side2 => exact xq1); rintro e w10 ⟨v316, rfl, ho0, hi, hb, hk⟩; refine ⟨_, rfl, ?_⟩; have HO317 := ak (Kd.R_lower ho0 (keep_size (w := w) (g := g) (row := none) kpA)); replace HK := ak (KeepBut.trans kpA hk (.inl rfl)); replace HB := ak hb; replace HI0 := ak hi; (try clear hb hk hi ho0); obtain ⟨Ao11, co11, eo11⟩ := Kd.R_slice HO317.out; subst eo11) | ((with_reducible refine gate_callee (f := 91) rfl ?_); refine goB 25 Try.func91 #[.pointer (some ⟨g, 0, none⟩), .int .i64 (t315.length : Int)] rfl ?_; (with_reducible refine (spec_l01Below.calls g s0_0 t318 t319 (t315.length : Int) t320 t321 t322 w0 _ ?side1 ?side2 A5.out).mono ?_); (case side1 => exact xq2); (case side2 => exact xq1); rintro e w12 ⟨rfl, hi, hb, hk⟩; refine ⟨_, rfl, ?_⟩; replace HO317 := ak (Kd.R_mono (Kd.R_keep (IsS121.apart (show IsS121 w0 _ g s0_0 t318 t319 from by repeat (first | (with_reducible first | exact HI0.out | apply IsS121.alloc | apply IsS121.drewN | apply IsS121.drew | apply IsS121.set_1 | apply IsS121.set_2) | exact HI0.out)) (rF HO317) (by decide)) hk (fun _ h => h.2)) (fun _ h => h.1)); replace HK := ak (KeepBut.trans kpA hk (.inl rfl)); replace HB := ak hb; replace HI0 := ak hi; (try clear hb hk hi)) | ((with_reducible refine gate_callee (f := 90) rfl ?_); refine goB 28 Try.func90 #[.pointer (some ⟨g, 0, none⟩), .int .i64 2] rfl ?_; (with_reducible refine (spec_l01Once.calls g s0_0 t321 t322 2 t323 t324 t325 w0 _ ?side1 ?side2 A6.out).mono ?_); (case side1 => exact xq2); (case side2 => exact xq1); rintro e w13 ⟨rfl, hi, hb, hk⟩; refine ⟨_, rfl, ?_⟩; replace HO317 := ak (Kd.R_mono (Kd.R_keep (IsS121.apart (show IsS121 w0 _ g s0_0 t321 t322 from by repeat (first | (with_reducible first | exact HI0.out | apply IsS121.alloc | apply IsS121.drewN | apply IsS121.drew | apply IsS121.set_1 | apply IsS121.set_2) | exact HI0.out)) (rF HO317) (by decide)) hk (fun _ h => h.2)) (fun _ h => h.1)); replace HK := ak (KeepBut.trans kpA hk (.inl rfl)); replace HB := ak hb; replace HI0 := ak hi; (try clear hb hk hi)))
 (try simp only [Act.put, sa, sb, sc])
 go_cut [9] (fun v9 wc => ∃ (kq : Nat) (x9_6 : Int) (x1001_6 : Int) (x1002_6 : Int), v9 = .int .i64 x9_6 ∧ Aside0 (spec_l07DrawWord.j0 kq t309 t315 x9_6 s0_0 x1001_6 x1002_6 = some (r1, r2, r3, r4, r5, r6, r7)) ∧ Aside0 (kq ≤ k) ∧ Aside0 (Kd.R (Kd.int .i64) 3 wc w.heap.size (fun _ => True) (.slice Ao11 t315.length co11) t315) ∧ Aside0 (IsS121 w0 wc g s0_0 x1001_6 x1002_6) ∧ Aside0 (KeepBut w wc g none) ∧ Aside0 (Below w0.heap.size w0 wc))
 case first =>
  have H := HC7.out; clear HC7
  by_cases c14 : t323 = true; rotate_left
  · replace c14 := Bool.eq_false_iff.mpr c14; subst c14; have H1 : (spec_l07DrawWord.j0 k t309 t315 (wrap64 (1 + t320)) s0_0 t324 t325) = some (r1, r2, r3, r4, r5, r6, r7) := by rw [if_neg (show ¬ (false = true) by decide)] at H; exact H
    clear H; have H := H1; clear H1; have H' := ak H; clear H; go_wp2
    go_meet
    case rel => exact ⟨_, (wrap64 (1 + t320)), (t324), (t325), eqA, H', ⟨xq12⟩, ⟨rA HO317⟩, ⟨xq2⟩, ⟨kpA⟩, ⟨xq1⟩⟩
  subst c14; have H1 : ((spec_l01Below.f s0_0 t324 t325 (wrap64 (Int.tdiv (wrap64 ((t315.length : Int) + 1)) 2))).bind fun bt326 => (spec_l07DrawWord.j0 k t309 t315 (wrap64 (1 + bt326.1)) s0_0 bt326.2.1 bt326.2.2)) = some (r1, r2, r3, r4, r5, r6, r7) := by rw [if_pos rfl] at H; exact H
  clear H; have H := H1; clear H1; replace H := Option.bind_eq_some_iff.mp H; obtain ⟨⟨t326, t327, t328⟩, A150, H⟩ := H; (try dsimp only at H); have A15 := ak A150; clear A150; have H' := ak H; clear H; go_wp2_with (first | ((with_reducible refine gate_callee (f := 91) rfl ?_); refine goB 34 Try.func91 #[.pointer (some ⟨g, 0, none⟩), .int .i64 (wrap64 (Int.tdiv (wrap64 ((t315.length : Int) + 1)) 2))] rfl ?_; (with_reducible refine (spec_l01Below.calls g s0_0 t324 t325 (wrap64 (Int.tdiv (wrap64 ((t315.length : Int) + 1)) 2)) t326 t327 t328 w0 _ ?side1 ?side2 A15.out).mono ?_); (case side1 => exact xq2); (case side2 => exact xq1); rintro e w16 ⟨rfl, hi, hb, hk⟩; refine ⟨_, rfl, ?_⟩; replace HO317 := ak (Kd.R_mono (Kd.R_keep (IsS121.apart (show IsS121 w0 _ g s0_0 t324 t325 from by repeat (first | (with_reducible first | exact HI0.out | apply IsS121.alloc | apply IsS121.drewN | apply IsS121.drew | apply IsS121.set_1 | apply IsS121.set_2) | exact HI0.out)) (rF HO317) (by decide)) hk (fun _ h => h.2)) (fun _ h => h.1)); replace HK := ak (KeepBut.trans kpA hk (.inl rfl)); replace HB := ak hb; replace HI0 := ak hi; (try clear hb hk hi)))
  go_meet
  case rel => exact ⟨_, (wrap64 (1 + t326)), (t327), (t328), eqA, H', ⟨xq12⟩, ⟨rA HO317⟩, ⟨xq2⟩, ⟨kpA⟩, ⟨xq1⟩⟩
 case rest =>
  clear HC7; obtain ⟨kq, x9_6, x1001_6, x1002_6, rfl, HA, HJ6, HO_8, HI0, HK, HB⟩ := hcut
  cases kq with
  | zero => exact absurd HA.out (by simp [spec_l07DrawWord.j0])
  | succ kj6 =>
   have H := HA.out; clear HA; simp only [spec_l07DrawWord.j0] at H; replace H := Option.bind_eq_some_iff.mp H; obtain ⟨⟨t329, t332, t333⟩, A170, H⟩ := H; (try dsimp only at H); have A17 := ak A170; clear A170; replace H := Option.bind_eq_some_iff.mp H; obtain ⟨t334, A180, H⟩ := H; (try dsimp only at H); have A18 := ak A180; clear A180; have HC19 := ak H; clear H; go_upto_if 46 with (first | ((with_reducible refine gate_callee (f := 127) rfl ?_); refine goB 39 Try.func127 #[.pointer (some ⟨g, 0, none⟩), .int .i64 t309, .int .i64 x9_6] rfl ?_; (with_reducible refine (spec_l01DrawList.calls kj6 g s0_0 x1001_6 x1002_6 t309 x9_6 t329 t332 t333 w0 _ ?side1 ?side2 A17.out).mono ?_); (case side1 => exact xq2); (case side2 => exact xq1); rintro e w20 ⟨v330, rfl, ho0, hi, hb, hk⟩; refine ⟨_, rfl, ?_⟩; have HO331 := ak (Kd.R_lower (Kd.R_new' ho0 (Kd.R_lt (rF HO_8))) (keep_size (w := w) (g := g) (row := none) kpA)); replace HO_8 := ak (Kd.R_mono (Kd.R_told (Kd.R_oldK (IsS121.apart (show IsS121 w0 _ g s0_0 x1001_6 x1002_6 from by repeat (first | (with_reducible first | exact HI0.out | apply IsS121.alloc | apply IsS121.drewN | apply IsS121.drew | apply IsS121.set_1 | apply IsS121.set_2) | exact HI0.out)) (rF HO_8) (by decide)) hk) (Kd.R_base ho0)) (fun _ h_ => h_.1)); replace HK := ak (KeepBut.trans kpA hk (.inl rfl)); replace HB := ak hb; replace HI0 := ak hi; (try clear hb hk hi ho0); obtain ⟨Ao21, co21, eo21⟩ := Kd.R_slice HO331.out; subst eo21) | ((with_reducible refine gate_callee (f := 136) rfl ?_); refine goB 43 Try.func136 #[.int .i64 t309, .slice Ao11 t315.length co11, .slice Ao21 t329.length co21] rfl ?_; (with_reducible refine (spec_EncodeWord.calls kj6 t309 _ _ t315 _ _ t329 t334 _ ?side1 ?side2 ?side3 ?side4 A18.out).mono ?_); (case side1 => exact cA ((Kd.R_reads' HO_8.out).2.2)); (case side2 => exact (Kd.R_reads' HO_8.out).2.1); (case side3 => exact cA ((Kd.R_reads' HO331.out).2.2)); (case side4 => exact (Kd.R_reads' HO331.out).2.1); rintro e w22 ⟨v335, rfl, ho0, hb⟩; refine ⟨_, rfl, ?_⟩; have HO336 := ak (Kd.R_lower (Kd.R_new' (Kd.R_new' ho0 (Kd.R_lt (rF HO_8))) (Kd.R_lt (rF HO331))) (keep_size (w := w) (g := g) (row := none) kpA)); replace HO_8 := ak (Kd.R_elder' (rF HO_8) (Kd.R_base ho0) hb); replace HO331 := ak (Kd.R_elder' (rF HO331) (Kd.R_base ho0) hb); replace HK := ak (KeepBut.trans kpA (KeepBut.of_below hb g none) (.inl rfl)); replace HB := ak (below_step xq1 hb); replace HI0 := ak (IsS121.below xq2 hb); (try clear hb ho0); obtain ⟨Ao23, co23, eo23⟩ := Kd.R_slice HO336.out; subst eo23))
   (try simp only [Act.put, sa, sb, sc])
   go_cut [11] (fun v11 wc => ∃ (kq : Nat) (x11_18 : List Int) (x1001_18 : Int) (x1002_18 : Int), Aside0 (spec_l07DrawWord.j1 kq t309 t315 x9_6 t329 x11_18 s0_0 x1001_18 x1002_18 = some (r1, r2, r3, r4, r5, r6, r7)) ∧ Aside0 (kq ≤ kj6) ∧ Aside0 (Kd.R (Kd.int .i64) 3 wc w.heap.size (fun k_ => some k_ ≠ ((.slice Ao21 t329.length co21) : Value).ownBlock ∧ some k_ ≠ (v11 : Value).ownBlock) (.slice Ao11 t315.length co11) t315) ∧ Aside0 (Kd.R (Kd.int .i64) 3 wc w.heap.size (fun k_ => some k_ ≠ ((.slice Ao11 t315.length co11) : Value).ownBlock ∧ some k_ ≠ (v11 : Value).ownBlock) (.slice Ao21 t329.length co21) t329) ∧ Aside0 (Kd.R (Kd.int .i64) 3 wc w.heap.size (fun k_ => some k_ ≠ ((.slice Ao11 t315.length co11) : Value).ownBlock ∧ some k_ ≠ ((.slice Ao21 t329.length co21) : Value).ownBlock) v11 x11_18) ∧ Aside0 (IsS121 w0 wc g s0_0 x1001_18 x1002_18) ∧ Aside0 (KeepBut w wc g none) ∧ Aside0 (Below w0.heap.size w0 wc))
   case first =>
    have H := HC19.out; clear HC19
    by_cases c24 : (t334.length : Int) = 0; rotate_left
    · rw [if_neg c24] at H; have c24b0 : ((t334.length : Int) == 0) = false := beq_eq_false_iff_ne.mpr c24; have c24b1 : ((t334.length : Int) != 0) = true := bne_iff_ne.mpr c24; have c24b2 : ¬ (t334 = []) := fun h_ => c24 (by rw [h_]; rfl)
      (first | rw [c24b0] | (simp only [i64_w, i32_w]; rw [c24b0]) | skip)
      have H' := ak H; clear H; go_wp2
      go_meet
      case rel => exact ⟨_, (t334), (t332), (t333), H', ⟨by have := HJ6.out; first | omega | exact Nat.le_refl _⟩, ⟨rE (Kd.R_mono HO_8.out (fun _ hk => ⟨hk.1.2, hk.2⟩))⟩, ⟨rE (Kd.R_mono HO331.out (fun _ hk => ⟨hk.1.2, hk.2⟩))⟩, ⟨rE (Kd.R_mono HO336.out (fun _ hk => ⟨hk.1.2, hk.2⟩))⟩, ⟨xq2⟩, ⟨kpA⟩, ⟨xq1⟩⟩
    rw [if_pos c24] at H; have c24b0 : ((t334.length : Int) == 0) = true := beq_iff_eq.mpr c24; have c24b1 : ((t334.length : Int) != 0) = false := bne_eq_false_iff_eq.mpr c24; clear c24; (first | rw [c24b0] | (simp only [i64_w, i32_w]; rw [c24b0]) | skip)
    replace H := Option.bind_eq_some_iff.mp H; obtain ⟨⟨t337, t340, t341⟩, A250, H⟩ := H; (try dsimp only at H); have A25 := ak A250; clear A250; have H' := ak H; clear H; go_wp2_with (first | ((with_reducible refine gate_callee (f := 127) rfl ?_); refine goB 51 Try.func127 #[.pointer (some ⟨g, 0, none⟩), .int .i64 t309, .int .i64 (t315.length : Int)] rfl ?_; (with_reducible refine (spec_l01DrawList.calls kj6 g s0_0 t332 t333 t309 (t315.length : Int) t337 t340 t341 w0 _ ?side1 ?side2 A25.out).mono ?_); (case side1 => exact xq2); (case side2 => exact xq1); rintro e w26 ⟨v338, rfl, ho0, hi, hb, hk⟩; refine ⟨_, rfl, ?_⟩; have HO339 := ak (Kd.R_lower (Kd.R_new' (Kd.R_new' (Kd.R_new' ho0 (Kd.R_lt (rF HO_8))) (Kd.R_lt (rF HO331))) (Kd.R_lt (rF HO336))) (keep_size (w := w) (g := g) (row := none) kpA)); replace HO_8 := ak (Kd.R_mono (Kd.R_told (Kd.R_oldK (IsS121.apart (show IsS121 w0 _ g s0_0 t332 t333 from by repeat (first | (with_reducible first | exact HI0.out | apply IsS121.alloc | apply IsS121.drewN | apply IsS121.drew | apply IsS121.set_1 | apply IsS121.set_2) | exact HI0.out)) (rF HO_8) (by decide)) hk) (Kd.R_base ho0)) (fun _ h_ => h_.1)); replace HO331 := ak (Kd.R_mono (Kd.R_told (Kd.R_oldK (IsS121.apart (show IsS121 w0 _ g s0_0 t332 t333 from by repeat (first | (with_reducible first | exact HI0.out | apply IsS121.alloc | apply IsS121.drewN | apply IsS121.drew | apply IsS121.set_1 | apply IsS121.set_2) | exact HI0.out)) (rF HO331) (by decide)) hk) (Kd.R_base ho0)) (fun _ h_ => h_.1)); replace HO336 := ak (Kd.R_mono (Kd.R_told (Kd.R_oldK (IsS121.apart (show IsS121 w0 _ g s0_0 t332 t333 from by repeat (first | (with_reducible first | exact HI0.out | apply IsS121.alloc | apply IsS121.drewN | apply IsS121.drew | apply IsS121.set_1 | apply IsS121.set_2) | exact HI0.out)) (rF HO336) (by decide)) hk) (Kd.R_base ho0)) (fun _ h_ => h_.1)); replace HK := ak (KeepBut.trans kpA hk (.inl rfl)); replace HB := ak hb; replace HI0 := ak hi; (try clear hb hk hi ho0)))
    go_meet
    case rel => exact ⟨_, (t337), (t340), (t341), H', ⟨by have := HJ6.out; first | omega | exact Nat.le_refl _⟩, ⟨rE (Kd.R_mono HO_8.out (fun _ hk => ⟨hk.1.1.2, hk.2⟩))⟩, ⟨rE (Kd.R_mono HO331.out (fun _ hk => ⟨hk.1.1.2, hk.2⟩))⟩, ⟨rE (Kd.R_mono HO339.out (fun _ hk => ⟨hk.1.1.2, hk.1.2⟩))⟩, ⟨xq2⟩, ⟨kpA⟩, ⟨xq1⟩⟩
   case rest =>
    clear HC19; obtain ⟨kq, x11_18, x1001_18, x1002_18, HA, HJ18, HO_8, HO_10, HO_11, HI0, HK, HB⟩ := hcut
    cases kq with
    | zero => exact absurd HA.out (by simp [spec_l07DrawWord.j1])
    | succ kj18 =>
     have H := HA.out; clear HA; simp only [spec_l07DrawWord.j1] at H; replace H := Option.bind_eq_some_iff.mp H; obtain ⟨⟨t342, t343, t344⟩, A270, H⟩ := H; (try dsimp only at H); have A27 := ak A270; clear A270; replace H := Option.bind_eq_some_iff.mp H; obtain ⟨⟨t345, t346, t347⟩, A280, H⟩ := H; (try dsimp only at H); have A28 := ak A280; clear A280; have HC29 := ak H; clear H; go_upto_if 61 with (first | ((with_reducible refine gate_callee (f := 91) rfl ?_); refine goB 59 Try.func91 #[.pointer (some ⟨g, 0, none⟩), .int .i64 (wrap64 ((wrap64 (Int.tdiv (wrap64 ((t315.length : Int) - x9_6)) 2)) + 2))] rfl ?_; (with_reducible refine (spec_l01Below.calls g s0_0 x1001_18 x1002_18 (wrap64 ((wrap64 (Int.tdiv (wrap64 ((t315.length : Int) - x9_6)) 2)) + 2)) t342 t343 t344 w0 _ ?side1 ?side2 A27.out).mono ?_); (case side1 => exact xq2); (case side2 => exact xq1); rintro e w30 ⟨rfl, hi, hb, hk⟩; refine ⟨_, rfl, ?_⟩; replace HO_8 := ak (Kd.R_mono (Kd.R_keep (IsS121.apart (show IsS121 w0 _ g s0_0 x1001_18 x1002_18 from by repeat (first | (with_reducible first | exact HI0.out | apply IsS121.alloc | apply IsS121.drewN | apply IsS121.drew | apply IsS121.set_1 | apply IsS121.set_2) | exact HI0.out)) (rF HO_8) (by decide)) hk (fun _ h => h.2)) (fun _ h => h.1)); replace HO_10 := ak (Kd.R_mono (Kd.R_keep (IsS121.apart (show IsS121 w0 _ g s0_0 x1001_18 x1002_18 from by repeat (first | (with_reducible first | exact HI0.out | apply IsS121.alloc | apply IsS121.drewN | apply IsS121.drew | apply IsS121.set_1 | apply IsS121.set_2) | exact HI0.out)) (rF HO_10) (by decide)) hk (fun _ h => h.2)) (fun _ h => h.1)); replace HO_11 := ak (Kd.R_mono (Kd.R_keep (IsS121.apart (show IsS121 w0 _ g s0_0 x1001_18 x1002_18 from by repeat (first | (with_reducible first | exact HI0.out | apply IsS121.alloc | apply IsS121.drewN | apply IsS121.drew | apply IsS121.set_1 | apply IsS121.set_2) | exact HI0.out)) (rF HO_11) (by decide)) hk (fun _ h => h.2)) (fun _ h => h.1)); replace HK := ak (KeepBut.trans kpA hk (.inl rfl)); replace HB := ak hb; replace HI0 := ak hi; (try clear hb hk hi)) | ((with_reducible refine gate_callee (f := 90) rfl ?_); refine goB 61 Try.func90 #[.pointer (some ⟨g, 0, none⟩), .int .i64 5] rfl ?_; (with_reducible refine (spec_l01Once.calls g s0_0 t343 t344 5 t345 t346 t347 w0 _ ?side1 ?side2 A28.out).mono ?_); (case side1 => exact xq2); (case side2 => exact xq1); rintro e w31 ⟨rfl, hi, hb, hk⟩; refine ⟨_, rfl, ?_⟩; replace HO_8 := ak (Kd.R_mono (Kd.R_keep (IsS121.apart (show IsS121 w0 _ g s0_0 t343 t344 from by repeat (first | (with_reducible first | exact HI0.out | apply IsS121.alloc | apply IsS121.drewN | apply IsS121.drew | apply IsS121.set_1 | apply IsS121.set_2) | exact HI0.out)) (rF HO_8) (by decide)) hk (fun _ h => h.2)) (fun _ h => h.1)); replace HO_10 := ak (Kd.R_mono (Kd.R_keep (IsS121.apart (show IsS121 w0 _ g s0_0 t343 t344 from by repeat (first | (with_reducible first | exact HI0.out | apply IsS121.alloc | apply IsS121.drewN | apply IsS121.drew | apply IsS121.set_1 | apply IsS121.set_2) | exact HI0.out)) (rF HO_10) (by decide)) hk (fun _ h => h.2)) (fun _ h => h.1)); replace HO_11 := ak (Kd.R_mono (Kd.R_keep (IsS121.apart (show IsS121 w0 _ g s0_0 t343 t344 from by repeat (first | (with_reducible first | exact HI0.out | apply IsS121.alloc | apply IsS121.drewN | apply IsS121.drew | apply IsS121.set_1 | apply IsS121.set_2) | exact HI0.out)) (rF HO_11) (by decide)) hk (fun _ h => h.2)) (fun _ h => h.1)); replace HK := ak (KeepBut.trans kpA hk (.inl rfl)); replace HB := ak hb; replace HI0 := ak hi; (try clear hb hk hi)))
     (try simp only [Act.put, sa, sb, sc])
     go_cut [12] (fun v12 wc => ∃ (kq : Nat) (x12_28 : Int) (x1001_28 : Int) (x1002_28 : Int), v12 = .int .i64 x12_28 ∧ Aside0 (spec_l07DrawWord.j2 kq t309 t315 x9_6 t329 x11_18 x12_28 s0_0 x1001_28 x1002_28 = some (r1, r2, r3, r4, r5, r6, r7)) ∧ Aside0 (kq ≤ kj18) ∧ Aside0 (Kd.R (Kd.int .i64) 3 wc w.heap.size (fun k_ => some k_ ≠ ((.slice Ao21 t329.length co21) : Value).ownBlock ∧ some k_ ≠ (u11 : Value).ownBlock) (.slice Ao11 t315.length co11) t315) ∧ Aside0 (Kd.R (Kd.int .i64) 3 wc w.heap.size (fun k_ => some k_ ≠ ((.slice Ao11 t315.length co11) : Value).ownBlock ∧ some k_ ≠ (u11 : Value).ownBlock) (.slice Ao21 t329.length co21) t329) ∧ Aside0 (Kd.R (Kd.int .i64) 3 wc w.heap.size (fun k_ => some k_ ≠ ((.slice Ao11 t315.length co11) : Value).ownBlock ∧ some k_ ≠ ((.slice Ao21 t329.length co21) : Value).ownBlock) u11 x11_18) ∧ Aside0 (IsS121 w0 wc g s0_0 x1001_28 x1002_28) ∧ Aside0 (KeepBut w wc g none) ∧ Aside0 (Below w0.heap.size w0 wc))
     case first =>
      have H := HC29.out; clear HC29
      by_cases c32 : t345 = true; rotate_left
      · replace c32 := Bool.eq_false_iff.mpr c32; subst c32; have H1 : (spec_l07DrawWord.j2 kj18 t309 t315 x9_6 t329 x11_18 t342 s0_0 t346 t347) = some (r1, r2, r3, r4, r5, r6, r7) := by rw [if_neg (show ¬ (false = true) by decide)] at H; exact H
        clear H; have H := H1; clear H1; have H' := ak H; clear H; go_wp2
        go_meet
        case rel => exact ⟨_, (t342), (t346), (t347), eqA, H', ⟨by have := HJ6.out; have := HJ18.out; first | omega | exact Nat.le_refl _⟩, ⟨rA HO_8⟩, ⟨rA HO_10⟩, ⟨rA HO_11⟩, ⟨xq2⟩, ⟨kpA⟩, ⟨xq1⟩⟩
      subst c32; have H1 : ((spec_l01Below.f s0_0 t346 t347 (wrap64 ((t315.length : Int) + 1))).bind fun bt348 => (spec_l07DrawWord.j2 kj18 t309 t315 x9_6 t329 x11_18 bt348.1 s0_0 bt348.2.1 bt348.2.2)) = some (r1, r2, r3, r4, r5, r6, r7) := by rw [if_pos rfl] at H; exact H
      clear H; have H := H1; clear H1; replace H := Option.bind_eq_some_iff.mp H; obtain ⟨⟨t348, t349, t350⟩, A330, H⟩ := H; (try dsimp only at H); have A33 := ak A330; clear A330; have H' := ak H; clear H; go_wp2_with (first | ((with_reducible refine gate_callee (f := 91) rfl ?_); refine goB 66 Try.func91 #[.pointer (some ⟨g, 0, none⟩), .int .i64 (wrap64 ((t315.length : Int) + 1))] rfl ?_; (with_reducible refine (spec_l01Below.calls g s0_0 t346 t347 (wrap64 ((t315.length : Int) + 1)) t348 t349 t350 w0 _ ?side1 ?side2 A33.out).mono ?_); (case side1 => exact xq2); (case side2 => exact xq1); rintro e w34 ⟨rfl, hi, hb, hk⟩; refine ⟨_, rfl, ?_⟩; replace HO_8 := ak (Kd.R_mono (Kd.R_keep (IsS121.apart (show IsS121 w0 _ g s0_0 t346 t347 from by repeat (first | (with_reducible first | exact HI0.out | apply IsS121.alloc | apply IsS121.drewN | apply IsS121.drew | apply IsS121.set_1 | apply IsS121.set_2) | exact HI0.out)) (rF HO_8) (by decide)) hk (fun _ h => h.2)) (fun _ h => h.1)); replace HO_10 := ak (Kd.R_mono (Kd.R_keep (IsS121.apart (show IsS121 w0 _ g s0_0 t346 t347 from by repeat (first | (with_reducible first | exact HI0.out | apply IsS121.alloc | apply IsS121.drewN | apply IsS121.drew | apply IsS121.set_1 | apply IsS121.set_2) | exact HI0.out)) (rF HO_10) (by decide)) hk (fun _ h => h.2)) (fun _ h => h.1)); replace HO_11 := ak (Kd.R_mono (Kd.R_keep (IsS121.apart (show IsS121 w0 _ g s0_0 t346 t347 from by repeat (first | (with_reducible first | exact HI0.out | apply IsS121.alloc | apply IsS121.drewN | apply IsS121.drew | apply IsS121.set_1 | apply IsS121.set_2) | exact HI0.out)) (rF HO_11) (by decide)) hk (fun _ h => h.2)) (fun _ h => h.1)); replace HK := ak (KeepBut.trans kpA hk (.inl rfl)); replace HB := ak hb; replace HI0 := ak hi; (try clear hb hk hi)))
      go_meet
      case rel => exact ⟨_, (t348), (t349), (t350), eqA, H', ⟨by have := HJ6.out; have := HJ18.out; first | omega | exact Nat.le_refl _⟩, ⟨rA HO_8⟩, ⟨rA HO_10⟩, ⟨rA HO_11⟩, ⟨xq2⟩, ⟨kpA⟩, ⟨xq1⟩⟩
     case rest =>
      clear HC29; obtain ⟨kq, x12_28, x1001_28, x1002_28, rfl, HA, HJ28, HO_8, HO_10, HO_11, HI0, HK, HB⟩ := hcut
      cases kq with
      | zero => exact absurd HA.out (by simp [spec_l07DrawWord.j2])
      | succ kj28 =>
       have H := HA.out; clear HA; simp only [spec_l07DrawWord.j2] at H; have H' := ak H; clear H; go_wp2
       go_loopg [13] kj28 (fun kq v13 w' => ∃ (x11_4 : List Int) (x13_4 : Int) (x1001_4 : Int) (x1002_4 : Int), v13 = .int .i64 x13_4 ∧ Aside0 (spec_l07DrawWord.l0 kq t309 t315 x9_6 t329 x11_4 x12_28 x13_4 s0_0 x1001_4 x1002_4 = some (r1, r2, r3, r4, r5, r6, r7)) ∧ Aside0 (kq ≤ kj28) ∧ Aside0 (Kd.R (Kd.int .i64) 3 w' w.heap.size (fun k_ => some k_ ≠ ((.slice Ao21 t329.length co21) : Value).ownBlock ∧ some k_ ≠ (u11 : Value).ownBlock) (.slice Ao11 t315.length co11) t315) ∧ Aside0 (Kd.R (Kd.int .i64) 3 w' w.heap.size (fun k_ => some k_ ≠ ((.slice Ao11 t315.length co11) : Value).ownBlock ∧ some k_ ≠ (u11 : Value).ownBlock) (.slice Ao21 t329.length co21) t329) ∧ Aside0 (Kd.R (Kd.int .i64) 3 w' w.heap.size (fun k_ => some k_ ≠ ((.slice Ao11 t315.length co11) : Value).ownBlock ∧ some k_ ≠ ((.slice Ao21 t329.length co21) : Value).ownBlock) u11 x11_4) ∧ Aside0 (IsS121 w0 w' g s0_0 x1001_4 x1002_4) ∧ Aside0 (KeepBut w w' g none) ∧ Aside0 (Below w0.heap.size w0 w'))
       case atStart => exact ⟨(x11_18), (0), (x1001_28), (x1002_28), eqA, H', ⟨Nat.le_refl _⟩, ⟨rA HO_8⟩, ⟨rA HO_10⟩, ⟨rA HO_11⟩, ⟨xq2⟩, ⟨kpA⟩, ⟨xq1⟩⟩
       case round =>
        clear H'; obtain ⟨x11_4, x13_4, x1001_4, x1002_4, rfl, HA, HK4, HO_8, HO_10, HO_11, HI0, HK, HB⟩ := hrel
        cases gk with
        | zero => exact absurd HA.out (by simp [spec_l07DrawWord.l0])
        | succ k4 =>
         have H := HA.out; clear HA; simp only [spec_l07DrawWord.l0] at H
         by_cases c35 : x13_4 < x12_28; rotate_left
         · rw [if_neg c35] at H; have c35b0 := decide_eq_false c35; clear c35; simp only [Option.some.injEq, Prod.mk.injEq] at H; obtain ⟨rfl, rfl, rfl, rfl, rfl, rfl, rfl⟩ := H; go_wp2
           refine bodyPost_ret (results_list (rs := [.tmp 2, .tmp 3, .tmp 4, .tmp 5, .tmp 6]) rfl (by simp) (.tmp (.tmp (.tmp (.tmp (.tmp .nil)))))) rfl ?_
           exact ⟨_, _, _, xq6, by (with_reducible repeat (first | apply Kd.R_alloc | apply Kd.R_drewN | apply Kd.R_drew)); exact Kd.R_mono HO_8.out (fun _ hk => ⟨hk.2, hk.1⟩), by (with_reducible repeat (first | apply Kd.R_alloc | apply Kd.R_drewN | apply Kd.R_drew)); exact HO_11.out, by (with_reducible repeat (first | apply Kd.R_alloc | apply Kd.R_drewN | apply Kd.R_drew)); exact HO_10.out, xq2, xq1, xq15⟩
         rw [if_pos c35] at H; have c35b0 := decide_eq_true c35; clear c35; replace H := Option.bind_eq_some_iff.mp H; obtain ⟨⟨t351, t352, t353⟩, A360, H⟩ := H; (try dsimp only at H); have A36 := ak A360; clear A360; replace H := Option.bind_eq_some_iff.mp H; obtain ⟨⟨t354, t355, t356⟩, A370, H⟩ := H; (try dsimp only at H); have A37 := ak A370; clear A370
         by_cases c38 : 0 ≤ t351; rotate_left
         · rw [if_neg c38] at H; exact absurd H (by simp)
         rw [if_pos c38] at H; have c38b0 := decide_eq_true c38; clear c38
         by_cases c39 : t351 < (x11_4.length : Int); rotate_left
         · rw [if_neg c39] at H; exact absurd H (by simp)
         rw [if_pos c39] at H; have c39b0 := decide_eq_true c39; clear c39; obtain ⟨y357, hyq⟩ : ∃ y_ : List Int, y_ = (x11_4.set (t351 : Int).toNat t354) := ⟨_, rfl⟩; replace H : (spec_l07DrawWord.l0 k4 t309 t315 x9_6 t329 y357 x12_28 (wrap64 (x13_4 + 1)) s0_0 t355 t356) = some (r1, r2, r3, r4, r5, r6, r7) := by first | (rw [hyq]; with_reducible exact H) | (have H2_ := (Option.bind_some _ _).symm.trans H; rw [hyq]; with_reducible exact H2_) | (have H2_ := (Option.bind_some _ _).symm.trans H; with_reducible exact H2_) | with_reducible exact H | (rw [hyq]; exact H) | exact H
         have Ny357 := ak hyq; clear hyq; have H' := ak H; clear H; obtain ⟨Ao41, co41, eo41⟩ := Kd.R_slice HO_11.out; subst eo41; go_wp2_with (first | ((with_reducible refine gate_callee (f := 91) rfl ?_); refine goB 76 Try.func91 #[.pointer (some ⟨g, 0, none⟩), .int .i64 (x11_4.length : Int)] rfl ?_; (with_reducible refine (spec_l01Below.calls g s0_0 x1001_4 x1002_4 (x11_4.length : Int) t351 t352 t353 w0 _ ?side1 ?side2 A36.out).mono ?_); (case side1 => exact xq2); (case side2 => exact xq1); rintro e w42 ⟨rfl, hi, hb, hk⟩; refine ⟨_, rfl, ?_⟩; replace HO_8 := ak (Kd.R_mono (Kd.R_keep (IsS121.apart (show IsS121 w0 _ g s0_0 x1001_4 x1002_4 from by repeat (first | (with_reducible first | exact HI0.out | apply IsS121.alloc | apply IsS121.drewN | apply IsS121.drew | apply IsS121.set_1 | apply IsS121.set_2) | exact HI0.out)) (rF HO_8) (by decide)) hk (fun _ h => h.2)) (fun _ h => h.1)); replace HO_10 := ak (Kd.R_mono (Kd.R_keep (IsS121.apart (show IsS121 w0 _ g s0_0 x1001_4 x1002_4 from by repeat (first | (with_reducible first | exact HI0.out | apply IsS121.alloc | apply IsS121.drewN | apply IsS121.drew | apply IsS121.set_1 | apply IsS121.set_2) | exact HI0.out)) (rF HO_10) (by decide)) hk (fun _ h => h.2)) (fun _ h => h.1)); replace HO_11 := ak (Kd.R_mono (Kd.R_keep (IsS121.apart (show IsS121 w0 _ g s0_0 x1001_4 x1002_4 from by repeat (first | (with_reducible first | exact HI0.out | apply IsS121.alloc | apply IsS121.drewN | apply IsS121.drew | apply IsS121.set_1 | apply IsS121.set_2) | exact HI0.out)) (rF HO_11) (by decide)) hk (fun _ h => h.2)) (fun _ h => h.1)); replace HK := ak (KeepBut.trans kpA hk (.inl rfl)); replace HB := ak hb; replace HI0 := ak hi; (try clear hb hk hi)) | ((with_reducible refine gate_callee (f := 135) rfl ?_); refine goB 79 Try.func135 #[.pointer (some ⟨g, 0, none⟩), .int .i64 t309] rfl ?_; (with_reducible refine (spec_l01DrawElement.calls g s0_0 t352 t353 t309 t354 t355 t356 w0 _ ?side1 ?side2 A37.out).mono ?_); (case side1 => exact xq2); (case side2 => exact xq1); rintro e w43 ⟨rfl, hi, hb, hk⟩; refine ⟨_, rfl, ?_⟩; replace HO_8 := ak (Kd.R_mono (Kd.R_keep (IsS121.apart (show IsS121 w0 _ g s0_0 t352 t353 from by repeat (first | (with_reducible first | exact HI0.out | apply IsS121.alloc | apply IsS121.drewN | apply IsS121.drew | apply IsS121.set_1 | apply IsS121.set_2) | exact HI0.out)) (rF HO_8) (by decide)) hk (fun _ h => h.2)) (fun _ h => h.1)); replace HO_10 := ak (Kd.R_mono (Kd.R_keep (IsS121.apart (show IsS121 w0 _ g s0_0 t352 t353 from by repeat (first | (with_reducible first | exact HI0.out | apply IsS121.alloc | apply IsS121.drewN | apply IsS121.drew | apply IsS121.set_1 | apply IsS121.set_2) | exact HI0.out)) (rF HO_10) (by decide)) hk (fun _ h => h.2)) (fun _ h => h.1)); replace HO_11 := ak (Kd.R_mono (Kd.R_keep (IsS121.apart (show IsS121 w0 _ g s0_0 t352 t353 from by repeat (first | (with_reducible first | exact HI0.out | apply IsS121.alloc | apply IsS121.drewN | apply IsS121.drew | apply IsS121.set_1 | apply IsS121.set_2) | exact HI0.out)) (rF HO_11) (by decide)) hk (fun _ h => h.2)) (fun _ h => h.1)); replace HK := ak (KeepBut.trans kpA hk (.inl rfl)); replace HB := ak hb; replace HI0 := ak hi; (try clear hb hk hi); have p40 : 0 ≤ (t351 : Int) := odA; have q40 : (t351 : Int) < ((x11_4.length : Int) : Int) := odA; obtain ⟨go40, co40, eo40, gb40, gl40, cl40, HG40⟩ := Kd.R_form HO_11.out (by omega); (first | cases eo40 | (injection eo40 with ea_ en_ ec_; (first | subst ea_ | (injection ea_ with ea_; subst ea_)); subst ec_; clear en_)); have GB40 := ak gb40; have GG40 := ak HG40; clear gb40 gl40 HG40; obtain ⟨hx40_0, hf40_0⟩ := Kd.R_celln 0 HO_11.out (t351 : Int) p40 q40; replace p40 := eq_true p40; replace q40 := eq_true q40; obtain ⟨hy44_, hz44_⟩ := Kd.R_celln 0 HO_11.out (t351 : Int) (odA) (odA); have HP44 := Kd.R_putg HO_11.out (t351 : Int) t354) | ((with_reducible refine gate_store (t := 3) (p := 80) rfl ?_); refine store_event (t := 3) (p := 80) (v := ?vo_w45) (w1 := (w43.setCell ⟨go40, (t351 : Int).toNat, none⟩ (.int .i64 t354))) ?hg ?ho ?hn ?hr ?_; (case ho => rfl); (case hg => rfl); (case hn => rfl); (case hr => exact xq11); intro w45 hw; have hg : w43.grownBy w45 (some go40) := (by rw [hw]; exact HP44.2); have hp_ : Kd.R (Kd.int .i64) 3 w45 w.heap.size (fun k_ => some k_ ≠ (.slice Ao11 t315.length co11 : Value).ownBlock ∧ some k_ ≠ (.slice Ao21 t329.length co21 : Value).ownBlock) (.slice (some ⟨go40, 0, none⟩) x11_4.length co41) y357 := (by rw [hw, Ny357.out]; exact HP44.1); clear HP44; replace HO_8 := ak (Kd.R_after (v := (.slice (some ⟨go40, 0, none⟩) x11_4.length co41)) (v1 := (.slice (some ⟨go40, 0, none⟩) x11_4.length co41)) (ok := (fun k_ => some k_ ≠ (.slice Ao21 t329.length co21 : Value).ownBlock)) (rF HO_8) hg (.inl rfl)); replace HO_10 := ak (Kd.R_after (v := (.slice (some ⟨go40, 0, none⟩) x11_4.length co41)) (v1 := (.slice (some ⟨go40, 0, none⟩) x11_4.length co41)) (ok := (fun k_ => some k_ ≠ (.slice Ao11 t315.length co11 : Value).ownBlock)) (rF HO_10) hg (.inl rfl)); replace HI0 := ak (IsS121.grown xq28 hg (IsS121.own_ne HI0.out HO_11.out (by decide))); replace HB := ak ((by rw [hw]; exact below_set (HB.out) (Nat.le_trans HL.out GB40.out) : Below w0.heap.size w0 w45)); replace HK := ak (KeepBut.trans kpA (KeepBut.of_grown hg g) (Kd.R_base2 HO_11.out)); replace HO_11 := ak hp_; clear hg hw hp_))
         go_roundg k4
         case measure => have := HJ6.out; have := HJ18.out; have := HJ28.out; have := HK4.out; omega
         case rel => exact ⟨(y357), (wrap64 (x13_4 + 1)), (t355), (t356), eqA, H', ⟨by have := HJ6.out; have := HJ18.out; have := HJ28.out; have := HK4.out; omega⟩, ⟨rA HO_8⟩, ⟨rA HO_10⟩, ⟨rA HO_11⟩, ⟨xq2⟩, ⟨kpA⟩, ⟨xq1⟩⟩

end Go.Proofs.Ytogdhclomgafdaa.PFnJobBytes
