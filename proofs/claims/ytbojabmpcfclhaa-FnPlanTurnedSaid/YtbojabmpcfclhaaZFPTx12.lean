-- Written by a program of this session (the print of the kit with contracts of this session's own added)
import Derived.Test.YtbojabmpcfclhaaZFPTx11
namespace Go.Proofs.Ytbojabmpcfclhaa.PFnPlanTurned
open Go.RowKit Go.Proofs.YtbojabmpcfclhaaW.PrintWords Go.Proofs.YtbojabmpcfclhaaW.PrintLast Go.Proofs.YtbojabmpcfclhaaW.PrintMore Go.Proofs.YtbojabmpcfclhaaW.PrintPack
attribute [local go_sem] max2_int min2_int max_two min_two max_three min_three max_four min_four   -- for this text's walks alone
set_option linter.unusedVariables false
set_option linter.unusedSimpArgs false

section
variable {P : Program} {ops : Array Oper} {rest : List Oper} {o : Oper} {a : Act} {Q : Exit → Act → World → Prop}
/-- A literal whose cells are known. -/
theorem build_event {W : World} (hgd : o.guard = none) (t : TypeId) (parts : Array (Nat × Operand)) (ho : o.op = .build t parts) (cells : Array Value)
 (hb : P.built t (parts.map fun (i, x) => (i, a.eval x)).toList = some cells) (h : wpList P ops Q rest (a.put o.dst (.agg cells)) W) : wpList P ops Q (o :: rest) a W := by
 refine wpList_build hgd t parts ho (by rw [hb]; rfl) ?_
 rw [hb]; exact h
/-- A whole row stored over a block that the call made. -/
theorem lit_event {W : World} (hgd : o.guard = none) (ty : TypeId) (x y : Operand) (ho : o.op = .store ty x y)
 (g : Nat) (cells : Array Value) (hx : a.eval x = .pointer (some ⟨g, 0, none⟩)) (hy : a.eval y = .agg cells)
 (t : TypeId) (old : Array Value) (hg : W.heap[g]? = some (.cells old t (0, 0))) (hi : (P.info? ty).map (·.size) = some cells.size)
 (hold : old.size = cells.size) (h1 : cells.all (·.oneCell') = true) (hN : o.dst = none)
 (h : ∀ w1, w1.heap[g]? = some (.cells cells t (0, 0)) → KeepBut W w1 g none → Below g W w1 → wpList P ops Q rest a w1) : wpList P ops Q (o :: rest) a W := by
 refine wpList_store_row hgd ty x y ho g cells hx hy t old hg hi hold h1 ?_
 rw [hN]; refine h _ (setRow_heap W g old cells t (0, 0) hg) ⟨by simp, fun i _ hne _ => setRow_other W g i cells hne⟩ ?_
 exact ⟨rfl, rfl, rfl, by simp, fun i hi => setRow_other W g i cells (by omega)⟩
end
def setB (d : Nat → Bool) (i : Nat) (j : Nat) : Bool := if j = i then true else d j
theorem cBn_at (n : Nat) (d : Nat → Bool) {i : Nat} (h : i < n) : (((List.range n).map fun i => Value.bool (d i)).toArray)[i]? = some (.bool (d i)) := by simp [h]
theorem cBn_set (n : Nat) (d : Nat → Bool) (i : Nat) : (((List.range n).map fun i => Value.bool (d i)).toArray).setIfInBounds i (.bool true) = ((List.range n).map fun j => Value.bool (setB d i j)).toArray := by
 apply Array.ext
 · simp
 · intro j h1 h2; simp at h1 h2 ⊢
   rw [List.getElem_set]
   by_cases hj : i = j
   · rw [if_pos hj, hj]; simp [setB]
   rw [if_neg hj]; simp [setB]; intro h; exact absurd h.symm hj
theorem cBn_zero (n : Nat) : Array.replicate n (Value.bool false) = ((List.range n).map fun _ => Value.bool false).toArray := by
 apply Array.ext
 · simp
 · intro j h1 h2; simp
theorem cBn_one (n : Nat) : (Array.replicate n (Value.bool false)).all (·.oneCell') = true := by
 rw [Array.all_eq_true]; intro i h; simp [Value.oneCell']
theorem cBn_ex (n : Nat) (hn : 0 < n) (P : Array Value → Prop) (hP : P (Array.replicate n (Value.bool false))) : ∃ CB : (Nat → Bool) → Array Value, P (CB fun _ => false) ∧ (CB fun _ => false).size = n ∧ (¬ (CB fun _ => false) = #[]) ∧ (CB fun _ => false).all (·.oneCell') = true ∧ (∀ (d : Nat → Bool) (i : Nat), i < n → (CB d)[i]? = some (.bool (d i))) ∧ (∀ (d : Nat → Bool) (i : Nat), (CB d).setIfInBounds i (.bool true) = CB (setB d i)) := by
 refine ⟨fun d => ((List.range n).map fun i => Value.bool (d i)).toArray, ?_, ?_, ?_, ?_, fun d i h => cBn_at n d h, fun d i => cBn_set n d i⟩
 · show P (((List.range n).map fun _ => Value.bool false).toArray); rw [← cBn_zero]; exact hP
 · simp
 · intro h; have := congrArg Array.size h
   simp at this
   omega
 · show (((List.range n).map fun _ => Value.bool false).toArray).all (·.oneCell') = true; rw [← cBn_zero]; exact cBn_one n
theorem cA_zero (w : World) : Sem.run Try.prog (zeroValue 137) w = Result.ok (.agg (Array.replicate 4608 (.bool false))) w := by kernel_rfl
theorem cB_ex : ∃ CB : (Nat → Bool) → Array Value, (∀ w : World, Sem.run Try.prog (zeroValue 137) w = Result.ok (.agg (CB fun _ => false)) w) ∧ (CB fun _ => false).size = 4608 ∧ (¬ (CB fun _ => false) = #[]) ∧ (CB fun _ => false).all (·.oneCell') = true ∧ (∀ (d : Nat → Bool) (i : Nat), i < 4608 → (CB d)[i]? = some (.bool (d i))) ∧ (∀ (d : Nat → Bool) (i : Nat), (CB d).setIfInBounds i (.bool true) = CB (setB d i)) :=
 cBn_ex 4608 (Nat.succ_pos _) (fun z => ∀ w : World, Sem.run Try.prog (zeroValue 137) w = Result.ok (.agg z) w) cA_zero
theorem below_more {n g : Nat} {w W W' : World} (h : Below n w W) (k : Below g W W') (hg : n ≤ g) : Below n w W' := h.trans (k.mono hg)
mutual
def impl_isPlan.j0 : Nat → Bool → Int → Int → List (S36) → Option (Bool)
 | 0, _, _, _, _ => none
 | k + 1, x36, x146000, x146001, x146002 => if x36 = true then (some false) else (impl_isPlan.l0 k 0 x146002 (x146002.length : Int) 0 x146000 x146001 x146002 (fun _ => false))
def impl_isPlan.l0 : Nat → Int → List (S36) → Int → Int → Int → Int → List (S36) → (Nat → Bool) → Option (Bool)
 | 0, _, _, _, _, _, _, _, _ => none
 | k + 1, x6, x39, x40, x41, x146000, x146001, x146002, x152000 => if x41 < x40 then (if 0 ≤ x41 then (if x41 < (x39.length : Int) then ((impl_isStep.f ((rd_T36 x39 x41).f0) ((rd_T36 x39 x41).f1) ((rd_T36 x39 x41).f2) x146001).bind fun t154 => (if t154 = true then (if x41 > 0 then (if 0 ≤ (wrap64 (x41 - 1)) then (if (wrap64 (x41 - 1)) < (x146002.length : Int) then (impl_isPlan.j2 k x6 x39 x40 x41 (decide (((rd_T36 x146002 (wrap64 (x41 - 1))).f0) > ((rd_T36 x39 x41).f0))) x146000 x146001 x146002 x152000 ((rd_T36 x39 x41).f0) ((rd_T36 x39 x41).f1) ((rd_T36 x39 x41).f2)) else (none)) else (none)) else (impl_isPlan.j2 k x6 x39 x40 x41 false x146000 x146001 x146002 x152000 ((rd_T36 x39 x41).f0) ((rd_T36 x39 x41).f1) ((rd_T36 x39 x41).f2))) else (impl_isPlan.j2 k x6 x39 x40 x41 true x146000 x146001 x146002 x152000 ((rd_T36 x39 x41).f0) ((rd_T36 x39 x41).f1) ((rd_T36 x39 x41).f2)))) else (none)) else (none)) else (if 0 ≤ x146001 then (some (x6 == (wrap64 (Int.tdiv (shl .i64 x146001 x146001) 2)))) else (none))
def impl_isPlan.j2 : Nat → Int → List (S36) → Int → Int → Bool → Int → Int → List (S36) → (Nat → Bool) → Int → Int → Int → Option (Bool)
 | 0, _, _, _, _, _, _, _, _, _, _, _, _ => none
 | k + 1, x6, x39, x40, x41, x66, x146000, x146001, x146002, x152000, x154000, x154001, x154002 => if x66 = true then (some false) else (impl_isPlan.l1 k x6 x154001 x39 x40 x41 x146000 x146001 x146002 x152000 x154000 x154001 x154002)
def impl_isPlan.l1 : Nat → Int → Int → List (S36) → Int → Int → Int → Int → List (S36) → (Nat → Bool) → Int → Int → Int → Option (Bool)
 | 0, _, _, _, _, _, _, _, _, _, _, _, _ => none
 | k + 1, x6, x9, x39, x40, x41, x146000, x146001, x146002, x152000, x154000, x154001, x154002 => if x9 < x154002 then (if 0 ≤ x154000 then (if x154000 < 9 then (if 0 ≤ x9 then (if x9 < 512 then (if x152000 (x154000.toNat * 512 + x9.toNat) = true then (some false) else (impl_isPlan.l1 k (wrap64 (x6 + 1)) (wrap64 (x9 + 1)) x39 x40 x41 x146000 x146001 x146002 (setB x152000 (x154000.toNat * 512 + x9.toNat)) x154000 x154001 x154002)) else (none)) else (none)) else (none)) else (none)) else (impl_isPlan.l0 k x6 x39 x40 (wrap64 (x41 + 1)) x146000 x146001 x146002 x152000)
end
def impl_isPlan.f (k : Nat) (a0_0 : Int) (a0_1 : Int) (l0_2 : List (S36)) : Option (Bool) := (impl_fieldOf.f a0_0).bind fun bt146 => (if bt146.2.2.2 = true then (if a0_1 < 0 then (impl_isPlan.j0 k true a0_0 a0_1 l0_2) else (if a0_1 > (mn 9 bt146.2.2.1) then (impl_isPlan.j0 k true a0_0 a0_1 l0_2) else (impl_isPlan.j0 k (decide ((l0_2.length : Int) > 600)) a0_0 a0_1 l0_2))) else (impl_isPlan.j0 k true a0_0 a0_1 l0_2))
theorem impl_isPlan.mono_l : ∀ k, (∀ y0 y1 y2 y3, LeO (impl_isPlan.j0 k y0 y1 y2 y3) (impl_isPlan.j0 (k + 1) y0 y1 y2 y3)) ∧ (∀ y0 y1 y2 y3 y4 y5 y6 y7, LeO (impl_isPlan.l0 k y0 y1 y2 y3 y4 y5 y6 y7) (impl_isPlan.l0 (k + 1) y0 y1 y2 y3 y4 y5 y6 y7)) ∧ (∀ y0 y1 y2 y3 y4 y5 y6 y7 y8 y9 y10 y11, LeO (impl_isPlan.j2 k y0 y1 y2 y3 y4 y5 y6 y7 y8 y9 y10 y11) (impl_isPlan.j2 (k + 1) y0 y1 y2 y3 y4 y5 y6 y7 y8 y9 y10 y11)) ∧ (∀ y0 y1 y2 y3 y4 y5 y6 y7 y8 y9 y10 y11, LeO (impl_isPlan.l1 k y0 y1 y2 y3 y4 y5 y6 y7 y8 y9 y10 y11) (impl_isPlan.l1 (k + 1) y0 y1 y2 y3 y4 y5 y6 y7 y8 y9 y10 y11))
 | 0 => ⟨fun _ _ _ _ r h => by simp [impl_isPlan.j0] at h, fun _ _ _ _ _ _ _ _ r h => by simp [impl_isPlan.l0] at h, fun _ _ _ _ _ _ _ _ _ _ _ _ r h => by simp [impl_isPlan.j2] at h, fun _ _ _ _ _ _ _ _ _ _ _ _ r h => by simp [impl_isPlan.l1] at h⟩
 | k + 1 => by
  obtain ⟨ih0, ih1, ih2, ih3⟩ := impl_isPlan.mono_l k; refine ⟨?_, ?_, ?_, ?_⟩
  · intro y0 y1 y2 y3; unfold impl_isPlan.j0; exact xq42
  · intro y0 y1 y2 y3 y4 y5 y6 y7; unfold impl_isPlan.l0; exact xq42
  · intro y0 y1 y2 y3 y4 y5 y6 y7 y8 y9 y10 y11; unfold impl_isPlan.j2; exact xq42
  · intro y0 y1 y2 y3 y4 y5 y6 y7 y8 y9 y10 y11; unfold impl_isPlan.l1; exact xq42
theorem impl_isPlan.mono : ∀ a0 a1 a2 k, LeO (impl_isPlan.f k a0 a1 a2) (impl_isPlan.f (k + 1) a0 a1 a2) := by
 intro a0 a1 a2 k; obtain ⟨b0, b1, b2, b3⟩ := impl_isPlan.mono_l k
 unfold impl_isPlan.f
 exact (by repeat' (with_reducible first | exact b0 _ _ _ _ | exact b1 _ _ _ _ _ _ _ _ | exact b2 _ _ _ _ _ _ _ _ _ _ _ _ | exact b3 _ _ _ _ _ _ _ _ _ _ _ _ | exact LeO.refl _ | exact LeO.none _ | refine LeO.ite ?_ ?_ | refine LeO.bind ?_ (fun _ => ?_)))
def impl_isPlan.T9 : Bool × List (List Nat × List Nat) := (true, [([], []), ([], []), ([1], [1]), ([0, 2], [0, 2]), ([3], [3]), ([4, 3], [4]), ([5], [5]), ([6, 5], [5, 6]), ([7, 5, 5], [5, 7]), ([8], [8]), ([9, 8], [8, 9]), ([8], [8]), ([11, 8], [8, 11]), ([10, 12, 8], [8, 10, 12]), ([13, 8], [8, 13]), ([14, 8], [8, 14]), ([8], [8]), ([16, 8], [8, 16]), ([15, 17, 8], [8, 15, 17]), ([8, 18, 5], [5, 8, 18]), ([5, 19], [5, 19])])
def impl_isPlan.B9 : List Nat := [0, 0, 2, 7, 15, 31, 63, 127, 255, 511, 1023, 511, 2559, 8191, 16383, 32767, 511, 66047, 262143, 524287, 1048575]
theorem impl_isPlan.tab9 : rtab .any (opsOf Try.f72 9) = impl_isPlan.T9 := by kernel_rfl
theorem impl_isPlan.bits9 : waitsOk impl_isPlan.T9.2 impl_isPlan.B9 = true := by kernel_rfl
set_option maxHeartbeats 8000000 in
set_option maxRecDepth 100000 in
theorem impl_isPlan.calls (k : Nat) (a0_0 : Int) (a0_1 : Int) (A0_2 : Option Addr) (c0_2 : Nat) (l0_2 : List (S36)) (r : Bool) (w : World) (hr0_2 : Kd.C k36 w A0_2 l0_2.length l0_2) (hc0_2 : l0_2.length ≤ c0_2) (h : impl_isPlan.f k a0_0 a0_1 l0_2 = some r) :
 Calls Try.prog 72 #[.agg #[.int .i64 a0_0, .int .i64 a0_1, .slice A0_2 l0_2.length c0_2]] w fun e w' => e = .returned (.bool r) ∧ Below w.heap.size w w' := by
 have B0 := Try.underlying26; have B2 := Try.underlying95; have B4 := Try.underlying137; have Ba := Try.underlying36; obtain ⟨CB, hzv, hzs, hzn, m1, CBat, CBset⟩ := cB_ex; have HZs := ak hzs; have M0 := ak m1; have HCat := ak CBat; have HCset := ak CBset; clear hzs m1 CBat CBset; have g0 := ak hr0_2; have x0 := ak hc0_2; clear hr0_2 hc0_2; have HB := ak (Below.refl w.heap.size w); have H : ((impl_fieldOf.f a0_0).bind fun U0 => (if U0.2.2.2 = true then (if a0_1 < 0 then (impl_isPlan.j0 k true a0_0 a0_1 l0_2) else (if a0_1 > (mn 9 U0.2.2.1) then (impl_isPlan.j0 k true a0_0 a0_1 l0_2) else (impl_isPlan.j0 k (decide ((l0_2.length : Int) > 600)) a0_0 a0_1 l0_2))) else (impl_isPlan.j0 k true a0_0 a0_1 l0_2))) = some r := h; clear h; replace H := Option.bind_eq_some_iff.mp H; obtain ⟨⟨z0, z1, z2, z3⟩, Z0, H⟩ := H; (try dsimp only at H); have A2 := ak Z0; clear Z0; have x1 := ak H; clear H; go_enter Try.func72, Try.ntmps72
 go_upto_region 2 with (first | ((with_reducible refine gate_dst (N := 1) rfl ?_); (try (refine gate_guard (by rfl) ?_; dsimp only)); refine boxA 1 #[.int .i64 a0_0, .int .i64 a0_1, .slice A0_2 l0_2.length c0_2] 26 ?_; intro c0 hg w4 hbox hb; have C0 := ak hbox; have y0 := leA (w := w) hg; have Y0 := leA (w := w) hg; replace HB := bS hb; clear hb hbox hg; obtain ⟨_, _, _, _, _, _⟩ := cel3 C0) | ((with_reducible refine gate_callee (f := 84) rfl ?_); refine goB 13 Try.func84 #[.int .i64 a0_0] rfl ?_; (with_reducible refine (impl_fieldOf.calls a0_0 z0 z1 z2 z3 _ A2.out).mono ?_); rintro e w6 ⟨rfl, hb⟩; refine ⟨_, rfl, ?_⟩; replace C0 := bB C0 hb; replace HB := bS hb; (try clear hb)) | ((with_reducible refine gate_dst (N := 3) rfl ?_); (try (refine gate_guard (by rfl) ?_; dsimp only)); refine boxA 3 #[.int .i64 0, .int .i64 0, .int .i64 0] 95 ?_; intro c1 hg w7 hbox hb; have C1 := ak hbox; have y1 := leA (w := w) hg; have Y1 := leA (w := w) hg; have i0 := neL hg C0; have i1 := neG hg C0; replace C0 := bB C0 hb; replace HB := bS hb; clear hb hbox hg; have I0 := i1.out; have j3 := i0.out; obtain ⟨_, _, _, _, _, _⟩ := cel3 C1))
 (try simp only [Act.put, sa, sb, sc])
 go_cut [36] (fun d0 wc => ∃ (kq : Nat) (W0 : Bool), d0 = .bool W0 ∧ Aside0 (impl_isPlan.j0 kq W0 a0_0 a0_1 l0_2 = some r) ∧ Aside0 (kq ≤ k) ∧ Aside0 (wc.heap[c0]? = some (.cells #[.int .i64 a0_0, .int .i64 a0_1, (.slice A0_2 l0_2.length c0_2)] 26 (0, 0))) ∧ Aside0 (wc.heap[c1]? = some (.cells #[.int .i64 z0, .int .i64 z1, .int .i64 z2] 95 (0, 0))) ∧ Aside0 (Below w.heap.size w wc))
 case first =>
  have H := x1.out; clear x1
  by_cases c10 : z3 = true; rotate_left
  · replace c10 := Bool.eq_false_iff.mpr c10; subst c10; have H1 : (impl_isPlan.j0 k true a0_0 a0_1 l0_2) = some r := by rw [if_neg (show ¬ (false = true) by decide)] at H; exact H
    clear H; have H := H1; clear H1; have H' := ak H; clear H; go_wp2
    go_meet
    case rel => exact ⟨_, (true), eqA, H', ⟨xq11⟩, ⟨xq18⟩, ⟨xq24⟩, ⟨belA⟩⟩
  subst c10; have H1 : (if a0_1 < 0 then (impl_isPlan.j0 k true a0_0 a0_1 l0_2) else (if a0_1 > (mn 9 z2) then (impl_isPlan.j0 k true a0_0 a0_1 l0_2) else (impl_isPlan.j0 k (decide ((l0_2.length : Int) > 600)) a0_0 a0_1 l0_2))) = some r := by rw [if_pos rfl] at H; exact H
  clear H; have H := H1; clear H1
  by_cases N0 : a0_1 < 0
  · rw [if_pos N0] at H; have N1 := decide_eq_true N0; clear N0; (first | rw [N1] | (simp only [i64_w, i32_w]; rw [N1]) | skip)
    have H' := ak H; clear H; have I1 := i0.out; have j5 := i1.out; obtain ⟨_, _, _, _, _, _⟩ := cel3 C0; go_wp2
    go_meet
    case rel => exact ⟨_, (true), eqA, H', ⟨xq11⟩, ⟨xq18⟩, ⟨xq24⟩, ⟨belA⟩⟩
  rw [if_neg N0] at H; have N1 := decide_eq_false N0; clear N0; (first | rw [N1] | (simp only [i64_w, i32_w]; rw [N1]) | skip)
  obtain ⟨J0, G0⟩ : ∃ j_ : Int, (mn 9 z2) = j_ := ⟨_, rfl⟩; replace H : (if a0_1 > (J0) then (impl_isPlan.j0 k true a0_0 a0_1 l0_2) else (impl_isPlan.j0 k (decide ((l0_2.length : Int) > 600)) a0_0 a0_1 l0_2)) = some r := by first | (rw [G0] at H; exact H) | (simp only [G0] at H ⊢; exact H)
  (try (have hji14h : J0 ≤ 9 := by (rw [← G0]; unfold mn; (repeat' split) <;> omega)))
  (try (have hji14g : J0 ≤ 64 := by omega))
  have G1 : (if z2 < 9 then z2 else 9) = J0 := G0
  by_cases N2 : a0_1 > (J0)
  · rw [if_pos N2] at H; have N3 : decide ((J0) < a0_1) = true := decide_eq_true N2; clear N2; have H' := ak H; clear H; have I2 := i0.out; have j6 := i1.out; obtain ⟨_, _, _, _, _, _⟩ := cel3 C0; obtain ⟨_, _, _, _, _, _⟩ := cel3 C1; go_wp2
    go_meet
    case rel => exact ⟨_, (true), eqA, H', ⟨xq11⟩, ⟨xq18⟩, ⟨xq24⟩, ⟨belA⟩⟩
  rw [if_neg N2] at H; have N3 : decide ((J0) < a0_1) = false := decide_eq_false N2; clear N2; have H' := ak H; clear H; have I3 := i0.out; have j7 := i1.out; obtain ⟨_, _, _, _, _, _⟩ := cel3 C0; obtain ⟨_, _, _, _, _, _⟩ := cel3 C1; go_wp2
  go_meet
  case rel => exact ⟨_, (decide ((l0_2.length : Int) > 600)), eqA, H', ⟨xq11⟩, ⟨xq18⟩, ⟨xq24⟩, ⟨belA⟩⟩
 case rest =>
  clear x1; obtain ⟨kq, W0, rfl, HA, t0, C0, C1, HB⟩ := hcut
  cases kq with
  | zero => exact absurd HA.out (by simp [impl_isPlan.j0])
  | succ g1 =>
   have H := HA.out; clear HA; simp only [impl_isPlan.j0] at H
   by_cases N4 : W0 = true
   · subst N4; have H1 : (some false) = some r := by rw [if_pos rfl] at H; exact H
     clear H; have H := H1; clear H1; obtain rfl := Option.some.inj H; go_wp2
     go_ret
     exact ⟨xq65, belA⟩
   replace N4 := Bool.eq_false_iff.mpr N4; subst N4; have H1 : (impl_isPlan.l0 g1 0 l0_2 (l0_2.length : Int) 0 a0_0 a0_1 l0_2 (fun _ => false)) = some r := by rw [if_neg (show ¬ (false = true) by decide)] at H; exact H
   clear H; have H := H1; clear H1; have H' := ak H; clear H; go_wp2_with (first | ((with_reducible refine gate_dst (N := 5) rfl ?_); (try (refine gate_guard (by rfl) ?_; dsimp only)); refine box_event ?hg (N := 5) ?hd (cs := CB fun _ => false) (t := 137) ?hr ?_; (case hd => rfl); (case hg => rfl); (case hr => exact xq4); intro ca hg k0 hbox hb; have C2 := ak hbox; have y2 := leA (w := w) hg; have Y2 := leA (w := w) hg; have i2 := neL hg C0; have i3 := neG hg C0; have i4 := neL hg C1; have i5 := neG hg C1; replace C0 := bB C0 hb; replace C1 := bB C1 hb; replace HB := bS hb; clear hb hbox hg) | ((with_reducible refine gate_store (t := 137) (p := 5) rfl ?_); refine lit_event ?hg 137 (.tmp 5) (.tmp 37) ?ho _ (CB fun _ => false) ?hx ?hy 137 _ C2.out ?hi ?hold ?h1 ?hN ?_; (case hg => rfl); (case ho => rfl); (case hx => rfl); (case hy => rfl); (case hi => rw [HZs.out]; kernel_rfl); (case hold => rfl); (case h1 => exact M0.out); (case hN => rfl); intro k1 hbox hk hb; replace C0 := ak (hk.blk C0.out i2.out (by simp)); replace C1 := ak (hk.blk C1.out i4.out (by simp)); replace HB := ak (below_more HB.out hb Y2.out); replace C2 := ak hbox; clear hb hk hbox; obtain ⟨_, _, _, _, _, _⟩ := cel3 C0))
   go_loopg [6, 41] g1 (fun kq v6 d1 w' => ∃ (W1 : Int) (W2 : Int) (W3 : Nat → Bool), v6 = .int .i64 W1 ∧ d1 = .int .i64 W2 ∧ Aside0 (impl_isPlan.l0 kq W1 l0_2 (l0_2.length : Int) W2 a0_0 a0_1 l0_2 W3 = some r) ∧ Aside0 (kq ≤ g1) ∧ Aside0 (w'.heap[c0]? = some (.cells #[.int .i64 a0_0, .int .i64 a0_1, (.slice A0_2 l0_2.length c0_2)] 26 (0, 0))) ∧ Aside0 (w'.heap[c1]? = some (.cells #[.int .i64 z0, .int .i64 z1, .int .i64 z2] 95 (0, 0))) ∧ Aside0 (w'.heap[ca]? = some (.cells (CB W3) 137 (0, 0))) ∧ Aside0 (Below w.heap.size w w'))
   case atStart => exact ⟨(0), (0), (fun _ => false), eqA, eqA, H', ⟨Nat.le_refl _⟩, ⟨blkA⟩, ⟨blkA⟩, ⟨blkA⟩, ⟨belA⟩⟩
   case round =>
    clear H'; obtain ⟨W1, W2, W3, rfl, rfl, HA, n1, C0, C1, C2, HB⟩ := hrel
    cases gk with
    | zero => exact absurd HA.out (by simp [impl_isPlan.l0])
    | succ k2 =>
     have H := HA.out; clear HA; simp only [impl_isPlan.l0] at H
     by_cases N5 : W2 < (l0_2.length : Int); rotate_left
     · rw [if_neg N5] at H; have N6 := decide_eq_false N5; clear N5
       by_cases N7 : 0 ≤ a0_1; rotate_left
       · rw [if_neg N7] at H; exact absurd H (by simp)
       rw [if_pos N7] at H; have N8 := eq_true N7; have N9 : decide (0 ≤ a0_1) = true := decide_eq_true N7; clear N7; obtain ⟨J1, G2⟩ : ∃ j_ : Int, (shl .i64 a0_1 a0_1) = j_ := ⟨_, rfl⟩; replace H : (some (W1 == (wrap64 (Int.tdiv (J1) 2)))) = some r := by first | (rw [G2] at H; exact H) | (simp only [G2] at H ⊢; exact H)
       have G3 : (IntKind.i64.wrap (a0_1 * 2 ^ min a0_1.toNat 64)) = J1 := G2; have hji79z : a0_1 ≤ 64 → (IntKind.i64.wrap (a0_1 * 2 ^ a0_1.toNat)) = J1 := shl_small G2; have hji79y : (wrap64 (a0_1 * 2 ^ min a0_1.toNat 64)) = J1 := (i64_w _).symm.trans G3; have hji79x : a0_1 ≤ 64 → (wrap64 (a0_1 * 2 ^ a0_1.toNat)) = J1 := fun h_ => (i64_w _).symm.trans (hji79z h_)
       obtain rfl := Option.some.inj H; have I4 := i0.out; have j8 := i1.out; have I5 := i2.out; have j9 := i3.out; obtain ⟨_, _, _, _, _, _⟩ := cel3 C0; go_wp2
       go_ret
       exact ⟨by first | rfl | (simp [errW_none, errW_some] <;> rfl) | (simp only [← G2]; first | rfl | (simp [errW_none, errW_some] <;> rfl)) | (simp [*, errW_none, errW_some] <;> rfl), belA⟩
     rw [if_pos N5] at H; have N6 := decide_eq_true N5; clear N5
     by_cases Na : 0 ≤ W2; rotate_left
     · rw [if_neg Na] at H; exact absurd H (by simp)
     rw [if_pos Na] at H; have Nb := decide_eq_true Na; clear Na
     by_cases Nc : W2 < (l0_2.length : Int); rotate_left
     · rw [if_neg Nc] at H; exact absurd H (by simp)
     rw [if_pos Nc] at H; have Nd := decide_eq_true Nc; clear Nc; have x2 := ak H; clear H; have v0 : 0 ≤ (W2 : Int) := odA; have V0 : W2 < (l0_2.length : Int) := odA; obtain ⟨a5, A0, o0, o1, o2⟩ := at_T36 g0.out W2 v0 V0
     cases A0
     try replace o0 := cB HB o0
     try replace o1 := cB HB o1
     try replace o2 := cB HB o2
     replace v0 := eq_true v0; replace V0 := eq_true V0; go_upto_region 9 with (first | ((with_reducible refine gate_dst (N := 8) rfl ?_); (try (refine gate_guard (by rfl) ?_; dsimp only)); refine boxA 8 #[.int .i64 0, .int .i64 0, .int .i64 0] 36 ?_; intro cb hg k3 hbox hb; have C3 := ak hbox; have y3 := leA (w := w) hg; have Y3 := leA (w := w) hg; have i6 := neL hg C0; have i7 := neG hg C0; have i8 := neL hg C1; have i9 := neG hg C1; have ia := neL hg C2; have ib := neG hg C2; replace C0 := bB C0 hb; replace C1 := bB C1 hb; replace C2 := bB C2 hb; replace HB := bS hb; clear hb hbox hg; have I6 := i7.out; have ja := i6.out; have I7 := i9.out; have jb := i8.out; have I8 := ib.out; have jc := ia.out; obtain ⟨_, _, _, _, _, _⟩ := cel3 C3))
     (try simp only [Act.put, sa, sb, sc])
     go_cut [66] (fun d2 wc => ∃ (kq : Nat) (W4 : Bool), d2 = .bool W4 ∧ Aside0 (impl_isPlan.j2 kq W1 l0_2 (l0_2.length : Int) W2 W4 a0_0 a0_1 l0_2 W3 ((rd_T36 l0_2 W2).f0) ((rd_T36 l0_2 W2).f1) ((rd_T36 l0_2 W2).f2) = some r) ∧ Aside0 (kq ≤ k2) ∧ Aside0 (wc.heap[c0]? = some (.cells #[.int .i64 a0_0, .int .i64 a0_1, (.slice (some a5) l0_2.length c0_2)] 26 (0, 0))) ∧ Aside0 (wc.heap[c1]? = some (.cells #[.int .i64 z0, .int .i64 z1, .int .i64 z2] 95 (0, 0))) ∧ Aside0 (wc.heap[ca]? = some (.cells (CB W3) 137 (0, 0))) ∧ Aside0 (wc.heap[cb]? = some (.cells #[.int .i64 ((rd_T36 l0_2 W2).f0), .int .i64 ((rd_T36 l0_2 W2).f1), .int .i64 ((rd_T36 l0_2 W2).f2)] 36 (0, 0))) ∧ Aside0 (Below w.heap.size w wc))
     case first =>
      have H := x2.out; clear x2; replace H := Option.bind_eq_some_iff.mp H; obtain ⟨z4, Z1, H⟩ := H; (try dsimp only at H); have Z2 := ak Z1; clear Z1
      by_cases Ne : z4 = true; rotate_left
      · replace Ne := Bool.eq_false_iff.mpr Ne; subst Ne; have H1 : (impl_isPlan.j2 k2 W1 l0_2 (l0_2.length : Int) W2 true a0_0 a0_1 l0_2 W3 ((rd_T36 l0_2 W2).f0) ((rd_T36 l0_2 W2).f1) ((rd_T36 l0_2 W2).f2)) = some r := by rw [if_neg (show ¬ (false = true) by decide)] at H; exact H
        clear H; have H := H1; clear H1; have H' := ak H; clear H; try go_wp2
        generalize hw_ : (((k3.setCell ⟨cb, 0, none⟩ (.int .i64 ((rd_T36 l0_2 W2).f0))).setCell ⟨cb, 1, none⟩ (.int .i64 ((rd_T36 l0_2 W2).f1))).setCell ⟨cb, 2, none⟩ (.int .i64 ((rd_T36 l0_2 W2).f2))) = k5; have x3 : Aside0 (k5.heap[c0]? = some (.cells #[.int .i64 a0_0, .int .i64 a0_1, .slice (some a5) l0_2.length c0_2] 26 (0, 0))) := ⟨xq43⟩; have x4 : Aside0 (k5.heap[c1]? = some (.cells #[.int .i64 z0, .int .i64 z1, .int .i64 z2] 95 (0, 0))) := ⟨xq44⟩; have x5 : Aside0 (k5.heap[ca]? = some (.cells (CB W3) 137 (0, 0))) := ⟨xq45⟩; have x6 : Aside0 (k5.heap[cb]? = some (.cells #[.int .i64 ((rd_T36 l0_2 W2).f0), .int .i64 ((rd_T36 l0_2 W2).f1), .int .i64 ((rd_T36 l0_2 W2).f2)] 36 (0, 0))) := ⟨xq66⟩; have x7 : Aside0 (Below w.heap.size w k5) := ⟨by rw [← hw_]; exact belA⟩; (try clear C0); (try clear C1); (try clear C2); (try clear C3); (try clear HB); clear hw_; have C0 := x3; have C1 := x4; have C2 := x5; have C3 := x6; have HB := x7; clear x3 x4 x5 x6 x7; replace C0 := ak (blk_drew C0.out); replace C1 := ak (blk_drew C1.out); replace C2 := ak (blk_drew C2.out); replace C3 := ak (blk_drew C3.out); replace HB := ak (below_drew1 HB.out); refine start_ (n := 21) (S := fun w' => w'.cell? ⟨cb, 0, none⟩ = some (.int .i64 ((rd_T36 l0_2 W2).f0)) ∧ w'.cell? ⟨cb, 1, none⟩ = some (.int .i64 ((rd_T36 l0_2 W2).f1)) ∧ w'.cell? ⟨cb, 2, none⟩ = some (.int .i64 ((rd_T36 l0_2 W2).f2)) ∧ w'.cell? ⟨c0, 0, none⟩ = some (.int .i64 a0_0) ∧ w'.cell? ⟨c0, 1, none⟩ = some (.int .i64 a0_1) ∧ w'.cell? ⟨c0, 2, none⟩ = some (.slice (some a5) l0_2.length c0_2)) (ds := []) _ (by kernel_rfl) rfl rfl ⟨bc C3 0, bc C3 1, bc C3 2, bc C0 0, bc C0 1, bc C0 2⟩ (fun hHeld => ?_); refine with_tabW impl_isPlan.tab9 impl_isPlan.bits9 (fun HT_ HW_ => ?_)
        generalize k5.drew = k6 at C0 C1 C2 C3 HB hHeld ⊢
        refine pR 1 47 (ba 21 2) ?_; refine tR6 0 46 (ba 21 3) ?_; refine tR6 2 48 (ba 21 7) ?_
        refine one_ (i := 3) (N := some 49) (ba 21 15) rfl rfl (one_of HT_.out (by kernel_rfl)) (by decide) (fun K hK => ?_)
        refine goes_ Try.func70 (by kernel_rfl) rfl #[.agg #[.int .i64 ((rd_T36 l0_2 W2).f0), .int .i64 ((rd_T36 l0_2 W2).f1), .int .i64 ((rd_T36 l0_2 W2).f2)], .int .i64 a0_1] (by rfl) rfl rfl xq12 ?_
        with_reducible refine (impl_isStep.calls ((rd_T36 l0_2 W2).f0) ((rd_T36 l0_2 W2).f1) ((rd_T36 l0_2 W2).f2) a0_1 false _ Z2.out).mono ?_
        rintro e k7 ⟨rfl, hb⟩
        refine ⟨_, rfl, ?_⟩
        replace C0 := bB C0 hb; replace C1 := bB C1 hb; replace C2 := bB C2 hb; replace C3 := bB C3 hb; replace HB := bS hb; (try clear hb); refine hK.out _ _ ⟨bc C3 0, bc C3 1, bc C3 2, bc C0 0, bc C0 1, bc C0 2⟩ (fun hHeld => ?_)
        clear hK K; refine nR 49 ?_; refine pR 4 50 (ba 21 31) ?_; refine pR 5 51 (ba 21 63) ?_; refine pU 6 52 (ba 21 127) ?_; refine pU 7 53 (ba 21 255) ?_; refine pU 8 54 (ba 21 511) ?_; refine pU 9 55 (ba 21 1023) ?_; refine pU 10 56 (ba 21 2047) ?_; refine pU 11 57 (ba 21 4095) ?_; refine pU 12 58 (ba 21 8191) ?_; refine pU 13 59 (ba 21 16383) ?_; refine pU 14 60 (ba 21 32767) ?_; refine pU 15 61 (ba 21 65535) ?_; refine pU 16 62 (ba 21 131071) ?_; refine pU 17 63 (ba 21 262143) ?_; refine pU 18 64 (ba 21 524287) ?_; refine pU 19 65 (ba 21 1048575) ?_; refine pR 20 66 (ba 21 2097151) ?_
        refine done_ (done_of HT_.out (by kernel_rfl)) ?_
        try go_wp2
        go_meet
        case rel => exact ⟨_, (true), eqA, H', ⟨xq67⟩, ⟨blkA⟩, ⟨blkA⟩, ⟨blkA⟩, ⟨blkA⟩, ⟨belA⟩⟩
      subst Ne; have H1 : (if W2 > 0 then (if 0 ≤ (wrap64 (W2 - 1)) then (if (wrap64 (W2 - 1)) < (l0_2.length : Int) then (impl_isPlan.j2 k2 W1 l0_2 (l0_2.length : Int) W2 (decide (((rd_T36 l0_2 (wrap64 (W2 - 1))).f0) > ((rd_T36 l0_2 W2).f0))) a0_0 a0_1 l0_2 W3 ((rd_T36 l0_2 W2).f0) ((rd_T36 l0_2 W2).f1) ((rd_T36 l0_2 W2).f2)) else (none)) else (none)) else (impl_isPlan.j2 k2 W1 l0_2 (l0_2.length : Int) W2 false a0_0 a0_1 l0_2 W3 ((rd_T36 l0_2 W2).f0) ((rd_T36 l0_2 W2).f1) ((rd_T36 l0_2 W2).f2))) = some r := by rw [if_pos rfl] at H; exact H
      clear H; have H := H1; clear H1
      by_cases Nf : W2 > 0; rotate_left
      · rw [if_neg Nf] at H; have Ng : decide (0 < W2) = false := decide_eq_false Nf; clear Nf; (first | rw [Ng] | (simp only [i64_w, i32_w]; rw [Ng]) | skip)
        have H' := ak H; clear H; try go_wp2
        generalize hw_ : (((k3.setCell ⟨cb, 0, none⟩ (.int .i64 ((rd_T36 l0_2 W2).f0))).setCell ⟨cb, 1, none⟩ (.int .i64 ((rd_T36 l0_2 W2).f1))).setCell ⟨cb, 2, none⟩ (.int .i64 ((rd_T36 l0_2 W2).f2))) = k8; have x3 : Aside0 (k8.heap[c0]? = some (.cells #[.int .i64 a0_0, .int .i64 a0_1, .slice (some a5) l0_2.length c0_2] 26 (0, 0))) := ⟨xq43⟩; have x4 : Aside0 (k8.heap[c1]? = some (.cells #[.int .i64 z0, .int .i64 z1, .int .i64 z2] 95 (0, 0))) := ⟨xq44⟩; have x5 : Aside0 (k8.heap[ca]? = some (.cells (CB W3) 137 (0, 0))) := ⟨xq45⟩; have x6 : Aside0 (k8.heap[cb]? = some (.cells #[.int .i64 ((rd_T36 l0_2 W2).f0), .int .i64 ((rd_T36 l0_2 W2).f1), .int .i64 ((rd_T36 l0_2 W2).f2)] 36 (0, 0))) := ⟨xq66⟩; have x7 : Aside0 (Below w.heap.size w k8) := ⟨by rw [← hw_]; exact belA⟩; (try clear C0); (try clear C1); (try clear C2); (try clear C3); (try clear HB); clear hw_; have C0 := x3; have C1 := x4; have C2 := x5; have C3 := x6; have HB := x7; clear x3 x4 x5 x6 x7; replace C0 := ak (blk_drew C0.out); replace C1 := ak (blk_drew C1.out); replace C2 := ak (blk_drew C2.out); replace C3 := ak (blk_drew C3.out); replace HB := ak (below_drew1 HB.out); refine start_ (n := 21) (S := fun w' => w'.cell? ⟨cb, 0, none⟩ = some (.int .i64 ((rd_T36 l0_2 W2).f0)) ∧ w'.cell? ⟨cb, 1, none⟩ = some (.int .i64 ((rd_T36 l0_2 W2).f1)) ∧ w'.cell? ⟨cb, 2, none⟩ = some (.int .i64 ((rd_T36 l0_2 W2).f2)) ∧ w'.cell? ⟨c0, 0, none⟩ = some (.int .i64 a0_0) ∧ w'.cell? ⟨c0, 1, none⟩ = some (.int .i64 a0_1) ∧ w'.cell? ⟨c0, 2, none⟩ = some (.slice (some a5) l0_2.length c0_2)) (ds := []) _ (by kernel_rfl) rfl rfl ⟨bc C3 0, bc C3 1, bc C3 2, bc C0 0, bc C0 1, bc C0 2⟩ (fun hHeld => ?_); refine with_tabW impl_isPlan.tab9 impl_isPlan.bits9 (fun HT_ HW_ => ?_)
        generalize k8.drew = k9 at C0 C1 C2 C3 HB hHeld ⊢
        refine pR 1 47 (ba 21 2) ?_; refine tR6 0 46 (ba 21 3) ?_; refine tR6 2 48 (ba 21 7) ?_
        refine one_ (i := 3) (N := some 49) (ba 21 15) rfl rfl (one_of HT_.out (by kernel_rfl)) (by decide) (fun K hK => ?_)
        refine goes_ Try.func70 (by kernel_rfl) rfl #[.agg #[.int .i64 ((rd_T36 l0_2 W2).f0), .int .i64 ((rd_T36 l0_2 W2).f1), .int .i64 ((rd_T36 l0_2 W2).f2)], .int .i64 a0_1] (by rfl) rfl rfl xq12 ?_
        with_reducible refine (impl_isStep.calls ((rd_T36 l0_2 W2).f0) ((rd_T36 l0_2 W2).f1) ((rd_T36 l0_2 W2).f2) a0_1 true _ Z2.out).mono ?_
        rintro e ka ⟨rfl, hb⟩
        refine ⟨_, rfl, ?_⟩
        replace C0 := bB C0 hb; replace C1 := bB C1 hb; replace C2 := bB C2 hb; replace C3 := bB C3 hb; replace HB := bS hb; (try clear hb); refine hK.out _ _ ⟨bc C3 0, bc C3 1, bc C3 2, bc C0 0, bc C0 1, bc C0 2⟩ (fun hHeld => ?_)
        clear hK K; refine nR 49 ?_; refine pR 4 50 (ba 21 31) ?_; refine pR 5 51 (ba 21 63) ?_; refine pR 6 52 (ba 21 127) ?_; refine pR 7 53 (ba 21 255) ?_; refine pR 8 54 (ba 21 511) ?_; refine pU 9 55 (ba 21 1023) ?_; refine pU 10 56 (ba 21 2047) ?_; refine pU 11 57 (ba 21 4095) ?_; refine pU 12 58 (ba 21 8191) ?_; refine pU 13 59 (ba 21 16383) ?_; refine pU 14 60 (ba 21 32767) ?_; refine pU 15 61 (ba 21 65535) ?_; refine pU 16 62 (ba 21 131071) ?_; refine pU 17 63 (ba 21 262143) ?_; refine pU 18 64 (ba 21 524287) ?_; refine pR 19 65 (ba 21 1048575) ?_; refine pR 20 66 (ba 21 2097151) ?_
        refine done_ (done_of HT_.out (by kernel_rfl)) ?_
        try go_wp2
        go_meet
        case rel => exact ⟨_, (false), eqA, H', ⟨xq67⟩, ⟨blkA⟩, ⟨blkA⟩, ⟨blkA⟩, ⟨blkA⟩, ⟨belA⟩⟩
      rw [if_pos Nf] at H; have Ng : decide (0 < W2) = true := decide_eq_true Nf; clear Nf; (first | rw [Ng] | (simp only [i64_w, i32_w]; rw [Ng]) | skip)
      obtain ⟨J2, G4⟩ : ∃ j_ : Int, (wrap64 (W2 - 1)) = j_ := ⟨_, rfl⟩; replace H : (if 0 ≤ (J2) then (if (J2) < (l0_2.length : Int) then (impl_isPlan.j2 k2 W1 l0_2 (l0_2.length : Int) W2 (decide (((rd_T36 l0_2 (J2)).f0) > ((rd_T36 l0_2 W2).f0))) a0_0 a0_1 l0_2 W3 ((rd_T36 l0_2 W2).f0) ((rd_T36 l0_2 W2).f1) ((rd_T36 l0_2 W2).f2)) else (none)) else (none)) = some r := by first | (rw [G4] at H; exact H) | (simp only [G4] at H ⊢; exact H)
      (try rw [G4] at Z2)
      have hji41w : (IntKind.i64.wrap (W2 - 1)) = J2 := (i64_w _).trans G4
      by_cases Nh : 0 ≤ (J2); rotate_left
      · rw [if_neg Nh] at H; exact absurd H (by simp)
      rw [if_pos Nh] at H; have Ni := decide_eq_true Nh; clear Nh
      by_cases Nj : (J2) < (l0_2.length : Int); rotate_left
      · rw [if_neg Nj] at H; exact absurd H (by simp)
      rw [if_pos Nj] at H; have Nk := decide_eq_true Nj; clear Nj; have H' := ak H; clear H; try go_wp2
      generalize hw_ : (((k3.setCell ⟨cb, 0, none⟩ (.int .i64 ((rd_T36 l0_2 W2).f0))).setCell ⟨cb, 1, none⟩ (.int .i64 ((rd_T36 l0_2 W2).f1))).setCell ⟨cb, 2, none⟩ (.int .i64 ((rd_T36 l0_2 W2).f2))) = kb; have x3 : Aside0 (kb.heap[c0]? = some (.cells #[.int .i64 a0_0, .int .i64 a0_1, .slice (some a5) l0_2.length c0_2] 26 (0, 0))) := ⟨xq43⟩; have x4 : Aside0 (kb.heap[c1]? = some (.cells #[.int .i64 z0, .int .i64 z1, .int .i64 z2] 95 (0, 0))) := ⟨xq44⟩; have x5 : Aside0 (kb.heap[ca]? = some (.cells (CB W3) 137 (0, 0))) := ⟨xq45⟩; have x6 : Aside0 (kb.heap[cb]? = some (.cells #[.int .i64 ((rd_T36 l0_2 W2).f0), .int .i64 ((rd_T36 l0_2 W2).f1), .int .i64 ((rd_T36 l0_2 W2).f2)] 36 (0, 0))) := ⟨xq66⟩; have x7 : Aside0 (Below w.heap.size w kb) := ⟨by rw [← hw_]; exact belA⟩; (try clear C0); (try clear C1); (try clear C2); (try clear C3); (try clear HB); clear hw_; have C0 := x3; have C1 := x4; have C2 := x5; have C3 := x6; have HB := x7; clear x3 x4 x5 x6 x7; replace C0 := ak (blk_drew C0.out); replace C1 := ak (blk_drew C1.out); replace C2 := ak (blk_drew C2.out); replace C3 := ak (blk_drew C3.out); replace HB := ak (below_drew1 HB.out); have v1 : 0 ≤ ((J2) : Int) := odA; have V1 : (J2) < (l0_2.length : Int) := odA; obtain ⟨a6, A1, o3, o4, o5⟩ := at_T36 g0.out (J2) v1 V1; have h0 := o5; have h2 := o4; have h3 := o3; obtain rfl : a5 = a6 := (by injection A1); try replace o3 := cB HB o3
      try replace o4 := cB HB o4
      try replace o5 := cB HB o5
      replace v1 := eq_true v1; replace V1 := eq_true V1; refine start_ (n := 21) (S := fun w' => w'.cell? ⟨cb, 0, none⟩ = some (.int .i64 ((rd_T36 l0_2 W2).f0)) ∧ w'.cell? ⟨cb, 1, none⟩ = some (.int .i64 ((rd_T36 l0_2 W2).f1)) ∧ w'.cell? ⟨cb, 2, none⟩ = some (.int .i64 ((rd_T36 l0_2 W2).f2)) ∧ w'.cell? ⟨c0, 0, none⟩ = some (.int .i64 a0_0) ∧ w'.cell? ⟨c0, 1, none⟩ = some (.int .i64 a0_1) ∧ w'.cell? ⟨c0, 2, none⟩ = some (.slice (some a5) l0_2.length c0_2) ∧ w'.cell? (a5.add (((J2)).toNat * 3)) = some (.int .i64 ((rd_T36 l0_2 (J2)).f0)) ∧ w'.cell? ⟨(a5.add (((J2)).toNat * 3)).block, (a5.add (((J2)).toNat * 3)).off + 1, none⟩ = some (.int .i64 ((rd_T36 l0_2 (J2)).f1)) ∧ w'.cell? ⟨(a5.add (((J2)).toNat * 3)).block, (a5.add (((J2)).toNat * 3)).off + 2, none⟩ = some (.int .i64 ((rd_T36 l0_2 (J2)).f2))) (ds := []) _ (by kernel_rfl) rfl rfl ⟨bc C3 0, bc C3 1, bc C3 2, bc C0 0, bc C0 1, bc C0 2, (cB HB h3), (cB HB h2), (cB HB h0)⟩ (fun hHeld => ?_); refine with_tabW impl_isPlan.tab9 impl_isPlan.bits9 (fun HT_ HW_ => ?_)
      generalize kb.drew = kc at C0 C1 C2 C3 HB o3 o4 o5 hHeld ⊢
      refine pR 1 47 (ba 21 2) ?_; refine tR9 0 46 (ba 21 3) ?_; refine tR9 2 48 (ba 21 7) ?_
      refine one_ (i := 3) (N := some 49) (ba 21 15) rfl rfl (one_of HT_.out (by kernel_rfl)) (by decide) (fun K hK => ?_)
      refine goes_ Try.func70 (by kernel_rfl) rfl #[.agg #[.int .i64 ((rd_T36 l0_2 W2).f0), .int .i64 ((rd_T36 l0_2 W2).f1), .int .i64 ((rd_T36 l0_2 W2).f2)], .int .i64 a0_1] (by rfl) rfl rfl xq12 ?_
      with_reducible refine (impl_isStep.calls ((rd_T36 l0_2 W2).f0) ((rd_T36 l0_2 W2).f1) ((rd_T36 l0_2 W2).f2) a0_1 true _ Z2.out).mono ?_
      rintro e kd ⟨rfl, hb⟩
      refine ⟨_, rfl, ?_⟩
      replace C0 := bB C0 hb; replace C1 := bB C1 hb; replace C2 := bB C2 hb; replace C3 := bB C3 hb; replace HB := bS hb; (try clear hb); refine hK.out _ _ ⟨bc C3 0, bc C3 1, bc C3 2, bc C0 0, bc C0 1, bc C0 2, (cB HB h3), (cB HB h2), (cB HB h0)⟩ (fun hHeld => ?_)
      clear hK K; refine nR 49 ?_; refine pR 4 50 (ba 21 31) ?_; refine pR 5 51 (ba 21 63) ?_; refine pR 6 52 (ba 21 127) ?_; refine pR 7 53 (ba 21 255) ?_; refine pR 8 54 (ba 21 511) ?_; refine pR 9 55 (ba 21 1023) ?_; refine pR 11 57 (ba 21 3071) ?_; refine pR 12 58 (ba 21 7167) ?_; refine pR 16 62 (ba 21 72703) ?_; refine tR9 10 56 (ba 21 73727) ?_; refine pR 13 59 (ba 21 81919) ?_; refine pR 14 60 (ba 21 98303) ?_; refine tR9 15 61 (ba 21 131071) ?_; refine tR9 17 63 (ba 21 262143) ?_; refine pR 18 64 (ba 21 524287) ?_; refine pR 19 65 (ba 21 1048575) ?_; refine pR 20 66 (ba 21 2097151) ?_
      refine done_ (done_of HT_.out (by kernel_rfl)) ?_
      try go_wp2
      go_meet
      case rel => exact ⟨_, (decide (((rd_T36 l0_2 (J2)).f0) > ((rd_T36 l0_2 W2).f0))), (by first | rfl | (simp; done) | (simp only [← G4] <;> (first | rfl | simp)) | (simp [*]; done)), H', ⟨xq67⟩, ⟨blkA⟩, ⟨blkA⟩, ⟨blkA⟩, ⟨blkA⟩, ⟨belA⟩⟩
     case rest =>
      clear x2; obtain ⟨kq, W4, rfl, HA, t1, C0, C1, C2, C3, HB⟩ := hcut
      cases kq with
      | zero => exact absurd HA.out (by simp [impl_isPlan.j2])
      | succ g2 =>
       have H := HA.out; clear HA; simp only [impl_isPlan.j2] at H
       by_cases Nl : W4 = true
       · subst Nl; have H1 : (some false) = some r := by rw [if_pos rfl] at H; exact H
         clear H; have H := H1; clear H1; obtain rfl := Option.some.inj H; go_wp2
         go_ret
         exact ⟨xq65, belA⟩
       replace Nl := Bool.eq_false_iff.mpr Nl; subst Nl; have H1 : (impl_isPlan.l1 g2 W1 ((rd_T36 l0_2 W2).f1) l0_2 (l0_2.length : Int) W2 a0_0 a0_1 l0_2 W3 ((rd_T36 l0_2 W2).f0) ((rd_T36 l0_2 W2).f1) ((rd_T36 l0_2 W2).f2)) = some r := by rw [if_neg (show ¬ (false = true) by decide)] at H; exact H
       clear H; have H := H1; clear H1; have H' := ak H; clear H; have I9 := i7.out; have jd := i6.out; have Ia := i9.out; have je := i8.out; have Ib := ib.out; have jf := ia.out; obtain ⟨_, _, _, _, _, _⟩ := cel3 C3; go_wp2
       go_loopg [6, 9] g2 (fun kq v6 v9 w' => ∃ (W5 : Int) (W6 : Int) (W7 : Nat → Bool), v6 = .int .i64 W5 ∧ v9 = .int .i64 W6 ∧ Aside0 (impl_isPlan.l1 kq W5 W6 l0_2 (l0_2.length : Int) W2 a0_0 a0_1 l0_2 W7 ((rd_T36 l0_2 W2).f0) ((rd_T36 l0_2 W2).f1) ((rd_T36 l0_2 W2).f2) = some r) ∧ Aside0 (kq ≤ g2) ∧ Aside0 (w'.heap[c0]? = some (.cells #[.int .i64 a0_0, .int .i64 a0_1, (.slice (some a5) l0_2.length c0_2)] 26 (0, 0))) ∧ Aside0 (w'.heap[c1]? = some (.cells #[.int .i64 z0, .int .i64 z1, .int .i64 z2] 95 (0, 0))) ∧ Aside0 (w'.heap[ca]? = some (.cells (CB W7) 137 (0, 0))) ∧ Aside0 (w'.heap[cb]? = some (.cells #[.int .i64 ((rd_T36 l0_2 W2).f0), .int .i64 ((rd_T36 l0_2 W2).f1), .int .i64 ((rd_T36 l0_2 W2).f2)] 36 (0, 0))) ∧ Aside0 (Below w.heap.size w w'))
       case atStart => exact ⟨(W1), (((rd_T36 l0_2 W2).f1)), (W3), eqA, eqA, H', ⟨Nat.le_refl _⟩, ⟨blkA⟩, ⟨blkA⟩, ⟨blkA⟩, ⟨blkA⟩, ⟨belA⟩⟩
       case round =>
        clear H'; obtain ⟨W5, W6, W7, rfl, rfl, HA, n2, C0, C1, C2, C3, HB⟩ := hrel
        cases gk with
        | zero => exact absurd HA.out (by simp [impl_isPlan.l1])
        | succ k4 =>
         have H := HA.out; clear HA; simp only [impl_isPlan.l1] at H
         by_cases Nm : W6 < ((rd_T36 l0_2 W2).f2); rotate_left
         · rw [if_neg Nm] at H; have Nn := decide_eq_false Nm; clear Nm; have H' := ak H; clear H; have Ic := i7.out; have jg := i6.out; have Id := i9.out; have jh := i8.out; have Ie := ib.out; have ji := ia.out; obtain ⟨_, _, _, _, _, _⟩ := cel3 C3; go_wp2
           go_roundg k4
           case measure => have := t0.out; have := n1.out; have := t1.out; have := n2.out; omega
           case rel => exact ⟨(W5), (wrap64 (W2 + 1)), (W7), eqA, eqA, H', ⟨by have := t0.out; have := n1.out; have := t1.out; have := n2.out; omega⟩, ⟨blkA⟩, ⟨blkA⟩, ⟨blkA⟩, ⟨belA⟩⟩
         rw [if_pos Nm] at H; have Nn := decide_eq_true Nm; clear Nm
         by_cases H0 : 0 ≤ ((rd_T36 l0_2 W2).f0); rotate_left
         · rw [if_neg H0] at H; exact absurd H (by simp)
         rw [if_pos H0] at H
         by_cases H2 : ((rd_T36 l0_2 W2).f0) < 9; rotate_left
         · rw [if_neg H2] at H; exact absurd H (by simp)
         rw [if_pos H2] at H
         by_cases H3 : 0 ≤ W6; rotate_left
         · rw [if_neg H3] at H; exact absurd H (by simp)
         rw [if_pos H3] at H
         by_cases H4 : W6 < 512; rotate_left
         · rw [if_neg H4] at H; exact absurd H (by simp)
         rw [if_pos H4] at H; obtain ⟨n0, S0⟩ := Int.eq_ofNat_of_zero_le H0; obtain ⟨m0, b0⟩ := Int.eq_ofNat_of_zero_le H3; have BQ := C3; rw [S0] at H0 H2 BQ; subst b0; have hlt : n0 * 512 + m0 < 4608 := by omega
         have hix : (((rd_T36 l0_2 W2).f0)).toNat * 512 + ((m0 : Int)).toNat = n0 * 512 + m0 := by rw [S0]; simp
         rw [hix] at H; have Bb : decide (0 ≤ (n0 : Int)) = true := decide_eq_true H0; have Bc : decide ((n0 : Int) < 9) = true := decide_eq_true H2; have Bd : decide (0 ≤ (m0 : Int)) = true := decide_eq_true H3; have Be : decide ((m0 : Int) < 512) = true := decide_eq_true H4; have h4 : wrap64 ((m0 : Int) + 1) = (m0 : Int) + 1 := by unfold wrap64; omega
         have w3 : ((m0 : Int) < 512) = True := eq_true H4; have W8 : ((512 : Int) ≤ (m0 : Int)) = False := eq_false (by omega); have n3 : (m0 < 512) = True := eq_true (by omega); have No : (512 ≤ m0) = False := eq_false (by omega); have w5 : ((n0 : Int) < 9) = True := eq_true H2; have W9 : ((9 : Int) ≤ (n0 : Int)) = False := eq_false (by omega); clear H0 H2 H3 H4
         by_cases Np : W7 (n0 * 512 + m0) = true
         · have Nq := Np; have H1 : (some false) = some r := by rw [if_pos Np] at H; exact H
           clear H; have H := H1; clear H1; obtain rfl := Option.some.inj H; have If := i7.out; have jj := i6.out; have Ig := i9.out; have jk := i8.out; have Ih := ib.out; have jl := ia.out; have R0 : wr.cell? ⟨cb, 0, none⟩ = some (.int .i64 (n0 : Int)) := bc BQ 0; have R1 : wr.cell? ⟨cb, 1, none⟩ = some (.int .i64 ((rd_T36 l0_2 W2).f1)) := bc C3 1; have R2 : wr.cell? ⟨cb, 2, none⟩ = some (.int .i64 ((rd_T36 l0_2 W2).f2)) := bc C3 2; have sd := blk_frozen C3.out 0; have se := blk_frozen C3.out 1; have sf := blk_frozen C3.out 2; have Ii := i3.out; have jm := i2.out; have Ij := i5.out; have jn := i4.out; have R3 : wr.cell? ⟨ca, n0 * 512 + m0, none⟩ = some (.bool true) := (blk_cell C2.out _).trans (by rw [HCat.out _ _ hlt, Np]); have sg := blk_frozen C2.out (n0 * 512 + m0); go_wp2
           go_ret
           exact ⟨xq65, belA⟩
         replace Np := Bool.eq_false_iff.mpr Np; have H1 : (impl_isPlan.l1 k4 (wrap64 (W5 + 1)) (wrap64 ((m0 : Int) + 1)) l0_2 (l0_2.length : Int) W2 a0_0 a0_1 l0_2 (setB W7 (n0 * 512 + m0)) ((rd_T36 l0_2 W2).f0) ((rd_T36 l0_2 W2).f1) ((rd_T36 l0_2 W2).f2)) = some r := by rw [if_neg (by rw [Np]; decide)] at H; exact H
         clear H; have H := H1; clear H1; have H' := ak H; clear H; have Ik := i7.out; have jo := i6.out; have Il := i9.out; have jp := i8.out; have Im := ib.out; have jq := ia.out; have R4 : wr.cell? ⟨cb, 0, none⟩ = some (.int .i64 (n0 : Int)) := bc BQ 0; have R5 : wr.cell? ⟨cb, 1, none⟩ = some (.int .i64 ((rd_T36 l0_2 W2).f1)) := bc C3 1; have R6 : wr.cell? ⟨cb, 2, none⟩ = some (.int .i64 ((rd_T36 l0_2 W2).f2)) := bc C3 2; have sh := blk_frozen C3.out 0; have si := blk_frozen C3.out 1; have sj := blk_frozen C3.out 2; have In := i3.out; have jr := i2.out; have Io := i5.out; have js := i4.out; have R7 : wr.cell? ⟨ca, n0 * 512 + m0, none⟩ = some (.bool false) := (blk_cell C2.out _).trans (by rw [HCat.out _ _ hlt, Np]); have sk := blk_frozen C2.out (n0 * 512 + m0); go_wp2
         go_roundg k4
         case measure => have := t0.out; have := n1.out; have := t1.out; have := n2.out; omega
         case rel => exact ⟨(wrap64 (W5 + 1)), (wrap64 ((m0 : Int) + 1)), (setB W7 (n0 * 512 + m0)), eqA, eqA, H', ⟨by have := t0.out; have := n1.out; have := t1.out; have := n2.out; omega⟩, ⟨xq35⟩, ⟨xq46⟩, ⟨by (with_reducible repeat (first | refine blk_drewN ?_ _ | refine blk_drew ?_ | refine blk_alloc ?_ _)); refine blk_put (cs := CB W7) ?_ (n0 * 512 + m0) _ (HCset.out _ _); (with_reducible repeat (first | refine blk_drewN ?_ _ | refine blk_drew ?_ | refine blk_alloc ?_ _)); exact C2.out⟩, ⟨by (with_reducible repeat (first | refine blk_drewN ?_ _ | refine blk_drew ?_ | refine blk_alloc ?_ _)); refine blk_far ?_ ib.out _; (with_reducible repeat (first | refine blk_drewN ?_ _ | refine blk_drew ?_ | refine blk_alloc ?_ _)); exact C3.out⟩, ⟨belA⟩⟩

end Go.Proofs.Ytbojabmpcfclhaa.PFnPlanTurned
