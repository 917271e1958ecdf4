-- Written by a program of this session (the print of the kit with contracts of this session's own added)
import Derived.Test.YtogdhclomgafdaaZFDx7
namespace Go.Proofs.Ytogdhclomgafdaa.PFnDealt
open Go.RowKit Go.Proofs.YtogdhclomgafdaaW.PrintWords Go.Proofs.YtogdhclomgafdaaW.PrintLast Go.Proofs.YtogdhclomgafdaaW.PrintMore Go.Proofs.YtogdhclomgafdaaW.PrintPack
attribute [local go_sem] max2_int min2_int max_two min_two max_three min_three max_four min_four   -- for this text's walks alone
set_option linter.unusedVariables false
set_option linter.unusedSimpArgs false

section
variable {P : Program} {ops : Array Oper} {rest : List Oper} {o : Oper} {a : Act} {Q : Exit → Act → World → Prop}
/-- A literal whose cells are known. -/
theorem build_event {W : World} (hgd : o.guard = none) (t : TypeId) (parts : Array (Nat × Operand)) (ho : o.op = .build t parts) (cells : Array Value)
 (hb : P.built t (parts.map fun (i, x) => (i, a.eval x)).toList = some cells) (h : wpList P ops Q rest (a.put o.dst (.agg cells)) W) : wpList P ops Q (o :: rest) a W := by
 refine wpList_build hgd t parts ho (by rw [hb]; rfl) ?_
 rw [hb]; exact h
/-- A whole row stored over a block that the call made. -/
theorem lit_event {W : World} (hgd : o.guard = none) (ty : TypeId) (x y : Operand) (ho : o.op = .store ty x y)
 (g : Nat) (cells : Array Value) (hx : a.eval x = .pointer (some ⟨g, 0, none⟩)) (hy : a.eval y = .agg cells)
 (t : TypeId) (old : Array Value) (hg : W.heap[g]? = some (.cells old t (0, 0))) (hi : (P.info? ty).map (·.size) = some cells.size)
 (hold : old.size = cells.size) (h1 : cells.all (·.oneCell') = true) (hN : o.dst = none)
 (h : ∀ w1, w1.heap[g]? = some (.cells cells t (0, 0)) → KeepBut W w1 g none → Below g W w1 → wpList P ops Q rest a w1) : wpList P ops Q (o :: rest) a W := by
 refine wpList_store_row hgd ty x y ho g cells hx hy t old hg hi hold h1 ?_
 rw [hN]; refine h _ (setRow_heap W g old cells t (0, 0) hg) ⟨by simp, fun i _ hne _ => setRow_other W g i cells hne⟩ ?_
 exact ⟨rfl, rfl, rfl, by simp, fun i hi => setRow_other W g i cells (by omega)⟩
end
def setB (d : Nat → Bool) (i : Nat) (j : Nat) : Bool := if j = i then true else d j
theorem cBn_at (n : Nat) (d : Nat → Bool) {i : Nat} (h : i < n) : (((List.range n).map fun i => Value.bool (d i)).toArray)[i]? = some (.bool (d i)) := by simp [h]
theorem cBn_set (n : Nat) (d : Nat → Bool) (i : Nat) : (((List.range n).map fun i => Value.bool (d i)).toArray).setIfInBounds i (.bool true) = ((List.range n).map fun j => Value.bool (setB d i j)).toArray := by
 apply Array.ext
 · simp
 · intro j h1 h2; simp at h1 h2 ⊢
   rw [List.getElem_set]
   by_cases hj : i = j
   · rw [if_pos hj, hj]; simp [setB]
   rw [if_neg hj]; simp [setB]; intro h; exact absurd h.symm hj
theorem cBn_zero (n : Nat) : Array.replicate n (Value.bool false) = ((List.range n).map fun _ => Value.bool false).toArray := by
 apply Array.ext
 · simp
 · intro j h1 h2; simp
theorem cBn_one (n : Nat) : (Array.replicate n (Value.bool false)).all (·.oneCell') = true := by
 rw [Array.all_eq_true]; intro i h; simp [Value.oneCell']
theorem cBn_ex (n : Nat) (hn : 0 < n) (P : Array Value → Prop) (hP : P (Array.replicate n (Value.bool false))) : ∃ CB : (Nat → Bool) → Array Value, P (CB fun _ => false) ∧ (CB fun _ => false).size = n ∧ (¬ (CB fun _ => false) = #[]) ∧ (CB fun _ => false).all (·.oneCell') = true ∧ (∀ (d : Nat → Bool) (i : Nat), i < n → (CB d)[i]? = some (.bool (d i))) ∧ (∀ (d : Nat → Bool) (i : Nat), (CB d).setIfInBounds i (.bool true) = CB (setB d i)) := by
 refine ⟨fun d => ((List.range n).map fun i => Value.bool (d i)).toArray, ?_, ?_, ?_, ?_, fun d i h => cBn_at n d h, fun d i => cBn_set n d i⟩
 · show P (((List.range n).map fun _ => Value.bool false).toArray); rw [← cBn_zero]; exact hP
 · simp
 · intro h; have := congrArg Array.size h
   simp at this
   omega
 · show (((List.range n).map fun _ => Value.bool false).toArray).all (·.oneCell') = true; rw [← cBn_zero]; exact cBn_one n
theorem cA_zero (w : World) : Sem.run Try.prog (zeroValue 130) w = Result.ok (.agg (Array.replicate 4608 (.bool false))) w := by kernel_rfl
theorem cB_ex : ∃ CB : (Nat → Bool) → Array Value, (∀ w : World, Sem.run Try.prog (zeroValue 130) w = Result.ok (.agg (CB fun _ => false)) w) ∧ (CB fun _ => false).size = 4608 ∧ (¬ (CB fun _ => false) = #[]) ∧ (CB fun _ => false).all (·.oneCell') = true ∧ (∀ (d : Nat → Bool) (i : Nat), i < 4608 → (CB d)[i]? = some (.bool (d i))) ∧ (∀ (d : Nat → Bool) (i : Nat), (CB d).setIfInBounds i (.bool true) = CB (setB d i)) :=
 cBn_ex 4608 (Nat.succ_pos _) (fun z => ∀ w : World, Sem.run Try.prog (zeroValue 130) w = Result.ok (.agg z) w) cA_zero
theorem below_more {n g : Nat} {w W W' : World} (h : Below n w W) (k : Below g W W') (hg : n ≤ g) : Below n w W' := h.trans (k.mono hg)
mutual
def impl_isPlan.j0 : Nat → Bool → Int → Int → List (S93) → Option (Bool)
 | 0, _, _, _, _ => none
 | k + 1, x36, x146000, x146001, x146002 => if x36 = true then (some false) else (impl_isPlan.l0 k 0 x146002 (x146002.length : Int) 0 x146000 x146001 x146002 (fun _ => false))
def impl_isPlan.l0 : Nat → Int → List (S93) → Int → Int → Int → Int → List (S93) → (Nat → Bool) → Option (Bool)
 | 0, _, _, _, _, _, _, _, _ => none
 | k + 1, x6, x39, x40, x41, x146000, x146001, x146002, x152000 => if x41 < x40 then (if 0 ≤ x41 then (if x41 < (x39.length : Int) then ((impl_isStep.f ((rd_T93 x39 x41).f0) ((rd_T93 x39 x41).f1) ((rd_T93 x39 x41).f2) x146001).bind fun t154 => (if t154 = true then (if x41 > 0 then (if 0 ≤ (wrap64 (x41 - 1)) then (if (wrap64 (x41 - 1)) < (x146002.length : Int) then (impl_isPlan.j2 k x6 x39 x40 x41 (decide (((rd_T93 x146002 (wrap64 (x41 - 1))).f0) > ((rd_T93 x39 x41).f0))) x146000 x146001 x146002 x152000 ((rd_T93 x39 x41).f0) ((rd_T93 x39 x41).f1) ((rd_T93 x39 x41).f2)) else (none)) else (none)) else (impl_isPlan.j2 k x6 x39 x40 x41 false x146000 x146001 x146002 x152000 ((rd_T93 x39 x41).f0) ((rd_T93 x39 x41).f1) ((rd_T93 x39 x41).f2))) else (impl_isPlan.j2 k x6 x39 x40 x41 true x146000 x146001 x146002 x152000 ((rd_T93 x39 x41).f0) ((rd_T93 x39 x41).f1) ((rd_T93 x39 x41).f2)))) else (none)) else (none)) else (if 0 ≤ x146001 then (some (x6 == (wrap64 (Int.tdiv (shl .i64 x146001 x146001) 2)))) else (none))
def impl_isPlan.j2 : Nat → Int → List (S93) → Int → Int → Bool → Int → Int → List (S93) → (Nat → Bool) → Int → Int → Int → Option (Bool)
 | 0, _, _, _, _, _, _, _, _, _, _, _, _ => none
 | k + 1, x6, x39, x40, x41, x66, x146000, x146001, x146002, x152000, x154000, x154001, x154002 => if x66 = true then (some false) else (impl_isPlan.l1 k x6 x154001 x39 x40 x41 x146000 x146001 x146002 x152000 x154000 x154001 x154002)
def impl_isPlan.l1 : Nat → Int → Int → List (S93) → Int → Int → Int → Int → List (S93) → (Nat → Bool) → Int → Int → Int → Option (Bool)
 | 0, _, _, _, _, _, _, _, _, _, _, _, _ => none
 | k + 1, x6, x9, x39, x40, x41, x146000, x146001, x146002, x152000, x154000, x154001, x154002 => if x9 < x154002 then (if 0 ≤ x154000 then (if x154000 < 9 then (if 0 ≤ x9 then (if x9 < 512 then (if x152000 (x154000.toNat * 512 + x9.toNat) = true then (some false) else (impl_isPlan.l1 k (wrap64 (x6 + 1)) (wrap64 (x9 + 1)) x39 x40 x41 x146000 x146001 x146002 (setB x152000 (x154000.toNat * 512 + x9.toNat)) x154000 x154001 x154002)) else (none)) else (none)) else (none)) else (none)) else (impl_isPlan.l0 k x6 x39 x40 (wrap64 (x41 + 1)) x146000 x146001 x146002 x152000)
end
def impl_isPlan.f (k : Nat) (a0_0 : Int) (a0_1 : Int) (l0_2 : List (S93)) : Option (Bool) := (impl_fieldOf.f a0_0).bind fun bt146 => (if bt146.2.2.2 = true then (if a0_1 < 0 then (impl_isPlan.j0 k true a0_0 a0_1 l0_2) else (if a0_1 > (mn 9 bt146.2.2.1) then (impl_isPlan.j0 k true a0_0 a0_1 l0_2) else (impl_isPlan.j0 k (decide ((l0_2.length : Int) > 600)) a0_0 a0_1 l0_2))) else (impl_isPlan.j0 k true a0_0 a0_1 l0_2))
theorem impl_isPlan.mono_l : ∀ k, (∀ y0 y1 y2 y3, LeO (impl_isPlan.j0 k y0 y1 y2 y3) (impl_isPlan.j0 (k + 1) y0 y1 y2 y3)) ∧ (∀ y0 y1 y2 y3 y4 y5 y6 y7, LeO (impl_isPlan.l0 k y0 y1 y2 y3 y4 y5 y6 y7) (impl_isPlan.l0 (k + 1) y0 y1 y2 y3 y4 y5 y6 y7)) ∧ (∀ y0 y1 y2 y3 y4 y5 y6 y7 y8 y9 y10 y11, LeO (impl_isPlan.j2 k y0 y1 y2 y3 y4 y5 y6 y7 y8 y9 y10 y11) (impl_isPlan.j2 (k + 1) y0 y1 y2 y3 y4 y5 y6 y7 y8 y9 y10 y11)) ∧ (∀ y0 y1 y2 y3 y4 y5 y6 y7 y8 y9 y10 y11, LeO (impl_isPlan.l1 k y0 y1 y2 y3 y4 y5 y6 y7 y8 y9 y10 y11) (impl_isPlan.l1 (k + 1) y0 y1 y2 y3 y4 y5 y6 y7 y8 y9 y10 y11))
 | 0 => ⟨fun _ _ _ _ r h => by simp [impl_isPlan.j0] at h, fun _ _ _ _ _ _ _ _ r h => by simp [impl_isPlan.l0] at h, fun _ _ _ _ _ _ _ _ _ _ _ _ r h => by simp [impl_isPlan.j2] at h, fun _ _ _ _ _ _ _ _ _ _ _ _ r h => by simp [impl_isPlan.l1] at h⟩
 | k + 1 => by
  obtain ⟨ih0, ih1, ih2, ih3⟩ := impl_isPlan.mono_l k; refine ⟨?_, ?_, ?_, ?_⟩
  · intro y0 y1 y2 y3; unfold impl_isPlan.j0; exact xq39
  · intro y0 y1 y2 y3 y4 y5 y6 y7; unfold impl_isPlan.l0; exact xq39
  · intro y0 y1 y2 y3 y4 y5 y6 y7 y8 y9 y10 y11; unfold impl_isPlan.j2; exact xq39
  · intro y0 y1 y2 y3 y4 y5 y6 y7 y8 y9 y10 y11; unfold impl_isPlan.l1; exact xq39
theorem impl_isPlan.mono : ∀ a0 a1 a2 k, LeO (impl_isPlan.f k a0 a1 a2) (impl_isPlan.f (k + 1) a0 a1 a2) := by
 intro a0 a1 a2 k; obtain ⟨ih0, ih1, ih2, ih3⟩ := impl_isPlan.mono_l k
 unfold impl_isPlan.f
 exact xq39
def impl_isPlan.T9 : Bool × List (List Nat × List Nat) := (true, [([], []), ([], []), ([1], [1]), ([0, 2], [0, 2]), ([3], [3]), ([4, 3], [4]), ([5], [5]), ([6, 5], [5, 6]), ([7, 5, 5], [5, 7]), ([8], [8]), ([9, 8], [8, 9]), ([8], [8]), ([11, 8], [8, 11]), ([10, 12, 8], [8, 10, 12]), ([13, 8], [8, 13]), ([14, 8], [8, 14]), ([8], [8]), ([16, 8], [8, 16]), ([15, 17, 8], [8, 15, 17]), ([8, 18, 5], [5, 8, 18]), ([5, 19], [5, 19])])
def impl_isPlan.B9 : List Nat := [0, 0, 2, 7, 15, 31, 63, 127, 255, 511, 1023, 511, 2559, 8191, 16383, 32767, 511, 66047, 262143, 524287, 1048575]
theorem impl_isPlan.tab9 : rtab .any (opsOf Try.f63 9) = impl_isPlan.T9 := by kernel_rfl
theorem impl_isPlan.bits9 : waitsOk impl_isPlan.T9.2 impl_isPlan.B9 = true := by kernel_rfl
set_option maxHeartbeats 8000000 in
set_option maxRecDepth 100000 in
theorem impl_isPlan.calls (k : Nat) (a0_0 : Int) (a0_1 : Int) (A0_2 : Option Addr) (c0_2 : Nat) (l0_2 : List (S93)) (r : Bool) (w : World) (hr0_2 : Kd.C k93 w A0_2 l0_2.length l0_2) (hc0_2 : l0_2.length ≤ c0_2) (h : impl_isPlan.f k a0_0 a0_1 l0_2 = some r) :
 Calls Try.prog 63 #[.agg #[.int .i64 a0_0, .int .i64 a0_1, .slice A0_2 l0_2.length c0_2]] w fun e w' => e = .returned (.bool r) ∧ Below w.heap.size w w' := by
 have hu29 := Try.underlying26; have hu47 := Try.underlying126; have hu51 := Try.underlying130; have hu37 := Try.underlying93; obtain ⟨CB, hzv, hzs, hzn, hz1, CBat, CBset⟩ := cB_ex; have HZs := ak hzs; have HZ1 := ak hz1; have HCat := ak CBat; have HCset := ak CBset; clear hzs hz1 CBat CBset; have HR0_2 := ak hr0_2; have HC0_2 := ak hc0_2; clear hr0_2 hc0_2; have HB := ak (Below.refl w.heap.size w); have H : ((impl_fieldOf.f a0_0).bind fun bt146 => (if bt146.2.2.2 = true then (if a0_1 < 0 then (impl_isPlan.j0 k true a0_0 a0_1 l0_2) else (if a0_1 > (mn 9 bt146.2.2.1) then (impl_isPlan.j0 k true a0_0 a0_1 l0_2) else (impl_isPlan.j0 k (decide ((l0_2.length : Int) > 600)) a0_0 a0_1 l0_2))) else (impl_isPlan.j0 k true a0_0 a0_1 l0_2))) = some r := h; clear h; replace H := Option.bind_eq_some_iff.mp H; obtain ⟨⟨t146, t147, t148, t149⟩, A20, H⟩ := H; (try dsimp only at H); have A2 := ak A20; clear A20; have HC3 := ak H; clear H; go_enter Try.func63, Try.ntmps63
 go_upto_region 2 with (first | ((with_reducible refine gate_dst (N := 1) rfl ?_); (try (refine gate_guard (by rfl) ?_; dsimp only)); refine boxA 1 #[.int .i64 a0_0, .int .i64 a0_1, .slice A0_2 l0_2.length c0_2] 26 ?_; intro gb145 hg w4 hbox hb; have BK145 := ak hbox; have GW145 := leA (w := w) hg; have GE145 := leA (w := w) hg; replace HB := bS hb; clear hb hbox hg; obtain ⟨_, _, _, _, _, _⟩ := cel3 BK145) | ((with_reducible refine gate_callee (f := 103) rfl ?_); refine goB 13 Try.func103 #[.int .i64 a0_0] rfl ?_; (with_reducible refine (impl_fieldOf.calls a0_0 t146 t147 t148 t149 _ A2.out).mono ?_); rintro e w6 ⟨rfl, hb⟩; refine ⟨_, rfl, ?_⟩; replace BK145 := bB BK145 hb; replace HB := bS hb; (try clear hb)) | ((with_reducible refine gate_dst (N := 3) rfl ?_); (try (refine gate_guard (by rfl) ?_; dsimp only)); refine boxA 3 #[.int .i64 0, .int .i64 0, .int .i64 0] 126 ?_; intro gb150 hg w7 hbox hb; have BK150 := ak hbox; have GW150 := leA (w := w) hg; have GE150 := leA (w := w) hg; have NB145_150 := neL hg BK145; have NB150_145 := neG hg BK145; replace BK145 := bB BK145 hb; replace HB := bS hb; clear hb hbox hg; have hnb8 := NB150_145.out; have hnc8 := NB145_150.out; obtain ⟨_, _, _, _, _, _⟩ := cel3 BK150))
 (try simp only [Act.put, sa, sb, sc])
 go_cut [36] (fun v36 wc => ∃ (kq : Nat) (x36_2 : Bool), v36 = .bool x36_2 ∧ Aside0 (impl_isPlan.j0 kq x36_2 a0_0 a0_1 l0_2 = some r) ∧ Aside0 (kq ≤ k) ∧ Aside0 (wc.heap[gb145]? = some (.cells #[.int .i64 a0_0, .int .i64 a0_1, (.slice A0_2 l0_2.length c0_2)] 26 (0, 0))) ∧ Aside0 (wc.heap[gb150]? = some (.cells #[.int .i64 t146, .int .i64 t147, .int .i64 t148] 126 (0, 0))) ∧ Aside0 (Below w.heap.size w wc))
 case first =>
  have H := HC3.out; clear HC3
  by_cases c10 : t149 = true; rotate_left
  · replace c10 := Bool.eq_false_iff.mpr c10; subst c10; have H1 : (impl_isPlan.j0 k true a0_0 a0_1 l0_2) = some r := by rw [if_neg (show ¬ (false = true) by decide)] at H; exact H
    clear H; have H := H1; clear H1; have H' := ak H; clear H; go_wp2
    go_meet
    case rel => exact ⟨_, (true), eqA, H', ⟨xq13⟩, ⟨xq48⟩, ⟨xq49⟩, ⟨belA⟩⟩
  subst c10; have H1 : (if a0_1 < 0 then (impl_isPlan.j0 k true a0_0 a0_1 l0_2) else (if a0_1 > (mn 9 t148) then (impl_isPlan.j0 k true a0_0 a0_1 l0_2) else (impl_isPlan.j0 k (decide ((l0_2.length : Int) > 600)) a0_0 a0_1 l0_2))) = some r := by rw [if_pos rfl] at H; exact H
  clear H; have H := H1; clear H1
  by_cases c11 : a0_1 < 0
  · rw [if_pos c11] at H; have c11b0 := decide_eq_true c11; clear c11; (first | rw [c11b0] | (simp only [i64_w, i32_w]; rw [c11b0]) | skip)
    have H' := ak H; clear H; have hnb12 := NB145_150.out; have hnc12 := NB150_145.out; obtain ⟨_, _, _, _, _, _⟩ := cel3 BK145; go_wp2
    go_meet
    case rel => exact ⟨_, (true), eqA, H', ⟨xq13⟩, ⟨xq48⟩, ⟨xq49⟩, ⟨belA⟩⟩
  rw [if_neg c11] at H; have c11b0 := decide_eq_false c11; clear c11; (first | rw [c11b0] | (simp only [i64_w, i32_w]; rw [c11b0]) | skip)
  obtain ⟨ji14, hji14⟩ : ∃ j_ : Int, (mn 9 t148) = j_ := ⟨_, rfl⟩; replace H : (if a0_1 > (ji14) then (impl_isPlan.j0 k true a0_0 a0_1 l0_2) else (impl_isPlan.j0 k (decide ((l0_2.length : Int) > 600)) a0_0 a0_1 l0_2)) = some r := by first | (rw [hji14] at H; exact H) | (simp only [hji14] at H ⊢; exact H)
  (try (have hji14h : ji14 ≤ 9 := by (rw [← hji14]; unfold mn; (repeat' split) <;> omega)))
  (try (have hji14g : ji14 ≤ 64 := by omega))
  have hji14_ : (if t148 < 9 then t148 else 9) = ji14 := hji14
  by_cases c15 : a0_1 > (ji14)
  · rw [if_pos c15] at H; have c15b0 : decide ((ji14) < a0_1) = true := decide_eq_true c15; clear c15; have H' := ak H; clear H; have hnb16 := NB145_150.out; have hnc16 := NB150_145.out; obtain ⟨_, _, _, _, _, _⟩ := cel3 BK145; obtain ⟨_, _, _, _, _, _⟩ := cel3 BK150; go_wp2
    go_meet
    case rel => exact ⟨_, (true), eqA, H', ⟨xq13⟩, ⟨xq48⟩, ⟨xq49⟩, ⟨belA⟩⟩
  rw [if_neg c15] at H; have c15b0 : decide ((ji14) < a0_1) = false := decide_eq_false c15; clear c15; have H' := ak H; clear H; have hnb19 := NB145_150.out; have hnc19 := NB150_145.out; obtain ⟨_, _, _, _, _, _⟩ := cel3 BK145; obtain ⟨_, _, _, _, _, _⟩ := cel3 BK150; go_wp2
  go_meet
  case rel => exact ⟨_, (decide ((l0_2.length : Int) > 600)), eqA, H', ⟨xq13⟩, ⟨xq48⟩, ⟨xq49⟩, ⟨belA⟩⟩
 case rest =>
  clear HC3; obtain ⟨kq, x36_2, rfl, HA, HJ2, BK145, BK150, HB⟩ := hcut
  cases kq with
  | zero => exact absurd HA.out (by simp [impl_isPlan.j0])
  | succ kj2 =>
   have H := HA.out; clear HA; simp only [impl_isPlan.j0] at H
   by_cases c22 : x36_2 = true
   · subst c22; have H1 : (some false) = some r := by rw [if_pos rfl] at H; exact H
     clear H; have H := H1; clear H1; obtain rfl := Option.some.inj H; go_wp2
     go_ret
     exact ⟨xq56, belA⟩
   replace c22 := Bool.eq_false_iff.mpr c22; subst c22; have H1 : (impl_isPlan.l0 kj2 0 l0_2 (l0_2.length : Int) 0 a0_0 a0_1 l0_2 (fun _ => false)) = some r := by rw [if_neg (show ¬ (false = true) by decide)] at H; exact H
   clear H; have H := H1; clear H1; have H' := ak H; clear H; go_wp2_with (first | ((with_reducible refine gate_dst (N := 5) rfl ?_); (try (refine gate_guard (by rfl) ?_; dsimp only)); refine box_event ?hg (N := 5) ?hd (cs := CB fun _ => false) (t := 130) ?hr ?_; (case hd => rfl); (case hg => rfl); (case hr => exact xq5); intro gb151 hg w23 hbox hb; have BK151 := ak hbox; have GW151 := leA (w := w) hg; have GE151 := leA (w := w) hg; have NB145_151 := neL hg BK145; have NB151_145 := neG hg BK145; have NB150_151 := neL hg BK150; have NB151_150 := neG hg BK150; replace BK145 := bB BK145 hb; replace BK150 := bB BK150 hb; replace HB := bS hb; clear hb hbox hg) | ((with_reducible refine gate_store (t := 130) (p := 5) rfl ?_); refine lit_event ?hg 130 (.tmp 5) (.tmp 37) ?ho _ (CB fun _ => false) ?hx ?hy 130 _ BK151.out ?hi ?hold ?h1 ?hN ?_; (case hg => rfl); (case ho => rfl); (case hx => rfl); (case hy => rfl); (case hi => rw [HZs.out]; kernel_rfl); (case hold => rfl); (case h1 => exact HZ1.out); (case hN => rfl); intro w24 hbox hk hb; replace BK145 := ak (hk.blk BK145.out NB145_151.out (by simp)); replace BK150 := ak (hk.blk BK150.out NB150_151.out (by simp)); replace HB := ak (below_more HB.out hb GE151.out); replace BK151 := ak hbox; clear hb hk hbox; obtain ⟨_, _, _, _, _, _⟩ := cel3 BK145))
   go_loopg [6, 41] kj2 (fun kq v6 v41 w' => ∃ (x6_2 : Int) (x41_2 : Int) (x152000_2 : Nat → Bool), v6 = .int .i64 x6_2 ∧ v41 = .int .i64 x41_2 ∧ Aside0 (impl_isPlan.l0 kq x6_2 l0_2 (l0_2.length : Int) x41_2 a0_0 a0_1 l0_2 x152000_2 = some r) ∧ Aside0 (kq ≤ kj2) ∧ Aside0 (w'.heap[gb145]? = some (.cells #[.int .i64 a0_0, .int .i64 a0_1, (.slice A0_2 l0_2.length c0_2)] 26 (0, 0))) ∧ Aside0 (w'.heap[gb150]? = some (.cells #[.int .i64 t146, .int .i64 t147, .int .i64 t148] 126 (0, 0))) ∧ Aside0 (w'.heap[gb151]? = some (.cells (CB x152000_2) 130 (0, 0))) ∧ Aside0 (Below w.heap.size w w'))
   case atStart => exact ⟨(0), (0), (fun _ => false), eqA, eqA, H', ⟨Nat.le_refl _⟩, ⟨blkA⟩, ⟨blkA⟩, ⟨blkA⟩, ⟨belA⟩⟩
   case round =>
    clear H'; obtain ⟨x6_2, x41_2, x152000_2, rfl, rfl, HA, HK2, BK145, BK150, BK151, HB⟩ := hrel
    cases gk with
    | zero => exact absurd HA.out (by simp [impl_isPlan.l0])
    | succ k2 =>
     have H := HA.out; clear HA; simp only [impl_isPlan.l0] at H
     by_cases c29 : x41_2 < (l0_2.length : Int); rotate_left
     · rw [if_neg c29] at H; have c29b0 := decide_eq_false c29; clear c29
       by_cases c78 : 0 ≤ a0_1; rotate_left
       · rw [if_neg c78] at H; exact absurd H (by simp)
       rw [if_pos c78] at H; have c78b0 := eq_true c78; have c78b1 : decide (0 ≤ a0_1) = true := decide_eq_true c78; clear c78; obtain ⟨ji79, hji79⟩ : ∃ j_ : Int, (shl .i64 a0_1 a0_1) = j_ := ⟨_, rfl⟩; replace H : (some (x6_2 == (wrap64 (Int.tdiv (ji79) 2)))) = some r := by first | (rw [hji79] at H; exact H) | (simp only [hji79] at H ⊢; exact H)
       have hji79_ : (IntKind.i64.wrap (a0_1 * 2 ^ min a0_1.toNat 64)) = ji79 := hji79; have hji79z : a0_1 ≤ 64 → (IntKind.i64.wrap (a0_1 * 2 ^ a0_1.toNat)) = ji79 := shl_small hji79; have hji79y : (wrap64 (a0_1 * 2 ^ min a0_1.toNat 64)) = ji79 := (i64_w _).symm.trans hji79_; have hji79x : a0_1 ≤ 64 → (wrap64 (a0_1 * 2 ^ a0_1.toNat)) = ji79 := fun h_ => (i64_w _).symm.trans (hji79z h_)
       obtain rfl := Option.some.inj H; have hnb80 := NB145_150.out; have hnc80 := NB150_145.out; have hnb81 := NB145_151.out; have hnc81 := NB151_145.out; obtain ⟨_, _, _, _, _, _⟩ := cel3 BK145; go_wp2
       go_ret
       exact ⟨by first | rfl | (simp [errW_none, errW_some] <;> rfl) | (simp only [← hji79]; first | rfl | (simp [errW_none, errW_some] <;> rfl)) | (simp [*, errW_none, errW_some] <;> rfl), belA⟩
     rw [if_pos c29] at H; have c29b0 := decide_eq_true c29; clear c29
     by_cases c30 : 0 ≤ x41_2; rotate_left
     · rw [if_neg c30] at H; exact absurd H (by simp)
     rw [if_pos c30] at H; have c30b0 := decide_eq_true c30; clear c30
     by_cases c31 : x41_2 < (l0_2.length : Int); rotate_left
     · rw [if_neg c31] at H; exact absurd H (by simp)
     rw [if_pos c31] at H; have c31b0 := decide_eq_true c31; clear c31; have HC32 := ak H; clear H; have p152 : 0 ≤ (x41_2 : Int) := odA; have q152 : x41_2 < (l0_2.length : Int) := odA; obtain ⟨ad152, e152, hx152_0, hx152_1, hx152_2⟩ := at_T93 HR0_2.out x41_2 p152 q152
     cases e152
     try replace hx152_0 := cB HB hx152_0
     try replace hx152_1 := cB HB hx152_1
     try replace hx152_2 := cB HB hx152_2
     replace p152 := eq_true p152; replace q152 := eq_true q152; go_upto_region 9 with (first | ((with_reducible refine gate_dst (N := 8) rfl ?_); (try (refine gate_guard (by rfl) ?_; dsimp only)); refine boxA 8 #[.int .i64 0, .int .i64 0, .int .i64 0] 93 ?_; intro gb153 hg w33 hbox hb; have BK153 := ak hbox; have GW153 := leA (w := w) hg; have GE153 := leA (w := w) hg; have NB145_153 := neL hg BK145; have NB153_145 := neG hg BK145; have NB150_153 := neL hg BK150; have NB153_150 := neG hg BK150; have NB151_153 := neL hg BK151; have NB153_151 := neG hg BK151; replace BK145 := bB BK145 hb; replace BK150 := bB BK150 hb; replace BK151 := bB BK151 hb; replace HB := bS hb; clear hb hbox hg; have hnb34 := NB153_145.out; have hnc34 := NB145_153.out; have hnb35 := NB153_150.out; have hnc35 := NB150_153.out; have hnb36 := NB153_151.out; have hnc36 := NB151_153.out; obtain ⟨_, _, _, _, _, _⟩ := cel3 BK153))
     (try simp only [Act.put, sa, sb, sc])
     go_cut [66] (fun v66 wc => ∃ (kq : Nat) (x66_31 : Bool), v66 = .bool x66_31 ∧ Aside0 (impl_isPlan.j2 kq x6_2 l0_2 (l0_2.length : Int) x41_2 x66_31 a0_0 a0_1 l0_2 x152000_2 ((rd_T93 l0_2 x41_2).f0) ((rd_T93 l0_2 x41_2).f1) ((rd_T93 l0_2 x41_2).f2) = some r) ∧ Aside0 (kq ≤ k2) ∧ Aside0 (wc.heap[gb145]? = some (.cells #[.int .i64 a0_0, .int .i64 a0_1, (.slice (some ad152) l0_2.length c0_2)] 26 (0, 0))) ∧ Aside0 (wc.heap[gb150]? = some (.cells #[.int .i64 t146, .int .i64 t147, .int .i64 t148] 126 (0, 0))) ∧ Aside0 (wc.heap[gb151]? = some (.cells (CB x152000_2) 130 (0, 0))) ∧ Aside0 (wc.heap[gb153]? = some (.cells #[.int .i64 ((rd_T93 l0_2 x41_2).f0), .int .i64 ((rd_T93 l0_2 x41_2).f1), .int .i64 ((rd_T93 l0_2 x41_2).f2)] 93 (0, 0))) ∧ Aside0 (Below w.heap.size w wc))
     case first =>
      have H := HC32.out; clear HC32; replace H := Option.bind_eq_some_iff.mp H; obtain ⟨t154, A380, H⟩ := H; (try dsimp only at H); have A38 := ak A380; clear A380
      by_cases c39 : t154 = true; rotate_left
      · replace c39 := Bool.eq_false_iff.mpr c39; subst c39; have H1 : (impl_isPlan.j2 k2 x6_2 l0_2 (l0_2.length : Int) x41_2 true a0_0 a0_1 l0_2 x152000_2 ((rd_T93 l0_2 x41_2).f0) ((rd_T93 l0_2 x41_2).f1) ((rd_T93 l0_2 x41_2).f2)) = some r := by rw [if_neg (show ¬ (false = true) by decide)] at H; exact H
        clear H; have H := H1; clear H1; have H' := ak H; clear H; try go_wp2
        generalize hw_ : (((w33.setCell ⟨gb153, 0, none⟩ (.int .i64 ((rd_T93 l0_2 x41_2).f0))).setCell ⟨gb153, 1, none⟩ (.int .i64 ((rd_T93 l0_2 x41_2).f1))).setCell ⟨gb153, 2, none⟩ (.int .i64 ((rd_T93 l0_2 x41_2).f2))) = w50; have n0_ : Aside0 (w50.heap[gb145]? = some (.cells #[.int .i64 a0_0, .int .i64 a0_1, .slice (some ad152) l0_2.length c0_2] 26 (0, 0))) := ⟨xq57⟩; have n1_ : Aside0 (w50.heap[gb150]? = some (.cells #[.int .i64 t146, .int .i64 t147, .int .i64 t148] 126 (0, 0))) := ⟨xq58⟩; have n2_ : Aside0 (w50.heap[gb151]? = some (.cells (CB x152000_2) 130 (0, 0))) := ⟨xq59⟩; have n3_ : Aside0 (w50.heap[gb153]? = some (.cells #[.int .i64 ((rd_T93 l0_2 x41_2).f0), .int .i64 ((rd_T93 l0_2 x41_2).f1), .int .i64 ((rd_T93 l0_2 x41_2).f2)] 93 (0, 0))) := ⟨xq60⟩; have n4_ : Aside0 (Below w.heap.size w w50) := ⟨by rw [← hw_]; exact belA⟩; (try clear BK145); (try clear BK150); (try clear BK151); (try clear BK153); (try clear HB); clear hw_; have BK145 := n0_; have BK150 := n1_; have BK151 := n2_; have BK153 := n3_; have HB := n4_; clear n0_ n1_ n2_ n3_ n4_; replace BK145 := ak (blk_drew BK145.out); replace BK150 := ak (blk_drew BK150.out); replace BK151 := ak (blk_drew BK151.out); replace BK153 := ak (blk_drew BK153.out); replace HB := ak (below_drew1 HB.out); refine start_ (n := 21) (S := fun w' => w'.cell? ⟨gb153, 0, none⟩ = some (.int .i64 ((rd_T93 l0_2 x41_2).f0)) ∧ w'.cell? ⟨gb153, 1, none⟩ = some (.int .i64 ((rd_T93 l0_2 x41_2).f1)) ∧ w'.cell? ⟨gb153, 2, none⟩ = some (.int .i64 ((rd_T93 l0_2 x41_2).f2)) ∧ w'.cell? ⟨gb145, 0, none⟩ = some (.int .i64 a0_0) ∧ w'.cell? ⟨gb145, 1, none⟩ = some (.int .i64 a0_1) ∧ w'.cell? ⟨gb145, 2, none⟩ = some (.slice (some ad152) l0_2.length c0_2)) (ds := []) #[false, false, false, false, false, false, false, false, false, false, false, false, false, false, false, false, false, false, false, false, false] (by kernel_rfl) rfl rfl ⟨(blk_cell BK153.out 0).trans rfl, (blk_cell BK153.out 1).trans rfl, (blk_cell BK153.out 2).trans rfl, (blk_cell BK145.out 0).trans rfl, (blk_cell BK145.out 1).trans rfl, (blk_cell BK145.out 2).trans rfl⟩ (fun hHeld => ?_); refine with_tabW impl_isPlan.tab9 impl_isPlan.bits9 (fun HT_ HW_ => ?_)
        generalize w50.drew = w51 at BK145 BK150 BK151 BK153 HB hHeld ⊢
        refine pure_ (i := 1) (N := some 47) (v := ?_) (a' := ?_) #[false, true, false, false, false, false, false, false, false, false, false, false, false, false, false, false, false, false, false, false, false] rfl rfl (any_of HT_.out (by kernel_rfl)) (fun _ _ _ h => h) (Or.inl ⟨by rfl, ?_⟩) ?_ ?_
        rotate_left
        · intro w'; go_simp
          with_reducible rfl
        rotate_left
        · simp only [Act.put, sa, sb, sc, i64_w, i32_w]
          rfl
        refine take_ (i := 0) (N := some 46) (v := ?_) (a' := ?_) #[true, true, false, false, false, false, false, false, false, false, false, false, false, false, false, false, false, false, false, false, false] rfl rfl (take_ofW HT_.out HW_.out (by kernel_rfl)) (fun _ _ _ h => h) (Or.inl ⟨by rfl, ?_⟩) hHeld ?_ ?_
        rotate_left
        · rintro w' ⟨s0, s1, s2, s3, s4, s5⟩
          go_simp
          with_reducible rfl
        rotate_left
        · simp only [Act.put, sa, sb, sc, i64_w, i32_w]
          rfl
        refine take_ (i := 2) (N := some 48) (v := ?_) (a' := ?_) #[true, true, true, false, false, false, false, false, false, false, false, false, false, false, false, false, false, false, false, false, false] rfl rfl (take_ofW HT_.out HW_.out (by kernel_rfl)) (fun _ _ _ h => h) (Or.inl ⟨by rfl, ?_⟩) hHeld ?_ ?_
        rotate_left
        · rintro w' ⟨s0, s1, s2, s3, s4, s5⟩
          go_simp
          with_reducible rfl
        rotate_left
        · simp only [Act.put, sa, sb, sc, i64_w, i32_w]
          rfl
        refine one_ (i := 3) (N := some 49) #[true, true, true, true, false, false, false, false, false, false, false, false, false, false, false, false, false, false, false, false, false] rfl rfl (one_of HT_.out (by kernel_rfl)) (by decide) (fun K hK => ?_)
        refine goes_ Try.func104 (by kernel_rfl) rfl #[.agg #[.int .i64 ((rd_T93 l0_2 x41_2).f0), .int .i64 ((rd_T93 l0_2 x41_2).f1), .int .i64 ((rd_T93 l0_2 x41_2).f2)], .int .i64 a0_1] (by rfl) rfl rfl xq24 ?_
        with_reducible refine (impl_isStep.calls ((rd_T93 l0_2 x41_2).f0) ((rd_T93 l0_2 x41_2).f1) ((rd_T93 l0_2 x41_2).f2) a0_1 false _ A38.out).mono ?_
        rintro e w52 ⟨rfl, hb⟩
        refine ⟨_, rfl, ?_⟩
        replace BK145 := bB BK145 hb; replace BK150 := bB BK150 hb; replace BK151 := bB BK151 hb; replace BK153 := bB BK153 hb; replace HB := bS hb; (try clear hb); refine hK.out _ _ ⟨(blk_cell BK153.out 0).trans rfl, (blk_cell BK153.out 1).trans rfl, (blk_cell BK153.out 2).trans rfl, (blk_cell BK145.out 0).trans rfl, (blk_cell BK145.out 1).trans rfl, (blk_cell BK145.out 2).trans rfl⟩ (fun hHeld => ?_)
        clear hK K; refine norm_ (a' := ?_) ?_ ?_
        rotate_left
        · show Act.put _ (some 49) _ = _
          simp only [Act.put, sa, sb, sc, i64_w, i32_w]
          rfl
        refine pure_ (i := 4) (N := some 50) (v := ?_) (a' := ?_) #[true, true, true, true, true, false, false, false, false, false, false, false, false, false, false, false, false, false, false, false, false] rfl rfl (any_of HT_.out (by kernel_rfl)) (fun _ _ _ h => h) (Or.inl ⟨by rfl, ?_⟩) ?_ ?_
        rotate_left
        · intro w'; go_simp
          with_reducible rfl
        rotate_left
        · simp only [Act.put, sa, sb, sc, i64_w, i32_w]
          rfl
        refine pure_ (i := 5) (N := some 51) (v := ?_) (a' := ?_) #[true, true, true, true, true, true, false, false, false, false, false, false, false, false, false, false, false, false, false, false, false] rfl rfl (any_of HT_.out (by kernel_rfl)) (fun _ _ _ h => h) (Or.inl ⟨by rfl, ?_⟩) ?_ ?_
        rotate_left
        · intro w'; go_simp
          with_reducible rfl
        rotate_left
        · simp only [Act.put, sa, sb, sc, i64_w, i32_w]
          rfl
        refine pure_ (i := 6) (N := some 52) (v := undef) (a' := ?_) #[true, true, true, true, true, true, true, false, false, false, false, false, false, false, false, false, false, false, false, false, false] rfl rfl (any_of HT_.out (by kernel_rfl)) (fun _ _ _ h => h) (Or.inr ⟨by rfl, rfl⟩) ?_ ?_
        rotate_left
        · simp only [Act.put, sa, sb, sc, i64_w, i32_w]
          rfl
        refine pure_ (i := 7) (N := some 53) (v := undef) (a' := ?_) #[true, true, true, true, true, true, true, true, false, false, false, false, false, false, false, false, false, false, false, false, false] rfl rfl (any_of HT_.out (by kernel_rfl)) (fun _ _ _ h => h) (Or.inr ⟨by rfl, rfl⟩) ?_ ?_
        rotate_left
        · simp only [Act.put, sa, sb, sc, i64_w, i32_w]
          rfl
        refine pure_ (i := 8) (N := some 54) (v := undef) (a' := ?_) #[true, true, true, true, true, true, true, true, true, false, false, false, false, false, false, false, false, false, false, false, false] rfl rfl (any_of HT_.out (by kernel_rfl)) (fun _ _ _ h => h) (Or.inr ⟨by rfl, rfl⟩) ?_ ?_
        rotate_left
        · simp only [Act.put, sa, sb, sc, i64_w, i32_w]
          rfl
        refine pure_ (i := 9) (N := some 55) (v := undef) (a' := ?_) #[true, true, true, true, true, true, true, true, true, true, false, false, false, false, false, false, false, false, false, false, false] rfl rfl (any_of HT_.out (by kernel_rfl)) (fun _ _ _ h => h) (Or.inr ⟨by rfl, rfl⟩) ?_ ?_
        rotate_left
        · simp only [Act.put, sa, sb, sc, i64_w, i32_w]
          rfl
        refine pure_ (i := 10) (N := some 56) (v := undef) (a' := ?_) #[true, true, true, true, true, true, true, true, true, true, true, false, false, false, false, false, false, false, false, false, false] rfl rfl (any_of HT_.out (by kernel_rfl)) (fun _ _ _ h => h) (Or.inr ⟨by rfl, rfl⟩) ?_ ?_
        rotate_left
        · simp only [Act.put, sa, sb, sc, i64_w, i32_w]
          rfl
        refine pure_ (i := 11) (N := some 57) (v := undef) (a' := ?_) #[true, true, true, true, true, true, true, true, true, true, true, true, false, false, false, false, false, false, false, false, false] rfl rfl (any_of HT_.out (by kernel_rfl)) (fun _ _ _ h => h) (Or.inr ⟨by rfl, rfl⟩) ?_ ?_
        rotate_left
        · simp only [Act.put, sa, sb, sc, i64_w, i32_w]
          rfl
        refine pure_ (i := 12) (N := some 58) (v := undef) (a' := ?_) #[true, true, true, true, true, true, true, true, true, true, true, true, true, false, false, false, false, false, false, false, false] rfl rfl (any_of HT_.out (by kernel_rfl)) (fun _ _ _ h => h) (Or.inr ⟨by rfl, rfl⟩) ?_ ?_
        rotate_left
        · simp only [Act.put, sa, sb, sc, i64_w, i32_w]
          rfl
        refine pure_ (i := 13) (N := some 59) (v := undef) (a' := ?_) #[true, true, true, true, true, true, true, true, true, true, true, true, true, true, false, false, false, false, false, false, false] rfl rfl (any_of HT_.out (by kernel_rfl)) (fun _ _ _ h => h) (Or.inr ⟨by rfl, rfl⟩) ?_ ?_
        rotate_left
        · simp only [Act.put, sa, sb, sc, i64_w, i32_w]
          rfl
        refine pure_ (i := 14) (N := some 60) (v := undef) (a' := ?_) #[true, true, true, true, true, true, true, true, true, true, true, true, true, true, true, false, false, false, false, false, false] rfl rfl (any_of HT_.out (by kernel_rfl)) (fun _ _ _ h => h) (Or.inr ⟨by rfl, rfl⟩) ?_ ?_
        rotate_left
        · simp only [Act.put, sa, sb, sc, i64_w, i32_w]
          rfl
        refine pure_ (i := 15) (N := some 61) (v := undef) (a' := ?_) #[true, true, true, true, true, true, true, true, true, true, true, true, true, true, true, true, false, false, false, false, false] rfl rfl (any_of HT_.out (by kernel_rfl)) (fun _ _ _ h => h) (Or.inr ⟨by rfl, rfl⟩) ?_ ?_
        rotate_left
        · simp only [Act.put, sa, sb, sc, i64_w, i32_w]
          rfl
        refine pure_ (i := 16) (N := some 62) (v := undef) (a' := ?_) #[true, true, true, true, true, true, true, true, true, true, true, true, true, true, true, true, true, false, false, false, false] rfl rfl (any_of HT_.out (by kernel_rfl)) (fun _ _ _ h => h) (Or.inr ⟨by rfl, rfl⟩) ?_ ?_
        rotate_left
        · simp only [Act.put, sa, sb, sc, i64_w, i32_w]
          rfl
        refine pure_ (i := 17) (N := some 63) (v := undef) (a' := ?_) #[true, true, true, true, true, true, true, true, true, true, true, true, true, true, true, true, true, true, false, false, false] rfl rfl (any_of HT_.out (by kernel_rfl)) (fun _ _ _ h => h) (Or.inr ⟨by rfl, rfl⟩) ?_ ?_
        rotate_left
        · simp only [Act.put, sa, sb, sc, i64_w, i32_w]
          rfl
        refine pure_ (i := 18) (N := some 64) (v := undef) (a' := ?_) #[true, true, true, true, true, true, true, true, true, true, true, true, true, true, true, true, true, true, true, false, false] rfl rfl (any_of HT_.out (by kernel_rfl)) (fun _ _ _ h => h) (Or.inr ⟨by rfl, rfl⟩) ?_ ?_
        rotate_left
        · simp only [Act.put, sa, sb, sc, i64_w, i32_w]
          rfl
        refine pure_ (i := 19) (N := some 65) (v := undef) (a' := ?_) #[true, true, true, true, true, true, true, true, true, true, true, true, true, true, true, true, true, true, true, true, false] rfl rfl (any_of HT_.out (by kernel_rfl)) (fun _ _ _ h => h) (Or.inr ⟨by rfl, rfl⟩) ?_ ?_
        rotate_left
        · simp only [Act.put, sa, sb, sc, i64_w, i32_w]
          rfl
        refine pure_ (i := 20) (N := some 66) (v := ?_) (a' := ?_) #[true, true, true, true, true, true, true, true, true, true, true, true, true, true, true, true, true, true, true, true, true] rfl rfl (any_of HT_.out (by kernel_rfl)) (fun _ _ _ h => h) (Or.inl ⟨by rfl, ?_⟩) ?_ ?_
        rotate_left
        · intro w'; go_simp
          with_reducible rfl
        rotate_left
        · simp only [Act.put, sa, sb, sc, i64_w, i32_w]
          rfl
        refine done_ (done_of HT_.out (by kernel_rfl)) ?_
        try go_wp2
        go_meet
        case rel => exact ⟨_, (true), eqA, H', ⟨xq61⟩, ⟨blkA⟩, ⟨blkA⟩, ⟨blkA⟩, ⟨blkA⟩, ⟨belA⟩⟩
      subst c39; have H1 : (if x41_2 > 0 then (if 0 ≤ (wrap64 (x41_2 - 1)) then (if (wrap64 (x41_2 - 1)) < (l0_2.length : Int) then (impl_isPlan.j2 k2 x6_2 l0_2 (l0_2.length : Int) x41_2 (decide (((rd_T93 l0_2 (wrap64 (x41_2 - 1))).f0) > ((rd_T93 l0_2 x41_2).f0))) a0_0 a0_1 l0_2 x152000_2 ((rd_T93 l0_2 x41_2).f0) ((rd_T93 l0_2 x41_2).f1) ((rd_T93 l0_2 x41_2).f2)) else (none)) else (none)) else (impl_isPlan.j2 k2 x6_2 l0_2 (l0_2.length : Int) x41_2 false a0_0 a0_1 l0_2 x152000_2 ((rd_T93 l0_2 x41_2).f0) ((rd_T93 l0_2 x41_2).f1) ((rd_T93 l0_2 x41_2).f2))) = some r := by rw [if_pos rfl] at H; exact H
      clear H; have H := H1; clear H1
      by_cases c40 : x41_2 > 0; rotate_left
      · rw [if_neg c40] at H; have c40b0 : decide (0 < x41_2) = false := decide_eq_false c40; clear c40; (first | rw [c40b0] | (simp only [i64_w, i32_w]; rw [c40b0]) | skip)
        have H' := ak H; clear H; try go_wp2
        generalize hw_ : (((w33.setCell ⟨gb153, 0, none⟩ (.int .i64 ((rd_T93 l0_2 x41_2).f0))).setCell ⟨gb153, 1, none⟩ (.int .i64 ((rd_T93 l0_2 x41_2).f1))).setCell ⟨gb153, 2, none⟩ (.int .i64 ((rd_T93 l0_2 x41_2).f2))) = w47; have n0_ : Aside0 (w47.heap[gb145]? = some (.cells #[.int .i64 a0_0, .int .i64 a0_1, .slice (some ad152) l0_2.length c0_2] 26 (0, 0))) := ⟨xq57⟩; have n1_ : Aside0 (w47.heap[gb150]? = some (.cells #[.int .i64 t146, .int .i64 t147, .int .i64 t148] 126 (0, 0))) := ⟨xq58⟩; have n2_ : Aside0 (w47.heap[gb151]? = some (.cells (CB x152000_2) 130 (0, 0))) := ⟨xq59⟩; have n3_ : Aside0 (w47.heap[gb153]? = some (.cells #[.int .i64 ((rd_T93 l0_2 x41_2).f0), .int .i64 ((rd_T93 l0_2 x41_2).f1), .int .i64 ((rd_T93 l0_2 x41_2).f2)] 93 (0, 0))) := ⟨xq60⟩; have n4_ : Aside0 (Below w.heap.size w w47) := ⟨by rw [← hw_]; exact belA⟩; (try clear BK145); (try clear BK150); (try clear BK151); (try clear BK153); (try clear HB); clear hw_; have BK145 := n0_; have BK150 := n1_; have BK151 := n2_; have BK153 := n3_; have HB := n4_; clear n0_ n1_ n2_ n3_ n4_; replace BK145 := ak (blk_drew BK145.out); replace BK150 := ak (blk_drew BK150.out); replace BK151 := ak (blk_drew BK151.out); replace BK153 := ak (blk_drew BK153.out); replace HB := ak (below_drew1 HB.out); refine start_ (n := 21) (S := fun w' => w'.cell? ⟨gb153, 0, none⟩ = some (.int .i64 ((rd_T93 l0_2 x41_2).f0)) ∧ w'.cell? ⟨gb153, 1, none⟩ = some (.int .i64 ((rd_T93 l0_2 x41_2).f1)) ∧ w'.cell? ⟨gb153, 2, none⟩ = some (.int .i64 ((rd_T93 l0_2 x41_2).f2)) ∧ w'.cell? ⟨gb145, 0, none⟩ = some (.int .i64 a0_0) ∧ w'.cell? ⟨gb145, 1, none⟩ = some (.int .i64 a0_1) ∧ w'.cell? ⟨gb145, 2, none⟩ = some (.slice (some ad152) l0_2.length c0_2)) (ds := []) #[false, false, false, false, false, false, false, false, false, false, false, false, false, false, false, false, false, false, false, false, false] (by kernel_rfl) rfl rfl ⟨(blk_cell BK153.out 0).trans rfl, (blk_cell BK153.out 1).trans rfl, (blk_cell BK153.out 2).trans rfl, (blk_cell BK145.out 0).trans rfl, (blk_cell BK145.out 1).trans rfl, (blk_cell BK145.out 2).trans rfl⟩ (fun hHeld => ?_); refine with_tabW impl_isPlan.tab9 impl_isPlan.bits9 (fun HT_ HW_ => ?_)
        generalize w47.drew = w48 at BK145 BK150 BK151 BK153 HB hHeld ⊢
        refine pure_ (i := 1) (N := some 47) (v := ?_) (a' := ?_) #[false, true, false, false, false, false, false, false, false, false, false, false, false, false, false, false, false, false, false, false, false] rfl rfl (any_of HT_.out (by kernel_rfl)) (fun _ _ _ h => h) (Or.inl ⟨by rfl, ?_⟩) ?_ ?_
        rotate_left
        · intro w'; go_simp
          with_reducible rfl
        rotate_left
        · simp only [Act.put, sa, sb, sc, i64_w, i32_w]
          rfl
        refine take_ (i := 0) (N := some 46) (v := ?_) (a' := ?_) #[true, true, false, false, false, false, false, false, false, false, false, false, false, false, false, false, false, false, false, false, false] rfl rfl (take_ofW HT_.out HW_.out (by kernel_rfl)) (fun _ _ _ h => h) (Or.inl ⟨by rfl, ?_⟩) hHeld ?_ ?_
        rotate_left
        · rintro w' ⟨s0, s1, s2, s3, s4, s5⟩
          go_simp
          with_reducible rfl
        rotate_left
        · simp only [Act.put, sa, sb, sc, i64_w, i32_w]
          rfl
        refine take_ (i := 2) (N := some 48) (v := ?_) (a' := ?_) #[true, true, true, false, false, false, false, false, false, false, false, false, false, false, false, false, false, false, false, false, false] rfl rfl (take_ofW HT_.out HW_.out (by kernel_rfl)) (fun _ _ _ h => h) (Or.inl ⟨by rfl, ?_⟩) hHeld ?_ ?_
        rotate_left
        · rintro w' ⟨s0, s1, s2, s3, s4, s5⟩
          go_simp
          with_reducible rfl
        rotate_left
        · simp only [Act.put, sa, sb, sc, i64_w, i32_w]
          rfl
        refine one_ (i := 3) (N := some 49) #[true, true, true, true, false, false, false, false, false, false, false, false, false, false, false, false, false, false, false, false, false] rfl rfl (one_of HT_.out (by kernel_rfl)) (by decide) (fun K hK => ?_)
        refine goes_ Try.func104 (by kernel_rfl) rfl #[.agg #[.int .i64 ((rd_T93 l0_2 x41_2).f0), .int .i64 ((rd_T93 l0_2 x41_2).f1), .int .i64 ((rd_T93 l0_2 x41_2).f2)], .int .i64 a0_1] (by rfl) rfl rfl xq24 ?_
        with_reducible refine (impl_isStep.calls ((rd_T93 l0_2 x41_2).f0) ((rd_T93 l0_2 x41_2).f1) ((rd_T93 l0_2 x41_2).f2) a0_1 true _ A38.out).mono ?_
        rintro e w49 ⟨rfl, hb⟩
        refine ⟨_, rfl, ?_⟩
        replace BK145 := bB BK145 hb; replace BK150 := bB BK150 hb; replace BK151 := bB BK151 hb; replace BK153 := bB BK153 hb; replace HB := bS hb; (try clear hb); refine hK.out _ _ ⟨(blk_cell BK153.out 0).trans rfl, (blk_cell BK153.out 1).trans rfl, (blk_cell BK153.out 2).trans rfl, (blk_cell BK145.out 0).trans rfl, (blk_cell BK145.out 1).trans rfl, (blk_cell BK145.out 2).trans rfl⟩ (fun hHeld => ?_)
        clear hK K; refine norm_ (a' := ?_) ?_ ?_
        rotate_left
        · show Act.put _ (some 49) _ = _
          simp only [Act.put, sa, sb, sc, i64_w, i32_w]
          rfl
        refine pure_ (i := 4) (N := some 50) (v := ?_) (a' := ?_) #[true, true, true, true, true, false, false, false, false, false, false, false, false, false, false, false, false, false, false, false, false] rfl rfl (any_of HT_.out (by kernel_rfl)) (fun _ _ _ h => h) (Or.inl ⟨by rfl, ?_⟩) ?_ ?_
        rotate_left
        · intro w'; go_simp
          with_reducible rfl
        rotate_left
        · simp only [Act.put, sa, sb, sc, i64_w, i32_w]
          rfl
        refine pure_ (i := 5) (N := some 51) (v := ?_) (a' := ?_) #[true, true, true, true, true, true, false, false, false, false, false, false, false, false, false, false, false, false, false, false, false] rfl rfl (any_of HT_.out (by kernel_rfl)) (fun _ _ _ h => h) (Or.inl ⟨by rfl, ?_⟩) ?_ ?_
        rotate_left
        · intro w'; go_simp
          with_reducible rfl
        rotate_left
        · simp only [Act.put, sa, sb, sc, i64_w, i32_w]
          rfl
        refine pure_ (i := 6) (N := some 52) (v := ?_) (a' := ?_) #[true, true, true, true, true, true, true, false, false, false, false, false, false, false, false, false, false, false, false, false, false] rfl rfl (any_of HT_.out (by kernel_rfl)) (fun _ _ _ h => h) (Or.inl ⟨by rfl, ?_⟩) ?_ ?_
        rotate_left
        · intro w'; go_simp
          with_reducible rfl
        rotate_left
        · simp only [Act.put, sa, sb, sc, i64_w, i32_w]
          rfl
        refine pure_ (i := 7) (N := some 53) (v := ?_) (a' := ?_) #[true, true, true, true, true, true, true, true, false, false, false, false, false, false, false, false, false, false, false, false, false] rfl rfl (any_of HT_.out (by kernel_rfl)) (fun _ _ _ h => h) (Or.inl ⟨by rfl, ?_⟩) ?_ ?_
        rotate_left
        · intro w'; go_simp
          with_reducible rfl
        rotate_left
        · simp only [Act.put, sa, sb, sc, i64_w, i32_w]
          rfl
        refine pure_ (i := 8) (N := some 54) (v := ?_) (a' := ?_) #[true, true, true, true, true, true, true, true, true, false, false, false, false, false, false, false, false, false, false, false, false] rfl rfl (any_of HT_.out (by kernel_rfl)) (fun _ _ _ h => h) (Or.inl ⟨by rfl, ?_⟩) ?_ ?_
        rotate_left
        · intro w'; go_simp
          with_reducible rfl
        rotate_left
        · simp only [Act.put, sa, sb, sc, i64_w, i32_w]
          rfl
        refine pure_ (i := 9) (N := some 55) (v := undef) (a' := ?_) #[true, true, true, true, true, true, true, true, true, true, false, false, false, false, false, false, false, false, false, false, false] rfl rfl (any_of HT_.out (by kernel_rfl)) (fun _ _ _ h => h) (Or.inr ⟨by rfl, rfl⟩) ?_ ?_
        rotate_left
        · simp only [Act.put, sa, sb, sc, i64_w, i32_w]
          rfl
        refine pure_ (i := 10) (N := some 56) (v := undef) (a' := ?_) #[true, true, true, true, true, true, true, true, true, true, true, false, false, false, false, false, false, false, false, false, false] rfl rfl (any_of HT_.out (by kernel_rfl)) (fun _ _ _ h => h) (Or.inr ⟨by rfl, rfl⟩) ?_ ?_
        rotate_left
        · simp only [Act.put, sa, sb, sc, i64_w, i32_w]
          rfl
        refine pure_ (i := 11) (N := some 57) (v := undef) (a' := ?_) #[true, true, true, true, true, true, true, true, true, true, true, true, false, false, false, false, false, false, false, false, false] rfl rfl (any_of HT_.out (by kernel_rfl)) (fun _ _ _ h => h) (Or.inr ⟨by rfl, rfl⟩) ?_ ?_
        rotate_left
        · simp only [Act.put, sa, sb, sc, i64_w, i32_w]
          rfl
        refine pure_ (i := 12) (N := some 58) (v := undef) (a' := ?_) #[true, true, true, true, true, true, true, true, true, true, true, true, true, false, false, false, false, false, false, false, false] rfl rfl (any_of HT_.out (by kernel_rfl)) (fun _ _ _ h => h) (Or.inr ⟨by rfl, rfl⟩) ?_ ?_
        rotate_left
        · simp only [Act.put, sa, sb, sc, i64_w, i32_w]
          rfl
        refine pure_ (i := 13) (N := some 59) (v := undef) (a' := ?_) #[true, true, true, true, true, true, true, true, true, true, true, true, true, true, false, false, false, false, false, false, false] rfl rfl (any_of HT_.out (by kernel_rfl)) (fun _ _ _ h => h) (Or.inr ⟨by rfl, rfl⟩) ?_ ?_
        rotate_left
        · simp only [Act.put, sa, sb, sc, i64_w, i32_w]
          rfl
        refine pure_ (i := 14) (N := some 60) (v := undef) (a' := ?_) #[true, true, true, true, true, true, true, true, true, true, true, true, true, true, true, false, false, false, false, false, false] rfl rfl (any_of HT_.out (by kernel_rfl)) (fun _ _ _ h => h) (Or.inr ⟨by rfl, rfl⟩) ?_ ?_
        rotate_left
        · simp only [Act.put, sa, sb, sc, i64_w, i32_w]
          rfl
        refine pure_ (i := 15) (N := some 61) (v := undef) (a' := ?_) #[true, true, true, true, true, true, true, true, true, true, true, true, true, true, true, true, false, false, false, false, false] rfl rfl (any_of HT_.out (by kernel_rfl)) (fun _ _ _ h => h) (Or.inr ⟨by rfl, rfl⟩) ?_ ?_
        rotate_left
        · simp only [Act.put, sa, sb, sc, i64_w, i32_w]
          rfl
        refine pure_ (i := 16) (N := some 62) (v := undef) (a' := ?_) #[true, true, true, true, true, true, true, true, true, true, true, true, true, true, true, true, true, false, false, false, false] rfl rfl (any_of HT_.out (by kernel_rfl)) (fun _ _ _ h => h) (Or.inr ⟨by rfl, rfl⟩) ?_ ?_
        rotate_left
        · simp only [Act.put, sa, sb, sc, i64_w, i32_w]
          rfl
        refine pure_ (i := 17) (N := some 63) (v := undef) (a' := ?_) #[true, true, true, true, true, true, true, true, true, true, true, true, true, true, true, true, true, true, false, false, false] rfl rfl (any_of HT_.out (by kernel_rfl)) (fun _ _ _ h => h) (Or.inr ⟨by rfl, rfl⟩) ?_ ?_
        rotate_left
        · simp only [Act.put, sa, sb, sc, i64_w, i32_w]
          rfl
        refine pure_ (i := 18) (N := some 64) (v := undef) (a' := ?_) #[true, true, true, true, true, true, true, true, true, true, true, true, true, true, true, true, true, true, true, false, false] rfl rfl (any_of HT_.out (by kernel_rfl)) (fun _ _ _ h => h) (Or.inr ⟨by rfl, rfl⟩) ?_ ?_
        rotate_left
        · simp only [Act.put, sa, sb, sc, i64_w, i32_w]
          rfl
        refine pure_ (i := 19) (N := some 65) (v := ?_) (a' := ?_) #[true, true, true, true, true, true, true, true, true, true, true, true, true, true, true, true, true, true, true, true, false] rfl rfl (any_of HT_.out (by kernel_rfl)) (fun _ _ _ h => h) (Or.inl ⟨by rfl, ?_⟩) ?_ ?_
        rotate_left
        · intro w'; go_simp
          with_reducible rfl
        rotate_left
        · simp only [Act.put, sa, sb, sc, i64_w, i32_w]
          rfl
        refine pure_ (i := 20) (N := some 66) (v := ?_) (a' := ?_) #[true, true, true, true, true, true, true, true, true, true, true, true, true, true, true, true, true, true, true, true, true] rfl rfl (any_of HT_.out (by kernel_rfl)) (fun _ _ _ h => h) (Or.inl ⟨by rfl, ?_⟩) ?_ ?_
        rotate_left
        · intro w'; go_simp
          with_reducible rfl
        rotate_left
        · simp only [Act.put, sa, sb, sc, i64_w, i32_w]
          rfl
        refine done_ (done_of HT_.out (by kernel_rfl)) ?_
        try go_wp2
        go_meet
        case rel => exact ⟨_, (false), eqA, H', ⟨xq61⟩, ⟨blkA⟩, ⟨blkA⟩, ⟨blkA⟩, ⟨blkA⟩, ⟨belA⟩⟩
      rw [if_pos c40] at H; have c40b0 : decide (0 < x41_2) = true := decide_eq_true c40; clear c40; (first | rw [c40b0] | (simp only [i64_w, i32_w]; rw [c40b0]) | skip)
      obtain ⟨ji41, hji41⟩ : ∃ j_ : Int, (wrap64 (x41_2 - 1)) = j_ := ⟨_, rfl⟩; replace H : (if 0 ≤ (ji41) then (if (ji41) < (l0_2.length : Int) then (impl_isPlan.j2 k2 x6_2 l0_2 (l0_2.length : Int) x41_2 (decide (((rd_T93 l0_2 (ji41)).f0) > ((rd_T93 l0_2 x41_2).f0))) a0_0 a0_1 l0_2 x152000_2 ((rd_T93 l0_2 x41_2).f0) ((rd_T93 l0_2 x41_2).f1) ((rd_T93 l0_2 x41_2).f2)) else (none)) else (none)) = some r := by first | (rw [hji41] at H; exact H) | (simp only [hji41] at H ⊢; exact H)
      (try rw [hji41] at A38)
      have hji41w : (IntKind.i64.wrap (x41_2 - 1)) = ji41 := (i64_w _).trans hji41
      by_cases c42 : 0 ≤ (ji41); rotate_left
      · rw [if_neg c42] at H; exact absurd H (by simp)
      rw [if_pos c42] at H; have c42b0 := decide_eq_true c42; clear c42
      by_cases c43 : (ji41) < (l0_2.length : Int); rotate_left
      · rw [if_neg c43] at H; exact absurd H (by simp)
      rw [if_pos c43] at H; have c43b0 := decide_eq_true c43; clear c43; have H' := ak H; clear H; try go_wp2
      generalize hw_ : (((w33.setCell ⟨gb153, 0, none⟩ (.int .i64 ((rd_T93 l0_2 x41_2).f0))).setCell ⟨gb153, 1, none⟩ (.int .i64 ((rd_T93 l0_2 x41_2).f1))).setCell ⟨gb153, 2, none⟩ (.int .i64 ((rd_T93 l0_2 x41_2).f2))) = w44; have n0_ : Aside0 (w44.heap[gb145]? = some (.cells #[.int .i64 a0_0, .int .i64 a0_1, .slice (some ad152) l0_2.length c0_2] 26 (0, 0))) := ⟨xq57⟩; have n1_ : Aside0 (w44.heap[gb150]? = some (.cells #[.int .i64 t146, .int .i64 t147, .int .i64 t148] 126 (0, 0))) := ⟨xq58⟩; have n2_ : Aside0 (w44.heap[gb151]? = some (.cells (CB x152000_2) 130 (0, 0))) := ⟨xq59⟩; have n3_ : Aside0 (w44.heap[gb153]? = some (.cells #[.int .i64 ((rd_T93 l0_2 x41_2).f0), .int .i64 ((rd_T93 l0_2 x41_2).f1), .int .i64 ((rd_T93 l0_2 x41_2).f2)] 93 (0, 0))) := ⟨xq60⟩; have n4_ : Aside0 (Below w.heap.size w w44) := ⟨by rw [← hw_]; exact belA⟩; (try clear BK145); (try clear BK150); (try clear BK151); (try clear BK153); (try clear HB); clear hw_; have BK145 := n0_; have BK150 := n1_; have BK151 := n2_; have BK153 := n3_; have HB := n4_; clear n0_ n1_ n2_ n3_ n4_; replace BK145 := ak (blk_drew BK145.out); replace BK150 := ak (blk_drew BK150.out); replace BK151 := ak (blk_drew BK151.out); replace BK153 := ak (blk_drew BK153.out); replace HB := ak (below_drew1 HB.out); have p155 : 0 ≤ ((ji41) : Int) := odA; have q155 : (ji41) < (l0_2.length : Int) := odA; obtain ⟨ad155, e155, hx155_0, hx155_1, hx155_2⟩ := at_T93 HR0_2.out (ji41) p155 q155; have hw155_2 := hx155_2; have hw155_1 := hx155_1; have hw155_0 := hx155_0; obtain rfl : ad152 = ad155 := (by injection e155); try replace hx155_0 := cB HB hx155_0
      try replace hx155_1 := cB HB hx155_1
      try replace hx155_2 := cB HB hx155_2
      replace p155 := eq_true p155; replace q155 := eq_true q155; refine start_ (n := 21) (S := fun w' => w'.cell? ⟨gb153, 0, none⟩ = some (.int .i64 ((rd_T93 l0_2 x41_2).f0)) ∧ w'.cell? ⟨gb153, 1, none⟩ = some (.int .i64 ((rd_T93 l0_2 x41_2).f1)) ∧ w'.cell? ⟨gb153, 2, none⟩ = some (.int .i64 ((rd_T93 l0_2 x41_2).f2)) ∧ w'.cell? ⟨gb145, 0, none⟩ = some (.int .i64 a0_0) ∧ w'.cell? ⟨gb145, 1, none⟩ = some (.int .i64 a0_1) ∧ w'.cell? ⟨gb145, 2, none⟩ = some (.slice (some ad152) l0_2.length c0_2) ∧ w'.cell? (ad152.add (((ji41)).toNat * 3)) = some (.int .i64 ((rd_T93 l0_2 (ji41)).f0)) ∧ w'.cell? ⟨(ad152.add (((ji41)).toNat * 3)).block, (ad152.add (((ji41)).toNat * 3)).off + 1, none⟩ = some (.int .i64 ((rd_T93 l0_2 (ji41)).f1)) ∧ w'.cell? ⟨(ad152.add (((ji41)).toNat * 3)).block, (ad152.add (((ji41)).toNat * 3)).off + 2, none⟩ = some (.int .i64 ((rd_T93 l0_2 (ji41)).f2))) (ds := []) #[false, false, false, false, false, false, false, false, false, false, false, false, false, false, false, false, false, false, false, false, false] (by kernel_rfl) rfl rfl ⟨(blk_cell BK153.out 0).trans rfl, (blk_cell BK153.out 1).trans rfl, (blk_cell BK153.out 2).trans rfl, (blk_cell BK145.out 0).trans rfl, (blk_cell BK145.out 1).trans rfl, (blk_cell BK145.out 2).trans rfl, ((HB.out.cell (World.block_lt_of_cell? w _ hw155_0)).trans hw155_0), ((HB.out.cell (World.block_lt_of_cell? w _ hw155_1)).trans hw155_1), ((HB.out.cell (World.block_lt_of_cell? w _ hw155_2)).trans hw155_2)⟩ (fun hHeld => ?_); refine with_tabW impl_isPlan.tab9 impl_isPlan.bits9 (fun HT_ HW_ => ?_)
      generalize w44.drew = w45 at BK145 BK150 BK151 BK153 HB hx155_0 hx155_1 hx155_2 hHeld ⊢
      refine pure_ (i := 1) (N := some 47) (v := ?_) (a' := ?_) #[false, true, false, false, false, false, false, false, false, false, false, false, false, false, false, false, false, false, false, false, false] rfl rfl (any_of HT_.out (by kernel_rfl)) (fun _ _ _ h => h) (Or.inl ⟨by rfl, ?_⟩) ?_ ?_
      rotate_left
      · intro w'; go_simp
        with_reducible rfl
      rotate_left
      · simp only [Act.put, sa, sb, sc, i64_w, i32_w]
        rfl
      refine take_ (i := 0) (N := some 46) (v := ?_) (a' := ?_) #[true, true, false, false, false, false, false, false, false, false, false, false, false, false, false, false, false, false, false, false, false] rfl rfl (take_ofW HT_.out HW_.out (by kernel_rfl)) (fun _ _ _ h => h) (Or.inl ⟨by rfl, ?_⟩) hHeld ?_ ?_
      rotate_left
      · rintro w' ⟨s0, s1, s2, s3, s4, s5, s6, s7, s8⟩
        go_simp
        with_reducible rfl
      rotate_left
      · simp only [Act.put, sa, sb, sc, i64_w, i32_w]
        rfl
      refine take_ (i := 2) (N := some 48) (v := ?_) (a' := ?_) #[true, true, true, false, false, false, false, false, false, false, false, false, false, false, false, false, false, false, false, false, false] rfl rfl (take_ofW HT_.out HW_.out (by kernel_rfl)) (fun _ _ _ h => h) (Or.inl ⟨by rfl, ?_⟩) hHeld ?_ ?_
      rotate_left
      · rintro w' ⟨s0, s1, s2, s3, s4, s5, s6, s7, s8⟩
        go_simp
        with_reducible rfl
      rotate_left
      · simp only [Act.put, sa, sb, sc, i64_w, i32_w]
        rfl
      refine one_ (i := 3) (N := some 49) #[true, true, true, true, false, false, false, false, false, false, false, false, false, false, false, false, false, false, false, false, false] rfl rfl (one_of HT_.out (by kernel_rfl)) (by decide) (fun K hK => ?_)
      refine goes_ Try.func104 (by kernel_rfl) rfl #[.agg #[.int .i64 ((rd_T93 l0_2 x41_2).f0), .int .i64 ((rd_T93 l0_2 x41_2).f1), .int .i64 ((rd_T93 l0_2 x41_2).f2)], .int .i64 a0_1] (by rfl) rfl rfl xq24 ?_
      with_reducible refine (impl_isStep.calls ((rd_T93 l0_2 x41_2).f0) ((rd_T93 l0_2 x41_2).f1) ((rd_T93 l0_2 x41_2).f2) a0_1 true _ A38.out).mono ?_
      rintro e w46 ⟨rfl, hb⟩
      refine ⟨_, rfl, ?_⟩
      replace BK145 := bB BK145 hb; replace BK150 := bB BK150 hb; replace BK151 := bB BK151 hb; replace BK153 := bB BK153 hb; replace HB := bS hb; (try clear hb); refine hK.out _ _ ⟨(blk_cell BK153.out 0).trans rfl, (blk_cell BK153.out 1).trans rfl, (blk_cell BK153.out 2).trans rfl, (blk_cell BK145.out 0).trans rfl, (blk_cell BK145.out 1).trans rfl, (blk_cell BK145.out 2).trans rfl, ((HB.out.cell (World.block_lt_of_cell? w _ hw155_0)).trans hw155_0), ((HB.out.cell (World.block_lt_of_cell? w _ hw155_1)).trans hw155_1), ((HB.out.cell (World.block_lt_of_cell? w _ hw155_2)).trans hw155_2)⟩ (fun hHeld => ?_)
      clear hK K; refine norm_ (a' := ?_) ?_ ?_
      rotate_left
      · show Act.put _ (some 49) _ = _
        simp only [Act.put, sa, sb, sc, i64_w, i32_w]
        rfl
      refine pure_ (i := 4) (N := some 50) (v := ?_) (a' := ?_) #[true, true, true, true, true, false, false, false, false, false, false, false, false, false, false, false, false, false, false, false, false] rfl rfl (any_of HT_.out (by kernel_rfl)) (fun _ _ _ h => h) (Or.inl ⟨by rfl, ?_⟩) ?_ ?_
      rotate_left
      · intro w'; go_simp
        with_reducible rfl
      rotate_left
      · simp only [Act.put, sa, sb, sc, i64_w, i32_w]
        rfl
      refine pure_ (i := 5) (N := some 51) (v := ?_) (a' := ?_) #[true, true, true, true, true, true, false, false, false, false, false, false, false, false, false, false, false, false, false, false, false] rfl rfl (any_of HT_.out (by kernel_rfl)) (fun _ _ _ h => h) (Or.inl ⟨by rfl, ?_⟩) ?_ ?_
      rotate_left
      · intro w'; go_simp
        with_reducible rfl
      rotate_left
      · simp only [Act.put, sa, sb, sc, i64_w, i32_w]
        rfl
      refine pure_ (i := 6) (N := some 52) (v := ?_) (a' := ?_) #[true, true, true, true, true, true, true, false, false, false, false, false, false, false, false, false, false, false, false, false, false] rfl rfl (any_of HT_.out (by kernel_rfl)) (fun _ _ _ h => h) (Or.inl ⟨by rfl, ?_⟩) ?_ ?_
      rotate_left
      · intro w'; go_simp
        with_reducible rfl
      rotate_left
      · simp only [Act.put, sa, sb, sc, i64_w, i32_w]
        rfl
      refine pure_ (i := 7) (N := some 53) (v := ?_) (a' := ?_) #[true, true, true, true, true, true, true, true, false, false, false, false, false, false, false, false, false, false, false, false, false] rfl rfl (any_of HT_.out (by kernel_rfl)) (fun _ _ _ h => h) (Or.inl ⟨by rfl, ?_⟩) ?_ ?_
      rotate_left
      · intro w'; go_simp
        with_reducible rfl
      rotate_left
      · simp only [Act.put, sa, sb, sc, i64_w, i32_w]
        rfl
      refine pure_ (i := 8) (N := some 54) (v := ?_) (a' := ?_) #[true, true, true, true, true, true, true, true, true, false, false, false, false, false, false, false, false, false, false, false, false] rfl rfl (any_of HT_.out (by kernel_rfl)) (fun _ _ _ h => h) (Or.inl ⟨by rfl, ?_⟩) ?_ ?_
      rotate_left
      · intro w'; go_simp
        with_reducible rfl
      rotate_left
      · simp only [Act.put, sa, sb, sc, i64_w, i32_w]
        rfl
      refine pure_ (i := 9) (N := some 55) (v := ?_) (a' := ?_) #[true, true, true, true, true, true, true, true, true, true, false, false, false, false, false, false, false, false, false, false, false] rfl rfl (any_of HT_.out (by kernel_rfl)) (fun _ _ _ h => h) (Or.inl ⟨by rfl, ?_⟩) ?_ ?_
      rotate_left
      · intro w'; go_simp
        with_reducible rfl
      rotate_left
      · simp only [Act.put, sa, sb, sc, i64_w, i32_w]
        rfl
      refine pure_ (i := 11) (N := some 57) (v := ?_) (a' := ?_) #[true, true, true, true, true, true, true, true, true, true, false, true, false, false, false, false, false, false, false, false, false] rfl rfl (any_of HT_.out (by kernel_rfl)) (fun _ _ _ h => h) (Or.inl ⟨by rfl, ?_⟩) ?_ ?_
      rotate_left
      · intro w'; go_simp
        with_reducible rfl
      rotate_left
      · simp only [Act.put, sa, sb, sc, i64_w, i32_w]
        rfl
      refine pure_ (i := 12) (N := some 58) (v := ?_) (a' := ?_) #[true, true, true, true, true, true, true, true, true, true, false, true, true, false, false, false, false, false, false, false, false] rfl rfl (any_of HT_.out (by kernel_rfl)) (fun _ _ _ h => h) (Or.inl ⟨by rfl, ?_⟩) ?_ ?_
      rotate_left
      · intro w'; go_simp
        with_reducible rfl
      rotate_left
      · simp only [Act.put, sa, sb, sc, i64_w, i32_w]
        rfl
      refine pure_ (i := 16) (N := some 62) (v := ?_) (a' := ?_) #[true, true, true, true, true, true, true, true, true, true, false, true, true, false, false, false, true, false, false, false, false] rfl rfl (any_of HT_.out (by kernel_rfl)) (fun _ _ _ h => h) (Or.inl ⟨by rfl, ?_⟩) ?_ ?_
      rotate_left
      · intro w'; go_simp
        with_reducible rfl
      rotate_left
      · simp only [Act.put, sa, sb, sc, i64_w, i32_w]
        rfl
      refine take_ (i := 10) (N := some 56) (v := ?_) (a' := ?_) #[true, true, true, true, true, true, true, true, true, true, true, true, true, false, false, false, true, false, false, false, false] rfl rfl (take_ofW HT_.out HW_.out (by kernel_rfl)) (fun _ _ _ h => h) (Or.inl ⟨by rfl, ?_⟩) hHeld ?_ ?_
      rotate_left
      · rintro w' ⟨s0, s1, s2, s3, s4, s5, s6, s7, s8⟩
        go_simp
        with_reducible rfl
      rotate_left
      · simp only [Act.put, sa, sb, sc, i64_w, i32_w]
        rfl
      refine pure_ (i := 13) (N := some 59) (v := ?_) (a' := ?_) #[true, true, true, true, true, true, true, true, true, true, true, true, true, true, false, false, true, false, false, false, false] rfl rfl (any_of HT_.out (by kernel_rfl)) (fun _ _ _ h => h) (Or.inl ⟨by rfl, ?_⟩) ?_ ?_
      rotate_left
      · intro w'; go_simp
        with_reducible rfl
      rotate_left
      · simp only [Act.put, sa, sb, sc, i64_w, i32_w]
        rfl
      refine pure_ (i := 14) (N := some 60) (v := ?_) (a' := ?_) #[true, true, true, true, true, true, true, true, true, true, true, true, true, true, true, false, true, false, false, false, false] rfl rfl (any_of HT_.out (by kernel_rfl)) (fun _ _ _ h => h) (Or.inl ⟨by rfl, ?_⟩) ?_ ?_
      rotate_left
      · intro w'; go_simp
        with_reducible rfl
      rotate_left
      · simp only [Act.put, sa, sb, sc, i64_w, i32_w]
        rfl
      refine take_ (i := 15) (N := some 61) (v := ?_) (a' := ?_) #[true, true, true, true, true, true, true, true, true, true, true, true, true, true, true, true, true, false, false, false, false] rfl rfl (take_ofW HT_.out HW_.out (by kernel_rfl)) (fun _ _ _ h => h) (Or.inl ⟨by rfl, ?_⟩) hHeld ?_ ?_
      rotate_left
      · rintro w' ⟨s0, s1, s2, s3, s4, s5, s6, s7, s8⟩
        go_simp
        with_reducible rfl
      rotate_left
      · simp only [Act.put, sa, sb, sc, i64_w, i32_w]
        rfl
      refine take_ (i := 17) (N := some 63) (v := ?_) (a' := ?_) #[true, true, true, true, true, true, true, true, true, true, true, true, true, true, true, true, true, true, false, false, false] rfl rfl (take_ofW HT_.out HW_.out (by kernel_rfl)) (fun _ _ _ h => h) (Or.inl ⟨by rfl, ?_⟩) hHeld ?_ ?_
      rotate_left
      · rintro w' ⟨s0, s1, s2, s3, s4, s5, s6, s7, s8⟩
        go_simp
        with_reducible rfl
      rotate_left
      · simp only [Act.put, sa, sb, sc, i64_w, i32_w]
        rfl
      refine pure_ (i := 18) (N := some 64) (v := ?_) (a' := ?_) #[true, true, true, true, true, true, true, true, true, true, true, true, true, true, true, true, true, true, true, false, false] rfl rfl (any_of HT_.out (by kernel_rfl)) (fun _ _ _ h => h) (Or.inl ⟨by rfl, ?_⟩) ?_ ?_
      rotate_left
      · intro w'; go_simp
        with_reducible rfl
      rotate_left
      · simp only [Act.put, sa, sb, sc, i64_w, i32_w]
        rfl
      refine pure_ (i := 19) (N := some 65) (v := ?_) (a' := ?_) #[true, true, true, true, true, true, true, true, true, true, true, true, true, true, true, true, true, true, true, true, false] rfl rfl (any_of HT_.out (by kernel_rfl)) (fun _ _ _ h => h) (Or.inl ⟨by rfl, ?_⟩) ?_ ?_
      rotate_left
      · intro w'; go_simp
        with_reducible rfl
      rotate_left
      · simp only [Act.put, sa, sb, sc, i64_w, i32_w]
        rfl
      refine pure_ (i := 20) (N := some 66) (v := ?_) (a' := ?_) #[true, true, true, true, true, true, true, true, true, true, true, true, true, true, true, true, true, true, true, true, true] rfl rfl (any_of HT_.out (by kernel_rfl)) (fun _ _ _ h => h) (Or.inl ⟨by rfl, ?_⟩) ?_ ?_
      rotate_left
      · intro w'; go_simp
        with_reducible rfl
      rotate_left
      · simp only [Act.put, sa, sb, sc, i64_w, i32_w]
        rfl
      refine done_ (done_of HT_.out (by kernel_rfl)) ?_
      try go_wp2
      go_meet
      case rel => exact ⟨_, (decide (((rd_T93 l0_2 (ji41)).f0) > ((rd_T93 l0_2 x41_2).f0))), (by first | rfl | (simp; done) | (simp only [← hji41] <;> (first | rfl | simp)) | (simp [*]; done)), H', ⟨xq61⟩, ⟨blkA⟩, ⟨blkA⟩, ⟨blkA⟩, ⟨blkA⟩, ⟨belA⟩⟩
     case rest =>
      clear HC32; obtain ⟨kq, x66_31, rfl, HA, HJ31, BK145, BK150, BK151, BK153, HB⟩ := hcut
      cases kq with
      | zero => exact absurd HA.out (by simp [impl_isPlan.j2])
      | succ kj31 =>
       have H := HA.out; clear HA; simp only [impl_isPlan.j2] at H
       by_cases c53 : x66_31 = true
       · subst c53; have H1 : (some false) = some r := by rw [if_pos rfl] at H; exact H
         clear H; have H := H1; clear H1; obtain rfl := Option.some.inj H; go_wp2
         go_ret
         exact ⟨xq56, belA⟩
       replace c53 := Bool.eq_false_iff.mpr c53; subst c53; have H1 : (impl_isPlan.l1 kj31 x6_2 ((rd_T93 l0_2 x41_2).f1) l0_2 (l0_2.length : Int) x41_2 a0_0 a0_1 l0_2 x152000_2 ((rd_T93 l0_2 x41_2).f0) ((rd_T93 l0_2 x41_2).f1) ((rd_T93 l0_2 x41_2).f2)) = some r := by rw [if_neg (show ¬ (false = true) by decide)] at H; exact H
       clear H; have H := H1; clear H1; have H' := ak H; clear H; have hnb54 := NB153_145.out; have hnc54 := NB145_153.out; have hnb55 := NB153_150.out; have hnc55 := NB150_153.out; have hnb56 := NB153_151.out; have hnc56 := NB151_153.out; obtain ⟨_, _, _, _, _, _⟩ := cel3 BK153; go_wp2
       go_loopg [6, 9] kj31 (fun kq v6 v9 w' => ∃ (x6_4 : Int) (x9_4 : Int) (x152000_4 : Nat → Bool), v6 = .int .i64 x6_4 ∧ v9 = .int .i64 x9_4 ∧ Aside0 (impl_isPlan.l1 kq x6_4 x9_4 l0_2 (l0_2.length : Int) x41_2 a0_0 a0_1 l0_2 x152000_4 ((rd_T93 l0_2 x41_2).f0) ((rd_T93 l0_2 x41_2).f1) ((rd_T93 l0_2 x41_2).f2) = some r) ∧ Aside0 (kq ≤ kj31) ∧ Aside0 (w'.heap[gb145]? = some (.cells #[.int .i64 a0_0, .int .i64 a0_1, (.slice (some ad152) l0_2.length c0_2)] 26 (0, 0))) ∧ Aside0 (w'.heap[gb150]? = some (.cells #[.int .i64 t146, .int .i64 t147, .int .i64 t148] 126 (0, 0))) ∧ Aside0 (w'.heap[gb151]? = some (.cells (CB x152000_4) 130 (0, 0))) ∧ Aside0 (w'.heap[gb153]? = some (.cells #[.int .i64 ((rd_T93 l0_2 x41_2).f0), .int .i64 ((rd_T93 l0_2 x41_2).f1), .int .i64 ((rd_T93 l0_2 x41_2).f2)] 93 (0, 0))) ∧ Aside0 (Below w.heap.size w w'))
       case atStart => exact ⟨(x6_2), (((rd_T93 l0_2 x41_2).f1)), (x152000_2), eqA, eqA, H', ⟨Nat.le_refl _⟩, ⟨blkA⟩, ⟨blkA⟩, ⟨blkA⟩, ⟨blkA⟩, ⟨belA⟩⟩
       case round =>
        clear H'; obtain ⟨x6_4, x9_4, x152000_4, rfl, rfl, HA, HK4, BK145, BK150, BK151, BK153, HB⟩ := hrel
        cases gk with
        | zero => exact absurd HA.out (by simp [impl_isPlan.l1])
        | succ k4 =>
         have H := HA.out; clear HA; simp only [impl_isPlan.l1] at H
         by_cases c58 : x9_4 < ((rd_T93 l0_2 x41_2).f2); rotate_left
         · rw [if_neg c58] at H; have c58b0 := decide_eq_false c58; clear c58; have H' := ak H; clear H; have hnb74 := NB153_145.out; have hnc74 := NB145_153.out; have hnb75 := NB153_150.out; have hnc75 := NB150_153.out; have hnb76 := NB153_151.out; have hnc76 := NB151_153.out; obtain ⟨_, _, _, _, _, _⟩ := cel3 BK153; go_wp2
           go_roundg k4
           case measure => have := HJ2.out; have := HK2.out; have := HJ31.out; have := HK4.out; omega
           case rel => exact ⟨(x6_4), (wrap64 (x41_2 + 1)), (x152000_4), eqA, eqA, H', ⟨by have := HJ2.out; have := HK2.out; have := HJ31.out; have := HK4.out; omega⟩, ⟨blkA⟩, ⟨blkA⟩, ⟨blkA⟩, ⟨belA⟩⟩
         rw [if_pos c58] at H; have c58b0 := decide_eq_true c58; clear c58
         by_cases cc0 : 0 ≤ ((rd_T93 l0_2 x41_2).f0); rotate_left
         · rw [if_neg cc0] at H; exact absurd H (by simp)
         rw [if_pos cc0] at H
         by_cases cc1 : ((rd_T93 l0_2 x41_2).f0) < 9; rotate_left
         · rw [if_neg cc1] at H; exact absurd H (by simp)
         rw [if_pos cc1] at H
         by_cases cc2 : 0 ≤ x9_4; rotate_left
         · rw [if_neg cc2] at H; exact absurd H (by simp)
         rw [if_pos cc2] at H
         by_cases cc3 : x9_4 < 512; rotate_left
         · rw [if_neg cc3] at H; exact absurd H (by simp)
         rw [if_pos cc3] at H; obtain ⟨n0, hn0⟩ := Int.eq_ofNat_of_zero_le cc0; obtain ⟨m0, hm0⟩ := Int.eq_ofNat_of_zero_le cc2; have BQ := BK153; rw [hn0] at cc0 cc1 BQ; subst hm0; have hlt : n0 * 512 + m0 < 4608 := by omega
         have hix : (((rd_T93 l0_2 x41_2).f0)).toNat * 512 + ((m0 : Int)).toNat = n0 * 512 + m0 := by rw [hn0]; simp
         rw [hix] at H; have ccd0 : decide (0 ≤ (n0 : Int)) = true := decide_eq_true cc0; have ccd1 : decide ((n0 : Int) < 9) = true := decide_eq_true cc1; have ccd2 : decide (0 ≤ (m0 : Int)) = true := decide_eq_true cc2; have ccd3 : decide ((m0 : Int) < 512) = true := decide_eq_true cc3; have hw0 : wrap64 ((m0 : Int) + 1) = (m0 : Int) + 1 := by unfold wrap64; omega
         have cce3 : ((m0 : Int) < 512) = True := eq_true cc3; have ccf3 : ((512 : Int) ≤ (m0 : Int)) = False := eq_false (by omega); have ccg3 : (m0 < 512) = True := eq_true (by omega); have cch3 : (512 ≤ m0) = False := eq_false (by omega); have cce1 : ((n0 : Int) < 9) = True := eq_true cc1; have ccf1 : ((9 : Int) ≤ (n0 : Int)) = False := eq_false (by omega); clear cc0 cc1 cc2 cc3
         by_cases c59 : x152000_4 (n0 * 512 + m0) = true
         · have c59_ := c59; have H1 : (some false) = some r := by rw [if_pos c59] at H; exact H
           clear H; have H := H1; clear H1; obtain rfl := Option.some.inj H; have hnb60 := NB153_145.out; have hnc60 := NB145_153.out; have hnb61 := NB153_150.out; have hnc61 := NB150_153.out; have hnb62 := NB153_151.out; have hnc62 := NB151_153.out; have hcz63_0 : wr.cell? ⟨gb153, 0, none⟩ = some (.int .i64 (n0 : Int)) := (blk_cell BQ.out 0).trans rfl; have hcz63_1 : wr.cell? ⟨gb153, 1, none⟩ = some (.int .i64 ((rd_T93 l0_2 x41_2).f1)) := (blk_cell BK153.out 1).trans rfl; have hcz63_2 : wr.cell? ⟨gb153, 2, none⟩ = some (.int .i64 ((rd_T93 l0_2 x41_2).f2)) := (blk_cell BK153.out 2).trans rfl; have hfz63_0 := blk_frozen BK153.out 0; have hfz63_1 := blk_frozen BK153.out 1; have hfz63_2 := blk_frozen BK153.out 2; have hnb64 := NB151_145.out; have hnc64 := NB145_151.out; have hnb65 := NB151_150.out; have hnc65 := NB150_151.out; have hcz66_0 : wr.cell? ⟨gb151, n0 * 512 + m0, none⟩ = some (.bool true) := (blk_cell BK151.out _).trans (by rw [HCat.out _ _ hlt, c59]); have hfz66_0 := blk_frozen BK151.out (n0 * 512 + m0); go_wp2
           go_ret
           exact ⟨xq56, belA⟩
         replace c59 := Bool.eq_false_iff.mpr c59; have H1 : (impl_isPlan.l1 k4 (wrap64 (x6_4 + 1)) (wrap64 ((m0 : Int) + 1)) l0_2 (l0_2.length : Int) x41_2 a0_0 a0_1 l0_2 (setB x152000_4 (n0 * 512 + m0)) ((rd_T93 l0_2 x41_2).f0) ((rd_T93 l0_2 x41_2).f1) ((rd_T93 l0_2 x41_2).f2)) = some r := by rw [if_neg (by rw [c59]; decide)] at H; exact H
         clear H; have H := H1; clear H1; have H' := ak H; clear H; have hnb67 := NB153_145.out; have hnc67 := NB145_153.out; have hnb68 := NB153_150.out; have hnc68 := NB150_153.out; have hnb69 := NB153_151.out; have hnc69 := NB151_153.out; have hcz70_0 : wr.cell? ⟨gb153, 0, none⟩ = some (.int .i64 (n0 : Int)) := (blk_cell BQ.out 0).trans rfl; have hcz70_1 : wr.cell? ⟨gb153, 1, none⟩ = some (.int .i64 ((rd_T93 l0_2 x41_2).f1)) := (blk_cell BK153.out 1).trans rfl; have hcz70_2 : wr.cell? ⟨gb153, 2, none⟩ = some (.int .i64 ((rd_T93 l0_2 x41_2).f2)) := (blk_cell BK153.out 2).trans rfl; have hfz70_0 := blk_frozen BK153.out 0; have hfz70_1 := blk_frozen BK153.out 1; have hfz70_2 := blk_frozen BK153.out 2; have hnb71 := NB151_145.out; have hnc71 := NB145_151.out; have hnb72 := NB151_150.out; have hnc72 := NB150_151.out; have hcz73_0 : wr.cell? ⟨gb151, n0 * 512 + m0, none⟩ = some (.bool false) := (blk_cell BK151.out _).trans (by rw [HCat.out _ _ hlt, c59]); have hfz73_0 := blk_frozen BK151.out (n0 * 512 + m0); go_wp2
         go_roundg k4
         case measure => have := HJ2.out; have := HK2.out; have := HJ31.out; have := HK4.out; omega
         case rel => exact ⟨(wrap64 (x6_4 + 1)), (wrap64 ((m0 : Int) + 1)), (setB x152000_4 (n0 * 512 + m0)), eqA, eqA, H', ⟨by have := HJ2.out; have := HK2.out; have := HJ31.out; have := HK4.out; omega⟩, ⟨by (with_reducible repeat (first | refine blk_drewN ?_ _ | refine blk_drew ?_ | refine blk_alloc ?_ _)); refine blk_far ?_ NB145_151.out _; (with_reducible repeat (first | refine blk_drewN ?_ _ | refine blk_drew ?_ | refine blk_alloc ?_ _)); exact BK145.out⟩, ⟨by (with_reducible repeat (first | refine blk_drewN ?_ _ | refine blk_drew ?_ | refine blk_alloc ?_ _)); refine blk_far ?_ NB150_151.out _; (with_reducible repeat (first | refine blk_drewN ?_ _ | refine blk_drew ?_ | refine blk_alloc ?_ _)); exact BK150.out⟩, ⟨by (with_reducible repeat (first | refine blk_drewN ?_ _ | refine blk_drew ?_ | refine blk_alloc ?_ _)); refine blk_put (cs := CB x152000_4) ?_ (n0 * 512 + m0) _ (HCset.out _ _); (with_reducible repeat (first | refine blk_drewN ?_ _ | refine blk_drew ?_ | refine blk_alloc ?_ _)); exact BK151.out⟩, ⟨by (with_reducible repeat (first | refine blk_drewN ?_ _ | refine blk_drew ?_ | refine blk_alloc ?_ _)); refine blk_far ?_ NB153_151.out _; (with_reducible repeat (first | refine blk_drewN ?_ _ | refine blk_drew ?_ | refine blk_alloc ?_ _)); exact BK153.out⟩, ⟨belA⟩⟩

end Go.Proofs.Ytogdhclomgafdaa.PFnDealt
