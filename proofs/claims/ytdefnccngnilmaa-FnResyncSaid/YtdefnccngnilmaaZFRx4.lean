-- Written by a program of this session (the print of the kit with contracts of this session's own added)
import Derived.Test.YtdefnccngnilmaaZFRx3
namespace Go.Proofs.Ytdefnccngnilmaa.PFnResync
open Go.RowKit Go.Proofs.YtdefnccngnilmaaW.PrintWords Go.Proofs.YtdefnccngnilmaaW.PrintLast Go.Proofs.YtdefnccngnilmaaW.PrintMore Go.Proofs.YtdefnccngnilmaaW.PrintPack
attribute [local go_sem] max2_int min2_int max_two min_two max_three min_three max_four min_four   -- for this text's walks alone
set_option linter.unusedVariables false
set_option linter.unusedSimpArgs false

/-! ### spec_l01Join: function 138 -/
def spec_l01Join.l0 : Nat → List Int → List Int → Int → Option (List Int)
 | 0, _, _, _ => none
 | k + 1, x1, x5, x6 => if x6 < (x1.length : Int) then (if 0 ≤ x6 then (if x5.length < 140737488355328 then (spec_l01Join.l0 k x1 (x5 ++ [rd x1 x6]) (wrap64 (x6 + 1))) else (none)) else (none)) else (some x5)
def spec_l01Join.f (k : Nat) (l0 : List Int) (l1 : List Int) : Option (List Int) := (spec_l01Bytes.f k l0).bind fun t173 => (spec_l01Join.l0 k l1 t173 0)
theorem spec_l01Join.mono_l : ∀ k, (∀ y0 y1 y2, LeO (spec_l01Join.l0 k y0 y1 y2) (spec_l01Join.l0 (k + 1) y0 y1 y2))
 | 0 => fun _ _ _ r h => by simp [spec_l01Join.l0] at h
 | k + 1 => by
  have ih0 := spec_l01Join.mono_l k
  · intro y0 y1 y2; unfold spec_l01Join.l0; exact xq95
theorem spec_l01Join.mono : ∀ a0 a1 k, LeO (spec_l01Join.f k a0 a1) (spec_l01Join.f (k + 1) a0 a1) := by
 intro a0 a1 k; have ih0 := spec_l01Join.mono_l k
 unfold spec_l01Join.f
 exact xq95
set_option maxHeartbeats 8000000 in
set_option maxRecDepth 100000 in
theorem spec_l01Join.calls (k : Nat) (A0 : Option Addr) (c0 : Nat) (l0 : List Int) (A1 : Option Addr) (c1 : Nat) (l1 : List Int) (r : List Int) (w : World) (hr0 : Kd.C (Kd.int .u8) w A0 l0.length l0) (hc0 : l0.length ≤ c0) (hr1 : Kd.C (Kd.int .u8) w A1 l1.length l1) (hc1 : l1.length ≤ c1) (h : spec_l01Join.f k l0 l1 = some r) :
 Calls Try.prog 138 #[.slice A0 l0.length c0, .slice A1 l1.length c1] w fun e w' => ∃ v0_ : Value, e = .returned (v0_) ∧ Kd.R (Kd.int .u8) 5 w' w.heap.size (fun _ => True) v0_ r ∧ Below w.heap.size w w' := by
 have HR0 := ak hr0; have HC0 := ak hc0; clear hr0 hc0; have HR1 := ak hr1; have HC1 := ak hc1; clear hr1 hc1; have HB := ak (Below.refl w.heap.size w); have H : ((spec_l01Bytes.f k l0).bind fun t173 => (spec_l01Join.l0 k l1 t173 0)) = some r := h; clear h; replace H := Option.bind_eq_some_iff.mp H; obtain ⟨t173, A30, H⟩ := H; (try dsimp only at H); have A3 := ak A30; clear A30; have H' := ak H; clear H; go_enter Try.func138, Try.ntmps138
 go_wp2_with (first | ((with_reducible refine gate_callee (f := 150) rfl ?_); refine goB 8 Try.func150 #[.slice A0 l0.length c0] rfl ?_; (with_reducible refine (spec_l01Bytes.calls k _ _ l0 t173 _ ?side1 ?side2 A3.out).mono ?_); (case side1 => exact cA HR0.out); (case side2 => exact HC0.out); rintro e w4 ⟨v174, rfl, ho0, hb⟩; refine ⟨_, rfl, ?_⟩; have HO175 := rL ho0; replace HB := bS hb; (try clear hb ho0)))
 go_loopg [5, 6] k (fun kq v5 v6 w' => ∃ (x5_1 : List Int) (x6_1 : Int), v6 = .int .i64 x6_1 ∧ Aside0 (spec_l01Join.l0 kq l1 x5_1 x6_1 = some r) ∧ Aside0 (kq ≤ k) ∧ Aside0 (Kd.R (Kd.int .u8) 5 w' w.heap.size (fun _ => True) v5 x5_1) ∧ Aside0 (Below w.heap.size w w'))
 case atStart => exact ⟨(t173), (0), eqA, H', ⟨Nat.le_refl _⟩, ⟨rA HO175⟩, ⟨belA⟩⟩
 case round =>
  clear H'; obtain ⟨x5_1, x6_1, rfl, HA, HK1, HO_5, HB⟩ := hrel
  cases gk with
  | zero => exact absurd HA.out (by simp [spec_l01Join.l0])
  | succ k1 =>
   have H := HA.out; clear HA; simp only [spec_l01Join.l0] at H
   by_cases c5 : x6_1 < (l1.length : Int); rotate_left
   · rw [if_neg c5] at H; have c5b0 := decide_eq_false c5; clear c5; obtain rfl := Option.some.inj H; go_wp2
     go_ret
     exact ⟨_, xq4, xq38, belA⟩
   rw [if_pos c5] at H; have c5b0 := decide_eq_true c5; clear c5
   by_cases c6 : 0 ≤ x6_1; rotate_left
   · rw [if_neg c6] at H; exact absurd H (by simp)
   rw [if_pos c6] at H; have c6b0 := decide_eq_true c6; clear c6
   by_cases c7 : x5_1.length < 140737488355328; rotate_left
   · rw [if_neg c7] at H; exact absurd H (by simp)
   rw [if_pos c7] at H; have LMc7 := ak c7; clear c7; obtain ⟨y177, hyq⟩ : ∃ y_ : List Int, y_ = (x5_1 ++ [rd l1 x6_1]) := ⟨_, rfl⟩; replace H : (spec_l01Join.l0 k1 l1 y177 (wrap64 (x6_1 + 1))) = some r := by first | (rw [hyq]; with_reducible exact H) | (have H2_ := (Option.bind_some _ _).symm.trans H; rw [hyq]; with_reducible exact H2_) | (have H2_ := (Option.bind_some _ _).symm.trans H; with_reducible exact H2_) | with_reducible exact H | (rw [hyq]; exact H) | exact H
   have Ny177 := ak hyq; clear hyq; have H' := ak H; clear H; have p176 : 0 ≤ (x6_1 : Int) := odA; have q176 : x6_1 < (l1.length : Int) := odA; obtain ⟨ad176, e176, hx176_0⟩ := Kd.at_int HR1.out x6_1 p176 q176
   cases e176
   try replace hx176_0 := cB HB hx176_0
   replace p176 := eq_true p176; replace q176 := eq_true q176; go_wp2_with (first | ((with_reducible refine gate_builtin (b := .append) (xs := #[.tmp 15, .tmp 20]) rfl ?_); at_builtin; refine Kd.R_append (Kd.int .u8) (w0 := w) w.heap.size rfl (.tmp 15) (.tmp 20) 35 5 (.int .u8 0) 1 rfl Try.underlying35 info5 rfl (by decide) (by omega) u5 x5_1 (rd l1 x6_1) [.int .u8 (rd l1 x6_1)] (fun _ => True) (fun _ => False) rfl rfl ?aP (fun _ hk => hk.elim) ?aF ?aO ?aB ?aS ?aL ?_; (case aP => exact rfl); (case aB => exact belA); (case aF => exact (fun _ _ => trivial)); (case aO => exact (rF HO_5)); (case aS => exact (below_size belA)); (case aL => have := LMc7.out; omega); intro v178 w8 ho hb hg hat; rw [← Ny177.out] at ho; have HO179 := ak ho; replace HB := ak hb; clear HO_5; clear ho hb hg hat))
   go_roundg k1
   case measure => have := HK1.out; omega
   case rel => exact ⟨(y177), (wrap64 (x6_1 + 1)), eqA, H', ⟨xq14⟩, ⟨rA HO179⟩, ⟨belA⟩⟩

/-! ### spec_l10PutList: function 142 -/
mutual
def spec_l10PutList.l0 : Nat → List Int → List Int → Int → Option (List Int)
 | 0, _, _, _ => none
 | k + 1, x0, x1, x5 => if x5 < (x1.length : Int) then (if 0 ≤ x5 then ((spec_PutNumber.f k (rd x1 x5)).bind fun t187 => (spec_l10PutList.l1 k x0 x1 x5 t187 (t187.length : Int) 0)) else (none)) else (some x0)
def spec_l10PutList.l1 : Nat → List Int → List Int → Int → List Int → Int → Int → Option (List Int)
 | 0, _, _, _, _, _, _ => none
 | k + 1, x0, x1, x5, x23, x24, x25 => if x25 < x24 then (if 0 ≤ x25 then (if x25 < (x23.length : Int) then (if x0.length < 140737488355328 then (spec_l10PutList.l1 k (x0 ++ [rd x23 x25]) x1 x5 x23 x24 (wrap64 (x25 + 1))) else (none)) else (none)) else (none)) else (spec_l10PutList.l0 k x0 x1 (wrap64 (x5 + 1)))
end
def spec_l10PutList.f (k : Nat) (l0 : List Int) (l1 : List Int) : Option (List Int) := (spec_PutNumber.f k (l1.length : Int)).bind fun t180 => ((spec_l01Join.f k l0 t180).bind fun t183 => (spec_l10PutList.l0 k t183 l1 0))
theorem spec_l10PutList.mono_l : ∀ k, (∀ y0 y1 y2, LeO (spec_l10PutList.l0 k y0 y1 y2) (spec_l10PutList.l0 (k + 1) y0 y1 y2)) ∧ (∀ y0 y1 y2 y3 y4 y5, LeO (spec_l10PutList.l1 k y0 y1 y2 y3 y4 y5) (spec_l10PutList.l1 (k + 1) y0 y1 y2 y3 y4 y5))
 | 0 => ⟨fun _ _ _ r h => by simp [spec_l10PutList.l0] at h, fun _ _ _ _ _ _ r h => by simp [spec_l10PutList.l1] at h⟩
 | k + 1 => by
  obtain ⟨ih0, ih1⟩ := spec_l10PutList.mono_l k; refine ⟨?_, ?_⟩
  · intro y0 y1 y2; unfold spec_l10PutList.l0; exact xq62
  · intro y0 y1 y2 y3 y4 y5; unfold spec_l10PutList.l1; exact xq62
theorem spec_l10PutList.mono : ∀ a0 a1 k, LeO (spec_l10PutList.f k a0 a1) (spec_l10PutList.f (k + 1) a0 a1) := by
 intro a0 a1 k; obtain ⟨ih0, ih1⟩ := spec_l10PutList.mono_l k
 unfold spec_l10PutList.f
 exact xq62
set_option maxHeartbeats 8000000 in
set_option maxRecDepth 100000 in
theorem spec_l10PutList.calls (k : Nat) (A0 : Option Addr) (c0 : Nat) (l0 : List Int) (A1 : Option Addr) (c1 : Nat) (l1 : List Int) (r : List Int) (w : World) (hr0 : Kd.C (Kd.int .u8) w A0 l0.length l0) (hc0 : l0.length ≤ c0) (hr1 : Kd.C (Kd.int .i64) w A1 l1.length l1) (hc1 : l1.length ≤ c1) (h : spec_l10PutList.f k l0 l1 = some r) :
 Calls Try.prog 142 #[.slice A0 l0.length c0, .slice A1 l1.length c1] w fun e w' => ∃ v0_ : Value, e = .returned (v0_) ∧ Kd.R (Kd.int .u8) 5 w' w.heap.size (fun _ => True) v0_ r ∧ Below w.heap.size w w' := by
 have HR0 := ak hr0; have HC0 := ak hc0; clear hr0 hc0; have HR1 := ak hr1; have HC1 := ak hc1; clear hr1 hc1; have HB := ak (Below.refl w.heap.size w); have H : ((spec_PutNumber.f k (l1.length : Int)).bind fun t180 => ((spec_l01Join.f k l0 t180).bind fun t183 => (spec_l10PutList.l0 k t183 l1 0))) = some r := h; clear h; replace H := Option.bind_eq_some_iff.mp H; obtain ⟨t180, A30, H⟩ := H; (try dsimp only at H); have A3 := ak A30; clear A30; replace H := Option.bind_eq_some_iff.mp H; obtain ⟨t183, A40, H⟩ := H; (try dsimp only at H); have A4 := ak A40; clear A40; have H' := ak H; clear H; go_enter Try.func142, Try.ntmps142
 go_wp2_with (first | ((with_reducible refine gate_callee (f := 119) rfl ?_); refine goB 11 Try.func119 #[.int .i64 (l1.length : Int)] rfl ?_; (with_reducible refine (spec_PutNumber.calls k (l1.length : Int) t180 _ A3.out).mono ?_); rintro e w5 ⟨v181, rfl, ho0, hb⟩; refine ⟨_, rfl, ?_⟩; have HO182 := rL ho0; replace HB := bS hb; (try clear hb ho0); obtain ⟨Ao6, co6, eo6⟩ := Kd.R_slice HO182.out; subst eo6) | ((with_reducible refine gate_callee (f := 138) rfl ?_); refine goB 12 Try.func138 #[.slice A0 l0.length c0, .slice Ao6 t180.length co6] rfl ?_; (with_reducible refine (spec_l01Join.calls k _ _ l0 _ _ t180 t183 _ ?side1 ?side2 ?side3 ?side4 A4.out).mono ?_); (case side1 => exact cA (Kd.C_below HR0.out HB.out)); (case side2 => exact HC0.out); (case side3 => exact cA ((Kd.R_reads' HO182.out).2.2)); (case side4 => exact (Kd.R_reads' HO182.out).2.1); rintro e w7 ⟨v184, rfl, ho0, hb⟩; refine ⟨_, rfl, ?_⟩; have HO185 := rL (Kd.R_new' ho0 (Kd.R_lt (rF HO182))); replace HO182 := ak (Kd.R_elder' (rF HO182) (Kd.R_base ho0) hb); replace HB := bS hb; (try clear hb ho0)))
 go_loopg [0, 5] k (fun kq v0 v5 w' => ∃ (x0_1 : List Int) (x5_1 : Int), v5 = .int .i64 x5_1 ∧ Aside0 (spec_l10PutList.l0 kq x0_1 l1 x5_1 = some r) ∧ Aside0 (kq ≤ k) ∧ Aside0 (Kd.R (Kd.int .u8) 5 w' w.heap.size (fun _ => True) v0 x0_1) ∧ Aside0 (Below w.heap.size w w'))
 case atStart => exact ⟨(t183), (0), eqA, H', ⟨Nat.le_refl _⟩, ⟨rE (Kd.R_mono HO185.out (fun _ hk => trivial))⟩, ⟨belA⟩⟩
 case round =>
  clear H'; obtain ⟨x0_1, x5_1, rfl, HA, HK1, HO_0, HB⟩ := hrel
  cases gk with
  | zero => exact absurd HA.out (by simp [spec_l10PutList.l0])
  | succ k1 =>
   have H := HA.out; clear HA; simp only [spec_l10PutList.l0] at H
   by_cases c8 : x5_1 < (l1.length : Int); rotate_left
   · rw [if_neg c8] at H; have c8b0 := decide_eq_false c8; clear c8; obtain rfl := Option.some.inj H; go_wp2
     go_ret
     exact ⟨_, xq4, by (with_reducible repeat (first | apply Kd.R_alloc | apply Kd.R_drewN | apply Kd.R_drew)); exact HO_0.out, belA⟩
   rw [if_pos c8] at H; have c8b0 := decide_eq_true c8; clear c8
   by_cases c9 : 0 ≤ x5_1; rotate_left
   · rw [if_neg c9] at H; exact absurd H (by simp)
   rw [if_pos c9] at H; have c9b0 := decide_eq_true c9; clear c9; replace H := Option.bind_eq_some_iff.mp H; obtain ⟨t187, A100, H⟩ := H; (try dsimp only at H); have A10 := ak A100; clear A100; have H' := ak H; clear H; have p186 : 0 ≤ (x5_1 : Int) := odA; have q186 : x5_1 < (l1.length : Int) := odA; obtain ⟨ad186, e186, hx186_0⟩ := Kd.at_int HR1.out x5_1 p186 q186
   cases e186
   try replace hx186_0 := cB HB hx186_0
   replace p186 := eq_true p186; replace q186 := eq_true q186; go_wp2_with (first | ((with_reducible refine gate_callee (f := 119) rfl ?_); refine goB 23 Try.func119 #[.int .i64 (rd l1 x5_1)] rfl ?_; (with_reducible refine (spec_PutNumber.calls k1 (rd l1 x5_1) t187 _ A10.out).mono ?_); rintro e w11 ⟨v188, rfl, ho0, hb⟩; refine ⟨_, rfl, ?_⟩; have HO189 := rL (Kd.R_new' ho0 (Kd.R_lt (rF HO_0))); replace HO_0 := ak (Kd.R_elder' (rF HO_0) (Kd.R_base ho0) hb); replace HB := bS hb; (try clear hb ho0); obtain ⟨Ao12, co12, eo12⟩ := Kd.R_slice HO189.out; subst eo12))
   go_loopg [0, 25] k1 (fun kq v0 v25 w' => ∃ (x0_2 : List Int) (x25_2 : Int), v25 = .int .i64 x25_2 ∧ Aside0 (spec_l10PutList.l1 kq x0_2 l1 x5_1 t187 (t187.length : Int) x25_2 = some r) ∧ Aside0 (kq ≤ k1) ∧ Aside0 (Kd.R (Kd.int .u8) 5 w' w.heap.size (fun k_ => some k_ ≠ ((.slice Ao12 t187.length co12) : Value).ownBlock) v0 x0_2) ∧ Aside0 (Kd.R (Kd.int .u8) 5 w' w.heap.size (fun k_ => some k_ ≠ (v0 : Value).ownBlock) (.slice Ao12 t187.length co12) t187) ∧ Aside0 (Below w.heap.size w w'))
   case atStart => exact ⟨(x0_1), (0), eqA, H', ⟨Nat.le_refl _⟩, ⟨rE (Kd.R_mono HO_0.out (fun _ hk => hk.2))⟩, ⟨rE (Kd.R_mono HO189.out (fun _ hk => hk.2))⟩, ⟨belA⟩⟩
   case round =>
    clear H'; obtain ⟨x0_2, x25_2, rfl, HA, HK2, HO_0, HO_23, HB⟩ := hrel
    cases gk with
    | zero => exact absurd HA.out (by simp [spec_l10PutList.l1])
    | succ k2 =>
     have H := HA.out; clear HA; simp only [spec_l10PutList.l1] at H
     by_cases c13 : x25_2 < (t187.length : Int); rotate_left
     · rw [if_neg c13] at H; have c13b0 := decide_eq_false c13; clear c13; have H' := ak H; clear H; go_wp2
       go_roundg k2
       case measure => have := HK1.out; have := HK2.out; omega
       case rel => exact ⟨(x0_2), (wrap64 (x5_1 + 1)), eqA, H', ⟨by have := HK1.out; have := HK2.out; omega⟩, ⟨rE (Kd.R_mono HO_0.out (fun _ hk => trivial))⟩, ⟨belA⟩⟩
     rw [if_pos c13] at H; have c13b0 := decide_eq_true c13; clear c13
     by_cases c14 : 0 ≤ x25_2; rotate_left
     · rw [if_neg c14] at H; exact absurd H (by simp)
     rw [if_pos c14] at H; have c14b0 := decide_eq_true c14; clear c14
     by_cases c15 : x25_2 < (t187.length : Int); rotate_left
     · rw [if_neg c15] at H; exact absurd H (by simp)
     rw [if_pos c15] at H; have c15b0 := decide_eq_true c15; clear c15
     by_cases c16 : x0_2.length < 140737488355328; rotate_left
     · rw [if_neg c16] at H; exact absurd H (by simp)
     rw [if_pos c16] at H; have LMc16 := ak c16; clear c16; obtain ⟨y191, hyq⟩ : ∃ y_ : List Int, y_ = (x0_2 ++ [rd t187 x25_2]) := ⟨_, rfl⟩; replace H : (spec_l10PutList.l1 k2 y191 l1 x5_1 t187 (t187.length : Int) (wrap64 (x25_2 + 1))) = some r := by first | (rw [hyq]; with_reducible exact H) | (have H2_ := (Option.bind_some _ _).symm.trans H; rw [hyq]; with_reducible exact H2_) | (have H2_ := (Option.bind_some _ _).symm.trans H; with_reducible exact H2_) | with_reducible exact H | (rw [hyq]; exact H) | exact H
     have Ny191 := ak hyq; clear hyq; have H' := ak H; clear H; have p190 : 0 ≤ (x25_2 : Int) := odA; have q190 : x25_2 < (t187.length : Int) := odA; obtain ⟨ad190, e190, hx190_0⟩ := Kd.at_int (Kd.R_reads' HO_23.out).2.2 x25_2 p190 q190
     cases e190
     replace p190 := eq_true p190; replace q190 := eq_true q190; go_wp2_with (first | ((with_reducible refine gate_builtin (b := .append) (xs := #[.tmp 29, .tmp 31]) rfl ?_); at_builtin; refine Kd.R_append (Kd.int .u8) (w0 := w) w.heap.size rfl (.tmp 29) (.tmp 31) 35 5 (.int .u8 0) 1 rfl Try.underlying35 info5 rfl (by decide) (by omega) u0 x0_2 (rd t187 x25_2) [.int .u8 (rd t187 x25_2)] (fun k_ => some k_ ≠ (.slice (some ad190) t187.length co12 : Value).ownBlock) (fun _ => False) rfl rfl ?aP (fun _ hk => hk.elim) ?aF ?aO ?aB ?aS ?aL ?_; (case aP => exact rfl); (case aB => exact belA); (case aF => exact (fun k_ hk => Kd.fresh' (Kd.R_lt (rF HO_23)) k_ hk)); (case aO => exact (rF HO_0)); (case aS => exact (below_size belA)); (case aL => have := LMc16.out; omega); intro v192 w17 ho hb hg hat; rw [← Ny191.out] at ho; have HO193 := ak ho; replace HO_23 := ak (Kd.R_after (ok := (fun _ => True)) (by (with_reducible repeat (first | apply Kd.R_alloc | apply Kd.R_drewN | apply Kd.R_drew)); first | exact Kd.R_mono HO_23.out (fun _ hk => ⟨trivial, hk⟩) | exact Kd.R_mono HO_23.out (fun _ _ => trivial)) hg hat); replace HB := ak hb; clear HO_0; clear ho hb hg hat))
     go_roundg k2
     case measure => have := HK1.out; have := HK2.out; omega
     case rel => exact ⟨(y191), (wrap64 (x25_2 + 1)), eqA, H', ⟨by have := HK1.out; have := HK2.out; omega⟩, ⟨rA HO193⟩, ⟨rE (Kd.R_mono HO_23.out (fun _ hk => hk.2))⟩, ⟨belA⟩⟩

/-! ### spec_EncodeJob: function 136 -/
def spec_EncodeJob.f (k : Nat) (a0_0 : Int) (a0_1 : Int) (l0_2 : List Int) (l0_3 : List Int) (a0_4 : Int) : Option (List Int) := (spec_JobOk.f k a0_0 a0_1 l0_2 l0_3 a0_4).bind fun t195 => (if t195 = true then ((spec_PutNumber.f k a0_4).bind fun t199 => ((spec_l01Join.f k (([(a0_0) % 256, (a0_1) % 256] : List Int)) t199).bind fun t202 => ((spec_l10PutList.f k t202 l0_2).bind fun t205 => ((spec_l10PutList.f k t205 l0_3).bind fun t208 => (some t208))))) else (some ([] : List Int)))
theorem spec_EncodeJob.mono : ∀ a0 a1 a2 a3 a4 k, LeO (spec_EncodeJob.f k a0 a1 a2 a3 a4) (spec_EncodeJob.f (k + 1) a0 a1 a2 a3 a4) := by
 intro a0 a1 a2 a3 a4 k
 unfold spec_EncodeJob.f
 exact (by repeat' (with_reducible first | exact spec_JobOk.mono _ _ _ _ _ _ | exact spec_PutNumber.mono _ _ | exact spec_l01Join.mono _ _ _ | exact spec_l10PutList.mono _ _ _ | exact LeO.refl _ | exact LeO.none _ | refine LeO.ite ?_ ?_ | refine LeO.bind ?_ (fun _ => ?_)))
def spec_EncodeJob.T3 : Bool × List (List Nat × List Nat) := (true, [([], []), ([0], [0]), ([1], [1]), ([], []), ([3], [3]), ([4], [4]), ([2, 5], [2, 5]), ([], []), ([7], [7]), ([8], [8]), ([6, 9, 9], [6, 9]), ([10, 10, 0, 1, 2, 3, 4, 5, 6, 7, 8, 9, 10], [10])])
def spec_EncodeJob.B3 : List Nat := [0, 1, 3, 0, 8, 24, 63, 0, 128, 384, 1023, 2047]
theorem spec_EncodeJob.tab3 : rtab .any (opsOf Try.f136 3) = spec_EncodeJob.T3 := by kernel_rfl
theorem spec_EncodeJob.bits3 : waitsOk spec_EncodeJob.T3.2 spec_EncodeJob.B3 = true := by kernel_rfl
def spec_EncodeJob.T4 : Bool × List (List Nat × List Nat) := (true, [([], []), ([], []), ([1], [1]), ([0, 2], [0, 2]), ([], []), ([4], [4]), ([3, 5, 3], [3, 5]), ([6, 6, 0, 1, 2, 3, 4, 5, 6], [6])])
def spec_EncodeJob.B4 : List Nat := [0, 0, 2, 7, 0, 16, 63, 127]
theorem spec_EncodeJob.tab4 : rtab .any (opsOf Try.f136 4) = spec_EncodeJob.T4 := by kernel_rfl
theorem spec_EncodeJob.bits4 : waitsOk spec_EncodeJob.T4.2 spec_EncodeJob.B4 = true := by kernel_rfl
set_option maxHeartbeats 8000000 in
set_option maxRecDepth 100000 in
theorem spec_EncodeJob.calls (k : Nat) (a0_0 : Int) (a0_1 : Int) (A0_2 : Option Addr) (c0_2 : Nat) (l0_2 : List Int) (A0_3 : Option Addr) (c0_3 : Nat) (l0_3 : List Int) (a0_4 : Int) (r : List Int) (w : World) (hr0_2 : Kd.C (Kd.int .i64) w A0_2 l0_2.length l0_2) (hc0_2 : l0_2.length ≤ c0_2) (hr0_3 : Kd.C (Kd.int .i64) w A0_3 l0_3.length l0_3) (hc0_3 : l0_3.length ≤ c0_3) (h : spec_EncodeJob.f k a0_0 a0_1 l0_2 l0_3 a0_4 = some r) :
 Calls Try.prog 136 #[.agg #[.int .i64 a0_0, .int .i64 a0_1, .slice A0_2 l0_2.length c0_2, .slice A0_3 l0_3.length c0_3, .int .i64 a0_4]] w fun e w' => ∃ v0_ : Value, e = .returned (v0_) ∧ Kd.R (Kd.int .u8) 5 w' w.heap.size (fun _ => True) v0_ r ∧ Below w.heap.size w w' := by
 have hu50 := Try.underlying50; have HR0_2 := ak hr0_2; have HC0_2 := ak hc0_2; clear hr0_2 hc0_2; have HR0_3 := ak hr0_3; have HC0_3 := ak hc0_3; clear hr0_3 hc0_3; have HB := ak (Below.refl w.heap.size w); have H : ((spec_JobOk.f k a0_0 a0_1 l0_2 l0_3 a0_4).bind fun t195 => (if t195 = true then ((spec_PutNumber.f k a0_4).bind fun t199 => ((spec_l01Join.f k (([(a0_0) % 256, (a0_1) % 256] : List Int)) t199).bind fun t202 => ((spec_l10PutList.f k t202 l0_2).bind fun t205 => ((spec_l10PutList.f k t205 l0_3).bind fun t208 => (some t208))))) else (some ([] : List Int)))) = some r := h; clear h; replace H := Option.bind_eq_some_iff.mp H; obtain ⟨t195, A20, H⟩ := H; (try dsimp only at H); have A2 := ak A20; clear A20
 by_cases c3 : t195 = true; rotate_left
 · replace c3 := Bool.eq_false_iff.mpr c3; subst c3; have H1 : (some ([] : List Int)) = some r := by rw [if_neg (show ¬ (false = true) by decide)] at H; exact H
   clear H; have H := H1; clear H1; obtain rfl := Option.some.inj H; go_enter Try.func136, Try.ntmps136
   go_wp2_with (first | ((with_reducible refine gate_dst (N := 1) rfl ?_); refine boxA 1 #[.int .i64 a0_0, .int .i64 a0_1, .slice A0_2 l0_2.length c0_2, .slice A0_3 l0_3.length c0_3, .int .i64 a0_4] 50 ?_; intro gb194 hg w24 hbox hb; have BK194 := ak hbox; have GW194 := leA (w := w) hg; have GE194 := leA (w := w) hg; replace HB := bS hb; clear hb hbox hg; obtain ⟨hcz25_0, hcz25_1, hcz25_2, hcz25_3, hcz25_4, hfz25_0, hfz25_1, hfz25_2, hfz25_3, hfz25_4⟩ := cel5 BK194) | ((with_reducible refine gate_callee (f := 77) rfl ?_); refine goB 5 Try.func77 #[.agg #[.int .i64 a0_0, .int .i64 a0_1, .slice A0_2 l0_2.length c0_2, .slice A0_3 l0_3.length c0_3, .int .i64 a0_4]] rfl ?_; (with_reducible refine (spec_JobOk.calls k a0_0 a0_1 _ _ l0_2 _ _ l0_3 a0_4 false _ ?side1 ?side2 ?side3 ?side4 A2.out).mono ?_); (case side1 => exact cA (Kd.C_below HR0_2.out HB.out)); (case side2 => exact HC0_2.out); (case side3 => exact cA (Kd.C_below HR0_3.out HB.out)); (case side4 => exact HC0_3.out); rintro e w26 ⟨rfl, hb⟩; refine ⟨_, rfl, ?_⟩; replace BK194 := bB BK194 hb; replace HB := bS hb; (try clear hb)))
   go_ret
   exact ⟨_, xq4, xq19, belA⟩
 subst c3; have H1 : ((spec_PutNumber.f k a0_4).bind fun t199 => ((spec_l01Join.f k (([(a0_0) % 256, (a0_1) % 256] : List Int)) t199).bind fun t202 => ((spec_l10PutList.f k t202 l0_2).bind fun t205 => ((spec_l10PutList.f k t205 l0_3).bind fun t208 => (some t208))))) = some r := by rw [if_pos rfl] at H; exact H
 clear H; have H := H1; clear H1; obtain ⟨y196, hyq⟩ : ∃ y_ : List Int, y_ = (([(a0_0) % 256, (a0_1) % 256] : List Int)) := ⟨_, rfl⟩; replace H : ((spec_PutNumber.f k a0_4).bind fun t199 => ((spec_l01Join.f k y196 t199).bind fun t202 => ((spec_l10PutList.f k t202 l0_2).bind fun t205 => ((spec_l10PutList.f k t205 l0_3).bind fun t208 => (some t208))))) = some r := by first | (rw [hyq]; with_reducible exact H) | (have H2_ := (Option.bind_some _ _).symm.trans H; rw [hyq]; with_reducible exact H2_) | (have H2_ := (Option.bind_some _ _).symm.trans H; with_reducible exact H2_) | with_reducible exact H | (rw [hyq]; exact H) | exact H
 have Ny196 := ak hyq; clear hyq; replace H := Option.bind_eq_some_iff.mp H; obtain ⟨t199, A40, H⟩ := H; (try dsimp only at H); have A4 := ak A40; clear A40; replace H := Option.bind_eq_some_iff.mp H; obtain ⟨t202, A50, H⟩ := H; (try dsimp only at H); have A5 := ak A50; clear A50; replace H := Option.bind_eq_some_iff.mp H; obtain ⟨t205, A60, H⟩ := H; (try dsimp only at H); have A6 := ak A60; clear A60; replace H := Option.bind_eq_some_iff.mp H; obtain ⟨t208, A70, H⟩ := H; (try dsimp only at H); have A7 := ak A70; clear A70; obtain rfl := Option.some.inj H; go_enter Try.func136, Try.ntmps136
 try go_wp2_with (first | ((with_reducible refine gate_dst (N := 1) rfl ?_); refine boxA 1 #[.int .i64 a0_0, .int .i64 a0_1, .slice A0_2 l0_2.length c0_2, .slice A0_3 l0_3.length c0_3, .int .i64 a0_4] 50 ?_; intro gb194 hg w8 hbox hb; have BK194 := ak hbox; have GW194 := leA (w := w) hg; have GE194 := leA (w := w) hg; replace HB := bS hb; clear hb hbox hg; obtain ⟨hcz9_0, hcz9_1, hcz9_2, hcz9_3, hcz9_4, hfz9_0, hfz9_1, hfz9_2, hfz9_3, hfz9_4⟩ := cel5 BK194) | ((with_reducible refine gate_callee (f := 77) rfl ?_); refine goB 5 Try.func77 #[.agg #[.int .i64 a0_0, .int .i64 a0_1, .slice A0_2 l0_2.length c0_2, .slice A0_3 l0_3.length c0_3, .int .i64 a0_4]] rfl ?_; (with_reducible refine (spec_JobOk.calls k a0_0 a0_1 _ _ l0_2 _ _ l0_3 a0_4 true _ ?side1 ?side2 ?side3 ?side4 A2.out).mono ?_); (case side1 => exact cA (Kd.C_below HR0_2.out HB.out)); (case side2 => exact HC0_2.out); (case side3 => exact cA (Kd.C_below HR0_3.out HB.out)); (case side4 => exact HC0_3.out); rintro e w10 ⟨rfl, hb⟩; refine ⟨_, rfl, ?_⟩; replace BK194 := bB BK194 hb; replace HB := bS hb; (try clear hb)))
 replace BK194 := ak (blk_drew BK194.out); replace HB := ak (below_drew1 HB.out); refine start_ (n := 12) (S := fun w' => True) (ds := []) #[false, false, false, false, false, false, false, false, false, false, false, false] (by kernel_rfl) rfl rfl trivial (fun hHeld => ?_); refine with_tabW spec_EncodeJob.tab3 spec_EncodeJob.bits3 (fun HT_ HW_ => ?_)
 generalize w10.drew = w11 at BK194 HB hHeld ⊢
 refine pure_ (i := 0) (N := some 7) (v := ?_) (a' := ?_) #[true, false, false, false, false, false, false, false, false, false, false, false] rfl rfl (any_of HT_.out (by kernel_rfl)) (fun _ _ _ h => h) (Or.inl ⟨by rfl, ?_⟩) ?_ ?_
 rotate_left
 · intro w'; go_simp
   with_reducible rfl
 rotate_left
 · simp only [Act.put, sa, sb, sc, i64_w, i32_w]
   rfl
 refine pure_ (i := 3) (N := some 10) (v := ?_) (a' := ?_) #[true, false, false, true, false, false, false, false, false, false, false, false] rfl rfl (any_of HT_.out (by kernel_rfl)) (fun _ _ _ h => h) (Or.inl ⟨by rfl, ?_⟩) ?_ ?_
 rotate_left
 · intro w'; go_simp
   with_reducible rfl
 rotate_left
 · simp only [Act.put, sa, sb, sc, i64_w, i32_w]
   rfl
 refine pure_ (i := 7) (N := some 14) (v := ?_) (a' := ?_) #[true, false, false, true, false, false, false, true, false, false, false, false] rfl rfl (any_of HT_.out (by kernel_rfl)) (fun _ _ _ h => h) (Or.inl ⟨by rfl, ?_⟩) ?_ ?_
 rotate_left
 · intro w'; go_simp
   with_reducible rfl
 rotate_left
 · simp only [Act.put, sa, sb, sc, i64_w, i32_w]
   rfl
 refine inv_at [1, 2, 4, 5, 6, 8, 9, 10, 11] (fun a0_ b a w' => ∃ (v197 : Value) (v200 : Value) (v203 : Value) (m11_ : Value), a = putSel a0_ b [(1, 8, .int .i64 a0_0), (2, 9, .int .u8 ((a0_0) % 256)), (4, 11, .int .i64 a0_1), (5, 12, .int .u8 ((a0_1) % 256)), (6, 13, v197), (8, 15, .int .i64 a0_4), (9, 16, v200), (10, 17, v203), (11, 3, m11_)] ∧ (w'.heap[gb194]? = some (.cells #[.int .i64 a0_0, .int .i64 a0_1, .slice A0_2 l0_2.length c0_2, .slice A0_3 l0_3.length c0_3, .int .i64 a0_4] 50 (0, 0))) ∧ (Below w.heap.size w w') ∧ (b 6 = true → Kd.R (Kd.int .u8) 5 w' w.heap.size (fun _ => True) v197 y196) ∧ (b 9 = true → Kd.R (Kd.int .u8) 5 w' w.heap.size (fun _ => True) v200 t199) ∧ (b 10 = true → Kd.R (Kd.int .u8) 5 w' w.heap.size (fun _ => True) v203 t202) ∧ (b 11 = true → (m11_ : Value) = v203)) HT_.out HW_.out (by kernel_rfl) (by kernel_rfl) ?_ ?_ ?_
 · exact ⟨.bool false, .bool false, .bool false, .bool false, by simp only [putSel, Bool.false_eq_true, if_false], BK194.out, HB.out, fun h_ => absurd h_ (by decide), fun h_ => absurd h_ (by decide), fun h_ => absurd h_ (by decide), fun h_ => absurd h_ (by decide)⟩
 · skip
   clear BK194 HB; refine steps_cons ?_ ?_
   · rintro b a w' ⟨v197, v200, v203, m11_, ha, Q_BK194, Q_HB, Q_HO198, Q_HO201, Q_HO204, Q_X11_⟩ hb_ hon hoff
     refine ⟨_, rfl, fun K hK => ?_⟩
     have e7 : a.tmps[7]? = some (.pointer (some ⟨gb194, 0, none⟩)) := by rw [ha]; exact (putSel_off rfl).trans rfl
     replace ha := ak ha; have BK194 := ak Q_BK194; have HB := ak Q_HB; have hc0_ : w'.cell? ⟨gb194, 0, none⟩ = some (.int .i64 a0_0) := (blk_cell BK194.out 0).trans rfl; have hc1_ : w'.cell? ⟨gb194, 1, none⟩ = some (.int .i64 a0_1) := (blk_cell BK194.out 1).trans rfl; have hc2_ : w'.cell? ⟨gb194, 2, none⟩ = some (.slice A0_2 l0_2.length c0_2) := (blk_cell BK194.out 2).trans rfl; have hc3_ : w'.cell? ⟨gb194, 3, none⟩ = some (.slice A0_3 l0_3.length c0_3) := (blk_cell BK194.out 3).trans rfl; have hc4_ : w'.cell? ⟨gb194, 4, none⟩ = some (.int .i64 a0_4) := (blk_cell BK194.out 4).trans rfl; refine value_ (w1 := w') (v := .int .i64 a0_0) (by rfl) rfl ?_ ?_
     · go_simp
       (try simp only [i64_w])
       try rfl
     refine hK.out _ _ ⟨v197, v200, v203, m11_, (by rw [ha.out]; exact putSel_upk 0 hb_ rfl rfl rfl), Q_BK194, Q_HB, fun h0_ => absurd ((hoff 6 (by kernel_rfl)).symm.trans h0_) (by decide), Q_HO201, fun h0_ => absurd ((hoff 10 (by kernel_rfl)).symm.trans h0_) (by decide), fun h0_ => absurd ((hoff 11 (by kernel_rfl)).symm.trans h0_) (by decide)⟩
   refine steps_cons ?_ ?_
   · rintro b a w' ⟨v197, v200, v203, m11_, ha, Q_BK194, Q_HB, Q_HO198, Q_HO201, Q_HO204, Q_X11_⟩ hb_ hon hoff
     refine ⟨_, rfl, fun K hK => ?_⟩
     have e8 : a.tmps[8]? = some (.int .i64 a0_0) := by rw [ha]; exact putSel_on (e := (1, 8, .int .i64 a0_0)) 0 rfl rfl (hon 1 (by kernel_rfl)) rfl
     replace ha := ak ha; have BK194 := ak Q_BK194; have HB := ak Q_HB; refine value_ (w1 := w') (v := .int .u8 ((a0_0) % 256)) (by rfl) rfl ?_ ?_
     · go_simp
       (try simp only [i64_w])
       try rfl
     refine hK.out _ _ ⟨v197, v200, v203, m11_, (by rw [ha.out]; exact putSel_upk 1 hb_ rfl rfl rfl), Q_BK194, Q_HB, fun h0_ => absurd ((hoff 6 (by kernel_rfl)).symm.trans h0_) (by decide), Q_HO201, fun h0_ => absurd ((hoff 10 (by kernel_rfl)).symm.trans h0_) (by decide), fun h0_ => absurd ((hoff 11 (by kernel_rfl)).symm.trans h0_) (by decide)⟩
   refine steps_cons ?_ ?_
   · rintro b a w' ⟨v197, v200, v203, m11_, ha, Q_BK194, Q_HB, Q_HO198, Q_HO201, Q_HO204, Q_X11_⟩ hb_ hon hoff
     refine ⟨_, rfl, fun K hK => ?_⟩
     have e10 : a.tmps[10]? = some (.pointer (some ⟨gb194, 1, none⟩)) := by rw [ha]; exact (putSel_off rfl).trans rfl
     replace ha := ak ha; have BK194 := ak Q_BK194; have HB := ak Q_HB; have hc0_ : w'.cell? ⟨gb194, 0, none⟩ = some (.int .i64 a0_0) := (blk_cell BK194.out 0).trans rfl; have hc1_ : w'.cell? ⟨gb194, 1, none⟩ = some (.int .i64 a0_1) := (blk_cell BK194.out 1).trans rfl; have hc2_ : w'.cell? ⟨gb194, 2, none⟩ = some (.slice A0_2 l0_2.length c0_2) := (blk_cell BK194.out 2).trans rfl; have hc3_ : w'.cell? ⟨gb194, 3, none⟩ = some (.slice A0_3 l0_3.length c0_3) := (blk_cell BK194.out 3).trans rfl; have hc4_ : w'.cell? ⟨gb194, 4, none⟩ = some (.int .i64 a0_4) := (blk_cell BK194.out 4).trans rfl; refine value_ (w1 := w') (v := .int .i64 a0_1) (by rfl) rfl ?_ ?_
     · go_simp
       (try simp only [i64_w])
       try rfl
     refine hK.out _ _ ⟨v197, v200, v203, m11_, (by rw [ha.out]; exact putSel_upk 2 hb_ rfl rfl rfl), Q_BK194, Q_HB, fun h0_ => absurd ((hoff 6 (by kernel_rfl)).symm.trans h0_) (by decide), Q_HO201, fun h0_ => absurd ((hoff 10 (by kernel_rfl)).symm.trans h0_) (by decide), fun h0_ => absurd ((hoff 11 (by kernel_rfl)).symm.trans h0_) (by decide)⟩
   refine steps_cons ?_ ?_
   · rintro b a w' ⟨v197, v200, v203, m11_, ha, Q_BK194, Q_HB, Q_HO198, Q_HO201, Q_HO204, Q_X11_⟩ hb_ hon hoff
     refine ⟨_, rfl, fun K hK => ?_⟩
     have e11 : a.tmps[11]? = some (.int .i64 a0_1) := by rw [ha]; exact putSel_on (e := (4, 11, .int .i64 a0_1)) 2 rfl rfl (hon 4 (by kernel_rfl)) rfl
     replace ha := ak ha; have BK194 := ak Q_BK194; have HB := ak Q_HB; refine value_ (w1 := w') (v := .int .u8 ((a0_1) % 256)) (by rfl) rfl ?_ ?_
     · go_simp
       (try simp only [i64_w])
       try rfl
     refine hK.out _ _ ⟨v197, v200, v203, m11_, (by rw [ha.out]; exact putSel_upk 3 hb_ rfl rfl rfl), Q_BK194, Q_HB, fun h0_ => absurd ((hoff 6 (by kernel_rfl)).symm.trans h0_) (by decide), Q_HO201, fun h0_ => absurd ((hoff 10 (by kernel_rfl)).symm.trans h0_) (by decide), fun h0_ => absurd ((hoff 11 (by kernel_rfl)).symm.trans h0_) (by decide)⟩
   refine steps_cons ?_ ?_
   · rintro b a w' ⟨v197, v200, v203, m11_, ha, Q_BK194, Q_HB, Q_HO198, Q_HO201, Q_HO204, Q_X11_⟩ hb_ hon hoff
     refine ⟨_, rfl, fun K hK => ?_⟩
     have e9 : a.tmps[9]? = some (.int .u8 ((a0_0) % 256)) := by rw [ha]; exact putSel_on (e := (2, 9, .int .u8 ((a0_0) % 256))) 1 rfl rfl (hon 2 (by kernel_rfl)) rfl
     have e12 : a.tmps[12]? = some (.int .u8 ((a0_1) % 256)) := by rw [ha]; exact putSel_on (e := (5, 12, .int .u8 ((a0_1) % 256))) 3 rfl rfl (hon 5 (by kernel_rfl)) rfl
     replace ha := ak ha; have BK194 := ak Q_BK194; have HB := ak Q_HB; refine Kd.R_lit_step (Kd.int .u8) _ 5 ?hg (N := 13) ?hd (xs := ([(a0_0) % 256, (a0_1) % 256] : List Int)) (inner := [.int .u8 ((a0_0) % 256), .int .u8 ((a0_1) % 256)]) (ok := fun _ => True) (okp := fun _ => True) ?hr ?hp (fun _ hk => hk) trivial (Below.refl _ _) (Nat.le_refl _) (by simp) ?_; (case hd => rfl); (case hg => rfl); (case hr => exact xq9); (case hp => exact (Reps.one (show Kd.M (Kd.int .u8) _ _ _ ((a0_0) % 256) [.int .u8 ((a0_0) % 256)] from rfl) (Reps.one (show Kd.M (Kd.int .u8) _ _ _ ((a0_1) % 256) [.int .u8 ((a0_1) % 256)] from rfl) (Reps.none _ _))))
     intro v197 w12 ho13 hb hg_ hnew_; clear hg_ hnew_; (first | rw [← Ny196.out] at ho13 | (simp only [Int.reduceToNat] at ho13; rw [← Ny196.out] at ho13))
     have n0_ := rL ho13; have n1_ := bB BK194 hb; have n2_ := bS hb; have z_HO201 := fun (h0_ : b 9 = true) => (show Kd.R (Kd.int .u8) 5 w12 w.heap.size (fun _ => True) v200 t199 from by first | exact (Kd.R_elder' (rE (Q_HO201 h0_)) (Kd.R_base ho13) hb) | exact Kd.R_mono (Kd.R_elder' (rE (Q_HO201 h0_)) (Kd.R_base ho13) hb) (fun _ h_ => by first | trivial | exact h_ | exact h_.1))
     clear BK194; clear HB; have HO198 := n0_; have BK194 := n1_; have HB := n2_; clear n0_ n1_ n2_; clear hb ho13; refine hK.out _ _ ⟨v197, v200, v203, m11_, (by rw [ha.out]; exact putSel_upk 4 hb_ rfl rfl rfl), blkA, belA, fun _ => (rF HO198), z_HO201, fun h0_ => absurd ((hoff 10 (by kernel_rfl)).symm.trans h0_) (by decide), fun h0_ => absurd ((hoff 11 (by kernel_rfl)).symm.trans h0_) (by decide)⟩
   refine steps_cons ?_ ?_
   · rintro b a w' ⟨v197, v200, v203, m11_, ha, Q_BK194, Q_HB, Q_HO198, Q_HO201, Q_HO204, Q_X11_⟩ hb_ hon hoff
     refine ⟨_, rfl, fun K hK => ?_⟩
     have e14 : a.tmps[14]? = some (.pointer (some ⟨gb194, 4, none⟩)) := by rw [ha]; exact (putSel_off rfl).trans rfl
     replace ha := ak ha; have BK194 := ak Q_BK194; have HB := ak Q_HB; have hc0_ : w'.cell? ⟨gb194, 0, none⟩ = some (.int .i64 a0_0) := (blk_cell BK194.out 0).trans rfl; have hc1_ : w'.cell? ⟨gb194, 1, none⟩ = some (.int .i64 a0_1) := (blk_cell BK194.out 1).trans rfl; have hc2_ : w'.cell? ⟨gb194, 2, none⟩ = some (.slice A0_2 l0_2.length c0_2) := (blk_cell BK194.out 2).trans rfl; have hc3_ : w'.cell? ⟨gb194, 3, none⟩ = some (.slice A0_3 l0_3.length c0_3) := (blk_cell BK194.out 3).trans rfl; have hc4_ : w'.cell? ⟨gb194, 4, none⟩ = some (.int .i64 a0_4) := (blk_cell BK194.out 4).trans rfl; refine value_ (w1 := w') (v := .int .i64 a0_4) (by rfl) rfl ?_ ?_
     · go_simp
       (try simp only [i64_w])
       try rfl
     refine hK.out _ _ ⟨v197, v200, v203, m11_, (by rw [ha.out]; exact putSel_upk 5 hb_ rfl rfl rfl), Q_BK194, Q_HB, Q_HO198, fun h0_ => absurd ((hoff 9 (by kernel_rfl)).symm.trans h0_) (by decide), fun h0_ => absurd ((hoff 10 (by kernel_rfl)).symm.trans h0_) (by decide), fun h0_ => absurd ((hoff 11 (by kernel_rfl)).symm.trans h0_) (by decide)⟩
   refine steps_cons ?_ ?_
   · rintro b a w' ⟨v197, v200, v203, m11_, ha, Q_BK194, Q_HB, Q_HO198, Q_HO201, Q_HO204, Q_X11_⟩ hb_ hon hoff
     refine ⟨_, rfl, fun K hK => ?_⟩
     have e15 : a.tmps[15]? = some (.int .i64 a0_4) := by rw [ha]; exact putSel_on (e := (8, 15, .int .i64 a0_4)) 5 rfl rfl (hon 8 (by kernel_rfl)) rfl
     replace ha := ak ha; have BK194 := ak Q_BK194; have HB := ak Q_HB; refine goes_ Try.func119 (by kernel_rfl) rfl #[.int .i64 a0_4] (by rfl) rfl rfl (by first | (simp only [List.map_toArray, List.map_cons, List.map_nil, Act.eval, Array.getD_eq_getD_getElem?, Option.getD_some, e15]; done) | (simp only [List.map_toArray, List.map_cons, List.map_nil, Act.eval, Array.getD_eq_getD_getElem?, Option.getD_some, e15]; rfl)) ?_
     with_reducible refine (spec_PutNumber.calls k a0_4 t199 _ A4.out).mono ?_
     rintro e w12 ⟨v200, rfl, ho0, hb⟩
     refine ⟨_, rfl, ?_⟩
     have n0_ := rL ho0; have n1_ := bB BK194 hb; have n2_ := bS hb; have z_HO198 := fun (h0_ : b 6 = true) => (show Kd.R (Kd.int .u8) 5 w12 w.heap.size (fun _ => True) v197 y196 from by first | exact (Kd.R_elder' (rE (Q_HO198 h0_)) (Kd.R_base ho0) hb) | exact Kd.R_mono (Kd.R_elder' (rE (Q_HO198 h0_)) (Kd.R_base ho0) hb) (fun _ h_ => by first | trivial | exact h_ | exact h_.1))
     clear BK194; clear HB; have HO201 := n0_; have BK194 := n1_; have HB := n2_; clear n0_ n1_ n2_; (try clear hb ho0); refine hK.out _ _ ⟨v197, v200, v203, m11_, (by rw [ha.out]; exact putSel_upk 6 hb_ rfl rfl rfl), blkA, belA, z_HO198, fun _ => (rF HO201), fun h0_ => absurd ((hoff 10 (by kernel_rfl)).symm.trans h0_) (by decide), fun h0_ => absurd ((hoff 11 (by kernel_rfl)).symm.trans h0_) (by decide)⟩
   refine steps_cons ?_ ?_
   · rintro b a w' ⟨v197, v200, v203, m11_, ha, Q_BK194, Q_HB, Q_HO198, Q_HO201, Q_HO204, Q_X11_⟩ hb_ hon hoff
     refine ⟨_, rfl, fun K hK => ?_⟩
     have e13 : a.tmps[13]? = some (v197) := by rw [ha]; exact putSel_on (e := (6, 13, v197)) 4 rfl rfl (hon 6 (by kernel_rfl)) rfl
     have e16 : a.tmps[16]? = some (v200) := by rw [ha]; exact putSel_on (e := (9, 16, v200)) 6 rfl rfl (hon 9 (by kernel_rfl)) rfl
     replace ha := ak ha; have BK194 := ak Q_BK194; have HB := ak Q_HB; have HO198 := ak (Q_HO198 (hon 6 (by kernel_rfl))); have HO201 := ak (Q_HO201 (hon 9 (by kernel_rfl))); obtain ⟨Ao16, co16, eo16⟩ := Kd.R_slice HO198.out; (first | subst eo16 | (injection eo16 with f1_ f2_ f3_; have f4_ := f1_.symm; have f5_ := f3_.symm; clear f1_ f2_ f3_; subst f4_; subst f5_))
     obtain ⟨Ao17, co17, eo17⟩ := Kd.R_slice HO201.out; (first | subst eo17 | (injection eo17 with f1_ f2_ f3_; have f4_ := f1_.symm; have f5_ := f3_.symm; clear f1_ f2_ f3_; subst f4_; subst f5_))
     refine goes_ Try.func138 (by kernel_rfl) rfl #[.slice Ao16 y196.length co16, .slice Ao17 t199.length co17] (by rfl) rfl rfl (by first | (simp only [List.map_toArray, List.map_cons, List.map_nil, Act.eval, Array.getD_eq_getD_getElem?, Option.getD_some, e13, e16]; done) | (simp only [List.map_toArray, List.map_cons, List.map_nil, Act.eval, Array.getD_eq_getD_getElem?, Option.getD_some, e13, e16]; rfl)) ?_
     with_reducible refine (spec_l01Join.calls k _ _ y196 _ _ t199 t202 _ ?side1 ?side2 ?side3 ?side4 A5.out).mono ?_
     (case side1 => exact cA ((Kd.R_reads' HO198.out).2.2))
     (case side2 => exact (Kd.R_reads' HO198.out).2.1)
     (case side3 => exact cA ((Kd.R_reads' HO201.out).2.2))
     (case side4 => exact (Kd.R_reads' HO201.out).2.1)
     rintro e w18 ⟨v203, rfl, ho0, hb⟩
     refine ⟨_, rfl, ?_⟩
     have HO204 := rL (Kd.R_new' (Kd.R_new' ho0 (Kd.R_lt (rF HO198))) (Kd.R_lt (rF HO201))); replace HO198 := ak (Kd.R_elder' (rF HO198) (Kd.R_base ho0) hb); replace HO201 := ak (Kd.R_elder' (rF HO201) (Kd.R_base ho0) hb); replace BK194 := bB BK194 hb; replace HB := bS hb; (try clear hb ho0); refine hK.out _ _ ⟨.slice Ao16 y196.length co16, .slice Ao17 t199.length co17, v203, m11_, (by rw [ha.out]; exact putSel_upk 7 hb_ rfl rfl rfl), blkA, belA, fun _ => (rF HO198), fun _ => (rF HO201), fun _ => (by (with_reducible repeat (first | apply Kd.R_alloc | apply Kd.R_drewN | apply Kd.R_drew)); first | exact Kd.R_mono HO204.out (fun _ hk => ⟨hk.1.2, hk.2⟩) | exact Kd.R_mono HO204.out (fun _ _ => trivial)), fun h0_ => absurd ((hoff 11 (by kernel_rfl)).symm.trans h0_) (by decide)⟩
   refine steps_cons ?_ ?_
   · rintro b a w' ⟨v197, v200, v203, m11_, ha, Q_BK194, Q_HB, Q_HO198, Q_HO201, Q_HO204, Q_X11_⟩ hb_ hon hoff
     refine ⟨_, rfl, fun K hK => ?_⟩
     have e17 : a.tmps[17]? = some (v203) := by rw [ha]; exact putSel_on (e := (10, 17, v203)) 7 rfl rfl (hon 10 (by kernel_rfl)) rfl
     replace ha := ak ha; have BK194 := ak Q_BK194; have HB := ak Q_HB; have HO198 := ak (Q_HO198 (hon 6 (by kernel_rfl))); have HO201 := ak (Q_HO201 (hon 9 (by kernel_rfl))); have HO204 := ak (Q_HO204 (hon 10 (by kernel_rfl))); refine value_ (w1 := w') (v := v203) (by rfl) rfl ?_ ?_
     · go_simp
       (try simp only [i64_w])
       try rfl
     refine hK.out _ _ ⟨v197, v200, v203, (v203), (by rw [ha.out]; exact putSel_upk 8 hb_ rfl rfl rfl), Q_BK194, Q_HB, Q_HO198, Q_HO201, Q_HO204, fun _ => rfl⟩
   exact steps_nil
 rintro b a w18 hall ⟨v197, v200, v203, m11_, ha, Q_BK194, Q_HB, Q_HO198, Q_HO201, Q_HO204, Q_X11_⟩
 clear BK194 HB; have hb1_ := hall 1 (by kernel_rfl); have hb2_ := hall 2 (by kernel_rfl); have hb4_ := hall 4 (by kernel_rfl); have hb5_ := hall 5 (by kernel_rfl); have hb6_ := hall 6 (by kernel_rfl); have hb8_ := hall 8 (by kernel_rfl); have hb9_ := hall 9 (by kernel_rfl); have hb10_ := hall 10 (by kernel_rfl); have hb11_ := hall 11 (by kernel_rfl); subst ha; obtain rfl := Q_X11_ hb11_; simp only [putSel, hb1_, hb2_, hb4_, hb5_, hb6_, hb8_, hb9_, hb10_, hb11_, if_true, Act.put, sa, sb, sc]
 have BK194 := ak Q_BK194; clear Q_BK194; have HB := ak Q_HB; clear Q_HB; have HO198 := ak (Q_HO198 hb6_); clear Q_HO198; have HO201 := ak (Q_HO201 hb9_); clear Q_HO201; have HO204 := ak (Q_HO204 hb10_); clear Q_HO204; clear hall hb1_ hb2_ hb4_ hb5_ hb6_ hb8_ hb9_ hb10_ hb11_; try go_wp2
 replace HO198 := ak (Kd.R_drew HO198.out); replace HO201 := ak (Kd.R_drew HO201.out); replace HO204 := ak (Kd.R_drew HO204.out); replace BK194 := ak (blk_drew BK194.out); replace HB := ak (below_drew1 HB.out); obtain ⟨Ao20, co20, eo20⟩ := Kd.R_slice HO204.out; (first | subst eo20 | (injection eo20 with f1_ f2_ f3_; have f4_ := f1_.symm; have f5_ := f3_.symm; clear f1_ f2_ f3_; subst f4_; subst f5_))
 refine start_ (n := 8) (S := fun w' => w'.cell? ⟨gb194, 0, none⟩ = some (.int .i64 a0_0) ∧ w'.cell? ⟨gb194, 1, none⟩ = some (.int .i64 a0_1) ∧ w'.cell? ⟨gb194, 2, none⟩ = some (.slice A0_2 l0_2.length c0_2) ∧ w'.cell? ⟨gb194, 3, none⟩ = some (.slice A0_3 l0_3.length c0_3) ∧ w'.cell? ⟨gb194, 4, none⟩ = some (.int .i64 a0_4)) (ds := []) #[false, false, false, false, false, false, false, false] (by kernel_rfl) rfl rfl ⟨(blk_cell BK194.out 0).trans rfl, (blk_cell BK194.out 1).trans rfl, (blk_cell BK194.out 2).trans rfl, (blk_cell BK194.out 3).trans rfl, (blk_cell BK194.out 4).trans rfl⟩ (fun hHeld => ?_); refine with_tabW spec_EncodeJob.tab4 spec_EncodeJob.bits4 (fun HT_ HW_ => ?_)
 generalize w18.drew = w19 at HO198 HO201 HO204 BK194 HB hHeld ⊢
 refine pure_ (i := 0) (N := some 18) (v := ?_) (a' := ?_) #[true, false, false, false, false, false, false, false] rfl rfl (any_of HT_.out (by kernel_rfl)) (fun _ _ _ h => h) (Or.inl ⟨by rfl, ?_⟩) ?_ ?_
 rotate_left
 · intro w'; go_simp
   with_reducible rfl
 rotate_left
 · simp only [Act.put, sa, sb, sc, i64_w, i32_w]
   rfl
 refine pure_ (i := 1) (N := some 19) (v := ?_) (a' := ?_) #[true, true, false, false, false, false, false, false] rfl rfl (any_of HT_.out (by kernel_rfl)) (fun _ _ _ h => h) (Or.inl ⟨by rfl, ?_⟩) ?_ ?_
 rotate_left
 · intro w'; go_simp
   with_reducible rfl
 rotate_left
 · simp only [Act.put, sa, sb, sc, i64_w, i32_w]
   rfl
 refine pure_ (i := 4) (N := some 22) (v := ?_) (a' := ?_) #[true, true, false, false, true, false, false, false] rfl rfl (any_of HT_.out (by kernel_rfl)) (fun _ _ _ h => h) (Or.inl ⟨by rfl, ?_⟩) ?_ ?_
 rotate_left
 · intro w'; go_simp
   with_reducible rfl
 rotate_left
 · simp only [Act.put, sa, sb, sc, i64_w, i32_w]
   rfl
 refine take_ (i := 2) (N := some 20) (v := ?_) (a' := ?_) #[true, true, true, false, true, false, false, false] rfl rfl (take_ofW HT_.out HW_.out (by kernel_rfl)) (fun _ _ _ h => h) (Or.inl ⟨by rfl, ?_⟩) hHeld ?_ ?_
 rotate_left
 · rintro w' ⟨s0, s1, s2, s3, s4⟩
   go_simp
   with_reducible rfl
 rotate_left
 · simp only [Act.put, sa, sb, sc, i64_w, i32_w]
   rfl
 refine take_ (i := 5) (N := some 23) (v := ?_) (a' := ?_) #[true, true, true, false, true, true, false, false] rfl rfl (take_ofW HT_.out HW_.out (by kernel_rfl)) (fun _ _ _ h => h) (Or.inl ⟨by rfl, ?_⟩) hHeld ?_ ?_
 rotate_left
 · rintro w' ⟨s0, s1, s2, s3, s4⟩
   go_simp
   with_reducible rfl
 rotate_left
 · simp only [Act.put, sa, sb, sc, i64_w, i32_w]
   rfl
 refine one_ (i := 3) (N := some 21) #[true, true, true, true, true, true, false, false] rfl rfl (one_of HT_.out (by kernel_rfl)) (by decide) (fun K hK => ?_)
 refine goes_ Try.func142 (by kernel_rfl) rfl #[.slice Ao20 t202.length co20, .slice A0_2 l0_2.length c0_2] (by rfl) rfl rfl xq24 ?_
 with_reducible refine (spec_l10PutList.calls k _ _ t202 _ _ l0_2 t205 _ ?side1 ?side2 ?side3 ?side4 A6.out).mono ?_
 (case side1 => exact cA ((Kd.R_reads' HO204.out).2.2))
 (case side2 => exact (Kd.R_reads' HO204.out).2.1)
 (case side3 => exact cA (Kd.C_below HR0_2.out HB.out))
 (case side4 => exact HC0_2.out)
 rintro e w21 ⟨v206, rfl, ho0, hb⟩
 refine ⟨_, rfl, ?_⟩
 have HO207 := rL (Kd.R_new' (Kd.R_new' (Kd.R_new' ho0 (Kd.R_lt (rF HO198))) (Kd.R_lt (rF HO201))) (Kd.R_lt (rF HO204))); replace HO198 := ak (Kd.R_elder' (rF HO198) (Kd.R_base ho0) hb); replace HO201 := ak (Kd.R_elder' (rF HO201) (Kd.R_base ho0) hb); replace HO204 := ak (Kd.R_elder' (rF HO204) (Kd.R_base ho0) hb); replace BK194 := bB BK194 hb; replace HB := bS hb; (try clear hb ho0); obtain ⟨Ao22, co22, eo22⟩ := Kd.R_slice HO207.out; (first | subst eo22 | (injection eo22 with f1_ f2_ f3_; have f4_ := f1_.symm; have f5_ := f3_.symm; clear f1_ f2_ f3_; subst f4_; subst f5_))
 refine hK.out _ _ ⟨(blk_cell BK194.out 0).trans rfl, (blk_cell BK194.out 1).trans rfl, (blk_cell BK194.out 2).trans rfl, (blk_cell BK194.out 3).trans rfl, (blk_cell BK194.out 4).trans rfl⟩ (fun hHeld => ?_)
 clear hK K; refine norm_ (a' := ?_) ?_ ?_
 rotate_left
 · show Act.put _ (some 21) _ = _
   simp only [Act.put, sa, sb, sc, i64_w, i32_w]
   rfl
 refine one_ (i := 6) (N := some 24) #[true, true, true, true, true, true, true, false] rfl rfl (one_of HT_.out (by kernel_rfl)) (by decide) (fun K hK => ?_)
 refine goes_ Try.func142 (by kernel_rfl) rfl #[.slice Ao22 t205.length co22, .slice A0_3 l0_3.length c0_3] (by rfl) rfl rfl xq24 ?_
 with_reducible refine (spec_l10PutList.calls k _ _ t205 _ _ l0_3 t208 _ ?side1 ?side2 ?side3 ?side4 A7.out).mono ?_
 (case side1 => exact cA ((Kd.R_reads' HO207.out).2.2))
 (case side2 => exact (Kd.R_reads' HO207.out).2.1)
 (case side3 => exact cA (Kd.C_below HR0_3.out HB.out))
 (case side4 => exact HC0_3.out)
 rintro e w23 ⟨v209, rfl, ho0, hb⟩
 refine ⟨_, rfl, ?_⟩
 have HO210 := rL (Kd.R_new' (Kd.R_new' (Kd.R_new' (Kd.R_new' ho0 (Kd.R_lt (rF HO198))) (Kd.R_lt (rF HO201))) (Kd.R_lt (rF HO204))) (Kd.R_lt (rF HO207))); replace HO198 := ak (Kd.R_elder' (rF HO198) (Kd.R_base ho0) hb); replace HO201 := ak (Kd.R_elder' (rF HO201) (Kd.R_base ho0) hb); replace HO204 := ak (Kd.R_elder' (rF HO204) (Kd.R_base ho0) hb); replace HO207 := ak (Kd.R_elder' (rF HO207) (Kd.R_base ho0) hb); replace BK194 := bB BK194 hb; replace HB := bS hb; (try clear hb ho0); refine hK.out _ _ ⟨(blk_cell BK194.out 0).trans rfl, (blk_cell BK194.out 1).trans rfl, (blk_cell BK194.out 2).trans rfl, (blk_cell BK194.out 3).trans rfl, (blk_cell BK194.out 4).trans rfl⟩ (fun hHeld => ?_)
 clear hK K; refine norm_ (a' := ?_) ?_ ?_
 rotate_left
 · show Act.put _ (some 24) _ = _
   simp only [Act.put, sa, sb, sc, i64_w, i32_w]
   rfl
 refine pure_ (i := 7) (N := some 2) (v := ?_) (a' := ?_) #[true, true, true, true, true, true, true, true] rfl rfl (any_of HT_.out (by kernel_rfl)) (fun _ _ _ h => h) (Or.inl ⟨by rfl, ?_⟩) ?_ ?_
 rotate_left
 · intro w'; go_simp
   with_reducible rfl
 rotate_left
 · simp only [Act.put, sa, sb, sc, i64_w, i32_w]
   rfl
 refine done_ (done_of HT_.out (by kernel_rfl)) ?_
 try go_wp2
 go_ret
 exact ⟨_, xq4, by (with_reducible repeat (first | apply Kd.R_alloc | apply Kd.R_drewN | apply Kd.R_drew)); exact Kd.R_mono HO210.out (fun _ hk => trivial), belA⟩

/-! ### spec_l01DrawField: function 103 -/
def spec_l01DrawField.f (s0_0 : List Int) (s0_1 : Int) (s0_2 : Int) : Option (Int × Int × Int) := (spec_l01Once.f s0_0 s0_1 s0_2 20).bind fun bt211 => (if bt211.1 = true then ((spec_l01PickInt.f s0_0 bt211.2.1 bt211.2.2 (([(-1), 9, 100] : List Int))).bind fun bt217 => (some (bt217.1, bt217.2.1, bt217.2.2))) else ((spec_l01Below.f s0_0 bt211.2.1 bt211.2.2 9).bind fun bt220 => (some (bt220.1, bt220.2.1, bt220.2.2))))
set_option maxHeartbeats 8000000 in
set_option maxRecDepth 100000 in
theorem spec_l01DrawField.calls (g : Nat) (s0_0 : List Int) (s0_1 : Int) (s0_2 : Int) (r1 : Int) (r2 : Int) (r3 : Int) (w0 w : World) (hI : IsS137 w0 w g s0_0 s0_1 s0_2) (hB : Below w0.heap.size w0 w) (h : spec_l01DrawField.f s0_0 s0_1 s0_2 = some (r1, r2, r3)) :
 Calls Try.prog 103 #[.pointer (some ⟨g, 0, none⟩)] w fun e w' => e = .returned (.int .i64 r1) ∧ IsS137 w0 w' g s0_0 r2 r3 ∧ Below w0.heap.size w0 w' ∧ KeepBut w w' g none := by
 have HI0 := ak hI; have HK := ak (KeepBut.refl w g none); have HL := ak hB.size; clear hI; have HW0 := ak hB.size; have HB := ak hB; clear hB; have H : ((spec_l01Once.f s0_0 s0_1 s0_2 20).bind fun bt211 => (if bt211.1 = true then ((spec_l01PickInt.f s0_0 bt211.2.1 bt211.2.2 (([(-1), 9, 100] : List Int))).bind fun bt217 => (some (bt217.1, bt217.2.1, bt217.2.2))) else ((spec_l01Below.f s0_0 bt211.2.1 bt211.2.2 9).bind fun bt220 => (some (bt220.1, bt220.2.1, bt220.2.2))))) = some (r1, r2, r3) := h; clear h; replace H := Option.bind_eq_some_iff.mp H; obtain ⟨⟨t211, t212, t213⟩, A20, H⟩ := H; (try dsimp only at H); have A2 := ak A20; clear A20
 by_cases c3 : t211 = true; rotate_left
 · replace c3 := Bool.eq_false_iff.mpr c3; subst c3; have H1 : ((spec_l01Below.f s0_0 t212 t213 9).bind fun bt220 => (some (bt220.1, bt220.2.1, bt220.2.2))) = some (r1, r2, r3) := by rw [if_neg (show ¬ (false = true) by decide)] at H; exact H
   clear H; have H := H1; clear H1; replace H := Option.bind_eq_some_iff.mp H; obtain ⟨⟨t220, t221, t222⟩, A100, H⟩ := H; (try dsimp only at H); have A10 := ak A100; clear A100; simp only [Option.some.injEq, Prod.mk.injEq] at H; obtain ⟨rfl, rfl, rfl⟩ := H; go_enter Try.func103, Try.ntmps103
   go_wp2_with (first | ((with_reducible refine gate_callee (f := 58) rfl ?_); refine goB 4 Try.func58 #[.pointer (some ⟨g, 0, none⟩), .int .i64 20] rfl ?_; (with_reducible refine (spec_l01Once.calls g s0_0 s0_1 s0_2 20 false t212 t213 w0 _ ?side1 ?side2 A2.out).mono ?_); (case side1 => exact xq2); (case side2 => exact xq1); rintro e w11 ⟨rfl, hi, hb, hk⟩; refine ⟨_, rfl, ?_⟩; replace HK := ak (KeepBut.trans kpA hk (.inl rfl)); replace HB := ak hb; replace HI0 := ak hi; (try clear hb hk hi)) | ((with_reducible refine gate_callee (f := 61) rfl ?_); refine goB 9 Try.func61 #[.pointer (some ⟨g, 0, none⟩), .int .i64 9] rfl ?_; (with_reducible refine (spec_l01Below.calls g s0_0 t212 t213 9 t220 t221 t222 w0 _ ?side1 ?side2 A10.out).mono ?_); (case side1 => exact xq2); (case side2 => exact xq1); rintro e w12 ⟨rfl, hi, hb, hk⟩; refine ⟨_, rfl, ?_⟩; replace HK := ak (KeepBut.trans kpA hk (.inl rfl)); replace HB := ak hb; replace HI0 := ak hi; (try clear hb hk hi)))
   go_ret
   exact ⟨xq4, xq2, xq1, xq13⟩
 subst c3; have H1 : ((spec_l01PickInt.f s0_0 t212 t213 (([(-1), 9, 100] : List Int))).bind fun bt217 => (some (bt217.1, bt217.2.1, bt217.2.2))) = some (r1, r2, r3) := by rw [if_pos rfl] at H; exact H
 clear H; have H := H1; clear H1; obtain ⟨y214, hyq⟩ : ∃ y_ : List Int, y_ = (([(-1), 9, 100] : List Int)) := ⟨_, rfl⟩; replace H : ((spec_l01PickInt.f s0_0 t212 t213 y214).bind fun bt217 => (some (bt217.1, bt217.2.1, bt217.2.2))) = some (r1, r2, r3) := by first | (rw [hyq]; with_reducible exact H) | (have H2_ := (Option.bind_some _ _).symm.trans H; rw [hyq]; with_reducible exact H2_) | (have H2_ := (Option.bind_some _ _).symm.trans H; with_reducible exact H2_) | with_reducible exact H | (rw [hyq]; exact H) | exact H
 have Ny214 := ak hyq; clear hyq; replace H := Option.bind_eq_some_iff.mp H; obtain ⟨⟨t217, t218, t219⟩, A40, H⟩ := H; (try dsimp only at H); have A4 := ak A40; clear A40; simp only [Option.some.injEq, Prod.mk.injEq] at H; obtain ⟨rfl, rfl, rfl⟩ := H; go_enter Try.func103, Try.ntmps103
 go_wp2_with (first | ((with_reducible refine gate_callee (f := 58) rfl ?_); refine goB 4 Try.func58 #[.pointer (some ⟨g, 0, none⟩), .int .i64 20] rfl ?_; (with_reducible refine (spec_l01Once.calls g s0_0 s0_1 s0_2 20 true t212 t213 w0 _ ?side1 ?side2 A2.out).mono ?_); (case side1 => exact xq2); (case side2 => exact xq1); rintro e w5 ⟨rfl, hi, hb, hk⟩; refine ⟨_, rfl, ?_⟩; replace HK := ak (KeepBut.trans kpA hk (.inl rfl)); replace HB := ak hb; replace HI0 := ak hi; (try clear hb hk hi)) | ((with_reducible refine gate_dst (N := 6) rfl ?_); refine Kd.R_lit (Kd.int .i64) _ 3 ?hg (N := 6) ?hd (xs := ([(-1), 9, 100] : List Int)) (inner := [.int .i64 (-1), .int .i64 9, .int .i64 100]) (ok := fun _ => True) (okp := fun _ => True) ?hr ?hp (fun _ hk => hk) trivial (Below.refl _ _) (Nat.le_refl _) (by simp) ?_; (case hd => rfl); (case hg => rfl); (case hr => exact xq9); (case hp => exact (Reps.one (show Kd.M (Kd.int .i64) _ _ _ (-1) [.int .i64 (-1)] from rfl) (Reps.one (show Kd.M (Kd.int .i64) _ _ _ 9 [.int .i64 9] from rfl) (Reps.one (show Kd.M (Kd.int .i64) _ _ _ 100 [.int .i64 100] from rfl) (Reps.none _ _))))); intro v215 w6 ho7 hb hg_ hnew_; clear hg_ hnew_; (first | rw [← Ny214.out] at ho7 | (simp only [Int.reduceToNat] at ho7; rw [← Ny214.out] at ho7)); have HO216 := ak (Kd.R_lower ho7 (keep_size (w := w) (g := g) (row := none) kpA)); replace HK := ak (KeepBut.trans kpA (KeepBut.of_below hb g none) (.inl rfl)); replace HB := ak (below_step xq1 hb); replace HI0 := ak (IsS137.below xq2 hb); clear hb ho7; obtain ⟨Ao8, co8, eo8⟩ := Kd.R_slice HO216.out; subst eo8) | ((with_reducible refine gate_callee (f := 132) rfl ?_); refine goB 7 Try.func132 #[.pointer (some ⟨g, 0, none⟩), .slice Ao8 y214.length co8] rfl ?_; (with_reducible refine (spec_l01PickInt.calls g s0_0 t212 t213 _ _ y214 t217 t218 t219 w0 _ ?side1 ?side2 ?side3 ?side4 ?side5 A4.out).mono ?_); (case side1 => exact xq2); (case side2 => exact xq1); (case side3 => exact cA ((Kd.R_reads' HO216.out).2.2)); (case side4 => exact (Kd.R_reads' HO216.out).2.1); (case side5 => exact far_slice (IsS137.own_ne HI0.out HO216.out (by decide))); rintro e w9 ⟨rfl, hi, hb, hk⟩; refine ⟨_, rfl, ?_⟩; replace HO216 := ak (Kd.R_mono (Kd.R_keep (IsS137.apart (show IsS137 w0 _ g s0_0 t212 t213 from by repeat (first | (with_reducible first | exact HI0.out | apply IsS137.alloc | apply IsS137.drewN | apply IsS137.drew | apply IsS137.set_1 | apply IsS137.set_2) | exact HI0.out)) (rF HO216) (by decide)) hk (fun _ h => h.2)) (fun _ h => h.1)); replace HK := ak (KeepBut.trans kpA hk (.inl rfl)); replace HB := ak hb; replace HI0 := ak hi; (try clear hb hk hi)))
 go_ret
 exact ⟨xq4, xq2, xq1, xq13⟩

end Go.Proofs.Ytdefnccngnilmaa.PFnResync
