-- Written by a program of this session (the print of the kit with contracts of this session's own added)
import Derived.Test.YtogdhclomgafdaaZFJBx3
set_option maxHeartbeats 8000000
set_option maxRecDepth 100000
namespace Go.Proofs.Ytogdhclomgafdaa.PFnJobBytes
open Go.RowKit Go.Proofs.YtogdhclomgafdaaW.PrintWords Go.Proofs.YtogdhclomgafdaaW.PrintLast Go.Proofs.YtogdhclomgafdaaW.PrintMore Go.Proofs.YtogdhclomgafdaaW.PrintPack Go.Proofs.YtogdhclomgafdaaW.PrintPack
set_option linter.unusedVariables false
set_option linter.unusedSimpArgs false

def spec_l01Has.l0 : Nat → List Int → Int → Int → Option (Bool)
 | 0, _, _, _ => none
 | k + 1, x0, x1, x5 => if x5 < (x0.length : Int) then (if 0 ≤ x5 then (if (rd x0 x5) = x1 then (some true) else (spec_l01Has.l0 k x0 x1 (wrap64 (x5 + 1)))) else (none)) else (some false)
def spec_l01Has.f (k : Nat) (l0 : List Int) (a1 : Int) : Option (Bool) := spec_l01Has.l0 k l0 a1 0
theorem spec_l01Has.mono_l : ∀ k, (∀ y0 y1 y2, LeO (spec_l01Has.l0 k y0 y1 y2) (spec_l01Has.l0 (k + 1) y0 y1 y2))
 | 0 => fun _ _ _ r h => by simp [spec_l01Has.l0] at h
 | k + 1 => by
  have ih0 := spec_l01Has.mono_l k
  · intro y0 y1 y2; unfold spec_l01Has.l0; exact xq18
theorem spec_l01Has.mono : ∀ a0 a1 k, LeO (spec_l01Has.f k a0 a1) (spec_l01Has.f (k + 1) a0 a1) := by
 intro a0 a1 k; have ih0 := spec_l01Has.mono_l k
 unfold spec_l01Has.f
 exact xq18
theorem spec_l01Has.calls (k : Nat) (A0 : Option Addr) (c0 : Nat) (l0 : List Int) (a1 : Int) (r : Bool) (w : World) (hr0 : Kd.C (Kd.int .i64) w A0 l0.length l0) (hc0 : l0.length ≤ c0) (h : spec_l01Has.f k l0 a1 = some r) :
 Calls Try.prog 112 #[.slice A0 l0.length c0, .int .i64 a1] w fun e w' => e = .returned (.bool r) ∧ Drawn0 w w' := by
 have HR0 := ak hr0; have HC0 := ak hc0; clear hr0 hc0; have H : (spec_l01Has.l0 k l0 a1 0) = some r := h; clear h; have H' := ak H; clear H; go_enter Try.func112, Try.ntmps112
 go_wp2
 go_loopg [5] k (fun kq v5 w' => ∃ (x5_1 : Int), v5 = .int .i64 x5_1 ∧ Aside0 (spec_l01Has.l0 kq l0 a1 x5_1 = some r) ∧ Aside0 (kq ≤ k) ∧ Drawn0 w w')
 case atStart => exact ⟨(0), eqA, H', ⟨Nat.le_refl _⟩, xq5⟩
 case round =>
  clear H'; obtain ⟨x5_1, rfl, HA, HK1, ⟨m1, rfl⟩⟩ := hrel
  cases gk with
  | zero => exact absurd HA.out (by simp [spec_l01Has.l0])
  | succ k1 =>
   have H := HA.out; clear HA; simp only [spec_l01Has.l0] at H
   by_cases c3 : x5_1 < (l0.length : Int); rotate_left
   · rw [if_neg c3] at H; have c3b0 := decide_eq_false c3; clear c3; obtain rfl := Option.some.inj H; go_wp2
     go_ret
     exact ⟨xq10, xq5⟩
   rw [if_pos c3] at H; have c3b0 := decide_eq_true c3; clear c3
   by_cases c4 : 0 ≤ x5_1; rotate_left
   · rw [if_neg c4] at H; exact absurd H (by simp)
   rw [if_pos c4] at H; have c4b0 := decide_eq_true c4; clear c4
   by_cases c5 : (rd l0 x5_1) = a1
   · rw [if_pos c5] at H; have c5b0 : ((rd l0 x5_1) == a1) = true := beq_iff_eq.mpr c5; have c5b1 : ((rd l0 x5_1) != a1) = false := bne_eq_false_iff_eq.mpr c5; clear c5; obtain rfl := Option.some.inj H; have p237 : 0 ≤ (x5_1 : Int) := odA; have q237 : x5_1 < (l0.length : Int) := odA; obtain ⟨ad237, e237, hx237_0⟩ := Kd.at_int HR0.out x5_1 p237 q237
     cases e237
     replace p237 := eq_true p237; replace q237 := eq_true q237; go_wp2
     go_ret
     exact ⟨xq10, xq5⟩
   rw [if_neg c5] at H; have c5b0 : ((rd l0 x5_1) == a1) = false := beq_eq_false_iff_ne.mpr c5; have c5b1 : ((rd l0 x5_1) != a1) = true := bne_iff_ne.mpr c5; have H' := ak H; clear H; have p237 : 0 ≤ (x5_1 : Int) := odA; have q237 : x5_1 < (l0.length : Int) := odA; obtain ⟨ad237, e237, hx237_0⟩ := Kd.at_int HR0.out x5_1 p237 q237
   cases e237
   replace p237 := eq_true p237; replace q237 := eq_true q237; go_wp2
   go_roundg k1
   case measure => have := HK1.out; omega
   case rel => exact ⟨(wrap64 (x5_1 + 1)), eqA, H', ⟨xq19⟩, xq5⟩

mutual
def spec_l07DrawPoints.l0 : Nat → Int → Int → List Int → Int → List Int → Int → Int → Option (List Int × Int × Int)
 | 0, _, _, _, _, _, _, _ => none
 | k + 1, x1, x2, x7, x8, x1000, x1001, x1002 => if x8 < x2 then ((spec_l01DrawElement.f x1000 x1001 x1002 x1).bind fun bt241 => ((spec_l01Has.f k x7 bt241.1).bind fun t244 => (if t244 = true then ((spec_l01Once.f x1000 bt241.2.1 bt241.2.2 60).bind fun bt245 => (if bt245.1 = true then (if x7.length < 17592186044416 then (spec_l07DrawPoints.l0 k x1 x2 (x7 ++ [bt241.1]) (wrap64 (x8 + 1)) x1000 bt245.2.1 bt245.2.2) else (none)) else (spec_l07DrawPoints.l0 k x1 x2 x7 (wrap64 (x8 + 1)) x1000 bt245.2.1 bt245.2.2))) else (if x7.length < 17592186044416 then (spec_l07DrawPoints.l0 k x1 x2 (x7 ++ [bt241.1]) (wrap64 (x8 + 1)) x1000 bt241.2.1 bt241.2.2) else (none))))) else ((spec_l01Once.f x1000 x1001 x1002 25).bind fun bt254 => (if bt254.1 = true then (spec_l07DrawPoints.j1 k x1 x7 (decide ((x7.length : Int) > 0)) x1000 bt254.2.1 bt254.2.2) else (spec_l07DrawPoints.j1 k x1 x7 false x1000 bt254.2.1 bt254.2.2)))
def spec_l07DrawPoints.j1 : Nat → Int → List Int → Bool → List Int → Int → Int → Option (List Int × Int × Int)
 | 0, _, _, _, _, _, _ => none
 | k + 1, x1, x7, x37, x1000, x1001, x1002 => if x37 = true then ((spec_l01Below.f x1000 x1001 x1002 (x7.length : Int)).bind fun bt257 => ((spec_Modulus.f x1).bind fun t260 => ((spec_l01PickInt.f x1000 bt257.2.1 bt257.2.2 (([(-1), t260] : List Int))).bind fun bt264 => (if 0 ≤ bt257.1 then (if bt257.1 < (x7.length : Int) then (some ((x7.set (bt257.1 : Int).toNat bt264.1), bt264.2.1, bt264.2.2)) else (none)) else (none))))) else (some (x7, x1001, x1002))
end
def spec_l07DrawPoints.f (k : Nat) (s0_0 : List Int) (s0_1 : Int) (s0_2 : Int) (a1 : Int) (a2 : Int) : Option (List Int × Int × Int) := spec_l07DrawPoints.l0 k a1 a2 (([] : List Int)) 0 s0_0 s0_1 s0_2
theorem spec_l07DrawPoints.mono_l : ∀ k, (∀ y0 y1 y2 y3 y4 y5 y6, LeO (spec_l07DrawPoints.l0 k y0 y1 y2 y3 y4 y5 y6) (spec_l07DrawPoints.l0 (k + 1) y0 y1 y2 y3 y4 y5 y6)) ∧ (∀ y0 y1 y2 y3 y4 y5, LeO (spec_l07DrawPoints.j1 k y0 y1 y2 y3 y4 y5) (spec_l07DrawPoints.j1 (k + 1) y0 y1 y2 y3 y4 y5))
 | 0 => ⟨fun _ _ _ _ _ _ _ r h => by simp [spec_l07DrawPoints.l0] at h, fun _ _ _ _ _ _ r h => by simp [spec_l07DrawPoints.j1] at h⟩
 | k + 1 => by
  obtain ⟨ih0, ih1⟩ := spec_l07DrawPoints.mono_l k; refine ⟨?_, ?_⟩
  · intro y0 y1 y2 y3 y4 y5 y6; unfold spec_l07DrawPoints.l0; exact xq68
  · intro y0 y1 y2 y3 y4 y5; unfold spec_l07DrawPoints.j1; exact xq68
theorem spec_l07DrawPoints.mono : ∀ a0 a1 a2 a3 a4 k, LeO (spec_l07DrawPoints.f k a0 a1 a2 a3 a4) (spec_l07DrawPoints.f (k + 1) a0 a1 a2 a3 a4) := by
 intro a0 a1 a2 a3 a4 k; obtain ⟨ih0, ih1⟩ := spec_l07DrawPoints.mono_l k
 unfold spec_l07DrawPoints.f
 exact xq68
theorem spec_l07DrawPoints.calls (k : Nat) (g : Nat) (s0_0 : List Int) (s0_1 : Int) (s0_2 : Int) (a1 : Int) (a2 : Int) (r1 : List Int) (r2 : Int) (r3 : Int) (w0 w : World) (hI : IsS121 w0 w g s0_0 s0_1 s0_2) (hB : Below w0.heap.size w0 w) (h : spec_l07DrawPoints.f k s0_0 s0_1 s0_2 a1 a2 = some (r1, r2, r3)) :
 Calls Try.prog 131 #[.pointer (some ⟨g, 0, none⟩), .int .i64 a1, .int .i64 a2] w fun e w' => ∃ v0_ : Value, e = .returned (v0_) ∧ Kd.R (Kd.int .i64) 3 w' w.heap.size (fun _ => True) v0_ r1 ∧ IsS121 w0 w' g s0_0 r2 r3 ∧ Below w0.heap.size w0 w' ∧ KeepBut w w' g none := by
 have HI0 := ak hI; have HK := ak (KeepBut.refl w g none); have HL := ak hB.size; clear hI; have HW0 := ak hB.size; have HB := ak hB; clear hB; have H : (spec_l07DrawPoints.l0 k a1 a2 (([] : List Int)) 0 s0_0 s0_1 s0_2) = some (r1, r2, r3) := h; clear h; obtain ⟨y238, hyq⟩ : ∃ y_ : List Int, y_ = (([] : List Int)) := ⟨_, rfl⟩; replace H : (spec_l07DrawPoints.l0 k a1 a2 y238 0 s0_0 s0_1 s0_2) = some (r1, r2, r3) := by first | (rw [hyq]; with_reducible exact H) | (have H2_ := (Option.bind_some _ _).symm.trans H; rw [hyq]; with_reducible exact H2_) | (have H2_ := (Option.bind_some _ _).symm.trans H; with_reducible exact H2_) | with_reducible exact H | (rw [hyq]; exact H) | exact H
 have Ny238 := ak hyq; clear hyq; have H' := ak H; clear H; go_enter Try.func131, Try.ntmps131
 go_wp2_with (first | ((with_reducible refine gate_dst (N := 10) rfl ?_); (try (refine gate_guard (by rfl) ?_; dsimp only)); refine Kd.R_lit (Kd.int .i64) _ 3 ?hg (N := 10) ?hd (xs := ([] : List Int)) (inner := []) (ok := fun _ => True) (okp := fun _ => True) ?hr ?hp (fun _ hk => hk) trivial (Below.refl _ _) (Nat.le_refl _) (by simp) ?_; (case hd => rfl); (case hg => rfl); (case hr => exact xq11); (case hp => exact (Reps.none _ _)); intro v239 w4 ho5 hb hg_ hnew_; clear hg_ hnew_; (first | rw [← Ny238.out] at ho5 | (simp only [Int.reduceToNat] at ho5; rw [← Ny238.out] at ho5)); have HO240 := ak (Kd.R_lower ho5 (keep_size (w := w) (g := g) (row := none) kpA)); replace HK := ak (KeepBut.trans kpA (KeepBut.of_below hb g none) (.inl rfl)); replace HB := ak (below_step xq1 hb); replace HI0 := ak (IsS121.below xq2 hb); clear hb ho5))
 go_loopg [7, 8] k (fun kq v7 v8 w' => ∃ (x7_1 : List Int) (x8_1 : Int) (x1001_1 : Int) (x1002_1 : Int), v8 = .int .i64 x8_1 ∧ Aside0 (spec_l07DrawPoints.l0 kq a1 a2 x7_1 x8_1 s0_0 x1001_1 x1002_1 = some (r1, r2, r3)) ∧ Aside0 (kq ≤ k) ∧ Aside0 (Kd.R (Kd.int .i64) 3 w' w.heap.size (fun _ => True) v7 x7_1) ∧ Aside0 (IsS121 w0 w' g s0_0 x1001_1 x1002_1) ∧ Aside0 (KeepBut w w' g none) ∧ Aside0 (Below w0.heap.size w0 w'))
 case atStart => exact ⟨(y238), (0), (s0_1), (s0_2), eqA, H', ⟨Nat.le_refl _⟩, ⟨rA HO240⟩, ⟨xq2⟩, ⟨kpA⟩, ⟨xq1⟩⟩
 case round =>
  clear H'; obtain ⟨x7_1, x8_1, x1001_1, x1002_1, rfl, HA, HK1, HO_7, HI0, HK, HB⟩ := hrel
  cases gk with
  | zero => exact absurd HA.out (by simp [spec_l07DrawPoints.l0])
  | succ k1 =>
   have H := HA.out; clear HA; simp only [spec_l07DrawPoints.l0] at H
   by_cases c6 : x8_1 < a2
   · rw [if_pos c6] at H; have c6b0 := decide_eq_true c6; clear c6; replace H := Option.bind_eq_some_iff.mp H; obtain ⟨⟨t241, t242, t243⟩, A70, H⟩ := H; (try dsimp only at H); have A7 := ak A70; clear A70; replace H := Option.bind_eq_some_iff.mp H; obtain ⟨t244, A80, H⟩ := H; (try dsimp only at H); have A8 := ak A80; clear A80
     by_cases c9 : t244 = true; rotate_left
     · replace c9 := Bool.eq_false_iff.mpr c9; subst c9; have H1 : (if x7_1.length < 17592186044416 then (spec_l07DrawPoints.l0 k1 a1 a2 (x7_1 ++ [t241]) (wrap64 (x8_1 + 1)) s0_0 t242 t243) else (none)) = some (r1, r2, r3) := by rw [if_neg (show ¬ (false = true) by decide)] at H; exact H
       clear H; have H := H1; clear H1
       by_cases c20 : x7_1.length < 17592186044416; rotate_left
       · rw [if_neg c20] at H; exact absurd H (by simp)
       rw [if_pos c20] at H; have LMc20 := ak c20; clear c20; obtain ⟨y251, hyq⟩ : ∃ y_ : List Int, y_ = (x7_1 ++ [t241]) := ⟨_, rfl⟩; replace H : (spec_l07DrawPoints.l0 k1 a1 a2 y251 (wrap64 (x8_1 + 1)) s0_0 t242 t243) = some (r1, r2, r3) := by first | (rw [hyq]; with_reducible exact H) | (have H2_ := (Option.bind_some _ _).symm.trans H; rw [hyq]; with_reducible exact H2_) | (have H2_ := (Option.bind_some _ _).symm.trans H; with_reducible exact H2_) | with_reducible exact H | (rw [hyq]; exact H) | exact H
       have Ny251 := ak hyq; clear hyq; have H' := ak H; clear H; go_wp2_with (first | ((with_reducible refine gate_callee (f := 135) rfl ?_); refine goB 18 Try.func135 #[.pointer (some ⟨g, 0, none⟩), .int .i64 a1] rfl ?_; (with_reducible refine (spec_l01DrawElement.calls g s0_0 x1001_1 x1002_1 a1 t241 t242 t243 w0 _ ?side1 ?side2 A7.out).mono ?_); (case side1 => exact xq2); (case side2 => exact xq1); rintro e w21 ⟨rfl, hi, hb, hk⟩; refine ⟨_, rfl, ?_⟩; replace HO_7 := ak (Kd.R_mono (Kd.R_keep (IsS121.apart (show IsS121 w0 _ g s0_0 x1001_1 x1002_1 from by repeat (first | (with_reducible first | exact HI0.out | apply IsS121.alloc | apply IsS121.drewN | apply IsS121.drew | apply IsS121.set_1 | apply IsS121.set_2) | exact HI0.out)) (rF HO_7) (by decide)) hk (fun _ h => h.2)) (fun _ h => h.1)); replace HK := ak (KeepBut.trans kpA hk (.inl rfl)); replace HB := ak hb; replace HI0 := ak hi; (try clear hb hk hi); obtain ⟨Ao22, co22, eo22⟩ := Kd.R_slice HO_7.out; subst eo22) | ((with_reducible refine gate_callee (f := 112) rfl ?_); refine goB 21 Try.func112 #[.slice Ao22 x7_1.length co22, .int .i64 t241] rfl ?_; (with_reducible refine (spec_l01Has.calls k1 _ _ x7_1 t241 false _ ?side1 ?side2 A8.out).mono ?_); (case side1 => exact cA ((Kd.R_reads' HO_7.out).2.2)); (case side2 => exact (Kd.R_reads' HO_7.out).2.1); rintro e w' ⟨rfl, ⟨nd, rfl⟩⟩; refine ⟨_, rfl, ?_⟩) | ((with_reducible refine gate_builtin (b := .append) (xs := #[.tmp 27, .tmp 29]) rfl ?_); (try (refine gate_guard (by rfl) ?_; dsimp only)); at_builtin; refine Kd.R_append (Kd.int .i64) w.heap.size rfl (.tmp 27) (.tmp 29) 33 3 (.int .i64 0) 8 rfl Try.underlying33 info3 rfl (by decide) (by omega) (.slice Ao22 x7_1.length co22) x7_1 t241 [.int .i64 t241] (fun _ => True) (fun _ => False) rfl rfl ?aP (fun _ hk => hk.elim) ?aF ?aO (Below.refl _ _) ?aS ?aL ?_; (case aP => exact rfl); (case aF => exact (fun _ _ => trivial)); (case aO => exact (rF HO_7)); (case aS => exact xq49); (case aL => have := LMc20.out; omega); intro v252 w23 ho hb hg hat; rw [← Ny251.out] at ho; have HO253 := ak ho; replace HB := ak (below_weaken xq1 HL.out hb); replace HI0 := ak (IsS121.grown xq28 hg (IsS121.own_ne HI0.out HO_7.out (by decide))); replace HK := ak (KeepBut.trans kpA (KeepBut.of_grown hg g) (Kd.R_base2 HO_7.out)); clear HO_7; clear ho hb hg hat))
       go_roundg k1
       case measure => have := HK1.out; omega
       case rel => exact ⟨(y251), (wrap64 (x8_1 + 1)), (t242), (t243), eqA, H', ⟨xq19⟩, ⟨rA HO253⟩, ⟨xq2⟩, ⟨kpA⟩, ⟨xq1⟩⟩
     subst c9; have H1 : ((spec_l01Once.f s0_0 t242 t243 60).bind fun bt245 => (if bt245.1 = true then (if x7_1.length < 17592186044416 then (spec_l07DrawPoints.l0 k1 a1 a2 (x7_1 ++ [t241]) (wrap64 (x8_1 + 1)) s0_0 bt245.2.1 bt245.2.2) else (none)) else (spec_l07DrawPoints.l0 k1 a1 a2 x7_1 (wrap64 (x8_1 + 1)) s0_0 bt245.2.1 bt245.2.2))) = some (r1, r2, r3) := by rw [if_pos rfl] at H; exact H
     clear H; have H := H1; clear H1; replace H := Option.bind_eq_some_iff.mp H; obtain ⟨⟨t245, t246, t247⟩, A100, H⟩ := H; (try dsimp only at H); have A10 := ak A100; clear A100
     by_cases c11 : t245 = true; rotate_left
     · replace c11 := Bool.eq_false_iff.mpr c11; subst c11; have H1 : (spec_l07DrawPoints.l0 k1 a1 a2 x7_1 (wrap64 (x8_1 + 1)) s0_0 t246 t247) = some (r1, r2, r3) := by rw [if_neg (show ¬ (false = true) by decide)] at H; exact H
       clear H; have H := H1; clear H1; have H' := ak H; clear H; go_wp2_with (first | ((with_reducible refine gate_callee (f := 135) rfl ?_); refine goB 18 Try.func135 #[.pointer (some ⟨g, 0, none⟩), .int .i64 a1] rfl ?_; (with_reducible refine (spec_l01DrawElement.calls g s0_0 x1001_1 x1002_1 a1 t241 t242 t243 w0 _ ?side1 ?side2 A7.out).mono ?_); (case side1 => exact xq2); (case side2 => exact xq1); rintro e w17 ⟨rfl, hi, hb, hk⟩; refine ⟨_, rfl, ?_⟩; replace HO_7 := ak (Kd.R_mono (Kd.R_keep (IsS121.apart (show IsS121 w0 _ g s0_0 x1001_1 x1002_1 from by repeat (first | (with_reducible first | exact HI0.out | apply IsS121.alloc | apply IsS121.drewN | apply IsS121.drew | apply IsS121.set_1 | apply IsS121.set_2) | exact HI0.out)) (rF HO_7) (by decide)) hk (fun _ h => h.2)) (fun _ h => h.1)); replace HK := ak (KeepBut.trans kpA hk (.inl rfl)); replace HB := ak hb; replace HI0 := ak hi; (try clear hb hk hi); obtain ⟨Ao18, co18, eo18⟩ := Kd.R_slice HO_7.out; subst eo18) | ((with_reducible refine gate_callee (f := 112) rfl ?_); refine goB 21 Try.func112 #[.slice Ao18 x7_1.length co18, .int .i64 t241] rfl ?_; (with_reducible refine (spec_l01Has.calls k1 _ _ x7_1 t241 true _ ?side1 ?side2 A8.out).mono ?_); (case side1 => exact cA ((Kd.R_reads' HO_7.out).2.2)); (case side2 => exact (Kd.R_reads' HO_7.out).2.1); rintro e w' ⟨rfl, ⟨nd, rfl⟩⟩; refine ⟨_, rfl, ?_⟩) | (go_at_call 90; (with_reducible refine (spec_l01Once.calls g s0_0 t242 t243 60 false t246 t247 w0 _ ?side1 ?side2 A10.out).mono ?_); (case side1 => exact xq2); (case side2 => exact xq1); rintro e w19 ⟨rfl, hi, hb, hk⟩; replace HO_7 := ak (Kd.R_mono (Kd.R_keep (IsS121.apart (show IsS121 w0 _ g s0_0 t242 t243 from by repeat (first | (with_reducible first | exact HI0.out | apply IsS121.alloc | apply IsS121.drewN | apply IsS121.drew | apply IsS121.set_1 | apply IsS121.set_2) | exact HI0.out)) (rF HO_7) (by decide)) hk (fun _ h => h.2)) (fun _ h => h.1)); replace HK := ak (KeepBut.trans kpA hk (.inl rfl)); replace HB := ak hb; replace HI0 := ak hi; (try clear hb hk hi)))
       go_roundg k1
       case measure => have := HK1.out; omega
       case rel => exact ⟨(x7_1), (wrap64 (x8_1 + 1)), (t246), (t247), eqA, H', ⟨xq19⟩, ⟨rA HO_7⟩, ⟨xq2⟩, ⟨kpA⟩, ⟨xq1⟩⟩
     subst c11; have H1 : (if x7_1.length < 17592186044416 then (spec_l07DrawPoints.l0 k1 a1 a2 (x7_1 ++ [t241]) (wrap64 (x8_1 + 1)) s0_0 t246 t247) else (none)) = some (r1, r2, r3) := by rw [if_pos rfl] at H; exact H
     clear H; have H := H1; clear H1
     by_cases c12 : x7_1.length < 17592186044416; rotate_left
     · rw [if_neg c12] at H; exact absurd H (by simp)
     rw [if_pos c12] at H; have LMc12 := ak c12; clear c12; obtain ⟨y248, hyq⟩ : ∃ y_ : List Int, y_ = (x7_1 ++ [t241]) := ⟨_, rfl⟩; replace H : (spec_l07DrawPoints.l0 k1 a1 a2 y248 (wrap64 (x8_1 + 1)) s0_0 t246 t247) = some (r1, r2, r3) := by first | (rw [hyq]; with_reducible exact H) | (have H2_ := (Option.bind_some _ _).symm.trans H; rw [hyq]; with_reducible exact H2_) | (have H2_ := (Option.bind_some _ _).symm.trans H; with_reducible exact H2_) | with_reducible exact H | (rw [hyq]; exact H) | exact H
     have Ny248 := ak hyq; clear hyq; have H' := ak H; clear H; go_wp2_with (first | ((with_reducible refine gate_callee (f := 135) rfl ?_); refine goB 18 Try.func135 #[.pointer (some ⟨g, 0, none⟩), .int .i64 a1] rfl ?_; (with_reducible refine (spec_l01DrawElement.calls g s0_0 x1001_1 x1002_1 a1 t241 t242 t243 w0 _ ?side1 ?side2 A7.out).mono ?_); (case side1 => exact xq2); (case side2 => exact xq1); rintro e w13 ⟨rfl, hi, hb, hk⟩; refine ⟨_, rfl, ?_⟩; replace HO_7 := ak (Kd.R_mono (Kd.R_keep (IsS121.apart (show IsS121 w0 _ g s0_0 x1001_1 x1002_1 from by repeat (first | (with_reducible first | exact HI0.out | apply IsS121.alloc | apply IsS121.drewN | apply IsS121.drew | apply IsS121.set_1 | apply IsS121.set_2) | exact HI0.out)) (rF HO_7) (by decide)) hk (fun _ h => h.2)) (fun _ h => h.1)); replace HK := ak (KeepBut.trans kpA hk (.inl rfl)); replace HB := ak hb; replace HI0 := ak hi; (try clear hb hk hi); obtain ⟨Ao14, co14, eo14⟩ := Kd.R_slice HO_7.out; subst eo14) | ((with_reducible refine gate_callee (f := 112) rfl ?_); refine goB 21 Try.func112 #[.slice Ao14 x7_1.length co14, .int .i64 t241] rfl ?_; (with_reducible refine (spec_l01Has.calls k1 _ _ x7_1 t241 true _ ?side1 ?side2 A8.out).mono ?_); (case side1 => exact cA ((Kd.R_reads' HO_7.out).2.2)); (case side2 => exact (Kd.R_reads' HO_7.out).2.1); rintro e w' ⟨rfl, ⟨nd, rfl⟩⟩; refine ⟨_, rfl, ?_⟩) | (go_at_call 90; (with_reducible refine (spec_l01Once.calls g s0_0 t242 t243 60 true t246 t247 w0 _ ?side1 ?side2 A10.out).mono ?_); (case side1 => exact xq2); (case side2 => exact xq1); rintro e w15 ⟨rfl, hi, hb, hk⟩; replace HO_7 := ak (Kd.R_mono (Kd.R_keep (IsS121.apart (show IsS121 w0 _ g s0_0 t242 t243 from by repeat (first | (with_reducible first | exact HI0.out | apply IsS121.alloc | apply IsS121.drewN | apply IsS121.drew | apply IsS121.set_1 | apply IsS121.set_2) | exact HI0.out)) (rF HO_7) (by decide)) hk (fun _ h => h.2)) (fun _ h => h.1)); replace HK := ak (KeepBut.trans kpA hk (.inl rfl)); replace HB := ak hb; replace HI0 := ak hi; (try clear hb hk hi)) | ((with_reducible refine gate_builtin (b := .append) (xs := #[.tmp 27, .tmp 29]) rfl ?_); (try (refine gate_guard (by rfl) ?_; dsimp only)); at_builtin; refine Kd.R_append (Kd.int .i64) w.heap.size rfl (.tmp 27) (.tmp 29) 33 3 (.int .i64 0) 8 rfl Try.underlying33 info3 rfl (by decide) (by omega) (.slice Ao14 x7_1.length co14) x7_1 t241 [.int .i64 t241] (fun _ => True) (fun _ => False) rfl rfl ?aP (fun _ hk => hk.elim) ?aF ?aO (Below.refl _ _) ?aS ?aL ?_; (case aP => exact rfl); (case aF => exact (fun _ _ => trivial)); (case aO => exact (rF HO_7)); (case aS => exact xq49); (case aL => have := LMc12.out; omega); intro v249 w16 ho hb hg hat; rw [← Ny248.out] at ho; have HO250 := ak ho; replace HB := ak (below_weaken xq1 HL.out hb); replace HI0 := ak (IsS121.grown xq28 hg (IsS121.own_ne HI0.out HO_7.out (by decide))); replace HK := ak (KeepBut.trans kpA (KeepBut.of_grown hg g) (Kd.R_base2 HO_7.out)); clear HO_7; clear ho hb hg hat))
     go_roundg k1
     case measure => have := HK1.out; omega
     case rel => exact ⟨(y248), (wrap64 (x8_1 + 1)), (t246), (t247), eqA, H', ⟨xq19⟩, ⟨rA HO250⟩, ⟨xq2⟩, ⟨kpA⟩, ⟨xq1⟩⟩
   rw [if_neg c6] at H; have c6b0 := decide_eq_false c6; clear c6; have HC24 := ak H; clear H; go_upto_region 8 with (fail)
   go_cut [37] (fun v37 wc => ∃ (kq : Nat) (x37_23 : Bool) (x1001_23 : Int) (x1002_23 : Int), v37 = .bool x37_23 ∧ Aside0 (spec_l07DrawPoints.j1 kq a1 x7_1 x37_23 s0_0 x1001_23 x1002_23 = some (r1, r2, r3)) ∧ Aside0 (kq ≤ k1) ∧ Aside0 (Kd.R (Kd.int .i64) 3 wc w.heap.size (fun _ => True) u7 x7_1) ∧ Aside0 (IsS121 w0 wc g s0_0 x1001_23 x1002_23) ∧ Aside0 (KeepBut w wc g none) ∧ Aside0 (Below w0.heap.size w0 wc))
   case first =>
    have H := HC24.out; clear HC24; replace H := Option.bind_eq_some_iff.mp H; obtain ⟨⟨t254, t255, t256⟩, A250, H⟩ := H; (try dsimp only at H); have A25 := ak A250; clear A250
    by_cases c26 : t254 = true; rotate_left
    · replace c26 := Bool.eq_false_iff.mpr c26; subst c26; have H1 : (spec_l07DrawPoints.j1 k1 a1 x7_1 false s0_0 t255 t256) = some (r1, r2, r3) := by rw [if_neg (show ¬ (false = true) by decide)] at H; exact H
      clear H; have H := H1; clear H1; have H' := ak H; clear H; go_wp2_with (first | ((with_reducible refine gate_callee (f := 90) rfl ?_); refine goB 32 Try.func90 #[.pointer (some ⟨g, 0, none⟩), .int .i64 25] rfl ?_; (with_reducible refine (spec_l01Once.calls g s0_0 x1001_1 x1002_1 25 false t255 t256 w0 _ ?side1 ?side2 A25.out).mono ?_); (case side1 => exact xq2); (case side2 => exact xq1); rintro e w29 ⟨rfl, hi, hb, hk⟩; refine ⟨_, rfl, ?_⟩; replace HO_7 := ak (Kd.R_mono (Kd.R_keep (IsS121.apart (show IsS121 w0 _ g s0_0 x1001_1 x1002_1 from by repeat (first | (with_reducible first | exact HI0.out | apply IsS121.alloc | apply IsS121.drewN | apply IsS121.drew | apply IsS121.set_1 | apply IsS121.set_2) | exact HI0.out)) (rF HO_7) (by decide)) hk (fun _ h => h.2)) (fun _ h => h.1)); replace HK := ak (KeepBut.trans kpA hk (.inl rfl)); replace HB := ak hb; replace HI0 := ak hi; (try clear hb hk hi)))
      go_meet
      case rel => exact ⟨_, (false), (t255), (t256), eqA, H', ⟨xq34⟩, ⟨rA HO_7⟩, ⟨xq2⟩, ⟨kpA⟩, ⟨xq1⟩⟩
    subst c26; have H1 : (spec_l07DrawPoints.j1 k1 a1 x7_1 (decide ((x7_1.length : Int) > 0)) s0_0 t255 t256) = some (r1, r2, r3) := by rw [if_pos rfl] at H; exact H
    clear H; have H := H1; clear H1; have H' := ak H; clear H; go_wp2_with (first | ((with_reducible refine gate_callee (f := 90) rfl ?_); refine goB 32 Try.func90 #[.pointer (some ⟨g, 0, none⟩), .int .i64 25] rfl ?_; (with_reducible refine (spec_l01Once.calls g s0_0 x1001_1 x1002_1 25 true t255 t256 w0 _ ?side1 ?side2 A25.out).mono ?_); (case side1 => exact xq2); (case side2 => exact xq1); rintro e w27 ⟨rfl, hi, hb, hk⟩; refine ⟨_, rfl, ?_⟩; replace HO_7 := ak (Kd.R_mono (Kd.R_keep (IsS121.apart (show IsS121 w0 _ g s0_0 x1001_1 x1002_1 from by repeat (first | (with_reducible first | exact HI0.out | apply IsS121.alloc | apply IsS121.drewN | apply IsS121.drew | apply IsS121.set_1 | apply IsS121.set_2) | exact HI0.out)) (rF HO_7) (by decide)) hk (fun _ h => h.2)) (fun _ h => h.1)); replace HK := ak (KeepBut.trans kpA hk (.inl rfl)); replace HB := ak hb; replace HI0 := ak hi; (try clear hb hk hi); obtain ⟨Ao28, co28, eo28⟩ := Kd.R_slice HO_7.out; subst eo28))
    go_meet
    case rel => exact ⟨_, (decide ((x7_1.length : Int) > 0)), (t255), (t256), eqA, H', ⟨xq34⟩, ⟨rA HO_7⟩, ⟨xq2⟩, ⟨kpA⟩, ⟨xq1⟩⟩
   case rest =>
    clear HC24; obtain ⟨kq, x37_23, x1001_23, x1002_23, rfl, HA, HJ23, HO_7, HI0, HK, HB⟩ := hcut
    cases kq with
    | zero => exact absurd HA.out (by simp [spec_l07DrawPoints.j1])
    | succ kj23 =>
     have H := HA.out; clear HA; simp only [spec_l07DrawPoints.j1] at H
     by_cases c30 : x37_23 = true; rotate_left
     · replace c30 := Bool.eq_false_iff.mpr c30; subst c30; have H1 : (some (x7_1, x1001_23, x1002_23)) = some (r1, r2, r3) := by rw [if_neg (show ¬ (false = true) by decide)] at H; exact H
       clear H; have H := H1; clear H1; simp only [Option.some.injEq, Prod.mk.injEq] at H; obtain ⟨rfl, rfl, rfl⟩ := H; go_wp2
       go_ret
       exact ⟨_, xq6, xq48, xq2, xq1, xq15⟩
     subst c30; have H1 : ((spec_l01Below.f s0_0 x1001_23 x1002_23 (x7_1.length : Int)).bind fun bt257 => ((spec_Modulus.f a1).bind fun t260 => ((spec_l01PickInt.f s0_0 bt257.2.1 bt257.2.2 (([(-1), t260] : List Int))).bind fun bt264 => (if 0 ≤ bt257.1 then (if bt257.1 < (x7_1.length : Int) then (some ((x7_1.set (bt257.1 : Int).toNat bt264.1), bt264.2.1, bt264.2.2)) else (none)) else (none))))) = some (r1, r2, r3) := by rw [if_pos rfl] at H; exact H
     clear H; have H := H1; clear H1; replace H := Option.bind_eq_some_iff.mp H; obtain ⟨⟨t257, t258, t259⟩, A310, H⟩ := H; (try dsimp only at H); have A31 := ak A310; clear A310; replace H := Option.bind_eq_some_iff.mp H; obtain ⟨t260, A320, H⟩ := H; (try dsimp only at H); have A32 := ak A320; clear A320; obtain ⟨y261, hyq⟩ : ∃ y_ : List Int, y_ = (([(-1), t260] : List Int)) := ⟨_, rfl⟩; replace H : ((spec_l01PickInt.f s0_0 t258 t259 y261).bind fun bt264 => (if 0 ≤ t257 then (if t257 < (x7_1.length : Int) then (some ((x7_1.set (t257 : Int).toNat bt264.1), bt264.2.1, bt264.2.2)) else (none)) else (none))) = some (r1, r2, r3) := by first | (rw [hyq]; with_reducible exact H) | (have H2_ := (Option.bind_some _ _).symm.trans H; rw [hyq]; with_reducible exact H2_) | (have H2_ := (Option.bind_some _ _).symm.trans H; with_reducible exact H2_) | with_reducible exact H | (rw [hyq]; exact H) | exact H
     have Ny261 := ak hyq; clear hyq; replace H := Option.bind_eq_some_iff.mp H; obtain ⟨⟨t264, t265, t266⟩, A330, H⟩ := H; (try dsimp only at H); have A33 := ak A330; clear A330
     by_cases c34 : 0 ≤ t257; rotate_left
     · rw [if_neg c34] at H; exact absurd H (by simp)
     rw [if_pos c34] at H; have c34b0 := decide_eq_true c34; clear c34
     by_cases c35 : t257 < (x7_1.length : Int); rotate_left
     · rw [if_neg c35] at H; exact absurd H (by simp)
     rw [if_pos c35] at H; have c35b0 := decide_eq_true c35; clear c35; obtain ⟨y267, hyq⟩ : ∃ y_ : List Int, y_ = (x7_1.set (t257 : Int).toNat t264) := ⟨_, rfl⟩; replace H : (some (y267, t265, t266)) = some (r1, r2, r3) := by first | (rw [hyq]; with_reducible exact H) | (have H2_ := (Option.bind_some _ _).symm.trans H; rw [hyq]; with_reducible exact H2_) | (have H2_ := (Option.bind_some _ _).symm.trans H; with_reducible exact H2_) | with_reducible exact H | (rw [hyq]; exact H) | exact H
     have Ny267 := ak hyq; clear hyq; simp only [Option.some.injEq, Prod.mk.injEq] at H; obtain ⟨rfl, rfl, rfl⟩ := H; obtain ⟨Ao37, co37, eo37⟩ := Kd.R_slice HO_7.out; subst eo37; go_wp2_with (first | ((with_reducible refine gate_callee (f := 91) rfl ?_); refine goB 42 Try.func91 #[.pointer (some ⟨g, 0, none⟩), .int .i64 (x7_1.length : Int)] rfl ?_; (with_reducible refine (spec_l01Below.calls g s0_0 x1001_23 x1002_23 (x7_1.length : Int) t257 t258 t259 w0 _ ?side1 ?side2 A31.out).mono ?_); (case side1 => exact xq2); (case side2 => exact xq1); rintro e w38 ⟨rfl, hi, hb, hk⟩; refine ⟨_, rfl, ?_⟩; replace HO_7 := ak (Kd.R_mono (Kd.R_keep (IsS121.apart (show IsS121 w0 _ g s0_0 x1001_23 x1002_23 from by repeat (first | (with_reducible first | exact HI0.out | apply IsS121.alloc | apply IsS121.drewN | apply IsS121.drew | apply IsS121.set_1 | apply IsS121.set_2) | exact HI0.out)) (rF HO_7) (by decide)) hk (fun _ h => h.2)) (fun _ h => h.1)); replace HK := ak (KeepBut.trans kpA hk (.inl rfl)); replace HB := ak hb; replace HI0 := ak hi; (try clear hb hk hi)) | ((with_reducible refine gate_callee (f := 82) rfl ?_); refine goB 45 Try.func82 #[.int .i64 a1] rfl ?_; (with_reducible refine (spec_Modulus.calls a1 t260 _ A32.out).mono ?_); rintro e w' ⟨rfl, ⟨nd, rfl⟩⟩; refine ⟨_, rfl, ?_⟩; (try (rw [drewN_self w38]; generalize hq_ : World.drewN w38 _ = w38; have n0_ : Aside0 (Kd.R (Kd.int .i64) 3 w38 w.heap.size (fun _ => True) (.slice Ao37 x7_1.length co37) x7_1) := ⟨by rw [← hq_]; exact (rF HO_7)⟩; have n1_ : Aside0 (IsS121 w0 w38 g s0_0 t258 t259) := ⟨xq96⟩; have n2_ : Aside0 (KeepBut w w38 g none) := ⟨by rw [← hq_]; exact kpA⟩; have n3_ : Aside0 (Below w0.heap.size w0 w38) := ⟨xq97⟩; clear HO_7 HI0 HK HB hq_; have HO_7 := n0_; have HI0 := n1_; have HK := n2_; have HB := n3_; clear n0_ n1_ n2_ n3_))) | ((with_reducible refine gate_dst (N := 46) rfl ?_); (try (refine gate_guard (by rfl) ?_; dsimp only)); refine Kd.R_lit (Kd.int .i64) _ 3 ?hg (N := 46) ?hd (xs := ([(-1), t260] : List Int)) (inner := [.int .i64 (-1), .int .i64 t260]) (ok := fun _ => True) (okp := fun _ => True) ?hr ?hp (fun _ hk => hk) trivial (Below.refl _ _) (Nat.le_refl _) (by simp) ?_; (case hd => rfl); (case hg => rfl); (case hr => exact xq11); (case hp => exact (Reps.one (show Kd.M (Kd.int .i64) _ _ _ (-1) [.int .i64 (-1)] from rfl) (Reps.one (show Kd.M (Kd.int .i64) _ _ _ t260 [.int .i64 t260] from rfl) (Reps.none _ _)))); intro v262 w39 ho40 hb hg_ hnew_; clear hg_ hnew_; (first | rw [← Ny261.out] at ho40 | (simp only [Int.reduceToNat] at ho40; rw [← Ny261.out] at ho40)); have HO263 := ak (Kd.R_lower (Kd.R_new' ho40 (Kd.R_lt (rF HO_7))) (keep_size (w := w) (g := g) (row := none) kpA)); replace HO_7 := ak (Kd.R_elder' (rF HO_7) (Kd.R_base ho40) hb); replace HK := ak (KeepBut.trans kpA (KeepBut.of_below hb g none) (.inl rfl)); replace HB := ak (below_step xq1 hb); replace HI0 := ak (IsS121.below xq2 hb); clear hb ho40; obtain ⟨Ao41, co41, eo41⟩ := Kd.R_slice HO263.out; subst eo41) | ((with_reducible refine gate_callee (f := 60) rfl ?_); refine goB 47 Try.func60 #[.pointer (some ⟨g, 0, none⟩), .slice Ao41 y261.length co41] rfl ?_; (with_reducible refine (spec_l01PickInt.calls g s0_0 t258 t259 _ _ y261 t264 t265 t266 w0 _ ?side1 ?side2 ?side3 ?side4 ?side5 A33.out).mono ?_); (case side1 => exact xq2); (case side2 => exact xq1); (case side3 => exact cA ((Kd.R_reads' HO263.out).2.2)); (case side4 => exact (Kd.R_reads' HO263.out).2.1); (case side5 => exact far_slice (IsS121.own_ne HI0.out HO263.out (by decide))); rintro e w42 ⟨rfl, hi, hb, hk⟩; refine ⟨_, rfl, ?_⟩; replace HO_7 := ak (Kd.R_mono (Kd.R_keep (IsS121.apart (show IsS121 w0 _ g s0_0 t258 t259 from by repeat (first | (with_reducible first | exact HI0.out | apply IsS121.alloc | apply IsS121.drewN | apply IsS121.drew | apply IsS121.set_1 | apply IsS121.set_2) | exact HI0.out)) (rF HO_7) (by decide)) hk (fun _ h => h.2)) (fun _ h => h.1)); replace HO263 := ak (Kd.R_mono (Kd.R_keep (IsS121.apart (show IsS121 w0 _ g s0_0 t258 t259 from by repeat (first | (with_reducible first | exact HI0.out | apply IsS121.alloc | apply IsS121.drewN | apply IsS121.drew | apply IsS121.set_1 | apply IsS121.set_2) | exact HI0.out)) (rF HO263) (by decide)) hk (fun _ h => h.2)) (fun _ h => h.1)); replace HK := ak (KeepBut.trans kpA hk (.inl rfl)); replace HB := ak hb; replace HI0 := ak hi; (try clear hb hk hi); have p36 : 0 ≤ (t257 : Int) := odA; have q36 : (t257 : Int) < ((x7_1.length : Int) : Int) := odA; obtain ⟨go36, co36, eo36, gb36, gl36, cl36, HG36⟩ := Kd.R_form HO_7.out (by omega); (first | cases eo36 | (injection eo36 with ea_ en_ ec_; (first | subst ea_ | (injection ea_ with ea_; subst ea_)); subst ec_; clear en_)); have GB36 := ak gb36; have GG36 := ak HG36; clear gb36 gl36 HG36; obtain ⟨hx36_0, hf36_0⟩ := Kd.R_celln 0 HO_7.out (t257 : Int) p36 q36; replace p36 := eq_true p36; replace q36 := eq_true q36; have n_ := ak (Kd.R_mono (ok' := (fun k_ => some k_ ≠ (.slice Ao41 y261.length co41 : Value).ownBlock)) HO_7.out (fun k_ hk => hk.2)); clear HO_7; have HO_7 := n_; clear n_; obtain ⟨hy43_, hz43_⟩ := Kd.R_celln 0 HO_7.out (t257 : Int) (odA) (odA); have HP43 := Kd.R_putg HO_7.out (t257 : Int) t264) | ((with_reducible refine gate_store (t := 3) (p := 48) rfl ?_); refine store_event (t := 3) (p := 48) (v := ?vo_w44) (w1 := (w42.setCell ⟨go36, (t257 : Int).toNat, none⟩ (.int .i64 t264))) ?hg ?ho ?hn ?hr ?_; (case ho => rfl); (case hg => rfl); (case hn => rfl); (case hr => exact xq11); intro w44 hw; have hg : w42.grownBy w44 (some go36) := (by rw [hw]; exact HP43.2); have hp_ : Kd.R (Kd.int .i64) 3 w44 w.heap.size (fun k_ => some k_ ≠ (.slice Ao41 y261.length co41 : Value).ownBlock) (.slice (some ⟨go36, 0, none⟩) x7_1.length co37) y267 := (by rw [hw, Ny267.out]; exact HP43.1); clear HP43; replace HI0 := ak (IsS121.grown xq28 hg (IsS121.own_ne HI0.out HO_7.out (by decide))); replace HO263 := ak (Kd.R_after (v := (.slice (some ⟨go36, 0, none⟩) x7_1.length co37)) (v1 := (.slice (some ⟨go36, 0, none⟩) x7_1.length co37)) (ok := (fun _ => True)) (rF HO263) hg (.inl rfl)); replace HB := ak ((by rw [hw]; exact below_set (HB.out) (Nat.le_trans HL.out GB36.out) : Below w0.heap.size w0 w44)); replace HK := ak (KeepBut.trans kpA (KeepBut.of_grown hg g) (Kd.R_base2 HO_7.out)); replace HO_7 := ak hp_; clear hg hw hp_))
     go_ret
     exact ⟨_, xq6, by (with_reducible repeat (first | apply Kd.R_alloc | apply Kd.R_drewN | apply Kd.R_drew)); exact Kd.R_mono HO_7.out (fun _ hk => trivial), xq2, xq1, xq15⟩

def spec_l01In.f (a0 : Int) (a1 : Int) (a2 : Int) : Option (Bool) := if a1 ≤ a0 then (some (decide (a0 ≤ a2))) else (some false)
theorem spec_l01In.calls (a0 : Int) (a1 : Int) (a2 : Int) (r : Bool) (w : World) (h : spec_l01In.f a0 a1 a2 = some r) :
 Calls Try.prog 62 #[.int .i64 a0, .int .i64 a1, .int .i64 a2] w fun e w' => e = .returned (.bool r) ∧ Drawn0 w w' := by
 have H : (if a1 ≤ a0 then (some (decide (a0 ≤ a2))) else (some false)) = some r := h; clear h
 by_cases c4 : a1 ≤ a0
 · rw [if_pos c4] at H; have c4b0 := decide_eq_true c4; clear c4; obtain rfl := Option.some.inj H; go_enter Try.func62, Try.ntmps62
   go_wp2
   go_ret
   exact ⟨xq10, xq5⟩
 rw [if_neg c4] at H; have c4b0 := decide_eq_false c4; clear c4; obtain rfl := Option.some.inj H; go_enter Try.func62, Try.ntmps62
 go_wp2
 go_ret
 exact ⟨xq10, xq5⟩

def spec_l03Elements.l0 : Nat → List Int → Int → Int → Option (Bool)
 | 0, _, _, _ => none
 | k + 1, x1, x5, x6 => if x6 < (x1.length : Int) then (if 0 ≤ x6 then ((spec_l01In.f (rd x1 x6) 0 (wrap64 (x5 - 1))).bind fun t270 => (if t270 = true then (spec_l03Elements.l0 k x1 x5 (wrap64 (x6 + 1))) else (some false))) else (none)) else (some true)
def spec_l03Elements.f (k : Nat) (a0 : Int) (l1 : List Int) : Option (Bool) := (spec_Modulus.f a0).bind fun t268 => (if t268 = 0 then (some false) else (spec_l03Elements.l0 k l1 t268 0))
theorem spec_l03Elements.mono_l : ∀ k, (∀ y0 y1 y2, LeO (spec_l03Elements.l0 k y0 y1 y2) (spec_l03Elements.l0 (k + 1) y0 y1 y2))
 | 0 => fun _ _ _ r h => by simp [spec_l03Elements.l0] at h
 | k + 1 => by
  have ih0 := spec_l03Elements.mono_l k
  · intro y0 y1 y2; unfold spec_l03Elements.l0; exact xq18
theorem spec_l03Elements.mono : ∀ a0 a1 k, LeO (spec_l03Elements.f k a0 a1) (spec_l03Elements.f (k + 1) a0 a1) := by
 intro a0 a1 k; have ih0 := spec_l03Elements.mono_l k
 unfold spec_l03Elements.f
 exact xq18
theorem spec_l03Elements.calls (k : Nat) (a0 : Int) (A1 : Option Addr) (c1 : Nat) (l1 : List Int) (r : Bool) (w : World) (hr1 : Kd.C (Kd.int .i64) w A1 l1.length l1) (hc1 : l1.length ≤ c1) (h : spec_l03Elements.f k a0 l1 = some r) :
 Calls Try.prog 138 #[.int .i64 a0, .slice A1 l1.length c1] w fun e w' => e = .returned (.bool r) ∧ Drawn0 w w' := by
 have HR1 := ak hr1; have HC1 := ak hc1; clear hr1 hc1; have H : ((spec_Modulus.f a0).bind fun t268 => (if t268 = 0 then (some false) else (spec_l03Elements.l0 k l1 t268 0))) = some r := h; clear h; replace H := Option.bind_eq_some_iff.mp H; obtain ⟨t268, A30, H⟩ := H; (try dsimp only at H); have A3 := ak A30; clear A30
 by_cases c4 : t268 = 0
 · rw [if_pos c4] at H; have c4b0 : (t268 == 0) = true := beq_iff_eq.mpr c4; have c4b1 : (t268 != 0) = false := bne_eq_false_iff_eq.mpr c4; clear c4; obtain rfl := Option.some.inj H; go_enter Try.func138, Try.ntmps138
   go_wp2_with (first | ((with_reducible refine gate_callee (f := 82) rfl ?_); refine goB 8 Try.func82 #[.int .i64 a0] rfl ?_; (with_reducible refine (spec_Modulus.calls a0 t268 _ A3.out).mono ?_); rintro e w' ⟨rfl, ⟨nd, rfl⟩⟩; refine ⟨_, rfl, ?_⟩))
   go_ret
   exact ⟨xq10, xq5⟩
 rw [if_neg c4] at H; have c4b0 : (t268 == 0) = false := beq_eq_false_iff_ne.mpr c4; have c4b1 : (t268 != 0) = true := bne_iff_ne.mpr c4; have H' := ak H; clear H; go_enter Try.func138, Try.ntmps138
 go_wp2_with (first | ((with_reducible refine gate_callee (f := 82) rfl ?_); refine goB 8 Try.func82 #[.int .i64 a0] rfl ?_; (with_reducible refine (spec_Modulus.calls a0 t268 _ A3.out).mono ?_); rintro e w' ⟨rfl, ⟨nd, rfl⟩⟩; refine ⟨_, rfl, ?_⟩))
 go_loopg [6] k (fun kq v6 w' => ∃ (x6_1 : Int), v6 = .int .i64 x6_1 ∧ Aside0 (spec_l03Elements.l0 kq l1 t268 x6_1 = some r) ∧ Aside0 (kq ≤ k) ∧ Drawn0 w w')
 case atStart => exact ⟨(0), eqA, H', ⟨Nat.le_refl _⟩, xq5⟩
 case round =>
  clear H'; obtain ⟨x6_1, rfl, HA, HK1, ⟨m1, rfl⟩⟩ := hrel
  cases gk with
  | zero => exact absurd HA.out (by simp [spec_l03Elements.l0])
  | succ k1 =>
   have H := HA.out; clear HA; simp only [spec_l03Elements.l0] at H
   by_cases c5 : x6_1 < (l1.length : Int); rotate_left
   · rw [if_neg c5] at H; have c5b0 := decide_eq_false c5; clear c5; obtain rfl := Option.some.inj H; go_wp2
     go_ret
     exact ⟨xq10, xq5⟩
   rw [if_pos c5] at H; have c5b0 := decide_eq_true c5; clear c5
   by_cases c6 : 0 ≤ x6_1; rotate_left
   · rw [if_neg c6] at H; exact absurd H (by simp)
   rw [if_pos c6] at H; have c6b0 := decide_eq_true c6; clear c6; replace H := Option.bind_eq_some_iff.mp H; obtain ⟨t270, A70, H⟩ := H; (try dsimp only at H); have A7 := ak A70; clear A70
   by_cases c8 : t270 = true; rotate_left
   · replace c8 := Bool.eq_false_iff.mpr c8; subst c8; have H1 : (some false) = some r := by rw [if_neg (show ¬ (false = true) by decide)] at H; exact H
     clear H; have H := H1; clear H1; obtain rfl := Option.some.inj H; have p269 : 0 ≤ (x6_1 : Int) := odA; have q269 : x6_1 < (l1.length : Int) := odA; obtain ⟨ad269, e269, hx269_0⟩ := Kd.at_int HR1.out x6_1 p269 q269
     cases e269
     replace p269 := eq_true p269; replace q269 := eq_true q269; go_wp2_with (first | ((with_reducible refine gate_callee (f := 62) rfl ?_); refine goB 23 Try.func62 #[.int .i64 (rd l1 x6_1), .int .i64 0, .int .i64 (wrap64 (t268 - 1))] rfl ?_; (with_reducible refine (spec_l01In.calls (rd l1 x6_1) 0 (wrap64 (t268 - 1)) false _ A7.out).mono ?_); rintro e w' ⟨rfl, ⟨nd, rfl⟩⟩; refine ⟨_, rfl, ?_⟩))
     go_ret
     exact ⟨xq10, xq5⟩
   subst c8; have H1 : (spec_l03Elements.l0 k1 l1 t268 (wrap64 (x6_1 + 1))) = some r := by rw [if_pos rfl] at H; exact H
   clear H; have H := H1; clear H1; have H' := ak H; clear H; have p269 : 0 ≤ (x6_1 : Int) := odA; have q269 : x6_1 < (l1.length : Int) := odA; obtain ⟨ad269, e269, hx269_0⟩ := Kd.at_int HR1.out x6_1 p269 q269
   cases e269
   replace p269 := eq_true p269; replace q269 := eq_true q269; go_wp2_with (first | ((with_reducible refine gate_callee (f := 62) rfl ?_); refine goB 23 Try.func62 #[.int .i64 (rd l1 x6_1), .int .i64 0, .int .i64 (wrap64 (t268 - 1))] rfl ?_; (with_reducible refine (spec_l01In.calls (rd l1 x6_1) 0 (wrap64 (t268 - 1)) true _ A7.out).mono ?_); rintro e w' ⟨rfl, ⟨nd, rfl⟩⟩; refine ⟨_, rfl, ?_⟩))
   go_roundg k1
   case measure => have := HK1.out; omega
   case rel => exact ⟨(wrap64 (x6_1 + 1)), eqA, H', ⟨xq19⟩, xq5⟩

mutual
def spec_PointsOk.j0 : Nat → List Int → Bool → Option (Bool)
 | 0, _, _ => none
 | k + 1, x1, x15 => if x15 = true then (some false) else (spec_PointsOk.l0 k x1 0)
def spec_PointsOk.l0 : Nat → List Int → Int → Option (Bool)
 | 0, _, _ => none
 | k + 1, x1, x5 => if x5 < (x1.length : Int) then (if 0 ≤ x5 then (if x5 ≤ (x1.length : Int) then ((spec_l01Has.f k (x1.take (x5 : Int).toNat) (rd x1 x5)).bind fun t275 => (if t275 = true then (some false) else (spec_PointsOk.l0 k x1 (wrap64 (x5 + 1))))) else (none)) else (none)) else (some true)
end
def spec_PointsOk.f (k : Nat) (a0 : Int) (l1 : List Int) : Option (Bool) := (spec_l01In.f (l1.length : Int) 1 40).bind fun t271 => (if t271 = true then ((spec_l03Elements.f k a0 l1).bind fun t272 => (spec_PointsOk.j0 k l1 (!t272))) else (spec_PointsOk.j0 k l1 true))
theorem spec_PointsOk.mono_l : ∀ k, (∀ y0 y1, LeO (spec_PointsOk.j0 k y0 y1) (spec_PointsOk.j0 (k + 1) y0 y1)) ∧ (∀ y0 y1, LeO (spec_PointsOk.l0 k y0 y1) (spec_PointsOk.l0 (k + 1) y0 y1))
 | 0 => ⟨fun _ _ r h => by simp [spec_PointsOk.j0] at h, fun _ _ r h => by simp [spec_PointsOk.l0] at h⟩
 | k + 1 => by
  obtain ⟨ih0, ih1⟩ := spec_PointsOk.mono_l k; refine ⟨?_, ?_⟩
  · intro y0 y1; unfold spec_PointsOk.j0; exact xq69
  · intro y0 y1; unfold spec_PointsOk.l0; exact xq69
theorem spec_PointsOk.mono : ∀ a0 a1 k, LeO (spec_PointsOk.f k a0 a1) (spec_PointsOk.f (k + 1) a0 a1) := by
 intro a0 a1 k; obtain ⟨ih0, ih1⟩ := spec_PointsOk.mono_l k
 unfold spec_PointsOk.f
 exact xq69
theorem spec_PointsOk.calls (k : Nat) (a0 : Int) (A1 : Option Addr) (c1 : Nat) (l1 : List Int) (r : Bool) (w : World) (hr1 : Kd.C (Kd.int .i64) w A1 l1.length l1) (hc1 : l1.length ≤ c1) (h : spec_PointsOk.f k a0 l1 = some r) :
 Calls Try.prog 140 #[.int .i64 a0, .slice A1 l1.length c1] w fun e w' => e = .returned (.bool r) ∧ Drawn0 w w' := by
 have HR1 := ak hr1; have HC1 := ak hc1; clear hr1 hc1; have H : ((spec_l01In.f (l1.length : Int) 1 40).bind fun t271 => (if t271 = true then ((spec_l03Elements.f k a0 l1).bind fun t272 => (spec_PointsOk.j0 k l1 (!t272))) else (spec_PointsOk.j0 k l1 true))) = some r := h; clear h; have HC3 := ak H; clear H; go_enter Try.func140, Try.ntmps140
 go_upto_region 1 with (fail)
 repeat (go_quiet (fail); go_upto_region 1 with (fail))
 go_cut [15] (fun v15 wc => ∃ (kq : Nat) (x15_2 : Bool), v15 = .bool x15_2 ∧ Aside0 (spec_PointsOk.j0 kq l1 x15_2 = some r) ∧ Aside0 (kq ≤ k) ∧ Drawn0 w wc)
 case first =>
  have H := HC3.out; clear HC3; replace H := Option.bind_eq_some_iff.mp H; obtain ⟨t271, A40, H⟩ := H; (try dsimp only at H); have A4 := ak A40; clear A40
  by_cases c5 : t271 = true; rotate_left
  · replace c5 := Bool.eq_false_iff.mpr c5; subst c5; have H1 : (spec_PointsOk.j0 k l1 true) = some r := by rw [if_neg (show ¬ (false = true) by decide)] at H; exact H
    clear H; have H := H1; clear H1; have H' := ak H; clear H; go_wp2_with (first | (go_at_call 62; (with_reducible refine (spec_l01In.calls (l1.length : Int) 1 40 false _ A4.out).mono ?_); rintro e w' ⟨rfl, ⟨nd, rfl⟩⟩; (try first | exact ⟨rfl, _, World.drewN_drewN _ _ _⟩ | exact ⟨rfl, _, Eq.trans (World.drewN_drewN _ _ _) (congrArg (World.drewN _) (Nat.add_assoc _ _ _))⟩)))
    repeat (go_quiet (first | (go_at_call 62; (with_reducible refine (spec_l01In.calls (l1.length : Int) 1 40 false _ A4.out).mono ?_); rintro e w' ⟨rfl, ⟨nd, rfl⟩⟩; (try first | exact ⟨rfl, _, World.drewN_drewN _ _ _⟩ | exact ⟨rfl, _, Eq.trans (World.drewN_drewN _ _ _) (congrArg (World.drewN _) (Nat.add_assoc _ _ _))⟩))); try go_wp2_with (first | (go_at_call 62; (with_reducible refine (spec_l01In.calls (l1.length : Int) 1 40 false _ A4.out).mono ?_); rintro e w' ⟨rfl, ⟨nd, rfl⟩⟩; (try first | exact ⟨rfl, _, World.drewN_drewN _ _ _⟩ | exact ⟨rfl, _, Eq.trans (World.drewN_drewN _ _ _) (congrArg (World.drewN _) (Nat.add_assoc _ _ _))⟩))))
    go_meet
    case rel => exact ⟨_, (true), eqA, H', ⟨xq12⟩, xq5⟩
  subst c5; have H1 : ((spec_l03Elements.f k a0 l1).bind fun t272 => (spec_PointsOk.j0 k l1 (!t272))) = some r := by rw [if_pos rfl] at H; exact H
  clear H; have H := H1; clear H1; replace H := Option.bind_eq_some_iff.mp H; obtain ⟨t272, A60, H⟩ := H; (try dsimp only at H); have A6 := ak A60; clear A60; have H' := ak H; clear H; go_wp2_with (first | (go_at_call 62; (with_reducible refine (spec_l01In.calls (l1.length : Int) 1 40 true _ A4.out).mono ?_); rintro e w' ⟨rfl, ⟨nd, rfl⟩⟩; (try first | exact ⟨rfl, _, World.drewN_drewN _ _ _⟩ | exact ⟨rfl, _, Eq.trans (World.drewN_drewN _ _ _) (congrArg (World.drewN _) (Nat.add_assoc _ _ _))⟩)) | (go_at_call 138; (with_reducible refine (spec_l03Elements.calls k a0 _ _ l1 t272 _ ?side1 ?side2 A6.out).mono ?_); (case side1 => exact cA HR1.out); (case side2 => exact HC1.out); rintro e w' ⟨rfl, ⟨nd, rfl⟩⟩; (try first | exact ⟨rfl, _, World.drewN_drewN _ _ _⟩ | exact ⟨rfl, _, Eq.trans (World.drewN_drewN _ _ _) (congrArg (World.drewN _) (Nat.add_assoc _ _ _))⟩)))
  repeat (go_quiet (first | (go_at_call 62; (with_reducible refine (spec_l01In.calls (l1.length : Int) 1 40 true _ A4.out).mono ?_); rintro e w' ⟨rfl, ⟨nd, rfl⟩⟩; (try first | exact ⟨rfl, _, World.drewN_drewN _ _ _⟩ | exact ⟨rfl, _, Eq.trans (World.drewN_drewN _ _ _) (congrArg (World.drewN _) (Nat.add_assoc _ _ _))⟩)) | (go_at_call 138; (with_reducible refine (spec_l03Elements.calls k a0 _ _ l1 t272 _ ?side1 ?side2 A6.out).mono ?_); (case side1 => exact cA HR1.out); (case side2 => exact HC1.out); rintro e w' ⟨rfl, ⟨nd, rfl⟩⟩; (try first | exact ⟨rfl, _, World.drewN_drewN _ _ _⟩ | exact ⟨rfl, _, Eq.trans (World.drewN_drewN _ _ _) (congrArg (World.drewN _) (Nat.add_assoc _ _ _))⟩))); try go_wp2_with (first | (go_at_call 62; (with_reducible refine (spec_l01In.calls (l1.length : Int) 1 40 true _ A4.out).mono ?_); rintro e w' ⟨rfl, ⟨nd, rfl⟩⟩; (try first | exact ⟨rfl, _, World.drewN_drewN _ _ _⟩ | exact ⟨rfl, _, Eq.trans (World.drewN_drewN _ _ _) (congrArg (World.drewN _) (Nat.add_assoc _ _ _))⟩)) | (go_at_call 138; (with_reducible refine (spec_l03Elements.calls k a0 _ _ l1 t272 _ ?side1 ?side2 A6.out).mono ?_); (case side1 => exact cA HR1.out); (case side2 => exact HC1.out); rintro e w' ⟨rfl, ⟨nd, rfl⟩⟩; (try first | exact ⟨rfl, _, World.drewN_drewN _ _ _⟩ | exact ⟨rfl, _, Eq.trans (World.drewN_drewN _ _ _) (congrArg (World.drewN _) (Nat.add_assoc _ _ _))⟩))))
  go_meet
  case rel => exact ⟨_, (!t272), eqA, H', ⟨xq12⟩, xq5⟩
 case rest =>
  clear HC3; obtain ⟨kq, x15_2, rfl, HA, HJ2, ⟨mc2, rfl⟩⟩ := hcut
  cases kq with
  | zero => exact absurd HA.out (by simp [spec_PointsOk.j0])
  | succ kj2 =>
   have H := HA.out; clear HA; simp only [spec_PointsOk.j0] at H
   by_cases c7 : x15_2 = true
   · subst c7; have H1 : (some false) = some r := by rw [if_pos rfl] at H; exact H
     clear H; have H := H1; clear H1; obtain rfl := Option.some.inj H; go_wp2
     repeat (go_quiet (fail); try go_wp2)
     go_ret
     exact ⟨xq10, xq5⟩
   replace c7 := Bool.eq_false_iff.mpr c7; subst c7; have H1 : (spec_PointsOk.l0 kj2 l1 0) = some r := by rw [if_neg (show ¬ (false = true) by decide)] at H; exact H
   clear H; have H := H1; clear H1; have H' := ak H; clear H; go_wp2
   repeat (go_quiet (fail); try go_wp2)
   go_loopg [5] kj2 (fun kq v5 w' => ∃ (x5_2 : Int), v5 = .int .i64 x5_2 ∧ Aside0 (spec_PointsOk.l0 kq l1 x5_2 = some r) ∧ Aside0 (kq ≤ kj2) ∧ Drawn0 w w')
   case atStart => exact ⟨(0), eqA, H', ⟨Nat.le_refl _⟩, xq5⟩
   case round =>
    clear H'; obtain ⟨x5_2, rfl, HA, HK2, ⟨m2, rfl⟩⟩ := hrel
    cases gk with
    | zero => exact absurd HA.out (by simp [spec_PointsOk.l0])
    | succ k2 =>
     have H := HA.out; clear HA; simp only [spec_PointsOk.l0] at H
     by_cases c8 : x5_2 < (l1.length : Int); rotate_left
     · rw [if_neg c8] at H; have c8b0 := decide_eq_false c8; clear c8; obtain rfl := Option.some.inj H; go_wp2
       repeat (go_quiet (fail); try go_wp2)
       go_ret
       exact ⟨xq10, xq5⟩
     rw [if_pos c8] at H; have c8b0 := decide_eq_true c8; clear c8
     by_cases c9 : 0 ≤ x5_2; rotate_left
     · rw [if_neg c9] at H; exact absurd H (by simp)
     rw [if_pos c9] at H; have c9b0 := eq_true c9; have c9b1 : decide (0 ≤ x5_2) = true := decide_eq_true c9; clear c9
     by_cases c10 : x5_2 ≤ (l1.length : Int); rotate_left
     · rw [if_neg c10] at H; exact absurd H (by simp)
     rw [if_pos c10] at H; have c10b0 := eq_true c10; have c10b1 : decide (x5_2 ≤ (l1.length : Int)) = true := decide_eq_true c10; clear c10; replace H := Option.bind_eq_some_iff.mp H; obtain ⟨t275, A110, H⟩ := H; (try dsimp only at H); have A11 := ak A110; clear A110
     by_cases c12 : t275 = true
     · subst c12; have H1 : (some false) = some r := by rw [if_pos rfl] at H; exact H
       clear H; have H := H1; clear H1; obtain rfl := Option.some.inj H; obtain ⟨i013, hi013, _, hsz13, _⟩ := info_parts info3; obtain ⟨hcut13, hA13, hC13⟩ := print_take_of (P := Try.prog) (Value.int .i64) 0 33 3 .i64 Try.underlying33 hi013 hsz13 A1 c1 l1 x5_2 (odA) (odA) HC1.out; have HR273 := ak (Kd.C_of_reads (h1 := fun _ => rfl) (hA13 _ (Kd.reads_of_C HR1.out))); have HC273 := ak hC13; clear hA13 hC13 hi013 hsz13; have p274 : 0 ≤ (x5_2 : Int) := odA; have q274 : x5_2 < (l1.length : Int) := odA; obtain ⟨ad274, e274, hx274_0⟩ := Kd.at_int HR1.out x5_2 p274 q274
       cases e274
       replace p274 := eq_true p274; replace q274 := eq_true q274; have hlT_ := ak (show (x5_2 : Int).toNat = (l1.take (x5_2 : Int).toNat).length by have h1 := of_decide_eq_true c10b1; rw [List.length_take]; omega); go_wp2_with (first | (go_at_call 112; (with_reducible refine (spec_l01Has.calls k2 _ _ (l1.take (x5_2 : Int).toNat) (rd l1 x5_2) true _ ?side1 ?side2 A11.out).mono ?_); (case side1 => exact cA HR273.out); (case side2 => exact HC273.out); rintro e w' ⟨rfl, ⟨nd, rfl⟩⟩; (try first | exact ⟨rfl, _, World.drewN_drewN _ _ _⟩ | exact ⟨rfl, _, Eq.trans (World.drewN_drewN _ _ _) (congrArg (World.drewN _) (Nat.add_assoc _ _ _))⟩)))
       go_region_with (first | (go_at_call 112; rw [hlT_.out]; (with_reducible refine (spec_l01Has.calls k2 _ _ (l1.take (x5_2 : Int).toNat) (rd l1 x5_2) true _ ?side1 ?side2 A11.out).mono ?_); (case side1 => exact cA HR273.out); (case side2 => exact HC273.out); rintro e w' ⟨rfl, ⟨nd, rfl⟩⟩; (try first | exact ⟨rfl, _, World.drewN_drewN _ _ _⟩ | exact ⟨rfl, _, Eq.trans (World.drewN_drewN _ _ _) (congrArg (World.drewN _) (Nat.add_assoc _ _ _))⟩)))
       go_wp2
       go_ret
       exact ⟨xq10, xq5⟩
     replace c12 := Bool.eq_false_iff.mpr c12; subst c12; have H1 : (spec_PointsOk.l0 k2 l1 (wrap64 (x5_2 + 1))) = some r := by rw [if_neg (show ¬ (false = true) by decide)] at H; exact H
     clear H; have H := H1; clear H1; have H' := ak H; clear H; obtain ⟨i014, hi014, _, hsz14, _⟩ := info_parts info3; obtain ⟨hcut14, hA14, hC14⟩ := print_take_of (P := Try.prog) (Value.int .i64) 0 33 3 .i64 Try.underlying33 hi014 hsz14 A1 c1 l1 x5_2 (odA) (odA) HC1.out; have HR273 := ak (Kd.C_of_reads (h1 := fun _ => rfl) (hA14 _ (Kd.reads_of_C HR1.out))); have HC273 := ak hC14; clear hA14 hC14 hi014 hsz14; have p274 : 0 ≤ (x5_2 : Int) := odA; have q274 : x5_2 < (l1.length : Int) := odA; obtain ⟨ad274, e274, hx274_0⟩ := Kd.at_int HR1.out x5_2 p274 q274
     cases e274
     replace p274 := eq_true p274; replace q274 := eq_true q274; have hlT_ := ak (show (x5_2 : Int).toNat = (l1.take (x5_2 : Int).toNat).length by have h1 := of_decide_eq_true c10b1; rw [List.length_take]; omega); go_wp2_with (first | (go_at_call 112; (with_reducible refine (spec_l01Has.calls k2 _ _ (l1.take (x5_2 : Int).toNat) (rd l1 x5_2) false _ ?side1 ?side2 A11.out).mono ?_); (case side1 => exact cA HR273.out); (case side2 => exact HC273.out); rintro e w' ⟨rfl, ⟨nd, rfl⟩⟩; (try first | exact ⟨rfl, _, World.drewN_drewN _ _ _⟩ | exact ⟨rfl, _, Eq.trans (World.drewN_drewN _ _ _) (congrArg (World.drewN _) (Nat.add_assoc _ _ _))⟩)))
     go_region_with (first | (go_at_call 112; rw [hlT_.out]; (with_reducible refine (spec_l01Has.calls k2 _ _ (l1.take (x5_2 : Int).toNat) (rd l1 x5_2) false _ ?side1 ?side2 A11.out).mono ?_); (case side1 => exact cA HR273.out); (case side2 => exact HC273.out); rintro e w' ⟨rfl, ⟨nd, rfl⟩⟩; (try first | exact ⟨rfl, _, World.drewN_drewN _ _ _⟩ | exact ⟨rfl, _, Eq.trans (World.drewN_drewN _ _ _) (congrArg (World.drewN _) (Nat.add_assoc _ _ _))⟩)))
     go_wp2
     go_roundg k2
     case measure => have := HJ2.out; have := HK2.out; omega
     case rel => exact ⟨(wrap64 (x5_2 + 1)), eqA, H', ⟨by have := HJ2.out; have := HK2.out; omega⟩, xq5⟩

def spec_l07Code.f (k : Nat) (a0 : Int) (l1 : List Int) (a2 : Int) : Option (Bool) := if (l1.length : Int) ≤ 10 then ((spec_PointsOk.f k a0 l1).bind fun t276 => (if t276 = true then ((spec_l01In.f a2 1 (l1.length : Int)).bind fun t277 => (some t277)) else (some false))) else (some false)
theorem spec_l07Code.mono : ∀ a0 a1 a2 k, LeO (spec_l07Code.f k a0 a1 a2) (spec_l07Code.f (k + 1) a0 a1 a2) := by
 intro a0 a1 a2 k
 unfold spec_l07Code.f
 exact (by repeat' (with_reducible first | exact spec_PointsOk.mono _ _ _ | exact LeO.refl _ | exact LeO.none _ | refine LeO.ite ?_ ?_ | refine LeO.bind ?_ (fun _ => ?_)))
theorem spec_l07Code.calls (k : Nat) (a0 : Int) (A1 : Option Addr) (c1 : Nat) (l1 : List Int) (a2 : Int) (r : Bool) (w : World) (hr1 : Kd.C (Kd.int .i64) w A1 l1.length l1) (hc1 : l1.length ≤ c1) (h : spec_l07Code.f k a0 l1 a2 = some r) :
 Calls Try.prog 137 #[.int .i64 a0, .slice A1 l1.length c1, .int .i64 a2] w fun e w' => e = .returned (.bool r) ∧ Drawn0 w w' := by
 have HR1 := ak hr1; have HC1 := ak hc1; clear hr1 hc1; have H : (if (l1.length : Int) ≤ 10 then ((spec_PointsOk.f k a0 l1).bind fun t276 => (if t276 = true then ((spec_l01In.f a2 1 (l1.length : Int)).bind fun t277 => (some t277)) else (some false))) else (some false)) = some r := h; clear h
 by_cases c4 : (l1.length : Int) ≤ 10; rotate_left
 · rw [if_neg c4] at H; have c4b0 := decide_eq_false c4; have c4b1 : decide (l1.length ≤ 10) = false := decide_eq_false (by omega); clear c4; obtain rfl := Option.some.inj H; go_enter Try.func137, Try.ntmps137
   go_wp2
   go_ret
   exact ⟨xq10, xq5⟩
 rw [if_pos c4] at H; have c4b0 := decide_eq_true c4; have c4b1 : decide (l1.length ≤ 10) = true := decide_eq_true (by omega); clear c4; replace H := Option.bind_eq_some_iff.mp H; obtain ⟨t276, A50, H⟩ := H; (try dsimp only at H); have A5 := ak A50; clear A50
 by_cases c6 : t276 = true; rotate_left
 · replace c6 := Bool.eq_false_iff.mpr c6; subst c6; have H1 : (some false) = some r := by rw [if_neg (show ¬ (false = true) by decide)] at H; exact H
   clear H; have H := H1; clear H1; obtain rfl := Option.some.inj H; go_enter Try.func137, Try.ntmps137
   go_wp2_with (first | (go_at_call 140; (with_reducible refine (spec_PointsOk.calls k a0 _ _ l1 false _ ?side1 ?side2 A5.out).mono ?_); (case side1 => exact cA HR1.out); (case side2 => exact HC1.out); rintro e w' ⟨rfl, ⟨nd, rfl⟩⟩))
   go_ret
   exact ⟨xq10, xq5⟩
 subst c6; have H1 : ((spec_l01In.f a2 1 (l1.length : Int)).bind fun t277 => (some t277)) = some r := by rw [if_pos rfl] at H; exact H
 clear H; have H := H1; clear H1; replace H := Option.bind_eq_some_iff.mp H; obtain ⟨t277, A70, H⟩ := H; (try dsimp only at H); have A7 := ak A70; clear A70; obtain rfl := Option.some.inj H; go_enter Try.func137, Try.ntmps137
 go_wp2_with (first | (go_at_call 140; (with_reducible refine (spec_PointsOk.calls k a0 _ _ l1 true _ ?side1 ?side2 A5.out).mono ?_); (case side1 => exact cA HR1.out); (case side2 => exact HC1.out); rintro e w' ⟨rfl, ⟨nd, rfl⟩⟩) | (go_at_call 62; (with_reducible refine (spec_l01In.calls a2 1 (l1.length : Int) t277 _ A7.out).mono ?_); rintro e w' ⟨rfl, ⟨nd, rfl⟩⟩))
 go_ret
 exact ⟨xq10, xq5⟩

end Go.Proofs.Ytogdhclomgafdaa.PFnJobBytes
