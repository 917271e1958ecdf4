-- Written by a program of this session (the print of the kit with contracts of this session's own added)
import Derived.Test.YtdefnccngnilmaaZFEMx7
import Derived.Test.YtdefnccngnilmaaZFEMx11
namespace Go.Proofs.Ytdefnccngnilmaa.PFnExactMakespan
open Go.RowKit Go.Proofs.YtdefnccngnilmaaW.PrintWords Go.Proofs.YtdefnccngnilmaaW.PrintLast Go.Proofs.YtdefnccngnilmaaW.PrintMore Go.Proofs.YtdefnccngnilmaaW.PrintPack
set_option linter.unusedVariables false
set_option linter.unusedSimpArgs false

def laws_FnExactMakespan.f (k : Nat) (a0_0 : Int) (a0_1 : Int) (l0_2 : List (S115)) (a1 : Int) : Option (Bool) := (laws_szPlan.f a0_0 a0_1 l0_2 1048576).bind fun t210 => (if t210 < 0 then (some true) else ((laws_toPlan.f k a0_0 a0_1 l0_2).bind fun bt211 => ((spec_Makespan.f k bt211.1 bt211.2.1 bt211.2.2 a1).bind fun t216 => ((laws_toPlan.f k a0_0 a0_1 l0_2).bind fun bt217 => ((impl_Makespan.f k bt217.1 bt217.2.1 bt217.2.2 a1).bind fun t223 => (if t223 = t216 then ((laws_toPlan.f k a0_0 a0_1 l0_2).bind fun bt224 => ((laws_eqPlan.f k bt217.1 bt217.2.1 bt217.2.2 bt224.1 bt224.2.1 bt224.2.2).bind fun t229 => (if t229 = true then (some true) else (some false)))) else (some false)))))))
theorem laws_FnExactMakespan.mono : ∀ a0 a1 a2 a3 k, LeO (laws_FnExactMakespan.f k a0 a1 a2 a3) (laws_FnExactMakespan.f (k + 1) a0 a1 a2 a3) := by
 intro a0 a1 a2 a3 k
 unfold laws_FnExactMakespan.f
 exact (by repeat' (with_reducible first | exact impl_Makespan.mono _ _ _ _ _ | exact laws_eqPlan.mono _ _ _ _ _ _ _ | exact laws_toPlan.mono _ _ _ _ | exact spec_Makespan.mono _ _ _ _ _ | exact LeO.refl _ | exact LeO.none _ | refine LeO.ite ?_ ?_ | refine LeO.bind ?_ (fun _ => ?_)))
set_option maxHeartbeats 8000000 in
set_option maxRecDepth 100000 in
theorem laws_FnExactMakespan.calls (k : Nat) (a0_0 : Int) (a0_1 : Int) (A0_2 : Option Addr) (c0_2 : Nat) (l0_2 : List (S115)) (a1 : Int) (r : Bool) (w : World) (hr0_2 : Kd.C k115 w A0_2 l0_2.length l0_2) (hc0_2 : l0_2.length ≤ c0_2) (h : laws_FnExactMakespan.f k a0_0 a0_1 l0_2 a1 = some r) :
 Calls Try.prog 8 #[.agg #[.int .i64 a0_0, .int .i64 a0_1, .slice A0_2 l0_2.length c0_2], .int .i64 a1] w fun e w' => e = .returned (.bool r) ∧ Below w.heap.size w w' := by
 have hu24 := Try.underlying24; have hu28 := Try.underlying28; have HR0_2 := ak hr0_2; have HC0_2 := ak hc0_2; clear hr0_2 hc0_2; have HB := ak (Below.refl w.heap.size w); have H : ((laws_szPlan.f a0_0 a0_1 l0_2 1048576).bind fun t210 => (if t210 < 0 then (some true) else ((laws_toPlan.f k a0_0 a0_1 l0_2).bind fun bt211 => ((spec_Makespan.f k bt211.1 bt211.2.1 bt211.2.2 a1).bind fun t216 => ((laws_toPlan.f k a0_0 a0_1 l0_2).bind fun bt217 => ((impl_Makespan.f k bt217.1 bt217.2.1 bt217.2.2 a1).bind fun t223 => (if t223 = t216 then ((laws_toPlan.f k a0_0 a0_1 l0_2).bind fun bt224 => ((laws_eqPlan.f k bt217.1 bt217.2.1 bt217.2.2 bt224.1 bt224.2.1 bt224.2.2).bind fun t229 => (if t229 = true then (some true) else (some false)))) else (some false)))))))) = some r := h; clear h; replace H := Option.bind_eq_some_iff.mp H; obtain ⟨t210, A30, H⟩ := H; (try dsimp only at H); have A3 := ak A30; clear A30
 by_cases c4 : t210 < 0
 · rw [if_pos c4] at H; have c4b0 := decide_eq_true c4; clear c4; obtain rfl := Option.some.inj H; go_enter Try.func8, Try.ntmps8
   go_wp2_with (first | ((with_reducible refine gate_dst (N := 2) rfl ?_); refine boxA 2 #[.int .i64 a0_0, .int .i64 a0_1, .slice A0_2 l0_2.length c0_2] 24 ?_; intro gb209 hg w5 hbox hb; have BK209 := ak hbox; have GW209 := leA (w := w) hg; have GE209 := leA (w := w) hg; replace HB := bS hb; clear hb hbox hg; obtain ⟨_, _, _, _, _, _⟩ := cel3 BK209) | ((with_reducible refine gate_callee (f := 9) rfl ?_); refine goB 11 Try.func9 #[.agg #[.int .i64 a0_0, .int .i64 a0_1, .slice A0_2 l0_2.length c0_2], .int .i64 1048576] rfl ?_; (with_reducible refine (laws_szPlan.calls a0_0 a0_1 _ _ l0_2 1048576 t210 _ ?side1 ?side2 A3.out).mono ?_); (case side1 => exact cA (Kd.C_below HR0_2.out HB.out)); (case side2 => exact HC0_2.out); rintro e w7 ⟨rfl, hb⟩; refine ⟨_, rfl, ?_⟩; replace BK209 := bB BK209 hb; replace HB := bS hb; (try clear hb)))
   go_ret
   exact ⟨xq1, belA⟩
 rw [if_neg c4] at H; have c4b0 := decide_eq_false c4; clear c4; replace H := Option.bind_eq_some_iff.mp H; obtain ⟨⟨t211, t212, t213⟩, A80, H⟩ := H; (try dsimp only at H); have A8 := ak A80; clear A80; replace H := Option.bind_eq_some_iff.mp H; obtain ⟨t216, A90, H⟩ := H; (try dsimp only at H); have A9 := ak A90; clear A90; replace H := Option.bind_eq_some_iff.mp H; obtain ⟨⟨t217, t218, t219⟩, A100, H⟩ := H; (try dsimp only at H); have A10 := ak A100; clear A100; replace H := Option.bind_eq_some_iff.mp H; obtain ⟨t223, A110, H⟩ := H; (try dsimp only at H); have A11 := ak A110; clear A110
 by_cases c12 : t223 = t216; rotate_left
 · rw [if_neg c12] at H; have c12b0 : (t223 == t216) = false := beq_eq_false_iff_ne.mpr c12; have c12b1 : (t223 != t216) = true := bne_iff_ne.mpr c12; obtain rfl := Option.some.inj H; go_enter Try.func8, Try.ntmps8
   go_wp2_with (first | ((with_reducible refine gate_dst (N := 2) rfl ?_); refine boxA 2 #[.int .i64 a0_0, .int .i64 a0_1, .slice A0_2 l0_2.length c0_2] 24 ?_; intro gb209 hg w52 hbox hb; have BK209 := ak hbox; have GW209 := leA (w := w) hg; have GE209 := leA (w := w) hg; replace HB := bS hb; clear hb hbox hg; obtain ⟨_, _, _, _, _, _⟩ := cel3 BK209) | ((with_reducible refine gate_callee (f := 9) rfl ?_); refine goB 11 Try.func9 #[.agg #[.int .i64 a0_0, .int .i64 a0_1, .slice A0_2 l0_2.length c0_2], .int .i64 1048576] rfl ?_; (with_reducible refine (laws_szPlan.calls a0_0 a0_1 _ _ l0_2 1048576 t210 _ ?side1 ?side2 A3.out).mono ?_); (case side1 => exact cA (Kd.C_below HR0_2.out HB.out)); (case side2 => exact HC0_2.out); rintro e w54 ⟨rfl, hb⟩; refine ⟨_, rfl, ?_⟩; replace BK209 := bB BK209 hb; replace HB := bS hb; (try clear hb); obtain ⟨_, _, _, _, _, _⟩ := cel3 BK209) | ((with_reducible refine gate_callee (f := 11) rfl ?_); refine goB 15 Try.func11 #[.agg #[.int .i64 a0_0, .int .i64 a0_1, .slice A0_2 l0_2.length c0_2]] rfl ?_; (with_reducible refine (laws_toPlan.calls k a0_0 a0_1 _ _ l0_2 t211 t212 t213 _ ?side1 ?side2 A8.out).mono ?_); (case side1 => exact cA (Kd.C_below HR0_2.out HB.out)); (case side2 => exact HC0_2.out); rintro e w56 ⟨v214, rfl, ho0, hb⟩; refine ⟨_, rfl, ?_⟩; have HO215 := rL ho0; replace BK209 := bB BK209 hb; replace HB := bS hb; (try clear hb ho0); obtain ⟨Ao57, co57, eo57⟩ := Kd.R_slice HO215.out; subst eo57) | ((with_reducible refine gate_callee (f := 46) rfl ?_); refine goB 17 Try.func46 #[.agg #[.int .i64 t211, .int .i64 t212, .slice Ao57 t213.length co57], .int .i64 a1] rfl ?_; (with_reducible refine (spec_Makespan.calls k t211 t212 _ _ t213 a1 t216 _ ?side1 ?side2 A9.out).mono ?_); (case side1 => exact cA ((Kd.R_reads' HO215.out).2.2)); (case side2 => exact (Kd.R_reads' HO215.out).2.1); rintro e w58 ⟨rfl, hb⟩; refine ⟨_, rfl, ?_⟩; replace HO215 := ak (Kd.R_below (rF HO215) hb); replace BK209 := bB BK209 hb; replace HB := bS hb; (try clear hb); obtain ⟨_, _, _, _, _, _⟩ := cel3 BK209) | ((with_reducible refine gate_callee (f := 11) rfl ?_); refine goB 19 Try.func11 #[.agg #[.int .i64 a0_0, .int .i64 a0_1, .slice A0_2 l0_2.length c0_2]] rfl ?_; (with_reducible refine (laws_toPlan.calls k a0_0 a0_1 _ _ l0_2 t217 t218 t219 _ ?side1 ?side2 A10.out).mono ?_); (case side1 => exact cA (Kd.C_below HR0_2.out HB.out)); (case side2 => exact HC0_2.out); rintro e w60 ⟨v220, rfl, ho0, hb⟩; refine ⟨_, rfl, ?_⟩; have HO221 := rL (Kd.R_new' ho0 (Kd.R_lt (rF HO215))); replace HO215 := ak (Kd.R_elder' (rF HO215) (Kd.R_base ho0) hb); replace BK209 := bB BK209 hb; replace HB := bS hb; (try clear hb ho0)) | ((with_reducible refine gate_dst (N := 7) rfl ?_); refine boxA 7 #[.int .i64 0, .int .i64 0, .slice none 0 0] 28 ?_; intro gb222 hg w61 hbox hb; have BK222 := ak hbox; have GW222 := leA (w := w) hg; have GE222 := leA (w := w) hg; have NB209_222 := neL hg BK209; have NB222_209 := neG hg BK209; replace HO215 := ak (Kd.R_below (rF HO215) hb); replace HO221 := ak (Kd.R_below (rF HO221) hb); replace BK209 := bB BK209 hb; replace HB := bS hb; clear hb hbox hg; have hnb62 := NB222_209.out; have hnc62 := NB209_222.out; obtain ⟨_, _, _, _, _, _⟩ := cel3 BK222; obtain ⟨Ao64, co64, eo64⟩ := Kd.R_slice HO221.out; subst eo64) | ((with_reducible refine gate_callee (f := 47) rfl ?_); refine goB 22 Try.func47 #[.agg #[.int .i64 t217, .int .i64 t218, .slice Ao64 t219.length co64], .int .i64 a1] rfl ?_; (with_reducible refine (impl_Makespan.calls k t217 t218 _ _ t219 a1 t223 _ ?side1 ?side2 A11.out).mono ?_); (case side1 => refine (Kd.R_reads' (e := 76) (base := w.heap.size) (ok := fun k_ => (True ∧ some k_ ≠ (.slice Ao57 t213.length co57 : Value).ownBlock)) (n := t219.length) (c := co64) ?_).2.2; exact (rG HO221 BK222)); (case side2 => exact (Kd.R_reads' HO221.out).2.1); rintro e w65 ⟨rfl, hb⟩; refine ⟨_, rfl, ?_⟩; replace HO215 := ak (Kd.R_below (rG HO215 BK222) hb); replace HO221 := ak (Kd.R_below (rG HO221 BK222) hb); replace BK209 := ak (blk_below (g := gb209) (o := .cells #[.int .i64 a0_0, .int .i64 a0_1, .slice A0_2 l0_2.length c0_2] 24 (0, 0)) xq32 hb); replace BK222 := ak (blk_below (g := gb222) (o := .cells #[.int .i64 t217, .int .i64 t218, .slice Ao64 t219.length co64] 28 (0, 0)) xq33 hb); replace HB := bS hb; (try clear hb)))
   go_ret
   exact ⟨xq1, belA⟩
 rw [if_pos c12] at H; have c12b0 : (t223 == t216) = true := beq_iff_eq.mpr c12; have c12b1 : (t223 != t216) = false := bne_eq_false_iff_eq.mpr c12; clear c12; replace H := Option.bind_eq_some_iff.mp H; obtain ⟨⟨t224, t225, t226⟩, A130, H⟩ := H; (try dsimp only at H); have A13 := ak A130; clear A130; replace H := Option.bind_eq_some_iff.mp H; obtain ⟨t229, A140, H⟩ := H; (try dsimp only at H); have A14 := ak A140; clear A140
 by_cases c15 : t229 = true
 · subst c15; have H1 : (some true) = some r := by rw [if_pos rfl] at H; exact H
   clear H; have H := H1; clear H1; obtain rfl := Option.some.inj H; go_enter Try.func8, Try.ntmps8
   try go_wp2_with (first | ((with_reducible refine gate_dst (N := 2) rfl ?_); refine boxA 2 #[.int .i64 a0_0, .int .i64 a0_1, .slice A0_2 l0_2.length c0_2] 24 ?_; intro gb209 hg w16 hbox hb; have BK209 := ak hbox; have GW209 := leA (w := w) hg; have GE209 := leA (w := w) hg; replace HB := bS hb; clear hb hbox hg; obtain ⟨_, _, _, _, _, _⟩ := cel3 BK209) | ((with_reducible refine gate_callee (f := 9) rfl ?_); refine goB 11 Try.func9 #[.agg #[.int .i64 a0_0, .int .i64 a0_1, .slice A0_2 l0_2.length c0_2], .int .i64 1048576] rfl ?_; (with_reducible refine (laws_szPlan.calls a0_0 a0_1 _ _ l0_2 1048576 t210 _ ?side1 ?side2 A3.out).mono ?_); (case side1 => exact cA (Kd.C_below HR0_2.out HB.out)); (case side2 => exact HC0_2.out); rintro e w18 ⟨rfl, hb⟩; refine ⟨_, rfl, ?_⟩; replace BK209 := bB BK209 hb; replace HB := bS hb; (try clear hb); obtain ⟨_, _, _, _, _, _⟩ := cel3 BK209) | ((with_reducible refine gate_callee (f := 11) rfl ?_); refine goB 15 Try.func11 #[.agg #[.int .i64 a0_0, .int .i64 a0_1, .slice A0_2 l0_2.length c0_2]] rfl ?_; (with_reducible refine (laws_toPlan.calls k a0_0 a0_1 _ _ l0_2 t211 t212 t213 _ ?side1 ?side2 A8.out).mono ?_); (case side1 => exact cA (Kd.C_below HR0_2.out HB.out)); (case side2 => exact HC0_2.out); rintro e w20 ⟨v214, rfl, ho0, hb⟩; refine ⟨_, rfl, ?_⟩; have HO215 := rL ho0; replace BK209 := bB BK209 hb; replace HB := bS hb; (try clear hb ho0); obtain ⟨Ao21, co21, eo21⟩ := Kd.R_slice HO215.out; subst eo21) | ((with_reducible refine gate_callee (f := 46) rfl ?_); refine goB 17 Try.func46 #[.agg #[.int .i64 t211, .int .i64 t212, .slice Ao21 t213.length co21], .int .i64 a1] rfl ?_; (with_reducible refine (spec_Makespan.calls k t211 t212 _ _ t213 a1 t216 _ ?side1 ?side2 A9.out).mono ?_); (case side1 => exact cA ((Kd.R_reads' HO215.out).2.2)); (case side2 => exact (Kd.R_reads' HO215.out).2.1); rintro e w22 ⟨rfl, hb⟩; refine ⟨_, rfl, ?_⟩; replace HO215 := ak (Kd.R_below (rF HO215) hb); replace BK209 := bB BK209 hb; replace HB := bS hb; (try clear hb); obtain ⟨_, _, _, _, _, _⟩ := cel3 BK209) | ((with_reducible refine gate_callee (f := 11) rfl ?_); refine goB 19 Try.func11 #[.agg #[.int .i64 a0_0, .int .i64 a0_1, .slice A0_2 l0_2.length c0_2]] rfl ?_; (with_reducible refine (laws_toPlan.calls k a0_0 a0_1 _ _ l0_2 t217 t218 t219 _ ?side1 ?side2 A10.out).mono ?_); (case side1 => exact cA (Kd.C_below HR0_2.out HB.out)); (case side2 => exact HC0_2.out); rintro e w24 ⟨v220, rfl, ho0, hb⟩; refine ⟨_, rfl, ?_⟩; have HO221 := rL (Kd.R_new' ho0 (Kd.R_lt (rF HO215))); replace HO215 := ak (Kd.R_elder' (rF HO215) (Kd.R_base ho0) hb); replace BK209 := bB BK209 hb; replace HB := bS hb; (try clear hb ho0)) | ((with_reducible refine gate_dst (N := 7) rfl ?_); refine boxA 7 #[.int .i64 0, .int .i64 0, .slice none 0 0] 28 ?_; intro gb222 hg w25 hbox hb; have BK222 := ak hbox; have GW222 := leA (w := w) hg; have GE222 := leA (w := w) hg; have NB209_222 := neL hg BK209; have NB222_209 := neG hg BK209; replace HO215 := ak (Kd.R_below (rF HO215) hb); replace HO221 := ak (Kd.R_below (rF HO221) hb); replace BK209 := bB BK209 hb; replace HB := bS hb; clear hb hbox hg; have hnb26 := NB222_209.out; have hnc26 := NB209_222.out; obtain ⟨_, _, _, _, _, _⟩ := cel3 BK222; obtain ⟨Ao28, co28, eo28⟩ := Kd.R_slice HO221.out; subst eo28) | ((with_reducible refine gate_callee (f := 47) rfl ?_); refine goB 22 Try.func47 #[.agg #[.int .i64 t217, .int .i64 t218, .slice Ao28 t219.length co28], .int .i64 a1] rfl ?_; (with_reducible refine (impl_Makespan.calls k t217 t218 _ _ t219 a1 t223 _ ?side1 ?side2 A11.out).mono ?_); (case side1 => refine (Kd.R_reads' (e := 76) (base := w.heap.size) (ok := fun k_ => (True ∧ some k_ ≠ (.slice Ao21 t213.length co21 : Value).ownBlock)) (n := t219.length) (c := co28) ?_).2.2; exact (rG HO221 BK222)); (case side2 => exact (Kd.R_reads' HO221.out).2.1); rintro e w29 ⟨rfl, hb⟩; refine ⟨_, rfl, ?_⟩; replace HO215 := ak (Kd.R_below (rG HO215 BK222) hb); replace HO221 := ak (Kd.R_below (rG HO221 BK222) hb); replace BK209 := ak (blk_below (g := gb209) (o := .cells #[.int .i64 a0_0, .int .i64 a0_1, .slice A0_2 l0_2.length c0_2] 24 (0, 0)) xq32 hb); replace BK222 := ak (blk_below (g := gb222) (o := .cells #[.int .i64 t217, .int .i64 t218, .slice Ao28 t219.length co28] 28 (0, 0)) xq33 hb); replace HB := bS hb; (try clear hb)))
   replace HO215 := ak (Kd.R_drew HO215.out); replace HO221 := ak (Kd.R_drew HO221.out); replace BK209 := ak (blk_drew BK209.out); replace BK222 := ak (blk_drew BK222.out); replace HB := ak (below_drew1 HB.out); refine start_ (n := 5) (S := fun w' => w'.cell? ⟨gb222, 0, none⟩ = some (.int .i64 t217) ∧ w'.cell? ⟨gb222, 1, none⟩ = some (.int .i64 t218) ∧ w'.cell? ⟨gb222, 2, none⟩ = some (.slice Ao28 t219.length co28) ∧ w'.cell? ⟨gb209, 0, none⟩ = some (.int .i64 a0_0) ∧ w'.cell? ⟨gb209, 1, none⟩ = some (.int .i64 a0_1) ∧ w'.cell? ⟨gb209, 2, none⟩ = some (.slice A0_2 l0_2.length c0_2)) (ds := []) #[false, false, false, false, false] (by kernel_rfl) rfl rfl ⟨(blk_cell BK222.out 0).trans rfl, (blk_cell BK222.out 1).trans rfl, (blk_cell BK222.out 2).trans rfl, (blk_cell BK209.out 0).trans rfl, (blk_cell BK209.out 1).trans rfl, (blk_cell BK209.out 2).trans rfl⟩ (fun hHeld => ?_)
   generalize w29.drew = w30 at HO215 HO221 BK209 BK222 HB hHeld ⊢
   refine take_ (i := 0) (N := some 26) (v := ?_) (a' := ?_) #[true, false, false, false, false] rfl rfl (by kernel_rfl) (fun _ _ _ h => h) (Or.inl ⟨by rfl, ?_⟩) hHeld ?_ ?_
   rotate_left
   · rintro w' ⟨s0, s1, s2, s3, s4, s5⟩
     go_simp
     with_reducible rfl
   rotate_left
   · simp only [Act.put, sa, sb, sc, i64_w, i32_w]
     rfl
   refine take_ (i := 1) (N := some 27) (v := ?_) (a' := ?_) #[true, true, false, false, false] rfl rfl (by kernel_rfl) (fun _ _ _ h => h) (Or.inl ⟨by rfl, ?_⟩) hHeld ?_ ?_
   rotate_left
   · rintro w' ⟨s0, s1, s2, s3, s4, s5⟩
     go_simp
     with_reducible rfl
   rotate_left
   · simp only [Act.put, sa, sb, sc, i64_w, i32_w]
     rfl
   refine one_ (i := 2) (N := some 28) #[true, true, true, false, false] rfl rfl (by kernel_rfl) (by decide) (fun K hK => ?_)
   refine goes_ Try.func11 (by kernel_rfl) rfl #[.agg #[.int .i64 a0_0, .int .i64 a0_1, .slice A0_2 l0_2.length c0_2]] (by rfl) rfl rfl xq9 ?_
   with_reducible refine (laws_toPlan.calls k a0_0 a0_1 _ _ l0_2 t224 t225 t226 _ ?side1 ?side2 A13.out).mono ?_
   (case side1 => exact cA (Kd.C_below HR0_2.out HB.out))
   (case side2 => exact HC0_2.out)
   rintro e w31 ⟨v227, rfl, ho0, hb⟩
   refine ⟨_, rfl, ?_⟩
   have HO228 := rL (Kd.R_new' (Kd.R_new' ho0 (Kd.R_lt (rF HO215))) (Kd.R_lt (rF HO221))); replace HO215 := ak (Kd.R_elder' (rF HO215) (Kd.R_base ho0) hb); replace HO221 := ak (Kd.R_elder' (rF HO221) (Kd.R_base ho0) hb); replace BK209 := bB BK209 hb; replace BK222 := bB BK222 hb; replace HB := bS hb; (try clear hb ho0); obtain ⟨Ao32, co32, eo32⟩ := Kd.R_slice HO228.out; (first | subst eo32 | (injection eo32 with f1_ f2_ f3_; have f4_ := f1_.symm; have f5_ := f3_.symm; clear f1_ f2_ f3_; subst f4_; subst f5_))
   refine hK.out _ _ ⟨(blk_cell BK222.out 0).trans rfl, (blk_cell BK222.out 1).trans rfl, (blk_cell BK222.out 2).trans rfl, (blk_cell BK209.out 0).trans rfl, (blk_cell BK209.out 1).trans rfl, (blk_cell BK209.out 2).trans rfl⟩ (fun hHeld => ?_)
   clear hK K; refine norm_ (a' := ?_) ?_ ?_
   rotate_left
   · show Act.put _ (some 28) _ = _
     simp only [Act.put, sa, sb, sc, i64_w, i32_w]
     rfl
   refine one_ (i := 3) (N := some 29) #[true, true, true, true, false] rfl rfl (by kernel_rfl) (by decide) (fun K hK => ?_)
   refine goes_ Try.func13 (by kernel_rfl) rfl #[.agg #[.int .i64 t217, .int .i64 t218, .slice Ao28 t219.length co28], .agg #[.int .i64 t224, .int .i64 t225, .slice Ao32 t226.length co32]] (by rfl) rfl rfl xq9 ?_
   with_reducible refine (laws_eqPlan.calls k t217 t218 _ _ t219 t224 t225 _ _ t226 true _ ?side1 ?side2 ?side3 ?side4 A14.out).mono ?_
   (case side1 => exact cA ((Kd.R_reads' HO221.out).2.2))
   (case side2 => exact (Kd.R_reads' HO221.out).2.1)
   (case side3 => exact cA ((Kd.R_reads' HO228.out).2.2))
   (case side4 => exact (Kd.R_reads' HO228.out).2.1)
   rintro e w33 ⟨rfl, hb⟩
   refine ⟨_, rfl, ?_⟩
   replace HO215 := ak (Kd.R_below (rF HO215) hb); replace HO221 := ak (Kd.R_below (rF HO221) hb); replace HO228 := ak (Kd.R_below (rF HO228) hb); replace BK209 := bB BK209 hb; replace BK222 := bB BK222 hb; replace HB := bS hb; (try clear hb); refine hK.out _ _ ⟨(blk_cell BK222.out 0).trans rfl, (blk_cell BK222.out 1).trans rfl, (blk_cell BK222.out 2).trans rfl, (blk_cell BK209.out 0).trans rfl, (blk_cell BK209.out 1).trans rfl, (blk_cell BK209.out 2).trans rfl⟩ (fun hHeld => ?_)
   clear hK K; refine norm_ (a' := ?_) ?_ ?_
   rotate_left
   · show Act.put _ (some 29) _ = _
     simp only [Act.put, sa, sb, sc, i64_w, i32_w]
     rfl
   refine pure_ (i := 4) (N := some 30) (v := ?_) (a' := ?_) #[true, true, true, true, true] rfl rfl (by kernel_rfl) (fun _ _ _ h => h) (Or.inl ⟨by rfl, ?_⟩) ?_ ?_
   rotate_left
   · intro w'; go_simp
     with_reducible rfl
   rotate_left
   · simp only [Act.put, sa, sb, sc, i64_w, i32_w]
     rfl
   refine done_ (by kernel_rfl) ?_
   try go_wp2
   go_ret
   exact ⟨xq1, belA⟩
 replace c15 := Bool.eq_false_iff.mpr c15; subst c15; have H1 : (some false) = some r := by rw [if_neg (show ¬ (false = true) by decide)] at H; exact H
 clear H; have H := H1; clear H1; obtain rfl := Option.some.inj H; go_enter Try.func8, Try.ntmps8
 try go_wp2_with (first | ((with_reducible refine gate_dst (N := 2) rfl ?_); refine boxA 2 #[.int .i64 a0_0, .int .i64 a0_1, .slice A0_2 l0_2.length c0_2] 24 ?_; intro gb209 hg w34 hbox hb; have BK209 := ak hbox; have GW209 := leA (w := w) hg; have GE209 := leA (w := w) hg; replace HB := bS hb; clear hb hbox hg; obtain ⟨_, _, _, _, _, _⟩ := cel3 BK209) | ((with_reducible refine gate_callee (f := 9) rfl ?_); refine goB 11 Try.func9 #[.agg #[.int .i64 a0_0, .int .i64 a0_1, .slice A0_2 l0_2.length c0_2], .int .i64 1048576] rfl ?_; (with_reducible refine (laws_szPlan.calls a0_0 a0_1 _ _ l0_2 1048576 t210 _ ?side1 ?side2 A3.out).mono ?_); (case side1 => exact cA (Kd.C_below HR0_2.out HB.out)); (case side2 => exact HC0_2.out); rintro e w36 ⟨rfl, hb⟩; refine ⟨_, rfl, ?_⟩; replace BK209 := bB BK209 hb; replace HB := bS hb; (try clear hb); obtain ⟨_, _, _, _, _, _⟩ := cel3 BK209) | ((with_reducible refine gate_callee (f := 11) rfl ?_); refine goB 15 Try.func11 #[.agg #[.int .i64 a0_0, .int .i64 a0_1, .slice A0_2 l0_2.length c0_2]] rfl ?_; (with_reducible refine (laws_toPlan.calls k a0_0 a0_1 _ _ l0_2 t211 t212 t213 _ ?side1 ?side2 A8.out).mono ?_); (case side1 => exact cA (Kd.C_below HR0_2.out HB.out)); (case side2 => exact HC0_2.out); rintro e w38 ⟨v214, rfl, ho0, hb⟩; refine ⟨_, rfl, ?_⟩; have HO215 := rL ho0; replace BK209 := bB BK209 hb; replace HB := bS hb; (try clear hb ho0); obtain ⟨Ao39, co39, eo39⟩ := Kd.R_slice HO215.out; subst eo39) | ((with_reducible refine gate_callee (f := 46) rfl ?_); refine goB 17 Try.func46 #[.agg #[.int .i64 t211, .int .i64 t212, .slice Ao39 t213.length co39], .int .i64 a1] rfl ?_; (with_reducible refine (spec_Makespan.calls k t211 t212 _ _ t213 a1 t216 _ ?side1 ?side2 A9.out).mono ?_); (case side1 => exact cA ((Kd.R_reads' HO215.out).2.2)); (case side2 => exact (Kd.R_reads' HO215.out).2.1); rintro e w40 ⟨rfl, hb⟩; refine ⟨_, rfl, ?_⟩; replace HO215 := ak (Kd.R_below (rF HO215) hb); replace BK209 := bB BK209 hb; replace HB := bS hb; (try clear hb); obtain ⟨_, _, _, _, _, _⟩ := cel3 BK209) | ((with_reducible refine gate_callee (f := 11) rfl ?_); refine goB 19 Try.func11 #[.agg #[.int .i64 a0_0, .int .i64 a0_1, .slice A0_2 l0_2.length c0_2]] rfl ?_; (with_reducible refine (laws_toPlan.calls k a0_0 a0_1 _ _ l0_2 t217 t218 t219 _ ?side1 ?side2 A10.out).mono ?_); (case side1 => exact cA (Kd.C_below HR0_2.out HB.out)); (case side2 => exact HC0_2.out); rintro e w42 ⟨v220, rfl, ho0, hb⟩; refine ⟨_, rfl, ?_⟩; have HO221 := rL (Kd.R_new' ho0 (Kd.R_lt (rF HO215))); replace HO215 := ak (Kd.R_elder' (rF HO215) (Kd.R_base ho0) hb); replace BK209 := bB BK209 hb; replace HB := bS hb; (try clear hb ho0)) | ((with_reducible refine gate_dst (N := 7) rfl ?_); refine boxA 7 #[.int .i64 0, .int .i64 0, .slice none 0 0] 28 ?_; intro gb222 hg w43 hbox hb; have BK222 := ak hbox; have GW222 := leA (w := w) hg; have GE222 := leA (w := w) hg; have NB209_222 := neL hg BK209; have NB222_209 := neG hg BK209; replace HO215 := ak (Kd.R_below (rF HO215) hb); replace HO221 := ak (Kd.R_below (rF HO221) hb); replace BK209 := bB BK209 hb; replace HB := bS hb; clear hb hbox hg; have hnb44 := NB222_209.out; have hnc44 := NB209_222.out; obtain ⟨_, _, _, _, _, _⟩ := cel3 BK222; obtain ⟨Ao46, co46, eo46⟩ := Kd.R_slice HO221.out; subst eo46) | ((with_reducible refine gate_callee (f := 47) rfl ?_); refine goB 22 Try.func47 #[.agg #[.int .i64 t217, .int .i64 t218, .slice Ao46 t219.length co46], .int .i64 a1] rfl ?_; (with_reducible refine (impl_Makespan.calls k t217 t218 _ _ t219 a1 t223 _ ?side1 ?side2 A11.out).mono ?_); (case side1 => refine (Kd.R_reads' (e := 76) (base := w.heap.size) (ok := fun k_ => (True ∧ some k_ ≠ (.slice Ao39 t213.length co39 : Value).ownBlock)) (n := t219.length) (c := co46) ?_).2.2; exact (rG HO221 BK222)); (case side2 => exact (Kd.R_reads' HO221.out).2.1); rintro e w47 ⟨rfl, hb⟩; refine ⟨_, rfl, ?_⟩; replace HO215 := ak (Kd.R_below (rG HO215 BK222) hb); replace HO221 := ak (Kd.R_below (rG HO221 BK222) hb); replace BK209 := ak (blk_below (g := gb209) (o := .cells #[.int .i64 a0_0, .int .i64 a0_1, .slice A0_2 l0_2.length c0_2] 24 (0, 0)) xq32 hb); replace BK222 := ak (blk_below (g := gb222) (o := .cells #[.int .i64 t217, .int .i64 t218, .slice Ao46 t219.length co46] 28 (0, 0)) xq33 hb); replace HB := bS hb; (try clear hb)))
 replace HO215 := ak (Kd.R_drew HO215.out); replace HO221 := ak (Kd.R_drew HO221.out); replace BK209 := ak (blk_drew BK209.out); replace BK222 := ak (blk_drew BK222.out); replace HB := ak (below_drew1 HB.out); refine start_ (n := 5) (S := fun w' => w'.cell? ⟨gb222, 0, none⟩ = some (.int .i64 t217) ∧ w'.cell? ⟨gb222, 1, none⟩ = some (.int .i64 t218) ∧ w'.cell? ⟨gb222, 2, none⟩ = some (.slice Ao46 t219.length co46) ∧ w'.cell? ⟨gb209, 0, none⟩ = some (.int .i64 a0_0) ∧ w'.cell? ⟨gb209, 1, none⟩ = some (.int .i64 a0_1) ∧ w'.cell? ⟨gb209, 2, none⟩ = some (.slice A0_2 l0_2.length c0_2)) (ds := []) #[false, false, false, false, false] (by kernel_rfl) rfl rfl ⟨(blk_cell BK222.out 0).trans rfl, (blk_cell BK222.out 1).trans rfl, (blk_cell BK222.out 2).trans rfl, (blk_cell BK209.out 0).trans rfl, (blk_cell BK209.out 1).trans rfl, (blk_cell BK209.out 2).trans rfl⟩ (fun hHeld => ?_)
 generalize w47.drew = w48 at HO215 HO221 BK209 BK222 HB hHeld ⊢
 refine take_ (i := 0) (N := some 26) (v := ?_) (a' := ?_) #[true, false, false, false, false] rfl rfl (by kernel_rfl) (fun _ _ _ h => h) (Or.inl ⟨by rfl, ?_⟩) hHeld ?_ ?_
 rotate_left
 · rintro w' ⟨s0, s1, s2, s3, s4, s5⟩
   go_simp
   with_reducible rfl
 rotate_left
 · simp only [Act.put, sa, sb, sc, i64_w, i32_w]
   rfl
 refine take_ (i := 1) (N := some 27) (v := ?_) (a' := ?_) #[true, true, false, false, false] rfl rfl (by kernel_rfl) (fun _ _ _ h => h) (Or.inl ⟨by rfl, ?_⟩) hHeld ?_ ?_
 rotate_left
 · rintro w' ⟨s0, s1, s2, s3, s4, s5⟩
   go_simp
   with_reducible rfl
 rotate_left
 · simp only [Act.put, sa, sb, sc, i64_w, i32_w]
   rfl
 refine one_ (i := 2) (N := some 28) #[true, true, true, false, false] rfl rfl (by kernel_rfl) (by decide) (fun K hK => ?_)
 refine goes_ Try.func11 (by kernel_rfl) rfl #[.agg #[.int .i64 a0_0, .int .i64 a0_1, .slice A0_2 l0_2.length c0_2]] (by rfl) rfl rfl xq9 ?_
 with_reducible refine (laws_toPlan.calls k a0_0 a0_1 _ _ l0_2 t224 t225 t226 _ ?side1 ?side2 A13.out).mono ?_
 (case side1 => exact cA (Kd.C_below HR0_2.out HB.out))
 (case side2 => exact HC0_2.out)
 rintro e w49 ⟨v227, rfl, ho0, hb⟩
 refine ⟨_, rfl, ?_⟩
 have HO228 := rL (Kd.R_new' (Kd.R_new' ho0 (Kd.R_lt (rF HO215))) (Kd.R_lt (rF HO221))); replace HO215 := ak (Kd.R_elder' (rF HO215) (Kd.R_base ho0) hb); replace HO221 := ak (Kd.R_elder' (rF HO221) (Kd.R_base ho0) hb); replace BK209 := bB BK209 hb; replace BK222 := bB BK222 hb; replace HB := bS hb; (try clear hb ho0); obtain ⟨Ao50, co50, eo50⟩ := Kd.R_slice HO228.out; (first | subst eo50 | (injection eo50 with f1_ f2_ f3_; have f4_ := f1_.symm; have f5_ := f3_.symm; clear f1_ f2_ f3_; subst f4_; subst f5_))
 refine hK.out _ _ ⟨(blk_cell BK222.out 0).trans rfl, (blk_cell BK222.out 1).trans rfl, (blk_cell BK222.out 2).trans rfl, (blk_cell BK209.out 0).trans rfl, (blk_cell BK209.out 1).trans rfl, (blk_cell BK209.out 2).trans rfl⟩ (fun hHeld => ?_)
 clear hK K; refine norm_ (a' := ?_) ?_ ?_
 rotate_left
 · show Act.put _ (some 28) _ = _
   simp only [Act.put, sa, sb, sc, i64_w, i32_w]
   rfl
 refine one_ (i := 3) (N := some 29) #[true, true, true, true, false] rfl rfl (by kernel_rfl) (by decide) (fun K hK => ?_)
 refine goes_ Try.func13 (by kernel_rfl) rfl #[.agg #[.int .i64 t217, .int .i64 t218, .slice Ao46 t219.length co46], .agg #[.int .i64 t224, .int .i64 t225, .slice Ao50 t226.length co50]] (by rfl) rfl rfl xq9 ?_
 with_reducible refine (laws_eqPlan.calls k t217 t218 _ _ t219 t224 t225 _ _ t226 false _ ?side1 ?side2 ?side3 ?side4 A14.out).mono ?_
 (case side1 => exact cA ((Kd.R_reads' HO221.out).2.2))
 (case side2 => exact (Kd.R_reads' HO221.out).2.1)
 (case side3 => exact cA ((Kd.R_reads' HO228.out).2.2))
 (case side4 => exact (Kd.R_reads' HO228.out).2.1)
 rintro e w51 ⟨rfl, hb⟩
 refine ⟨_, rfl, ?_⟩
 replace HO215 := ak (Kd.R_below (rF HO215) hb); replace HO221 := ak (Kd.R_below (rF HO221) hb); replace HO228 := ak (Kd.R_below (rF HO228) hb); replace BK209 := bB BK209 hb; replace BK222 := bB BK222 hb; replace HB := bS hb; (try clear hb); refine hK.out _ _ ⟨(blk_cell BK222.out 0).trans rfl, (blk_cell BK222.out 1).trans rfl, (blk_cell BK222.out 2).trans rfl, (blk_cell BK209.out 0).trans rfl, (blk_cell BK209.out 1).trans rfl, (blk_cell BK209.out 2).trans rfl⟩ (fun hHeld => ?_)
 clear hK K; refine norm_ (a' := ?_) ?_ ?_
 rotate_left
 · show Act.put _ (some 29) _ = _
   simp only [Act.put, sa, sb, sc, i64_w, i32_w]
   rfl
 refine pure_ (i := 4) (N := some 30) (v := ?_) (a' := ?_) #[true, true, true, true, true] rfl rfl (by kernel_rfl) (fun _ _ _ h => h) (Or.inl ⟨by rfl, ?_⟩) ?_ ?_
 rotate_left
 · intro w'; go_simp
   with_reducible rfl
 rotate_left
 · simp only [Act.put, sa, sb, sc, i64_w, i32_w]
   rfl
 refine done_ (by kernel_rfl) ?_
 try go_wp2
 go_ret
 exact ⟨xq1, belA⟩

end Go.Proofs.Ytdefnccngnilmaa.PFnExactMakespan
