-- Written by a program of this session (the print of the kit with contracts of this session's own added)
import Derived.Test.YtbojabmpcfclhaaZFEFx0
import Derived.Test.YtbojabmpcfclhaaZFEFx1
import Derived.Test.YtbojabmpcfclhaaZFEFx3
import Derived.Test.YtbojabmpcfclhaaZFEFV
namespace Go.Proofs.Ytbojabmpcfclhaa.PFnExactFeed
open Go.RowKit Go.Proofs.YtbojabmpcfclhaaW.PrintWords Go.Proofs.YtbojabmpcfclhaaW.PrintLast Go.Proofs.YtbojabmpcfclhaaW.PrintMore Go.Proofs.YtbojabmpcfclhaaW.PrintPack
attribute [local go_sem] max2_int min2_int max_two min_two max_three min_three max_four min_four   -- for this text's walks alone
set_option linter.unusedVariables false
set_option linter.unusedSimpArgs false

/-! ### spec_StreamOk: function 105 -/
def spec_StreamOk.f (k : Nat) (l0_0 : List Int) (a0_1 : Int) : Option (Bool) := (spec_l01In.f a0_1 0 2147483647).bind fun t151 => (if t151 = true then ((spec_DecodeFrame.f k l0_0).bind fun bt152 => (some (bt152.2.2.2.2 == 1))) else (some false))
theorem spec_StreamOk.mono : ∀ a0 a1 k, LeO (spec_StreamOk.f k a0 a1) (spec_StreamOk.f (k + 1) a0 a1) := by
 intro a0 a1 k
 unfold spec_StreamOk.f
 repeat' first
  | (with_reducible exact spec_DecodeFrame.mono _ _)
  | (with_reducible exact LeO.refl _)
  | (with_reducible exact LeO.none _)
  | (with_reducible refine LeO.ite ?_ ?_)
  | (with_reducible refine LeO.bind ?_ (fun _ => ?_))
  | exact spec_DecodeFrame.mono _ _
  | exact LeO.none _
  | refine LeO.ite ?_ ?_
  | refine LeO.bind ?_ (fun _ => ?_)
set_option maxHeartbeats 8000000 in
set_option maxRecDepth 100000 in
theorem spec_StreamOk.calls (k : Nat) (A0_0 : Option Addr) (c0_0 : Nat) (l0_0 : List Int) (a0_1 : Int) (r : Bool) (w : World) (hr0_0 : Kd.C (Kd.int .u8) w A0_0 l0_0.length l0_0) (hc0_0 : l0_0.length ≤ c0_0) (h : spec_StreamOk.f k l0_0 a0_1 = some r) :
 Calls Try.prog 105 #[.agg #[.slice A0_0 l0_0.length c0_0, .int .i64 a0_1]] w fun e w' => e = .returned (.bool r) ∧ Below w.heap.size w w' := by
 have hu73 := Try.underlying73; have hu109 := Try.underlying109; have HR0_0 := Aside0.mk hr0_0; have HC0_0 := Aside0.mk hc0_0; clear hr0_0 hc0_0; have HB := Aside0.mk (Below.refl w.heap.size w); have H : ((spec_l01In.f a0_1 0 2147483647).bind fun t151 => (if t151 = true then ((spec_DecodeFrame.f k l0_0).bind fun bt152 => (some (bt152.2.2.2.2 == 1))) else (some false))) = some r := h; clear h; replace H := Option.bind_eq_some_iff.mp H; obtain ⟨t151, A20, H⟩ := H; replace H : (if t151 = true then ((spec_DecodeFrame.f k l0_0).bind fun bt152 => (some (bt152.2.2.2.2 == 1))) else (some false)) = some r := H
 have A2 := Aside0.mk A20; clear A20
 by_cases c3 : t151 = true
 · subst c3; have H1 : ((spec_DecodeFrame.f k l0_0).bind fun bt152 => (some (bt152.2.2.2.2 == 1))) = some r := by rw [if_pos rfl] at H; exact H
   clear H; have H := H1; clear H1; replace H := Option.bind_eq_some_iff.mp H; obtain ⟨⟨t152, t153, t154, t157, t158⟩, A40, H⟩ := H; replace H : (some (t158 == 1)) = some r := H
   have A4 := Aside0.mk A40; clear A40; obtain rfl := Option.some.inj H; go_enter Try.func105, Try.ntmps105
   go_wp2_with (first | ((with_reducible refine gate_dst (N := 1) rfl ?_); refine boxA 1 #[.slice A0_0 l0_0.length c0_0, .int .i64 a0_1] 73 ?_; intro gb150 hg w5 hbox hb; have BK150 := Aside0.mk hbox; have GW150 := leA (w := w) hg; have GE150 := leA (w := w) hg; replace HB := bS hb; clear hb hbox hg; obtain ⟨hcz6_0, hcz6_1, hfz6_0, hfz6_1⟩ := cel2 BK150) | ((with_reducible refine gate_callee (f := 60) rfl ?_); refine goesL_ (some 8) rfl rfl Try.func60 (by kernel_rfl) rfl #[.int .i64 a0_1, .int .i64 0, .int .i64 2147483647] rfl (by (try simp only [List.map_toArray, List.map_cons, List.map_nil]); first | done | rfl | (simp only [List.length_drop, List.length_take]; rfl) | (simp only [Int.tmod_eq_emod_of_nonneg (Int.natCast_nonneg _)]; done) | (simp only [Int.tmod_eq_emod_of_nonneg (Int.natCast_nonneg _)]; rfl)) ?_; (with_reducible refine (spec_l01In.calls a0_1 0 2147483647 true _ A2.out).mono ?_); rintro e w' ⟨rfl, ⟨nd, rfl⟩⟩; refine ⟨_, rfl, ?_⟩; (try (rw [drewN_self w5]; generalize hq_ : World.drewN w5 _ = w5; have n0_ : Aside0 (w5.heap[gb150]? = some (.cells #[.slice A0_0 l0_0.length c0_0, .int .i64 a0_1] 73 (0, 0))) := ⟨by rw [← hq_]; exact blkA⟩; have n1_ : Aside0 (Below w.heap.size w w5) := ⟨by rw [← hq_]; exact belA⟩; have hcy0_0 : w5.cell? ⟨gb150, 0, none⟩ = some (.slice A0_0 l0_0.length c0_0) := (blk_cell n0_.out 0).trans rfl; have hfy0_0 := blk_frozen n0_.out 0; have hcy0_1 : w5.cell? ⟨gb150, 1, none⟩ = some (.int .i64 a0_1) := (blk_cell n0_.out 1).trans rfl; have hfy0_1 := blk_frozen n0_.out 1; clear BK150 HB hq_; have BK150 := n0_; have HB := n1_; clear n0_ n1_))) | ((with_reducible refine gate_callee (f := 107) rfl ?_); refine goesL_ (some 13) rfl rfl Try.func107 (by kernel_rfl) rfl #[.slice A0_0 l0_0.length c0_0] rfl (by (try simp only [List.map_toArray, List.map_cons, List.map_nil]); first | done | rfl | (simp only [List.length_drop, List.length_take]; rfl) | (simp only [Int.tmod_eq_emod_of_nonneg (Int.natCast_nonneg _)]; done) | (simp only [Int.tmod_eq_emod_of_nonneg (Int.natCast_nonneg _)]; rfl)) ?_; (with_reducible refine (spec_DecodeFrame.calls k _ _ l0_0 t152 t153 t154 t157 t158 _ ?side1 ?side2 A4.out).mono ?_); (case side1 => exact cA (Kd.C_below HR0_0.out HB.out)); (case side2 => exact HC0_0.out); rintro e w7 ⟨v155, rfl, ho0, hb⟩; refine ⟨_, rfl, ?_⟩; have HO156 := rL ho0; replace BK150 := bB BK150 hb; replace HB := bS hb; (try clear hb); (try clear hb2); (try clear hk); (try clear hi); (try clear ho0)) | ((with_reducible refine gate_dst (N := 3) rfl ?_); refine boxA 3 #[.int .i64 0, .int .i64 0, .slice none 0 0] 109 ?_; intro gb159 hg w8 hbox hb; have BK159 := Aside0.mk hbox; have GW159 := leA (w := w) hg; have GE159 := leA (w := w) hg; have NB150_159 := neL hg BK150; have NB159_150 := neG hg BK150; replace HO156 := rB HO156 hb; replace BK150 := bB BK150 hb; replace HB := bS hb; clear hb hbox hg; have hnb9 := NB159_150.out; have hnc9 := NB150_159.out; obtain ⟨hcz10_0, hcz10_1, hcz10_2, hfz10_0, hfz10_1, hfz10_2⟩ := cel3 BK159; obtain ⟨Ao11, co11, eo11⟩ := Kd.R_slice HO156.out; subst eo11))
   go_ret
   exact ⟨by first | rfl | (simp [errW_none, errW_some] <;> rfl) | (simp [*, errW_none, errW_some] <;> rfl) | (simp [wrap64]; done) | (simp [*, wrap64]; done), belA⟩
 · replace c3 := Bool.eq_false_iff.mpr c3; subst c3; have H1 : (some false) = some r := by rw [if_neg (show ¬ (false = true) by decide)] at H; exact H
   clear H; have H := H1; clear H1; obtain rfl := Option.some.inj H; go_enter Try.func105, Try.ntmps105
   go_wp2_with (first | ((with_reducible refine gate_dst (N := 1) rfl ?_); refine boxA 1 #[.slice A0_0 l0_0.length c0_0, .int .i64 a0_1] 73 ?_; intro gb150 hg w12 hbox hb; have BK150 := Aside0.mk hbox; have GW150 := leA (w := w) hg; have GE150 := leA (w := w) hg; replace HB := bS hb; clear hb hbox hg; obtain ⟨hcz13_0, hcz13_1, hfz13_0, hfz13_1⟩ := cel2 BK150) | ((with_reducible refine gate_callee (f := 60) rfl ?_); refine goesL_ (some 8) rfl rfl Try.func60 (by kernel_rfl) rfl #[.int .i64 a0_1, .int .i64 0, .int .i64 2147483647] rfl (by (try simp only [List.map_toArray, List.map_cons, List.map_nil]); first | done | rfl | (simp only [List.length_drop, List.length_take]; rfl) | (simp only [Int.tmod_eq_emod_of_nonneg (Int.natCast_nonneg _)]; done) | (simp only [Int.tmod_eq_emod_of_nonneg (Int.natCast_nonneg _)]; rfl)) ?_; (with_reducible refine (spec_l01In.calls a0_1 0 2147483647 false _ A2.out).mono ?_); rintro e w' ⟨rfl, ⟨nd, rfl⟩⟩; refine ⟨_, rfl, ?_⟩))
   go_ret
   exact ⟨by first | rfl | (simp [errW_none, errW_some] <;> rfl) | (simp [*, errW_none, errW_some] <;> rfl) | (simp [wrap64]; done) | (simp [*, wrap64]; done), belA⟩

def spec_l11At.f (k : Nat) (l0 : List Int) (a1 : Int) : Option (Int × Int × List Int × Int × Int) := if 0 ≤ a1 then (if a1 ≤ (l0.length : Int) then (spec_DecodeFrame.f k (l0.drop (a1 : Int).toNat)) else (none)) else (none)
def spec_l11Tail.f (k : Nat) (l0 : List Int) (a1 : Int) : Option (List Int) := if 0 ≤ a1 then (if a1 ≤ (l0.length : Int) then (spec_l01Bytes.f k (l0.drop (a1 : Int).toNat)) else (none)) else (none)
theorem spec_l11At.mono (a0 : List Int) (a1 : Int) (k : Nat) : LeO (spec_l11At.f k a0 a1) (spec_l11At.f (k + 1) a0 a1) := by
 unfold spec_l11At.f
 repeat' first
  | exact spec_DecodeFrame.mono _ _
  | exact LeO.none _
  | refine LeO.ite ?_ ?_
theorem spec_l11Tail.mono (a0 : List Int) (a1 : Int) (k : Nat) : LeO (spec_l11Tail.f k a0 a1) (spec_l11Tail.f (k + 1) a0 a1) := by
 unfold spec_l11Tail.f
 repeat' first
  | exact spec_l01Bytes.mono _ _
  | exact LeO.none _
  | refine LeO.ite ?_ ?_
theorem spec_l11At.parts {k : Nat} {l : List Int} {a : Int} {r : Int × Int × List Int × Int × Int} (h : spec_l11At.f k l a = some r) : 0 ≤ a ∧ a ≤ (l.length : Int) ∧ spec_DecodeFrame.f k (l.drop (a : Int).toNat) = some r := by
 unfold spec_l11At.f at h
 split at h
 · split at h
   · exact ⟨by assumption, by assumption, h⟩
   · cases h
 · cases h
theorem spec_l11Tail.parts {k : Nat} {l : List Int} {a : Int} {r : List Int} (h : spec_l11Tail.f k l a = some r) : 0 ≤ a ∧ a ≤ (l.length : Int) ∧ spec_l01Bytes.f k (l.drop (a : Int).toNat) = some r := by
 unfold spec_l11Tail.f at h
 split at h
 · split at h
   · exact ⟨by assumption, by assumption, h⟩
   · cases h
 · cases h
/-! ### spec_Feed: by hand (turned from the print of a program of mine) -/
mutual
def spec_Feed.j0 : Nat → List Int → Bool → List Int → Int → Option (List Int × Int × (List (S109)))
 | 0, _, _, _, _ => none
 | k + 1, x1, x20, x191000, x191001 => if x20 = true then ((spec_l01Bytes.f k x191000).bind fun t193 => (some (t193, x191001, ([] : List (S109))))) else ((spec_l01Join.f k x191000 x1).bind fun t196 => (spec_Feed.l0 k t196 (([] : List (S109))) 0 x191001))
def spec_Feed.l0 : Nat → List Int → List (S109) → Int → Int → Option (List Int × Int × (List (S109)))
 | 0, _, _, _, _ => none
 | k + 1, x6, x7, x8, x9 => if x8 ≤ (x6.length : Int) then ((spec_l11At.f k x6 x8).bind fun bt205 => (if bt205.2.2.2.2 = 1 then ((spec_l11Tail.f k x6 x8).bind fun t213 => (some (t213, x9, x7))) else (if bt205.2.2.2.2 = 0 then (if x7.length < 3518437208883 then (spec_Feed.l0 k x6 (x7 ++ [(⟨bt205.1, bt205.2.1, bt205.2.2.1⟩ : S109)]) (wrap64 (x8 + bt205.2.2.2.1)) x9) else (none)) else (if x9 < 2147483647 then (spec_Feed.l0 k x6 x7 (wrap64 (x8 + 1)) (wrap64 (x9 + 1))) else (spec_Feed.l0 k x6 x7 (wrap64 (x8 + 1)) x9))))) else ((spec_l11Tail.f k x6 x8).bind fun t202 => (some (t202, x9, x7)))
end
def spec_Feed.f (k : Nat) (l0_0 : List Int) (a0_1 : Int) (l1 : List Int) : Option (List Int × Int × (List (S109))) := (spec_StreamOk.f k l0_0 a0_1).bind fun t192 => (if t192 = true then (spec_Feed.j0 k l1 (decide ((l1.length : Int) > 20000)) l0_0 a0_1) else (spec_Feed.j0 k l1 true l0_0 a0_1))
theorem spec_Feed.mono_l : ∀ k, (∀ y0 y1 y2 y3, LeO (spec_Feed.j0 k y0 y1 y2 y3) (spec_Feed.j0 (k + 1) y0 y1 y2 y3)) ∧ (∀ y0 y1 y2 y3, LeO (spec_Feed.l0 k y0 y1 y2 y3) (spec_Feed.l0 (k + 1) y0 y1 y2 y3))
 | 0 => ⟨fun _ _ _ _ r h => by simp [spec_Feed.j0] at h, fun _ _ _ _ r h => by simp [spec_Feed.l0] at h⟩
 | k + 1 => by
  obtain ⟨ih0, ih1⟩ := spec_Feed.mono_l k; refine ⟨?_, ?_⟩
  · intro y0 y1 y2 y3
    unfold spec_Feed.j0
    repeat' first
    | (with_reducible exact ih0 _ _ _ _)
    | (with_reducible exact ih1 _ _ _ _)
    | (with_reducible exact spec_StreamOk.mono _ _ _)
    | (with_reducible exact spec_l01Bytes.mono _ _)
    | (with_reducible exact spec_l01Join.mono _ _ _)
    | (with_reducible exact spec_l11At.mono _ _ _)
    | (with_reducible exact spec_l11Tail.mono _ _ _)
    | (with_reducible exact LeO.refl _)
    | (with_reducible exact LeO.none _)
    | (with_reducible refine LeO.ite ?_ ?_)
    | (with_reducible refine LeO.bind ?_ (fun _ => ?_))
    | exact ih0 _ _ _ _
    | exact ih1 _ _ _ _
    | exact spec_StreamOk.mono _ _ _
    | exact spec_l01Bytes.mono _ _
    | exact spec_l01Join.mono _ _ _
    | exact spec_l11At.mono _ _ _
    | exact spec_l11Tail.mono _ _ _
    | exact LeO.none _
    | refine LeO.ite ?_ ?_
    | refine LeO.bind ?_ (fun _ => ?_)
  · intro y0 y1 y2 y3
    unfold spec_Feed.l0
    repeat' first
    | (with_reducible exact ih0 _ _ _ _)
    | (with_reducible exact ih1 _ _ _ _)
    | (with_reducible exact spec_StreamOk.mono _ _ _)
    | (with_reducible exact spec_l01Bytes.mono _ _)
    | (with_reducible exact spec_l01Join.mono _ _ _)
    | (with_reducible exact spec_l11At.mono _ _ _)
    | (with_reducible exact spec_l11Tail.mono _ _ _)
    | (with_reducible exact LeO.refl _)
    | (with_reducible exact LeO.none _)
    | (with_reducible refine LeO.ite ?_ ?_)
    | (with_reducible refine LeO.bind ?_ (fun _ => ?_))
    | exact ih0 _ _ _ _
    | exact ih1 _ _ _ _
    | exact spec_StreamOk.mono _ _ _
    | exact spec_l01Bytes.mono _ _
    | exact spec_l01Join.mono _ _ _
    | exact spec_l11At.mono _ _ _
    | exact spec_l11Tail.mono _ _ _
    | exact LeO.none _
    | refine LeO.ite ?_ ?_
    | refine LeO.bind ?_ (fun _ => ?_)
theorem spec_Feed.mono : ∀ a0 a1 a2 k, LeO (spec_Feed.f k a0 a1 a2) (spec_Feed.f (k + 1) a0 a1 a2) := by
 intro a0 a1 a2 k; obtain ⟨ih0, ih1⟩ := spec_Feed.mono_l k
 unfold spec_Feed.f
 repeat' first
  | (with_reducible exact ih0 _ _ _ _)
  | (with_reducible exact ih1 _ _ _ _)
  | (with_reducible exact spec_StreamOk.mono _ _ _)
  | (with_reducible exact spec_l01Bytes.mono _ _)
  | (with_reducible exact spec_l01Join.mono _ _ _)
  | (with_reducible exact spec_l11At.mono _ _ _)
  | (with_reducible exact spec_l11Tail.mono _ _ _)
  | (with_reducible exact LeO.refl _)
  | (with_reducible exact LeO.none _)
  | (with_reducible refine LeO.ite ?_ ?_)
  | (with_reducible refine LeO.bind ?_ (fun _ => ?_))
  | exact ih0 _ _ _ _
  | exact ih1 _ _ _ _
  | exact spec_StreamOk.mono _ _ _
  | exact spec_l01Bytes.mono _ _
  | exact spec_l01Join.mono _ _ _
  | exact spec_l11At.mono _ _ _
  | exact spec_l11Tail.mono _ _ _
  | exact LeO.none _
  | refine LeO.ite ?_ ?_
  | refine LeO.bind ?_ (fun _ => ?_)
def spec_Feed.T2 : Bool × List (List Nat × List Nat) := (true, [([], []), ([0], [0]), ([1], [1]), ([], []), ([3], [3]), ([2, 4], [2, 4]), ([5, 2, 0, 1, 2, 3, 4, 5], [5]), ([6, 0, 1, 2, 3, 4, 5, 6], [])])
def spec_Feed.B2 : List Nat := [0, 1, 3, 0, 8, 31, 63, 127]
theorem spec_Feed.tab2 : rtab .any (opsOf Try.f48 2) = spec_Feed.T2 := by kernel_rfl
theorem spec_Feed.bits2 : waitsOk spec_Feed.T2.2 spec_Feed.B2 = true := by kernel_rfl
set_option maxHeartbeats 8000000 in
set_option maxRecDepth 100000 in
theorem spec_Feed.calls (k : Nat) (A0_0 : Option Addr) (c0_0 : Nat) (l0_0 : List Int) (a0_1 : Int) (A1 : Option Addr) (c1 : Nat) (l1 : List Int) (r1 : List Int) (r2 : Int) (r3 : List (S109)) (w : World) (hr0_0 : Kd.C (Kd.int .u8) w A0_0 l0_0.length l0_0) (hc0_0 : l0_0.length ≤ c0_0) (hr1 : Kd.C (Kd.int .u8) w A1 l1.length l1) (hc1 : l1.length ≤ c1) (h : spec_Feed.f k l0_0 a0_1 l1 = some (r1, r2, r3)) :
 Calls Try.prog 48 #[.agg #[.slice A0_0 l0_0.length c0_0, .int .i64 a0_1], .slice A1 l1.length c1] w fun e w' => ∃ v0_ v2_ : Value, e = .returned (.tuple #[.agg #[v0_, .int .i64 r2], v2_]) ∧ Kd.R (Kd.int .u8) 5 w' w.heap.size (fun _ => True) v0_ r1 ∧ Kd.S k109 109 w' w.heap.size (fun k_ => some k_ ≠ (v0_ : Value).ownBlock) v2_ r3 ∧ Below w.heap.size w w' := by
 have hu73 := Try.underlying73; have hu109 := Try.underlying109; have HR0_0 := Aside0.mk hr0_0; have HC0_0 := Aside0.mk hc0_0; clear hr0_0 hc0_0; have HR1 := Aside0.mk hr1; have HC1 := Aside0.mk hc1; clear hr1 hc1; have HB := Aside0.mk (Below.refl w.heap.size w); have H : ((spec_StreamOk.f k l0_0 a0_1).bind fun t192 => (if t192 = true then (spec_Feed.j0 k l1 (decide ((l1.length : Int) > 20000)) l0_0 a0_1) else (spec_Feed.j0 k l1 true l0_0 a0_1))) = some (r1, r2, r3) := h; clear h; have HC3 := Aside0.mk H; clear H; go_enter Try.func48, Try.ntmps48
 go_upto_region 1 with (first | ((with_reducible refine gate_dst (N := 2) rfl ?_); (try (refine gate_guard (by rfl) ?_; dsimp only)); refine boxA 2 #[.slice A0_0 l0_0.length c0_0, .int .i64 a0_1] 73 ?_; intro gb190 hg w4 hbox hb; have BK190 := Aside0.mk hbox; have GW190 := leA (w := w) hg; have GE190 := leA (w := w) hg; replace HB := bS hb; clear hb hbox hg) | ((with_reducible refine gate_dst (N := 4) rfl ?_); (try (refine gate_guard (by rfl) ?_; dsimp only)); refine boxA 4 #[.slice none 0 0, .int .i64 0] 73 ?_; intro gb191 hg w5 hbox hb; have BK191 := Aside0.mk hbox; have GW191 := leA (w := w) hg; have GE191 := leA (w := w) hg; have NB190_191 := neL hg BK190; have NB191_190 := neG hg BK190; replace BK190 := bB BK190 hb; replace HB := bS hb; clear hb hbox hg))
 (try simp only [Act.put, sa, sb, sc])
 go_cut [20] (fun v20 wc => ∃ (kq : Nat) (x20_2 : Bool), v20 = .bool x20_2 ∧ Aside0 (spec_Feed.j0 kq l1 x20_2 l0_0 a0_1 = some (r1, r2, r3)) ∧ Aside0 (kq ≤ k) ∧ Aside0 (wc.heap[gb190]? = some (.cells #[(.slice A0_0 l0_0.length c0_0), .int .i64 a0_1] 73 (0, 0))) ∧ Aside0 (wc.heap[gb191]? = some (.cells #[(.slice none 0 0), .int .i64 0] 73 (0, 0))) ∧ Aside0 (Below w.heap.size w wc))
 case first =>
  have H := HC3.out; clear HC3; replace H := Option.bind_eq_some_iff.mp H; obtain ⟨t192, A60, H⟩ := H; replace H : (if t192 = true then (spec_Feed.j0 k l1 (decide ((l1.length : Int) > 20000)) l0_0 a0_1) else (spec_Feed.j0 k l1 true l0_0 a0_1)) = some (r1, r2, r3) := H
  have A6 := Aside0.mk A60; clear A60
  by_cases c7 : t192 = true
  · subst c7; have H1 : (spec_Feed.j0 k l1 (decide ((l1.length : Int) > 20000)) l0_0 a0_1) = some (r1, r2, r3) := by rw [if_pos rfl] at H; exact H
    clear H; have H := H1; clear H1; have H' := Aside0.mk H; clear H; have hnb8 := NB190_191.out; have hnc8 := NB191_190.out; obtain ⟨hcz9_0, hcz9_1, hfz9_0, hfz9_1⟩ := cel2 BK190; go_wp2_with (first | ((with_reducible refine gate_callee (f := 105) rfl ?_); refine goesL_ (some 14) rfl rfl Try.func105 (by kernel_rfl) rfl #[.agg #[.slice A0_0 l0_0.length c0_0, .int .i64 a0_1]] rfl (by (try simp only [List.map_toArray, List.map_cons, List.map_nil]); first | done | rfl | (simp only [List.length_drop, List.length_take]; rfl) | (simp only [Int.tmod_eq_emod_of_nonneg (Int.natCast_nonneg _)]; done) | (simp only [Int.tmod_eq_emod_of_nonneg (Int.natCast_nonneg _)]; rfl)) ?_; (with_reducible refine (spec_StreamOk.calls k _ _ l0_0 a0_1 true _ ?side1 ?side2 A6.out).mono ?_); (case side1 => exact cA (Kd.C_below HR0_0.out HB.out)); (case side2 => exact HC0_0.out); rintro e w10 ⟨rfl, hb⟩; refine ⟨_, rfl, ?_⟩; replace BK190 := bB BK190 hb; replace BK191 := bB BK191 hb; replace HB := bS hb; (try clear hb); (try clear hb2); (try clear hk); (try clear hi)))
    go_meet
    case rel => exact ⟨_, (decide ((l1.length : Int) > 20000)), eqA, H', ⟨by first | omega | exact Nat.le_refl _⟩, ⟨blkA⟩, ⟨blkA⟩, ⟨belA⟩⟩
  · replace c7 := Bool.eq_false_iff.mpr c7; subst c7; have H1 : (spec_Feed.j0 k l1 true l0_0 a0_1) = some (r1, r2, r3) := by rw [if_neg (show ¬ (false = true) by decide)] at H; exact H
    clear H; have H := H1; clear H1; have H' := Aside0.mk H; clear H; have hnb11 := NB190_191.out; have hnc11 := NB191_190.out; obtain ⟨hcz12_0, hcz12_1, hfz12_0, hfz12_1⟩ := cel2 BK190; go_wp2_with (first | ((with_reducible refine gate_callee (f := 105) rfl ?_); refine goesL_ (some 14) rfl rfl Try.func105 (by kernel_rfl) rfl #[.agg #[.slice A0_0 l0_0.length c0_0, .int .i64 a0_1]] rfl (by (try simp only [List.map_toArray, List.map_cons, List.map_nil]); first | done | rfl | (simp only [List.length_drop, List.length_take]; rfl) | (simp only [Int.tmod_eq_emod_of_nonneg (Int.natCast_nonneg _)]; done) | (simp only [Int.tmod_eq_emod_of_nonneg (Int.natCast_nonneg _)]; rfl)) ?_; (with_reducible refine (spec_StreamOk.calls k _ _ l0_0 a0_1 false _ ?side1 ?side2 A6.out).mono ?_); (case side1 => exact cA (Kd.C_below HR0_0.out HB.out)); (case side2 => exact HC0_0.out); rintro e w13 ⟨rfl, hb⟩; refine ⟨_, rfl, ?_⟩; replace BK190 := bB BK190 hb; replace BK191 := bB BK191 hb; replace HB := bS hb; (try clear hb); (try clear hb2); (try clear hk); (try clear hi)))
    go_meet
    case rel => exact ⟨_, (true), eqA, H', ⟨by first | omega | exact Nat.le_refl _⟩, ⟨blkA⟩, ⟨blkA⟩, ⟨belA⟩⟩
 case rest =>
  clear HC3; obtain ⟨kq, x20_2, rfl, HA, HJ2, BK190, BK191, HB⟩ := hcut
  cases kq with
  | zero => exact absurd HA.out (by simp [spec_Feed.j0])
  | succ kj2 =>
   have H := HA.out; clear HA; simp only [spec_Feed.j0] at H
   by_cases c14 : x20_2 = true
   · subst c14; have H1 : ((spec_l01Bytes.f kj2 l0_0).bind fun t193 => (some (t193, a0_1, ([] : List (S109))))) = some (r1, r2, r3) := by rw [if_pos rfl] at H; exact H
     clear H; have H := H1; clear H1; replace H := Option.bind_eq_some_iff.mp H; obtain ⟨t193, A150, H⟩ := H; replace H : (some (t193, a0_1, ([] : List (S109)))) = some (r1, r2, r3) := H
     have A15 := Aside0.mk A150; clear A150; simp only [Option.some.injEq, Prod.mk.injEq] at H; obtain ⟨rfl, rfl, rfl⟩ := H; try go_wp2
     replace BK190 := Aside0.mk (blk_drew BK190.out); replace BK191 := Aside0.mk (blk_drew BK191.out); replace HB := Aside0.mk (below_drew1 HB.out); refine start_ (n := 8) (S := fun w' => w'.cell? ⟨gb190, 0, none⟩ = some (.slice A0_0 l0_0.length c0_0) ∧ w'.cell? ⟨gb190, 1, none⟩ = some (.int .i64 a0_1)) (ds := []) #[false, false, false, false, false, false, false, false] (by kernel_rfl) rfl rfl ⟨(blk_cell BK190.out 0).trans rfl, (blk_cell BK190.out 1).trans rfl⟩ (fun hHeld => ?_); refine with_tabW spec_Feed.tab2 spec_Feed.bits2 (fun HT_ HW_ => ?_)
     generalize wc.drew = w16 at BK190 BK191 HB hHeld ⊢
     refine pure_ (i := 0) (N := some 21) (v := ?_) (a' := ?_) #[true, false, false, false, false, false, false, false] rfl rfl (any_of HT_.out (by kernel_rfl)) (fun _ _ _ h => h) (Or.inl ⟨by rfl, ?_⟩) ?_ ?_
     rotate_left
     · intro w'; go_simp
       with_reducible rfl
     rotate_left
     · simp only [Act.put, sa, sb, sc, i64_w, i32_w]
       rfl
     refine pure_ (i := 3) (N := some 24) (v := ?_) (a' := ?_) #[true, false, false, true, false, false, false, false] rfl rfl (any_of HT_.out (by kernel_rfl)) (fun _ _ _ h => h) (Or.inl ⟨by rfl, ?_⟩) ?_ ?_
     rotate_left
     · intro w'; go_simp
       with_reducible rfl
     rotate_left
     · simp only [Act.put, sa, sb, sc, i64_w, i32_w]
       rfl
     refine take_ (i := 1) (N := some 22) (v := ?_) (a' := ?_) #[true, true, false, true, false, false, false, false] rfl rfl (take_ofW HT_.out HW_.out (by kernel_rfl)) (fun _ _ _ h => h) (Or.inl ⟨by rfl, ?_⟩) hHeld ?_ ?_
     rotate_left
     · rintro w' ⟨s0, s1⟩
       go_simp
       with_reducible rfl
     rotate_left
     · simp only [Act.put, sa, sb, sc, i64_w, i32_w]
       rfl
     refine take_ (i := 4) (N := some 25) (v := ?_) (a' := ?_) #[true, true, false, true, true, false, false, false] rfl rfl (take_ofW HT_.out HW_.out (by kernel_rfl)) (fun _ _ _ h => h) (Or.inl ⟨by rfl, ?_⟩) hHeld ?_ ?_
     rotate_left
     · rintro w' ⟨s0, s1⟩
       go_simp
       with_reducible rfl
     rotate_left
     · simp only [Act.put, sa, sb, sc, i64_w, i32_w]
       rfl
     refine one_ (i := 2) (N := some 23) #[true, true, true, true, true, false, false, false] rfl rfl (one_of HT_.out (by kernel_rfl)) (by decide) (fun K hK => ?_)
     refine goes_ Try.func106 (by kernel_rfl) rfl #[.slice A0_0 l0_0.length c0_0] (by rfl) rfl rfl (by (try simp only [List.map_toArray, List.map_cons, List.map_nil]); first | done | rfl | (simp only [List.length_drop, List.length_take]; rfl) | (simp only [Int.tmod_eq_emod_of_nonneg (Int.natCast_nonneg _)]; done) | (simp only [Int.tmod_eq_emod_of_nonneg (Int.natCast_nonneg _)]; rfl)) ?_
     with_reducible refine (spec_l01Bytes.calls kj2 _ _ l0_0 t193 _ ?side1 ?side2 A15.out).mono ?_
     (case side1 => exact cA (Kd.C_below HR0_0.out HB.out))
     (case side2 => exact HC0_0.out)
     rintro e w17 ⟨v194, rfl, ho0, hb⟩
     refine ⟨_, rfl, ?_⟩
     have HO195 := rL ho0; replace BK190 := bB BK190 hb; replace BK191 := bB BK191 hb; replace HB := bS hb; (try clear hb); (try clear hb2); (try clear hk); (try clear hi); (try clear ho0); obtain ⟨Ao18, co18, eo18⟩ := Kd.R_slice HO195.out; (first | subst eo18 | (injection eo18 with f1_ f2_ f3_; have f4_ := f1_.symm; have f5_ := f3_.symm; clear f1_ f2_ f3_; subst f4_; subst f5_))
     refine hK.out _ _ ⟨(blk_cell BK190.out 0).trans rfl, (blk_cell BK190.out 1).trans rfl⟩ (fun hHeld => ?_)
     clear hK K; refine norm_ (a' := ?_) ?_ ?_
     rotate_left
     · show Act.put _ (some 23) _ = _
       simp only [Act.put, sa, sb, sc, i64_w, i32_w]
       rfl
     refine pure_ (i := 5) (N := some 26) (v := ?_) (a' := ?_) #[true, true, true, true, true, true, false, false] rfl rfl (any_of HT_.out (by kernel_rfl)) (fun _ _ _ h => h) (Or.inl ⟨by rfl, ?_⟩) ?_ ?_
     rotate_left
     · intro w'; go_simp
       with_reducible rfl
     rotate_left
     · simp only [Act.put, sa, sb, sc, i64_w, i32_w]
       rfl
     refine one_ (i := 6) (N := none) #[true, true, true, true, true, true, true, false] rfl rfl (one_of HT_.out (by kernel_rfl)) (by decide) (fun K hK => ?_)
     have hs19 : w17.cell? ⟨gb191, 0, none⟩ = some (.slice none 0 0) := (blk_cell BK191.out 0).trans rfl; have hfs19 := blk_frozen BK191.out 0; have hns19_0 := NB190_191.out; have hms19_0 := NB191_190.out; have hs20 : w17.cell? ⟨gb191, 1, none⟩ = some (.int .i64 0) := (blk_cell BK191.out 1).trans rfl; have hfs20 := blk_frozen BK191.out 1; have hns20_0 := NB190_191.out; have hms20_0 := NB191_190.out; refine skip_ (w1 := ?_) (by rfl) rfl ?_ ?_
     rotate_left
     · go_simp
       rfl
     refine hK.out _ _ ⟨((cell_far (p := ⟨gb191, _, none⟩) NB190_191.out _).trans (((cell_far (p := ⟨gb191, _, none⟩) NB190_191.out _).trans (hHeld.1)))), ((cell_far (p := ⟨gb191, _, none⟩) NB190_191.out _).trans (((cell_far (p := ⟨gb191, _, none⟩) NB190_191.out _).trans (hHeld.2))))⟩ (fun hHeld => ?_)
     clear hK K; refine pure_ (i := 7) (N := some 5) (v := ?_) (a' := ?_) #[true, true, true, true, true, true, true, true] rfl rfl (any_of HT_.out (by kernel_rfl)) (fun _ _ _ h => h) (Or.inl ⟨by rfl, ?_⟩) ?_ ?_
     rotate_left
     · intro w'; go_simp
       with_reducible rfl
     rotate_left
     · simp only [Act.put, sa, sb, sc, i64_w, i32_w]
       rfl
     refine done_ (done_of HT_.out (by kernel_rfl)) ?_
     try go_wp2
     refine bodyPost_ret (results_ct rfl _ _ gb191 73 #[.slice Ao18 t193.length co18, .int .i64 a0_1] (0, 0) _ rfl (by (with_reducible repeat (first | refine blk_drewN ?_ _ | refine blk_drew ?_ | refine blk_alloc ?_ _)); refine blk_put (cs := #[.slice Ao18 t193.length co18, .int .i64 0]) ?_ 1 _ rfl; (with_reducible repeat (first | refine blk_drewN ?_ _ | refine blk_drew ?_ | refine blk_alloc ?_ _)); refine blk_put (cs := #[.slice none 0 0, .int .i64 0]) ?_ 0 _ rfl; (with_reducible repeat (first | refine blk_drewN ?_ _ | refine blk_drew ?_ | refine blk_alloc ?_ _)); exact BK191.out) Try.underlying73 rfl (by kernel_rfl)) rfl ?_
     exact ⟨_, _, by first | rfl | (simp [errW_none, errW_some] <;> rfl) | (simp [*, errW_none, errW_some] <;> rfl) | (simp [wrap64]; done) | (simp [*, wrap64]; done), by (with_reducible repeat (first | apply Kd.R_alloc | apply Kd.R_drewN | apply Kd.R_drew)); exact Kd.R_mono (Kd.R_far (p := ⟨gb191, 1, none⟩) (Kd.R_far (p := ⟨gb191, 0, none⟩) (Kd.R_types HO195.out BK191.out (by decide)) (fun _ hk => hk.2) (.slice Ao18 t193.length co18)) (fun _ hk => hk.2) (.int .i64 a0_1)) (fun _ hk => trivial), by first | exact Kd.S_nil _ _ _ _ _ | exact Kd.N_nil _ _ _ _ _ | exact Kd.V_nil _ _ _ _ _ | exact Kd.Q_nil _ _ _ _ _ | exact Kd.R_nil _ _ _ _ _, belA⟩
   · replace c14 := Bool.eq_false_iff.mpr c14; subst c14; have H1 : ((spec_l01Join.f kj2 l0_0 l1).bind fun t196 => (spec_Feed.l0 kj2 t196 (([] : List (S109))) 0 a0_1)) = some (r1, r2, r3) := by rw [if_neg (show ¬ (false = true) by decide)] at H; exact H
     clear H; have H := H1; clear H1; replace H := Option.bind_eq_some_iff.mp H; obtain ⟨t196, A210, H⟩ := H; replace H : (spec_Feed.l0 kj2 t196 (([] : List (S109))) 0 a0_1) = some (r1, r2, r3) := H
     have A21 := Aside0.mk A210; clear A210; obtain ⟨y199, hy199⟩ : ∃ y_ : List (S109), y_ = (([] : List (S109))) := ⟨_, rfl⟩; replace H : (spec_Feed.l0 kj2 t196 y199 0 a0_1) = some (r1, r2, r3) := by first | (rw [hy199]; with_reducible exact H) | (have H2_ := (Option.bind_some _ _).symm.trans H; rw [hy199]; with_reducible exact H2_) | (have H2_ := (Option.bind_some _ _).symm.trans H; with_reducible exact H2_) | with_reducible exact H | (rw [hy199]; exact H) | exact H
     have Ny199 := Aside0.mk hy199; clear hy199; have H' := Aside0.mk H; clear H; have hnb22 := NB190_191.out; have hnc22 := NB191_190.out; obtain ⟨hcz23_0, hcz23_1, hfz23_0, hfz23_1⟩ := cel2 BK190; go_wp2_with (first | ((with_reducible refine gate_callee (f := 75) rfl ?_); refine goesL_ (some 30) rfl rfl Try.func75 (by kernel_rfl) rfl #[.slice A0_0 l0_0.length c0_0, .slice A1 l1.length c1] rfl (by (try simp only [List.map_toArray, List.map_cons, List.map_nil]); first | done | rfl | (simp only [List.length_drop, List.length_take]; rfl) | (simp only [Int.tmod_eq_emod_of_nonneg (Int.natCast_nonneg _)]; done) | (simp only [Int.tmod_eq_emod_of_nonneg (Int.natCast_nonneg _)]; rfl)) ?_; (with_reducible refine (spec_l01Join.calls kj2 _ _ l0_0 _ _ l1 t196 _ ?side1 ?side2 ?side3 ?side4 A21.out).mono ?_); (case side1 => exact cA (Kd.C_below HR0_0.out HB.out)); (case side2 => exact HC0_0.out); (case side3 => exact cA (Kd.C_below HR1.out HB.out)); (case side4 => exact HC1.out); rintro e w24 ⟨v197, rfl, ho0, hb⟩; refine ⟨_, rfl, ?_⟩; have HO198 := rL ho0; replace BK190 := bB BK190 hb; replace BK191 := bB BK191 hb; replace HB := bS hb; (try clear hb); (try clear hb2); (try clear hk); (try clear hi); (try clear ho0)) | ((with_reducible refine gate_dst (N := 31) rfl ?_); (try (refine gate_guard (by rfl) ?_; dsimp only)); refine Kd.S_lit k109 _ 109 ?hg (N := 31) ?hd (xs := ([] : List (S109))) (inner := []) (ok := fun _ => True) (okp := fun _ => True) ?hr ?hp (fun _ hk => hk) trivial (Below.refl _ _) (Nat.le_refl _) (by simp) ?_; (case hd => rfl); (case hg => rfl); (case hr => first | (go_simp; done) | (go_simp; rfl)); (case hp => exact (Reps.none _ _)); intro v200 w25 ho26 hb hg_ hnew_; clear hg_ hnew_; (first | rw [← Ny199.out] at ho26 | (simp only [Int.reduceToNat] at ho26; rw [← Ny199.out] at ho26)); have HO201 := sL (Kd.S_new' ho26 (rT HO198)); replace HO198 := rB HO198 hb; replace BK190 := bB BK190 hb; replace BK191 := bB BK191 hb; replace HB := bS hb; clear hb ho26; obtain ⟨hcz27_0, hcz27_1, hfz27_0, hfz27_1⟩ := cel2 BK190))
     go_loopg [7, 8, 9] kj2 (fun kq v7 v8 v9 w' => ∃ (x7_2 : List (S109)) (x8_2 : Int) (x9_2 : Int), v8 = .int .i64 x8_2 ∧ v9 = .int .i64 x9_2 ∧ Aside0 (spec_Feed.l0 kq t196 x7_2 x8_2 x9_2 = some (r1, r2, r3)) ∧ Aside0 (kq ≤ kj2) ∧ Aside0 (Kd.R (Kd.int .u8) 5 w' w.heap.size (fun _ => True) v197 t196) ∧ Aside0 (Kd.S k109 109 w' w.heap.size (fun k_ => some k_ ≠ (v197 : Value).ownBlock) v7 x7_2) ∧ Aside0 (w'.heap[gb190]? = some (.cells #[(.slice A0_0 l0_0.length c0_0), .int .i64 a0_1] 73 (0, 0))) ∧ Aside0 (w'.heap[gb191]? = some (.cells #[(.slice none 0 0), .int .i64 0] 73 (0, 0))) ∧ Aside0 (Below w.heap.size w w'))
     case atStart => exact ⟨(y199), (0), (a0_1), eqA, eqA, H', ⟨Nat.le_refl _⟩, ⟨rA HO198⟩, ⟨sE (Kd.S_mono HO201.out (fun _ hk => hk.2))⟩, ⟨blkA⟩, ⟨blkA⟩, ⟨belA⟩⟩
     case round =>
      clear H'; obtain ⟨x7_2, x8_2, x9_2, rfl, rfl, HA, HK2, HO_6, HO_7, BK190, BK191, HB⟩ := hrel
      cases gk with
      | zero => exact absurd HA.out (by simp [spec_Feed.l0])
      | succ k2 =>
       have H := HA.out; clear HA; simp only [spec_Feed.l0] at H
       by_cases c28 : x8_2 ≤ (t196.length : Int)
       · rw [if_pos c28] at H; have c28b0 := decide_eq_true c28; clear c28; replace H := Option.bind_eq_some_iff.mp H; obtain ⟨⟨t205, t206, t207, t210, t211⟩, A290, H⟩ := H; replace H : (if t211 = 1 then ((spec_l11Tail.f k2 t196 x8_2).bind fun t213 => (some (t213, x9_2, x7_2))) else (if t211 = 0 then (if x7_2.length < 3518437208883 then (spec_Feed.l0 k2 t196 (x7_2 ++ [(⟨t205, t206, t207⟩ : S109)]) (wrap64 (x8_2 + t210)) x9_2) else (none)) else (if x9_2 < 2147483647 then (spec_Feed.l0 k2 t196 x7_2 (wrap64 (x8_2 + 1)) (wrap64 (x9_2 + 1))) else (spec_Feed.l0 k2 t196 x7_2 (wrap64 (x8_2 + 1)) x9_2)))) = some (r1, r2, r3) := H
         have A29 := Aside0.mk A290; clear A290
         by_cases c30 : t211 = 1
         · rw [if_pos c30] at H; have c30b0 : (t211 == 1) = true := beq_iff_eq.mpr c30; have c30b1 : (t211 != 1) = false := bne_eq_false_iff_eq.mpr c30; clear c30; replace H := Option.bind_eq_some_iff.mp H; obtain ⟨t213, A310, H⟩ := H; replace H : (some (t213, x9_2, x7_2)) = some (r1, r2, r3) := H
           have A31 := Aside0.mk A310; clear A310; simp only [Option.some.injEq, Prod.mk.injEq] at H; obtain ⟨rfl, rfl, rfl⟩ := H; obtain ⟨Ao32, co32, eo32⟩ := Kd.R_slice HO_6.out; subst eo32; obtain ⟨hA0, hA1, hAD⟩ := spec_l11At.parts A29.out; have AD1 := Aside0.mk hAD; clear hAD; obtain ⟨hT0, hT1, hTD⟩ := spec_l11Tail.parts A31.out; have AD2 := Aside0.mk hTD; clear hTD; have cat0 := eq_true hA0; have cat1 : decide (0 ≤ x8_2) = true := decide_eq_true hA0; have cat2 := eq_true hA1; have cat3 : decide (x8_2 ≤ (t196.length : Int)) = true := decide_eq_true hA1; obtain ⟨i0x, hi0x, _, hszx, _⟩ := info_parts info5; obtain ⟨A6x, hcut6, hA6, hC6⟩ := print_drop_of (P := Try.prog) (Value.int .u8) 0 22 5 .i64 Try.underlying22 hi0x hszx Ao32 co32 t196 x8_2 hA0 hA1 (Kd.R_reads' HO_6.out).2.1; go_wp2_with (first | ((with_reducible refine gate_callee (f := 107) rfl ?_); refine goesL_ (some 42) rfl rfl Try.func107 (by kernel_rfl) rfl #[.slice A6x (t196.drop (x8_2 : Int).toNat).length (co32 - x8_2.toNat)] rfl (by (try simp only [List.map_toArray, List.map_cons, List.map_nil]); first | done | (rw [show (t196.drop (x8_2 : Int).toNat).length = (t196.length - x8_2.toNat) from List.length_drop] <;> rfl) | rfl) ?_; (with_reducible refine (spec_DecodeFrame.calls k2 _ _ (t196.drop (x8_2 : Int).toNat) t205 t206 t207 t210 t211 _ ?side1 ?side2 AD1.out).mono ?_); (case side1 => refine Kd.C_of_reads (h1 := fun _ => rfl) (hA6 _ (Kd.reads_of_C (h1 := fun _ => rfl) ?_)); repeat (first | exact (Kd.R_reads' HO_6.out).2.2 | (with_reducible refine Kd.C_alloc ?_ _) | (with_reducible refine Kd.C_drewN ?_ _) | (with_reducible refine Kd.C_drew ?_))); (case side2 => exact hC6); rintro e w33 ⟨v208, rfl, ho0, hb⟩; refine ⟨_, rfl, ?_⟩; have HO209 := rL (Kd.R_new' ho0 (rT HO_6)); replace HO_6 := rD HO_6 (Kd.R_base ho0) hb; replace HO_7 := sD HO_7 (Kd.R_base ho0) hb; replace BK190 := bB BK190 hb; replace BK191 := bB BK191 hb; replace HB := bS hb; (try clear hb); (try clear hb2); (try clear hk); (try clear hi); (try clear ho0)) | ((with_reducible refine gate_dst (N := 10) rfl ?_); (try (refine gate_guard (by rfl) ?_; dsimp only)); refine boxA 10 #[.int .i64 0, .int .i64 0, .slice none 0 0] 109 ?_; intro gb212 hg w34 hbox hb; have BK212 := Aside0.mk hbox; have GW212 := leA (w := w) hg; have GE212 := leA (w := w) hg; have NB190_212 := neL hg BK190; have NB212_190 := neG hg BK190; have NB191_212 := neL hg BK191; have NB212_191 := neG hg BK191; replace HO_6 := rB HO_6 hb; replace HO_7 := sC HO_7 hg hb; replace HO209 := rB HO209 hb; replace BK190 := bB BK190 hb; replace BK191 := bB BK191 hb; replace HB := bS hb; clear hb hbox hg; have hnb35 := NB212_190.out; have hnc35 := NB190_212.out; have hnb36 := NB212_191.out; have hnc36 := NB191_212.out; obtain ⟨hcz37_0, hcz37_1, hcz37_2, hfz37_0, hfz37_1, hfz37_2⟩ := cel3 BK212; obtain ⟨Ao38, co38, eo38⟩ := Kd.R_slice HO209.out; subst eo38) | ((with_reducible refine gate_callee (f := 106) rfl ?_); refine goesL_ (some 66) rfl rfl Try.func106 (by kernel_rfl) rfl #[.slice A6x (t196.drop (x8_2 : Int).toNat).length (co32 - x8_2.toNat)] rfl (by (try simp only [List.map_toArray, List.map_cons, List.map_nil]); first | done | (rw [show (t196.drop (x8_2 : Int).toNat).length = (t196.length - x8_2.toNat) from List.length_drop] <;> rfl) | rfl) ?_; (with_reducible refine (spec_l01Bytes.calls k2 _ _ (t196.drop (x8_2 : Int).toNat) t213 _ ?side1 ?side2 AD2.out).mono ?_); (case side1 => refine Kd.C_of_reads (h1 := fun _ => rfl) (hA6 _ (Kd.reads_of_C (h1 := fun _ => rfl) ?_)); refine (Kd.R_reads' (e := 5) (base := w.heap.size) (ok := fun k_ => (True ∧ some k_ ≠ (.slice Ao38 t207.length co38 : Value).ownBlock)) (n := t196.length) (c := co32) ?_).2.2; exact (rE (Kd.R_mono (Kd.R_far (p := ⟨gb212, 2, none⟩) (Kd.R_far (p := ⟨gb212, 1, none⟩) (Kd.R_far (p := ⟨gb212, 0, none⟩) (Kd.R_types HO_6.out BK212.out (by decide)) (fun _ hk => hk.2) (.int .i64 t205)) (fun _ hk => hk.2) (.int .i64 t206)) (fun _ hk => hk.2) (.slice Ao38 t207.length co38)) (fun _ h_ => h_.1)))); (case side2 => exact hC6); rintro e w39 ⟨v214, rfl, ho0, hb⟩; refine ⟨_, rfl, ?_⟩; have HO215 := Aside0.mk (Kd.R_lower (Kd.R_new' (Kd.R_new' ho0 (Kd.R_lt (rE (Kd.R_mono (Kd.R_far (p := ⟨gb212, 2, none⟩) (Kd.R_far (p := ⟨gb212, 1, none⟩) (Kd.R_far (p := ⟨gb212, 0, none⟩) (Kd.R_types HO_6.out BK212.out (by decide)) (fun _ hk => hk.2) (.int .i64 t205)) (fun _ hk => hk.2) (.int .i64 t206)) (fun _ hk => hk.2) (.slice Ao38 t207.length co38)) (fun _ h_ => h_.1))))) (Kd.R_lt (rE (Kd.R_mono (Kd.R_far (p := ⟨gb212, 2, none⟩) (Kd.R_far (p := ⟨gb212, 1, none⟩) (Kd.R_far (p := ⟨gb212, 0, none⟩) (Kd.R_types HO209.out BK212.out (by decide)) (fun _ hk => hk.2) (.int .i64 t205)) (fun _ hk => hk.2) (.int .i64 t206)) (fun _ hk => hk.2) (.slice Ao38 t207.length co38)) (fun _ h_ => h_.1))))) (below_size belA)); replace HO_6 := Aside0.mk (Kd.R_elder' (rE (Kd.R_mono (Kd.R_far (p := ⟨gb212, 2, none⟩) (Kd.R_far (p := ⟨gb212, 1, none⟩) (Kd.R_far (p := ⟨gb212, 0, none⟩) (Kd.R_types HO_6.out BK212.out (by decide)) (fun _ hk => hk.2) (.int .i64 t205)) (fun _ hk => hk.2) (.int .i64 t206)) (fun _ hk => hk.2) (.slice Ao38 t207.length co38)) (fun _ h_ => h_.1))) (Kd.R_base ho0) hb); replace HO_7 := Aside0.mk (Kd.S_elder' (sE (Kd.S_mono (Kd.S_far (p := ⟨gb212, 2, none⟩) (Kd.S_far (p := ⟨gb212, 1, none⟩) (Kd.S_far (p := ⟨gb212, 0, none⟩) (Kd.S_mono HO_7.out (fun k_ hk => (⟨hk, hk.2⟩ : _ ∧ k_ ≠ gb212))) (fun _ hk => hk.2) (.int .i64 t205)) (fun _ hk => hk.2) (.int .i64 t206)) (fun _ hk => hk.2) (.slice Ao38 t207.length co38)) (fun _ h_ => h_.1))) (Kd.R_base ho0) hb); replace HO209 := Aside0.mk (Kd.R_elder' (rE (Kd.R_mono (Kd.R_far (p := ⟨gb212, 2, none⟩) (Kd.R_far (p := ⟨gb212, 1, none⟩) (Kd.R_far (p := ⟨gb212, 0, none⟩) (Kd.R_types HO209.out BK212.out (by decide)) (fun _ hk => hk.2) (.int .i64 t205)) (fun _ hk => hk.2) (.int .i64 t206)) (fun _ hk => hk.2) (.slice Ao38 t207.length co38)) (fun _ h_ => h_.1))) (Kd.R_base ho0) hb); replace BK190 := Aside0.mk (blk_below (g := gb190) (o := .cells #[.slice A0_0 l0_0.length c0_0, .int .i64 a0_1] 73 (0, 0)) (by (with_reducible repeat (first | refine blk_drewN ?_ _ | refine blk_drew ?_ | refine blk_alloc ?_ _)); refine blk_far ?_ NB190_212.out _; (with_reducible repeat (first | refine blk_drewN ?_ _ | refine blk_drew ?_ | refine blk_alloc ?_ _)); refine blk_far ?_ NB190_212.out _; (with_reducible repeat (first | refine blk_drewN ?_ _ | refine blk_drew ?_ | refine blk_alloc ?_ _)); refine blk_far ?_ NB190_212.out _; (with_reducible repeat (first | refine blk_drewN ?_ _ | refine blk_drew ?_ | refine blk_alloc ?_ _)); exact BK190.out) hb); replace BK191 := Aside0.mk (blk_below (g := gb191) (o := .cells #[.slice none 0 0, .int .i64 0] 73 (0, 0)) (by (with_reducible repeat (first | refine blk_drewN ?_ _ | refine blk_drew ?_ | refine blk_alloc ?_ _)); refine blk_far ?_ NB191_212.out _; (with_reducible repeat (first | refine blk_drewN ?_ _ | refine blk_drew ?_ | refine blk_alloc ?_ _)); refine blk_far ?_ NB191_212.out _; (with_reducible repeat (first | refine blk_drewN ?_ _ | refine blk_drew ?_ | refine blk_alloc ?_ _)); refine blk_far ?_ NB191_212.out _; (with_reducible repeat (first | refine blk_drewN ?_ _ | refine blk_drew ?_ | refine blk_alloc ?_ _)); exact BK191.out) hb); replace BK212 := Aside0.mk (blk_below (g := gb212) (o := .cells #[.int .i64 t205, .int .i64 t206, .slice Ao38 t207.length co38] 109 (0, 0)) (by (with_reducible repeat (first | refine blk_drewN ?_ _ | refine blk_drew ?_ | refine blk_alloc ?_ _)); refine blk_put (cs := #[.int .i64 t205, .int .i64 t206, .slice none 0 0]) ?_ 2 _ rfl; (with_reducible repeat (first | refine blk_drewN ?_ _ | refine blk_drew ?_ | refine blk_alloc ?_ _)); refine blk_put (cs := #[.int .i64 t205, .int .i64 0, .slice none 0 0]) ?_ 1 _ rfl; (with_reducible repeat (first | refine blk_drewN ?_ _ | refine blk_drew ?_ | refine blk_alloc ?_ _)); refine blk_put (cs := #[.int .i64 0, .int .i64 0, .slice none 0 0]) ?_ 0 _ rfl; (with_reducible repeat (first | refine blk_drewN ?_ _ | refine blk_drew ?_ | refine blk_alloc ?_ _)); exact BK212.out) hb); replace HB := bS hb; (try clear hb); (try clear hb2); (try clear hk); (try clear hi); (try clear ho0); obtain ⟨Ao40, co40, eo40⟩ := Kd.R_slice HO215.out; subst eo40; have hnb41 := NB191_190.out; have hnc41 := NB190_191.out; obtain ⟨hcz42_0, hcz42_1, hfz42_0, hfz42_1⟩ := cel2 BK191))
           refine bodyPost_ret (results_ct rfl _ _ gb191 73 #[.slice Ao40 t213.length co40, .int .i64 x9_2] (0, 0) _ rfl (by (with_reducible repeat (first | refine blk_drewN ?_ _ | refine blk_drew ?_ | refine blk_alloc ?_ _)); refine blk_put (cs := #[.slice Ao40 t213.length co40, .int .i64 0]) ?_ 1 _ rfl; (with_reducible repeat (first | refine blk_drewN ?_ _ | refine blk_drew ?_ | refine blk_alloc ?_ _)); refine blk_put (cs := #[.slice none 0 0, .int .i64 0]) ?_ 0 _ rfl; (with_reducible repeat (first | refine blk_drewN ?_ _ | refine blk_drew ?_ | refine blk_alloc ?_ _)); exact BK191.out) Try.underlying73 rfl (by kernel_rfl)) rfl ?_
           exact ⟨_, _, by first | rfl | (simp [errW_none, errW_some] <;> rfl) | (simp [*, errW_none, errW_some] <;> rfl) | (simp [wrap64]; done) | (simp [*, wrap64]; done), by (with_reducible repeat (first | apply Kd.R_alloc | apply Kd.R_drewN | apply Kd.R_drew)); exact Kd.R_mono (Kd.R_far (p := ⟨gb191, 1, none⟩) (Kd.R_far (p := ⟨gb191, 0, none⟩) (Kd.R_types HO215.out BK191.out (by decide)) (fun _ hk => hk.2) (.slice Ao40 t213.length co40)) (fun _ hk => hk.2) (.int .i64 x9_2)) (fun _ hk => trivial), by (with_reducible repeat (first | apply Kd.S_alloc | apply Kd.S_drewN | apply Kd.S_drew)); exact Kd.S_mono (Kd.S_far (p := ⟨gb191, 1, none⟩) (Kd.S_far (p := ⟨gb191, 0, none⟩) (Kd.S_types HO_7.out BK191.out (by decide)) (fun _ hk => hk.2) (.slice Ao40 t213.length co40)) (fun _ hk => hk.2) (.int .i64 x9_2)) (fun _ hk => hk.1.2), belA⟩
         · rw [if_neg c30] at H; have c30b0 : (t211 == 1) = false := beq_eq_false_iff_ne.mpr c30; have c30b1 : (t211 != 1) = true := bne_iff_ne.mpr c30
           by_cases c43 : t211 = 0
           · rw [if_pos c43] at H; have c43b0 : (t211 == 0) = true := beq_iff_eq.mpr c43; have c43b1 : (t211 != 0) = false := bne_eq_false_iff_eq.mpr c43; clear c43
             by_cases c44 : x7_2.length < 3518437208883
             · rw [if_pos c44] at H; have LMc44 := Aside0.mk c44; clear c44; obtain ⟨y216, hy216⟩ : ∃ y_ : List (S109), y_ = (x7_2 ++ [(⟨t205, t206, t207⟩ : S109)]) := ⟨_, rfl⟩; replace H : (spec_Feed.l0 k2 t196 y216 (wrap64 (x8_2 + t210)) x9_2) = some (r1, r2, r3) := by first | (rw [hy216]; with_reducible exact H) | (have H2_ := (Option.bind_some _ _).symm.trans H; rw [hy216]; with_reducible exact H2_) | (have H2_ := (Option.bind_some _ _).symm.trans H; with_reducible exact H2_) | with_reducible exact H | (rw [hy216]; exact H) | exact H
               have Ny216 := Aside0.mk hy216; clear hy216; have H' := Aside0.mk H; clear H; obtain ⟨Ao45, co45, eo45⟩ := Kd.R_slice HO_6.out; subst eo45; obtain ⟨hA0, hA1, hAD⟩ := spec_l11At.parts A29.out; have AD1 := Aside0.mk hAD; clear hAD; have cat0 := eq_true hA0; have cat1 : decide (0 ≤ x8_2) = true := decide_eq_true hA0; have cat2 := eq_true hA1; have cat3 : decide (x8_2 ≤ (t196.length : Int)) = true := decide_eq_true hA1; obtain ⟨i0x, hi0x, _, hszx, _⟩ := info_parts info5; obtain ⟨A6x, hcut6, hA6, hC6⟩ := print_drop_of (P := Try.prog) (Value.int .u8) 0 22 5 .i64 Try.underlying22 hi0x hszx Ao45 co45 t196 x8_2 hA0 hA1 (Kd.R_reads' HO_6.out).2.1; go_wp2_with (first | ((with_reducible refine gate_callee (f := 107) rfl ?_); refine goesL_ (some 42) rfl rfl Try.func107 (by kernel_rfl) rfl #[.slice A6x (t196.drop (x8_2 : Int).toNat).length (co45 - x8_2.toNat)] rfl (by (try simp only [List.map_toArray, List.map_cons, List.map_nil]); first | done | (rw [show (t196.drop (x8_2 : Int).toNat).length = (t196.length - x8_2.toNat) from List.length_drop] <;> rfl) | rfl) ?_; (with_reducible refine (spec_DecodeFrame.calls k2 _ _ (t196.drop (x8_2 : Int).toNat) t205 t206 t207 t210 t211 _ ?side1 ?side2 AD1.out).mono ?_); (case side1 => refine Kd.C_of_reads (h1 := fun _ => rfl) (hA6 _ (Kd.reads_of_C (h1 := fun _ => rfl) ?_)); repeat (first | exact (Kd.R_reads' HO_6.out).2.2 | (with_reducible refine Kd.C_alloc ?_ _) | (with_reducible refine Kd.C_drewN ?_ _) | (with_reducible refine Kd.C_drew ?_))); (case side2 => exact hC6); rintro e w46 ⟨v208, rfl, ho0, hb⟩; refine ⟨_, rfl, ?_⟩; have HO209 := rL (Kd.R_new' ho0 (rT HO_6)); replace HO_6 := rD HO_6 (Kd.R_base ho0) hb; replace HO_7 := sD HO_7 (Kd.R_base ho0) hb; replace BK190 := bB BK190 hb; replace BK191 := bB BK191 hb; replace HB := bS hb; (try clear hb); (try clear hb2); (try clear hk); (try clear hi); (try clear ho0)) | ((with_reducible refine gate_dst (N := 10) rfl ?_); (try (refine gate_guard (by rfl) ?_; dsimp only)); refine boxA 10 #[.int .i64 0, .int .i64 0, .slice none 0 0] 109 ?_; intro gb212 hg w47 hbox hb; have BK212 := Aside0.mk hbox; have GW212 := leA (w := w) hg; have GE212 := leA (w := w) hg; have NB190_212 := neL hg BK190; have NB212_190 := neG hg BK190; have NB191_212 := neL hg BK191; have NB212_191 := neG hg BK191; replace HO_6 := rB HO_6 hb; replace HO_7 := sC HO_7 hg hb; replace HO209 := rB HO209 hb; replace BK190 := bB BK190 hb; replace BK191 := bB BK191 hb; replace HB := bS hb; clear hb hbox hg; have hnb48 := NB212_190.out; have hnc48 := NB190_212.out; have hnb49 := NB212_191.out; have hnc49 := NB191_212.out; obtain ⟨hcz50_0, hcz50_1, hcz50_2, hfz50_0, hfz50_1, hfz50_2⟩ := cel3 BK212; obtain ⟨Ao51, co51, eo51⟩ := Kd.R_slice HO209.out; subst eo51) | ((with_reducible refine gate_store (t := 109) (p := 10) rfl ?_); refine store_event (t := 109) (p := 10) (v := ?vo_w52) (w1 := (((w47.setCell ⟨gb212, 0, none⟩ (.int .i64 t205)).setCell ⟨gb212, 1, none⟩ (.int .i64 t206)).setCell ⟨gb212, 2, none⟩ (.slice Ao51 t207.length co51))) ?hg ?ho ?hn ?hr ?_; (case ho => rfl); (case hg => rfl); (case hn => rfl); (case hr => first | (go_simp; done) | (go_simp; rfl)); intro w52 hw; have n0_ : Aside0 (Kd.R (Kd.int .u8) 5 w52 w.heap.size (fun k_ => some k_ ≠ (.slice Ao51 t207.length co51 : Value).ownBlock) (.slice Ao45 t196.length co45) t196) := ⟨(by rw [hw]; exact (rE (Kd.R_mono (Kd.R_far (p := ⟨gb212, 2, none⟩) (Kd.R_far (p := ⟨gb212, 1, none⟩) (Kd.R_far (p := ⟨gb212, 0, none⟩) (Kd.R_types HO_6.out BK212.out (by decide)) (fun _ hk => hk.2) (.int .i64 t205)) (fun _ hk => hk.2) (.int .i64 t206)) (fun _ hk => hk.2) (.slice Ao51 t207.length co51)) (fun _ hk => hk.1.2))))⟩; have n1_ : Aside0 (Kd.S k109 109 w52 w.heap.size (fun k_ => some k_ ≠ (.slice Ao45 t196.length co45 : Value).ownBlock ∧ some k_ ≠ (.slice Ao51 t207.length co51 : Value).ownBlock ∧ k_ ≠ gb212) u7 x7_2) := ⟨(by rw [hw]; exact (sE (Kd.S_mono (Kd.S_far (p := ⟨gb212, 2, none⟩) (Kd.S_far (p := ⟨gb212, 1, none⟩) (Kd.S_far (p := ⟨gb212, 0, none⟩) (Kd.S_mono HO_7.out (fun k_ hk => (⟨hk, hk.2⟩ : _ ∧ k_ ≠ gb212))) (fun _ hk => hk.2) (.int .i64 t205)) (fun _ hk => hk.2) (.int .i64 t206)) (fun _ hk => hk.2) (.slice Ao51 t207.length co51)) (fun _ hk => ⟨hk.1.1.1, ⟨hk.1.1.2, hk.1.2⟩⟩))))⟩; have n2_ : Aside0 (Kd.R (Kd.int .u8) 5 w52 w.heap.size (fun k_ => some k_ ≠ (.slice Ao45 t196.length co45 : Value).ownBlock) (.slice Ao51 t207.length co51) t207) := ⟨(by rw [hw]; exact (rE (Kd.R_mono (Kd.R_far (p := ⟨gb212, 2, none⟩) (Kd.R_far (p := ⟨gb212, 1, none⟩) (Kd.R_far (p := ⟨gb212, 0, none⟩) (Kd.R_types HO209.out BK212.out (by decide)) (fun _ hk => hk.2) (.int .i64 t205)) (fun _ hk => hk.2) (.int .i64 t206)) (fun _ hk => hk.2) (.slice Ao51 t207.length co51)) (fun _ hk => hk.1.2))))⟩; have n3_ : Aside0 (w52.heap[gb190]? = some (.cells #[.slice A0_0 l0_0.length c0_0, .int .i64 a0_1] 73 (0, 0))) := ⟨(by rw [hw]; exact (by (with_reducible repeat (first | refine blk_drewN ?_ _ | refine blk_drew ?_ | refine blk_alloc ?_ _)); refine blk_far ?_ NB190_212.out _; (with_reducible repeat (first | refine blk_drewN ?_ _ | refine blk_drew ?_ | refine blk_alloc ?_ _)); refine blk_far ?_ NB190_212.out _; (with_reducible repeat (first | refine blk_drewN ?_ _ | refine blk_drew ?_ | refine blk_alloc ?_ _)); refine blk_far ?_ NB190_212.out _; (with_reducible repeat (first | refine blk_drewN ?_ _ | refine blk_drew ?_ | refine blk_alloc ?_ _)); exact BK190.out))⟩; have n4_ : Aside0 (w52.heap[gb191]? = some (.cells #[.slice none 0 0, .int .i64 0] 73 (0, 0))) := ⟨(by rw [hw]; exact (by (with_reducible repeat (first | refine blk_drewN ?_ _ | refine blk_drew ?_ | refine blk_alloc ?_ _)); refine blk_far ?_ NB191_212.out _; (with_reducible repeat (first | refine blk_drewN ?_ _ | refine blk_drew ?_ | refine blk_alloc ?_ _)); refine blk_far ?_ NB191_212.out _; (with_reducible repeat (first | refine blk_drewN ?_ _ | refine blk_drew ?_ | refine blk_alloc ?_ _)); refine blk_far ?_ NB191_212.out _; (with_reducible repeat (first | refine blk_drewN ?_ _ | refine blk_drew ?_ | refine blk_alloc ?_ _)); exact BK191.out))⟩; have n5_ : Aside0 (w52.heap[gb212]? = some (.cells #[.int .i64 t205, .int .i64 t206, .slice Ao51 t207.length co51] 109 (0, 0))) := ⟨(by rw [hw]; exact (by (with_reducible repeat (first | refine blk_drewN ?_ _ | refine blk_drew ?_ | refine blk_alloc ?_ _)); refine blk_put (cs := #[.int .i64 t205, .int .i64 t206, .slice none 0 0]) ?_ 2 _ rfl; (with_reducible repeat (first | refine blk_drewN ?_ _ | refine blk_drew ?_ | refine blk_alloc ?_ _)); refine blk_put (cs := #[.int .i64 t205, .int .i64 0, .slice none 0 0]) ?_ 1 _ rfl; (with_reducible repeat (first | refine blk_drewN ?_ _ | refine blk_drew ?_ | refine blk_alloc ?_ _)); refine blk_put (cs := #[.int .i64 0, .int .i64 0, .slice none 0 0]) ?_ 0 _ rfl; (with_reducible repeat (first | refine blk_drewN ?_ _ | refine blk_drew ?_ | refine blk_alloc ?_ _)); exact BK212.out))⟩; have n6_ : Aside0 (Below w.heap.size w w52) := ⟨(by rw [hw]; exact belA)⟩; clear hw; clear HO_6; clear HO_7; clear HO209; clear BK190; clear BK191; clear BK212; clear HB; have HO_6 := n0_; have HO_7 := n1_; have HO209 := n2_; have BK190 := n3_; have BK191 := n4_; have BK212 := n5_; have HB := n6_; clear n0_ n1_ n2_ n3_ n4_ n5_ n6_; obtain ⟨hcz53_0, hcz53_1, hcz53_2, hfz53_0, hfz53_1, hfz53_2⟩ := cel3 BK212) | ((with_reducible refine gate_builtin (b := .append) (xs := #[.tmp 50, .tmp 52]) rfl ?_); (try (refine gate_guard (by rfl) ?_; dsimp only)); at_builtin; refine Kd.S_append k109 (w0 := w) w.heap.size rfl (.tmp 50) (.tmp 52) 74 109 (.agg #[(.int .i64 0), (.int .i64 0), (.slice none 0 0)]) 40 rfl Try.underlying74 info109 rfl (by decide) (by omega) u7 x7_2 (⟨t205, t206, t207⟩ : S109) [.int .i64 t205, .int .i64 t206, .slice Ao51 t207.length co51] (fun k_ => some k_ ≠ (.slice Ao45 t196.length co45 : Value).ownBlock ∧ k_ ≠ gb212) (fun k_ => some k_ = (.slice Ao51 t207.length co51 : Value).ownBlock) rfl rfl ?aP (fun k_ hk_ => ((Kd.R_mono (ok' := fun k_ => ((fun k_ => some k_ ≠ (.slice Ao45 t196.length co45 : Value).ownBlock ∧ k_ ≠ gb212)) k_ ∧ some k_ ≠ (u7 : Value).ownBlock) (Kd.R_types (Kd.R_apart' (HO209.out) (Kd.S_typed HO_7.out) (by decide)) BK212.out (by decide)) (fun k_ hk => ⟨⟨hk.1.1, hk.2⟩, hk.1.2⟩))).1 k_ hk_.symm) ?aF ?aO ?aB ?aS ?aL ?_; (case aP => exact k109_mkM _ _ _ (⟨t205, t206, t207⟩ : S109) (Kd.R_mono (Kd.R_tight rfl (Kd.R_mono (ok' := fun k_ => ((fun k_ => some k_ ≠ (.slice Ao45 t196.length co45 : Value).ownBlock ∧ k_ ≠ gb212)) k_ ∧ some k_ ≠ (u7 : Value).ownBlock) (Kd.R_types (Kd.R_apart' (HO209.out) (Kd.S_typed HO_7.out) (by decide)) BK212.out (by decide)) (fun k_ hk => ⟨⟨hk.1.1, hk.2⟩, hk.1.2⟩))) (fun _ h_ => h_))); (case aB => exact belA); (case aF => exact (fun k_ hk => ⟨Kd.fresh' (rT HO_6) k_ hk, Kd.freshB (g := gb212) (o := .cells #[.int .i64 t205, .int .i64 t206, .slice Ao51 t207.length co51] 109 (0, 0)) blkA k_ hk⟩)); (case aO => exact (sE (Kd.S_mono HO_7.out (fun k_ hk => ⟨⟨hk.1, hk.2.2⟩, fun e_ => hk.2.1 e_⟩)))); (case aS => exact (below_size belA)); (case aL => have := LMc44.out; omega); intro v217 w54 ho hb hg hat; rw [← Ny216.out] at ho; have n0_ := Aside0.mk (Kd.R_over' (rA HO_6) (Kd.S_typed (sA HO_7)) (by decide) hg); have n1_ := Aside0.mk (blk_grown (g := gb190) (o := .cells #[.slice A0_0 l0_0.length c0_0, .int .i64 a0_1] 73 (0, 0)) blkA hg (Kd.S_ne HO_7.out BK190.out (by decide))); have n2_ := Aside0.mk (blk_grown (g := gb191) (o := .cells #[.slice none 0 0, .int .i64 0] 73 (0, 0)) blkA hg (Kd.S_ne HO_7.out BK191.out (by decide))); have n3_ := Aside0.mk (blk_grown (g := gb212) (o := .cells #[.int .i64 t205, .int .i64 t206, .slice Ao51 t207.length co51] 109 (0, 0)) blkA hg (Kd.S_away HO_7.out (fun _ hk => hk.2.2))); have n4_ := Aside0.mk hb; have n5_ := Aside0.mk ho; clear HO_6; clear BK190; clear BK191; clear BK212; clear HB; clear HO_7; clear HO209; have HO_6 := n0_; have BK190 := n1_; have BK191 := n2_; have BK212 := n3_; have HB := n4_; have HO218 := n5_; clear n0_ n1_ n2_ n3_ n4_ n5_; clear ho hb hg hat))
               go_roundg k2
               case measure => have := HJ2.out; have := HK2.out; omega
               case rel => exact ⟨(y216), (wrap64 (x8_2 + t210)), (x9_2), eqA, eqA, H', ⟨by have := HJ2.out; have := HK2.out; omega⟩, ⟨rE (Kd.R_mono HO_6.out (fun _ hk => trivial))⟩, ⟨sE (Kd.S_mono HO218.out (fun _ hk => hk.1))⟩, ⟨blkA⟩, ⟨blkA⟩, ⟨belA⟩⟩
             · rw [if_neg c44] at H; exact absurd H (by simp)
           · rw [if_neg c43] at H; have c43b0 : (t211 == 0) = false := beq_eq_false_iff_ne.mpr c43; have c43b1 : (t211 != 0) = true := bne_iff_ne.mpr c43
             by_cases c55 : x9_2 < 2147483647
             · rw [if_pos c55] at H; have c55b0 := decide_eq_true c55; clear c55; have H' := Aside0.mk H; clear H; obtain ⟨Ao56, co56, eo56⟩ := Kd.R_slice HO_6.out; subst eo56; obtain ⟨hA0, hA1, hAD⟩ := spec_l11At.parts A29.out; have AD1 := Aside0.mk hAD; clear hAD; have cat0 := eq_true hA0; have cat1 : decide (0 ≤ x8_2) = true := decide_eq_true hA0; have cat2 := eq_true hA1; have cat3 : decide (x8_2 ≤ (t196.length : Int)) = true := decide_eq_true hA1; obtain ⟨i0x, hi0x, _, hszx, _⟩ := info_parts info5; obtain ⟨A6x, hcut6, hA6, hC6⟩ := print_drop_of (P := Try.prog) (Value.int .u8) 0 22 5 .i64 Try.underlying22 hi0x hszx Ao56 co56 t196 x8_2 hA0 hA1 (Kd.R_reads' HO_6.out).2.1; go_wp2_with (first | ((with_reducible refine gate_callee (f := 107) rfl ?_); refine goesL_ (some 42) rfl rfl Try.func107 (by kernel_rfl) rfl #[.slice A6x (t196.drop (x8_2 : Int).toNat).length (co56 - x8_2.toNat)] rfl (by (try simp only [List.map_toArray, List.map_cons, List.map_nil]); first | done | (rw [show (t196.drop (x8_2 : Int).toNat).length = (t196.length - x8_2.toNat) from List.length_drop] <;> rfl) | rfl) ?_; (with_reducible refine (spec_DecodeFrame.calls k2 _ _ (t196.drop (x8_2 : Int).toNat) t205 t206 t207 t210 t211 _ ?side1 ?side2 AD1.out).mono ?_); (case side1 => refine Kd.C_of_reads (h1 := fun _ => rfl) (hA6 _ (Kd.reads_of_C (h1 := fun _ => rfl) ?_)); repeat (first | exact (Kd.R_reads' HO_6.out).2.2 | (with_reducible refine Kd.C_alloc ?_ _) | (with_reducible refine Kd.C_drewN ?_ _) | (with_reducible refine Kd.C_drew ?_))); (case side2 => exact hC6); rintro e w57 ⟨v208, rfl, ho0, hb⟩; refine ⟨_, rfl, ?_⟩; have HO209 := rL (Kd.R_new' ho0 (rT HO_6)); replace HO_6 := rD HO_6 (Kd.R_base ho0) hb; replace HO_7 := sD HO_7 (Kd.R_base ho0) hb; replace BK190 := bB BK190 hb; replace BK191 := bB BK191 hb; replace HB := bS hb; (try clear hb); (try clear hb2); (try clear hk); (try clear hi); (try clear ho0)) | ((with_reducible refine gate_dst (N := 10) rfl ?_); (try (refine gate_guard (by rfl) ?_; dsimp only)); refine boxA 10 #[.int .i64 0, .int .i64 0, .slice none 0 0] 109 ?_; intro gb212 hg w58 hbox hb; have BK212 := Aside0.mk hbox; have GW212 := leA (w := w) hg; have GE212 := leA (w := w) hg; have NB190_212 := neL hg BK190; have NB212_190 := neG hg BK190; have NB191_212 := neL hg BK191; have NB212_191 := neG hg BK191; replace HO_6 := rB HO_6 hb; replace HO_7 := sC HO_7 hg hb; replace HO209 := rB HO209 hb; replace BK190 := bB BK190 hb; replace BK191 := bB BK191 hb; replace HB := bS hb; clear hb hbox hg; have hnb59 := NB212_190.out; have hnc59 := NB190_212.out; have hnb60 := NB212_191.out; have hnc60 := NB191_212.out; obtain ⟨hcz61_0, hcz61_1, hcz61_2, hfz61_0, hfz61_1, hfz61_2⟩ := cel3 BK212; obtain ⟨Ao62, co62, eo62⟩ := Kd.R_slice HO209.out; subst eo62))
               go_roundg k2
               case measure => have := HJ2.out; have := HK2.out; omega
               case rel => exact ⟨(x7_2), (wrap64 (x8_2 + 1)), (wrap64 (x9_2 + 1)), eqA, eqA, H', ⟨by have := HJ2.out; have := HK2.out; omega⟩, ⟨rE (Kd.R_mono (Kd.R_far (p := ⟨gb212, 2, none⟩) (Kd.R_far (p := ⟨gb212, 1, none⟩) (Kd.R_far (p := ⟨gb212, 0, none⟩) (Kd.R_types HO_6.out BK212.out (by decide)) (fun _ hk => hk.2) (.int .i64 t205)) (fun _ hk => hk.2) (.int .i64 t206)) (fun _ hk => hk.2) (.slice Ao62 t207.length co62)) (fun _ hk => trivial))⟩, ⟨sE (Kd.S_mono (Kd.S_far (p := ⟨gb212, 2, none⟩) (Kd.S_far (p := ⟨gb212, 1, none⟩) (Kd.S_far (p := ⟨gb212, 0, none⟩) (Kd.S_mono HO_7.out (fun k_ hk => (⟨hk, hk.2⟩ : _ ∧ k_ ≠ gb212))) (fun _ hk => hk.2) (.int .i64 t205)) (fun _ hk => hk.2) (.int .i64 t206)) (fun _ hk => hk.2) (.slice Ao62 t207.length co62)) (fun _ hk => hk.1.1.1))⟩, ⟨by (with_reducible repeat (first | refine blk_drewN ?_ _ | refine blk_drew ?_ | refine blk_alloc ?_ _)); refine blk_far ?_ NB190_212.out _; (with_reducible repeat (first | refine blk_drewN ?_ _ | refine blk_drew ?_ | refine blk_alloc ?_ _)); refine blk_far ?_ NB190_212.out _; (with_reducible repeat (first | refine blk_drewN ?_ _ | refine blk_drew ?_ | refine blk_alloc ?_ _)); refine blk_far ?_ NB190_212.out _; (with_reducible repeat (first | refine blk_drewN ?_ _ | refine blk_drew ?_ | refine blk_alloc ?_ _)); exact BK190.out⟩, ⟨by (with_reducible repeat (first | refine blk_drewN ?_ _ | refine blk_drew ?_ | refine blk_alloc ?_ _)); refine blk_far ?_ NB191_212.out _; (with_reducible repeat (first | refine blk_drewN ?_ _ | refine blk_drew ?_ | refine blk_alloc ?_ _)); refine blk_far ?_ NB191_212.out _; (with_reducible repeat (first | refine blk_drewN ?_ _ | refine blk_drew ?_ | refine blk_alloc ?_ _)); refine blk_far ?_ NB191_212.out _; (with_reducible repeat (first | refine blk_drewN ?_ _ | refine blk_drew ?_ | refine blk_alloc ?_ _)); exact BK191.out⟩, ⟨belA⟩⟩
             · rw [if_neg c55] at H; have c55b0 := decide_eq_false c55; clear c55; have H' := Aside0.mk H; clear H; obtain ⟨Ao63, co63, eo63⟩ := Kd.R_slice HO_6.out; subst eo63; obtain ⟨hA0, hA1, hAD⟩ := spec_l11At.parts A29.out; have AD1 := Aside0.mk hAD; clear hAD; have cat0 := eq_true hA0; have cat1 : decide (0 ≤ x8_2) = true := decide_eq_true hA0; have cat2 := eq_true hA1; have cat3 : decide (x8_2 ≤ (t196.length : Int)) = true := decide_eq_true hA1; obtain ⟨i0x, hi0x, _, hszx, _⟩ := info_parts info5; obtain ⟨A6x, hcut6, hA6, hC6⟩ := print_drop_of (P := Try.prog) (Value.int .u8) 0 22 5 .i64 Try.underlying22 hi0x hszx Ao63 co63 t196 x8_2 hA0 hA1 (Kd.R_reads' HO_6.out).2.1; go_wp2_with (first | ((with_reducible refine gate_callee (f := 107) rfl ?_); refine goesL_ (some 42) rfl rfl Try.func107 (by kernel_rfl) rfl #[.slice A6x (t196.drop (x8_2 : Int).toNat).length (co63 - x8_2.toNat)] rfl (by (try simp only [List.map_toArray, List.map_cons, List.map_nil]); first | done | (rw [show (t196.drop (x8_2 : Int).toNat).length = (t196.length - x8_2.toNat) from List.length_drop] <;> rfl) | rfl) ?_; (with_reducible refine (spec_DecodeFrame.calls k2 _ _ (t196.drop (x8_2 : Int).toNat) t205 t206 t207 t210 t211 _ ?side1 ?side2 AD1.out).mono ?_); (case side1 => refine Kd.C_of_reads (h1 := fun _ => rfl) (hA6 _ (Kd.reads_of_C (h1 := fun _ => rfl) ?_)); repeat (first | exact (Kd.R_reads' HO_6.out).2.2 | (with_reducible refine Kd.C_alloc ?_ _) | (with_reducible refine Kd.C_drewN ?_ _) | (with_reducible refine Kd.C_drew ?_))); (case side2 => exact hC6); rintro e w64 ⟨v208, rfl, ho0, hb⟩; refine ⟨_, rfl, ?_⟩; have HO209 := rL (Kd.R_new' ho0 (rT HO_6)); replace HO_6 := rD HO_6 (Kd.R_base ho0) hb; replace HO_7 := sD HO_7 (Kd.R_base ho0) hb; replace BK190 := bB BK190 hb; replace BK191 := bB BK191 hb; replace HB := bS hb; (try clear hb); (try clear hb2); (try clear hk); (try clear hi); (try clear ho0)) | ((with_reducible refine gate_dst (N := 10) rfl ?_); (try (refine gate_guard (by rfl) ?_; dsimp only)); refine boxA 10 #[.int .i64 0, .int .i64 0, .slice none 0 0] 109 ?_; intro gb212 hg w65 hbox hb; have BK212 := Aside0.mk hbox; have GW212 := leA (w := w) hg; have GE212 := leA (w := w) hg; have NB190_212 := neL hg BK190; have NB212_190 := neG hg BK190; have NB191_212 := neL hg BK191; have NB212_191 := neG hg BK191; replace HO_6 := rB HO_6 hb; replace HO_7 := sC HO_7 hg hb; replace HO209 := rB HO209 hb; replace BK190 := bB BK190 hb; replace BK191 := bB BK191 hb; replace HB := bS hb; clear hb hbox hg; have hnb66 := NB212_190.out; have hnc66 := NB190_212.out; have hnb67 := NB212_191.out; have hnc67 := NB191_212.out; obtain ⟨hcz68_0, hcz68_1, hcz68_2, hfz68_0, hfz68_1, hfz68_2⟩ := cel3 BK212; obtain ⟨Ao69, co69, eo69⟩ := Kd.R_slice HO209.out; subst eo69))
               go_roundg k2
               case measure => have := HJ2.out; have := HK2.out; omega
               case rel => exact ⟨(x7_2), (wrap64 (x8_2 + 1)), (x9_2), eqA, eqA, H', ⟨by have := HJ2.out; have := HK2.out; omega⟩, ⟨rE (Kd.R_mono (Kd.R_far (p := ⟨gb212, 2, none⟩) (Kd.R_far (p := ⟨gb212, 1, none⟩) (Kd.R_far (p := ⟨gb212, 0, none⟩) (Kd.R_types HO_6.out BK212.out (by decide)) (fun _ hk => hk.2) (.int .i64 t205)) (fun _ hk => hk.2) (.int .i64 t206)) (fun _ hk => hk.2) (.slice Ao69 t207.length co69)) (fun _ hk => trivial))⟩, ⟨sE (Kd.S_mono (Kd.S_far (p := ⟨gb212, 2, none⟩) (Kd.S_far (p := ⟨gb212, 1, none⟩) (Kd.S_far (p := ⟨gb212, 0, none⟩) (Kd.S_mono HO_7.out (fun k_ hk => (⟨hk, hk.2⟩ : _ ∧ k_ ≠ gb212))) (fun _ hk => hk.2) (.int .i64 t205)) (fun _ hk => hk.2) (.int .i64 t206)) (fun _ hk => hk.2) (.slice Ao69 t207.length co69)) (fun _ hk => hk.1.1.1))⟩, ⟨by (with_reducible repeat (first | refine blk_drewN ?_ _ | refine blk_drew ?_ | refine blk_alloc ?_ _)); refine blk_far ?_ NB190_212.out _; (with_reducible repeat (first | refine blk_drewN ?_ _ | refine blk_drew ?_ | refine blk_alloc ?_ _)); refine blk_far ?_ NB190_212.out _; (with_reducible repeat (first | refine blk_drewN ?_ _ | refine blk_drew ?_ | refine blk_alloc ?_ _)); refine blk_far ?_ NB190_212.out _; (with_reducible repeat (first | refine blk_drewN ?_ _ | refine blk_drew ?_ | refine blk_alloc ?_ _)); exact BK190.out⟩, ⟨by (with_reducible repeat (first | refine blk_drewN ?_ _ | refine blk_drew ?_ | refine blk_alloc ?_ _)); refine blk_far ?_ NB191_212.out _; (with_reducible repeat (first | refine blk_drewN ?_ _ | refine blk_drew ?_ | refine blk_alloc ?_ _)); refine blk_far ?_ NB191_212.out _; (with_reducible repeat (first | refine blk_drewN ?_ _ | refine blk_drew ?_ | refine blk_alloc ?_ _)); refine blk_far ?_ NB191_212.out _; (with_reducible repeat (first | refine blk_drewN ?_ _ | refine blk_drew ?_ | refine blk_alloc ?_ _)); exact BK191.out⟩, ⟨belA⟩⟩
       · rw [if_neg c28] at H; have c28b0 := decide_eq_false c28; clear c28; replace H := Option.bind_eq_some_iff.mp H; obtain ⟨t202, A700, H⟩ := H; replace H : (some (t202, x9_2, x7_2)) = some (r1, r2, r3) := H
         have A70 := Aside0.mk A700; clear A700; simp only [Option.some.injEq, Prod.mk.injEq] at H; obtain ⟨rfl, rfl, rfl⟩ := H; obtain ⟨Ao71, co71, eo71⟩ := Kd.R_slice HO_6.out; subst eo71; obtain ⟨hT0, hT1, hTD⟩ := spec_l11Tail.parts A70.out; have AD2 := Aside0.mk hTD; clear hTD; exact absurd hT1 (of_decide_eq_false c28b0)


/-! ### laws_toByteS: function 50 -/
def laws_toByteS.l0 : Nat → List Int → List Int → Int → Option (List Int)
 | 0, _, _, _ => none
 | k + 1, x0, x3, x4 => if x4 < (x0.length : Int) then (if 0 ≤ x4 then (if x4 < (x3.length : Int) then (laws_toByteS.l0 k x0 (x3.set (x4 : Int).toNat (rd x0 x4)) (wrap64 (x4 + 1))) else (none)) else (none)) else (some x3)
def laws_toByteS.f (k : Nat) (l0 : List Int) : Option (List Int) := if 0 ≤ (l0.length : Int) then (if ((l0.length : Int) : Int).toNat ≤ 281474976710656 then (laws_toByteS.l0 k l0 (List.replicate ((l0.length : Int) : Int).toNat 0) 0) else (none)) else (none)
theorem laws_toByteS.mono_l : ∀ k, (∀ y0 y1 y2, LeO (laws_toByteS.l0 k y0 y1 y2) (laws_toByteS.l0 (k + 1) y0 y1 y2))
 | 0 => fun _ _ _ r h => by simp [laws_toByteS.l0] at h
 | k + 1 => by
  have ih0 := laws_toByteS.mono_l k
  · intro y0 y1 y2
    unfold laws_toByteS.l0
    repeat' first
    | (with_reducible exact ih0 _ _ _)
    | (with_reducible exact LeO.refl _)
    | (with_reducible exact LeO.none _)
    | (with_reducible refine LeO.ite ?_ ?_)
    | (with_reducible refine LeO.bind ?_ (fun _ => ?_))
    | exact ih0 _ _ _
    | exact LeO.none _
    | refine LeO.ite ?_ ?_
    | refine LeO.bind ?_ (fun _ => ?_)
theorem laws_toByteS.mono : ∀ a0 k, LeO (laws_toByteS.f k a0) (laws_toByteS.f (k + 1) a0) := by
 intro a0 k; have ih0 := laws_toByteS.mono_l k
 unfold laws_toByteS.f
 repeat' first
  | (with_reducible exact ih0 _ _ _)
  | (with_reducible exact LeO.refl _)
  | (with_reducible exact LeO.none _)
  | (with_reducible refine LeO.ite ?_ ?_)
  | (with_reducible refine LeO.bind ?_ (fun _ => ?_))
  | exact ih0 _ _ _
  | exact LeO.none _
  | refine LeO.ite ?_ ?_
  | refine LeO.bind ?_ (fun _ => ?_)
set_option maxHeartbeats 8000000 in
set_option maxRecDepth 100000 in
theorem laws_toByteS.calls (k : Nat) (A0 : Option Addr) (c0 : Nat) (l0 : List Int) (r : List Int) (w : World) (hr0 : Kd.C (Kd.int .u8) w A0 l0.length l0) (hc0 : l0.length ≤ c0) (h : laws_toByteS.f k l0 = some r) :
 Calls Try.prog 50 #[.slice A0 l0.length c0] w fun e w' => ∃ v0_ : Value, e = .returned (v0_) ∧ Kd.R (Kd.int .u8) 5 w' w.heap.size (fun _ => True) v0_ r ∧ Below w.heap.size w w' := by
 have HR0 := Aside0.mk hr0; have HC0 := Aside0.mk hc0; clear hr0 hc0; have HB := Aside0.mk (Below.refl w.heap.size w); have H : (if 0 ≤ (l0.length : Int) then (if ((l0.length : Int) : Int).toNat ≤ 281474976710656 then (laws_toByteS.l0 k l0 (List.replicate ((l0.length : Int) : Int).toNat 0) 0) else (none)) else (none)) = some r := h; clear h
 by_cases c2 : 0 ≤ (l0.length : Int)
 · rw [if_pos c2] at H; have c2b0 := eq_true c2; have c2b1 : decide (0 ≤ (l0.length : Int)) = true := decide_eq_true c2; clear c2
   by_cases c3 : ((l0.length : Int) : Int).toNat ≤ 281474976710656
   · rw [if_pos c3] at H; have c3b0 := eq_true c3; have c3b1 : decide (((l0.length : Int) : Int).toNat ≤ 281474976710656) = true := decide_eq_true c3; clear c3; obtain ⟨y160, hy160⟩ : ∃ y_ : List Int, y_ = (List.replicate ((l0.length : Int) : Int).toNat 0) := ⟨_, rfl⟩; replace H : (laws_toByteS.l0 k l0 y160 0) = some r := by first | (rw [hy160]; with_reducible exact H) | (have H2_ := (Option.bind_some _ _).symm.trans H; rw [hy160]; with_reducible exact H2_) | (have H2_ := (Option.bind_some _ _).symm.trans H; with_reducible exact H2_) | with_reducible exact H | (rw [hy160]; exact H) | exact H
     have Ny160 := Aside0.mk hy160; clear hy160; have H' := Aside0.mk H; clear H; go_enter Try.func50, Try.ntmps50
     go_wp2_with (first | ((with_reducible refine gate_dst (N := 7) rfl ?_); refine Kd.R_make (Kd.int .u8) _ 5 rfl (N := 7) rfl 22 _ _ rfl (l0.length : Int) rfl rfl Try.underlying22 (.int .u8 0) 1 info5 rfl (by decide) (by omega) 0 (ok := fun _ => True) (okp := fun _ => True) rfl (fun _ hk => hk) trivial (odA) (Nat.le_trans (Nat.mul_le_mul_right _ (odA : (l0.length : Int).toNat ≤ 281474976710656)) (by omega)) (Below.refl _ _) (Nat.le_refl _) ?_; intro v161 w4 ho5 hb hg_ hnew_; clear hg_ hnew_; (first | rw [← Ny160.out] at ho5 | (simp only [Int.reduceToNat] at ho5; rw [← Ny160.out] at ho5)); have HO162 := rL ho5; replace HB := bS hb; clear hb ho5))
     go_loopg [4] k (fun kq v4 w' => ∃ (x3_1 : List Int) (x4_1 : Int), v4 = .int .i64 x4_1 ∧ Aside0 (laws_toByteS.l0 kq l0 x3_1 x4_1 = some r) ∧ Aside0 (kq ≤ k) ∧ Aside0 (Kd.R (Kd.int .u8) 5 w' w.heap.size (fun _ => True) v161 x3_1) ∧ Aside0 (Below w.heap.size w w'))
     case atStart => exact ⟨(y160), (0), eqA, H', ⟨Nat.le_refl _⟩, ⟨rA HO162⟩, ⟨belA⟩⟩
     case round =>
      clear H'; obtain ⟨x3_1, x4_1, rfl, HA, HK1, HO_3, HB⟩ := hrel
      cases gk with
      | zero => exact absurd HA.out (by simp [laws_toByteS.l0])
      | succ k1 =>
       have H := HA.out; clear HA; simp only [laws_toByteS.l0] at H
       by_cases c6 : x4_1 < (l0.length : Int)
       · rw [if_pos c6] at H; have c6b0 := decide_eq_true c6; clear c6
         by_cases c7 : 0 ≤ x4_1
         · rw [if_pos c7] at H; have c7b0 := decide_eq_true c7; clear c7
           by_cases c8 : x4_1 < (x3_1.length : Int)
           · rw [if_pos c8] at H; have c8b0 := decide_eq_true c8; clear c8; obtain ⟨y164, hy164⟩ : ∃ y_ : List Int, y_ = (x3_1.set (x4_1 : Int).toNat (rd l0 x4_1)) := ⟨_, rfl⟩; replace H : (laws_toByteS.l0 k1 l0 y164 (wrap64 (x4_1 + 1))) = some r := by first | (rw [hy164]; with_reducible exact H) | (have H2_ := (Option.bind_some _ _).symm.trans H; rw [hy164]; with_reducible exact H2_) | (have H2_ := (Option.bind_some _ _).symm.trans H; with_reducible exact H2_) | with_reducible exact H | (rw [hy164]; exact H) | exact H
             have Ny164 := Aside0.mk hy164; clear hy164; have H' := Aside0.mk H; clear H; have p163 : 0 ≤ (x4_1 : Int) := odA; have q163 : x4_1 < (l0.length : Int) := odA; obtain ⟨ad163, e163, hx163_0⟩ := Kd.at_int HR0.out x4_1 p163 q163
             cases e163
             try replace hx163_0 := cB HB hx163_0
             replace p163 := eq_true p163; replace q163 := eq_true q163; have p9 : 0 ≤ (x4_1 : Int) := odA; have q9 : (x4_1 : Int) < ((x3_1.length : Int) : Int) := odA; obtain ⟨go9, co9, eo9, gb9, gl9, cl9, HG9⟩ := Kd.R_form HO_3.out (by omega); (first | cases eo9 | (injection eo9 with ea_ en_ ec_; (first | subst ea_ | (injection ea_ with ea_; subst ea_)); subst ec_; clear en_))
             have GB9 := Aside0.mk gb9; have GG9 := Aside0.mk HG9; clear gb9 gl9 HG9; obtain ⟨hx9_0, hf9_0⟩ := Kd.R_celln 0 HO_3.out (x4_1 : Int) p9 q9; replace p9 := eq_true p9; replace q9 := eq_true q9; have HP10 := Kd.R_putg HO_3.out (x4_1 : Int) (rd l0 x4_1); go_wp2_with (first | ((with_reducible refine gate_store (t := 5) (p := 20) rfl ?_); refine store_event (t := 5) (p := 20) (v := ?vo_w11) (w1 := (wr.setCell ⟨go9, (x4_1 : Int).toNat, none⟩ (.int .u8 (rd l0 x4_1)))) ?hg ?ho ?hn ?hr ?_; (case ho => rfl); (case hg => rfl); (case hn => rfl); (case hr => first | (go_simp; done) | (go_simp; rfl)); intro w11 hw; have hg : wr.grownBy w11 (some go9) := (by rw [hw]; exact HP10.2); have hp_ : Kd.R (Kd.int .u8) 5 w11 w.heap.size (fun _ => True) (.slice (some ⟨go9, 0, none⟩) x3_1.length co9) y164 := (by rw [hw, Ny164.out]; exact HP10.1); clear HP10; replace HO_3 := Aside0.mk hp_; replace HB := Aside0.mk ((by rw [hw]; exact below_set (HB.out) GB9.out : Below w.heap.size w w11)); clear hg hw hp_))
             go_roundg k1
             case measure => have := HK1.out; omega
             case rel => exact ⟨(y164), (wrap64 (x4_1 + 1)), eqA, H', ⟨by have := HK1.out; omega⟩, ⟨rA HO_3⟩, ⟨belA⟩⟩
           · rw [if_neg c8] at H; exact absurd H (by simp)
         · rw [if_neg c7] at H; exact absurd H (by simp)
       · rw [if_neg c6] at H; have c6b0 := decide_eq_false c6; clear c6; obtain rfl := Option.some.inj H; go_wp2
         go_ret
         exact ⟨_, by first | rfl | (simp [errW_none, errW_some] <;> rfl) | (simp [*, errW_none, errW_some] <;> rfl) | (simp [wrap64]; done) | (simp [*, wrap64]; done), by (with_reducible repeat (first | apply Kd.R_alloc | apply Kd.R_drewN | apply Kd.R_drew)); exact HO_3.out, belA⟩
   · rw [if_neg c3] at H; exact absurd H (by simp)
 · rw [if_neg c2] at H; exact absurd H (by simp)

/-! ### laws_toStream: function 49 -/
def laws_toStream.f (k : Nat) (l0_0 : List Int) (a0_1 : Int) : Option (List Int × Int) := (laws_toByteS.f k l0_0).bind fun t168 => (some (t168, a0_1))
theorem laws_toStream.mono : ∀ a0 a1 k, LeO (laws_toStream.f k a0 a1) (laws_toStream.f (k + 1) a0 a1) := by
 intro a0 a1 k
 unfold laws_toStream.f
 repeat' first
  | (with_reducible exact laws_toByteS.mono _ _)
  | (with_reducible exact LeO.refl _)
  | (with_reducible exact LeO.none _)
  | (with_reducible refine LeO.ite ?_ ?_)
  | (with_reducible refine LeO.bind ?_ (fun _ => ?_))
  | exact laws_toByteS.mono _ _
  | exact LeO.none _
  | refine LeO.ite ?_ ?_
  | refine LeO.bind ?_ (fun _ => ?_)
set_option maxHeartbeats 8000000 in
set_option maxRecDepth 100000 in
theorem laws_toStream.calls (k : Nat) (A0_0 : Option Addr) (c0_0 : Nat) (l0_0 : List Int) (a0_1 : Int) (r1 : List Int) (r2 : Int) (w : World) (hr0_0 : Kd.C (Kd.int .u8) w A0_0 l0_0.length l0_0) (hc0_0 : l0_0.length ≤ c0_0) (h : laws_toStream.f k l0_0 a0_1 = some (r1, r2)) :
 Calls Try.prog 49 #[.agg #[.slice A0_0 l0_0.length c0_0, .int .i64 a0_1]] w fun e w' => ∃ v0_ : Value, e = .returned (.agg #[v0_, .int .i64 r2]) ∧ Kd.R (Kd.int .u8) 5 w' w.heap.size (fun _ => True) v0_ r1 ∧ Below w.heap.size w w' := by
 have hu71 := Try.underlying71; have hu73 := Try.underlying73; have HR0_0 := Aside0.mk hr0_0; have HC0_0 := Aside0.mk hc0_0; clear hr0_0 hc0_0; have HB := Aside0.mk (Below.refl w.heap.size w); have H : ((laws_toByteS.f k l0_0).bind fun t168 => (some (t168, a0_1))) = some (r1, r2) := h; clear h; replace H := Option.bind_eq_some_iff.mp H; obtain ⟨t168, A20, H⟩ := H; replace H : (some (t168, a0_1)) = some (r1, r2) := H
 have A2 := Aside0.mk A20; clear A20; simp only [Option.some.injEq, Prod.mk.injEq] at H; obtain ⟨rfl, rfl⟩ := H; go_enter Try.func49, Try.ntmps49
 go_wp2_with (first | ((with_reducible refine gate_dst (N := 1) rfl ?_); refine boxA 1 #[.slice A0_0 l0_0.length c0_0, .int .i64 a0_1] 71 ?_; intro gb165 hg w3 hbox hb; have BK165 := Aside0.mk hbox; have GW165 := leA (w := w) hg; have GE165 := leA (w := w) hg; replace HB := bS hb; clear hb hbox hg) | ((with_reducible refine gate_dst (N := 2) rfl ?_); refine boxA 2 #[.slice none 0 0, .int .i64 0] 73 ?_; intro gb166 hg w4 hbox hb; have BK166 := Aside0.mk hbox; have GW166 := leA (w := w) hg; have GE166 := leA (w := w) hg; have NB165_166 := neL hg BK165; have NB166_165 := neG hg BK165; replace BK165 := bB BK165 hb; replace HB := bS hb; clear hb hbox hg) | ((with_reducible refine gate_dst (N := 3) rfl ?_); refine boxA 3 #[.slice none 0 0, .int .i64 0] 73 ?_; intro gb167 hg w5 hbox hb; have BK167 := Aside0.mk hbox; have GW167 := leA (w := w) hg; have GE167 := leA (w := w) hg; have NB165_167 := neL hg BK165; have NB167_165 := neG hg BK165; have NB166_167 := neL hg BK166; have NB167_166 := neG hg BK166; replace BK165 := bB BK165 hb; replace BK166 := bB BK166 hb; replace HB := bS hb; clear hb hbox hg; have hnb6 := NB165_166.out; have hnc6 := NB166_165.out; have hnb7 := NB165_167.out; have hnc7 := NB167_165.out; obtain ⟨hcz8_0, hcz8_1, hfz8_0, hfz8_1⟩ := cel2 BK165) | ((with_reducible refine gate_callee (f := 50) rfl ?_); refine goesL_ (some 6) rfl rfl Try.func50 (by kernel_rfl) rfl #[.slice A0_0 l0_0.length c0_0] rfl (by (try simp only [List.map_toArray, List.map_cons, List.map_nil]); first | done | rfl | (simp only [List.length_drop, List.length_take]; rfl) | (simp only [Int.tmod_eq_emod_of_nonneg (Int.natCast_nonneg _)]; done) | (simp only [Int.tmod_eq_emod_of_nonneg (Int.natCast_nonneg _)]; rfl)) ?_; (with_reducible refine (laws_toByteS.calls k _ _ l0_0 t168 _ ?side1 ?side2 A2.out).mono ?_); (case side1 => exact cA (Kd.C_below HR0_0.out HB.out)); (case side2 => exact HC0_0.out); rintro e w9 ⟨v169, rfl, ho0, hb⟩; refine ⟨_, rfl, ?_⟩; have HO170 := rL ho0; replace BK165 := bB BK165 hb; replace BK166 := bB BK166 hb; replace BK167 := bB BK167 hb; replace HB := bS hb; (try clear hb); (try clear hb2); (try clear hk); (try clear hi); (try clear ho0); obtain ⟨Ao10, co10, eo10⟩ := Kd.R_slice HO170.out; subst eo10; have hnb11 := NB167_166.out; have hnc11 := NB166_167.out; obtain ⟨hcz12_0, hcz12_1, hfz12_0, hfz12_1⟩ := cel2 BK167; obtain ⟨hcz13_0, hcz13_1, hfz13_0, hfz13_1⟩ := cel2 BK165; obtain ⟨hcz14_0, hcz14_1, hfz14_0, hfz14_1⟩ := cel2 BK166))
 refine bodyPost_ret (results_cell_row rfl _ _ gb166 73 #[.slice Ao10 t168.length co10, .int .i64 a0_1] (0, 0) _ rfl (by (with_reducible repeat (first | refine blk_drewN ?_ _ | refine blk_drew ?_ | refine blk_alloc ?_ _)); refine blk_put (cs := #[.slice Ao10 t168.length co10, .int .i64 0]) ?_ 1 _ rfl; (with_reducible repeat (first | refine blk_drewN ?_ _ | refine blk_drew ?_ | refine blk_alloc ?_ _)); refine blk_put (cs := #[.slice none 0 0, .int .i64 0]) ?_ 0 _ rfl; (with_reducible repeat (first | refine blk_drewN ?_ _ | refine blk_drew ?_ | refine blk_alloc ?_ _)); refine blk_far ?_ NB166_167.out _; (with_reducible repeat (first | refine blk_drewN ?_ _ | refine blk_drew ?_ | refine blk_alloc ?_ _)); refine blk_far ?_ NB166_167.out _; (with_reducible repeat (first | refine blk_drewN ?_ _ | refine blk_drew ?_ | refine blk_alloc ?_ _)); exact BK166.out) Try.underlying73 rfl (by kernel_rfl)) rfl ?_
 exact ⟨_, by first | rfl | (simp [errW_none, errW_some] <;> rfl) | (simp [*, errW_none, errW_some] <;> rfl) | (simp [wrap64]; done) | (simp [*, wrap64]; done), by (with_reducible repeat (first | apply Kd.R_alloc | apply Kd.R_drewN | apply Kd.R_drew)); exact Kd.R_mono (Kd.R_far (p := ⟨gb166, 1, none⟩) (Kd.R_far (p := ⟨gb166, 0, none⟩) (Kd.R_far (p := ⟨gb167, 1, none⟩) (Kd.R_far (p := ⟨gb167, 0, none⟩) (Kd.R_types (Kd.R_types HO170.out BK167.out (by decide)) BK166.out (by decide)) (fun _ hk => hk.1.2) (.slice Ao10 t168.length co10)) (fun _ hk => hk.1.2) (.int .i64 a0_1)) (fun _ hk => hk.2) (.slice Ao10 t168.length co10)) (fun _ hk => hk.2) (.int .i64 a0_1)) (fun _ hk => trivial), belA⟩

/-! ### impl_bigEndian: function 138 -/
def impl_bigEndian.l0 : Nat → Int → List Int → Int → Option (List Int)
 | 0, _, _, _ => none
 | k + 1, x0, x5, x6 => if x6 ≥ 0 then (if 0 ≤ x6 then (if x6 < (x5.length : Int) then (impl_bigEndian.l0 k (x0 / 256) (x5.set (x6 : Int).toNat ((x0) % 256)) (wrap64 (x6 - 1))) else (none)) else (none)) else (some x5)
def impl_bigEndian.f (k : Nat) (a0 : Int) (a1 : Int) : Option (List Int) := if 0 ≤ a1 then (if (a1 : Int).toNat ≤ 281474976710656 then (impl_bigEndian.l0 k a0 (List.replicate (a1 : Int).toNat 0) (wrap64 (a1 - 1))) else (none)) else (none)
theorem impl_bigEndian.mono_l : ∀ k, (∀ y0 y1 y2, LeO (impl_bigEndian.l0 k y0 y1 y2) (impl_bigEndian.l0 (k + 1) y0 y1 y2))
 | 0 => fun _ _ _ r h => by simp [impl_bigEndian.l0] at h
 | k + 1 => by
  have ih0 := impl_bigEndian.mono_l k
  · intro y0 y1 y2
    unfold impl_bigEndian.l0
    repeat' first
    | (with_reducible exact ih0 _ _ _)
    | (with_reducible exact LeO.refl _)
    | (with_reducible exact LeO.none _)
    | (with_reducible refine LeO.ite ?_ ?_)
    | (with_reducible refine LeO.bind ?_ (fun _ => ?_))
    | exact ih0 _ _ _
    | exact LeO.none _
    | refine LeO.ite ?_ ?_
    | refine LeO.bind ?_ (fun _ => ?_)
theorem impl_bigEndian.mono : ∀ a0 a1 k, LeO (impl_bigEndian.f k a0 a1) (impl_bigEndian.f (k + 1) a0 a1) := by
 intro a0 a1 k; have ih0 := impl_bigEndian.mono_l k
 unfold impl_bigEndian.f
 repeat' first
  | (with_reducible exact ih0 _ _ _)
  | (with_reducible exact LeO.refl _)
  | (with_reducible exact LeO.none _)
  | (with_reducible refine LeO.ite ?_ ?_)
  | (with_reducible refine LeO.bind ?_ (fun _ => ?_))
  | exact ih0 _ _ _
  | exact LeO.none _
  | refine LeO.ite ?_ ?_
  | refine LeO.bind ?_ (fun _ => ?_)
set_option maxHeartbeats 8000000 in
set_option maxRecDepth 100000 in
theorem impl_bigEndian.calls (k : Nat) (a0 : Int) (a1 : Int) (r : List Int) (w : World) (h : impl_bigEndian.f k a0 a1 = some r) :
 Calls Try.prog 138 #[.int .i64 a0, .int .i64 a1] w fun e w' => ∃ v0_ : Value, e = .returned (v0_) ∧ Kd.R (Kd.int .u8) 5 w' w.heap.size (fun _ => True) v0_ r ∧ Below w.heap.size w w' := by
 have HB := Aside0.mk (Below.refl w.heap.size w); have H : (if 0 ≤ a1 then (if (a1 : Int).toNat ≤ 281474976710656 then (impl_bigEndian.l0 k a0 (List.replicate (a1 : Int).toNat 0) (wrap64 (a1 - 1))) else (none)) else (none)) = some r := h; clear h
 by_cases c3 : 0 ≤ a1
 · rw [if_pos c3] at H; have c3b0 := eq_true c3; have c3b1 : decide (0 ≤ a1) = true := decide_eq_true c3; clear c3
   by_cases c4 : (a1 : Int).toNat ≤ 281474976710656
   · rw [if_pos c4] at H; have c4b0 := eq_true c4; have c4b1 : decide ((a1 : Int).toNat ≤ 281474976710656) = true := decide_eq_true c4; clear c4; obtain ⟨y171, hy171⟩ : ∃ y_ : List Int, y_ = (List.replicate (a1 : Int).toNat 0) := ⟨_, rfl⟩; replace H : (impl_bigEndian.l0 k a0 y171 (wrap64 (a1 - 1))) = some r := by first | (rw [hy171]; with_reducible exact H) | (have H2_ := (Option.bind_some _ _).symm.trans H; rw [hy171]; with_reducible exact H2_) | (have H2_ := (Option.bind_some _ _).symm.trans H; with_reducible exact H2_) | with_reducible exact H | (rw [hy171]; exact H) | exact H
     have Ny171 := Aside0.mk hy171; clear hy171; have H' := Aside0.mk H; clear H; go_enter Try.func138, Try.ntmps138
     go_wp2_with (first | ((with_reducible refine gate_dst (N := 8) rfl ?_); refine Kd.R_make (Kd.int .u8) _ 5 rfl (N := 8) rfl 22 _ _ rfl a1 rfl rfl Try.underlying22 (.int .u8 0) 1 info5 rfl (by decide) (by omega) 0 (ok := fun _ => True) (okp := fun _ => True) rfl (fun _ hk => hk) trivial (odA) (Nat.le_trans (Nat.mul_le_mul_right _ (odA : a1.toNat ≤ 281474976710656)) (by omega)) (Below.refl _ _) (Nat.le_refl _) ?_; intro v172 w5 ho6 hb hg_ hnew_; clear hg_ hnew_; (first | rw [← Ny171.out] at ho6 | (simp only [Int.reduceToNat] at ho6; rw [← Ny171.out] at ho6)); have HO173 := rL ho6; replace HB := bS hb; clear hb ho6))
     go_loopg [0, 6] k (fun kq v0 v6 w' => ∃ (x0_1 : Int) (x5_1 : List Int) (x6_1 : Int), v0 = .int .i64 x0_1 ∧ v6 = .int .i64 x6_1 ∧ Aside0 (impl_bigEndian.l0 kq x0_1 x5_1 x6_1 = some r) ∧ Aside0 (kq ≤ k) ∧ Aside0 (Kd.R (Kd.int .u8) 5 w' w.heap.size (fun _ => True) v172 x5_1) ∧ Aside0 (Below w.heap.size w w'))
     case atStart => exact ⟨(a0), (y171), (wrap64 (a1 - 1)), eqA, eqA, H', ⟨Nat.le_refl _⟩, ⟨rA HO173⟩, ⟨belA⟩⟩
     case round =>
      clear H'; obtain ⟨x0_1, x5_1, x6_1, rfl, rfl, HA, HK1, HO_5, HB⟩ := hrel
      cases gk with
      | zero => exact absurd HA.out (by simp [impl_bigEndian.l0])
      | succ k1 =>
       have H := HA.out; clear HA; simp only [impl_bigEndian.l0] at H
       by_cases c7 : x6_1 ≥ 0
       · rw [if_pos c7] at H; have c7b0 := decide_eq_true c7; clear c7
         by_cases c8 : 0 ≤ x6_1
         · rw [if_pos c8] at H; have c8b0 := decide_eq_true c8; clear c8
           by_cases c9 : x6_1 < (x5_1.length : Int)
           · rw [if_pos c9] at H; have c9b0 := decide_eq_true c9; clear c9; obtain ⟨y174, hy174⟩ : ∃ y_ : List Int, y_ = (x5_1.set (x6_1 : Int).toNat ((x0_1) % 256)) := ⟨_, rfl⟩; replace H : (impl_bigEndian.l0 k1 (x0_1 / 256) y174 (wrap64 (x6_1 - 1))) = some r := by first | (rw [hy174]; with_reducible exact H) | (have H2_ := (Option.bind_some _ _).symm.trans H; rw [hy174]; with_reducible exact H2_) | (have H2_ := (Option.bind_some _ _).symm.trans H; with_reducible exact H2_) | with_reducible exact H | (rw [hy174]; exact H) | exact H
             have Ny174 := Aside0.mk hy174; clear hy174; have H' := Aside0.mk H; clear H; have p10 : 0 ≤ (x6_1 : Int) := odA; have q10 : (x6_1 : Int) < ((x5_1.length : Int) : Int) := odA; obtain ⟨go10, co10, eo10, gb10, gl10, cl10, HG10⟩ := Kd.R_form HO_5.out (by omega); (first | cases eo10 | (injection eo10 with ea_ en_ ec_; (first | subst ea_ | (injection ea_ with ea_; subst ea_)); subst ec_; clear en_))
             have GB10 := Aside0.mk gb10; have GG10 := Aside0.mk HG10; clear gb10 gl10 HG10; obtain ⟨hx10_0, hf10_0⟩ := Kd.R_celln 0 HO_5.out (x6_1 : Int) p10 q10; replace p10 := eq_true p10; replace q10 := eq_true q10; have HP11 := Kd.R_putg HO_5.out (x6_1 : Int) ((x0_1) % 256); go_wp2_with (first | ((with_reducible refine gate_store (t := 5) (p := 19) rfl ?_); refine store_event (t := 5) (p := 19) (v := ?vo_w12) (w1 := (wr.setCell ⟨go10, (x6_1 : Int).toNat, none⟩ (.int .u8 ((x0_1) % 256)))) ?hg ?ho ?hn ?hr ?_; (case ho => rfl); (case hg => rfl); (case hn => rfl); (case hr => first | (go_simp; done) | (go_simp; rfl)); intro w12 hw; have hg : wr.grownBy w12 (some go10) := (by rw [hw]; exact HP11.2); have hp_ : Kd.R (Kd.int .u8) 5 w12 w.heap.size (fun _ => True) (.slice (some ⟨go10, 0, none⟩) x5_1.length co10) y174 := (by rw [hw, Ny174.out]; exact HP11.1); clear HP11; replace HO_5 := Aside0.mk hp_; replace HB := Aside0.mk ((by rw [hw]; exact below_set (HB.out) GB10.out : Below w.heap.size w w12)); clear hg hw hp_))
             go_roundg k1
             case measure => have := HK1.out; omega
             case rel => exact ⟨(x0_1 / 256), (y174), (wrap64 (x6_1 - 1)), eqA, eqA, H', ⟨by have := HK1.out; omega⟩, ⟨rA HO_5⟩, ⟨belA⟩⟩
           · rw [if_neg c9] at H; exact absurd H (by simp)
         · rw [if_neg c8] at H; exact absurd H (by simp)
       · rw [if_neg c7] at H; have c7b0 := decide_eq_false c7; clear c7; obtain rfl := Option.some.inj H; go_wp2
         go_ret
         exact ⟨_, by first | rfl | (simp [errW_none, errW_some] <;> rfl) | (simp [*, errW_none, errW_some] <;> rfl) | (simp [wrap64]; done) | (simp [*, wrap64]; done), by (with_reducible repeat (first | apply Kd.R_alloc | apply Kd.R_drewN | apply Kd.R_drew)); exact HO_5.out, belA⟩
   · rw [if_neg c4] at H; exact absurd H (by simp)
 · rw [if_neg c3] at H; exact absurd H (by simp)

end Go.Proofs.Ytbojabmpcfclhaa.PFnExactFeed
