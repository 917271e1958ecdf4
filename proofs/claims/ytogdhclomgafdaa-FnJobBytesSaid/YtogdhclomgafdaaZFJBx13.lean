-- Written by a program of this session (the print of the kit with contracts of this session's own added)
import Derived.Test.YtogdhclomgafdaaZFJBx12
set_option maxHeartbeats 8000000
set_option maxRecDepth 100000
namespace Go.Proofs.Ytogdhclomgafdaa.PFnJobBytes
open Go.RowKit Go.Proofs.YtogdhclomgafdaaW.PrintWords Go.Proofs.YtogdhclomgafdaaW.PrintLast Go.Proofs.YtogdhclomgafdaaW.PrintMore Go.Proofs.YtogdhclomgafdaaW.PrintPack Go.Proofs.YtogdhclomgafdaaW.PrintPack
set_option linter.unusedVariables false
set_option linter.unusedSimpArgs false

def impl_DecodeJob.l1 : Nat → List Int → List Int → Int → Int → Bool → Int → Option (List Int × Int × Bool)
 | 0, _, _, _, _, _, _ => none
 | k + 1, x0, xs, m, at_, ok, kk => if ok = true then (if kk < m then ((impl_takeNumber.f k x0 at_).bind fun bt => (if xs.length < 17592186044416 then (impl_DecodeJob.l1 k x0 (xs ++ [bt.1]) m bt.2.1 bt.2.2 (wrap64 (kk + 1))) else (none))) else (some (xs, at_, true))) else (some (xs, at_, false))
def impl_DecodeJob.one (k : Nat) (x0 : List Int) (at_ : Int) (ok : Bool) : Option (List Int × Int × Bool) := (impl_takeNumber.f k x0 at_).bind fun bt => (impl_DecodeJob.l1 k x0 ([] : List Int) bt.1 bt.2.1 (ok && (bt.2.2 && (decide (0 ≤ bt.1) && decide (bt.1 ≤ 400)))) 0)
def impl_DecodeJob.g2 (k : Nat) (x0 A B : List Int) (at_ n : Int) : Option (Int × Int × List Int × List Int × Int × Bool) := if at_ = (x0.length : Int) then ((impl_isJob.f k (wrap64 (rd x0 0)) (wrap64 (rd x0 1)) A B n).bind fun t => (if t = true then (some (wrap64 (rd x0 0), wrap64 (rd x0 1), A, B, n, true)) else (some (0, 0, ([] : List Int), ([] : List Int), 0, false)))) else (some (0, 0, ([] : List Int), ([] : List Int), 0, false))
def impl_DecodeJob.g1 (k : Nat) (x0 A : List Int) (at_ n : Int) : Option (Int × Int × List Int × List Int × Int × Bool) := (impl_DecodeJob.one k x0 at_ true).bind fun r => (if r.2.2 = true then (impl_DecodeJob.g2 k x0 A r.1 r.2.1 n) else (some (0, 0, ([] : List Int), ([] : List Int), 0, false)))
def impl_DecodeJob.g0 (k : Nat) (x0 : List Int) (at_ : Int) (ok : Bool) (n : Int) : Option (Int × Int × List Int × List Int × Int × Bool) := (impl_DecodeJob.one k x0 at_ ok).bind fun r => (if r.2.2 = true then (impl_DecodeJob.g1 k x0 r.1 r.2.1 n) else (some (0, 0, ([] : List Int), ([] : List Int), 0, false)))
def impl_DecodeJob.f (k : Nat) (l0 : List Int) : Option (Int × Int × List Int × List Int × Int × Bool) := if (l0.length : Int) < 2 then (some (0, 0, ([] : List Int), ([] : List Int), 0, false)) else (if 0 < (l0.length : Int) then (if 1 < (l0.length : Int) then ((impl_takeNumber.f k l0 2).bind fun bt => (impl_DecodeJob.g0 k l0 bt.2.1 bt.2.2 bt.1)) else (none)) else (none))
theorem impl_DecodeJob.mono_l : ∀ k, (∀ y0 y1 y2 y3 y4 y5, LeO (impl_DecodeJob.l1 k y0 y1 y2 y3 y4 y5) (impl_DecodeJob.l1 (k + 1) y0 y1 y2 y3 y4 y5))
 | 0 => fun _ _ _ _ _ _ r h => by simp [impl_DecodeJob.l1] at h
 | k + 1 => by
  have ih0 := impl_DecodeJob.mono_l k
  · intro y0 y1 y2 y3 y4 y5; unfold impl_DecodeJob.l1; exact (by repeat' (with_reducible first | exact ih0 _ _ _ _ _ _ | exact impl_takeNumber.mono _ _ _ | exact LeO.refl _ | exact LeO.none _ | refine LeO.ite ?_ ?_ | refine LeO.bind ?_ (fun _ => ?_)))
theorem impl_DecodeJob.mono_one (k : Nat) (y0 : List Int) (y1 : Int) (y2 : Bool) : LeO (impl_DecodeJob.one k y0 y1 y2) (impl_DecodeJob.one (k + 1) y0 y1 y2) := LeO.bind (impl_takeNumber.mono _ _ _) (fun _ => impl_DecodeJob.mono_l k _ _ _ _ _ _)
theorem impl_DecodeJob.mono_g2 (k : Nat) (y0 y1 y2 : List Int) (y3 y4 : Int) : LeO (impl_DecodeJob.g2 k y0 y1 y2 y3 y4) (impl_DecodeJob.g2 (k + 1) y0 y1 y2 y3 y4) := LeO.ite (LeO.bind (impl_isJob.mono _ _ _ _ _ _) (fun _ => LeO.refl _)) (LeO.refl _)
theorem impl_DecodeJob.mono_g1 (k : Nat) (y0 y1 : List Int) (y3 y4 : Int) : LeO (impl_DecodeJob.g1 k y0 y1 y3 y4) (impl_DecodeJob.g1 (k + 1) y0 y1 y3 y4) := LeO.bind (impl_DecodeJob.mono_one k _ _ _) (fun _ => LeO.ite (impl_DecodeJob.mono_g2 k _ _ _ _ _) (LeO.refl _))
theorem impl_DecodeJob.mono_g0 (k : Nat) (y0 : List Int) (y3 : Int) (y4 : Bool) (y5 : Int) : LeO (impl_DecodeJob.g0 k y0 y3 y4 y5) (impl_DecodeJob.g0 (k + 1) y0 y3 y4 y5) := LeO.bind (impl_DecodeJob.mono_one k _ _ _) (fun _ => LeO.ite (impl_DecodeJob.mono_g1 k _ _ _ _) (LeO.refl _))
theorem impl_DecodeJob.mono : ∀ a0 k, LeO (impl_DecodeJob.f k a0) (impl_DecodeJob.f (k + 1) a0) := by
 intro a0 k
 unfold impl_DecodeJob.f
 exact LeO.ite (LeO.refl _) (LeO.ite (LeO.ite (LeO.bind (impl_takeNumber.mono _ _ _) (fun _ => impl_DecodeJob.mono_g0 k _ _ _ _)) (LeO.refl _)) (LeO.refl _))
theorem impl_DecodeJob.info : (Try.prog.info? 3).map (fun i => (i.zero, i.size, i.bytes)) = some (some (.int .i64 0), 1, 8) := by kernel_rfl
def impl_DecodeJob.T3 : Bool × List (List Nat × List Nat) := (true, [([], []), ([0], [0]), ([1], [1]), ([2], [2]), ([], []), ([4], [4]), ([5], [5]), ([6], [6]), ([3, 7], [3, 7]), ([], []), ([9, 8, 0, 1, 2, 3, 4, 5, 6, 7, 8, 9], [8, 9])])
def impl_DecodeJob.B3 : List Nat := [0, 1, 3, 7, 0, 16, 48, 112, 255, 0, 1023]
theorem impl_DecodeJob.tab3 : rtab .any (opsOf Try.f46 3) = impl_DecodeJob.T3 := by kernel_rfl
theorem impl_DecodeJob.bits3 : waitsOk impl_DecodeJob.T3.2 impl_DecodeJob.B3 = true := by kernel_rfl
theorem impl_DecodeJob.calls (k : Nat) (A0 : Option Addr) (c0 : Nat) (l0 : List Int) (r1 : Int) (r2 : Int) (r3 : List Int) (r4 : List Int) (r5 : Int) (r6 : Bool) (w : World) (hr0 : Kd.C (Kd.int .u8) w A0 l0.length l0) (hc0 : l0.length ≤ c0) (h : impl_DecodeJob.f k l0 = some (r1, r2, r3, r4, r5, r6)) :
 Calls Try.prog 46 #[.slice A0 l0.length c0] w fun e w' => ∃ v2_ v3_ : Value, e = .returned (.tuple #[.agg #[.int .i64 r1, .int .i64 r2, v2_, v3_, .int .i64 r5], .bool r6]) ∧ Kd.R (Kd.int .i64) 3 w' w.heap.size (fun k_ => some k_ ≠ (v3_ : Value).ownBlock) v2_ r3 ∧ Kd.R (Kd.int .i64) 3 w' w.heap.size (fun k_ => some k_ ≠ (v2_ : Value).ownBlock) v3_ r4 ∧ Below w.heap.size w w' := by
 have hu49 := Try.underlying49; have HR0 := ak hr0; have HC0 := ak hc0; clear hr0 hc0; have HB := ak (Below.refl w.heap.size w); have H : (if (l0.length : Int) < 2 then (some (0, 0, ([] : List Int), ([] : List Int), 0, false)) else (if 0 < (l0.length : Int) then (if 1 < (l0.length : Int) then ((impl_takeNumber.f k l0 2).bind fun bt184 => (impl_DecodeJob.g0 k l0 bt184.2.1 bt184.2.2 bt184.1)) else (none)) else (none))) = some (r1, r2, r3, r4, r5, r6) := h; clear h
 by_cases c2 : (l0.length : Int) < 2
 · rw [if_pos c2] at H; have c2b0 := decide_eq_true c2; have c2b1 : decide (l0.length < 2) = true := decide_eq_true (by omega); clear c2; simp only [Option.some.injEq, Prod.mk.injEq] at H; obtain ⟨rfl, rfl, rfl, rfl, rfl, rfl⟩ := H; go_enter Try.func46, Try.ntmps46
   go_wp2_with (first | ((with_reducible refine gate_dst (N := 2) rfl ?_); refine boxA 2 #[.int .i64 0, .int .i64 0, .slice none 0 0, .slice none 0 0, .int .i64 0] 49 ?_; intro gb180 hg w3 hbox hb; have BK180 := ak hbox; have GW180 := leA (w := w) hg; have GE180 := leA (w := w) hg; replace HB := bS hb; clear hb hbox hg; obtain ⟨_, _, _, _, _, _, _, _, _, _⟩ := cel5 BK180))
   refine bodyPost_ret (results_ct rfl _ _ gb180 49 #[.int .i64 0, .int .i64 0, .slice none 0 0, .slice none 0 0, .int .i64 0] (0, 0) _ rfl xq37 Try.underlying49 rfl (by kernel_rfl)) rfl ?_
   exact ⟨_, _, xq6, xq16, xq16, belA⟩
 rw [if_neg c2] at H; have c2b0 := decide_eq_false c2; have c2b1 : decide (l0.length < 2) = false := decide_eq_false (by omega); clear c2
 by_cases c5 : 0 < (l0.length : Int); rotate_left
 · rw [if_neg c5] at H; exact absurd H (by simp)
 rw [if_pos c5] at H; have c5b0 := decide_eq_true c5; have c5b1 : decide (0 < l0.length) = true := decide_eq_true (by omega); clear c5
 by_cases c6 : 1 < (l0.length : Int); rotate_left
 · rw [if_neg c6] at H; exact absurd H (by simp)
 rw [if_pos c6] at H; have c6b0 := decide_eq_true c6; have c6b1 : decide (1 < l0.length) = true := decide_eq_true (by omega); clear c6; replace H := Option.bind_eq_some_iff.mp H; obtain ⟨⟨t184, t185, t186⟩, A70, H⟩ := H; (try dsimp only at H); have A7 := ak A70; clear A70; have H' := ak H; clear H; go_enter Try.func46, Try.ntmps46
 try go_wp2_with (first | ((with_reducible refine gate_dst (N := 2) rfl ?_); refine boxA 2 #[.int .i64 0, .int .i64 0, .slice none 0 0, .slice none 0 0, .int .i64 0] 49 ?_; intro gb180 hg w8 hbox hb; have BK180 := ak hbox; have GW180 := leA (w := w) hg; have GE180 := leA (w := w) hg; replace HB := bS hb; clear hb hbox hg))
 replace BK180 := ak (blk_drew BK180.out); replace HB := ak (below_drew1 HB.out); have p181 : 0 ≤ (0 : Int) := (by omega); have q181 : 0 < (l0.length : Int) := odA; obtain ⟨ad181, e181, hx181_0⟩ := Kd.at_int HR0.out 0 p181 q181; have hw181_0 := hx181_0; (try rw [show ((0 : Int)).toNat = 0 from rfl] at hw181_0)
 (try rw [show 0 * 1 = 0 from rfl] at hw181_0)
 (try rw [Addr.add_zero'] at hw181_0)
 cases e181
 have qi181 : (0 < l0.length) = True := eq_true (by omega); (try rw [show ((0 : Int)).toNat = 0 from rfl] at hx181_0)
 (try rw [Addr.add_zero'] at hx181_0)
 try replace hx181_0 := cB HB hx181_0
 replace p181 := eq_true p181; replace q181 := eq_true q181; have p182 : 0 ≤ (1 : Int) := (by omega); have q182 : 1 < (l0.length : Int) := odA; obtain ⟨ad182, e182, hx182_0⟩ := Kd.at_int HR0.out 1 p182 q182; have hw182_0 := hx182_0; (try rw [show ((1 : Int)).toNat = 1 from rfl] at hw182_0)
 (try rw [show 1 * 1 = 1 from rfl] at hw182_0)
 (try simp only [Nat.reduceMul, Nat.reduceEqDiff, Go.Addr.add, ↓reduceIte] at hw182_0)
 obtain rfl : ad181 = ad182 := (by injection e182); (try simp only [show (1 : Int).toNat = 1 from rfl, Nat.reduceMul, Nat.reduceEqDiff, Go.Addr.add, ↓reduceIte] at hx182_0)
 have qi182 : (1 < l0.length) = True := eq_true (by omega); (try rw [show ((1 : Int)).toNat = 1 from rfl] at hx182_0)
 try replace hx182_0 := cB HB hx182_0
 replace p182 := eq_true p182; replace q182 := eq_true q182; refine start_ (n := 11) (S := fun w' => w'.cell? ad181 = some (.int .u8 (rd l0 0)) ∧ w'.cell? ⟨ad181.block, ad181.off + 1, none⟩ = some (.int .u8 (rd l0 1))) (ds := []) #[false, false, false, false, false, false, false, false, false, false, false] (by kernel_rfl) rfl rfl ⟨((HB.out.cell (World.block_lt_of_cell? w _ hw181_0)).trans hw181_0), ((HB.out.cell (World.block_lt_of_cell? w _ hw182_0)).trans hw182_0)⟩ (fun hHeld => ?_); refine with_tabW impl_DecodeJob.tab3 impl_DecodeJob.bits3 (fun HT_ HW_ => ?_)
 generalize w8.drew = w9 at BK180 HB hx181_0 hx182_0 hHeld ⊢
 refine pure_ (i := 0) (N := some 18) (v := ?_) (a' := ?_) #[true, false, false, false, false, false, false, false, false, false, false] rfl rfl (any_of HT_.out (by kernel_rfl)) (fun _ _ _ h => h) (Or.inl ⟨by rfl, ?_⟩) ?_ ?_
 rotate_left
 · intro w'; go_simp
   with_reducible rfl
 rotate_left
 · simp only [Act.put, sa, sb, sc, i64_w, i32_w]
   rfl
 refine pure_ (i := 1) (N := some 19) (v := ?_) (a' := ?_) #[true, true, false, false, false, false, false, false, false, false, false] rfl rfl (any_of HT_.out (by kernel_rfl)) (fun _ _ _ h => h) (Or.inl ⟨by rfl, ?_⟩) ?_ ?_
 rotate_left
 · intro w'; go_simp
   with_reducible rfl
 rotate_left
 · simp only [Act.put, sa, sb, sc, i64_w, i32_w]
   rfl
 refine pure_ (i := 4) (N := some 22) (v := ?_) (a' := ?_) #[true, true, false, false, true, false, false, false, false, false, false] rfl rfl (any_of HT_.out (by kernel_rfl)) (fun _ _ _ h => h) (Or.inl ⟨by rfl, ?_⟩) ?_ ?_
 rotate_left
 · intro w'; go_simp
   with_reducible rfl
 rotate_left
 · simp only [Act.put, sa, sb, sc, i64_w, i32_w]
   rfl
 refine pure_ (i := 5) (N := some 23) (v := ?_) (a' := ?_) #[true, true, false, false, true, true, false, false, false, false, false] rfl rfl (any_of HT_.out (by kernel_rfl)) (fun _ _ _ h => h) (Or.inl ⟨by rfl, ?_⟩) ?_ ?_
 rotate_left
 · intro w'; go_simp
   with_reducible rfl
 rotate_left
 · simp only [Act.put, sa, sb, sc, i64_w, i32_w]
   rfl
 refine take_ (i := 2) (N := some 20) (v := ?_) (a' := ?_) #[true, true, true, false, true, true, false, false, false, false, false] rfl rfl (take_ofW HT_.out HW_.out (by kernel_rfl)) (fun _ _ _ h => h) (Or.inl ⟨by rfl, ?_⟩) hHeld ?_ ?_
 rotate_left
 · rintro w' ⟨s0, s1⟩
   go_simp
   with_reducible rfl
 rotate_left
 · simp only [Act.put, sa, sb, sc, i64_w, i32_w]
   rfl
 refine pure_ (i := 3) (N := some 21) (v := ?_) (a' := ?_) #[true, true, true, true, true, true, false, false, false, false, false] rfl rfl (any_of HT_.out (by kernel_rfl)) (fun _ _ _ h => h) (Or.inl ⟨by rfl, ?_⟩) ?_ ?_
 rotate_left
 · intro w'; go_simp
   with_reducible rfl
 rotate_left
 · simp only [Act.put, sa, sb, sc, i64_w, i32_w]
   rfl
 refine take_ (i := 6) (N := some 24) (v := ?_) (a' := ?_) #[true, true, true, true, true, true, true, false, false, false, false] rfl rfl (take_ofW HT_.out HW_.out (by kernel_rfl)) (fun _ _ _ h => h) (Or.inl ⟨by rfl, ?_⟩) hHeld ?_ ?_
 rotate_left
 · rintro w' ⟨s0, s1⟩
   go_simp
   with_reducible rfl
 rotate_left
 · simp only [Act.put, sa, sb, sc, i64_w, i32_w]
   rfl
 refine pure_ (i := 7) (N := some 25) (v := ?_) (a' := ?_) #[true, true, true, true, true, true, true, true, false, false, false] rfl rfl (any_of HT_.out (by kernel_rfl)) (fun _ _ _ h => h) (Or.inl ⟨by rfl, ?_⟩) ?_ ?_
 rotate_left
 · intro w'; go_simp
   with_reducible rfl
 rotate_left
 · simp only [Act.put, sa, sb, sc, i64_w, i32_w]
   rfl
 refine pure_ (i := 8) (N := some 26) (v := ?_) (a' := ?_) #[true, true, true, true, true, true, true, true, true, false, false] rfl rfl (any_of HT_.out (by kernel_rfl)) (fun _ _ _ h => h) (Or.inl ⟨by rfl, ?_⟩) ?_ ?_
 rotate_left
 · intro w'; go_simp
   with_reducible rfl
 rotate_left
 · simp only [Act.put, sa, sb, sc, i64_w, i32_w]
   rfl
 refine one_ (i := 9) (N := some 4) #[true, true, true, true, true, true, true, true, true, true, false] rfl rfl (one_of HT_.out (by kernel_rfl)) (by decide) (fun K hK => ?_)
 refine box_step ?hg (N := 4) ?hd (cs := #[.int .i64 0, .int .i64 0, .slice none 0 0, .slice none 0 0, .int .i64 0]) (t := 49) ?hr ?_; (case hd => rfl); (case hg => rfl); (case hr => exact xq11)
 intro gb183 hg w10 hbox hb; have BK183 := ak hbox; have GW183 := leA (w := w) hg; have GE183 := leA (w := w) hg; have NB180_183 := neL hg BK180; have NB183_180 := neG hg BK180; replace BK180 := bB BK180 hb; replace HB := bS hb; clear hb hbox hg; refine hK.out _ _ ⟨((HB.out.cell (World.block_lt_of_cell? w _ hw181_0)).trans hw181_0), ((HB.out.cell (World.block_lt_of_cell? w _ hw182_0)).trans hw182_0)⟩ (fun hHeld => ?_)
 clear hK K; refine norm_ (a' := ?_) ?_ ?_
 rotate_left
 · show Act.put _ (some 4) _ = _
   simp only [Act.put, sa, sb, sc, i64_w, i32_w]
   rfl
 refine one_ (i := 10) (N := none) #[true, true, true, true, true, true, true, true, true, true, true] rfl rfl (one_of HT_.out (by kernel_rfl)) (by decide) (fun K hK => ?_)
 have hs11 : w10.cell? ⟨gb183, 0, none⟩ = some (.int .i64 0) := (blk_cell BK183.out 0).trans rfl; have hfs11 := blk_frozen BK183.out 0; have hns11_0 := NB180_183.out; have hms11_0 := NB183_180.out; have hs12 : w10.cell? ⟨gb183, 1, none⟩ = some (.int .i64 0) := (blk_cell BK183.out 1).trans rfl; have hfs12 := blk_frozen BK183.out 1; have hns12_0 := NB180_183.out; have hms12_0 := NB183_180.out; have hs13 : w10.cell? ⟨gb183, 2, none⟩ = some (.slice none 0 0) := (blk_cell BK183.out 2).trans rfl; have hfs13 := blk_frozen BK183.out 2; have hns13_0 := NB180_183.out; have hms13_0 := NB183_180.out; have hs14 : w10.cell? ⟨gb183, 3, none⟩ = some (.slice none 0 0) := (blk_cell BK183.out 3).trans rfl; have hfs14 := blk_frozen BK183.out 3; have hns14_0 := NB180_183.out; have hms14_0 := NB183_180.out; have hs15 : w10.cell? ⟨gb183, 4, none⟩ = some (.int .i64 0) := (blk_cell BK183.out 4).trans rfl; have hfs15 := blk_frozen BK183.out 4; have hns15_0 := NB180_183.out; have hms15_0 := NB183_180.out; refine skip_ (w1 := ?_) (by rfl) rfl ?_ ?_
 rotate_left
 · go_simp
   rfl
 refine hK.out _ _ ⟨((cell_far (p := ⟨gb183, _, none⟩) xq38 _).trans (((cell_far (p := ⟨gb183, _, none⟩) xq38 _).trans (((cell_far (p := ⟨gb183, _, none⟩) xq38 _).trans (((cell_far (p := ⟨gb183, _, none⟩) xq38 _).trans (((cell_far (p := ⟨gb183, _, none⟩) xq38 _).trans (hHeld.1)))))))))), ((cell_far (p := ⟨gb183, _, none⟩) xq39 _).trans (((cell_far (p := ⟨gb183, _, none⟩) xq39 _).trans (((cell_far (p := ⟨gb183, _, none⟩) xq39 _).trans (((cell_far (p := ⟨gb183, _, none⟩) xq39 _).trans (((cell_far (p := ⟨gb183, _, none⟩) xq39 _).trans (hHeld.2))))))))))⟩ (fun hHeld => ?_)
 clear hK K; refine done_ (done_of HT_.out (by kernel_rfl)) ?_
 obtain ⟨W11, hW11⟩ : ∃ W_ : World, W_ = (((((w10.setCell ⟨gb183, 0, none⟩ (.int .i64 (wrap64 (rd l0 0)))).setCell ⟨gb183, 1, none⟩ (.int .i64 (wrap64 (rd l0 1)))).setCell ⟨gb183, 2, none⟩ (.slice none 0 0)).setCell ⟨gb183, 3, none⟩ (.slice none 0 0)).setCell ⟨gb183, 4, none⟩ (.int .i64 0)) := ⟨_, rfl⟩; have n1_ : Aside0 (W11.heap[gb180]? = some (.cells #[.int .i64 0, .int .i64 0, .slice none 0 0, .slice none 0 0, .int .i64 0] 49 (0, 0))) := ak (by rw [hW11]; exact blk_far (blk_far (blk_far (blk_far (blk_far BK180.out NB180_183.out _) NB180_183.out _) NB180_183.out _) NB180_183.out _) NB180_183.out _); have n2_ : Aside0 (W11.heap[gb183]? = some (.cells #[.int .i64 (wrap64 (rd l0 0)), .int .i64 (wrap64 (rd l0 1)), .slice none 0 0, .slice none 0 0, .int .i64 0] 49 (0, 0))) := ak (by rw [hW11]; refine blk_put (cs := #[.int .i64 (wrap64 (rd l0 0)), .int .i64 (wrap64 (rd l0 1)), .slice none 0 0, .slice none 0 0, .int .i64 0]) ?_ 4 _ rfl; refine blk_put (cs := #[.int .i64 (wrap64 (rd l0 0)), .int .i64 (wrap64 (rd l0 1)), .slice none 0 0, .slice none 0 0, .int .i64 0]) ?_ 3 _ rfl; refine blk_put (cs := #[.int .i64 (wrap64 (rd l0 0)), .int .i64 (wrap64 (rd l0 1)), .slice none 0 0, .slice none 0 0, .int .i64 0]) ?_ 2 _ rfl; refine blk_put (cs := #[.int .i64 (wrap64 (rd l0 0)), .int .i64 0, .slice none 0 0, .slice none 0 0, .int .i64 0]) ?_ 1 _ rfl; refine blk_put (cs := #[.int .i64 0, .int .i64 0, .slice none 0 0, .slice none 0 0, .int .i64 0]) ?_ 0 _ rfl; exact BK183.out); have n3_ : Aside0 (Below w.heap.size w W11) := ak (by rw [hW11]; exact below_set (below_set (below_set (below_set (below_set HB.out GE183.out) GE183.out) GE183.out) GE183.out) GE183.out); rw [← hW11]; clear BK180 BK183 HB hHeld hW11; have BK180 := n1_; have BK183 := n2_; have HB := n3_; clear n1_ n2_ n3_; have HN12 := ak NB180_183.out; have HN21 := ak NB183_180.out; go_upto_region 4 with (fail)
 (try simp only [Act.put, sa, sb, sc])
 go_cut [5, 6, 7] (fun v5 v6 v7 wc => v5 = .int .i64 t184 ∧ v6 = .int .i64 t185 ∧ v7 = .bool t186 ∧ Aside0 (wc.heap[gb180]? = some (.cells #[.int .i64 0, .int .i64 0, .slice none 0 0, .slice none 0 0, .int .i64 0] 49 (0, 0))) ∧ Aside0 (wc.heap[gb183]? = some (.cells #[.int .i64 (wrap64 (rd l0 0)), .int .i64 (wrap64 (rd l0 1)), .slice none 0 0, .slice none 0 0, .int .i64 0] 49 (0, 0))) ∧ Aside0 (Below w.heap.size w wc))
 case first =>
  go_wp2_with (first | ((with_reducible refine gate_callee (f := 85) rfl ?_); refine goA (some 29) Try.func85 #[.slice (some ad181) l0.length c0, .int .i64 2] rfl ?_; (with_reducible refine (impl_takeNumber.calls k _ _ l0 2 t184 t185 t186 _ ?side1 ?side2 A7.out).mono ?_); (case side1 => exact xq41); (case side2 => exact HC0.out); rintro e w' ⟨rfl, ⟨nd, rfl⟩⟩; refine ⟨_, rfl, ?_⟩))
  go_meet
  case rel => exact ⟨eqA, eqA, eqA, ⟨blkA⟩, ⟨blkA⟩, ⟨belA⟩⟩
 case rest =>
  clear BK180 BK183 HB A7; obtain ⟨rfl, rfl, rfl, BK180, BK183, HB⟩ := hcut; go_upto_region 5 with (fail)
  (try simp only [Act.put, sa, sb, sc])
  go_cut [] (fun wc => Aside0 (wc.heap[gb180]? = some (.cells #[.int .i64 0, .int .i64 0, .slice none 0 0, .slice none 0 0, .int .i64 0] 49 (0, 0))) ∧ Aside0 (wc.heap[gb183]? = some (.cells #[.int .i64 (wrap64 (rd l0 0)), .int .i64 (wrap64 (rd l0 1)), .slice none 0 0, .slice none 0 0, .int .i64 t184] 49 (0, 0))) ∧ Aside0 (Below w.heap.size w wc))
  case first =>
   have hczq_0 := (blk_cell BK183.out 0).trans rfl; have hczq_1 := (blk_cell BK183.out 1).trans rfl; have hczq_2 := (blk_cell BK183.out 2).trans rfl; have hczq_3 := (blk_cell BK183.out 3).trans rfl; have hczq_4 := (blk_cell BK183.out 4).trans rfl; have hfzq_0 := blk_frozen BK183.out 0; have hfzq_1 := blk_frozen BK183.out 1; have hfzq_2 := blk_frozen BK183.out 2; have hfzq_3 := blk_frozen BK183.out 3; have hfzq_4 := blk_frozen BK183.out 4; have hn_ := HN12.out; have hm_ := HN21.out; go_wp2
   go_meet
   case rel => exact ⟨⟨by (with_reducible repeat (first | refine blk_drewN ?_ _ | refine blk_drew ?_ | refine blk_alloc ?_ _)); exact blk_far BK180.out HN12.out _⟩, ⟨by refine blk_put (cs := #[.int .i64 (wrap64 (rd l0 0)), .int .i64 (wrap64 (rd l0 1)), .slice none 0 0, .slice none 0 0, .int .i64 0]) ?_ 4 _ rfl; (with_reducible repeat (first | refine blk_drewN ?_ _ | refine blk_drew ?_ | refine blk_alloc ?_ _)); exact BK183.out⟩, ⟨belA⟩⟩
  case rest =>
   clear BK180 BK183 HB; obtain ⟨BK180, BK183, HB⟩ := hcut; go_upto_region 6 with (fail)
   (try simp only [Act.put, sa, sb, sc])
   go_cut [37, 38, 39] (fun v37 v38 v39 wc => ∃ G : Nat, v37 = .slice (some ⟨G, 0, none⟩) 2 2 ∧ v38 = .int .i64 2 ∧ v39 = .int .i64 0 ∧ Aside0 (w.heap.size ≤ G) ∧ Aside0 (G ≠ gb180) ∧ Aside0 (G ≠ gb183) ∧ Aside0 (wc.heap[gb180]? = some (.cells #[.int .i64 0, .int .i64 0, .slice none 0 0, .slice none 0 0, .int .i64 0] 49 (0, 0))) ∧ Aside0 (wc.heap[gb183]? = some (.cells #[.int .i64 (wrap64 (rd l0 0)), .int .i64 (wrap64 (rd l0 1)), .slice none 0 0, .slice none 0 0, .int .i64 t184] 49 (0, 0))) ∧ Aside0 (wc.heap[G]? = some (.cells #[.pointer (some ⟨gb183, 2, none⟩), .pointer (some ⟨gb183, 3, none⟩)] 111 (0, 0))) ∧ Aside0 (Below w.heap.size w wc))
   case first =>
    have hsz := below_size HB.out; have hl1 := blk_lt BK180.out; have hl2 := blk_lt BK183.out; have HSZ := ak hsz; have HL1 := ak hl1; have HL2 := ak hl2; clear hsz hl1 hl2; go_wp2
    go_meet
    case rel => exact ⟨_, by first | rfl | (simp; done), eqA, eqA, ⟨HSZ.out⟩, ⟨fun e_ => absurd HL1.out (by rw [← e_]; exact Nat.lt_irrefl _)⟩, ⟨fun e_ => absurd HL2.out (by rw [← e_]; exact Nat.lt_irrefl _)⟩, ⟨blk_alloc BK180.out _⟩, ⟨blk_alloc BK183.out _⟩, ⟨blk_new _ _⟩, ⟨below_alloc HB.out _⟩⟩
   case rest =>
    clear BK180 BK183 HB; obtain ⟨G, rfl, rfl, rfl, GEG, GN1, GN2, BK180, BK183, BKG, HB⟩ := hcut; go_wp2
    go_loopg [6, 7, 39] 2 (fun kq v6 v7 v39 w' => (kq = 2 ∧ v39 = .int .i64 0 ∧ ∃ (x6 : Int) (x7 : Bool), v6 = .int .i64 x6 ∧ v7 = .bool x7 ∧ Aside0 (impl_DecodeJob.g0 k l0 x6 x7 t184 = some (r1, r2, r3, r4, r5, r6)) ∧ Aside0 (w'.heap[gb180]? = some (.cells #[.int .i64 0, .int .i64 0, .slice none 0 0, .slice none 0 0, .int .i64 0] 49 (0, 0))) ∧ Aside0 (w'.heap[gb183]? = some (.cells #[.int .i64 (wrap64 (rd l0 0)), .int .i64 (wrap64 (rd l0 1)), .slice none 0 0, .slice none 0 0, .int .i64 t184] 49 (0, 0))) ∧ Aside0 (w'.heap[G]? = some (.cells #[.pointer (some ⟨gb183, 2, none⟩), .pointer (some ⟨gb183, 3, none⟩)] 111 (0, 0))) ∧ Aside0 (Below w.heap.size w w')) ∨ (kq = 1 ∧ v39 = .int .i64 1 ∧ ∃ (x6 : Int) (A : List Int) (vA : Value), v6 = .int .i64 x6 ∧ v7 = .bool true ∧ Aside0 (impl_DecodeJob.g1 k l0 A x6 t184 = some (r1, r2, r3, r4, r5, r6)) ∧ Aside0 (Kd.R (Kd.int .i64) 3 w' w.heap.size (fun k_ => True) vA A) ∧ Aside0 (w'.heap[gb180]? = some (.cells #[.int .i64 0, .int .i64 0, .slice none 0 0, .slice none 0 0, .int .i64 0] 49 (0, 0))) ∧ Aside0 (w'.heap[gb183]? = some (.cells #[.int .i64 (wrap64 (rd l0 0)), .int .i64 (wrap64 (rd l0 1)), vA, .slice none 0 0, .int .i64 t184] 49 (0, 0))) ∧ Aside0 (w'.heap[G]? = some (.cells #[.pointer (some ⟨gb183, 2, none⟩), .pointer (some ⟨gb183, 3, none⟩)] 111 (0, 0))) ∧ Aside0 (Below w.heap.size w w')) ∨ (kq = 0 ∧ v39 = .int .i64 2 ∧ ∃ (x6 : Int) (A B : List Int) (vA vB : Value), v6 = .int .i64 x6 ∧ v7 = .bool true ∧ Aside0 (impl_DecodeJob.g2 k l0 A B x6 t184 = some (r1, r2, r3, r4, r5, r6)) ∧ Aside0 (Kd.R (Kd.int .i64) 3 w' w.heap.size (fun k_ => some k_ ≠ (vB : Value).ownBlock) vA A) ∧ Aside0 (Kd.R (Kd.int .i64) 3 w' w.heap.size (fun k_ => some k_ ≠ (vA : Value).ownBlock) vB B) ∧ Aside0 (w'.heap[gb180]? = some (.cells #[.int .i64 0, .int .i64 0, .slice none 0 0, .slice none 0 0, .int .i64 0] 49 (0, 0))) ∧ Aside0 (w'.heap[gb183]? = some (.cells #[.int .i64 (wrap64 (rd l0 0)), .int .i64 (wrap64 (rd l0 1)), vA, vB, .int .i64 t184] 49 (0, 0))) ∧ Aside0 (w'.heap[G]? = some (.cells #[.pointer (some ⟨gb183, 2, none⟩), .pointer (some ⟨gb183, 3, none⟩)] 111 (0, 0))) ∧ Aside0 (Below w.heap.size w w')))
    case atStart => exact .inl ⟨rfl, eqA, t185, t186, eqA, eqA, H', ⟨blkA⟩, ⟨blkA⟩, ⟨xq22⟩, ⟨belA⟩⟩
    case round =>
     clear H' BK180 BK183 BKG HB
     rcases hrel with hrel | hrel | hrel
     · obtain ⟨rfl, rfl, x6, x7, rfl, rfl, HA, BK180, BK183, BKG, HB⟩ := hrel; have H := HA.out; clear HA
       unfold impl_DecodeJob.g0 at H
       replace H := Option.bind_eq_some_iff.mp H; obtain ⟨⟨xs, at1, ok1⟩, HL, H⟩ := H
       unfold impl_DecodeJob.one at HL
       replace HL := Option.bind_eq_some_iff.mp HL; obtain ⟨⟨t1, t2, t3⟩, A190, HL⟩ := HL; dsimp only at HL H
       have A19 := ak A190; clear A190; have HH := ak H; have HLL := ak HL; clear H HL; have hG := (blk_cell BKG.out 0).trans rfl; go_upto_region 11 with (first | ((with_reducible refine gate_callee (f := 85) rfl ?_); refine goA (some 46) Try.func85 #[.slice (some ad181) l0.length c0, .int .i64 x6] rfl ?_; (with_reducible refine (impl_takeNumber.calls k _ _ l0 x6 t1 t2 t3 _ ?side1 ?side2 A19.out).mono ?_); (case side1 => exact xq41); (case side2 => exact HC0.out); rintro e w' ⟨rfl, ⟨nd, rfl⟩⟩; refine ⟨_, rfl, ?_⟩))
       (try simp only [Act.put, sa, sb, sc])
       go_cut [7] (fun v7 wc => v7 = .bool (x7 && (t3 && (decide (0 ≤ t1) && decide (t1 ≤ 400)))) ∧ Aside0 (wc.heap[gb180]? = some (.cells #[.int .i64 0, .int .i64 0, .slice none 0 0, .slice none 0 0, .int .i64 0] 49 (0, 0))) ∧ Aside0 (wc.heap[gb183]? = some (.cells #[.int .i64 (wrap64 (rd l0 0)), .int .i64 (wrap64 (rd l0 1)), .slice none 0 0, .slice none 0 0, .int .i64 t184] 49 (0, 0))) ∧ Aside0 (wc.heap[G]? = some (.cells #[.pointer (some ⟨gb183, 2, none⟩), .pointer (some ⟨gb183, 3, none⟩)] 111 (0, 0))) ∧ Aside0 (Below w.heap.size w wc))
       case first =>
        clear HH HLL A19 hG
        cases x7 with
        | false =>
         go_wp2
         go_meet
         case rel => exact ⟨eqA, ⟨blkA⟩, ⟨blkA⟩, ⟨xq22⟩, ⟨belA⟩⟩
        | true =>
         cases t3 with
         | false =>
          go_wp2
          go_meet
          case rel => exact ⟨eqA, ⟨blkA⟩, ⟨blkA⟩, ⟨xq22⟩, ⟨belA⟩⟩
         | true =>
          go_wp2
          · go_meet
            case rel => exact ⟨xq50, ⟨blkA⟩, ⟨blkA⟩, ⟨xq22⟩, ⟨belA⟩⟩
          · go_meet
            case rel => exact ⟨xq50, ⟨blkA⟩, ⟨blkA⟩, ⟨xq22⟩, ⟨belA⟩⟩
       case rest =>
        clear BK180 BK183 BKG HB hG A19; obtain ⟨rfl, BK180, BK183, BKG, HB⟩ := hcut; go_upto_block 2 with (fail)
        (try simp only [Act.put, sa, sb, sc])
        go_cut [6, 7] (fun v6 v7 wc => ∃ u : Value, v6 = .int .i64 at1 ∧ v7 = .bool ok1 ∧ Aside0 (Kd.R (Kd.int .i64) 3 wc w.heap.size (fun k_ => True) u xs) ∧ Aside0 (wc.heap[gb180]? = some (.cells #[.int .i64 0, .int .i64 0, .slice none 0 0, .slice none 0 0, .int .i64 0] 49 (0, 0))) ∧ Aside0 (wc.heap[gb183]? = some (.cells #[.int .i64 (wrap64 (rd l0 0)), .int .i64 (wrap64 (rd l0 1)), u, .slice none 0 0, .int .i64 t184] 49 (0, 0))) ∧ Aside0 (wc.heap[G]? = some (.cells #[.pointer (some ⟨gb183, 2, none⟩), .pointer (some ⟨gb183, 3, none⟩)] 111 (0, 0))) ∧ Aside0 (Below w.heap.size w wc))
        case first =>
         go_wp2
         go_loopg [6, 7, 13] k (fun kq v6 v7 v13 w' => ∃ (xs3 : List Int) (u : Value) (x6_3 : Int) (x7_3 : Bool) (x13_3 : Int), v6 = .int .i64 x6_3 ∧ v7 = .bool x7_3 ∧ v13 = .int .i64 x13_3 ∧ Aside0 (impl_DecodeJob.l1 kq l0 xs3 t1 x6_3 x7_3 x13_3 = some (xs, at1, ok1)) ∧ Aside0 (kq ≤ k) ∧ Aside0 (Kd.R (Kd.int .i64) 3 w' w.heap.size (fun k_ => True) u xs3) ∧ Aside0 (w'.heap[gb180]? = some (.cells #[.int .i64 0, .int .i64 0, .slice none 0 0, .slice none 0 0, .int .i64 0] 49 (0, 0))) ∧ Aside0 (w'.heap[gb183]? = some (.cells #[.int .i64 (wrap64 (rd l0 0)), .int .i64 (wrap64 (rd l0 1)), u, .slice none 0 0, .int .i64 t184] 49 (0, 0))) ∧ Aside0 (w'.heap[G]? = some (.cells #[.pointer (some ⟨gb183, 2, none⟩), .pointer (some ⟨gb183, 3, none⟩)] 111 (0, 0))) ∧ Aside0 (Below w.heap.size w w'))
         case atStart => exact ⟨[], (.slice none 0 0), _, _, 0, eqA, eqA, eqA, HLL, ⟨Nat.le_refl _⟩, ⟨Kd.R_nil _ _ _ _ _⟩, ⟨blkA⟩, ⟨blkA⟩, ⟨xq22⟩, ⟨belA⟩⟩
         case round =>
          clear HLL HH BK180 BK183 BKG HB; obtain ⟨xs3, u, x6_3, x7_3, x13_3, rfl, rfl, rfl, HA, HK3, HO, BK180, BK183, BKG, HB⟩ := hrel
          cases gk with
          | zero => exact absurd HA.out (by simp [impl_DecodeJob.l1])
          | succ k3 =>
           have H := HA.out; clear HA; simp only [impl_DecodeJob.l1] at H
           cases x7_3 with
           | false =>
            rw [if_neg (by decide)] at H; simp only [Option.some.injEq, Prod.mk.injEq] at H; obtain ⟨rfl, rfl, rfl⟩ := H; go_wp2
            go_meet
            case rel => exact ⟨u, eqA, eqA, ⟨rA HO⟩, ⟨blkA⟩, ⟨blkA⟩, ⟨xq22⟩, ⟨belA⟩⟩
           | true =>
            rw [if_pos rfl] at H
            by_cases c28 : x13_3 < t1; rotate_left
            · rw [if_neg c28] at H; have c28b0 := decide_eq_false c28; clear c28; (first | rw [c28b0] | (simp only [i64_w, i32_w]; rw [c28b0]) | skip)
              simp only [Option.some.injEq, Prod.mk.injEq] at H; obtain ⟨rfl, rfl, rfl⟩ := H; go_wp2
              go_meet
              case rel => exact ⟨u, eqA, eqA, ⟨rA HO⟩, ⟨blkA⟩, ⟨blkA⟩, ⟨xq22⟩, ⟨belA⟩⟩
            rw [if_pos c28] at H; have c28b0 := decide_eq_true c28; clear c28; (first | rw [c28b0] | (simp only [i64_w, i32_w]; rw [c28b0]) | skip)
            replace H := Option.bind_eq_some_iff.mp H; obtain ⟨⟨t4, t5, t6⟩, A290, H⟩ := H; have A29 := ak A290; clear A290; dsimp only at H
            by_cases c30 : xs3.length < 17592186044416; rotate_left
            · rw [if_neg c30] at H; exact absurd H (by simp)
            rw [if_pos c30] at H; have LMc30 := ak c30; clear c30; have H' := ak H; clear H; obtain ⟨Au, cu, eu⟩ := Kd.R_slice HO.out; subst eu; have hczj_0 := (blk_cell BK183.out 0).trans rfl; have hczj_1 := (blk_cell BK183.out 1).trans rfl; have hczj_2 := (blk_cell BK183.out 2).trans rfl; have hczj_3 := (blk_cell BK183.out 3).trans rfl; have hczj_4 := (blk_cell BK183.out 4).trans rfl; have hfzj_0 := blk_frozen BK183.out 0; have hfzj_1 := blk_frozen BK183.out 1; have hfzj_2 := blk_frozen BK183.out 2; have hfzj_3 := blk_frozen BK183.out 3; have hfzj_4 := blk_frozen BK183.out 4; go_wp2_with (first | ((with_reducible refine gate_callee (f := 85) rfl ?_); refine goA (some 74) Try.func85 #[.slice (some ad181) l0.length c0, .int .i64 x6_3] rfl ?_; (with_reducible refine (impl_takeNumber.calls k3 _ _ l0 x6_3 t4 t5 t6 _ ?side1 ?side2 A29.out).mono ?_); (case side1 => exact xq41); (case side2 => exact HC0.out); rintro e w' ⟨rfl, ⟨nd, rfl⟩⟩; refine ⟨_, rfl, ?_⟩) | ((with_reducible refine gate_builtin (b := .append) (xs := #[.tmp 81, .tmp 83]) rfl ?_); at_builtin; refine Kd.R_append (Kd.int .i64) (w0 := w) w.heap.size rfl (.tmp 81) (.tmp 83) 33 3 (.int .i64 0) 8 rfl Try.underlying33 impl_DecodeJob.info rfl (by decide) (by omega) (.slice Au xs3.length cu) xs3 t4 [.int .i64 t4] (fun k_ => True) (fun _ => False) rfl rfl ?aP (fun _ hk => hk.elim) ?aF ?aO ?aB ?aS ?aL ?_; (case aP => exact rfl); (case aB => exact belA); (case aF => exact (fun k_ hk => trivial)); (case aO => exact (rA HO)); (case aS => exact (below_size belA)); (case aL => have := LMc30.out; omega); intro v198 w31 ho hb hg hat; have n2_ := ak (blk_grown (g := gb180) (o := .cells #[.int .i64 0, .int .i64 0, .slice none 0 0, .slice none 0 0, .int .i64 0] 49 (0, 0)) blkA hg (Kd.R_ne HO.out BK180.out (by decide))); have n3_ := ak (blk_grown (g := gb183) (o := .cells #[.int .i64 (wrap64 (rd l0 0)), .int .i64 (wrap64 (rd l0 1)), (.slice Au xs3.length cu), .slice none 0 0, .int .i64 t184] 49 (0, 0)) blkA hg (Kd.R_ne HO.out BK183.out (by decide))); have n4_ := ak (blk_grown (g := G) (o := .cells #[.pointer (some ⟨gb183, 2, none⟩), .pointer (some ⟨gb183, 3, none⟩)] 111 (0, 0)) xq22 hg (Kd.R_ne HO.out BKG.out (by decide))); have n5_ := ak hb; have n6_ := ak ho; clear BK180 BK183 BKG HB HO; have BK180 := n2_; have BK183 := n3_; have BKG := n4_; have HB := n5_; have HO := n6_; clear n2_ n3_ n4_ n5_ n6_ ho hb hg hat; obtain ⟨Av, cv, ev⟩ := Kd.R_slice HO.out; subst ev; have hczk_0 := (blk_cell BK183.out 0).trans rfl; have hczk_1 := (blk_cell BK183.out 1).trans rfl; have hczk_2 := (blk_cell BK183.out 2).trans rfl; have hczk_3 := (blk_cell BK183.out 3).trans rfl; have hczk_4 := (blk_cell BK183.out 4).trans rfl; have hfzk_0 := blk_frozen BK183.out 0; have hfzk_1 := blk_frozen BK183.out 1; have hfzk_2 := blk_frozen BK183.out 2; have hfzk_3 := blk_frozen BK183.out 3; have hfzk_4 := blk_frozen BK183.out 4) | ((with_reducible refine gate_store (t := 33) (p := 85) rfl ?_); refine store_event (t := 33) (p := 85) (v := ?vo_w32) (w1 := (w31.setCell ⟨gb183, 2, none⟩ (.slice Av (xs3 ++ [t4]).length cv))) ?hg ?ho ?hn ?hr ?_; (case ho => rfl); (case hg => rfl); (case hn => rfl); (case hr => exact xq11); intro w32 hw; have n2_ : Aside0 (w32.heap[gb180]? = some (.cells #[.int .i64 0, .int .i64 0, .slice none 0 0, .slice none 0 0, .int .i64 0] 49 (0, 0))) := ak (by rw [hw]; exact blk_far BK180.out HN12.out _); have n3_ : Aside0 (w32.heap[gb183]? = some (.cells #[.int .i64 (wrap64 (rd l0 0)), .int .i64 (wrap64 (rd l0 1)), (.slice Av (xs3 ++ [t4]).length cv), .slice none 0 0, .int .i64 t184] 49 (0, 0))) := ak (by rw [hw]; exact blk_put BK183.out 2 _ rfl); have n4_ : Aside0 (w32.heap[G]? = some (.cells #[.pointer (some ⟨gb183, 2, none⟩), .pointer (some ⟨gb183, 3, none⟩)] 111 (0, 0))) := ak (by rw [hw]; exact blk_far BKG.out GN2.out _); have n5_ : Aside0 (Below w.heap.size w w32) := ak (by rw [hw]; exact below_set HB.out GE183.out); have n6_ : Aside0 (Kd.R (Kd.int .i64) 3 w32 w.heap.size (fun k_ => True) (.slice Av (xs3 ++ [t4]).length cv) (xs3 ++ [t4])) := ak (by rw [hw]; exact Kd.R_set HO.out BK183.out (by decide) 2 _); clear BK180 BK183 BKG HB HO hw; have BK180 := n2_; have BK183 := n3_; have BKG := n4_; have HB := n5_; have HO := n6_; clear n2_ n3_ n4_ n5_ n6_))
            go_roundg k3
            case measure => have := HK3.out; omega
            case rel => exact ⟨(xs3 ++ [t4]), (.slice Av (xs3 ++ [t4]).length cv), t5, t6, (wrap64 (x13_3 + 1)), eqA, eqA, eqA, H', ⟨by have := HK3.out; omega⟩, ⟨rA HO⟩, ⟨blkA⟩, ⟨blkA⟩, ⟨xq22⟩, ⟨belA⟩⟩
        case rest =>
         clear HLL BK180 BK183 BKG HB; obtain ⟨u, rfl, rfl, HO, BK180, BK183, BKG, HB⟩ := hcut; have H := HH.out; clear HH
         cases ok1 with
         | false =>
          rw [if_neg (by decide)] at H; simp only [Option.some.injEq, Prod.mk.injEq] at H; obtain ⟨rfl, rfl, rfl, rfl, rfl, rfl⟩ := H; have hczz_0 := (blk_cell BK180.out 0).trans rfl; have hczz_1 := (blk_cell BK180.out 1).trans rfl; have hczz_2 := (blk_cell BK180.out 2).trans rfl; have hczz_3 := (blk_cell BK180.out 3).trans rfl; have hczz_4 := (blk_cell BK180.out 4).trans rfl; have hfzz_0 := blk_frozen BK180.out 0; have hfzz_1 := blk_frozen BK180.out 1; have hfzz_2 := blk_frozen BK180.out 2; have hfzz_3 := blk_frozen BK180.out 3; have hfzz_4 := blk_frozen BK180.out 4; have hn_ := HN12.out; have hm_ := HN21.out; go_wp2
          refine bodyPost_ret (results_ct rfl _ _ gb180 49 #[.int .i64 0, .int .i64 0, .slice none 0 0, .slice none 0 0, .int .i64 0] (0, 0) _ rfl xq37 Try.underlying49 rfl (by kernel_rfl)) rfl ?_
          exact ⟨_, _, xq40, Kd.R_nil _ _ _ _ _, Kd.R_nil _ _ _ _ _, belA⟩
         | true =>
          rw [if_pos rfl] at H; have H' := ak H; clear H; go_wp2
          go_roundg 1
          case measure => omega
          case rel => exact .inr (.inl ⟨rfl, (by first | rfl | decide | (simp [wrap64]; done)), at1, xs, u, eqA, eqA, H', ⟨rA HO⟩, ⟨blkA⟩, ⟨blkA⟩, ⟨xq22⟩, ⟨belA⟩⟩)
     · obtain ⟨rfl, rfl, x6, A, vA, rfl, rfl, HA, HOA, BK180, BK183, BKG, HB⟩ := hrel; have H := HA.out; clear HA
       unfold impl_DecodeJob.g1 at H
       replace H := Option.bind_eq_some_iff.mp H; obtain ⟨⟨xs, at1, ok1⟩, HL, H⟩ := H
       unfold impl_DecodeJob.one at HL
       replace HL := Option.bind_eq_some_iff.mp HL; obtain ⟨⟨t1, t2, t3⟩, A190, HL⟩ := HL; dsimp only at HL H
       have A19 := ak A190; clear A190; have HH := ak H; have HLL := ak HL; clear H HL; obtain ⟨Aa, ca, ea⟩ := Kd.R_slice HOA.out; subst ea; have hG := (blk_cell BKG.out 1).trans rfl; go_upto_region 11 with (first | ((with_reducible refine gate_callee (f := 85) rfl ?_); refine goA (some 46) Try.func85 #[.slice (some ad181) l0.length c0, .int .i64 x6] rfl ?_; (with_reducible refine (impl_takeNumber.calls k _ _ l0 x6 t1 t2 t3 _ ?side1 ?side2 A19.out).mono ?_); (case side1 => exact xq41); (case side2 => exact HC0.out); rintro e w' ⟨rfl, ⟨nd, rfl⟩⟩; refine ⟨_, rfl, ?_⟩))
       (try simp only [Act.put, sa, sb, sc])
       go_cut [7] (fun v7 wc => v7 = .bool (true && (t3 && (decide (0 ≤ t1) && decide (t1 ≤ 400)))) ∧ Aside0 (Kd.R (Kd.int .i64) 3 wc w.heap.size (fun k_ => True) (.slice Aa A.length ca) A) ∧ Aside0 (wc.heap[gb180]? = some (.cells #[.int .i64 0, .int .i64 0, .slice none 0 0, .slice none 0 0, .int .i64 0] 49 (0, 0))) ∧ Aside0 (wc.heap[gb183]? = some (.cells #[.int .i64 (wrap64 (rd l0 0)), .int .i64 (wrap64 (rd l0 1)), (.slice Aa A.length ca), .slice none 0 0, .int .i64 t184] 49 (0, 0))) ∧ Aside0 (wc.heap[G]? = some (.cells #[.pointer (some ⟨gb183, 2, none⟩), .pointer (some ⟨gb183, 3, none⟩)] 111 (0, 0))) ∧ Aside0 (Below w.heap.size w wc))
       case first =>
        clear HH HLL A19 hG
        cases t3 with
        | false =>
         go_wp2
         go_meet
         case rel => exact ⟨eqA, ⟨rA HOA⟩, ⟨blkA⟩, ⟨blkA⟩, ⟨xq22⟩, ⟨belA⟩⟩
        | true =>
         go_wp2
         · go_meet
           case rel => exact ⟨xq50, ⟨rA HOA⟩, ⟨blkA⟩, ⟨blkA⟩, ⟨xq22⟩, ⟨belA⟩⟩
         · go_meet
           case rel => exact ⟨xq50, ⟨rA HOA⟩, ⟨blkA⟩, ⟨blkA⟩, ⟨xq22⟩, ⟨belA⟩⟩
       case rest =>
        clear BK180 BK183 BKG HB hG A19 HOA; obtain ⟨rfl, HOA, BK180, BK183, BKG, HB⟩ := hcut; go_upto_block 2 with (fail)
        (try simp only [Act.put, sa, sb, sc])
        go_cut [6, 7] (fun v6 v7 wc => ∃ u : Value, v6 = .int .i64 at1 ∧ v7 = .bool ok1 ∧ Aside0 (Kd.R (Kd.int .i64) 3 wc w.heap.size (fun k_ => some k_ ≠ ((.slice Aa A.length ca) : Value).ownBlock) u xs) ∧ Aside0 (Kd.R (Kd.int .i64) 3 wc w.heap.size (fun k_ => some k_ ≠ (u : Value).ownBlock) (.slice Aa A.length ca) A) ∧ Aside0 (wc.heap[gb180]? = some (.cells #[.int .i64 0, .int .i64 0, .slice none 0 0, .slice none 0 0, .int .i64 0] 49 (0, 0))) ∧ Aside0 (wc.heap[gb183]? = some (.cells #[.int .i64 (wrap64 (rd l0 0)), .int .i64 (wrap64 (rd l0 1)), (.slice Aa A.length ca), u, .int .i64 t184] 49 (0, 0))) ∧ Aside0 (wc.heap[G]? = some (.cells #[.pointer (some ⟨gb183, 2, none⟩), .pointer (some ⟨gb183, 3, none⟩)] 111 (0, 0))) ∧ Aside0 (Below w.heap.size w wc))
        case first =>
         go_wp2
         go_loopg [6, 7, 13] k (fun kq v6 v7 v13 w' => ∃ (xs3 : List Int) (u : Value) (x6_3 : Int) (x7_3 : Bool) (x13_3 : Int), v6 = .int .i64 x6_3 ∧ v7 = .bool x7_3 ∧ v13 = .int .i64 x13_3 ∧ Aside0 (impl_DecodeJob.l1 kq l0 xs3 t1 x6_3 x7_3 x13_3 = some (xs, at1, ok1)) ∧ Aside0 (kq ≤ k) ∧ Aside0 (Kd.R (Kd.int .i64) 3 w' w.heap.size (fun k_ => some k_ ≠ ((.slice Aa A.length ca) : Value).ownBlock) u xs3) ∧ Aside0 (Kd.R (Kd.int .i64) 3 w' w.heap.size (fun k_ => some k_ ≠ (u : Value).ownBlock) (.slice Aa A.length ca) A) ∧ Aside0 (w'.heap[gb180]? = some (.cells #[.int .i64 0, .int .i64 0, .slice none 0 0, .slice none 0 0, .int .i64 0] 49 (0, 0))) ∧ Aside0 (w'.heap[gb183]? = some (.cells #[.int .i64 (wrap64 (rd l0 0)), .int .i64 (wrap64 (rd l0 1)), (.slice Aa A.length ca), u, .int .i64 t184] 49 (0, 0))) ∧ Aside0 (w'.heap[G]? = some (.cells #[.pointer (some ⟨gb183, 2, none⟩), .pointer (some ⟨gb183, 3, none⟩)] 111 (0, 0))) ∧ Aside0 (Below w.heap.size w w'))
         case atStart => exact ⟨[], (.slice none 0 0), _, _, 0, eqA, eqA, eqA, HLL, ⟨Nat.le_refl _⟩, ⟨Kd.R_nil _ _ _ _ _⟩, ⟨rE (Kd.R_mono HOA.out (fun k_ _ => by simp [Value.ownBlock]))⟩, ⟨blkA⟩, ⟨blkA⟩, ⟨xq22⟩, ⟨belA⟩⟩
         case round =>
          clear HLL HH BK180 BK183 BKG HB HOA; obtain ⟨xs3, u, x6_3, x7_3, x13_3, rfl, rfl, rfl, HA, HK3, HO, HOA, BK180, BK183, BKG, HB⟩ := hrel
          cases gk with
          | zero => exact absurd HA.out (by simp [impl_DecodeJob.l1])
          | succ k3 =>
           have H := HA.out; clear HA; simp only [impl_DecodeJob.l1] at H
           cases x7_3 with
           | false =>
            rw [if_neg (by decide)] at H; simp only [Option.some.injEq, Prod.mk.injEq] at H; obtain ⟨rfl, rfl, rfl⟩ := H; go_wp2
            go_meet
            case rel => exact ⟨u, eqA, eqA, ⟨rA HO⟩, ⟨rA HOA⟩, ⟨blkA⟩, ⟨blkA⟩, ⟨xq22⟩, ⟨belA⟩⟩
           | true =>
            rw [if_pos rfl] at H
            by_cases c28 : x13_3 < t1; rotate_left
            · rw [if_neg c28] at H; have c28b0 := decide_eq_false c28; clear c28; (first | rw [c28b0] | (simp only [i64_w, i32_w]; rw [c28b0]) | skip)
              simp only [Option.some.injEq, Prod.mk.injEq] at H; obtain ⟨rfl, rfl, rfl⟩ := H; go_wp2
              go_meet
              case rel => exact ⟨u, eqA, eqA, ⟨rA HO⟩, ⟨rA HOA⟩, ⟨blkA⟩, ⟨blkA⟩, ⟨xq22⟩, ⟨belA⟩⟩
            rw [if_pos c28] at H; have c28b0 := decide_eq_true c28; clear c28; (first | rw [c28b0] | (simp only [i64_w, i32_w]; rw [c28b0]) | skip)
            replace H := Option.bind_eq_some_iff.mp H; obtain ⟨⟨t4, t5, t6⟩, A290, H⟩ := H; have A29 := ak A290; clear A290; dsimp only at H
            by_cases c30 : xs3.length < 17592186044416; rotate_left
            · rw [if_neg c30] at H; exact absurd H (by simp)
            rw [if_pos c30] at H; have LMc30 := ak c30; clear c30; have H' := ak H; clear H; obtain ⟨Au, cu, eu⟩ := Kd.R_slice HO.out; subst eu; have hczj_0 := (blk_cell BK183.out 0).trans rfl; have hczj_1 := (blk_cell BK183.out 1).trans rfl; have hczj_2 := (blk_cell BK183.out 2).trans rfl; have hczj_3 := (blk_cell BK183.out 3).trans rfl; have hczj_4 := (blk_cell BK183.out 4).trans rfl; have hfzj_0 := blk_frozen BK183.out 0; have hfzj_1 := blk_frozen BK183.out 1; have hfzj_2 := blk_frozen BK183.out 2; have hfzj_3 := blk_frozen BK183.out 3; have hfzj_4 := blk_frozen BK183.out 4; go_wp2_with (first | ((with_reducible refine gate_callee (f := 85) rfl ?_); refine goA (some 74) Try.func85 #[.slice (some ad181) l0.length c0, .int .i64 x6_3] rfl ?_; (with_reducible refine (impl_takeNumber.calls k3 _ _ l0 x6_3 t4 t5 t6 _ ?side1 ?side2 A29.out).mono ?_); (case side1 => exact xq41); (case side2 => exact HC0.out); rintro e w' ⟨rfl, ⟨nd, rfl⟩⟩; refine ⟨_, rfl, ?_⟩) | ((with_reducible refine gate_builtin (b := .append) (xs := #[.tmp 81, .tmp 83]) rfl ?_); at_builtin; refine Kd.R_append (Kd.int .i64) (w0 := w) w.heap.size rfl (.tmp 81) (.tmp 83) 33 3 (.int .i64 0) 8 rfl Try.underlying33 impl_DecodeJob.info rfl (by decide) (by omega) (.slice Au xs3.length cu) xs3 t4 [.int .i64 t4] (fun k_ => some k_ ≠ ((.slice Aa A.length ca) : Value).ownBlock) (fun _ => False) rfl rfl ?aP (fun _ hk => hk.elim) ?aF ?aO ?aB ?aS ?aL ?_; (case aP => exact rfl); (case aB => exact belA); (case aF => exact (fun k_ hk => Kd.fresh' (rT HOA) k_ hk)); (case aO => exact (rA HO)); (case aS => exact (below_size belA)); (case aL => have := LMc30.out; omega); intro v198 w31 ho hb hg hat; have n2_ := ak (blk_grown (g := gb180) (o := .cells #[.int .i64 0, .int .i64 0, .slice none 0 0, .slice none 0 0, .int .i64 0] 49 (0, 0)) blkA hg (Kd.R_ne HO.out BK180.out (by decide))); have n3_ := ak (blk_grown (g := gb183) (o := .cells #[.int .i64 (wrap64 (rd l0 0)), .int .i64 (wrap64 (rd l0 1)), (.slice Aa A.length ca), (.slice Au xs3.length cu), .int .i64 t184] 49 (0, 0)) blkA hg (Kd.R_ne HO.out BK183.out (by decide))); have n4_ := ak (blk_grown (g := G) (o := .cells #[.pointer (some ⟨gb183, 2, none⟩), .pointer (some ⟨gb183, 3, none⟩)] 111 (0, 0)) xq22 hg (Kd.R_ne HO.out BKG.out (by decide))); have n1_ := ak (Kd.R_after (ok := (fun _ => True)) (rE (Kd.R_mono HOA.out (fun _ hk => ⟨trivial, hk⟩))) hg hat); have n5_ := ak hb; have n6_ := ak ho; clear BK180 BK183 BKG HB HO HOA; have BK180 := n2_; have BK183 := n3_; have BKG := n4_; have HB := n5_; have HO := n6_; have HOA := n1_; clear n2_ n3_ n4_ n5_ n6_ n1_ ho hb hg hat; obtain ⟨Av, cv, ev⟩ := Kd.R_slice HO.out; subst ev; have hczk_0 := (blk_cell BK183.out 0).trans rfl; have hczk_1 := (blk_cell BK183.out 1).trans rfl; have hczk_2 := (blk_cell BK183.out 2).trans rfl; have hczk_3 := (blk_cell BK183.out 3).trans rfl; have hczk_4 := (blk_cell BK183.out 4).trans rfl; have hfzk_0 := blk_frozen BK183.out 0; have hfzk_1 := blk_frozen BK183.out 1; have hfzk_2 := blk_frozen BK183.out 2; have hfzk_3 := blk_frozen BK183.out 3; have hfzk_4 := blk_frozen BK183.out 4) | ((with_reducible refine gate_store (t := 33) (p := 85) rfl ?_); refine store_event (t := 33) (p := 85) (v := ?vo_w32) (w1 := (w31.setCell ⟨gb183, 3, none⟩ (.slice Av (xs3 ++ [t4]).length cv))) ?hg ?ho ?hn ?hr ?_; (case ho => rfl); (case hg => rfl); (case hn => rfl); (case hr => exact xq11); intro w32 hw; have n2_ : Aside0 (w32.heap[gb180]? = some (.cells #[.int .i64 0, .int .i64 0, .slice none 0 0, .slice none 0 0, .int .i64 0] 49 (0, 0))) := ak (by rw [hw]; exact blk_far BK180.out HN12.out _); have n3_ : Aside0 (w32.heap[gb183]? = some (.cells #[.int .i64 (wrap64 (rd l0 0)), .int .i64 (wrap64 (rd l0 1)), (.slice Aa A.length ca), (.slice Av (xs3 ++ [t4]).length cv), .int .i64 t184] 49 (0, 0))) := ak (by rw [hw]; exact blk_put BK183.out 3 _ rfl); have n4_ : Aside0 (w32.heap[G]? = some (.cells #[.pointer (some ⟨gb183, 2, none⟩), .pointer (some ⟨gb183, 3, none⟩)] 111 (0, 0))) := ak (by rw [hw]; exact blk_far BKG.out GN2.out _); have n5_ : Aside0 (Below w.heap.size w w32) := ak (by rw [hw]; exact below_set HB.out GE183.out); have n6_ : Aside0 (Kd.R (Kd.int .i64) 3 w32 w.heap.size (fun k_ => some k_ ≠ ((.slice Aa A.length ca) : Value).ownBlock) (.slice Av (xs3 ++ [t4]).length cv) (xs3 ++ [t4])) := ak (by rw [hw]; exact Kd.R_set HO.out BK183.out (by decide) 3 _); have n1_ : Aside0 (Kd.R (Kd.int .i64) 3 w32 w.heap.size (fun k_ => some k_ ≠ ((.slice Av (xs3 ++ [t4]).length cv) : Value).ownBlock) (.slice Aa A.length ca) A) := ak (by rw [hw]; exact Kd.R_mono (Kd.R_set HOA.out BK183.out (by decide) 3 _) (fun _ hk => hk.2)); clear BK180 BK183 BKG HB HO HOA hw; have BK180 := n2_; have BK183 := n3_; have BKG := n4_; have HB := n5_; have HO := n6_; have HOA := n1_; clear n2_ n3_ n4_ n5_ n6_ n1_))
            go_roundg k3
            case measure => have := HK3.out; omega
            case rel => exact ⟨(xs3 ++ [t4]), (.slice Av (xs3 ++ [t4]).length cv), t5, t6, (wrap64 (x13_3 + 1)), eqA, eqA, eqA, H', ⟨by have := HK3.out; omega⟩, ⟨rA HO⟩, ⟨rA HOA⟩, ⟨blkA⟩, ⟨blkA⟩, ⟨xq22⟩, ⟨belA⟩⟩
        case rest =>
         clear HLL BK180 BK183 BKG HB HOA; obtain ⟨u, rfl, rfl, HO, HOA, BK180, BK183, BKG, HB⟩ := hcut; have H := HH.out; clear HH
         cases ok1 with
         | false =>
          rw [if_neg (by decide)] at H; simp only [Option.some.injEq, Prod.mk.injEq] at H; obtain ⟨rfl, rfl, rfl, rfl, rfl, rfl⟩ := H; have hczz_0 := (blk_cell BK180.out 0).trans rfl; have hczz_1 := (blk_cell BK180.out 1).trans rfl; have hczz_2 := (blk_cell BK180.out 2).trans rfl; have hczz_3 := (blk_cell BK180.out 3).trans rfl; have hczz_4 := (blk_cell BK180.out 4).trans rfl; have hfzz_0 := blk_frozen BK180.out 0; have hfzz_1 := blk_frozen BK180.out 1; have hfzz_2 := blk_frozen BK180.out 2; have hfzz_3 := blk_frozen BK180.out 3; have hfzz_4 := blk_frozen BK180.out 4; have hn_ := HN12.out; have hm_ := HN21.out; go_wp2
          refine bodyPost_ret (results_ct rfl _ _ gb180 49 #[.int .i64 0, .int .i64 0, .slice none 0 0, .slice none 0 0, .int .i64 0] (0, 0) _ rfl xq37 Try.underlying49 rfl (by kernel_rfl)) rfl ?_
          exact ⟨_, _, xq40, Kd.R_nil _ _ _ _ _, Kd.R_nil _ _ _ _ _, belA⟩
         | true =>
          rw [if_pos rfl] at H; have H' := ak H; clear H; go_wp2
          go_roundg 0
          case measure => omega
          case rel => exact .inr (.inr ⟨rfl, (by first | rfl | decide | (simp [wrap64]; done)), at1, A, xs, (.slice Aa A.length ca), u, eqA, eqA, H', ⟨rA HOA⟩, ⟨rA HO⟩, ⟨blkA⟩, ⟨blkA⟩, ⟨xq22⟩, ⟨belA⟩⟩)
     · obtain ⟨rfl, rfl, x6, A, B, vA, vB, rfl, rfl, HA, HOA, HOB, BK180, BK183, BKG, HB⟩ := hrel; have H := HA.out; clear HA
       unfold impl_DecodeJob.g2 at H
       obtain ⟨Aa, ca, ea⟩ := Kd.R_slice HOA.out; subst ea; obtain ⟨Ab, cb, eb⟩ := Kd.R_slice HOB.out; subst eb
       by_cases c42 : x6 = (l0.length : Int); rotate_left
       · rw [if_neg c42] at H; have c42b0 : (x6 == (l0.length : Int)) = false := beq_eq_false_iff_ne.mpr c42; have c42b1 : (x6 != (l0.length : Int)) = true := bne_iff_ne.mpr c42; clear c42; simp only [Option.some.injEq, Prod.mk.injEq] at H; obtain ⟨rfl, rfl, rfl, rfl, rfl, rfl⟩ := H; have hczz_0 := (blk_cell BK180.out 0).trans rfl; have hczz_1 := (blk_cell BK180.out 1).trans rfl; have hczz_2 := (blk_cell BK180.out 2).trans rfl; have hczz_3 := (blk_cell BK180.out 3).trans rfl; have hczz_4 := (blk_cell BK180.out 4).trans rfl; have hfzz_0 := blk_frozen BK180.out 0; have hfzz_1 := blk_frozen BK180.out 1; have hfzz_2 := blk_frozen BK180.out 2; have hfzz_3 := blk_frozen BK180.out 3; have hfzz_4 := blk_frozen BK180.out 4; have hn_ := HN12.out; have hm_ := HN21.out; go_wp2
         refine bodyPost_ret (results_ct rfl _ _ gb180 49 #[.int .i64 0, .int .i64 0, .slice none 0 0, .slice none 0 0, .int .i64 0] (0, 0) _ rfl xq37 Try.underlying49 rfl (by kernel_rfl)) rfl ?_
         exact ⟨_, _, xq40, Kd.R_nil _ _ _ _ _, Kd.R_nil _ _ _ _ _, belA⟩
       rw [if_pos c42] at H; have c42b0 : (x6 == (l0.length : Int)) = true := beq_iff_eq.mpr c42; have c42b1 : (x6 != (l0.length : Int)) = false := bne_eq_false_iff_eq.mpr c42; clear c42; replace H := Option.bind_eq_some_iff.mp H; obtain ⟨t7, A430, H⟩ := H; have A43 := ak A430; clear A430
       cases t7 with
       | false =>
        rw [if_neg (by decide)] at H; simp only [Option.some.injEq, Prod.mk.injEq] at H; obtain ⟨rfl, rfl, rfl, rfl, rfl, rfl⟩ := H; have hczy_0 := (blk_cell BK183.out 0).trans rfl; have hczy_1 := (blk_cell BK183.out 1).trans rfl; have hczy_2 := (blk_cell BK183.out 2).trans rfl; have hczy_3 := (blk_cell BK183.out 3).trans rfl; have hczy_4 := (blk_cell BK183.out 4).trans rfl; have hfzy_0 := blk_frozen BK183.out 0; have hfzy_1 := blk_frozen BK183.out 1; have hfzy_2 := blk_frozen BK183.out 2; have hfzy_3 := blk_frozen BK183.out 3; have hfzy_4 := blk_frozen BK183.out 4; have hn_ := HN12.out; have hm_ := HN21.out; go_wp2_with (first | (go_at_call 86; (with_reducible refine (impl_isJob.calls k (wrap64 (rd l0 0)) (wrap64 (rd l0 1)) _ _ A _ _ B t184 false _ ?side1 ?side2 ?side3 ?side4 A43.out).mono ?_); (case side1 => exact xq79); (case side2 => exact (Kd.R_reads' HOA.out).2.1); (case side3 => exact xq80); (case side4 => exact (Kd.R_reads' HOB.out).2.1); rintro e w56 ⟨rfl, hb⟩; have n0_ := rB HOA hb; have n1_ := rB HOB hb; have n2_ := bB BK180 hb; have n3_ := bB BK183 hb; have n4_ := bS hb; clear HOA HOB BK180 BK183 HB hb; have HOA := n0_; have HOB := n1_; have BK180 := n2_; have BK183 := n3_; have HB := n4_; clear n0_ n1_ n2_ n3_ n4_; have hczm_0 := (blk_cell BK180.out 0).trans rfl; have hczm_1 := (blk_cell BK180.out 1).trans rfl; have hczm_2 := (blk_cell BK180.out 2).trans rfl; have hczm_3 := (blk_cell BK180.out 3).trans rfl; have hczm_4 := (blk_cell BK180.out 4).trans rfl; have hfzm_0 := blk_frozen BK180.out 0; have hfzm_1 := blk_frozen BK180.out 1; have hfzm_2 := blk_frozen BK180.out 2; have hfzm_3 := blk_frozen BK180.out 3; have hfzm_4 := blk_frozen BK180.out 4; have hczn_0 := (blk_cell BK183.out 0).trans rfl; have hczn_1 := (blk_cell BK183.out 1).trans rfl; have hczn_2 := (blk_cell BK183.out 2).trans rfl; have hczn_3 := (blk_cell BK183.out 3).trans rfl; have hczn_4 := (blk_cell BK183.out 4).trans rfl; have hfzn_0 := blk_frozen BK183.out 0; have hfzn_1 := blk_frozen BK183.out 1; have hfzn_2 := blk_frozen BK183.out 2; have hfzn_3 := blk_frozen BK183.out 3; have hfzn_4 := blk_frozen BK183.out 4))
        refine bodyPost_ret (results_ct rfl _ _ gb180 49 #[.int .i64 0, .int .i64 0, .slice none 0 0, .slice none 0 0, .int .i64 0] (0, 0) _ rfl xq37 Try.underlying49 rfl (by kernel_rfl)) rfl ?_
        exact ⟨_, _, xq40, Kd.R_nil _ _ _ _ _, Kd.R_nil _ _ _ _ _, belA⟩
       | true =>
        rw [if_pos rfl] at H; simp only [Option.some.injEq, Prod.mk.injEq] at H; obtain ⟨rfl, rfl, rfl, rfl, rfl, rfl⟩ := H; have hczy_0 := (blk_cell BK183.out 0).trans rfl; have hczy_1 := (blk_cell BK183.out 1).trans rfl; have hczy_2 := (blk_cell BK183.out 2).trans rfl; have hczy_3 := (blk_cell BK183.out 3).trans rfl; have hczy_4 := (blk_cell BK183.out 4).trans rfl; have hfzy_0 := blk_frozen BK183.out 0; have hfzy_1 := blk_frozen BK183.out 1; have hfzy_2 := blk_frozen BK183.out 2; have hfzy_3 := blk_frozen BK183.out 3; have hfzy_4 := blk_frozen BK183.out 4; have hn_ := HN12.out; have hm_ := HN21.out; go_wp2_with (first | (go_at_call 86; (with_reducible refine (impl_isJob.calls k (wrap64 (rd l0 0)) (wrap64 (rd l0 1)) _ _ A _ _ B t184 true _ ?side1 ?side2 ?side3 ?side4 A43.out).mono ?_); (case side1 => exact xq79); (case side2 => exact (Kd.R_reads' HOA.out).2.1); (case side3 => exact xq80); (case side4 => exact (Kd.R_reads' HOB.out).2.1); rintro e w56 ⟨rfl, hb⟩; have n0_ := rB HOA hb; have n1_ := rB HOB hb; have n2_ := bB BK180 hb; have n3_ := bB BK183 hb; have n4_ := bS hb; clear HOA HOB BK180 BK183 HB hb; have HOA := n0_; have HOB := n1_; have BK180 := n2_; have BK183 := n3_; have HB := n4_; clear n0_ n1_ n2_ n3_ n4_; have hczm_0 := (blk_cell BK180.out 0).trans rfl; have hczm_1 := (blk_cell BK180.out 1).trans rfl; have hczm_2 := (blk_cell BK180.out 2).trans rfl; have hczm_3 := (blk_cell BK180.out 3).trans rfl; have hczm_4 := (blk_cell BK180.out 4).trans rfl; have hfzm_0 := blk_frozen BK180.out 0; have hfzm_1 := blk_frozen BK180.out 1; have hfzm_2 := blk_frozen BK180.out 2; have hfzm_3 := blk_frozen BK180.out 3; have hfzm_4 := blk_frozen BK180.out 4; have hczn_0 := (blk_cell BK183.out 0).trans rfl; have hczn_1 := (blk_cell BK183.out 1).trans rfl; have hczn_2 := (blk_cell BK183.out 2).trans rfl; have hczn_3 := (blk_cell BK183.out 3).trans rfl; have hczn_4 := (blk_cell BK183.out 4).trans rfl; have hfzn_0 := blk_frozen BK183.out 0; have hfzn_1 := blk_frozen BK183.out 1; have hfzn_2 := blk_frozen BK183.out 2; have hfzn_3 := blk_frozen BK183.out 3; have hfzn_4 := blk_frozen BK183.out 4))
        refine bodyPost_ret (results_ct rfl _ _ gb180 49 #[.int .i64 (wrap64 (rd l0 0)), .int .i64 (wrap64 (rd l0 1)), .slice Aa A.length ca, .slice Ab B.length cb, .int .i64 t184] (0, 0) _ rfl (by (with_reducible repeat (first | refine blk_drewN ?_ _ | refine blk_drew ?_ | refine blk_alloc ?_ _)); refine blk_put (cs := #[.int .i64 (wrap64 (rd l0 0)), .int .i64 (wrap64 (rd l0 1)), .slice Aa A.length ca, .slice Ab B.length cb, .int .i64 0]) ?_ 4 _ rfl; (with_reducible repeat (first | refine blk_drewN ?_ _ | refine blk_drew ?_ | refine blk_alloc ?_ _)); refine blk_put (cs := #[.int .i64 (wrap64 (rd l0 0)), .int .i64 (wrap64 (rd l0 1)), .slice Aa A.length ca, .slice none 0 0, .int .i64 0]) ?_ 3 _ rfl; (with_reducible repeat (first | refine blk_drewN ?_ _ | refine blk_drew ?_ | refine blk_alloc ?_ _)); refine blk_put (cs := #[.int .i64 (wrap64 (rd l0 0)), .int .i64 (wrap64 (rd l0 1)), .slice none 0 0, .slice none 0 0, .int .i64 0]) ?_ 2 _ rfl; (with_reducible repeat (first | refine blk_drewN ?_ _ | refine blk_drew ?_ | refine blk_alloc ?_ _)); refine blk_put (cs := #[.int .i64 (wrap64 (rd l0 0)), .int .i64 0, .slice none 0 0, .slice none 0 0, .int .i64 0]) ?_ 1 _ rfl; (with_reducible repeat (first | refine blk_drewN ?_ _ | refine blk_drew ?_ | refine blk_alloc ?_ _)); refine blk_put (cs := #[.int .i64 0, .int .i64 0, .slice none 0 0, .slice none 0 0, .int .i64 0]) ?_ 0 _ rfl; (with_reducible repeat (first | refine blk_drewN ?_ _ | refine blk_drew ?_ | refine blk_alloc ?_ _)); exact BK180.out) Try.underlying49 rfl (by kernel_rfl)) rfl ?_
        exact ⟨_, _, xq40, by (with_reducible repeat (first | apply Kd.R_alloc | apply Kd.R_drewN | apply Kd.R_drew)); exact Kd.R_mono (Kd.R_far (p := ⟨gb180, 4, none⟩) (Kd.R_far (p := ⟨gb180, 3, none⟩) (Kd.R_far (p := ⟨gb180, 2, none⟩) (Kd.R_far (p := ⟨gb180, 1, none⟩) (Kd.R_far (p := ⟨gb180, 0, none⟩) (Kd.R_types HOA.out BK180.out (by decide)) (fun _ hk => hk.2) (.int .i64 (wrap64 (rd l0 0)))) (fun _ hk => hk.2) (.int .i64 (wrap64 (rd l0 1)))) (fun _ hk => hk.2) (.slice Aa A.length ca)) (fun _ hk => hk.2) (.slice Ab B.length cb)) (fun _ hk => hk.2) (.int .i64 t184)) (fun _ hk => hk.1), by (with_reducible repeat (first | apply Kd.R_alloc | apply Kd.R_drewN | apply Kd.R_drew)); exact Kd.R_mono (Kd.R_far (p := ⟨gb180, 4, none⟩) (Kd.R_far (p := ⟨gb180, 3, none⟩) (Kd.R_far (p := ⟨gb180, 2, none⟩) (Kd.R_far (p := ⟨gb180, 1, none⟩) (Kd.R_far (p := ⟨gb180, 0, none⟩) (Kd.R_types HOB.out BK180.out (by decide)) (fun _ hk => hk.2) (.int .i64 (wrap64 (rd l0 0)))) (fun _ hk => hk.2) (.int .i64 (wrap64 (rd l0 1)))) (fun _ hk => hk.2) (.slice Aa A.length ca)) (fun _ hk => hk.2) (.slice Ab B.length cb)) (fun _ hk => hk.2) (.int .i64 t184)) (fun _ hk => hk.1), belA⟩

mutual
def impl_putNumber.j0 : Nat → Int → Option (List Int)
 | 0, _ => none
 | k + 1, x3 => impl_putNumber.l0 k x3 (([] : List Int))
def impl_putNumber.l0 : Nat → Int → List Int → Option (List Int)
 | 0, _, _ => none
 | k + 1, x3, x4 => if x3 ≥ 128 then (if x4.length < 140737488355328 then (impl_putNumber.l0 k (wrap64 (Int.tdiv x3 128)) (x4 ++ [(wrap64 ((Int.tmod x3 128) + 128)) % 256])) else (none)) else (if x4.length < 140737488355328 then (some (x4 ++ [(x3) % 256])) else (none))
end
def impl_putNumber.f (k : Nat) (a0 : Int) : Option (List Int) := if a0 < 0 then (impl_putNumber.j0 k (wrap64 ((wrap64 ((-2) * a0)) - 1))) else (impl_putNumber.j0 k (wrap64 (2 * a0)))
theorem impl_putNumber.mono_l : ∀ k, (∀ y0, LeO (impl_putNumber.j0 k y0) (impl_putNumber.j0 (k + 1) y0)) ∧ (∀ y0 y1, LeO (impl_putNumber.l0 k y0 y1) (impl_putNumber.l0 (k + 1) y0 y1))
 | 0 => ⟨fun _ r h => by simp [impl_putNumber.j0] at h, fun _ _ r h => by simp [impl_putNumber.l0] at h⟩
 | k + 1 => by
  obtain ⟨ih0, ih1⟩ := impl_putNumber.mono_l k; refine ⟨?_, ?_⟩
  · intro y0; unfold impl_putNumber.j0; exact xq57
  · intro y0 y1; unfold impl_putNumber.l0; exact xq57
theorem impl_putNumber.mono : ∀ a0 k, LeO (impl_putNumber.f k a0) (impl_putNumber.f (k + 1) a0) := by
 intro a0 k; obtain ⟨ih0, ih1⟩ := impl_putNumber.mono_l k
 unfold impl_putNumber.f
 exact xq57
theorem impl_putNumber.calls (k : Nat) (a0 : Int) (r : List Int) (w : World) (h : impl_putNumber.f k a0 = some r) :
 Calls Try.prog 115 #[.int .i64 a0] w fun e w' => ∃ v0_ : Value, e = .returned (v0_) ∧ Kd.R (Kd.int .u8) 5 w' w.heap.size (fun _ => True) v0_ r ∧ Below w.heap.size w w' := by
 have HB := ak (Below.refl w.heap.size w); have H : (if a0 < 0 then (impl_putNumber.j0 k (wrap64 ((wrap64 ((-2) * a0)) - 1))) else (impl_putNumber.j0 k (wrap64 (2 * a0)))) = some r := h; clear h; have HC2 := ak H; clear H; go_enter Try.func115, Try.ntmps115
 go_upto_if 8 with (fail)
 go_cut [3] (fun v3 wc => ∃ (kq : Nat) (x3_1 : Int), v3 = .int .i64 x3_1 ∧ Aside0 (impl_putNumber.j0 kq x3_1 = some r) ∧ Aside0 (kq ≤ k) ∧ Aside0 (Below w.heap.size w wc))
 case first =>
  have H := HC2.out; clear HC2
  by_cases c3 : a0 < 0; rotate_left
  · rw [if_neg c3] at H; have c3b0 := decide_eq_false c3; clear c3; (first | rw [c3b0] | (simp only [i64_w, i32_w]; rw [c3b0]) | skip)
    have H' := ak H; clear H; go_wp2
    go_meet
    case rel => exact ⟨_, (wrap64 (2 * a0)), eqA, H', ⟨xq12⟩, ⟨belA⟩⟩
  rw [if_pos c3] at H; have c3b0 := decide_eq_true c3; clear c3; (first | rw [c3b0] | (simp only [i64_w, i32_w]; rw [c3b0]) | skip)
  have H' := ak H; clear H; go_wp2
  go_meet
  case rel => exact ⟨_, (wrap64 ((wrap64 ((-2) * a0)) - 1)), eqA, H', ⟨xq12⟩, ⟨belA⟩⟩
 case rest =>
  clear HC2; obtain ⟨kq, x3_1, rfl, HA, HJ1, HB⟩ := hcut
  cases kq with
  | zero => exact absurd HA.out (by simp [impl_putNumber.j0])
  | succ kj1 =>
   have H := HA.out; clear HA; simp only [impl_putNumber.j0] at H; obtain ⟨y599, hyq⟩ : ∃ y_ : List Int, y_ = (([] : List Int)) := ⟨_, rfl⟩; replace H : (impl_putNumber.l0 kj1 x3_1 y599) = some r := by first | (rw [hyq]; with_reducible exact H) | (have H2_ := (Option.bind_some _ _).symm.trans H; rw [hyq]; with_reducible exact H2_) | (have H2_ := (Option.bind_some _ _).symm.trans H; with_reducible exact H2_) | with_reducible exact H | (rw [hyq]; exact H) | exact H
   have Ny599 := ak hyq; clear hyq; have H' := ak H; clear H; go_wp2_with (first | ((with_reducible refine gate_dst (N := 12) rfl ?_); refine Kd.R_lit (Kd.int .u8) _ 5 ?hg (N := 12) ?hd (xs := ([] : List Int)) (inner := []) (ok := fun _ => True) (okp := fun _ => True) ?hr ?hp (fun _ hk => hk) trivial (Below.refl _ _) (Nat.le_refl _) (by simp) ?_; (case hd => rfl); (case hg => rfl); (case hr => exact xq11); (case hp => exact (Reps.none _ _)); intro v600 w4 ho5 hb hg_ hnew_; clear hg_ hnew_; (first | rw [← Ny599.out] at ho5 | (simp only [Int.reduceToNat] at ho5; rw [← Ny599.out] at ho5)); have HO601 := rL ho5; replace HB := bS hb; clear hb ho5))
   go_loopg [3, 4] kj1 (fun kq v3 v4 w' => ∃ (x3_2 : Int) (x4_2 : List Int), v3 = .int .i64 x3_2 ∧ Aside0 (impl_putNumber.l0 kq x3_2 x4_2 = some r) ∧ Aside0 (kq ≤ kj1) ∧ Aside0 (Kd.R (Kd.int .u8) 5 w' w.heap.size (fun _ => True) v4 x4_2) ∧ Aside0 (Below w.heap.size w w'))
   case atStart => exact ⟨(x3_1), (y599), eqA, H', ⟨Nat.le_refl _⟩, ⟨rA HO601⟩, ⟨belA⟩⟩
   case round =>
    clear H'; obtain ⟨x3_2, x4_2, rfl, HA, HK2, HO_4, HB⟩ := hrel
    cases gk with
    | zero => exact absurd HA.out (by simp [impl_putNumber.l0])
    | succ k2 =>
     have H := HA.out; clear HA; simp only [impl_putNumber.l0] at H
     by_cases c6 : x3_2 ≥ 128; rotate_left
     · rw [if_neg c6] at H; have c6b0 : decide (128 ≤ x3_2) = false := decide_eq_false c6; clear c6
       by_cases c9 : x4_2.length < 140737488355328; rotate_left
       · rw [if_neg c9] at H; exact absurd H (by simp)
       rw [if_pos c9] at H; have LMc9 := ak c9; clear c9; obtain ⟨y605, hyq⟩ : ∃ y_ : List Int, y_ = (x4_2 ++ [(x3_2) % 256]) := ⟨_, rfl⟩; replace H : (some y605) = some r := by first | (rw [hyq]; with_reducible exact H) | (have H2_ := (Option.bind_some _ _).symm.trans H; rw [hyq]; with_reducible exact H2_) | (have H2_ := (Option.bind_some _ _).symm.trans H; with_reducible exact H2_) | with_reducible exact H | (rw [hyq]; exact H) | exact H
       have Ny605 := ak hyq; clear hyq; obtain rfl := Option.some.inj H; go_wp2_with (first | ((with_reducible refine gate_builtin (b := .append) (xs := #[.tmp 24, .tmp 27]) rfl ?_); at_builtin; refine Kd.R_append (Kd.int .u8) (w0 := w) w.heap.size rfl (.tmp 24) (.tmp 27) 22 5 (.int .u8 0) 1 rfl Try.underlying22 info5 rfl (by decide) (by omega) u4 x4_2 ((x3_2) % 256) [.int .u8 ((x3_2) % 256)] (fun _ => True) (fun _ => False) rfl rfl ?aP (fun _ hk => hk.elim) ?aF ?aO ?aB ?aS ?aL ?_; (case aP => exact rfl); (case aB => exact belA); (case aF => exact (fun _ _ => trivial)); (case aO => exact (rF HO_4)); (case aS => exact (below_size belA)); (case aL => have := LMc9.out; omega); intro v606 w10 ho hb hg hat; rw [← Ny605.out] at ho; have HO607 := ak ho; replace HB := ak hb; clear HO_4; clear ho hb hg hat))
       go_ret
       exact ⟨_, xq6, by (with_reducible repeat (first | apply Kd.R_alloc | apply Kd.R_drewN | apply Kd.R_drew)); exact HO607.out, belA⟩
     rw [if_pos c6] at H; have c6b0 : decide (128 ≤ x3_2) = true := decide_eq_true c6; clear c6
     by_cases c7 : x4_2.length < 140737488355328; rotate_left
     · rw [if_neg c7] at H; exact absurd H (by simp)
     rw [if_pos c7] at H; have LMc7 := ak c7; clear c7; obtain ⟨y602, hyq⟩ : ∃ y_ : List Int, y_ = (x4_2 ++ [(wrap64 ((Int.tmod x3_2 128) + 128)) % 256]) := ⟨_, rfl⟩; replace H : (impl_putNumber.l0 k2 (wrap64 (Int.tdiv x3_2 128)) y602) = some r := by first | (rw [hyq]; with_reducible exact H) | (have H2_ := (Option.bind_some _ _).symm.trans H; rw [hyq]; with_reducible exact H2_) | (have H2_ := (Option.bind_some _ _).symm.trans H; with_reducible exact H2_) | with_reducible exact H | (rw [hyq]; exact H) | exact H
     have Ny602 := ak hyq; clear hyq; have H' := ak H; clear H; go_wp2_with (first | ((with_reducible refine gate_builtin (b := .append) (xs := #[.tmp 15, .tmp 20]) rfl ?_); at_builtin; refine Kd.R_append (Kd.int .u8) (w0 := w) w.heap.size rfl (.tmp 15) (.tmp 20) 22 5 (.int .u8 0) 1 rfl Try.underlying22 info5 rfl (by decide) (by omega) u4 x4_2 ((wrap64 ((Int.tmod x3_2 128) + 128)) % 256) [.int .u8 ((wrap64 ((Int.tmod x3_2 128) + 128)) % 256)] (fun _ => True) (fun _ => False) rfl rfl ?aP (fun _ hk => hk.elim) ?aF ?aO ?aB ?aS ?aL ?_; (case aP => exact rfl); (case aB => exact belA); (case aF => exact (fun _ _ => trivial)); (case aO => exact (rF HO_4)); (case aS => exact (below_size belA)); (case aL => have := LMc7.out; omega); intro v603 w8 ho hb hg hat; rw [← Ny602.out] at ho; have HO604 := ak ho; replace HB := ak hb; clear HO_4; clear ho hb hg hat))
     go_roundg k2
     case measure => have := HJ1.out; have := HK2.out; omega
     case rel => exact ⟨(wrap64 (Int.tdiv x3_2 128)), (y602), eqA, H', ⟨by have := HJ1.out; have := HK2.out; omega⟩, ⟨rA HO604⟩, ⟨belA⟩⟩

end Go.Proofs.Ytogdhclomgafdaa.PFnJobBytes
