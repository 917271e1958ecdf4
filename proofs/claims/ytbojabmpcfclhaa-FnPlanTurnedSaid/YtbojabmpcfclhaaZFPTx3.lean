-- Written by a program of this session (the print of the kit with contracts of this session's own added)
import Derived.Test.YtbojabmpcfclhaaZFPTx1
import Derived.Test.YtbojabmpcfclhaaZFPTx2
set_option maxHeartbeats 8000000
set_option maxRecDepth 100000
namespace Go.Proofs.Ytbojabmpcfclhaa.PFnPlanTurned
open Go.RowKit Go.Proofs.YtbojabmpcfclhaaW.PrintWords Go.Proofs.YtbojabmpcfclhaaW.PrintLast Go.Proofs.YtbojabmpcfclhaaW.PrintMore Go.Proofs.YtbojabmpcfclhaaW.PrintPack Go.Proofs.YtbojabmpcfclhaaW.PrintPack
set_option linter.unusedVariables false
set_option linter.unusedSimpArgs false

def laws_big.f (l0 : List Int) : Option (Bool) := some (decide ((l0.length : Int) > 1048576))
theorem laws_big.calls (A0 : Option Addr) (c0 : Nat) (l0 : List Int) (r : Bool) (w : World) (hr0 : Kd.C (Kd.int .u8) w A0 l0.length l0) (hc0 : l0.length ≤ c0) (h : laws_big.f l0 = some r) :
 Calls Try.prog 9 #[.slice A0 l0.length c0] w fun e w' => e = .returned (.bool r) ∧ Drawn0 w w' := by
 have g0 := ak hr0; have x0 := ak hc0; clear hr0 hc0; have H : (some (decide ((l0.length : Int) > 1048576))) = some r := h; clear h; obtain rfl := Option.some.inj H; go_enter Try.func9, Try.ntmps9
 go_wp2
 go_ret
 exact ⟨xq7, xq3⟩

/-- A state of type 129 at block g of W; what its slices lead to came in by w0. -/
def IsS129 (w0 W : World) (g : Nat) (f0 : List Int) (f1 : Int) (f2 : Int) : Prop := ∃ A0 c0, W.heap[g]? = some (.cells #[.slice A0 f0.length c0, .int .i64 f1, .int .i64 f2] 129 (0, 0)) ∧ w0.heap.size ≤ g ∧ Kd.C (Kd.int .u8) w0 A0 f0.length f0
theorem IsS129.grown {w0 W : World} {g : Nat} {f0 : List Int} {f1 : Int} {f2 : Int} {W1 : World} {row : Option Nat} (h : IsS129 w0 W g f0 f1 f2) (hw : W.grownBy W1 row) (hne : some g ≠ row) : IsS129 w0 W1 g f0 f1 f2 := by
 obtain ⟨A0, c0, hb, hg, h0⟩ := h; exact ⟨A0, c0, blk_grown hb hw hne, hg, h0⟩
theorem IsS129.own_neN {w0 W : World} {g : Nat} {f0 : List Int} {f1 : Int} {f2 : Int} {α : Type} {d : Kd α} {e : Nat} {base : Nat} {ok : Nat → Prop} {v : Value} {xs : List α} (h : IsS129 w0 W g f0 f1 f2) (ho : Kd.N d e W base ok v xs) (ht : e ≠ 129) : some g ≠ v.ownBlock := by
 obtain ⟨A0, c0, hb, hg, h0⟩ := h; exact Kd.N_ne ho hb ht
theorem IsS129.fresh {w0 W : World} {g : Nat} {f0 : List Int} {f1 : Int} {f2 : Int} (h : IsS129 w0 W g f0 f1 f2) : ∀ k, W.heap.size ≤ k → k ≠ g := by
 obtain ⟨A0, c0, hb, hg, h0⟩ := h; exact Kd.freshB hb
theorem IsS129.kept {w0 W : World} {g : Nat} {f0 : List Int} {f1 : Int} {f2 : Int} {W1 : World} {S : Nat → Prop} (h : IsS129 w0 W g f0 f1 f2) (hk : Kept W W1 S) (hne : ¬ S g) : IsS129 w0 W1 g f0 f1 f2 := by
 obtain ⟨A0, c0, hb, hg, h0⟩ := h; exact ⟨A0, c0, blk_kept hb hk hne, hg, h0⟩
theorem IsS129.below {w0 W : World} {g : Nat} {f0 : List Int} {f1 : Int} {f2 : Int} {W1 : World} (h : IsS129 w0 W g f0 f1 f2) (hw : Below W.heap.size W W1) : IsS129 w0 W1 g f0 f1 f2 := h.grown (grown_of_below hw none) (by simp)
theorem IsS129.alloc {w0 W : World} {g : Nat} {f0 : List Int} {f1 : Int} {f2 : Int} (h : IsS129 w0 W g f0 f1 f2) (o : Obj) : IsS129 w0 (W.alloc o) g f0 f1 f2 := h.below (below_alloc (Below.refl _ _) o)
theorem IsS129.drewN {w0 W : World} {g : Nat} {f0 : List Int} {f1 : Int} {f2 : Int} (h : IsS129 w0 W g f0 f1 f2) (m : Nat) : IsS129 w0 (W.drewN m) g f0 f1 f2 := h
theorem IsS129.drew {w0 W : World} {g : Nat} {f0 : List Int} {f1 : Int} {f2 : Int} (h : IsS129 w0 W g f0 f1 f2) : IsS129 w0 W.drew g f0 f1 f2 := h
theorem IsS129.at_ {w0 W : World} {g : Nat} {f0 : List Int} {f1 : Int} {f2 : Int} {w' : World} {m : Nat} (hq : W.drewN m = w') (h : IsS129 w0 W g f0 f1 f2) : IsS129 w0 w' g f0 f1 f2 := by subst hq; exact IsS129.drewN h m
theorem IsS129.apart {w0 W : World} {g : Nat} {f0 : List Int} {f1 : Int} {f2 : Int} {α : Type} {d : Kd α} {e : Nat} {base : Nat} {ok : Nat → Prop} {v : Value} {xs : List α} (h : IsS129 w0 W g f0 f1 f2) (ho : d.R e W base ok v xs) (ht : ∀ q, q ∈ e :: d.E → q ≠ 129) : d.R e W base (fun k => ok k ∧ k ≠ g) v xs := by
 obtain ⟨A0, c0, hb, hg, h0⟩ := h; exact Kd.R_types ho hb ht
theorem IsS129.own_ne {w0 W : World} {g : Nat} {f0 : List Int} {f1 : Int} {f2 : Int} {α : Type} {d : Kd α} {e : Nat} {base : Nat} {ok : Nat → Prop} {v : Value} {xs : List α} (h : IsS129 w0 W g f0 f1 f2) (ho : d.R e W base ok v xs) (ht : e ≠ 129) : some g ≠ v.ownBlock := by
 obtain ⟨A0, c0, hb, hg, h0⟩ := h; exact Kd.R_ne ho hb ht
theorem IsS129.apartQ {w0 W : World} {g : Nat} {f0 : List Int} {f1 : Int} {f2 : Int} {α : Type} {d : Kd α} {e : Nat} {base : Nat} {ok : Nat → Prop} {v : Value} {xs : List α} (h : IsS129 w0 W g f0 f1 f2) (ho : d.Q e W base ok v xs) (ht : ∀ q, q ∈ e :: d.E → q ≠ 129) : d.Q e W base (fun k => ok k ∧ k ≠ g) v xs := by
 obtain ⟨A0, c0, hb, hg, h0⟩ := h; exact Kd.Q_types ho hb ht
theorem IsS129.own_neQ {w0 W : World} {g : Nat} {f0 : List Int} {f1 : Int} {f2 : Int} {α : Type} {d : Kd α} {e : Nat} {base : Nat} {ok : Nat → Prop} {v : Value} {xs : List α} (h : IsS129 w0 W g f0 f1 f2) (ho : d.Q e W base ok v xs) (ht : e ≠ 129) : some g ≠ v.ownBlock := by
 obtain ⟨A0, c0, hb, hg, h0⟩ := h; exact Kd.Q_ne ho hb ht
theorem IsS129.apartS {w0 W : World} {g : Nat} {f0 : List Int} {f1 : Int} {f2 : Int} {α : Type} {d : Kd α} {e : Nat} {base : Nat} {ok : Nat → Prop} {v : Value} {xs : List α} (h : IsS129 w0 W g f0 f1 f2) (ho : d.S e W base ok v xs) (ht : ∀ q, q ∈ e :: d.E → q ≠ 129) : d.S e W base (fun k => ok k ∧ k ≠ g) v xs := by
 obtain ⟨A0, c0, hb, hg, h0⟩ := h; exact Kd.S_types ho hb ht
theorem IsS129.own_neS {w0 W : World} {g : Nat} {f0 : List Int} {f1 : Int} {f2 : Int} {α : Type} {d : Kd α} {e : Nat} {base : Nat} {ok : Nat → Prop} {v : Value} {xs : List α} (h : IsS129 w0 W g f0 f1 f2) (ho : d.S e W base ok v xs) (ht : e ≠ 129) : some g ≠ v.ownBlock := by
 obtain ⟨A0, c0, hb, hg, h0⟩ := h; exact Kd.S_ne ho hb ht
theorem IsS129.lt {w0 W : World} {g : Nat} {f0 : List Int} {f1 : Int} {f2 : Int} (h : IsS129 w0 W g f0 f1 f2) : g < W.heap.size := by
 obtain ⟨A0, c0, hb, hg, h0⟩ := h; exact blk_lt hb
theorem IsS129.ge {w0 W : World} {g : Nat} {f0 : List Int} {f1 : Int} {f2 : Int} (h : IsS129 w0 W g f0 f1 f2) : w0.heap.size ≤ g := by
 obtain ⟨A0, c0, hb, hg, h0⟩ := h; exact hg
theorem IsS129.ne_blk {w0 W : World} {g : Nat} {f0 : List Int} {f1 : Int} {f2 : Int} {a : Nat} {cs : Array Value} {t : TypeId} {fr : Nat × Nat} (h : IsS129 w0 W g f0 f1 f2) (hb2 : W.heap[a]? = some (.cells cs t fr)) (ht : t ≠ 129) : g ≠ a := by
 obtain ⟨A0, c0, hb, hg, h0⟩ := h; rintro rfl
 rw [hb] at hb2; injection hb2 with hb2
 injection hb2 with _ H0
 exact ht H0.symm
theorem IsS129.far {w0 W : World} {g : Nat} {f0 : List Int} {f1 : Int} {f2 : Int} {p : Addr} (h : IsS129 w0 W g f0 f1 f2) (hne : g ≠ p.block) (u : Value) : IsS129 w0 (W.setCell p u) g f0 f1 f2 := by
 obtain ⟨A0, c0, hb, hg, h0⟩ := h; exact ⟨A0, c0, blk_far hb hne u, hg, h0⟩
theorem cellS129_0 {W : World} {g : Nat} {A0 : Option Addr} {c0 : Nat} {f0 : List Int} {f1 : Int} {f2 : Int} (h : W.heap[g]? = some (.cells #[.slice A0 f0.length c0, .int .i64 f1, .int .i64 f2] 129 (0, 0))) : W.cell? ⟨g, 0, none⟩ = some (.slice A0 f0.length c0) := (blk_cell h 0).trans rfl
theorem cellS129_1 {W : World} {g : Nat} {A0 : Option Addr} {c0 : Nat} {f0 : List Int} {f1 : Int} {f2 : Int} (h : W.heap[g]? = some (.cells #[.slice A0 f0.length c0, .int .i64 f1, .int .i64 f2] 129 (0, 0))) : W.cell? ⟨g, 1, none⟩ = some (.int .i64 f1) := (blk_cell h 1).trans rfl
theorem IsS129.set_1 {w0 W : World} {g : Nat} {f0 : List Int} {f1 : Int} {f2 : Int} (h : IsS129 w0 W g f0 f1 f2) (x : Int) : IsS129 w0 (W.setCell ⟨g, 1, none⟩ (.int .i64 x)) g f0 x f2 := by
 obtain ⟨A0, c0, hb, hg, h0⟩ := h; exact ⟨A0, c0, by simpa using blk_set hb 1 (.int .i64 x), hg, h0⟩
theorem cellS129_2 {W : World} {g : Nat} {A0 : Option Addr} {c0 : Nat} {f0 : List Int} {f1 : Int} {f2 : Int} (h : W.heap[g]? = some (.cells #[.slice A0 f0.length c0, .int .i64 f1, .int .i64 f2] 129 (0, 0))) : W.cell? ⟨g, 2, none⟩ = some (.int .i64 f2) := (blk_cell h 2).trans rfl
theorem IsS129.set_2 {w0 W : World} {g : Nat} {f0 : List Int} {f1 : Int} {f2 : Int} (h : IsS129 w0 W g f0 f1 f2) (x : Int) : IsS129 w0 (W.setCell ⟨g, 2, none⟩ (.int .i64 x)) g f0 f1 x := by
 obtain ⟨A0, c0, hb, hg, h0⟩ := h; exact ⟨A0, c0, by simpa using blk_set hb 2 (.int .i64 x), hg, h0⟩
theorem IsS129.new (w0 W : World) (A0 : Option Addr) (c0 : Nat) (f0 : List Int) (f1 : Int) (f2 : Int) (hB : Below w0.heap.size w0 W) (hr0 : Kd.C (Kd.int .u8) w0 A0 f0.length f0) : IsS129 w0 (W.alloc (.cells #[.slice A0 f0.length c0, .int .i64 f1, .int .i64 f2] 129)) W.heap.size f0 f1 f2 := ⟨A0, c0, by simpa using heap_alloc_new W _, hB.size, hr0⟩

def spec_l01New.l0 : Nat → List Int → Int → Int → Option (List Int × Int × Int)
 | 0, _, _, _ => none
 | k + 1, x0, x3, x4 => if x4 < (x0.length : Int) then (if x4 < 4000 then (if 0 ≤ x4 then (spec_l01New.l0 k x0 (Go.bits .and .i64 (wrap64 ((wrap64 ((wrap64 (x3 * 149)) + (wrap64 (rd x0 x4)))) + 11)) 1073741823) (wrap64 (x4 + 1))) else (none)) else (some (x0, 0, x3))) else (some (x0, 0, x3))
def spec_l01New.f (k : Nat) (l0 : List Int) : Option (List Int × Int × Int) := spec_l01New.l0 k l0 (wrap64 (710710 + (l0.length : Int))) 0
theorem spec_l01New.mono_l : ∀ k, (∀ y0 y1 y2, LeO (spec_l01New.l0 k y0 y1 y2) (spec_l01New.l0 (k + 1) y0 y1 y2))
 | 0 => fun _ _ _ r h => by simp [spec_l01New.l0] at h
 | k + 1 => by
  have ih0 := spec_l01New.mono_l k
  · intro y0 y1 y2; unfold spec_l01New.l0; exact xq33
theorem spec_l01New.mono : ∀ a0 k, LeO (spec_l01New.f k a0) (spec_l01New.f (k + 1) a0) := by
 intro a0 k; have b0 := spec_l01New.mono_l k
 unfold spec_l01New.f
 exact xq34
theorem spec_l01New.calls (k : Nat) (A0 : Option Addr) (c0 : Nat) (l0 : List Int) (r1 : List Int) (r2 : Int) (r3 : Int) (w0 w : World) (hB : Below w0.heap.size w0 w) (hr0 : Kd.C (Kd.int .u8) w0 A0 l0.length l0) (hc0 : l0.length ≤ c0) (h : spec_l01New.f k l0 = some (r1, r2, r3)) :
 Calls Try.prog 58 #[.slice A0 l0.length c0] w fun e w' => ∃ g_ : Nat, e = .returned (.pointer (some ⟨g_, 0, none⟩)) ∧ IsS129 w0 w' g_ r1 r2 r3 ∧ Below w0.heap.size w0 w' ∧ Below w.heap.size w w' := by
 have B0 := Try.underlying129; have g0 := ak hr0; have x0 := ak hc0; clear hr0 hc0; have HBW := ak (Below.refl w.heap.size w); have w3 := ak hB.size; have HB := ak hB; clear hB; have H : (spec_l01New.l0 k l0 (wrap64 (710710 + (l0.length : Int))) 0) = some (r1, r2, r3) := h; clear h; have H' := ak H; clear H; go_enter Try.func58, Try.ntmps58
 go_wp2
 go_loopg [3, 4] k (fun kq v3 v4 w' => ∃ (W0 : Int) (W1 : Int), v3 = .int .i64 W0 ∧ v4 = .int .i64 W1 ∧ Aside0 (spec_l01New.l0 kq l0 W0 W1 = some (r1, r2, r3)) ∧ Aside0 (kq ≤ k) ∧ Aside0 (Below w0.heap.size w0 w') ∧ Aside0 (Below w.heap.size w w'))
 case atStart => exact ⟨(wrap64 (710710 + (l0.length : Int))), (0), eqA, eqA, H', ⟨Nat.le_refl _⟩, ⟨belA⟩, ⟨xq30⟩⟩
 case round =>
  clear H'; obtain ⟨W0, W1, rfl, rfl, HA, n0, HB, HBW⟩ := hrel
  cases gk with
  | zero => exact absurd HA.out (by simp [spec_l01New.l0])
  | succ k1 =>
   have H := HA.out; clear HA; simp only [spec_l01New.l0] at H
   by_cases c2 : W1 < (l0.length : Int); rotate_left
   · rw [if_neg c2] at H; have N0 := decide_eq_false c2; clear c2; simp only [Option.some.injEq, Prod.mk.injEq] at H; obtain ⟨rfl, rfl, rfl⟩ := H; go_wp2_with (first | ((with_reducible refine gate_dst (N := 31) rfl ?_); refine boxA 31 #[.slice A0 l0.length c0, .int .i64 0, .int .i64 W0] 129 ?_; intro c1 hg w6 hbox hb; have C0 := ak hbox; have y0 := ak ((by rw [hg]; exact (below_size xq30) : w.heap.size ≤ c1)); have Y0 := ak ((Nat.le_trans w3.out (by rw [hg]; exact (below_size xq30) : w.heap.size ≤ c1) : w0.heap.size ≤ c1)); replace HBW := ak (below_step HBW.out hb); replace HB := bS hb; clear hb hbox hg))
     go_ret
     exact ⟨_, rfl, (show IsS129 w0 _ c1 l0 0 W0 from ⟨_, _, by (with_reducible repeat (first | refine blk_drewN ?_ _ | refine blk_drew ?_ | refine blk_alloc ?_ _)); exact C0.out, Y0.out, g0.out⟩), belA, by repeat (first | (with_reducible first | exact HBW.out | apply below_alloc | apply pw_below_drewN | apply below_drew1 | refine below_set ?_ y0.out) | exact HBW.out)⟩
   rw [if_pos c2] at H; have N0 := decide_eq_true c2; clear c2
   by_cases c3 : W1 < 4000
   · rw [if_pos c3] at H; have N1 := decide_eq_true c3; clear c3
     by_cases c4 : 0 ≤ W1; rotate_left
     · rw [if_neg c4] at H; exact absurd H (by simp)
     rw [if_pos c4] at H; have N2 := decide_eq_true c4; clear c4; have H' := ak H; clear H; have v0 : 0 ≤ (W1 : Int) := odA; have V0 : W1 < (l0.length : Int) := odA; obtain ⟨a5, A1, o0⟩ := Kd.at_int g0.out W1 v0 V0
     cases A1
     replace o0 := pw_cell_below HB.out o0; replace v0 := eq_true v0; replace V0 := eq_true V0; go_wp2
     go_roundg k1
     case measure => have := n0.out; omega
     case rel => exact ⟨(Go.bits .and .i64 (wrap64 ((wrap64 ((wrap64 (W0 * 149)) + (wrap64 (rd l0 W1)))) + 11)) 1073741823), (wrap64 (W1 + 1)), eqA, eqA, H', ⟨xq16⟩, ⟨belA⟩, ⟨xq30⟩⟩
   rw [if_neg c3] at H; have N1 := decide_eq_false c3; clear c3; simp only [Option.some.injEq, Prod.mk.injEq] at H; obtain ⟨rfl, rfl, rfl⟩ := H; go_wp2_with (first | ((with_reducible refine gate_dst (N := 31) rfl ?_); refine boxA 31 #[.slice A0 l0.length c0, .int .i64 0, .int .i64 W0] 129 ?_; intro ca hg w5 hbox hb; have C1 := ak hbox; have y1 := ak ((by rw [hg]; exact (below_size xq30) : w.heap.size ≤ ca)); have Y1 := ak ((Nat.le_trans w3.out (by rw [hg]; exact (below_size xq30) : w.heap.size ≤ ca) : w0.heap.size ≤ ca)); replace HBW := ak (below_step HBW.out hb); replace HB := bS hb; clear hb hbox hg))
   go_ret
   exact ⟨_, rfl, (show IsS129 w0 _ ca l0 0 W0 from ⟨_, _, by (with_reducible repeat (first | refine blk_drewN ?_ _ | refine blk_drew ?_ | refine blk_alloc ?_ _)); exact C1.out, Y1.out, g0.out⟩), belA, by repeat (first | (with_reducible first | exact HBW.out | apply below_alloc | apply pw_below_drewN | apply below_drew1 | refine below_set ?_ y1.out) | exact HBW.out)⟩

def spec_l01Byte.f (s0_0 : List Int) (s0_1 : Int) (s0_2 : Int) : Option (Int × Int × Int) := if s0_1 < (s0_0.length : Int) then (if 0 ≤ s0_1 then (some (Go.bits .and .i64 (wrap64 ((Go.bits .and .i64 (Go.bits .xor .i64 ((wrap64 ((wrap64 (s0_2 * 6364136223846793005)) + 1442695040888963407)) / 8589934592) ((wrap64 ((wrap64 (s0_2 * 6364136223846793005)) + 1442695040888963407)) / 35184372088832)) 255) + (wrap64 (rd s0_0 s0_1)))) 255, wrap64 (s0_1 + 1), wrap64 ((wrap64 (s0_2 * 6364136223846793005)) + 1442695040888963407))) else (none)) else (some (Go.bits .and .i64 (Go.bits .xor .i64 ((wrap64 ((wrap64 (s0_2 * 6364136223846793005)) + 1442695040888963407)) / 8589934592) ((wrap64 ((wrap64 (s0_2 * 6364136223846793005)) + 1442695040888963407)) / 35184372088832)) 255, s0_1, wrap64 ((wrap64 (s0_2 * 6364136223846793005)) + 1442695040888963407)))
theorem spec_l01Byte.calls (g : Nat) (s0_0 : List Int) (s0_1 : Int) (s0_2 : Int) (r1 : Int) (r2 : Int) (r3 : Int) (w0 w : World) (hI : IsS129 w0 w g s0_0 s0_1 s0_2) (hB : Below w0.heap.size w0 w) (h : spec_l01Byte.f s0_0 s0_1 s0_2 = some (r1, r2, r3)) :
 Calls Try.prog 152 #[.pointer (some ⟨g, 0, none⟩)] w fun e w' => e = .returned (.int .i64 r1) ∧ IsS129 w0 w' g s0_0 r2 r3 ∧ Below w0.heap.size w0 w' ∧ KeepBut w w' g none := by
 have O0 := ak hI; have HK := ak (KeepBut.refl w g none); have HL := ak hB.size; clear hI; have w3 := ak hB.size; have HB := ak hB; clear hB; have H : (if s0_1 < (s0_0.length : Int) then (if 0 ≤ s0_1 then (some (Go.bits .and .i64 (wrap64 ((Go.bits .and .i64 (Go.bits .xor .i64 ((wrap64 ((wrap64 (s0_2 * 6364136223846793005)) + 1442695040888963407)) / 8589934592) ((wrap64 ((wrap64 (s0_2 * 6364136223846793005)) + 1442695040888963407)) / 35184372088832)) 255) + (wrap64 (rd s0_0 s0_1)))) 255, wrap64 (s0_1 + 1), wrap64 ((wrap64 (s0_2 * 6364136223846793005)) + 1442695040888963407))) else (none)) else (some (Go.bits .and .i64 (Go.bits .xor .i64 ((wrap64 ((wrap64 (s0_2 * 6364136223846793005)) + 1442695040888963407)) / 8589934592) ((wrap64 ((wrap64 (s0_2 * 6364136223846793005)) + 1442695040888963407)) / 35184372088832)) 255, s0_1, wrap64 ((wrap64 (s0_2 * 6364136223846793005)) + 1442695040888963407)))) = some (r1, r2, r3) := h; clear h
 by_cases c2 : s0_1 < (s0_0.length : Int); rotate_left
 · rw [if_neg c2] at H; have N0 := decide_eq_false c2; clear c2; simp only [Option.some.injEq, Prod.mk.injEq] at H; obtain ⟨rfl, rfl, rfl⟩ := H; obtain ⟨p0, P0, q0, Q0, r0⟩ := O0.out; have R0 := cellS129_0 q0; have R1 := cellS129_1 q0; have R2 := cellS129_2 q0; have sd := blk_frozen q0 1; have se := blk_frozen q0 2; clear q0 Q0; go_enter Try.func152, Try.ntmps152
   go_wp2
   repeat (go_quiet (fail); try go_wp2)
   go_ret
   exact ⟨xq1, xq8, xq9, xq17⟩
 rw [if_pos c2] at H; have N0 := decide_eq_true c2; clear c2
 by_cases c3 : 0 ≤ s0_1; rotate_left
 · rw [if_neg c3] at H; exact absurd H (by simp)
 rw [if_pos c3] at H; have N1 := decide_eq_true c3; clear c3; simp only [Option.some.injEq, Prod.mk.injEq] at H; obtain ⟨rfl, rfl, rfl⟩ := H; obtain ⟨p1, P1, q1, Q1, r4⟩ := O0.out; have R3 := cellS129_0 q1; have R4 := cellS129_1 q1; have R5 := cellS129_2 q1; have sf := blk_frozen q1 1; have sg := blk_frozen q1 2; clear q1 Q1; have v0 : 0 ≤ (s0_1 : Int) := odA; have V0 : s0_1 < (s0_0.length : Int) := odA; obtain ⟨a5, A0, o0⟩ := Kd.at_int r4 s0_1 v0 V0
 cases A0
 have S0 : a5.block ≠ g := Nat.ne_of_lt (Nat.lt_of_lt_of_le (by have := World.block_lt_of_cell? _ _ o0; first | rwa [add_block] at this | exact this) (IsS129.ge O0.out)); replace o0 := pw_cell_below HB.out o0; replace o0 := (cell_far (p := ⟨g, 2, none⟩) (by first | (rw [add_block]; exact S0) | (show (Addr.add _ _).block ≠ _; rw [add_block]; exact S0) | exact S0) (.int .i64 (wrap64 ((wrap64 (s0_2 * 6364136223846793005)) + 1442695040888963407)))).trans o0; (try have u3 := fun (n_ : Nat) => (show (((w.drewN n_).setCell ⟨g, 2, none⟩ (.int .i64 (wrap64 ((wrap64 (s0_2 * 6364136223846793005)) + 1442695040888963407))))).cell? _ = some _ from o0))
 clear S0; replace v0 := eq_true v0; replace V0 := eq_true V0; go_enter Try.func152, Try.ntmps152
 go_wp2
 repeat (go_quiet (fail); try go_wp2)
 go_ret
 exact ⟨xq1, xq8, xq9, xq17⟩

def spec_l01Below.f (s0_0 : List Int) (s0_1 : Int) (s0_2 : Int) (a1 : Int) : Option (Int × Int × Int) := if a1 ≤ 0 then (some (0, s0_1, s0_2)) else (if a1 ≤ 256 then ((spec_l01Byte.f s0_0 s0_1 s0_2).bind fun bt105 => (if a1 = 0 then (none) else (some (Int.tmod bt105.1 a1, bt105.2.1, bt105.2.2)))) else ((spec_l01Byte.f s0_0 s0_1 s0_2).bind fun bt108 => ((spec_l01Byte.f s0_0 bt108.2.1 bt108.2.2).bind fun bt111 => ((spec_l01Byte.f s0_0 bt111.2.1 bt111.2.2).bind fun bt114 => (if a1 = 0 then (none) else (some (Int.tmod (wrap64 ((wrap64 ((wrap64 (bt108.1 * 65536)) + (wrap64 (bt111.1 * 256)))) + bt114.1)) a1, bt114.2.1, bt114.2.2)))))))
theorem spec_l01Below.calls (g : Nat) (s0_0 : List Int) (s0_1 : Int) (s0_2 : Int) (a1 : Int) (r1 : Int) (r2 : Int) (r3 : Int) (w0 w : World) (hI : IsS129 w0 w g s0_0 s0_1 s0_2) (hB : Below w0.heap.size w0 w) (h : spec_l01Below.f s0_0 s0_1 s0_2 a1 = some (r1, r2, r3)) :
 Calls Try.prog 111 #[.pointer (some ⟨g, 0, none⟩), .int .i64 a1] w fun e w' => e = .returned (.int .i64 r1) ∧ IsS129 w0 w' g s0_0 r2 r3 ∧ Below w0.heap.size w0 w' ∧ KeepBut w w' g none := by
 have O0 := ak hI; have HK := ak (KeepBut.refl w g none); have HL := ak hB.size; clear hI; have w3 := ak hB.size; have HB := ak hB; clear hB; have H : (if a1 ≤ 0 then (some (0, s0_1, s0_2)) else (if a1 ≤ 256 then ((spec_l01Byte.f s0_0 s0_1 s0_2).bind fun U0 => (if a1 = 0 then (none) else (some (Int.tmod U0.1 a1, U0.2.1, U0.2.2)))) else ((spec_l01Byte.f s0_0 s0_1 s0_2).bind fun U1 => ((spec_l01Byte.f s0_0 U1.2.1 U1.2.2).bind fun U2 => ((spec_l01Byte.f s0_0 U2.2.1 U2.2.2).bind fun U3 => (if a1 = 0 then (none) else (some (Int.tmod (wrap64 ((wrap64 ((wrap64 (U1.1 * 65536)) + (wrap64 (U2.1 * 256)))) + U3.1)) a1, U3.2.1, U3.2.2)))))))) = some (r1, r2, r3) := h; clear h
 by_cases c3 : a1 ≤ 0
 · rw [if_pos c3] at H; have N0 := decide_eq_true c3; clear c3; simp only [Option.some.injEq, Prod.mk.injEq] at H; obtain ⟨rfl, rfl, rfl⟩ := H; go_enter Try.func111, Try.ntmps111
   go_wp2
   go_ret
   exact ⟨xq1, xq8, xq9, xq17⟩
 rw [if_neg c3] at H; have N0 := decide_eq_false c3; clear c3
 by_cases c4 : a1 ≤ 256
 · rw [if_pos c4] at H; have N1 := decide_eq_true c4; clear c4; replace H := Option.bind_eq_some_iff.mp H; obtain ⟨⟨z0, z1, z2⟩, Z0, H⟩ := H; (try dsimp only at H); have A5 := ak Z0; clear Z0
   by_cases c6 : a1 = 0
   · rw [if_pos c6] at H; exact absurd H (by simp)
   rw [if_neg c6] at H; have N2 : (a1 == 0) = false := beq_eq_false_iff_ne.mpr c6; have N3 : (a1 != 0) = true := bne_iff_ne.mpr c6; simp only [Option.some.injEq, Prod.mk.injEq] at H; obtain ⟨rfl, rfl, rfl⟩ := H; go_enter Try.func111, Try.ntmps111
   go_wp2_with (first | ((with_reducible refine gate_callee (f := 152) rfl ?_); refine goB 13 Try.func152 #[.pointer (some ⟨g, 0, none⟩)] rfl ?_; (with_reducible refine (spec_l01Byte.calls g s0_0 s0_1 s0_2 z0 z1 z2 w0 _ ?side1 ?side2 A5.out).mono ?_); (case side1 => exact xq8); (case side2 => exact xq9); rintro e w7 ⟨rfl, hi, hb, hk⟩; refine ⟨_, rfl, ?_⟩; replace HK := ak (KeepBut.trans kpA hk (.inl rfl)); replace HB := ak hb; replace O0 := ak hi; (try clear hb hk hi)))
   go_ret
   exact ⟨xq1, xq8, xq9, xq17⟩
 rw [if_neg c4] at H; have N1 := decide_eq_false c4; clear c4; replace H := Option.bind_eq_some_iff.mp H; obtain ⟨⟨z3, z4, z5⟩, Z1, H⟩ := H; (try dsimp only at H); have A8 := ak Z1; clear Z1; replace H := Option.bind_eq_some_iff.mp H; obtain ⟨⟨z6, z7, z8⟩, Z2, H⟩ := H; (try dsimp only at H); have A9 := ak Z2; clear Z2; replace H := Option.bind_eq_some_iff.mp H; obtain ⟨⟨z9, za, zb⟩, Z3, H⟩ := H; (try dsimp only at H); have Z4 := ak Z3; clear Z3
 by_cases N4 : a1 = 0
 · rw [if_pos N4] at H; exact absurd H (by simp)
 rw [if_neg N4] at H; have N5 : (a1 == 0) = false := beq_eq_false_iff_ne.mpr N4; have N6 : (a1 != 0) = true := bne_iff_ne.mpr N4; simp only [Option.some.injEq, Prod.mk.injEq] at H; obtain ⟨rfl, rfl, rfl⟩ := H; go_enter Try.func111, Try.ntmps111
 go_wp2_with (first | ((with_reducible refine gate_callee (f := 152) rfl ?_); refine goB 17 Try.func152 #[.pointer (some ⟨g, 0, none⟩)] rfl ?_; (with_reducible refine (spec_l01Byte.calls g s0_0 s0_1 s0_2 z3 z4 z5 w0 _ ?side1 ?side2 A8.out).mono ?_); (case side1 => exact xq8); (case side2 => exact xq9); rintro e k0 ⟨rfl, hi, hb, hk⟩; refine ⟨_, rfl, ?_⟩; replace HK := ak (KeepBut.trans kpA hk (.inl rfl)); replace HB := ak hb; replace O0 := ak hi; (try clear hb hk hi)) | ((with_reducible refine gate_callee (f := 152) rfl ?_); refine goB 19 Try.func152 #[.pointer (some ⟨g, 0, none⟩)] rfl ?_; (with_reducible refine (spec_l01Byte.calls g s0_0 z4 z5 z6 z7 z8 w0 _ ?side1 ?side2 A9.out).mono ?_); (case side1 => exact xq8); (case side2 => exact xq9); rintro e k1 ⟨rfl, hi, hb, hk⟩; refine ⟨_, rfl, ?_⟩; replace HK := ak (KeepBut.trans kpA hk (.inl rfl)); replace HB := ak hb; replace O0 := ak hi; (try clear hb hk hi)) | ((with_reducible refine gate_callee (f := 152) rfl ?_); refine goB 21 Try.func152 #[.pointer (some ⟨g, 0, none⟩)] rfl ?_; (with_reducible refine (spec_l01Byte.calls g s0_0 z7 z8 z9 za zb w0 _ ?side1 ?side2 Z4.out).mono ?_); (case side1 => exact xq8); (case side2 => exact xq9); rintro e k2 ⟨rfl, hi, hb, hk⟩; refine ⟨_, rfl, ?_⟩; replace HK := ak (KeepBut.trans kpA hk (.inl rfl)); replace HB := ak hb; replace O0 := ak hi; (try clear hb hk hi)))
 go_ret
 exact ⟨xq1, xq8, xq9, xq17⟩

def spec_l01Once.f (s0_0 : List Int) (s0_1 : Int) (s0_2 : Int) (a1 : Int) : Option (Bool × Int × Int) := (spec_l01Below.f s0_0 s0_1 s0_2 a1).bind fun bt117 => (some ((bt117.1 == 0), bt117.2.1, bt117.2.2))
theorem spec_l01Once.calls (g : Nat) (s0_0 : List Int) (s0_1 : Int) (s0_2 : Int) (a1 : Int) (r1 : Bool) (r2 : Int) (r3 : Int) (w0 w : World) (hI : IsS129 w0 w g s0_0 s0_1 s0_2) (hB : Below w0.heap.size w0 w) (h : spec_l01Once.f s0_0 s0_1 s0_2 a1 = some (r1, r2, r3)) :
 Calls Try.prog 61 #[.pointer (some ⟨g, 0, none⟩), .int .i64 a1] w fun e w' => e = .returned (.bool r1) ∧ IsS129 w0 w' g s0_0 r2 r3 ∧ Below w0.heap.size w0 w' ∧ KeepBut w w' g none := by
 have O0 := ak hI; have HK := ak (KeepBut.refl w g none); have HL := ak hB.size; clear hI; have w3 := ak hB.size; have HB := ak hB; clear hB; have H : ((spec_l01Below.f s0_0 s0_1 s0_2 a1).bind fun U0 => (some ((U0.1 == 0), U0.2.1, U0.2.2))) = some (r1, r2, r3) := h; clear h; replace H := Option.bind_eq_some_iff.mp H; obtain ⟨⟨z0, z1, z2⟩, Z0, H⟩ := H; (try dsimp only at H); have A3 := ak Z0; clear Z0; simp only [Option.some.injEq, Prod.mk.injEq] at H; obtain ⟨rfl, rfl, rfl⟩ := H; go_enter Try.func61, Try.ntmps61
 go_wp2_with (first | ((with_reducible refine gate_callee (f := 111) rfl ?_); refine goB 7 Try.func111 #[.pointer (some ⟨g, 0, none⟩), .int .i64 a1] rfl ?_; (with_reducible refine (spec_l01Below.calls g s0_0 s0_1 s0_2 a1 z0 z1 z2 w0 _ ?side1 ?side2 A3.out).mono ?_); (case side1 => exact xq8); (case side2 => exact xq9); rintro e w4 ⟨rfl, hi, hb, hk⟩; refine ⟨_, rfl, ?_⟩; replace HK := ak (KeepBut.trans kpA hk (.inl rfl)); replace HB := ak hb; replace O0 := ak hi; (try clear hb hk hi)))
 go_ret
 exact ⟨xq1, xq8, xq9, xq17⟩

def spec_Modulus.f (a0 : Int) : Option (Int) := if a0 = 0 then (some 17) else (if a0 = 1 then (some 97) else (if a0 = 2 then (some 193) else (if a0 = 3 then (some 257) else (if a0 = 4 then (some 7681) else (if a0 = 5 then (some 12289) else (if a0 = 6 then (some 998244353) else (if a0 = 7 then (some 469762049) else (if a0 = 8 then (some 1004535809) else (some 0)))))))))
theorem spec_Modulus.calls (a0 : Int) (r : Int) (w : World) (h : spec_Modulus.f a0 = some r) :
 Calls Try.prog 117 #[.int .i64 a0] w fun e w' => e = .returned (.int .i64 r) ∧ Drawn0 w w' := by
 have H : (if a0 = 0 then (some 17) else (if a0 = 1 then (some 97) else (if a0 = 2 then (some 193) else (if a0 = 3 then (some 257) else (if a0 = 4 then (some 7681) else (if a0 = 5 then (some 12289) else (if a0 = 6 then (some 998244353) else (if a0 = 7 then (some 469762049) else (if a0 = 8 then (some 1004535809) else (some 0)))))))))) = some r := h; clear h
 by_cases c2 : a0 = 0
 · rw [if_pos c2] at H; have N0 : (a0 == 0) = true := beq_iff_eq.mpr c2; have N1 : (a0 != 0) = false := bne_eq_false_iff_eq.mpr c2; clear c2; obtain rfl := Option.some.inj H; go_enter Try.func117, Try.ntmps117
   go_wp2
   go_ret
   exact ⟨xq7, xq3⟩
 rw [if_neg c2] at H; have N0 : (a0 == 0) = false := beq_eq_false_iff_ne.mpr c2; have N1 : (a0 != 0) = true := bne_iff_ne.mpr c2
 by_cases c3 : a0 = 1
 · rw [if_pos c3] at H; have N2 : (a0 == 1) = true := beq_iff_eq.mpr c3; have N3 : (a0 != 1) = false := bne_eq_false_iff_eq.mpr c3; clear c3; obtain rfl := Option.some.inj H; go_enter Try.func117, Try.ntmps117
   go_wp2
   go_ret
   exact ⟨xq7, xq3⟩
 rw [if_neg c3] at H; have N2 : (a0 == 1) = false := beq_eq_false_iff_ne.mpr c3; have N3 : (a0 != 1) = true := bne_iff_ne.mpr c3
 by_cases c4 : a0 = 2
 · rw [if_pos c4] at H; have N4 : (a0 == 2) = true := beq_iff_eq.mpr c4; have N5 : (a0 != 2) = false := bne_eq_false_iff_eq.mpr c4; clear c4; obtain rfl := Option.some.inj H; go_enter Try.func117, Try.ntmps117
   go_wp2
   go_ret
   exact ⟨xq7, xq3⟩
 rw [if_neg c4] at H; have N4 : (a0 == 2) = false := beq_eq_false_iff_ne.mpr c4; have N5 : (a0 != 2) = true := bne_iff_ne.mpr c4
 by_cases c5 : a0 = 3
 · rw [if_pos c5] at H; have N6 : (a0 == 3) = true := beq_iff_eq.mpr c5; have N7 : (a0 != 3) = false := bne_eq_false_iff_eq.mpr c5; clear c5; obtain rfl := Option.some.inj H; go_enter Try.func117, Try.ntmps117
   go_wp2
   go_ret
   exact ⟨xq7, xq3⟩
 rw [if_neg c5] at H; have N6 : (a0 == 3) = false := beq_eq_false_iff_ne.mpr c5; have N7 : (a0 != 3) = true := bne_iff_ne.mpr c5
 by_cases c6 : a0 = 4
 · rw [if_pos c6] at H; have N8 : (a0 == 4) = true := beq_iff_eq.mpr c6; have N9 : (a0 != 4) = false := bne_eq_false_iff_eq.mpr c6; clear c6; obtain rfl := Option.some.inj H; go_enter Try.func117, Try.ntmps117
   go_wp2
   go_ret
   exact ⟨xq7, xq3⟩
 rw [if_neg c6] at H; have N8 : (a0 == 4) = false := beq_eq_false_iff_ne.mpr c6; have N9 : (a0 != 4) = true := bne_iff_ne.mpr c6
 by_cases c7 : a0 = 5
 · rw [if_pos c7] at H; have Na : (a0 == 5) = true := beq_iff_eq.mpr c7; have Nb : (a0 != 5) = false := bne_eq_false_iff_eq.mpr c7; clear c7; obtain rfl := Option.some.inj H; go_enter Try.func117, Try.ntmps117
   go_wp2
   go_ret
   exact ⟨xq7, xq3⟩
 rw [if_neg c7] at H; have Na : (a0 == 5) = false := beq_eq_false_iff_ne.mpr c7; have Nb : (a0 != 5) = true := bne_iff_ne.mpr c7
 by_cases c8 : a0 = 6
 · rw [if_pos c8] at H; have Nc : (a0 == 6) = true := beq_iff_eq.mpr c8; have Nd : (a0 != 6) = false := bne_eq_false_iff_eq.mpr c8; clear c8; obtain rfl := Option.some.inj H; go_enter Try.func117, Try.ntmps117
   go_wp2
   go_ret
   exact ⟨xq7, xq3⟩
 rw [if_neg c8] at H; have Nc : (a0 == 6) = false := beq_eq_false_iff_ne.mpr c8; have Nd : (a0 != 6) = true := bne_iff_ne.mpr c8
 by_cases c9 : a0 = 7
 · rw [if_pos c9] at H; have Ne : (a0 == 7) = true := beq_iff_eq.mpr c9; have Nf : (a0 != 7) = false := bne_eq_false_iff_eq.mpr c9; clear c9; obtain rfl := Option.some.inj H; go_enter Try.func117, Try.ntmps117
   go_wp2
   go_ret
   exact ⟨xq7, xq3⟩
 rw [if_neg c9] at H; have Ne : (a0 == 7) = false := beq_eq_false_iff_ne.mpr c9; have Nf : (a0 != 7) = true := bne_iff_ne.mpr c9
 by_cases c10 : a0 = 8; rotate_left
 · rw [if_neg c10] at H; have Ng : (a0 == 8) = false := beq_eq_false_iff_ne.mpr c10; have Nh : (a0 != 8) = true := bne_iff_ne.mpr c10; obtain rfl := Option.some.inj H; go_enter Try.func117, Try.ntmps117
   go_wp2
   go_ret
   exact ⟨xq7, xq3⟩
 rw [if_pos c10] at H; have Ng : (a0 == 8) = true := beq_iff_eq.mpr c10; have Nh : (a0 != 8) = false := bne_eq_false_iff_eq.mpr c10; clear c10; obtain rfl := Option.some.inj H; go_enter Try.func117, Try.ntmps117
 go_wp2
 go_ret
 exact ⟨xq7, xq3⟩

def spec_TwoPower.l0 : Nat → Int → Int → Option (Int)
 | 0, _, _ => none
 | k + 1, x4, x5 => if (Int.tmod x5 2) = 0 then (spec_TwoPower.l0 k (wrap64 (x4 + 1)) (wrap64 (Int.tdiv x5 2))) else (some x4)
def spec_TwoPower.f (k : Nat) (a0 : Int) : Option (Int) := (spec_Modulus.f a0).bind fun t120 => (if t120 = 0 then (some (-1)) else (spec_TwoPower.l0 k 0 (wrap64 (t120 - 1))))
theorem spec_TwoPower.mono_l : ∀ k, (∀ y0 y1, LeO (spec_TwoPower.l0 k y0 y1) (spec_TwoPower.l0 (k + 1) y0 y1))
 | 0 => fun _ _ r h => by simp [spec_TwoPower.l0] at h
 | k + 1 => by
  have ih0 := spec_TwoPower.mono_l k
  · intro y0 y1; unfold spec_TwoPower.l0; exact xq63
theorem spec_TwoPower.mono : ∀ a0 k, LeO (spec_TwoPower.f k a0) (spec_TwoPower.f (k + 1) a0) := by
 intro a0 k; have b0 := spec_TwoPower.mono_l k
 unfold spec_TwoPower.f
 exact xq64
theorem spec_TwoPower.calls (k : Nat) (a0 : Int) (r : Int) (w : World) (h : spec_TwoPower.f k a0 = some r) :
 Calls Try.prog 112 #[.int .i64 a0] w fun e w' => e = .returned (.int .i64 r) ∧ Drawn0 w w' := by
 have H : ((spec_Modulus.f a0).bind fun z0 => (if z0 = 0 then (some (-1)) else (spec_TwoPower.l0 k 0 (wrap64 (z0 - 1))))) = some r := h; clear h; replace H := Option.bind_eq_some_iff.mp H; obtain ⟨z0, Z0, H⟩ := H; (try dsimp only at H); have A2 := ak Z0; clear Z0
 by_cases c3 : z0 = 0
 · rw [if_pos c3] at H; have N0 : (z0 == 0) = true := beq_iff_eq.mpr c3; have N1 : (z0 != 0) = false := bne_eq_false_iff_eq.mpr c3; clear c3; obtain rfl := Option.some.inj H; go_enter Try.func112, Try.ntmps112
   go_wp2_with (first | ((with_reducible refine gate_callee (f := 117) rfl ?_); refine goB 7 Try.func117 #[.int .i64 a0] rfl ?_; (with_reducible refine (spec_Modulus.calls a0 z0 _ A2.out).mono ?_); rintro e w' ⟨rfl, ⟨nd, rfl⟩⟩; refine ⟨_, rfl, ?_⟩))
   go_ret
   exact ⟨xq7, xq3⟩
 rw [if_neg c3] at H; have N0 : (z0 == 0) = false := beq_eq_false_iff_ne.mpr c3; have N1 : (z0 != 0) = true := bne_iff_ne.mpr c3; have H' := ak H; clear H; go_enter Try.func112, Try.ntmps112
 go_wp2_with (first | ((with_reducible refine gate_callee (f := 117) rfl ?_); refine goB 7 Try.func117 #[.int .i64 a0] rfl ?_; (with_reducible refine (spec_Modulus.calls a0 z0 _ A2.out).mono ?_); rintro e w' ⟨rfl, ⟨nd, rfl⟩⟩; refine ⟨_, rfl, ?_⟩))
 go_loopg [4, 5] k (fun kq v4 v5 w' => ∃ (W0 : Int) (W1 : Int), v4 = .int .i64 W0 ∧ v5 = .int .i64 W1 ∧ Aside0 (spec_TwoPower.l0 kq W0 W1 = some r) ∧ Aside0 (kq ≤ k) ∧ Drawn0 w w')
 case atStart => exact ⟨(0), (wrap64 (z0 - 1)), eqA, eqA, H', ⟨Nat.le_refl _⟩, xq3⟩
 case round =>
  clear H'; obtain ⟨W0, W1, rfl, rfl, HA, n0, ⟨m1, rfl⟩⟩ := hrel
  cases gk with
  | zero => exact absurd HA.out (by simp [spec_TwoPower.l0])
  | succ k1 =>
   have H := HA.out; clear HA; simp only [spec_TwoPower.l0] at H
   by_cases c4 : (Int.tmod W1 2) = 0; rotate_left
   · rw [if_neg c4] at H; have N2 : ((Int.tmod W1 2) == 0) = false := beq_eq_false_iff_ne.mpr c4; have N3 : ((Int.tmod W1 2) != 0) = true := bne_iff_ne.mpr c4; obtain rfl := Option.some.inj H; go_wp2
     go_ret
     exact ⟨xq7, xq3⟩
   rw [if_pos c4] at H; have N2 : ((Int.tmod W1 2) == 0) = true := beq_iff_eq.mpr c4; have N3 : ((Int.tmod W1 2) != 0) = false := bne_eq_false_iff_eq.mpr c4; clear c4; have H' := ak H; clear H; go_wp2
   go_roundg k1
   case measure => have := n0.out; omega
   case rel => exact ⟨(wrap64 (W0 + 1)), (wrap64 (Int.tdiv W1 2)), eqA, eqA, H', ⟨xq16⟩, xq3⟩

def spec_l01PickInt.f (s0_0 : List Int) (s0_1 : Int) (s0_2 : Int) (l1 : List Int) : Option (Int × Int × Int) := (spec_l01Below.f s0_0 s0_1 s0_2 (l1.length : Int)).bind fun bt121 => (if 0 ≤ bt121.1 then (if bt121.1 < (l1.length : Int) then (some (rd l1 bt121.1, bt121.2.1, bt121.2.2)) else (none)) else (none))
theorem spec_l01PickInt.calls (g : Nat) (s0_0 : List Int) (s0_1 : Int) (s0_2 : Int) (A1 : Option Addr) (c1 : Nat) (l1 : List Int) (r1 : Int) (r2 : Int) (r3 : Int) (w0 w : World) (hI : IsS129 w0 w g s0_0 s0_1 s0_2) (hB : Below w0.heap.size w0 w) (hr1 : Kd.C (Kd.int .i64) w A1 l1.length l1) (hc1 : l1.length ≤ c1) (hf1 : ∀ ad, A1 = some ad → 0 < l1.length → ad.block ≠ g) (h : spec_l01PickInt.f s0_0 s0_1 s0_2 l1 = some (r1, r2, r3)) :
 Calls Try.prog 114 #[.pointer (some ⟨g, 0, none⟩), .slice A1 l1.length c1] w fun e w' => e = .returned (.int .i64 r1) ∧ IsS129 w0 w' g s0_0 r2 r3 ∧ Below w0.heap.size w0 w' ∧ KeepBut w w' g none := by
 have g0 := ak hr1; have x0 := ak hc1; clear hr1 hc1; have O0 := ak hI; have HK := ak (KeepBut.refl w g none); have HL := ak hB.size; clear hI; have w3 := ak hB.size; have HB := ak hB; clear hB; have H : ((spec_l01Below.f s0_0 s0_1 s0_2 (l1.length : Int)).bind fun U0 => (if 0 ≤ U0.1 then (if U0.1 < (l1.length : Int) then (some (rd l1 U0.1, U0.2.1, U0.2.2)) else (none)) else (none))) = some (r1, r2, r3) := h; clear h; replace H := Option.bind_eq_some_iff.mp H; obtain ⟨⟨z0, z1, z2⟩, Z0, H⟩ := H; (try dsimp only at H); have A3 := ak Z0; clear Z0
 by_cases c4 : 0 ≤ z0; rotate_left
 · rw [if_neg c4] at H; exact absurd H (by simp)
 rw [if_pos c4] at H; have N0 := decide_eq_true c4; clear c4
 by_cases c5 : z0 < (l1.length : Int); rotate_left
 · rw [if_neg c5] at H; exact absurd H (by simp)
 rw [if_pos c5] at H; have N1 := decide_eq_true c5; clear c5; simp only [Option.some.injEq, Prod.mk.injEq] at H; obtain ⟨rfl, rfl, rfl⟩ := H; go_enter Try.func114, Try.ntmps114
 go_wp2_with (first | ((with_reducible refine gate_callee (f := 111) rfl ?_); refine goB 9 Try.func111 #[.pointer (some ⟨g, 0, none⟩), .int .i64 (l1.length : Int)] rfl ?_; (with_reducible refine (spec_l01Below.calls g s0_0 s0_1 s0_2 (l1.length : Int) z0 z1 z2 w0 _ ?side1 ?side2 A3.out).mono ?_); (case side1 => exact xq8); (case side2 => exact xq9); rintro e w6 ⟨rfl, hi, hb, hk⟩; refine ⟨_, rfl, ?_⟩; replace HK := ak (KeepBut.trans kpA hk (.inl rfl)); replace HB := ak hb; replace O0 := ak hi; (try clear hb hk hi); have v0 : 0 ≤ (z0 : Int) := odA; have V0 : z0 < (l1.length : Int) := odA; obtain ⟨a5, A0, o0⟩ := Kd.at_int g0.out z0 v0 V0; cases A0; replace o0 := keep_cell HK.out o0 (by first | (rw [add_block]; exact hf1 _ rfl (by omega)) | exact hf1 _ rfl (by omega) | exact hf1 a5 rfl (by omega)); replace v0 := eq_true v0; replace V0 := eq_true V0))
 go_ret
 exact ⟨xq1, xq8, xq9, xq17⟩

def spec_l01DrawField.f (s0_0 : List Int) (s0_1 : Int) (s0_2 : Int) : Option (Int × Int × Int) := (spec_l01Once.f s0_0 s0_1 s0_2 20).bind fun bt125 => (if bt125.1 = true then ((spec_l01PickInt.f s0_0 bt125.2.1 bt125.2.2 (([(-1), 9, 100] : List Int))).bind fun bt131 => (some (bt131.1, bt131.2.1, bt131.2.2))) else ((spec_l01Below.f s0_0 bt125.2.1 bt125.2.2 9).bind fun bt134 => (some (bt134.1, bt134.2.1, bt134.2.2))))
theorem spec_l01DrawField.calls (g : Nat) (s0_0 : List Int) (s0_1 : Int) (s0_2 : Int) (r1 : Int) (r2 : Int) (r3 : Int) (w0 w : World) (hI : IsS129 w0 w g s0_0 s0_1 s0_2) (hB : Below w0.heap.size w0 w) (h : spec_l01DrawField.f s0_0 s0_1 s0_2 = some (r1, r2, r3)) :
 Calls Try.prog 113 #[.pointer (some ⟨g, 0, none⟩)] w fun e w' => e = .returned (.int .i64 r1) ∧ IsS129 w0 w' g s0_0 r2 r3 ∧ Below w0.heap.size w0 w' ∧ KeepBut w w' g none := by
 have O0 := ak hI; have HK := ak (KeepBut.refl w g none); have HL := ak hB.size; clear hI; have w3 := ak hB.size; have HB := ak hB; clear hB; have H : ((spec_l01Once.f s0_0 s0_1 s0_2 20).bind fun U0 => (if U0.1 = true then ((spec_l01PickInt.f s0_0 U0.2.1 U0.2.2 (([(-1), 9, 100] : List Int))).bind fun U1 => (some (U1.1, U1.2.1, U1.2.2))) else ((spec_l01Below.f s0_0 U0.2.1 U0.2.2 9).bind fun U2 => (some (U2.1, U2.2.1, U2.2.2))))) = some (r1, r2, r3) := h; clear h; replace H := Option.bind_eq_some_iff.mp H; obtain ⟨⟨z0, z1, z2⟩, Z0, H⟩ := H; (try dsimp only at H); have A2 := ak Z0; clear Z0
 by_cases c3 : z0 = true; rotate_left
 · replace c3 := Bool.eq_false_iff.mpr c3; subst c3; have H1 : ((spec_l01Below.f s0_0 z1 z2 9).bind fun U2 => (some (U2.1, U2.2.1, U2.2.2))) = some (r1, r2, r3) := by rw [if_neg (show ¬ (false = true) by decide)] at H; exact H
   clear H; have H := H1; clear H1; replace H := Option.bind_eq_some_iff.mp H; obtain ⟨⟨z3, z4, z5⟩, Z1, H⟩ := H; (try dsimp only at H); have Z2 := ak Z1; clear Z1; simp only [Option.some.injEq, Prod.mk.injEq] at H; obtain ⟨rfl, rfl, rfl⟩ := H; go_enter Try.func113, Try.ntmps113
   go_wp2_with (first | ((with_reducible refine gate_callee (f := 61) rfl ?_); refine goB 4 Try.func61 #[.pointer (some ⟨g, 0, none⟩), .int .i64 20] rfl ?_; (with_reducible refine (spec_l01Once.calls g s0_0 s0_1 s0_2 20 false z1 z2 w0 _ ?side1 ?side2 A2.out).mono ?_); (case side1 => exact xq8); (case side2 => exact xq9); rintro e k0 ⟨rfl, hi, hb, hk⟩; refine ⟨_, rfl, ?_⟩; replace HK := ak (KeepBut.trans kpA hk (.inl rfl)); replace HB := ak hb; replace O0 := ak hi; (try clear hb hk hi)) | ((with_reducible refine gate_callee (f := 111) rfl ?_); refine goB 9 Try.func111 #[.pointer (some ⟨g, 0, none⟩), .int .i64 9] rfl ?_; (with_reducible refine (spec_l01Below.calls g s0_0 z1 z2 9 z3 z4 z5 w0 _ ?side1 ?side2 Z2.out).mono ?_); (case side1 => exact xq8); (case side2 => exact xq9); rintro e k1 ⟨rfl, hi, hb, hk⟩; refine ⟨_, rfl, ?_⟩; replace HK := ak (KeepBut.trans kpA hk (.inl rfl)); replace HB := ak hb; replace O0 := ak hi; (try clear hb hk hi)))
   go_ret
   exact ⟨xq1, xq8, xq9, xq17⟩
 subst c3; have H1 : ((spec_l01PickInt.f s0_0 z1 z2 (([(-1), 9, 100] : List Int))).bind fun U1 => (some (U1.1, U1.2.1, U1.2.2))) = some (r1, r2, r3) := by rw [if_pos rfl] at H; exact H
 clear H; have H := H1; clear H1; obtain ⟨K0, hyq⟩ : ∃ y_ : List Int, y_ = (([(-1), 9, 100] : List Int)) := ⟨_, rfl⟩; replace H : ((spec_l01PickInt.f s0_0 z1 z2 K0).bind fun U1 => (some (U1.1, U1.2.1, U1.2.2))) = some (r1, r2, r3) := by first | (rw [hyq]; with_reducible exact H) | (have e0 := (Option.bind_some _ _).symm.trans H; rw [hyq]; with_reducible exact e0) | (have e0 := (Option.bind_some _ _).symm.trans H; with_reducible exact e0) | with_reducible exact H | (rw [hyq]; exact H) | exact H
 have E0 := ak hyq; clear hyq; replace H := Option.bind_eq_some_iff.mp H; obtain ⟨⟨z6, z7, z8⟩, Z3, H⟩ := H; (try dsimp only at H); have A4 := ak Z3; clear Z3; simp only [Option.some.injEq, Prod.mk.injEq] at H; obtain ⟨rfl, rfl, rfl⟩ := H; go_enter Try.func113, Try.ntmps113
 go_wp2_with (first | ((with_reducible refine gate_callee (f := 61) rfl ?_); refine goB 4 Try.func61 #[.pointer (some ⟨g, 0, none⟩), .int .i64 20] rfl ?_; (with_reducible refine (spec_l01Once.calls g s0_0 s0_1 s0_2 20 true z1 z2 w0 _ ?side1 ?side2 A2.out).mono ?_); (case side1 => exact xq8); (case side2 => exact xq9); rintro e w5 ⟨rfl, hi, hb, hk⟩; refine ⟨_, rfl, ?_⟩; replace HK := ak (KeepBut.trans kpA hk (.inl rfl)); replace HB := ak hb; replace O0 := ak hi; (try clear hb hk hi)) | ((with_reducible refine gate_dst (N := 6) rfl ?_); refine Kd.R_lit (Kd.int .i64) _ 3 ?hg (N := 6) ?hd (xs := ([(-1), 9, 100] : List Int)) (inner := [.int .i64 (-1), .int .i64 9, .int .i64 100]) (ok := fun _ => True) (okp := fun _ => True) ?hr ?hp (fun _ hk => hk) trivial (Below.refl _ _) (Nat.le_refl _) (by simp) ?_; (case hd => rfl); (case hg => rfl); (case hr => exact xq4); (case hp => exact (Reps.one (show Kd.M (Kd.int .i64) _ _ _ (-1) [.int .i64 (-1)] from rfl) (Reps.one (show Kd.M (Kd.int .i64) _ _ _ 9 [.int .i64 9] from rfl) (Reps.one (show Kd.M (Kd.int .i64) _ _ _ 100 [.int .i64 100] from rfl) (Reps.none _ _))))); intro d0 w6 D0 hb hg_ hnew_; clear hg_ hnew_; (first | rw [← E0.out] at D0 | (simp only [Int.reduceToNat] at D0; rw [← E0.out] at D0)); have f0 := ak (Kd.R_lower D0 (keep_size (w := w) (g := g) (row := none) kpA)); replace HK := ak (KeepBut.trans kpA (KeepBut.of_below hb g none) (.inl rfl)); replace HB := ak (below_step xq9 hb); replace O0 := ak (IsS129.below xq8 hb); clear hb D0; obtain ⟨F0, l6, L0⟩ := Kd.R_slice f0.out; subst L0) | ((with_reducible refine gate_callee (f := 114) rfl ?_); refine goB 7 Try.func114 #[.pointer (some ⟨g, 0, none⟩), .slice F0 K0.length l6] rfl ?_; (with_reducible refine (spec_l01PickInt.calls g s0_0 z1 z2 _ _ K0 z6 z7 z8 w0 _ ?side1 ?side2 ?side3 ?side4 ?side5 A4.out).mono ?_); (case side1 => exact xq8); (case side2 => exact xq9); (case side3 => exact cA ((Kd.R_reads' f0.out).2.2)); (case side4 => exact (Kd.R_reads' f0.out).2.1); (case side5 => exact far_slice (IsS129.own_ne O0.out f0.out (by decide))); rintro e w9 ⟨rfl, hi, hb, hk⟩; refine ⟨_, rfl, ?_⟩; replace f0 := ak (Kd.R_mono (Kd.R_keep (IsS129.apart (show IsS129 w0 _ g s0_0 z1 z2 from xq8) (rF f0) (by decide)) hk (fun _ h => h.2)) (fun _ h => h.1)); replace HK := ak (KeepBut.trans kpA hk (.inl rfl)); replace HB := ak hb; replace O0 := ak hi; (try clear hb hk hi)))
 go_ret
 exact ⟨xq1, xq8, xq9, xq17⟩

end Go.Proofs.Ytbojabmpcfclhaa.PFnPlanTurned
