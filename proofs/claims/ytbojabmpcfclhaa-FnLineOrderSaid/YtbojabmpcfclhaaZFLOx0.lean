/- slices.Delete of one element of a row of the call's own, at elements of two cells: the library's own text is walked. -/
import Derived.Test.YtbojabmpcfclhaaProg
import Derived.Below
import Derived.Tactics
import Derived.WalkKit
import Derived.KernelRfl
import Derived.Deep.RegionLaw
import Derived.Lib.SliceRun
import Derived.Test.YtbojabmpcfclhaaZFLOV
namespace Go.Proofs.Ytbojabmpcfclhaa.Del
open Go.RowKit Go.Proofs.YtbojabmpcfclhaaW.PrintWords Go.Proofs.YtbojabmpcfclhaaW.PrintLast Go.Proofs.YtbojabmpcfclhaaW.PrintMore
set_option linter.unusedVariables false
theorem info_parts {P : Program} {t : TypeId} {z : Option Value} {s b : Nat} (h : (P.info? t).map (fun i => (i.zero, i.size, i.bytes)) = some (z, s, b)) : ∃ i, P.info? t = some i ∧ i.zero = z ∧ i.size = s ∧ i.bytes = b := by
  cases hp : P.info? t with
  | none => rw [hp] at h; simp at h
  | some i => rw [hp] at h; simp at h; exact ⟨i, rfl, h.1, h.2.1, h.2.2⟩
theorem info : (Try.prog.info? 65).map (fun i => (i.zero, i.size, i.bytes)) = some (some (.agg #[(.int .i64 0), (.int .i64 0)]), 2, 16) := by kernel_rfl
/-- clear of a cut of one element of two cells. -/
theorem clear_one {P : Program} (w : World) (t e ty : TypeId) (u v : Value) (ht : P.underlying t = some (.slice e)) (hv : ∀ w, (zeroValue e).run P w = .ok (.agg #[u, v]) w) (h1 : u.oneCell' = true) (h2 : v.oneCell' = true) (b o c : Nat)
    (hc : ∀ j, j < 2 → (w.cell? ⟨b, o + j, none⟩).isSome = true) (hf : ∀ j, j < 2 → w.frozen? ⟨b, o + j, none⟩ = false) :
    (Builtin.clear_ #[t] ty #[.slice (some ⟨b, o, none⟩) 1 c]).run P w = .ok (.tuple #[]) (w.setCells b o [u, v]) := by
  have hst := run_storeCells_cells (P := P) b o [u, v] 0 w (by simpa using hc) (by simpa using hf) (by intro x hx; simp at hx; rcases hx with rfl | rfl; exact h1; exact h2)
  simp only [Nat.add_zero] at hst
  have hz : (Builtin.zeroCells (Value.agg #[u, v]).cells 1).toList = [u, v] := by simp [Builtin.zeroCells, Value.cells, List.range, List.range.loop]
  simp [Builtin.clear_, run_underlying ht, hv, hz, hst]
theorem below_cells {B g : Nat} {a : World} (hg : B ≤ g) : ∀ (vs : List Value) (o : Nat) {w : World}, Below B a w → Below B a (w.setCells g o vs)
  | [], _, _, h => h
  | v :: r, o, w, h => below_cells hg r (o + 1) (h.setCell hg _)
theorem take_mid {α : Type} (L : List α) (a b c : Nat) (hab : a ≤ b) (hbc : b ≤ c) (hc : c ≤ L.length) :
    (L.take a ++ (L.take c).drop b ++ L.drop (a + (c - b))).take (a + (c - b)) = (L.take c).take a ++ (L.take c).drop b := by
  have h1 : (L.take a ++ (L.take c).drop b).length = a + (c - b) := by simp; omega
  rw [List.take_append_of_le_length (by omega), List.take_of_length_le (by omega), List.take_take, Nat.min_eq_left (by omega)]

set_option maxHeartbeats 4000000 in
set_option maxRecDepth 1000000 in
theorem delete (g n cap i : Nat) (cur : Array Value) (inner : List Value) (base : Nat) (w : World) (hbase : base ≤ g) (hH : w.heap[g]? = some (.cells cur 65 (0, 0))) (hcs : cur.size = cap * 2) (hn : n ≤ cap) (hm : cap ≤ maxLen) (hi : i < n) (hin : cur.toList.take (n * 2) = inner) (h1c : ∀ u ∈ inner, u.oneCell' = true) :
    Calls Try.prog 148 #[.slice (some ⟨g, 0, none⟩) n cap, .int .i64 i, .int .i64 ((i : Int) + 1)] w fun e w' => e = .returned (.slice (some ⟨g, 0, none⟩) (n - 1) cap) ∧
      (∃ cur', w'.heap[g]? = some (.cells cur' 65 (0, 0)) ∧ cur'.size = cap * 2 ∧ cur'.toList.take ((n - 1) * 2) = inner.take (i * 2) ++ inner.drop ((i + 1) * 2)) ∧ Below base w w' ∧ (∀ k, k ≠ g → w'.heap[k]? = w.heap[k]?) := by
  have hm9 : cap ≤ 9223372036854775807 := hm
  have hlenI : inner.length = n * 2 := by rw [← hin]; simp [hcs]; omega
  have hcell : ∀ j, j < cap * 2 → w.cell? ⟨g, j, none⟩ = cur[j]? := fun j _ => cell_of_row w g j cur _ (0, 0) hH
  have hfro : ∀ j, w.frozen? ⟨g, j, none⟩ = false := fun j => by simp [World.frozen?, hH]
  obtain ⟨i0, hi0, hz0, hz1, hz2⟩ := info_parts info
  obtain ⟨news, hnews⟩ : ∃ news, news = inner.drop ((i + 1) * 2) := ⟨_, rfl⟩
  have hlen : news.length = (n - (i + 1)) * 2 := by rw [hnews, List.length_drop, hlenI]; omega
  have hget : ∀ t u, news[t]? = some u → w.cell? ⟨g, (i + 1) * 2 + t, none⟩ = some u := by
    intro t u hu
    have ht := (List.getElem?_eq_some_iff.1 hu).1
    rw [hcell _ (by omega), ← hu, hnews, List.getElem?_drop, ← hin, List.getElem?_take, if_pos (by omega), Array.getElem?_toList]
  obtain ⟨A, hA, hsrc⟩ : ∃ A : Addr, (if cap = i + 1 then (some (⟨g, 0, none⟩ : Addr)) else some ⟨g, (i + 1) * 2, none⟩) = some A ∧ Hid (∀ t u, news[t]? = some u → w.drew.cell? (A.add t) = some u) := by
    by_cases h : cap = i + 1
    · refine ⟨⟨g, 0, none⟩, by simp [h], fun t u hu => ?_⟩
      have h0 : news.length = 0 := by rw [hlen]; omega
      rw [List.length_eq_zero_iff.1 h0] at hu
      simp at hu
    · refine ⟨⟨g, (i + 1) * 2, none⟩, by simp [h], fun t u hu => ?_⟩
      rw [Addr.add_lit]
      exact hget t u hu
  have s1 : Hid (news.length = (n - (i + 1)) * 2) := hlen
  have s2 : Hid (∀ u ∈ news, u.oneCell' = true) := fun u hu => h1c u (List.mem_of_mem_drop (hnews ▸ hu))
  have s3 : Hid (∀ t, t < news.length → (w.drew.cell? ⟨g, 0 + i * 2 + t, none⟩).isSome = true ∧ w.drew.frozen? ⟨g, 0 + i * 2 + t, none⟩ = false) := by
    intro t ht
    rw [hlen] at ht
    refine ⟨?_, hfro _⟩
    show (w.cell? _).isSome = true
    rw [hcell _ (by omega), Array.getElem?_eq_getElem (by omega)]
    rfl
  obtain ⟨W1, hW1⟩ : ∃ W1, W1 = w.drew.setCells g (0 + i * 2) news := ⟨_, rfl⟩
  obtain ⟨cur1, hH1, hs1, ht1⟩ := setCells_row news (0 + i * 2) w.drew cur hH (by omega)
  rw [← hW1] at hH1
  obtain ⟨W2, hW2⟩ : ∃ W2, W2 = W1.setCells g (0 + (n - 1) * 2) [.int .i64 0, .int .i64 0] := ⟨_, rfl⟩
  have hcl : ∀ ty, (Builtin.clear_ #[59] ty #[.slice (some ⟨g, (i + (n - (i + 1))) * 2, none⟩) (n - (i + (n - (i + 1)))) (cap - (i + (n - (i + 1))))]).run Try.prog W1 = .ok (.tuple #[]) W2 := fun ty => by
    rw [show n - (i + (n - (i + 1))) = 1 by omega, show (i + (n - (i + 1))) * 2 = 0 + (n - 1) * 2 by omega, hW2]
    exact clear_one W1 _ _ ty _ _ Try.underlying59 Try.zeroValue65 rfl rfl g _ _ (fun j hj => by rw [cell_of_row W1 g _ cur1 _ (0, 0) hH1, Array.getElem?_eq_getElem (by omega)]; rfl) (fun j hj => by simp [World.frozen?, hH1])
  obtain ⟨cur2, hH2, hs2, ht2⟩ := setCells_row [.int .i64 0, .int .i64 0] (0 + (n - 1) * 2) W1 cur1 hH1 (by simp; omega)
  rw [← hW2] at hH2
  have hend : cur2.toList.take ((n - 1) * 2) = inner.take (i * 2) ++ inner.drop ((i + 1) * 2) := by
    rw [ht2, List.append_assoc, List.take_append_of_le_length (by simp; omega), List.take_of_length_le (by simp; omega), ht1, hnews, ← hin]
    have hb : (List.drop ((i + 1) * 2) (List.take (n * 2) cur.toList)).length = (n - (i + 1)) * 2 := by simp [hcs]; omega
    rw [hb, show 0 + i * 2 = i * 2 by omega, show 0 + (n - 1) * 2 = i * 2 + (n * 2 - (i + 1) * 2) by omega, show i * 2 + (n - (i + 1)) * 2 = i * 2 + (n * 2 - (i + 1) * 2) by omega]
    exact take_mid cur.toList (i * 2) ((i + 1) * 2) (n * 2) (by omega) (by omega) (by simp [hcs]; omega)
  have hfar : ∀ k, k ≠ g → W2.heap[k]? = w.heap[k]? := fun k hk => by rw [hW2, setCells_far _ _ k hk, hW1, setCells_far _ _ k hk]; rfl
  have hbel : Below base w W2 := by
    rw [hW2, hW1]
    exact below_cells hbase _ _ (below_cells hbase _ _ (below_drew1 (Below.refl base w)))
  have X := Aside0.mk (show (∃ cur', W2.heap[g]? = some (.cells cur' 65 (0, 0)) ∧ cur'.size = cap * 2 ∧ cur'.toList.take ((n - 1) * 2) = inner.take (i * 2) ++ inner.drop ((i + 1) * 2)) ∧ Below base w W2 ∧ (∀ k, k ≠ g → W2.heap[k]? = w.heap[k]?) from ⟨⟨cur2, hH2, by omega, hend⟩, hbel, hfar⟩)
  have hW : Hid (W1 = w.drew.setCells g (0 + i * 2) news) := hW1
  have hic : i ≤ cap := by omega
  have hwr : IntKind.i64.wrap ((i : Int) + 1) = (i : Int) + 1 := by rw [IntKind.wrap_i64]; omega
  have hne : ((i : Int) = (i : Int) + 1) = False := by simp; omega
  have hp0 : (0 : Int) ≤ (i : Int) + 1 := by omega
  have hp1 : (i : Int) + 1 ≤ (n : Int) := by omega
  have hp2 : ((i : Int) + 1).toNat = i + 1 := by omega
  clear hW1 hW2 hH1 hH2 hH hget hnews hlen hbel hfar hend ht1 ht2 hs1 hs2 hcell hfro hin h1c
  go_enter Try.func148, Try.ntmps148
  go_wp2_with fail
  go_region_law (refine step_append_room rfl (.tmp 22) (.tmp 25) 59 rfl 65 i0 2 Try.underlying59 hi0 hz1 g 0 i cap (by simp [Act.eval, Act.put]) A (n - (i + 1)) (cap - (i + 1)) news (by simp [Act.eval, Act.put]) s1.out hsrc.out s2.out (by omega) s3.out ?_; rw [← hW.out])

  go_wp2
  go_ret
  exact ⟨by rw [show n - 1 = i + (n - (i + 1)) by omega]; rfl, X.out⟩
end Go.Proofs.Ytbojabmpcfclhaa.Del
