-- Written by a program of this session (the print of the kit with contracts of this session's own added)
import Derived.Test.YtbojabmpcfclhaaZFLOx1
import Derived.Test.YtbojabmpcfclhaaZFLOx2
import Derived.Test.YtbojabmpcfclhaaZFLOx4
import Derived.Test.YtbojabmpcfclhaaZFLOx5
import Derived.Test.YtbojabmpcfclhaaZFLOV
namespace Go.Proofs.Ytbojabmpcfclhaa.PFnLineOrder
open Go.RowKit Go.Proofs.YtbojabmpcfclhaaW.PrintWords Go.Proofs.YtbojabmpcfclhaaW.PrintLast Go.Proofs.YtbojabmpcfclhaaW.PrintMore Go.Proofs.YtbojabmpcfclhaaW.PrintPack
attribute [local go_sem] max2_int min2_int max_two min_two max_three min_three max_four min_four   -- for this text's walks alone
set_option linter.unusedVariables false
set_option linter.unusedSimpArgs false

/-! ### laws_FnLineOrder: function 7 -/
mutual
def laws_FnLineOrder.l0 : Nat → List Int → List Int → Int → Int → List (S65) → Option (Bool)
 | 0, _, _, _, _, _ => none
 | k + 1, x0, x4, x5, x6, x173000 => (laws_at.f x0 0).bind fun t176 => (if x6 < (Int.tmod t176 60) then ((laws_at.f x0 (wrap64 (x6 + 1))).bind fun t177 => ((laws_at.f x0 (wrap64 (x6 + 2))).bind fun t178 => ((impl_Push.f k x173000 (wrap64 (x5 + (Int.tmod t177 3))) (wrap64 (1 + t178))).bind fun bt179 => (if (wrap64 (x5 + (Int.tmod t177 3))) > 0 then (if (x4.length : Int) < 40 then (if (x4.length : Int) = 0 then (laws_FnLineOrder.j1 k x0 x4 (wrap64 (x5 + (Int.tmod t177 3))) x6 bt179.2 true bt179.1) else (if 0 ≤ (wrap64 ((x4.length : Int) - 1)) then (if (wrap64 ((x4.length : Int) - 1)) < (x4.length : Int) then (laws_FnLineOrder.j1 k x0 x4 (wrap64 (x5 + (Int.tmod t177 3))) x6 bt179.2 (decide ((rd x4 (wrap64 ((x4.length : Int) - 1))) < (wrap64 (x5 + (Int.tmod t177 3))))) bt179.1) else (none)) else (none))) else (laws_FnLineOrder.j1 k x0 x4 (wrap64 (x5 + (Int.tmod t177 3))) x6 bt179.2 false bt179.1)) else (laws_FnLineOrder.j1 k x0 x4 (wrap64 (x5 + (Int.tmod t177 3))) x6 bt179.2 false bt179.1))))) else (laws_FnLineOrder.l2 k x4 0 x173000))
def laws_FnLineOrder.j1 : Nat → List Int → List Int → Int → Int → Bool → Bool → List (S65) → Option (Bool)
 | 0, _, _, _, _, _, _, _ => none
 | k + 1, x0, x4, x5, x6, x8, x9, x184000 => if (x8 != x9) = true then (some false) else (if x8 = true then (if x4.length < 17592186044416 then (laws_FnLineOrder.j2 k x0 (x4 ++ [x5]) x5 x6 x184000) else (none)) else (laws_FnLineOrder.j2 k x0 x4 x5 x6 x184000))
def laws_FnLineOrder.j2 : Nat → List Int → List Int → Int → Int → List (S65) → Option (Bool)
 | 0, _, _, _, _, _ => none
 | k + 1, x0, x4, x5, x6, x184000 => (laws_at.f x0 (wrap64 (x6 + 3))).bind fun t188 => (if (Int.tmod t188 7) = 0 then (laws_FnLineOrder.j3 k x0 x4 x5 x6 (decide ((x4.length : Int) > 0)) x184000) else (laws_FnLineOrder.j3 k x0 x4 x5 x6 false x184000))
def laws_FnLineOrder.j3 : Nat → List Int → List Int → Int → Int → Bool → List (S65) → Option (Bool)
 | 0, _, _, _, _, _, _ => none
 | k + 1, x0, x4, x5, x6, x94, x173000 => if x94 = true then ((laws_at.f x0 x6).bind fun t189 => (if (x4.length : Int) = 0 then (none) else (if 0 ≤ (Int.tmod t189 (x4.length : Int)) then (if (Int.tmod t189 (x4.length : Int)) < (x4.length : Int) then ((impl_Cancel.f k x173000 (rd x4 (Int.tmod t189 (x4.length : Int)))).bind fun bt191 => (if bt191.2.2.2 = true then (if bt191.2.1 = (rd x4 (Int.tmod t189 (x4.length : Int))) then ((impl_PlaceOf.f k x173000 (rd x4 (Int.tmod t189 (x4.length : Int)))).bind fun t201 => (laws_FnLineOrder.j4 k x0 x4 x5 x6 (Int.tmod t189 (x4.length : Int)) (t201 != (Int.tmod t189 (x4.length : Int))) bt191.1)) else (laws_FnLineOrder.j4 k x0 x4 x5 x6 (Int.tmod t189 (x4.length : Int)) true bt191.1)) else (laws_FnLineOrder.j4 k x0 x4 x5 x6 (Int.tmod t189 (x4.length : Int)) true bt191.1))) else (none)) else (none)))) else (laws_FnLineOrder.l0 k x0 x4 x5 (wrap64 (x6 + 1)) x173000)
def laws_FnLineOrder.j4 : Nat → List Int → List Int → Int → Int → Int → Bool → List (S65) → Option (Bool)
 | 0, _, _, _, _, _, _, _ => none
 | k + 1, x0, x4, x5, x6, x10, x131, x198000 => if x131 = true then (some false) else (laws_FnLineOrder.l1 k x0 x4 x5 x6 x10 (([] : List Int)) 0 x198000)
def laws_FnLineOrder.l1 : Nat → List Int → List Int → Int → Int → Int → List Int → Int → List (S65) → Option (Bool)
 | 0, _, _, _, _, _, _, _, _ => none
 | k + 1, x0, x4, x5, x6, x10, x14, x15, x173000 => if x15 < (x4.length : Int) then (if x15 = x10 then (laws_FnLineOrder.l1 k x0 x4 x5 x6 x10 x14 (wrap64 (x15 + 1)) x173000) else (if 0 ≤ x15 then (if x14.length < 17592186044416 then (laws_FnLineOrder.l1 k x0 x4 x5 x6 x10 (x14 ++ [rd x4 x15]) (wrap64 (x15 + 1)) x173000) else (none)) else (none))) else (laws_FnLineOrder.l0 k x0 x14 x5 (wrap64 (x6 + 1)) x173000)
def laws_FnLineOrder.l2 : Nat → List Int → Int → List (S65) → Option (Bool)
 | 0, _, _, _ => none
 | k + 1, x4, x16, x173000 => if x16 < (x4.length : Int) then ((impl_Pop.f k x173000).bind fun bt209 => (if bt209.2.2.2 = true then (if 0 ≤ x16 then (if bt209.2.1 = (rd x4 x16) then (laws_FnLineOrder.l2 k x4 (wrap64 (x16 + 1)) bt209.1) else (some false)) else (none)) else (some false))) else ((impl_Pop.f k x173000).bind fun bt218 => (some (!bt218.2.2.2)))
end
def laws_FnLineOrder.f (k : Nat) (l0 : List Int) : Option (Bool) := (laws_big.f l0).bind fun t171 => (if t171 = true then (some true) else (laws_FnLineOrder.l0 k l0 (([] : List Int)) 0 0 ([] : List (S65))))
theorem laws_FnLineOrder.mono_l : ∀ k, (∀ y0 y1 y2 y3 y4, LeO (laws_FnLineOrder.l0 k y0 y1 y2 y3 y4) (laws_FnLineOrder.l0 (k + 1) y0 y1 y2 y3 y4)) ∧ (∀ y0 y1 y2 y3 y4 y5 y6, LeO (laws_FnLineOrder.j1 k y0 y1 y2 y3 y4 y5 y6) (laws_FnLineOrder.j1 (k + 1) y0 y1 y2 y3 y4 y5 y6)) ∧ (∀ y0 y1 y2 y3 y4, LeO (laws_FnLineOrder.j2 k y0 y1 y2 y3 y4) (laws_FnLineOrder.j2 (k + 1) y0 y1 y2 y3 y4)) ∧ (∀ y0 y1 y2 y3 y4 y5, LeO (laws_FnLineOrder.j3 k y0 y1 y2 y3 y4 y5) (laws_FnLineOrder.j3 (k + 1) y0 y1 y2 y3 y4 y5)) ∧ (∀ y0 y1 y2 y3 y4 y5 y6, LeO (laws_FnLineOrder.j4 k y0 y1 y2 y3 y4 y5 y6) (laws_FnLineOrder.j4 (k + 1) y0 y1 y2 y3 y4 y5 y6)) ∧ (∀ y0 y1 y2 y3 y4 y5 y6 y7, LeO (laws_FnLineOrder.l1 k y0 y1 y2 y3 y4 y5 y6 y7) (laws_FnLineOrder.l1 (k + 1) y0 y1 y2 y3 y4 y5 y6 y7)) ∧ (∀ y0 y1 y2, LeO (laws_FnLineOrder.l2 k y0 y1 y2) (laws_FnLineOrder.l2 (k + 1) y0 y1 y2))
 | 0 => ⟨fun _ _ _ _ _ r h => by simp [laws_FnLineOrder.l0] at h, fun _ _ _ _ _ _ _ r h => by simp [laws_FnLineOrder.j1] at h, fun _ _ _ _ _ r h => by simp [laws_FnLineOrder.j2] at h, fun _ _ _ _ _ _ r h => by simp [laws_FnLineOrder.j3] at h, fun _ _ _ _ _ _ _ r h => by simp [laws_FnLineOrder.j4] at h, fun _ _ _ _ _ _ _ _ r h => by simp [laws_FnLineOrder.l1] at h, fun _ _ _ r h => by simp [laws_FnLineOrder.l2] at h⟩
 | k + 1 => by
  obtain ⟨ih0, ih1, ih2, ih3, ih4, ih5, ih6⟩ := laws_FnLineOrder.mono_l k; refine ⟨?_, ?_, ?_, ?_, ?_, ?_, ?_⟩
  · intro y0 y1 y2 y3 y4
    unfold laws_FnLineOrder.l0
    repeat' first
    | (with_reducible exact ih0 _ _ _ _ _)
    | (with_reducible exact ih1 _ _ _ _ _ _ _)
    | (with_reducible exact ih2 _ _ _ _ _)
    | (with_reducible exact ih3 _ _ _ _ _ _)
    | (with_reducible exact ih4 _ _ _ _ _ _ _)
    | (with_reducible exact ih5 _ _ _ _ _ _ _ _)
    | (with_reducible exact ih6 _ _ _)
    | (with_reducible exact impl_Cancel.mono _ _ _)
    | (with_reducible exact impl_PlaceOf.mono _ _ _)
    | (with_reducible exact impl_Pop.mono _ _)
    | (with_reducible exact impl_Push.mono _ _ _ _)
    | (with_reducible exact LeO.refl _)
    | (with_reducible exact LeO.none _)
    | (with_reducible refine LeO.ite ?_ ?_)
    | (with_reducible refine LeO.bind ?_ (fun _ => ?_))
    | exact ih0 _ _ _ _ _
    | exact ih1 _ _ _ _ _ _ _
    | exact ih2 _ _ _ _ _
    | exact ih3 _ _ _ _ _ _
    | exact ih4 _ _ _ _ _ _ _
    | exact ih5 _ _ _ _ _ _ _ _
    | exact ih6 _ _ _
    | exact impl_Cancel.mono _ _ _
    | exact impl_PlaceOf.mono _ _ _
    | exact impl_Pop.mono _ _
    | exact impl_Push.mono _ _ _ _
    | exact LeO.none _
    | refine LeO.ite ?_ ?_
    | refine LeO.bind ?_ (fun _ => ?_)
  · intro y0 y1 y2 y3 y4 y5 y6
    unfold laws_FnLineOrder.j1
    repeat' first
    | (with_reducible exact ih0 _ _ _ _ _)
    | (with_reducible exact ih1 _ _ _ _ _ _ _)
    | (with_reducible exact ih2 _ _ _ _ _)
    | (with_reducible exact ih3 _ _ _ _ _ _)
    | (with_reducible exact ih4 _ _ _ _ _ _ _)
    | (with_reducible exact ih5 _ _ _ _ _ _ _ _)
    | (with_reducible exact ih6 _ _ _)
    | (with_reducible exact impl_Cancel.mono _ _ _)
    | (with_reducible exact impl_PlaceOf.mono _ _ _)
    | (with_reducible exact impl_Pop.mono _ _)
    | (with_reducible exact impl_Push.mono _ _ _ _)
    | (with_reducible exact LeO.refl _)
    | (with_reducible exact LeO.none _)
    | (with_reducible refine LeO.ite ?_ ?_)
    | (with_reducible refine LeO.bind ?_ (fun _ => ?_))
    | exact ih0 _ _ _ _ _
    | exact ih1 _ _ _ _ _ _ _
    | exact ih2 _ _ _ _ _
    | exact ih3 _ _ _ _ _ _
    | exact ih4 _ _ _ _ _ _ _
    | exact ih5 _ _ _ _ _ _ _ _
    | exact ih6 _ _ _
    | exact impl_Cancel.mono _ _ _
    | exact impl_PlaceOf.mono _ _ _
    | exact impl_Pop.mono _ _
    | exact impl_Push.mono _ _ _ _
    | exact LeO.none _
    | refine LeO.ite ?_ ?_
    | refine LeO.bind ?_ (fun _ => ?_)
  · intro y0 y1 y2 y3 y4
    unfold laws_FnLineOrder.j2
    repeat' first
    | (with_reducible exact ih0 _ _ _ _ _)
    | (with_reducible exact ih1 _ _ _ _ _ _ _)
    | (with_reducible exact ih2 _ _ _ _ _)
    | (with_reducible exact ih3 _ _ _ _ _ _)
    | (with_reducible exact ih4 _ _ _ _ _ _ _)
    | (with_reducible exact ih5 _ _ _ _ _ _ _ _)
    | (with_reducible exact ih6 _ _ _)
    | (with_reducible exact impl_Cancel.mono _ _ _)
    | (with_reducible exact impl_PlaceOf.mono _ _ _)
    | (with_reducible exact impl_Pop.mono _ _)
    | (with_reducible exact impl_Push.mono _ _ _ _)
    | (with_reducible exact LeO.refl _)
    | (with_reducible exact LeO.none _)
    | (with_reducible refine LeO.ite ?_ ?_)
    | (with_reducible refine LeO.bind ?_ (fun _ => ?_))
    | exact ih0 _ _ _ _ _
    | exact ih1 _ _ _ _ _ _ _
    | exact ih2 _ _ _ _ _
    | exact ih3 _ _ _ _ _ _
    | exact ih4 _ _ _ _ _ _ _
    | exact ih5 _ _ _ _ _ _ _ _
    | exact ih6 _ _ _
    | exact impl_Cancel.mono _ _ _
    | exact impl_PlaceOf.mono _ _ _
    | exact impl_Pop.mono _ _
    | exact impl_Push.mono _ _ _ _
    | exact LeO.none _
    | refine LeO.ite ?_ ?_
    | refine LeO.bind ?_ (fun _ => ?_)
  · intro y0 y1 y2 y3 y4 y5
    unfold laws_FnLineOrder.j3
    repeat' first
    | (with_reducible exact ih0 _ _ _ _ _)
    | (with_reducible exact ih1 _ _ _ _ _ _ _)
    | (with_reducible exact ih2 _ _ _ _ _)
    | (with_reducible exact ih3 _ _ _ _ _ _)
    | (with_reducible exact ih4 _ _ _ _ _ _ _)
    | (with_reducible exact ih5 _ _ _ _ _ _ _ _)
    | (with_reducible exact ih6 _ _ _)
    | (with_reducible exact impl_Cancel.mono _ _ _)
    | (with_reducible exact impl_PlaceOf.mono _ _ _)
    | (with_reducible exact impl_Pop.mono _ _)
    | (with_reducible exact impl_Push.mono _ _ _ _)
    | (with_reducible exact LeO.refl _)
    | (with_reducible exact LeO.none _)
    | (with_reducible refine LeO.ite ?_ ?_)
    | (with_reducible refine LeO.bind ?_ (fun _ => ?_))
    | exact ih0 _ _ _ _ _
    | exact ih1 _ _ _ _ _ _ _
    | exact ih2 _ _ _ _ _
    | exact ih3 _ _ _ _ _ _
    | exact ih4 _ _ _ _ _ _ _
    | exact ih5 _ _ _ _ _ _ _ _
    | exact ih6 _ _ _
    | exact impl_Cancel.mono _ _ _
    | exact impl_PlaceOf.mono _ _ _
    | exact impl_Pop.mono _ _
    | exact impl_Push.mono _ _ _ _
    | exact LeO.none _
    | refine LeO.ite ?_ ?_
    | refine LeO.bind ?_ (fun _ => ?_)
  · intro y0 y1 y2 y3 y4 y5 y6
    unfold laws_FnLineOrder.j4
    repeat' first
    | (with_reducible exact ih0 _ _ _ _ _)
    | (with_reducible exact ih1 _ _ _ _ _ _ _)
    | (with_reducible exact ih2 _ _ _ _ _)
    | (with_reducible exact ih3 _ _ _ _ _ _)
    | (with_reducible exact ih4 _ _ _ _ _ _ _)
    | (with_reducible exact ih5 _ _ _ _ _ _ _ _)
    | (with_reducible exact ih6 _ _ _)
    | (with_reducible exact impl_Cancel.mono _ _ _)
    | (with_reducible exact impl_PlaceOf.mono _ _ _)
    | (with_reducible exact impl_Pop.mono _ _)
    | (with_reducible exact impl_Push.mono _ _ _ _)
    | (with_reducible exact LeO.refl _)
    | (with_reducible exact LeO.none _)
    | (with_reducible refine LeO.ite ?_ ?_)
    | (with_reducible refine LeO.bind ?_ (fun _ => ?_))
    | exact ih0 _ _ _ _ _
    | exact ih1 _ _ _ _ _ _ _
    | exact ih2 _ _ _ _ _
    | exact ih3 _ _ _ _ _ _
    | exact ih4 _ _ _ _ _ _ _
    | exact ih5 _ _ _ _ _ _ _ _
    | exact ih6 _ _ _
    | exact impl_Cancel.mono _ _ _
    | exact impl_PlaceOf.mono _ _ _
    | exact impl_Pop.mono _ _
    | exact impl_Push.mono _ _ _ _
    | exact LeO.none _
    | refine LeO.ite ?_ ?_
    | refine LeO.bind ?_ (fun _ => ?_)
  · intro y0 y1 y2 y3 y4 y5 y6 y7
    unfold laws_FnLineOrder.l1
    repeat' first
    | (with_reducible exact ih0 _ _ _ _ _)
    | (with_reducible exact ih1 _ _ _ _ _ _ _)
    | (with_reducible exact ih2 _ _ _ _ _)
    | (with_reducible exact ih3 _ _ _ _ _ _)
    | (with_reducible exact ih4 _ _ _ _ _ _ _)
    | (with_reducible exact ih5 _ _ _ _ _ _ _ _)
    | (with_reducible exact ih6 _ _ _)
    | (with_reducible exact impl_Cancel.mono _ _ _)
    | (with_reducible exact impl_PlaceOf.mono _ _ _)
    | (with_reducible exact impl_Pop.mono _ _)
    | (with_reducible exact impl_Push.mono _ _ _ _)
    | (with_reducible exact LeO.refl _)
    | (with_reducible exact LeO.none _)
    | (with_reducible refine LeO.ite ?_ ?_)
    | (with_reducible refine LeO.bind ?_ (fun _ => ?_))
    | exact ih0 _ _ _ _ _
    | exact ih1 _ _ _ _ _ _ _
    | exact ih2 _ _ _ _ _
    | exact ih3 _ _ _ _ _ _
    | exact ih4 _ _ _ _ _ _ _
    | exact ih5 _ _ _ _ _ _ _ _
    | exact ih6 _ _ _
    | exact impl_Cancel.mono _ _ _
    | exact impl_PlaceOf.mono _ _ _
    | exact impl_Pop.mono _ _
    | exact impl_Push.mono _ _ _ _
    | exact LeO.none _
    | refine LeO.ite ?_ ?_
    | refine LeO.bind ?_ (fun _ => ?_)
  · intro y0 y1 y2
    unfold laws_FnLineOrder.l2
    repeat' first
    | (with_reducible exact ih0 _ _ _ _ _)
    | (with_reducible exact ih1 _ _ _ _ _ _ _)
    | (with_reducible exact ih2 _ _ _ _ _)
    | (with_reducible exact ih3 _ _ _ _ _ _)
    | (with_reducible exact ih4 _ _ _ _ _ _ _)
    | (with_reducible exact ih5 _ _ _ _ _ _ _ _)
    | (with_reducible exact ih6 _ _ _)
    | (with_reducible exact impl_Cancel.mono _ _ _)
    | (with_reducible exact impl_PlaceOf.mono _ _ _)
    | (with_reducible exact impl_Pop.mono _ _)
    | (with_reducible exact impl_Push.mono _ _ _ _)
    | (with_reducible exact LeO.refl _)
    | (with_reducible exact LeO.none _)
    | (with_reducible refine LeO.ite ?_ ?_)
    | (with_reducible refine LeO.bind ?_ (fun _ => ?_))
    | exact ih0 _ _ _ _ _
    | exact ih1 _ _ _ _ _ _ _
    | exact ih2 _ _ _ _ _
    | exact ih3 _ _ _ _ _ _
    | exact ih4 _ _ _ _ _ _ _
    | exact ih5 _ _ _ _ _ _ _ _
    | exact ih6 _ _ _
    | exact impl_Cancel.mono _ _ _
    | exact impl_PlaceOf.mono _ _ _
    | exact impl_Pop.mono _ _
    | exact impl_Push.mono _ _ _ _
    | exact LeO.none _
    | refine LeO.ite ?_ ?_
    | refine LeO.bind ?_ (fun _ => ?_)
theorem laws_FnLineOrder.mono : ∀ a0 k, LeO (laws_FnLineOrder.f k a0) (laws_FnLineOrder.f (k + 1) a0) := by
 intro a0 k; obtain ⟨ih0, ih1, ih2, ih3, ih4, ih5, ih6⟩ := laws_FnLineOrder.mono_l k
 unfold laws_FnLineOrder.f
 repeat' first
  | (with_reducible exact ih0 _ _ _ _ _)
  | (with_reducible exact ih1 _ _ _ _ _ _ _)
  | (with_reducible exact ih2 _ _ _ _ _)
  | (with_reducible exact ih3 _ _ _ _ _ _)
  | (with_reducible exact ih4 _ _ _ _ _ _ _)
  | (with_reducible exact ih5 _ _ _ _ _ _ _ _)
  | (with_reducible exact ih6 _ _ _)
  | (with_reducible exact impl_Cancel.mono _ _ _)
  | (with_reducible exact impl_PlaceOf.mono _ _ _)
  | (with_reducible exact impl_Pop.mono _ _)
  | (with_reducible exact impl_Push.mono _ _ _ _)
  | (with_reducible exact LeO.refl _)
  | (with_reducible exact LeO.none _)
  | (with_reducible refine LeO.ite ?_ ?_)
  | (with_reducible refine LeO.bind ?_ (fun _ => ?_))
  | exact ih0 _ _ _ _ _
  | exact ih1 _ _ _ _ _ _ _
  | exact ih2 _ _ _ _ _
  | exact ih3 _ _ _ _ _ _
  | exact ih4 _ _ _ _ _ _ _
  | exact ih5 _ _ _ _ _ _ _ _
  | exact ih6 _ _ _
  | exact impl_Cancel.mono _ _ _
  | exact impl_PlaceOf.mono _ _ _
  | exact impl_Pop.mono _ _
  | exact impl_Push.mono _ _ _ _
  | exact LeO.none _
  | refine LeO.ite ?_ ?_
  | refine LeO.bind ?_ (fun _ => ?_)
def laws_FnLineOrder.T10 : Bool × List (List Nat × List Nat) := (true, [([], []), ([], []), ([], []), ([], []), ([3], [3]), ([2, 4], [2, 4]), ([5], [5]), ([1, 6], [1, 6]), ([0, 7, 5], [0, 7]), ([8], [8]), ([9], [9]), ([9], [9]), ([], []), ([12, 10, 8, 0, 1, 2, 3, 4, 5, 6, 7, 8, 9, 10, 12], [10, 12]), ([11, 13, 0, 1, 2, 3, 4, 5, 6, 7, 8, 9, 10, 11, 12, 13], [11])])
def laws_FnLineOrder.B10 : List Nat := [0, 0, 0, 0, 8, 28, 60, 126, 255, 511, 1023, 1023, 0, 6143, 16383]
theorem laws_FnLineOrder.tab10 : rtab .any (opsOf Try.f7 10) = laws_FnLineOrder.T10 := by kernel_rfl
theorem laws_FnLineOrder.bits10 : waitsOk laws_FnLineOrder.T10.2 laws_FnLineOrder.B10 = true := by kernel_rfl
def laws_FnLineOrder.T19 : Bool × List (List Nat × List Nat) := (true, [([], []), ([], []), ([], []), ([1, 2], [1, 2]), ([3], [3]), ([0, 4], [0, 4]), ([5], [5]), ([6], [6]), ([6], [6]), ([6], [6]), ([], []), ([], []), ([10, 7, 5, 0, 1, 2, 3, 4, 5, 6, 7, 10, 11], [7, 10]), ([11, 8, 12, 0, 1, 2, 3, 4, 5, 6, 7, 8, 10, 11, 12], [8, 11]), ([9, 13, 0, 1, 2, 3, 4, 5, 6, 7, 8, 9, 10, 11, 12, 13], [9])])
def laws_FnLineOrder.B19 : List Nat := [0, 0, 0, 6, 14, 31, 63, 127, 127, 127, 0, 0, 3327, 7679, 16383]
theorem laws_FnLineOrder.tab19 : rtab .any (opsOf Try.f7 19) = laws_FnLineOrder.T19 := by kernel_rfl
theorem laws_FnLineOrder.bits19 : waitsOk laws_FnLineOrder.T19.2 laws_FnLineOrder.B19 = true := by kernel_rfl
def laws_FnLineOrder.T20 : Bool × List (List Nat × List Nat) := (true, [([], []), ([0], [0]), ([1], [1]), ([2], [2]), ([3, 2], [2, 3]), ([2], [2]), ([2], [2]), ([5, 6, 2], [2, 5, 6]), ([7, 2], [2, 7]), ([4, 8, 2], [2, 4, 8]), ([2, 9], [2, 9]), ([10, 2], [10]), ([11], [11]), ([11], [11]), ([11], [11]), ([13, 14, 11], [11, 13, 14]), ([15, 11], [11, 15]), ([12, 16, 11, 11], [11, 12, 16]), ([11], [11]), ([17, 18, 11], [11, 17, 18]), ([11, 19], [11, 19])])
def laws_FnLineOrder.B20 : List Nat := [0, 1, 3, 7, 15, 7, 7, 103, 231, 511, 1023, 2047, 4095, 4095, 4095, 28671, 61439, 131071, 4095, 524287, 1048575]
theorem laws_FnLineOrder.tab20 : rtab .any (opsOf Try.f7 20) = laws_FnLineOrder.T20 := by kernel_rfl
theorem laws_FnLineOrder.bits20 : waitsOk laws_FnLineOrder.T20.2 laws_FnLineOrder.B20 = true := by kernel_rfl
def laws_FnLineOrder.T34 : Bool × List (List Nat × List Nat) := (true, [([], []), ([0], [0]), ([1], [1]), ([2], [2]), ([3, 2], [2, 3]), ([2], [2]), ([2], [2]), ([5, 6, 2], [2, 5, 6]), ([7, 2], [2, 7]), ([4, 8, 2], [2, 4, 8]), ([2, 9], [2, 9])])
def laws_FnLineOrder.B34 : List Nat := [0, 1, 3, 7, 15, 7, 7, 103, 231, 511, 1023]
theorem laws_FnLineOrder.tab34 : rtab .any (opsOf Try.f7 34) = laws_FnLineOrder.T34 := by kernel_rfl
theorem laws_FnLineOrder.bits34 : waitsOk laws_FnLineOrder.T34.2 laws_FnLineOrder.B34 = true := by kernel_rfl
set_option maxHeartbeats 8000000 in
set_option maxRecDepth 100000 in
theorem laws_FnLineOrder.calls (k : Nat) (A0 : Option Addr) (c0 : Nat) (l0 : List Int) (r : Bool) (w : World) (hr0 : Kd.C (Kd.int .u8) w A0 l0.length l0) (hc0 : l0.length ≤ c0) (h : laws_FnLineOrder.f k l0 = some r) :
 Calls Try.prog 7 #[.slice A0 l0.length c0] w fun e w' => e = .returned (.bool r) ∧ Below w.heap.size w w' := by
 have hu61 := Try.underlying61; have hu65 := Try.underlying65; have HR0 := Aside0.mk hr0; have HC0 := Aside0.mk hc0; clear hr0 hc0; have HB := Aside0.mk (Below.refl w.heap.size w); have H : ((laws_big.f l0).bind fun t171 => (if t171 = true then (some true) else (laws_FnLineOrder.l0 k l0 (([] : List Int)) 0 0 ([] : List (S65))))) = some r := h; clear h; replace H := Option.bind_eq_some_iff.mp H; obtain ⟨t171, A20, H⟩ := H; replace H : (if t171 = true then (some true) else (laws_FnLineOrder.l0 k l0 (([] : List Int)) 0 0 ([] : List (S65)))) = some r := H
 have A2 := Aside0.mk A20; clear A20
 by_cases c3 : t171 = true
 · subst c3; have H1 : (some true) = some r := by rw [if_pos rfl] at H; exact H
   clear H; have H := H1; clear H1; obtain rfl := Option.some.inj H; go_enter Try.func7, Try.ntmps7
   go_wp2_with (first | ((with_reducible refine gate_callee (f := 9) rfl ?_); refine goA (some 24) Try.func9 #[.slice A0 l0.length c0] rfl ?_; (with_reducible refine (laws_big.calls _ _ l0 true _ ?side1 ?side2 A2.out).mono ?_); (case side1 => exact cA HR0.out); (case side2 => exact HC0.out); rintro e w' ⟨rfl, ⟨nd, rfl⟩⟩; refine ⟨_, rfl, ?_⟩))
   go_ret
   exact ⟨by first | rfl | (simp [errW_none, errW_some] <;> rfl) | (simp [*, errW_none, errW_some] <;> rfl) | (simp [wrap64]; done) | (simp [*, wrap64]; done), belA⟩
 · replace c3 := Bool.eq_false_iff.mpr c3; subst c3; have H1 : (laws_FnLineOrder.l0 k l0 (([] : List Int)) 0 0 ([] : List (S65))) = some r := by rw [if_neg (show ¬ (false = true) by decide)] at H; exact H
   clear H; have H := H1; clear H1; obtain ⟨y173, hy173⟩ : ∃ y_ : List Int, y_ = (([] : List Int)) := ⟨_, rfl⟩; replace H : (laws_FnLineOrder.l0 k l0 y173 0 0 ([] : List (S65))) = some r := by first | (rw [hy173]; with_reducible exact H) | (have H2_ := (Option.bind_some _ _).symm.trans H; rw [hy173]; with_reducible exact H2_) | (have H2_ := (Option.bind_some _ _).symm.trans H; with_reducible exact H2_) | with_reducible exact H | (rw [hy173]; exact H) | exact H
   have Ny173 := Aside0.mk hy173; clear hy173; have H' := Aside0.mk H; clear H; go_enter Try.func7, Try.ntmps7
   go_wp2_with (first | ((with_reducible refine gate_callee (f := 9) rfl ?_); refine goA (some 24) Try.func9 #[.slice A0 l0.length c0] rfl ?_; (with_reducible refine (laws_big.calls _ _ l0 false _ ?side1 ?side2 A2.out).mono ?_); (case side1 => exact cA HR0.out); (case side2 => exact HC0.out); rintro e w' ⟨rfl, ⟨nd, rfl⟩⟩; refine ⟨_, rfl, ?_⟩) | ((with_reducible refine gate_dst (N := 3) rfl ?_); (try (refine gate_guard (by rfl) ?_; dsimp only)); refine boxA 3 #[.slice none 0 0] 61 ?_; intro gb172 hg w4 hbox hb; have BK172 := Aside0.mk hbox; have GW172 := leA (w := w) hg; have GE172 := leA (w := w) hg; replace HB := bS hb; clear hb hbox hg; obtain ⟨hcz5_0, hfz5_0⟩ := cel1 BK172) | ((with_reducible refine gate_dst (N := 26) rfl ?_); (try (refine gate_guard (by rfl) ?_; dsimp only)); refine Kd.R_lit (Kd.int .i64) _ 3 ?hg (N := 26) ?hd (xs := ([] : List Int)) (inner := []) (ok := fun _ => True) (okp := fun _ => True) ?hr ?hp (fun _ hk => hk) trivial (Below.refl _ _) (Nat.le_refl _) (by simp) ?_; (case hd => rfl); (case hg => rfl); (case hr => first | (go_simp; done) | (go_simp; rfl)); (case hp => exact (Reps.none _ _)); intro v174 w6 ho7 hb hg_ hnew_; clear hg_ hnew_; (first | rw [← Ny173.out] at ho7 | (simp only [Int.reduceToNat] at ho7; rw [← Ny173.out] at ho7)); have HO175 := rL ho7; replace BK172 := Aside0.mk (blk_below (g := gb172) (o := .cells #[.slice none 0 0] 61 (0, 0)) (by (with_reducible repeat (first | refine blk_drewN ?_ _ | refine blk_drew ?_ | refine blk_alloc ?_ _)); refine blk_put (cs := #[.slice none 0 0]) ?_ 0 _ rfl; (with_reducible repeat (first | refine blk_drewN ?_ _ | refine blk_drew ?_ | refine blk_alloc ?_ _)); exact BK172.out) hb); replace HB := bS hb; clear hb ho7))
   go_loopg [4, 5, 6] k (fun kq v4 v5 v6 w' => ∃ (x4_1 : List Int) (x5_1 : Int) (x6_1 : Int) (x173000_1 : List (S65)) (u173000 : Value), v5 = .int .i64 x5_1 ∧ v6 = .int .i64 x6_1 ∧ Aside0 (laws_FnLineOrder.l0 kq l0 x4_1 x5_1 x6_1 x173000_1 = some r) ∧ Aside0 (kq ≤ k) ∧ Aside0 (Kd.R (Kd.int .i64) 3 w' w.heap.size (fun _ => True) v4 x4_1) ∧ Aside0 (Kd.R k65 65 w' w.heap.size (fun _ => True) u173000 x173000_1) ∧ Aside0 (w'.heap[gb172]? = some (.cells #[u173000] 61 (0, 0))) ∧ Aside0 (Below w.heap.size w w'))
   case atStart => exact ⟨(y173), (0), (0), (([] : List (S65))), (.slice none 0 0), eqA, eqA, H', ⟨Nat.le_refl _⟩, ⟨rA HO175⟩, ⟨by first | exact Kd.R_nil _ _ _ _ _ | exact Kd.N_nil _ _ _ _ _ | exact Kd.V_nil _ _ _ _ _ | exact Kd.Q_nil _ _ _ _ _ | exact Kd.S_nil _ _ _ _ _⟩, ⟨blkA⟩, ⟨belA⟩⟩
   case round =>
    clear H'; obtain ⟨x4_1, x5_1, x6_1, x173000_1, u173000, rfl, rfl, HA, HK1, HO_4, HO_173000, BK172, HB⟩ := hrel
    cases gk with
    | zero => exact absurd HA.out (by simp [laws_FnLineOrder.l0])
    | succ k1 =>
     have H := HA.out; clear HA; simp only [laws_FnLineOrder.l0] at H; replace H := Option.bind_eq_some_iff.mp H; obtain ⟨t176, A80, H⟩ := H; replace H : (if x6_1 < (Int.tmod t176 60) then ((laws_at.f l0 (wrap64 (x6_1 + 1))).bind fun t177 => ((laws_at.f l0 (wrap64 (x6_1 + 2))).bind fun t178 => ((impl_Push.f k1 x173000_1 (wrap64 (x5_1 + (Int.tmod t177 3))) (wrap64 (1 + t178))).bind fun bt179 => (if (wrap64 (x5_1 + (Int.tmod t177 3))) > 0 then (if (x4_1.length : Int) < 40 then (if (x4_1.length : Int) = 0 then (laws_FnLineOrder.j1 k1 l0 x4_1 (wrap64 (x5_1 + (Int.tmod t177 3))) x6_1 bt179.2 true bt179.1) else (if 0 ≤ (wrap64 ((x4_1.length : Int) - 1)) then (if (wrap64 ((x4_1.length : Int) - 1)) < (x4_1.length : Int) then (laws_FnLineOrder.j1 k1 l0 x4_1 (wrap64 (x5_1 + (Int.tmod t177 3))) x6_1 bt179.2 (decide ((rd x4_1 (wrap64 ((x4_1.length : Int) - 1))) < (wrap64 (x5_1 + (Int.tmod t177 3))))) bt179.1) else (none)) else (none))) else (laws_FnLineOrder.j1 k1 l0 x4_1 (wrap64 (x5_1 + (Int.tmod t177 3))) x6_1 bt179.2 false bt179.1)) else (laws_FnLineOrder.j1 k1 l0 x4_1 (wrap64 (x5_1 + (Int.tmod t177 3))) x6_1 bt179.2 false bt179.1))))) else (laws_FnLineOrder.l2 k1 x4_1 0 x173000_1)) = some r := H
     have A8 := Aside0.mk A80; clear A80
     by_cases c9 : x6_1 < (Int.tmod t176 60)
     · rw [if_pos c9] at H; have c9b0 := decide_eq_true c9; clear c9; replace H := Option.bind_eq_some_iff.mp H; obtain ⟨t177, A100, H⟩ := H; replace H : ((laws_at.f l0 (wrap64 (x6_1 + 2))).bind fun t178 => ((impl_Push.f k1 x173000_1 (wrap64 (x5_1 + (Int.tmod t177 3))) (wrap64 (1 + t178))).bind fun bt179 => (if (wrap64 (x5_1 + (Int.tmod t177 3))) > 0 then (if (x4_1.length : Int) < 40 then (if (x4_1.length : Int) = 0 then (laws_FnLineOrder.j1 k1 l0 x4_1 (wrap64 (x5_1 + (Int.tmod t177 3))) x6_1 bt179.2 true bt179.1) else (if 0 ≤ (wrap64 ((x4_1.length : Int) - 1)) then (if (wrap64 ((x4_1.length : Int) - 1)) < (x4_1.length : Int) then (laws_FnLineOrder.j1 k1 l0 x4_1 (wrap64 (x5_1 + (Int.tmod t177 3))) x6_1 bt179.2 (decide ((rd x4_1 (wrap64 ((x4_1.length : Int) - 1))) < (wrap64 (x5_1 + (Int.tmod t177 3))))) bt179.1) else (none)) else (none))) else (laws_FnLineOrder.j1 k1 l0 x4_1 (wrap64 (x5_1 + (Int.tmod t177 3))) x6_1 bt179.2 false bt179.1)) else (laws_FnLineOrder.j1 k1 l0 x4_1 (wrap64 (x5_1 + (Int.tmod t177 3))) x6_1 bt179.2 false bt179.1)))) = some r := H
       have A10 := Aside0.mk A100; clear A100; replace H := Option.bind_eq_some_iff.mp H; obtain ⟨t178, A110, H⟩ := H; replace H : ((impl_Push.f k1 x173000_1 (wrap64 (x5_1 + (Int.tmod t177 3))) (wrap64 (1 + t178))).bind fun bt179 => (if (wrap64 (x5_1 + (Int.tmod t177 3))) > 0 then (if (x4_1.length : Int) < 40 then (if (x4_1.length : Int) = 0 then (laws_FnLineOrder.j1 k1 l0 x4_1 (wrap64 (x5_1 + (Int.tmod t177 3))) x6_1 bt179.2 true bt179.1) else (if 0 ≤ (wrap64 ((x4_1.length : Int) - 1)) then (if (wrap64 ((x4_1.length : Int) - 1)) < (x4_1.length : Int) then (laws_FnLineOrder.j1 k1 l0 x4_1 (wrap64 (x5_1 + (Int.tmod t177 3))) x6_1 bt179.2 (decide ((rd x4_1 (wrap64 ((x4_1.length : Int) - 1))) < (wrap64 (x5_1 + (Int.tmod t177 3))))) bt179.1) else (none)) else (none))) else (laws_FnLineOrder.j1 k1 l0 x4_1 (wrap64 (x5_1 + (Int.tmod t177 3))) x6_1 bt179.2 false bt179.1)) else (laws_FnLineOrder.j1 k1 l0 x4_1 (wrap64 (x5_1 + (Int.tmod t177 3))) x6_1 bt179.2 false bt179.1))) = some r := H
       have A11 := Aside0.mk A110; clear A110; replace H := Option.bind_eq_some_iff.mp H; obtain ⟨⟨t179, t182⟩, A120, H⟩ := H; replace H : (if (wrap64 (x5_1 + (Int.tmod t177 3))) > 0 then (if (x4_1.length : Int) < 40 then (if (x4_1.length : Int) = 0 then (laws_FnLineOrder.j1 k1 l0 x4_1 (wrap64 (x5_1 + (Int.tmod t177 3))) x6_1 t182 true t179) else (if 0 ≤ (wrap64 ((x4_1.length : Int) - 1)) then (if (wrap64 ((x4_1.length : Int) - 1)) < (x4_1.length : Int) then (laws_FnLineOrder.j1 k1 l0 x4_1 (wrap64 (x5_1 + (Int.tmod t177 3))) x6_1 t182 (decide ((rd x4_1 (wrap64 ((x4_1.length : Int) - 1))) < (wrap64 (x5_1 + (Int.tmod t177 3))))) t179) else (none)) else (none))) else (laws_FnLineOrder.j1 k1 l0 x4_1 (wrap64 (x5_1 + (Int.tmod t177 3))) x6_1 t182 false t179)) else (laws_FnLineOrder.j1 k1 l0 x4_1 (wrap64 (x5_1 + (Int.tmod t177 3))) x6_1 t182 false t179)) = some r := H
       have A12 := Aside0.mk A120; clear A120; have HC13 := Aside0.mk H; clear H; try go_wp2_with (first | ((with_reducible refine gate_callee (f := 30) rfl ?_); refine goA (some 29) Try.func30 #[.slice A0 l0.length c0, .int .i64 0] rfl ?_; (with_reducible refine (laws_at.calls _ _ l0 0 t176 _ ?side1 ?side2 A8.out).mono ?_); (case side1 => exact cA (Kd.C_below HR0.out HB.out)); (case side2 => exact HC0.out); rintro e w' ⟨rfl, ⟨nd, rfl⟩⟩; refine ⟨_, rfl, ?_⟩; (try (rw [drewN_self wr]; generalize hq_ : World.drewN wr _ = wr; have n0_ : Aside0 (Kd.R k65 65 wr w.heap.size (fun _ => True) u173000 x173000_1) := ⟨by rw [← hq_]; exact (rA HO_173000)⟩; have n1_ : Aside0 (Kd.R (Kd.int .i64) 3 wr w.heap.size (fun _ => True) u4 x4_1) := ⟨by rw [← hq_]; exact (rA HO_4)⟩; have n2_ : Aside0 (wr.heap[gb172]? = some (.cells #[u173000] 61 (0, 0))) := ⟨by rw [← hq_]; exact blkA⟩; have n3_ : Aside0 (Below w.heap.size w wr) := ⟨by rw [← hq_]; exact belA⟩; have hcy0_0 : wr.cell? ⟨gb172, 0, none⟩ = some (u173000) := (blk_cell n2_.out 0).trans rfl; have hfy0_0 := blk_frozen n2_.out 0; clear HO_173000 HO_4 BK172 HB hq_; have HO_173000 := n0_; have HO_4 := n1_; have BK172 := n2_; have HB := n3_; clear n0_ n1_ n2_ n3_))) | ((with_reducible refine gate_callee (f := 30) rfl ?_); refine goA (some 38) Try.func30 #[.slice A0 l0.length c0, .int .i64 (wrap64 (x6_1 + 1))] rfl ?_; (with_reducible refine (laws_at.calls _ _ l0 (wrap64 (x6_1 + 1)) t177 _ ?side1 ?side2 A10.out).mono ?_); (case side1 => exact cA (Kd.C_below HR0.out HB.out)); (case side2 => exact HC0.out); rintro e w' ⟨rfl, ⟨nd, rfl⟩⟩; refine ⟨_, rfl, ?_⟩; (try (rw [drewN_self wr]; generalize hq_ : World.drewN wr _ = wr; have n0_ : Aside0 (Kd.R k65 65 wr w.heap.size (fun _ => True) u173000 x173000_1) := ⟨by rw [← hq_]; exact (rA HO_173000)⟩; have n1_ : Aside0 (Kd.R (Kd.int .i64) 3 wr w.heap.size (fun _ => True) u4 x4_1) := ⟨by rw [← hq_]; exact (rA HO_4)⟩; have n2_ : Aside0 (wr.heap[gb172]? = some (.cells #[u173000] 61 (0, 0))) := ⟨by rw [← hq_]; exact blkA⟩; have n3_ : Aside0 (Below w.heap.size w wr) := ⟨by rw [← hq_]; exact belA⟩; have hcy0_0 : wr.cell? ⟨gb172, 0, none⟩ = some (u173000) := (blk_cell n2_.out 0).trans rfl; have hfy0_0 := blk_frozen n2_.out 0; clear HO_173000 HO_4 BK172 HB hq_; have HO_173000 := n0_; have HO_4 := n1_; have BK172 := n2_; have HB := n3_; clear n0_ n1_ n2_ n3_)); obtain ⟨Ao14, co14, eo14⟩ := Kd.R_slice HO_173000.out; subst eo14))
       replace HO_4 := Aside0.mk (Kd.R_drew HO_4.out); replace HO_173000 := Aside0.mk (Kd.R_drew HO_173000.out); replace BK172 := Aside0.mk (blk_drew BK172.out); replace HB := Aside0.mk (below_drew1 HB.out); refine start_ (n := 15) (S := fun w' => w'.cell? ⟨gb172, 0, none⟩ = some (.slice Ao14 x173000_1.length co14)) (ds := []) #[false, false, false, false, false, false, false, false, false, false, false, false, false, false, false] (by kernel_rfl) rfl rfl ((blk_cell BK172.out 0).trans rfl) (fun hHeld => ?_); refine with_tabW laws_FnLineOrder.tab10 laws_FnLineOrder.bits10 (fun HT_ HW_ => ?_)
       generalize wr.drew = w15 at HO_4 HO_173000 BK172 HB hHeld ⊢
       refine pure_ (i := 1) (N := some 43) (v := ?_) (a' := ?_) #[false, true, false, false, false, false, false, false, false, false, false, false, false, false, false] rfl rfl (any_of HT_.out (by kernel_rfl)) (fun _ _ _ h => h) (Or.inl ⟨by rfl, ?_⟩) ?_ ?_
       rotate_left
       · intro w'; go_simp
         with_reducible rfl
       rotate_left
       · simp only [Act.put, sa, sb, sc, i64_w, i32_w]
         rfl
       refine pure_ (i := 2) (N := some 44) (v := ?_) (a' := ?_) #[false, true, true, false, false, false, false, false, false, false, false, false, false, false, false] rfl rfl (any_of HT_.out (by kernel_rfl)) (fun _ _ _ h => h) (Or.inl ⟨by rfl, ?_⟩) ?_ ?_
       rotate_left
       · intro w'; go_simp
         with_reducible rfl
       rotate_left
       · simp only [Act.put, sa, sb, sc, i64_w, i32_w]
         rfl
       refine pure_ (i := 3) (N := some 45) (v := ?_) (a' := ?_) #[false, true, true, true, false, false, false, false, false, false, false, false, false, false, false] rfl rfl (any_of HT_.out (by kernel_rfl)) (fun _ _ _ h => h) (Or.inl ⟨by rfl, ?_⟩) ?_ ?_
       rotate_left
       · intro w'; go_simp
         with_reducible rfl
       rotate_left
       · simp only [Act.put, sa, sb, sc, i64_w, i32_w]
         rfl
       refine pure_ (i := 4) (N := some 46) (v := ?_) (a' := ?_) #[false, true, true, true, true, false, false, false, false, false, false, false, false, false, false] rfl rfl (any_of HT_.out (by kernel_rfl)) (fun _ _ _ h => h) (Or.inl ⟨by rfl, ?_⟩) ?_ ?_
       rotate_left
       · intro w'; go_simp
         with_reducible rfl
       rotate_left
       · simp only [Act.put, sa, sb, sc, i64_w, i32_w]
         rfl
       refine take_ (i := 0) (N := some 42) (v := ?_) (a' := ?_) #[true, true, true, true, true, false, false, false, false, false, false, false, false, false, false] rfl rfl (take_ofW HT_.out HW_.out (by kernel_rfl)) (fun _ _ _ h => h) (Or.inl ⟨by rfl, ?_⟩) hHeld ?_ ?_
       rotate_left
       · intro w' s0; go_simp
         with_reducible rfl
       rotate_left
       · simp only [Act.put, sa, sb, sc, i64_w, i32_w]
         rfl
       refine join_ (σ := Value × Nat) 2 #[true, true, true, true, true, true, true, true, true, true, true, true, true, false, false] (fun s_ => [(47, .int .i64 t178), (50, .tuple #[.agg #[s_.1], .bool t182]), (7, .pointer (some ⟨s_.2, 0, none⟩)), (48, .int .i64 (wrap64 (1 + t178))), (49, .agg #[.int .i64 (wrap64 (x5_1 + (Int.tmod t177 3))), .int .i64 (wrap64 (1 + t178))]), (41, .tuple #[.agg #[s_.1], .bool t182]), (51, .agg #[s_.1]), (52, .bool t182)]) (fun s_ w' => (w'.cell? ⟨gb172, 0, none⟩ = some (.slice Ao14 x173000_1.length co14)) ∧ (Kd.R k65 65 w' w.heap.size (fun k_ => some k_ ≠ (.slice Ao14 x173000_1.length co14 : Value).ownBlock) s_.1 t179) ∧ (Kd.R k65 65 w' w.heap.size (fun k_ => some k_ ≠ (s_.1 : Value).ownBlock) (.slice Ao14 x173000_1.length co14) x173000_1) ∧ (Kd.R (Kd.int .i64) 3 w' w.heap.size (fun _ => True) u4 x4_1) ∧ (w'.heap[gb172]? = some (.cells #[.slice Ao14 x173000_1.length co14] 61 (0, 0))) ∧ (w'.heap[s_.2]? = some (.cells #[.slice none 0 0] 61 (0, 0))) ∧ (w.heap.size ≤ s_.2) ∧ (w.heap.size ≤ s_.2) ∧ (gb172 ≠ s_.2) ∧ (s_.2 ≠ gb172) ∧ (Below w.heap.size w w')) ?_ ?_
       rotate_left
       · intro hCont; refine two_ (i := 5) (j := 12) (Ni := some 47) (Nj := some 7) #[true, true, true, true, true, true, false, false, false, false, false, false, false, false, false] #[true, true, true, true, true, false, false, false, false, false, false, false, true, false, false] rfl rfl rfl rfl (two_of HT_.out (by kernel_rfl)) (by decide) (by decide) (fun K hK => ?_) (fun K hK => ?_)
         · skip
           refine goes_ Try.func30 (by kernel_rfl) rfl #[.slice A0 l0.length c0, .int .i64 (wrap64 (x6_1 + 2))] (by rfl) rfl rfl (by (try simp only [List.map_toArray, List.map_cons, List.map_nil]); first | done | rfl | (simp only [List.length_drop, List.length_take]; rfl)) ?_
           with_reducible refine (laws_at.calls _ _ l0 (wrap64 (x6_1 + 2)) t178 _ ?side1 ?side2 A11.out).mono ?_
           (case side1 => exact cA (Kd.C_below HR0.out HB.out))
           (case side2 => exact HC0.out)
           rintro e w' ⟨rfl, ⟨nd, rfl⟩⟩
           refine ⟨_, rfl, ?_⟩
           refine hK.out _ _ ((blk_cell BK172.out 0).trans rfl) (fun hHeld => ?_)
           clear hK K; refine norm_ (a' := ?_) ?_ ?_
           rotate_left
           · show Act.put _ (some 47) _ = _
             simp only [Act.put, sa, sb, sc, i64_w, i32_w]
             rfl
           refine pure_ (i := 6) (N := some 48) (v := ?_) (a' := ?_) #[true, true, true, true, true, true, true, false, false, false, false, false, false, false, false] rfl rfl (any_of HT_.out (by kernel_rfl)) (fun _ _ _ h => h) (Or.inl ⟨by rfl, ?_⟩) ?_ ?_
           rotate_left
           · intro w'; go_simp
             with_reducible rfl
           rotate_left
           · simp only [Act.put, sa, sb, sc, i64_w, i32_w]
             rfl
           refine pure_ (i := 7) (N := some 49) (v := ?_) (a' := ?_) #[true, true, true, true, true, true, true, true, false, false, false, false, false, false, false] rfl rfl (any_of HT_.out (by kernel_rfl)) (fun _ _ _ h => h) (Or.inl ⟨by rfl, ?_⟩) ?_ ?_
           rotate_left
           · intro w'; go_simp
             with_reducible rfl
           rotate_left
           · simp only [Act.put, sa, sb, sc, i64_w, i32_w]
             rfl
           refine two_ (i := 8) (j := 12) (Ni := some 50) (Nj := some 7) #[true, true, true, true, true, true, true, true, true, false, false, false, false, false, false] #[true, true, true, true, true, true, true, true, false, false, false, false, true, false, false] rfl rfl rfl rfl (two_of HT_.out (by kernel_rfl)) (by decide) (by decide) (fun K hK => ?_) (fun K hK => ?_)
           · skip
             refine goes_ Try.func43 (by kernel_rfl) rfl #[.agg #[.slice Ao14 x173000_1.length co14], .agg #[.int .i64 (wrap64 (x5_1 + (Int.tmod t177 3))), .int .i64 (wrap64 (1 + t178))]] (by rfl) rfl rfl (by (try simp only [List.map_toArray, List.map_cons, List.map_nil]); first | done | rfl | (simp only [List.length_drop, List.length_take]; rfl)) ?_
             with_reducible refine (impl_Push.calls k1 _ _ x173000_1 (wrap64 (x5_1 + (Int.tmod t177 3))) (wrap64 (1 + t178)) t179 t182 _ ?side1 ?side2 A12.out).mono ?_
             (case side1 => exact cA ((Kd.R_reads' HO_173000.out).2.2))
             (case side2 => exact (Kd.R_reads' HO_173000.out).2.1)
             rintro e w16 ⟨v180, rfl, ho0, hb⟩
             refine ⟨_, rfl, ?_⟩
             have HO181 := rL (Kd.R_new' ho0 (rT HO_173000)); replace HO_4 := rB HO_4 hb; replace HO_173000 := rD HO_173000 (Kd.R_base ho0) hb; replace BK172 := bB BK172 hb; replace HB := bS hb; (try clear hb); (try clear hb2); (try clear hk); (try clear hi); (try clear ho0); refine hK.out _ _ ((blk_cell BK172.out 0).trans rfl) (fun hHeld => ?_)
             clear hK K; refine norm_ (a' := ?_) ?_ ?_
             rotate_left
             · show Act.put _ (some 50) _ = _
               simp only [Act.put, sa, sb, sc, i64_w, i32_w]
               rfl
             refine pure_ (i := 9) (N := some 41) (v := ?_) (a' := ?_) #[true, true, true, true, true, true, true, true, true, true, false, false, false, false, false] rfl rfl (any_of HT_.out (by kernel_rfl)) (fun _ _ _ h => h) (Or.inl ⟨by rfl, ?_⟩) ?_ ?_
             rotate_left
             · intro w'; go_simp
               with_reducible rfl
             rotate_left
             · simp only [Act.put, sa, sb, sc, i64_w, i32_w]
               rfl
             refine pure_ (i := 10) (N := some 51) (v := ?_) (a' := ?_) #[true, true, true, true, true, true, true, true, true, true, true, false, false, false, false] rfl rfl (any_of HT_.out (by kernel_rfl)) (fun _ _ _ h => h) (Or.inl ⟨by rfl, ?_⟩) ?_ ?_
             rotate_left
             · intro w'; go_simp
               with_reducible rfl
             rotate_left
             · simp only [Act.put, sa, sb, sc, i64_w, i32_w]
               rfl
             refine pure_ (i := 11) (N := some 52) (v := ?_) (a' := ?_) #[true, true, true, true, true, true, true, true, true, true, true, true, false, false, false] rfl rfl (any_of HT_.out (by kernel_rfl)) (fun _ _ _ h => h) (Or.inl ⟨by rfl, ?_⟩) ?_ ?_
             rotate_left
             · intro w'; go_simp
               with_reducible rfl
             rotate_left
             · simp only [Act.put, sa, sb, sc, i64_w, i32_w]
               rfl
             refine one_ (i := 12) (N := some 7) #[true, true, true, true, true, true, true, true, true, true, true, true, true, false, false] rfl rfl (one_of HT_.out (by kernel_rfl)) (by decide) (fun K hK => ?_)
             refine box_step ?hg (N := 7) ?hd (cs := #[.slice none 0 0]) (t := 61) ?hr ?_; (case hd => rfl); (case hg => rfl); (case hr => first | (go_simp; done) | (go_simp; rfl))
             intro gb183 hg w17 hbox hb; have BK183 := Aside0.mk hbox; have GW183 := leA (w := w) hg; have GE183 := leA (w := w) hg; have NB172_183 := neL hg BK172; have NB183_172 := neG hg BK172; replace HO_4 := rB HO_4 hb; replace HO_173000 := rB HO_173000 hb; replace HO181 := rB HO181 hb; replace BK172 := bB BK172 hb; replace HB := bS hb; clear hb hbox hg; refine hK.out _ _ ((blk_cell BK172.out 0).trans rfl) (fun hHeld => ?_)
             clear hK K; refine norm_ (a' := ?_) ?_ ?_
             rotate_left
             · show Act.put _ (some 7) _ = _
               simp only [Act.put, sa, sb, sc, i64_w, i32_w]
               rfl
             exact norm_ (by simp only [putAll, Act.put, sa, sb, sc]) (hCont (v180, gb183) _ ⟨hHeld, (rE (Kd.R_mono HO181.out (fun _ hk => hk.2))), (rE (Kd.R_mono HO_173000.out (fun _ hk => hk.2))), (rA HO_4), blkA, blkA, GW183.out, GE183.out, NB172_183.out, NB183_172.out, belA⟩)
           · skip
             refine box_step ?hg (N := 7) ?hd (cs := #[.slice none 0 0]) (t := 61) ?hr ?_; (case hd => rfl); (case hg => rfl); (case hr => first | (go_simp; done) | (go_simp; rfl))
             intro gb183 hg w16 hbox hb; have BK183 := Aside0.mk hbox; have GW183 := leA (w := w) hg; have GE183 := leA (w := w) hg; have NB172_183 := neL hg BK172; have NB183_172 := neG hg BK172; replace HO_4 := rB HO_4 hb; replace HO_173000 := rB HO_173000 hb; replace BK172 := bB BK172 hb; replace HB := bS hb; clear hb hbox hg; refine hK.out _ _ ((blk_cell BK172.out 0).trans rfl) (fun hHeld => ?_)
             clear hK K; refine norm_ (a' := ?_) ?_ ?_
             rotate_left
             · show Act.put _ (some 7) _ = _
               simp only [Act.put, sa, sb, sc, i64_w, i32_w]
               rfl
             refine one_ (i := 8) (N := some 50) #[true, true, true, true, true, true, true, true, true, false, false, false, true, false, false] rfl rfl (one_of HT_.out (by kernel_rfl)) (by decide) (fun K hK => ?_)
             refine goes_ Try.func43 (by kernel_rfl) rfl #[.agg #[.slice Ao14 x173000_1.length co14], .agg #[.int .i64 (wrap64 (x5_1 + (Int.tmod t177 3))), .int .i64 (wrap64 (1 + t178))]] (by rfl) rfl rfl (by (try simp only [List.map_toArray, List.map_cons, List.map_nil]); first | done | rfl | (simp only [List.length_drop, List.length_take]; rfl)) ?_
             with_reducible refine (impl_Push.calls k1 _ _ x173000_1 (wrap64 (x5_1 + (Int.tmod t177 3))) (wrap64 (1 + t178)) t179 t182 _ ?side1 ?side2 A12.out).mono ?_
             (case side1 => exact cA ((Kd.R_reads' HO_173000.out).2.2))
             (case side2 => exact (Kd.R_reads' HO_173000.out).2.1)
             rintro e w17 ⟨v180, rfl, ho0, hb⟩
             refine ⟨_, rfl, ?_⟩
             have HO181 := rL (Kd.R_new' ho0 (rT HO_173000)); replace HO_4 := rB HO_4 hb; replace HO_173000 := rD HO_173000 (Kd.R_base ho0) hb; replace BK172 := bB BK172 hb; replace BK183 := bB BK183 hb; replace HB := bS hb; (try clear hb); (try clear hb2); (try clear hk); (try clear hi); (try clear ho0); refine hK.out _ _ ((blk_cell BK172.out 0).trans rfl) (fun hHeld => ?_)
             clear hK K; refine norm_ (a' := ?_) ?_ ?_
             rotate_left
             · show Act.put _ (some 50) _ = _
               simp only [Act.put, sa, sb, sc, i64_w, i32_w]
               rfl
             refine pure_ (i := 9) (N := some 41) (v := ?_) (a' := ?_) #[true, true, true, true, true, true, true, true, true, true, false, false, true, false, false] rfl rfl (any_of HT_.out (by kernel_rfl)) (fun _ _ _ h => h) (Or.inl ⟨by rfl, ?_⟩) ?_ ?_
             rotate_left
             · intro w'; go_simp
               with_reducible rfl
             rotate_left
             · simp only [Act.put, sa, sb, sc, i64_w, i32_w]
               rfl
             refine pure_ (i := 10) (N := some 51) (v := ?_) (a' := ?_) #[true, true, true, true, true, true, true, true, true, true, true, false, true, false, false] rfl rfl (any_of HT_.out (by kernel_rfl)) (fun _ _ _ h => h) (Or.inl ⟨by rfl, ?_⟩) ?_ ?_
             rotate_left
             · intro w'; go_simp
               with_reducible rfl
             rotate_left
             · simp only [Act.put, sa, sb, sc, i64_w, i32_w]
               rfl
             refine pure_ (i := 11) (N := some 52) (v := ?_) (a' := ?_) #[true, true, true, true, true, true, true, true, true, true, true, true, true, false, false] rfl rfl (any_of HT_.out (by kernel_rfl)) (fun _ _ _ h => h) (Or.inl ⟨by rfl, ?_⟩) ?_ ?_
             rotate_left
             · intro w'; go_simp
               with_reducible rfl
             rotate_left
             · simp only [Act.put, sa, sb, sc, i64_w, i32_w]
               rfl
             exact norm_ (by simp only [putAll, Act.put, sa, sb, sc]) (hCont (v180, gb183) _ ⟨hHeld, (rE (Kd.R_mono HO181.out (fun _ hk => hk.2))), (rE (Kd.R_mono HO_173000.out (fun _ hk => hk.2))), (rA HO_4), blkA, blkA, GW183.out, GE183.out, NB172_183.out, NB183_172.out, belA⟩)
         · skip
           refine box_step ?hg (N := 7) ?hd (cs := #[.slice none 0 0]) (t := 61) ?hr ?_; (case hd => rfl); (case hg => rfl); (case hr => first | (go_simp; done) | (go_simp; rfl))
           intro gb183 hg w16 hbox hb; have BK183 := Aside0.mk hbox; have GW183 := leA (w := w) hg; have GE183 := leA (w := w) hg; have NB172_183 := neL hg BK172; have NB183_172 := neG hg BK172; replace HO_4 := rB HO_4 hb; replace HO_173000 := rB HO_173000 hb; replace BK172 := bB BK172 hb; replace HB := bS hb; clear hb hbox hg; refine hK.out _ _ ((blk_cell BK172.out 0).trans rfl) (fun hHeld => ?_)
           clear hK K; refine norm_ (a' := ?_) ?_ ?_
           rotate_left
           · show Act.put _ (some 7) _ = _
             simp only [Act.put, sa, sb, sc, i64_w, i32_w]
             rfl
           refine one_ (i := 5) (N := some 47) #[true, true, true, true, true, true, false, false, false, false, false, false, true, false, false] rfl rfl (one_of HT_.out (by kernel_rfl)) (by decide) (fun K hK => ?_)
           refine goes_ Try.func30 (by kernel_rfl) rfl #[.slice A0 l0.length c0, .int .i64 (wrap64 (x6_1 + 2))] (by rfl) rfl rfl (by (try simp only [List.map_toArray, List.map_cons, List.map_nil]); first | done | rfl | (simp only [List.length_drop, List.length_take]; rfl)) ?_
           with_reducible refine (laws_at.calls _ _ l0 (wrap64 (x6_1 + 2)) t178 _ ?side1 ?side2 A11.out).mono ?_
           (case side1 => exact cA (Kd.C_below HR0.out HB.out))
           (case side2 => exact HC0.out)
           rintro e w' ⟨rfl, ⟨nd, rfl⟩⟩
           refine ⟨_, rfl, ?_⟩
           refine hK.out _ _ ((blk_cell BK172.out 0).trans rfl) (fun hHeld => ?_)
           clear hK K; refine norm_ (a' := ?_) ?_ ?_
           rotate_left
           · show Act.put _ (some 47) _ = _
             simp only [Act.put, sa, sb, sc, i64_w, i32_w]
             rfl
           refine pure_ (i := 6) (N := some 48) (v := ?_) (a' := ?_) #[true, true, true, true, true, true, true, false, false, false, false, false, true, false, false] rfl rfl (any_of HT_.out (by kernel_rfl)) (fun _ _ _ h => h) (Or.inl ⟨by rfl, ?_⟩) ?_ ?_
           rotate_left
           · intro w'; go_simp
             with_reducible rfl
           rotate_left
           · simp only [Act.put, sa, sb, sc, i64_w, i32_w]
             rfl
           refine pure_ (i := 7) (N := some 49) (v := ?_) (a' := ?_) #[true, true, true, true, true, true, true, true, false, false, false, false, true, false, false] rfl rfl (any_of HT_.out (by kernel_rfl)) (fun _ _ _ h => h) (Or.inl ⟨by rfl, ?_⟩) ?_ ?_
           rotate_left
           · intro w'; go_simp
             with_reducible rfl
           rotate_left
           · simp only [Act.put, sa, sb, sc, i64_w, i32_w]
             rfl
           refine one_ (i := 8) (N := some 50) #[true, true, true, true, true, true, true, true, true, false, false, false, true, false, false] rfl rfl (one_of HT_.out (by kernel_rfl)) (by decide) (fun K hK => ?_)
           refine goes_ Try.func43 (by kernel_rfl) rfl #[.agg #[.slice Ao14 x173000_1.length co14], .agg #[.int .i64 (wrap64 (x5_1 + (Int.tmod t177 3))), .int .i64 (wrap64 (1 + t178))]] (by rfl) rfl rfl (by (try simp only [List.map_toArray, List.map_cons, List.map_nil]); first | done | rfl | (simp only [List.length_drop, List.length_take]; rfl)) ?_
           with_reducible refine (impl_Push.calls k1 _ _ x173000_1 (wrap64 (x5_1 + (Int.tmod t177 3))) (wrap64 (1 + t178)) t179 t182 _ ?side1 ?side2 A12.out).mono ?_
           (case side1 => exact cA ((Kd.R_reads' HO_173000.out).2.2))
           (case side2 => exact (Kd.R_reads' HO_173000.out).2.1)
           rintro e w17 ⟨v180, rfl, ho0, hb⟩
           refine ⟨_, rfl, ?_⟩
           have HO181 := rL (Kd.R_new' ho0 (rT HO_173000)); replace HO_4 := rB HO_4 hb; replace HO_173000 := rD HO_173000 (Kd.R_base ho0) hb; replace BK172 := bB BK172 hb; replace BK183 := bB BK183 hb; replace HB := bS hb; (try clear hb); (try clear hb2); (try clear hk); (try clear hi); (try clear ho0); refine hK.out _ _ ((blk_cell BK172.out 0).trans rfl) (fun hHeld => ?_)
           clear hK K; refine norm_ (a' := ?_) ?_ ?_
           rotate_left
           · show Act.put _ (some 50) _ = _
             simp only [Act.put, sa, sb, sc, i64_w, i32_w]
             rfl
           refine pure_ (i := 9) (N := some 41) (v := ?_) (a' := ?_) #[true, true, true, true, true, true, true, true, true, true, false, false, true, false, false] rfl rfl (any_of HT_.out (by kernel_rfl)) (fun _ _ _ h => h) (Or.inl ⟨by rfl, ?_⟩) ?_ ?_
           rotate_left
           · intro w'; go_simp
             with_reducible rfl
           rotate_left
           · simp only [Act.put, sa, sb, sc, i64_w, i32_w]
             rfl
           refine pure_ (i := 10) (N := some 51) (v := ?_) (a' := ?_) #[true, true, true, true, true, true, true, true, true, true, true, false, true, false, false] rfl rfl (any_of HT_.out (by kernel_rfl)) (fun _ _ _ h => h) (Or.inl ⟨by rfl, ?_⟩) ?_ ?_
           rotate_left
           · intro w'; go_simp
             with_reducible rfl
           rotate_left
           · simp only [Act.put, sa, sb, sc, i64_w, i32_w]
             rfl
           refine pure_ (i := 11) (N := some 52) (v := ?_) (a' := ?_) #[true, true, true, true, true, true, true, true, true, true, true, true, true, false, false] rfl rfl (any_of HT_.out (by kernel_rfl)) (fun _ _ _ h => h) (Or.inl ⟨by rfl, ?_⟩) ?_ ?_
           rotate_left
           · intro w'; go_simp
             with_reducible rfl
           rotate_left
           · simp only [Act.put, sa, sb, sc, i64_w, i32_w]
             rfl
           exact norm_ (by simp only [putAll, Act.put, sa, sb, sc]) (hCont (v180, gb183) _ ⟨hHeld, (rE (Kd.R_mono HO181.out (fun _ hk => hk.2))), (rE (Kd.R_mono HO_173000.out (fun _ hk => hk.2))), (rA HO_4), blkA, blkA, GW183.out, GE183.out, NB172_183.out, NB183_172.out, belA⟩)
       rintro ⟨v180, gb183⟩ w18 ⟨hS_, h0_, h1_, h2_, h3_, h4_, h5_, h6_, h7_, h8_, h9_⟩
       have n0_ : Aside0 (Kd.R k65 65 w18 w.heap.size (fun k_ => some k_ ≠ (.slice Ao14 x173000_1.length co14 : Value).ownBlock) v180 t179) := ⟨h0_⟩; have n1_ : Aside0 (Kd.R k65 65 w18 w.heap.size (fun k_ => some k_ ≠ (v180 : Value).ownBlock) (.slice Ao14 x173000_1.length co14) x173000_1) := ⟨h1_⟩; have n2_ : Aside0 (Kd.R (Kd.int .i64) 3 w18 w.heap.size (fun _ => True) u4 x4_1) := ⟨h2_⟩; have n3_ : Aside0 (w18.heap[gb172]? = some (.cells #[.slice Ao14 x173000_1.length co14] 61 (0, 0))) := ⟨h3_⟩; have n4_ : Aside0 (w18.heap[gb183]? = some (.cells #[.slice none 0 0] 61 (0, 0))) := ⟨h4_⟩; have n5_ : Aside0 (w.heap.size ≤ gb183) := ⟨h5_⟩; have n6_ : Aside0 (w.heap.size ≤ gb183) := ⟨h6_⟩; have n7_ : Aside0 (gb172 ≠ gb183) := ⟨h7_⟩; have n8_ : Aside0 (gb183 ≠ gb172) := ⟨h8_⟩; have n9_ : Aside0 (Below w.heap.size w w18) := ⟨h9_⟩; clear HO_4; clear HO_173000; clear BK172; clear HB; clear h0_ h1_ h2_ h3_ h4_ h5_ h6_ h7_ h8_ h9_; have HO181 := n0_; have HO_173000 := n1_; have HO_4 := n2_; have BK172 := n3_; have BK183 := n4_; have GW183 := n5_; have GE183 := n6_; have NB172_183 := n7_; have NB183_172 := n8_; have HB := n9_; clear n0_ n1_ n2_ n3_ n4_ n5_ n6_ n7_ n8_ n9_; have hHeld : w18.cell? ⟨gb172, 0, none⟩ = some (.slice Ao14 x173000_1.length co14) := hS_; obtain ⟨Ao19, co19, eo19⟩ := Kd.R_slice HO181.out; (first | subst eo19 | (injection eo19 with f1_ f2_ f3_; have f4_ := f1_.symm; have f5_ := f3_.symm; clear f1_ f2_ f3_; subst f4_; subst f5_))
       refine norm_ (a' := ?_) ?_ ?_
       rotate_left
       · simp only [putAll, Act.put, sa, sb, sc]
         rfl
       refine one_ (i := 13) (N := none) #[true, true, true, true, true, true, true, true, true, true, true, true, true, true, false] rfl rfl (one_of HT_.out (by kernel_rfl)) (by decide) (fun K hK => ?_)
       have hs20 : w18.cell? ⟨gb183, 0, none⟩ = some (.slice none 0 0) := (blk_cell BK183.out 0).trans rfl; have hfs20 := blk_frozen BK183.out 0; have hns20_0 := NB172_183.out; have hms20_0 := NB183_172.out; refine skip_ (w1 := ?_) (by rfl) rfl ?_ ?_
       rotate_left
       · go_simp
         rfl
       refine hK.out _ _ (((cell_far (p := ⟨gb183, _, none⟩) NB172_183.out _).trans (hHeld))) (fun hHeld => ?_)
       clear hK K; refine pure_ (i := 14) (N := some 8) (v := ?_) (a' := ?_) #[true, true, true, true, true, true, true, true, true, true, true, true, true, true, true] rfl rfl (any_of HT_.out (by kernel_rfl)) (fun _ _ _ h => h) (Or.inl ⟨by rfl, ?_⟩) ?_ ?_
       rotate_left
       · intro w'; go_simp
         with_reducible rfl
       rotate_left
       · simp only [Act.put, sa, sb, sc, i64_w, i32_w]
         rfl
       refine done_ (done_of HT_.out (by kernel_rfl)) ?_
       go_upto_region 11 with (fail)
       go_cut [9] (fun v9 wc => ∃ (kq : Nat) (x9_12 : Bool), v9 = .bool x9_12 ∧ Aside0 (laws_FnLineOrder.j1 kq l0 x4_1 (wrap64 (x5_1 + (Int.tmod t177 3))) x6_1 t182 x9_12 t179 = some r) ∧ Aside0 (kq ≤ k1) ∧ Aside0 (Kd.R (Kd.int .i64) 3 wc w.heap.size (fun _ => True) u4 x4_1) ∧ Aside0 (Kd.R k65 65 wc w.heap.size (fun k_ => some k_ ≠ ((.slice Ao19 t179.length co19) : Value).ownBlock) (.slice Ao14 x173000_1.length co14) x173000_1) ∧ Aside0 (Kd.R k65 65 wc w.heap.size (fun k_ => some k_ ≠ ((.slice Ao14 x173000_1.length co14) : Value).ownBlock) (.slice Ao19 t179.length co19) t179) ∧ Aside0 (wc.heap[gb172]? = some (.cells #[(.slice Ao14 x173000_1.length co14)] 61 (0, 0))) ∧ Aside0 (wc.heap[gb183]? = some (.cells #[(.slice Ao19 t179.length co19)] 61 (0, 0))) ∧ Aside0 (Below w.heap.size w wc))
       case first =>
        have H := HC13.out; clear HC13
        by_cases c21 : (wrap64 (x5_1 + (Int.tmod t177 3))) > 0
        · rw [if_pos c21] at H; have c21b0 := decide_eq_true c21; have c21b0w : decide (0 < (IntKind.i64.wrap (x5_1 + (Int.tmod t177 3)))) = true := by simp only [i64_w]; exact c21b0
          clear c21; (first | rw [c21b0] | (simp only [i64_w, i32_w]; rw [c21b0]) | skip)
          by_cases c22 : (x4_1.length : Int) < 40
          · rw [if_pos c22] at H; have c22b0 := decide_eq_true c22; have c22b1 : decide (x4_1.length < 40) = true := decide_eq_true (by omega); clear c22
            by_cases c23 : (x4_1.length : Int) = 0
            · rw [if_pos c23] at H; have c23b0 : ((x4_1.length : Int) == 0) = true := beq_iff_eq.mpr c23; have c23b1 : ((x4_1.length : Int) != 0) = false := bne_eq_false_iff_eq.mpr c23; clear c23; have H' := Aside0.mk H; clear H; obtain ⟨Ao24, co24, eo24⟩ := Kd.R_slice HO_4.out; subst eo24; go_wp2
              go_meet
              case rel => exact ⟨_, (true), eqA, H', ⟨by have := HK1.out; first | omega | exact Nat.le_refl _⟩, ⟨rE (Kd.R_mono (Kd.R_far (p := ⟨gb183, 0, none⟩) (Kd.R_types HO_4.out BK183.out (by decide)) (fun _ hk => hk.2) (.slice Ao19 t179.length co19)) (fun _ hk => trivial))⟩, ⟨rE (Kd.R_mono (Kd.R_far (p := ⟨gb183, 0, none⟩) (Kd.R_types HO_173000.out BK183.out (by decide)) (fun _ hk => hk.2) (.slice Ao19 t179.length co19)) (fun _ hk => hk.1))⟩, ⟨rE (Kd.R_mono (Kd.R_far (p := ⟨gb183, 0, none⟩) (Kd.R_types HO181.out BK183.out (by decide)) (fun _ hk => hk.2) (.slice Ao19 t179.length co19)) (fun _ hk => hk.1))⟩, ⟨by (with_reducible repeat (first | refine blk_drewN ?_ _ | refine blk_drew ?_ | refine blk_alloc ?_ _)); refine blk_far ?_ NB172_183.out _; (with_reducible repeat (first | refine blk_drewN ?_ _ | refine blk_drew ?_ | refine blk_alloc ?_ _)); exact BK172.out⟩, ⟨by (with_reducible repeat (first | refine blk_drewN ?_ _ | refine blk_drew ?_ | refine blk_alloc ?_ _)); refine blk_put (cs := #[.slice none 0 0]) ?_ 0 _ rfl; (with_reducible repeat (first | refine blk_drewN ?_ _ | refine blk_drew ?_ | refine blk_alloc ?_ _)); exact BK183.out⟩, ⟨belA⟩⟩
            · rw [if_neg c23] at H; have c23b0 : ((x4_1.length : Int) == 0) = false := beq_eq_false_iff_ne.mpr c23; have c23b1 : ((x4_1.length : Int) != 0) = true := bne_iff_ne.mpr c23; have c23b2 : ¬ (x4_1 = []) := fun h_ => c23 (by rw [h_]; rfl)
              obtain ⟨ji25, hji25⟩ : ∃ j_ : Int, (wrap64 ((x4_1.length : Int) - 1)) = j_ := ⟨_, rfl⟩; replace H : (if 0 ≤ (ji25) then (if (ji25) < (x4_1.length : Int) then (laws_FnLineOrder.j1 k1 l0 x4_1 (wrap64 (x5_1 + (Int.tmod t177 3))) x6_1 t182 (decide ((rd x4_1 (ji25)) < (wrap64 (x5_1 + (Int.tmod t177 3))))) t179) else (none)) else (none)) = some r := by first | (rw [hji25] at H; exact H) | (simp only [hji25] at H ⊢; exact H)
              have hji25w : (IntKind.i64.wrap ((x4_1.length : Int) - 1)) = ji25 := (i64_w _).trans hji25
              by_cases c26 : 0 ≤ (ji25)
              · rw [if_pos c26] at H; have c26b0 := decide_eq_true c26; clear c26
                by_cases c27 : (ji25) < (x4_1.length : Int)
                · rw [if_pos c27] at H; have c27b0 := decide_eq_true c27; clear c27; have H' := Aside0.mk H; clear H; obtain ⟨Ao28, co28, eo28⟩ := Kd.R_slice HO_4.out; subst eo28; have p184 : 0 ≤ ((ji25) : Int) := odA; have q184 : (ji25) < (x4_1.length : Int) := odA; obtain ⟨ad184, e184, hx184_0⟩ := Kd.at_int (Kd.R_reads' HO_4.out).2.2 (ji25) p184 q184
                  cases e184
                  have hn184_0 : ad184.block ≠ gb183 := Kd.own_blk (Kd.R_ne HO_4.out BK183.out (by decide)); replace hx184_0 := (cell_far (p := ⟨gb183, 0, none⟩) (by first | (rw [add_block]; exact hn184_0) | (show (Addr.add _ _).block ≠ _; rw [add_block]; exact hn184_0) | exact hn184_0) (.slice Ao19 t179.length co19)).trans hx184_0; clear hn184_0; replace p184 := eq_true p184; replace q184 := eq_true q184; go_wp2
                  go_meet
                  case rel => exact ⟨_, (decide ((rd x4_1 (ji25)) < (wrap64 (x5_1 + (Int.tmod t177 3))))), (by first | rfl | (simp; done) | (simp only [← hji25] <;> (first | rfl | simp)) | (simp [*]; done)), H', ⟨by have := HK1.out; first | omega | exact Nat.le_refl _⟩, ⟨rE (Kd.R_mono (Kd.R_far (p := ⟨gb183, 0, none⟩) (Kd.R_types HO_4.out BK183.out (by decide)) (fun _ hk => hk.2) (.slice Ao19 t179.length co19)) (fun _ hk => trivial))⟩, ⟨rE (Kd.R_mono (Kd.R_far (p := ⟨gb183, 0, none⟩) (Kd.R_types HO_173000.out BK183.out (by decide)) (fun _ hk => hk.2) (.slice Ao19 t179.length co19)) (fun _ hk => hk.1))⟩, ⟨rE (Kd.R_mono (Kd.R_far (p := ⟨gb183, 0, none⟩) (Kd.R_types HO181.out BK183.out (by decide)) (fun _ hk => hk.2) (.slice Ao19 t179.length co19)) (fun _ hk => hk.1))⟩, ⟨by (with_reducible repeat (first | refine blk_drewN ?_ _ | refine blk_drew ?_ | refine blk_alloc ?_ _)); refine blk_far ?_ NB172_183.out _; (with_reducible repeat (first | refine blk_drewN ?_ _ | refine blk_drew ?_ | refine blk_alloc ?_ _)); exact BK172.out⟩, ⟨by (with_reducible repeat (first | refine blk_drewN ?_ _ | refine blk_drew ?_ | refine blk_alloc ?_ _)); refine blk_put (cs := #[.slice none 0 0]) ?_ 0 _ rfl; (with_reducible repeat (first | refine blk_drewN ?_ _ | refine blk_drew ?_ | refine blk_alloc ?_ _)); exact BK183.out⟩, ⟨belA⟩⟩
                · rw [if_neg c27] at H; exact absurd H (by simp)
              · rw [if_neg c26] at H; exact absurd H (by simp)
          · rw [if_neg c22] at H; have c22b0 := decide_eq_false c22; have c22b1 : decide (x4_1.length < 40) = false := decide_eq_false (by omega); clear c22; have H' := Aside0.mk H; clear H; obtain ⟨Ao29, co29, eo29⟩ := Kd.R_slice HO_4.out; subst eo29; go_wp2
            go_meet
            case rel => exact ⟨_, (false), eqA, H', ⟨by have := HK1.out; first | omega | exact Nat.le_refl _⟩, ⟨rE (Kd.R_mono (Kd.R_far (p := ⟨gb183, 0, none⟩) (Kd.R_types HO_4.out BK183.out (by decide)) (fun _ hk => hk.2) (.slice Ao19 t179.length co19)) (fun _ hk => trivial))⟩, ⟨rE (Kd.R_mono (Kd.R_far (p := ⟨gb183, 0, none⟩) (Kd.R_types HO_173000.out BK183.out (by decide)) (fun _ hk => hk.2) (.slice Ao19 t179.length co19)) (fun _ hk => hk.1))⟩, ⟨rE (Kd.R_mono (Kd.R_far (p := ⟨gb183, 0, none⟩) (Kd.R_types HO181.out BK183.out (by decide)) (fun _ hk => hk.2) (.slice Ao19 t179.length co19)) (fun _ hk => hk.1))⟩, ⟨by (with_reducible repeat (first | refine blk_drewN ?_ _ | refine blk_drew ?_ | refine blk_alloc ?_ _)); refine blk_far ?_ NB172_183.out _; (with_reducible repeat (first | refine blk_drewN ?_ _ | refine blk_drew ?_ | refine blk_alloc ?_ _)); exact BK172.out⟩, ⟨by (with_reducible repeat (first | refine blk_drewN ?_ _ | refine blk_drew ?_ | refine blk_alloc ?_ _)); refine blk_put (cs := #[.slice none 0 0]) ?_ 0 _ rfl; (with_reducible repeat (first | refine blk_drewN ?_ _ | refine blk_drew ?_ | refine blk_alloc ?_ _)); exact BK183.out⟩, ⟨belA⟩⟩
        · rw [if_neg c21] at H; have c21b0 := decide_eq_false c21; have c21b0w : decide (0 < (IntKind.i64.wrap (x5_1 + (Int.tmod t177 3)))) = false := by simp only [i64_w]; exact c21b0
          clear c21; (first | rw [c21b0] | (simp only [i64_w, i32_w]; rw [c21b0]) | skip)
          have H' := Aside0.mk H; clear H; go_wp2
          go_meet
          case rel => exact ⟨_, (false), eqA, H', ⟨by have := HK1.out; first | omega | exact Nat.le_refl _⟩, ⟨rE (Kd.R_mono (Kd.R_far (p := ⟨gb183, 0, none⟩) (Kd.R_types HO_4.out BK183.out (by decide)) (fun _ hk => hk.2) (.slice Ao19 t179.length co19)) (fun _ hk => trivial))⟩, ⟨rE (Kd.R_mono (Kd.R_far (p := ⟨gb183, 0, none⟩) (Kd.R_types HO_173000.out BK183.out (by decide)) (fun _ hk => hk.2) (.slice Ao19 t179.length co19)) (fun _ hk => hk.1))⟩, ⟨rE (Kd.R_mono (Kd.R_far (p := ⟨gb183, 0, none⟩) (Kd.R_types HO181.out BK183.out (by decide)) (fun _ hk => hk.2) (.slice Ao19 t179.length co19)) (fun _ hk => hk.1))⟩, ⟨by (with_reducible repeat (first | refine blk_drewN ?_ _ | refine blk_drew ?_ | refine blk_alloc ?_ _)); refine blk_far ?_ NB172_183.out _; (with_reducible repeat (first | refine blk_drewN ?_ _ | refine blk_drew ?_ | refine blk_alloc ?_ _)); exact BK172.out⟩, ⟨by (with_reducible repeat (first | refine blk_drewN ?_ _ | refine blk_drew ?_ | refine blk_alloc ?_ _)); refine blk_put (cs := #[.slice none 0 0]) ?_ 0 _ rfl; (with_reducible repeat (first | refine blk_drewN ?_ _ | refine blk_drew ?_ | refine blk_alloc ?_ _)); exact BK183.out⟩, ⟨belA⟩⟩
       case rest =>
        clear HC13; obtain ⟨kq, x9_12, rfl, HA, HJ12, HO_4, HO_173000, HO_184000, BK172, BK183, HB⟩ := hcut
        cases kq with
        | zero => exact absurd HA.out (by simp [laws_FnLineOrder.j1])
        | succ kj12 =>
         have H := HA.out; clear HA; simp only [laws_FnLineOrder.j1] at H
         by_cases c30 : (t182 != x9_12) = true
         · rw [if_pos c30] at H; have c30b0 : (t182 != x9_12) = true := c30; (try (have c30b1 : decide (t182 = x9_12) = false := by simpa using c30))
           (try (have c30b2 : (t182 == x9_12) = false := by simpa using c30))
           (try (have c30b3 : ¬ (t182 = x9_12) := by simpa using c30))
           clear c30; obtain rfl := Option.some.inj H; go_wp2
           go_ret
           exact ⟨by first | rfl | (simp [errW_none, errW_some] <;> rfl) | (simp [*, errW_none, errW_some] <;> rfl) | (simp [wrap64]; done) | (simp [*, wrap64]; done), belA⟩
         · rw [if_neg c30] at H; have c30b0 : (t182 != x9_12) = false := by simpa using c30
           (try (have c30b1 : decide (t182 = x9_12) = true := by simpa using c30))
           (try (have c30b2 : (t182 == x9_12) = true := by simpa using c30))
           clear c30; have HC31 := Aside0.mk H; clear H; go_upto_if 78 with (fail)
           go_cut [4] (fun v4 wc => ∃ (kq : Nat) (x4_30 : List Int), Aside0 (laws_FnLineOrder.j2 kq l0 x4_30 (wrap64 (x5_1 + (Int.tmod t177 3))) x6_1 t179 = some r) ∧ Aside0 (kq ≤ kj12) ∧ Aside0 (Kd.R (Kd.int .i64) 3 wc w.heap.size (fun _ => True) v4 x4_30) ∧ Aside0 (Kd.R k65 65 wc w.heap.size (fun k_ => some k_ ≠ ((.slice Ao19 t179.length co19) : Value).ownBlock) (.slice Ao14 x173000_1.length co14) x173000_1) ∧ Aside0 (Kd.R k65 65 wc w.heap.size (fun k_ => some k_ ≠ ((.slice Ao14 x173000_1.length co14) : Value).ownBlock) (.slice Ao19 t179.length co19) t179) ∧ Aside0 (wc.heap[gb172]? = some (.cells #[(.slice Ao14 x173000_1.length co14)] 61 (0, 0))) ∧ Aside0 (wc.heap[gb183]? = some (.cells #[(.slice Ao19 t179.length co19)] 61 (0, 0))) ∧ Aside0 (Below w.heap.size w wc))
           case first =>
            have H := HC31.out; clear HC31
            by_cases c32 : t182 = true
            · subst c32; have H1 : (if x4_1.length < 17592186044416 then (laws_FnLineOrder.j2 kj12 l0 (x4_1 ++ [(wrap64 (x5_1 + (Int.tmod t177 3)))]) (wrap64 (x5_1 + (Int.tmod t177 3))) x6_1 t179) else (none)) = some r := by rw [if_pos rfl] at H; exact H
              clear H; have H := H1; clear H1
              by_cases c33 : x4_1.length < 17592186044416
              · rw [if_pos c33] at H; have LMc33 := Aside0.mk c33; clear c33; obtain ⟨y185, hy185⟩ : ∃ y_ : List Int, y_ = (x4_1 ++ [(wrap64 (x5_1 + (Int.tmod t177 3)))]) := ⟨_, rfl⟩; replace H : (laws_FnLineOrder.j2 kj12 l0 y185 (wrap64 (x5_1 + (Int.tmod t177 3))) x6_1 t179) = some r := by first | (rw [hy185]; with_reducible exact H) | (have H2_ := (Option.bind_some _ _).symm.trans H; rw [hy185]; with_reducible exact H2_) | (have H2_ := (Option.bind_some _ _).symm.trans H; with_reducible exact H2_) | with_reducible exact H | (rw [hy185]; exact H) | exact H
                have Ny185 := Aside0.mk hy185; clear hy185; have H' := Aside0.mk H; clear H; go_wp2_with (first | ((with_reducible refine gate_builtin (b := .append) (xs := #[.tmp 79, .tmp 81]) rfl ?_); (try (refine gate_guard (by rfl) ?_; dsimp only)); at_builtin; refine Kd.R_append (Kd.int .i64) (w0 := w) w.heap.size rfl (.tmp 79) (.tmp 81) 27 3 (.int .i64 0) 8 rfl Try.underlying27 info3 rfl (by decide) (by omega) u4 x4_1 (wrap64 (x5_1 + (Int.tmod t177 3))) [.int .i64 (wrap64 (x5_1 + (Int.tmod t177 3)))] (fun _ => True) (fun _ => False) rfl rfl ?aP (fun _ hk => hk.elim) ?aF ?aO ?aB ?aS ?aL ?_; (case aP => exact rfl); (case aB => exact belA); (case aF => exact (fun _ _ => trivial)); (case aO => exact (rA HO_4)); (case aS => exact (below_size belA)); (case aL => have := LMc33.out; omega); intro v186 w34 ho hb hg hat; rw [← Ny185.out] at ho; have n0_ := Aside0.mk (Kd.R_over' (rA HO_173000) (Kd.R_typed (rA HO_4)) (by decide) hg); have n1_ := Aside0.mk (Kd.R_over' (rA HO_184000) (Kd.R_typed (rA HO_4)) (by decide) hg); have n2_ := Aside0.mk (blk_grown (g := gb172) (o := .cells #[.slice Ao14 x173000_1.length co14] 61 (0, 0)) blkA hg (Kd.R_ne HO_4.out BK172.out (by decide))); have n3_ := Aside0.mk (blk_grown (g := gb183) (o := .cells #[.slice Ao19 t179.length co19] 61 (0, 0)) blkA hg (Kd.R_ne HO_4.out BK183.out (by decide))); have n4_ := Aside0.mk hb; have n5_ := Aside0.mk ho; clear HO_173000; clear HO_184000; clear BK172; clear BK183; clear HB; clear HO_4; have HO_173000 := n0_; have HO_184000 := n1_; have BK172 := n2_; have BK183 := n3_; have HB := n4_; have HO187 := n5_; clear n0_ n1_ n2_ n3_ n4_ n5_; clear ho hb hg hat))
                go_meet
                case rel => exact ⟨_, (y185), H', ⟨by have := HK1.out; have := HJ12.out; first | omega | exact Nat.le_refl _⟩, ⟨rA HO187⟩, ⟨rA HO_173000⟩, ⟨rA HO_184000⟩, ⟨blkA⟩, ⟨blkA⟩, ⟨belA⟩⟩
              · rw [if_neg c33] at H; exact absurd H (by simp)
            · replace c32 := Bool.eq_false_iff.mpr c32; subst c32; have H1 : (laws_FnLineOrder.j2 kj12 l0 x4_1 (wrap64 (x5_1 + (Int.tmod t177 3))) x6_1 t179) = some r := by rw [if_neg (show ¬ (false = true) by decide)] at H; exact H
              clear H; have H := H1; clear H1; have H' := Aside0.mk H; clear H; go_wp2
              go_meet
              case rel => exact ⟨_, (x4_1), H', ⟨by have := HK1.out; have := HJ12.out; first | omega | exact Nat.le_refl _⟩, ⟨rA HO_4⟩, ⟨rA HO_173000⟩, ⟨rA HO_184000⟩, ⟨blkA⟩, ⟨blkA⟩, ⟨belA⟩⟩
           case rest =>
            clear HC31; obtain ⟨kq, x4_30, HA, HJ30, HO_4, HO_173000, HO_184000, BK172, BK183, HB⟩ := hcut
            cases kq with
            | zero => exact absurd HA.out (by simp [laws_FnLineOrder.j2])
            | succ kj30 =>
             have H := HA.out; clear HA; simp only [laws_FnLineOrder.j2] at H; have HC35 := Aside0.mk H; clear H; have hnb36 := NB183_172.out; have hnc36 := NB172_183.out; obtain ⟨hcz37_0, hfz37_0⟩ := cel1 BK183; obtain ⟨hcz38_0, hfz38_0⟩ := cel1 BK172; go_upto_region 17 with (fail)
             go_cut [94] (fun v94 wc => ∃ (kq : Nat) (x94_34 : Bool), v94 = .bool x94_34 ∧ Aside0 (laws_FnLineOrder.j3 kq l0 x4_30 (wrap64 (x5_1 + (Int.tmod t177 3))) x6_1 x94_34 t179 = some r) ∧ Aside0 (kq ≤ kj30) ∧ Aside0 (Kd.R (Kd.int .i64) 3 wc w.heap.size (fun _ => True) u4 x4_30) ∧ Aside0 (Kd.R k65 65 wc w.heap.size (fun _ => True) (.slice Ao19 t179.length co19) t179) ∧ Aside0 (Kd.R k65 65 wc w.heap.size (fun _ => True) (.slice Ao19 t179.length co19) t179) ∧ Aside0 (wc.heap[gb172]? = some (.cells #[(.slice Ao19 t179.length co19)] 61 (0, 0))) ∧ Aside0 (wc.heap[gb183]? = some (.cells #[(.slice Ao19 t179.length co19)] 61 (0, 0))) ∧ Aside0 (Below w.heap.size w wc))
             case first =>
              have H := HC35.out; clear HC35; replace H := Option.bind_eq_some_iff.mp H; obtain ⟨t188, A390, H⟩ := H; replace H : (if (Int.tmod t188 7) = 0 then (laws_FnLineOrder.j3 kj30 l0 x4_30 (wrap64 (x5_1 + (Int.tmod t177 3))) x6_1 (decide ((x4_30.length : Int) > 0)) t179) else (laws_FnLineOrder.j3 kj30 l0 x4_30 (wrap64 (x5_1 + (Int.tmod t177 3))) x6_1 false t179)) = some r := H
              have A39 := Aside0.mk A390; clear A390
              by_cases c40 : (Int.tmod t188 7) = 0
              · rw [if_pos c40] at H; have c40b0 : ((Int.tmod t188 7) == 0) = true := beq_iff_eq.mpr c40; have c40b1 : ((Int.tmod t188 7) != 0) = false := bne_eq_false_iff_eq.mpr c40; clear c40; (first | rw [c40b0] | (simp only [i64_w, i32_w]; rw [c40b0]) | skip)
                have H' := Aside0.mk H; clear H; go_wp2_with (first | ((with_reducible refine gate_callee (f := 30) rfl ?_); refine goA (some 87) Try.func30 #[.slice A0 l0.length c0, .int .i64 (wrap64 (x6_1 + 3))] rfl ?_; (with_reducible refine (laws_at.calls _ _ l0 (wrap64 (x6_1 + 3)) t188 _ ?side1 ?side2 A39.out).mono ?_); (case side1 => exact Kd.C_below HR0.out belA); (case side2 => exact HC0.out); rintro e w' ⟨rfl, ⟨nd, rfl⟩⟩; refine ⟨_, rfl, ?_⟩; obtain ⟨Ao41, co41, eo41⟩ := Kd.R_slice HO_4.out; subst eo41))
                go_meet
                case rel => exact ⟨_, (decide ((x4_30.length : Int) > 0)), eqA, H', ⟨by have := HK1.out; have := HJ12.out; have := HJ30.out; first | omega | exact Nat.le_refl _⟩, ⟨rE (Kd.R_mono (Kd.R_far (p := ⟨gb172, 0, none⟩) (Kd.R_types HO_4.out BK172.out (by decide)) (fun _ hk => hk.2) (.slice Ao19 t179.length co19)) (fun _ hk => trivial))⟩, ⟨rE (Kd.R_mono (Kd.R_far (p := ⟨gb172, 0, none⟩) (Kd.R_types HO_184000.out BK172.out (by decide)) (fun _ hk => hk.2) (.slice Ao19 t179.length co19)) (fun _ hk => trivial))⟩, ⟨rE (Kd.R_mono (Kd.R_far (p := ⟨gb172, 0, none⟩) (Kd.R_types HO_184000.out BK172.out (by decide)) (fun _ hk => hk.2) (.slice Ao19 t179.length co19)) (fun _ hk => trivial))⟩, ⟨by (with_reducible repeat (first | refine blk_drewN ?_ _ | refine blk_drew ?_ | refine blk_alloc ?_ _)); refine blk_put (cs := #[.slice Ao14 x173000_1.length co14]) ?_ 0 _ rfl; (with_reducible repeat (first | refine blk_drewN ?_ _ | refine blk_drew ?_ | refine blk_alloc ?_ _)); exact BK172.out⟩, ⟨by (with_reducible repeat (first | refine blk_drewN ?_ _ | refine blk_drew ?_ | refine blk_alloc ?_ _)); refine blk_far ?_ NB183_172.out _; (with_reducible repeat (first | refine blk_drewN ?_ _ | refine blk_drew ?_ | refine blk_alloc ?_ _)); exact BK183.out⟩, ⟨belA⟩⟩
              · rw [if_neg c40] at H; have c40b0 : ((Int.tmod t188 7) == 0) = false := beq_eq_false_iff_ne.mpr c40; have c40b1 : ((Int.tmod t188 7) != 0) = true := bne_iff_ne.mpr c40; (first | rw [c40b0] | (simp only [i64_w, i32_w]; rw [c40b0]) | skip)
                have H' := Aside0.mk H; clear H; go_wp2_with (first | ((with_reducible refine gate_callee (f := 30) rfl ?_); refine goA (some 87) Try.func30 #[.slice A0 l0.length c0, .int .i64 (wrap64 (x6_1 + 3))] rfl ?_; (with_reducible refine (laws_at.calls _ _ l0 (wrap64 (x6_1 + 3)) t188 _ ?side1 ?side2 A39.out).mono ?_); (case side1 => exact Kd.C_below HR0.out belA); (case side2 => exact HC0.out); rintro e w' ⟨rfl, ⟨nd, rfl⟩⟩; refine ⟨_, rfl, ?_⟩))
                go_meet
                case rel => exact ⟨_, (false), eqA, H', ⟨by have := HK1.out; have := HJ12.out; have := HJ30.out; first | omega | exact Nat.le_refl _⟩, ⟨rE (Kd.R_mono (Kd.R_far (p := ⟨gb172, 0, none⟩) (Kd.R_types HO_4.out BK172.out (by decide)) (fun _ hk => hk.2) (.slice Ao19 t179.length co19)) (fun _ hk => trivial))⟩, ⟨rE (Kd.R_mono (Kd.R_far (p := ⟨gb172, 0, none⟩) (Kd.R_types HO_184000.out BK172.out (by decide)) (fun _ hk => hk.2) (.slice Ao19 t179.length co19)) (fun _ hk => trivial))⟩, ⟨rE (Kd.R_mono (Kd.R_far (p := ⟨gb172, 0, none⟩) (Kd.R_types HO_184000.out BK172.out (by decide)) (fun _ hk => hk.2) (.slice Ao19 t179.length co19)) (fun _ hk => trivial))⟩, ⟨by (with_reducible repeat (first | refine blk_drewN ?_ _ | refine blk_drew ?_ | refine blk_alloc ?_ _)); refine blk_put (cs := #[.slice Ao14 x173000_1.length co14]) ?_ 0 _ rfl; (with_reducible repeat (first | refine blk_drewN ?_ _ | refine blk_drew ?_ | refine blk_alloc ?_ _)); exact BK172.out⟩, ⟨by (with_reducible repeat (first | refine blk_drewN ?_ _ | refine blk_drew ?_ | refine blk_alloc ?_ _)); refine blk_far ?_ NB183_172.out _; (with_reducible repeat (first | refine blk_drewN ?_ _ | refine blk_drew ?_ | refine blk_alloc ?_ _)); exact BK183.out⟩, ⟨belA⟩⟩
             case rest =>
              clear HC35; obtain ⟨kq, x94_34, rfl, HA, HJ34, HO_4, HO_173000, HO_184000, BK172, BK183, HB⟩ := hcut
              cases kq with
              | zero => exact absurd HA.out (by simp [laws_FnLineOrder.j3])
              | succ kj34 =>
               have H := HA.out; clear HA; simp only [laws_FnLineOrder.j3] at H
               by_cases c42 : x94_34 = true
               · subst c42; have H1 : ((laws_at.f l0 x6_1).bind fun t189 => (if (x4_30.length : Int) = 0 then (none) else (if 0 ≤ (Int.tmod t189 (x4_30.length : Int)) then (if (Int.tmod t189 (x4_30.length : Int)) < (x4_30.length : Int) then ((impl_Cancel.f kj34 t179 (rd x4_30 (Int.tmod t189 (x4_30.length : Int)))).bind fun bt191 => (if bt191.2.2.2 = true then (if bt191.2.1 = (rd x4_30 (Int.tmod t189 (x4_30.length : Int))) then ((impl_PlaceOf.f kj34 t179 (rd x4_30 (Int.tmod t189 (x4_30.length : Int)))).bind fun t201 => (laws_FnLineOrder.j4 kj34 l0 x4_30 (wrap64 (x5_1 + (Int.tmod t177 3))) x6_1 (Int.tmod t189 (x4_30.length : Int)) (t201 != (Int.tmod t189 (x4_30.length : Int))) bt191.1)) else (laws_FnLineOrder.j4 kj34 l0 x4_30 (wrap64 (x5_1 + (Int.tmod t177 3))) x6_1 (Int.tmod t189 (x4_30.length : Int)) true bt191.1)) else (laws_FnLineOrder.j4 kj34 l0 x4_30 (wrap64 (x5_1 + (Int.tmod t177 3))) x6_1 (Int.tmod t189 (x4_30.length : Int)) true bt191.1))) else (none)) else (none)))) = some r := by rw [if_pos rfl] at H; exact H
                 clear H; have H := H1; clear H1; replace H := Option.bind_eq_some_iff.mp H; obtain ⟨t189, A430, H⟩ := H; replace H : (if (x4_30.length : Int) = 0 then (none) else (if 0 ≤ (Int.tmod t189 (x4_30.length : Int)) then (if (Int.tmod t189 (x4_30.length : Int)) < (x4_30.length : Int) then ((impl_Cancel.f kj34 t179 (rd x4_30 (Int.tmod t189 (x4_30.length : Int)))).bind fun bt191 => (if bt191.2.2.2 = true then (if bt191.2.1 = (rd x4_30 (Int.tmod t189 (x4_30.length : Int))) then ((impl_PlaceOf.f kj34 t179 (rd x4_30 (Int.tmod t189 (x4_30.length : Int)))).bind fun t201 => (laws_FnLineOrder.j4 kj34 l0 x4_30 (wrap64 (x5_1 + (Int.tmod t177 3))) x6_1 (Int.tmod t189 (x4_30.length : Int)) (t201 != (Int.tmod t189 (x4_30.length : Int))) bt191.1)) else (laws_FnLineOrder.j4 kj34 l0 x4_30 (wrap64 (x5_1 + (Int.tmod t177 3))) x6_1 (Int.tmod t189 (x4_30.length : Int)) true bt191.1)) else (laws_FnLineOrder.j4 kj34 l0 x4_30 (wrap64 (x5_1 + (Int.tmod t177 3))) x6_1 (Int.tmod t189 (x4_30.length : Int)) true bt191.1))) else (none)) else (none))) = some r := H
                 have A43 := Aside0.mk A430; clear A430
                 by_cases c44 : (x4_30.length : Int) = 0
                 · rw [if_pos c44] at H; exact absurd H (by simp)
                 · rw [if_neg c44] at H; have c44b0 : ((x4_30.length : Int) == 0) = false := beq_eq_false_iff_ne.mpr c44; have c44b1 : ((x4_30.length : Int) != 0) = true := bne_iff_ne.mpr c44; have c44b2 : ¬ (x4_30 = []) := fun h_ => c44 (by rw [h_]; rfl)
                   obtain ⟨ji45, hji45⟩ : ∃ j_ : Int, (Int.tmod t189 (x4_30.length : Int)) = j_ := ⟨_, rfl⟩; replace H : (if 0 ≤ (ji45) then (if (ji45) < (x4_30.length : Int) then ((impl_Cancel.f kj34 t179 (rd x4_30 (ji45))).bind fun bt191 => (if bt191.2.2.2 = true then (if bt191.2.1 = (rd x4_30 (ji45)) then ((impl_PlaceOf.f kj34 t179 (rd x4_30 (ji45))).bind fun t201 => (laws_FnLineOrder.j4 kj34 l0 x4_30 (wrap64 (x5_1 + (Int.tmod t177 3))) x6_1 ji45 (t201 != (ji45)) bt191.1)) else (laws_FnLineOrder.j4 kj34 l0 x4_30 (wrap64 (x5_1 + (Int.tmod t177 3))) x6_1 ji45 true bt191.1)) else (laws_FnLineOrder.j4 kj34 l0 x4_30 (wrap64 (x5_1 + (Int.tmod t177 3))) x6_1 ji45 true bt191.1))) else (none)) else (none)) = some r := by first | (rw [hji45] at H; exact H) | (simp only [hji45] at H ⊢; exact H)
                   (try rw [hji45] at A43)
                   by_cases c46 : 0 ≤ (ji45)
                   · rw [if_pos c46] at H; have c46b0 := decide_eq_true c46; clear c46
                     by_cases c47 : (ji45) < (x4_30.length : Int)
                     · rw [if_pos c47] at H; have c47b0 := decide_eq_true c47; clear c47; replace H := Option.bind_eq_some_iff.mp H; obtain ⟨⟨t191, t194, t195, t196⟩, A480, H⟩ := H; replace H : (if t196 = true then (if t194 = (rd x4_30 (ji45)) then ((impl_PlaceOf.f kj34 t179 (rd x4_30 (ji45))).bind fun t201 => (laws_FnLineOrder.j4 kj34 l0 x4_30 (wrap64 (x5_1 + (Int.tmod t177 3))) x6_1 ji45 (t201 != (ji45)) t191)) else (laws_FnLineOrder.j4 kj34 l0 x4_30 (wrap64 (x5_1 + (Int.tmod t177 3))) x6_1 ji45 true t191)) else (laws_FnLineOrder.j4 kj34 l0 x4_30 (wrap64 (x5_1 + (Int.tmod t177 3))) x6_1 ji45 true t191)) = some r := H
                       have A48 := Aside0.mk A480; clear A480; have HC49 := Aside0.mk H; clear H; try go_wp2_with (first | ((with_reducible refine gate_callee (f := 30) rfl ?_); refine goA (some 97) Try.func30 #[.slice A0 l0.length c0, .int .i64 x6_1] rfl ?_; (with_reducible refine (laws_at.calls _ _ l0 x6_1 t189 _ ?side1 ?side2 A43.out).mono ?_); (case side1 => exact cA (Kd.C_below HR0.out HB.out)); (case side2 => exact HC0.out); rintro e w' ⟨rfl, ⟨nd, rfl⟩⟩; refine ⟨_, rfl, ?_⟩; (try (rw [drewN_self wc]; generalize hq_ : World.drewN wc _ = wc; have n0_ : Aside0 (Kd.R k65 65 wc w.heap.size (fun _ => True) (.slice Ao19 t179.length co19) t179) := ⟨by rw [← hq_]; exact (rA HO_173000)⟩; have n1_ : Aside0 (Kd.R k65 65 wc w.heap.size (fun _ => True) (.slice Ao19 t179.length co19) t179) := ⟨by rw [← hq_]; exact (rA HO_184000)⟩; have n2_ : Aside0 (Kd.R (Kd.int .i64) 3 wc w.heap.size (fun _ => True) u4 x4_30) := ⟨by rw [← hq_]; exact (rA HO_4)⟩; have n3_ : Aside0 (wc.heap[gb172]? = some (.cells #[.slice Ao19 t179.length co19] 61 (0, 0))) := ⟨by rw [← hq_]; exact blkA⟩; have n4_ : Aside0 (wc.heap[gb183]? = some (.cells #[.slice Ao19 t179.length co19] 61 (0, 0))) := ⟨by rw [← hq_]; exact blkA⟩; have n5_ : Aside0 (Below w.heap.size w wc) := ⟨by rw [← hq_]; exact belA⟩; have hcy0_0 : wc.cell? ⟨gb172, 0, none⟩ = some (.slice Ao19 t179.length co19) := (blk_cell n3_.out 0).trans rfl; have hfy0_0 := blk_frozen n3_.out 0; have hcy1_0 : wc.cell? ⟨gb183, 0, none⟩ = some (.slice Ao19 t179.length co19) := (blk_cell n4_.out 0).trans rfl; have hfy1_0 := blk_frozen n4_.out 0; clear HO_173000 HO_184000 HO_4 BK172 BK183 HB hq_; have HO_173000 := n0_; have HO_184000 := n1_; have HO_4 := n2_; have BK172 := n3_; have BK183 := n4_; have HB := n5_; clear n0_ n1_ n2_ n3_ n4_ n5_)); obtain ⟨Ao50, co50, eo50⟩ := Kd.R_slice HO_4.out; subst eo50))
                       replace HO_4 := Aside0.mk (Kd.R_drew HO_4.out); replace HO_173000 := Aside0.mk (Kd.R_drew HO_173000.out); replace HO_184000 := Aside0.mk (Kd.R_drew HO_184000.out); replace BK172 := Aside0.mk (blk_drew BK172.out); replace BK183 := Aside0.mk (blk_drew BK183.out); replace HB := Aside0.mk (below_drew1 HB.out); have p190 : 0 ≤ ((ji45) : Int) := odA; have q190 : (ji45) < (x4_30.length : Int) := odA; obtain ⟨ad190, e190, hx190_0⟩ := Kd.at_int (Kd.R_reads' HO_4.out).2.2 (ji45) p190 q190
                       cases e190
                       replace p190 := eq_true p190; replace q190 := eq_true q190; refine start_ (n := 15) (S := fun w' => w'.cell? ⟨gb172, 0, none⟩ = some (.slice Ao19 t179.length co19) ∧ w'.cell? (ad190.add ((ji45)).toNat) = some (.int .i64 (rd x4_30 (ji45)))) (ds := []) #[false, false, false, false, false, false, false, false, false, false, false, false, false, false, false] (by kernel_rfl) rfl rfl ⟨(blk_cell BK172.out 0).trans rfl, hx190_0⟩ (fun hHeld => ?_); refine with_tabW laws_FnLineOrder.tab19 laws_FnLineOrder.bits19 (fun HT_ HW_ => ?_)
                       generalize wc.drew = w51 at HO_4 HO_173000 HO_184000 BK172 BK183 HB hx190_0 hHeld ⊢
                       refine pure_ (i := 1) (N := some 103) (v := ?_) (a' := ?_) #[false, true, false, false, false, false, false, false, false, false, false, false, false, false, false] rfl rfl (any_of HT_.out (by kernel_rfl)) (fun _ _ _ h => h) (Or.inl ⟨by rfl, ?_⟩) ?_ ?_
                       rotate_left
                       · intro w'; go_simp
                         with_reducible rfl
                       rotate_left
                       · simp only [Act.put, sa, sb, sc, i64_w, i32_w]
                         rfl
                       refine pure_ (i := 2) (N := some 104) (v := ?_) (a' := ?_) #[false, true, true, false, false, false, false, false, false, false, false, false, false, false, false] rfl rfl (any_of HT_.out (by kernel_rfl)) (fun _ _ _ h => h) (Or.inl ⟨by rfl, ?_⟩) ?_ ?_
                       rotate_left
                       · intro w'; go_simp
                         with_reducible rfl
                       rotate_left
                       · simp only [Act.put, sa, sb, sc, i64_w, i32_w]
                         rfl
                       refine pure_ (i := 3) (N := some 105) (v := ?_) (a' := ?_) #[false, true, true, true, false, false, false, false, false, false, false, false, false, false, false] rfl rfl (any_of HT_.out (by kernel_rfl)) (fun _ _ _ h => h) (Or.inl ⟨by rfl, ?_⟩) ?_ ?_
                       rotate_left
                       · intro w'; go_simp
                         with_reducible rfl
                       rotate_left
                       · simp only [Act.put, sa, sb, sc, i64_w, i32_w]
                         rfl
                       refine take_ (i := 0) (N := some 102) (v := ?_) (a' := ?_) #[true, true, true, true, false, false, false, false, false, false, false, false, false, false, false] rfl rfl (take_ofW HT_.out HW_.out (by kernel_rfl)) (fun _ _ _ h => h) (Or.inl ⟨by rfl, ?_⟩) hHeld ?_ ?_
                       rotate_left
                       · rintro w' ⟨s0, s1⟩
                         go_simp
                         with_reducible rfl
                       rotate_left
                       · simp only [Act.put, sa, sb, sc, i64_w, i32_w]
                         rfl
                       refine take_ (i := 4) (N := some 106) (v := ?_) (a' := ?_) #[true, true, true, true, true, false, false, false, false, false, false, false, false, false, false] rfl rfl (take_ofW HT_.out HW_.out (by kernel_rfl)) (fun _ _ _ h => h) (Or.inl ⟨by rfl, ?_⟩) hHeld ?_ ?_
                       rotate_left
                       · rintro w' ⟨s0, s1⟩
                         go_simp
                         with_reducible rfl
                       rotate_left
                       · simp only [Act.put, sa, sb, sc, i64_w, i32_w]
                         rfl
                       refine join_ (σ := Value × Nat × Nat) 3 #[true, true, true, true, true, true, true, true, true, true, true, true, false, false, false] (fun s_ => [(107, .tuple #[.agg #[s_.1], .agg #[.int .i64 t194, .int .i64 t195], .bool t196]), (11, .pointer (some ⟨s_.2.1, 0, none⟩)), (12, .pointer (some ⟨s_.2.2, 0, none⟩)), (101, .tuple #[.agg #[s_.1], .agg #[.int .i64 t194, .int .i64 t195], .bool t196]), (108, .agg #[s_.1]), (109, .agg #[.int .i64 t194, .int .i64 t195]), (110, .bool t196)]) (fun s_ w' => (w'.cell? ⟨gb172, 0, none⟩ = some (.slice Ao19 t179.length co19) ∧ w'.cell? (ad190.add ((ji45)).toNat) = some (.int .i64 (rd x4_30 (ji45)))) ∧ (Kd.R k65 65 w' w.heap.size (fun k_ => some k_ ≠ (.slice Ao19 t179.length co19 : Value).ownBlock ∧ some k_ ≠ (.slice Ao19 t179.length co19 : Value).ownBlock ∧ k_ ≠ s_.2.2) s_.1 t191) ∧ (Kd.R k65 65 w' w.heap.size (fun k_ => some k_ ≠ (s_.1 : Value).ownBlock ∧ k_ ≠ s_.2.2) (.slice Ao19 t179.length co19) t179) ∧ (Kd.R k65 65 w' w.heap.size (fun k_ => some k_ ≠ (s_.1 : Value).ownBlock ∧ k_ ≠ s_.2.2) (.slice Ao19 t179.length co19) t179) ∧ (Kd.R (Kd.int .i64) 3 w' w.heap.size (fun _ => True) (.slice (some ad190) x4_30.length co50) x4_30) ∧ (w'.heap[gb172]? = some (.cells #[.slice Ao19 t179.length co19] 61 (0, 0))) ∧ (w'.heap[gb183]? = some (.cells #[.slice Ao19 t179.length co19] 61 (0, 0))) ∧ (w'.heap[s_.2.1]? = some (.cells #[.slice none 0 0] 61 (0, 0))) ∧ (w'.heap[s_.2.2]? = some (.cells #[.int .i64 0, .int .i64 0] 65 (0, 0))) ∧ (w.heap.size ≤ s_.2.1) ∧ (w.heap.size ≤ s_.2.1) ∧ (gb172 ≠ s_.2.1) ∧ (s_.2.1 ≠ gb172) ∧ (gb183 ≠ s_.2.1) ∧ (s_.2.1 ≠ gb183) ∧ (s_.2.2 ≠ s_.2.1) ∧ (s_.2.1 ≠ s_.2.2) ∧ (w.heap.size ≤ s_.2.2) ∧ (w.heap.size ≤ s_.2.2) ∧ (gb172 ≠ s_.2.2) ∧ (s_.2.2 ≠ gb172) ∧ (gb183 ≠ s_.2.2) ∧ (s_.2.2 ≠ gb183) ∧ (Below w.heap.size w w')) ?_ ?_
                       rotate_left
                       · intro hJ5_10_11; refine join_ (σ := Value × Nat) 4 #[true, true, true, true, true, true, true, true, true, true, true, false, false, false, false] (fun s_ => [(107, .tuple #[.agg #[s_.1], .agg #[.int .i64 t194, .int .i64 t195], .bool t196]), (11, .pointer (some ⟨s_.2, 0, none⟩)), (101, .tuple #[.agg #[s_.1], .agg #[.int .i64 t194, .int .i64 t195], .bool t196]), (108, .agg #[s_.1]), (109, .agg #[.int .i64 t194, .int .i64 t195]), (110, .bool t196)]) (fun s_ w' => (w'.cell? ⟨gb172, 0, none⟩ = some (.slice Ao19 t179.length co19) ∧ w'.cell? (ad190.add ((ji45)).toNat) = some (.int .i64 (rd x4_30 (ji45)))) ∧ (Kd.R k65 65 w' w.heap.size (fun k_ => some k_ ≠ (.slice Ao19 t179.length co19 : Value).ownBlock ∧ some k_ ≠ (.slice Ao19 t179.length co19 : Value).ownBlock) s_.1 t191) ∧ (Kd.R k65 65 w' w.heap.size (fun k_ => some k_ ≠ (s_.1 : Value).ownBlock) (.slice Ao19 t179.length co19) t179) ∧ (Kd.R k65 65 w' w.heap.size (fun k_ => some k_ ≠ (s_.1 : Value).ownBlock) (.slice Ao19 t179.length co19) t179) ∧ (Kd.R (Kd.int .i64) 3 w' w.heap.size (fun _ => True) (.slice (some ad190) x4_30.length co50) x4_30) ∧ (w'.heap[gb172]? = some (.cells #[.slice Ao19 t179.length co19] 61 (0, 0))) ∧ (w'.heap[gb183]? = some (.cells #[.slice Ao19 t179.length co19] 61 (0, 0))) ∧ (w'.heap[s_.2]? = some (.cells #[.slice none 0 0] 61 (0, 0))) ∧ (w.heap.size ≤ s_.2) ∧ (w.heap.size ≤ s_.2) ∧ (gb172 ≠ s_.2) ∧ (s_.2 ≠ gb172) ∧ (gb183 ≠ s_.2) ∧ (s_.2 ≠ gb183) ∧ (Below w.heap.size w w')) ?_ ?_
                         rotate_left
                         · intro hJ5_10; refine join_ (σ := Value × Nat) 4 #[true, true, true, true, true, true, true, true, true, true, false, true, false, false, false] (fun s_ => [(107, .tuple #[.agg #[s_.1], .agg #[.int .i64 t194, .int .i64 t195], .bool t196]), (12, .pointer (some ⟨s_.2, 0, none⟩)), (101, .tuple #[.agg #[s_.1], .agg #[.int .i64 t194, .int .i64 t195], .bool t196]), (108, .agg #[s_.1]), (109, .agg #[.int .i64 t194, .int .i64 t195]), (110, .bool t196)]) (fun s_ w' => (w'.cell? ⟨gb172, 0, none⟩ = some (.slice Ao19 t179.length co19) ∧ w'.cell? (ad190.add ((ji45)).toNat) = some (.int .i64 (rd x4_30 (ji45)))) ∧ (Kd.R k65 65 w' w.heap.size (fun k_ => some k_ ≠ (.slice Ao19 t179.length co19 : Value).ownBlock ∧ some k_ ≠ (.slice Ao19 t179.length co19 : Value).ownBlock ∧ k_ ≠ s_.2) s_.1 t191) ∧ (Kd.R k65 65 w' w.heap.size (fun k_ => some k_ ≠ (s_.1 : Value).ownBlock ∧ k_ ≠ s_.2) (.slice Ao19 t179.length co19) t179) ∧ (Kd.R k65 65 w' w.heap.size (fun k_ => some k_ ≠ (s_.1 : Value).ownBlock ∧ k_ ≠ s_.2) (.slice Ao19 t179.length co19) t179) ∧ (Kd.R (Kd.int .i64) 3 w' w.heap.size (fun _ => True) (.slice (some ad190) x4_30.length co50) x4_30) ∧ (w'.heap[gb172]? = some (.cells #[.slice Ao19 t179.length co19] 61 (0, 0))) ∧ (w'.heap[gb183]? = some (.cells #[.slice Ao19 t179.length co19] 61 (0, 0))) ∧ (w'.heap[s_.2]? = some (.cells #[.int .i64 0, .int .i64 0] 65 (0, 0))) ∧ (w.heap.size ≤ s_.2) ∧ (w.heap.size ≤ s_.2) ∧ (gb172 ≠ s_.2) ∧ (s_.2 ≠ gb172) ∧ (gb183 ≠ s_.2) ∧ (s_.2 ≠ gb183) ∧ (Below w.heap.size w w')) ?_ ?_
                           rotate_left
                           · intro hJ5_11; refine join_ (σ := Nat × Nat) 8 #[true, true, true, true, true, false, false, false, false, false, true, true, false, false, false] (fun s_ => [(11, .pointer (some ⟨s_.1, 0, none⟩)), (12, .pointer (some ⟨s_.2, 0, none⟩))]) (fun s_ w' => (w'.cell? ⟨gb172, 0, none⟩ = some (.slice Ao19 t179.length co19) ∧ w'.cell? (ad190.add ((ji45)).toNat) = some (.int .i64 (rd x4_30 (ji45)))) ∧ (Kd.R k65 65 w' w.heap.size (fun k_ => k_ ≠ s_.2) (.slice Ao19 t179.length co19) t179) ∧ (Kd.R k65 65 w' w.heap.size (fun k_ => k_ ≠ s_.2) (.slice Ao19 t179.length co19) t179) ∧ (Kd.R (Kd.int .i64) 3 w' w.heap.size (fun _ => True) (.slice (some ad190) x4_30.length co50) x4_30) ∧ (w'.heap[gb172]? = some (.cells #[.slice Ao19 t179.length co19] 61 (0, 0))) ∧ (w'.heap[gb183]? = some (.cells #[.slice Ao19 t179.length co19] 61 (0, 0))) ∧ (w'.heap[s_.1]? = some (.cells #[.slice none 0 0] 61 (0, 0))) ∧ (w'.heap[s_.2]? = some (.cells #[.int .i64 0, .int .i64 0] 65 (0, 0))) ∧ (w.heap.size ≤ s_.1) ∧ (w.heap.size ≤ s_.1) ∧ (gb172 ≠ s_.1) ∧ (s_.1 ≠ gb172) ∧ (gb183 ≠ s_.1) ∧ (s_.1 ≠ gb183) ∧ (s_.2 ≠ s_.1) ∧ (s_.1 ≠ s_.2) ∧ (w.heap.size ≤ s_.2) ∧ (w.heap.size ≤ s_.2) ∧ (gb172 ≠ s_.2) ∧ (s_.2 ≠ gb172) ∧ (gb183 ≠ s_.2) ∧ (s_.2 ≠ gb183) ∧ (Below w.heap.size w w')) ?_ ?_
                             rotate_left
                             · intro hJ10_11; refine join_ (σ := Value) 5 #[true, true, true, true, true, true, true, true, true, true, false, false, false, false, false] (fun s_ => [(107, .tuple #[.agg #[s_], .agg #[.int .i64 t194, .int .i64 t195], .bool t196]), (101, .tuple #[.agg #[s_], .agg #[.int .i64 t194, .int .i64 t195], .bool t196]), (108, .agg #[s_]), (109, .agg #[.int .i64 t194, .int .i64 t195]), (110, .bool t196)]) (fun s_ w' => (w'.cell? ⟨gb172, 0, none⟩ = some (.slice Ao19 t179.length co19) ∧ w'.cell? (ad190.add ((ji45)).toNat) = some (.int .i64 (rd x4_30 (ji45)))) ∧ (Kd.R k65 65 w' w.heap.size (fun k_ => some k_ ≠ (.slice Ao19 t179.length co19 : Value).ownBlock ∧ some k_ ≠ (.slice Ao19 t179.length co19 : Value).ownBlock) s_ t191) ∧ (Kd.R k65 65 w' w.heap.size (fun k_ => some k_ ≠ (s_ : Value).ownBlock) (.slice Ao19 t179.length co19) t179) ∧ (Kd.R k65 65 w' w.heap.size (fun k_ => some k_ ≠ (s_ : Value).ownBlock) (.slice Ao19 t179.length co19) t179) ∧ (Kd.R (Kd.int .i64) 3 w' w.heap.size (fun _ => True) (.slice (some ad190) x4_30.length co50) x4_30) ∧ (w'.heap[gb172]? = some (.cells #[.slice Ao19 t179.length co19] 61 (0, 0))) ∧ (w'.heap[gb183]? = some (.cells #[.slice Ao19 t179.length co19] 61 (0, 0))) ∧ (Below w.heap.size w w')) ?_ ?_
                               rotate_left
                               · intro hJ5; refine join_ (σ := Nat) 9 #[true, true, true, true, true, false, false, false, false, false, true, false, false, false, false] (fun s_ => [(11, .pointer (some ⟨s_, 0, none⟩))]) (fun s_ w' => (w'.cell? ⟨gb172, 0, none⟩ = some (.slice Ao19 t179.length co19) ∧ w'.cell? (ad190.add ((ji45)).toNat) = some (.int .i64 (rd x4_30 (ji45)))) ∧ (Kd.R k65 65 w' w.heap.size (fun _ => True) (.slice Ao19 t179.length co19) t179) ∧ (Kd.R k65 65 w' w.heap.size (fun _ => True) (.slice Ao19 t179.length co19) t179) ∧ (Kd.R (Kd.int .i64) 3 w' w.heap.size (fun _ => True) (.slice (some ad190) x4_30.length co50) x4_30) ∧ (w'.heap[gb172]? = some (.cells #[.slice Ao19 t179.length co19] 61 (0, 0))) ∧ (w'.heap[gb183]? = some (.cells #[.slice Ao19 t179.length co19] 61 (0, 0))) ∧ (w'.heap[s_]? = some (.cells #[.slice none 0 0] 61 (0, 0))) ∧ (w.heap.size ≤ s_) ∧ (w.heap.size ≤ s_) ∧ (gb172 ≠ s_) ∧ (s_ ≠ gb172) ∧ (gb183 ≠ s_) ∧ (s_ ≠ gb183) ∧ (Below w.heap.size w w')) ?_ ?_
                                 rotate_left
                                 · intro hJ10; refine join_ (σ := Nat) 9 #[true, true, true, true, true, false, false, false, false, false, false, true, false, false, false] (fun s_ => [(12, .pointer (some ⟨s_, 0, none⟩))]) (fun s_ w' => (w'.cell? ⟨gb172, 0, none⟩ = some (.slice Ao19 t179.length co19) ∧ w'.cell? (ad190.add ((ji45)).toNat) = some (.int .i64 (rd x4_30 (ji45)))) ∧ (Kd.R k65 65 w' w.heap.size (fun k_ => k_ ≠ s_) (.slice Ao19 t179.length co19) t179) ∧ (Kd.R k65 65 w' w.heap.size (fun k_ => k_ ≠ s_) (.slice Ao19 t179.length co19) t179) ∧ (Kd.R (Kd.int .i64) 3 w' w.heap.size (fun _ => True) (.slice (some ad190) x4_30.length co50) x4_30) ∧ (w'.heap[gb172]? = some (.cells #[.slice Ao19 t179.length co19] 61 (0, 0))) ∧ (w'.heap[gb183]? = some (.cells #[.slice Ao19 t179.length co19] 61 (0, 0))) ∧ (w'.heap[s_]? = some (.cells #[.int .i64 0, .int .i64 0] 65 (0, 0))) ∧ (w.heap.size ≤ s_) ∧ (w.heap.size ≤ s_) ∧ (gb172 ≠ s_) ∧ (s_ ≠ gb172) ∧ (gb183 ≠ s_) ∧ (s_ ≠ gb183) ∧ (Below w.heap.size w w')) ?_ ?_
                                   rotate_left
                                   · intro hJ11; refine three_ (i := 5) (j := 10) (k := 11) (Ni := some 107) (Nj := some 11) (Nk := some 12) #[true, true, true, true, true, true, false, false, false, false, false, false, false, false, false] #[true, true, true, true, true, false, false, false, false, false, true, false, false, false, false] #[true, true, true, true, true, false, false, false, false, false, false, true, false, false, false] rfl rfl rfl rfl rfl rfl (three_of HT_.out (by kernel_rfl)) (by decide) (by decide) (by decide) (fun K hK => ?_) (fun K hK => ?_) (fun K hK => ?_)
                                     · skip
                                       refine goes_ Try.func44 (by kernel_rfl) rfl #[.agg #[.slice Ao19 t179.length co19], .int .i64 (rd x4_30 (ji45))] (by rfl) rfl rfl (by (try simp only [List.map_toArray, List.map_cons, List.map_nil]); first | done | (simp only [hji45]; rfl) | rfl | (simp only [List.length_drop, List.length_take]; rfl)) ?_
                                       with_reducible refine (impl_Cancel.calls kj34 _ _ t179 (rd x4_30 (ji45)) t191 t194 t195 t196 _ ?side1 ?side2 A48.out).mono ?_
                                       (case side1 => exact cA ((Kd.R_reads' HO_173000.out).2.2))
                                       (case side2 => exact (Kd.R_reads' HO_173000.out).2.1)
                                       rintro e w52 ⟨v192, rfl, ho0, hb⟩
                                       have HS1_ := (hb.cell (World.block_lt_of_cell? _ _ (hHeld.2))).trans (hHeld.2); refine ⟨_, rfl, ?_⟩
                                       have HO193 := rL (Kd.R_new' (Kd.R_new' ho0 (rT HO_173000)) (rT HO_184000)); replace HO_4 := rB HO_4 hb; replace HO_173000 := rD HO_173000 (Kd.R_base ho0) hb; replace HO_184000 := rD HO_184000 (Kd.R_base ho0) hb; replace BK172 := bB BK172 hb; replace BK183 := bB BK183 hb; replace HB := bS hb; (try clear hb); (try clear hb2); (try clear hk); (try clear hi); (try clear ho0); refine hK.out _ _ ⟨(blk_cell BK172.out 0).trans rfl, HS1_⟩ (fun hHeld => ?_)
                                       clear hK K; refine norm_ (a' := ?_) ?_ ?_
                                       rotate_left
                                       · show Act.put _ (some 107) _ = _
                                         simp only [Act.put, sa, sb, sc, i64_w, i32_w]
                                         rfl
                                       refine pure_ (i := 6) (N := some 101) (v := ?_) (a' := ?_) #[true, true, true, true, true, true, true, false, false, false, false, false, false, false, false] rfl rfl (any_of HT_.out (by kernel_rfl)) (fun _ _ _ h => h) (Or.inl ⟨by rfl, ?_⟩) ?_ ?_
                                       rotate_left
                                       · intro w'; go_simp
                                         with_reducible rfl
                                       rotate_left
                                       · simp only [Act.put, sa, sb, sc, i64_w, i32_w]
                                         rfl
                                       refine pure_ (i := 7) (N := some 108) (v := ?_) (a' := ?_) #[true, true, true, true, true, true, true, true, false, false, false, false, false, false, false] rfl rfl (any_of HT_.out (by kernel_rfl)) (fun _ _ _ h => h) (Or.inl ⟨by rfl, ?_⟩) ?_ ?_
                                       rotate_left
                                       · intro w'; go_simp
                                         with_reducible rfl
                                       rotate_left
                                       · simp only [Act.put, sa, sb, sc, i64_w, i32_w]
                                         rfl
                                       refine pure_ (i := 8) (N := some 109) (v := ?_) (a' := ?_) #[true, true, true, true, true, true, true, true, true, false, false, false, false, false, false] rfl rfl (any_of HT_.out (by kernel_rfl)) (fun _ _ _ h => h) (Or.inl ⟨by rfl, ?_⟩) ?_ ?_
                                       rotate_left
                                       · intro w'; go_simp
                                         with_reducible rfl
                                       rotate_left
                                       · simp only [Act.put, sa, sb, sc, i64_w, i32_w]
                                         rfl
                                       refine pure_ (i := 9) (N := some 110) (v := ?_) (a' := ?_) #[true, true, true, true, true, true, true, true, true, true, false, false, false, false, false] rfl rfl (any_of HT_.out (by kernel_rfl)) (fun _ _ _ h => h) (Or.inl ⟨by rfl, ?_⟩) ?_ ?_
                                       rotate_left
                                       · intro w'; go_simp
                                         with_reducible rfl
                                       rotate_left
                                       · simp only [Act.put, sa, sb, sc, i64_w, i32_w]
                                         rfl
                                       exact norm_ (by first | (simp only [putAll, Act.put, sa, sb, sc]; done) | (simp only [putAll, Act.put, sa, sb, sc]; rfl)) (hJ5 (v192) _ ⟨hHeld, (by (with_reducible repeat (first | apply Kd.R_alloc | apply Kd.R_drewN | apply Kd.R_drew)); first | exact Kd.R_mono HO193.out (fun _ hk => ⟨hk.1.2, hk.2⟩) | exact Kd.R_mono HO193.out (fun _ _ => trivial)), (rE (Kd.R_mono HO_173000.out (fun _ hk => hk.2))), (rE (Kd.R_mono HO_184000.out (fun _ hk => hk.2))), (rA HO_4), blkA, blkA, belA⟩)
                                     · skip
                                       refine box_step ?hg (N := 11) ?hd (cs := #[.slice none 0 0]) (t := 61) ?hr ?_; (case hd => rfl); (case hg => rfl); (case hr => first | (go_simp; done) | (go_simp; rfl))
                                       intro gb197 hg w52 hbox hb; have HS1_ := (hb.cell (World.block_lt_of_cell? _ _ (hHeld.2))).trans (hHeld.2); have BK197 := Aside0.mk hbox; have GW197 := leA (w := w) hg; have GE197 := leA (w := w) hg; have NB172_197 := neL hg BK172; have NB197_172 := neG hg BK172; have NB183_197 := neL hg BK183; have NB197_183 := neG hg BK183; replace HO_4 := rB HO_4 hb; replace HO_173000 := rB HO_173000 hb; replace HO_184000 := rB HO_184000 hb; replace BK172 := bB BK172 hb; replace BK183 := bB BK183 hb; replace HB := bS hb; clear hb hbox hg; refine hK.out _ _ ⟨(blk_cell BK172.out 0).trans rfl, HS1_⟩ (fun hHeld => ?_)
                                       clear hK K; refine norm_ (a' := ?_) ?_ ?_
                                       rotate_left
                                       · show Act.put _ (some 11) _ = _
                                         simp only [Act.put, sa, sb, sc, i64_w, i32_w]
                                         rfl
                                       exact norm_ (by first | (simp only [putAll, Act.put, sa, sb, sc]; done) | (simp only [putAll, Act.put, sa, sb, sc]; rfl)) (hJ10 (gb197) _ ⟨hHeld, (rA HO_173000), (rA HO_184000), (rA HO_4), blkA, blkA, blkA, GW197.out, GE197.out, NB172_197.out, NB197_172.out, NB183_197.out, NB197_183.out, belA⟩)
                                     · skip
                                       refine box_step ?hg (N := 12) ?hd (cs := #[.int .i64 0, .int .i64 0]) (t := 65) ?hr ?_; (case hd => rfl); (case hg => rfl); (case hr => first | (go_simp; done) | (go_simp; rfl))
                                       intro gb198 hg w52 hbox hb; have HS1_ := (hb.cell (World.block_lt_of_cell? _ _ (hHeld.2))).trans (hHeld.2); have BK198 := Aside0.mk hbox; have GW198 := leA (w := w) hg; have GE198 := leA (w := w) hg; have NB172_198 := neL hg BK172; have NB198_172 := neG hg BK172; have NB183_198 := neL hg BK183; have NB198_183 := neG hg BK183; replace HO_4 := rB HO_4 hb; replace HO_173000 := rC HO_173000 hg hb; replace HO_184000 := rC HO_184000 hg hb; replace BK172 := bB BK172 hb; replace BK183 := bB BK183 hb; replace HB := bS hb; clear hb hbox hg; refine hK.out _ _ ⟨(blk_cell BK172.out 0).trans rfl, HS1_⟩ (fun hHeld => ?_)
                                       clear hK K; refine norm_ (a' := ?_) ?_ ?_
                                       rotate_left
                                       · show Act.put _ (some 12) _ = _
                                         simp only [Act.put, sa, sb, sc, i64_w, i32_w]
                                         rfl
                                       exact norm_ (by first | (simp only [putAll, Act.put, sa, sb, sc]; done) | (simp only [putAll, Act.put, sa, sb, sc]; rfl)) (hJ11 (gb198) _ ⟨hHeld, (rE (Kd.R_mono HO_173000.out (fun _ hk => hk.2))), (rE (Kd.R_mono HO_184000.out (fun _ hk => hk.2))), (rA HO_4), blkA, blkA, blkA, GW198.out, GE198.out, NB172_198.out, NB198_172.out, NB183_198.out, NB198_183.out, belA⟩)
                                   · skip
                                     rintro gb198 w53 ⟨hS_, h0_, h1_, h2_, h3_, h4_, h5_, h6_, h7_, h8_, h9_, h10_, h11_, h12_⟩
                                     have n0_ : Aside0 (Kd.R k65 65 w53 w.heap.size (fun k_ => k_ ≠ gb198) (.slice Ao19 t179.length co19) t179) := ⟨h0_⟩; have n1_ : Aside0 (Kd.R k65 65 w53 w.heap.size (fun k_ => k_ ≠ gb198) (.slice Ao19 t179.length co19) t179) := ⟨h1_⟩; have n2_ : Aside0 (Kd.R (Kd.int .i64) 3 w53 w.heap.size (fun _ => True) (.slice (some ad190) x4_30.length co50) x4_30) := ⟨h2_⟩; have n3_ : Aside0 (w53.heap[gb172]? = some (.cells #[.slice Ao19 t179.length co19] 61 (0, 0))) := ⟨h3_⟩; have n4_ : Aside0 (w53.heap[gb183]? = some (.cells #[.slice Ao19 t179.length co19] 61 (0, 0))) := ⟨h4_⟩; have n5_ : Aside0 (w53.heap[gb198]? = some (.cells #[.int .i64 0, .int .i64 0] 65 (0, 0))) := ⟨h5_⟩; have n6_ : Aside0 (w.heap.size ≤ gb198) := ⟨h6_⟩; have n7_ : Aside0 (w.heap.size ≤ gb198) := ⟨h7_⟩; have n8_ : Aside0 (gb172 ≠ gb198) := ⟨h8_⟩; have n9_ : Aside0 (gb198 ≠ gb172) := ⟨h9_⟩; have n10_ : Aside0 (gb183 ≠ gb198) := ⟨h10_⟩; have n11_ : Aside0 (gb198 ≠ gb183) := ⟨h11_⟩; have n12_ : Aside0 (Below w.heap.size w w53) := ⟨h12_⟩; clear HO_4; clear HO_173000; clear HO_184000; clear BK172; clear BK183; clear HB; clear h0_ h1_ h2_ h3_ h4_ h5_ h6_ h7_ h8_ h9_ h10_ h11_ h12_; have HO_173000 := n0_; have HO_184000 := n1_; have HO_4 := n2_; have BK172 := n3_; have BK183 := n4_; have BK198 := n5_; have GW198 := n6_; have GE198 := n7_; have NB172_198 := n8_; have NB198_172 := n9_; have NB183_198 := n10_; have NB198_183 := n11_; have HB := n12_; clear n0_ n1_ n2_ n3_ n4_ n5_ n6_ n7_ n8_ n9_ n10_ n11_ n12_; have hHeld : w53.cell? ⟨gb172, 0, none⟩ = some (.slice Ao19 t179.length co19) ∧ w53.cell? (ad190.add ((ji45)).toNat) = some (.int .i64 (rd x4_30 (ji45))) := hS_; refine norm_ (a' := ?_) ?_ ?_
                                     rotate_left
                                     · simp only [putAll, Act.put, sa, sb, sc]
                                       rfl
                                     refine two_ (i := 5) (j := 10) (Ni := some 107) (Nj := some 11) #[true, true, true, true, true, true, false, false, false, false, false, true, false, false, false] #[true, true, true, true, true, false, false, false, false, false, true, true, false, false, false] rfl rfl rfl rfl (two_of HT_.out (by kernel_rfl)) (by decide) (by decide) (fun K hK => ?_) (fun K hK => ?_)
                                     · skip
                                       refine goes_ Try.func44 (by kernel_rfl) rfl #[.agg #[.slice Ao19 t179.length co19], .int .i64 (rd x4_30 (ji45))] (by rfl) rfl rfl (by (try simp only [List.map_toArray, List.map_cons, List.map_nil]); first | done | (simp only [hji45]; rfl) | rfl | (simp only [List.length_drop, List.length_take]; rfl)) ?_
                                       with_reducible refine (impl_Cancel.calls kj34 _ _ t179 (rd x4_30 (ji45)) t191 t194 t195 t196 _ ?side1 ?side2 A48.out).mono ?_
                                       (case side1 => exact cA ((Kd.R_reads' HO_173000.out).2.2))
                                       (case side2 => exact (Kd.R_reads' HO_173000.out).2.1)
                                       rintro e w54 ⟨v192, rfl, ho0, hb⟩
                                       have HS1_ := (hb.cell (World.block_lt_of_cell? _ _ (hHeld.2))).trans (hHeld.2); refine ⟨_, rfl, ?_⟩
                                       have HO193 := rL (Kd.R_newB (Kd.R_new' (Kd.R_new' ho0 (rT HO_173000)) (rT HO_184000)) (g := gb198) (o := .cells #[.int .i64 0, .int .i64 0] 65 (0, 0)) blkA); replace HO_4 := rB HO_4 hb; replace HO_173000 := rD HO_173000 (Kd.R_base ho0) hb; replace HO_184000 := rD HO_184000 (Kd.R_base ho0) hb; replace BK172 := bB BK172 hb; replace BK183 := bB BK183 hb; replace BK198 := bB BK198 hb; replace HB := bS hb; (try clear hb); (try clear hb2); (try clear hk); (try clear hi); (try clear ho0); refine hK.out _ _ ⟨(blk_cell BK172.out 0).trans rfl, HS1_⟩ (fun hHeld => ?_)
                                       clear hK K; refine norm_ (a' := ?_) ?_ ?_
                                       rotate_left
                                       · show Act.put _ (some 107) _ = _
                                         simp only [Act.put, sa, sb, sc, i64_w, i32_w]
                                         rfl
                                       refine pure_ (i := 6) (N := some 101) (v := ?_) (a' := ?_) #[true, true, true, true, true, true, true, false, false, false, false, true, false, false, false] rfl rfl (any_of HT_.out (by kernel_rfl)) (fun _ _ _ h => h) (Or.inl ⟨by rfl, ?_⟩) ?_ ?_
                                       rotate_left
                                       · intro w'; go_simp
                                         with_reducible rfl
                                       rotate_left
                                       · simp only [Act.put, sa, sb, sc, i64_w, i32_w]
                                         rfl
                                       refine pure_ (i := 7) (N := some 108) (v := ?_) (a' := ?_) #[true, true, true, true, true, true, true, true, false, false, false, true, false, false, false] rfl rfl (any_of HT_.out (by kernel_rfl)) (fun _ _ _ h => h) (Or.inl ⟨by rfl, ?_⟩) ?_ ?_
                                       rotate_left
                                       · intro w'; go_simp
                                         with_reducible rfl
                                       rotate_left
                                       · simp only [Act.put, sa, sb, sc, i64_w, i32_w]
                                         rfl
                                       refine pure_ (i := 8) (N := some 109) (v := ?_) (a' := ?_) #[true, true, true, true, true, true, true, true, true, false, false, true, false, false, false] rfl rfl (any_of HT_.out (by kernel_rfl)) (fun _ _ _ h => h) (Or.inl ⟨by rfl, ?_⟩) ?_ ?_
                                       rotate_left
                                       · intro w'; go_simp
                                         with_reducible rfl
                                       rotate_left
                                       · simp only [Act.put, sa, sb, sc, i64_w, i32_w]
                                         rfl
                                       refine pure_ (i := 9) (N := some 110) (v := ?_) (a' := ?_) #[true, true, true, true, true, true, true, true, true, true, false, true, false, false, false] rfl rfl (any_of HT_.out (by kernel_rfl)) (fun _ _ _ h => h) (Or.inl ⟨by rfl, ?_⟩) ?_ ?_
                                       rotate_left
                                       · intro w'; go_simp
                                         with_reducible rfl
                                       rotate_left
                                       · simp only [Act.put, sa, sb, sc, i64_w, i32_w]
                                         rfl
                                       exact norm_ (by first | (simp only [putAll, Act.put, sa, sb, sc]; done) | (simp only [putAll, Act.put, sa, sb, sc]; rfl)) (hJ5_11 (v192, gb198) _ ⟨hHeld, (rE (Kd.R_mono HO193.out (fun _ hk => ⟨hk.1.1.2, ⟨hk.1.2, hk.2⟩⟩))), (by (with_reducible repeat (first | apply Kd.R_alloc | apply Kd.R_drewN | apply Kd.R_drew)); first | exact Kd.R_mono HO_173000.out (fun _ hk => ⟨hk.2, hk.1⟩) | exact Kd.R_mono HO_173000.out (fun _ _ => trivial)), (by (with_reducible repeat (first | apply Kd.R_alloc | apply Kd.R_drewN | apply Kd.R_drew)); first | exact Kd.R_mono HO_184000.out (fun _ hk => ⟨hk.2, hk.1⟩) | exact Kd.R_mono HO_184000.out (fun _ _ => trivial)), (rA HO_4), blkA, blkA, blkA, GW198.out, GE198.out, NB172_198.out, NB198_172.out, NB183_198.out, NB198_183.out, belA⟩)
                                     · skip
                                       refine box_step ?hg (N := 11) ?hd (cs := #[.slice none 0 0]) (t := 61) ?hr ?_; (case hd => rfl); (case hg => rfl); (case hr => first | (go_simp; done) | (go_simp; rfl))
                                       intro gb197 hg w54 hbox hb; have HS1_ := (hb.cell (World.block_lt_of_cell? _ _ (hHeld.2))).trans (hHeld.2); have BK197 := Aside0.mk hbox; have GW197 := leA (w := w) hg; have GE197 := leA (w := w) hg; have NB172_197 := neL hg BK172; have NB197_172 := neG hg BK172; have NB183_197 := neL hg BK183; have NB197_183 := neG hg BK183; have NB198_197 := neL hg BK198; have NB197_198 := neG hg BK198; replace HO_4 := rB HO_4 hb; replace HO_173000 := rB HO_173000 hb; replace HO_184000 := rB HO_184000 hb; replace BK172 := bB BK172 hb; replace BK183 := bB BK183 hb; replace BK198 := bB BK198 hb; replace HB := bS hb; clear hb hbox hg; refine hK.out _ _ ⟨(blk_cell BK172.out 0).trans rfl, HS1_⟩ (fun hHeld => ?_)
                                       clear hK K; refine norm_ (a' := ?_) ?_ ?_
                                       rotate_left
                                       · show Act.put _ (some 11) _ = _
                                         simp only [Act.put, sa, sb, sc, i64_w, i32_w]
                                         rfl
                                       exact norm_ (by first | (simp only [putAll, Act.put, sa, sb, sc]; done) | (simp only [putAll, Act.put, sa, sb, sc]; rfl)) (hJ10_11 (gb197, gb198) _ ⟨hHeld, (rA HO_173000), (rA HO_184000), (rA HO_4), blkA, blkA, blkA, blkA, GW197.out, GE197.out, NB172_197.out, NB197_172.out, NB183_197.out, NB197_183.out, NB198_197.out, NB197_198.out, GW198.out, GE198.out, NB172_198.out, NB198_172.out, NB183_198.out, NB198_183.out, belA⟩)
                                 · skip
                                   rintro gb197 w53 ⟨hS_, h0_, h1_, h2_, h3_, h4_, h5_, h6_, h7_, h8_, h9_, h10_, h11_, h12_⟩
                                   have n0_ : Aside0 (Kd.R k65 65 w53 w.heap.size (fun _ => True) (.slice Ao19 t179.length co19) t179) := ⟨h0_⟩; have n1_ : Aside0 (Kd.R k65 65 w53 w.heap.size (fun _ => True) (.slice Ao19 t179.length co19) t179) := ⟨h1_⟩; have n2_ : Aside0 (Kd.R (Kd.int .i64) 3 w53 w.heap.size (fun _ => True) (.slice (some ad190) x4_30.length co50) x4_30) := ⟨h2_⟩; have n3_ : Aside0 (w53.heap[gb172]? = some (.cells #[.slice Ao19 t179.length co19] 61 (0, 0))) := ⟨h3_⟩; have n4_ : Aside0 (w53.heap[gb183]? = some (.cells #[.slice Ao19 t179.length co19] 61 (0, 0))) := ⟨h4_⟩; have n5_ : Aside0 (w53.heap[gb197]? = some (.cells #[.slice none 0 0] 61 (0, 0))) := ⟨h5_⟩; have n6_ : Aside0 (w.heap.size ≤ gb197) := ⟨h6_⟩; have n7_ : Aside0 (w.heap.size ≤ gb197) := ⟨h7_⟩; have n8_ : Aside0 (gb172 ≠ gb197) := ⟨h8_⟩; have n9_ : Aside0 (gb197 ≠ gb172) := ⟨h9_⟩; have n10_ : Aside0 (gb183 ≠ gb197) := ⟨h10_⟩; have n11_ : Aside0 (gb197 ≠ gb183) := ⟨h11_⟩; have n12_ : Aside0 (Below w.heap.size w w53) := ⟨h12_⟩; clear HO_4; clear HO_173000; clear HO_184000; clear BK172; clear BK183; clear HB; clear h0_ h1_ h2_ h3_ h4_ h5_ h6_ h7_ h8_ h9_ h10_ h11_ h12_; have HO_173000 := n0_; have HO_184000 := n1_; have HO_4 := n2_; have BK172 := n3_; have BK183 := n4_; have BK197 := n5_; have GW197 := n6_; have GE197 := n7_; have NB172_197 := n8_; have NB197_172 := n9_; have NB183_197 := n10_; have NB197_183 := n11_; have HB := n12_; clear n0_ n1_ n2_ n3_ n4_ n5_ n6_ n7_ n8_ n9_ n10_ n11_ n12_; have hHeld : w53.cell? ⟨gb172, 0, none⟩ = some (.slice Ao19 t179.length co19) ∧ w53.cell? (ad190.add ((ji45)).toNat) = some (.int .i64 (rd x4_30 (ji45))) := hS_; refine norm_ (a' := ?_) ?_ ?_
                                   rotate_left
                                   · simp only [putAll, Act.put, sa, sb, sc]
                                     rfl
                                   refine two_ (i := 5) (j := 11) (Ni := some 107) (Nj := some 12) #[true, true, true, true, true, true, false, false, false, false, true, false, false, false, false] #[true, true, true, true, true, false, false, false, false, false, true, true, false, false, false] rfl rfl rfl rfl (two_of HT_.out (by kernel_rfl)) (by decide) (by decide) (fun K hK => ?_) (fun K hK => ?_)
                                   · skip
                                     refine goes_ Try.func44 (by kernel_rfl) rfl #[.agg #[.slice Ao19 t179.length co19], .int .i64 (rd x4_30 (ji45))] (by rfl) rfl rfl (by (try simp only [List.map_toArray, List.map_cons, List.map_nil]); first | done | (simp only [hji45]; rfl) | rfl | (simp only [List.length_drop, List.length_take]; rfl)) ?_
                                     with_reducible refine (impl_Cancel.calls kj34 _ _ t179 (rd x4_30 (ji45)) t191 t194 t195 t196 _ ?side1 ?side2 A48.out).mono ?_
                                     (case side1 => exact cA ((Kd.R_reads' HO_173000.out).2.2))
                                     (case side2 => exact (Kd.R_reads' HO_173000.out).2.1)
                                     rintro e w54 ⟨v192, rfl, ho0, hb⟩
                                     have HS1_ := (hb.cell (World.block_lt_of_cell? _ _ (hHeld.2))).trans (hHeld.2); refine ⟨_, rfl, ?_⟩
                                     have HO193 := rL (Kd.R_new' (Kd.R_new' ho0 (rT HO_173000)) (rT HO_184000)); replace HO_4 := rB HO_4 hb; replace HO_173000 := rD HO_173000 (Kd.R_base ho0) hb; replace HO_184000 := rD HO_184000 (Kd.R_base ho0) hb; replace BK172 := bB BK172 hb; replace BK183 := bB BK183 hb; replace BK197 := bB BK197 hb; replace HB := bS hb; (try clear hb); (try clear hb2); (try clear hk); (try clear hi); (try clear ho0); refine hK.out _ _ ⟨(blk_cell BK172.out 0).trans rfl, HS1_⟩ (fun hHeld => ?_)
                                     clear hK K; refine norm_ (a' := ?_) ?_ ?_
                                     rotate_left
                                     · show Act.put _ (some 107) _ = _
                                       simp only [Act.put, sa, sb, sc, i64_w, i32_w]
                                       rfl
                                     refine pure_ (i := 6) (N := some 101) (v := ?_) (a' := ?_) #[true, true, true, true, true, true, true, false, false, false, true, false, false, false, false] rfl rfl (any_of HT_.out (by kernel_rfl)) (fun _ _ _ h => h) (Or.inl ⟨by rfl, ?_⟩) ?_ ?_
                                     rotate_left
                                     · intro w'; go_simp
                                       with_reducible rfl
                                     rotate_left
                                     · simp only [Act.put, sa, sb, sc, i64_w, i32_w]
                                       rfl
                                     refine pure_ (i := 7) (N := some 108) (v := ?_) (a' := ?_) #[true, true, true, true, true, true, true, true, false, false, true, false, false, false, false] rfl rfl (any_of HT_.out (by kernel_rfl)) (fun _ _ _ h => h) (Or.inl ⟨by rfl, ?_⟩) ?_ ?_
                                     rotate_left
                                     · intro w'; go_simp
                                       with_reducible rfl
                                     rotate_left
                                     · simp only [Act.put, sa, sb, sc, i64_w, i32_w]
                                       rfl
                                     refine pure_ (i := 8) (N := some 109) (v := ?_) (a' := ?_) #[true, true, true, true, true, true, true, true, true, false, true, false, false, false, false] rfl rfl (any_of HT_.out (by kernel_rfl)) (fun _ _ _ h => h) (Or.inl ⟨by rfl, ?_⟩) ?_ ?_
                                     rotate_left
                                     · intro w'; go_simp
                                       with_reducible rfl
                                     rotate_left
                                     · simp only [Act.put, sa, sb, sc, i64_w, i32_w]
                                       rfl
                                     refine pure_ (i := 9) (N := some 110) (v := ?_) (a' := ?_) #[true, true, true, true, true, true, true, true, true, true, true, false, false, false, false] rfl rfl (any_of HT_.out (by kernel_rfl)) (fun _ _ _ h => h) (Or.inl ⟨by rfl, ?_⟩) ?_ ?_
                                     rotate_left
                                     · intro w'; go_simp
                                       with_reducible rfl
                                     rotate_left
                                     · simp only [Act.put, sa, sb, sc, i64_w, i32_w]
                                       rfl
                                     exact norm_ (by first | (simp only [putAll, Act.put, sa, sb, sc]; done) | (simp only [putAll, Act.put, sa, sb, sc]; rfl)) (hJ5_10 (v192, gb197) _ ⟨hHeld, (by (with_reducible repeat (first | apply Kd.R_alloc | apply Kd.R_drewN | apply Kd.R_drew)); first | exact Kd.R_mono HO193.out (fun _ hk => ⟨hk.1.2, hk.2⟩) | exact Kd.R_mono HO193.out (fun _ _ => trivial)), (rE (Kd.R_mono HO_173000.out (fun _ hk => hk.2))), (rE (Kd.R_mono HO_184000.out (fun _ hk => hk.2))), (rA HO_4), blkA, blkA, blkA, GW197.out, GE197.out, NB172_197.out, NB197_172.out, NB183_197.out, NB197_183.out, belA⟩)
                                   · skip
                                     refine box_step ?hg (N := 12) ?hd (cs := #[.int .i64 0, .int .i64 0]) (t := 65) ?hr ?_; (case hd => rfl); (case hg => rfl); (case hr => first | (go_simp; done) | (go_simp; rfl))
                                     intro gb198 hg w54 hbox hb; have HS1_ := (hb.cell (World.block_lt_of_cell? _ _ (hHeld.2))).trans (hHeld.2); have BK198 := Aside0.mk hbox; have GW198 := leA (w := w) hg; have GE198 := leA (w := w) hg; have NB172_198 := neL hg BK172; have NB198_172 := neG hg BK172; have NB183_198 := neL hg BK183; have NB198_183 := neG hg BK183; have NB197_198 := neL hg BK197; have NB198_197 := neG hg BK197; replace HO_4 := rB HO_4 hb; replace HO_173000 := rC HO_173000 hg hb; replace HO_184000 := rC HO_184000 hg hb; replace BK172 := bB BK172 hb; replace BK183 := bB BK183 hb; replace BK197 := bB BK197 hb; replace HB := bS hb; clear hb hbox hg; refine hK.out _ _ ⟨(blk_cell BK172.out 0).trans rfl, HS1_⟩ (fun hHeld => ?_)
                                     clear hK K; refine norm_ (a' := ?_) ?_ ?_
                                     rotate_left
                                     · show Act.put _ (some 12) _ = _
                                       simp only [Act.put, sa, sb, sc, i64_w, i32_w]
                                       rfl
                                     exact norm_ (by first | (simp only [putAll, Act.put, sa, sb, sc]; done) | (simp only [putAll, Act.put, sa, sb, sc]; rfl)) (hJ10_11 (gb197, gb198) _ ⟨hHeld, (rE (Kd.R_mono HO_173000.out (fun _ hk => hk.2))), (rE (Kd.R_mono HO_184000.out (fun _ hk => hk.2))), (rA HO_4), blkA, blkA, blkA, blkA, GW197.out, GE197.out, NB172_197.out, NB197_172.out, NB183_197.out, NB197_183.out, NB198_197.out, NB197_198.out, GW198.out, GE198.out, NB172_198.out, NB198_172.out, NB183_198.out, NB198_183.out, belA⟩)
                               · skip
                                 rintro v192 w53 ⟨hS_, h0_, h1_, h2_, h3_, h4_, h5_, h6_⟩
                                 have n0_ : Aside0 (Kd.R k65 65 w53 w.heap.size (fun k_ => some k_ ≠ (.slice Ao19 t179.length co19 : Value).ownBlock ∧ some k_ ≠ (.slice Ao19 t179.length co19 : Value).ownBlock) v192 t191) := ⟨h0_⟩; have n1_ : Aside0 (Kd.R k65 65 w53 w.heap.size (fun k_ => some k_ ≠ (v192 : Value).ownBlock) (.slice Ao19 t179.length co19) t179) := ⟨h1_⟩; have n2_ : Aside0 (Kd.R k65 65 w53 w.heap.size (fun k_ => some k_ ≠ (v192 : Value).ownBlock) (.slice Ao19 t179.length co19) t179) := ⟨h2_⟩; have n3_ : Aside0 (Kd.R (Kd.int .i64) 3 w53 w.heap.size (fun _ => True) (.slice (some ad190) x4_30.length co50) x4_30) := ⟨h3_⟩; have n4_ : Aside0 (w53.heap[gb172]? = some (.cells #[.slice Ao19 t179.length co19] 61 (0, 0))) := ⟨h4_⟩; have n5_ : Aside0 (w53.heap[gb183]? = some (.cells #[.slice Ao19 t179.length co19] 61 (0, 0))) := ⟨h5_⟩; have n6_ : Aside0 (Below w.heap.size w w53) := ⟨h6_⟩; clear HO_4; clear HO_173000; clear HO_184000; clear BK172; clear BK183; clear HB; clear h0_ h1_ h2_ h3_ h4_ h5_ h6_; have HO193 := n0_; have HO_173000 := n1_; have HO_184000 := n2_; have HO_4 := n3_; have BK172 := n4_; have BK183 := n5_; have HB := n6_; clear n0_ n1_ n2_ n3_ n4_ n5_ n6_; have hHeld : w53.cell? ⟨gb172, 0, none⟩ = some (.slice Ao19 t179.length co19) ∧ w53.cell? (ad190.add ((ji45)).toNat) = some (.int .i64 (rd x4_30 (ji45))) := hS_; refine norm_ (a' := ?_) ?_ ?_
                                 rotate_left
                                 · simp only [putAll, Act.put, sa, sb, sc]
                                   rfl
                                 refine two_ (i := 10) (j := 11) (Ni := some 11) (Nj := some 12) #[true, true, true, true, true, true, true, true, true, true, true, false, false, false, false] #[true, true, true, true, true, true, true, true, true, true, false, true, false, false, false] rfl rfl rfl rfl (two_of HT_.out (by kernel_rfl)) (by decide) (by decide) (fun K hK => ?_) (fun K hK => ?_)
                                 · skip
                                   refine box_step ?hg (N := 11) ?hd (cs := #[.slice none 0 0]) (t := 61) ?hr ?_; (case hd => rfl); (case hg => rfl); (case hr => first | (go_simp; done) | (go_simp; rfl))
                                   intro gb197 hg w54 hbox hb; have HS1_ := (hb.cell (World.block_lt_of_cell? _ _ (hHeld.2))).trans (hHeld.2); have BK197 := Aside0.mk hbox; have GW197 := leA (w := w) hg; have GE197 := leA (w := w) hg; have NB172_197 := neL hg BK172; have NB197_172 := neG hg BK172; have NB183_197 := neL hg BK183; have NB197_183 := neG hg BK183; replace HO_4 := rB HO_4 hb; replace HO_173000 := rB HO_173000 hb; replace HO_184000 := rB HO_184000 hb; replace HO193 := rB HO193 hb; replace BK172 := bB BK172 hb; replace BK183 := bB BK183 hb; replace HB := bS hb; clear hb hbox hg; refine hK.out _ _ ⟨(blk_cell BK172.out 0).trans rfl, HS1_⟩ (fun hHeld => ?_)
                                   clear hK K; refine norm_ (a' := ?_) ?_ ?_
                                   rotate_left
                                   · show Act.put _ (some 11) _ = _
                                     simp only [Act.put, sa, sb, sc, i64_w, i32_w]
                                     rfl
                                   exact norm_ (by first | (simp only [putAll, Act.put, sa, sb, sc]; done) | (simp only [putAll, Act.put, sa, sb, sc]; rfl)) (hJ5_10 (v192, gb197) _ ⟨hHeld, (rA HO193), (rA HO_173000), (rA HO_184000), (rA HO_4), blkA, blkA, blkA, GW197.out, GE197.out, NB172_197.out, NB197_172.out, NB183_197.out, NB197_183.out, belA⟩)
                                 · skip
                                   refine box_step ?hg (N := 12) ?hd (cs := #[.int .i64 0, .int .i64 0]) (t := 65) ?hr ?_; (case hd => rfl); (case hg => rfl); (case hr => first | (go_simp; done) | (go_simp; rfl))
                                   intro gb198 hg w54 hbox hb; have HS1_ := (hb.cell (World.block_lt_of_cell? _ _ (hHeld.2))).trans (hHeld.2); have BK198 := Aside0.mk hbox; have GW198 := leA (w := w) hg; have GE198 := leA (w := w) hg; have NB172_198 := neL hg BK172; have NB198_172 := neG hg BK172; have NB183_198 := neL hg BK183; have NB198_183 := neG hg BK183; replace HO_4 := rB HO_4 hb; replace HO_173000 := rC HO_173000 hg hb; replace HO_184000 := rC HO_184000 hg hb; replace HO193 := rC HO193 hg hb; replace BK172 := bB BK172 hb; replace BK183 := bB BK183 hb; replace HB := bS hb; clear hb hbox hg; refine hK.out _ _ ⟨(blk_cell BK172.out 0).trans rfl, HS1_⟩ (fun hHeld => ?_)
                                   clear hK K; refine norm_ (a' := ?_) ?_ ?_
                                   rotate_left
                                   · show Act.put _ (some 12) _ = _
                                     simp only [Act.put, sa, sb, sc, i64_w, i32_w]
                                     rfl
                                   exact norm_ (by first | (simp only [putAll, Act.put, sa, sb, sc]; done) | (simp only [putAll, Act.put, sa, sb, sc]; rfl)) (hJ5_11 (v192, gb198) _ ⟨hHeld, (rE (Kd.R_mono HO193.out (fun _ hk => ⟨hk.1.1, ⟨hk.1.2, hk.2⟩⟩))), (rA HO_173000), (rA HO_184000), (rA HO_4), blkA, blkA, blkA, GW198.out, GE198.out, NB172_198.out, NB198_172.out, NB183_198.out, NB198_183.out, belA⟩)
                             · skip
                               rintro ⟨gb197, gb198⟩ w54 ⟨hS_, h0_, h1_, h2_, h3_, h4_, h5_, h6_, h7_, h8_, h9_, h10_, h11_, h12_, h13_, h14_, h15_, h16_, h17_, h18_, h19_, h20_, h21_⟩
                               have n0_ : Aside0 (Kd.R k65 65 w54 w.heap.size (fun k_ => k_ ≠ gb198) (.slice Ao19 t179.length co19) t179) := ⟨h0_⟩; have n1_ : Aside0 (Kd.R k65 65 w54 w.heap.size (fun k_ => k_ ≠ gb198) (.slice Ao19 t179.length co19) t179) := ⟨h1_⟩; have n2_ : Aside0 (Kd.R (Kd.int .i64) 3 w54 w.heap.size (fun _ => True) (.slice (some ad190) x4_30.length co50) x4_30) := ⟨h2_⟩; have n3_ : Aside0 (w54.heap[gb172]? = some (.cells #[.slice Ao19 t179.length co19] 61 (0, 0))) := ⟨h3_⟩; have n4_ : Aside0 (w54.heap[gb183]? = some (.cells #[.slice Ao19 t179.length co19] 61 (0, 0))) := ⟨h4_⟩; have n5_ : Aside0 (w54.heap[gb197]? = some (.cells #[.slice none 0 0] 61 (0, 0))) := ⟨h5_⟩; have n6_ : Aside0 (w54.heap[gb198]? = some (.cells #[.int .i64 0, .int .i64 0] 65 (0, 0))) := ⟨h6_⟩; have n7_ : Aside0 (w.heap.size ≤ gb197) := ⟨h7_⟩; have n8_ : Aside0 (w.heap.size ≤ gb197) := ⟨h8_⟩; have n9_ : Aside0 (gb172 ≠ gb197) := ⟨h9_⟩; have n10_ : Aside0 (gb197 ≠ gb172) := ⟨h10_⟩; have n11_ : Aside0 (gb183 ≠ gb197) := ⟨h11_⟩; have n12_ : Aside0 (gb197 ≠ gb183) := ⟨h12_⟩; have n13_ : Aside0 (gb198 ≠ gb197) := ⟨h13_⟩; have n14_ : Aside0 (gb197 ≠ gb198) := ⟨h14_⟩; have n15_ : Aside0 (w.heap.size ≤ gb198) := ⟨h15_⟩; have n16_ : Aside0 (w.heap.size ≤ gb198) := ⟨h16_⟩; have n17_ : Aside0 (gb172 ≠ gb198) := ⟨h17_⟩; have n18_ : Aside0 (gb198 ≠ gb172) := ⟨h18_⟩; have n19_ : Aside0 (gb183 ≠ gb198) := ⟨h19_⟩; have n20_ : Aside0 (gb198 ≠ gb183) := ⟨h20_⟩; have n21_ : Aside0 (Below w.heap.size w w54) := ⟨h21_⟩; clear HO_4; clear HO_173000; clear HO_184000; clear BK172; clear BK183; clear HB; clear h0_ h1_ h2_ h3_ h4_ h5_ h6_ h7_ h8_ h9_ h10_ h11_ h12_ h13_ h14_ h15_ h16_ h17_ h18_ h19_ h20_ h21_; have HO_173000 := n0_; have HO_184000 := n1_; have HO_4 := n2_; have BK172 := n3_; have BK183 := n4_; have BK197 := n5_; have BK198 := n6_; have GW197 := n7_; have GE197 := n8_; have NB172_197 := n9_; have NB197_172 := n10_; have NB183_197 := n11_; have NB197_183 := n12_; have NB198_197 := n13_; have NB197_198 := n14_; have GW198 := n15_; have GE198 := n16_; have NB172_198 := n17_; have NB198_172 := n18_; have NB183_198 := n19_; have NB198_183 := n20_; have HB := n21_; clear n0_ n1_ n2_ n3_ n4_ n5_ n6_ n7_ n8_ n9_ n10_ n11_ n12_ n13_ n14_ n15_ n16_ n17_ n18_ n19_ n20_ n21_; have hHeld : w54.cell? ⟨gb172, 0, none⟩ = some (.slice Ao19 t179.length co19) ∧ w54.cell? (ad190.add ((ji45)).toNat) = some (.int .i64 (rd x4_30 (ji45))) := hS_; refine norm_ (a' := ?_) ?_ ?_
                               rotate_left
                               · simp only [putAll, Act.put, sa, sb, sc]
                                 rfl
                               refine one_ (i := 5) (N := some 107) #[true, true, true, true, true, true, false, false, false, false, true, true, false, false, false] rfl rfl (one_of HT_.out (by kernel_rfl)) (by decide) (fun K hK => ?_)
                               refine goes_ Try.func44 (by kernel_rfl) rfl #[.agg #[.slice Ao19 t179.length co19], .int .i64 (rd x4_30 (ji45))] (by rfl) rfl rfl (by (try simp only [List.map_toArray, List.map_cons, List.map_nil]); first | done | (simp only [hji45]; rfl) | rfl | (simp only [List.length_drop, List.length_take]; rfl)) ?_
                               with_reducible refine (impl_Cancel.calls kj34 _ _ t179 (rd x4_30 (ji45)) t191 t194 t195 t196 _ ?side1 ?side2 A48.out).mono ?_
                               (case side1 => exact cA ((Kd.R_reads' HO_173000.out).2.2))
                               (case side2 => exact (Kd.R_reads' HO_173000.out).2.1)
                               rintro e w55 ⟨v192, rfl, ho0, hb⟩
                               have HS1_ := (hb.cell (World.block_lt_of_cell? _ _ (hHeld.2))).trans (hHeld.2); refine ⟨_, rfl, ?_⟩
                               have HO193 := rL (Kd.R_newB (Kd.R_new' (Kd.R_new' ho0 (rT HO_173000)) (rT HO_184000)) (g := gb198) (o := .cells #[.int .i64 0, .int .i64 0] 65 (0, 0)) blkA); replace HO_4 := rB HO_4 hb; replace HO_173000 := rD HO_173000 (Kd.R_base ho0) hb; replace HO_184000 := rD HO_184000 (Kd.R_base ho0) hb; replace BK172 := bB BK172 hb; replace BK183 := bB BK183 hb; replace BK197 := bB BK197 hb; replace BK198 := bB BK198 hb; replace HB := bS hb; (try clear hb); (try clear hb2); (try clear hk); (try clear hi); (try clear ho0); refine hK.out _ _ ⟨(blk_cell BK172.out 0).trans rfl, HS1_⟩ (fun hHeld => ?_)
                               clear hK K; refine norm_ (a' := ?_) ?_ ?_
                               rotate_left
                               · show Act.put _ (some 107) _ = _
                                 simp only [Act.put, sa, sb, sc, i64_w, i32_w]
                                 rfl
                               refine pure_ (i := 6) (N := some 101) (v := ?_) (a' := ?_) #[true, true, true, true, true, true, true, false, false, false, true, true, false, false, false] rfl rfl (any_of HT_.out (by kernel_rfl)) (fun _ _ _ h => h) (Or.inl ⟨by rfl, ?_⟩) ?_ ?_
                               rotate_left
                               · intro w'; go_simp
                                 with_reducible rfl
                               rotate_left
                               · simp only [Act.put, sa, sb, sc, i64_w, i32_w]
                                 rfl
                               refine pure_ (i := 7) (N := some 108) (v := ?_) (a' := ?_) #[true, true, true, true, true, true, true, true, false, false, true, true, false, false, false] rfl rfl (any_of HT_.out (by kernel_rfl)) (fun _ _ _ h => h) (Or.inl ⟨by rfl, ?_⟩) ?_ ?_
                               rotate_left
                               · intro w'; go_simp
                                 with_reducible rfl
                               rotate_left
                               · simp only [Act.put, sa, sb, sc, i64_w, i32_w]
                                 rfl
                               refine pure_ (i := 8) (N := some 109) (v := ?_) (a' := ?_) #[true, true, true, true, true, true, true, true, true, false, true, true, false, false, false] rfl rfl (any_of HT_.out (by kernel_rfl)) (fun _ _ _ h => h) (Or.inl ⟨by rfl, ?_⟩) ?_ ?_
                               rotate_left
                               · intro w'; go_simp
                                 with_reducible rfl
                               rotate_left
                               · simp only [Act.put, sa, sb, sc, i64_w, i32_w]
                                 rfl
                               refine pure_ (i := 9) (N := some 110) (v := ?_) (a' := ?_) #[true, true, true, true, true, true, true, true, true, true, true, true, false, false, false] rfl rfl (any_of HT_.out (by kernel_rfl)) (fun _ _ _ h => h) (Or.inl ⟨by rfl, ?_⟩) ?_ ?_
                               rotate_left
                               · intro w'; go_simp
                                 with_reducible rfl
                               rotate_left
                               · simp only [Act.put, sa, sb, sc, i64_w, i32_w]
                                 rfl
                               exact norm_ (by first | (simp only [putAll, Act.put, sa, sb, sc]; done) | (simp only [putAll, Act.put, sa, sb, sc]; rfl)) (hJ5_10_11 (v192, gb197, gb198) _ ⟨hHeld, (rE (Kd.R_mono HO193.out (fun _ hk => ⟨hk.1.1.2, ⟨hk.1.2, hk.2⟩⟩))), (by (with_reducible repeat (first | apply Kd.R_alloc | apply Kd.R_drewN | apply Kd.R_drew)); first | exact Kd.R_mono HO_173000.out (fun _ hk => ⟨hk.2, hk.1⟩) | exact Kd.R_mono HO_173000.out (fun _ _ => trivial)), (by (with_reducible repeat (first | apply Kd.R_alloc | apply Kd.R_drewN | apply Kd.R_drew)); first | exact Kd.R_mono HO_184000.out (fun _ hk => ⟨hk.2, hk.1⟩) | exact Kd.R_mono HO_184000.out (fun _ _ => trivial)), (rA HO_4), blkA, blkA, blkA, blkA, GW197.out, GE197.out, NB172_197.out, NB197_172.out, NB183_197.out, NB197_183.out, NB198_197.out, NB197_198.out, GW198.out, GE198.out, NB172_198.out, NB198_172.out, NB183_198.out, NB198_183.out, belA⟩)
                           · skip
                             rintro ⟨v192, gb198⟩ w54 ⟨hS_, h0_, h1_, h2_, h3_, h4_, h5_, h6_, h7_, h8_, h9_, h10_, h11_, h12_, h13_⟩
                             have n0_ : Aside0 (Kd.R k65 65 w54 w.heap.size (fun k_ => some k_ ≠ (.slice Ao19 t179.length co19 : Value).ownBlock ∧ some k_ ≠ (.slice Ao19 t179.length co19 : Value).ownBlock ∧ k_ ≠ gb198) v192 t191) := ⟨h0_⟩; have n1_ : Aside0 (Kd.R k65 65 w54 w.heap.size (fun k_ => some k_ ≠ (v192 : Value).ownBlock ∧ k_ ≠ gb198) (.slice Ao19 t179.length co19) t179) := ⟨h1_⟩; have n2_ : Aside0 (Kd.R k65 65 w54 w.heap.size (fun k_ => some k_ ≠ (v192 : Value).ownBlock ∧ k_ ≠ gb198) (.slice Ao19 t179.length co19) t179) := ⟨h2_⟩; have n3_ : Aside0 (Kd.R (Kd.int .i64) 3 w54 w.heap.size (fun _ => True) (.slice (some ad190) x4_30.length co50) x4_30) := ⟨h3_⟩; have n4_ : Aside0 (w54.heap[gb172]? = some (.cells #[.slice Ao19 t179.length co19] 61 (0, 0))) := ⟨h4_⟩; have n5_ : Aside0 (w54.heap[gb183]? = some (.cells #[.slice Ao19 t179.length co19] 61 (0, 0))) := ⟨h5_⟩; have n6_ : Aside0 (w54.heap[gb198]? = some (.cells #[.int .i64 0, .int .i64 0] 65 (0, 0))) := ⟨h6_⟩; have n7_ : Aside0 (w.heap.size ≤ gb198) := ⟨h7_⟩; have n8_ : Aside0 (w.heap.size ≤ gb198) := ⟨h8_⟩; have n9_ : Aside0 (gb172 ≠ gb198) := ⟨h9_⟩; have n10_ : Aside0 (gb198 ≠ gb172) := ⟨h10_⟩; have n11_ : Aside0 (gb183 ≠ gb198) := ⟨h11_⟩; have n12_ : Aside0 (gb198 ≠ gb183) := ⟨h12_⟩; have n13_ : Aside0 (Below w.heap.size w w54) := ⟨h13_⟩; clear HO_4; clear HO_173000; clear HO_184000; clear BK172; clear BK183; clear HB; clear h0_ h1_ h2_ h3_ h4_ h5_ h6_ h7_ h8_ h9_ h10_ h11_ h12_ h13_; have HO193 := n0_; have HO_173000 := n1_; have HO_184000 := n2_; have HO_4 := n3_; have BK172 := n4_; have BK183 := n5_; have BK198 := n6_; have GW198 := n7_; have GE198 := n8_; have NB172_198 := n9_; have NB198_172 := n10_; have NB183_198 := n11_; have NB198_183 := n12_; have HB := n13_; clear n0_ n1_ n2_ n3_ n4_ n5_ n6_ n7_ n8_ n9_ n10_ n11_ n12_ n13_; have hHeld : w54.cell? ⟨gb172, 0, none⟩ = some (.slice Ao19 t179.length co19) ∧ w54.cell? (ad190.add ((ji45)).toNat) = some (.int .i64 (rd x4_30 (ji45))) := hS_; refine norm_ (a' := ?_) ?_ ?_
                             rotate_left
                             · simp only [putAll, Act.put, sa, sb, sc]
                               rfl
                             refine one_ (i := 10) (N := some 11) #[true, true, true, true, true, true, true, true, true, true, true, true, false, false, false] rfl rfl (one_of HT_.out (by kernel_rfl)) (by decide) (fun K hK => ?_)
                             refine box_step ?hg (N := 11) ?hd (cs := #[.slice none 0 0]) (t := 61) ?hr ?_; (case hd => rfl); (case hg => rfl); (case hr => first | (go_simp; done) | (go_simp; rfl))
                             intro gb197 hg w55 hbox hb; have HS1_ := (hb.cell (World.block_lt_of_cell? _ _ (hHeld.2))).trans (hHeld.2); have BK197 := Aside0.mk hbox; have GW197 := leA (w := w) hg; have GE197 := leA (w := w) hg; have NB172_197 := neL hg BK172; have NB197_172 := neG hg BK172; have NB183_197 := neL hg BK183; have NB197_183 := neG hg BK183; have NB198_197 := neL hg BK198; have NB197_198 := neG hg BK198; replace HO_4 := rB HO_4 hb; replace HO_173000 := rB HO_173000 hb; replace HO_184000 := rB HO_184000 hb; replace HO193 := rB HO193 hb; replace BK172 := bB BK172 hb; replace BK183 := bB BK183 hb; replace BK198 := bB BK198 hb; replace HB := bS hb; clear hb hbox hg; refine hK.out _ _ ⟨(blk_cell BK172.out 0).trans rfl, HS1_⟩ (fun hHeld => ?_)
                             clear hK K; refine norm_ (a' := ?_) ?_ ?_
                             rotate_left
                             · show Act.put _ (some 11) _ = _
                               simp only [Act.put, sa, sb, sc, i64_w, i32_w]
                               rfl
                             exact norm_ (by first | (simp only [putAll, Act.put, sa, sb, sc]; done) | (simp only [putAll, Act.put, sa, sb, sc]; rfl)) (hJ5_10_11 (v192, gb197, gb198) _ ⟨hHeld, (rA HO193), (rA HO_173000), (rA HO_184000), (rA HO_4), blkA, blkA, blkA, blkA, GW197.out, GE197.out, NB172_197.out, NB197_172.out, NB183_197.out, NB197_183.out, NB198_197.out, NB197_198.out, GW198.out, GE198.out, NB172_198.out, NB198_172.out, NB183_198.out, NB198_183.out, belA⟩)
                         · skip
                           rintro ⟨v192, gb197⟩ w54 ⟨hS_, h0_, h1_, h2_, h3_, h4_, h5_, h6_, h7_, h8_, h9_, h10_, h11_, h12_, h13_⟩
                           have n0_ : Aside0 (Kd.R k65 65 w54 w.heap.size (fun k_ => some k_ ≠ (.slice Ao19 t179.length co19 : Value).ownBlock ∧ some k_ ≠ (.slice Ao19 t179.length co19 : Value).ownBlock) v192 t191) := ⟨h0_⟩; have n1_ : Aside0 (Kd.R k65 65 w54 w.heap.size (fun k_ => some k_ ≠ (v192 : Value).ownBlock) (.slice Ao19 t179.length co19) t179) := ⟨h1_⟩; have n2_ : Aside0 (Kd.R k65 65 w54 w.heap.size (fun k_ => some k_ ≠ (v192 : Value).ownBlock) (.slice Ao19 t179.length co19) t179) := ⟨h2_⟩; have n3_ : Aside0 (Kd.R (Kd.int .i64) 3 w54 w.heap.size (fun _ => True) (.slice (some ad190) x4_30.length co50) x4_30) := ⟨h3_⟩; have n4_ : Aside0 (w54.heap[gb172]? = some (.cells #[.slice Ao19 t179.length co19] 61 (0, 0))) := ⟨h4_⟩; have n5_ : Aside0 (w54.heap[gb183]? = some (.cells #[.slice Ao19 t179.length co19] 61 (0, 0))) := ⟨h5_⟩; have n6_ : Aside0 (w54.heap[gb197]? = some (.cells #[.slice none 0 0] 61 (0, 0))) := ⟨h6_⟩; have n7_ : Aside0 (w.heap.size ≤ gb197) := ⟨h7_⟩; have n8_ : Aside0 (w.heap.size ≤ gb197) := ⟨h8_⟩; have n9_ : Aside0 (gb172 ≠ gb197) := ⟨h9_⟩; have n10_ : Aside0 (gb197 ≠ gb172) := ⟨h10_⟩; have n11_ : Aside0 (gb183 ≠ gb197) := ⟨h11_⟩; have n12_ : Aside0 (gb197 ≠ gb183) := ⟨h12_⟩; have n13_ : Aside0 (Below w.heap.size w w54) := ⟨h13_⟩; clear HO_4; clear HO_173000; clear HO_184000; clear BK172; clear BK183; clear HB; clear h0_ h1_ h2_ h3_ h4_ h5_ h6_ h7_ h8_ h9_ h10_ h11_ h12_ h13_; have HO193 := n0_; have HO_173000 := n1_; have HO_184000 := n2_; have HO_4 := n3_; have BK172 := n4_; have BK183 := n5_; have BK197 := n6_; have GW197 := n7_; have GE197 := n8_; have NB172_197 := n9_; have NB197_172 := n10_; have NB183_197 := n11_; have NB197_183 := n12_; have HB := n13_; clear n0_ n1_ n2_ n3_ n4_ n5_ n6_ n7_ n8_ n9_ n10_ n11_ n12_ n13_; have hHeld : w54.cell? ⟨gb172, 0, none⟩ = some (.slice Ao19 t179.length co19) ∧ w54.cell? (ad190.add ((ji45)).toNat) = some (.int .i64 (rd x4_30 (ji45))) := hS_; refine norm_ (a' := ?_) ?_ ?_
                           rotate_left
                           · simp only [putAll, Act.put, sa, sb, sc]
                             rfl
                           refine one_ (i := 11) (N := some 12) #[true, true, true, true, true, true, true, true, true, true, true, true, false, false, false] rfl rfl (one_of HT_.out (by kernel_rfl)) (by decide) (fun K hK => ?_)
                           refine box_step ?hg (N := 12) ?hd (cs := #[.int .i64 0, .int .i64 0]) (t := 65) ?hr ?_; (case hd => rfl); (case hg => rfl); (case hr => first | (go_simp; done) | (go_simp; rfl))
                           intro gb198 hg w55 hbox hb; have HS1_ := (hb.cell (World.block_lt_of_cell? _ _ (hHeld.2))).trans (hHeld.2); have BK198 := Aside0.mk hbox; have GW198 := leA (w := w) hg; have GE198 := leA (w := w) hg; have NB172_198 := neL hg BK172; have NB198_172 := neG hg BK172; have NB183_198 := neL hg BK183; have NB198_183 := neG hg BK183; have NB197_198 := neL hg BK197; have NB198_197 := neG hg BK197; replace HO_4 := rB HO_4 hb; replace HO_173000 := rC HO_173000 hg hb; replace HO_184000 := rC HO_184000 hg hb; replace HO193 := rC HO193 hg hb; replace BK172 := bB BK172 hb; replace BK183 := bB BK183 hb; replace BK197 := bB BK197 hb; replace HB := bS hb; clear hb hbox hg; refine hK.out _ _ ⟨(blk_cell BK172.out 0).trans rfl, HS1_⟩ (fun hHeld => ?_)
                           clear hK K; refine norm_ (a' := ?_) ?_ ?_
                           rotate_left
                           · show Act.put _ (some 12) _ = _
                             simp only [Act.put, sa, sb, sc, i64_w, i32_w]
                             rfl
                           exact norm_ (by first | (simp only [putAll, Act.put, sa, sb, sc]; done) | (simp only [putAll, Act.put, sa, sb, sc]; rfl)) (hJ5_10_11 (v192, gb197, gb198) _ ⟨hHeld, (rE (Kd.R_mono HO193.out (fun _ hk => ⟨hk.1.1, ⟨hk.1.2, hk.2⟩⟩))), (rA HO_173000), (rA HO_184000), (rA HO_4), blkA, blkA, blkA, blkA, GW197.out, GE197.out, NB172_197.out, NB197_172.out, NB183_197.out, NB197_183.out, NB198_197.out, NB197_198.out, GW198.out, GE198.out, NB172_198.out, NB198_172.out, NB183_198.out, NB198_183.out, belA⟩)
                       rintro ⟨v192, gb197, gb198⟩ w55 ⟨hS_, h0_, h1_, h2_, h3_, h4_, h5_, h6_, h7_, h8_, h9_, h10_, h11_, h12_, h13_, h14_, h15_, h16_, h17_, h18_, h19_, h20_, h21_, h22_⟩
                       have n0_ : Aside0 (Kd.R k65 65 w55 w.heap.size (fun k_ => some k_ ≠ (.slice Ao19 t179.length co19 : Value).ownBlock ∧ some k_ ≠ (.slice Ao19 t179.length co19 : Value).ownBlock ∧ k_ ≠ gb198) v192 t191) := ⟨h0_⟩; have n1_ : Aside0 (Kd.R k65 65 w55 w.heap.size (fun k_ => some k_ ≠ (v192 : Value).ownBlock ∧ k_ ≠ gb198) (.slice Ao19 t179.length co19) t179) := ⟨h1_⟩; have n2_ : Aside0 (Kd.R k65 65 w55 w.heap.size (fun k_ => some k_ ≠ (v192 : Value).ownBlock ∧ k_ ≠ gb198) (.slice Ao19 t179.length co19) t179) := ⟨h2_⟩; have n3_ : Aside0 (Kd.R (Kd.int .i64) 3 w55 w.heap.size (fun _ => True) (.slice (some ad190) x4_30.length co50) x4_30) := ⟨h3_⟩; have n4_ : Aside0 (w55.heap[gb172]? = some (.cells #[.slice Ao19 t179.length co19] 61 (0, 0))) := ⟨h4_⟩; have n5_ : Aside0 (w55.heap[gb183]? = some (.cells #[.slice Ao19 t179.length co19] 61 (0, 0))) := ⟨h5_⟩; have n6_ : Aside0 (w55.heap[gb197]? = some (.cells #[.slice none 0 0] 61 (0, 0))) := ⟨h6_⟩; have n7_ : Aside0 (w55.heap[gb198]? = some (.cells #[.int .i64 0, .int .i64 0] 65 (0, 0))) := ⟨h7_⟩; have n8_ : Aside0 (w.heap.size ≤ gb197) := ⟨h8_⟩; have n9_ : Aside0 (w.heap.size ≤ gb197) := ⟨h9_⟩; have n10_ : Aside0 (gb172 ≠ gb197) := ⟨h10_⟩; have n11_ : Aside0 (gb197 ≠ gb172) := ⟨h11_⟩; have n12_ : Aside0 (gb183 ≠ gb197) := ⟨h12_⟩; have n13_ : Aside0 (gb197 ≠ gb183) := ⟨h13_⟩; have n14_ : Aside0 (gb198 ≠ gb197) := ⟨h14_⟩; have n15_ : Aside0 (gb197 ≠ gb198) := ⟨h15_⟩; have n16_ : Aside0 (w.heap.size ≤ gb198) := ⟨h16_⟩; have n17_ : Aside0 (w.heap.size ≤ gb198) := ⟨h17_⟩; have n18_ : Aside0 (gb172 ≠ gb198) := ⟨h18_⟩; have n19_ : Aside0 (gb198 ≠ gb172) := ⟨h19_⟩; have n20_ : Aside0 (gb183 ≠ gb198) := ⟨h20_⟩; have n21_ : Aside0 (gb198 ≠ gb183) := ⟨h21_⟩; have n22_ : Aside0 (Below w.heap.size w w55) := ⟨h22_⟩; clear HO_4; clear HO_173000; clear HO_184000; clear BK172; clear BK183; clear HB; clear h0_ h1_ h2_ h3_ h4_ h5_ h6_ h7_ h8_ h9_ h10_ h11_ h12_ h13_ h14_ h15_ h16_ h17_ h18_ h19_ h20_ h21_ h22_; have HO193 := n0_; have HO_173000 := n1_; have HO_184000 := n2_; have HO_4 := n3_; have BK172 := n4_; have BK183 := n5_; have BK197 := n6_; have BK198 := n7_; have GW197 := n8_; have GE197 := n9_; have NB172_197 := n10_; have NB197_172 := n11_; have NB183_197 := n12_; have NB197_183 := n13_; have NB198_197 := n14_; have NB197_198 := n15_; have GW198 := n16_; have GE198 := n17_; have NB172_198 := n18_; have NB198_172 := n19_; have NB183_198 := n20_; have NB198_183 := n21_; have HB := n22_; clear n0_ n1_ n2_ n3_ n4_ n5_ n6_ n7_ n8_ n9_ n10_ n11_ n12_ n13_ n14_ n15_ n16_ n17_ n18_ n19_ n20_ n21_ n22_; have hHeld : w55.cell? ⟨gb172, 0, none⟩ = some (.slice Ao19 t179.length co19) ∧ w55.cell? (ad190.add ((ji45)).toNat) = some (.int .i64 (rd x4_30 (ji45))) := hS_; obtain ⟨Ao56, co56, eo56⟩ := Kd.R_slice HO193.out; (first | subst eo56 | (injection eo56 with f1_ f2_ f3_; have f4_ := f1_.symm; have f5_ := f3_.symm; clear f1_ f2_ f3_; subst f4_; subst f5_))
                       refine norm_ (a' := ?_) ?_ ?_
                       rotate_left
                       · simp only [putAll, Act.put, sa, sb, sc]
                         rfl
                       refine one_ (i := 12) (N := none) #[true, true, true, true, true, true, true, true, true, true, true, true, true, false, false] rfl rfl (one_of HT_.out (by kernel_rfl)) (by decide) (fun K hK => ?_)
                       have hs57 : w55.cell? ⟨gb197, 0, none⟩ = some (.slice none 0 0) := (blk_cell BK197.out 0).trans rfl; have hfs57 := blk_frozen BK197.out 0; have hns57_0 := NB172_197.out; have hns57_1 := NB183_197.out; have hns57_3 := NB198_197.out; have hms57_0 := NB197_172.out; have hms57_1 := NB197_183.out; have hms57_3 := NB197_198.out; refine skip_ (w1 := ?_) (by rfl) rfl ?_ ?_
                       rotate_left
                       · go_simp
                         rfl
                       refine hK.out _ _ ⟨((cell_far (p := ⟨gb197, _, none⟩) NB172_197.out _).trans (hHeld.1)), ((cell_far (p := ⟨gb197, _, none⟩) (by first | exact Kd.own_blk (Kd.R_ne HO_4.out BK197.out (by decide)) | (rw [add_block]; exact Kd.own_blk (Kd.R_ne HO_4.out BK197.out (by decide))) | (show (Addr.add _ _).block ≠ _; rw [add_block]; exact Kd.own_blk (Kd.R_ne HO_4.out BK197.out (by decide))) | (dsimp only; exact Kd.own_blk (Kd.R_ne HO_4.out BK197.out (by decide)))) _).trans (hHeld.2))⟩ (fun hHeld => ?_)
                       clear hK K; refine one_ (i := 13) (N := none) #[true, true, true, true, true, true, true, true, true, true, true, true, true, true, false] rfl rfl (one_of HT_.out (by kernel_rfl)) (by decide) (fun K hK => ?_)
                       have hs58 : w55.cell? ⟨gb198, 0, none⟩ = some (.int .i64 0) := (blk_cell BK198.out 0).trans rfl; have hfs58 := blk_frozen BK198.out 0; have hns58_0 := NB172_198.out; have hns58_1 := NB183_198.out; have hns58_2 := NB197_198.out; have hms58_0 := NB198_172.out; have hms58_1 := NB198_183.out; have hms58_2 := NB198_197.out; have hs59 : w55.cell? ⟨gb198, 1, none⟩ = some (.int .i64 0) := (blk_cell BK198.out 1).trans rfl; have hfs59 := blk_frozen BK198.out 1; have hns59_0 := NB172_198.out; have hns59_1 := NB183_198.out; have hns59_2 := NB197_198.out; have hms59_0 := NB198_172.out; have hms59_1 := NB198_183.out; have hms59_2 := NB198_197.out; refine skip_ (w1 := ?_) (by rfl) rfl ?_ ?_
                       rotate_left
                       · go_simp
                         rfl
                       refine hK.out _ _ ⟨((cell_far (p := ⟨gb198, _, none⟩) NB172_198.out _).trans (((cell_far (p := ⟨gb198, _, none⟩) NB172_198.out _).trans (hHeld.1)))), ((cell_far (p := ⟨gb198, _, none⟩) (by first | exact Kd.own_blk (Kd.R_ne HO_4.out BK198.out (by decide)) | (rw [add_block]; exact Kd.own_blk (Kd.R_ne HO_4.out BK198.out (by decide))) | (show (Addr.add _ _).block ≠ _; rw [add_block]; exact Kd.own_blk (Kd.R_ne HO_4.out BK198.out (by decide))) | (dsimp only; exact Kd.own_blk (Kd.R_ne HO_4.out BK198.out (by decide)))) _).trans (((cell_far (p := ⟨gb198, _, none⟩) (by first | exact Kd.own_blk (Kd.R_ne HO_4.out BK198.out (by decide)) | (rw [add_block]; exact Kd.own_blk (Kd.R_ne HO_4.out BK198.out (by decide))) | (show (Addr.add _ _).block ≠ _; rw [add_block]; exact Kd.own_blk (Kd.R_ne HO_4.out BK198.out (by decide))) | (dsimp only; exact Kd.own_blk (Kd.R_ne HO_4.out BK198.out (by decide)))) _).trans (hHeld.2))))⟩ (fun hHeld => ?_)
                       clear hK K; refine pure_ (i := 14) (N := some 13) (v := ?_) (a' := ?_) #[true, true, true, true, true, true, true, true, true, true, true, true, true, true, true] rfl rfl (any_of HT_.out (by kernel_rfl)) (fun _ _ _ h => h) (Or.inl ⟨by rfl, ?_⟩) ?_ ?_
                       rotate_left
                       · intro w'; go_simp
                         with_reducible rfl
                       rotate_left
                       · simp only [Act.put, sa, sb, sc, i64_w, i32_w]
                         rfl
                       refine done_ (done_of HT_.out (by kernel_rfl)) ?_
                       go_upto_region 20 with (fail)
                       go_cut [131] (fun v131 wc => ∃ (kq : Nat) (x131_48 : Bool), v131 = .bool x131_48 ∧ Aside0 (laws_FnLineOrder.j4 kq l0 x4_30 (wrap64 (x5_1 + (Int.tmod t177 3))) x6_1 ji45 x131_48 t191 = some r) ∧ Aside0 (kq ≤ kj34) ∧ Aside0 (Kd.R (Kd.int .i64) 3 wc w.heap.size (fun _ => True) (.slice (some ad190) x4_30.length co50) x4_30) ∧ Aside0 (Kd.R k65 65 wc w.heap.size (fun k_ => some k_ ≠ ((.slice Ao56 t191.length co56) : Value).ownBlock ∧ k_ ≠ gb198) (.slice Ao19 t179.length co19) t179) ∧ Aside0 (Kd.R k65 65 wc w.heap.size (fun k_ => some k_ ≠ ((.slice Ao56 t191.length co56) : Value).ownBlock ∧ k_ ≠ gb198) (.slice Ao19 t179.length co19) t179) ∧ Aside0 (Kd.R k65 65 wc w.heap.size (fun k_ => some k_ ≠ ((.slice Ao19 t179.length co19) : Value).ownBlock ∧ some k_ ≠ ((.slice Ao19 t179.length co19) : Value).ownBlock ∧ k_ ≠ gb198) (.slice Ao56 t191.length co56) t191) ∧ Aside0 (wc.heap[gb172]? = some (.cells #[(.slice Ao19 t179.length co19)] 61 (0, 0))) ∧ Aside0 (wc.heap[gb183]? = some (.cells #[(.slice Ao19 t179.length co19)] 61 (0, 0))) ∧ Aside0 (wc.heap[gb197]? = some (.cells #[(.slice Ao56 t191.length co56)] 61 (0, 0))) ∧ Aside0 (wc.heap[gb198]? = some (.cells #[.int .i64 t194, .int .i64 t195] 65 (0, 0))) ∧ Aside0 (Below w.heap.size w wc))
                       case first =>
                        have H := HC49.out; clear HC49
                        by_cases c60 : t196 = true
                        · subst c60; have H1 : (if t194 = (rd x4_30 (ji45)) then ((impl_PlaceOf.f kj34 t179 (rd x4_30 (ji45))).bind fun t201 => (laws_FnLineOrder.j4 kj34 l0 x4_30 (wrap64 (x5_1 + (Int.tmod t177 3))) x6_1 ji45 (t201 != (ji45)) t191)) else (laws_FnLineOrder.j4 kj34 l0 x4_30 (wrap64 (x5_1 + (Int.tmod t177 3))) x6_1 ji45 true t191)) = some r := by rw [if_pos rfl] at H; exact H
                          clear H; have H := H1; clear H1
                          by_cases c61 : t194 = (rd x4_30 (ji45))
                          · rw [if_pos c61] at H; have c61b0 : (t194 == (rd x4_30 (ji45))) = true := beq_iff_eq.mpr c61; have c61b1 : (t194 != (rd x4_30 (ji45))) = false := bne_eq_false_iff_eq.mpr c61; clear c61; (first | rw [c61b0] | (simp only [i64_w, i32_w]; rw [c61b0]) | skip)
                            replace H := Option.bind_eq_some_iff.mp H; obtain ⟨t201, A620, H⟩ := H; replace H : (laws_FnLineOrder.j4 kj34 l0 x4_30 (wrap64 (x5_1 + (Int.tmod t177 3))) x6_1 ji45 (t201 != (ji45)) t191) = some r := H
                            have A62 := Aside0.mk A620; clear A620; have H' := Aside0.mk H; clear H; try go_wp2
                            generalize hw_ : (((w55.setCell ⟨gb197, 0, none⟩ (.slice Ao56 t191.length co56)).setCell ⟨gb198, 0, none⟩ (.int .i64 t194)).setCell ⟨gb198, 1, none⟩ (.int .i64 t195)) = w63; have n0_ : Aside0 (Kd.R (Kd.int .i64) 3 w63 w.heap.size (fun _ => True) (.slice (some ad190) x4_30.length co50) x4_30) := ⟨by rw [← hw_]; exact (Kd.R_mono (Kd.R_far (p := ⟨gb198, 1, none⟩) (Kd.R_far (p := ⟨gb198, 0, none⟩) (Kd.R_far (p := ⟨gb197, 0, none⟩) (Kd.R_types (Kd.R_types HO_4.out BK197.out (by decide)) BK198.out (by decide)) (fun _ hk => hk.1.2) (.slice Ao56 t191.length co56)) (fun _ hk => hk.2) (.int .i64 t194)) (fun _ hk => hk.2) (.int .i64 t195)) (fun _ hk => trivial))⟩; have n1_ : Aside0 (Kd.R k65 65 w63 w.heap.size (fun k_ => some k_ ≠ (.slice Ao56 t191.length co56 : Value).ownBlock ∧ k_ ≠ gb198) (.slice Ao19 t179.length co19) t179) := ⟨by rw [← hw_]; exact (Kd.R_mono (Kd.R_far (p := ⟨gb198, 1, none⟩) (Kd.R_far (p := ⟨gb198, 0, none⟩) (Kd.R_far (p := ⟨gb197, 0, none⟩) (Kd.R_mono (Kd.R_types HO_173000.out BK197.out (by decide)) (fun k_ hk => (⟨hk, hk.1.2⟩ : _ ∧ k_ ≠ gb198))) (fun _ hk => hk.1.2) (.slice Ao56 t191.length co56)) (fun _ hk => hk.2) (.int .i64 t194)) (fun _ hk => hk.2) (.int .i64 t195)) (fun _ hk => ⟨hk.1.1.1, hk.1.1.2⟩))⟩; have n2_ : Aside0 (Kd.R k65 65 w63 w.heap.size (fun k_ => some k_ ≠ (.slice Ao56 t191.length co56 : Value).ownBlock ∧ k_ ≠ gb198) (.slice Ao19 t179.length co19) t179) := ⟨by rw [← hw_]; exact (Kd.R_mono (Kd.R_far (p := ⟨gb198, 1, none⟩) (Kd.R_far (p := ⟨gb198, 0, none⟩) (Kd.R_far (p := ⟨gb197, 0, none⟩) (Kd.R_mono (Kd.R_types HO_184000.out BK197.out (by decide)) (fun k_ hk => (⟨hk, hk.1.2⟩ : _ ∧ k_ ≠ gb198))) (fun _ hk => hk.1.2) (.slice Ao56 t191.length co56)) (fun _ hk => hk.2) (.int .i64 t194)) (fun _ hk => hk.2) (.int .i64 t195)) (fun _ hk => ⟨hk.1.1.1, hk.1.1.2⟩))⟩; have n3_ : Aside0 (Kd.R k65 65 w63 w.heap.size (fun k_ => some k_ ≠ (.slice Ao19 t179.length co19 : Value).ownBlock ∧ some k_ ≠ (.slice Ao19 t179.length co19 : Value).ownBlock ∧ k_ ≠ gb198) (.slice Ao56 t191.length co56) t191) := ⟨by rw [← hw_]; exact (Kd.R_mono (Kd.R_far (p := ⟨gb198, 1, none⟩) (Kd.R_far (p := ⟨gb198, 0, none⟩) (Kd.R_far (p := ⟨gb197, 0, none⟩) (Kd.R_mono (Kd.R_types HO193.out BK197.out (by decide)) (fun k_ hk => (⟨hk, hk.1.2.2⟩ : _ ∧ k_ ≠ gb198))) (fun _ hk => hk.1.2) (.slice Ao56 t191.length co56)) (fun _ hk => hk.2) (.int .i64 t194)) (fun _ hk => hk.2) (.int .i64 t195)) (fun _ hk => ⟨hk.1.1.1, ⟨hk.1.1.2.1, hk.1.1.2.2⟩⟩))⟩; have n4_ : Aside0 (w63.heap[gb172]? = some (.cells #[.slice Ao19 t179.length co19] 61 (0, 0))) := ⟨by rw [← hw_]; refine blk_far ?_ NB172_198.out _; refine blk_far ?_ NB172_198.out _; refine blk_far ?_ NB172_197.out _; exact BK172.out⟩; have n5_ : Aside0 (w63.heap[gb183]? = some (.cells #[.slice Ao19 t179.length co19] 61 (0, 0))) := ⟨by rw [← hw_]; refine blk_far ?_ NB183_198.out _; refine blk_far ?_ NB183_198.out _; refine blk_far ?_ NB183_197.out _; exact BK183.out⟩; have n6_ : Aside0 (w63.heap[gb197]? = some (.cells #[.slice Ao56 t191.length co56] 61 (0, 0))) := ⟨by rw [← hw_]; refine blk_far ?_ NB197_198.out _; refine blk_far ?_ NB197_198.out _; refine blk_put (cs := #[.slice none 0 0]) ?_ 0 _ rfl; exact BK197.out⟩; have n7_ : Aside0 (w63.heap[gb198]? = some (.cells #[.int .i64 t194, .int .i64 t195] 65 (0, 0))) := ⟨by rw [← hw_]; refine blk_put (cs := #[.int .i64 t194, .int .i64 0]) ?_ 1 _ rfl; refine blk_put (cs := #[.int .i64 0, .int .i64 0]) ?_ 0 _ rfl; refine blk_far ?_ NB198_197.out _; exact BK198.out⟩; have n8_ : Aside0 (Below w.heap.size w w63) := ⟨by rw [← hw_]; exact belA⟩; (try clear HO_4); (try clear HO_173000); (try clear HO_184000); (try clear HO193); (try clear BK172); (try clear BK183); (try clear BK197); (try clear BK198); (try clear HB); clear hw_; have HO_4 := n0_; have HO_173000 := n1_; have HO_184000 := n2_; have HO193 := n3_; have BK172 := n4_; have BK183 := n5_; have BK197 := n6_; have BK198 := n7_; have HB := n8_; clear n0_ n1_ n2_ n3_ n4_ n5_ n6_ n7_ n8_; replace HO_4 := Aside0.mk (Kd.R_drew HO_4.out); replace HO_173000 := Aside0.mk (Kd.R_drew HO_173000.out); replace HO_184000 := Aside0.mk (Kd.R_drew HO_184000.out); replace HO193 := Aside0.mk (Kd.R_drew HO193.out); replace BK172 := Aside0.mk (blk_drew BK172.out); replace BK183 := Aside0.mk (blk_drew BK183.out); replace BK197 := Aside0.mk (blk_drew BK197.out); replace BK198 := Aside0.mk (blk_drew BK198.out); replace HB := Aside0.mk (below_drew1 HB.out); have p199 : 0 ≤ ((ji45) : Int) := odA; have q199 : (ji45) < (x4_30.length : Int) := odA; obtain ⟨ad199, e199, hx199_0⟩ := Kd.at_int (Kd.R_reads' HO_4.out).2.2 (ji45) p199 q199; obtain rfl : ad190 = ad199 := (by injection e199); replace p199 := eq_true p199; replace q199 := eq_true q199; have p200 : 0 ≤ ((ji45) : Int) := odA; have q200 : (ji45) < (x4_30.length : Int) := odA; obtain ⟨ad200, e200, hx200_0⟩ := Kd.at_int (Kd.R_reads' HO_4.out).2.2 (ji45) p200 q200; obtain rfl : ad190 = ad200 := (by injection e200); replace p200 := eq_true p200; replace q200 := eq_true q200; refine start_ (n := 21) (S := fun w' => w'.cell? ⟨gb198, 0, none⟩ = some (.int .i64 t194) ∧ w'.cell? ⟨gb198, 1, none⟩ = some (.int .i64 t195) ∧ w'.cell? ⟨gb172, 0, none⟩ = some (.slice Ao19 t179.length co19) ∧ w'.cell? (ad190.add ((ji45)).toNat) = some (.int .i64 (rd x4_30 (ji45))) ∧ w'.cell? (ad190.add ((ji45)).toNat) = some (.int .i64 (rd x4_30 (ji45)))) (ds := []) #[false, false, false, false, false, false, false, false, false, false, false, false, false, false, false, false, false, false, false, false, false] (by kernel_rfl) rfl rfl ⟨(blk_cell BK198.out 0).trans rfl, (blk_cell BK198.out 1).trans rfl, (blk_cell BK172.out 0).trans rfl, hx199_0, hx200_0⟩ (fun hHeld => ?_); refine with_tabW laws_FnLineOrder.tab20 laws_FnLineOrder.bits20 (fun HT_ HW_ => ?_)
                            generalize w63.drew = w64 at HO_4 HO_173000 HO_184000 HO193 BK172 BK183 BK197 BK198 HB hx199_0 hx200_0 hHeld ⊢
                            refine pure_ (i := 0) (N := some 111) (v := ?_) (a' := ?_) #[true, false, false, false, false, false, false, false, false, false, false, false, false, false, false, false, false, false, false, false, false] rfl rfl (any_of HT_.out (by kernel_rfl)) (fun _ _ _ h => h) (Or.inl ⟨by rfl, ?_⟩) ?_ ?_
                            rotate_left
                            · intro w'; go_simp
                              with_reducible rfl
                            rotate_left
                            · simp only [Act.put, sa, sb, sc, i64_w, i32_w]
                              rfl
                            refine pure_ (i := 1) (N := some 112) (v := ?_) (a' := ?_) #[true, true, false, false, false, false, false, false, false, false, false, false, false, false, false, false, false, false, false, false, false] rfl rfl (any_of HT_.out (by kernel_rfl)) (fun _ _ _ h => h) (Or.inl ⟨by rfl, ?_⟩) ?_ ?_
                            rotate_left
                            · intro w'; go_simp
                              with_reducible rfl
                            rotate_left
                            · simp only [Act.put, sa, sb, sc, i64_w, i32_w]
                              rfl
                            refine pure_ (i := 2) (N := some 113) (v := ?_) (a' := ?_) #[true, true, true, false, false, false, false, false, false, false, false, false, false, false, false, false, false, false, false, false, false] rfl rfl (any_of HT_.out (by kernel_rfl)) (fun _ _ _ h => h) (Or.inl ⟨by rfl, ?_⟩) ?_ ?_
                            rotate_left
                            · intro w'; go_simp
                              with_reducible rfl
                            rotate_left
                            · simp only [Act.put, sa, sb, sc, i64_w, i32_w]
                              rfl
                            refine pure_ (i := 3) (N := some 114) (v := ?_) (a' := ?_) #[true, true, true, true, false, false, false, false, false, false, false, false, false, false, false, false, false, false, false, false, false] rfl rfl (any_of HT_.out (by kernel_rfl)) (fun _ _ _ h => h) (Or.inl ⟨by rfl, ?_⟩) ?_ ?_
                            rotate_left
                            · intro w'; go_simp
                              with_reducible rfl
                            rotate_left
                            · simp only [Act.put, sa, sb, sc, i64_w, i32_w]
                              rfl
                            refine pure_ (i := 5) (N := some 116) (v := ?_) (a' := ?_) #[true, true, true, true, false, true, false, false, false, false, false, false, false, false, false, false, false, false, false, false, false] rfl rfl (any_of HT_.out (by kernel_rfl)) (fun _ _ _ h => h) (Or.inl ⟨by rfl, ?_⟩) ?_ ?_
                            rotate_left
                            · intro w'; go_simp
                              with_reducible rfl
                            rotate_left
                            · simp only [Act.put, sa, sb, sc, i64_w, i32_w]
                              rfl
                            refine pure_ (i := 6) (N := some 117) (v := ?_) (a' := ?_) #[true, true, true, true, false, true, true, false, false, false, false, false, false, false, false, false, false, false, false, false, false] rfl rfl (any_of HT_.out (by kernel_rfl)) (fun _ _ _ h => h) (Or.inl ⟨by rfl, ?_⟩) ?_ ?_
                            rotate_left
                            · intro w'; go_simp
                              with_reducible rfl
                            rotate_left
                            · simp only [Act.put, sa, sb, sc, i64_w, i32_w]
                              rfl
                            refine pure_ (i := 7) (N := some 118) (v := ?_) (a' := ?_) #[true, true, true, true, false, true, true, true, false, false, false, false, false, false, false, false, false, false, false, false, false] rfl rfl (any_of HT_.out (by kernel_rfl)) (fun _ _ _ h => h) (Or.inl ⟨by rfl, ?_⟩) ?_ ?_
                            rotate_left
                            · intro w'; go_simp
                              with_reducible rfl
                            rotate_left
                            · simp only [Act.put, sa, sb, sc, i64_w, i32_w]
                              rfl
                            refine take_ (i := 4) (N := some 115) (v := ?_) (a' := ?_) #[true, true, true, true, true, true, true, true, false, false, false, false, false, false, false, false, false, false, false, false, false] rfl rfl (take_ofW HT_.out HW_.out (by kernel_rfl)) (fun _ _ _ h => h) (Or.inl ⟨by rfl, ?_⟩) hHeld ?_ ?_
                            rotate_left
                            · rintro w' ⟨s0, s1, s2, s3, s4⟩
                              go_simp
                              with_reducible rfl
                            rotate_left
                            · simp only [Act.put, sa, sb, sc, i64_w, i32_w]
                              rfl
                            refine take_ (i := 8) (N := some 119) (v := ?_) (a' := ?_) #[true, true, true, true, true, true, true, true, true, false, false, false, false, false, false, false, false, false, false, false, false] rfl rfl (take_ofW HT_.out HW_.out (by kernel_rfl)) (fun _ _ _ h => h) (Or.inl ⟨by rfl, ?_⟩) hHeld ?_ ?_
                            rotate_left
                            · rintro w' ⟨s0, s1, s2, s3, s4⟩
                              go_simp
                              with_reducible rfl
                            rotate_left
                            · simp only [Act.put, sa, sb, sc, i64_w, i32_w]
                              rfl
                            refine pure_ (i := 9) (N := some 120) (v := ?_) (a' := ?_) #[true, true, true, true, true, true, true, true, true, true, false, false, false, false, false, false, false, false, false, false, false] rfl rfl (any_of HT_.out (by kernel_rfl)) (fun _ _ _ h => h) (Or.inl ⟨by rfl, ?_⟩) ?_ ?_
                            rotate_left
                            · intro w'; go_simp
                              with_reducible rfl
                            rotate_left
                            · simp only [Act.put, sa, sb, sc, i64_w, i32_w]
                              rfl
                            refine pure_ (i := 10) (N := some 121) (v := ?_) (a' := ?_) #[true, true, true, true, true, true, true, true, true, true, true, false, false, false, false, false, false, false, false, false, false] rfl rfl (any_of HT_.out (by kernel_rfl)) (fun _ _ _ h => h) (Or.inl ⟨by rfl, ?_⟩) ?_ ?_
                            rotate_left
                            · intro w'; go_simp
                              with_reducible rfl
                            rotate_left
                            · simp only [Act.put, sa, sb, sc, i64_w, i32_w]
                              rfl
                            refine pure_ (i := 11) (N := some 122) (v := ?_) (a' := ?_) #[true, true, true, true, true, true, true, true, true, true, true, true, false, false, false, false, false, false, false, false, false] rfl rfl (any_of HT_.out (by kernel_rfl)) (fun _ _ _ h => h) (Or.inl ⟨by rfl, ?_⟩) ?_ ?_
                            rotate_left
                            · intro w'; go_simp
                              with_reducible rfl
                            rotate_left
                            · simp only [Act.put, sa, sb, sc, i64_w, i32_w]
                              rfl
                            refine pure_ (i := 13) (N := some 124) (v := ?_) (a' := ?_) #[true, true, true, true, true, true, true, true, true, true, true, true, false, true, false, false, false, false, false, false, false] rfl rfl (any_of HT_.out (by kernel_rfl)) (fun _ _ _ h => h) (Or.inl ⟨by rfl, ?_⟩) ?_ ?_
                            rotate_left
                            · intro w'; go_simp
                              with_reducible rfl
                            rotate_left
                            · simp only [Act.put, sa, sb, sc, i64_w, i32_w]
                              rfl
                            refine pure_ (i := 14) (N := some 125) (v := ?_) (a' := ?_) #[true, true, true, true, true, true, true, true, true, true, true, true, false, true, true, false, false, false, false, false, false] rfl rfl (any_of HT_.out (by kernel_rfl)) (fun _ _ _ h => h) (Or.inl ⟨by rfl, ?_⟩) ?_ ?_
                            rotate_left
                            · intro w'; go_simp
                              with_reducible rfl
                            rotate_left
                            · simp only [Act.put, sa, sb, sc, i64_w, i32_w]
                              rfl
                            refine pure_ (i := 15) (N := some 126) (v := ?_) (a' := ?_) #[true, true, true, true, true, true, true, true, true, true, true, true, false, true, true, true, false, false, false, false, false] rfl rfl (any_of HT_.out (by kernel_rfl)) (fun _ _ _ h => h) (Or.inl ⟨by rfl, ?_⟩) ?_ ?_
                            rotate_left
                            · intro w'; go_simp
                              with_reducible rfl
                            rotate_left
                            · simp only [Act.put, sa, sb, sc, i64_w, i32_w]
                              rfl
                            refine pure_ (i := 18) (N := some 129) (v := ?_) (a' := ?_) #[true, true, true, true, true, true, true, true, true, true, true, true, false, true, true, true, false, false, true, false, false] rfl rfl (any_of HT_.out (by kernel_rfl)) (fun _ _ _ h => h) (Or.inl ⟨by rfl, ?_⟩) ?_ ?_
                            rotate_left
                            · intro w'; go_simp
                              with_reducible rfl
                            rotate_left
                            · simp only [Act.put, sa, sb, sc, i64_w, i32_w]
                              rfl
                            refine take_ (i := 12) (N := some 123) (v := ?_) (a' := ?_) #[true, true, true, true, true, true, true, true, true, true, true, true, true, true, true, true, false, false, true, false, false] rfl rfl (take_ofW HT_.out HW_.out (by kernel_rfl)) (fun _ _ _ h => h) (Or.inl ⟨by rfl, ?_⟩) hHeld ?_ ?_
                            rotate_left
                            · rintro w' ⟨s0, s1, s2, s3, s4⟩
                              go_simp
                              with_reducible rfl
                            rotate_left
                            · simp only [Act.put, sa, sb, sc, i64_w, i32_w]
                              rfl
                            refine take_ (i := 16) (N := some 127) (v := ?_) (a' := ?_) #[true, true, true, true, true, true, true, true, true, true, true, true, true, true, true, true, true, false, true, false, false] rfl rfl (take_ofW HT_.out HW_.out (by kernel_rfl)) (fun _ _ _ h => h) (Or.inl ⟨by rfl, ?_⟩) hHeld ?_ ?_
                            rotate_left
                            · rintro w' ⟨s0, s1, s2, s3, s4⟩
                              go_simp
                              with_reducible rfl
                            rotate_left
                            · simp only [Act.put, sa, sb, sc, i64_w, i32_w]
                              rfl
                            refine one_ (i := 17) (N := some 128) #[true, true, true, true, true, true, true, true, true, true, true, true, true, true, true, true, true, true, true, false, false] rfl rfl (one_of HT_.out (by kernel_rfl)) (by decide) (fun K hK => ?_)
                            refine goes_ Try.func45 (by kernel_rfl) rfl #[.agg #[.slice Ao19 t179.length co19], .int .i64 (rd x4_30 (ji45))] (by rfl) rfl rfl (by (try simp only [List.map_toArray, List.map_cons, List.map_nil]); first | done | (simp only [hji45]; rfl) | rfl | (simp only [List.length_drop, List.length_take]; rfl)) ?_
                            with_reducible refine (impl_PlaceOf.calls kj34 _ _ t179 (rd x4_30 (ji45)) t201 _ ?side1 ?side2 A62.out).mono ?_
                            (case side1 => exact cA ((Kd.R_reads' HO_173000.out).2.2))
                            (case side2 => exact (Kd.R_reads' HO_173000.out).2.1)
                            rintro e w65 ⟨rfl, hb⟩
                            have HS3_ := (hb.cell (World.block_lt_of_cell? _ _ (hHeld.2.2.2.1))).trans (hHeld.2.2.2.1); have HS4_ := (hb.cell (World.block_lt_of_cell? _ _ (hHeld.2.2.2.2))).trans (hHeld.2.2.2.2); refine ⟨_, rfl, ?_⟩
                            replace HO_4 := rB HO_4 hb; replace HO_173000 := rB HO_173000 hb; replace HO_184000 := rB HO_184000 hb; replace HO193 := rB HO193 hb; replace BK172 := bB BK172 hb; replace BK183 := bB BK183 hb; replace BK197 := bB BK197 hb; replace BK198 := bB BK198 hb; replace HB := bS hb; (try clear hb); (try clear hb2); (try clear hk); (try clear hi); refine hK.out _ _ ⟨(blk_cell BK198.out 0).trans rfl, (blk_cell BK198.out 1).trans rfl, (blk_cell BK172.out 0).trans rfl, HS3_, HS4_⟩ (fun hHeld => ?_)
                            clear hK K; refine norm_ (a' := ?_) ?_ ?_
                            rotate_left
                            · show Act.put _ (some 128) _ = _
                              simp only [Act.put, sa, sb, sc, i64_w, i32_w]
                              rfl
                            refine pure_ (i := 19) (N := some 130) (v := ?_) (a' := ?_) #[true, true, true, true, true, true, true, true, true, true, true, true, true, true, true, true, true, true, true, true, false] rfl rfl (any_of HT_.out (by kernel_rfl)) (fun _ _ _ h => h) (Or.inl ⟨by rfl, ?_⟩) ?_ ?_
                            rotate_left
                            · intro w'; go_simp
                              with_reducible rfl
                            rotate_left
                            · simp only [Act.put, sa, sb, sc, i64_w, i32_w]
                              rfl
                            refine pure_ (i := 20) (N := some 131) (v := ?_) (a' := ?_) #[true, true, true, true, true, true, true, true, true, true, true, true, true, true, true, true, true, true, true, true, true] rfl rfl (any_of HT_.out (by kernel_rfl)) (fun _ _ _ h => h) (Or.inl ⟨by rfl, ?_⟩) ?_ ?_
                            rotate_left
                            · intro w'; go_simp
                              with_reducible rfl
                            rotate_left
                            · simp only [Act.put, sa, sb, sc, i64_w, i32_w]
                              rfl
                            refine done_ (done_of HT_.out (by kernel_rfl)) ?_
                            try go_wp2
                            go_meet
                            case rel => exact ⟨_, ((t201 != (ji45))), (by first | rfl | (simp; done) | (simp only [← hji45] <;> (first | rfl | simp)) | (simp [*]; done)), H', ⟨by have := HK1.out; have := HJ12.out; have := HJ30.out; have := HJ34.out; first | omega | exact Nat.le_refl _⟩, ⟨rA HO_4⟩, ⟨rA HO_173000⟩, ⟨rA HO_184000⟩, ⟨rA HO193⟩, ⟨blkA⟩, ⟨blkA⟩, ⟨blkA⟩, ⟨blkA⟩, ⟨belA⟩⟩
                          · rw [if_neg c61] at H; have c61b0 : (t194 == (rd x4_30 (ji45))) = false := beq_eq_false_iff_ne.mpr c61; have c61b1 : (t194 != (rd x4_30 (ji45))) = true := bne_iff_ne.mpr c61; (first | rw [c61b0] | (simp only [i64_w, i32_w]; rw [c61b0]) | skip)
                            have H' := Aside0.mk H; clear H; try go_wp2
                            generalize hw_ : (((w55.setCell ⟨gb197, 0, none⟩ (.slice Ao56 t191.length co56)).setCell ⟨gb198, 0, none⟩ (.int .i64 t194)).setCell ⟨gb198, 1, none⟩ (.int .i64 t195)) = w66; have n0_ : Aside0 (Kd.R (Kd.int .i64) 3 w66 w.heap.size (fun _ => True) (.slice (some ad190) x4_30.length co50) x4_30) := ⟨by rw [← hw_]; exact (Kd.R_mono (Kd.R_far (p := ⟨gb198, 1, none⟩) (Kd.R_far (p := ⟨gb198, 0, none⟩) (Kd.R_far (p := ⟨gb197, 0, none⟩) (Kd.R_types (Kd.R_types HO_4.out BK197.out (by decide)) BK198.out (by decide)) (fun _ hk => hk.1.2) (.slice Ao56 t191.length co56)) (fun _ hk => hk.2) (.int .i64 t194)) (fun _ hk => hk.2) (.int .i64 t195)) (fun _ hk => trivial))⟩; have n1_ : Aside0 (Kd.R k65 65 w66 w.heap.size (fun k_ => some k_ ≠ (.slice Ao56 t191.length co56 : Value).ownBlock ∧ k_ ≠ gb198) (.slice Ao19 t179.length co19) t179) := ⟨by rw [← hw_]; exact (Kd.R_mono (Kd.R_far (p := ⟨gb198, 1, none⟩) (Kd.R_far (p := ⟨gb198, 0, none⟩) (Kd.R_far (p := ⟨gb197, 0, none⟩) (Kd.R_mono (Kd.R_types HO_173000.out BK197.out (by decide)) (fun k_ hk => (⟨hk, hk.1.2⟩ : _ ∧ k_ ≠ gb198))) (fun _ hk => hk.1.2) (.slice Ao56 t191.length co56)) (fun _ hk => hk.2) (.int .i64 t194)) (fun _ hk => hk.2) (.int .i64 t195)) (fun _ hk => ⟨hk.1.1.1, hk.1.1.2⟩))⟩; have n2_ : Aside0 (Kd.R k65 65 w66 w.heap.size (fun k_ => some k_ ≠ (.slice Ao56 t191.length co56 : Value).ownBlock ∧ k_ ≠ gb198) (.slice Ao19 t179.length co19) t179) := ⟨by rw [← hw_]; exact (Kd.R_mono (Kd.R_far (p := ⟨gb198, 1, none⟩) (Kd.R_far (p := ⟨gb198, 0, none⟩) (Kd.R_far (p := ⟨gb197, 0, none⟩) (Kd.R_mono (Kd.R_types HO_184000.out BK197.out (by decide)) (fun k_ hk => (⟨hk, hk.1.2⟩ : _ ∧ k_ ≠ gb198))) (fun _ hk => hk.1.2) (.slice Ao56 t191.length co56)) (fun _ hk => hk.2) (.int .i64 t194)) (fun _ hk => hk.2) (.int .i64 t195)) (fun _ hk => ⟨hk.1.1.1, hk.1.1.2⟩))⟩; have n3_ : Aside0 (Kd.R k65 65 w66 w.heap.size (fun k_ => some k_ ≠ (.slice Ao19 t179.length co19 : Value).ownBlock ∧ some k_ ≠ (.slice Ao19 t179.length co19 : Value).ownBlock ∧ k_ ≠ gb198) (.slice Ao56 t191.length co56) t191) := ⟨by rw [← hw_]; exact (Kd.R_mono (Kd.R_far (p := ⟨gb198, 1, none⟩) (Kd.R_far (p := ⟨gb198, 0, none⟩) (Kd.R_far (p := ⟨gb197, 0, none⟩) (Kd.R_mono (Kd.R_types HO193.out BK197.out (by decide)) (fun k_ hk => (⟨hk, hk.1.2.2⟩ : _ ∧ k_ ≠ gb198))) (fun _ hk => hk.1.2) (.slice Ao56 t191.length co56)) (fun _ hk => hk.2) (.int .i64 t194)) (fun _ hk => hk.2) (.int .i64 t195)) (fun _ hk => ⟨hk.1.1.1, ⟨hk.1.1.2.1, hk.1.1.2.2⟩⟩))⟩; have n4_ : Aside0 (w66.heap[gb172]? = some (.cells #[.slice Ao19 t179.length co19] 61 (0, 0))) := ⟨by rw [← hw_]; refine blk_far ?_ NB172_198.out _; refine blk_far ?_ NB172_198.out _; refine blk_far ?_ NB172_197.out _; exact BK172.out⟩; have n5_ : Aside0 (w66.heap[gb183]? = some (.cells #[.slice Ao19 t179.length co19] 61 (0, 0))) := ⟨by rw [← hw_]; refine blk_far ?_ NB183_198.out _; refine blk_far ?_ NB183_198.out _; refine blk_far ?_ NB183_197.out _; exact BK183.out⟩; have n6_ : Aside0 (w66.heap[gb197]? = some (.cells #[.slice Ao56 t191.length co56] 61 (0, 0))) := ⟨by rw [← hw_]; refine blk_far ?_ NB197_198.out _; refine blk_far ?_ NB197_198.out _; refine blk_put (cs := #[.slice none 0 0]) ?_ 0 _ rfl; exact BK197.out⟩; have n7_ : Aside0 (w66.heap[gb198]? = some (.cells #[.int .i64 t194, .int .i64 t195] 65 (0, 0))) := ⟨by rw [← hw_]; refine blk_put (cs := #[.int .i64 t194, .int .i64 0]) ?_ 1 _ rfl; refine blk_put (cs := #[.int .i64 0, .int .i64 0]) ?_ 0 _ rfl; refine blk_far ?_ NB198_197.out _; exact BK198.out⟩; have n8_ : Aside0 (Below w.heap.size w w66) := ⟨by rw [← hw_]; exact belA⟩; (try clear HO_4); (try clear HO_173000); (try clear HO_184000); (try clear HO193); (try clear BK172); (try clear BK183); (try clear BK197); (try clear BK198); (try clear HB); clear hw_; have HO_4 := n0_; have HO_173000 := n1_; have HO_184000 := n2_; have HO193 := n3_; have BK172 := n4_; have BK183 := n5_; have BK197 := n6_; have BK198 := n7_; have HB := n8_; clear n0_ n1_ n2_ n3_ n4_ n5_ n6_ n7_ n8_; replace HO_4 := Aside0.mk (Kd.R_drew HO_4.out); replace HO_173000 := Aside0.mk (Kd.R_drew HO_173000.out); replace HO_184000 := Aside0.mk (Kd.R_drew HO_184000.out); replace HO193 := Aside0.mk (Kd.R_drew HO193.out); replace BK172 := Aside0.mk (blk_drew BK172.out); replace BK183 := Aside0.mk (blk_drew BK183.out); replace BK197 := Aside0.mk (blk_drew BK197.out); replace BK198 := Aside0.mk (blk_drew BK198.out); replace HB := Aside0.mk (below_drew1 HB.out); have p199 : 0 ≤ ((ji45) : Int) := odA; have q199 : (ji45) < (x4_30.length : Int) := odA; obtain ⟨ad199, e199, hx199_0⟩ := Kd.at_int (Kd.R_reads' HO_4.out).2.2 (ji45) p199 q199; obtain rfl : ad190 = ad199 := (by injection e199); replace p199 := eq_true p199; replace q199 := eq_true q199; refine start_ (n := 21) (S := fun w' => w'.cell? ⟨gb198, 0, none⟩ = some (.int .i64 t194) ∧ w'.cell? ⟨gb198, 1, none⟩ = some (.int .i64 t195) ∧ w'.cell? (ad190.add ((ji45)).toNat) = some (.int .i64 (rd x4_30 (ji45)))) (ds := []) #[false, false, false, false, false, false, false, false, false, false, false, false, false, false, false, false, false, false, false, false, false] (by kernel_rfl) rfl rfl ⟨(blk_cell BK198.out 0).trans rfl, (blk_cell BK198.out 1).trans rfl, hx199_0⟩ (fun hHeld => ?_); refine with_tabW laws_FnLineOrder.tab20 laws_FnLineOrder.bits20 (fun HT_ HW_ => ?_)
                            generalize w66.drew = w67 at HO_4 HO_173000 HO_184000 HO193 BK172 BK183 BK197 BK198 HB hx199_0 hHeld ⊢
                            refine pure_ (i := 0) (N := some 111) (v := ?_) (a' := ?_) #[true, false, false, false, false, false, false, false, false, false, false, false, false, false, false, false, false, false, false, false, false] rfl rfl (any_of HT_.out (by kernel_rfl)) (fun _ _ _ h => h) (Or.inl ⟨by rfl, ?_⟩) ?_ ?_
                            rotate_left
                            · intro w'; go_simp
                              with_reducible rfl
                            rotate_left
                            · simp only [Act.put, sa, sb, sc, i64_w, i32_w]
                              rfl
                            refine pure_ (i := 1) (N := some 112) (v := ?_) (a' := ?_) #[true, true, false, false, false, false, false, false, false, false, false, false, false, false, false, false, false, false, false, false, false] rfl rfl (any_of HT_.out (by kernel_rfl)) (fun _ _ _ h => h) (Or.inl ⟨by rfl, ?_⟩) ?_ ?_
                            rotate_left
                            · intro w'; go_simp
                              with_reducible rfl
                            rotate_left
                            · simp only [Act.put, sa, sb, sc, i64_w, i32_w]
                              rfl
                            refine pure_ (i := 2) (N := some 113) (v := ?_) (a' := ?_) #[true, true, true, false, false, false, false, false, false, false, false, false, false, false, false, false, false, false, false, false, false] rfl rfl (any_of HT_.out (by kernel_rfl)) (fun _ _ _ h => h) (Or.inl ⟨by rfl, ?_⟩) ?_ ?_
                            rotate_left
                            · intro w'; go_simp
                              with_reducible rfl
                            rotate_left
                            · simp only [Act.put, sa, sb, sc, i64_w, i32_w]
                              rfl
                            refine pure_ (i := 3) (N := some 114) (v := ?_) (a' := ?_) #[true, true, true, true, false, false, false, false, false, false, false, false, false, false, false, false, false, false, false, false, false] rfl rfl (any_of HT_.out (by kernel_rfl)) (fun _ _ _ h => h) (Or.inl ⟨by rfl, ?_⟩) ?_ ?_
                            rotate_left
                            · intro w'; go_simp
                              with_reducible rfl
                            rotate_left
                            · simp only [Act.put, sa, sb, sc, i64_w, i32_w]
                              rfl
                            refine pure_ (i := 5) (N := some 116) (v := ?_) (a' := ?_) #[true, true, true, true, false, true, false, false, false, false, false, false, false, false, false, false, false, false, false, false, false] rfl rfl (any_of HT_.out (by kernel_rfl)) (fun _ _ _ h => h) (Or.inl ⟨by rfl, ?_⟩) ?_ ?_
                            rotate_left
                            · intro w'; go_simp
                              with_reducible rfl
                            rotate_left
                            · simp only [Act.put, sa, sb, sc, i64_w, i32_w]
                              rfl
                            refine pure_ (i := 6) (N := some 117) (v := ?_) (a' := ?_) #[true, true, true, true, false, true, true, false, false, false, false, false, false, false, false, false, false, false, false, false, false] rfl rfl (any_of HT_.out (by kernel_rfl)) (fun _ _ _ h => h) (Or.inl ⟨by rfl, ?_⟩) ?_ ?_
                            rotate_left
                            · intro w'; go_simp
                              with_reducible rfl
                            rotate_left
                            · simp only [Act.put, sa, sb, sc, i64_w, i32_w]
                              rfl
                            refine pure_ (i := 7) (N := some 118) (v := ?_) (a' := ?_) #[true, true, true, true, false, true, true, true, false, false, false, false, false, false, false, false, false, false, false, false, false] rfl rfl (any_of HT_.out (by kernel_rfl)) (fun _ _ _ h => h) (Or.inl ⟨by rfl, ?_⟩) ?_ ?_
                            rotate_left
                            · intro w'; go_simp
                              with_reducible rfl
                            rotate_left
                            · simp only [Act.put, sa, sb, sc, i64_w, i32_w]
                              rfl
                            refine take_ (i := 4) (N := some 115) (v := ?_) (a' := ?_) #[true, true, true, true, true, true, true, true, false, false, false, false, false, false, false, false, false, false, false, false, false] rfl rfl (take_ofW HT_.out HW_.out (by kernel_rfl)) (fun _ _ _ h => h) (Or.inl ⟨by rfl, ?_⟩) hHeld ?_ ?_
                            rotate_left
                            · rintro w' ⟨s0, s1, s2⟩
                              go_simp
                              with_reducible rfl
                            rotate_left
                            · simp only [Act.put, sa, sb, sc, i64_w, i32_w]
                              rfl
                            refine take_ (i := 8) (N := some 119) (v := ?_) (a' := ?_) #[true, true, true, true, true, true, true, true, true, false, false, false, false, false, false, false, false, false, false, false, false] rfl rfl (take_ofW HT_.out HW_.out (by kernel_rfl)) (fun _ _ _ h => h) (Or.inl ⟨by rfl, ?_⟩) hHeld ?_ ?_
                            rotate_left
                            · rintro w' ⟨s0, s1, s2⟩
                              go_simp
                              with_reducible rfl
                            rotate_left
                            · simp only [Act.put, sa, sb, sc, i64_w, i32_w]
                              rfl
                            refine pure_ (i := 9) (N := some 120) (v := ?_) (a' := ?_) #[true, true, true, true, true, true, true, true, true, true, false, false, false, false, false, false, false, false, false, false, false] rfl rfl (any_of HT_.out (by kernel_rfl)) (fun _ _ _ h => h) (Or.inl ⟨by rfl, ?_⟩) ?_ ?_
                            rotate_left
                            · intro w'; go_simp
                              with_reducible rfl
                            rotate_left
                            · simp only [Act.put, sa, sb, sc, i64_w, i32_w]
                              rfl
                            refine pure_ (i := 10) (N := some 121) (v := ?_) (a' := ?_) #[true, true, true, true, true, true, true, true, true, true, true, false, false, false, false, false, false, false, false, false, false] rfl rfl (any_of HT_.out (by kernel_rfl)) (fun _ _ _ h => h) (Or.inl ⟨by rfl, ?_⟩) ?_ ?_
                            rotate_left
                            · intro w'; go_simp
                              with_reducible rfl
                            rotate_left
                            · simp only [Act.put, sa, sb, sc, i64_w, i32_w]
                              rfl
                            refine pure_ (i := 11) (N := some 122) (v := ?_) (a' := ?_) #[true, true, true, true, true, true, true, true, true, true, true, true, false, false, false, false, false, false, false, false, false] rfl rfl (any_of HT_.out (by kernel_rfl)) (fun _ _ _ h => h) (Or.inl ⟨by rfl, ?_⟩) ?_ ?_
                            rotate_left
                            · intro w'; go_simp
                              with_reducible rfl
                            rotate_left
                            · simp only [Act.put, sa, sb, sc, i64_w, i32_w]
                              rfl
                            refine pure_ (i := 12) (N := some 123) (v := undef) (a' := ?_) #[true, true, true, true, true, true, true, true, true, true, true, true, true, false, false, false, false, false, false, false, false] rfl rfl (any_of HT_.out (by kernel_rfl)) (fun _ _ _ h => h) (Or.inr ⟨by rfl, rfl⟩) ?_ ?_
                            rotate_left
                            · simp only [Act.put, sa, sb, sc, i64_w, i32_w]
                              rfl
                            refine pure_ (i := 13) (N := some 124) (v := undef) (a' := ?_) #[true, true, true, true, true, true, true, true, true, true, true, true, true, true, false, false, false, false, false, false, false] rfl rfl (any_of HT_.out (by kernel_rfl)) (fun _ _ _ h => h) (Or.inr ⟨by rfl, rfl⟩) ?_ ?_
                            rotate_left
                            · simp only [Act.put, sa, sb, sc, i64_w, i32_w]
                              rfl
                            refine pure_ (i := 14) (N := some 125) (v := undef) (a' := ?_) #[true, true, true, true, true, true, true, true, true, true, true, true, true, true, true, false, false, false, false, false, false] rfl rfl (any_of HT_.out (by kernel_rfl)) (fun _ _ _ h => h) (Or.inr ⟨by rfl, rfl⟩) ?_ ?_
                            rotate_left
                            · simp only [Act.put, sa, sb, sc, i64_w, i32_w]
                              rfl
                            refine pure_ (i := 15) (N := some 126) (v := undef) (a' := ?_) #[true, true, true, true, true, true, true, true, true, true, true, true, true, true, true, true, false, false, false, false, false] rfl rfl (any_of HT_.out (by kernel_rfl)) (fun _ _ _ h => h) (Or.inr ⟨by rfl, rfl⟩) ?_ ?_
                            rotate_left
                            · simp only [Act.put, sa, sb, sc, i64_w, i32_w]
                              rfl
                            refine pure_ (i := 16) (N := some 127) (v := undef) (a' := ?_) #[true, true, true, true, true, true, true, true, true, true, true, true, true, true, true, true, true, false, false, false, false] rfl rfl (any_of HT_.out (by kernel_rfl)) (fun _ _ _ h => h) (Or.inr ⟨by rfl, rfl⟩) ?_ ?_
                            rotate_left
                            · simp only [Act.put, sa, sb, sc, i64_w, i32_w]
                              rfl
                            refine pure_ (i := 17) (N := some 128) (v := undef) (a' := ?_) #[true, true, true, true, true, true, true, true, true, true, true, true, true, true, true, true, true, true, false, false, false] rfl rfl (any_of HT_.out (by kernel_rfl)) (fun _ _ _ h => h) (Or.inr ⟨by rfl, rfl⟩) ?_ ?_
                            rotate_left
                            · simp only [Act.put, sa, sb, sc, i64_w, i32_w]
                              rfl
                            refine pure_ (i := 18) (N := some 129) (v := undef) (a' := ?_) #[true, true, true, true, true, true, true, true, true, true, true, true, true, true, true, true, true, true, true, false, false] rfl rfl (any_of HT_.out (by kernel_rfl)) (fun _ _ _ h => h) (Or.inr ⟨by rfl, rfl⟩) ?_ ?_
                            rotate_left
                            · simp only [Act.put, sa, sb, sc, i64_w, i32_w]
                              rfl
                            refine pure_ (i := 19) (N := some 130) (v := undef) (a' := ?_) #[true, true, true, true, true, true, true, true, true, true, true, true, true, true, true, true, true, true, true, true, false] rfl rfl (any_of HT_.out (by kernel_rfl)) (fun _ _ _ h => h) (Or.inr ⟨by rfl, rfl⟩) ?_ ?_
                            rotate_left
                            · simp only [Act.put, sa, sb, sc, i64_w, i32_w]
                              rfl
                            refine pure_ (i := 20) (N := some 131) (v := ?_) (a' := ?_) #[true, true, true, true, true, true, true, true, true, true, true, true, true, true, true, true, true, true, true, true, true] rfl rfl (any_of HT_.out (by kernel_rfl)) (fun _ _ _ h => h) (Or.inl ⟨by rfl, ?_⟩) ?_ ?_
                            rotate_left
                            · intro w'; go_simp
                              with_reducible rfl
                            rotate_left
                            · simp only [Act.put, sa, sb, sc, i64_w, i32_w]
                              rfl
                            refine done_ (done_of HT_.out (by kernel_rfl)) ?_
                            try go_wp2
                            go_meet
                            case rel => exact ⟨_, (true), eqA, H', ⟨by have := HK1.out; have := HJ12.out; have := HJ30.out; have := HJ34.out; first | omega | exact Nat.le_refl _⟩, ⟨rA HO_4⟩, ⟨rA HO_173000⟩, ⟨rA HO_184000⟩, ⟨rA HO193⟩, ⟨blkA⟩, ⟨blkA⟩, ⟨blkA⟩, ⟨blkA⟩, ⟨belA⟩⟩
                        · replace c60 := Bool.eq_false_iff.mpr c60; subst c60; have H1 : (laws_FnLineOrder.j4 kj34 l0 x4_30 (wrap64 (x5_1 + (Int.tmod t177 3))) x6_1 ji45 true t191) = some r := by rw [if_neg (show ¬ (false = true) by decide)] at H; exact H
                          clear H; have H := H1; clear H1; have H' := Aside0.mk H; clear H; try go_wp2
                          generalize hw_ : (((w55.setCell ⟨gb197, 0, none⟩ (.slice Ao56 t191.length co56)).setCell ⟨gb198, 0, none⟩ (.int .i64 t194)).setCell ⟨gb198, 1, none⟩ (.int .i64 t195)) = w68; have n0_ : Aside0 (Kd.R (Kd.int .i64) 3 w68 w.heap.size (fun _ => True) (.slice (some ad190) x4_30.length co50) x4_30) := ⟨by rw [← hw_]; exact (Kd.R_mono (Kd.R_far (p := ⟨gb198, 1, none⟩) (Kd.R_far (p := ⟨gb198, 0, none⟩) (Kd.R_far (p := ⟨gb197, 0, none⟩) (Kd.R_types (Kd.R_types HO_4.out BK197.out (by decide)) BK198.out (by decide)) (fun _ hk => hk.1.2) (.slice Ao56 t191.length co56)) (fun _ hk => hk.2) (.int .i64 t194)) (fun _ hk => hk.2) (.int .i64 t195)) (fun _ hk => trivial))⟩; have n1_ : Aside0 (Kd.R k65 65 w68 w.heap.size (fun k_ => some k_ ≠ (.slice Ao56 t191.length co56 : Value).ownBlock ∧ k_ ≠ gb198) (.slice Ao19 t179.length co19) t179) := ⟨by rw [← hw_]; exact (Kd.R_mono (Kd.R_far (p := ⟨gb198, 1, none⟩) (Kd.R_far (p := ⟨gb198, 0, none⟩) (Kd.R_far (p := ⟨gb197, 0, none⟩) (Kd.R_mono (Kd.R_types HO_173000.out BK197.out (by decide)) (fun k_ hk => (⟨hk, hk.1.2⟩ : _ ∧ k_ ≠ gb198))) (fun _ hk => hk.1.2) (.slice Ao56 t191.length co56)) (fun _ hk => hk.2) (.int .i64 t194)) (fun _ hk => hk.2) (.int .i64 t195)) (fun _ hk => ⟨hk.1.1.1, hk.1.1.2⟩))⟩; have n2_ : Aside0 (Kd.R k65 65 w68 w.heap.size (fun k_ => some k_ ≠ (.slice Ao56 t191.length co56 : Value).ownBlock ∧ k_ ≠ gb198) (.slice Ao19 t179.length co19) t179) := ⟨by rw [← hw_]; exact (Kd.R_mono (Kd.R_far (p := ⟨gb198, 1, none⟩) (Kd.R_far (p := ⟨gb198, 0, none⟩) (Kd.R_far (p := ⟨gb197, 0, none⟩) (Kd.R_mono (Kd.R_types HO_184000.out BK197.out (by decide)) (fun k_ hk => (⟨hk, hk.1.2⟩ : _ ∧ k_ ≠ gb198))) (fun _ hk => hk.1.2) (.slice Ao56 t191.length co56)) (fun _ hk => hk.2) (.int .i64 t194)) (fun _ hk => hk.2) (.int .i64 t195)) (fun _ hk => ⟨hk.1.1.1, hk.1.1.2⟩))⟩; have n3_ : Aside0 (Kd.R k65 65 w68 w.heap.size (fun k_ => some k_ ≠ (.slice Ao19 t179.length co19 : Value).ownBlock ∧ some k_ ≠ (.slice Ao19 t179.length co19 : Value).ownBlock ∧ k_ ≠ gb198) (.slice Ao56 t191.length co56) t191) := ⟨by rw [← hw_]; exact (Kd.R_mono (Kd.R_far (p := ⟨gb198, 1, none⟩) (Kd.R_far (p := ⟨gb198, 0, none⟩) (Kd.R_far (p := ⟨gb197, 0, none⟩) (Kd.R_mono (Kd.R_types HO193.out BK197.out (by decide)) (fun k_ hk => (⟨hk, hk.1.2.2⟩ : _ ∧ k_ ≠ gb198))) (fun _ hk => hk.1.2) (.slice Ao56 t191.length co56)) (fun _ hk => hk.2) (.int .i64 t194)) (fun _ hk => hk.2) (.int .i64 t195)) (fun _ hk => ⟨hk.1.1.1, ⟨hk.1.1.2.1, hk.1.1.2.2⟩⟩))⟩; have n4_ : Aside0 (w68.heap[gb172]? = some (.cells #[.slice Ao19 t179.length co19] 61 (0, 0))) := ⟨by rw [← hw_]; refine blk_far ?_ NB172_198.out _; refine blk_far ?_ NB172_198.out _; refine blk_far ?_ NB172_197.out _; exact BK172.out⟩; have n5_ : Aside0 (w68.heap[gb183]? = some (.cells #[.slice Ao19 t179.length co19] 61 (0, 0))) := ⟨by rw [← hw_]; refine blk_far ?_ NB183_198.out _; refine blk_far ?_ NB183_198.out _; refine blk_far ?_ NB183_197.out _; exact BK183.out⟩; have n6_ : Aside0 (w68.heap[gb197]? = some (.cells #[.slice Ao56 t191.length co56] 61 (0, 0))) := ⟨by rw [← hw_]; refine blk_far ?_ NB197_198.out _; refine blk_far ?_ NB197_198.out _; refine blk_put (cs := #[.slice none 0 0]) ?_ 0 _ rfl; exact BK197.out⟩; have n7_ : Aside0 (w68.heap[gb198]? = some (.cells #[.int .i64 t194, .int .i64 t195] 65 (0, 0))) := ⟨by rw [← hw_]; refine blk_put (cs := #[.int .i64 t194, .int .i64 0]) ?_ 1 _ rfl; refine blk_put (cs := #[.int .i64 0, .int .i64 0]) ?_ 0 _ rfl; refine blk_far ?_ NB198_197.out _; exact BK198.out⟩; have n8_ : Aside0 (Below w.heap.size w w68) := ⟨by rw [← hw_]; exact belA⟩; (try clear HO_4); (try clear HO_173000); (try clear HO_184000); (try clear HO193); (try clear BK172); (try clear BK183); (try clear BK197); (try clear BK198); (try clear HB); clear hw_; have HO_4 := n0_; have HO_173000 := n1_; have HO_184000 := n2_; have HO193 := n3_; have BK172 := n4_; have BK183 := n5_; have BK197 := n6_; have BK198 := n7_; have HB := n8_; clear n0_ n1_ n2_ n3_ n4_ n5_ n6_ n7_ n8_; replace HO_4 := Aside0.mk (Kd.R_drew HO_4.out); replace HO_173000 := Aside0.mk (Kd.R_drew HO_173000.out); replace HO_184000 := Aside0.mk (Kd.R_drew HO_184000.out); replace HO193 := Aside0.mk (Kd.R_drew HO193.out); replace BK172 := Aside0.mk (blk_drew BK172.out); replace BK183 := Aside0.mk (blk_drew BK183.out); replace BK197 := Aside0.mk (blk_drew BK197.out); replace BK198 := Aside0.mk (blk_drew BK198.out); replace HB := Aside0.mk (below_drew1 HB.out); refine start_ (n := 21) (S := fun w' => True) (ds := []) #[false, false, false, false, false, false, false, false, false, false, false, false, false, false, false, false, false, false, false, false, false] (by kernel_rfl) rfl rfl trivial (fun hHeld => ?_); refine with_tabW laws_FnLineOrder.tab20 laws_FnLineOrder.bits20 (fun HT_ HW_ => ?_)
                          generalize w68.drew = w69 at HO_4 HO_173000 HO_184000 HO193 BK172 BK183 BK197 BK198 HB hHeld ⊢
                          refine pure_ (i := 0) (N := some 111) (v := ?_) (a' := ?_) #[true, false, false, false, false, false, false, false, false, false, false, false, false, false, false, false, false, false, false, false, false] rfl rfl (any_of HT_.out (by kernel_rfl)) (fun _ _ _ h => h) (Or.inl ⟨by rfl, ?_⟩) ?_ ?_
                          rotate_left
                          · intro w'; go_simp
                            with_reducible rfl
                          rotate_left
                          · simp only [Act.put, sa, sb, sc, i64_w, i32_w]
                            rfl
                          refine pure_ (i := 1) (N := some 112) (v := ?_) (a' := ?_) #[true, true, false, false, false, false, false, false, false, false, false, false, false, false, false, false, false, false, false, false, false] rfl rfl (any_of HT_.out (by kernel_rfl)) (fun _ _ _ h => h) (Or.inl ⟨by rfl, ?_⟩) ?_ ?_
                          rotate_left
                          · intro w'; go_simp
                            with_reducible rfl
                          rotate_left
                          · simp only [Act.put, sa, sb, sc, i64_w, i32_w]
                            rfl
                          refine pure_ (i := 2) (N := some 113) (v := ?_) (a' := ?_) #[true, true, true, false, false, false, false, false, false, false, false, false, false, false, false, false, false, false, false, false, false] rfl rfl (any_of HT_.out (by kernel_rfl)) (fun _ _ _ h => h) (Or.inl ⟨by rfl, ?_⟩) ?_ ?_
                          rotate_left
                          · intro w'; go_simp
                            with_reducible rfl
                          rotate_left
                          · simp only [Act.put, sa, sb, sc, i64_w, i32_w]
                            rfl
                          refine pure_ (i := 3) (N := some 114) (v := undef) (a' := ?_) #[true, true, true, true, false, false, false, false, false, false, false, false, false, false, false, false, false, false, false, false, false] rfl rfl (any_of HT_.out (by kernel_rfl)) (fun _ _ _ h => h) (Or.inr ⟨by rfl, rfl⟩) ?_ ?_
                          rotate_left
                          · simp only [Act.put, sa, sb, sc, i64_w, i32_w]
                            rfl
                          refine pure_ (i := 4) (N := some 115) (v := undef) (a' := ?_) #[true, true, true, true, true, false, false, false, false, false, false, false, false, false, false, false, false, false, false, false, false] rfl rfl (any_of HT_.out (by kernel_rfl)) (fun _ _ _ h => h) (Or.inr ⟨by rfl, rfl⟩) ?_ ?_
                          rotate_left
                          · simp only [Act.put, sa, sb, sc, i64_w, i32_w]
                            rfl
                          refine pure_ (i := 5) (N := some 116) (v := undef) (a' := ?_) #[true, true, true, true, true, true, false, false, false, false, false, false, false, false, false, false, false, false, false, false, false] rfl rfl (any_of HT_.out (by kernel_rfl)) (fun _ _ _ h => h) (Or.inr ⟨by rfl, rfl⟩) ?_ ?_
                          rotate_left
                          · simp only [Act.put, sa, sb, sc, i64_w, i32_w]
                            rfl
                          refine pure_ (i := 6) (N := some 117) (v := undef) (a' := ?_) #[true, true, true, true, true, true, true, false, false, false, false, false, false, false, false, false, false, false, false, false, false] rfl rfl (any_of HT_.out (by kernel_rfl)) (fun _ _ _ h => h) (Or.inr ⟨by rfl, rfl⟩) ?_ ?_
                          rotate_left
                          · simp only [Act.put, sa, sb, sc, i64_w, i32_w]
                            rfl
                          refine pure_ (i := 7) (N := some 118) (v := undef) (a' := ?_) #[true, true, true, true, true, true, true, true, false, false, false, false, false, false, false, false, false, false, false, false, false] rfl rfl (any_of HT_.out (by kernel_rfl)) (fun _ _ _ h => h) (Or.inr ⟨by rfl, rfl⟩) ?_ ?_
                          rotate_left
                          · simp only [Act.put, sa, sb, sc, i64_w, i32_w]
                            rfl
                          refine pure_ (i := 8) (N := some 119) (v := undef) (a' := ?_) #[true, true, true, true, true, true, true, true, true, false, false, false, false, false, false, false, false, false, false, false, false] rfl rfl (any_of HT_.out (by kernel_rfl)) (fun _ _ _ h => h) (Or.inr ⟨by rfl, rfl⟩) ?_ ?_
                          rotate_left
                          · simp only [Act.put, sa, sb, sc, i64_w, i32_w]
                            rfl
                          refine pure_ (i := 9) (N := some 120) (v := undef) (a' := ?_) #[true, true, true, true, true, true, true, true, true, true, false, false, false, false, false, false, false, false, false, false, false] rfl rfl (any_of HT_.out (by kernel_rfl)) (fun _ _ _ h => h) (Or.inr ⟨by rfl, rfl⟩) ?_ ?_
                          rotate_left
                          · simp only [Act.put, sa, sb, sc, i64_w, i32_w]
                            rfl
                          refine pure_ (i := 10) (N := some 121) (v := ?_) (a' := ?_) #[true, true, true, true, true, true, true, true, true, true, true, false, false, false, false, false, false, false, false, false, false] rfl rfl (any_of HT_.out (by kernel_rfl)) (fun _ _ _ h => h) (Or.inl ⟨by rfl, ?_⟩) ?_ ?_
                          rotate_left
                          · intro w'; go_simp
                            with_reducible rfl
                          rotate_left
                          · simp only [Act.put, sa, sb, sc, i64_w, i32_w]
                            rfl
                          refine pure_ (i := 11) (N := some 122) (v := ?_) (a' := ?_) #[true, true, true, true, true, true, true, true, true, true, true, true, false, false, false, false, false, false, false, false, false] rfl rfl (any_of HT_.out (by kernel_rfl)) (fun _ _ _ h => h) (Or.inl ⟨by rfl, ?_⟩) ?_ ?_
                          rotate_left
                          · intro w'; go_simp
                            with_reducible rfl
                          rotate_left
                          · simp only [Act.put, sa, sb, sc, i64_w, i32_w]
                            rfl
                          refine pure_ (i := 12) (N := some 123) (v := undef) (a' := ?_) #[true, true, true, true, true, true, true, true, true, true, true, true, true, false, false, false, false, false, false, false, false] rfl rfl (any_of HT_.out (by kernel_rfl)) (fun _ _ _ h => h) (Or.inr ⟨by rfl, rfl⟩) ?_ ?_
                          rotate_left
                          · simp only [Act.put, sa, sb, sc, i64_w, i32_w]
                            rfl
                          refine pure_ (i := 13) (N := some 124) (v := undef) (a' := ?_) #[true, true, true, true, true, true, true, true, true, true, true, true, true, true, false, false, false, false, false, false, false] rfl rfl (any_of HT_.out (by kernel_rfl)) (fun _ _ _ h => h) (Or.inr ⟨by rfl, rfl⟩) ?_ ?_
                          rotate_left
                          · simp only [Act.put, sa, sb, sc, i64_w, i32_w]
                            rfl
                          refine pure_ (i := 14) (N := some 125) (v := undef) (a' := ?_) #[true, true, true, true, true, true, true, true, true, true, true, true, true, true, true, false, false, false, false, false, false] rfl rfl (any_of HT_.out (by kernel_rfl)) (fun _ _ _ h => h) (Or.inr ⟨by rfl, rfl⟩) ?_ ?_
                          rotate_left
                          · simp only [Act.put, sa, sb, sc, i64_w, i32_w]
                            rfl
                          refine pure_ (i := 15) (N := some 126) (v := undef) (a' := ?_) #[true, true, true, true, true, true, true, true, true, true, true, true, true, true, true, true, false, false, false, false, false] rfl rfl (any_of HT_.out (by kernel_rfl)) (fun _ _ _ h => h) (Or.inr ⟨by rfl, rfl⟩) ?_ ?_
                          rotate_left
                          · simp only [Act.put, sa, sb, sc, i64_w, i32_w]
                            rfl
                          refine pure_ (i := 16) (N := some 127) (v := undef) (a' := ?_) #[true, true, true, true, true, true, true, true, true, true, true, true, true, true, true, true, true, false, false, false, false] rfl rfl (any_of HT_.out (by kernel_rfl)) (fun _ _ _ h => h) (Or.inr ⟨by rfl, rfl⟩) ?_ ?_
                          rotate_left
                          · simp only [Act.put, sa, sb, sc, i64_w, i32_w]
                            rfl
                          refine pure_ (i := 17) (N := some 128) (v := undef) (a' := ?_) #[true, true, true, true, true, true, true, true, true, true, true, true, true, true, true, true, true, true, false, false, false] rfl rfl (any_of HT_.out (by kernel_rfl)) (fun _ _ _ h => h) (Or.inr ⟨by rfl, rfl⟩) ?_ ?_
                          rotate_left
                          · simp only [Act.put, sa, sb, sc, i64_w, i32_w]
                            rfl
                          refine pure_ (i := 18) (N := some 129) (v := undef) (a' := ?_) #[true, true, true, true, true, true, true, true, true, true, true, true, true, true, true, true, true, true, true, false, false] rfl rfl (any_of HT_.out (by kernel_rfl)) (fun _ _ _ h => h) (Or.inr ⟨by rfl, rfl⟩) ?_ ?_
                          rotate_left
                          · simp only [Act.put, sa, sb, sc, i64_w, i32_w]
                            rfl
                          refine pure_ (i := 19) (N := some 130) (v := undef) (a' := ?_) #[true, true, true, true, true, true, true, true, true, true, true, true, true, true, true, true, true, true, true, true, false] rfl rfl (any_of HT_.out (by kernel_rfl)) (fun _ _ _ h => h) (Or.inr ⟨by rfl, rfl⟩) ?_ ?_
                          rotate_left
                          · simp only [Act.put, sa, sb, sc, i64_w, i32_w]
                            rfl
                          refine pure_ (i := 20) (N := some 131) (v := ?_) (a' := ?_) #[true, true, true, true, true, true, true, true, true, true, true, true, true, true, true, true, true, true, true, true, true] rfl rfl (any_of HT_.out (by kernel_rfl)) (fun _ _ _ h => h) (Or.inl ⟨by rfl, ?_⟩) ?_ ?_
                          rotate_left
                          · intro w'; go_simp
                            with_reducible rfl
                          rotate_left
                          · simp only [Act.put, sa, sb, sc, i64_w, i32_w]
                            rfl
                          refine done_ (done_of HT_.out (by kernel_rfl)) ?_
                          try go_wp2
                          go_meet
                          case rel => exact ⟨_, (true), eqA, H', ⟨by have := HK1.out; have := HJ12.out; have := HJ30.out; have := HJ34.out; first | omega | exact Nat.le_refl _⟩, ⟨rA HO_4⟩, ⟨rA HO_173000⟩, ⟨rA HO_184000⟩, ⟨rA HO193⟩, ⟨blkA⟩, ⟨blkA⟩, ⟨blkA⟩, ⟨blkA⟩, ⟨belA⟩⟩
                       case rest =>
                        clear HC49; obtain ⟨kq, x131_48, rfl, HA, HJ48, HO_4, HO_173000, HO_184000, HO_198000, BK172, BK183, BK197, BK198, HB⟩ := hcut
                        cases kq with
                        | zero => exact absurd HA.out (by simp [laws_FnLineOrder.j4])
                        | succ kj48 =>
                         have H := HA.out; clear HA; simp only [laws_FnLineOrder.j4] at H
                         by_cases c70 : x131_48 = true
                         · subst c70; have H1 : (some false) = some r := by rw [if_pos rfl] at H; exact H
                           clear H; have H := H1; clear H1; obtain rfl := Option.some.inj H; go_wp2
                           go_ret
                           exact ⟨by first | rfl | (simp [errW_none, errW_some] <;> rfl) | (simp only [← hji45]; first | rfl | (simp [errW_none, errW_some] <;> rfl)) | (simp [*, errW_none, errW_some] <;> rfl) | (simp [wrap64]; done) | (simp [*, wrap64]; done), belA⟩
                         · replace c70 := Bool.eq_false_iff.mpr c70; subst c70; have H1 : (laws_FnLineOrder.l1 kj48 l0 x4_30 (wrap64 (x5_1 + (Int.tmod t177 3))) x6_1 ji45 (([] : List Int)) 0 t191) = some r := by rw [if_neg (show ¬ (false = true) by decide)] at H; exact H
                           clear H; have H := H1; clear H1; obtain ⟨y202, hy202⟩ : ∃ y_ : List Int, y_ = (([] : List Int)) := ⟨_, rfl⟩; replace H : (laws_FnLineOrder.l1 kj48 l0 x4_30 (wrap64 (x5_1 + (Int.tmod t177 3))) x6_1 ji45 y202 0 t191) = some r := by first | (rw [hy202]; with_reducible exact H) | (have H2_ := (Option.bind_some _ _).symm.trans H; rw [hy202]; with_reducible exact H2_) | (have H2_ := (Option.bind_some _ _).symm.trans H; with_reducible exact H2_) | with_reducible exact H | (rw [hy202]; exact H) | exact H
                           have Ny202 := Aside0.mk hy202; clear hy202; have H' := Aside0.mk H; clear H; have hnb71 := NB197_172.out; have hnc71 := NB172_197.out; have hnb72 := NB197_183.out; have hnc72 := NB183_197.out; have hnb73 := NB197_198.out; have hnc73 := NB198_197.out; obtain ⟨hcz74_0, hfz74_0⟩ := cel1 BK197; have hnb75 := NB172_183.out; have hnc75 := NB183_172.out; have hnb76 := NB172_198.out; have hnc76 := NB198_172.out; obtain ⟨hcz77_0, hfz77_0⟩ := cel1 BK172; go_wp2_with (first | ((with_reducible refine gate_dst (N := 133) rfl ?_); (try (refine gate_guard (by rfl) ?_; dsimp only)); refine Kd.R_lit (Kd.int .i64) _ 3 ?hg (N := 133) ?hd (xs := ([] : List Int)) (inner := []) (ok := fun _ => True) (okp := fun _ => True) ?hr ?hp (fun _ hk => hk) trivial (Below.refl _ _) (Nat.le_refl _) (by simp) ?_; (case hd => rfl); (case hg => rfl); (case hr => first | (go_simp; done) | (go_simp; rfl)); (case hp => exact (Reps.none _ _)); intro v203 w78 ho79 hb hg_ hnew_; clear hg_ hnew_; (first | rw [← Ny202.out] at ho79 | (simp only [Int.reduceToNat] at ho79; rw [← Ny202.out] at ho79)); have HO204 := rL (Kd.R_new' ho79 (Kd.R_lt (rE (Kd.R_mono (Kd.R_far (p := ⟨gb172, 0, none⟩) (Kd.R_types HO_4.out BK172.out (by decide)) (fun _ hk => hk.2) (.slice Ao56 t191.length co56)) (fun _ h_ => h_.1))))); replace HO_4 := Aside0.mk (Kd.R_elder' (rE (Kd.R_mono (Kd.R_far (p := ⟨gb172, 0, none⟩) (Kd.R_types HO_4.out BK172.out (by decide)) (fun _ hk => hk.2) (.slice Ao56 t191.length co56)) (fun _ h_ => h_.1))) (Kd.R_base ho79) hb); replace HO_173000 := Aside0.mk (Kd.R_below (rE (Kd.R_mono (Kd.R_far (p := ⟨gb172, 0, none⟩) (Kd.R_types HO_173000.out BK172.out (by decide)) (fun _ hk => hk.2) (.slice Ao56 t191.length co56)) (fun _ h_ => h_.1))) hb); replace HO_184000 := Aside0.mk (Kd.R_below (rE (Kd.R_mono (Kd.R_far (p := ⟨gb172, 0, none⟩) (Kd.R_types HO_184000.out BK172.out (by decide)) (fun _ hk => hk.2) (.slice Ao56 t191.length co56)) (fun _ h_ => h_.1))) hb); replace HO_198000 := Aside0.mk (Kd.R_below (rE (Kd.R_mono (Kd.R_far (p := ⟨gb172, 0, none⟩) (Kd.R_types HO_198000.out BK172.out (by decide)) (fun _ hk => hk.2) (.slice Ao56 t191.length co56)) (fun _ h_ => h_.1))) hb); replace BK172 := Aside0.mk (blk_below (g := gb172) (o := .cells #[.slice Ao56 t191.length co56] 61 (0, 0)) (by (with_reducible repeat (first | refine blk_drewN ?_ _ | refine blk_drew ?_ | refine blk_alloc ?_ _)); refine blk_put (cs := #[.slice Ao19 t179.length co19]) ?_ 0 _ rfl; (with_reducible repeat (first | refine blk_drewN ?_ _ | refine blk_drew ?_ | refine blk_alloc ?_ _)); exact BK172.out) hb); replace BK183 := Aside0.mk (blk_below (g := gb183) (o := .cells #[.slice Ao19 t179.length co19] 61 (0, 0)) (by (with_reducible repeat (first | refine blk_drewN ?_ _ | refine blk_drew ?_ | refine blk_alloc ?_ _)); refine blk_far ?_ NB183_172.out _; (with_reducible repeat (first | refine blk_drewN ?_ _ | refine blk_drew ?_ | refine blk_alloc ?_ _)); exact BK183.out) hb); replace BK197 := Aside0.mk (blk_below (g := gb197) (o := .cells #[.slice Ao56 t191.length co56] 61 (0, 0)) (by (with_reducible repeat (first | refine blk_drewN ?_ _ | refine blk_drew ?_ | refine blk_alloc ?_ _)); refine blk_far ?_ NB197_172.out _; (with_reducible repeat (first | refine blk_drewN ?_ _ | refine blk_drew ?_ | refine blk_alloc ?_ _)); exact BK197.out) hb); replace BK198 := Aside0.mk (blk_below (g := gb198) (o := .cells #[.int .i64 t194, .int .i64 t195] 65 (0, 0)) (by (with_reducible repeat (first | refine blk_drewN ?_ _ | refine blk_drew ?_ | refine blk_alloc ?_ _)); refine blk_far ?_ NB198_172.out _; (with_reducible repeat (first | refine blk_drewN ?_ _ | refine blk_drew ?_ | refine blk_alloc ?_ _)); exact BK198.out) hb); replace HB := bS hb; clear hb ho79))
                           go_loopg [14, 15] kj48 (fun kq v14 v15 w' => ∃ (x14_6 : List Int) (x15_6 : Int), v15 = .int .i64 x15_6 ∧ Aside0 (laws_FnLineOrder.l1 kq l0 x4_30 (wrap64 (x5_1 + (Int.tmod t177 3))) x6_1 ji45 x14_6 x15_6 t191 = some r) ∧ Aside0 (kq ≤ kj48) ∧ Aside0 (Kd.R (Kd.int .i64) 3 w' w.heap.size (fun k_ => some k_ ≠ (v14 : Value).ownBlock) (.slice (some ad190) x4_30.length co50) x4_30) ∧ Aside0 (Kd.R (Kd.int .i64) 3 w' w.heap.size (fun k_ => some k_ ≠ ((.slice (some ad190) x4_30.length co50) : Value).ownBlock) v14 x14_6) ∧ Aside0 (Kd.R k65 65 w' w.heap.size (fun k_ => some k_ ≠ ((.slice Ao19 t179.length co19) : Value).ownBlock ∧ k_ ≠ gb198) (.slice Ao56 t191.length co56) t191) ∧ Aside0 (Kd.R k65 65 w' w.heap.size (fun k_ => some k_ ≠ ((.slice Ao56 t191.length co56) : Value).ownBlock ∧ some k_ ≠ ((.slice Ao56 t191.length co56) : Value).ownBlock ∧ k_ ≠ gb198) (.slice Ao19 t179.length co19) t179) ∧ Aside0 (Kd.R k65 65 w' w.heap.size (fun k_ => some k_ ≠ ((.slice Ao19 t179.length co19) : Value).ownBlock ∧ k_ ≠ gb198) (.slice Ao56 t191.length co56) t191) ∧ Aside0 (w'.heap[gb172]? = some (.cells #[(.slice Ao56 t191.length co56)] 61 (0, 0))) ∧ Aside0 (w'.heap[gb183]? = some (.cells #[(.slice Ao19 t179.length co19)] 61 (0, 0))) ∧ Aside0 (w'.heap[gb197]? = some (.cells #[(.slice Ao56 t191.length co56)] 61 (0, 0))) ∧ Aside0 (w'.heap[gb198]? = some (.cells #[.int .i64 t194, .int .i64 t195] 65 (0, 0))) ∧ Aside0 (Below w.heap.size w w'))
                           case atStart => exact ⟨(y202), (0), eqA, H', ⟨Nat.le_refl _⟩, ⟨rE (Kd.R_mono HO_4.out (fun _ hk => hk.2))⟩, ⟨rE (Kd.R_mono HO204.out (fun _ hk => hk.2))⟩, ⟨rE (Kd.R_mono HO_198000.out (fun _ hk => ⟨hk.2.1, hk.2.2⟩))⟩, ⟨rE (Kd.R_mono HO_184000.out (fun _ hk => ⟨hk.1, ⟨hk.1, hk.2⟩⟩))⟩, ⟨rE (Kd.R_mono HO_198000.out (fun _ hk => ⟨hk.2.1, hk.2.2⟩))⟩, ⟨blkA⟩, ⟨blkA⟩, ⟨blkA⟩, ⟨blkA⟩, ⟨belA⟩⟩
                           case round =>
                            clear H'; obtain ⟨x14_6, x15_6, rfl, HA, HK6, HO_4, HO_14, HO_173000, HO_184000, HO_198000, BK172, BK183, BK197, BK198, HB⟩ := hrel
                            cases gk with
                            | zero => exact absurd HA.out (by simp [laws_FnLineOrder.l1])
                            | succ k6 =>
                             have H := HA.out; clear HA; simp only [laws_FnLineOrder.l1] at H
                             by_cases c80 : x15_6 < (x4_30.length : Int)
                             · rw [if_pos c80] at H; have c80b0 := decide_eq_true c80; clear c80
                               by_cases c81 : x15_6 = ji45
                               · rw [if_pos c81] at H; have c81b0 : (x15_6 == ji45) = true := beq_iff_eq.mpr c81; have c81b1 : (x15_6 != ji45) = false := bne_eq_false_iff_eq.mpr c81; clear c81; have H' := Aside0.mk H; clear H; go_wp2
                                 go_roundg k6
                                 case measure => have := HK1.out; have := HJ12.out; have := HJ30.out; have := HJ34.out; have := HJ48.out; have := HK6.out; omega
                                 case rel => exact ⟨(x14_6), (wrap64 (x15_6 + 1)), eqA, H', ⟨by have := HK1.out; have := HJ12.out; have := HJ30.out; have := HJ34.out; have := HJ48.out; have := HK6.out; omega⟩, ⟨rA HO_4⟩, ⟨rA HO_14⟩, ⟨rA HO_173000⟩, ⟨rA HO_184000⟩, ⟨rA HO_198000⟩, ⟨blkA⟩, ⟨blkA⟩, ⟨blkA⟩, ⟨blkA⟩, ⟨belA⟩⟩
                               · rw [if_neg c81] at H; have c81b0 : (x15_6 == ji45) = false := beq_eq_false_iff_ne.mpr c81; have c81b1 : (x15_6 != ji45) = true := bne_iff_ne.mpr c81
                                 by_cases c82 : 0 ≤ x15_6
                                 · rw [if_pos c82] at H; have c82b0 := decide_eq_true c82; clear c82
                                   by_cases c83 : x14_6.length < 17592186044416
                                   · rw [if_pos c83] at H; have LMc83 := Aside0.mk c83; clear c83; obtain ⟨y206, hy206⟩ : ∃ y_ : List Int, y_ = (x14_6 ++ [rd x4_30 x15_6]) := ⟨_, rfl⟩; replace H : (laws_FnLineOrder.l1 k6 l0 x4_30 (wrap64 (x5_1 + (Int.tmod t177 3))) x6_1 ji45 y206 (wrap64 (x15_6 + 1)) t191) = some r := by first | (rw [hy206]; with_reducible exact H) | (have H2_ := (Option.bind_some _ _).symm.trans H; rw [hy206]; with_reducible exact H2_) | (have H2_ := (Option.bind_some _ _).symm.trans H; with_reducible exact H2_) | with_reducible exact H | (rw [hy206]; exact H) | exact H
                                     have Ny206 := Aside0.mk hy206; clear hy206; have H' := Aside0.mk H; clear H; have p205 : 0 ≤ (x15_6 : Int) := odA; have q205 : x15_6 < (x4_30.length : Int) := odA; obtain ⟨ad205, e205, hx205_0⟩ := Kd.at_int (Kd.R_reads' HO_4.out).2.2 x15_6 p205 q205; obtain rfl : ad190 = ad205 := (by injection e205); replace p205 := eq_true p205; replace q205 := eq_true q205; go_wp2_with (first | ((with_reducible refine gate_builtin (b := .append) (xs := #[.tmp 143, .tmp 148]) rfl ?_); (try (refine gate_guard (by rfl) ?_; dsimp only)); at_builtin; refine Kd.R_append (Kd.int .i64) (w0 := w) w.heap.size rfl (.tmp 143) (.tmp 148) 27 3 (.int .i64 0) 8 rfl Try.underlying27 info3 rfl (by decide) (by omega) u14 x14_6 (rd x4_30 x15_6) [.int .i64 (rd x4_30 x15_6)] (fun k_ => some k_ ≠ (.slice (some ad190) x4_30.length co50 : Value).ownBlock) (fun _ => False) rfl rfl ?aP (fun _ hk => hk.elim) ?aF ?aO ?aB ?aS ?aL ?_; (case aP => exact rfl); (case aB => exact belA); (case aF => exact (fun k_ hk => Kd.fresh' (rT HO_4) k_ hk)); (case aO => exact (rA HO_14)); (case aS => exact (below_size belA)); (case aL => have := LMc83.out; omega); intro v207 w84 ho hb hg hat; rw [← Ny206.out] at ho; have n0_ := Aside0.mk (Kd.R_after (ok := (fun _ => True)) (by (with_reducible repeat (first | apply Kd.R_alloc | apply Kd.R_drewN | apply Kd.R_drew)); first | exact Kd.R_mono HO_4.out (fun _ hk => ⟨trivial, hk⟩) | exact Kd.R_mono HO_4.out (fun _ _ => trivial)) hg hat); have n1_ := Aside0.mk (Kd.R_over' (rA HO_173000) (Kd.R_typed (rA HO_14)) (by decide) hg); have n2_ := Aside0.mk (Kd.R_over' (rA HO_184000) (Kd.R_typed (rA HO_14)) (by decide) hg); have n3_ := Aside0.mk (Kd.R_over' (rA HO_198000) (Kd.R_typed (rA HO_14)) (by decide) hg); have n4_ := Aside0.mk (blk_grown (g := gb172) (o := .cells #[.slice Ao56 t191.length co56] 61 (0, 0)) blkA hg (Kd.R_ne HO_14.out BK172.out (by decide))); have n5_ := Aside0.mk (blk_grown (g := gb183) (o := .cells #[.slice Ao19 t179.length co19] 61 (0, 0)) blkA hg (Kd.R_ne HO_14.out BK183.out (by decide))); have n6_ := Aside0.mk (blk_grown (g := gb197) (o := .cells #[.slice Ao56 t191.length co56] 61 (0, 0)) blkA hg (Kd.R_ne HO_14.out BK197.out (by decide))); have n7_ := Aside0.mk (blk_grown (g := gb198) (o := .cells #[.int .i64 t194, .int .i64 t195] 65 (0, 0)) blkA hg (Kd.R_ne HO_14.out BK198.out (by decide))); have n8_ := Aside0.mk hb; have n9_ := Aside0.mk ho; clear HO_4; clear HO_173000; clear HO_184000; clear HO_198000; clear BK172; clear BK183; clear BK197; clear BK198; clear HB; clear HO_14; have HO_4 := n0_; have HO_173000 := n1_; have HO_184000 := n2_; have HO_198000 := n3_; have BK172 := n4_; have BK183 := n5_; have BK197 := n6_; have BK198 := n7_; have HB := n8_; have HO208 := n9_; clear n0_ n1_ n2_ n3_ n4_ n5_ n6_ n7_ n8_ n9_; clear ho hb hg hat))
                                     go_roundg k6
                                     case measure => have := HK1.out; have := HJ12.out; have := HJ30.out; have := HJ34.out; have := HJ48.out; have := HK6.out; omega
                                     case rel => exact ⟨(y206), (wrap64 (x15_6 + 1)), eqA, H', ⟨by have := HK1.out; have := HJ12.out; have := HJ30.out; have := HJ34.out; have := HJ48.out; have := HK6.out; omega⟩, ⟨rE (Kd.R_mono HO_4.out (fun _ hk => hk.2))⟩, ⟨rA HO208⟩, ⟨rA HO_173000⟩, ⟨rA HO_184000⟩, ⟨rA HO_198000⟩, ⟨blkA⟩, ⟨blkA⟩, ⟨blkA⟩, ⟨blkA⟩, ⟨belA⟩⟩
                                   · rw [if_neg c83] at H; exact absurd H (by simp)
                                 · rw [if_neg c82] at H; exact absurd H (by simp)
                             · rw [if_neg c80] at H; have c80b0 := decide_eq_false c80; clear c80; have H' := Aside0.mk H; clear H; go_wp2
                               go_roundg k6
                               case measure => have := HK1.out; have := HJ12.out; have := HJ30.out; have := HJ34.out; have := HJ48.out; have := HK6.out; omega
                               case rel => exact ⟨(x14_6), ((wrap64 (x5_1 + (Int.tmod t177 3)))), (wrap64 (x6_1 + 1)), (t191), (.slice Ao56 t191.length co56), eqA, eqA, H', ⟨by have := HK1.out; have := HJ12.out; have := HJ30.out; have := HJ34.out; have := HJ48.out; have := HK6.out; omega⟩, ⟨rE (Kd.R_mono HO_14.out (fun _ hk => trivial))⟩, ⟨rE (Kd.R_mono HO_173000.out (fun _ hk => trivial))⟩, ⟨blkA⟩, ⟨belA⟩⟩
                     · rw [if_neg c47] at H; exact absurd H (by simp)
                   · rw [if_neg c46] at H; exact absurd H (by simp)
               · replace c42 := Bool.eq_false_iff.mpr c42; subst c42; have H1 : (laws_FnLineOrder.l0 kj34 l0 x4_30 (wrap64 (x5_1 + (Int.tmod t177 3))) (wrap64 (x6_1 + 1)) t179) = some r := by rw [if_neg (show ¬ (false = true) by decide)] at H; exact H
                 clear H; have H := H1; clear H1; have H' := Aside0.mk H; clear H; go_wp2
                 go_roundg kj34
                 case measure => have := HK1.out; have := HJ12.out; have := HJ30.out; have := HJ34.out; omega
                 case rel => exact ⟨(x4_30), ((wrap64 (x5_1 + (Int.tmod t177 3)))), (wrap64 (x6_1 + 1)), (t179), (.slice Ao19 t179.length co19), eqA, eqA, H', ⟨by have := HK1.out; have := HJ12.out; have := HJ30.out; have := HJ34.out; omega⟩, ⟨rA HO_4⟩, ⟨rA HO_173000⟩, ⟨blkA⟩, ⟨belA⟩⟩
     · rw [if_neg c9] at H; have c9b0 := decide_eq_false c9; clear c9; have H' := Aside0.mk H; clear H; go_wp2_with (first | ((with_reducible refine gate_callee (f := 30) rfl ?_); refine goA (some 29) Try.func30 #[.slice A0 l0.length c0, .int .i64 0] rfl ?_; (with_reducible refine (laws_at.calls _ _ l0 0 t176 _ ?side1 ?side2 A8.out).mono ?_); (case side1 => exact cA (Kd.C_below HR0.out HB.out)); (case side2 => exact HC0.out); rintro e w' ⟨rfl, ⟨nd, rfl⟩⟩; refine ⟨_, rfl, ?_⟩))
       go_loopg [16] k1 (fun kq v16 w' => ∃ (x16_2 : Int) (x173000_2 : List (S65)) (u173000 : Value), v16 = .int .i64 x16_2 ∧ Aside0 (laws_FnLineOrder.l2 kq x4_1 x16_2 x173000_2 = some r) ∧ Aside0 (kq ≤ k1) ∧ Aside0 (Kd.R (Kd.int .i64) 3 w' w.heap.size (fun _ => True) u4 x4_1) ∧ Aside0 (Kd.R k65 65 w' w.heap.size (fun _ => True) u173000 x173000_2) ∧ Aside0 (w'.heap[gb172]? = some (.cells #[u173000] 61 (0, 0))) ∧ Aside0 (Below w.heap.size w w'))
       case atStart => exact ⟨(0), (x173000_1), (u173000), eqA, H', ⟨Nat.le_refl _⟩, ⟨rA HO_4⟩, ⟨rA HO_173000⟩, ⟨blkA⟩, ⟨belA⟩⟩
       case round =>
        clear H'; obtain ⟨x16_2, x173000_2, u173000, rfl, HA, HK2, HO_4, HO_173000, BK172, HB⟩ := hrel
        cases gk with
        | zero => exact absurd HA.out (by simp [laws_FnLineOrder.l2])
        | succ k2 =>
         have H := HA.out; clear HA; simp only [laws_FnLineOrder.l2] at H
         by_cases c85 : x16_2 < (x4_1.length : Int)
         · rw [if_pos c85] at H; have c85b0 := decide_eq_true c85; clear c85; replace H := Option.bind_eq_some_iff.mp H; obtain ⟨⟨t209, t212, t213, t214⟩, A860, H⟩ := H; replace H : (if t214 = true then (if 0 ≤ x16_2 then (if t212 = (rd x4_1 x16_2) then (laws_FnLineOrder.l2 k2 x4_1 (wrap64 (x16_2 + 1)) t209) else (some false)) else (none)) else (some false)) = some r := H
           have A86 := Aside0.mk A860; clear A860
           by_cases c87 : t214 = true
           · subst c87; have H1 : (if 0 ≤ x16_2 then (if t212 = (rd x4_1 x16_2) then (laws_FnLineOrder.l2 k2 x4_1 (wrap64 (x16_2 + 1)) t209) else (some false)) else (none)) = some r := by rw [if_pos rfl] at H; exact H
             clear H; have H := H1; clear H1
             by_cases c88 : 0 ≤ x16_2
             · rw [if_pos c88] at H; have c88b0 := decide_eq_true c88; clear c88
               by_cases c89 : t212 = (rd x4_1 x16_2)
               · rw [if_pos c89] at H; have c89b0 : (t212 == (rd x4_1 x16_2)) = true := beq_iff_eq.mpr c89; have c89b1 : (t212 != (rd x4_1 x16_2)) = false := bne_eq_false_iff_eq.mpr c89; clear c89; have H' := Aside0.mk H; clear H; obtain ⟨Ao90, co90, eo90⟩ := Kd.R_slice HO_4.out; subst eo90; obtain ⟨hcz91_0, hfz91_0⟩ := cel1 BK172; obtain ⟨Ao92, co92, eo92⟩ := Kd.R_slice HO_173000.out; subst eo92; try go_wp2_with (first | ((with_reducible refine gate_callee (f := 46) rfl ?_); refine goA (some 159) Try.func46 #[.agg #[.slice Ao92 x173000_2.length co92]] rfl ?_; (with_reducible refine (impl_Pop.calls k2 _ _ x173000_2 t209 t212 t213 true _ ?side1 ?side2 A86.out).mono ?_); (case side1 => exact cA ((Kd.R_reads' HO_173000.out).2.2)); (case side2 => exact (Kd.R_reads' HO_173000.out).2.1); rintro e w93 ⟨v210, rfl, ho0, hb⟩; refine ⟨_, rfl, ?_⟩; have HO211 := rL (Kd.R_new' ho0 (rT HO_173000)); replace HO_4 := rB HO_4 hb; replace HO_173000 := rD HO_173000 (Kd.R_base ho0) hb; replace BK172 := bB BK172 hb; replace HB := bS hb; (try clear hb); (try clear hb2); (try clear hk); (try clear hi); (try clear ho0)) | ((with_reducible refine gate_dst (N := 17) rfl ?_); (try (refine gate_guard (by rfl) ?_; dsimp only)); refine boxA 17 #[.slice none 0 0] 61 ?_; intro gb215 hg w94 hbox hb; have BK215 := Aside0.mk hbox; have GW215 := leA (w := w) hg; have GE215 := leA (w := w) hg; have NB172_215 := neL hg BK172; have NB215_172 := neG hg BK172; replace HO_4 := rB HO_4 hb; replace HO_173000 := rB HO_173000 hb; replace HO211 := rB HO211 hb; replace BK172 := bB BK172 hb; replace HB := bS hb; clear hb hbox hg) | ((with_reducible refine gate_dst (N := 18) rfl ?_); (try (refine gate_guard (by rfl) ?_; dsimp only)); refine boxA 18 #[.int .i64 0, .int .i64 0] 65 ?_; intro gb216 hg w95 hbox hb; have BK216 := Aside0.mk hbox; have GW216 := leA (w := w) hg; have GE216 := leA (w := w) hg; have NB172_216 := neL hg BK172; have NB216_172 := neG hg BK172; have NB215_216 := neL hg BK215; have NB216_215 := neG hg BK215; replace HO_4 := rB HO_4 hb; replace HO_173000 := rC HO_173000 hg hb; replace HO211 := rC HO211 hg hb; replace BK172 := bB BK172 hb; replace BK215 := bB BK215 hb; replace HB := bS hb; clear hb hbox hg; obtain ⟨Ao96, co96, eo96⟩ := Kd.R_slice HO211.out; subst eo96; have hnb97 := NB215_172.out; have hnc97 := NB172_215.out; have hnb98 := NB215_216.out; have hnc98 := NB216_215.out; obtain ⟨hcz99_0, hfz99_0⟩ := cel1 BK215; have hnb100 := NB216_172.out; have hnc100 := NB172_216.out; obtain ⟨hcz101_0, hcz101_1, hfz101_0, hfz101_1⟩ := cel2 BK216))
                 generalize hw_ : (((w95.setCell ⟨gb215, 0, none⟩ (.slice Ao96 t209.length co96)).setCell ⟨gb216, 0, none⟩ (.int .i64 t212)).setCell ⟨gb216, 1, none⟩ (.int .i64 t213)) = w102; have n0_ : Aside0 (Kd.R (Kd.int .i64) 3 w102 w.heap.size (fun _ => True) (.slice Ao90 x4_1.length co90) x4_1) := ⟨by rw [← hw_]; exact (Kd.R_mono (Kd.R_far (p := ⟨gb216, 1, none⟩) (Kd.R_far (p := ⟨gb216, 0, none⟩) (Kd.R_far (p := ⟨gb215, 0, none⟩) (Kd.R_types (Kd.R_types HO_4.out BK215.out (by decide)) BK216.out (by decide)) (fun _ hk => hk.1.2) (.slice Ao96 t209.length co96)) (fun _ hk => hk.2) (.int .i64 t212)) (fun _ hk => hk.2) (.int .i64 t213)) (fun _ hk => trivial))⟩; have n1_ : Aside0 (Kd.R k65 65 w102 w.heap.size (fun k_ => some k_ ≠ (.slice Ao96 t209.length co96 : Value).ownBlock ∧ k_ ≠ gb216) (.slice Ao92 x173000_2.length co92) x173000_2) := ⟨by rw [← hw_]; exact (Kd.R_mono (Kd.R_far (p := ⟨gb216, 1, none⟩) (Kd.R_far (p := ⟨gb216, 0, none⟩) (Kd.R_far (p := ⟨gb215, 0, none⟩) (Kd.R_mono (Kd.R_types HO_173000.out BK215.out (by decide)) (fun k_ hk => (⟨hk, hk.1.2⟩ : _ ∧ k_ ≠ gb216))) (fun _ hk => hk.1.2) (.slice Ao96 t209.length co96)) (fun _ hk => hk.2) (.int .i64 t212)) (fun _ hk => hk.2) (.int .i64 t213)) (fun _ hk => ⟨hk.1.1.1.2, hk.1.1.2⟩))⟩; have n2_ : Aside0 (Kd.R k65 65 w102 w.heap.size (fun k_ => some k_ ≠ (.slice Ao92 x173000_2.length co92 : Value).ownBlock ∧ k_ ≠ gb216) (.slice Ao96 t209.length co96) t209) := ⟨by rw [← hw_]; exact (Kd.R_mono (Kd.R_far (p := ⟨gb216, 1, none⟩) (Kd.R_far (p := ⟨gb216, 0, none⟩) (Kd.R_far (p := ⟨gb215, 0, none⟩) (Kd.R_mono (Kd.R_types HO211.out BK215.out (by decide)) (fun k_ hk => (⟨hk, hk.1.2⟩ : _ ∧ k_ ≠ gb216))) (fun _ hk => hk.1.2) (.slice Ao96 t209.length co96)) (fun _ hk => hk.2) (.int .i64 t212)) (fun _ hk => hk.2) (.int .i64 t213)) (fun _ hk => ⟨hk.1.1.1.2, hk.1.1.2⟩))⟩; have n3_ : Aside0 (w102.heap[gb172]? = some (.cells #[.slice Ao92 x173000_2.length co92] 61 (0, 0))) := ⟨by rw [← hw_]; refine blk_far ?_ NB172_216.out _; refine blk_far ?_ NB172_216.out _; refine blk_far ?_ NB172_215.out _; exact BK172.out⟩; have n4_ : Aside0 (w102.heap[gb215]? = some (.cells #[.slice Ao96 t209.length co96] 61 (0, 0))) := ⟨by rw [← hw_]; refine blk_far ?_ NB215_216.out _; refine blk_far ?_ NB215_216.out _; refine blk_put (cs := #[.slice none 0 0]) ?_ 0 _ rfl; exact BK215.out⟩; have n5_ : Aside0 (w102.heap[gb216]? = some (.cells #[.int .i64 t212, .int .i64 t213] 65 (0, 0))) := ⟨by rw [← hw_]; refine blk_put (cs := #[.int .i64 t212, .int .i64 0]) ?_ 1 _ rfl; refine blk_put (cs := #[.int .i64 0, .int .i64 0]) ?_ 0 _ rfl; refine blk_far ?_ NB216_215.out _; exact BK216.out⟩; have n6_ : Aside0 (Below w.heap.size w w102) := ⟨by rw [← hw_]; exact belA⟩; (try clear HO_4); (try clear HO_173000); (try clear HO211); (try clear BK172); (try clear BK215); (try clear BK216); (try clear HB); clear hw_; have HO_4 := n0_; have HO_173000 := n1_; have HO211 := n2_; have BK172 := n3_; have BK215 := n4_; have BK216 := n5_; have HB := n6_; clear n0_ n1_ n2_ n3_ n4_ n5_ n6_; replace HO_4 := Aside0.mk (Kd.R_drew HO_4.out); replace HO_173000 := Aside0.mk (Kd.R_drew HO_173000.out); replace HO211 := Aside0.mk (Kd.R_drew HO211.out); replace BK172 := Aside0.mk (blk_drew BK172.out); replace BK215 := Aside0.mk (blk_drew BK215.out); replace BK216 := Aside0.mk (blk_drew BK216.out); replace HB := Aside0.mk (below_drew1 HB.out); have p217 : 0 ≤ (x16_2 : Int) := odA; have q217 : x16_2 < (x4_1.length : Int) := odA; obtain ⟨ad217, e217, hx217_0⟩ := Kd.at_int (Kd.R_reads' HO_4.out).2.2 x16_2 p217 q217
                 cases e217
                 replace p217 := eq_true p217; replace q217 := eq_true q217; refine start_ (n := 11) (S := fun w' => w'.cell? ⟨gb216, 0, none⟩ = some (.int .i64 t212) ∧ w'.cell? ⟨gb216, 1, none⟩ = some (.int .i64 t213) ∧ w'.cell? (ad217.add (x16_2).toNat) = some (.int .i64 (rd x4_1 x16_2))) (ds := []) #[false, false, false, false, false, false, false, false, false, false, false] (by kernel_rfl) rfl rfl ⟨(blk_cell BK216.out 0).trans rfl, (blk_cell BK216.out 1).trans rfl, hx217_0⟩ (fun hHeld => ?_); refine with_tabW laws_FnLineOrder.tab34 laws_FnLineOrder.bits34 (fun HT_ HW_ => ?_)
                 generalize w102.drew = w103 at HO_4 HO_173000 HO211 BK172 BK215 BK216 HB hx217_0 hHeld ⊢
                 refine pure_ (i := 0) (N := some 163) (v := ?_) (a' := ?_) #[true, false, false, false, false, false, false, false, false, false, false] rfl rfl (any_of HT_.out (by kernel_rfl)) (fun _ _ _ h => h) (Or.inl ⟨by rfl, ?_⟩) ?_ ?_
                 rotate_left
                 · intro w'; go_simp
                   with_reducible rfl
                 rotate_left
                 · simp only [Act.put, sa, sb, sc, i64_w, i32_w]
                   rfl
                 refine pure_ (i := 1) (N := some 164) (v := ?_) (a' := ?_) #[true, true, false, false, false, false, false, false, false, false, false] rfl rfl (any_of HT_.out (by kernel_rfl)) (fun _ _ _ h => h) (Or.inl ⟨by rfl, ?_⟩) ?_ ?_
                 rotate_left
                 · intro w'; go_simp
                   with_reducible rfl
                 rotate_left
                 · simp only [Act.put, sa, sb, sc, i64_w, i32_w]
                   rfl
                 refine pure_ (i := 2) (N := some 165) (v := ?_) (a' := ?_) #[true, true, true, false, false, false, false, false, false, false, false] rfl rfl (any_of HT_.out (by kernel_rfl)) (fun _ _ _ h => h) (Or.inl ⟨by rfl, ?_⟩) ?_ ?_
                 rotate_left
                 · intro w'; go_simp
                   with_reducible rfl
                 rotate_left
                 · simp only [Act.put, sa, sb, sc, i64_w, i32_w]
                   rfl
                 refine pure_ (i := 3) (N := some 166) (v := ?_) (a' := ?_) #[true, true, true, true, false, false, false, false, false, false, false] rfl rfl (any_of HT_.out (by kernel_rfl)) (fun _ _ _ h => h) (Or.inl ⟨by rfl, ?_⟩) ?_ ?_
                 rotate_left
                 · intro w'; go_simp
                   with_reducible rfl
                 rotate_left
                 · simp only [Act.put, sa, sb, sc, i64_w, i32_w]
                   rfl
                 refine pure_ (i := 5) (N := some 168) (v := ?_) (a' := ?_) #[true, true, true, true, false, true, false, false, false, false, false] rfl rfl (any_of HT_.out (by kernel_rfl)) (fun _ _ _ h => h) (Or.inl ⟨by rfl, ?_⟩) ?_ ?_
                 rotate_left
                 · intro w'; go_simp
                   with_reducible rfl
                 rotate_left
                 · simp only [Act.put, sa, sb, sc, i64_w, i32_w]
                   rfl
                 refine pure_ (i := 6) (N := some 169) (v := ?_) (a' := ?_) #[true, true, true, true, false, true, true, false, false, false, false] rfl rfl (any_of HT_.out (by kernel_rfl)) (fun _ _ _ h => h) (Or.inl ⟨by rfl, ?_⟩) ?_ ?_
                 rotate_left
                 · intro w'; go_simp
                   with_reducible rfl
                 rotate_left
                 · simp only [Act.put, sa, sb, sc, i64_w, i32_w]
                   rfl
                 refine pure_ (i := 7) (N := some 170) (v := ?_) (a' := ?_) #[true, true, true, true, false, true, true, true, false, false, false] rfl rfl (any_of HT_.out (by kernel_rfl)) (fun _ _ _ h => h) (Or.inl ⟨by rfl, ?_⟩) ?_ ?_
                 rotate_left
                 · intro w'; go_simp
                   with_reducible rfl
                 rotate_left
                 · simp only [Act.put, sa, sb, sc, i64_w, i32_w]
                   rfl
                 refine take_ (i := 4) (N := some 167) (v := ?_) (a' := ?_) #[true, true, true, true, true, true, true, true, false, false, false] rfl rfl (take_ofW HT_.out HW_.out (by kernel_rfl)) (fun _ _ _ h => h) (Or.inl ⟨by rfl, ?_⟩) hHeld ?_ ?_
                 rotate_left
                 · rintro w' ⟨s0, s1, s2⟩
                   go_simp
                   with_reducible rfl
                 rotate_left
                 · simp only [Act.put, sa, sb, sc, i64_w, i32_w]
                   rfl
                 refine take_ (i := 8) (N := some 171) (v := ?_) (a' := ?_) #[true, true, true, true, true, true, true, true, true, false, false] rfl rfl (take_ofW HT_.out HW_.out (by kernel_rfl)) (fun _ _ _ h => h) (Or.inl ⟨by rfl, ?_⟩) hHeld ?_ ?_
                 rotate_left
                 · rintro w' ⟨s0, s1, s2⟩
                   go_simp
                   with_reducible rfl
                 rotate_left
                 · simp only [Act.put, sa, sb, sc, i64_w, i32_w]
                   rfl
                 refine pure_ (i := 9) (N := some 172) (v := ?_) (a' := ?_) #[true, true, true, true, true, true, true, true, true, true, false] rfl rfl (any_of HT_.out (by kernel_rfl)) (fun _ _ _ h => h) (Or.inl ⟨by rfl, ?_⟩) ?_ ?_
                 rotate_left
                 · intro w'; go_simp
                   with_reducible rfl
                 rotate_left
                 · simp only [Act.put, sa, sb, sc, i64_w, i32_w]
                   rfl
                 refine pure_ (i := 10) (N := some 173) (v := ?_) (a' := ?_) #[true, true, true, true, true, true, true, true, true, true, true] rfl rfl (any_of HT_.out (by kernel_rfl)) (fun _ _ _ h => h) (Or.inl ⟨by rfl, ?_⟩) ?_ ?_
                 rotate_left
                 · intro w'; go_simp
                   with_reducible rfl
                 rotate_left
                 · simp only [Act.put, sa, sb, sc, i64_w, i32_w]
                   rfl
                 refine done_ (done_of HT_.out (by kernel_rfl)) ?_
                 obtain ⟨hcz104_0, hfz104_0⟩ := cel1 BK215; obtain ⟨hcz105_0, hfz105_0⟩ := cel1 BK172; try go_wp2
                 go_roundg k2
                 case measure => have := HK1.out; have := HK2.out; omega
                 case rel => exact ⟨(wrap64 (x16_2 + 1)), (t209), (.slice Ao96 t209.length co96), eqA, H', ⟨by have := HK1.out; have := HK2.out; omega⟩, ⟨rE (Kd.R_mono (Kd.R_far (p := ⟨gb172, 0, none⟩) (Kd.R_types HO_4.out BK172.out (by decide)) (fun _ hk => hk.2) (.slice Ao96 t209.length co96)) (fun _ hk => trivial))⟩, ⟨rE (Kd.R_mono (Kd.R_far (p := ⟨gb172, 0, none⟩) (Kd.R_types HO211.out BK172.out (by decide)) (fun _ hk => hk.2) (.slice Ao96 t209.length co96)) (fun _ hk => trivial))⟩, ⟨by (with_reducible repeat (first | refine blk_drewN ?_ _ | refine blk_drew ?_ | refine blk_alloc ?_ _)); refine blk_put (cs := #[.slice Ao92 x173000_2.length co92]) ?_ 0 _ rfl; (with_reducible repeat (first | refine blk_drewN ?_ _ | refine blk_drew ?_ | refine blk_alloc ?_ _)); exact BK172.out⟩, ⟨belA⟩⟩
               · rw [if_neg c89] at H; have c89b0 : (t212 == (rd x4_1 x16_2)) = false := beq_eq_false_iff_ne.mpr c89; have c89b1 : (t212 != (rd x4_1 x16_2)) = true := bne_iff_ne.mpr c89; obtain rfl := Option.some.inj H; obtain ⟨Ao106, co106, eo106⟩ := Kd.R_slice HO_4.out; subst eo106; obtain ⟨hcz107_0, hfz107_0⟩ := cel1 BK172; obtain ⟨Ao108, co108, eo108⟩ := Kd.R_slice HO_173000.out; subst eo108; try go_wp2_with (first | ((with_reducible refine gate_callee (f := 46) rfl ?_); refine goA (some 159) Try.func46 #[.agg #[.slice Ao108 x173000_2.length co108]] rfl ?_; (with_reducible refine (impl_Pop.calls k2 _ _ x173000_2 t209 t212 t213 true _ ?side1 ?side2 A86.out).mono ?_); (case side1 => exact cA ((Kd.R_reads' HO_173000.out).2.2)); (case side2 => exact (Kd.R_reads' HO_173000.out).2.1); rintro e w109 ⟨v210, rfl, ho0, hb⟩; refine ⟨_, rfl, ?_⟩; have HO211 := rL (Kd.R_new' ho0 (rT HO_173000)); replace HO_4 := rB HO_4 hb; replace HO_173000 := rD HO_173000 (Kd.R_base ho0) hb; replace BK172 := bB BK172 hb; replace HB := bS hb; (try clear hb); (try clear hb2); (try clear hk); (try clear hi); (try clear ho0)) | ((with_reducible refine gate_dst (N := 17) rfl ?_); (try (refine gate_guard (by rfl) ?_; dsimp only)); refine boxA 17 #[.slice none 0 0] 61 ?_; intro gb215 hg w110 hbox hb; have BK215 := Aside0.mk hbox; have GW215 := leA (w := w) hg; have GE215 := leA (w := w) hg; have NB172_215 := neL hg BK172; have NB215_172 := neG hg BK172; replace HO_4 := rB HO_4 hb; replace HO_173000 := rB HO_173000 hb; replace HO211 := rB HO211 hb; replace BK172 := bB BK172 hb; replace HB := bS hb; clear hb hbox hg) | ((with_reducible refine gate_dst (N := 18) rfl ?_); (try (refine gate_guard (by rfl) ?_; dsimp only)); refine boxA 18 #[.int .i64 0, .int .i64 0] 65 ?_; intro gb216 hg w111 hbox hb; have BK216 := Aside0.mk hbox; have GW216 := leA (w := w) hg; have GE216 := leA (w := w) hg; have NB172_216 := neL hg BK172; have NB216_172 := neG hg BK172; have NB215_216 := neL hg BK215; have NB216_215 := neG hg BK215; replace HO_4 := rB HO_4 hb; replace HO_173000 := rC HO_173000 hg hb; replace HO211 := rC HO211 hg hb; replace BK172 := bB BK172 hb; replace BK215 := bB BK215 hb; replace HB := bS hb; clear hb hbox hg; obtain ⟨Ao112, co112, eo112⟩ := Kd.R_slice HO211.out; subst eo112; have hnb113 := NB215_172.out; have hnc113 := NB172_215.out; have hnb114 := NB215_216.out; have hnc114 := NB216_215.out; obtain ⟨hcz115_0, hfz115_0⟩ := cel1 BK215; have hnb116 := NB216_172.out; have hnc116 := NB172_216.out; obtain ⟨hcz117_0, hcz117_1, hfz117_0, hfz117_1⟩ := cel2 BK216))
                 generalize hw_ : (((w111.setCell ⟨gb215, 0, none⟩ (.slice Ao112 t209.length co112)).setCell ⟨gb216, 0, none⟩ (.int .i64 t212)).setCell ⟨gb216, 1, none⟩ (.int .i64 t213)) = w118; have n0_ : Aside0 (Kd.R (Kd.int .i64) 3 w118 w.heap.size (fun _ => True) (.slice Ao106 x4_1.length co106) x4_1) := ⟨by rw [← hw_]; exact (Kd.R_mono (Kd.R_far (p := ⟨gb216, 1, none⟩) (Kd.R_far (p := ⟨gb216, 0, none⟩) (Kd.R_far (p := ⟨gb215, 0, none⟩) (Kd.R_types (Kd.R_types HO_4.out BK215.out (by decide)) BK216.out (by decide)) (fun _ hk => hk.1.2) (.slice Ao112 t209.length co112)) (fun _ hk => hk.2) (.int .i64 t212)) (fun _ hk => hk.2) (.int .i64 t213)) (fun _ hk => trivial))⟩; have n1_ : Aside0 (Kd.R k65 65 w118 w.heap.size (fun k_ => some k_ ≠ (.slice Ao112 t209.length co112 : Value).ownBlock ∧ k_ ≠ gb216) (.slice Ao108 x173000_2.length co108) x173000_2) := ⟨by rw [← hw_]; exact (Kd.R_mono (Kd.R_far (p := ⟨gb216, 1, none⟩) (Kd.R_far (p := ⟨gb216, 0, none⟩) (Kd.R_far (p := ⟨gb215, 0, none⟩) (Kd.R_mono (Kd.R_types HO_173000.out BK215.out (by decide)) (fun k_ hk => (⟨hk, hk.1.2⟩ : _ ∧ k_ ≠ gb216))) (fun _ hk => hk.1.2) (.slice Ao112 t209.length co112)) (fun _ hk => hk.2) (.int .i64 t212)) (fun _ hk => hk.2) (.int .i64 t213)) (fun _ hk => ⟨hk.1.1.1.2, hk.1.1.2⟩))⟩; have n2_ : Aside0 (Kd.R k65 65 w118 w.heap.size (fun k_ => some k_ ≠ (.slice Ao108 x173000_2.length co108 : Value).ownBlock ∧ k_ ≠ gb216) (.slice Ao112 t209.length co112) t209) := ⟨by rw [← hw_]; exact (Kd.R_mono (Kd.R_far (p := ⟨gb216, 1, none⟩) (Kd.R_far (p := ⟨gb216, 0, none⟩) (Kd.R_far (p := ⟨gb215, 0, none⟩) (Kd.R_mono (Kd.R_types HO211.out BK215.out (by decide)) (fun k_ hk => (⟨hk, hk.1.2⟩ : _ ∧ k_ ≠ gb216))) (fun _ hk => hk.1.2) (.slice Ao112 t209.length co112)) (fun _ hk => hk.2) (.int .i64 t212)) (fun _ hk => hk.2) (.int .i64 t213)) (fun _ hk => ⟨hk.1.1.1.2, hk.1.1.2⟩))⟩; have n3_ : Aside0 (w118.heap[gb172]? = some (.cells #[.slice Ao108 x173000_2.length co108] 61 (0, 0))) := ⟨by rw [← hw_]; refine blk_far ?_ NB172_216.out _; refine blk_far ?_ NB172_216.out _; refine blk_far ?_ NB172_215.out _; exact BK172.out⟩; have n4_ : Aside0 (w118.heap[gb215]? = some (.cells #[.slice Ao112 t209.length co112] 61 (0, 0))) := ⟨by rw [← hw_]; refine blk_far ?_ NB215_216.out _; refine blk_far ?_ NB215_216.out _; refine blk_put (cs := #[.slice none 0 0]) ?_ 0 _ rfl; exact BK215.out⟩; have n5_ : Aside0 (w118.heap[gb216]? = some (.cells #[.int .i64 t212, .int .i64 t213] 65 (0, 0))) := ⟨by rw [← hw_]; refine blk_put (cs := #[.int .i64 t212, .int .i64 0]) ?_ 1 _ rfl; refine blk_put (cs := #[.int .i64 0, .int .i64 0]) ?_ 0 _ rfl; refine blk_far ?_ NB216_215.out _; exact BK216.out⟩; have n6_ : Aside0 (Below w.heap.size w w118) := ⟨by rw [← hw_]; exact belA⟩; (try clear HO_4); (try clear HO_173000); (try clear HO211); (try clear BK172); (try clear BK215); (try clear BK216); (try clear HB); clear hw_; have HO_4 := n0_; have HO_173000 := n1_; have HO211 := n2_; have BK172 := n3_; have BK215 := n4_; have BK216 := n5_; have HB := n6_; clear n0_ n1_ n2_ n3_ n4_ n5_ n6_; replace HO_4 := Aside0.mk (Kd.R_drew HO_4.out); replace HO_173000 := Aside0.mk (Kd.R_drew HO_173000.out); replace HO211 := Aside0.mk (Kd.R_drew HO211.out); replace BK172 := Aside0.mk (blk_drew BK172.out); replace BK215 := Aside0.mk (blk_drew BK215.out); replace BK216 := Aside0.mk (blk_drew BK216.out); replace HB := Aside0.mk (below_drew1 HB.out); have p217 : 0 ≤ (x16_2 : Int) := odA; have q217 : x16_2 < (x4_1.length : Int) := odA; obtain ⟨ad217, e217, hx217_0⟩ := Kd.at_int (Kd.R_reads' HO_4.out).2.2 x16_2 p217 q217
                 cases e217
                 replace p217 := eq_true p217; replace q217 := eq_true q217; refine start_ (n := 11) (S := fun w' => w'.cell? ⟨gb216, 0, none⟩ = some (.int .i64 t212) ∧ w'.cell? ⟨gb216, 1, none⟩ = some (.int .i64 t213) ∧ w'.cell? (ad217.add (x16_2).toNat) = some (.int .i64 (rd x4_1 x16_2))) (ds := []) #[false, false, false, false, false, false, false, false, false, false, false] (by kernel_rfl) rfl rfl ⟨(blk_cell BK216.out 0).trans rfl, (blk_cell BK216.out 1).trans rfl, hx217_0⟩ (fun hHeld => ?_); refine with_tabW laws_FnLineOrder.tab34 laws_FnLineOrder.bits34 (fun HT_ HW_ => ?_)
                 generalize w118.drew = w119 at HO_4 HO_173000 HO211 BK172 BK215 BK216 HB hx217_0 hHeld ⊢
                 refine pure_ (i := 0) (N := some 163) (v := ?_) (a' := ?_) #[true, false, false, false, false, false, false, false, false, false, false] rfl rfl (any_of HT_.out (by kernel_rfl)) (fun _ _ _ h => h) (Or.inl ⟨by rfl, ?_⟩) ?_ ?_
                 rotate_left
                 · intro w'; go_simp
                   with_reducible rfl
                 rotate_left
                 · simp only [Act.put, sa, sb, sc, i64_w, i32_w]
                   rfl
                 refine pure_ (i := 1) (N := some 164) (v := ?_) (a' := ?_) #[true, true, false, false, false, false, false, false, false, false, false] rfl rfl (any_of HT_.out (by kernel_rfl)) (fun _ _ _ h => h) (Or.inl ⟨by rfl, ?_⟩) ?_ ?_
                 rotate_left
                 · intro w'; go_simp
                   with_reducible rfl
                 rotate_left
                 · simp only [Act.put, sa, sb, sc, i64_w, i32_w]
                   rfl
                 refine pure_ (i := 2) (N := some 165) (v := ?_) (a' := ?_) #[true, true, true, false, false, false, false, false, false, false, false] rfl rfl (any_of HT_.out (by kernel_rfl)) (fun _ _ _ h => h) (Or.inl ⟨by rfl, ?_⟩) ?_ ?_
                 rotate_left
                 · intro w'; go_simp
                   with_reducible rfl
                 rotate_left
                 · simp only [Act.put, sa, sb, sc, i64_w, i32_w]
                   rfl
                 refine pure_ (i := 3) (N := some 166) (v := ?_) (a' := ?_) #[true, true, true, true, false, false, false, false, false, false, false] rfl rfl (any_of HT_.out (by kernel_rfl)) (fun _ _ _ h => h) (Or.inl ⟨by rfl, ?_⟩) ?_ ?_
                 rotate_left
                 · intro w'; go_simp
                   with_reducible rfl
                 rotate_left
                 · simp only [Act.put, sa, sb, sc, i64_w, i32_w]
                   rfl
                 refine pure_ (i := 5) (N := some 168) (v := ?_) (a' := ?_) #[true, true, true, true, false, true, false, false, false, false, false] rfl rfl (any_of HT_.out (by kernel_rfl)) (fun _ _ _ h => h) (Or.inl ⟨by rfl, ?_⟩) ?_ ?_
                 rotate_left
                 · intro w'; go_simp
                   with_reducible rfl
                 rotate_left
                 · simp only [Act.put, sa, sb, sc, i64_w, i32_w]
                   rfl
                 refine pure_ (i := 6) (N := some 169) (v := ?_) (a' := ?_) #[true, true, true, true, false, true, true, false, false, false, false] rfl rfl (any_of HT_.out (by kernel_rfl)) (fun _ _ _ h => h) (Or.inl ⟨by rfl, ?_⟩) ?_ ?_
                 rotate_left
                 · intro w'; go_simp
                   with_reducible rfl
                 rotate_left
                 · simp only [Act.put, sa, sb, sc, i64_w, i32_w]
                   rfl
                 refine pure_ (i := 7) (N := some 170) (v := ?_) (a' := ?_) #[true, true, true, true, false, true, true, true, false, false, false] rfl rfl (any_of HT_.out (by kernel_rfl)) (fun _ _ _ h => h) (Or.inl ⟨by rfl, ?_⟩) ?_ ?_
                 rotate_left
                 · intro w'; go_simp
                   with_reducible rfl
                 rotate_left
                 · simp only [Act.put, sa, sb, sc, i64_w, i32_w]
                   rfl
                 refine take_ (i := 4) (N := some 167) (v := ?_) (a' := ?_) #[true, true, true, true, true, true, true, true, false, false, false] rfl rfl (take_ofW HT_.out HW_.out (by kernel_rfl)) (fun _ _ _ h => h) (Or.inl ⟨by rfl, ?_⟩) hHeld ?_ ?_
                 rotate_left
                 · rintro w' ⟨s0, s1, s2⟩
                   go_simp
                   with_reducible rfl
                 rotate_left
                 · simp only [Act.put, sa, sb, sc, i64_w, i32_w]
                   rfl
                 refine take_ (i := 8) (N := some 171) (v := ?_) (a' := ?_) #[true, true, true, true, true, true, true, true, true, false, false] rfl rfl (take_ofW HT_.out HW_.out (by kernel_rfl)) (fun _ _ _ h => h) (Or.inl ⟨by rfl, ?_⟩) hHeld ?_ ?_
                 rotate_left
                 · rintro w' ⟨s0, s1, s2⟩
                   go_simp
                   with_reducible rfl
                 rotate_left
                 · simp only [Act.put, sa, sb, sc, i64_w, i32_w]
                   rfl
                 refine pure_ (i := 9) (N := some 172) (v := ?_) (a' := ?_) #[true, true, true, true, true, true, true, true, true, true, false] rfl rfl (any_of HT_.out (by kernel_rfl)) (fun _ _ _ h => h) (Or.inl ⟨by rfl, ?_⟩) ?_ ?_
                 rotate_left
                 · intro w'; go_simp
                   with_reducible rfl
                 rotate_left
                 · simp only [Act.put, sa, sb, sc, i64_w, i32_w]
                   rfl
                 refine pure_ (i := 10) (N := some 173) (v := ?_) (a' := ?_) #[true, true, true, true, true, true, true, true, true, true, true] rfl rfl (any_of HT_.out (by kernel_rfl)) (fun _ _ _ h => h) (Or.inl ⟨by rfl, ?_⟩) ?_ ?_
                 rotate_left
                 · intro w'; go_simp
                   with_reducible rfl
                 rotate_left
                 · simp only [Act.put, sa, sb, sc, i64_w, i32_w]
                   rfl
                 refine done_ (done_of HT_.out (by kernel_rfl)) ?_
                 try go_wp2
                 go_ret
                 exact ⟨by first | rfl | (simp [errW_none, errW_some] <;> rfl) | (simp [*, errW_none, errW_some] <;> rfl) | (simp [wrap64]; done) | (simp [*, wrap64]; done), belA⟩
             · rw [if_neg c88] at H; exact absurd H (by simp)
           · replace c87 := Bool.eq_false_iff.mpr c87; subst c87; have H1 : (some false) = some r := by rw [if_neg (show ¬ (false = true) by decide)] at H; exact H
             clear H; have H := H1; clear H1; obtain rfl := Option.some.inj H; obtain ⟨Ao120, co120, eo120⟩ := Kd.R_slice HO_4.out; subst eo120; obtain ⟨hcz121_0, hfz121_0⟩ := cel1 BK172; obtain ⟨Ao122, co122, eo122⟩ := Kd.R_slice HO_173000.out; subst eo122; try go_wp2_with (first | ((with_reducible refine gate_callee (f := 46) rfl ?_); refine goA (some 159) Try.func46 #[.agg #[.slice Ao122 x173000_2.length co122]] rfl ?_; (with_reducible refine (impl_Pop.calls k2 _ _ x173000_2 t209 t212 t213 false _ ?side1 ?side2 A86.out).mono ?_); (case side1 => exact cA ((Kd.R_reads' HO_173000.out).2.2)); (case side2 => exact (Kd.R_reads' HO_173000.out).2.1); rintro e w123 ⟨v210, rfl, ho0, hb⟩; refine ⟨_, rfl, ?_⟩; have HO211 := rL (Kd.R_new' ho0 (rT HO_173000)); replace HO_4 := rB HO_4 hb; replace HO_173000 := rD HO_173000 (Kd.R_base ho0) hb; replace BK172 := bB BK172 hb; replace HB := bS hb; (try clear hb); (try clear hb2); (try clear hk); (try clear hi); (try clear ho0)) | ((with_reducible refine gate_dst (N := 17) rfl ?_); (try (refine gate_guard (by rfl) ?_; dsimp only)); refine boxA 17 #[.slice none 0 0] 61 ?_; intro gb215 hg w124 hbox hb; have BK215 := Aside0.mk hbox; have GW215 := leA (w := w) hg; have GE215 := leA (w := w) hg; have NB172_215 := neL hg BK172; have NB215_172 := neG hg BK172; replace HO_4 := rB HO_4 hb; replace HO_173000 := rB HO_173000 hb; replace HO211 := rB HO211 hb; replace BK172 := bB BK172 hb; replace HB := bS hb; clear hb hbox hg) | ((with_reducible refine gate_dst (N := 18) rfl ?_); (try (refine gate_guard (by rfl) ?_; dsimp only)); refine boxA 18 #[.int .i64 0, .int .i64 0] 65 ?_; intro gb216 hg w125 hbox hb; have BK216 := Aside0.mk hbox; have GW216 := leA (w := w) hg; have GE216 := leA (w := w) hg; have NB172_216 := neL hg BK172; have NB216_172 := neG hg BK172; have NB215_216 := neL hg BK215; have NB216_215 := neG hg BK215; replace HO_4 := rB HO_4 hb; replace HO_173000 := rC HO_173000 hg hb; replace HO211 := rC HO211 hg hb; replace BK172 := bB BK172 hb; replace BK215 := bB BK215 hb; replace HB := bS hb; clear hb hbox hg; obtain ⟨Ao126, co126, eo126⟩ := Kd.R_slice HO211.out; subst eo126; have hnb127 := NB215_172.out; have hnc127 := NB172_215.out; have hnb128 := NB215_216.out; have hnc128 := NB216_215.out; obtain ⟨hcz129_0, hfz129_0⟩ := cel1 BK215; have hnb130 := NB216_172.out; have hnc130 := NB172_216.out; obtain ⟨hcz131_0, hcz131_1, hfz131_0, hfz131_1⟩ := cel2 BK216))
             generalize hw_ : (((w125.setCell ⟨gb215, 0, none⟩ (.slice Ao126 t209.length co126)).setCell ⟨gb216, 0, none⟩ (.int .i64 t212)).setCell ⟨gb216, 1, none⟩ (.int .i64 t213)) = w132; have n0_ : Aside0 (Kd.R (Kd.int .i64) 3 w132 w.heap.size (fun _ => True) (.slice Ao120 x4_1.length co120) x4_1) := ⟨by rw [← hw_]; exact (Kd.R_mono (Kd.R_far (p := ⟨gb216, 1, none⟩) (Kd.R_far (p := ⟨gb216, 0, none⟩) (Kd.R_far (p := ⟨gb215, 0, none⟩) (Kd.R_types (Kd.R_types HO_4.out BK215.out (by decide)) BK216.out (by decide)) (fun _ hk => hk.1.2) (.slice Ao126 t209.length co126)) (fun _ hk => hk.2) (.int .i64 t212)) (fun _ hk => hk.2) (.int .i64 t213)) (fun _ hk => trivial))⟩; have n1_ : Aside0 (Kd.R k65 65 w132 w.heap.size (fun k_ => some k_ ≠ (.slice Ao126 t209.length co126 : Value).ownBlock ∧ k_ ≠ gb216) (.slice Ao122 x173000_2.length co122) x173000_2) := ⟨by rw [← hw_]; exact (Kd.R_mono (Kd.R_far (p := ⟨gb216, 1, none⟩) (Kd.R_far (p := ⟨gb216, 0, none⟩) (Kd.R_far (p := ⟨gb215, 0, none⟩) (Kd.R_mono (Kd.R_types HO_173000.out BK215.out (by decide)) (fun k_ hk => (⟨hk, hk.1.2⟩ : _ ∧ k_ ≠ gb216))) (fun _ hk => hk.1.2) (.slice Ao126 t209.length co126)) (fun _ hk => hk.2) (.int .i64 t212)) (fun _ hk => hk.2) (.int .i64 t213)) (fun _ hk => ⟨hk.1.1.1.2, hk.1.1.2⟩))⟩; have n2_ : Aside0 (Kd.R k65 65 w132 w.heap.size (fun k_ => some k_ ≠ (.slice Ao122 x173000_2.length co122 : Value).ownBlock ∧ k_ ≠ gb216) (.slice Ao126 t209.length co126) t209) := ⟨by rw [← hw_]; exact (Kd.R_mono (Kd.R_far (p := ⟨gb216, 1, none⟩) (Kd.R_far (p := ⟨gb216, 0, none⟩) (Kd.R_far (p := ⟨gb215, 0, none⟩) (Kd.R_mono (Kd.R_types HO211.out BK215.out (by decide)) (fun k_ hk => (⟨hk, hk.1.2⟩ : _ ∧ k_ ≠ gb216))) (fun _ hk => hk.1.2) (.slice Ao126 t209.length co126)) (fun _ hk => hk.2) (.int .i64 t212)) (fun _ hk => hk.2) (.int .i64 t213)) (fun _ hk => ⟨hk.1.1.1.2, hk.1.1.2⟩))⟩; have n3_ : Aside0 (w132.heap[gb172]? = some (.cells #[.slice Ao122 x173000_2.length co122] 61 (0, 0))) := ⟨by rw [← hw_]; refine blk_far ?_ NB172_216.out _; refine blk_far ?_ NB172_216.out _; refine blk_far ?_ NB172_215.out _; exact BK172.out⟩; have n4_ : Aside0 (w132.heap[gb215]? = some (.cells #[.slice Ao126 t209.length co126] 61 (0, 0))) := ⟨by rw [← hw_]; refine blk_far ?_ NB215_216.out _; refine blk_far ?_ NB215_216.out _; refine blk_put (cs := #[.slice none 0 0]) ?_ 0 _ rfl; exact BK215.out⟩; have n5_ : Aside0 (w132.heap[gb216]? = some (.cells #[.int .i64 t212, .int .i64 t213] 65 (0, 0))) := ⟨by rw [← hw_]; refine blk_put (cs := #[.int .i64 t212, .int .i64 0]) ?_ 1 _ rfl; refine blk_put (cs := #[.int .i64 0, .int .i64 0]) ?_ 0 _ rfl; refine blk_far ?_ NB216_215.out _; exact BK216.out⟩; have n6_ : Aside0 (Below w.heap.size w w132) := ⟨by rw [← hw_]; exact belA⟩; (try clear HO_4); (try clear HO_173000); (try clear HO211); (try clear BK172); (try clear BK215); (try clear BK216); (try clear HB); clear hw_; have HO_4 := n0_; have HO_173000 := n1_; have HO211 := n2_; have BK172 := n3_; have BK215 := n4_; have BK216 := n5_; have HB := n6_; clear n0_ n1_ n2_ n3_ n4_ n5_ n6_; replace HO_4 := Aside0.mk (Kd.R_drew HO_4.out); replace HO_173000 := Aside0.mk (Kd.R_drew HO_173000.out); replace HO211 := Aside0.mk (Kd.R_drew HO211.out); replace BK172 := Aside0.mk (blk_drew BK172.out); replace BK215 := Aside0.mk (blk_drew BK215.out); replace BK216 := Aside0.mk (blk_drew BK216.out); replace HB := Aside0.mk (below_drew1 HB.out); refine start_ (n := 11) (S := fun w' => True) (ds := []) #[false, false, false, false, false, false, false, false, false, false, false] (by kernel_rfl) rfl rfl trivial (fun hHeld => ?_); refine with_tabW laws_FnLineOrder.tab34 laws_FnLineOrder.bits34 (fun HT_ HW_ => ?_)
             generalize w132.drew = w133 at HO_4 HO_173000 HO211 BK172 BK215 BK216 HB hHeld ⊢
             refine pure_ (i := 0) (N := some 163) (v := ?_) (a' := ?_) #[true, false, false, false, false, false, false, false, false, false, false] rfl rfl (any_of HT_.out (by kernel_rfl)) (fun _ _ _ h => h) (Or.inl ⟨by rfl, ?_⟩) ?_ ?_
             rotate_left
             · intro w'; go_simp
               with_reducible rfl
             rotate_left
             · simp only [Act.put, sa, sb, sc, i64_w, i32_w]
               rfl
             refine pure_ (i := 1) (N := some 164) (v := ?_) (a' := ?_) #[true, true, false, false, false, false, false, false, false, false, false] rfl rfl (any_of HT_.out (by kernel_rfl)) (fun _ _ _ h => h) (Or.inl ⟨by rfl, ?_⟩) ?_ ?_
             rotate_left
             · intro w'; go_simp
               with_reducible rfl
             rotate_left
             · simp only [Act.put, sa, sb, sc, i64_w, i32_w]
               rfl
             refine pure_ (i := 2) (N := some 165) (v := ?_) (a' := ?_) #[true, true, true, false, false, false, false, false, false, false, false] rfl rfl (any_of HT_.out (by kernel_rfl)) (fun _ _ _ h => h) (Or.inl ⟨by rfl, ?_⟩) ?_ ?_
             rotate_left
             · intro w'; go_simp
               with_reducible rfl
             rotate_left
             · simp only [Act.put, sa, sb, sc, i64_w, i32_w]
               rfl
             refine pure_ (i := 3) (N := some 166) (v := undef) (a' := ?_) #[true, true, true, true, false, false, false, false, false, false, false] rfl rfl (any_of HT_.out (by kernel_rfl)) (fun _ _ _ h => h) (Or.inr ⟨by rfl, rfl⟩) ?_ ?_
             rotate_left
             · simp only [Act.put, sa, sb, sc, i64_w, i32_w]
               rfl
             refine pure_ (i := 4) (N := some 167) (v := undef) (a' := ?_) #[true, true, true, true, true, false, false, false, false, false, false] rfl rfl (any_of HT_.out (by kernel_rfl)) (fun _ _ _ h => h) (Or.inr ⟨by rfl, rfl⟩) ?_ ?_
             rotate_left
             · simp only [Act.put, sa, sb, sc, i64_w, i32_w]
               rfl
             refine pure_ (i := 5) (N := some 168) (v := undef) (a' := ?_) #[true, true, true, true, true, true, false, false, false, false, false] rfl rfl (any_of HT_.out (by kernel_rfl)) (fun _ _ _ h => h) (Or.inr ⟨by rfl, rfl⟩) ?_ ?_
             rotate_left
             · simp only [Act.put, sa, sb, sc, i64_w, i32_w]
               rfl
             refine pure_ (i := 6) (N := some 169) (v := undef) (a' := ?_) #[true, true, true, true, true, true, true, false, false, false, false] rfl rfl (any_of HT_.out (by kernel_rfl)) (fun _ _ _ h => h) (Or.inr ⟨by rfl, rfl⟩) ?_ ?_
             rotate_left
             · simp only [Act.put, sa, sb, sc, i64_w, i32_w]
               rfl
             refine pure_ (i := 7) (N := some 170) (v := undef) (a' := ?_) #[true, true, true, true, true, true, true, true, false, false, false] rfl rfl (any_of HT_.out (by kernel_rfl)) (fun _ _ _ h => h) (Or.inr ⟨by rfl, rfl⟩) ?_ ?_
             rotate_left
             · simp only [Act.put, sa, sb, sc, i64_w, i32_w]
               rfl
             refine pure_ (i := 8) (N := some 171) (v := undef) (a' := ?_) #[true, true, true, true, true, true, true, true, true, false, false] rfl rfl (any_of HT_.out (by kernel_rfl)) (fun _ _ _ h => h) (Or.inr ⟨by rfl, rfl⟩) ?_ ?_
             rotate_left
             · simp only [Act.put, sa, sb, sc, i64_w, i32_w]
               rfl
             refine pure_ (i := 9) (N := some 172) (v := undef) (a' := ?_) #[true, true, true, true, true, true, true, true, true, true, false] rfl rfl (any_of HT_.out (by kernel_rfl)) (fun _ _ _ h => h) (Or.inr ⟨by rfl, rfl⟩) ?_ ?_
             rotate_left
             · simp only [Act.put, sa, sb, sc, i64_w, i32_w]
               rfl
             refine pure_ (i := 10) (N := some 173) (v := ?_) (a' := ?_) #[true, true, true, true, true, true, true, true, true, true, true] rfl rfl (any_of HT_.out (by kernel_rfl)) (fun _ _ _ h => h) (Or.inl ⟨by rfl, ?_⟩) ?_ ?_
             rotate_left
             · intro w'; go_simp
               with_reducible rfl
             rotate_left
             · simp only [Act.put, sa, sb, sc, i64_w, i32_w]
               rfl
             refine done_ (done_of HT_.out (by kernel_rfl)) ?_
             try go_wp2
             go_ret
             exact ⟨by first | rfl | (simp [errW_none, errW_some] <;> rfl) | (simp [*, errW_none, errW_some] <;> rfl) | (simp [wrap64]; done) | (simp [*, wrap64]; done), belA⟩
         · rw [if_neg c85] at H; have c85b0 := decide_eq_false c85; clear c85; replace H := Option.bind_eq_some_iff.mp H; obtain ⟨⟨t218, t221, t222, t223⟩, A1340, H⟩ := H; replace H : (some (!t223)) = some r := H
           have A134 := Aside0.mk A1340; clear A1340; obtain rfl := Option.some.inj H; obtain ⟨Ao135, co135, eo135⟩ := Kd.R_slice HO_4.out; subst eo135; obtain ⟨hcz136_0, hfz136_0⟩ := cel1 BK172; obtain ⟨Ao137, co137, eo137⟩ := Kd.R_slice HO_173000.out; subst eo137; go_wp2_with (first | ((with_reducible refine gate_callee (f := 46) rfl ?_); refine goA (some 177) Try.func46 #[.agg #[.slice Ao137 x173000_2.length co137]] rfl ?_; (with_reducible refine (impl_Pop.calls k2 _ _ x173000_2 t218 t221 t222 t223 _ ?side1 ?side2 A134.out).mono ?_); (case side1 => exact cA ((Kd.R_reads' HO_173000.out).2.2)); (case side2 => exact (Kd.R_reads' HO_173000.out).2.1); rintro e w138 ⟨v219, rfl, ho0, hb⟩; refine ⟨_, rfl, ?_⟩; have HO220 := rL (Kd.R_new' ho0 (rT HO_173000)); replace HO_4 := rB HO_4 hb; replace HO_173000 := rD HO_173000 (Kd.R_base ho0) hb; replace BK172 := bB BK172 hb; replace HB := bS hb; (try clear hb); (try clear hb2); (try clear hk); (try clear hi); (try clear ho0)) | ((with_reducible refine gate_dst (N := 20) rfl ?_); (try (refine gate_guard (by rfl) ?_; dsimp only)); refine boxA 20 #[.slice none 0 0] 61 ?_; intro gb224 hg w139 hbox hb; have BK224 := Aside0.mk hbox; have GW224 := leA (w := w) hg; have GE224 := leA (w := w) hg; have NB172_224 := neL hg BK172; have NB224_172 := neG hg BK172; replace HO_4 := rB HO_4 hb; replace HO_173000 := rB HO_173000 hb; replace HO220 := rB HO220 hb; replace BK172 := bB BK172 hb; replace HB := bS hb; clear hb hbox hg) | ((with_reducible refine gate_dst (N := 21) rfl ?_); (try (refine gate_guard (by rfl) ?_; dsimp only)); refine boxA 21 #[.int .i64 0, .int .i64 0] 65 ?_; intro gb225 hg w140 hbox hb; have BK225 := Aside0.mk hbox; have GW225 := leA (w := w) hg; have GE225 := leA (w := w) hg; have NB172_225 := neL hg BK172; have NB225_172 := neG hg BK172; have NB224_225 := neL hg BK224; have NB225_224 := neG hg BK224; replace HO_4 := rB HO_4 hb; replace HO_173000 := rC HO_173000 hg hb; replace HO220 := rC HO220 hg hb; replace BK172 := bB BK172 hb; replace BK224 := bB BK224 hb; replace HB := bS hb; clear hb hbox hg; obtain ⟨Ao141, co141, eo141⟩ := Kd.R_slice HO220.out; subst eo141; have hnb142 := NB224_172.out; have hnc142 := NB172_224.out; have hnb143 := NB224_225.out; have hnc143 := NB225_224.out; obtain ⟨hcz144_0, hfz144_0⟩ := cel1 BK224; have hnb145 := NB225_172.out; have hnc145 := NB172_225.out; obtain ⟨hcz146_0, hcz146_1, hfz146_0, hfz146_1⟩ := cel2 BK225))
           go_ret
           exact ⟨by first | rfl | (simp [errW_none, errW_some] <;> rfl) | (simp [*, errW_none, errW_some] <;> rfl) | (simp [wrap64]; done) | (simp [*, wrap64]; done), belA⟩

/-- THE ONE PURE STATEMENT of laws_FnLineOrder: yours. -/
def laws_FnLineOrder.Pure : Prop := ∀ (l0 : List Int), l0.length ≤ maxLen → l0.length * 1 ≤ 140737488351232 → (∀ x ∈ l0, (Lit.int .u8 x).wf = true) → ∃ k, laws_FnLineOrder.f k l0 = some true
theorem laws_FnLineOrder.walk (P : laws_FnLineOrder.Pure) (a0 : Option Addr) (len0 cap0 : Nat) (z0 : List Int) (w : World) (w0 : (a0 = none ∧ len0 = 0 ∧ cap0 = 0 ∧ z0 = []) ∨ ∃ x, a0 = some x ∧ len0 ≤ cap0 ∧ cap0 ≤ maxLen ∧ z0.length = cap0 ∧ (∀ i, i < z0.length → w.cell? (x.add i) = some (.int .u8 (z0.getD i 0))) ∧ ∀ n ∈ z0, (Lit.int .u8 n).wf = true) (y0 : len0 * 1 ≤ 140737488351232) :
 Calls Try.prog 7 #[.slice a0 len0 cap0] w fun e w' => e = .returned (.bool true) ∧ Below w.heap.size w w' := by
 obtain ⟨l0, rfl, hr0, hm0, hw0, hc0⟩ := ReadsInt.ofRowC w0; obtain ⟨k, h⟩ := P l0 hm0 y0 hw0; refine (laws_FnLineOrder.calls k _ _ l0 true w (Kd.C_of_reads (d := (0 : Int)) (h1 := fun _ => rfl) hr0) hc0 h).mono ?_
 rintro e w' ⟨rfl, hd⟩
 exact ⟨rfl, hd⟩

end Go.Proofs.Ytbojabmpcfclhaa.PFnLineOrder
