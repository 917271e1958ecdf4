/- The pure statement of FnResync, with no condition beyond the law's own. -/
import Derived.Test.YtdefnccngnilmaaZFRx17
import Derived.Test.YtdefnccngnilmaaZFRx19
namespace Go.Proofs.Ytdefnccngnilmaa.Pure
open Go.RowKit Go.Proofs.Ytdefnccngnilmaa.QFnResync Go.Proofs.Ytdefnccngnilmaa.PFnResync Go.Proofs.YtdefnccngnilmaaW.PrintWords Go.Proofs.YtdefnccngnilmaaW.PrintLast Go.Proofs.Ytdefnccngnilmaa.Math
set_option linter.unusedVariables false
set_option linter.unusedSimpArgs false

theorem sameBytes_l (v : List Int) (hv : v.length ≤ 1048576) : ∀ (d i : Nat), v.length - i = d → i ≤ v.length → Ev (fun k => laws_sameBytes.l0 k v v (i : Int)) true := by
  intro d
  induction d with
  | zero =>
    intro i hd hi
    refine ev_now fun k => ?_
    simp only [laws_sameBytes.l0]
    rw [if_neg (by omega)]
  | succ d ih =>
    intro i hd hi
    refine Ev.step (fun k => ?_) (ih (i + 1) (by omega) (by omega))
    simp only [laws_sameBytes.l0]
    rw [if_pos (by omega), if_pos (by omega), if_pos (by omega), if_pos trivial, wsucc (by omega)]
theorem sameFrame_ev (a b : Int) (v : List Int) (hv : v.length ≤ 1048576) : Ev (fun k => laws_sameFrame.f k a b v a b v) true := by
  simp only [laws_sameFrame.f, laws_sameBytes.f, if_true]
  exact Ev.bind (sameBytes_l v hv v.length 0 (by omega) (by omega)) (Ev.now _)
theorem cmpR_self (l : List Int) (n : Nat) : ∀ s, cmpR l n s s = frDone l n := by
  intro s
  induction s with
  | nil => unfold cmpR; rfl
  | cons a s ih => unfold cmpR; rw [if_pos rfl, ih]
/-- What decoding an encoded frame comes to. -/
theorem decF_enc (a b : Int) (v : List Int) (h : frOk a b v) : decF (encB a b v) = (a, b, v, ((13 + v.length : Nat) : Int), 0) ∧ (encB a b v).length = 13 + v.length := by
  obtain ⟨a0, a1, b0, b1, hl⟩ := h
  have hE : encB a b v = 199 :: 77 :: (a % 256) :: (b / 16777216 % 256) :: (b / 65536 % 256) :: (b / 256 % 256) :: (b % 256) :: ((v.length : Int) / 256 % 256) :: ((v.length : Int) % 256) :: (v ++ be4 (cks (encMid a b v) 1 0)) := by
    unfold encB
    rw [if_pos ⟨a0, a1, b0, b1, hl⟩]
    simp [encMid, be4, be2]
  obtain ⟨K, hK⟩ : ∃ K, K = cks (encMid a b v) 1 0 := ⟨_, rfl⟩
  have hlen : (encB a b v).length = 13 + v.length := by rw [hE]; simp [be4]; omega
  have hN : frN (encB a b v) = (v.length : Int) := by
    unfold frN
    rw [hE]
    simp only [List.take_succ_cons, List.take_zero, List.drop_succ_cons, List.drop_zero, rdN, List.foldl_cons, List.foldl_nil]
    omega
  have hB : rdN (((encB a b v).take 7).drop 3) 0 = b := by
    rw [hE]
    simp only [List.take_succ_cons, List.take_zero, List.drop_succ_cons, List.drop_zero, rdN, List.foldl_cons, List.foldl_nil]
    omega
  have hmid : ((encB a b v).take (9 + v.length)).drop 2 = encMid a b v := by
    rw [hE, show 9 + v.length = v.length + 9 by omega]
    simp only [List.take_succ_cons, List.drop_succ_cons, List.drop_zero]
    rw [List.take_left]
    simp [encMid, be4, be2]
  have hpay : ((encB a b v).take (9 + v.length)).drop 9 = v := by
    rw [hE, show 9 + v.length = v.length + 9 by omega]
    simp only [List.take_succ_cons, List.drop_succ_cons, List.drop_zero]
    rw [List.take_left]
  have hend : (encB a b v).drop (9 + v.length) = be4 (cks (encMid a b v) 1 0) := by
    rw [hE, show 9 + v.length = v.length + 9 by omega]
    simp only [List.drop_succ_cons]
    rw [List.drop_left]
  have hr : ∀ (j : Nat) (y : Int), (encB a b v)[j]? = some y → rd (encB a b v) (j : Int) = y := fun j y hj => by
    simp [rd, List.getD_eq_getElem?_getD, hj]
  have r0 := hr 0 199 (by rw [hE]; rfl)
  have r1 := hr 1 77 (by rw [hE]; rfl)
  have r2 := hr 2 (a % 256) (by rw [hE]; rfl)
  have r3 := hr 3 (b / 16777216 % 256) (by rw [hE]; rfl)
  have r7 := hr 7 ((v.length : Int) / 256 % 256) (by rw [hE]; rfl)
  have hhead : headB (encB a b v) = true := by
    rw [head_iff]
    refine ⟨fun _ => r0, fun _ => r1, fun _ => ?_, fun _ => ?_, fun _ => ?_, fun _ => by rw [hN]; omega⟩
    · have : rd (encB a b v) 2 = a % 256 := r2
      omega
    · have : rd (encB a b v) 3 = b / 16777216 % 256 := r3
      omega
    · have : rd (encB a b v) 7 = (v.length : Int) / 256 % 256 := r7
      omega
  have hsum : frSum (encB a b v) = be4 (cks (encMid a b v) 1 0) := by
    unfold frSum
    rw [hN, Int.toNat_natCast, hmid]
  refine ⟨?_, hlen⟩
  unfold decF
  rw [if_pos hhead, if_neg (by omega), hN, if_neg (by omega), hsum, Int.toNat_natCast, hend, cmpR_self]
  unfold frDone
  rw [hB, hpay]
  have : rd (encB a b v) 2 = a := by
    have : rd (encB a b v) 2 = a % 256 := r2
    omega
  rw [this]
theorem decF_nil : decF [] = frMore := by
  unfold decF
  have : headB [] = true := by rw [head_iff]; simp
  rw [if_pos this, if_pos (by simp)]
theorem decF_bad (x : Int) (l : List Int) (h : x ≠ 199) : decF (x :: l) = frBad := by
  unfold decF
  have : ¬ headB (x :: l) = true := by
    rw [head_iff]
    intro hh
    have := hh.1 (by simp)
    simp [rd] at this
    exact h this
  rw [if_neg this]
theorem fdG_garbage (E : List Int) : ∀ (G : List Int) (d : Nat) (lost : Int), (∀ x ∈ G, x ≠ 199) → 0 ≤ lost → lost + G.length ≤ 2147483647 → G.length ≤ d → fdG d (G ++ E) [] lost = fdG (d - G.length) E [] (lost + G.length) := by
  intro G
  induction G with
  | nil => intro d lost _ _ _ _; simp
  | cons x G ih =>
    intro d lost h h0 h1 hd
    rw [List.length_cons] at h1 hd
    obtain ⟨d, rfl⟩ : ∃ e, d = e + 1 := ⟨d - 1, by omega⟩
    rw [List.cons_append, fdG_bad d [] lost (decF_bad x _ (h x (List.mem_cons_self ..))), List.drop_succ_cons, List.drop_zero, if_pos (by omega), ih d (lost + 1) (fun y hy => h y (List.mem_cons_of_mem _ hy)) (by omega) (by omega) (by omega), List.length_cons, show d + 1 - (G.length + 1) = d - G.length by omega]
    congr 1
    omega
theorem feed_resync (G : List Int) (a b : Int) (v : List Int) (hG : ∀ x ∈ G, x ≠ 199) (hl : G.length ≤ 300) (h : frOk a b v) : feedV [] 0 (G ++ encB a b v) = ([], (G.length : Int), [⟨a, b, v⟩]) := by
  obtain ⟨hd, hlen⟩ := decF_enc a b v h
  have hv := h.2.2.2.2
  unfold feedV
  have hs : streamOk [] 0 := ⟨by omega, by omega, by rw [decF_nil]; rfl⟩
  rw [if_pos ⟨hs, by rw [List.length_append, hlen]; omega⟩, List.nil_append, fdG_garbage _ G _ 0 hG (by omega) (by omega) (by rw [List.length_append]; omega), List.length_append, show G.length + (encB a b v).length + 1 - G.length = (encB a b v).length + 1 by omega, hlen, show 13 + v.length + 1 = (12 + v.length) + 1 + 1 by omega, fdG, hd, if_pos (show (0 : Int) = 0 from rfl)]
  have hdrop : (encB a b v).drop (((13 + v.length : Nat) : Int)).toNat = [] := by rw [Int.toNat_natCast, List.drop_of_length_le (by omega)]
  simp only [hdrop, List.nil_append]
  rw [fdG_more _ _ _ decF_nil, Int.zero_add]
theorem rs_l1 (G : List Int) (a b : Int) (v : List Int) (hG : ∀ x ∈ G, x ≠ 199) (hGB : isB G) (hl : G.length ≤ 300) (h : frOk a b v) (hb : isB v) : ∀ (d j : Nat) (acc : List Int), (encB a b v).length - j = d → j ≤ (encB a b v).length → acc = G ++ (encB a b v).take j → Ev (fun k => laws_FnResync.l1 k acc (G.length : Int) (encB a b v) (j : Int) a b v) true := by
  have hlen := (decF_enc a b v h).2
  have hv := h.2.2.2.2
  intro d
  induction d with
  | zero =>
    intro j acc hd hj ha
    obtain rfl : j = (encB a b v).length := by omega
    rw [List.take_length] at ha
    subst ha
    have hEB : isB (encB a b v) := by
      unfold encB
      rw [if_pos h]
      exact isB_append (isB_append (by intro y hy; simp only [List.mem_cons, List.not_mem_nil, or_false] at hy; omega) (encMid_isB a b v hb)) (be_isB4 _)
    have hf := iFeed_ev [] 0 (G ++ encB a b v) (by intro y hy; simp at hy) (isB_append hGB hEB) (by simp) (by rw [List.length_append, hlen]; omega)
    rw [feed_resync G a b v hG hl h] at hf
    refine Ev.step (fun k => ?_) (Ev.bind hf (f := fun k bt902 => (if (bt902.2.2.length : Int) = 1 then (if 0 < (bt902.2.2.length : Int) then ((laws_sameFrame.f k ((rd_T59 bt902.2.2 0).f0) ((rd_T59 bt902.2.2 0).f1) ((rd_T59 bt902.2.2 0).f2) a b v).bind fun t911 => (if t911 = true then (if bt902.2.1 = (G.length : Int) then (some ((bt902.1.length : Int) == 0)) else (some false)) else (some false))) else (none)) else (some false))) ?_)
    · simp only [laws_FnResync.l1]
      rw [if_neg (by omega)]
    · have hr : rd_T59 [(⟨a, b, v⟩ : S59)] 0 = ⟨a, b, v⟩ := rfl
      simp only [List.length_cons, List.length_nil, hr]
      refine Ev.congr (fun k => ?_) (Ev.bind (sameFrame_ev a b v (by omega)) (f := fun k t911 => (if t911 = true then (some true) else (some false))) ?_)
      · rw [if_pos (by omega), if_pos (by omega)]
        congr 1
      · simp only [if_true]
        exact Ev.now _
  | succ d ih =>
    intro j acc hd hj ha
    refine Ev.step (fun k => ?_) (ih (j + 1) (acc ++ [rd (encB a b v) (j : Int)]) (by omega) (by omega) ?_)
    · have hal : acc.length ≤ 10000 := by rw [ha, List.length_append, List.length_take]; omega
      simp only [laws_FnResync.l1]
      rw [if_pos (by omega), if_pos (by omega), if_pos (by omega), wsucc (by omega)]
    · rw [ha, rd_eq (by omega), List.append_assoc, ← List.take_append_getElem (by omega)]
theorem rs_l0 (code : List Int) (hb : isB code) (hn : code.length ≤ 1048576) (a b : Int) (v : List Int) (h : frOk a b v) (hvb : isB v) (n : Nat) (hn255 : n ≤ 255) (hnv : laws_at.f code 0 = some (n : Int)) : ∀ (d i : Nat) (G : List Int), n - i = d → i ≤ n → G.length = i → (∀ x ∈ G, x ≠ 199) → isB G → Ev (fun k => laws_FnResync.l0 k code G (i : Int) a b v) true := by
  intro d
  induction d with
  | zero =>
    intro i G hd hi hl hG hGB
    refine Ev.step (fun k => ?_) (Ev.bind (iEncF_ev a b v hvb) (f := fun k t => laws_FnResync.l1 k G (G.length : Int) t ((0 : Nat) : Int) a b v) (rs_l1 G a b v hG hGB (by omega) h hvb (encB a b v).length 0 G (by omega) (by omega) (by simp)))
    simp only [laws_FnResync.l0, hnv, Option.bind_some]
    rw [if_neg (by omega)]
    rfl
  | succ d ih =>
    intro i G hd hi hl hG hGB
    obtain ⟨c, hc, hc0, hc1⟩ := lawsAtB code hb hn (i + 1) (by omega)
    by_cases h199 : c = 199
    · refine Ev.step (fun k => ?_) (ih (i + 1) (G ++ [77]) (by omega) (by omega) (by simp; omega) (fun x hx => by rcases List.mem_append.1 hx with hx | hx; exact hG x hx; rw [List.mem_singleton.1 hx]; omega) (isB_append hGB (by intro y hy; rw [List.mem_singleton.1 hy]; omega)))
      simp only [laws_FnResync.l0, hnv, wsucc (show i < 9223372036854775807 by omega), hc, Option.bind_some]
      rw [if_pos (by omega), if_pos h199, if_pos (by omega)]
    · refine Ev.step (fun k => ?_) (ih (i + 1) (G ++ [c % 256]) (by omega) (by omega) (by simp; omega) (fun x hx => by rcases List.mem_append.1 hx with hx | hx; exact hG x hx; rw [List.mem_singleton.1 hx]; omega) (isB_append hGB (by intro y hy; rw [List.mem_singleton.1 hy]; omega)))
      simp only [laws_FnResync.l0, hnv, wsucc (show i < 9223372036854775807 by omega), hc, Option.bind_some]
      rw [if_pos (by omega), if_neg h199, if_pos (by omega)]
theorem FnResync : laws_FnResync.Pure := by
  intro code _ hl hwf
  have hb : isB code := isB_of hwf
  by_cases hbig : (code.length : Int) > 1048576
  · exact ⟨0, by simp only [laws_FnResync.f, laws_big.f, decide_eq_true hbig, Option.bind_some, if_true]⟩
  · obtain ⟨fr, efr, qfr⟩ := fFrameOk code (by omega)
    have hdraw : Ev (fun k => spec_DrawEncodeFrame.f k code) (fr.1, fr.2.1, fr.2.2) := by
      simp only [spec_DrawEncodeFrame.f]
      exact Ev.bind efr (Ev.now _)
    obtain ⟨c, hc, hc0, hc1⟩ := lawsAtB code hb (by omega) 0 (by omega)
    refine Ev.rounds ?_
    simp only [laws_FnResync.f, laws_big.f, decide_eq_false hbig, Option.bind_some, Bool.false_eq_true, if_false]
    refine Ev.bind hdraw ?_
    simp only [sFrameOk, Option.bind_some, decide_eq_true_eq]
    by_cases h : frOk fr.1 fr.2.1 fr.2.2
    · simp only [if_pos h]
      obtain ⟨n, rfl⟩ : ∃ n : Nat, c = (n : Int) := ⟨c.toNat, by omega⟩
      exact rs_l0 code hb (by omega) _ _ _ h qfr n (by omega) hc n 0 [] (by omega) (by omega) rfl (by simp) (by intro y hy; simp at hy)
    · simp only [if_neg h]
      exact Ev.now _

end Go.Proofs.Ytdefnccngnilmaa.Pure
