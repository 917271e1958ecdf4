/- The pure statement of FnJobBytes, with no condition beyond the law's own. -/
import Derived.Test.YtogdhclomgafdaaZFJBx21
import Derived.Test.YtogdhclomgafdaaZFJBx23
namespace Go.Proofs.Ytogdhclomgafdaa.Pure
open Go.RowKit Go.Proofs.Ytogdhclomgafdaa.QFnJobBytes Go.Proofs.Ytogdhclomgafdaa.PFnJobBytes Go.Proofs.YtogdhclomgafdaaW.PrintWords Go.Proofs.YtogdhclomgafdaaW.PrintLast Go.Proofs.Ytogdhclomgafdaa.Math
set_option linter.unusedVariables false
set_option linter.unusedSimpArgs false

theorem tkL_inv : ∀ (d : Nat) (l : List Int) (k u : Nat) (r : Int × Nat), isB l → tkL d l k u = some r → ∃ w rest, l = put w ++ rest ∧ r.2 = k + (put w).length ∧ 128 ^ k * w + u = zz r.1 ∧ isWord r.1 ∧ (0 < k → 0 < w)
 | 0, l, k, u, r, _, h => by cases l <;> simp [tkL] at h
 | d + 1, [], k, u, r, _, h => by simp [tkL] at h
 | d + 1, b :: l, k, u, r, hb, h => by
  have hbb := hb b (List.mem_cons_self ..)
  rw [tkL] at h
  by_cases h1 : 128 ≤ b
  · rw [if_pos h1] at h
    obtain ⟨w, rest, e1, e2, e3, e4, e5⟩ := tkL_inv d l (k + 1) _ r (fun x hx => hb x (List.mem_cons_of_mem _ hx)) h
    have hw := e5 (by omega)
    have hput : put (w * 128 + b.toNat % 128) = b :: put w := by
     rw [put_big (by omega), show (w * 128 + b.toNat % 128) % 128 + 128 = b.toNat by omega, show (w * 128 + b.toNat % 128) / 128 = w by omega, show ((b.toNat : Nat) : Int) = b by omega]
    refine ⟨w * 128 + b.toNat % 128, rest, by rw [hput, e1]; rfl, by rw [e2, hput, List.length_cons]; omega, ?_, e4, fun _ => by omega⟩
    rw [← e3, Nat.pow_succ, Nat.mul_add, Nat.mul_assoc, Nat.mul_comm 128 w]
    omega
  · rw [if_neg h1] at h
    by_cases h2 : b = 0 ∧ 0 < k
    · rw [if_pos h2] at h; cases h
    · rw [if_neg h2] at h
      by_cases h3 : isWord (unzz (128 ^ k * (b.toNat % 128) + u))
      · rw [if_pos h3] at h
        injection h with h
        subst h
        have hm : b.toNat % 128 = b.toNat := Nat.mod_eq_of_lt (by omega)
        refine ⟨b.toNat, l, ?_, ?_, ?_, h3, fun hk => ?_⟩
        · rw [put_small (by omega), show ((b.toNat : Nat) : Int) = b by omega]; rfl
        · rw [put_small (by omega)]; rfl
        · rw [zz_unzz, hm]
        · by_cases hb0 : b = 0
          · exact absurd ⟨hb0, hk⟩ h2
          · omega
      · rw [if_neg h3] at h; cases h
theorem tk_inv {l : List Int} (hb : isB l) {p : Nat} {r : Int × Nat} (h : tkL 7 (l.drop p) 0 0 = some r) : l.drop p = put (zz r.1) ++ l.drop (p + r.2) ∧ r.2 = (put (zz r.1)).length ∧ isWord r.1 := by
 obtain ⟨w, rest, e1, e2, e3, e4, _⟩ := tkL_inv 7 (l.drop p) 0 0 r (isB_drop hb p) h
 have hw : w = zz r.1 := by rw [← e3]; simp
 subst hw
 refine ⟨?_, by omega, e4⟩
 rw [e1]
 congr 1
 have h2 : (l.drop p).drop r.2 = rest := by rw [e1, show r.2 = (put (zz r.1)).length by omega, List.drop_left]
 rw [← h2, List.drop_drop]
theorem lst_inv {l : List Int} (hb : isB l) : ∀ (d p : Nat) (s : List Int × Nat), lstD l d p = some s → l.drop p = QFnJobBytes.putAll s.1 ++ l.drop s.2 ∧ s.1.length = d
 | 0, p, s, h => by injection h with h; subst h; exact ⟨rfl, rfl⟩
 | d + 1, p, s, h => by
  rw [lstD] at h
  obtain ⟨r, hr, h⟩ := Option.bind_eq_some_iff.mp h
  obtain ⟨t, ht, h⟩ := Option.bind_eq_some_iff.mp h
  injection h with h
  subst h
  obtain ⟨e1, e2, e3⟩ := tk_inv hb hr
  obtain ⟨f1, f2⟩ := lst_inv hb d _ t ht
  exact ⟨by rw [e1, f1, QFnJobBytes.putAll, List.append_assoc], by rw [List.length_cons, f2]⟩
theorem one_inv {l : List Int} (hb : isB l) {p : Nat} {s : List Int × Nat} (h : oneD l p = some s) : l.drop p = listE s.1 ++ l.drop s.2 := by
 unfold oneD at h
 obtain ⟨r, hr, h⟩ := Option.bind_eq_some_iff.mp h
 by_cases hc : 0 ≤ r.1 ∧ r.1 ≤ 400
 · rw [if_pos hc] at h
   obtain ⟨e1, e2, e3⟩ := tk_inv hb hr
   obtain ⟨f1, f2⟩ := lst_inv hb _ _ s h
   rw [e1, f1, listE, List.append_assoc, show ((s.1.length : Nat) : Int) = r.1 by omega]
 · rw [if_neg hc] at h; cases h
theorem lst_put {l : List Int} : ∀ (A : List Int) (p : Nat) (rest : List Int), (∀ x ∈ A, isWord x) → l.drop p = QFnJobBytes.putAll A ++ rest → lstD l A.length p = some (A, p + (QFnJobBytes.putAll A).length)
 | [], p, rest, _, _ => rfl
 | x :: A, p, rest, h, e => by
  rw [List.length_cons, lstD, e, QFnJobBytes.putAll, List.append_assoc, tkL_put x (h x (List.mem_cons_self ..)) _ (zz x) 7 0 0 (by simp) (by omega) (by have := put6 (h x (List.mem_cons_self ..)); omega)]
  simp only [Option.bind_some, Nat.zero_add]
  have hd : l.drop (p + (put (zz x)).length) = QFnJobBytes.putAll A ++ rest := by
   rw [← List.drop_drop, e, QFnJobBytes.putAll, List.append_assoc, List.drop_left]
  rw [lst_put A (p + (put (zz x)).length) rest (fun y hy => h y (List.mem_cons_of_mem _ hy)) hd]
  simp only [Option.bind_some, List.length_append]
  congr 2
  omega
theorem one_put {l A : List Int} {p : Nat} {rest : List Int} (hw : ∀ x ∈ A, isWord x) (hl : A.length ≤ 400) (e : l.drop p = listE A ++ rest) : oneD l p = some (A, p + (listE A).length) := by
 unfold oneD
 rw [e, listE, List.append_assoc, tkL_put (A.length : Int) (word_small (by omega)) _ _ 7 0 0 (by simp) (by omega) (by have := put6 (word_small (n := A.length) (by omega)); omega)]
 simp only [Option.bind_some, Nat.zero_add]
 rw [if_pos (by omega), Int.toNat_natCast]
 have hd : l.drop (p + (put (zz (A.length : Int))).length) = QFnJobBytes.putAll A ++ rest := by
  rw [← List.drop_drop, e, listE, List.append_assoc, List.drop_left]
 rw [lst_put A _ rest hw hd, List.length_append]
 congr 2
 omega
theorem job_head {kind f n : Int} {A B : List Int} (h : jobB kind f A B n = true) : kind % 256 = kind ∧ f % 256 = f := by
 unfold jobB at h
 rw [Bool.and_eq_true, decide_eq_true_eq] at h
 have h1 := h.1
 unfold jobHead fldOk at h1
 omega
theorem drop2_cons (a b : Int) (l : List Int) : (a :: b :: l).drop 2 = l := rfl
theorem dec_enc {kind f n : Int} {A B : List Int} (h : jobB kind f A B n = true) : decV (jobEncV kind f A B n) = (kind, f, A, B, n, true) := by
 obtain ⟨⟨a1, a2⟩, ⟨b1, b2⟩, n0, n1⟩ := job_words h
 obtain ⟨hk, hf⟩ := job_head h
 have hwn : isWord n := by unfold isWord; omega
 have hE : jobEncV kind f A B n = kind :: f :: (put (zz n) ++ (listE A ++ listE B)) := by
  unfold jobEncV
  rw [if_pos h, jobE, hk, hf]
  simp [List.append_assoc]
 rw [hE]
 have t1 := tkL_put n hwn (listE A ++ listE B) (zz n) 7 0 0 (by simp) (by omega) (by have := put6 hwn; omega)
 rw [Nat.zero_add] at t1
 have d1 : (kind :: f :: (put (zz n) ++ (listE A ++ listE B))).drop (2 + (put (zz n)).length) = listE A ++ listE B := by
  rw [← List.drop_drop, drop2_cons, List.drop_left]
 have o1 := one_put a2 a1 d1
 have d2 : (kind :: f :: (put (zz n) ++ (listE A ++ listE B))).drop (2 + (put (zz n)).length + (listE A).length) = listE B ++ [] := by
  rw [← List.drop_drop, d1, List.drop_left, List.append_nil]
 have o2 := one_put b2 b1 d2
 unfold decV
 rw [if_neg (by simp), drop2_cons, t1]
 simp only [o1, o2]
 rw [if_pos ⟨by simp only [List.length_cons, List.length_append]; omega, h⟩]
 rfl
theorem enc_dec {l : List Int} (hb : isB l) (h : (decV l).2.2.2.2.2 = true) : jobEncV (decV l).1 (decV l).2.1 (decV l).2.2.1 (decV l).2.2.2.1 (decV l).2.2.2.2.1 = l := by
 unfold decV at h ⊢
 by_cases h2 : l.length < 2
 · rw [if_pos h2] at h; simp at h
 · rw [if_neg h2] at h ⊢
   cases h3 : tkL 7 (l.drop 2) 0 0 with
   | none => rw [h3] at h; simp at h
   | some r =>
    simp only [h3] at h ⊢
    cases h4 : oneD l (2 + r.2) with
    | none => rw [h4] at h; simp at h
    | some s =>
     simp only [h4] at h ⊢
     cases h5 : oneD l s.2 with
     | none => rw [h5] at h; simp at h
     | some t =>
      simp only [h5] at h ⊢
      by_cases hc : t.2 = l.length ∧ jobB (rd l 0) (rd l 1) s.1 t.1 r.1 = true
      · rw [if_pos hc]
        obtain ⟨e1, e2, e3⟩ := tk_inv hb h3
        have e4 := one_inv hb h4
        have e5 := one_inv hb h5
        rw [hc.1, List.drop_length, List.append_nil] at e5
        obtain ⟨hk, hf⟩ := job_head hc.2
        show jobEncV (rd l 0) (rd l 1) s.1 t.1 r.1 = l
        unfold jobEncV
        rw [if_pos hc.2, jobE, hk, hf]
        match l, h2 with
        | a :: b :: l', _ =>
         have r0 : rd (a :: b :: l') 0 = a := rfl
         have r1 : rd (a :: b :: l') 1 = b := rfl
         rw [r0, r1]
         rw [drop2_cons] at e1
         simp only [List.append_assoc]
         rw [← e5, ← e4, ← e1]
         rfl
        | [], h2 => simp at h2
        | [a], h2 => simp at h2
      · rw [if_neg hc] at h; simp at h
theorem same_l (v : List Int) (hv : v.length ≤ 1048576) : ∀ (d i : Nat), v.length - i = d → i ≤ v.length → Ev (fun k => laws_same.l0 k v v (i : Int)) true := by
 intro d
 induction d with
 | zero =>
  intro i hd hi
  refine ev_now fun k => ?_
  simp only [laws_same.l0]
  rw [if_neg (by omega)]
 | succ d ih =>
  intro i hd hi
  refine Ev.step (fun k => ?_) (ih (i + 1) (by omega) (by omega))
  simp only [laws_same.l0]
  rw [if_pos (by omega), if_pos (by omega), if_pos (by omega), if_pos trivial, wsucc (by omega)]
theorem same_ev (v : List Int) (hv : v.length ≤ 1048576) : Ev (fun k => laws_same.f k v v) true := by
 simp only [laws_same.f, if_true]
 exact same_l v hv v.length 0 (by omega) (by omega)
theorem sameB_l (v : List Int) (hv : v.length ≤ 1048576) : ∀ (d i : Nat), v.length - i = d → i ≤ v.length → Ev (fun k => laws_sameBytes.l0 k v v (i : Int)) true := by
 intro d
 induction d with
 | zero =>
  intro i hd hi
  refine ev_now fun k => ?_
  simp only [laws_sameBytes.l0]
  rw [if_neg (by omega)]
 | succ d ih =>
  intro i hd hi
  refine Ev.step (fun k => ?_) (ih (i + 1) (by omega) (by omega))
  simp only [laws_sameBytes.l0]
  rw [if_pos (by omega), if_pos (by omega), if_pos (by omega), if_pos trivial, wsucc (by omega)]
theorem sameB_ev (v : List Int) (hv : v.length ≤ 1048576) : Ev (fun k => laws_sameBytes.f k v v) true := by
 simp only [laws_sameBytes.f, if_true]
 exact sameB_l v hv v.length 0 (by omega) (by omega)
theorem sameJob_ev (a b n : Int) (A B : List Int) (hA : A.length ≤ 1048576) (hB : B.length ≤ 1048576) : Ev (fun k => laws_sameJob.f k a b A B n a b A B n) true := by
 simp only [laws_sameJob.f, if_true]
 refine Ev.bind (same_ev A hA) ?_
 simp only [if_true]
 exact Ev.bind (same_ev B hB) (Ev.now _)
theorem alt_ev (l : List Int) (hb : isB l) (hn : l.length ≤ 1048576) (x : Int) : Fin (fun k => laws_alt.f k l x) (fun r => isB r ∧ r.length ≤ 1048576) := by
 have key : ∀ (d i : Nat) (acc : List Int), 3000 - i = d → i ≤ 3000 → acc.length = i + 1 → isB acc → Fin (fun k => laws_alt.l0 k l acc (i : Int)) (fun r => isB r ∧ r.length ≤ 1048576) := by
  intro d
  induction d with
  | zero =>
   intro i acc hd hi ha hB
   refine Fin.step (fun k => by rw [laws_alt.l0]) ?_
   exact Fin.ite (fun _ => Fin.no (by omega) (Fin.now _ ⟨hB, by omega⟩)) fun _ => Fin.now _ ⟨hB, by omega⟩
  | succ d ih =>
   intro i acc hd hi ha hB
   refine Fin.step (fun k => by rw [laws_alt.l0]) ?_
   simp only [wsucc (show i < 9223372036854775807 by omega)]
   refine Fin.ite (fun c => Fin.yes (by omega) (Fin.yes (by omega) (Fin.yes (by omega) ?_))) fun _ => Fin.now _ ⟨hB, by omega⟩
   refine ih (i + 1) _ (by omega) (by omega) (by rw [List.length_append, List.length_singleton]; omega) (isB_append hB ?_)
   intro y hy
   rw [List.mem_singleton.1 hy, rd_eq (by omega)]
   exact hb _ (List.getElem_mem _)
 simp only [laws_alt.f]
 exact key 3000 0 _ rfl (by omega) rfl (by intro y hy; rw [List.mem_singleton.1 hy]; omega)
theorem fOne (l : List Int) (hn : l.length ≤ 140737488355328) : Fin (fun k => spec_l10DrawOne.f k l) (fun r => r.2.2.1.length ≤ 1048576 ∧ r.2.2.2.1.length ≤ 1048576) := by
 obtain ⟨h0, e0⟩ := drawNew l hn
 simp only [spec_l10DrawOne.f]
 refine Fin.bind (Q := fun r => r = (l, 0, h0)) ⟨_, e0, rfl⟩ fun r hr => ?_
 subst hr
 obtain ⟨m, em, hm0, hm⟩ : ∃ m, spec_l01Size.f l 20 = some m ∧ 0 ≤ m ∧ m ≤ 20 := by
  simp only [spec_l01Size.f]
  rw [w64 (x := (l.length : Int) / 16) (by omega) (by omega), w64 (by omega) (by omega)]
  split
  · exact ⟨_, rfl, by omega, by omega⟩
  · exact ⟨_, rfl, by omega, by omega⟩
 simp only [em, Option.bind_some]
 exact Fin.bind (fJob l hn m hm0 (by omega) 0 h0 (dAt0 l)) fun r q => Fin.now _ ⟨by show r.2.2.1.length ≤ 1048576; have := q.1; omega, by show r.2.2.2.1.length ≤ 1048576; have := q.2.1; omega⟩
theorem fDrawDec (l : List Int) (hn : l.length ≤ 1048576) : Fin (fun k => spec_DrawDecodeJob.f k l) (fun r => isB r ∧ r.length ≤ 1048576) := by
 obtain ⟨h0, e0⟩ := drawNew l (by omega)
 have hj : ∀ (v : List Int) (b : Bool) (i h : Int), isB v → v.length ≤ 5000 → (b = true → 0 < v.length) → dAt l i → Fin (fun k => spec_DrawDecodeJob.j0 k v b l i h) (fun r => isB r ∧ r.length ≤ 1048576) := by
  intro v b i h hv hl hp hi
  refine Fin.step (fun k => by rw [spec_DrawDecodeJob.j0]) ?_
  refine Fin.ite (fun c => ?_) fun _ => Fin.now _ ⟨hv, by omega⟩
  have hp := hp c
  refine Fin.bind (fBelow l (by omega) i h hi 3) fun r1 q1 => Fin.ite (fun _ => ?_) fun _ => Fin.ite (fun _ => ?_) fun _ => Fin.ite (fun _ => ?_) fun _ => Fin.now _ ⟨hv, by omega⟩
  · exact Fin.yes (by omega) (Fin.now _ ⟨isB_append hv (by intro y hy; rw [List.mem_singleton.1 hy]; omega), by simp; omega⟩)
  · have hw : wrap64 ((v.length : Int) - 1) = ((v.length - 1 : Nat) : Int) := w64n (by omega) (by omega)
    simp only [hw]
    exact Fin.yes (by omega) (Fin.yes (by omega) (Fin.now _ ⟨isB_take hv _, by rw [List.length_take]; omega⟩))
  · refine Fin.bind (fBelow l (by omega) _ _ q1.2 _) fun r2 q2 => Fin.bind (fBelow l (by omega) _ _ q2.2 256) fun r3 q3 => ?_
    have b2 := q2.1
    refine Fin.yes (by omega) (Fin.yes (by omega) (Fin.now _ ⟨?_, by rw [List.length_set]; omega⟩))
    intro y hy
    rcases List.mem_or_eq_of_mem_set hy with hy | hy
    · exact hv y hy
    · rw [hy]; omega
 simp only [spec_DrawDecodeJob.f]
 refine Fin.bind (Q := fun r => r = (l, 0, h0)) ⟨_, e0, rfl⟩ fun r hr => ?_
 subst hr
 refine Fin.bind (fOne l (by omega)) fun j qj => Fin.bind (Q := fun r => isB r ∧ r.length ≤ 5000) ⟨_, sEncJob_ev j.1 j.2.1 j.2.2.1 j.2.2.2.1 j.2.2.2.2 qj.1 qj.2, jobEncV_isB _ _ _ _ _, jobEncV_len _ _ _ _ _⟩ fun t ht => Fin.bind (fOnce l (by omega) 0 h0 (dAt0 l) 4) fun r1 q1 => Fin.ite (fun _ => ?_) fun _ => ?_
 · exact hj t _ _ _ ht.1 ht.2 (fun e => by simpa using e) q1
 · exact hj t false _ _ ht.1 ht.2 (fun e => by simp at e) q1
theorem jb_j0 (l : List Int) (hb : isB l) (hn : l.length ≤ 1048576) : Ev (fun k => laws_FnJobBytes.j0 k l) true := by
 obtain ⟨a, ea, hab, hal⟩ := alt_ev l hb hn 1
 obtain ⟨b, eb, hbb, hbl⟩ := fDrawDec a hal
 refine Ev.step (f := fun k => (laws_alt.f k l 1).bind fun t818 => ((spec_DrawDecodeJob.f k t818).bind fun t821 => ((spec_DecodeJob.f k t821).bind fun bt824 => (if bt824.2.2.2.2.2 = true then ((laws_cpBytes.f k t821).bind fun t835 => ((impl_DecodeJob.f k t835).bind fun bt838 => (if bt838.2.2.2.2.2 = true then ((impl_EncodeJob.f k bt838.1 bt838.2.1 bt838.2.2.1 bt838.2.2.2.1 bt838.2.2.2.2.1).bind fun t849 => ((laws_sameBytes.f k t849 t821).bind fun t852 => (some t852))) else (some false)))) else (some true))))) (fun k => by rw [laws_FnJobBytes.j0]) ?_
 refine Ev.bind ea (Ev.bind eb (Ev.bind (sDecode_ev b hbl hbb) ?_))
 by_cases h : (decV b).2.2.2.2.2 = true
 · simp only [if_pos h]
   refine Ev.bind (cpBytes_ev b (by omega)) (Ev.bind (iDecode_ev b hbl hbb) ?_)
   simp only [if_pos h]
   have hlen := decV_len b
   have he := iEncJob_ev (decV b).1 (decV b).2.1 (decV b).2.2.1 (decV b).2.2.2.1 (decV b).2.2.2.2.1 (by omega) (by omega)
   rw [enc_dec hbb h] at he
   exact Ev.bind he (Ev.bind (sameB_ev b hbl) (Ev.now _))
 · simp only [if_neg h]
   exact Ev.now _
theorem FnJobBytes : laws_FnJobBytes.Pure := by
 intro code _ hl hwf
 have hb : isB code := isB_of hwf
 by_cases hbig : (code.length : Int) > 1048576
 · exact ⟨0, by simp only [laws_FnJobBytes.f, laws_big.f, decide_eq_true hbig, Option.bind_some, if_true]⟩
 · have hn : code.length ≤ 1048576 := by omega
   obtain ⟨j, ej, qA, qB⟩ := fOne code (by omega)
   have hdraw : Ev (fun k => spec_DrawEncodeJob.f k code) (j.1, j.2.1, j.2.2.1, j.2.2.2.1, j.2.2.2.2) := by
    simp only [spec_DrawEncodeJob.f]
    exact Ev.bind ej (Ev.now _)
   have hj0 := jb_j0 code hb hn
   refine Ev.rounds ?_
   simp only [laws_FnJobBytes.f, laws_big.f, decide_eq_false hbig, Option.bind_some, Bool.false_eq_true, if_false]
   refine Ev.bind hdraw (Ev.bind (sJob_ev _ _ _ _ _ qA qB) ?_)
   by_cases h : jobB j.1 j.2.1 j.2.2.1 j.2.2.2.1 j.2.2.2.2 = true
   · simp only [if_pos h]
     refine Ev.bind (iEncJob_ev _ _ _ _ _ qA qB) ?_
     have hd := iDecode_ev (jobEncV j.1 j.2.1 j.2.2.1 j.2.2.2.1 j.2.2.2.2) (by have := jobEncV_len j.1 j.2.1 j.2.2.1 j.2.2.2.1 j.2.2.2.2; omega) (jobEncV_isB _ _ _ _ _)
     rw [dec_enc h] at hd
     refine Ev.bind hd ?_
     simp only [if_true]
     refine Ev.bind (sameJob_ev _ _ _ _ _ qA qB) ?_
     simp only [if_true]
     exact hj0
   · simp only [if_neg h]
     exact hj0

end Go.Proofs.Ytogdhclomgafdaa.Pure
