-- Written by a program of this session (the print of the kit with contracts of this session's own added)
import Derived.Test.YtogdhclomgafdaaZFDx9
namespace Go.Proofs.Ytogdhclomgafdaa.PFnDealt
open Go.RowKit Go.Proofs.YtogdhclomgafdaaW.PrintWords Go.Proofs.YtogdhclomgafdaaW.PrintLast Go.Proofs.YtogdhclomgafdaaW.PrintMore Go.Proofs.YtogdhclomgafdaaW.PrintPack
attribute [local go_sem] max2_int min2_int max_two min_two max_three min_three max_four min_four   -- for this text's walks alone
set_option linter.unusedVariables false
set_option linter.unusedSimpArgs false

open Go.Maps (Keyed) in
theorem mk_entry_look {P : Program} {t k e : TypeId} {b : Nat} {w : World} {es : Array MapEntry} {clock : Nat} {R : Value → Option (DataW Unit × List MemPlace)} (K : Keyed P k) (ht : P.underlying t = some (.map k e)) {z : Value} (hz : ∀ u : World, (zeroValue e).run P u = .ok z u) (hb : w.heap[b]? = some (.map es clock)) (F : WideElems.Fit P k R es clock)
 {key : Value} {kl : Lit} (hkey : keyOf P k key = some kl) : ∃ (v0 : Value) (st : Nat) (es1 : Array MapEntry) (clock1 : Nat), (Instr.mapEntry t (.map (some b)) key).run P w = .ok (.tuple #[v0, goInt st]) (ChangeMaps.setBlock w b (.map es1 clock1)) ∧
  (Instr.lookup t (.map (some b)) key false).run P w = .ok v0 w ∧ (Instr.lookup t (.map (some b)) key false).run P (ChangeMaps.setBlock w b (.map es1 clock1)) = .ok v0 (ChangeMaps.setBlock w b (.map es1 clock1)) := by
 rcases K.find w hkey es.toList F.keys with ⟨h1, h2⟩ | ⟨j, e0, h1, h2, h3⟩
 · refine ⟨z, clock, es.push ⟨key, z, clock⟩, clock + 1, ?_, ?_, ?_⟩
   · simp [Instr.mapEntry, run_underlying ht, MapKept.run_getObj_map hb, K.check w false hkey, h1, hz, MapKept.run_setObj_map _ hb, Result.andThen, ChangeMaps.setBlock]
   · simp [Instr.lookup, run_underlying ht, MapKept.run_getObj_map hb, K.check w _ hkey, h1, hz, Result.andThen]
   · have hb1 := ChangeMaps.heap_setBlock_same hb (.map (es.push ⟨key, z, clock⟩) (clock + 1)); generalize ChangeMaps.setBlock w b (.map (es.push ⟨key, z, clock⟩) (clock + 1)) = w1 at hb1 ⊢
     have hkeys : ∀ x ∈ (es.push ⟨key, z, clock⟩).toList, ∃ l, keyOf P k x.key = some l := fun x hx => by
      rw [Array.toList_push, List.mem_append, List.mem_singleton] at hx
      rcases hx with hx | rfl
      · exact F.keys x hx
      · exact ⟨kl, hkey⟩
     rcases K.find w1 hkey _ hkeys with ⟨g1, g2⟩ | ⟨j, e1, g1, g2, g3⟩
     · exact absurd rfl (g2 ⟨key, z, clock⟩ (by simp))
     · have hm : e1 ∈ (es.push ⟨key, z, clock⟩).toList := List.mem_of_getElem? g2; rw [Array.toList_push, List.mem_append, List.mem_singleton] at hm
       rcases hm with hm | rfl
       · exact absurd g3 (h2 e1 hm)
       · simp [Instr.lookup, run_underlying ht, MapKept.run_getObj_map hb1, K.check w1 _ hkey, Array.toList_push ▸ g1, Result.andThen]
 · have hj : es[j]? = some e0 := by simpa using h2
   have hsame : es.modify j (fun e => { e with key := key }) = es := by
    apply Array.ext'
    rw [Array.toList_modify, ChangeMaps.modify_eq_set _ _ _ _ h2]; have : ({ e0 with key := key } : MapEntry) = e0 := by rw [← h3]
    rw [this]; exact WideElems.set_self _ _ _ h2
   refine ⟨e0.val, e0.born, es, clock, ?_, ?_, ?_⟩
   · simp [Instr.mapEntry, run_underlying ht, MapKept.run_getObj_map hb, K.check w false hkey, h1, hj, h3, K.stays w hkey, hsame, MapKept.run_setObj_map _ hb, Result.andThen, ChangeMaps.setBlock]
   · simp [Instr.lookup, run_underlying ht, MapKept.run_getObj_map hb, K.check w _ hkey, h1, Result.andThen]
   · have hb1 := ChangeMaps.heap_setBlock_same hb (.map es clock); generalize ChangeMaps.setBlock w b (.map es clock) = w1 at hb1 ⊢
     rcases K.find w1 hkey _ F.keys with ⟨g1, g2⟩ | ⟨j1, e1, g1, g2, g3⟩
     · exact absurd h3 (g2 e0 (List.mem_of_getElem? h2))
     · have hu : e1 = e0 := by
        have hn := F.stamped.2.2; have l1 := (List.getElem?_eq_some_iff.1 g2).1; have l2 := (List.getElem?_eq_some_iff.1 h2).1; have hk : ∀ a c (ha : a < (es.toList.map (·.key)).length) (hc : c < (es.toList.map (·.key)).length), a < c → (es.toList.map (·.key))[a] ≠ (es.toList.map (·.key))[c] := fun a c ha hc hac => List.pairwise_iff_getElem.1 hn a c ha hc hac
        have ke : (es.toList.map (·.key))[j1]'(by rw [List.length_map]; exact l1) = (es.toList.map (·.key))[j]'(by rw [List.length_map]; exact l2) := by
         rw [List.getElem_map, List.getElem_map, (List.getElem?_eq_some_iff.1 g2).2, (List.getElem?_eq_some_iff.1 h2).2, g3, h3]
        have : j1 = j := by
         rcases Nat.lt_trichotomy j1 j with c | c | c
         · exact absurd ke (hk _ _ _ _ c)
         · exact c
         · exact absurd ke.symm (hk _ _ _ _ c)
        subst this; rw [h2] at g2; exact (Option.some.inj g2).symm
       subst hu; simp [Instr.lookup, run_underlying ht, MapKept.run_getObj_map hb1, K.check w1 _ hkey, g1, Result.andThen]
/-- Hours of a level and a worker; how many entries at most. -/
def MkS : Type := (Int → Int → Int) × Nat
def mk0 : MkS := (fun _ _ => 0, 0)
def mkUp (s : MkS) (a b x : Int) : MkS := (fun l h => if l = a ∧ h = b then x else s.1 l h, s.2 + 1)
def mkOk (l h : Int) : Prop := 0 ≤ l ∧ l < 1048576 ∧ 0 ≤ h ∧ h < 1048576
instance (l h : Int) : Decidable (mkOk l h) := by unfold mkOk; infer_instance
def mkKey (l h : Int) : Value := .agg #[.int .i64 l, .int .i64 h]
theorem mk_law : Go.Maps.Keyed Try.prog 97 := Go.Maps.Keyed.of_law (deep_law_laid (P := Try.prog) (by kernel_rfl) (m := 2) (by omega) (of_decide_eq_true (by kernel_rfl)) (by kernel_rfl) (by rw [Try.underlying97]))
theorem mk_law' : WideMaps.KeyLaw Try.prog 97 := deep_law_laid (P := Try.prog) (by kernel_rfl) (m := 2) (by omega) (of_decide_eq_true (by kernel_rfl)) (by kernel_rfl) (by rw [Try.underlying97])
theorem mk_zero (w : World) : (zeroValue 3).run Try.prog w = .ok (.int .i64 0) w := by kernel_rfl
theorem mk_key {l h : Int} (ok : mkOk l h) : ∃ kl, keyOf Try.prog 97 (mkKey l h) = some kl := by
 have wfK : ∀ x : Int, 0 ≤ x → x < 1048576 → (Lit.int .i64 x).wf = true := fun x h0 h1 => by
  have m1 : IntKind.i64.min = -9223372036854775808 := by decide
  have m2 : IntKind.i64.max = 9223372036854775807 := by decide
  simp [Lit.wf, m1, m2]
  omega
 have w1 := wfK l ok.1 ok.2.1; have w2 := wfK h ok.2.2.1 ok.2.2.2; have c2 : Try.prog.cellsOf 97 = 2 := by kernel_rfl
 have c1 : Try.prog.cellsOf 3 = 1 := by kernel_rfl
 have kt : Try.prog.keyType 97 = true := by kernel_rfl
 obtain ⟨d, hd⟩ : ∃ d, Try.prog.types.size = d + 1 := ⟨Try.prog.types.size - 1, by have : 0 < Try.prog.types.size := of_decide_eq_true (by kernel_rfl); omega⟩
 unfold keyOf mkKey
 rw [Try.underlying97]; simp only [kt, Bool.true_and]
 have hf : (Value.agg #[.int .i64 l, .int .i64 h]).formed Try.prog 97 = true := by simp [Value.formed, Try.underlying97, c2]
 rw [hf, hd]; simp only [Value.cells, Program.keyLits, Try.underlying97, c2]
 refine ⟨.string (keyBytes [.int .i64 l, .int .i64 h]), ?_⟩
 rw [show List.range 2 = [0, 1] from rfl]; simp [c1, w1, w2]
def MkMap (w : World) (b : Nat) (s : MkS) : Prop := ∃ D : DataW Unit, w.ownsMap Try.prog 97 (plainElem Try.prog 3) b s.2 D ∧ Go.Maps.IsMap D ∧ ∀ l h kl, keyOf Try.prog 97 (mkKey l h) = some kl → D.atKey kl (.lit (.int .i64 0)) = .lit (.int .i64 (s.1 l h))
theorem MkMap.lt {w : World} {b : Nat} {s : MkS} (h : MkMap w b s) : b < w.heap.size := by obtain ⟨D, h, _⟩ := h; exact h.lt
theorem MkMap.kept {w w' : World} {b : Nat} {s : MkS} {row : Option Nat} (h : MkMap w b s) (hg : w.grownBy w' row) (hne : some b ≠ row) : MkMap w' b s := by obtain ⟨D, h1, h2, h3⟩ := h; exact ⟨D, h1.kept hg hne, h2, h3⟩
theorem MkMap.below {w w' : World} {b : Nat} {s : MkS} (h : MkMap w b s) (hb : Below w.heap.size w w') : MkMap w' b s := h.kept (grown_of_below hb none) (by simp)
theorem MkMap.drew {w : World} {b : Nat} {s : MkS} (h : MkMap w b s) : MkMap w.drew b s := h
theorem MkMap.drewN {w : World} {b : Nat} {s : MkS} (h : MkMap w b s) (n : Nat) : MkMap (w.drewN n) b s := h.below (pw_below_drewN (Below.refl _ _) n)
theorem MkMap.made (w : World) : MkMap (w.alloc (.map #[] 0)) w.heap.size mk0 := ⟨.map [], World.ownsMap_made w _ _ _, Go.Maps.isMap_empty, fun _ _ _ _ => rfl⟩
theorem MkMap.lookup {w : World} {b : Nat} {s : MkS} (hM : MkMap w b s) {l h : Int} (ok : mkOk l h) : (Instr.lookup 96 (.map (some b)) (mkKey l h) false).run Try.prog w = .ok (.int .i64 (s.1 l h)) w := by
 obtain ⟨D, h1, h2, h3⟩ := hM; obtain ⟨kl, hkl⟩ := mk_key ok; obtain ⟨c, hc1, hc2, _⟩ := h1.lookup_int mk_law Try.underlying96 Try.underlying3 (mk_zero w) hkl; rw [h3 l h kl hkl] at hc2; simp only [DataW.lit.injEq, Lit.int.injEq, true_and] at hc2; rw [hc1, hc2]
/-- The entry is laid; the hours are read as before; then it is written. -/
theorem MkMap.entry {w : World} {b : Nat} {s : MkS} (hM : MkMap w b s) {l h : Int} (ok : mkOk l h) (hn : s.2 < 1048576) : ∃ (v0 : Value) (st : Nat) (w1 : World), (Instr.mapEntry 96 (.map (some b)) (mkKey l h)).run Try.prog w = .ok (.tuple #[v0, goInt st]) w1 ∧ w.grownBy w1 (some b) ∧
 (Instr.lookup 96 (.map (some b)) (mkKey l h) false).run Try.prog w1 = .ok (.int .i64 (s.1 l h)) w1 ∧
 ∀ x : Int, (Lit.int .i64 x).wf = true → ∃ w3, (Instr.entryStore 96 (.map (some b)) (goInt st) (.int .i64 x)).run Try.prog w1 = .ok () w3 ∧ w1.grownBy w3 (some b) ∧ MkMap w3 b (mkUp s l h x) := by
 have hlk := hM.lookup ok; obtain ⟨D, h1, h2, h3⟩ := hM; obtain ⟨kl, hkl⟩ := mk_key ok; have h1' := h1; obtain ⟨es, clock, hb, F, hs, hD⟩ := h1'; obtain ⟨v0, st, es1, clock1, r1, r2, r3⟩ := mk_entry_look mk_law Try.underlying96 mk_zero hb F hkl; obtain ⟨v0', st', es1', clock1', q1, _, q3⟩ := WideElems.entry_then_store mk_law' Try.underlying96 mk_zero hb F hkl; rw [r1] at q1; injection q1 with q1 q2
 have e1 : v0' = v0 ∧ (goInt st' : Value) = goInt st := by
  injection q1 with q1
  have := congrArg Array.toList q1
  simp only [List.cons.injEq] at this; exact ⟨this.1.symm, this.2.1.symm⟩
 rw [hlk] at r2; injection r2 with r2
 subst r2; have hb1 := ChangeMaps.heap_setBlock_same hb (.map es1 clock1); have hb1' := ChangeMaps.heap_setBlock_same hb (.map es1' clock1'); rw [← q2, hb1] at hb1'; injection hb1' with hb1'
 injection hb1' with e2 e3
 subst e2 e3; have hg : ∀ o : Obj, w.grownBy (ChangeMaps.setBlock w b o) (some b) := fun o => ⟨rfl, rfl, rfl, by simp [ChangeMaps.setBlock], fun i _ hi => ChangeMaps.heap_setBlock_other hb _ (fun e => hi (by rw [e]))⟩
 refine ⟨_, st, _, r1, hg _, r3, fun x hx => ?_⟩
 obtain ⟨es2, clock2, a1, a2⟩ := q3 (ChangeMaps.setBlock w b (.map es1 clock1)) (.int .i64 x) hb1; rw [e1.2] at a1; obtain ⟨w', u1, u2, u3⟩ := h1.update mk_law Try.underlying96 (by unfold maxLen; omega) hkl (plainElem_int Try.underlying3 hx); rw [a2] at u1; injection u1 with _ u1
 refine ⟨_, a1, ⟨rfl, rfl, rfl, by simp [ChangeMaps.setBlock], fun i _ hi => ChangeMaps.heap_setBlock_other hb1 _ (fun e => hi (by rw [e]))⟩, D.put kl (.lit (.int .i64 x)), ?_, h2.put _ _, fun l' h' kl' hkl' => ?_⟩
 · subst u1; obtain ⟨es3, clock3, c1, c2, c3, c4⟩ := u2; have c1' := ChangeMaps.heap_setBlock_same hb (.map es2 clock2); rw [c1'] at c1; injection c1 with c1
   injection c1 with d1 d2
   subst d1 d2; exact ⟨_, _, ChangeMaps.heap_setBlock_same hb1 _, c2, c3, c4⟩
 · show _ = DataW.lit (.int .i64 (if l' = l ∧ h' = h then x else s.1 l' h'))
   by_cases c : l' = l ∧ h' = h
   · obtain ⟨rfl, rfl⟩ := c; rw [hkl] at hkl'; obtain rfl := Option.some.inj hkl'; rw [if_pos ⟨rfl, rfl⟩]; exact Go.Maps.atKey_put_same h2 (mk_law.key hkl) _ _
   rw [if_neg c, Go.Maps.atKey_put_other (fun e => c ?_), h3 l' h' kl' hkl']; subst e; have := mk_law.inj hkl' hkl
   unfold mkKey at this
   injection this with this
   have := congrArg Array.toList this
   simp only [List.cons.injEq, Value.int.injEq] at this; exact ⟨this.1.2, this.2.1.2⟩
theorem mk_cells {w w' : World} {b : Nat} {s : MkS} (h : MkMap w b s) (hg : w.grownBy w' (some b)) (a : Addr) (v : Value) (hc : w.cell? a = some v) : w'.cell? a = some v := by
 have hlt := World.block_lt_of_cell? w a hc; obtain ⟨D, ⟨es, clock, hb, _⟩, _⟩ := h
 have hne : some a.block ≠ some b := by
  intro e; injection e with e
  unfold World.cell? at hc
  rw [e, hb] at hc; simp at hc
 have := hg.block a.block hlt hne
 simpa [World.cell?, this] using hc
theorem mk_below {w w1 w2 : World} {b : Nat} (h : Below w.heap.size w w1) (hg : w1.grownBy w2 (some b)) (hb : w.heap.size ≤ b) : Below w.heap.size w w2 :=
 ⟨hg.os.trans h.os, hg.tape.trans h.tape, hg.output.trans h.output, Nat.le_trans h.size hg.size, fun i hi => (hg.block i (Nat.lt_of_lt_of_le hi h.size) (fun e => by injection e with e; omega)).trans (h.block i hi)⟩
section
variable {P : Program} {Q : Exit → Act → World → Prop} {ops : Array Oper} {rest : List Oper} {o : Oper} {a : Act} {W : World}
theorem gate_mm {t : TypeId} (_ho : o.op = .makeMap t none) (h : wpList P ops Q (o :: rest) a W) : wpList P ops Q (o :: rest) a W := h
theorem gate_lk {t : TypeId} {m x : Operand} (_ho : o.op = .lookup t m x false) (h : wpList P ops Q (o :: rest) a W) : wpList P ops Q (o :: rest) a W := h
theorem mm_event (hgd : o.guard = none) (ho : o.op = .makeMap 96 none) (h : ∀ g, g = W.heap.size → ∀ w1, MkMap w1 g mk0 → Below W.heap.size W w1 → wpList Try.prog ops Q rest (a.put o.dst (.map (some g))) w1) : wpList Try.prog ops Q (o :: rest) a W := by
 refine wpList_plain hgd fun K' hK' => ?_
 unfold Oper.wp
 simp [execOp, ho, run_makeMap, Result.andThen]
 exact hK' _ _ (h _ rfl _ (MkMap.made W) (below_alloc (Below.refl _ _) _))
theorem lk_event {m x : Operand} {b : Nat} {l hh : Int} {s : MkS} (hgd : o.guard = none) (ho : o.op = .lookup 96 m x false) (hm : a.eval m = .map (some b)) (hx : a.eval x = mkKey l hh) (hM : MkMap W b s) (ok : mkOk l hh) (h : wpList Try.prog ops Q rest (a.put o.dst (.int .i64 (s.1 l hh))) W) : wpList Try.prog ops Q (o :: rest) a W := by
 refine wpList_plain hgd fun K' hK' => ?_
 unfold Oper.wp
 simp [execOp, ho, hm, hx, hM.lookup ok, Result.andThen]
 exact hK' _ _ h
variable {ev : Operand → Value} {w w1 : World} {v M key : Value} {t : TypeId} {m x st u : Operand}
theorem run_lookup (ho : o.op = .lookup t m x false) (hm : ev m = M) (hx : ev x = key) (h : (Instr.lookup t M key false).run P w = .ok v w) : (execOp ev o).run P w = .ok (.value v) w := by
 unfold execOp
 simp [ho, hm, hx, h, Result.andThen]
theorem run_mapEntry (ho : o.op = .mapEntry t m x) (hm : ev m = M) (hx : ev x = key) (h : (Instr.mapEntry t M key).run P w = .ok v w1) : (execOp ev o).run P w = .ok (.value v) w1 := by
 unfold execOp
 simp [ho, hm, hx, h, Result.andThen]
theorem run_entryStore {sv uv : Value} (ho : o.op = .entryStore t m st u) (hm : ev m = M) (hs : ev st = sv) (hu : ev u = uv) (h : (Instr.entryStore t M sv uv).run P w = .ok () w1) : (execOp ev o).run P w = .ok .skip w1 := by
 unfold execOp
 simp [ho, hm, hs, hu, h, Result.andThen]
end
def impl_Makespan.T10 : Bool × List (List Nat × List Nat) := (true, [([], []), ([], []), ([1], [1]), ([], []), ([2, 3], [2, 3]), ([4], [4]), ([5], [5]), ([], []), ([6, 7], [6, 7]), ([0, 8], [0, 8]), ([], []), ([10], [10]), ([], []), ([11, 12], [11, 12]), ([13], [13]), ([14], [14]), ([], []), ([16], [16]), ([], []), ([17, 18], [17, 18]), ([19], [19]), ([20], [20]), ([15, 21], [15, 21]), ([9, 22], [9, 22]), ([0, 8, 0, 1, 2, 3, 4, 5, 6, 7, 8, 10, 11, 12, 13, 14, 15, 16, 17, 18, 19, 20, 21, 22], [0, 8]), ([24], [24]), ([0, 25, 23, 24, 0, 1, 2, 3, 4, 5, 6, 7, 8, 9, 10, 11, 12, 13, 14, 15, 16, 17, 18, 19, 20, 21, 22, 23, 24, 25], [0, 23, 25])])
def impl_Makespan.B10 : List Nat := [0, 0, 2, 0, 14, 30, 62, 0, 254, 511, 0, 1024, 0, 7168, 15360, 31744, 0, 65536, 0, 458752, 983040, 2031616, 4193280, 8388607, 8388095, 25165311, 67108863]
theorem impl_Makespan.tab10 : rtab .any (opsOf Try.f15 10) = impl_Makespan.T10 := by kernel_rfl
theorem impl_Makespan.bits10 : waitsOk impl_Makespan.T10.2 impl_Makespan.B10 = true := by kernel_rfl
mutual
def impl_Makespan.j0 : Nat → Int → Bool → Int → Int → List (S93) → Option (Int)
 | 0, _, _, _, _, _ => none
 | k + 1, x1, x24, x210000, x210001, x210002 => if x24 = true then (some (-1)) else ((impl_deal.f k x210000 x210001 x210002 x1).bind fun t211 => (impl_Makespan.l0 k x1 mk0 t211 (t211.length : Int) 0 x210000 x210001 x210002))
def impl_Makespan.l0 : Nat → Int → MkS → List (List Int) → Int → Int → Int → Int → List (S93) → Option (Int)
 | 0, _, _, _, _, _, _, _, _ => none
 | k + 1, x1, x5, x28, x29, x30, x210000, x210001, x210002 => if x30 < x29 then (if 0 ≤ x30 then (if x30 < (x28.length : Int) then (impl_Makespan.l1 k x1 x5 x30 x28 x29 x30 (rd_L3 x28 x30) ((rd_L3 x28 x30).length : Int) 0 x210000 x210001 x210002) else (none)) else (none)) else (impl_Makespan.l2 k x1 x5 0 x210001 0)
def impl_Makespan.l1 : Nat → Int → MkS → Int → List (List Int) → Int → Int → List Int → Int → Int → Int → Int → List (S93) → Option (Int)
 | 0, _, _, _, _, _, _, _, _, _, _, _, _ => none
 | k + 1, x1, x5, x6, x28, x29, x30, x35, x36, x37, x210000, x210001, x210002 => if x37 < x36 then (if 0 ≤ x37 then (if x37 < (x35.length : Int) then (if 0 ≤ (rd x35 x37) then (if (rd x35 x37) < (x210002.length : Int) then (if x5.2 < 1048576 then (if mkOk ((rd_T93 x210002 (rd x35 x37)).f0) x6 then (impl_Makespan.l1 k x1 (mkUp x5 ((rd_T93 x210002 (rd x35 x37)).f0) x6 (wrap64 ((x5.1 ((rd_T93 x210002 (rd x35 x37)).f0) x6) + (wrap64 (((rd_T93 x210002 (rd x35 x37)).f2) - ((rd_T93 x210002 (rd x35 x37)).f1)))))) x6 x28 x29 x30 x35 x36 (wrap64 (x37 + 1)) x210000 x210001 x210002) else (none)) else (none)) else (none)) else (none)) else (none)) else (none)) else (impl_Makespan.l0 k x1 x5 x28 x29 (wrap64 (x30 + 1)) x210000 x210001 x210002)
def impl_Makespan.l2 : Nat → Int → MkS → Int → Int → Int → Option (Int)
 | 0, _, _, _, _, _ => none
 | k + 1, x1, x5, x10, x70, x71 => if x71 < x70 then (impl_Makespan.l3 k x1 x5 x10 x71 0 x70 x71 x1 0) else (some x10)
def impl_Makespan.l3 : Nat → Int → MkS → Int → Int → Int → Int → Int → Int → Int → Option (Int)
 | 0, _, _, _, _, _, _, _, _, _ => none
 | k + 1, x1, x5, x10, x11, x12, x70, x71, x74, x75 => if x75 < x74 then (if mkOk x11 x75 then (impl_Makespan.l3 k x1 x5 x10 x11 (mx x12 (x5.1 x11 x75)) x70 x71 x74 (wrap64 (x75 + 1))) else (none)) else (impl_Makespan.l2 k x1 x5 (wrap64 (x10 + x12)) x70 (wrap64 (x71 + 1)))
end
def impl_Makespan.f (k : Nat) (a0_0 : Int) (a0_1 : Int) (l0_2 : List (S93)) (a1 : Int) : Option (Int) := (impl_isPlan.f k a0_0 a0_1 l0_2).bind fun t210 => (if t210 = true then (if a1 < 1 then (impl_Makespan.j0 k a1 true a0_0 a0_1 l0_2) else (impl_Makespan.j0 k a1 (decide (a1 > 16)) a0_0 a0_1 l0_2)) else (impl_Makespan.j0 k a1 true a0_0 a0_1 l0_2))
theorem impl_Makespan.mono_l : ∀ k, (∀ y0 y1 y2 y3 y4, LeO (impl_Makespan.j0 k y0 y1 y2 y3 y4) (impl_Makespan.j0 (k + 1) y0 y1 y2 y3 y4)) ∧ (∀ y0 y1 y2 y3 y4 y5 y6 y7, LeO (impl_Makespan.l0 k y0 y1 y2 y3 y4 y5 y6 y7) (impl_Makespan.l0 (k + 1) y0 y1 y2 y3 y4 y5 y6 y7)) ∧ (∀ y0 y1 y2 y3 y4 y5 y6 y7 y8 y9 y10 y11, LeO (impl_Makespan.l1 k y0 y1 y2 y3 y4 y5 y6 y7 y8 y9 y10 y11) (impl_Makespan.l1 (k + 1) y0 y1 y2 y3 y4 y5 y6 y7 y8 y9 y10 y11)) ∧ (∀ y0 y1 y2 y3 y4, LeO (impl_Makespan.l2 k y0 y1 y2 y3 y4) (impl_Makespan.l2 (k + 1) y0 y1 y2 y3 y4)) ∧ (∀ y0 y1 y2 y3 y4 y5 y6 y7 y8, LeO (impl_Makespan.l3 k y0 y1 y2 y3 y4 y5 y6 y7 y8) (impl_Makespan.l3 (k + 1) y0 y1 y2 y3 y4 y5 y6 y7 y8))
 | 0 => ⟨fun _ _ _ _ _ r h => by simp [impl_Makespan.j0] at h, fun _ _ _ _ _ _ _ _ r h => by simp [impl_Makespan.l0] at h, fun _ _ _ _ _ _ _ _ _ _ _ _ r h => by simp [impl_Makespan.l1] at h, fun _ _ _ _ _ r h => by simp [impl_Makespan.l2] at h, fun _ _ _ _ _ _ _ _ _ r h => by simp [impl_Makespan.l3] at h⟩
 | k + 1 => by
  obtain ⟨ih0, ih1, ih2, ih3, ih4⟩ := impl_Makespan.mono_l k; refine ⟨?_, ?_, ?_, ?_, ?_⟩
  · intro y0 y1 y2 y3 y4; unfold impl_Makespan.j0; exact xq34
  · intro y0 y1 y2 y3 y4 y5 y6 y7; unfold impl_Makespan.l0; exact xq34
  · intro y0 y1 y2 y3 y4 y5 y6 y7 y8 y9 y10 y11; unfold impl_Makespan.l1; exact xq34
  · intro y0 y1 y2 y3 y4; unfold impl_Makespan.l2; exact xq34
  · intro y0 y1 y2 y3 y4 y5 y6 y7 y8; unfold impl_Makespan.l3; exact xq34
theorem impl_Makespan.mono : ∀ a0 a1 a2 a3 k, LeO (impl_Makespan.f k a0 a1 a2 a3) (impl_Makespan.f (k + 1) a0 a1 a2 a3) := by
 intro a0 a1 a2 a3 k; obtain ⟨ih0, ih1, ih2, ih3, ih4⟩ := impl_Makespan.mono_l k
 unfold impl_Makespan.f
 exact xq34
set_option maxHeartbeats 8000000 in
set_option maxRecDepth 100000 in
theorem impl_Makespan.calls (k : Nat) (a0_0 : Int) (a0_1 : Int) (A0_2 : Option Addr) (c0_2 : Nat) (l0_2 : List (S93)) (a1 : Int) (r : Int) (w : World) (hr0_2 : Kd.C k93 w A0_2 l0_2.length l0_2) (hc0_2 : l0_2.length ≤ c0_2) (h : impl_Makespan.f k a0_0 a0_1 l0_2 a1 = some r) :
 Calls Try.prog 15 #[.agg #[.int .i64 a0_0, .int .i64 a0_1, .slice A0_2 l0_2.length c0_2], .int .i64 a1] w fun e w' => e = .returned (.int .i64 r) ∧ Below w.heap.size w w' := by
 have hu26 := Try.underlying26; have HR0_2 := ak hr0_2; have HC0_2 := ak hc0_2; clear hr0_2 hc0_2; have HB := ak (Below.refl w.heap.size w); have H : ((impl_isPlan.f k a0_0 a0_1 l0_2).bind fun t210 => (if t210 = true then (if a1 < 1 then (impl_Makespan.j0 k a1 true a0_0 a0_1 l0_2) else (impl_Makespan.j0 k a1 (decide (a1 > 16)) a0_0 a0_1 l0_2)) else (impl_Makespan.j0 k a1 true a0_0 a0_1 l0_2))) = some r := h; clear h; have HC3 := ak H; clear H; go_enter Try.func15, Try.ntmps15
 go_upto_region 1 with (first | ((with_reducible refine gate_dst (N := 2) rfl ?_); refine boxA 2 #[.int .i64 a0_0, .int .i64 a0_1, .slice A0_2 l0_2.length c0_2] 26 ?_; intro gb209 hg w4 hbox hb; have BK209 := ak hbox; have GW209 := leA (w := w) hg; have GE209 := leA (w := w) hg; replace HB := bS hb; clear hb hbox hg))
 repeat (go_quiet (first | ((with_reducible refine gate_dst (N := 2) rfl ?_); refine boxA 2 #[.int .i64 a0_0, .int .i64 a0_1, .slice A0_2 l0_2.length c0_2] 26 ?_; intro gb209 hg w4 hbox hb; have BK209 := ak hbox; have GW209 := leA (w := w) hg; have GE209 := leA (w := w) hg; replace HB := bS hb; clear hb hbox hg)); go_upto_region 1 with (first | ((with_reducible refine gate_dst (N := 2) rfl ?_); refine boxA 2 #[.int .i64 a0_0, .int .i64 a0_1, .slice A0_2 l0_2.length c0_2] 26 ?_; intro gb209 hg w4 hbox hb; have BK209 := ak hbox; have GW209 := leA (w := w) hg; have GE209 := leA (w := w) hg; replace HB := bS hb; clear hb hbox hg)))
 (try simp only [Act.put, sa, sb, sc])
 go_cut [24] (fun v24 wc => ∃ (kq : Nat) (x24_2 : Bool), v24 = .bool x24_2 ∧ Aside0 (impl_Makespan.j0 kq a1 x24_2 a0_0 a0_1 l0_2 = some r) ∧ Aside0 (kq ≤ k) ∧ Aside0 (wc.heap[gb209]? = some (.cells #[.int .i64 a0_0, .int .i64 a0_1, (.slice A0_2 l0_2.length c0_2)] 26 (0, 0))) ∧ Aside0 (Below w.heap.size w wc))
 case first =>
  have H := HC3.out; clear HC3; replace H := Option.bind_eq_some_iff.mp H; obtain ⟨t210, A50, H⟩ := H; (try dsimp only at H); have A5 := ak A50; clear A50
  by_cases c6 : t210 = true; rotate_left
  · replace c6 := Bool.eq_false_iff.mpr c6; subst c6; have H1 : (impl_Makespan.j0 k a1 true a0_0 a0_1 l0_2) = some r := by rw [if_neg (show ¬ (false = true) by decide)] at H; exact H
    clear H; have H := H1; clear H1; have H' := ak H; clear H; obtain ⟨_, _, _, _, _, _⟩ := cel3 BK209; go_wp2_with (first | (go_at_call 63; (with_reducible refine (impl_isPlan.calls k a0_0 a0_1 _ _ l0_2 false _ ?side1 ?side2 A5.out).mono ?_); (case side1 => exact cA (Kd.C_below HR0_2.out HB.out)); (case side2 => exact HC0_2.out); rintro e w13 ⟨rfl, hb⟩; replace BK209 := bB BK209 hb; replace HB := bS hb; (try clear hb)))
    repeat (go_quiet (first | (go_at_call 63; (with_reducible refine (impl_isPlan.calls k a0_0 a0_1 _ _ l0_2 false _ ?side1 ?side2 A5.out).mono ?_); (case side1 => exact cA (Kd.C_below HR0_2.out HB.out)); (case side2 => exact HC0_2.out); rintro e w13 ⟨rfl, hb⟩; replace BK209 := bB BK209 hb; replace HB := bS hb; (try clear hb))); try go_wp2_with (first | (go_at_call 63; (with_reducible refine (impl_isPlan.calls k a0_0 a0_1 _ _ l0_2 false _ ?side1 ?side2 A5.out).mono ?_); (case side1 => exact cA (Kd.C_below HR0_2.out HB.out)); (case side2 => exact HC0_2.out); rintro e w13 ⟨rfl, hb⟩; replace BK209 := bB BK209 hb; replace HB := bS hb; (try clear hb))))
    go_meet
    case rel => exact ⟨_, (true), eqA, H', ⟨xq13⟩, ⟨blkA⟩, ⟨belA⟩⟩
  subst c6; have H1 : (if a1 < 1 then (impl_Makespan.j0 k a1 true a0_0 a0_1 l0_2) else (impl_Makespan.j0 k a1 (decide (a1 > 16)) a0_0 a0_1 l0_2)) = some r := by rw [if_pos rfl] at H; exact H
  clear H; have H := H1; clear H1
  by_cases c7 : a1 < 1
  · rw [if_pos c7] at H; have c7b0 := decide_eq_true c7; clear c7; (first | rw [c7b0] | (simp only [i64_w, i32_w]; rw [c7b0]) | skip)
    have H' := ak H; clear H; obtain ⟨_, _, _, _, _, _⟩ := cel3 BK209; go_wp2_with (first | (go_at_call 63; (with_reducible refine (impl_isPlan.calls k a0_0 a0_1 _ _ l0_2 true _ ?side1 ?side2 A5.out).mono ?_); (case side1 => exact cA (Kd.C_below HR0_2.out HB.out)); (case side2 => exact HC0_2.out); rintro e w9 ⟨rfl, hb⟩; replace BK209 := bB BK209 hb; replace HB := bS hb; (try clear hb)))
    repeat (go_quiet (first | (go_at_call 63; (with_reducible refine (impl_isPlan.calls k a0_0 a0_1 _ _ l0_2 true _ ?side1 ?side2 A5.out).mono ?_); (case side1 => exact cA (Kd.C_below HR0_2.out HB.out)); (case side2 => exact HC0_2.out); rintro e w9 ⟨rfl, hb⟩; replace BK209 := bB BK209 hb; replace HB := bS hb; (try clear hb))); try go_wp2_with (first | (go_at_call 63; (with_reducible refine (impl_isPlan.calls k a0_0 a0_1 _ _ l0_2 true _ ?side1 ?side2 A5.out).mono ?_); (case side1 => exact cA (Kd.C_below HR0_2.out HB.out)); (case side2 => exact HC0_2.out); rintro e w9 ⟨rfl, hb⟩; replace BK209 := bB BK209 hb; replace HB := bS hb; (try clear hb))))
    go_meet
    case rel => exact ⟨_, (true), eqA, H', ⟨xq13⟩, ⟨blkA⟩, ⟨belA⟩⟩
  rw [if_neg c7] at H; have c7b0 := decide_eq_false c7; clear c7; (first | rw [c7b0] | (simp only [i64_w, i32_w]; rw [c7b0]) | skip)
  have H' := ak H; clear H; obtain ⟨_, _, _, _, _, _⟩ := cel3 BK209; go_wp2_with (first | (go_at_call 63; (with_reducible refine (impl_isPlan.calls k a0_0 a0_1 _ _ l0_2 true _ ?side1 ?side2 A5.out).mono ?_); (case side1 => exact cA (Kd.C_below HR0_2.out HB.out)); (case side2 => exact HC0_2.out); rintro e w11 ⟨rfl, hb⟩; replace BK209 := bB BK209 hb; replace HB := bS hb; (try clear hb)))
  repeat (go_quiet (first | (go_at_call 63; (with_reducible refine (impl_isPlan.calls k a0_0 a0_1 _ _ l0_2 true _ ?side1 ?side2 A5.out).mono ?_); (case side1 => exact cA (Kd.C_below HR0_2.out HB.out)); (case side2 => exact HC0_2.out); rintro e w11 ⟨rfl, hb⟩; replace BK209 := bB BK209 hb; replace HB := bS hb; (try clear hb))); try go_wp2_with (first | (go_at_call 63; (with_reducible refine (impl_isPlan.calls k a0_0 a0_1 _ _ l0_2 true _ ?side1 ?side2 A5.out).mono ?_); (case side1 => exact cA (Kd.C_below HR0_2.out HB.out)); (case side2 => exact HC0_2.out); rintro e w11 ⟨rfl, hb⟩; replace BK209 := bB BK209 hb; replace HB := bS hb; (try clear hb))))
  go_meet
  case rel => exact ⟨_, (decide (a1 > 16)), eqA, H', ⟨xq13⟩, ⟨blkA⟩, ⟨belA⟩⟩
 case rest =>
  clear HC3; obtain ⟨kq, x24_2, rfl, HA, HJ2, BK209, HB⟩ := hcut
  cases kq with
  | zero => exact absurd HA.out (by simp [impl_Makespan.j0])
  | succ kj2 =>
   have H := HA.out; clear HA; simp only [impl_Makespan.j0] at H
   by_cases c14 : x24_2 = true
   · subst c14; have H1 : (some (-1)) = some r := by rw [if_pos rfl] at H; exact H
     clear H; have H := H1; clear H1; obtain rfl := Option.some.inj H; go_wp2
     repeat (go_quiet (fail); try go_wp2)
     go_ret
     exact ⟨xq2, belA⟩
   replace c14 := Bool.eq_false_iff.mpr c14; subst c14; have H1 : ((impl_deal.f kj2 a0_0 a0_1 l0_2 a1).bind fun t211 => (impl_Makespan.l0 kj2 a1 mk0 t211 (t211.length : Int) 0 a0_0 a0_1 l0_2)) = some r := by rw [if_neg (show ¬ (false = true) by decide)] at H; exact H
   clear H; have H := H1; clear H1; replace H := Option.bind_eq_some_iff.mp H; obtain ⟨t211, A150, H⟩ := H; (try dsimp only at H); have A15 := ak A150; clear A150; have H' := ak H; clear H; obtain ⟨_, _, _, _, _, _⟩ := cel3 BK209; go_wp2_with (first | ((with_reducible refine gate_mm rfl ?_); refine mm_event rfl rfl ?_; intro gb25 hg w16 hmk hb; have nM_ := ak hmk; have n1_ := bB BK209 hb; have n2_ := bS hb; have nG_ := ak ((by rw [hg]; exact (below_size belA)) : w.heap.size ≤ gb25); have nN_ := ak (xq73 : gb209 ≠ gb25); clear BK209; clear HB; have MKM := nM_; have BK209 := n1_; have HB := n2_; have GE25 := nG_; have NB25 := nN_; clear nM_ n1_ n2_ nG_ nN_; clear hb hg hmk; obtain ⟨_, _, _, _, _, _⟩ := cel3 BK209) | (go_at_call 64; (with_reducible refine (impl_deal.calls kj2 a0_0 a0_1 _ _ l0_2 a1 t211 _ ?side1 ?side2 A15.out).mono ?_); (case side1 => exact cA (Kd.C_below HR0_2.out HB.out)); (case side2 => exact HC0_2.out); rintro e w17 ⟨v212, rfl, ho0, hb⟩; have n0_ := sL (Kd.S_mono (ok' := fun k_ => k_ ≠ gb25) (Kd.S_bound ho0) (fun k_ h_ => by rintro rfl; exact Nat.lt_irrefl _ (Nat.lt_of_lt_of_le (MkMap.lt (s := mk0) xq14) h_.2.1))); have n1_ := bB BK209 hb; have n2_ := bS hb; have nM_ := ak (MkMap.below (s := mk0) xq14 hb); clear MKM; have MKM := nM_; clear nM_; clear BK209; clear HB; have HO213 := n0_; have BK209 := n1_; have HB := n2_; clear n0_ n1_ n2_; (try clear hb ho0); obtain ⟨Ao18, co18, eo18⟩ := Kd.S_slice HO213.out; subst eo18))
   repeat (go_quiet (first | ((with_reducible refine gate_mm rfl ?_); refine mm_event rfl rfl ?_; intro gb25 hg w16 hmk hb; have nM_ := ak hmk; have n1_ := bB BK209 hb; have n2_ := bS hb; have nG_ := ak ((by rw [hg]; exact (below_size belA)) : w.heap.size ≤ gb25); have nN_ := ak (xq73 : gb209 ≠ gb25); clear BK209; clear HB; have MKM := nM_; have BK209 := n1_; have HB := n2_; have GE25 := nG_; have NB25 := nN_; clear nM_ n1_ n2_ nG_ nN_; clear hb hg hmk; obtain ⟨_, _, _, _, _, _⟩ := cel3 BK209) | (go_at_call 64; (with_reducible refine (impl_deal.calls kj2 a0_0 a0_1 _ _ l0_2 a1 t211 _ ?side1 ?side2 A15.out).mono ?_); (case side1 => exact cA (Kd.C_below HR0_2.out HB.out)); (case side2 => exact HC0_2.out); rintro e w17 ⟨v212, rfl, ho0, hb⟩; have n0_ := sL (Kd.S_mono (ok' := fun k_ => k_ ≠ gb25) (Kd.S_bound ho0) (fun k_ h_ => by rintro rfl; exact Nat.lt_irrefl _ (Nat.lt_of_lt_of_le (MkMap.lt (s := mk0) xq14) h_.2.1))); have n1_ := bB BK209 hb; have n2_ := bS hb; have nM_ := ak (MkMap.below (s := mk0) xq14 hb); clear MKM; have MKM := nM_; clear nM_; clear BK209; clear HB; have HO213 := n0_; have BK209 := n1_; have HB := n2_; clear n0_ n1_ n2_; (try clear hb ho0); obtain ⟨Ao18, co18, eo18⟩ := Kd.S_slice HO213.out; subst eo18)); try go_wp2_with (first | ((with_reducible refine gate_mm rfl ?_); refine mm_event rfl rfl ?_; intro gb25 hg w16 hmk hb; have nM_ := ak hmk; have n1_ := bB BK209 hb; have n2_ := bS hb; have nG_ := ak ((by rw [hg]; exact (below_size belA)) : w.heap.size ≤ gb25); have nN_ := ak (xq73 : gb209 ≠ gb25); clear BK209; clear HB; have MKM := nM_; have BK209 := n1_; have HB := n2_; have GE25 := nG_; have NB25 := nN_; clear nM_ n1_ n2_ nG_ nN_; clear hb hg hmk; obtain ⟨_, _, _, _, _, _⟩ := cel3 BK209) | (go_at_call 64; (with_reducible refine (impl_deal.calls kj2 a0_0 a0_1 _ _ l0_2 a1 t211 _ ?side1 ?side2 A15.out).mono ?_); (case side1 => exact cA (Kd.C_below HR0_2.out HB.out)); (case side2 => exact HC0_2.out); rintro e w17 ⟨v212, rfl, ho0, hb⟩; have n0_ := sL (Kd.S_mono (ok' := fun k_ => k_ ≠ gb25) (Kd.S_bound ho0) (fun k_ h_ => by rintro rfl; exact Nat.lt_irrefl _ (Nat.lt_of_lt_of_le (MkMap.lt (s := mk0) xq14) h_.2.1))); have n1_ := bB BK209 hb; have n2_ := bS hb; have nM_ := ak (MkMap.below (s := mk0) xq14 hb); clear MKM; have MKM := nM_; clear nM_; clear BK209; clear HB; have HO213 := n0_; have BK209 := n1_; have HB := n2_; clear n0_ n1_ n2_; (try clear hb ho0); obtain ⟨Ao18, co18, eo18⟩ := Kd.S_slice HO213.out; subst eo18)))
   go_loopg [30] kj2 (fun kq v30 w' => ∃ (x5_2 : MkS) (x30_2 : Int), v30 = .int .i64 x30_2 ∧ Aside0 (impl_Makespan.l0 kq a1 x5_2 t211 (t211.length : Int) x30_2 a0_0 a0_1 l0_2 = some r) ∧ Aside0 (kq ≤ kj2) ∧ Aside0 (Kd.S (Kd.slice 3 (Kd.int .i64)) 33 w' w.heap.size (fun k_ => k_ ≠ gb25) (.slice Ao18 t211.length co18) t211) ∧ Aside0 (w'.heap[gb209]? = some (.cells #[.int .i64 a0_0, .int .i64 a0_1, (.slice A0_2 l0_2.length c0_2)] 26 (0, 0))) ∧ Aside0 (MkMap w' gb25 x5_2) ∧ Aside0 (Below w.heap.size w w'))
   case atStart => exact ⟨mk0, (0), eqA, H', ⟨Nat.le_refl _⟩, ⟨sA HO213⟩, ⟨blkA⟩, ⟨xq14⟩, ⟨belA⟩⟩
   case round =>
    clear H'; obtain ⟨x5_2, x30_2, rfl, HA, HK2, HO_28, BK209, MKM, HB⟩ := hrel
    cases gk with
    | zero => exact absurd HA.out (by simp [impl_Makespan.l0])
    | succ k2 =>
     have H := HA.out; clear HA; simp only [impl_Makespan.l0] at H
     by_cases c19 : x30_2 < (t211.length : Int); rotate_left
     · rw [if_neg c19] at H; have c19b0 := decide_eq_false c19; clear c19; have H' := ak H; clear H; obtain ⟨_, _, _, _, _, _⟩ := cel3 BK209; go_wp2
       repeat (go_quiet (fail); try go_wp2)
       go_loopg [10, 71] k2 (fun kq v10 v71 w' => ∃ (x10_3 : Int) (x71_3 : Int), v10 = .int .i64 x10_3 ∧ v71 = .int .i64 x71_3 ∧ Aside0 (impl_Makespan.l2 kq a1 x5_2 x10_3 a0_1 x71_3 = some r) ∧ Aside0 (kq ≤ k2) ∧ Aside0 (w'.heap[gb209]? = some (.cells #[.int .i64 a0_0, .int .i64 a0_1, (.slice A0_2 l0_2.length c0_2)] 26 (0, 0))) ∧ Aside0 (MkMap w' gb25 x5_2) ∧ Aside0 (Below w.heap.size w w'))
       case atStart => exact ⟨(0), (0), eqA, eqA, H', ⟨Nat.le_refl _⟩, ⟨blkA⟩, ⟨xq14⟩, ⟨belA⟩⟩
       case round =>
        clear H'; obtain ⟨x10_3, x71_3, rfl, rfl, HA, HK3, BK209, MKM, HB⟩ := hrel
        cases gk with
        | zero => exact absurd HA.out (by simp [impl_Makespan.l2])
        | succ k3 =>
         have H := HA.out; clear HA; simp only [impl_Makespan.l2] at H
         by_cases c29 : x71_3 < a0_1; rotate_left
         · rw [if_neg c29] at H; have c29b0 := decide_eq_false c29; clear c29; obtain rfl := Option.some.inj H; go_wp2
           repeat (go_quiet (fail); try go_wp2)
           go_ret
           exact ⟨xq2, belA⟩
         rw [if_pos c29] at H; have c29b0 := decide_eq_true c29; clear c29; have H' := ak H; clear H; go_wp2
         repeat (go_quiet (fail); try go_wp2)
         go_loopg [12, 75] k3 (fun kq v12 v75 w' => ∃ (x12_4 : Int) (x75_4 : Int), v12 = .int .i64 x12_4 ∧ v75 = .int .i64 x75_4 ∧ Aside0 (impl_Makespan.l3 kq a1 x5_2 x10_3 x71_3 x12_4 a0_1 x71_3 a1 x75_4 = some r) ∧ Aside0 (kq ≤ k3) ∧ Aside0 (w'.heap[gb209]? = some (.cells #[.int .i64 a0_0, .int .i64 a0_1, (.slice A0_2 l0_2.length c0_2)] 26 (0, 0))) ∧ Aside0 (MkMap w' gb25 x5_2) ∧ Aside0 (Below w.heap.size w w'))
         case atStart => exact ⟨(0), (0), eqA, eqA, H', ⟨Nat.le_refl _⟩, ⟨blkA⟩, ⟨xq14⟩, ⟨belA⟩⟩
         case round =>
          clear H'; obtain ⟨x12_4, x75_4, rfl, rfl, HA, HK4, BK209, MKM, HB⟩ := hrel
          cases gk with
          | zero => exact absurd HA.out (by simp [impl_Makespan.l3])
          | succ k4 =>
           have H := HA.out; clear HA; simp only [impl_Makespan.l3] at H
           by_cases c30 : x75_4 < a1; rotate_left
           · rw [if_neg c30] at H; have c30b0 := decide_eq_false c30; clear c30; have H' := ak H; clear H; go_wp2
             repeat (go_quiet (fail); try go_wp2)
             go_roundg k4
             case measure => have := HJ2.out; have := HK2.out; have := HK3.out; have := HK4.out; omega
             case rel => exact ⟨(wrap64 (x10_3 + x12_4)), (wrap64 (x71_3 + 1)), eqA, eqA, H', ⟨by have := HJ2.out; have := HK2.out; have := HK3.out; have := HK4.out; omega⟩, ⟨blkA⟩, ⟨xq14⟩, ⟨belA⟩⟩
           rw [if_pos c30] at H; have c30b0 := decide_eq_true c30; clear c30
           by_cases cm : mkOk x71_3 x75_4; rotate_left
           · rw [if_neg cm] at H; exact absurd H (by simp)
           rw [if_pos cm] at H; have CM := ak cm; clear cm; obtain ⟨ji31, hji31⟩ : ∃ j_ : Int, (mx x12_4 (x5_2.1 x71_3 x75_4)) = j_ := ⟨_, rfl⟩; replace H : (impl_Makespan.l3 k4 a1 x5_2 x10_3 x71_3 ji31 a0_1 x71_3 a1 (wrap64 (x75_4 + 1))) = some r := by first | (rw [hji31] at H; exact H) | (simp only [hji31] at H ⊢; exact H)
           have hji31_ : (if x12_4 < (x5_2.1 x71_3 x75_4) then (x5_2.1 x71_3 x75_4) else x12_4) = ji31 := hji31; have H' := ak H; clear H; go_wp2_with (first | ((with_reducible refine gate_lk rfl ?_); refine lk_event rfl rfl rfl rfl xq14 CM.out ?_))
           repeat (go_quiet (fail); try go_wp2)
           go_roundg k4
           case measure => have := HJ2.out; have := HK2.out; have := HK3.out; have := HK4.out; omega
           case rel => exact ⟨(ji31), (wrap64 (x75_4 + 1)), (by first | rfl | (simp; done) | (simp only [← hji31] <;> (first | rfl | simp)) | (simp [*]; done)), eqA, H', ⟨by have := HJ2.out; have := HK2.out; have := HK3.out; have := HK4.out; omega⟩, ⟨blkA⟩, ⟨xq14⟩, ⟨belA⟩⟩
     rw [if_pos c19] at H; have c19b0 := decide_eq_true c19; clear c19
     by_cases c20 : 0 ≤ x30_2; rotate_left
     · rw [if_neg c20] at H; exact absurd H (by simp)
     rw [if_pos c20] at H; have c20b0 := decide_eq_true c20; clear c20
     by_cases c21 : x30_2 < (t211.length : Int); rotate_left
     · rw [if_neg c21] at H; exact absurd H (by simp)
     rw [if_pos c21] at H; have c21b0 := decide_eq_true c21; clear c21; have H' := ak H; clear H; have p214 : 0 ≤ (x30_2 : Int) := odA; have q214 : x30_2 < (t211.length : Int) := odA; obtain ⟨ad214, A214_0, c214_0, e214, hx214_0, hl214_0, hi214_0⟩ := at_L3 (Kd.S_reads' HO_28.out).2.2 x30_2 p214 q214
     cases e214
     obtain ⟨ce214, hce214, hMe214, hcc214⟩ := Kd.S_get HO_28.out [] x30_2 p214 (by first | exact q214 | exact odA | (have e_ := (Kd.S_reads' HO_28.out).1; omega)); obtain ⟨ve214_0, rfl, ge214_0⟩ := hMe214; have hv214_0 := hcc214 0 _ rfl; rw [Nat.add_zero, show ((Kd.slice 3 (Kd.int .i64))).sz = 1 from rfl, Nat.mul_one] at hv214_0; replace hv214_0 := Option.some.inj (hv214_0.symm.trans hx214_0); rw [hv214_0] at ge214_0; have HL214_0 := ak (show Kd.R (Kd.int .i64) 3 _ _ _ _ (rd_L3 t211 x30_2) from ge214_0); clear hv214_0 ge214_0; clear hcc214 hce214; have HR214_0 := ak hi214_0; have HC214_0 := ak hl214_0; clear hi214_0 hl214_0; replace p214 := eq_true p214; replace q214 := eq_true q214; go_wp2
     repeat (go_quiet (fail); try go_wp2)
     go_loopg [37] k2 (fun kq v37 w' => ∃ (x5_3 : MkS) (x37_3 : Int), v37 = .int .i64 x37_3 ∧ Aside0 (impl_Makespan.l1 kq a1 x5_3 x30_2 t211 (t211.length : Int) x30_2 (rd_L3 t211 x30_2) ((rd_L3 t211 x30_2).length : Int) x37_3 a0_0 a0_1 l0_2 = some r) ∧ Aside0 (kq ≤ k2) ∧ Aside0 (Kd.S (Kd.slice 3 (Kd.int .i64)) 33 w' w.heap.size (fun k_ => k_ ≠ gb25) (.slice (some ad214) t211.length co18) t211) ∧ Aside0 (w'.heap[gb209]? = some (.cells #[.int .i64 a0_0, .int .i64 a0_1, (.slice A0_2 l0_2.length c0_2)] 26 (0, 0))) ∧ Aside0 (Kd.R (Kd.int .i64) 3 w' w.heap.size (fun k_ => k_ ≠ gb25) (.slice A214_0 (rd_L3 t211 x30_2).length c214_0) (rd_L3 t211 x30_2)) ∧ Aside0 (MkMap w' gb25 x5_3) ∧ Aside0 (Below w.heap.size w w'))
     case atStart => exact ⟨(x5_2), (0), eqA, H', ⟨Nat.le_refl _⟩, ⟨sA HO_28⟩, ⟨blkA⟩, ⟨rE (Kd.R_mono HL214_0.out (fun _ hk_ => by first | exact hk_.1 | exact hk_.1.1 | exact hk_.1.1.1 | exact hk_.2))⟩, ⟨xq14⟩, ⟨belA⟩⟩
     case round =>
      clear H'; obtain ⟨x5_3, x37_3, rfl, HA, HK3, HO_28, BK209, HR214_0, MKM, HB⟩ := hrel
      cases gk with
      | zero => exact absurd HA.out (by simp [impl_Makespan.l1])
      | succ k3 =>
       have H := HA.out; clear HA; simp only [impl_Makespan.l1] at H
       by_cases c22 : x37_3 < ((rd_L3 t211 x30_2).length : Int); rotate_left
       · rw [if_neg c22] at H; have c22b0 := decide_eq_false c22; clear c22; have H' := ak H; clear H; go_wp2
         repeat (go_quiet (fail); try go_wp2)
         go_roundg k3
         case measure => have := HJ2.out; have := HK2.out; have := HK3.out; omega
         case rel => exact ⟨(x5_3), (wrap64 (x30_2 + 1)), eqA, H', ⟨xq53⟩, ⟨sA HO_28⟩, ⟨blkA⟩, ⟨xq14⟩, ⟨belA⟩⟩
       rw [if_pos c22] at H; have c22b0 := decide_eq_true c22; clear c22
       by_cases c23 : 0 ≤ x37_3; rotate_left
       · rw [if_neg c23] at H; exact absurd H (by simp)
       rw [if_pos c23] at H; have c23b0 := decide_eq_true c23; clear c23
       by_cases c24 : x37_3 < ((rd_L3 t211 x30_2).length : Int); rotate_left
       · rw [if_neg c24] at H; exact absurd H (by simp)
       rw [if_pos c24] at H; have c24b0 := decide_eq_true c24; clear c24
       by_cases c25 : 0 ≤ (rd (rd_L3 t211 x30_2) x37_3); rotate_left
       · rw [if_neg c25] at H; exact absurd H (by simp)
       rw [if_pos c25] at H; have c25b0 := decide_eq_true c25; clear c25
       by_cases c26 : (rd (rd_L3 t211 x30_2) x37_3) < (l0_2.length : Int); rotate_left
       · rw [if_neg c26] at H; exact absurd H (by simp)
       rw [if_pos c26] at H; have c26b0 := decide_eq_true c26; clear c26
       by_cases cn : x5_3.2 < 1048576; rotate_left
       · rw [if_neg cn] at H; exact absurd H (by simp)
       rw [if_pos cn] at H; have CN := ak cn; clear cn
       by_cases cm : mkOk ((rd_T93 l0_2 (rd (rd_L3 t211 x30_2) x37_3)).f0) x30_2; rotate_left
       · rw [if_neg cm] at H; exact absurd H (by simp)
       rw [if_pos cm] at H; have CM := ak cm; clear cm; have H' := ak H; clear H; have p215 : 0 ≤ (x37_3 : Int) := odA; have q215 : x37_3 < ((rd_L3 t211 x30_2).length : Int) := odA; obtain ⟨ad215, e215, hx215_0⟩ := Kd.at_int (Kd.R_reads' HR214_0.out).2.2 x37_3 p215 q215
       cases e215
       try replace hx215_0 := cB HB hx215_0
       replace p215 := eq_true p215; replace q215 := eq_true q215; obtain ⟨_, _, hcz27_2, _, _, _⟩ := cel3 BK209; have p216 : 0 ≤ ((rd (rd_L3 t211 x30_2) x37_3) : Int) := odA; have q216 : (rd (rd_L3 t211 x30_2) x37_3) < (l0_2.length : Int) := odA; obtain ⟨ad216, e216, hx216_0, hx216_1, hx216_2⟩ := at_T93 HR0_2.out (rd (rd_L3 t211 x30_2) x37_3) p216 q216
       cases e216
       try replace hx216_0 := cB HB hx216_0
       try replace hx216_1 := cB HB hx216_1
       try replace hx216_2 := cB HB hx216_2
       replace p216 := eq_true p216; replace q216 := eq_true q216; have p217 : 0 ≤ ((rd (rd_L3 t211 x30_2) x37_3) : Int) := odA; have q217 : (rd (rd_L3 t211 x30_2) x37_3) < (l0_2.length : Int) := odA; obtain ⟨ad217, e217, hx217_0, hx217_1, hx217_2⟩ := at_T93 HR0_2.out (rd (rd_L3 t211 x30_2) x37_3) p217 q217; obtain rfl : ad216 = ad217 := (by injection e217); try replace hx217_0 := cB HB hx217_0
       try replace hx217_1 := cB HB hx217_1
       try replace hx217_2 := cB HB hx217_2
       replace p217 := eq_true p217; replace q217 := eq_true q217; have p218 : 0 ≤ ((rd (rd_L3 t211 x30_2) x37_3) : Int) := odA; have q218 : (rd (rd_L3 t211 x30_2) x37_3) < (l0_2.length : Int) := odA; obtain ⟨ad218, e218, hx218_0, hx218_1, hx218_2⟩ := at_T93 HR0_2.out (rd (rd_L3 t211 x30_2) x37_3) p218 q218; obtain rfl : ad216 = ad218 := (by injection e218); try replace hx218_0 := cB HB hx218_0
       try replace hx218_1 := cB HB hx218_1
       try replace hx218_2 := cB HB hx218_2
       replace p218 := eq_true p218; replace q218 := eq_true q218; go_upto_region 10 with (fail)
       obtain ⟨mv_, st_, w29, er_, eg_, el_, ew_⟩ := MkMap.entry (MkMap.drew MKM.out) CM.out CN.out; obtain ⟨w30, sr_, sg_, sm_⟩ := ew_ (wrap64 ((x5_3.1 ((rd_T93 l0_2 (rd (rd_L3 t211 x30_2) x37_3)).f0) x30_2) + (wrap64 (((rd_T93 l0_2 (rd (rd_L3 t211 x30_2) x37_3)).f2) - ((rd_T93 l0_2 (rd (rd_L3 t211 x30_2) x37_3)).f1))))) (wrap64_wf _); have hlk_ := MkMap.lookup (MkMap.drew MKM.out) CM.out; have hce_ : ∀ a v, wr.cell? a = some v → w29.cell? a = some v := fun a v h => mk_cells (MkMap.drew MKM.out) eg_ a v h
       refine start_ (n := 27) (S := fun w' => (∀ a v, wr.cell? a = some v → w'.cell? a = some v) ∧ (Instr.lookup 96 (.map (some gb25)) (mkKey ((rd_T93 l0_2 (rd (rd_L3 t211 x30_2) x37_3)).f0) x30_2) false).run Try.prog w' = .ok (.int .i64 (x5_3.1 ((rd_T93 l0_2 (rd (rd_L3 t211 x30_2) x37_3)).f0) x30_2)) w') (ds := [26]) #[false, false, false, false, false, false, false, false, false, false, false, false, false, false, false, false, false, false, false, false, false, false, false, false, false, false, false] (by kernel_rfl) rfl rfl ⟨fun a v h => h, hlk_⟩ (fun hHeld => ?_); refine with_tabW impl_Makespan.tab10 impl_Makespan.bits10 (fun HT_ HW_ => ?_)
       refine pure_ (i := 0) (N := some 41) (v := ?_) (a' := ?_) #[true, false, false, false, false, false, false, false, false, false, false, false, false, false, false, false, false, false, false, false, false, false, false, false, false, false, false] rfl rfl (any_of HT_.out (by kernel_rfl)) (fun _ _ _ h => h) (Or.inl ⟨by rfl, ?_⟩) ?_ ?_
       rotate_left
       · intro w'; go_simp
         with_reducible rfl
       rotate_left
       · simp only [Act.put, sa, sb, sc, i64_w, i32_w]
         rfl
       refine pure_ (i := 1) (N := some 42) (v := ?_) (a' := ?_) #[true, true, false, false, false, false, false, false, false, false, false, false, false, false, false, false, false, false, false, false, false, false, false, false, false, false, false] rfl rfl (any_of HT_.out (by kernel_rfl)) (fun _ _ _ h => h) (Or.inl ⟨by rfl, ?_⟩) ?_ ?_
       rotate_left
       · intro w'; go_simp
         with_reducible rfl
       rotate_left
       · simp only [Act.put, sa, sb, sc, i64_w, i32_w]
         rfl
       refine take_ (i := 2) (N := some 43) (v := ?_) (a' := ?_) #[true, true, true, false, false, false, false, false, false, false, false, false, false, false, false, false, false, false, false, false, false, false, false, false, false, false, false] rfl rfl (take_ofW HT_.out HW_.out (by kernel_rfl)) (fun _ _ _ h => h) (Or.inl ⟨by rfl, ?_⟩) hHeld ?_ ?_
       rotate_left
       · rintro w' ⟨s_, sl_⟩
         have s0 := s_ _ _ hcz27_2; have s1 := s_ _ _ hx216_0; have s2 := s_ _ _ hx216_1; have s3 := s_ _ _ hx216_2; go_simp
         with_reducible rfl
       rotate_left
       · simp only [Act.put, sa, sb, sc, i64_w, i32_w]
         rfl
       refine pure_ (i := 3) (N := some 44) (v := ?_) (a' := ?_) #[true, true, true, true, false, false, false, false, false, false, false, false, false, false, false, false, false, false, false, false, false, false, false, false, false, false, false] rfl rfl (any_of HT_.out (by kernel_rfl)) (fun _ _ _ h => h) (Or.inl ⟨by rfl, ?_⟩) ?_ ?_
       rotate_left
       · intro w'; go_simp
         with_reducible rfl
       rotate_left
       · simp only [Act.put, sa, sb, sc, i64_w, i32_w]
         rfl
       refine pure_ (i := 4) (N := some 45) (v := ?_) (a' := ?_) #[true, true, true, true, true, false, false, false, false, false, false, false, false, false, false, false, false, false, false, false, false, false, false, false, false, false, false] rfl rfl (any_of HT_.out (by kernel_rfl)) (fun _ _ _ h => h) (Or.inl ⟨by rfl, ?_⟩) ?_ ?_
       rotate_left
       · intro w'; go_simp
         with_reducible rfl
       rotate_left
       · simp only [Act.put, sa, sb, sc, i64_w, i32_w]
         rfl
       refine pure_ (i := 5) (N := some 46) (v := ?_) (a' := ?_) #[true, true, true, true, true, true, false, false, false, false, false, false, false, false, false, false, false, false, false, false, false, false, false, false, false, false, false] rfl rfl (any_of HT_.out (by kernel_rfl)) (fun _ _ _ h => h) (Or.inl ⟨by rfl, ?_⟩) ?_ ?_
       rotate_left
       · intro w'; go_simp
         with_reducible rfl
       rotate_left
       · simp only [Act.put, sa, sb, sc, i64_w, i32_w]
         rfl
       refine take_ (i := 6) (N := some 47) (v := ?_) (a' := ?_) #[true, true, true, true, true, true, true, false, false, false, false, false, false, false, false, false, false, false, false, false, false, false, false, false, false, false, false] rfl rfl (take_ofW HT_.out HW_.out (by kernel_rfl)) (fun _ _ _ h => h) (Or.inl ⟨by rfl, ?_⟩) hHeld ?_ ?_
       rotate_left
       · rintro w' ⟨s_, sl_⟩
         have s0 := s_ _ _ hcz27_2; have s1 := s_ _ _ hx216_0; have s2 := s_ _ _ hx216_1; have s3 := s_ _ _ hx216_2; go_simp
         with_reducible rfl
       rotate_left
       · simp only [Act.put, sa, sb, sc, i64_w, i32_w]
         rfl
       refine pure_ (i := 7) (N := some 48) (v := ?_) (a' := ?_) #[true, true, true, true, true, true, true, true, false, false, false, false, false, false, false, false, false, false, false, false, false, false, false, false, false, false, false] rfl rfl (any_of HT_.out (by kernel_rfl)) (fun _ _ _ h => h) (Or.inl ⟨by rfl, ?_⟩) ?_ ?_
       rotate_left
       · intro w'; go_simp
         with_reducible rfl
       rotate_left
       · simp only [Act.put, sa, sb, sc, i64_w, i32_w]
         rfl
       refine pure_ (i := 8) (N := some 49) (v := ?_) (a' := ?_) #[true, true, true, true, true, true, true, true, true, false, false, false, false, false, false, false, false, false, false, false, false, false, false, false, false, false, false] rfl rfl (any_of HT_.out (by kernel_rfl)) (fun _ _ _ h => h) (Or.inl ⟨by rfl, ?_⟩) ?_ ?_
       rotate_left
       · intro w'; go_simp
         with_reducible rfl
       rotate_left
       · simp only [Act.put, sa, sb, sc, i64_w, i32_w]
         rfl
       refine take_ (i := 9) (N := some 50) (v := .int .i64 (x5_3.1 ((rd_T93 l0_2 (rd (rd_L3 t211 x30_2) x37_3)).f0) x30_2)) (a' := ?_) #[true, true, true, true, true, true, true, true, true, true, false, false, false, false, false, false, false, false, false, false, false, false, false, false, false, false, false] rfl rfl (take_ofW HT_.out HW_.out (by kernel_rfl)) (fun _ _ _ h => h) (Or.inl ⟨by rfl, ?_⟩) hHeld ?_ ?_
       · rintro w' ⟨s_, sl_⟩
         exact run_lookup (M := .map (some gb25)) (key := mkKey ((rd_T93 l0_2 (rd (rd_L3 t211 x30_2) x37_3)).f0) x30_2) rfl rfl rfl sl_
       rotate_left
       · simp only [Act.put, sa, sb, sc, i64_w, i32_w]
         rfl
       refine pure_ (i := 10) (N := some 51) (v := ?_) (a' := ?_) #[true, true, true, true, true, true, true, true, true, true, true, false, false, false, false, false, false, false, false, false, false, false, false, false, false, false, false] rfl rfl (any_of HT_.out (by kernel_rfl)) (fun _ _ _ h => h) (Or.inl ⟨by rfl, ?_⟩) ?_ ?_
       rotate_left
       · intro w'; go_simp
         with_reducible rfl
       rotate_left
       · simp only [Act.put, sa, sb, sc, i64_w, i32_w]
         rfl
       refine take_ (i := 11) (N := some 52) (v := ?_) (a' := ?_) #[true, true, true, true, true, true, true, true, true, true, true, true, false, false, false, false, false, false, false, false, false, false, false, false, false, false, false] rfl rfl (take_ofW HT_.out HW_.out (by kernel_rfl)) (fun _ _ _ h => h) (Or.inl ⟨by rfl, ?_⟩) hHeld ?_ ?_
       rotate_left
       · rintro w' ⟨s_, sl_⟩
         have s0 := s_ _ _ hcz27_2; have s1 := s_ _ _ hx216_0; have s2 := s_ _ _ hx216_1; have s3 := s_ _ _ hx216_2; go_simp
         with_reducible rfl
       rotate_left
       · simp only [Act.put, sa, sb, sc, i64_w, i32_w]
         rfl
       refine pure_ (i := 12) (N := some 53) (v := ?_) (a' := ?_) #[true, true, true, true, true, true, true, true, true, true, true, true, true, false, false, false, false, false, false, false, false, false, false, false, false, false, false] rfl rfl (any_of HT_.out (by kernel_rfl)) (fun _ _ _ h => h) (Or.inl ⟨by rfl, ?_⟩) ?_ ?_
       rotate_left
       · intro w'; go_simp
         with_reducible rfl
       rotate_left
       · simp only [Act.put, sa, sb, sc, i64_w, i32_w]
         rfl
       refine pure_ (i := 13) (N := some 54) (v := ?_) (a' := ?_) #[true, true, true, true, true, true, true, true, true, true, true, true, true, true, false, false, false, false, false, false, false, false, false, false, false, false, false] rfl rfl (any_of HT_.out (by kernel_rfl)) (fun _ _ _ h => h) (Or.inl ⟨by rfl, ?_⟩) ?_ ?_
       rotate_left
       · intro w'; go_simp
         with_reducible rfl
       rotate_left
       · simp only [Act.put, sa, sb, sc, i64_w, i32_w]
         rfl
       refine pure_ (i := 14) (N := some 55) (v := ?_) (a' := ?_) #[true, true, true, true, true, true, true, true, true, true, true, true, true, true, true, false, false, false, false, false, false, false, false, false, false, false, false] rfl rfl (any_of HT_.out (by kernel_rfl)) (fun _ _ _ h => h) (Or.inl ⟨by rfl, ?_⟩) ?_ ?_
       rotate_left
       · intro w'; go_simp
         with_reducible rfl
       rotate_left
       · simp only [Act.put, sa, sb, sc, i64_w, i32_w]
         rfl
       refine take_ (i := 15) (N := some 56) (v := ?_) (a' := ?_) #[true, true, true, true, true, true, true, true, true, true, true, true, true, true, true, true, false, false, false, false, false, false, false, false, false, false, false] rfl rfl (take_ofW HT_.out HW_.out (by kernel_rfl)) (fun _ _ _ h => h) (Or.inl ⟨by rfl, ?_⟩) hHeld ?_ ?_
       rotate_left
       · rintro w' ⟨s_, sl_⟩
         have s0 := s_ _ _ hcz27_2; have s1 := s_ _ _ hx216_0; have s2 := s_ _ _ hx216_1; have s3 := s_ _ _ hx216_2; go_simp
         with_reducible rfl
       rotate_left
       · simp only [Act.put, sa, sb, sc, i64_w, i32_w]
         rfl
       refine pure_ (i := 16) (N := some 57) (v := ?_) (a' := ?_) #[true, true, true, true, true, true, true, true, true, true, true, true, true, true, true, true, true, false, false, false, false, false, false, false, false, false, false] rfl rfl (any_of HT_.out (by kernel_rfl)) (fun _ _ _ h => h) (Or.inl ⟨by rfl, ?_⟩) ?_ ?_
       rotate_left
       · intro w'; go_simp
         with_reducible rfl
       rotate_left
       · simp only [Act.put, sa, sb, sc, i64_w, i32_w]
         rfl
       refine take_ (i := 17) (N := some 58) (v := ?_) (a' := ?_) #[true, true, true, true, true, true, true, true, true, true, true, true, true, true, true, true, true, true, false, false, false, false, false, false, false, false, false] rfl rfl (take_ofW HT_.out HW_.out (by kernel_rfl)) (fun _ _ _ h => h) (Or.inl ⟨by rfl, ?_⟩) hHeld ?_ ?_
       rotate_left
       · rintro w' ⟨s_, sl_⟩
         have s0 := s_ _ _ hcz27_2; have s1 := s_ _ _ hx216_0; have s2 := s_ _ _ hx216_1; have s3 := s_ _ _ hx216_2; go_simp
         with_reducible rfl
       rotate_left
       · simp only [Act.put, sa, sb, sc, i64_w, i32_w]
         rfl
       refine pure_ (i := 18) (N := some 59) (v := ?_) (a' := ?_) #[true, true, true, true, true, true, true, true, true, true, true, true, true, true, true, true, true, true, true, false, false, false, false, false, false, false, false] rfl rfl (any_of HT_.out (by kernel_rfl)) (fun _ _ _ h => h) (Or.inl ⟨by rfl, ?_⟩) ?_ ?_
       rotate_left
       · intro w'; go_simp
         with_reducible rfl
       rotate_left
       · simp only [Act.put, sa, sb, sc, i64_w, i32_w]
         rfl
       refine pure_ (i := 19) (N := some 60) (v := ?_) (a' := ?_) #[true, true, true, true, true, true, true, true, true, true, true, true, true, true, true, true, true, true, true, true, false, false, false, false, false, false, false] rfl rfl (any_of HT_.out (by kernel_rfl)) (fun _ _ _ h => h) (Or.inl ⟨by rfl, ?_⟩) ?_ ?_
       rotate_left
       · intro w'; go_simp
         with_reducible rfl
       rotate_left
       · simp only [Act.put, sa, sb, sc, i64_w, i32_w]
         rfl
       refine pure_ (i := 20) (N := some 61) (v := ?_) (a' := ?_) #[true, true, true, true, true, true, true, true, true, true, true, true, true, true, true, true, true, true, true, true, true, false, false, false, false, false, false] rfl rfl (any_of HT_.out (by kernel_rfl)) (fun _ _ _ h => h) (Or.inl ⟨by rfl, ?_⟩) ?_ ?_
       rotate_left
       · intro w'; go_simp
         with_reducible rfl
       rotate_left
       · simp only [Act.put, sa, sb, sc, i64_w, i32_w]
         rfl
       refine take_ (i := 21) (N := some 62) (v := ?_) (a' := ?_) #[true, true, true, true, true, true, true, true, true, true, true, true, true, true, true, true, true, true, true, true, true, true, false, false, false, false, false] rfl rfl (take_ofW HT_.out HW_.out (by kernel_rfl)) (fun _ _ _ h => h) (Or.inl ⟨by rfl, ?_⟩) hHeld ?_ ?_
       rotate_left
       · rintro w' ⟨s_, sl_⟩
         have s0 := s_ _ _ hcz27_2; have s1 := s_ _ _ hx216_0; have s2 := s_ _ _ hx216_1; have s3 := s_ _ _ hx216_2; go_simp
         with_reducible rfl
       rotate_left
       · simp only [Act.put, sa, sb, sc, i64_w, i32_w]
         rfl
       refine pure_ (i := 22) (N := some 63) (v := ?_) (a' := ?_) #[true, true, true, true, true, true, true, true, true, true, true, true, true, true, true, true, true, true, true, true, true, true, true, false, false, false, false] rfl rfl (any_of HT_.out (by kernel_rfl)) (fun _ _ _ h => h) (Or.inl ⟨by rfl, ?_⟩) ?_ ?_
       rotate_left
       · intro w'; go_simp
         with_reducible rfl
       rotate_left
       · simp only [Act.put, sa, sb, sc, i64_w, i32_w]
         rfl
       refine pure_ (i := 23) (N := some 64) (v := ?_) (a' := ?_) #[true, true, true, true, true, true, true, true, true, true, true, true, true, true, true, true, true, true, true, true, true, true, true, true, false, false, false] rfl rfl (any_of HT_.out (by kernel_rfl)) (fun _ _ _ h => h) (Or.inl ⟨by rfl, ?_⟩) ?_ ?_
       rotate_left
       · intro w'; go_simp
         with_reducible rfl
       rotate_left
       · simp only [Act.put, sa, sb, sc, i64_w, i32_w]
         rfl
       refine one_ (i := 24) (N := some 65) #[true, true, true, true, true, true, true, true, true, true, true, true, true, true, true, true, true, true, true, true, true, true, true, true, true, false, false] rfl rfl (one_of HT_.out (by kernel_rfl)) (by decide) (fun K hK => ?_)
       refine value_ (by rfl) rfl (run_mapEntry (M := .map (some gb25)) (key := mkKey ((rd_T93 l0_2 (rd (rd_L3 t211 x30_2) x37_3)).f0) x30_2) rfl rfl rfl er_) ?_
       refine hK.out _ _ ⟨hce_, el_⟩ (fun hHeld => ?_)
       clear hK K; refine norm_ (a' := ?_) ?_ ?_
       rotate_left
       · show Act.put _ (some 65) _ = _
         simp only [Act.put, sa, sb, sc, i64_w, i32_w]
         rfl
       refine pure_ (i := 25) (N := some 66) (v := ?_) (a' := ?_) #[true, true, true, true, true, true, true, true, true, true, true, true, true, true, true, true, true, true, true, true, true, true, true, true, true, true, false] rfl rfl (any_of HT_.out (by kernel_rfl)) (fun _ _ _ h => h) (Or.inl ⟨by rfl, ?_⟩) ?_ ?_
       rotate_left
       · intro w'; go_simp
         with_reducible rfl
       rotate_left
       · simp only [Act.put, sa, sb, sc, i64_w, i32_w]
         rfl
       refine last_ (i := 26) (N := none) #[true, true, true, true, true, true, true, true, true, true, true, true, true, true, true, true, true, true, true, true, true, true, true, true, true, true, true] rfl rfl (one_of HT_.out (by kernel_rfl)) (by decide) (fun K hK => ?_)
       refine skip_ (by rfl) rfl (run_entryStore (M := .map (some gb25)) (sv := goInt st_) (uv := .int .i64 (wrap64 ((x5_3.1 ((rd_T93 l0_2 (rd (rd_L3 t211 x30_2) x37_3)).f0) x30_2) + (wrap64 (((rd_T93 l0_2 (rd (rd_L3 t211 x30_2) x37_3)).f2) - ((rd_T93 l0_2 (rd (rd_L3 t211 x30_2) x37_3)).f1)))))) rfl rfl rfl rfl sr_) ?_
       refine hK.out _ _ ?_
       clear hK K; refine done_ (done_of HT_.out (by kernel_rfl)) ?_
       have nG_ := World.grownBy.trans eg_ sg_; have n0_ := ak (Kd.S_grown (Kd.S_drew HO_28.out) nG_ (fun k_ h_ e_ => h_ (Option.some.inj e_))); have n1_ := ak (blk_grown (blk_drew BK209.out) nG_ (fun e_ => NB25.out (Option.some.inj e_))); have n2_ := ak (Kd.R_step (Kd.R_drew HR214_0.out) (fun k_ h_ hl_ => nG_.block k_ hl_ (fun e_ => h_ (Option.some.inj e_)))); have n3_ := ak (mk_below (below_drew1 HB.out) nG_ GE25.out); have MKM2 := ak sm_; clear MKM HO_28 BK209 HR214_0 HB; have MKM := MKM2; have HO_28 := n0_; have BK209 := n1_; have HR214_0 := n2_; have HB := n3_; clear n0_ n1_ n2_ n3_ MKM2 nG_ sm_ sg_ sr_ er_ eg_ el_ hlk_ hce_ hHeld; try go_wp2
       repeat (go_quiet (fail); try go_wp2)
       go_roundg k3
       case measure => have := HJ2.out; have := HK2.out; have := HK3.out; omega
       case rel => exact ⟨mkUp x5_3 ((rd_T93 l0_2 (rd (rd_L3 t211 x30_2) x37_3)).f0) x30_2 (wrap64 ((x5_3.1 ((rd_T93 l0_2 (rd (rd_L3 t211 x30_2) x37_3)).f0) x30_2) + (wrap64 (((rd_T93 l0_2 (rd (rd_L3 t211 x30_2) x37_3)).f2) - ((rd_T93 l0_2 (rd (rd_L3 t211 x30_2) x37_3)).f1))))), (wrap64 (x37_3 + 1)), eqA, H', ⟨xq53⟩, ⟨sA HO_28⟩, ⟨blkA⟩, ⟨rA HR214_0⟩, ⟨xq14⟩, ⟨belA⟩⟩


end Go.Proofs.Ytogdhclomgafdaa.PFnDealt
