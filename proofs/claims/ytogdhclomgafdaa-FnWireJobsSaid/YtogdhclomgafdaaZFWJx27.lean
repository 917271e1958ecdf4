import Derived.Test.YtogdhclomgafdaaZFWJx26
/- Lemmas on the printed functions of FnWireJobs: what each comes to. -/
namespace Go.Proofs.Ytogdhclomgafdaa.QFnWireJobs
open Go.RowKit Go.Proofs.Ytogdhclomgafdaa.PFnWireJobs Go.Proofs.YtogdhclomgafdaaW.PrintWords Go.Proofs.YtogdhclomgafdaaW.PrintLast Go.Proofs.Ytogdhclomgafdaa.Math
set_option linter.unusedVariables false
set_option linter.unusedSimpArgs false

theorem in_eq (a b c:Int):spec_l01In.f a b c=some (decide (b≤a∧a≤c)):=by
 simp only [spec_l01In.f,if_dec]

theorem sPut_l (u:Nat):∀ (acc:List Int),u < 4611686018427387904 → acc.length+(put u).length≤1000000 → Ev (fun k=>spec_PutNumber.l0 k acc (u:Int)) (acc ++ put u):=by
 induction u using Nat.strongRecOn with
 | _ u ih =>
  intro acc hu ha
  by_cases h:u < 128
  · refine ev_now fun k=>?_
    simp only [spec_PutNumber.l0]
    rw [if_neg (by omega),if_pos (by omega),put_small h,show ((u:Int)) % 256=u by omega]
  · rw [put_big (by omega)] at ha ⊢
    refine Ev.step (fun k=>?_) (Ev.congr (fun k=>rfl) (ih (u / 128) (by omega) (acc ++ [((u % 128+128:Nat):Int)]) (by omega) (by simp at ha ⊢;omega))) |> fun h=>by simpa using h
    simp only [spec_PutNumber.l0]
    rw [if_pos (by omega),if_pos (by omega),Int.tmod_eq_emod_of_nonneg (by omega),Int.tdiv_eq_ediv_of_nonneg (by omega),w64 (by omega) (by omega),w64 (by omega) (by omega)]
    rw [show (128+(u:Int) % 128) % 256=((u % 128+128:Nat):Int) by omega,show (u:Int) / 128=((u / 128:Nat):Int) by omega]
theorem sPut_ev (x:Int) (hx:(Lit.int .i64 x).wf=true):Ev (fun k=>spec_PutNumber.f k x) (putOf x):=by
 unfold putOf
 by_cases h:isWord x
 · have hz:=zz_lt h
   have hl:=put_len (zz x) 5 (by omega)
   rw [if_pos h]
   have key:=sPut_l (zz x) [] (by omega) (by simp;omega)
   unfold isWord at h
   refine Ev.congr (fun k=>?_) (Ev.step (g:=fun k=>spec_PutNumber.j0 k [] (zz x:Int)) (fun k=>rfl) key)
   simp only [spec_PutNumber.f,in_eq,Option.bind_some,decide_eq_true_eq]
   rw [if_pos h]
   by_cases hn:x < 0
   · rw [if_pos hn,w64 (x:=-2 * x) (by omega) (by omega),w64 (by omega) (by omega),show -2 * x - 1=(zz x:Int) by unfold zz;omega]
   · rw [if_neg hn,w64 (by omega) (by omega),show 2 * x=(zz x:Int) by unfold zz;omega]
 · rw [if_neg h]
   refine ev_some fun k=>?_
   unfold isWord at h
   simp only [spec_PutNumber.f,in_eq,Option.bind_some,decide_eq_true_eq]
   rw [if_neg h]

theorem iPut_l (u:Nat):∀ (acc:List Int),u < 4611686018427387904 → acc.length+(put u).length≤1000000 → Ev (fun k=>impl_putNumber.l0 k (u:Int) acc) (acc ++ put u):=by
 induction u using Nat.strongRecOn with
 | _ u ih =>
  intro acc hu ha
  by_cases h:u < 128
  · refine ev_now fun k=>?_
    simp only [impl_putNumber.l0]
    rw [if_neg (by omega),if_pos (by omega),put_small h,show ((u:Int)) % 256=u by omega]
  · rw [put_big (by omega)] at ha ⊢
    refine Ev.step (fun k=>?_) (Ev.congr (fun k=>rfl) (ih (u / 128) (by omega) (acc ++ [((u % 128+128:Nat):Int)]) (by omega) (by simp at ha ⊢;omega))) |> fun h=>by simpa using h
    simp only [impl_putNumber.l0]
    rw [if_pos (by omega),if_pos (by omega),Int.tmod_eq_emod_of_nonneg (by omega),Int.tdiv_eq_ediv_of_nonneg (by omega),w64 (x:=(u:Int) / 128) (by omega) (by omega),w64 (by omega) (by omega)]
    rw [show ((u:Int) % 128+128) % 256=((u % 128+128:Nat):Int) by omega,show (u:Int) / 128=((u / 128:Nat):Int) by omega]
theorem iPut_ev (x:Int) (h:isWord x):Ev (fun k=>impl_putNumber.f k x) (put (zz x)):=by
 have hz:=zz_lt h
 have hl:=put_len (zz x) 5 (by omega)
 have key:=iPut_l (zz x) [] (by omega) (by simp;omega)
 unfold isWord at h
 refine Ev.congr (fun k=>?_) (Ev.step (g:=fun k=>impl_putNumber.j0 k (zz x:Int)) (fun k=>rfl) key)
 simp only [impl_putNumber.f]
 by_cases hn:x < 0
 · rw [if_pos hn,w64 (x:=-2 * x) (by omega) (by omega),w64 (by omega) (by omega),show -2 * x - 1=(zz x:Int) by unfold zz;omega]
 · rw [if_neg hn,w64 (by omega) (by omega),show 2 * x=(zz x:Int) by unfold zz;omega]

theorem sCks_l (l:List Int) (hn:l.length≤140737488355328) (hb:isB l):∀ (d i:Nat) (x y:Int),l.length - i=d → 0≤x → x≤65520 → 0≤y → y≤65520 →
 Ev (fun k=>spec_CheckSum.l0 k l x y (i:Int)) (cks (l.drop i) x y):=by
 intro d
 induction d with
 | zero =>
  intro i x y h h1 h2 h3 h4
  refine ev_now fun k=>?_
  simp only [spec_CheckSum.l0]
  rw [if_neg (by omega),List.drop_eq_nil_of_le (by omega),w64 (x:=65536 * y) (by omega) (by omega),w64 (by omega) (by omega),cks]
 | succ d ih =>
  intro i x y h h1 h2 h3 h4
  have hc:=isB_at hb (show i < l.length by omega)
  rw [cks_at (by omega)]
  refine Ev.step (fun k=>?_) (ih (i+1) _ _ (by omega) (by omega) (by omega) (by omega) (by omega))
  simp only [spec_CheckSum.l0]
  rw [if_pos (by omega),if_pos (by omega),rd_eq (by omega),w64 (x:=l[i]) (by omega) (by omega),w64 (x:=x+l[i]) (by omega) (by omega),Int.tmod_eq_emod_of_nonneg (a:=x+l[i]) (by omega),w64 (x:=y+_) (by omega) (by omega),Int.tmod_eq_emod_of_nonneg (by omega),wsucc (by omega)]
theorem sCks_ev (l:List Int) (hn:l.length≤140737488355328) (hb:isB l):Ev (fun k=>spec_CheckSum.f k l) (cks l 1 0):=by
 refine Ev.congr (fun k=>?_) (sCks_l l hn hb l.length 0 1 0 (by omega) (by omega) (by omega) (by omega) (by omega))
 simp [spec_CheckSum.f]

theorem iCks_l (l:List Int) (hn:l.length≤140737488355328) (hb:isB l):∀ (d i:Nat) (x y:Int),l.length - i=d → 0≤x → x≤65520 → 0≤y → y≤65520 →
 Ev (fun k=>impl_checkSum.l0 k x y l (l.length:Int) (i:Int)) (cks (l.drop i) x y):=by
 intro d
 induction d with
 | zero =>
  intro i x y h h1 h2 h3 h4
  refine ev_now fun k=>?_
  simp only [impl_checkSum.l0]
  rw [if_neg (by omega),List.drop_eq_nil_of_le (by omega),w64 (x:=65536 * y) (by omega) (by omega),w64 (by omega) (by omega),cks]
 | succ d ih =>
  intro i x y h h1 h2 h3 h4
  have hc:=isB_at hb (show i < l.length by omega)
  rw [cks_at (by omega)]
  refine Ev.step (fun k=>?_) (ih (i+1) _ _ (by omega) (by omega) (by omega) (by omega) (by omega))
  simp only [impl_checkSum.l0]
  rw [if_pos (by omega),if_pos (by omega),if_pos (by omega),rd_eq (by omega),w64 (x:=l[i]) (by omega) (by omega),w64 (x:=x+l[i]) (by omega) (by omega),Int.tmod_eq_emod_of_nonneg (a:=x+l[i]) (by omega),w64 (x:=y+_) (by omega) (by omega),Int.tmod_eq_emod_of_nonneg (by omega),wsucc (by omega)]
theorem iCks_ev (l:List Int) (hn:l.length≤140737488355328) (hb:isB l):Ev (fun k=>impl_checkSum.f k l) (cks l 1 0):=by
 refine Ev.congr (fun k=>?_) (iCks_l l hn hb l.length 0 1 0 (by omega) (by omega) (by omega) (by omega) (by omega))
 simp [impl_checkSum.f]

def frOk (a b:Int) (l:List Int):Prop:=0≤a∧a≤99∧0≤b∧b≤2147483647∧l.length≤5000
instance frOk_dec (a b:Int) (l:List Int):Decidable (frOk a b l):=by unfold frOk;infer_instance

theorem sFrameOk (a b:Int) (l:List Int):spec_FrameOk.f a b l=some (decide (frOk a b l)):=by
 simp only [spec_FrameOk.f,in_eq,Option.bind_some,decide_eq_true_eq,if_dec]
 exact congrArg some (decide_eq_decide.2 (by unfold frOk;omega))

theorem iFrame (a b:Int) (l:List Int):impl_isFrame.f a b l=some (decide (frOk a b l)):=by
 simp only [impl_isFrame.f,if_dec]
 exact congrArg some (decide_eq_decide.2 (by unfold frOk;omega))

def fldOk (f:Int):Prop:=0≤f∧f < 9
instance fldOk_dec (f:Int):Decidable (fldOk f):=by unfold fldOk;infer_instance
def fP:List Int:=[17,97,193,257,7681,12289,998244353,469762049,1004535809]
def fG:List Int:=[3,5,5,3,17,11,3,3,3]
def fT:List Int:=[4,5,6,8,9,12,23,26,21]
theorem fld_cases {f:Int} (h:fldOk f) {Q:Int → Prop} (h0:Q 0) (h1:Q 1) (h2:Q 2) (h3:Q 3) (h4:Q 4) (h5:Q 5) (h6:Q 6) (h7:Q 7) (h8:Q 8):Q f:=by
 unfold fldOk at h
 have:f=0∨f=1∨f=2∨f=3∨f=4∨f=5∨f=6∨f=7∨f=8:=by omega
 rcases this with rfl | rfl | rfl | rfl | rfl | rfl | rfl | rfl | rfl <;> assumption

def md (f:Int):Int:=if fldOk f then rd fP f else 0
theorem sMod (f:Int):spec_Modulus.f f=some (md f):=by
 by_cases h:fldOk f
 · exact fld_cases (Q:=fun f=>spec_Modulus.f f=some (md f)) h rfl rfl rfl rfl rfl rfl rfl rfl rfl
 · unfold md
   rw [if_neg h]
   unfold fldOk at h
   simp only [spec_Modulus.f]
   rw [if_neg (by omega),if_neg (by omega),if_neg (by omega),if_neg (by omega),if_neg (by omega),if_neg (by omega),if_neg (by omega),if_neg (by omega),if_neg (by omega)]
theorem md_pos {f:Int} (h:fldOk f):17≤md f∧md f≤1004535809:=fld_cases (Q:=fun f=>17≤md f∧md f≤1004535809) h (by decide) (by decide) (by decide) (by decide) (by decide) (by decide) (by decide) (by decide) (by decide)
theorem md_zero {f:Int}:md f=0 ↔ ¬ fldOk f:=by
 by_cases h:fldOk f
 · have:=md_pos h
   simp [h];omega
 · simp [md,h]

theorem iFld (f:Int):impl_fieldOf.f f=some (if fldOk f then (rd fP f,rd fG f,rd fT f,true) else (0,0,0,false)):=by
 by_cases h:fldOk f
 · exact fld_cases (Q:=fun f=>impl_fieldOf.f f=some (if fldOk f then (rd fP f,rd fG f,rd fT f,true) else (0,0,0,false))) h rfl rfl rfl rfl rfl rfl rfl rfl rfl
 · rw [if_neg h]
   unfold fldOk at h
   show Go.Proofs.Ytogdhclomgafdaa.Fld.impl_fieldOf.f f=_
   unfold Go.Proofs.Ytogdhclomgafdaa.Fld.impl_fieldOf.f
   by_cases h1:f < 0
   · rw [if_pos h1]
   · rw [if_neg h1,if_pos (by omega)]

def wordsB (l:List Int):Bool:=decide (l.length≤400) && allF l.length 0 (fun j=>decide (isWord (rd l (j:Int))))
theorem wordsB_iff (l:List Int):wordsB l=true ↔ l.length≤400∧∀ x ∈ l,isWord x:=by
 unfold wordsB
 rw [Bool.and_eq_true,decide_eq_true_eq,allF_iff]
 constructor
 · rintro ⟨h1,h2⟩
   refine ⟨h1,fun x hx=>?_⟩
   obtain ⟨j,hj,rfl⟩:=List.getElem_of_mem hx
   have:=h2 j (by omega) (by omega)
   rw [decide_eq_true_eq,rd_eq hj] at this
   exact this
 · rintro ⟨h1,h2⟩
   refine ⟨h1,fun j _ hj=>?_⟩
   rw [decide_eq_true_eq,rd_eq (by omega)]
   exact h2 _ (List.getElem_mem _)

theorem sWords_l (l:List Int) (hn:l.length≤1048576):∀ (d i:Nat),l.length - i=d → i≤l.length → Ev (fun k=>spec_l10Words.l0 k l (i:Int)) (allF d i (fun j=>decide (isWord (rd l (j:Int))))):=by
 intro d
 induction d with
 | zero =>
  intro i h hi
  refine ev_now fun k=>?_
  simp only [spec_l10Words.l0]
  rw [if_neg (by omega)];rfl
 | succ d ih =>
  intro i h hi
  rw [allF]
  by_cases hq:isWord (rd l (i:Int))
  · rw [decide_eq_true hq,Bool.true_and]
    refine Ev.step (fun k=>?_) (ih (i+1) (by omega) (by omega))
    unfold isWord at hq
    simp only [spec_l10Words.l0,in_eq,Option.bind_some,decide_eq_true_eq]
    rw [if_pos (by omega),if_pos (by omega),if_pos hq,wsucc (by omega)]
  · rw [decide_eq_false hq,Bool.false_and]
    refine ev_now fun k=>?_
    unfold isWord at hq
    simp only [spec_l10Words.l0,in_eq,Option.bind_some,decide_eq_true_eq]
    rw [if_pos (by omega),if_pos (by omega),if_neg hq]
theorem sWords_ev (l:List Int) (hn:l.length≤1048576):Ev (fun k=>spec_l10Words.f k l) (wordsB l):=by
 unfold wordsB
 by_cases h:l.length≤400
 · rw [decide_eq_true h,Bool.true_and]
   refine Ev.congr (fun k=>?_) (sWords_l l hn l.length 0 (by omega) (by omega))
   simp only [spec_l10Words.f]
   rw [if_neg (by omega)];rfl
 · rw [decide_eq_false h,Bool.false_and]
   refine ev_some fun k=>?_
   simp only [spec_l10Words.f]
   rw [if_pos (by omega)]

theorem iWords_l (l:List Int) (hn:l.length≤1048576):∀ (d i:Nat),l.length - i=d → i≤l.length → Ev (fun k=>impl_areWords.l0 k l l (l.length:Int) (i:Int)) (decide (l.length≤400) && allF d i (fun j=>decide (isWord (rd l (j:Int))))):=by
 intro d
 induction d with
 | zero =>
  intro i h hi
  refine ev_now fun k=>?_
  simp only [impl_areWords.l0]
  rw [if_neg (by omega),allF,Bool.and_true]
  exact congrArg some (decide_eq_decide.2 (by omega))
 | succ d ih =>
  intro i h hi
  rw [allF]
  by_cases hq:isWord (rd l (i:Int))
  · rw [decide_eq_true hq,Bool.true_and]
    refine Ev.step (fun k=>?_) (ih (i+1) (by omega) (by omega))
    unfold isWord at hq
    simp only [impl_areWords.l0]
    rw [if_pos (by omega),if_pos (by omega),if_pos (by omega),if_neg (by omega),if_neg (by omega),wsucc (by omega)]
  · rw [decide_eq_false hq,Bool.false_and,Bool.and_false]
    refine ev_now fun k=>?_
    unfold isWord at hq
    simp only [impl_areWords.l0]
    rw [if_pos (by omega),if_pos (by omega),if_pos (by omega)]
    by_cases h1:rd l (i:Int) < -1099511627776
    · rw [if_pos h1]
    · rw [if_neg h1,if_pos (by omega)]
theorem iWords_ev (l:List Int) (hn:l.length≤1048576):Ev (fun k=>impl_areWords.f k l) (wordsB l):=by
 refine Ev.congr (fun k=>?_) (iWords_l l hn l.length 0 (by omega) (by omega))
 simp [impl_areWords.f]

theorem sHas_l (l:List Int) (x:Int) (hn:l.length≤1048576):∀ (d i:Nat),l.length - i=d → i≤l.length → Ev (fun k=>spec_l01Has.l0 k l x (i:Int)) (decide (x ∈ l.drop i)):=by
 intro d
 induction d with
 | zero =>
  intro i h hi
  refine ev_now fun k=>?_
  simp only [spec_l01Has.l0]
  rw [if_neg (by omega),List.drop_eq_nil_of_le (by omega)]
  simp
 | succ d ih =>
  intro i h hi
  rw [List.drop_eq_getElem_cons (show i < l.length by omega)]
  by_cases hq:rd l (i:Int)=x
  · refine ev_now fun k=>?_
    simp only [spec_l01Has.l0]
    rw [if_pos (by omega),if_pos (by omega),if_pos hq]
    rw [rd_eq (by omega)] at hq
    simp [hq]
  · have hne:¬ x=l[i]'(by omega):=fun e=>hq (by rw [rd_eq (by omega)];exact e.symm)
    have:=ih (i+1) (by omega) (by omega)
    simp only [List.mem_cons,hne,false_or]
    refine Ev.step (fun k=>?_) this
    simp only [spec_l01Has.l0]
    rw [if_pos (by omega),if_pos (by omega),if_neg hq,wsucc (by omega)]
theorem sHas_ev (l:List Int) (x:Int) (hn:l.length≤1048576):Ev (fun k=>spec_l01Has.f k l x) (decide (x ∈ l)):=by
 refine Ev.congr (fun k=>?_) (by simpa using sHas_l l x hn l.length 0 (by omega) (by omega))
 simp [spec_l01Has.f]

def jobHead (kind f:Int):Prop:=1≤kind∧kind≤11∧fldOk f∧(kind=6 → f=0)
instance jobHead_dec (kind f:Int):Decidable (jobHead kind f):=by unfold jobHead;infer_instance
def jobTail (kind:Int) (B:List Int) (n:Int):Prop:=0≤n∧n≤400∧((kind=1∨kind=2∨kind=7) → B.length=0)∧(kind≠11 → n=0)
instance jobTail_dec (kind:Int) (B:List Int) (n:Int):Decidable (jobTail kind B n):=by unfold jobTail;infer_instance
def jobB (kind f:Int) (A B:List Int) (n:Int):Bool:=decide (jobHead kind f) && (wordsB A && (wordsB B && decide (jobTail kind B n)))

theorem sJob_t (kind f:Int) (A B:List Int) (n:Int) (hA:A.length≤1048576) (hB:B.length≤1048576) (h0:jobHead kind f):Ev (fun k=>spec_JobOk.j0 k false kind f A B n) (wordsB A && (wordsB B && decide (jobTail kind B n))):=by
 obtain ⟨m,h1,h2,h3⟩:=evs3 (sWords_ev A hA) (sWords_ev B hB) (sHas_ev [3,4,5,6,8,9,10,11] kind (by simp))
 refine ⟨m+1,fun k hk=>?_⟩
 obtain ⟨j,rfl⟩:∃ j,k=m+j+1:=⟨k - m - 1,by omega⟩
 simp only [spec_JobOk.j0,spec_l10UsesB.f,h1,h2,h3,in_eq,Option.bind_some,Bool.false_eq_true,if_false,decide_eq_true_eq]
 cases hwA:wordsB A with
 | false=>simp
 | true =>
  cases hwB:wordsB B with
  | false=>simp
  | true =>
   simp only [if_true,Bool.true_and,List.mem_cons,List.not_mem_nil,or_false]
   unfold jobHead at h0
   by_cases hn:0≤n∧n≤400
   · rw [if_pos hn]
     by_cases hu:kind=1∨kind=2∨kind=7
     · rw [if_neg (by omega)]
       by_cases hl:B.length=0
       · rw [if_pos (by omega),if_neg (by omega)]
         exact congrArg some (by rw [Bool.eq_iff_iff,beq_iff_eq,decide_eq_true_eq];unfold jobTail;omega)
       · rw [if_neg (by omega),decide_eq_false (by unfold jobTail;omega)]
     · rw [if_pos (by omega)]
       by_cases he:kind=11
       · rw [if_pos he,decide_eq_true (by unfold jobTail;omega)]
       · rw [if_neg he]
         exact congrArg some (by rw [Bool.eq_iff_iff,beq_iff_eq,decide_eq_true_eq];unfold jobTail;omega)
   · rw [if_neg hn,decide_eq_false (by unfold jobTail;omega)]
theorem sJob_ev (kind f:Int) (A B:List Int) (n:Int) (hA:A.length≤1048576) (hB:B.length≤1048576):Ev (fun k=>spec_JobOk.f k kind f A B n) (jobB kind f A B n):=by
 unfold jobB
 by_cases h0:jobHead kind f
 · rw [decide_eq_true h0,Bool.true_and]
   refine Ev.congr (fun k=>?_) (sJob_t kind f A B n hA hB h0)
   have h1:=h0
   unfold jobHead at h1
   simp only [spec_JobOk.f,in_eq,sMod,Option.bind_some,decide_eq_true_eq,md_zero]
   rw [if_pos (by omega),if_neg (fun hh=>hh h1.2.2.1)]
   by_cases h6:kind=6
   · rw [if_pos h6,h1.2.2.2 h6];rfl
   · rw [if_neg h6]
 · rw [decide_eq_false h0,Bool.false_and]
   have key:Ev (fun k=>spec_JobOk.j0 k true kind f A B n) false:=ev_now fun k=>by simp [spec_JobOk.j0]
   refine Ev.congr (fun k=>?_) key
   simp only [spec_JobOk.f,in_eq,sMod,Option.bind_some,decide_eq_true_eq,md_zero]
   by_cases h1:1≤kind∧kind≤11
   · rw [if_pos h1]
     by_cases h2:fldOk f
     · rw [if_neg (fun hh=>hh h2)]
       have h6:kind=6∧f≠0:=Classical.byContradiction fun hh=>h0 ⟨h1.1,h1.2,h2,fun e=>Classical.byContradiction fun hf=>hh ⟨e,hf⟩⟩
       rw [if_pos h6.1,bne_iff_ne.2 h6.2]
     · rw [if_pos h2]
   · rw [if_neg h1]

theorem iJob_t (kind f:Int) (A B:List Int) (n:Int) (hA:A.length≤1048576) (hB:B.length≤1048576) (h0:jobHead kind f):Ev (fun k=>impl_isJob.j0 k false kind f A B n) (wordsB A && (wordsB B && decide (jobTail kind B n))):=by
 obtain ⟨m,h1,h2⟩:=evs2 (iWords_ev A hA) (iWords_ev B hB)
 refine ⟨m+1,fun k hk=>?_⟩
 obtain ⟨j,rfl⟩:∃ j,k=m+j+1:=⟨k - m - 1,by omega⟩
 have hu:impl_usesB.f kind=some (decide (¬ (kind=1∨kind=2∨kind=7))):=by
  simp only [impl_usesB.f]
  by_cases k1:kind=1
  · rw [if_pos k1,decide_eq_false (by omega)]
  · rw [if_neg k1]
    by_cases k2:kind=2
    · rw [if_pos k2,decide_eq_false (by omega)]
    · rw [if_neg k2]
      exact congrArg some (by rw [Bool.eq_iff_iff,bne_iff_ne,decide_eq_true_eq];omega)
 simp only [impl_isJob.j0,h1,h2,hu,Option.bind_some,Bool.false_eq_true,if_false,decide_eq_true_eq]
 cases hwA:wordsB A with
 | false=>simp
 | true =>
  cases hwB:wordsB B with
  | false=>simp
  | true =>
   simp only [if_true,Bool.true_and]
   unfold jobHead at h0
   by_cases hn:n < 0
   · rw [if_pos hn,decide_eq_false (by unfold jobTail;omega)]
   · rw [if_neg hn]
     by_cases hn2:n > 400
     · rw [if_pos hn2,decide_eq_false (by unfold jobTail;omega)]
     · rw [if_neg hn2]
       by_cases hu:kind=1∨kind=2∨kind=7
       · rw [if_neg (by omega)]
         by_cases hl:B.length=0
         · rw [if_pos (by omega),if_neg (by omega)]
           exact congrArg some (by rw [Bool.eq_iff_iff,beq_iff_eq,decide_eq_true_eq];unfold jobTail;omega)
         · rw [if_neg (by omega),decide_eq_false (by unfold jobTail;omega)]
       · rw [if_pos (by omega)]
         by_cases he:kind=11
         · rw [if_pos he,decide_eq_true (by unfold jobTail;omega)]
         · rw [if_neg he]
           exact congrArg some (by rw [Bool.eq_iff_iff,beq_iff_eq,decide_eq_true_eq];unfold jobTail;omega)
theorem iJob_ev (kind f:Int) (A B:List Int) (n:Int) (hA:A.length≤1048576) (hB:B.length≤1048576):Ev (fun k=>impl_isJob.f k kind f A B n) (jobB kind f A B n):=by
 unfold jobB
 by_cases h0:jobHead kind f
 · rw [decide_eq_true h0,Bool.true_and]
   refine Ev.congr (fun k=>?_) (iJob_t kind f A B n hA hB h0)
   have h1:=h0
   unfold jobHead at h1
   simp only [impl_isJob.f,iFld,if_pos h1.2.2.1,Option.bind_some,if_true]
   rw [if_neg (by omega),if_neg (by omega)]
   by_cases h6:kind=6
   · rw [if_pos h6,h1.2.2.2 h6];rfl
   · rw [if_neg h6]
 · rw [decide_eq_false h0,Bool.false_and]
   have key:Ev (fun k=>impl_isJob.j0 k true kind f A B n) false:=ev_now fun k=>by simp [impl_isJob.j0]
   refine Ev.congr (fun k=>?_) key
   simp only [impl_isJob.f,iFld,Option.bind_some]
   by_cases h2:fldOk f
   · simp only [if_pos h2,if_true]
     by_cases h1:kind < 1
     · rw [if_pos h1]
     · rw [if_neg h1]
       by_cases h3:kind > 11
       · rw [if_pos h3]
       · have h6:kind=6∧f≠0:=Classical.byContradiction fun hh=>h0 ⟨by omega,by omega,h2,fun e=>Classical.byContradiction fun hf=>hh ⟨e,hf⟩⟩
         rw [if_neg h3,if_pos h6.1,bne_iff_ne.2 h6.2]
   · simp only [if_neg h2,Bool.false_eq_true,if_false]

theorem md_range {f:Int} (h:fldOk f) (x:Int):0≤x % md f∧x % md f < md f:=by
 have hm:=md_pos h
 exact ⟨Int.emod_nonneg _ (by omega),Int.emod_lt_of_pos _ (by omega)⟩

theorem sReduce (f x:Int):spec_Reduce.f f x=some (if fldOk f then x % md f else -1):=by
 simp only [spec_Reduce.f,sMod,Option.bind_some,md_zero]
 by_cases h:fldOk f
 · have hm:=md_pos h
   have hb:=tmod_bounds (x:=x) (p:=md f) (by omega)
   rw [if_neg (fun hh=>hh h),if_pos h]
   by_cases hn:Int.tmod x (md f) < 0
   · rw [if_pos hn,w64 (by omega) (by omega),red_lt (by omega) hn]
   · rw [if_neg hn,red_ge (by omega) hn]
 · rw [if_pos h,if_neg h]

theorem sMul (f a b:Int):spec_Mul.f f a b=some (if fldOk f then a * b % md f else -1):=by
 simp only [spec_Mul.f,sMod,sReduce,Option.bind_some,md_zero]
 by_cases h:fldOk f
 · have hm:=md_pos h
   have ha:=md_range h a
   have hb:=md_range h b
   have h0:0≤(a % md f) * (b % md f):=Int.mul_nonneg ha.1 hb.1
   have h1:(a % md f) * (b % md f)≤2147483648 * 2147483648:=Int.mul_le_mul (by omega) (by omega) hb.1 (by omega)
   simp only [h,not_true_eq_false,if_true,if_false]
   rw [w64 (by omega) (by omega),← Int.mul_emod]
 · simp only [h,not_false_eq_true,if_true,if_false]

theorem sPow_l {p:Int} (hp:2≤p) (hp2:p≤2147483648) (e:Nat):∀ (a out:Int),e < 4611686018427387904 → 0≤a → a < p → 0≤out → out < p →
 Ev (fun k=>spec_Power.l0 k p a (e:Int) out) (out * a ^ e % p):=by
 induction e using Nat.strongRecOn with
 | _ e ih =>
  intro a out he ha ha' ho ho'
  by_cases h0:e=0
  · subst h0
    refine ev_now fun k=>?_
    simp only [spec_Power.l0]
    rw [if_neg (by omega),show a ^ 0=1 by grind,Int.mul_one,Int.emod_eq_of_lt ho ho']
  · have m0:∀ z:Int,0≤z % p:=fun z=>Int.emod_nonneg _ (by omega)
    have m1:∀ z:Int,z % p < p:=fun z=>Int.emod_lt_of_pos _ (by omega)
    have ht:Int.tmod (e:Int) 2=((e % 2:Nat):Int):=by rw [Int.tmod_eq_emod_of_nonneg (by omega)];omega
    have hd:wrap64 (Int.tdiv (e:Int) 2)=((e / 2:Nat):Int):=by rw [Int.tdiv_eq_ediv_of_nonneg (by omega),w64 (by omega) (by omega)];omega
    have q0:∀ x y:Int,0≤x → x < p → 0≤y → y < p → Int.tmod (wrap64 (x * y)) p=x * y % p:=fun x y hx hx' hy hy'=>by
     have h0:0≤x * y:=Int.mul_nonneg hx hy
     have h1:x * y≤2147483648 * 2147483648:=Int.mul_le_mul (by omega) (by omega) hy (by omega)
     rw [w64 (by omega) (by omega),Int.tmod_eq_emod_of_nonneg h0]
    by_cases h1:e % 2=1
    · rw [← pw_odd h1]
      refine Ev.step (fun k=>?_) (ih (e / 2) (by omega) (a * a % p) (out * a % p) (by omega) (m0 _) (m1 _) (m0 _) (m1 _))
      simp only [spec_Power.l0,ht,hd,q0 out a ho ho' ha ha',q0 a a ha ha' ha ha']
      rw [if_pos (by omega),if_pos (by omega),if_neg (by omega)]
    · rw [← pw_even h1]
      refine Ev.step (fun k=>?_) (ih (e / 2) (by omega) (a * a % p) out (by omega) (m0 _) (m1 _) ho ho')
      simp only [spec_Power.l0,ht,hd,q0 a a ha ha' ha ha']
      rw [if_pos (by omega),if_neg (by omega),if_neg (by omega)]
def expOf (p e:Int):Nat:=(e % (p - 1)).toNat
theorem sPow_ev {f:Int} (h:fldOk f) (a e:Int) (hx:a % md f≠0):Ev (fun k=>spec_Power.f k f a e) ((a % md f) ^ expOf (md f) e % md f):=by
 have hm:=md_pos h
 have ha:=md_range h a
 have hb:=tmod_bounds (x:=e) (p:=md f - 1) (by omega)
 have he:0≤e % (md f - 1)∧e % (md f - 1) < md f - 1:=⟨Int.emod_nonneg _ (by omega),Int.emod_lt_of_pos _ (by omega)⟩
 have key:=sPow_l (p:=md f) (by omega) (by omega) (expOf (md f) e) (a % md f) 1 (by unfold expOf;omega) ha.1 ha.2 (by omega) (by omega)
 rw [Int.one_mul,show ((expOf (md f) e:Nat):Int)=e % (md f - 1) by unfold expOf;omega] at key
 refine Ev.congr (fun k=>?_) (Ev.step (g:=fun k=>spec_Power.j0 k (md f) (a % md f) (e % (md f - 1))) (fun k=>rfl) key)
 simp only [spec_Power.f,sMod,sReduce,Option.bind_some,md_zero]
 rw [if_neg (fun hh=>hh h),if_pos h,if_neg hx,w64 (x:=md f - 1) (by omega) (by omega),if_neg (by omega)]
 by_cases hn:Int.tmod e (md f - 1) < 0
 · rw [if_pos hn,w64 (x:=Int.tmod e (md f - 1)+md f) (by omega) (by omega),w64 (by omega) (by omega),← red_lt (by omega) hn,show Int.tmod e (md f - 1)+md f - 1=Int.tmod e (md f - 1)+(md f - 1) by omega]
 · rw [if_neg hn,red_ge (by omega) hn]

def elemB (p:Int) (l:List Int):Bool:=allF l.length 0 (fun j=>decide (0≤rd l (j:Int)∧rd l (j:Int) < p))
def dAt (l:List Int) (i:Int):Prop:=0≤i∧i≤l.length
theorem drawByte (l:List Int) (hn:l.length≤140737488355328) (i h:Int) (hi:dAt l i):∃ b i' h',spec_l01Byte.f l i h=some (b,i',h')∧(0≤b∧b≤255)∧dAt l i':=by
 unfold dAt at hi ⊢
 simp only [spec_l01Byte.f]
 by_cases hl:i < (l.length:Int)
 · rw [if_pos hl,if_pos hi.1]
   exact ⟨_,_,_,rfl,bits_and _ 255 (by decide),by rw [w64 (by omega) (by omega)];omega⟩
 · rw [if_neg hl]
   exact ⟨_,_,_,rfl,bits_and _ 255 (by decide),hi⟩

theorem drawBelow (l:List Int) (hn:l.length≤140737488355328) (i h:Int) (hi:dAt l i) (m:Int):∃ b i' h',spec_l01Below.f l i h m=some (b,i',h')∧(0≤b∧(b < m∨b=0))∧dAt l i':=by
 simp only [spec_l01Below.f]
 by_cases h0:m≤0
 · rw [if_pos h0]
   exact ⟨_,_,_,rfl,by omega,hi⟩
 · rw [if_neg h0]
   obtain ⟨b1,i1,h1,e1,r1,d1⟩:=drawByte l hn i h hi
   rw [e1]
   by_cases hm:m≤256
   · rw [if_pos hm,Option.bind_some,if_neg (by omega)]
     refine ⟨_,_,_,rfl,?_,d1⟩
     simp only
     rw [Int.tmod_eq_emod_of_nonneg (by omega)]
     exact ⟨Int.emod_nonneg _ (by omega),Or.inl (Int.emod_lt_of_pos _ (by omega))⟩
   · rw [if_neg hm,Option.bind_some]
     obtain ⟨b2,i2,h2,e2,r2,d2⟩:=drawByte l hn i1 h1 d1
     rw [e2,Option.bind_some]
     obtain ⟨b3,i3,h3,e3,r3,d3⟩:=drawByte l hn i2 h2 d2
     rw [e3,Option.bind_some,if_neg (by omega)]
     refine ⟨_,_,_,rfl,?_,d3⟩
     simp only
     rw [w64 (x:=b1 * 65536) (by omega) (by omega),w64 (x:=b2 * 256) (by omega) (by omega),w64 (x:=b1 * 65536+b2 * 256) (by omega) (by omega),w64 (by omega) (by omega),Int.tmod_eq_emod_of_nonneg (by omega)]
     exact ⟨Int.emod_nonneg _ (by omega),Or.inl (Int.emod_lt_of_pos _ (by omega))⟩

theorem drawPickInt (l:List Int) (hn:l.length≤140737488355328) (i h:Int) (hi:dAt l i) (xs:List Int) (hx:0 < xs.length):∃ b i' h',spec_l01PickInt.f l i h xs=some (b,i',h')∧b ∈ xs∧dAt l i':=by
 simp only [spec_l01PickInt.f]
 obtain ⟨b1,i1,h1,e1,r1,d1⟩:=drawBelow l hn i h hi (xs.length:Int)
 rw [e1,Option.bind_some,if_pos r1.1,if_pos (by simp only;omega)]
 refine ⟨_,_,_,rfl,?_,d1⟩
 simp only
 rw [show b1=((b1.toNat:Nat):Int) by omega]
 exact rd_mem (by omega)

theorem drawNew_l (l:List Int) (hn:l.length≤140737488355328):∀ (d i:Nat) (h:Int),4000 - i=d → ∃ h',Ev (fun k=>spec_l01New.l0 k l h (i:Int)) (l,0,h'):=by
 intro d
 induction d with
 | zero =>
  intro i h hd
  refine ⟨h,ev_now fun k=>?_⟩
  simp only [spec_l01New.l0]
  split
  · rw [if_neg (by omega)]
  · rfl
 | succ d ih =>
  intro i h hd
  by_cases hl:(i:Int) < (l.length:Int)
  · obtain ⟨h',e⟩:=ih (i+1) (Go.bits .and .i64 (wrap64 ((wrap64 ((wrap64 (h * 149))+(wrap64 (rd l i))))+11)) 1073741823) (by omega)
    refine ⟨h',Ev.step (fun k=>?_) e⟩
    simp only [spec_l01New.l0]
    rw [if_pos hl,if_pos (by omega),if_pos (by omega),wsucc (by omega)]
  · refine ⟨h,ev_now fun k=>?_⟩
    simp only [spec_l01New.l0]
    rw [if_neg hl]
theorem drawNew (l:List Int) (hn:l.length≤140737488355328):∃ h',Ev (fun k=>spec_l01New.f k l) (l,0,h'):=by
 obtain ⟨h',e⟩:=drawNew_l l hn 4000 0 (wrap64 (710710+(l.length:Int))) (by omega)
 exact ⟨h',Ev.congr (fun k=>rfl) e⟩
theorem dAt0 (l:List Int):dAt l 0:=by unfold dAt;omega

theorem cpBytes_l (l:List Int) (hn:l.length < 140737488355328):∀ (d i:Nat),l.length - i=d → i≤l.length →
 Ev (fun k=>laws_cpBytes.l0 k l (l.take i) (i:Int)) l:=by
 intro d
 induction d with
 | zero =>
  intro i h hi
  refine ev_now fun k=>?_
  simp only [laws_cpBytes.l0]
  rw [if_neg (by omega),List.take_of_length_le (by omega)]
 | succ d ih =>
  intro i h hi
  refine Ev.step (fun k=>?_) (ih (i+1) (by omega) (by omega))
  simp only [laws_cpBytes.l0]
  rw [if_pos (by omega),if_pos (by omega),if_pos (by simp;omega),wsucc (by omega),rd_eq (by omega),List.take_append_getElem (by omega)]
theorem cpBytes_ev (l:List Int) (hn:l.length < 140737488355328):Ev (fun k=>laws_cpBytes.f k l) l :=
 Ev.congr (fun k=>rfl) (cpBytes_l l hn l.length 0 (by omega) (by omega))

theorem lawsAtB (l:List Int) (hb:isB l) (hn:l.length≤1048576) (n:Nat) (h:n≤1000):∃ v,laws_at.f l (n:Int)=some v∧0≤v∧v≤255:=by
 simp only [laws_at.f]
 by_cases hl:(n:Int) < (l.length:Int)
 · have hc:=isB_at hb (show n < l.length by omega)
   rw [if_pos hl,if_pos (by omega),rd_eq (by omega),w64 (by omega) (by omega)]
   exact ⟨_,rfl,hc⟩
 · rw [if_neg hl,w64 (x:=(n:Int) * 13) (by omega) (by omega),w64 (x:=(l.length:Int) * 5) (by omega) (by omega),w64 (by omega) (by omega),Int.tmod_eq_emod_of_nonneg (by omega)]
   exact ⟨_,rfl,by omega,by omega⟩
theorem iTake_l (l:List Int) (hn:l.length≤140737488355328) (hb:isB l) (p:Nat) (hp:p≤4611686018427387904):∀ (d k u:Nat),k+d=7 → u < 128 ^ k →
 Ev (fun n=>impl_takeNumber.l0 n l (p:Int) (u:Int) (k:Int)) (tkR p (tkL d (l.drop (p+k)) k u)):=by
 intro d
 induction d with
 | zero =>
  intro k u hk hu
  refine ⟨2,fun n hn'=>?_⟩
  obtain ⟨n,rfl⟩:∃ m,n=m+2:=⟨n - 2,by omega⟩
  simp only [impl_takeNumber.l0,impl_takeNumber.j1]
  rw [if_neg (by omega),if_neg (by decide)]
  rfl
 | succ d ih =>
  intro k u hk hu
  have h42:128 ^ k≤4398046511104:=Nat.pow_le_pow_right (n:=128) (i:=k) (j:=6) (by omega) (by omega)
  have hB:∀ c:Nat,c < 128 → Go.bits .or .i64 (u:Int) (shl .i64 (c:Int) ((7 * k:Nat):Int))=((128 ^ k * c+u:Nat):Int):=by
   intro c hc
   have e7:128 ^ k=2 ^ (7 * k):=by rw [Nat.pow_mul]
   rw [e7]
   exact bits_or u c (7 * k) (by omega) (by rw [← e7];exact hu) hc
  have hI:∀ c,c < 128 → 128 ^ k * c+u < 128 ^ (k+1):=by
   intro c hc
   rw [Nat.pow_succ]
   have:=Nat.mul_le_mul (Nat.le_refl (128 ^ k)) (show c≤127 by omega)
   omega
  have hJ:∀ c,c < 128 → 128 ^ k * c+u≤562949953421312:=by
   intro c hc
   have:=Nat.mul_le_mul (Nat.le_refl (128 ^ k)) (show c≤127 by omega)
   omega
  clear h42 hu
  by_cases hl:p+k < l.length
  · have hc:=isB_at hb hl
    rw [List.drop_eq_getElem_cons hl]
    obtain ⟨c,hce⟩:∃ c:Nat,l[p+k]=(c:Int):=⟨l[p+k].toNat,by omega⟩
    rw [hce] at hc ⊢
    have h1:wrap64 ((p:Int)+(k:Int))=((p+k:Nat):Int):=by rw [w64 (by omega) (by omega)];omega
    have h2:wrap64 (7 * (k:Int))=((7 * k:Nat):Int):=by rw [w64 (by omega) (by omega)];omega
    have h3:rd l ((p+k:Nat):Int)=(c:Int):=by rw [rd_eq hl,hce]
    have h4:wrap64 (c:Int)=(c:Int):=w64 (by omega) (by omega)
    have h5:Int.tmod (c:Int) 128=((c % 128:Nat):Int):=by rw [Int.tmod_eq_emod_of_nonneg (by omega)];omega
    have h6:=hB (c % 128) (by omega)
    have hv1:=hI (c % 128) (by omega)
    have hv2:=hJ (c % 128) (by omega)
    clear hB hI hJ
    obtain ⟨v,hv⟩:∃ v,v=128 ^ k * (c % 128)+u:=⟨_,rfl⟩
    rw [← hv] at h6 hv1 hv2
    have h8:(k:Int) < 7:=by omega
    have h9:((p+k:Nat):Int) < (l.length:Int):=by omega
    have h10:0≤((p+k:Nat):Int):=by omega
    have h11:0≤((7 * k:Nat):Int):=by omega
    by_cases hbig:128≤(c:Int)
    · have key:=ih (k+1) v (by omega) hv1
      have et:tkL (d+1) ((c:Int) :: l.drop (p+k+1)) k u=tkL d (l.drop (p+(k+1))) (k+1) v:=by
       simp only [tkL]
       rw [if_pos hbig,Int.toNat_natCast,← hv]
       rfl
      rw [et]
      refine Ev.step (f:=fun n=>impl_takeNumber.j1 n l p u k true) (fun n=>?_) (Ev.step (fun n=>?_) key)
      · simp only [impl_takeNumber.l0,h1,h8,h9,decide_true,if_true]
      · simp only [impl_takeNumber.j1,h1,h2,h3,h4,h5,h6,h9,h10,h11,if_true,wsucc (show k < 9223372036854775807 by omega)]
        rw [if_pos hbig]
    · refine Ev.step (f:=fun n=>impl_takeNumber.j1 n l p u k true) (fun n=>?_) (ev_now fun n=>?_)
      · simp only [impl_takeNumber.l0,h1,h8,h9,decide_true,if_true]
      · simp only [impl_takeNumber.j1,h1,h2,h3,h4,h5,h6,h9,h10,h11,if_true]
        rw [if_neg hbig]
        simp only [tkL]
        rw [if_neg hbig,Int.toNat_natCast,← hv]
        clear h1 h2 h3 h4 h5 h6 hv hv1 hbig hb ih hce
        have q0:((k:Int) > 0)=(0 < k):=by simp
        have q5:isWord (unzz v)=(¬ unzz v < -1099511627776∧¬ unzz v > 1099511627776):=by unfold isWord;apply propext;omega
        simp only [q5]
        have g1:wrap64 ((v:Int)+1)=((v+1:Nat):Int):=wsucc (by omega)
        have g2:wrap64 (((p+k:Nat):Int)+1)=((p+(k+1):Nat):Int):=by rw [w64 (by omega) (by omega)];omega
        by_cases hodd:v % 2=1
        · have g3:wrap64 (Int.tdiv (wrap64 (-((v+1:Nat):Int))) 2)=unzz v:=by
           unfold unzz
           rw [if_pos hodd,w64 (x:=-((v+1:Nat):Int)) (by omega) (by omega),Int.neg_tdiv,Int.tdiv_eq_ediv_of_nonneg (by omega),w64 (by omega) (by omega)]
           omega
          have g4:Int.tmod (v:Int) 2=1:=by rw [Int.tmod_eq_emod_of_nonneg (by omega)];omega
          simp only [g1,g2,g3,g4,q0,if_true]
          clear q0 q5 g1 g2 g3 g4
          by_cases q1:(c:Int)=0 <;> by_cases q2:0 < k <;> by_cases q3:unzz v < -1099511627776 <;> by_cases q4:unzz v > 1099511627776 <;> simp only [q1,q2,q3,q4,if_true,if_false,and_true,and_false,false_and,true_and,not_true,not_false_iff,tkR]
        · have g3:wrap64 (Int.tdiv (v:Int) 2)=unzz v:=by
           unfold unzz
           rw [if_neg hodd,Int.tdiv_eq_ediv_of_nonneg (by omega),w64 (by omega) (by omega)]
           omega
          have g4:¬ Int.tmod (v:Int) 2=1:=by rw [Int.tmod_eq_emod_of_nonneg (by omega)];omega
          simp only [g2,g3,g4,q0,if_false]
          clear q0 q5 g1 g2 g3 g4
          by_cases q1:(c:Int)=0 <;> by_cases q2:0 < k <;> by_cases q3:unzz v < -1099511627776 <;> by_cases q4:unzz v > 1099511627776 <;> simp only [q1,q2,q3,q4,if_true,if_false,and_true,and_false,false_and,true_and,not_true,not_false_iff,tkR]
  · rw [List.drop_eq_nil_of_le (by omega)]
    have h1:¬ wrap64 ((p:Int)+(k:Int)) < (l.length:Int):=by rw [w64 (by omega) (by omega)];omega
    refine ⟨2,fun n hn'=>?_⟩
    obtain ⟨n,rfl⟩:∃ m,n=m+2:=⟨n - 2,by omega⟩
    simp only [impl_takeNumber.l0,impl_takeNumber.j1,h1,decide_false]
    rw [if_pos (by omega),if_neg (by decide)]
    rfl
def takeAt (l:List Int) (p:Nat):Int × Int × Bool:=tkR p (tkL 7 (l.drop p) 0 0)
theorem iTake_ev (l:List Int) (hn:l.length≤140737488355328) (hb:isB l) (p:Nat) (hp:p≤4611686018427387904):Ev (fun n=>impl_takeNumber.f n l (p:Int)) (takeAt l p):=by
 refine Ev.congr (fun n=>?_) (iTake_l l hn hb p hp 7 0 0 (by omega) (by omega))
 simp only [impl_takeNumber.f]
 rw [if_neg (by omega)]
 rfl

theorem drawSize (l:List Int) (hn:l.length≤140737488355328) (m:Int):∃ n,spec_l01Size.f l m=some n∧n≤m:=by
 simp only [spec_l01Size.f]
 rw [w64 (x:=(l.length:Int) / 16) (by omega) (by omega),w64 (by omega) (by omega)]
 split
 · exact ⟨_,rfl,by omega⟩
 · exact ⟨_,rfl,by omega⟩

def rdN (l:List Int):Int → Int:=fun a=>l.foldl (fun x c=>256 * x+c) a
theorem rdN_range (l:List Int) (hb:isB l):∀ a:Int,0≤a → 0≤rdN l a∧rdN l a < (a+1) * 256 ^ l.length:=by
 induction l with
 | nil=>intro a ha;unfold rdN;simp;omega
 | cons c l ih =>
  intro a ha
  have hc:=hb c (List.mem_cons_self ..)
  have h:=ih (fun x hx=>hb x (List.mem_cons_of_mem _ hx)) (256 * a+c) (by omega)
  have e:rdN (c :: l) a=rdN l (256 * a+c):=rfl
  rw [e]
  refine ⟨h.1,Int.lt_of_lt_of_le h.2 ?_⟩
  rw [List.length_cons,Int.pow_succ,Int.mul_comm (256 ^ l.length),← Int.mul_assoc]
  exact Int.mul_le_mul_of_nonneg_right (by omega) (Int.pow_nonneg (by omega))
theorem rdN_at {l:List Int} {i:Nat} (h:i < l.length) (a:Int):rdN (l.drop i) a=rdN (l.drop (i+1)) (256 * a+l[i]):=by
 rw [List.drop_eq_getElem_cons h];rfl
theorem rdN_nil (a:Int):rdN [] a=a:=rfl

theorem iRead_l (l:List Int) (hl:l.length≤4) (hb:isB l):∀ (d i:Nat) (a:Int),l.length - i=d → 0≤a → a < 256 ^ i → Ev (fun k=>impl_numberIn.l0 k a l (l.length:Int) (i:Int)) (rdN (l.drop i) a):=by
 intro d
 induction d with
 | zero =>
  intro i a h h1 h2
  refine ev_now fun k=>?_
  simp only [impl_numberIn.l0]
  rw [if_neg (by omega),List.drop_eq_nil_of_le (by omega),rdN_nil]
 | succ d ih =>
  intro i a h h1 h2
  have hc:=isB_at hb (show i < l.length by omega)
  have h3:(256:Int) ^ i≤16777216:=p256 (by omega)
  rw [rdN_at (by omega)]
  refine Ev.step (fun k=>?_) (ih (i+1) _ (by omega) (by omega) (by rw [Int.pow_succ];omega))
  simp only [impl_numberIn.l0]
  rw [if_pos (by omega),if_pos (by omega),if_pos (by omega),rd_eq (by omega),w64 (x:=l[i]) (by omega) (by omega),w64 (x:=a * 256) (by omega) (by omega),wsucc (by omega)]
  have e:=bits_join8 a.toNat l[i].toNat (by omega) (by omega)
  rw [show ((a.toNat * 256:Nat):Int)=a * 256 by omega,show ((l[i].toNat:Nat):Int)=l[i] by omega] at e
  rw [e,show ((256 * a.toNat+l[i].toNat:Nat):Int)=256 * a+l[i] by omega]
theorem iRead_ev (l:List Int) (hl:l.length≤4) (hb:isB l):Ev (fun k=>impl_numberIn.f k l) (rdN l 0) :=
 Ev.congr (fun k=>rfl) (iRead_l l hl hb l.length 0 0 (by omega) (by omega) (by decide))

theorem sBytes_l (l:List Int) (hn:l.length < 140737488355328):∀ (d i:Nat),l.length - i=d → i≤l.length →
 Ev (fun k=>spec_l01Bytes.l0 k l (l.take i) (i:Int)) l:=by
 intro d
 induction d with
 | zero =>
  intro i h hi
  refine ev_now fun k=>?_
  simp only [spec_l01Bytes.l0]
  rw [if_neg (by omega),List.take_of_length_le (by omega)]
 | succ d ih =>
  intro i h hi
  refine Ev.step (fun k=>?_) (ih (i+1) (by omega) (by omega))
  simp only [spec_l01Bytes.l0]
  rw [if_pos (by omega),if_pos (by omega),if_pos (by simp;omega),wsucc (by omega),rd_eq (by omega),List.take_append_getElem (by omega)]
theorem sBytes_ev (l:List Int) (hn:l.length < 140737488355328):Ev (fun k=>spec_l01Bytes.f k l) l :=
 Ev.congr (fun k=>rfl) (sBytes_l l hn l.length 0 (by omega) (by omega))

def be4 (c:Int):List Int:=[c / 16777216 % 256,c / 65536 % 256,c / 256 % 256,c % 256]

theorem sWide_ev (c:Int) (h0:0≤c) (h1:c≤4294967295):Ev (fun k=>spec_l11Wide.f k c 4) (be4 c):=by
 have e:∀ n:Nat,n < 9223372036854775808 → Go.bits .and .i64 (n:Int) 255 % 256=((n % 256:Nat):Int):=by
  intro n hn
  rw [show (255:Int)=((255:Nat):Int) by rfl,bits_and255 n hn]
  omega
 have s0:shr .i64 c 0=((c.toNat:Nat):Int):=by show c / 2 ^ 0=_;omega
 have s1:shr .i64 c 8=((c.toNat / 256:Nat):Int):=by show c / 2 ^ 8=_;omega
 have s2:shr .i64 c 16=((c.toNat / 65536:Nat):Int):=by show c / 2 ^ 16=_;omega
 have s3:shr .i64 c 24=((c.toNat / 16777216:Nat):Int):=by show c / 2 ^ 24=_;omega
 have w0:IntKind.u64.wrap (wrap64 (8 * 0))=0:=by decide +kernel
 have w1:IntKind.u64.wrap (wrap64 (8 * 1))=8:=by decide +kernel
 have w2:IntKind.u64.wrap (wrap64 (8 * 2))=16:=by decide +kernel
 have w3:IntKind.u64.wrap (wrap64 (8 * 3))=24:=by decide +kernel
 have v3:wrap64 (4 - 1)=3:=by decide +kernel
 have v2:wrap64 (3 - 1)=2:=by decide +kernel
 have v1:wrap64 (2 - 1)=1:=by decide +kernel
 have v0:wrap64 (1 - 1)=0:=by decide +kernel
 have vn:wrap64 (0 - 1)=-1:=by decide +kernel
 refine ⟨6,fun k hk=>?_⟩
 obtain ⟨j,rfl⟩:∃ j,k=j+1+1+1+1+1:=⟨k - 5,by omega⟩
 simp only [spec_l11Wide.f,spec_l11Wide.l0,v3,v2,v1,v0,vn,w0,w1,w2,w3,s0,s1,s2,s3]
 rw [e _ (by omega),e _ (by omega),e _ (by omega),e _ (by omega)]
 simp only [List.nil_append,List.length_nil,List.cons_append,List.length_cons]
 rw [if_pos (by omega),if_pos (by omega),if_pos (by omega),if_pos (by omega),if_pos (by omega),if_pos (by omega),if_pos (by omega),if_pos (by omega),if_pos (by omega),if_pos (by omega),if_pos (by omega),if_pos (by omega),if_neg (by omega)]
 unfold be4
 rw [show ((c.toNat / 16777216 % 256:Nat):Int)=c / 16777216 % 256 by omega,show ((c.toNat / 65536 % 256:Nat):Int)=c / 65536 % 256 by omega,show ((c.toNat / 256 % 256:Nat):Int)=c / 256 % 256 by omega,show ((c.toNat % 256:Nat):Int)=c % 256 by omega]

theorem iWide_ev (c:Int) (h0:0≤c) (h1:c≤4294967295):Ev (fun k=>impl_bigEndian.f k c 4) (be4 c):=by
 have v3:wrap64 (4 - 1)=3:=by decide +kernel
 have v2:wrap64 (3 - 1)=2:=by decide +kernel
 have v1:wrap64 (2 - 1)=1:=by decide +kernel
 have v0:wrap64 (1 - 1)=0:=by decide +kernel
 have vn:wrap64 (0 - 1)=-1:=by decide +kernel
 have t4:((4:Int)).toNat=4:=rfl
 have t3:((3:Int)).toNat=3:=rfl
 have t2:((2:Int)).toNat=2:=rfl
 have t1:((1:Int)).toNat=1:=rfl
 have t0:((0:Int)).toNat=0:=rfl
 have r:List.replicate 4 (0:Int)=[0,0,0,0]:=rfl
 refine ⟨6,fun k hk=>?_⟩
 obtain ⟨j,rfl⟩:∃ j,k=j+1+1+1+1+1:=⟨k - 5,by omega⟩
 simp only [impl_bigEndian.f,impl_bigEndian.l0,v3,v2,v1,v0,vn,t4,t3,t2,t1,t0,r,List.set_cons_zero,List.set_cons_succ,List.length_cons,List.length_nil]
 rw [if_pos (by omega),if_pos (by omega),if_pos (by omega),if_pos (by omega),if_pos (by omega),if_pos (by omega),if_pos (by omega),if_pos (by omega),if_pos (by omega),if_pos (by omega),if_pos (by omega),if_pos (by omega),if_pos (by omega),if_pos (by omega),if_neg (by omega)]
 unfold be4
 rw [show c / 256 / 256 / 256 % 256=c / 16777216 % 256 by omega,show c / 256 / 256 % 256=c / 65536 % 256 by omega]

abbrev FrT:=Int × Int × List Int × Int × Int
def frMore:FrT:=(0,0,[],0,1)
def frBad:FrT:=(0,0,[],0,2)
def frDone (l:List Int) (n:Nat):FrT:=(rd l 2,rdN ((l.take 7).drop 3) 0,(l.take (9+n)).drop 9,((13+n:Nat):Int),0)
def cmpR (l:List Int) (n:Nat):List Int → List Int → FrT
 | _,[]=>frDone l n
 | [],_ :: _=>frMore
 | a :: t,b :: s=>if a=b then cmpR l n t s else frBad
def frN (l:List Int):Int:=rdN ((l.take 9).drop 7) 0
def hAt (l:List Int) (i:Nat):Prop:=(i=0 → rd l 0=199)∧(i=1 → rd l 1=77)∧(i=2 → rd l 2≤99)∧(i=3 → rd l 3≤127)∧(i=7 → rd l 7≤19)∧(i=8 → frN l≤5000)
instance hAt_dec (l:List Int) (i:Nat):Decidable (hAt l i):=by unfold hAt;infer_instance
def headB (l:List Int):Bool:=allF (min 9 l.length) 0 (fun j=>decide (hAt l j))
def frSum (l:List Int):List Int:=be4 (cks ((l.take (9+(frN l).toNat)).drop 2) 1 0)
def decF (l:List Int):FrT:=if headB l=true then (if l.length < 9 then frMore else if (l.length:Int) < 9+frN l then frMore else cmpR l (frN l).toNat (l.drop (9+(frN l).toNat)) (frSum l)) else frBad
theorem head_iff (l:List Int):headB l=true ↔ (0 < l.length → rd l 0=199)∧(1 < l.length → rd l 1=77)∧(2 < l.length → rd l 2≤99)∧(3 < l.length → rd l 3≤127)∧(7 < l.length → rd l 7≤19)∧(8 < l.length → frN l≤5000):=by
 unfold headB
 rw [allF_iff]
 constructor
 · intro h
   have g:∀ j,j < 9 → j < l.length → hAt l j:=fun j h1 h2=>of_decide_eq_true (h j (by omega) (by omega))
   exact ⟨fun q=>(g 0 (by omega) q).1 rfl,fun q=>(g 1 (by omega) q).2.1 rfl,fun q=>(g 2 (by omega) q).2.2.1 rfl,fun q=>(g 3 (by omega) q).2.2.2.1 rfl,fun q=>(g 7 (by omega) q).2.2.2.2.1 rfl,fun q=>(g 8 (by omega) q).2.2.2.2.2 rfl⟩
 · rintro ⟨g0,g1,g2,g3,g7,g8⟩ j h1 h2
   apply decide_eq_true
   exact ⟨fun e=>g0 (by omega),fun e=>g1 (by omega),fun e=>g2 (by omega),fun e=>g3 (by omega),fun e=>g7 (by omega),fun e=>g8 (by omega)⟩
theorem rd_B {l:List Int} (hb:isB l) (i:Nat):0≤rd l (i:Int)∧rd l (i:Int)≤255:=by
 by_cases h:i < l.length
 · exact hb _ (rd_mem h)
 · rw [show rd l (i:Int)=0 by simp [rd,List.getD_eq_getElem?_getD,List.getElem?_eq_none (by omega:l.length≤i)]];omega
theorem frN_range {l:List Int} (hb:isB l):0≤frN l∧frN l≤65535:=by
 have h:=rdN_range ((l.take 9).drop 7) (isB_drop (isB_take hb _) _) 0 (by omega)
 have h2:((l.take 9).drop 7).length≤2:=by simp;omega
 have h3:(256:Int) ^ ((l.take 9).drop 7).length≤65536:=p256b h2
 unfold frN
 omega
theorem frSum_range {l:List Int} (hb:isB l):0≤cks ((l.take (9+(frN l).toNat)).drop 2) 1 0∧cks ((l.take (9+(frN l).toNat)).drop 2) 1 0≤4294967295:=by
 have:=cks_range ((l.take (9+(frN l).toNat)).drop 2) 1 0 (by omega) (by omega) (by omega) (by omega)
 omega

theorem iDec_l (l:List Int) (hn:l.length≤140737488355327) (hb:isB l) (n:Nat) (hn5:n≤65535) (hl:9+n≤l.length) (s:List Int) (hs:s.length=4):∀ (d i:Nat),4 - i=d → i≤4 → 9+n+i≤l.length →
 Ev (fun k=>impl_decodeFrame.l0 k l (l.length:Int) (n:Int) s (s.length:Int) (i:Int)) (cmpR l n (l.drop (9+n+i)) (s.drop i)):=by
 intro d
 induction d with
 | zero =>
  intro i h hi hli
  obtain ⟨K,h1⟩:=evs1 (iRead_ev ((l.take 7).drop 3) (by simp;omega) (isB_drop (isB_take hb _) _))
  have hc:=rd_B hb 2
  simp only [show ((2:Nat):Int)=2 from rfl] at hc
  have hw:wrap64 (9+(n:Int))=((9+n:Nat):Int):=by rw [w64 (by omega) (by omega)];omega
  refine ⟨K+1,fun k hk=>?_⟩
  obtain ⟨j,rfl⟩:∃ j,k=K+j+1:=⟨k - K - 1,by omega⟩
  simp only [impl_decodeFrame.l0,hw,Int.toNat_natCast,h1,Option.bind_some]
  rw [if_neg (by omega),if_pos (by omega),if_pos (by omega),if_pos (by omega),if_pos (by omega),if_pos (by omega),if_pos (by simp;omega),(List.drop_eq_nil_of_le (by omega):s.drop i=[]),w64 (x:=rd l 2) (by omega) (by omega),w64 (x:=13+(n:Int)) (by omega) (by omega)]
  have e:cmpR l n (l.drop (9+n+i)) []=frDone l n:=by unfold cmpR;rfl
  rw [e,frDone,show 13+(n:Int)=((13+n:Nat):Int) by omega]
  rfl
 | succ d ih =>
  intro i h hi hli
  have hw:wrap64 (9+(n:Int))=((9+n:Nat):Int):=by rw [w64 (by omega) (by omega)];omega
  have h1:wrap64 (((9+n:Nat):Int)+(i:Int))=((9+n+i:Nat):Int):=by rw [w64 (by omega) (by omega)];omega
  rw [List.drop_eq_getElem_cons (show i < s.length by omega)]
  by_cases hend:9+n+i=l.length
  · rw [List.drop_eq_nil_of_le (by omega)]
    refine ev_now fun k=>?_
    simp only [impl_decodeFrame.l0,hw,h1]
    rw [if_pos (by omega),if_pos (by omega),if_pos (by omega),if_pos (by omega)]
    rfl
  · rw [List.drop_eq_getElem_cons (show 9+n+i < l.length by omega)]
    by_cases hq:l[9+n+i]=s[i]
    · have e:cmpR l n (l[9+n+i] :: l.drop (9+n+i+1)) (s[i] :: s.drop (i+1))=cmpR l n (l.drop (9+n+(i+1))) (s.drop (i+1)):=by
       rw [cmpR,if_pos hq];rfl
      rw [e]
      refine Ev.step (fun k=>?_) (ih (i+1) (by omega) (by omega) (by omega))
      simp only [impl_decodeFrame.l0,hw,h1]
      rw [if_pos (by omega),if_pos (by omega),if_pos (by omega),if_neg (by omega),if_pos (by omega),if_pos (by omega),rd_eq (by omega),rd_eq (by omega),if_pos hq,wsucc (by omega)]
    · have e:cmpR l n (l[9+n+i] :: l.drop (9+n+i+1)) (s[i] :: s.drop (i+1))=frBad:=by
       rw [cmpR,if_neg hq]
      rw [e]
      refine ev_now fun k=>?_
      simp only [impl_decodeFrame.l0,hw,h1]
      rw [if_pos (by omega),if_pos (by omega),if_pos (by omega),if_neg (by omega),if_pos (by omega),if_pos (by omega),rd_eq (by omega),rd_eq (by omega),if_neg hq]
      rfl
def head7 (l:List Int):Prop:=(0 < l.length → rd l 0=199)∧(1 < l.length → rd l 1=77)∧(2 < l.length → rd l 2≤99)∧(3 < l.length → rd l 3≤127)∧(7 < l.length → rd l 7≤19)
instance head7_dec (l:List Int):Decidable (head7 l):=by unfold head7;infer_instance
theorem head7_iff (l:List Int):headB l=true ↔ head7 l∧(8 < l.length → frN l≤5000):=by
 rw [head_iff];unfold head7
 constructor
 · rintro ⟨a,b,c,d,e,f⟩;exact ⟨⟨a,b,c,d,e⟩,f⟩
 · rintro ⟨⟨a,b,c,d,e⟩,f⟩;exact ⟨a,b,c,d,e,f⟩
theorem iDec_head (l:List Int) (hb:isB l) (r:FrT) (hr:Ev (fun k=>impl_decodeFrame.j3 k l (l.length:Int) (decide (¬ head7 l))) r):Ev (fun k=>impl_decodeFrame.f k l) r:=by
 have c7:=rd_B hb 7
 simp only [show ((7:Nat):Int)=7 from rfl] at c7
 have w7:wrap64 (rd l 7)=rd l 7:=w64 (by omega) (by omega)
 by_cases b0:0 < l.length∧rd l 0≠199
 · have q:¬ head7 l:=fun x=>b0.2 (x.1 b0.1)
   rw [decide_eq_true q] at hr
   refine Ev.congr (fun k=>?_) (Ev.step (g:=fun k=>impl_decodeFrame.j0 k l (l.length:Int) true) (fun k=>?_) hr)
   · simp only [impl_decodeFrame.f]
     rw [if_pos (by omega),if_pos (by omega),bne_iff_ne.2 b0.2]
   · simp only [impl_decodeFrame.j0,if_true]
 · have e0:∀ k,impl_decodeFrame.f k l=impl_decodeFrame.j0 k l (l.length:Int) false:=by
    intro k
    simp only [impl_decodeFrame.f]
    split
    · rw [show (rd l 0 != 199)=false by simp only [bne_eq_false_iff_eq];exact Classical.byContradiction fun x=>b0 ⟨by omega,x⟩]
    · rfl
   refine Ev.congr e0 ?_
   by_cases b1:1 < l.length∧rd l 1≠77
   · have q:¬ head7 l:=fun x=>b1.2 (x.2.1 b1.1)
     rw [decide_eq_true q] at hr
     refine Ev.step (f:=fun k=>impl_decodeFrame.j1 k l (l.length:Int) true) (fun k=>?_) (Ev.step (fun k=>?_) hr)
     · simp only [impl_decodeFrame.j0]
       rw [if_neg (by decide),if_pos (by omega),if_pos (by omega),bne_iff_ne.2 b1.2]
     · simp only [impl_decodeFrame.j1,if_true]
   · refine Ev.step (f:=fun k=>impl_decodeFrame.j1 k l (l.length:Int) false) (fun k=>?_) ?_
     · simp only [impl_decodeFrame.j0]
       rw [if_neg (by decide)]
       split
       · rw [show (rd l 1 != 77)=false by simp only [bne_eq_false_iff_eq];exact Classical.byContradiction fun x=>b1 ⟨by omega,x⟩]
       · rfl
     by_cases b2:2 < l.length∧rd l 2 > 99
     · have q:¬ head7 l:=fun x=>by have:=x.2.2.1 b2.1;omega
       rw [decide_eq_true q] at hr
       refine Ev.step (f:=fun k=>impl_decodeFrame.j2 k l (l.length:Int) true) (fun k=>?_) (Ev.step (fun k=>?_) hr)
       · simp only [impl_decodeFrame.j1]
         rw [if_neg (by decide),if_pos (by omega),if_pos (by omega),decide_eq_true b2.2]
       · simp only [impl_decodeFrame.j2,if_true]
     · refine Ev.step (f:=fun k=>impl_decodeFrame.j2 k l (l.length:Int) false) (fun k=>?_) ?_
       · simp only [impl_decodeFrame.j1]
         rw [if_neg (by decide)]
         split
         · rw [decide_eq_false (by omega)]
         · rfl
       · refine Ev.step (fun k=>?_) hr
         have hq:(¬ head7 l)=((3 < l.length∧rd l 3 > 127)∨(7 < l.length∧rd l 7 > 19)):=by
          apply propext
          unfold head7
          constructor
          · intro x
            exact Classical.byContradiction fun y=>x ⟨by omega,by omega,by omega,by omega,by omega⟩
          · rintro x ⟨_,_,_,x3,x7⟩
            omega
         simp only [hq,impl_decodeFrame.j2,w7]
         rw [if_neg (by decide)]
         by_cases q3:3 < l.length
         · rw [if_pos (by omega),if_pos (by omega)]
           by_cases q4:rd l 3 > 127
           · rw [if_pos q4,decide_eq_true q4,decide_eq_true (by omega)]
           · rw [if_neg q4]
             by_cases q7:7 < l.length
             · rw [if_pos (by omega),if_pos (by omega)]
               by_cases q8:rd l 7 > 19
               · rw [decide_eq_true q8,decide_eq_true (by omega)]
               · rw [decide_eq_false q8,decide_eq_false (by omega)]
             · rw [if_neg (by omega),decide_eq_false (by omega)]
         · rw [if_neg (by omega),if_neg (by omega),decide_eq_false (by omega)]
theorem iDec_ev (l:List Int) (hn:l.length≤140737488355327) (hb:isB l):Ev (fun k=>impl_decodeFrame.f k l) (decF l):=by
 refine iDec_head l hb _ ?_
 have hr:=frN_range hb
 obtain ⟨N,hN⟩:∃ N:Nat,frN l=(N:Int):=⟨(frN l).toNat,by omega⟩
 obtain ⟨F,hF⟩:∃ F:Int,rdN ((l.take 9).drop 7) 0=F:=⟨_,rfl⟩
 have hFN:F=(N:Int):=by rw [← hF];exact hN
 have hh:=head7_iff l
 unfold decF
 by_cases h7:head7 l
 · rw [decide_eq_false (by simp only [h7,not_true,not_false_iff])]
   by_cases h9:l.length < 9
   · rw [if_pos (hh.2 ⟨h7,by omega⟩),if_pos h9]
     refine ev_now fun k=>?_
     simp only [impl_decodeFrame.j3]
     rw [if_neg (by decide),if_pos (by omega)];rfl
   · have hE:=iRead_ev ((l.take 9).drop 7) (by simp;omega) (isB_drop (isB_take hb _) _)
     rw [hF] at hE
     obtain ⟨K,h2⟩:=evs1 hE
     by_cases h5:frN l≤5000
     · rw [if_pos (hh.2 ⟨h7,fun _=>h5⟩),if_neg h9]
       have hw:wrap64 (9+F)=((9+N:Nat):Int):=by rw [w64 (by omega) (by omega)];omega
       by_cases hlt:(l.length:Int) < 9+frN l
       · rw [if_pos hlt]
         refine ⟨K+1,fun k hk=>?_⟩
         obtain ⟨j,rfl⟩:∃ j,k=K+j+1:=⟨k - K - 1,by omega⟩
         simp only [impl_decodeFrame.j3,h2,hw,Option.bind_some]
         rw [if_neg (by decide),if_neg (by omega),if_pos (by omega),if_pos (by omega),if_neg (by omega),if_pos (by omega)];rfl
       · rw [if_neg hlt,hN,Int.toNat_natCast]
         have hsr:=frSum_range hb
         have hS:frSum l=be4 (cks ((l.take (9+N)).drop 2) 1 0):=by unfold frSum;rw [hN,Int.toNat_natCast]
         rw [hN,Int.toNat_natCast] at hsr
         obtain ⟨M,g1,g2,g3⟩:=evs3 (iCks_ev ((l.take (9+N)).drop 2) (by simp;omega) (isB_drop (isB_take hb _) _)) (iWide_ev _ hsr.1 hsr.2) (iDec_l l hn hb N (by omega) (by omega) (be4 (cks ((l.take (9+N)).drop 2) 1 0)) (by simp [be4]) 4 0 (by omega) (by omega) (by omega))
         rw [hS]
         refine ⟨K+M+1,fun k hk=>?_⟩
         obtain ⟨k,rfl⟩:∃ j,k=j+1:=⟨k - 1,by omega⟩
         have h2:=h2 (k - K)
         have g1:=g1 (k - M)
         have g2:=g2 (k - M)
         have g3:=g3 (k - M)
         rw [show K+(k - K)=k by omega] at h2
         rw [show M+(k - M)=k by omega] at g1 g2 g3
         rw [List.drop_zero,Nat.add_zero,show ((0:Nat):Int)=0 from rfl] at g3
         simp only [impl_decodeFrame.j3,h2,hw,g1,g2,Int.toNat_natCast,Option.bind_some]
         rw [if_neg (by decide),if_neg (by omega),if_pos (by omega),if_pos (by omega),if_neg (by omega),if_neg (by omega),if_pos (by omega),if_pos (by omega),hFN]
         exact g3
     · rw [if_neg (fun x=>h5 ((hh.1 x).2 (by omega)))]
       refine ⟨K+1,fun k hk=>?_⟩
       obtain ⟨j,rfl⟩:∃ j,k=K+j+1:=⟨k - K - 1,by omega⟩
       simp only [impl_decodeFrame.j3,h2,Option.bind_some]
       rw [if_neg (by decide),if_neg (by omega),if_pos (by omega),if_pos (by omega),if_pos (by omega)];rfl
 · rw [if_neg (fun x=>h7 (hh.1 x).1),decide_eq_true h7]
   refine ev_now fun k=>?_
   simp only [impl_decodeFrame.j3,if_true]
   rfl

def streamOk (l:List Int) (a:Int):Prop:=0≤a∧a≤2147483647∧(decF l).2.2.2.2=1
instance streamOk_dec (l:List Int) (a:Int):Decidable (streamOk l a):=by unfold streamOk;infer_instance

theorem sElem_l (p:Int) (hp:2≤p) (hp2:p≤2147483648) (l:List Int) (hn:l.length≤1048576):∀ (d i:Nat),l.length - i=d → i≤l.length → Ev (fun k=>spec_l03Elements.l0 k l p (i:Int)) (allF d i (fun j=>decide (0≤rd l (j:Int)∧rd l (j:Int) < p))):=by
 intro d
 induction d with
 | zero =>
  intro i h hi
  refine ev_now fun k=>?_
  simp only [spec_l03Elements.l0]
  rw [if_neg (by omega)];rfl
 | succ d ih =>
  intro i h hi
  rw [allF]
  have hw:wrap64 (p - 1)=p - 1:=w64 (by omega) (by omega)
  by_cases hq:0≤rd l (i:Int)∧rd l (i:Int) < p
  · rw [decide_eq_true hq,Bool.true_and]
    refine Ev.step (fun k=>?_) (ih (i+1) (by omega) (by omega))
    simp only [spec_l03Elements.l0,in_eq,hw,Option.bind_some,decide_eq_true_eq]
    rw [if_pos (by omega),if_pos (by omega),if_pos (by omega),wsucc (by omega)]
  · rw [decide_eq_false hq,Bool.false_and]
    refine ev_now fun k=>?_
    simp only [spec_l03Elements.l0,in_eq,hw,Option.bind_some,decide_eq_true_eq]
    rw [if_pos (by omega),if_pos (by omega),if_neg (by omega)]
theorem sElem_ev {f:Int} (h:fldOk f) (l:List Int) (hn:l.length≤1048576):Ev (fun k=>spec_l03Elements.f k f l) (elemB (md f) l):=by
 have hm:=md_pos h
 refine Ev.congr (fun k=>?_) (sElem_l (md f) (by omega) (by omega) l hn l.length 0 (by omega) (by omega))
 simp only [spec_l03Elements.f,sMod,Option.bind_some]
 rw [if_neg (by omega)]
 rfl

theorem sAdd (f a b:Int):spec_Add.f f a b=some (if fldOk f then (a+b) % md f else -1):=by
 simp only [spec_Add.f,sMod,sReduce,Option.bind_some,md_zero]
 by_cases h:fldOk f
 · have hm:=md_pos h
   have ha:=md_range h a
   have hb:=md_range h b
   rw [if_neg (fun hh=>hh h),if_pos h,if_pos h,if_pos h,if_pos h,w64 (by omega) (by omega)]
   exact congrArg some (Md.emod (Md.add (Md.mod _ _) (Md.mod _ _)))
 · rw [if_pos h,if_neg h]

theorem sCopy_l (l:List Int) (hn:l.length < 17592186044416):∀ (d i:Nat),l.length - i=d → i≤l.length →
 Ev (fun k=>spec_l01Copy.l0 k l (l.take i) (i:Int)) l:=by
 intro d
 induction d with
 | zero =>
  intro i h hi
  refine ev_now fun k=>?_
  simp only [spec_l01Copy.l0]
  rw [if_neg (by omega),List.take_of_length_le (by omega)]
 | succ d ih =>
  intro i h hi
  refine Ev.step (fun k=>?_) (ih (i+1) (by omega) (by omega))
  simp only [spec_l01Copy.l0]
  rw [if_pos (by omega),if_pos (by omega),if_pos (by simp;omega),wsucc (by omega),rd_eq (by omega),List.take_append_getElem (by omega)]
theorem sCopy_ev (l:List Int) (hn:l.length < 17592186044416):Ev (fun k=>spec_l01Copy.f k l) l :=
 Ev.congr (fun k=>rfl) (sCopy_l l hn l.length 0 (by omega) (by omega))

def be2 (c:Int):List Int:=[c / 256 % 256,c % 256]

theorem sWide2_ev (c:Int) (h0:0≤c) (h1:c≤4294967295):Ev (fun k=>spec_l11Wide.f k c 2) (be2 c):=by
 have e:∀ n:Nat,n < 9223372036854775808 → Go.bits .and .i64 (n:Int) 255 % 256=((n % 256:Nat):Int):=by
  intro n hn
  rw [show (255:Int)=((255:Nat):Int) by rfl,bits_and255 n hn]
  omega
 have s0:shr .i64 c 0=((c.toNat:Nat):Int):=by show c / 2 ^ 0=_;omega
 have s1:shr .i64 c 8=((c.toNat / 256:Nat):Int):=by show c / 2 ^ 8=_;omega
 have w0:IntKind.u64.wrap (wrap64 (8 * 0))=0:=by decide +kernel
 have w1:IntKind.u64.wrap (wrap64 (8 * 1))=8:=by decide +kernel
 have v1:wrap64 (2 - 1)=1:=by decide +kernel
 have v0:wrap64 (1 - 1)=0:=by decide +kernel
 have vn:wrap64 (0 - 1)=-1:=by decide +kernel
 refine ⟨6,fun k hk=>?_⟩
 obtain ⟨j,rfl⟩:∃ j,k=j+1+1+1:=⟨k - 3,by omega⟩
 simp only [spec_l11Wide.f,spec_l11Wide.l0,v1,v0,vn,w0,w1,s0,s1]
 rw [e _ (by omega),e _ (by omega)]
 simp only [List.nil_append,List.length_nil,List.cons_append,List.length_cons]
 rw [if_pos (by omega),if_pos (by omega),if_pos (by omega),if_pos (by omega),if_pos (by omega),if_pos (by omega),if_neg (by omega)]
 unfold be2
 rw [show ((c.toNat / 256 % 256:Nat):Int)=c / 256 % 256 by omega,show ((c.toNat % 256:Nat):Int)=c % 256 by omega]

theorem iWide2_ev (c:Int) (h0:0≤c) (h1:c≤4294967295):Ev (fun k=>impl_bigEndian.f k c 2) (be2 c):=by
 have v1:wrap64 (2 - 1)=1:=by decide +kernel
 have v0:wrap64 (1 - 1)=0:=by decide +kernel
 have vn:wrap64 (0 - 1)=-1:=by decide +kernel
 have t2:((2:Int)).toNat=2:=rfl
 have t1:((1:Int)).toNat=1:=rfl
 have t0:((0:Int)).toNat=0:=rfl
 have r:List.replicate 2 (0:Int)=[0,0]:=rfl
 refine ⟨6,fun k hk=>?_⟩
 obtain ⟨j,rfl⟩:∃ j,k=j+1+1+1:=⟨k - 3,by omega⟩
 simp only [impl_bigEndian.f,impl_bigEndian.l0,v1,v0,vn,t2,t1,t0,r,List.set_cons_zero,List.set_cons_succ,List.length_cons,List.length_nil]
 rw [if_pos (by omega),if_pos (by omega),if_pos (by omega),if_pos (by omega),if_pos (by omega),if_pos (by omega),if_pos (by omega),if_pos (by omega),if_neg (by omega)]
 rfl

theorem sJoinB_l (b:List Int) (a:List Int) (hn:a.length+b.length < 140737488355328):∀ (d i:Nat),b.length - i=d → i≤b.length → Ev (fun k=>spec_l01Join.l0 k b (a ++ b.take i) (i:Int)) (a ++ b):=by
 intro d
 induction d with
 | zero =>
  intro i h hi
  refine ev_now fun k=>?_
  simp only [spec_l01Join.l0]
  rw [if_neg (by omega),List.take_of_length_le (by omega)]
 | succ d ih =>
  intro i h hi
  have key:=ih (i+1) (by omega) (by omega)
  refine Ev.step (fun k=>?_) key
  simp only [spec_l01Join.l0]
  rw [if_pos (by omega),if_pos (by omega),if_pos (by simp;omega),wsucc (by omega),rd_eq (by omega),List.append_assoc,List.take_append_getElem (by omega)]
theorem sJoinB_ev (a b:List Int) (hn:a.length+b.length < 140737488355328):Ev (fun k=>spec_l01Join.f k a b) (a ++ b):=by
 have key:=sJoinB_l b a hn b.length 0 (by omega) (by omega)
 rw [List.take_zero,List.append_nil] at key
 obtain ⟨n,e1,e2⟩:=evs2 (sBytes_ev a (by omega)) key
 refine ⟨n,fun k hk=>?_⟩
 obtain ⟨j,rfl⟩:∃ j,k=n+j:=⟨k - n,by omega⟩
 simp only [spec_l01Join.f,e1 j,Option.bind_some]
 exact e2 j

def encMid (a b:Int) (l:List Int):List Int:=(([a % 256] ++ be4 b) ++ be2 (l.length:Int)) ++ l
def encB (a b:Int) (l:List Int):List Int:=if frOk a b l then ([199,77] ++ encMid a b l) ++ be4 (cks (encMid a b l) 1 0) else []
theorem encMid_len (a b:Int) (l:List Int):(encMid a b l).length=l.length+7:=by simp [encMid,be4,be2]
theorem encB_len (a b:Int) (l:List Int):(encB a b l).length≤5013:=by
 unfold encB
 split
 · rename_i h
   have:=h.2.2.2.2
   rw [List.length_append,List.length_append,encMid_len]
   simp [be4];omega
 · simp
theorem be_isB4 (c:Int):isB (be4 c):=by
 intro x hx
 simp [be4] at hx
 omega
theorem be_isB2 (c:Int):isB (be2 c):=by
 intro x hx
 simp [be2] at hx
 omega
theorem encMid_isB (a b:Int) (l:List Int) (hl:isB l):isB (encMid a b l):=by
 refine isB_append (isB_append (isB_append (fun x hx=>?_) (be_isB4 b)) (be_isB2 _)) hl
 simp at hx
 omega

theorem sEncF_ev (a b:Int) (l:List Int) (hb:isB l):Ev (fun k=>spec_EncodeFrame.f k a b l) (encB a b l):=by
 unfold encB
 by_cases h:frOk a b l
 · have hl:=h.2.2.2.2
   have hmid:=encMid_len a b l
   have hc:=cks_range (encMid a b l) 1 0 (by omega) (by omega) (by omega) (by omega)
   have h4:∀ c:Int,(be4 c).length=4:=fun c=>rfl
   have h2:∀ c:Int,(be2 c).length=2:=fun c=>rfl
   obtain ⟨n,e1,e2,e3,e4,e5,e6,e7,e8,e9⟩:=evs9 (sWide_ev b h.2.2.1 (by have:=h.2.2.2.1;omega)) (sJoinB_ev [a % 256] (be4 b) (by simp [be4])) (sWide2_ev (l.length:Int) (by omega) (by omega)) (sJoinB_ev ([a % 256] ++ be4 b) (be2 (l.length:Int)) (by simp [be4,be2])) (sJoinB_ev (([a % 256] ++ be4 b) ++ be2 (l.length:Int)) l (by simp [be4,be2];omega)) (sJoinB_ev [199,77] (encMid a b l) (by rw [hmid];simp;omega)) (sCks_ev (encMid a b l) (by omega) (encMid_isB a b l hb)) (sWide_ev (cks (encMid a b l) 1 0) hc.1 (by omega)) (sJoinB_ev ([199,77] ++ encMid a b l) (be4 (cks (encMid a b l) 1 0)) (by rw [List.length_append,hmid,h4];simp;omega))
   refine ⟨n,fun k hk=>?_⟩
   obtain ⟨j,rfl⟩:∃ j,k=n+j:=⟨k - n,by omega⟩
   have e5':spec_l01Join.f (n+j) (([a % 256] ++ be4 b) ++ be2 (l.length:Int)) l=some (encMid a b l):=e5 j
   rw [if_pos h]
   simp only [spec_EncodeFrame.f,sFrameOk,decide_eq_true h,e1 j,e2 j,e3 j,e4 j,e5',e6 j,e7 j,e8 j,e9 j,Option.bind_some,if_true]
 · rw [if_neg h]
   refine ev_some fun k=>?_
   simp only [spec_EncodeFrame.f,sFrameOk,decide_eq_false h,Option.bind_some,Bool.false_eq_true,if_false]

theorem iEnc_ev (a b:Int) (l:List Int) (hb:isB l) (h:frOk a b l):Ev (fun k=>impl_encodeFrame.f k a b l) (([199,77] ++ encMid a b l) ++ be4 (cks (encMid a b l) 1 0)):=by
 have hl:=h.2.2.2.2
 have hmid:=encMid_len a b l
 have hc:=cks_range (encMid a b l) 1 0 (by omega) (by omega) (by omega) (by omega)
 have h4:∀ c:Int,(be4 c).length=4:=fun c=>rfl
 have h2:∀ c:Int,(be2 c).length=2:=fun c=>rfl
 obtain ⟨n,e1,e2,e3,e4⟩:=evs4 (iWide_ev b h.2.2.1 (by have:=h.2.2.2.1;omega)) (iWide2_ev (l.length:Int) (by omega) (by omega)) (iCks_ev (encMid a b l) (by omega) (encMid_isB a b l hb)) (iWide_ev (cks (encMid a b l) 1 0) hc.1 (by omega))
 refine ⟨n,fun k hk=>?_⟩
 obtain ⟨j,rfl⟩:∃ j,k=n+j:=⟨k - n,by omega⟩
 have ey:(([199,77,a % 256] ++ be4 b) ++ be2 (l.length:Int)) ++ l=[199,77] ++ encMid a b l:=by simp [encMid]
 have ed:([199,77] ++ encMid a b l).drop 2=encMid a b l:=rfl
 have c1:([199,77,a % 256]:List Int).length+(be4 b).length < 140737488355328:=by simp [be4]
 have c2:([199,77,a % 256] ++ be4 b).length+(be2 (l.length:Int)).length < 140737488355328:=by simp [be4,be2]
 have c3:(([199,77,a % 256] ++ be4 b) ++ be2 (l.length:Int)).length+l.length < 140737488355328:=by simp [be4,be2];omega
 have c4:(2:Int)≤(([199,77] ++ encMid a b l).length:Int):=by rw [List.length_append,hmid];simp;omega
 have c5:([199,77] ++ encMid a b l).length+(be4 (cks (encMid a b l) 1 0)).length < 140737488355328:=by rw [List.length_append,hmid,h4];simp;omega
 simp only [impl_encodeFrame.f,Option.bind_some,e1 j,e2 j,c1,c2,c3,if_true]
 simp only [ey,ed,c4,c5,e3 j,e4 j,Option.bind_some,if_true]

def lstD (l:List Int):Nat → Nat → Option (List Int × Nat)
 | 0,p=>some ([],p)
 | d+1,p=>(tkL 7 (l.drop p) 0 0).bind fun r=>(lstD l d (p+r.2)).bind fun s=>some (r.1 :: s.1,s.2)
def oneD (l:List Int) (p:Nat):Option (List Int × Nat):=(tkL 7 (l.drop p) 0 0).bind fun r=>if 0≤r.1∧r.1≤400 then lstD l r.1.toNat (p+r.2) else none
def dOk (o:Option (List Int × Nat)) (r:List Int × Int × Bool):Prop:=match o with
 | some s=>r=(s.1,(s.2:Int),true)
 | none=>r.2.2=false
theorem tkL_le:∀ (d:Nat) (l:List Int) (k u:Nat) (r:Int × Nat),tkL d l k u=some r → r.2≤k+l.length∧k < r.2
 | 0,l,k,u,r,h=>by cases l <;> simp [tkL] at h
 | d+1,[],k,u,r,h=>by simp [tkL] at h
 | d+1,b :: l,k,u,r,h=>by
  rw [tkL] at h
  split at h
  · have:=tkL_le d l (k+1) _ r h
    rw [List.length_cons];omega
  · split at h
    · cases h
    · split at h
      · injection h with h;subst h;rw [List.length_cons];dsimp only;omega
      · cases h
theorem tk_le {l:List Int} {p:Nat} {r:Int × Nat} (h:tkL 7 (l.drop p) 0 0=some r):p+r.2≤l.length∧0 < r.2:=by
 have:=tkL_le 7 (l.drop p) 0 0 r h
 rw [List.length_drop] at this
 omega
theorem lstD_le (l:List Int):∀ (d p:Nat) (s:List Int × Nat),p≤l.length → lstD l d p=some s → s.2≤l.length∧s.1.length=d∧p≤s.2
 | 0,p,s,hp,h=>by injection h with h;subst h;exact ⟨hp,rfl,Nat.le_refl _⟩
 | d+1,p,s,hp,h=>by
  rw [lstD] at h
  obtain ⟨r,hr,h⟩:=Option.bind_eq_some_iff.mp h
  obtain ⟨t,ht,h⟩:=Option.bind_eq_some_iff.mp h
  injection h with h
  subst h
  have h1:=tk_le hr
  have h2:=lstD_le l d _ t h1.1 ht
  exact ⟨h2.1,by rw [List.length_cons,h2.2.1],by dsimp only;omega⟩
theorem oneD_le {l:List Int} {p:Nat} {s:List Int × Nat} (h:oneD l p=some s):s.2≤l.length∧s.1.length≤400∧p≤s.2:=by
 unfold oneD at h
 obtain ⟨r,hr,h⟩:=Option.bind_eq_some_iff.mp h
 split at h
 · rename_i hc
   have h1:=tk_le hr
   have h2:=lstD_le l _ _ s h1.1 h
   omega
 · cases h

def decV (l:List Int):Int × Int × List Int × List Int × Int × Bool :=
 if l.length < 2 then (0,0,[],[],0,false) else match tkL 7 (l.drop 2) 0 0 with
 | none=>(0,0,[],[],0,false)
 | some r=>match oneD l (2+r.2) with
  | none=>(0,0,[],[],0,false)
  | some s=>match oneD l s.2 with
   | none=>(0,0,[],[],0,false)
   | some t=>if t.2=l.length∧jobB (rd l 0) (rd l 1) s.1 t.1 r.1=true then (rd l 0,rd l 1,s.1,t.1,r.1,true) else (0,0,[],[],0,false)
theorem rdByte {l:List Int} (hb:isB l) {i:Nat} (h:i < l.length):wrap64 (rd l (i:Int))=rd l (i:Int):=by
 have:=isB_at hb h
 rw [rd_eq h]
 exact w64 (by omega) (by omega)

theorem iLst (l:List Int) (hn:l.length≤1048576) (hb:isB l) (m:Nat) (hm:m≤400):∀ (d i p:Nat) (xs:List Int),m - i=d → i≤m → p≤l.length → xs.length≤i →
 ∃ r,Ev (fun k=>impl_DecodeJob.l1 k l xs (m:Int) (p:Int) true (i:Int)) r∧dOk ((lstD l d p).bind fun s=>some (xs ++ s.1,s.2)) r:=by
 intro d
 induction d with
 | zero =>
  intro i p xs h hi hp hx
  refine ⟨(xs,(p:Int),true),ev_now fun k=>?_,?_⟩
  · simp only [impl_DecodeJob.l1,if_true]
    rw [if_neg (by omega)]
  · simp [lstD,dOk]
 | succ d ih =>
  intro i p xs h hi hp hx
  have ht:=iTake_ev l (by omega) hb p (by omega)
  unfold takeAt at ht
  rw [lstD]
  cases hr:tkL 7 (l.drop p) 0 0 with
  | none =>
   rw [hr] at ht
   obtain ⟨n,e⟩:=evs1 ht
   refine ⟨(xs ++ [0],0,false),⟨n+2,fun k hk=>?_⟩,rfl⟩
   obtain ⟨j,rfl⟩:∃ j,k=n+(j+1)+1:=⟨k - n - 2,by omega⟩
   simp only [impl_DecodeJob.l1,if_true]
   rw [if_pos (by omega),e (j+1)]
   simp only [tkR,Option.bind_some]
   rw [if_pos (by omega)]
   simp only [impl_DecodeJob.l1,Bool.false_eq_true,if_false]
  | some r =>
   rw [hr] at ht
   have h1:=tk_le hr
   obtain ⟨v,key,hv⟩:=ih (i+1) (p+r.2) (xs ++ [r.1]) (by omega) (by omega) h1.1 (by rw [List.length_append];simp;omega)
   obtain ⟨n,e,e2⟩:=evs2 ht key
   refine ⟨v,⟨n+1,fun k hk=>?_⟩,?_⟩
   · obtain ⟨j,rfl⟩:∃ j,k=n+j+1:=⟨k - n - 1,by omega⟩
     simp only [impl_DecodeJob.l1,e,tkR,Option.bind_some,if_true]
     rw [if_pos (by omega),if_pos (by omega),wsucc (by omega),e2]
   · rw [Option.bind_some]
     cases hq:lstD l d (p+r.2) with
     | none=>rw [hq] at hv;exact hv
     | some s=>rw [hq] at hv;simpa [dOk] using hv
theorem iOne (l:List Int) (hn:l.length≤1048576) (hb:isB l) (p:Nat) (hp:p≤l.length):∃ r,Ev (fun k=>impl_DecodeJob.one k l (p:Int) true) r∧dOk (oneD l p) r:=by
 have ht:=iTake_ev l (by omega) hb p (by omega)
 unfold takeAt at ht
 unfold oneD
 have off:∀ (m a:Int),Ev (fun k=>impl_DecodeJob.l1 k l [] m a false 0) (([]:List Int),a,false):=fun m a=>ev_now fun k=>by simp only [impl_DecodeJob.l1,Bool.false_eq_true,if_false]
 cases hr:tkL 7 (l.drop p) 0 0 with
 | none =>
  rw [hr] at ht
  obtain ⟨n,e,e2⟩:=evs2 ht (off 0 0)
  refine ⟨([],0,false),⟨n,fun k hk=>?_⟩,rfl⟩
  obtain ⟨j,rfl⟩:∃ j,k=n+j:=⟨k - n,by omega⟩
  simp only [impl_DecodeJob.one,e,tkR,Option.bind_some,Bool.true_and,Bool.false_and]
  exact e2 j
 | some r =>
  rw [hr] at ht
  have h1:=tk_le hr
  simp only [Option.bind_some]
  by_cases hc:0≤r.1∧r.1≤400
  · rw [if_pos hc]
    obtain ⟨v,key,hv⟩:=iLst l hn hb r.1.toNat (by omega) r.1.toNat 0 (p+r.2) [] (by omega) (by omega) h1.1 (by simp)
    rw [show ((r.1.toNat:Nat):Int)=r.1 by omega] at key
    obtain ⟨n,e,e2⟩:=evs2 ht key
    refine ⟨v,⟨n,fun k hk=>?_⟩,?_⟩
    · obtain ⟨j,rfl⟩:∃ j,k=n+j:=⟨k - n,by omega⟩
      simp only [impl_DecodeJob.one,e,tkR,Option.bind_some,Bool.true_and]
      rw [decide_eq_true hc.1,decide_eq_true hc.2]
      exact e2 j
    · cases hq:lstD l r.1.toNat (p+r.2) with
      | none=>rw [hq] at hv;exact hv
      | some s=>rw [hq] at hv;simpa [dOk] using hv
  · rw [if_neg hc]
    obtain ⟨n,e,e2⟩:=evs2 ht (off r.1 ((p+r.2:Nat):Int))
    refine ⟨([],((p+r.2:Nat):Int),false),⟨n,fun k hk=>?_⟩,rfl⟩
    obtain ⟨j,rfl⟩:∃ j,k=n+j:=⟨k - n,by omega⟩
    simp only [impl_DecodeJob.one,e,tkR,Option.bind_some,Bool.true_and]
    have hf:(decide (0≤r.1) && decide (r.1≤400))=false:=by
     rw [Bool.eq_false_iff]
     intro hh
     rw [Bool.and_eq_true,decide_eq_true_eq,decide_eq_true_eq] at hh
     exact hc hh
    rw [hf]
    exact e2 j
theorem iOneNo (l:List Int) (hn:l.length≤1048576) (hb:isB l) (p:Nat) (hp:p≤l.length):∃ r,Ev (fun k=>impl_DecodeJob.one k l (p:Int) false) r∧r.2.2=false:=by
 have ht:=iTake_ev l (by omega) hb p (by omega)
 obtain ⟨n,e,e2⟩:=evs2 ht (show Ev (fun k=>impl_DecodeJob.l1 k l [] (takeAt l p).1 (takeAt l p).2.1 false 0) (([]:List Int),(takeAt l p).2.1,false) from ev_now fun k=>by simp only [impl_DecodeJob.l1,Bool.false_eq_true,if_false])
 refine ⟨([],(takeAt l p).2.1,false),⟨n,fun k hk=>?_⟩,rfl⟩
 obtain ⟨j,rfl⟩:∃ j,k=n+j:=⟨k - n,by omega⟩
 simp only [impl_DecodeJob.one,e,Option.bind_some,Bool.false_and]
 exact e2 j

theorem iDecode_ev (l:List Int) (hn:l.length≤1048576) (hb:isB l):Ev (fun k=>impl_DecodeJob.f k l) (decV l):=by
 unfold decV
 by_cases h2:l.length < 2
 · rw [if_pos h2]
   refine ev_some fun k=>?_
   simp only [impl_DecodeJob.f]
   rw [if_pos (by omega)]
 · rw [if_neg h2]
   have ht:=iTake_ev l (by omega) hb 2 (by omega)
   unfold takeAt at ht
   have w0:wrap64 (rd l 0)=rd l 0:=rdByte hb (i:=0) (by omega)
   have w1:wrap64 (rd l 1)=rd l 1:=rdByte hb (i:=1) (by omega)
   cases hr:tkL 7 (l.drop 2) 0 0 with
   | none =>
    rw [hr] at ht
    obtain ⟨v,hv,hf⟩:=iOneNo l hn hb 0 (by omega)
    obtain ⟨n,e,e2⟩:=evs2 ht hv
    refine ⟨n,fun k hk=>?_⟩
    obtain ⟨j,rfl⟩:∃ j,k=n+j:=⟨k - n,by omega⟩
    have e':impl_takeNumber.f (n+j) l 2=some (0,0,false):=e j
    have e2':impl_DecodeJob.one (n+j) l 0 false=some v:=e2 j
    simp only [impl_DecodeJob.f,e',impl_DecodeJob.g0,e2',hf,Option.bind_some,Bool.false_eq_true,if_false]
    rw [if_neg (by omega),if_pos (by omega),if_pos (by omega)]
   | some r =>
    rw [hr] at ht
    dsimp only
    have h1:=tk_le hr
    obtain ⟨v,hv,hd⟩:=iOne l hn hb (2+r.2) h1.1
    cases ho:oneD l (2+r.2) with
    | none =>
     rw [ho] at hd
     have hd':v.2.2=false:=hd
     obtain ⟨n,e,e2⟩:=evs2 ht hv
     refine ⟨n,fun k hk=>?_⟩
     obtain ⟨j,rfl⟩:∃ j,k=n+j:=⟨k - n,by omega⟩
     have e':impl_takeNumber.f (n+j) l 2=some (r.1,((2+r.2:Nat):Int),true):=e j
     simp only [impl_DecodeJob.f,impl_DecodeJob.g0,e',e2,hd',Option.bind_some,Bool.false_eq_true,if_false]
     rw [if_neg (by omega),if_pos (by omega),if_pos (by omega)]
    | some s =>
     rw [ho] at hd
     have hd':v=(s.1,(s.2:Int),true):=hd
     subst hd'
     dsimp only
     have hl1:=oneD_le ho
     obtain ⟨u,hu,hd2⟩:=iOne l hn hb s.2 hl1.1
     cases hq:oneD l s.2 with
     | none =>
      rw [hq] at hd2
      have hd':u.2.2=false:=hd2
      obtain ⟨n,e,e2,e3⟩:=evs3 ht hv hu
      refine ⟨n,fun k hk=>?_⟩
      obtain ⟨j,rfl⟩:∃ j,k=n+j:=⟨k - n,by omega⟩
      have e':impl_takeNumber.f (n+j) l 2=some (r.1,((2+r.2:Nat):Int),true):=e j
      simp only [impl_DecodeJob.f,impl_DecodeJob.g0,impl_DecodeJob.g1,e',e2,e3,hd',Option.bind_some,if_true,Bool.false_eq_true,if_false]
      rw [if_neg (by omega),if_pos (by omega),if_pos (by omega)]
     | some t =>
      rw [hq] at hd2
      have hd':u=(t.1,(t.2:Int),true):=hd2
      subst hd'
      dsimp only
      have hl2:=(oneD_le hq).2.1
      obtain ⟨n,e,e2,e3,e4⟩:=evs4 ht hv hu (iJob_ev (rd l 0) (rd l 1) s.1 t.1 r.1 (by omega) (by omega))
      refine ⟨n,fun k hk=>?_⟩
      obtain ⟨j,rfl⟩:∃ j,k=n+j:=⟨k - n,by omega⟩
      have e':impl_takeNumber.f (n+j) l 2=some (r.1,((2+r.2:Nat):Int),true):=e j
      simp only [impl_DecodeJob.f,impl_DecodeJob.g0,impl_DecodeJob.g1,impl_DecodeJob.g2,e',e2,e3,e4,Option.bind_some,if_true,w0,w1]
      rw [if_neg (by omega),if_pos (by omega),if_pos (by omega)]
      by_cases hc:t.2=l.length
      · rw [if_pos (by omega)]
        by_cases hj:jobB (rd l 0) (rd l 1) s.1 t.1 r.1=true
        · rw [if_pos hj,if_pos ⟨hc,hj⟩]
        · rw [if_neg hj,if_neg (fun hh=>hj hh.2)]
      · rw [if_neg (by omega),if_neg (fun hh=>hc hh.1)]

def unpV (a b:Int) (l:List Int):Int × Int × List Int × List Int × Int × Bool:=if frOk a b l then decV l else (0,0,[],[],0,false)
theorem iUnpack_ev (a b:Int) (l:List Int) (hn:l.length≤1048576) (hb:isB l):Ev (fun k=>impl_UnpackJobs.f k a b l) (unpV a b l):=by
 obtain ⟨n,e⟩:=evs1 (iDecode_ev l hn hb)
 unfold unpV
 refine ⟨n,fun k hk=>?_⟩
 obtain ⟨j,rfl⟩:∃ j,k=n+j:=⟨k - n,by omega⟩
 by_cases h:frOk a b l
 · simp only [impl_UnpackJobs.f,iFrame,e,Option.bind_some,decide_eq_true h,if_true,if_pos h]
 · simp only [impl_UnpackJobs.f,iFrame,Option.bind_some,decide_eq_false h,Bool.false_eq_true,if_false,if_neg h]

def Fin {α:Type} (g:Nat → Option α) (Q:α → Prop):Prop:=∃ r,Ev g r∧Q r
theorem Fin.bind {α β:Type} {g:Nat → Option α} {f:Nat → α → Option β} {Q:α → Prop} {R:β → Prop} (h:Fin g Q) (k:∀ r,Q r → Fin (fun n=>f n r) R):Fin (fun n=>(g n).bind (f n)) R:=by
 obtain ⟨r,e,q⟩:=h
 obtain ⟨s,e2,q2⟩:=k r q
 exact ⟨s,Ev.bind e e2,q2⟩
theorem Fin.step {α:Type} {g f:Nat → Option α} {Q:α → Prop} (h:∀ k,g (k+1)=f k) (k:Fin f Q):Fin g Q:=by
 obtain ⟨r,e,q⟩:=k
 exact ⟨r,Ev.step h e,q⟩
theorem Fin.now {α:Type} {Q:α → Prop} (x:α) (h:Q x):Fin (fun _=>some x) Q:=⟨x,Ev.now x,h⟩
theorem Fin.ite {α:Type} {c:Prop} [Decidable c] {g f:Nat → Option α} {Q:α → Prop} (h1:c → Fin g Q) (h2:¬ c → Fin f Q):Fin (fun n=>if c then g n else f n) Q:=by
 by_cases h:c
 · simp only [if_pos h];exact h1 h
 · simp only [if_neg h];exact h2 h
theorem Fin.mono {α:Type} {g:Nat → Option α} {Q R:α → Prop} (h:Fin g Q) (k:∀ r,Q r → R r):Fin g R:=by
 obtain ⟨r,e,q⟩:=h
 exact ⟨r,e,k r q⟩
theorem Fin.yes {α:Type} {c:Prop} [Decidable c] {g f:Nat → Option α} {Q:α → Prop} (hc:c) (h1:Fin g Q):Fin (fun n=>if c then g n else f n) Q:=by simp only [if_pos hc];exact h1
theorem Fin.no {α:Type} {c:Prop} [Decidable c] {g f:Nat → Option α} {Q:α → Prop} (hc:¬ c) (h1:Fin f Q):Fin (fun n=>if c then g n else f n) Q:=by simp only [if_neg hc];exact h1

theorem fCut (v:List Int) (hv:v.length≤1048576):Fin (fun k=>spec_l03Cut.f k v) (fun r=>r.length≤v.length):=by
 have key:∀ (d:Nat),d≤v.length → Fin (fun k=>spec_l03Cut.l0 k v (d:Int)) (fun r=>r.length≤v.length):=by
  intro d
  have hcp:∀ d≤v.length,Fin (fun k=>(spec_l01Copy.f k (v.take d)).bind fun t=>some t) (fun r=>r.length≤v.length):=fun d hd =>
   Fin.bind (Q:=fun r=>r=v.take d) ⟨_,sCopy_ev (v.take d) (by simp;omega),rfl⟩ fun r q=>Fin.now r (by rw [q];simp <;> omega)
  induction d with
  | zero =>
   intro hd
   refine Fin.step (fun k=>?_) (hcp 0 (by omega))
   simp only [spec_l03Cut.l0]
   rw [if_neg (by omega),if_pos (by omega),if_pos (by omega)]
   rfl
  | succ d ih =>
   intro hd
   obtain ⟨J,hJ⟩:∃ J:Int,J=((d+1:Nat):Int):=⟨_,rfl⟩
   have hw:wrap64 (J - 1)=(d:Int):=by rw [hJ];exact w64n (by omega) (by omega)
   rw [← hJ]
   by_cases h0:rd v (d:Int)=0
   · refine Fin.step (fun k=>?_) (ih (by omega))
     simp only [spec_l03Cut.l0]
     rw [if_pos (by omega),hw,if_pos (by omega),if_pos (by omega),if_pos h0]
   · refine Fin.step (fun k=>?_) (hcp (d+1) (by omega))
     simp only [spec_l03Cut.l0]
     rw [if_pos (by omega),hw,if_pos (by omega),if_pos (by omega),if_neg h0,if_pos (by omega),if_pos (by omega),show (J:Int).toNat=d+1 by omega]
 exact key v.length (Nat.le_refl _)

theorem fElems (f:Int) (v:List Int) (hv:v.length≤1048576):Fin (fun k=>spec_l03Elements.f k f v) (fun _=>True):=by
 by_cases h:fldOk f
 · exact ⟨_,sElem_ev h v hv,trivial⟩
 · simp only [spec_l03Elements.f,sMod,Option.bind_some]
   exact Fin.yes (by unfold md;rw [if_neg h]) (Fin.now _ trivial)
theorem fPoly (f:Int) (v:List Int) (hv:v.length≤1048576):Fin (fun k=>spec_PolyOk.f k f v) (fun _=>True):=by
 simp only [spec_PolyOk.f]
 refine Fin.ite (fun _=>Fin.now _ trivial) fun c=>Fin.bind (fElems f v hv) fun b _=>Fin.ite (fun _=>Fin.ite (fun _=>Fin.now _ trivial) fun c2=>?_) fun _=>Fin.now _ trivial
 have hw:wrap64 ((v.length:Int) - 1)=((v.length - 1:Nat):Int):=w64n (by omega) (by omega)
 simp only [hw]
 exact Fin.yes (by omega) (Fin.yes (by omega) (Fin.now _ trivial))
theorem fPtsOk (f:Int) (v:List Int) (hv:v.length≤1048576):Fin (fun k=>spec_PointsOk.f k f v) (fun _=>True):=by
 have key:∀ (d j:Nat),v.length - j=d → j≤v.length → Fin (fun k=>spec_PointsOk.l0 k v (j:Int)) (fun _=>True):=by
  intro d
  induction d with
  | zero =>
   intro j hd hj
   refine Fin.step (fun k=>by rw [spec_PointsOk.l0]) ?_
   exact Fin.no (by omega) (Fin.now _ trivial)
  | succ d ih =>
   intro j hd hj
   refine Fin.step (fun k=>by rw [spec_PointsOk.l0]) ?_
   simp only [wsucc (show j < 9223372036854775807 by omega)]
   exact Fin.yes (by omega) (Fin.yes (by omega) (Fin.yes (by omega) (Fin.bind (Q:=fun _=>True) ⟨_,sHas_ev _ _ (by simp;omega),trivial⟩ fun b _=>Fin.ite (fun _=>Fin.now _ trivial) fun _=>ih (j+1) (by omega) (by omega))))
 have hj:∀ b,Fin (fun k=>spec_PointsOk.j0 k v b) (fun _=>True):=fun b=>by
  refine Fin.step (fun k=>by rw [spec_PointsOk.j0]) ?_
  exact Fin.ite (fun _=>Fin.now _ trivial) fun _=>key v.length 0 (by omega) (by omega)
 simp only [spec_PointsOk.f,in_eq,Option.bind_some]
 exact Fin.ite (fun _=>Fin.bind (fElems f v hv) fun b _=>hj _) fun _=>hj _
theorem fCode (f:Int) (v:List Int) (hv:v.length≤1048576) (n:Int):Fin (fun k=>spec_l07Code.f k f v n) (fun _=>True):=by
 simp only [spec_l07Code.f,in_eq,Option.bind_some]
 exact Fin.ite (fun _=>Fin.bind (fPtsOk f v hv) fun b _=>Fin.ite (fun _=>Fin.now _ trivial) fun _=>Fin.now _ trivial) fun _=>Fin.now _ trivial

theorem fPow (f a e:Int):Fin (fun k=>spec_Power.f k f a e) (fun _=>True):=by
 by_cases h:fldOk f
 · by_cases hx:a % md f=0
   · have hm:=md_pos h
     simp only [spec_Power.f,sMod,sReduce,Option.bind_some,if_pos h]
     exact Fin.no (by omega) (Fin.yes hx (Fin.ite (fun _=>Fin.now _ trivial) fun _=>Fin.ite (fun _=>Fin.now _ trivial) fun _=>Fin.now _ trivial))
   · exact ⟨_,sPow_ev h a e hx,trivial⟩
 · simp only [spec_Power.f,sMod,Option.bind_some]
   exact Fin.yes (by unfold md;rw [if_neg h]) (Fin.now _ trivial)
theorem fEval (f:Int) (v:List Int) (hv:v.length≤1048576) (x:Int):Fin (fun k=>spec_EvalPoly.f k f v x) (fun _=>True):=by
 have key:∀ (d j:Nat) (acc:Int),v.length - j=d → j≤v.length → Fin (fun k=>spec_EvalPoly.l0 k f v x acc (j:Int)) (fun _=>True):=by
  intro d
  induction d with
  | zero =>
   intro j acc hd hj
   refine Fin.step (fun k=>by rw [spec_EvalPoly.l0]) ?_
   exact Fin.no (by omega) (Fin.now _ trivial)
  | succ d ih =>
   intro j acc hd hj
   refine Fin.step (fun k=>by rw [spec_EvalPoly.l0]) ?_
   simp only [wsucc (show j < 9223372036854775807 by omega),sMul,sAdd,Option.bind_some]
   exact Fin.yes (by omega) (Fin.yes (by omega) (Fin.bind (fPow f x _) fun t _=>ih (j+1) _ (by omega) (by omega)))
 simp only [spec_EvalPoly.f]
 exact Fin.bind (fPoly f v hv) fun b _=>Fin.ite (fun _=>key v.length 0 0 (by omega) (by omega)) fun _=>Fin.now _ trivial
theorem fEncW (f:Int) (P D:List Int) (hP:P.length≤1048576) (hD:D.length≤1048576):Fin (fun k=>spec_EncodeWord.f k f P D) (fun r=>r.length≤P.length):=by
 have key:∀ (d j:Nat) (acc:List Int),P.length - j=d → j≤P.length → acc.length=j → Fin (fun k=>spec_EncodeWord.l0 k f P D acc (j:Int)) (fun r=>r.length≤P.length):=by
  intro d
  induction d with
  | zero =>
   intro j acc hd hj ha
   refine Fin.step (fun k=>by rw [spec_EncodeWord.l0]) ?_
   exact Fin.no (by omega) (Fin.now _ (by omega))
  | succ d ih =>
   intro j acc hd hj ha
   refine Fin.step (fun k=>by rw [spec_EncodeWord.l0]) ?_
   simp only [wsucc (show j < 9223372036854775807 by omega)]
   exact Fin.yes (by omega) (Fin.bind (fCut D hD) fun t ht=>Fin.yes (by omega) (Fin.bind (fEval f t (by omega) _) fun y _=>Fin.yes (by omega) (ih (j+1) _ (by omega) (by omega) (by simp;omega))))
 have hj:∀ b,Fin (fun k=>spec_EncodeWord.j0 k f P D [] b) (fun r=>r.length≤P.length):=fun b=>by
  refine Fin.step (fun k=>by rw [spec_EncodeWord.j0]) ?_
  exact Fin.ite (fun _=>Fin.now _ (by simp)) fun _=>key P.length 0 [] (by omega) (by omega) rfl
 simp only [spec_EncodeWord.f,Option.bind_some]
 exact Fin.bind (fCode f P hP _) fun b _=>Fin.ite (fun _=>Fin.bind (fElems f D hD) fun b _=>hj _) fun _=>hj _

def putAll:List Int → List Int
 | []=>[]
 | x :: r=>put (zz x) ++ putAll r
def listE (l:List Int):List Int:=put (zz (l.length:Int)) ++ putAll l
def jobE (kind f:Int) (A B:List Int) (n:Int):List Int:=(([kind % 256,f % 256] ++ put (zz n)) ++ listE A) ++ listE B
theorem put6 {x:Int} (h:isWord x):(put (zz x)).length≤6:=put_len _ 5 (by have:=zz_lt h;omega)
theorem putAll_len:∀ l:List Int,(∀ x ∈ l,isWord x) → (putAll l).length≤6 * l.length:=by
 intro l
 induction l with
 | nil=>intro _;simp [putAll]
 | cons x r ih =>
  intro h
  have h1:=put6 (h x (List.mem_cons_self ..))
  have h2:=ih (fun y hy=>h y (List.mem_cons_of_mem _ hy))
  rw [putAll,List.length_append,List.length_cons];omega
theorem word_small {n:Nat} (h:n≤1000):isWord (n:Int):=by unfold isWord;omega
theorem listE_len {l:List Int} (h:∀ x ∈ l,isWord x) (hl:l.length≤400):(listE l).length≤2406:=by
 have h1:=put6 (word_small (n:=l.length) (by omega))
 have h2:=putAll_len l h
 rw [listE,List.length_append];omega
theorem putAll_at {l:List Int} {i:Nat} (h:i < l.length):putAll (l.drop i)=put (zz l[i]) ++ putAll (l.drop (i+1)):=by
 rw [List.drop_eq_getElem_cons h,putAll]
def jobEncV (kind f:Int) (A B:List Int) (n:Int):List Int:=if jobB kind f A B n=true then jobE kind f A B n else []
theorem job_words {kind f n:Int} {A B:List Int} (h:jobB kind f A B n=true):(A.length≤400∧∀ x ∈ A,isWord x)∧(B.length≤400∧∀ x ∈ B,isWord x)∧0≤n∧n≤400:=by
 unfold jobB at h
 rw [Bool.and_eq_true,Bool.and_eq_true,Bool.and_eq_true,wordsB_iff,wordsB_iff,decide_eq_true_eq,decide_eq_true_eq] at h
 exact ⟨h.2.1,h.2.2.1,h.2.2.2.1,h.2.2.2.2.1⟩
theorem jobEncV_len (kind f:Int) (A B:List Int) (n:Int):(jobEncV kind f A B n).length≤5000:=by
 unfold jobEncV
 split
 · rename_i h
   obtain ⟨⟨a1,a2⟩,⟨b1,b2⟩,n0,n1⟩:=job_words h
   have h1:=listE_len a2 a1
   have h2:=listE_len b2 b1
   have h3:=put6 (x:=n) (by unfold isWord;omega)
   rw [jobE,List.length_append,List.length_append,List.length_append]
   simp only [List.length_cons,List.length_nil];omega
 · simp

theorem sPutW_ev {x:Int} (h:isWord x):Ev (fun k=>spec_PutNumber.f k x) (put (zz x)):=by
 have:=sPut_ev x (i64_wf (by unfold isWord at h;omega) (by unfold isWord at h;omega))
 unfold putOf at this
 rwa [if_pos h] at this
theorem sPutList_l1 (l:List Int) (j:Nat) (t:List Int) (acc r:List Int) (ha:acc.length+t.length≤1000000) (hr:Ev (fun k=>spec_l10PutList.l0 k (acc ++ t) l ((j+1:Nat):Int)) r) (hj:j≤1000000):∀ (d i:Nat),t.length - i=d → i≤t.length →
 Ev (fun k=>spec_l10PutList.l1 k (acc ++ t.take i) l (j:Int) t (t.length:Int) (i:Int)) r:=by
 intro d
 induction d with
 | zero =>
  intro i h hi
  refine Ev.step (fun k=>?_) hr
  simp only [spec_l10PutList.l1]
  rw [if_neg (by omega),List.take_of_length_le (by omega),wsucc (by omega)]
 | succ d ih =>
  intro i h hi
  have key:=ih (i+1) (by omega) (by omega)
  refine Ev.step (fun k=>?_) key
  simp only [spec_l10PutList.l1]
  rw [if_pos (by omega),if_pos (by omega),if_pos (by omega),if_pos (by rw [List.length_append,List.length_take];omega),wsucc (by omega),rd_eq (by omega),List.append_assoc,List.take_append_getElem (by omega)]
theorem sPutList_l0 (l:List Int) (hl:l.length≤400) (hw:∀ x ∈ l,isWord x):∀ (d i:Nat) (acc:List Int),l.length - i=d → i≤l.length → acc.length≤10000+6 * i →
 Ev (fun k=>spec_l10PutList.l0 k acc l (i:Int)) (acc ++ putAll (l.drop i)):=by
 intro d
 induction d with
 | zero =>
  intro i acc h hi ha
  refine ev_now fun k=>?_
  simp only [spec_l10PutList.l0]
  rw [if_neg (by omega),List.drop_of_length_le (by omega),putAll,List.append_nil]
 | succ d ih =>
  intro i acc h hi ha
  have hil:i < l.length:=by omega
  have hwi:=hw l[i] (List.getElem_mem hil)
  have h6:=put6 hwi
  have key:=ih (i+1) (acc ++ put (zz l[i])) (by omega) (by omega) (by rw [List.length_append];omega)
  rw [List.append_assoc,← putAll_at hil] at key
  have k1:=sPutList_l1 l i (put (zz l[i])) acc _ (by omega) key (by omega) (put (zz l[i])).length 0 (by omega) (by omega)
  rw [List.take_zero,List.append_nil] at k1
  obtain ⟨n,e1,e2⟩:=evs2 (sPutW_ev hwi) k1
  refine ⟨n+1,fun k hk=>?_⟩
  obtain ⟨j,rfl⟩:∃ j,k=n+j+1:=⟨k - n - 1,by omega⟩
  simp only [spec_l10PutList.l0,rd_eq hil,e1 j,Option.bind_some]
  rw [if_pos (by omega),if_pos (by omega)]
  exact e2 j
theorem sPutList_ev (acc l:List Int) (hl:l.length≤400) (hw:∀ x ∈ l,isWord x) (ha:acc.length≤5000):Ev (fun k=>spec_l10PutList.f k acc l) (acc ++ listE l):=by
 have hwl:=word_small (n:=l.length) (by omega)
 have h6:=put6 hwl
 have key:=sPutList_l0 l hl hw l.length 0 (acc ++ put (zz (l.length:Int))) (by omega) (by omega) (by rw [List.length_append];omega)
 rw [List.drop_zero,List.append_assoc] at key
 obtain ⟨n,e1,e2,e3⟩:=evs3 (sPutW_ev hwl) (sJoinB_ev acc (put (zz (l.length:Int))) (by omega)) key
 refine ⟨n,fun k hk=>?_⟩
 obtain ⟨j,rfl⟩:∃ j,k=n+j:=⟨k - n,by omega⟩
 simp only [spec_l10PutList.f,e1 j,e2 j,Option.bind_some]
 exact e3 j

theorem sEncJob_ev (kind f:Int) (A B:List Int) (n:Int) (hA:A.length≤1048576) (hB:B.length≤1048576):Ev (fun k=>spec_EncodeJob.f k kind f A B n) (jobEncV kind f A B n):=by
 unfold jobEncV
 by_cases h:jobB kind f A B n=true
 · obtain ⟨⟨a1,a2⟩,⟨b1,b2⟩,n0,n1⟩:=job_words h
   have hwn:isWord n:=by unfold isWord;omega
   have h3:=put6 hwn
   have h4:=listE_len a2 a1
   obtain ⟨m,e1,e2,e3,e4,e5⟩:=evs5 (sJob_ev kind f A B n hA hB) (sPutW_ev hwn) (sJoinB_ev [kind % 256,f % 256] (put (zz n)) (by simp only [List.length_cons,List.length_nil];omega)) (sPutList_ev ([kind % 256,f % 256] ++ put (zz n)) A a1 a2 (by rw [List.length_append];simp only [List.length_cons,List.length_nil];omega)) (sPutList_ev (([kind % 256,f % 256] ++ put (zz n)) ++ listE A) B b1 b2 (by rw [List.length_append,List.length_append];simp only [List.length_cons,List.length_nil];omega))
   refine ⟨m,fun k hk=>?_⟩
   obtain ⟨j,rfl⟩:∃ j,k=m+j:=⟨k - m,by omega⟩
   rw [if_pos h]
   simp only [spec_EncodeJob.f,e1 j,h,e2 j,e3 j,e4 j,e5 j,Option.bind_some,if_true]
   rfl
 · rw [if_neg h]
   rw [Bool.not_eq_true] at h
   obtain ⟨m,e1⟩:=evs1 (sJob_ev kind f A B n hA hB)
   refine ⟨m,fun k hk=>?_⟩
   obtain ⟨j,rfl⟩:∃ j,k=m+j:=⟨k - m,by omega⟩
   simp only [spec_EncodeJob.f,e1,h,Option.bind_some,Bool.false_eq_true,if_false]

theorem iEncJ_l1 (Y:List (List Int)) (m:Int) (j:Nat) (l:List Int) (hl:l.length≤400) (hw:∀ x ∈ l,isWord x) (hj:j≤1000) (r:List Int):∀ (d i:Nat) (acc:List Int),l.length - i=d → i≤l.length → acc.length≤10000+6 * i →
 Ev (fun k=>impl_encodeJob.l0 k (acc ++ putAll (l.drop i)) Y m ((j+1:Nat):Int)) r →
 Ev (fun k=>impl_encodeJob.l1 k acc Y m (j:Int) l (l.length:Int) (i:Int)) r:=by
 intro d
 induction d with
 | zero =>
  intro i acc h hi ha hr
  rw [List.drop_of_length_le (by omega),putAll,List.append_nil] at hr
  refine Ev.step (fun k=>?_) hr
  simp only [impl_encodeJob.l1]
  rw [if_neg (by omega),wsucc (by omega)]
 | succ d ih =>
  intro i acc h hi ha hr
  have hil:i < l.length:=by omega
  have hwi:=hw l[i] (List.getElem_mem hil)
  have h6:=put6 hwi
  rw [putAll_at hil,← List.append_assoc] at hr
  have key:=ih (i+1) (acc ++ put (zz l[i])) (by omega) (by omega) (by rw [List.length_append];omega) hr
  obtain ⟨n,e1,e2⟩:=evs2 (iPut_ev l[i] hwi) key
  refine ⟨n+1,fun k hk=>?_⟩
  obtain ⟨q,rfl⟩:∃ q,k=n+q+1:=⟨k - n - 1,by omega⟩
  simp only [impl_encodeJob.l1,rd_eq hil,e1 q,Option.bind_some]
  rw [if_pos (by omega),if_pos (by omega),if_pos (by omega),if_pos (by omega),wsucc (by omega)]
  exact e2 q
theorem iEncJ_l0 (Y:List (List Int)) (j:Nat) (hj:j < Y.length) (hY:Y.length≤10) (l:List Int) (hlY:rd_L4 Y (j:Int)=l) (hl:l.length≤400) (hw:∀ x ∈ l,isWord x) (acc r:List Int) (ha:acc.length≤9000) (hr:Ev (fun k=>impl_encodeJob.l0 k (acc ++ listE l) Y (Y.length:Int) ((j+1:Nat):Int)) r) :
 Ev (fun k=>impl_encodeJob.l0 k acc Y (Y.length:Int) (j:Int)) r:=by
 have hwl:=word_small (n:=l.length) (by omega)
 have h6:=put6 hwl
 have k1:=iEncJ_l1 Y (Y.length:Int) j l hl hw (by omega) r l.length 0 (acc ++ put (zz (l.length:Int))) (by omega) (by omega) (by rw [List.length_append];omega) (by rw [List.drop_zero,List.append_assoc];exact hr)
 obtain ⟨n,e1,e2⟩:=evs2 (iPut_ev (l.length:Int) hwl) k1
 refine ⟨n+1,fun k hk=>?_⟩
 obtain ⟨q,rfl⟩:∃ q,k=n+q+1:=⟨k - n - 1,by omega⟩
 simp only [impl_encodeJob.l0,hlY,e1 q,Option.bind_some]
 rw [if_pos (by omega),if_pos (by omega),if_pos (by omega),if_pos (by omega)]
 exact e2 q

theorem cmpR_cases (l:List Int) (n:Nat):∀ s t,cmpR l n t s=frMore∨cmpR l n t s=frBad∨(cmpR l n t s=frDone l n∧s.length≤t.length):=by
 intro s
 induction s with
 | nil=>intro t;right;right;exact ⟨by unfold cmpR;rfl,by simp⟩
 | cons b s ih =>
  intro t
  cases t with
  | nil=>left;rfl
  | cons a t =>
   unfold cmpR
   split
   · rcases ih t with h | h | ⟨h,h2⟩
     · exact Or.inl h
     · exact Or.inr (Or.inl h)
     · exact Or.inr (Or.inr ⟨h,by simp only [List.length_cons];omega⟩)
   · exact Or.inr (Or.inl rfl)
theorem be4_len (x:Int):(be4 x).length=4:=by simp [be4]
theorem decF_cases {l:List Int} (hb:isB l):decF l=frMore∨(decF l=frBad∧1≤l.length)∨(∃ n:Nat,decF l=frDone l n∧13+n≤l.length):=by
 have hr:=frN_range hb
 unfold decF
 by_cases h:headB l=true
 · rw [if_pos h]
   by_cases h9:l.length < 9
   · rw [if_pos h9];exact Or.inl rfl
   · rw [if_neg h9]
     by_cases h2:(l.length:Int) < 9+frN l
     · rw [if_pos h2];exact Or.inl rfl
     · rw [if_neg h2]
       rcases cmpR_cases l (frN l).toNat (frSum l) (l.drop (9+(frN l).toNat)) with c | c | ⟨c,c2⟩
       · exact Or.inl c
       · exact Or.inr (Or.inl ⟨c,by omega⟩)
       · refine Or.inr (Or.inr ⟨_,c,?_⟩)
         unfold frSum at c2
         rw [be4_len,List.length_drop] at c2
         omega
 · rw [if_neg h]
   refine Or.inr (Or.inl ⟨rfl,?_⟩)
   by_cases h0:l.length=0
   · exfalso
     apply h
     unfold headB
     rw [show min 9 l.length=0 by omega]
     rfl
   · omega

def fdG:Nat → List Int → List S52 → Int → List Int × Int × List S52
 | 0,l,out,lost=>(l,lost,out)
 | d+1,l,out,lost=>if (decF l).2.2.2.2=0 then fdG d (l.drop (decF l).2.2.2.1.toNat) (out ++ [⟨(decF l).1,(decF l).2.1,(decF l).2.2.1⟩]) lost else if (decF l).2.2.2.2=2 then fdG d (l.drop 1) out (if lost < 2147483647 then lost+1 else lost) else (l,lost,out)
theorem fdG_more {l:List Int} (d:Nat) (out:List S52) (lost:Int) (h:decF l=frMore):fdG (d+1) l out lost=(l,lost,out):=by
 rw [fdG,h,if_neg (by decide),if_neg (by decide)]
theorem fdG_bad {l:List Int} (d:Nat) (out:List S52) (lost:Int) (h:decF l=frBad):fdG (d+1) l out lost=fdG d (l.drop 1) out (if lost < 2147483647 then lost+1 else lost):=by
 rw [fdG,h,if_neg (by decide),if_pos (by decide)]
theorem fdG_done {l:List Int} (d:Nat) (out:List S52) (lost:Int) (n:Nat) (h:decF l=frDone l n):fdG (d+1) l out lost=fdG d (l.drop (13+n)) (out ++ [⟨(frDone l n).1,(frDone l n).2.1,(frDone l n).2.2.1⟩]) lost:=by
 rw [fdG,h,if_pos (show (frDone l n).2.2.2.2=0 from rfl)]
 rfl
theorem iFeed_l (b0:List Int):∀ (d:Nat) (l:List Int) (out:List S52) (lost:Int),l.length < d → isB l → l.length+out.length≤2097152 → 0≤lost → lost≤2147483647 → Ev (fun k=>impl_feed.l0 k l out b0 lost) (fdG d l out lost):=by
 intro d
 induction d with
 | zero=>intro l out lost h;omega
 | succ d ih =>
  intro l out lost h hb hl h0 h1
  have hd:=iDec_ev l (by omega) hb
  rcases decF_cases hb with c | ⟨c,c1⟩ | ⟨n,c,c1⟩
  · rw [c] at hd
    rw [fdG_more _ _ _ c]
    obtain ⟨m,e⟩:=evs1 hd
    refine ⟨m+1,fun k hk=>?_⟩
    obtain ⟨j,rfl⟩:∃ j,k=m+j+1:=⟨k - m - 1,by omega⟩
    simp only [impl_feed.l0,e j,frMore,Option.bind_some,List.nil_append,List.length_nil]
    rw [if_neg (by decide),if_neg (by decide),if_pos (by omega)]
  · rw [c] at hd
    rw [fdG_bad _ _ _ c]
    have key:=ih (l.drop 1) out (if lost < 2147483647 then lost+1 else lost) (by rw [List.length_drop];omega) (isB_drop hb _) (by rw [List.length_drop];omega) (by split <;> omega) (by split <;> omega)
    have em:mn (wrap64 (lost+1)) 2147483647=if lost < 2147483647 then lost+1 else lost:=by
     rw [w64 (by omega) (by omega),mn_eq]
     by_cases q:lost < 2147483647
     · rw [if_pos q];split <;> omega
     · rw [if_neg q];split <;> omega
    obtain ⟨m,e,e2⟩:=evs2 hd key
    refine ⟨m+1,fun k hk=>?_⟩
    obtain ⟨j,rfl⟩:∃ j,k=m+j+1:=⟨k - m - 1,by omega⟩
    simp only [impl_feed.l0,e j,frBad,Option.bind_some,em]
    rw [if_neg (by decide),if_pos trivial,if_pos (by omega)]
    exact e2 j
  · rw [c] at hd
    rw [fdG_done _ _ _ n c]
    have key:=ih (l.drop (13+n)) (out ++ [⟨(frDone l n).1,(frDone l n).2.1,(frDone l n).2.2.1⟩]) lost (by rw [List.length_drop];omega) (isB_drop hb _) (by rw [List.length_drop,List.length_append];simp;omega) h0 h1
    obtain ⟨m,e,e2⟩:=evs2 hd key
    refine ⟨m+1,fun k hk=>?_⟩
    obtain ⟨j,rfl⟩:∃ j,k=m+j+1:=⟨k - m - 1,by omega⟩
    have en:(frDone l n).2.2.2.1=((13+n:Nat):Int):=rfl
    have ec:(frDone l n).2.2.2.2=0:=rfl
    simp only [impl_feed.l0,e j,Option.bind_some,en,ec,if_true,Int.toNat_natCast]
    rw [if_pos (by omega),if_pos (by omega),if_pos (by omega)]
    exact e2 j

def totF:List S52 → Nat
 | []=>0
 | r :: rs=>2+r.f2.length+totF rs
theorem rd_app {l m:List Int} {j:Nat} (h:j < l.length):rd (l ++ m) (j:Int)=rd l (j:Int):=by
 rw [rd_eq (by rw [List.length_append];omega),rd_eq h,List.getElem_append_left h]
theorem frN_app {l m:List Int} (h:9≤l.length):frN (l ++ m)=frN l:=by
 unfold frN
 rw [List.take_append_of_le_length (by omega)]
theorem head_app {l m:List Int} (h:headB (l ++ m)=true):headB l=true:=by
 rw [head_iff] at h ⊢
 obtain ⟨h0,h1,h2,h3,h7,h8⟩:=h
 have hl:(l ++ m).length=l.length+m.length:=List.length_append
 refine ⟨fun q=>?_,fun q=>?_,fun q=>?_,fun q=>?_,fun q=>?_,fun q=>?_⟩
 · have:=h0 (by omega);rwa [show (0:Int)=((0:Nat):Int) from rfl,rd_app q] at this
 · have:=h1 (by omega);rwa [show (1:Int)=((1:Nat):Int) from rfl,rd_app q] at this
 · have:=h2 (by omega);rwa [show (2:Int)=((2:Nat):Int) from rfl,rd_app q] at this
 · have:=h3 (by omega);rwa [show (3:Int)=((3:Nat):Int) from rfl,rd_app q] at this
 · have:=h7 (by omega);rwa [show (7:Int)=((7:Nat):Int) from rfl,rd_app q] at this
 · have:=h8 (by omega);rwa [frN_app (by omega)] at this
theorem head_app9 {l m:List Int} (h9:9≤l.length) (h:headB l=true):headB (l ++ m)=true:=by
 rw [head_iff] at h ⊢
 obtain ⟨h0,h1,h2,h3,h7,h8⟩:=h
 refine ⟨fun _=>?_,fun _=>?_,fun _=>?_,fun _=>?_,fun _=>?_,fun _=>?_⟩
 · rw [show (0:Int)=((0:Nat):Int) from rfl,rd_app (by omega)];exact h0 (by omega)
 · rw [show (1:Int)=((1:Nat):Int) from rfl,rd_app (by omega)];exact h1 (by omega)
 · rw [show (2:Int)=((2:Nat):Int) from rfl,rd_app (by omega)];exact h2 (by omega)
 · rw [show (3:Int)=((3:Nat):Int) from rfl,rd_app (by omega)];exact h3 (by omega)
 · rw [show (7:Int)=((7:Nat):Int) from rfl,rd_app (by omega)];exact h7 (by omega)
 · rw [frN_app h9];exact h8 (by omega)
theorem cmpR_app (l l' m:List Int) (n:Nat):∀ s t,(cmpR l n t s=frBad → cmpR l' n (t ++ m) s=frBad)∧(cmpR l n t s=frDone l n → cmpR l' n (t ++ m) s=frDone l' n):=by
 intro s
 induction s with
 | nil =>
  intro t
  have h1:cmpR l n t []=frDone l n:=by cases t <;> rfl
  have h2:cmpR l' n (t ++ m) []=frDone l' n:=by cases t ++ m <;> rfl
  rw [h1]
  exact ⟨fun h=>absurd (congrArg (fun x:FrT=>x.2.2.2.2) h) (by show ¬ ((0:Int)=2);decide),fun _=>h2⟩
 | cons b s ih =>
  intro t
  cases t with
  | nil=>exact ⟨fun h=>absurd (congrArg (fun x:FrT=>x.2.2.2.2) h) (by show ¬ ((1:Int)=2);decide),fun h=>absurd (congrArg (fun x:FrT=>x.2.2.2.2) h) (by show ¬ ((1:Int)=0);decide)⟩
  | cons a t =>
   rw [List.cons_append,cmpR,cmpR]
   by_cases h:a=b
   · rw [if_pos h,if_pos h];exact ih t
   · rw [if_neg h,if_neg h]
     exact ⟨fun _=>rfl,fun h=>absurd (congrArg (fun x:FrT=>x.2.2.2.2) h) (by show ¬ ((2:Int)=0);decide)⟩
theorem frDone_app {l m:List Int} {n:Nat} (h:13+n≤l.length):frDone (l ++ m) n=frDone l n:=by
 unfold frDone
 rw [show (2:Int)=((2:Nat):Int) from rfl,rd_app (by omega),List.take_append_of_le_length (by omega),List.take_append_of_le_length (by omega)]
theorem frSum_app {l m:List Int} (hb:isB l) (h9:9≤l.length) (h:(9+frN l)≤(l.length:Int)):frSum (l ++ m)=frSum l:=by
 have:=frN_range hb
 unfold frSum
 rw [frN_app h9,List.take_append_of_le_length (by omega)]
theorem decF_app {l m:List Int} (hb:isB l):(decF l=frBad → decF (l ++ m)=frBad)∧(∀ n:Nat,decF l=frDone l n → 13+n≤l.length → decF (l ++ m)=frDone l n):=by
 have hr:=frN_range hb
 by_cases hh:headB l=true
 · by_cases h9:l.length < 9
   · have e:decF l=frMore:=by unfold decF;rw [if_pos hh,if_pos h9]
     rw [e]
     exact ⟨fun h=>absurd (congrArg (fun x:FrT=>x.2.2.2.2) h) (by decide),fun n h=>absurd (congrArg (fun x:FrT=>x.2.2.2.2) h) (by show ¬ ((1:Int)=0);decide)⟩
   · by_cases h2:(l.length:Int) < 9+frN l
     · have e:decF l=frMore:=by unfold decF;rw [if_pos hh,if_neg h9,if_pos h2]
       rw [e]
       exact ⟨fun h=>absurd (congrArg (fun x:FrT=>x.2.2.2.2) h) (by decide),fun n h=>absurd (congrArg (fun x:FrT=>x.2.2.2.2) h) (by show ¬ ((1:Int)=0);decide)⟩
     · have e:decF l=cmpR l (frN l).toNat (l.drop (9+(frN l).toNat)) (frSum l):=by unfold decF;rw [if_pos hh,if_neg h9,if_neg h2]
       have e':decF (l ++ m)=cmpR (l ++ m) (frN l).toNat (l.drop (9+(frN l).toNat) ++ m) (frSum l):=by
        unfold decF
        rw [if_pos (head_app9 (by omega) hh),if_neg (by rw [List.length_append];omega),frN_app (by omega),if_neg (by rw [List.length_append];omega),frSum_app hb (by omega) (by omega),List.drop_append_of_le_length (by omega)]
       obtain ⟨c1,c2⟩:=cmpR_app l (l ++ m) m (frN l).toNat (frSum l) (l.drop (9+(frN l).toNat))
       rw [e,e']
       refine ⟨c1,fun n hn hl=>?_⟩
       rcases cmpR_cases l (frN l).toNat (frSum l) (l.drop (9+(frN l).toNat)) with q | q | ⟨q,_⟩
       · rw [q] at hn;exact absurd (congrArg (fun x:FrT=>x.2.2.2.2) hn) (by show ¬ ((1:Int)=0);decide)
       · rw [q] at hn;exact absurd (congrArg (fun x:FrT=>x.2.2.2.2) hn) (by show ¬ ((2:Int)=0);decide)
       · have hnn:(frN l).toNat=n:=by
          rw [q] at hn
          have:=congrArg (fun x:FrT=>x.2.2.2.1) hn
          simp only [frDone] at this
          omega
         rw [c2 q,hnn,frDone_app hl]
 · have e:decF l=frBad:=by unfold decF;rw [if_neg hh]
   have e':decF (l ++ m)=frBad:=by unfold decF;rw [if_neg (fun q=>hh (head_app q))]
   rw [e,e']
   exact ⟨fun _=>rfl,fun n h=>absurd (congrArg (fun x:FrT=>x.2.2.2.2) h) (by show ¬ ((2:Int)=0);decide)⟩
theorem fdG_fuel:∀ (d D:Nat) (l:List Int) (out:List S52) (lost:Int),isB l → l.length < d → l.length < D → fdG d l out lost=fdG D l out lost:=by
 intro d
 induction d with
 | zero=>intro D l out lost hb h;omega
 | succ d ih =>
  intro D l out lost hb h1 h2
  obtain ⟨D,rfl⟩:∃ E,D=E+1:=⟨D - 1,by omega⟩
  rcases decF_cases hb with h | ⟨h,q⟩ | ⟨n,h,q⟩
  · rw [fdG_more d _ _ h,fdG_more D _ _ h]
  · rw [fdG_bad d _ _ h,fdG_bad D _ _ h]
    exact ih D _ _ _ (isB_drop hb 1) (by rw [List.length_drop];omega) (by rw [List.length_drop];omega)
  · rw [fdG_done d _ _ n h,fdG_done D _ _ n h]
    exact ih D _ _ _ (isB_drop hb _) (by rw [List.length_drop];omega) (by rw [List.length_drop];omega)
theorem fdG_app (m:List Int) (hm:isB m):∀ (d D E:Nat) (l:List Int) (out:List S52) (lost:Int),isB l → l.length < d → l.length+m.length < D → l.length+m.length < E → fdG D (l ++ m) out lost=fdG E ((fdG d l out lost).1 ++ m) (fdG d l out lost).2.2 (fdG d l out lost).2.1:=by
 intro d
 induction d with
 | zero=>intro D E l out lost hb h;omega
 | succ d ih =>
  intro D E l out lost hb h1 h2 h3
  obtain ⟨D,rfl⟩:∃ F,D=F+1:=⟨D - 1,by omega⟩
  obtain ⟨a1,a2⟩:=decF_app (m:=m) hb
  rcases decF_cases hb with h | ⟨h,q⟩ | ⟨n,h,q⟩
  · rw [fdG_more d _ _ h]
    exact fdG_fuel _ _ _ _ _ (isB_append hb hm) (by rw [List.length_append];omega) (by rw [List.length_append];omega)
  · rw [fdG_bad d _ _ h,fdG_bad D _ _ (a1 h),List.drop_append_of_le_length q]
    exact ih D E _ _ _ (isB_drop hb 1) (by rw [List.length_drop];omega) (by rw [List.length_drop];omega) (by rw [List.length_drop];omega)
  · have h':=a2 n h q
    have e:fdG (D+1) (l ++ m) out lost=fdG D (l.drop (13+n) ++ m) (out ++ [⟨(frDone l n).1,(frDone l n).2.1,(frDone l n).2.2.1⟩]) lost:=by
     rw [fdG,h',if_pos (show (frDone l n).2.2.2.2=0 from rfl),show (frDone l n).2.2.2.1.toNat=13+n from by show (((13+n:Nat):Int)).toNat=13+n;omega,List.drop_append_of_le_length q]
    rw [fdG_done d _ _ n h,e]
    exact ih D E _ _ _ (isB_drop hb _) (by rw [List.length_drop];omega) (by rw [List.length_drop];omega) (by rw [List.length_drop];omega)
theorem fdG_out:∀ (d:Nat) (l:List Int) (out:List S52) (lost:Int),isB l → fdG d l out lost=((fdG d l [] lost).1,(fdG d l [] lost).2.1,out ++ (fdG d l [] lost).2.2):=by
 intro d
 induction d with
 | zero=>intro l out lost hb;simp [fdG]
 | succ d ih =>
  intro l out lost hb
  rcases decF_cases hb with h | ⟨h,q⟩ | ⟨n,h,q⟩
  · rw [fdG_more d _ _ h,fdG_more d _ _ h];simp
  · rw [fdG_bad d _ _ h,fdG_bad d _ _ h]
    exact ih _ _ _ (isB_drop hb 1)
  · rw [fdG_done d _ _ n h,fdG_done d _ _ n h,ih _ _ _ (isB_drop hb _),ih _ ([] ++ [_]) _ (isB_drop hb _)]
    simp [List.append_assoc]

def totC (cs:List (List Int)):Nat:=(cs.map List.length).sum
def faV (cs:List (List Int)):List Int × Int × List S52:=if cs.length≤4096∧totC cs≤20000 then fdG (cs.flatten.length+1) cs.flatten [] 0 else ([],0,[])
theorem totC_flatten (cs:List (List Int)):cs.flatten.length=totC cs:=by simp [totC,List.length_flatten]
theorem totC_take (cs:List (List Int)) (i:Nat) (h:i < cs.length):totC (cs.take (i+1))=totC (cs.take i)+cs[i].length:=by
 unfold totC
 rw [List.take_succ_eq_append_getElem h,List.map_append,List.sum_append]
 simp only [List.map_cons,List.map_nil,List.sum_cons,List.sum_nil,Nat.add_zero]
theorem totC_le (cs:List (List Int)) (i:Nat):totC (cs.take i)≤totC cs:=by
 unfold totC
 conv=>rhs;rw [← List.take_append_drop i cs]
 rw [List.map_append,List.sum_append]
 omega
theorem isB_flat {cs:List (List Int)} (h:∀ c ∈ cs,isB c):isB cs.flatten:=fun x hx=>by
 obtain ⟨c,hc,hxc⟩:=List.mem_flatten.1 hx
 exact h c hc x hxc
theorem rdLL {cs:List (List Int)} {i:Nat} (h:i < cs.length):rd_L2 cs (i:Int)=cs[i]:=by
 simp [rd_L2,List.getD_eq_getElem?_getD,List.getElem?_eq_getElem h]

theorem faF_snoc (L:List S52) (r:S52):totF (L ++ [r])=totF L+(2+r.f2.length):=by
 induction L with
 | nil=>simp [totF]
 | cons a L ih=>simp only [List.cons_append,totF,ih];omega
theorem faF_len (L:List S52):2 * L.length≤totF L:=by
 induction L with
 | nil=>simp [totF]
 | cons a L ih=>simp only [totF,List.length_cons];omega
theorem faG_vals:∀ (d:Nat) (l:List Int) (out:List S52) (lost:Int),isB l → totF (fdG d l out lost).2.2+(fdG d l out lost).1.length≤totF out+l.length:=by
 intro d
 induction d with
 | zero=>intro l out lost hb;exact Nat.le_refl _
 | succ d ih =>
  intro l out lost hb
  rcases decF_cases hb with h | ⟨h,h1⟩ | ⟨n,h,h1⟩
  · rw [fdG_more d out lost h]
    exact Nat.le_refl _
  · rw [fdG_bad d out lost h]
    have h2:=ih (l.drop 1) out (if lost < 2147483647 then lost+1 else lost) (isB_drop hb 1)
    rw [List.length_drop] at h2
    omega
  · rw [fdG_done d out lost n h]
    have h2:=ih (l.drop (13+n)) (out ++ [⟨(frDone l n).1,(frDone l n).2.1,(frDone l n).2.2.1⟩]) lost (isB_drop hb _)
    have hf:(frDone l n).2.2.1.length≤n:=by unfold frDone;simp;omega
    rw [List.length_drop,faF_snoc] at h2
    simp only at h2
    omega
theorem faG_lost:∀ (d:Nat) (l:List Int) (out:List S52) (lost:Int),isB l → 0≤lost → lost≤2147483647 → 0≤(fdG d l out lost).2.1∧(fdG d l out lost).2.1≤2147483647:=by
 intro d
 induction d with
 | zero=>intro l out lost hb h0 h1;exact ⟨h0,h1⟩
 | succ d ih =>
  intro l out lost hb h0 h1
  rcases decF_cases hb with h | ⟨h,q⟩ | ⟨n,h,q⟩
  · rw [fdG_more d _ _ h];exact ⟨h0,h1⟩
  · rw [fdG_bad d _ _ h]
    refine ih _ _ _ (isB_drop hb 1) ?_ ?_ <;> split <;> omega
  · rw [fdG_done d _ _ n h]
    exact ih _ _ _ (isB_drop hb _) h0 h1
theorem faG_isB:∀ (d:Nat) (l:List Int) (out:List S52) (lost:Int),isB l → isB (fdG d l out lost).1:=by
 intro d
 induction d with
 | zero=>intro l out lost hb;exact hb
 | succ d ih =>
  intro l out lost hb
  rcases decF_cases hb with h | ⟨h,q⟩ | ⟨n,h,q⟩
  · rw [fdG_more d _ _ h];exact hb
  · rw [fdG_bad d _ _ h];exact ih _ _ _ (isB_drop hb 1)
  · rw [fdG_done d _ _ n h];exact ih _ _ _ (isB_drop hb _)

theorem feed1_ev (buf:List Int) (lost:Int) (chunk:List Int) (hb:isB buf) (hc:isB chunk) (hl:buf.length+chunk.length≤1048576) (h0:0≤lost) (h1:lost≤2147483647):Ev (fun k=>impl_feed.f k buf lost chunk) (fdG ((buf ++ chunk).length+1) (buf ++ chunk) [] lost):=by
 refine Ev.congr (fun k=>?_) (iFeed_l buf ((buf ++ chunk).length+1) (buf ++ chunk) [] lost (by omega) (isB_append hb hc) (by rw [List.length_append];simp;omega) h0 h1)
 simp only [impl_feed.f,Option.bind_some,List.length_nil,Nat.zero_add,List.nil_append]
 rw [if_pos (by omega),if_pos (by omega)]
theorem iFA_l1 (cs:List (List Int)) (hB:∀ c ∈ cs,isB c) (ht:totC cs≤20000) (hl:cs.length≤4096):∀ (d i:Nat),cs.length - i=d → i≤cs.length →
 Ev (fun k=>impl_FeedAll.l1 k (fdG ((cs.take i).flatten.length+1) (cs.take i).flatten [] 0).2.2 cs (cs.length:Int) (i:Int) (fdG ((cs.take i).flatten.length+1) (cs.take i).flatten [] 0).1 (fdG ((cs.take i).flatten.length+1) (cs.take i).flatten [] 0).2.1) (fdG (cs.flatten.length+1) cs.flatten [] 0):=by
 intro d
 induction d with
 | zero =>
  intro i hd hi
  obtain rfl:i=cs.length:=by omega
  rw [List.take_length]
  refine ev_now fun k=>?_
  simp only [impl_FeedAll.l1]
  rw [if_neg (by omega)]
 | succ d ih =>
  intro i hd hi
  have hi2:i < cs.length:=by omega
  have hBi:isB (cs.take i).flatten:=isB_flat fun c hc=>hB c (List.mem_of_mem_take hc)
  have hci:isB cs[i]:=hB _ (List.getElem_mem _)
  have hfl:(cs.take i).flatten.length=totC (cs.take i):=totC_flatten _
  have ht1:=totC_take cs i hi2
  have ht2:=totC_le cs (i+1)
  have hnext:(cs.take (i+1)).flatten=(cs.take i).flatten ++ cs[i]:=by
   rw [List.take_succ_eq_append_getElem hi2,List.flatten_append]
   simp
  have key:=ih (i+1) (by omega) (by omega)
  have hv:=faG_vals ((cs.take i).flatten.length+1) (cs.take i).flatten [] 0 hBi
  have hlost:=faG_lost ((cs.take i).flatten.length+1) (cs.take i).flatten [] 0 hBi (by omega) (by omega)
  have hrest:=faG_isB ((cs.take i).flatten.length+1) (cs.take i).flatten [] 0 hBi
  have happ:=fdG_app cs[i] hci ((cs.take i).flatten.length+1) ((cs.take (i+1)).flatten.length+1) (((fdG ((cs.take i).flatten.length+1) (cs.take i).flatten [] 0).1 ++ cs[i]).length+(cs.take i).flatten.length+1) (cs.take i).flatten [] 0 hBi (by omega) (by rw [hnext,List.length_append];omega) (by rw [List.length_append];omega)
  rw [← hnext] at happ
  generalize fdG ((cs.take i).flatten.length+1) (cs.take i).flatten [] 0=R at hv hlost hrest happ ⊢
  obtain ⟨B,L,F⟩:=R
  simp only [totF] at hv hlost hrest happ ⊢
  have hf:=feed1_ev B L cs[i] hrest hci (by omega) hlost.1 hlost.2
  have hv2:=faG_vals ((B ++ cs[i]).length+1) (B ++ cs[i]) [] L (isB_append hrest hci)
  rw [fdG_fuel _ ((B ++ cs[i]).length+1) _ _ _ (isB_append hrest hci) (by omega) (by omega),fdG_out _ _ _ _ (isB_append hrest hci)] at happ
  rw [happ] at key
  generalize fdG ((B ++ cs[i]).length+1) (B ++ cs[i]) [] L=R2 at hf hv2 key
  obtain ⟨B2,L2,F2⟩:=R2
  simp only [totF,List.length_append] at hv2 key
  have n1:=faF_len F
  have n2:=faF_len F2
  obtain ⟨J,hJ⟩:∃ J:Int,J=(i:Int):=⟨_,rfl⟩
  have hw:wrap64 (J+1)=((i+1:Nat):Int):=by rw [hJ];exact wsucc (by omega)
  have hrd:rd_L2 cs J=cs[i]:=by rw [hJ];exact rdLL hi2
  have hj0:0≤J:=by omega
  have hj1:J < (cs.length:Int):=by omega
  rw [← hJ]
  have hw:=Aside0.mk hw
  refine Ev.step (f:=fun k=>(impl_feed.f k B L cs[i]).bind fun bt265=>if F.length+bt265.2.2.length < 3518437208883 then impl_FeedAll.l1 k (F ++ bt265.2.2) cs (cs.length:Int) ((i+1:Nat):Int) bt265.1 bt265.2.1 else none) (fun k=>?_) (Ev.bind hf ?_)
  · simp only [impl_FeedAll.l1]
    rw [if_pos hj1,if_pos hj0,if_pos hj1,hrd,hw.out]
  · refine Ev.congr (fun k=>?_) key
    rw [if_pos (by show F.length+F2.length < 3518437208883;omega)]
theorem iFA_ev (cs:List (List Int)) (hB:∀ c ∈ cs,isB c) (hc:∀ c ∈ cs,c.length≤1048576) (hl:cs.length≤1048576):Ev (fun k=>impl_FeedAll.f k cs) (faV cs):=by
 have key:∀ (d i:Nat),cs.length - i=d → i≤cs.length → totC (cs.take i)≤20000 → Ev (fun k=>impl_FeedAll.l0 k cs ((totC (cs.take i):Nat):Int) cs (cs.length:Int) (i:Int)) (faV cs):=by
  intro d
  induction d with
  | zero =>
   intro i hd hi ht
   obtain rfl:i=cs.length:=by omega
   rw [List.take_length] at ht
   by_cases h4:cs.length≤4096
   · have h1:=iFA_l1 cs hB ht h4 cs.length 0 (by omega) (by omega)
     unfold faV
     rw [if_pos ⟨h4,ht⟩]
     refine Ev.step (fun k=>?_) h1
     simp only [impl_FeedAll.l0]
     rw [if_neg (by omega),if_neg (by omega)]
     rfl
   · unfold faV
     rw [if_neg (fun q=>h4 q.1)]
     refine ev_now fun k=>?_
     simp only [impl_FeedAll.l0]
     rw [if_neg (by omega),if_pos (by omega)]
  | succ d ih =>
   intro i hd hi ht
   have hi2:i < cs.length:=by omega
   have ht1:=totC_take cs i hi2
   have hci:=hc _ (List.getElem_mem hi2)
   obtain ⟨J,hJ⟩:∃ J:Int,J=(i:Int):=⟨_,rfl⟩
   obtain ⟨T,hT⟩:∃ T:Int,T=((totC (cs.take i):Nat):Int):=⟨_,rfl⟩
   have hw:=Aside0.mk (show wrap64 (J+1)=((i+1:Nat):Int) by rw [hJ];exact wsucc (by omega))
   have hwT:=Aside0.mk (show wrap64 (T+(cs[i].length:Int))=((totC (cs.take (i+1)):Nat):Int) by rw [hT];exact w64n (by omega) (by omega))
   have hrd:rd_L2 cs J=cs[i]:=by rw [hJ];exact rdLL hi2
   have hj0:0≤J:=by omega
   have hj1:J < (cs.length:Int):=by omega
   rw [← hJ,← hT]
   by_cases h2:totC (cs.take (i+1))≤20000
   · refine Ev.step (fun k=>?_) (ih (i+1) (by omega) (by omega) h2)
     simp only [impl_FeedAll.l0]
     rw [if_pos hj1,if_pos hj0,if_pos hj1,hrd,hwT.out,if_neg (by omega),hw.out]
   · have:=totC_le cs (i+1)
     unfold faV
     rw [if_neg (fun q=>by omega)]
     refine ev_now fun k=>?_
     simp only [impl_FeedAll.l0]
     rw [if_pos hj1,if_pos hj0,if_pos hj1,hrd,hwT.out,if_pos (by omega)]
 refine Ev.congr (fun k=>?_) (key cs.length 0 (by omega) (by omega) (by simp [totC]))
 simp [impl_FeedAll.f,totC]

theorem rd_midJ (A:List S49) (r:S49) (rs:List S49):rd_T49 (A ++ r :: rs) (A.length:Int)=r:=by simp [rd_T49,List.getD_eq_getElem?_getD]
theorem iEncJ_ev (kind f:Int) (A B:List Int) (n:Int) (h:jobB kind f A B n=true):Ev (fun k=>impl_encodeJob.f k kind f A B n) (jobEncV kind f A B n):=by
 unfold jobEncV
 rw [if_pos h]
 obtain ⟨⟨a1,a2⟩,⟨b1,b2⟩,n0,n1⟩:=job_words h
 have hwn:isWord n:=by unfold isWord;omega
 have h3:=put6 hwn
 have h4:=listE_len a2 a1
 have h5:=listE_len b2 b1
 have hend:Ev (fun k=>impl_encodeJob.l0 k (jobE kind f A B n) [A,B] (([A,B]:List (List Int)).length:Int) ((2:Nat):Int)) (jobE kind f A B n):=ev_now fun k=>by
  simp only [impl_encodeJob.l0]
  rw [if_neg (by simp)]
 have k2:=iEncJ_l0 [A,B] 1 (by simp) (by simp) B rfl b1 b2 (([kind % 256,f % 256] ++ put (zz n)) ++ listE A) _ (by rw [List.length_append,List.length_append];simp only [List.length_cons,List.length_nil];omega) hend
 have k1:=iEncJ_l0 [A,B] 0 (by simp) (by simp) A rfl a1 a2 ([kind % 256,f % 256] ++ put (zz n)) _ (by rw [List.length_append];simp only [List.length_cons,List.length_nil];omega) k2
 obtain ⟨m,e2,e3⟩:=evs2 (iPut_ev n hwn) k1
 refine ⟨m,fun k hk=>?_⟩
 obtain ⟨j,rfl⟩:∃ j,k=m+j:=⟨k - m,by omega⟩
 have c1:([kind % 256,f % 256]:List Int).length+(put (zz n)).length < 140737488355328:=by simp only [List.length_cons,List.length_nil];omega
 have e3':=e3 j
 simp only [impl_encodeJob.f,e2 j,Option.bind_some,c1,if_true]
 exact e3'

theorem drawOnce1 (l:List Int) (hn:l.length≤140737488355328) (i h:Int) (hi:dAt l i) (m:Int):∃ b i' h',spec_l01Once.f l i h m=some (b,i',h')∧dAt l i':=by
 obtain ⟨b1,i1,h1,e1,r1,d1⟩:=drawBelow l hn i h hi m
 exact ⟨(b1 == 0),i1,h1,by simp only [spec_l01Once.f,e1,Option.bind_some],d1⟩

theorem drawField (l:List Int) (hn:l.length≤140737488355328) (i h:Int) (hi:dAt l i):∃ b i' h',spec_l01DrawField.f l i h=some (b,i',h')∧dAt l i':=by
 obtain ⟨b1,i1,h1,e1,d1⟩:=drawOnce1 l hn i h hi 20
 obtain ⟨b2,i2,h2,e2,r2,d2⟩:=drawPickInt l hn i1 h1 d1 [(-1),9,100] (by simp)
 obtain ⟨b3,i3,h3,e3,r3,d3⟩:=drawBelow l hn i1 h1 d1 9
 cases b1 with
 | true=>exact ⟨b2,i2,h2,by simp only [spec_l01DrawField.f,e1,e2,Option.bind_some,if_true],d2⟩
 | false=>exact ⟨b3,i3,h3,by simp only [spec_l01DrawField.f,e1,e3,Option.bind_some,Bool.false_eq_true,if_false],d3⟩

theorem drawElem (l:List Int) (hn:l.length≤140737488355328) (i h:Int) (hi:dAt l i) (f:Int):∃ b i' h',spec_l01DrawElement.f l i h f=some (b,i',h')∧dAt l i':=by
 simp only [spec_l01DrawElement.f,sMod,Option.bind_some]
 by_cases h0:md f=0
 · obtain ⟨b1,i1,h1,e1,r1,d1⟩:=drawBelow l hn i h hi 50
   rw [if_pos h0,e1]
   exact ⟨_,_,_,rfl,d1⟩
 · obtain ⟨b1,i1,h1,e1,r1,d1⟩:=drawBelow l hn i h hi 6
   rw [if_neg h0,e1,Option.bind_some]
   by_cases c0:b1=0
   · obtain ⟨b2,i2,h2,e2,r2,d2⟩:=drawBelow l hn i1 h1 d1 3
     rw [if_pos c0,e2]
     exact ⟨_,_,_,rfl,d2⟩
   · rw [if_neg c0]
     by_cases c1:b1=1
     · obtain ⟨b2,i2,h2,e2,r2,d2⟩:=drawBelow l hn i1 h1 d1 3
       rw [if_pos c1,e2]
       exact ⟨_,_,_,rfl,d2⟩
     · rw [if_neg c1]
       by_cases c2:b1=2
       · obtain ⟨b2,i2,h2,e2,r2,d2⟩:=drawBelow l hn i1 h1 d1 16777216
         obtain ⟨b3,i3,h3,e3,r3,d3⟩:=drawBelow l hn i2 h2 d2 256
         rw [if_pos c2,e2,Option.bind_some,e3]
         exact ⟨_,_,_,rfl,d3⟩
       · obtain ⟨b2,i2,h2,e2,r2,d2⟩:=drawBelow l hn i1 h1 d1 30
         rw [if_neg c2,e2]
         exact ⟨_,_,_,rfl,d2⟩

theorem drawList_l (l:List Int) (hn:l.length≤140737488355328) (f:Int) (n:Nat) (hn6:n≤1048576):∀ (d j:Nat) (acc:List Int) (i h:Int),n - j=d → j≤n → acc.length=j → dAt l i →
 ∃ out i' h',Ev (fun k=>spec_l01DrawList.l0 k f (n:Int) acc (j:Int) l i h) (out,i',h')∧out.length=n∧dAt l i':=by
 intro d
 induction d with
 | zero =>
  intro j acc i h hd hj ha hi
  refine ⟨acc,i,h,ev_now fun k=>?_,by omega,hi⟩
  simp only [spec_l01DrawList.l0]
  rw [if_neg (by omega)]
 | succ d ih =>
  intro j acc i h hd hj ha hi
  obtain ⟨b1,i1,h1,e1,d1⟩:=drawElem l hn i h hi f
  obtain ⟨out,i',h',k1,k2,k3⟩:=ih (j+1) (acc ++ [b1]) i1 h1 (by omega) (by omega) (by simp;omega) d1
  refine ⟨out,i',h',Ev.step (fun k=>?_) k1,k2,k3⟩
  simp only [spec_l01DrawList.l0,e1,Option.bind_some]
  rw [if_pos (by omega),if_pos (by omega),wsucc (by omega)]
theorem drawList (l:List Int) (hn:l.length≤140737488355328) (i h:Int) (hi:dAt l i) (f:Int) (n:Nat) (hn6:n≤1048576):∃ out i' h',Ev (fun k=>spec_l01DrawList.f k l i h f (n:Int)) (out,i',h')∧out.length=n∧dAt l i':=by
 obtain ⟨out,i',h',k1,k2,k3⟩:=drawList_l l hn f n hn6 n 0 [] i h rfl (by omega) rfl hi
 exact ⟨out,i',h',Ev.congr (fun k=>rfl) k1,k2,k3⟩

theorem cmpR_self (l:List Int) (n:Nat):∀ s,cmpR l n s s=frDone l n:=by
 intro s
 induction s with
 | nil=>unfold cmpR;rfl
 | cons a s ih=>unfold cmpR;rw [if_pos rfl,ih]
theorem decF_enc (a b:Int) (v:List Int) (h:frOk a b v):decF (encB a b v)=(a,b,v,((13+v.length:Nat):Int),0)∧(encB a b v).length=13+v.length:=by
 obtain ⟨a0,a1,b0,b1,hl⟩:=h
 have hE:encB a b v=199 :: 77 :: (a % 256) :: (b / 16777216 % 256) :: (b / 65536 % 256) :: (b / 256 % 256) :: (b % 256) :: ((v.length:Int) / 256 % 256) :: ((v.length:Int) % 256) :: (v ++ be4 (cks (encMid a b v) 1 0)):=by
  unfold encB
  rw [if_pos ⟨a0,a1,b0,b1,hl⟩]
  simp [encMid,be4,be2]
 obtain ⟨K,hK⟩:∃ K,K=cks (encMid a b v) 1 0:=⟨_,rfl⟩
 have hlen:(encB a b v).length=13+v.length:=by rw [hE];simp [be4];omega
 have hN:frN (encB a b v)=(v.length:Int):=by
  unfold frN
  rw [hE]
  simp only [List.take_succ_cons,List.take_zero,List.drop_succ_cons,List.drop_zero,rdN,List.foldl_cons,List.foldl_nil]
  omega
 have hB:rdN (((encB a b v).take 7).drop 3) 0=b:=by
  rw [hE]
  simp only [List.take_succ_cons,List.take_zero,List.drop_succ_cons,List.drop_zero,rdN,List.foldl_cons,List.foldl_nil]
  omega
 have hmid:((encB a b v).take (9+v.length)).drop 2=encMid a b v:=by
  rw [hE,show 9+v.length=v.length+9 by omega]
  simp only [List.take_succ_cons,List.drop_succ_cons,List.drop_zero]
  rw [List.take_left]
  simp [encMid,be4,be2]
 have hpay:((encB a b v).take (9+v.length)).drop 9=v:=by
  rw [hE,show 9+v.length=v.length+9 by omega]
  simp only [List.take_succ_cons,List.drop_succ_cons,List.drop_zero]
  rw [List.take_left]
 have hend:(encB a b v).drop (9+v.length)=be4 (cks (encMid a b v) 1 0):=by
  rw [hE,show 9+v.length=v.length+9 by omega]
  simp only [List.drop_succ_cons]
  rw [List.drop_left]
 have hr:∀ (j:Nat) (y:Int),(encB a b v)[j]?=some y → rd (encB a b v) (j:Int)=y:=fun j y hj=>by
  simp [rd,List.getD_eq_getElem?_getD,hj]
 have r0:=hr 0 199 (by rw [hE];rfl)
 have r1:=hr 1 77 (by rw [hE];rfl)
 have r2:=hr 2 (a % 256) (by rw [hE];rfl)
 have r3:=hr 3 (b / 16777216 % 256) (by rw [hE];rfl)
 have r7:=hr 7 ((v.length:Int) / 256 % 256) (by rw [hE];rfl)
 have hhead:headB (encB a b v)=true:=by
  rw [head_iff]
  refine ⟨fun _=>r0,fun _=>r1,fun _=>?_,fun _=>?_,fun _=>?_,fun _=>by rw [hN];omega⟩
  · have:rd (encB a b v) 2=a % 256:=r2
    omega
  · have:rd (encB a b v) 3=b / 16777216 % 256:=r3
    omega
  · have:rd (encB a b v) 7=(v.length:Int) / 256 % 256:=r7
    omega
 have hsum:frSum (encB a b v)=be4 (cks (encMid a b v) 1 0):=by
  unfold frSum
  rw [hN,Int.toNat_natCast,hmid]
 refine ⟨?_,hlen⟩
 unfold decF
 rw [if_pos hhead,if_neg (by omega),hN,if_neg (by omega),hsum,Int.toNat_natCast,hend,cmpR_self]
 unfold frDone
 rw [hB,hpay]
 have:rd (encB a b v) 2=a:=by
  have:rd (encB a b v) 2=a % 256:=r2
  omega
 rw [this]
theorem decF_nil:decF []=frMore:=by
 unfold decF
 have:headB []=true:=by rw [head_iff];simp
 rw [if_pos this,if_pos (by simp)]

theorem lst_put {l:List Int}:∀ (A:List Int) (p:Nat) (rest:List Int),(∀ x ∈ A,isWord x) → l.drop p=putAll A ++ rest → lstD l A.length p=some (A,p+(putAll A).length)
 | [],p,rest,_,_=>rfl
 | x :: A,p,rest,h,e=>by
  rw [List.length_cons,lstD,e,putAll,List.append_assoc,tkL_put x (h x (List.mem_cons_self ..)) _ (zz x) 7 0 0 (by simp) (by omega) (by have:=put6 (h x (List.mem_cons_self ..));omega)]
  simp only [Option.bind_some,Nat.zero_add]
  have hd:l.drop (p+(put (zz x)).length)=putAll A ++ rest:=by
   rw [← List.drop_drop,e,putAll,List.append_assoc,List.drop_left]
  rw [lst_put A (p+(put (zz x)).length) rest (fun y hy=>h y (List.mem_cons_of_mem _ hy)) hd]
  simp only [Option.bind_some,List.length_append]
  congr 2
  omega
theorem one_put {l A:List Int} {p:Nat} {rest:List Int} (hw:∀ x ∈ A,isWord x) (hl:A.length≤400) (e:l.drop p=listE A ++ rest):oneD l p=some (A,p+(listE A).length):=by
 unfold oneD
 rw [e,listE,List.append_assoc,tkL_put (A.length:Int) (word_small (by omega)) _ _ 7 0 0 (by simp) (by omega) (by have:=put6 (word_small (n:=A.length) (by omega));omega)]
 simp only [Option.bind_some,Nat.zero_add]
 rw [if_pos (by omega),Int.toNat_natCast]
 have hd:l.drop (p+(put (zz (A.length:Int))).length)=putAll A ++ rest:=by
  rw [← List.drop_drop,e,listE,List.append_assoc,List.drop_left]
 rw [lst_put A _ rest hw hd,List.length_append]
 congr 2
 omega
theorem job_head {kind f n:Int} {A B:List Int} (h:jobB kind f A B n=true):kind % 256=kind∧f % 256=f:=by
 unfold jobB at h
 rw [Bool.and_eq_true,decide_eq_true_eq] at h
 have h1:=h.1
 unfold jobHead fldOk at h1
 omega
theorem drop2_cons (a b:Int) (l:List Int):(a :: b :: l).drop 2=l:=rfl
theorem dec_enc {kind f n:Int} {A B:List Int} (h:jobB kind f A B n=true):decV (jobEncV kind f A B n)=(kind,f,A,B,n,true):=by
 obtain ⟨⟨a1,a2⟩,⟨b1,b2⟩,n0,n1⟩:=job_words h
 obtain ⟨hk,hf⟩:=job_head h
 have hwn:isWord n:=by unfold isWord;omega
 have hE:jobEncV kind f A B n=kind :: f :: (put (zz n) ++ (listE A ++ listE B)):=by
  unfold jobEncV
  rw [if_pos h,jobE,hk,hf]
  simp [List.append_assoc]
 rw [hE]
 have t1:=tkL_put n hwn (listE A ++ listE B) (zz n) 7 0 0 (by simp) (by omega) (by have:=put6 hwn;omega)
 rw [Nat.zero_add] at t1
 have d1:(kind :: f :: (put (zz n) ++ (listE A ++ listE B))).drop (2+(put (zz n)).length)=listE A ++ listE B:=by
  rw [← List.drop_drop,drop2_cons,List.drop_left]
 have o1:=one_put a2 a1 d1
 have d2:(kind :: f :: (put (zz n) ++ (listE A ++ listE B))).drop (2+(put (zz n)).length+(listE A).length)=listE B ++ []:=by
  rw [← List.drop_drop,d1,List.drop_left,List.append_nil]
 have o2:=one_put b2 b1 d2
 unfold decV
 rw [if_neg (by simp),drop2_cons,t1]
 simp only [o1,o2]
 rw [if_pos ⟨by simp only [List.length_cons,List.length_append];omega,h⟩]
 rfl

theorem same_l (v:List Int) (hv:v.length≤1048576):∀ (d i:Nat),v.length - i=d → i≤v.length → Ev (fun k=>laws_same.l0 k v v (i:Int)) true:=by
 intro d
 induction d with
 | zero =>
  intro i hd hi
  refine ev_now fun k=>?_
  simp only [laws_same.l0]
  rw [if_neg (by omega)]
 | succ d ih =>
  intro i hd hi
  refine Ev.step (fun k=>?_) (ih (i+1) (by omega) (by omega))
  simp only [laws_same.l0]
  rw [if_pos (by omega),if_pos (by omega),if_pos (by omega),if_pos trivial,wsucc (by omega)]
theorem same_ev (v:List Int) (hv:v.length≤1048576):Ev (fun k=>laws_same.f k v v) true:=by
 simp only [laws_same.f,if_true]
 exact same_l v hv v.length 0 (by omega) (by omega)
theorem sameB_l (v:List Int) (hv:v.length≤1048576):∀ (d i:Nat),v.length - i=d → i≤v.length → Ev (fun k=>laws_sameBytes.l0 k v v (i:Int)) true:=by
 intro d
 induction d with
 | zero =>
  intro i hd hi
  refine ev_now fun k=>?_
  simp only [laws_sameBytes.l0]
  rw [if_neg (by omega)]
 | succ d ih =>
  intro i hd hi
  refine Ev.step (fun k=>?_) (ih (i+1) (by omega) (by omega))
  simp only [laws_sameBytes.l0]
  rw [if_pos (by omega),if_pos (by omega),if_pos (by omega),if_pos trivial,wsucc (by omega)]
theorem sameB_ev (v:List Int) (hv:v.length≤1048576):Ev (fun k=>laws_sameBytes.f k v v) true:=by
 simp only [laws_sameBytes.f,if_true]
 exact sameB_l v hv v.length 0 (by omega) (by omega)
theorem sameJob_ev (a b n:Int) (A B:List Int) (hA:A.length≤1048576) (hB:B.length≤1048576):Ev (fun k=>laws_sameJob.f k a b A B n a b A B n) true:=by
 simp only [laws_sameJob.f,if_true]
 refine Ev.bind (same_ev A hA) ?_
 simp only [if_true]
 exact Ev.bind (same_ev B hB) (Ev.now _)

theorem fBelow (l:List Int) (hn:l.length≤140737488355328) (i h:Int) (hi:dAt l i) (m:Int):Fin (fun _=>spec_l01Below.f l i h m) (fun r=>(0≤r.1∧(r.1 < m∨r.1=0))∧dAt l r.2.1):=by
 obtain ⟨b,i1,h1,e,q,d⟩:=drawBelow l hn i h hi m
 exact ⟨_,ev_some fun _=>e,q,d⟩
theorem fPick (l:List Int) (hn:l.length≤140737488355328) (i h:Int) (hi:dAt l i) (xs:List Int) (hx:0 < xs.length):Fin (fun _=>spec_l01PickInt.f l i h xs) (fun r=>r.1 ∈ xs∧dAt l r.2.1):=by
 obtain ⟨b,i1,h1,e,q,d⟩:=drawPickInt l hn i h hi xs hx
 exact ⟨_,ev_some fun _=>e,q,d⟩
theorem fOnce (l:List Int) (hn:l.length≤140737488355328) (i h:Int) (hi:dAt l i) (m:Int):Fin (fun _=>spec_l01Once.f l i h m) (fun r=>dAt l r.2.1):=by
 obtain ⟨b,i1,h1,e,d⟩:=drawOnce1 l hn i h hi m
 exact ⟨_,ev_some fun _=>e,d⟩
theorem fField (l:List Int) (hn:l.length≤140737488355328) (i h:Int) (hi:dAt l i):Fin (fun _=>spec_l01DrawField.f l i h) (fun r=>dAt l r.2.1):=by
 obtain ⟨b,i1,h1,e,d⟩:=drawField l hn i h hi
 exact ⟨_,ev_some fun _=>e,d⟩
theorem fElem (l:List Int) (hn:l.length≤140737488355328) (i h:Int) (hi:dAt l i) (f:Int):Fin (fun _=>spec_l01DrawElement.f l i h f) (fun r=>dAt l r.2.1):=by
 obtain ⟨b,i1,h1,e,d⟩:=drawElem l hn i h hi f
 exact ⟨_,ev_some fun _=>e,d⟩
theorem fList (l:List Int) (hn:l.length≤140737488355328) (i h:Int) (hi:dAt l i) (f n:Int) (h0:0≤n) (h1:n≤1048576):Fin (fun k=>spec_l01DrawList.f k l i h f n) (fun r=>(r.1.length:Int)=n∧dAt l r.2.1):=by
 obtain ⟨out,i',h',e,q,d⟩:=drawList l hn i h hi f n.toNat (by omega)
 rw [show ((n.toNat:Nat):Int)=n by omega] at e
 exact ⟨_,e,by show (out.length:Int)=n;omega,d⟩
theorem fMod (f:Int):Fin (fun _=>spec_Modulus.f f) (fun _=>True):=⟨_,ev_some fun _=>sMod f,trivial⟩

theorem fAny (l:List Int) (hn:l.length≤140737488355328) (i h:Int) (hi:dAt l i) (f:Int):Fin (fun _=>spec_l01DrawAny.f l i h f) (fun r=>dAt l r.2.1):=by
 simp only [spec_l01DrawAny.f]
 refine Fin.bind (fBelow l hn i h hi 8) fun r1 q1=>?_
 refine Fin.ite (fun _=>?_) fun _=>?_
 · exact Fin.bind (fBelow l hn _ _ q1.2 300) fun r2 q2=>Fin.now _ q2.2
 · refine Fin.ite (fun _=>?_) fun _=>?_
   · exact Fin.bind (fPick l hn _ _ q1.2 _ (by simp)) fun r2 q2=>Fin.now _ q2.2
   · refine Fin.ite (fun _=>?_) fun _=>?_
     · exact Fin.bind (fMod f) fun _ _=>Fin.bind (fBelow l hn _ _ q1.2 1000) fun r2 q2=>Fin.now _ q2.2
     · refine Fin.ite (fun _=>?_) fun _=>?_
       · exact Fin.bind (fBelow l hn _ _ q1.2 _) fun r2 q2=>Fin.bind (fBelow l hn _ _ q2.2 _) fun r3 q3=>Fin.now _ q3.2
       · exact Fin.bind (fElem l hn _ _ q1.2 f) fun r2 q2=>Fin.now _ q2

theorem fTerms (l:List Int) (hn:l.length≤140737488355328) (i h:Int) (hi:dAt l i) (m:Int) (h0:0≤m) (h1:m≤1048575):Fin (fun k=>spec_l05DrawTerms.f k l i h m) (fun r=>(r.1.length:Int)≤1048575∧dAt l r.2.1):=by
 obtain ⟨n,rfl⟩:∃ n:Nat,m=(n:Int):=⟨m.toNat,by omega⟩
 have hj1:∀ (acc:List Int) (i h:Int) (b:Bool),acc.length=n → dAt l i → (b=true → 0 < n) → Fin (fun k=>spec_l05DrawTerms.j1 k (n:Int) acc b l i h) (fun r=>(r.1.length:Int)≤1048575∧dAt l r.2.1):=by
  intro acc i h b ha hi hb
  refine Fin.step (fun k=>by rw [spec_l05DrawTerms.j1]) ?_
  refine Fin.ite (fun c=>?_) fun c=>Fin.now _ ⟨by show (acc.length:Int)≤1048575;omega,hi⟩
  have:=hb c
  refine Fin.bind (fBelow l hn i h hi _) fun r1 q1=>Fin.bind (fPick l hn _ _ q1.2 _ (by simp)) fun r2 q2=>?_
  have:=q1.1
  exact Fin.yes (by omega) (Fin.yes (by omega) (Fin.now _ ⟨by show ((acc.set _ _).length:Int)≤1048575;rw [List.length_set];omega,q2.2⟩))
 have key:∀ (d j:Nat) (acc:List Int) (i h:Int),n - j=d → j≤n → acc.length=j → dAt l i → Fin (fun k=>spec_l05DrawTerms.l0 k (n:Int) acc (j:Int) l i h) (fun r=>(r.1.length:Int)≤1048575∧dAt l r.2.1):=by
  intro d
  induction d with
  | zero =>
   intro j acc i h hd hj ha hi
   refine Fin.step (fun k=>by rw [spec_l05DrawTerms.l0]) ?_
   refine Fin.no (by omega) (Fin.bind (fOnce l hn i h hi _) fun r1 q1=>Fin.ite (fun _=>?_) fun _=>?_)
   · exact hj1 acc _ _ _ (by omega) q1 (fun e=>by simpa using e)
   · exact hj1 acc _ _ _ (by omega) q1 (fun e=>by simp at e)
  | succ d ih =>
   intro j acc i h hd hj ha hi
   refine Fin.step (fun k=>by rw [spec_l05DrawTerms.l0]) ?_
   refine Fin.yes (by omega) (Fin.bind (fBelow l hn i h hi _) fun r1 q1=>Fin.bind (fBelow l hn _ _ q1.2 _) fun r2 q2=>Fin.bind (fBelow l hn _ _ q2.2 _) fun r3 q3=>Fin.bind (fPick l hn _ _ q3.2 _ (by simp)) fun r4 q4=>Fin.yes (by omega) ?_)
   rw [wsucc (by omega)]
   exact ih (j+1) (acc ++ [r4.1]) _ _ (by omega) (by omega) (by simp;omega) q4.2
 exact key n 0 [] i h (by omega) (by omega) rfl hi

theorem fSeries (l:List Int) (hn:l.length≤140737488355328) (i h:Int) (hi:dAt l i) (f n c:Int) (h0:0 < n) (h1:n≤1048575):Fin (fun k=>spec_l06DrawSeries.f k l i h f n c) (fun r=>(r.1.length:Int)≤1048575∧dAt l r.2.1):=by
 have hj2:∀ (acc:List Int) (i h:Int) (b:Bool),(acc.length:Int)=n → dAt l i → Fin (fun k=>spec_l06DrawSeries.j2 k f n acc b l i h) (fun r=>(r.1.length:Int)≤1048575∧dAt l r.2.1):=by
  intro acc i h b ha hi
  refine Fin.step (fun k=>by rw [spec_l06DrawSeries.j2]) ?_
  refine Fin.ite (fun c=>?_) fun c=>Fin.now _ ⟨by show (acc.length:Int)≤1048575;omega,hi⟩
  refine Fin.bind (fBelow l hn i h hi _) fun r1 q1=>Fin.bind (fMod f) fun t _=>Fin.bind (fPick l hn _ _ q1.2 _ (by simp)) fun r2 q2=>?_
  have:=q1.1
  exact Fin.yes (by omega) (Fin.yes (by omega) (Fin.now _ ⟨by show ((acc.set _ _).length:Int)≤1048575;rw [List.length_set];omega,q2.2⟩))
 have hj1:∀ (acc:List Int) (i h:Int),(acc.length:Int)=n → dAt l i → Fin (fun k=>spec_l06DrawSeries.j1 k f n acc l i h) (fun r=>(r.1.length:Int)≤1048575∧dAt l r.2.1):=by
  intro acc i h ha hi
  refine Fin.step (fun k=>by rw [spec_l06DrawSeries.j1]) ?_
  exact Fin.bind (fOnce l hn i h hi _) fun r1 q1=>Fin.ite (fun _=>hj2 acc _ _ _ ha q1) fun _=>hj2 acc _ _ _ ha q1
 have hj0:∀ (acc:List Int) (i h:Int) (b:Bool),(acc.length:Int)=n → dAt l i → Fin (fun k=>spec_l06DrawSeries.j0 k f n c acc b l i h) (fun r=>(r.1.length:Int)≤1048575∧dAt l r.2.1):=by
  intro acc i h b ha hi
  refine Fin.step (fun k=>by rw [spec_l06DrawSeries.j0]) ?_
  exact Fin.ite (fun _=>Fin.yes (by omega) (hj1 _ _ _ (by rw [List.length_set];exact ha) hi)) fun _=>hj1 acc _ _ ha hi
 simp only [spec_l06DrawSeries.f]
 exact Fin.bind (fList l hn i h hi f n (by omega) (by omega)) fun r1 q1=>Fin.ite (fun _=>hj0 _ _ _ _ q1.1 q1.2) fun _=>hj0 _ _ _ _ q1.1 q1.2

theorem fPoints (l:List Int) (hn:l.length≤140737488355328) (i h:Int) (hi:dAt l i) (f m:Int) (h0:0 < m) (h1:m≤1000):Fin (fun k=>spec_l07DrawPoints.f k l i h f m) (fun r=>(0 < r.1.length∧(r.1.length:Int)≤1000)∧dAt l r.2.1):=by
 obtain ⟨n,rfl⟩:∃ n:Nat,m=(n:Int):=⟨m.toNat,by omega⟩
 have hj1:∀ (acc:List Int) (i h:Int) (b:Bool),acc.length≤n → 0 < acc.length → dAt l i → Fin (fun k=>spec_l07DrawPoints.j1 k f acc b l i h) (fun r=>(0 < r.1.length∧(r.1.length:Int)≤1000)∧dAt l r.2.1):=by
  intro acc i h b ha hp hi
  refine Fin.step (fun k=>by rw [spec_l07DrawPoints.j1]) ?_
  refine Fin.ite (fun c=>?_) fun c=>Fin.now _ ⟨⟨hp,by show (acc.length:Int)≤1000;omega⟩,hi⟩
  refine Fin.bind (fBelow l hn i h hi _) fun r1 q1=>Fin.bind (fMod f) fun t _=>Fin.bind (fPick l hn _ _ q1.2 _ (by simp)) fun r2 q2=>?_
  have:=q1.1
  exact Fin.yes (by omega) (Fin.yes (by omega) (Fin.now _ ⟨⟨by show 0 < (acc.set _ _).length;rw [List.length_set];omega,by show ((acc.set _ _).length:Int)≤1000;rw [List.length_set];omega⟩,q2.2⟩))
 have key:∀ (d j:Nat) (acc:List Int) (i h:Int),n - j=d → j≤n → acc.length≤j → (0 < j → 0 < acc.length) → dAt l i → Fin (fun k=>spec_l07DrawPoints.l0 k f (n:Int) acc (j:Int) l i h) (fun r=>(0 < r.1.length∧(r.1.length:Int)≤1000)∧dAt l r.2.1):=by
  intro d
  induction d with
  | zero =>
   intro j acc i h hd hj ha hp hi
   refine Fin.step (fun k=>by rw [spec_l07DrawPoints.l0]) ?_
   have:=hp (by omega)
   exact Fin.no (by omega) (Fin.bind (fOnce l hn i h hi _) fun r1 q1=>Fin.ite (fun _=>hj1 acc _ _ _ (by omega) this q1) fun _=>hj1 acc _ _ _ (by omega) this q1)
  | succ d ih =>
   intro j acc i h hd hj ha hp hi
   refine Fin.step (fun k=>by rw [spec_l07DrawPoints.l0]) ?_
   refine Fin.yes (by omega) (Fin.bind (fElem l hn i h hi f) fun r1 q1=>Fin.bind (Q:=fun b=>b=decide (r1.1 ∈ acc)) ⟨_,sHas_ev acc r1.1 (by omega),rfl⟩ fun b hb=>?_)
   simp only [wsucc (show j < 9223372036854775807 by omega)]
   refine Fin.ite (fun c=>?_) fun c=>?_
   · have hm:0 < acc.length:=by
      rw [hb,decide_eq_true_eq] at c
      exact List.length_pos_of_mem c
     refine Fin.bind (fOnce l hn _ _ q1 _) fun r2 q2=>Fin.ite (fun _=>?_) fun _=>?_
     · exact Fin.yes (by omega) (ih (j+1) _ _ _ (by omega) (by omega) (by simp;omega) (fun _=>by simp) q2)
     · exact ih (j+1) _ _ _ (by omega) (by omega) (by omega) (fun _=>hm) q2
   · exact Fin.yes (by omega) (ih (j+1) _ _ _ (by omega) (by omega) (by simp;omega) (fun _=>by simp) q1)
 exact key n 0 [] i h (by omega) (by omega) (by simp) (fun e=>by omega) hi

theorem fWord (l:List Int) (hn:l.length≤140737488355328) (i h:Int) (hi:dAt l i):Fin (fun k=>spec_l07DrawWord.f k l i h) (fun r=>r.2.1.length≤1000∧r.2.2.1.length≤1000∧dAt l r.2.2.2.2.2.1):=by
 have key:∀ (f:Int) (P D:List Int) (n:Int) (m:Nat),m≤9223372036854775806 → P.length≤1000 → ∀ (d j:Nat) (acc:List Int) (i h:Int),m - j=d → j≤m → 0 < acc.length → acc.length≤1000 → dAt l i → Fin (fun k=>spec_l07DrawWord.l0 k f P n D acc (m:Int) (j:Int) l i h) (fun r=>r.2.1.length≤1000∧r.2.2.1.length≤1000∧dAt l r.2.2.2.2.2.1):=by
  intro f P D n m hm hP d
  induction d with
  | zero =>
   intro j acc i h hd hj ha ha2 hi
   refine Fin.step (fun k=>by rw [spec_l07DrawWord.l0]) ?_
   exact Fin.no (by omega) (Fin.now _ ⟨hP,ha2,hi⟩)
  | succ d ih =>
   intro j acc i h hd hj ha ha2 hi
   refine Fin.step (fun k=>by rw [spec_l07DrawWord.l0]) ?_
   simp only [wsucc (show j < 9223372036854775807 by omega)]
   refine Fin.yes (by omega) (Fin.bind (fBelow l hn i h hi _) fun r1 q1=>Fin.bind (fElem l hn _ _ q1.2 f) fun r2 q2=>?_)
   have:=q1.1
   exact Fin.yes (by omega) (Fin.yes (by omega) (ih (j+1) _ _ _ (by omega) (by omega) (by rw [List.length_set];exact ha) (by rw [List.length_set];exact ha2) q2))
 have hw63:∀ x:Int,wrap64 x≤9223372036854775807:=fun x=>by unfold wrap64;omega
 have hj2:∀ (f:Int) (P D:List Int) (n x:Int) (acc:List Int) (i h:Int),0≤x → x≤9223372036854775806 → P.length≤1000 → 0 < acc.length → acc.length≤1000 → dAt l i → Fin (fun k=>spec_l07DrawWord.j2 k f P n D acc x l i h) (fun r=>r.2.1.length≤1000∧r.2.2.1.length≤1000∧dAt l r.2.2.2.2.2.1):=by
  intro f P D n x acc i h h0 h1 hP ha ha2 hi
  obtain ⟨m,rfl⟩:∃ m:Nat,x=(m:Int):=⟨x.toNat,by omega⟩
  refine Fin.step (fun k=>by rw [spec_l07DrawWord.j2]) ?_
  exact key f P D n m (by omega) hP m 0 acc i h (by omega) (by omega) ha ha2 hi
 have hj1:∀ (f:Int) (P D:List Int) (n:Int) (acc:List Int) (i h:Int),P.length≤1000 → 0 < acc.length → acc.length≤1000 → dAt l i → Fin (fun k=>spec_l07DrawWord.j1 k f P n D acc l i h) (fun r=>r.2.1.length≤1000∧r.2.2.1.length≤1000∧dAt l r.2.2.2.2.2.1):=by
  intro f P D n acc i h hP ha ha2 hi
  refine Fin.step (fun k=>by rw [spec_l07DrawWord.j1]) ?_
  refine Fin.bind (fBelow l hn i h hi _) fun r1 q1=>Fin.bind (fOnce l hn _ _ q1.2 _) fun r2 q2=>Fin.ite (fun _=>?_) fun _=>?_
  · refine Fin.bind (fBelow l hn _ _ q2 _) fun r3 q3=>?_
    have h1:=hw63 ((P.length:Int)+1)
    have:=q3.1
    exact hj2 f P D n _ acc _ _ (by omega) (by omega) hP ha ha2 q3.2
  · have h1:=hw63 ((wrap64 (Int.tdiv (wrap64 ((P.length:Int) - n)) 2))+2)
    have:=q1.1
    exact hj2 f P D n _ acc _ _ (by omega) (by omega) hP ha ha2 q2
 have hj0:∀ (f:Int) (P:List Int) (n:Int) (i h:Int),P.length≤1000 → 0 < P.length → 0≤n → n≤1048576 → dAt l i → Fin (fun k=>spec_l07DrawWord.j0 k f P n l i h) (fun r=>r.2.1.length≤1000∧r.2.2.1.length≤1000∧dAt l r.2.2.2.2.2.1):=by
  intro f P n i h hP hp h0 h1 hi
  refine Fin.step (fun k=>by rw [spec_l07DrawWord.j0]) ?_
  refine Fin.bind (fList l hn i h hi f n h0 h1) fun r1 q1=>Fin.bind (fEncW f P r1.1 (by omega) (by have:=q1.1;omega)) fun W hW=>Fin.ite (fun _=>?_) fun c=>?_
  · refine Fin.bind (fList l hn _ _ q1.2 f _ (by omega) (by omega)) fun r2 q2=>?_
    have:=q2.1
    exact hj1 f P _ n _ _ _ hP (by omega) (by omega) q2.2
  · exact hj1 f P _ n W _ _ hP (by omega) (by omega) q1.2
 simp only [spec_l07DrawWord.f]
 refine Fin.bind (fField l hn i h hi) fun r1 q1=>Fin.bind (fBelow l hn _ _ q1 8) fun r2 q2=>?_
 have b2:=q2.1
 have e2:wrap64 (3+r2.1)=3+r2.1:=w64 (by omega) (by omega)
 simp only [e2]
 refine Fin.bind (fPoints l hn _ _ q2.2 r1.1 (3+r2.1) (by omega) (by omega)) fun r3 q3=>Fin.bind (fBelow l hn _ _ q3.2 _) fun r4 q4=>Fin.bind (fOnce l hn _ _ q4.2 2) fun r5 q5=>?_
 have b3:=q3.1
 have b4:=q4.1
 have e4:wrap64 (1+r4.1)=1+r4.1:=w64 (by omega) (by omega)
 refine Fin.ite (fun _=>?_) fun _=>?_
 · refine Fin.bind (fBelow l hn _ _ q5 _) fun r6 q6=>?_
   have b6:=q6.1
   have e5:wrap64 (Int.tdiv (wrap64 ((r3.1.length:Int)+1)) 2)≤1001:=by
    rw [w64 (x:=(r3.1.length:Int)+1) (by omega) (by omega),Int.tdiv_eq_ediv_of_nonneg (by omega),w64 (by omega) (by omega)];omega
   have e6:wrap64 (1+r6.1)=1+r6.1:=w64 (by omega) (by omega)
   simp only [e6]
   exact hj0 _ _ _ _ _ (by omega) b3.1 (by omega) (by omega) q6.2
 · simp only [e4]
   exact hj0 _ _ _ _ _ (by omega) b3.1 (by omega) (by omega) q5

def jobQ (l:List Int) (r:Int × Int × List Int × List Int × Int × Int × Int):Prop:=(r.2.2.1.length:Int)≤1048576∧(r.2.2.2.1.length:Int)≤1048576∧dAt l r.2.2.2.2.2.1
theorem sh4 (x:Int) (h0:0≤x) (h1:x < 4):0≤IntKind.u64.wrap x∧0≤shl .i64 1 (IntKind.u64.wrap x)∧shl .i64 1 (IntKind.u64.wrap x)≤8:=by
 rcases (show x=0∨x=1∨x=2∨x=3 by omega) with rfl | rfl | rfl | rfl <;> decide +kernel
theorem fJob3 (l:List Int) (hn:l.length≤140737488355328) (i h:Int) (hi:dAt l i) (op f:Int) (A B:List Int) (n:Int) (hA:(A.length:Int)≤1048575) (hB:(B.length:Int)≤1048575):Fin (fun k=>spec_l10DrawJob.j3 k l i h op f A B n) (jobQ l):=by
 refine Fin.step (fun k=>by rw [spec_l10DrawJob.j3]) ?_
 refine Fin.bind (fOnce l hn i h hi 12) fun r1 q1=>Fin.ite (fun _=>?_) fun _=>Fin.now _ ⟨by show (A.length:Int)≤1048576;omega,by show (B.length:Int)≤1048576;omega,q1⟩
 refine Fin.bind (fBelow l hn _ _ q1 5) fun r2 q2=>Fin.ite (fun _=>?_) fun _=>?_
 · exact Fin.bind (fBelow l hn _ _ q2.2 11) fun r3 q3=>Fin.bind (fPick l hn _ _ q3.2 _ (by simp)) fun r4 q4=>Fin.now _ ⟨by show (A.length:Int)≤1048576;omega,by show (B.length:Int)≤1048576;omega,q4.2⟩
 refine Fin.ite (fun _=>?_) fun _=>?_
 · exact Fin.bind (fField l hn _ _ q2.2) fun r3 q3=>Fin.now _ ⟨by show (A.length:Int)≤1048576;omega,by show (B.length:Int)≤1048576;omega,q3⟩
 refine Fin.ite (fun _=>?_) fun _=>?_
 · exact Fin.bind (fPick l hn _ _ q2.2 _ (by simp)) fun r3 q3=>Fin.now _ ⟨by show (A.length:Int)≤1048576;omega,by show (B.length:Int)≤1048576;omega,q3.2⟩
 refine Fin.ite (fun _=>?_) fun _=>?_
 · refine Fin.bind (Q:=fun r=>r=B) ⟨_,sCopy_ev B (by omega),rfl⟩ fun t ht=>Fin.bind (fAny l hn _ _ q2.2 f) fun r3 q3=>?_
   subst ht
   exact Fin.yes (by omega) (Fin.now _ ⟨by show (A.length:Int)≤1048576;omega,by show ((t ++ [_]).length:Int)≤1048576;simp;omega,q3⟩)
 refine Fin.ite (fun _=>?_) fun _=>?_
 · refine Fin.bind (Q:=fun r=>r=A) ⟨_,sCopy_ev A (by omega),rfl⟩ fun t ht=>Fin.bind (fPick l hn _ _ q2.2 _ (by simp)) fun r3 q3=>?_
   subst ht
   exact Fin.yes (by omega) (Fin.now _ ⟨by show ((t ++ [_]).length:Int)≤1048576;simp;omega,by show (B.length:Int)≤1048576;omega,q3.2⟩)
 · exact Fin.now _ ⟨by show (A.length:Int)≤1048576;omega,by show (B.length:Int)≤1048576;omega,q2.2⟩
theorem fJob2 (l:List Int) (hn:l.length≤140737488355328) (a:Int) (ha0:0≤a) (ha:a≤900) (i h:Int) (hi:dAt l i) (x:Int) (b:Bool) (op f n:Int):Fin (fun k=>spec_l10DrawJob.j2 k a x b l i h op f n) (jobQ l):=by
 have w1:wrap64 (a+1)=a+1:=w64 (by omega) (by omega)
 have w2:wrap64 (wrap64 (Int.tdiv a 2)+2)=a / 2+2:=by
  rw [Int.tdiv_eq_ediv_of_nonneg ha0,w64 (x:=a / 2) (by omega) (by omega),w64 (by omega) (by omega)]
 refine Fin.step (fun k=>by rw [spec_l10DrawJob.j2]) ?_
 simp only [w1,w2]
 refine Fin.ite (fun _=>?_) fun _=>Fin.ite (fun _=>?_) fun _=>Fin.ite (fun _=>?_) fun _=>Fin.ite (fun _=>?_) fun _=>Fin.ite (fun _=>?_) fun _=>Fin.ite (fun _=>?_) fun _=>?_
 · refine Fin.bind (fBelow l hn i h hi _) fun r1 q1=>?_
   have b1:=q1.1
   refine Fin.bind (fList l hn _ _ q1.2 f _ (by omega) (by omega)) fun r2 q2=>?_
   have b2:=q2.1
   refine Fin.bind (fCut r2.1 (by omega)) fun c1 k1=>Fin.bind (fBelow l hn _ _ q2.2 _) fun r3 q3=>?_
   have b3:=q3.1
   refine Fin.bind (fList l hn _ _ q3.2 f _ (by omega) (by omega)) fun r4 q4=>?_
   have b4:=q4.1
   exact Fin.bind (fCut r4.1 (by omega)) fun c2 k2=>fJob3 l hn _ _ q4.2 _ _ _ _ _ (by omega) (by omega)
 · refine Fin.bind (fBelow l hn i h hi _) fun r1 q1=>?_
   have b1:=q1.1
   refine Fin.bind (fTerms l hn _ _ q1.2 r1.1 (by omega) (by omega)) fun r2 q2=>Fin.bind (fBelow l hn _ _ q2.2 _) fun r3 q3=>?_
   have b3:=q3.1
   exact Fin.bind (fTerms l hn _ _ q3.2 r3.1 (by omega) (by omega)) fun r4 q4=>fJob3 l hn _ _ q4.2 _ _ _ _ _ q2.1 q4.1
 · refine Fin.bind (fBelow l hn i h hi _) fun r1 q1=>Fin.bind (fBelow l hn _ _ q1.2 _) fun r2 q2=>?_
   have b1:=q1.1
   have w3:wrap64 (1+r1.1)=1+r1.1:=w64 (by omega) (by omega)
   simp only [w3]
   exact Fin.bind (fSeries l hn _ _ q2.2 f (1+r1.1) _ (by omega) (by omega)) fun r3 q3=>fJob3 l hn _ _ q3.2 _ _ _ _ _ q3.1 (by simp)
 · refine Fin.bind (fBelow l hn i h hi _) fun r1 q1=>?_
   have b1:=q1.1
   refine Fin.bind (fList l hn _ _ q1.2 f _ (by omega) (by omega)) fun r2 q2=>?_
   have b2:=q2.1
   refine Fin.bind (fCut r2.1 (by omega)) fun c1 k1=>Fin.bind (fBelow l hn _ _ q2.2 _) fun r3 q3=>?_
   have b3:=q3.1
   refine Fin.bind (fList l hn _ _ q3.2 f _ (by omega) (by omega)) fun r4 q4=>?_
   have b4:=q4.1
   exact fJob3 l hn _ _ q4.2 _ _ _ _ _ (by omega) (by omega)
 · refine Fin.bind (fBelow l hn i h hi _) fun r1 q1=>?_
   have b1:=q1.1
   have w3:wrap64 (1+r1.1)=1+r1.1:=w64 (by omega) (by omega)
   simp only [w3]
   refine Fin.bind (fPoints l hn _ _ q1.2 f (1+r1.1) (by omega) (by omega)) fun r2 q2=>?_
   have b2:=q2.1
   refine Fin.bind (fList l hn _ _ q2.2 f _ (by omega) (by omega)) fun r3 q3=>?_
   have b3:=q3.1
   exact fJob3 l hn _ _ q3.2 _ _ _ _ _ (by omega) (by omega)
 · exact Fin.bind (fWord l hn i h hi) fun r1 q1=>fJob3 l hn _ _ q1.2.2 _ _ _ _ _ (by have:=q1.1;omega) (by have:=q1.2.1;omega)
 · exact fJob3 l hn _ _ hi _ _ _ _ _ (by simp) (by simp)
theorem fJob (l:List Int) (hn:l.length≤140737488355328) (a:Int) (ha0:0≤a) (ha:a≤900) (i h:Int) (hi:dAt l i):Fin (fun k=>spec_l10DrawJob.f k l i h a) (jobQ l):=by
 have hj1:∀ (y x:Int) (b:Bool) (i h op f n:Int),0≤y → y < 4 → dAt l i → Fin (fun k=>spec_l10DrawJob.j1 k a y x b l i h op f n) (jobQ l):=by
  intro y x b i h op f n h0 h1 hi
  have hs:=sh4 y h0 h1
  refine Fin.step (fun k=>by rw [spec_l10DrawJob.j1]) ?_
  refine Fin.ite (fun _=>Fin.yes hs.1 (Fin.bind (fList l hn i h hi f _ hs.2.1 (by omega)) fun r1 q1=>Fin.bind (fList l hn _ _ q1.2 f _ hs.2.1 (by omega)) fun r2 q2=>?_)) fun _=>Fin.ite (fun _=>fJob2 l hn a ha0 ha i h hi _ _ _ _ _) fun _=>fJob2 l hn a ha0 ha i h hi _ _ _ _ _
  have b1:=q1.1
  have b2:=q2.1
  exact fJob3 l hn _ _ q2.2 _ _ _ _ _ (by omega) (by omega)
 have hj0:∀ (y x:Int) (b:Bool) (i h op f n:Int),0≤y → y < 4 → dAt l i → Fin (fun k=>spec_l10DrawJob.j0 k a y x b l i h op f n) (jobQ l):=by
  intro y x b i h op f n h0 h1 hi
  have hs:=sh4 y h0 h1
  refine Fin.step (fun k=>by rw [spec_l10DrawJob.j0]) ?_
  refine Fin.ite (fun _=>Fin.yes hs.1 (Fin.bind (fList l hn i h hi f _ hs.2.1 (by omega)) fun r1 q1=>?_)) fun _=>Fin.ite (fun _=>hj1 _ _ _ _ _ _ _ _ h0 h1 hi) fun _=>hj1 _ _ _ _ _ _ _ _ h0 h1 hi
  have b1:=q1.1
  exact fJob3 l hn _ _ q1.2 _ _ _ _ _ (by omega) (by simp)
 simp only [spec_l10DrawJob.f]
 refine Fin.bind (fBelow l hn i h hi 11) fun r1 q1=>Fin.bind (fBelow l hn _ _ q1.2 9) fun r2 q2=>Fin.bind (fBelow l hn _ _ q2.2 4) fun r3 q3=>?_
 have b3:=q3.1
 exact Fin.ite (fun _=>hj0 _ _ _ _ _ _ _ _ (by omega) (by omega) q3.2) fun _=>hj0 _ _ _ _ _ _ _ _ (by omega) (by omega) q3.2

theorem putAll_isB:∀ l:List Int,isB (putAll l):=by
 intro l
 induction l with
 | nil=>intro y hy;simp [putAll] at hy
 | cons x r ih=>exact isB_append (put_isB _) ih
theorem jobEncV_isB (kind f:Int) (A B:List Int) (n:Int):isB (jobEncV kind f A B n):=by
 unfold jobEncV
 split
 · unfold jobE listE
   refine isB_append (isB_append (isB_append ?_ (put_isB _)) (isB_append (put_isB _) (putAll_isB _))) (isB_append (put_isB _) (putAll_isB _))
   intro y hy
   simp only [List.mem_cons,List.not_mem_nil,or_false] at hy
   omega
 · intro y hy;simp at hy

def packOk (t s:Int) (i:Nat) (j:S49):Bool:=jobB j.f0 j.f1 j.f2 j.f3 j.f4 && (decide (0≤s∧s≤2147483647 - i) && decide (0≤t∧t≤99))
def packL (t s:Int):List S49 → Nat → List Int → List Int × Bool
 | [],_,acc=>(acc,true)
 | j :: r,i,acc=>if packOk t s i j=true then packL t s r (i+1) (acc ++ encB t (s+i) (jobEncV j.f0 j.f1 j.f2 j.f3 j.f4)) else ([],false)
def packV (t s:Int) (js:List S49):List Int × Bool:=if (js.length:Int) > 50 then ([],false) else packL t s js 0 []
theorem packL_len (t s:Int):∀ (rs:List S49) (i:Nat) (acc:List Int),(packL t s rs i acc).1.length≤acc.length+5013 * rs.length:=by
 intro rs
 induction rs with
 | nil=>intro i acc;simp [packL]
 | cons r rs ih =>
  intro i acc
  rw [packL]
  split
  · refine Nat.le_trans (ih _ _) ?_
    have:=encB_len t (s+i) (jobEncV r.f0 r.f1 r.f2 r.f3 r.f4)
    rw [List.length_append,List.length_cons]
    omega
  · simp
theorem packV_len (t s:Int) (js:List S49):(packV t s js).1.length≤250650:=by
 unfold packV
 split
 · simp
 · refine Nat.le_trans (packL_len t s js 0 []) ?_
   rw [List.length_nil]
   omega

theorem sPack_l (t s:Int) (L:List S49) (hn:L.length≤50) (hr:∀ r ∈ L,r.f2.length≤1048576∧r.f3.length≤1048576):∀ (rs A:List S49) (acc:List Int),A ++ rs=L → acc.length≤6000 * A.length → Ev (fun k=>spec_PackJobs.l0 k t s L acc (A.length:Int)) (packL t s rs A.length acc):=by
 intro rs
 induction rs with
 | nil =>
  intro A acc e ha
  rw [List.append_nil] at e
  refine ev_now fun k=>?_
  simp only [spec_PackJobs.l0]
  rw [if_neg (by rw [e];omega)]
  rfl
 | cons r rs ih =>
  intro A acc e ha
  obtain ⟨q1,q2⟩:=hr r (by rw [← e];simp)
  have hlt:A.length < L.length:=by rw [← e];simp
  have hrd:rd_T49 L (A.length:Int)=r:=by rw [← e];exact rd_midJ A r rs
  have c1:(A.length:Int) < (L.length:Int):=by omega
  have c2:(0:Int)≤(A.length:Int):=by omega
  have wM:wrap64 (2147483647 - (A.length:Int))=2147483647 - (A.length:Int):=w64 (by omega) (by omega)
  have hJ:=sJob_ev r.f0 r.f1 r.f2 r.f3 r.f4 q1 q2
  have hl5:=jobEncV_len r.f0 r.f1 r.f2 r.f3 r.f4
  rw [packL]
  by_cases h1:jobB r.f0 r.f1 r.f2 r.f3 r.f4=true
  · by_cases h2:0≤s∧s≤2147483647 - (A.length:Int)
    · by_cases h3:0≤t∧t≤99
      · have hp:packOk t s A.length r=true:=by unfold packOk;rw [h1,decide_eq_true h2,decide_eq_true h3];rfl
        rw [if_pos hp]
        have wS:wrap64 (s+(A.length:Int))=s+A.length:=w64 (by omega) (by omega)
        have hl6:=encB_len t (s+A.length) (jobEncV r.f0 r.f1 r.f2 r.f3 r.f4)
        have key:=ih (A ++ [r]) (acc ++ encB t (s+A.length) (jobEncV r.f0 r.f1 r.f2 r.f3 r.f4)) (by rw [List.append_assoc,List.singleton_append];exact e) (by rw [List.length_append,List.length_append,List.length_singleton];omega)
        rw [List.length_append,List.length_singleton] at key
        obtain ⟨n,e1,e2,e3,e4,e5⟩:=evs5 hJ (sEncJob_ev r.f0 r.f1 r.f2 r.f3 r.f4 q1 q2) (sEncF_ev t (s+A.length) (jobEncV r.f0 r.f1 r.f2 r.f3 r.f4) (jobEncV_isB _ _ _ _ _)) (sJoinB_ev acc (encB t (s+A.length) (jobEncV r.f0 r.f1 r.f2 r.f3 r.f4)) (by omega)) key
        refine ⟨n+2,fun k hk=>?_⟩
        obtain ⟨j,rfl⟩:∃ j,k=n+j+1+1:=⟨k - n - 2,by omega⟩
        have e1':=e1 (j+1)
        rw [show n+(j+1)=n+j+1 by omega] at e1'
        simp only [spec_PackJobs.l0,c1,c2,hrd,e1',h1,in_eq,wM,decide_eq_true h2,decide_eq_true h3,Option.bind_some,if_true,Bool.not_true]
        simp only [spec_PackJobs.j1,c1,c2,hrd,e2 j,wS,e3 j,e4 j,Option.bind_some,if_true,Bool.false_eq_true,if_false]
        rw [wsucc (by omega)]
        exact e5 j
      · have hp:¬ packOk t s A.length r=true:=by unfold packOk;rw [decide_eq_false h3];simp
        rw [if_neg hp]
        obtain ⟨n,e1⟩:=evs1 hJ
        refine ⟨n+2,fun k hk=>?_⟩
        obtain ⟨j,rfl⟩:∃ j,k=n+j+1+1:=⟨k - n - 2,by omega⟩
        have e1':=e1 (j+1)
        rw [show n+(j+1)=n+j+1 by omega] at e1'
        simp only [spec_PackJobs.l0,c1,c2,hrd,e1',h1,in_eq,wM,decide_eq_true h2,decide_eq_false h3,Option.bind_some,if_true,Bool.not_false]
        simp only [spec_PackJobs.j1,if_true]
    · have hp:¬ packOk t s A.length r=true:=by unfold packOk;rw [decide_eq_false h2];simp
      rw [if_neg hp]
      obtain ⟨n,e1⟩:=evs1 hJ
      refine ⟨n+2,fun k hk=>?_⟩
      obtain ⟨j,rfl⟩:∃ j,k=n+j+1+1:=⟨k - n - 2,by omega⟩
      have e1':=e1 (j+1)
      rw [show n+(j+1)=n+j+1 by omega] at e1'
      simp only [spec_PackJobs.l0,c1,c2,hrd,e1',h1,in_eq,wM,decide_eq_false h2,Option.bind_some,if_true,Bool.false_eq_true,if_false]
      simp only [spec_PackJobs.j1,if_true]
  · rw [Bool.not_eq_true] at h1
    have hp:¬ packOk t s A.length r=true:=by unfold packOk;rw [h1];simp
    rw [if_neg hp]
    obtain ⟨n,e1⟩:=evs1 hJ
    refine ⟨n+2,fun k hk=>?_⟩
    obtain ⟨j,rfl⟩:∃ j,k=n+j+1+1:=⟨k - n - 2,by omega⟩
    have e1':=e1 (j+1)
    rw [show n+(j+1)=n+j+1 by omega] at e1'
    simp only [spec_PackJobs.l0,c1,c2,hrd,e1',h1,Option.bind_some,if_true,Bool.false_eq_true,if_false]
    simp only [spec_PackJobs.j1,if_true]
theorem sPack_ev (t s:Int) (L:List S49) (hr:∀ r ∈ L,r.f2.length≤1048576∧r.f3.length≤1048576):Ev (fun k=>spec_PackJobs.f k t s L) (packV t s L):=by
 unfold packV
 by_cases h:(L.length:Int) > 50
 · rw [if_pos h]
   refine ev_some fun k=>?_
   simp only [spec_PackJobs.f]
   rw [if_pos h]
 · rw [if_neg h]
   refine Ev.congr (fun k=>?_) (sPack_l t s L (by omega) hr L [] [] rfl (by simp))
   simp only [spec_PackJobs.f]
   rw [if_neg h]
   rfl

theorem iPack_l (t s:Int) (hs:-9223372036854775808≤s) (L:List S49) (hn:L.length≤50) (hr:∀ r ∈ L,r.f2.length≤1048576∧r.f3.length≤1048576):∀ (rs A:List S49) (acc:List Int),A ++ rs=L → acc.length≤6000 * A.length → (A=[]∨0≤s) → Ev (fun k=>impl_PackJobs.l0 k t s acc L (L.length:Int) (A.length:Int)) (packL t s rs A.length acc):=by
 intro rs
 induction rs with
 | nil =>
  intro A acc e ha hz
  rw [List.append_nil] at e
  refine ev_now fun k=>?_
  simp only [impl_PackJobs.l0]
  rw [if_neg (by rw [e];omega)]
  rfl
 | cons r rs ih =>
  intro A acc e ha hz
  obtain ⟨q1,q2⟩:=hr r (by rw [← e];simp)
  have hlt:A.length < L.length:=by rw [← e];simp
  have hrd:rd_T49 L (A.length:Int)=r:=by rw [← e];exact rd_midJ A r rs
  have c1:(A.length:Int) < (L.length:Int):=by omega
  have c2:(0:Int)≤(A.length:Int):=by omega
  have wM:wrap64 (2147483647 - (A.length:Int))=2147483647 - (A.length:Int):=w64 (by omega) (by omega)
  have hJ:=iJob_ev r.f0 r.f1 r.f2 r.f3 r.f4 q1 q2
  have hl5:=jobEncV_len r.f0 r.f1 r.f2 r.f3 r.f4
  have hA0:A=[] → A.length=0:=fun h=>by rw [h];rfl
  rw [packL]
  by_cases h1:jobB r.f0 r.f1 r.f2 r.f3 r.f4=true
  · by_cases h2:s≤2147483647 - (A.length:Int)
    · have d2:decide (s > 2147483647 - (A.length:Int))=false:=decide_eq_false (by omega)
      have wS:wrap64 (s+(A.length:Int))=s+A.length:=w64 (by omega) (by omega)
      by_cases h3:0≤s∧0≤t∧t≤99
      · have hp:packOk t s A.length r=true:=by unfold packOk;rw [h1,decide_eq_true ⟨h3.1,h2⟩,decide_eq_true h3.2];rfl
        rw [if_pos hp]
        have hf:frOk t (s+A.length) (jobEncV r.f0 r.f1 r.f2 r.f3 r.f4):=by unfold frOk;omega
        have hl6:=encB_len t (s+A.length) (jobEncV r.f0 r.f1 r.f2 r.f3 r.f4)
        have key:=ih (A ++ [r]) (acc ++ encB t (s+A.length) (jobEncV r.f0 r.f1 r.f2 r.f3 r.f4)) (by rw [List.append_assoc,List.singleton_append];exact e) (by rw [List.length_append,List.length_append,List.length_singleton];omega) (.inr h3.1)
        rw [List.length_append,List.length_singleton] at key
        have hE:=iEnc_ev t (s+A.length) (jobEncV r.f0 r.f1 r.f2 r.f3 r.f4) (jobEncV_isB _ _ _ _ _) hf
        rw [show (([199,77] ++ encMid t (s+A.length) (jobEncV r.f0 r.f1 r.f2 r.f3 r.f4)) ++ be4 (cks (encMid t (s+A.length) (jobEncV r.f0 r.f1 r.f2 r.f3 r.f4)) 1 0))=encB t (s+A.length) (jobEncV r.f0 r.f1 r.f2 r.f3 r.f4) by unfold encB;rw [if_pos hf]] at hE
        obtain ⟨n,e1,e2,e3,e4⟩:=evs4 hJ (iEncJ_ev r.f0 r.f1 r.f2 r.f3 r.f4 h1) hE key
        refine ⟨n+2,fun k hk=>?_⟩
        obtain ⟨j,rfl⟩:∃ j,k=n+j+1+1:=⟨k - n - 2,by omega⟩
        have e1':=e1 (j+1)
        rw [show n+(j+1)=n+j+1 by omega] at e1'
        have c3:acc.length+(encB t (s+A.length) (jobEncV r.f0 r.f1 r.f2 r.f3 r.f4)).length < 140737488355328:=by omega
        simp only [impl_PackJobs.l0,c1,c2,hrd,e1',h1,wM,d2,Option.bind_some,if_true]
        simp only [impl_PackJobs.j1,e2 j,wS,iFrame,decide_eq_true hf,e3 j,c3,Option.bind_some,if_true,Bool.false_eq_true,if_false]
        rw [wsucc (by omega)]
        exact e4 j
      · have hp:¬ packOk t s A.length r=true:=by
         unfold packOk
         intro hh
         rw [Bool.and_eq_true,Bool.and_eq_true] at hh
         have g1:=of_decide_eq_true hh.2.1
         have g2:=of_decide_eq_true hh.2.2
         omega
        rw [if_neg hp]
        have hf:¬ frOk t (s+A.length) (jobEncV r.f0 r.f1 r.f2 r.f3 r.f4):=by
         unfold frOk
         rcases hz with hz | hz
         · have:=hA0 hz
           omega
         · omega
        obtain ⟨n,e1,e2⟩:=evs2 hJ (iEncJ_ev r.f0 r.f1 r.f2 r.f3 r.f4 h1)
        refine ⟨n+2,fun k hk=>?_⟩
        obtain ⟨j,rfl⟩:∃ j,k=n+j+1+1:=⟨k - n - 2,by omega⟩
        have e1':=e1 (j+1)
        rw [show n+(j+1)=n+j+1 by omega] at e1'
        simp only [impl_PackJobs.l0,c1,c2,hrd,e1',h1,wM,d2,Option.bind_some,if_true]
        simp only [impl_PackJobs.j1,e2 j,wS,iFrame,decide_eq_false hf,Option.bind_some,Bool.false_eq_true,if_false]
    · have d2:decide (s > 2147483647 - (A.length:Int))=true:=decide_eq_true (by omega)
      have hp:¬ packOk t s A.length r=true:=by
       unfold packOk
       intro hh
       rw [Bool.and_eq_true,Bool.and_eq_true] at hh
       have g1:=of_decide_eq_true hh.2.1
       omega
      rw [if_neg hp]
      obtain ⟨n,e1⟩:=evs1 hJ
      refine ⟨n+2,fun k hk=>?_⟩
      obtain ⟨j,rfl⟩:∃ j,k=n+j+1+1:=⟨k - n - 2,by omega⟩
      have e1':=e1 (j+1)
      rw [show n+(j+1)=n+j+1 by omega] at e1'
      simp only [impl_PackJobs.l0,c1,c2,hrd,e1',h1,wM,d2,Option.bind_some,if_true]
      simp only [impl_PackJobs.j1,if_true]
  · rw [Bool.not_eq_true] at h1
    have hp:¬ packOk t s A.length r=true:=by unfold packOk;rw [h1];simp
    rw [if_neg hp]
    obtain ⟨n,e1⟩:=evs1 hJ
    refine ⟨n+2,fun k hk=>?_⟩
    obtain ⟨j,rfl⟩:∃ j,k=n+j+1+1:=⟨k - n - 2,by omega⟩
    have e1':=e1 (j+1)
    rw [show n+(j+1)=n+j+1 by omega] at e1'
    simp only [impl_PackJobs.l0,c1,c2,hrd,e1',h1,Option.bind_some,if_true,Bool.false_eq_true,if_false]
    simp only [impl_PackJobs.j1,if_true]
theorem iPack_ev (t s:Int) (hs:-9223372036854775808≤s) (L:List S49) (hr:∀ r ∈ L,r.f2.length≤1048576∧r.f3.length≤1048576):Ev (fun k=>impl_PackJobs.f k t s L) (packV t s L):=by
 unfold packV
 by_cases h:(L.length:Int) > 50
 · rw [if_pos h]
   refine ev_some fun k=>?_
   simp only [impl_PackJobs.f]
   rw [if_pos h]
 · rw [if_neg h]
   refine Ev.congr (fun k=>?_) (iPack_l t s hs L (by omega) hr L [] [] rfl (by simp) (.inl rfl))
   simp only [impl_PackJobs.f]
   rw [if_neg h]
   rfl

def jobsQ (r:List S49):Prop:=r.length≤1000∧∀ j ∈ r,j.f2.length≤1048576∧j.f3.length≤1048576
theorem jobsQ_snoc {r:List S49} {j:S49} (h:∀ j ∈ r,j.f2.length≤1048576∧j.f3.length≤1048576) (h1:j.f2.length≤1048576) (h2:j.f3.length≤1048576):∀ x ∈ r ++ [j],x.f2.length≤1048576∧x.f3.length≤1048576:=by
 intro x hx
 rcases List.mem_append.1 hx with hx | hx
 · exact h x hx
 · rw [List.mem_singleton.1 hx];exact ⟨h1,h2⟩
theorem fJobs_l (l:List Int) (hn:l.length≤140737488355328) (m:Int) (hm:m≤900):∀ (d x:Nat) (acc:List S49) (i h:Int),(m - x).toNat=d → acc.length≤x → x≤900 → (∀ j ∈ acc,j.f2.length≤1048576∧j.f3.length≤1048576) → dAt l i → Fin (fun k=>spec_l11DrawJobs.l0 k m acc (x:Int) l i h) (fun r=>(r.1.length≤900∧∀ j ∈ r.1,j.f2.length≤1048576∧j.f3.length≤1048576)∧dAt l r.2.1):=by
 intro d
 induction d with
 | zero =>
  intro x acc i h hd ha hx hj hi
  refine Fin.step (fun k=>by rw [spec_l11DrawJobs.l0]) ?_
  refine Fin.no (by omega) (Fin.now _ ⟨⟨by show acc.length≤900;omega,hj⟩,hi⟩)
 | succ d ih =>
  intro x acc i h hd ha hx hj hi
  refine Fin.step (fun k=>by rw [spec_l11DrawJobs.l0]) ?_
  refine Fin.yes (by omega) (Fin.bind (fJob l hn 6 (by omega) (by omega) i h hi) fun r qr=>?_)
  obtain ⟨qA,qB,qd⟩:=qr
  have qA':r.2.2.1.length≤1048576:=by omega
  have qB':r.2.2.2.1.length≤1048576:=by omega
  have ws:wrap64 ((x:Int)+1)=((x+1:Nat):Int):=wsucc (by omega)
  refine Fin.bind (Q:=fun _=>True) ⟨_,sJob_ev r.1 r.2.1 r.2.2.1 r.2.2.2.1 r.2.2.2.2.1 qA' qB',trivial⟩ fun t _=>?_
  simp only [ws]
  refine Fin.ite (fun _=>Fin.yes (by omega) ?_) fun _=>Fin.bind (fOnce l hn _ _ qd 8) fun r2 q2=>Fin.ite (fun _=>Fin.yes (by omega) ?_) fun _=>?_
  · exact ih (x+1) _ _ _ (by omega) (by rw [List.length_append,List.length_singleton];omega) (by omega) (jobsQ_snoc hj qA' qB') qd
  · exact ih (x+1) _ _ _ (by omega) (by rw [List.length_append,List.length_singleton];omega) (by omega) (jobsQ_snoc hj qA' qB') q2
  · exact ih (x+1) _ _ _ (by omega) (by omega) (by omega) hj q2
theorem fPackJobs (l:List Int) (hn:l.length≤140737488355328):Fin (fun k=>spec_DrawPackJobs.f k l) (fun r=>jobsQ r.2.2∧-9223372036854775808≤r.2.1):=by
 have hj1:∀ (acc:List S49) (i h:Int),jobsQ acc → dAt l i → Fin (fun k=>spec_DrawPackJobs.j1 k acc l i h) (fun r=>jobsQ r.2.2∧-9223372036854775808≤r.2.1):=by
  intro acc i h hq hi
  refine Fin.step (fun k=>by rw [spec_DrawPackJobs.j1]) ?_
  refine Fin.bind (fBelow l hn i h hi 100) fun r1 q1=>Fin.bind (fBelow l hn _ _ q1.2 100) fun r2 q2=>Fin.bind (fPick l hn _ _ q2.2 _ (by simp)) fun r3 q3=>Fin.bind (fBelow l hn _ _ q3.2 1000) fun r4 q4=>Fin.bind (fPick l hn _ _ q4.2 _ (by simp)) fun r5 q5=>Fin.now _ ⟨hq,?_⟩
  have h5:=q5.1
  have h4:=q4.1.1
  simp only [List.mem_cons,List.not_mem_nil,or_false] at h5
  show -9223372036854775808≤r5.1
  omega
 have hl0:∀ (d x:Nat) (acc:List S49) (i h:Int),51 - x=d → x≤51 → acc.length+d≤1000 → (∀ j ∈ acc,j.f2.length≤1048576∧j.f3.length≤1048576) → dAt l i → Fin (fun k=>spec_DrawPackJobs.l0 k acc (x:Int) l i h) (fun r=>jobsQ r.2.2∧-9223372036854775808≤r.2.1):=by
  intro d
  induction d with
  | zero =>
   intro x acc i h hd hx ha hj hi
   refine Fin.step (fun k=>by rw [spec_DrawPackJobs.l0]) ?_
   exact Fin.no (by omega) (hj1 acc i h ⟨by omega,hj⟩ hi)
  | succ d ih =>
   intro x acc i h hd hx ha hj hi
   have ws:wrap64 ((x:Int)+1)=((x+1:Nat):Int):=wsucc (by omega)
   refine Fin.step (fun k=>by rw [spec_DrawPackJobs.l0]) ?_
   refine Fin.yes (by omega) (Fin.yes (by omega) ?_)
   simp only [ws]
   exact ih (x+1) _ _ _ (by omega) (by omega) (by rw [List.length_append,List.length_singleton];omega) (jobsQ_snoc hj (by simp) (by simp)) hi
 obtain ⟨h0,e0⟩:=drawNew l hn
 obtain ⟨m,em,hm⟩:=drawSize l hn 6
 simp only [spec_DrawPackJobs.f]
 refine Fin.bind (Q:=fun r=>r=(l,0,h0)) ⟨_,e0,rfl⟩ fun r hr=>?_
 subst hr
 simp only [em,Option.bind_some]
 refine Fin.bind (fBelow l hn 0 h0 (dAt0 l) m) fun r1 q1=>?_
 have b1:=q1.1
 refine Fin.bind (Q:=fun r=>(r.1.length≤900∧∀ j ∈ r.1,j.f2.length≤1048576∧j.f3.length≤1048576)∧dAt l r.2.1) ?_ fun r2 q2=>Fin.bind (fOnce l hn _ _ q2.2 20) fun r3 q3=>Fin.ite (fun _=>?_) fun _=>hj1 _ _ _ ⟨by have:=q2.1.1;omega,q2.1.2⟩ q3
 · simp only [spec_l11DrawJobs.f]
   exact fJobs_l l hn r1.1 (by omega) r1.1.toNat 0 [] _ _ (by omega) (by simp) (by omega) (by intro j hj;simp at hj) q1.2
 · exact hl0 51 0 r2.1 _ _ (by omega) (by omega) (by have:=q2.1.1;omega) q2.1.2 q3

def packB (t s:Int):List S49 → Nat → List Int
 | [],_=>[]
 | j :: r,i=>encB t (s+i) (jobEncV j.f0 j.f1 j.f2 j.f3 j.f4) ++ packB t s r (i+1)
def packF (t s:Int):List S49 → Nat → List S52
 | [],_=>[]
 | j :: r,i=>⟨t,s+i,jobEncV j.f0 j.f1 j.f2 j.f3 j.f4⟩ :: packF t s r (i+1)
def packA (t s:Int):List S49 → Nat → Prop
 | [],_=>True
 | j :: r,i=>packOk t s i j=true∧packA t s r (i+1)
theorem packL_inv (t s:Int):∀ (rs:List S49) (i:Nat) (acc:List Int),(packL t s rs i acc).2=true → (packL t s rs i acc).1=acc ++ packB t s rs i∧packA t s rs i:=by
 intro rs
 induction rs with
 | nil=>intro i acc _;simp [packL,packB,packA]
 | cons r rs ih =>
  intro i acc h
  rw [packL] at h ⊢
  by_cases hp:packOk t s i r=true
  · rw [if_pos hp] at h ⊢
    obtain ⟨h1,h2⟩:=ih _ _ h
    exact ⟨by rw [h1,packB,List.append_assoc],hp,h2⟩
  · rw [if_neg hp] at h
    cases h
theorem packOk_fr {t s:Int} {i:Nat} {j:S49} (h:packOk t s i j=true):frOk t (s+i) (jobEncV j.f0 j.f1 j.f2 j.f3 j.f4)∧jobB j.f0 j.f1 j.f2 j.f3 j.f4=true:=by
 unfold packOk at h
 rw [Bool.and_eq_true,Bool.and_eq_true] at h
 have h1:=of_decide_eq_true h.2.1
 have h2:=of_decide_eq_true h.2.2
 have h3:=jobEncV_len j.f0 j.f1 j.f2 j.f3 j.f4
 exact ⟨by unfold frOk;omega,h.1⟩
theorem encB_isB (a b:Int) (v:List Int) (hv:isB v):isB (encB a b v):=by
 unfold encB
 split
 · exact isB_append (isB_append (by intro y hy;simp only [List.mem_cons,List.not_mem_nil,or_false] at hy;omega) (encMid_isB a b v hv)) (be_isB4 _)
 · intro y hy;simp at hy
theorem packB_isB (t s:Int):∀ (rs:List S49) (i:Nat),isB (packB t s rs i):=by
 intro rs
 induction rs with
 | nil=>intro i y hy;simp [packB] at hy
 | cons r rs ih=>intro i;rw [packB];exact isB_append (encB_isB _ _ _ (jobEncV_isB _ _ _ _ _)) (ih _)
theorem fdG_pack (t s:Int):∀ (rs:List S49) (i d:Nat) (out:List S52),packA t s rs i → rs.length < d → fdG d (packB t s rs i) out 0=([],0,out ++ packF t s rs i):=by
 intro rs
 induction rs with
 | nil =>
  intro i d out _ hd
  obtain ⟨d,rfl⟩:∃ e,d=e+1:=⟨d - 1,by omega⟩
  rw [packB,fdG_more d out 0 decF_nil,packF,List.append_nil]
 | cons r rs ih =>
  intro i d out h hd
  obtain ⟨d,rfl⟩:∃ e,d=e+1:=⟨d - 1,by omega⟩
  rw [List.length_cons] at hd
  obtain ⟨hf,_⟩:=packOk_fr h.1
  have hlen:=jobEncV_len r.f0 r.f1 r.f2 r.f3 r.f4
  have hvB:=jobEncV_isB r.f0 r.f1 r.f2 r.f3 r.f4
  rw [packB,packF]
  generalize jobEncV r.f0 r.f1 r.f2 r.f3 r.f4=v at hf hlen hvB ⊢
  obtain ⟨hd1,hd2⟩:=decF_enc t (s+i) v hf
  have hE:=encB_isB t (s+i) v hvB
  rcases decF_cases hE with c | ⟨c,_⟩ | ⟨n,c,hn⟩
  · rw [hd1] at c
    have h0:(0:Int)=frMore.2.2.2.2:=congrArg (fun x:FrT=>x.2.2.2.2) c
    exact absurd h0 (by decide)
  · rw [hd1] at c
    have h0:(0:Int)=frBad.2.2.2.2:=congrArg (fun x:FrT=>x.2.2.2.2) c
    exact absurd h0 (by decide)
  · have c2:=(decF_app (m:=packB t s rs (i+1)) hE).2 n c hn
    rw [hd1] at c
    rw [← c] at c2
    have e1:((t,s+(i:Int),v,((13+v.length:Nat):Int),0):FrT).2.2.2.1.toNat=(encB t (s+i) v).length:=by rw [hd2];rfl
    rw [fdG,c2,if_pos rfl,e1,List.drop_left,ih (i+1) d _ h.2 (by omega),List.append_assoc]
    rfl
theorem packF_len (t s:Int):∀ (rs:List S49) (i:Nat),(packF t s rs i).length=rs.length:=by
 intro rs
 induction rs with
 | nil=>intro i;rfl
 | cons r rs ih=>intro i;rw [packF,List.length_cons,List.length_cons,ih]
theorem packF_at (t s:Int):∀ (rs:List S49) (i q:Nat) (hq:q < rs.length),packA t s rs i → rd_T52 (packF t s rs i) (q:Int)=⟨t,s+((i+q:Nat):Int),jobEncV rs[q].f0 rs[q].f1 rs[q].f2 rs[q].f3 rs[q].f4⟩∧packOk t s (i+q) rs[q]=true:=by
 intro rs
 induction rs with
 | nil=>intro i q hq;simp at hq
 | cons r rs ih =>
  intro i q hq h
  cases q with
  | zero=>exact ⟨rfl,h.1⟩
  | succ q =>
   rw [List.length_cons] at hq
   have:=ih (i+1) q (by omega) h.2
   rw [show i+1+q=i+(q+1) by omega] at this
   refine ⟨?_,this.2⟩
   rw [packF]
   have e:rd_T52 (⟨t,s+(i:Int),jobEncV r.f0 r.f1 r.f2 r.f3 r.f4⟩ :: packF t s rs (i+1)) ((q+1:Nat):Int)=rd_T52 (packF t s rs (i+1)) (q:Int):=by
    simp only [rd_T52,Int.toNat_natCast,List.getD_cons_succ]
   rw [e]
   exact this.1
theorem packB_len (t s:Int):∀ (rs:List S49) (i:Nat),packA t s rs i → rs.length≤(packB t s rs i).length:=by
 intro rs
 induction rs with
 | nil=>intro i _;simp
 | cons r rs ih =>
  intro i h
  have h1:=ih (i+1) h.2
  have h2:=(decF_enc t (s+i) _ (packOk_fr h.1).1).2
  rw [packB,List.length_append,List.length_cons,h2]
  omega

end Go.Proofs.Ytogdhclomgafdaa.QFnWireJobs

