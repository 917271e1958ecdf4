/- The pure statement of FnWireJobs, with no condition beyond the law's own. -/
import Derived.Test.YtogdhclomgafdaaZFWJx25
import Derived.Test.YtogdhclomgafdaaZFWJx27
namespace Go.Proofs.Ytogdhclomgafdaa.Pure
open Go.RowKit Go.Proofs.Ytogdhclomgafdaa.QFnWireJobs Go.Proofs.Ytogdhclomgafdaa.PFnWireJobs Go.Proofs.YtogdhclomgafdaaW.PrintWords Go.Proofs.YtogdhclomgafdaaW.PrintLast Go.Proofs.Ytogdhclomgafdaa.Math
set_option linter.unusedVariables false
set_option linter.unusedSimpArgs false

theorem wj_l1 (t s:Int) (L:List S49) (hn:L.length≤50) (hA:packA t s L 0):∀ (d i:Nat),L.length - i=d → i≤L.length → Ev (fun k=>laws_FnWireJobs.l1 k t s L (packF t s L 0) (i:Int)) true:=by
 have hlen:=packF_len t s L 0
 intro d
 induction d with
 | zero =>
  intro i hd hi
  refine ev_now fun k=>?_
  simp only [laws_FnWireJobs.l1]
  rw [if_neg (by omega)]
 | succ d ih =>
  intro i hd hi
  have hi2:i < L.length:=by omega
  obtain ⟨e,hp⟩:=packF_at t s L 0 i hi2 hA
  rw [Nat.zero_add] at e hp
  obtain ⟨hf,hj⟩:=packOk_fr hp
  have hrd:rd_T49 L (i:Int)=L[i]:=by simp [rd_T49,List.getD_eq_getElem?_getD,hi2]
  have hl5:=jobEncV_len L[i].f0 L[i].f1 L[i].f2 L[i].f3 L[i].f4
  obtain ⟨⟨a1,_⟩,⟨b1,_⟩,_,_⟩:=job_words hj
  have hU:=iUnpack_ev t (s+i) (jobEncV L[i].f0 L[i].f1 L[i].f2 L[i].f3 L[i].f4) (by omega) (jobEncV_isB _ _ _ _ _)
  unfold unpV at hU
  rw [if_pos hf,dec_enc hj] at hU
  have hw:wrap64 (s+(i:Int))=s+i:=by
   unfold frOk at hf
   exact w64 (by omega) (by omega)
  obtain ⟨n,e1,e2,e3⟩:=evs3 hU (sameJob_ev L[i].f0 L[i].f1 L[i].f4 L[i].f2 L[i].f3 (by omega) (by omega)) (ih (i+1) (by omega) (by omega))
  refine ⟨n+1,fun k hk=>?_⟩
  obtain ⟨j,rfl⟩:∃ j,k=n+j+1:=⟨k - n - 1,by omega⟩
  simp only [laws_FnWireJobs.l1,e,hrd,e1 j,e2 j,hw,Option.bind_some,if_true]
  rw [if_pos (by omega),if_pos (by omega),if_pos (by omega),wsucc (by omega)]
  exact e3 j
theorem wj_l0 (t s:Int) (L:List S49) (hn:L.length≤50) (hA:packA t s L 0) (b:List Int) (hb:b=packB t s L 0) (hl:b.length≤20000) (n:Nat) (hn5:5≤n) (hn2:n≤260):∀ (d i:Nat) (acc:List (List Int)),b.length - i=d → acc.flatten=b.take i → 5 * acc.length≤i → i≤b.length+n → (∀ c ∈ acc,isB c) → (∀ c ∈ acc,c.length≤1048576) → Ev (fun k=>laws_FnWireJobs.l0 k t s L b acc (n:Int) (i:Int)) true:=by
 have hB:isB b:=by rw [hb];exact packB_isB t s L 0
 have hbL:L.length≤b.length:=by rw [hb];exact packB_len t s L 0 hA
 intro d
 induction d using Nat.strongRecOn with
 | _ d ih =>
  intro i acc hd hf h5 hin hcB hcl
  by_cases h:i < b.length
  · have wI:wrap64 ((i:Int)+(n:Int))=((i+n:Nat):Int):=w64n (by omega) (by omega)
    have step:∀ (m:Nat),m=min (i+n) b.length → Ev (fun k=>laws_FnWireJobs.l0 k t s L b (acc ++ [(b.take m).drop i]) (n:Int) ((i+n:Nat):Int)) true:=by
     intro m hm
     refine ih (b.length - (i+n)) (by omega) (i+n) _ rfl ?_ ?_ (by omega) ?_ ?_
     · rw [List.flatten_append,hf,List.flatten_cons,List.flatten_nil,List.append_nil]
       have e1:b.take (i+n)=b.take m:=by
        by_cases hx:i+n≤b.length
        · rw [hm,Nat.min_eq_left hx]
        · rw [hm,Nat.min_eq_right (by omega),List.take_of_length_le (by omega),List.take_of_length_le (by omega)]
       have e2:b.take i=(b.take m).take i:=by rw [List.take_take,Nat.min_eq_left (by omega)]
       rw [e1,e2,List.take_append_drop]
     · rw [List.length_append,List.length_singleton];omega
     · intro c hc
       rcases List.mem_append.1 hc with hc | hc
       · exact hcB c hc
       · rw [List.mem_singleton.1 hc]
         exact fun y hy=>hB y (List.mem_of_mem_take (List.mem_of_mem_drop hy))
     · intro c hc
       rcases List.mem_append.1 hc with hc | hc
       · exact hcl c hc
       · rw [List.mem_singleton.1 hc,List.length_drop,List.length_take];omega
    have cp:∀ m:Nat,Ev (fun k=>laws_cpBytes.f k ((b.take m).drop i)) ((b.take m).drop i):=fun m=>cpBytes_ev _ (by rw [List.length_drop,List.length_take];omega)
    by_cases hx:(((i+n:Nat):Int)) > (b.length:Int)
    · obtain ⟨q,e1,e2⟩:=evs2 (cp b.length) (step b.length (by omega))
      refine ⟨q+1,fun k hk=>?_⟩
      obtain ⟨j,rfl⟩:∃ j,k=q+j+1:=⟨k - q - 1,by omega⟩
      simp only [laws_FnWireJobs.l0,wI,Int.toNat_natCast,e1 j,Option.bind_some]
      rw [if_pos (by omega),if_pos hx,if_pos (by omega),if_pos (by omega),if_pos (by omega),if_pos (by omega)]
      exact e2 j
    · obtain ⟨q,e1,e2⟩:=evs2 (cp (i+n)) (step (i+n) (by omega))
      refine ⟨q+1,fun k hk=>?_⟩
      obtain ⟨j,rfl⟩:∃ j,k=q+j+1:=⟨k - q - 1,by omega⟩
      simp only [laws_FnWireJobs.l0,wI,Int.toNat_natCast,e1 j,Option.bind_some]
      rw [if_pos (by omega),if_neg hx,if_pos (by omega),if_pos (by omega),if_pos (by omega),if_pos (by omega)]
      exact e2 j
  · have hfl:acc.flatten=b:=by rw [hf,List.take_of_length_le (by omega)]
    have hfa:=iFA_ev acc hcB hcl (by omega)
    unfold faV at hfa
    rw [if_pos ⟨by omega,by rw [← totC_flatten,hfl];exact hl⟩,hfl] at hfa
    have hg:=fdG_pack t s L 0 (b.length+1) [] hA (by omega)
    rw [← hb,List.nil_append] at hg
    rw [hg] at hfa
    have hlen:=packF_len t s L 0
    obtain ⟨q,e1,e2⟩:=evs2 hfa (wj_l1 t s L hn hA L.length 0 (by omega) (by omega))
    refine ⟨q+2,fun k hk=>?_⟩
    obtain ⟨j,rfl⟩:∃ j,k=q+j+1+1:=⟨k - q - 2,by omega⟩
    have e1':=e1 (j+1)
    rw [show q+(j+1)=q+j+1 by omega] at e1'
    simp only [laws_FnWireJobs.l0,e1',Option.bind_some,hlen,if_true]
    rw [if_neg (by omega)]
    simp only [laws_FnWireJobs.j3,List.length_nil]
    exact e2 j
theorem FnWireJobs:laws_FnWireJobs.Pure:=by
 intro code _ hl hwf
 have hbc:isB code:=isB_of hwf
 by_cases hbig:(code.length:Int) > 1048576
 · exact ⟨0,by simp only [laws_FnWireJobs.f,laws_big.f,decide_eq_true hbig,Option.bind_some,if_true]⟩
 have hb:laws_big.f code=some false:=by simp only [laws_big.f,decide_eq_false hbig]
 obtain ⟨⟨t,s,L⟩,e0,⟨hL,hj⟩,hs⟩:=fPackJobs code (by omega)
 simp only at hL hj hs
 have hS:=sPack_ev t s L hj
 have hI:=iPack_ev t s hs L hj
 have hV:=packV_len t s L
 obtain ⟨P,hP⟩:∃ P,packV t s L=P:=⟨_,rfl⟩
 rw [hP] at hS hI hV
 obtain ⟨b,ok⟩:=P
 simp only at hV
 have yes:Ev (fun k=>laws_FnWireJobs.j0 k code t s L b true) true:=ev_now fun k=>by simp only [laws_FnWireJobs.j0,if_true]
 cases ok with
 | false =>
  obtain ⟨m,k0,k1,k2⟩:=evs3 e0 hS yes
  refine ⟨m+0,?_⟩
  simp only [laws_FnWireJobs.f,hb,k0 0,k1 0,Option.bind_some,Bool.false_eq_true,if_false]
  exact k2 0
 | true =>
  have hJ:Ev (fun k=>laws_FnWireJobs.j0 k code t s L b (decide ((b.length:Int) > 20000))) true:=by
   by_cases h:(b.length:Int) > 20000
   · rw [decide_eq_true h];exact yes
   · rw [decide_eq_false h]
     have h50:L.length≤50:=by
      unfold packV at hP
      split at hP
      · cases hP
      · omega
     have hPL:packL t s L 0 []=(b,true):=by
      unfold packV at hP
      rw [if_neg (by omega)] at hP
      exact hP
     obtain ⟨q1,q2⟩:=packL_inv t s L 0 [] (by rw [hPL])
     rw [hPL,List.nil_append] at q1
     obtain ⟨c,hc,hc0,hc1⟩:=lawsAtB code hbc (by omega) 0 (by omega)
     have hc:laws_at.f code 0=some c:=hc
     obtain ⟨n,hn⟩:∃ n:Nat,wrap64 (5+c)=(n:Int):=⟨(5+c).toNat,by rw [w64 (by omega) (by omega)];omega⟩
     have hn2:(n:Int)=5+c:=by rw [← hn];exact w64 (by omega) (by omega)
     have hl0:=wj_l0 t s L h50 q2 b q1 (by omega) n (by omega) (by omega) b.length 0 [] (by omega) (by simp) (by simp) (by omega) (by intro c hc;simp at hc) (by intro c hc;simp at hc)
     obtain ⟨m,k1,k2,k3⟩:=evs3 hI (sameB_ev b (by omega)) hl0
     refine ⟨m+2,fun k hk=>?_⟩
     obtain ⟨j,rfl⟩:∃ j,k=m+j+1+1:=⟨k - m - 2,by omega⟩
     have k1':=k1 (j+1)
     have k2':=k2 (j+1)
     rw [show m+(j+1)=m+j+1 by omega] at k1' k2'
     simp only [laws_FnWireJobs.j0,k1',k2',Option.bind_some,if_true,Bool.false_eq_true,if_false,Bool.not_true]
     simp only [laws_FnWireJobs.j1,hc,hn,Option.bind_some,Bool.false_eq_true,if_false]
     exact k3 j
  obtain ⟨m,k0,k1,k2⟩:=evs3 e0 hS hJ
  refine ⟨m+0,?_⟩
  simp only [laws_FnWireJobs.f,hb,k0 0,k1 0,Option.bind_some,if_true]
  exact k2 0

end Go.Proofs.Ytogdhclomgafdaa.Pure
