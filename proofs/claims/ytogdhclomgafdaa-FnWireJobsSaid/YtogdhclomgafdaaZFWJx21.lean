-- Written by a program of this session (the print of the kit with contracts of this session's own added)
import Derived.Test.YtogdhclomgafdaaZFWJx20
set_option maxHeartbeats 8000000
set_option maxRecDepth 100000
namespace Go.Proofs.Ytogdhclomgafdaa.PFnWireJobs
open Go.RowKit Go.Proofs.YtogdhclomgafdaaW.PrintWords Go.Proofs.YtogdhclomgafdaaW.PrintLast Go.Proofs.YtogdhclomgafdaaW.PrintMore Go.Proofs.YtogdhclomgafdaaW.PrintPack Go.Proofs.YtogdhclomgafdaaW.PrintPack
set_option linter.unusedVariables false
set_option linter.unusedSimpArgs false

mutual
def spec_PackJobs.l0:Nat → Int → Int → List (S49) → List Int → Int → Option (List Int × Bool)
 | 0,_,_,_,_,_=>none
 | k+1,x0,x1,x2,x8,x9=>if x9 < (x2.length:Int) then (if 0≤x9 then ((spec_JobOk.f k ((rd_T49 x2 x9).f0) ((rd_T49 x2 x9).f1) ((rd_T49 x2 x9).f2) ((rd_T49 x2 x9).f3) ((rd_T49 x2 x9).f4)).bind fun t841=>(if t841=true then ((spec_l01In.f x1 0 (wrap64 (2147483647 - x9))).bind fun t842=>(if t842=true then ((spec_l01In.f x0 0 99).bind fun t843=>(spec_PackJobs.j1 k x0 x1 x2 x8 x9 (!t843))) else (spec_PackJobs.j1 k x0 x1 x2 x8 x9 true))) else (spec_PackJobs.j1 k x0 x1 x2 x8 x9 true))) else (none)) else (some (x8,true))
def spec_PackJobs.j1:Nat → Int → Int → List (S49) → List Int → Int → Bool → Option (List Int × Bool)
 | 0,_,_,_,_,_,_=>none
 | k+1,x0,x1,x2,x8,x9,x37=>if x37=true then (some (([]:List Int),false)) else (if 0≤x9 then (if x9 < (x2.length:Int) then ((spec_EncodeJob.f k ((rd_T49 x2 x9).f0) ((rd_T49 x2 x9).f1) ((rd_T49 x2 x9).f2) ((rd_T49 x2 x9).f3) ((rd_T49 x2 x9).f4)).bind fun t845=>((spec_EncodeFrame.f k x0 (wrap64 (x1+x9)) t845).bind fun t848=>((spec_l01Join.f k x8 t848).bind fun t851=>(spec_PackJobs.l0 k x0 x1 x2 t851 (wrap64 (x9+1)))))) else (none)) else (none))
end
def spec_PackJobs.f (k:Nat) (a0:Int) (a1:Int) (l2:List (S49)):Option (List Int × Bool):=if (l2.length:Int) > 50 then (some (([]:List Int),false)) else (spec_PackJobs.l0 k a0 a1 l2 (([]:List Int)) 0)
theorem spec_PackJobs.calls (k:Nat) (a0:Int) (a1:Int) (A2:Option Addr) (c2:Nat) (l2:List (S49)) (r1:List Int) (r2:Bool) (w:World) (hr2:Kd.C k49 w A2 l2.length l2) (hc2:l2.length≤c2) (h:spec_PackJobs.f k a0 a1 l2=some (r1,r2)) :
 Calls Try.prog 55 #[.int .i64 a0,.int .i64 a1,.slice A2 l2.length c2] w fun e w'=>∃ v0_:Value,e=.returned (.tuple #[v0_,.bool r2])∧Kd.R (Kd.int .u8) 5 w' w.heap.size (fun _=>True) v0_ r1∧Below w.heap.size w w':=by
 have b0:=Try.underlying49;have b1:=Try.underlying52;have b2:=ak hr2;have B0:=ak hc2;clear hr2 hc2;have HB:=ak (Below.refl w.heap.size w);have H:=h;clear h;unfold spec_PackJobs.f at H;obtain ⟨k0,hyq⟩:∃ y_:List Int,y_=(([]:List Int)):=⟨_,rfl⟩;replace H:(if (l2.length:Int) > 50 then (some (([]:List Int),false)) else (spec_PackJobs.l0 k a0 a1 l2 k0 0))=some (r1,r2):=xq7
 have K0:=ak hyq;clear hyq
 by_cases c4:(l2.length:Int) > 50
 · rw [if_pos c4] at H;have x0:decide (50 < (l2.length:Int))=true:=decide_eq_true c4;have x1:decide (50 < l2.length)=true:=decide_eq_true (by omega);clear c4;simp only [Option.some.injEq,Prod.mk.injEq] at H;obtain ⟨rfl,rfl⟩:=H;go_enter Try.func55,Try.ntmps55
   go_wp2_with (first | ((with_reducible refine gate_dst (N:=10) rfl ?_);refine Kd.R_lit (Kd.int .u8) _ 5 ?hg (N:=10) ?hd (xs:=([]:List Int)) (inner:=[]) (ok:=fun _=>True) (okp:=fun _=>True) ?hr ?hp (fun _ hk=>hk) trivial (Below.refl _ _) (Nat.le_refl _) (by simp) ?_;(case hd=>rfl);(case hg=>rfl);(case hr=>exact xq10);(case hp=>exact (Reps.none _ _));intro N0 w5 u5 hb hg_ hnew_;clear hg_ hnew_;(first | rw [← K0.out] at u5 | (simp only [Int.reduceToNat] at u5;rw [← K0.out] at u5));have U0:=rL u5;replace HB:=bS hb;clear hb u5))
   go_ret2
   exact ⟨_,xq4,xq16,belA⟩
 rw [if_neg c4] at H;have x0:decide (50 < (l2.length:Int))=false:=decide_eq_false c4;have x1:decide (50 < l2.length)=false:=decide_eq_false (by omega);clear c4;have H':=ak H;clear H;go_enter Try.func55,Try.ntmps55
 go_wp2_with (first | ((with_reducible refine gate_dst (N:=10) rfl ?_);refine Kd.R_lit (Kd.int .u8) _ 5 ?hg (N:=10) ?hd (xs:=([]:List Int)) (inner:=[]) (ok:=fun _=>True) (okp:=fun _=>True) ?hr ?hp (fun _ hk=>hk) trivial (Below.refl _ _) (Nat.le_refl _) (by simp) ?_;(case hd=>rfl);(case hg=>rfl);(case hr=>exact xq10);(case hp=>exact (Reps.none _ _));intro N0 w7 u6 hb hg_ hnew_;clear hg_ hnew_;(first | rw [← K0.out] at u6 | (simp only [Int.reduceToNat] at u6;rw [← K0.out] at u6));have U0:=rL u6;replace HB:=bS hb;clear hb u6))
 go_loopg [8,9] k (fun kq v8 v9 w'=>∃ (w3:List Int) (w4:Int),v9=.int .i64 w4∧Aside0 (spec_PackJobs.l0 kq a0 a1 l2 w3 w4=some (r1,r2))∧Aside0 (kq≤k)∧Aside0 (Kd.R (Kd.int .u8) 5 w' w.heap.size (fun _=>True) v8 w3)∧Aside0 (Below w.heap.size w w'))
 case atStart=>exact ⟨(k0),(0),eqA,H',⟨Nat.le_refl _⟩,⟨rA U0⟩,⟨belA⟩⟩
 case round =>
  clear H';obtain ⟨w3,w4,rfl,HA,W0,U1,HB⟩:=hrel
  cases gk with
  | zero=>exact absurd HA.out (by simp [spec_PackJobs.l0])
  | succ k1 =>
   have H:=HA.out;clear HA;simp only [spec_PackJobs.l0] at H
   by_cases c9:w4 < (l2.length:Int);rotate_left
   · rw [if_neg c9] at H;have x2:=decide_eq_false c9;clear c9;simp only [Option.some.injEq,Prod.mk.injEq] at H;obtain ⟨rfl,rfl⟩:=H;go_wp2
     go_ret2
     exact ⟨_,xq4,xq23,belA⟩
   rw [if_pos c9] at H;have x2:=decide_eq_true c9;clear c9;have B2:=ak H;clear H;go_upto_region 7 with (fail)
   go_cut [37] (fun N1 wc=>∃ (kq:Nat) (w6:Bool),N1=.bool w6∧Aside0 (spec_PackJobs.j1 kq a0 a1 l2 w3 w4 w6=some (r1,r2))∧Aside0 (kq≤k1)∧Aside0 (Kd.R (Kd.int .u8) 5 wc w.heap.size (fun _=>True) u8 w3)∧Aside0 (Below w.heap.size w wc))
   case first =>
    have H:=B2.out;clear B2
    obtain ⟨x3,H⟩:=iN H;have x4:=decide_eq_true x3;clear x3;(first | rw [x4] | (simp only [i64_w,i32_w];rw [x4]) | skip)
    obtain ⟨p0,g3,H⟩:=ob H;(try dsimp only at H)
    by_cases x5:p0=true;rotate_left
    · replace x5:=Bool.eq_false_iff.mpr x5;subst x5;rw [if_neg (show ¬ (false=true) by decide)] at H;have H':=ak H;clear H;have V0:0≤(w4:Int):=odA;have a5:w4 < (l2.length:Int):=odA;obtain ⟨A0,g4,x6,g5,x7,o0,O0,O1,O2,O3,O4,p1,q0,p2,q1⟩:=at_T49 b2.out w4 V0 a5
      cases o0
      try replace O0:=cB HB O0
      try replace O1:=cB HB O1
      try replace O2:=cB HB O2
      try replace O3:=cB HB O3
      try replace O4:=cB HB O4
      have b3:=ak q0;have B6:=ak p1;clear q0 p1;have b4:=ak q1;have B8:=ak p2;clear q1 p2;replace V0:=eq_true V0;replace a5:=eq_true a5;go_wp2_with (first | ((with_reducible refine gate_callee (f:=45) rfl ?_);refine goB 24 Try.func45 #[.agg #[.int .i64 ((rd_T49 l2 w4).f0),.int .i64 ((rd_T49 l2 w4).f1),.slice g4 ((rd_T49 l2 w4).f2).length x6,.slice g5 ((rd_T49 l2 w4).f3).length x7,.int .i64 ((rd_T49 l2 w4).f4)]] rfl ?_;(with_reducible refine (spec_JobOk.calls k1 ((rd_T49 l2 w4).f0) ((rd_T49 l2 w4).f1) _ _ ((rd_T49 l2 w4).f2) _ _ ((rd_T49 l2 w4).f3) ((rd_T49 l2 w4).f4) false _ ?side1 B6.out ?side3 B8.out g3.out).mono ?_);(case side1=>exact cA (Kd.C_below b3.out HB.out));(case side3=>exact cA (Kd.C_below b4.out HB.out));rintro e S0 ⟨rfl,hb⟩;refine ⟨_,rfl,?_⟩;replace U1:=ak (Kd.R_below (rF U1) hb);replace HB:=bS hb;(try clear hb)))
      go_meet
      case rel=>exact ⟨_,(true),eqA,H',⟨xq25⟩,⟨rA U1⟩,⟨belA⟩⟩
    subst x5;rw [if_pos rfl] at H;obtain ⟨p3,g6,H⟩:=ob H;(try dsimp only at H)
    by_cases x8:p3=true;rotate_left
    · replace x8:=Bool.eq_false_iff.mpr x8;subst x8;rw [if_neg (show ¬ (false=true) by decide)] at H;have H':=ak H;clear H;have V0:0≤(w4:Int):=odA;have a5:w4 < (l2.length:Int):=odA;obtain ⟨A0,g4,x6,g5,x7,o0,O0,O1,O2,O3,O4,p1,q0,p2,q1⟩:=at_T49 b2.out w4 V0 a5
      cases o0
      try replace O0:=cB HB O0
      try replace O1:=cB HB O1
      try replace O2:=cB HB O2
      try replace O3:=cB HB O3
      try replace O4:=cB HB O4
      have b3:=ak q0;have B6:=ak p1;clear q0 p1;have b4:=ak q1;have B8:=ak p2;clear q1 p2;replace V0:=eq_true V0;replace a5:=eq_true a5;go_wp2_with (first | ((with_reducible refine gate_callee (f:=45) rfl ?_);refine goB 24 Try.func45 #[.agg #[.int .i64 ((rd_T49 l2 w4).f0),.int .i64 ((rd_T49 l2 w4).f1),.slice g4 ((rd_T49 l2 w4).f2).length x6,.slice g5 ((rd_T49 l2 w4).f3).length x7,.int .i64 ((rd_T49 l2 w4).f4)]] rfl ?_;(with_reducible refine (spec_JobOk.calls k1 ((rd_T49 l2 w4).f0) ((rd_T49 l2 w4).f1) _ _ ((rd_T49 l2 w4).f2) _ _ ((rd_T49 l2 w4).f3) ((rd_T49 l2 w4).f4) true _ ?side1 B6.out ?side3 B8.out g3.out).mono ?_);(case side1=>exact cA (Kd.C_below b3.out HB.out));(case side3=>exact cA (Kd.C_below b4.out HB.out));rintro e S1 ⟨rfl,hb⟩;refine ⟨_,rfl,?_⟩;replace U1:=ak (Kd.R_below (rF U1) hb);replace HB:=bS hb;(try clear hb)) | (go_at_call 62;(with_reducible refine (spec_l01In.calls a1 0 (wrap64 (2147483647 - w4)) false _ g6.out).mono ?_);rintro e w' ⟨rfl,⟨nd,rfl⟩⟩))
      go_meet
      case rel=>exact ⟨_,(true),eqA,H',⟨xq25⟩,⟨rA U1⟩,⟨belA⟩⟩
    subst x8;rw [if_pos rfl] at H;obtain ⟨p4,g7,H⟩:=ob H;(try dsimp only at H);have H':=ak H;clear H;have V0:0≤(w4:Int):=odA;have a5:w4 < (l2.length:Int):=odA;obtain ⟨A0,g4,x6,g5,x7,o0,O0,O1,O2,O3,O4,p1,q0,p2,q1⟩:=at_T49 b2.out w4 V0 a5
    cases o0
    try replace O0:=cB HB O0
    try replace O1:=cB HB O1
    try replace O2:=cB HB O2
    try replace O3:=cB HB O3
    try replace O4:=cB HB O4
    have b3:=ak q0;have B6:=ak p1;clear q0 p1;have b4:=ak q1;have B8:=ak p2;clear q1 p2;replace V0:=eq_true V0;replace a5:=eq_true a5;go_wp2_with (first | ((with_reducible refine gate_callee (f:=45) rfl ?_);refine goB 24 Try.func45 #[.agg #[.int .i64 ((rd_T49 l2 w4).f0),.int .i64 ((rd_T49 l2 w4).f1),.slice g4 ((rd_T49 l2 w4).f2).length x6,.slice g5 ((rd_T49 l2 w4).f3).length x7,.int .i64 ((rd_T49 l2 w4).f4)]] rfl ?_;(with_reducible refine (spec_JobOk.calls k1 ((rd_T49 l2 w4).f0) ((rd_T49 l2 w4).f1) _ _ ((rd_T49 l2 w4).f2) _ _ ((rd_T49 l2 w4).f3) ((rd_T49 l2 w4).f4) true _ ?side1 B6.out ?side3 B8.out g3.out).mono ?_);(case side1=>exact cA (Kd.C_below b3.out HB.out));(case side3=>exact cA (Kd.C_below b4.out HB.out));rintro e S2 ⟨rfl,hb⟩;refine ⟨_,rfl,?_⟩;replace U1:=ak (Kd.R_below (rF U1) hb);replace HB:=bS hb;(try clear hb)) | (go_at_call 62;(with_reducible refine (spec_l01In.calls a1 0 (wrap64 (2147483647 - w4)) true _ g6.out).mono ?_);rintro e w' ⟨rfl,⟨nd,rfl⟩⟩) | (go_at_call 62;(with_reducible refine (spec_l01In.calls a0 0 99 p4 _ g7.out).mono ?_);rintro e w' ⟨rfl,⟨nd,rfl⟩⟩))
    go_meet
    case rel=>exact ⟨_,(!p4),eqA,H',⟨xq25⟩,⟨rA U1⟩,⟨belA⟩⟩
   case rest =>
    clear B2;obtain ⟨kq,w6,rfl,HA,c0,U1,HB⟩:=hcut
    cases kq with
    | zero=>exact absurd HA.out (by simp [spec_PackJobs.j1])
    | succ y0 =>
     have H:=HA.out;clear HA;simp only [spec_PackJobs.j1] at H
     by_cases x9:w6=true
     · subst x9;rw [if_pos rfl] at H;simp only [Option.some.injEq,Prod.mk.injEq] at H;obtain ⟨rfl,rfl⟩:=H;go_wp2
       go_ret2
       exact ⟨_,xq4,xq16,belA⟩
     replace x9:=Bool.eq_false_iff.mpr x9;subst x9;rw [if_neg (show ¬ (false=true) by decide)] at H
     obtain ⟨xa,H⟩:=iN H;have xb:=decide_eq_true xa;clear xa
     obtain ⟨xc,H⟩:=iN H;have xd:=decide_eq_true xc;clear xc;obtain ⟨p5,g8,H⟩:=ob H;(try dsimp only at H);obtain ⟨p6,g9,H⟩:=ob H;(try dsimp only at H);obtain ⟨p7,ga,H⟩:=ob H;(try dsimp only at H);have H':=ak H;clear H;have V1:0≤(w4:Int):=odA;have a6:w4 < (l2.length:Int):=odA;obtain ⟨A1,gb,xe,gc,xf,o1,O5,O6,O7,O8,O9,p8,q2,p9,q3⟩:=at_T49 b2.out w4 V1 a6
     cases o1
     try replace O5:=cB HB O5
     try replace O6:=cB HB O6
     try replace O7:=cB HB O7
     try replace O8:=cB HB O8
     try replace O9:=cB HB O9
     have b5:=ak q2;have B9:=ak p8;clear q2 p8;have b6:=ak q3;have Ba:=ak p9;clear q3 p9;replace V1:=eq_true V1;replace a6:=eq_true a6;go_wp2_with (first | ((with_reducible refine gate_callee (f:=89) rfl ?_);refine goB 47 Try.func89 #[.agg #[.int .i64 ((rd_T49 l2 w4).f0),.int .i64 ((rd_T49 l2 w4).f1),.slice gb ((rd_T49 l2 w4).f2).length xe,.slice gc ((rd_T49 l2 w4).f3).length xf,.int .i64 ((rd_T49 l2 w4).f4)]] rfl ?_;(with_reducible refine (spec_EncodeJob.calls y0 ((rd_T49 l2 w4).f0) ((rd_T49 l2 w4).f1) _ _ ((rd_T49 l2 w4).f2) _ _ ((rd_T49 l2 w4).f3) ((rd_T49 l2 w4).f4) p5 _ ?side1 B9.out ?side3 Ba.out g8.out).mono ?_);(case side1=>exact cA (Kd.C_below b5.out HB.out));(case side3=>exact cA (Kd.C_below b6.out HB.out));rintro e S3 ⟨N2,rfl,u7,hb⟩;refine ⟨_,rfl,?_⟩;have U2:=rL (Kd.R_new' u7 (Kd.R_lt (rF U1)));replace U1:=ak (Kd.R_elder' (rF U1) (Kd.R_base u7) hb);replace HB:=bS hb;(try clear hb u7);obtain ⟨d0,D0,rfl⟩:=Kd.R_slice U2.out) | ((with_reducible refine gate_callee (f:=97) rfl ?_);refine goB 49 Try.func97 #[.agg #[.int .i64 a0,.int .i64 (wrap64 (a1+w4)),.slice d0 p5.length D0]] rfl ?_;(with_reducible refine (spec_EncodeFrame.calls y0 a0 (wrap64 (a1+w4)) _ _ p5 p6 _ ?side1 ?side2 g9.out).mono ?_);(case side1=>exact cA ((Kd.R_reads' U2.out).2.2));(case side2=>exact (Kd.R_reads' U2.out).2.1);rintro e S4 ⟨N3,rfl,u7,hb⟩;refine ⟨_,rfl,?_⟩;have U3:=rL (Kd.R_new' (Kd.R_new' u7 (Kd.R_lt (rF U1))) (Kd.R_lt (rF U2)));replace U1:=ak (Kd.R_elder' (rF U1) (Kd.R_base u7) hb);replace U2:=ak (Kd.R_elder' (rF U2) (Kd.R_base u7) hb);replace HB:=bS hb;(try clear hb u7);obtain ⟨d1,D1,rfl⟩:=Kd.R_slice U1.out;obtain ⟨d2,D2,rfl⟩:=Kd.R_slice U3.out) | ((with_reducible refine gate_callee (f:=96) rfl ?_);refine goB 50 Try.func96 #[.slice d1 w3.length D1,.slice d2 p6.length D2] rfl ?_;(with_reducible refine (spec_l01Join.calls y0 _ _ w3 _ _ p6 p7 _ ?side1 ?side2 ?side3 ?side4 ga.out).mono ?_);(case side1=>exact cA ((Kd.R_reads' U1.out).2.2));(case side2=>exact (Kd.R_reads' U1.out).2.1);(case side3=>exact cA ((Kd.R_reads' U3.out).2.2));(case side4=>exact (Kd.R_reads' U3.out).2.1);rintro e S5 ⟨N4,rfl,u7,hb⟩;refine ⟨_,rfl,?_⟩;have U4:=rL (Kd.R_new' (Kd.R_new' (Kd.R_new' u7 (Kd.R_lt (rF U1))) (Kd.R_lt (rF U2))) (Kd.R_lt (rF U3)));replace U1:=ak (Kd.R_elder' (rF U1) (Kd.R_base u7) hb);replace U2:=ak (Kd.R_elder' (rF U2) (Kd.R_base u7) hb);replace U3:=ak (Kd.R_elder' (rF U3) (Kd.R_base u7) hb);replace HB:=bS hb;(try clear hb u7)))
     go_roundg y0
     case measure=>have:=W0.out;have:=c0.out;omega
     case rel=>exact ⟨(p7),(wrap64 (w4+1)),eqA,H',⟨by have:=W0.out;have:=c0.out;omega⟩,⟨rE (Kd.R_mono U4.out (fun _ hk=>trivial))⟩,⟨belA⟩⟩

mutual
def impl_putNumber.j0:Nat → Int → Option (List Int)
 | 0,_=>none
 | k+1,x3=>impl_putNumber.l0 k x3 (([]:List Int))
def impl_putNumber.l0:Nat → Int → List Int → Option (List Int)
 | 0,_,_=>none
 | k+1,x3,x4=>if x3 ≥ 128 then (if x4.length < 140737488355328 then (impl_putNumber.l0 k (wrap64 (Int.tdiv x3 128)) (x4 ++ [(wrap64 ((Int.tmod x3 128)+128)) % 256])) else (none)) else (if x4.length < 140737488355328 then (some (x4 ++ [(x3) % 256])) else (none))
end
def impl_putNumber.f (k:Nat) (a0:Int):Option (List Int):=if a0 < 0 then (impl_putNumber.j0 k (wrap64 ((wrap64 ((-2) * a0)) - 1))) else (impl_putNumber.j0 k (wrap64 (2 * a0)))
theorem impl_putNumber.calls (k:Nat) (a0:Int) (r:List Int) (w:World) (h:impl_putNumber.f k a0=some r) :
 Calls Try.prog 115 #[.int .i64 a0] w fun e w'=>∃ v0_:Value,e=.returned (v0_)∧Kd.R (Kd.int .u8) 5 w' w.heap.size (fun _=>True) v0_ r∧Below w.heap.size w w':=by
 have HB:=ak (Below.refl w.heap.size w);have H:=h;clear h;unfold impl_putNumber.f at H;have B0:=ak H;clear H;go_enter Try.func115,Try.ntmps115
 go_upto_if 8 with (fail)
 go_cut [3] (fun v3 wc=>∃ (kq:Nat) (w3:Int),v3=.int .i64 w3∧Aside0 (impl_putNumber.j0 kq w3=some r)∧Aside0 (kq≤k)∧Aside0 (Below w.heap.size w wc))
 case first =>
  have H:=B0.out;clear B0
  by_cases c3:a0 < 0;rotate_left
  · rw [if_neg c3] at H;have x0:=decide_eq_false c3;clear c3;(first | rw [x0] | (simp only [i64_w,i32_w];rw [x0]) | skip)
    have H':=ak H;clear H;go_wp2
    go_meet
    case rel=>exact ⟨_,(wrap64 (2 * a0)),eqA,H',⟨xq12⟩,⟨belA⟩⟩
  rw [if_pos c3] at H;have x0:=decide_eq_true c3;clear c3;(first | rw [x0] | (simp only [i64_w,i32_w];rw [x0]) | skip)
  have H':=ak H;clear H;go_wp2
  go_meet
  case rel=>exact ⟨_,(wrap64 ((wrap64 ((-2) * a0)) - 1)),eqA,H',⟨xq12⟩,⟨belA⟩⟩
 case rest =>
  clear B0;obtain ⟨kq,w3,rfl,HA,c0,HB⟩:=hcut
  cases kq with
  | zero=>exact absurd HA.out (by simp [impl_putNumber.j0])
  | succ y0 =>
   have H:=HA.out;clear HA;simp only [impl_putNumber.j0] at H;obtain ⟨k0,hyq⟩:∃ y_:List Int,y_=(([]:List Int)):=⟨_,rfl⟩;replace H:(impl_putNumber.l0 y0 w3 k0)=some r:=xq7
   have K0:=ak hyq;clear hyq;have H':=ak H;clear H;go_wp2_with (first | ((with_reducible refine gate_dst (N:=12) rfl ?_);refine Kd.R_lit (Kd.int .u8) _ 5 ?hg (N:=12) ?hd (xs:=([]:List Int)) (inner:=[]) (ok:=fun _=>True) (okp:=fun _=>True) ?hr ?hp (fun _ hk=>hk) trivial (Below.refl _ _) (Nat.le_refl _) (by simp) ?_;(case hd=>rfl);(case hg=>rfl);(case hr=>exact xq10);(case hp=>exact (Reps.none _ _));intro N0 w4 u5 hb hg_ hnew_;clear hg_ hnew_;(first | rw [← K0.out] at u5 | (simp only [Int.reduceToNat] at u5;rw [← K0.out] at u5));have U0:=rL u5;replace HB:=bS hb;clear hb u5))
   go_loopg [3,4] y0 (fun kq v3 v4 w'=>∃ (w5:Int) (w6:List Int),v3=.int .i64 w5∧Aside0 (impl_putNumber.l0 kq w5 w6=some r)∧Aside0 (kq≤y0)∧Aside0 (Kd.R (Kd.int .u8) 5 w' w.heap.size (fun _=>True) v4 w6)∧Aside0 (Below w.heap.size w w'))
   case atStart=>exact ⟨(w3),(k0),eqA,H',⟨Nat.le_refl _⟩,⟨rA U0⟩,⟨belA⟩⟩
   case round =>
    clear H';obtain ⟨w5,w6,rfl,HA,W0,U1,HB⟩:=hrel
    cases gk with
    | zero=>exact absurd HA.out (by simp [impl_putNumber.l0])
    | succ k2 =>
     have H:=HA.out;clear HA;simp only [impl_putNumber.l0] at H
     by_cases c6:w5 ≥ 128;rotate_left
     · rw [if_neg c6] at H;have x1:decide (128≤w5)=false:=decide_eq_false c6;clear c6
       obtain ⟨c9,H⟩:=iN H;have E0:=ak c9;clear c9;obtain ⟨k1,hyq⟩:∃ y_:List Int,y_=(w6 ++ [(w5) % 256]):=⟨_,rfl⟩;replace H:(some k1)=some r:=xq7
       have K1:=ak hyq;clear hyq;obtain rfl:=Option.some.inj H;go_wp2_with (first | ((with_reducible refine gate_builtin (b:=.append) (xs:=#[.tmp 24,.tmp 27]) rfl ?_);at_builtin;refine Kd.R_append (Kd.int .u8) (w0:=w) w.heap.size rfl (.tmp 24) (.tmp 27) 22 5 (.int .u8 0) 1 rfl Try.underlying22 info5 rfl (by decide) (by omega) u4 w6 ((w5) % 256) [.int .u8 ((w5) % 256)] (fun _=>True) (fun _=>False) rfl rfl ?aP (fun _ hk=>hk.elim) ?aF ?aO ?aB ?aS ?aL ?_;(case aP=>exact rfl);(case aB=>exact belA);(case aF=>exact (fun _ _=>trivial));(case aO=>exact (rF U1));(case aS=>exact (below_size belA));(case aL=>exact xq15);intro N1 S0 ho hb hg hat;rw [← K1.out] at ho;have U2:=ak ho;replace HB:=ak hb;clear U1;clear ho hb hg hat))
       go_ret
       exact ⟨_,xq4,xq72,belA⟩
     rw [if_pos c6] at H;have x1:decide (128≤w5)=true:=decide_eq_true c6;clear c6
     obtain ⟨c7,H⟩:=iN H;have E1:=ak c7;clear c7;obtain ⟨k3,hyq⟩:∃ y_:List Int,y_=(w6 ++ [(wrap64 ((Int.tmod w5 128)+128)) % 256]):=⟨_,rfl⟩;replace H:(impl_putNumber.l0 k2 (wrap64 (Int.tdiv w5 128)) k3)=some r:=xq7
     have K2:=ak hyq;clear hyq;have H':=ak H;clear H;go_wp2_with (first | ((with_reducible refine gate_builtin (b:=.append) (xs:=#[.tmp 15,.tmp 20]) rfl ?_);at_builtin;refine Kd.R_append (Kd.int .u8) (w0:=w) w.heap.size rfl (.tmp 15) (.tmp 20) 22 5 (.int .u8 0) 1 rfl Try.underlying22 info5 rfl (by decide) (by omega) u4 w6 ((wrap64 ((Int.tmod w5 128)+128)) % 256) [.int .u8 ((wrap64 ((Int.tmod w5 128)+128)) % 256)] (fun _=>True) (fun _=>False) rfl rfl ?aP (fun _ hk=>hk.elim) ?aF ?aO ?aB ?aS ?aL ?_;(case aP=>exact rfl);(case aB=>exact belA);(case aF=>exact (fun _ _=>trivial));(case aO=>exact (rF U1));(case aS=>exact (below_size belA));(case aL=>exact xq31);intro N2 w8 ho hb hg hat;rw [← K2.out] at ho;have U3:=ak ho;replace HB:=ak hb;clear U1;clear ho hb hg hat))
     go_roundg k2
     case measure=>have:=c0.out;have:=W0.out;omega
     case rel=>exact ⟨(wrap64 (Int.tdiv w5 128)),(k3),eqA,H',⟨xq36⟩,⟨rA U3⟩,⟨belA⟩⟩

end Go.Proofs.Ytogdhclomgafdaa.PFnWireJobs
