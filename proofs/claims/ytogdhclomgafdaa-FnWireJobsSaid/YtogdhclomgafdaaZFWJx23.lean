-- Written by a program of this session (the print of the kit with contracts of this session's own added)
import Derived.Test.YtogdhclomgafdaaZFWJx5
import Derived.Test.YtogdhclomgafdaaZFWJx22
set_option maxHeartbeats 8000000
set_option maxRecDepth 100000
namespace Go.Proofs.Ytogdhclomgafdaa.PFnWireJobs
open Go.RowKit Go.Proofs.YtogdhclomgafdaaW.PrintWords Go.Proofs.YtogdhclomgafdaaW.PrintLast Go.Proofs.YtogdhclomgafdaaW.PrintMore Go.Proofs.YtogdhclomgafdaaW.PrintPack Go.Proofs.YtogdhclomgafdaaW.PrintPack
set_option linter.unusedVariables false
set_option linter.unusedSimpArgs false

mutual
def impl_PackJobs.l0:Nat → Int → Int → List Int → List (S49) → Int → Int → Option (List Int × Bool)
 | 0,_,_,_,_,_,_=>none
 | k+1,x0,x1,x8,x16,x17,x18=>if x18 < x17 then (if 0≤x18 then (if x18 < (x16.length:Int) then ((impl_isJob.f k ((rd_T49 x16 x18).f0) ((rd_T49 x16 x18).f1) ((rd_T49 x16 x18).f2) ((rd_T49 x16 x18).f3) ((rd_T49 x16 x18).f4)).bind fun t925=>(if t925=true then (impl_PackJobs.j1 k x0 x1 x8 x18 x16 x17 x18 (decide (x1 > (wrap64 (2147483647 - x18)))) ((rd_T49 x16 x18).f0) ((rd_T49 x16 x18).f1) ((rd_T49 x16 x18).f2) ((rd_T49 x16 x18).f3) ((rd_T49 x16 x18).f4)) else (impl_PackJobs.j1 k x0 x1 x8 x18 x16 x17 x18 true ((rd_T49 x16 x18).f0) ((rd_T49 x16 x18).f1) ((rd_T49 x16 x18).f2) ((rd_T49 x16 x18).f3) ((rd_T49 x16 x18).f4)))) else (none)) else (none)) else (some (x8,true))
def impl_PackJobs.j1:Nat → Int → Int → List Int → Int → List (S49) → Int → Int → Bool → Int → Int → List Int → List Int → Int → Option (List Int × Bool)
 | 0,_,_,_,_,_,_,_,_,_,_,_,_,_=>none
 | k+1,x0,x1,x8,x9,x16,x17,x18,x31,x925000,x925001,x925002,x925003,x925004=>if x31=true then (some (([]:List Int),false)) else ((impl_encodeJob.f k x925000 x925001 x925002 x925003 x925004).bind fun t926=>((impl_isFrame.f x0 (wrap64 (x1+x9)) t926).bind fun t930=>(if t930=true then ((impl_encodeFrame.f k x0 (wrap64 (x1+x9)) t926).bind fun t931=>(if x8.length+t931.length < 140737488355328 then (impl_PackJobs.l0 k x0 x1 (x8 ++ t931) x16 x17 (wrap64 (x18+1))) else (none))) else (some (([]:List Int),false)))))
end
def impl_PackJobs.f (k:Nat) (a0:Int) (a1:Int) (l2:List (S49)):Option (List Int × Bool):=if (l2.length:Int) > 50 then (some (([]:List Int),false)) else (impl_PackJobs.l0 k a0 a1 (([]:List Int)) l2 (l2.length:Int) 0)
theorem impl_PackJobs.calls (k:Nat) (a0:Int) (a1:Int) (A2:Option Addr) (c2:Nat) (l2:List (S49)) (r1:List Int) (r2:Bool) (w:World) (hr2:Kd.C k49 w A2 l2.length l2) (hc2:l2.length≤c2) (h:impl_PackJobs.f k a0 a1 l2=some (r1,r2)) :
 Calls Try.prog 56 #[.int .i64 a0,.int .i64 a1,.slice A2 l2.length c2] w fun e w'=>∃ v0_:Value,e=.returned (.tuple #[v0_,.bool r2])∧Kd.R (Kd.int .u8) 5 w' w.heap.size (fun _=>True) v0_ r1∧Below w.heap.size w w':=by
 have b0:=Try.underlying49;have b1:=Try.underlying52;have b2:=ak hr2;have B0:=ak hc2;clear hr2 hc2;have HB:=ak (Below.refl w.heap.size w);have H:=h;clear h;unfold impl_PackJobs.f at H
 by_cases c4:(l2.length:Int) > 50
 · rw [if_pos c4] at H;have x0:decide (50 < (l2.length:Int))=true:=decide_eq_true c4;have x1:decide (50 < l2.length)=true:=decide_eq_true (by omega);clear c4;simp only [Option.some.injEq,Prod.mk.injEq] at H;obtain ⟨rfl,rfl⟩:=H;go_enter Try.func56,Try.ntmps56
   go_wp2
   go_ret2
   exact ⟨_,xq4,xq16,belA⟩
 rw [if_neg c4] at H;have x0:decide (50 < (l2.length:Int))=false:=decide_eq_false c4;have x1:decide (50 < l2.length)=false:=decide_eq_false (by omega);clear c4;obtain ⟨k0,hyq⟩:∃ y_:List Int,y_=(([]:List Int)):=⟨_,rfl⟩;replace H:(impl_PackJobs.l0 k a0 a1 k0 l2 (l2.length:Int) 0)=some (r1,r2):=xq7
 have K0:=ak hyq;clear hyq;have H':=ak H;clear H;go_enter Try.func56,Try.ntmps56
 go_wp2_with (first | ((with_reducible refine gate_dst (N:=15) rfl ?_);refine Kd.R_lit (Kd.int .u8) _ 5 ?hg (N:=15) ?hd (xs:=([]:List Int)) (inner:=[]) (ok:=fun _=>True) (okp:=fun _=>True) ?hr ?hp (fun _ hk=>hk) trivial (Below.refl _ _) (Nat.le_refl _) (by simp) ?_;(case hd=>rfl);(case hg=>rfl);(case hr=>exact xq10);(case hp=>exact (Reps.none _ _));intro N0 w5 u5 hb hg_ hnew_;clear hg_ hnew_;(first | rw [← K0.out] at u5 | (simp only [Int.reduceToNat] at u5;rw [← K0.out] at u5));have U0:=rL u5;replace HB:=bS hb;clear hb u5))
 go_loopg [8,18] k (fun kq v8 N1 w'=>∃ (w3:List Int) (w4:Int),N1=.int .i64 w4∧Aside0 (impl_PackJobs.l0 kq a0 a1 w3 l2 (l2.length:Int) w4=some (r1,r2))∧Aside0 (kq≤k)∧Aside0 (Kd.R (Kd.int .u8) 5 w' w.heap.size (fun _=>True) v8 w3)∧Aside0 (Below w.heap.size w w'))
 case atStart=>exact ⟨(k0),(0),eqA,H',⟨Nat.le_refl _⟩,⟨rA U0⟩,⟨belA⟩⟩
 case round =>
  clear H';obtain ⟨w3,w4,rfl,HA,W0,U1,HB⟩:=hrel
  cases gk with
  | zero=>exact absurd HA.out (by simp [impl_PackJobs.l0])
  | succ k1 =>
   have H:=HA.out;clear HA;simp only [impl_PackJobs.l0] at H
   by_cases c7:w4 < (l2.length:Int);rotate_left
   · rw [if_neg c7] at H;have x2:=decide_eq_false c7;clear c7;simp only [Option.some.injEq,Prod.mk.injEq] at H;obtain ⟨rfl,rfl⟩:=H;go_wp2
     go_ret2
     exact ⟨_,xq4,xq23,belA⟩
   rw [if_pos c7] at H;have x2:=decide_eq_true c7;clear c7
   obtain ⟨c8,H⟩:=iN H;have x3:=decide_eq_true c8;clear c8
   obtain ⟨c9,H⟩:=iN H;have x4:=decide_eq_true c9;clear c9;have B2:=ak H;clear H;have V0:0≤(w4:Int):=odA;have a5:w4 < (l2.length:Int):=odA;obtain ⟨A0,g3,x5,g4,x6,o0,O0,O1,O2,O3,O4,p0,q0,p1,q1⟩:=at_T49 b2.out w4 V0 a5
   cases o0
   try replace O0:=cB HB O0
   try replace O1:=cB HB O1
   try replace O2:=cB HB O2
   try replace O3:=cB HB O3
   try replace O4:=cB HB O4
   have b3:=ak q0;have B6:=ak p0;clear q0 p0;have b4:=ak q1;have B8:=ak p1;clear q1 p1;replace V0:=eq_true V0;replace a5:=eq_true a5;go_upto_region 7 with (first | ((with_reducible refine gate_dst (N:=10) rfl ?_);refine boxA 10 #[.int .i64 0,.int .i64 0,.slice none 0 0,.slice none 0 0,.int .i64 0] 49 ?_;intro l3 hg S0 hbox hb;have B9:=ak hbox;have w6:=leA (w:=w) hg;have W1:=leA (w:=w) hg;replace U1:=ak (Kd.R_below (rF U1) hb);replace HB:=bS hb;clear hb hbox hg;obtain ⟨_,_,_,_,_,_,_,_,_,_⟩:=cel5 B9))
   (try simp only [Act.put,sa,sb,sc])
   go_cut [31] (fun N2 wc=>∃ (kq:Nat) (w7:Bool),N2=.bool w7∧Aside0 (impl_PackJobs.j1 kq a0 a1 w3 w4 l2 (l2.length:Int) w4 w7 ((rd_T49 l2 w4).f0) ((rd_T49 l2 w4).f1) ((rd_T49 l2 w4).f2) ((rd_T49 l2 w4).f3) ((rd_T49 l2 w4).f4)=some (r1,r2))∧Aside0 (kq≤k1)∧Aside0 (Kd.R (Kd.int .u8) 5 wc w.heap.size (fun _=>True) u8 w3)∧Aside0 (wc.heap[l3]?=some (.cells #[.int .i64 ((rd_T49 l2 w4).f0),.int .i64 ((rd_T49 l2 w4).f1),(.slice g3 ((rd_T49 l2 w4).f2).length x5),(.slice g4 ((rd_T49 l2 w4).f3).length x6),.int .i64 ((rd_T49 l2 w4).f4)] 49 (0,0)))∧Aside0 (Below w.heap.size w wc))
   case first =>
    have H:=B2.out;clear B2;obtain ⟨p2,g5,H⟩:=ob H;(try dsimp only at H)
    by_cases x7:p2=true;rotate_left
    · replace x7:=Bool.eq_false_iff.mpr x7;subst x7;rw [if_neg (show ¬ (false=true) by decide)] at H;have H':=ak H;clear H;obtain ⟨_,_,_,_,_,_,_,_,_,_⟩:=cel5 B9;go_wp2_with (first | ((with_reducible refine gate_callee (f:=86) rfl ?_);refine goB 24 Try.func86 #[.agg #[.int .i64 ((rd_T49 l2 w4).f0),.int .i64 ((rd_T49 l2 w4).f1),.slice g3 ((rd_T49 l2 w4).f2).length x5,.slice g4 ((rd_T49 l2 w4).f3).length x6,.int .i64 ((rd_T49 l2 w4).f4)]] rfl ?_;(with_reducible refine (impl_isJob.calls k1 ((rd_T49 l2 w4).f0) ((rd_T49 l2 w4).f1) _ _ ((rd_T49 l2 w4).f2) _ _ ((rd_T49 l2 w4).f3) ((rd_T49 l2 w4).f4) false _ ?side1 B6.out ?side3 B8.out g5.out).mono ?_);(case side1=>exact Kd.C_below b3.out belA);(case side3=>exact Kd.C_below b4.out belA);rintro e S1 ⟨rfl,hb⟩;refine ⟨_,rfl,?_⟩;replace U1:=ak (Kd.R_below (rG U1 B9) hb);replace B9:=ak (blk_below (g:=l3) (o:=.cells #[.int .i64 ((rd_T49 l2 w4).f0),.int .i64 ((rd_T49 l2 w4).f1),.slice g3 ((rd_T49 l2 w4).f2).length x5,.slice g4 ((rd_T49 l2 w4).f3).length x6,.int .i64 ((rd_T49 l2 w4).f4)] 49 (0,0)) xq113 hb);replace HB:=bS hb;(try clear hb)))
      go_meet
      case rel=>exact ⟨_,(true),eqA,H',⟨xq25⟩,⟨rA U1⟩,⟨blkA⟩,⟨belA⟩⟩
    subst x7;rw [if_pos rfl] at H;have H':=ak H;clear H;obtain ⟨_,_,_,_,_,_,_,_,_,_⟩:=cel5 B9;go_wp2_with (first | ((with_reducible refine gate_callee (f:=86) rfl ?_);refine goB 24 Try.func86 #[.agg #[.int .i64 ((rd_T49 l2 w4).f0),.int .i64 ((rd_T49 l2 w4).f1),.slice g3 ((rd_T49 l2 w4).f2).length x5,.slice g4 ((rd_T49 l2 w4).f3).length x6,.int .i64 ((rd_T49 l2 w4).f4)]] rfl ?_;(with_reducible refine (impl_isJob.calls k1 ((rd_T49 l2 w4).f0) ((rd_T49 l2 w4).f1) _ _ ((rd_T49 l2 w4).f2) _ _ ((rd_T49 l2 w4).f3) ((rd_T49 l2 w4).f4) true _ ?side1 B6.out ?side3 B8.out g5.out).mono ?_);(case side1=>exact Kd.C_below b3.out belA);(case side3=>exact Kd.C_below b4.out belA);rintro e S2 ⟨rfl,hb⟩;refine ⟨_,rfl,?_⟩;replace U1:=ak (Kd.R_below (rG U1 B9) hb);replace B9:=ak (blk_below (g:=l3) (o:=.cells #[.int .i64 ((rd_T49 l2 w4).f0),.int .i64 ((rd_T49 l2 w4).f1),.slice g3 ((rd_T49 l2 w4).f2).length x5,.slice g4 ((rd_T49 l2 w4).f3).length x6,.int .i64 ((rd_T49 l2 w4).f4)] 49 (0,0)) xq113 hb);replace HB:=bS hb;(try clear hb)))
    go_meet
    case rel=>exact ⟨_,(decide (a1 > (wrap64 (2147483647 - w4)))),eqA,H',⟨xq25⟩,⟨rA U1⟩,⟨blkA⟩,⟨belA⟩⟩
   case rest =>
    clear B2;obtain ⟨kq,w7,rfl,HA,c0,U1,B9,HB⟩:=hcut
    cases kq with
    | zero=>exact absurd HA.out (by simp [impl_PackJobs.j1])
    | succ y0 =>
     have H:=HA.out;clear HA;simp only [impl_PackJobs.j1] at H
     by_cases x8:w7=true
     · subst x8;rw [if_pos rfl] at H;simp only [Option.some.injEq,Prod.mk.injEq] at H;obtain ⟨rfl,rfl⟩:=H;go_wp2
       go_ret2
       exact ⟨_,xq4,xq16,belA⟩
     replace x8:=Bool.eq_false_iff.mpr x8;subst x8;rw [if_neg (show ¬ (false=true) by decide)] at H;obtain ⟨p3,g6,H⟩:=ob H;(try dsimp only at H);obtain ⟨p4,g7,H⟩:=ob H;(try dsimp only at H)
     by_cases x9:p4=true;rotate_left
     · replace x9:=Bool.eq_false_iff.mpr x9;subst x9;rw [if_neg (show ¬ (false=true) by decide)] at H;simp only [Option.some.injEq,Prod.mk.injEq] at H;obtain ⟨rfl,rfl⟩:=H;obtain ⟨_,_,_,_,_,_,_,_,_,_⟩:=cel5 B9;go_wp2_with (first | ((with_reducible refine gate_callee (f:=87) rfl ?_);refine goB 37 Try.func87 #[.agg #[.int .i64 ((rd_T49 l2 w4).f0),.int .i64 ((rd_T49 l2 w4).f1),.slice g3 ((rd_T49 l2 w4).f2).length x5,.slice g4 ((rd_T49 l2 w4).f3).length x6,.int .i64 ((rd_T49 l2 w4).f4)]] rfl ?_;(with_reducible refine (impl_encodeJob.calls y0 ((rd_T49 l2 w4).f0) ((rd_T49 l2 w4).f1) (fun k_=>k_ < w.heap.size) _ _ ((rd_T49 l2 w4).f2) (fun k_=>k_ < w.heap.size) _ _ ((rd_T49 l2 w4).f3) ((rd_T49 l2 w4).f4) p3 _ ?side1 ?side2 g6.out).mono ?_);(case side1=>exact Kd.V_mk B6.out (Kd.F_below (Kd.C_F (Kd.heap_int .i64) b3.out) belA));(case side2=>exact Kd.V_mk B8.out (Kd.F_below (Kd.C_F (Kd.heap_int .i64) b4.out) belA));rintro e S3 ⟨N3,rfl,u6,hb⟩;refine ⟨_,rfl,?_⟩;have U2:=rL (Kd.R_new' (Kd.R_mono (ok':=fun k_=>True) u6 (fun _ hk_=>trivial)) (Kd.R_lt (rF U1)));replace U1:=ak (Kd.R_elder' (rF U1) (Kd.R_base u6) hb);replace B9:=bB B9 hb;replace HB:=bS hb;(try clear hb u6);obtain ⟨d0,D0,rfl⟩:=Kd.R_slice U2.out) | ((with_reducible refine gate_dst (N:=11) rfl ?_);refine boxA 11 #[.int .i64 0,.int .i64 0,.slice none 0 0] 52 ?_;intro l4 hg S4 hbox hb;have Ba:=ak hbox;have w8:=leA (w:=w) hg;have W2:=leA (w:=w) hg;have N4:=neL hg B9;have N5:=neG hg B9;replace U1:=ak (Kd.R_below (rF U1) hb);replace U2:=ak (Kd.R_below (rF U2) hb);replace B9:=bB B9 hb;replace HB:=bS hb;clear hb hbox hg;have c1:=N5.out;have C0:=N4.out;obtain ⟨_,_,_,_,_,_⟩:=cel3 Ba) | ((with_reducible refine gate_callee (f:=75) rfl ?_);refine goB 40 Try.func75 #[.agg #[.int .i64 a0,.int .i64 (wrap64 (a1+w4)),.slice d0 p3.length D0]] rfl ?_;(with_reducible refine (impl_isFrame.calls a0 (wrap64 (a1+w4)) _ _ p3 false _ ?side1 ?side2 g7.out).mono ?_);(case side1=>refine (Kd.R_reads' (e:=5) (base:=w.heap.size) (ok:=fun k_=>(True∧some k_≠(u8:Value).ownBlock)) (n:=p3.length) (c:=D0) ?_).2.2;exact (rG U2 Ba));(case side2=>exact (Kd.R_reads' U2.out).2.1);rintro e S5 ⟨rfl,hb⟩;refine ⟨_,rfl,?_⟩;replace U1:=ak (Kd.R_below (rG U1 Ba) hb);replace U2:=ak (Kd.R_below (rG U2 Ba) hb);replace B9:=ak (blk_below (g:=l3) (o:=.cells #[.int .i64 ((rd_T49 l2 w4).f0),.int .i64 ((rd_T49 l2 w4).f1),.slice g3 ((rd_T49 l2 w4).f2).length x5,.slice g4 ((rd_T49 l2 w4).f3).length x6,.int .i64 ((rd_T49 l2 w4).f4)] 49 (0,0)) xq114 hb);replace Ba:=ak (blk_below (g:=l4) (o:=.cells #[.int .i64 a0,.int .i64 (wrap64 (a1+w4)),.slice d0 p3.length D0] 52 (0,0)) xq115 hb);replace HB:=bS hb;(try clear hb)))
       go_ret2
       exact ⟨_,xq4,xq16,belA⟩
     subst x9;rw [if_pos rfl] at H;obtain ⟨p5,g8,H⟩:=ob H;(try dsimp only at H)
     obtain ⟨xa,H⟩:=iN H;have E0:=ak xa;clear xa;obtain ⟨k2,hyq⟩:∃ y_:List Int,y_=(w3 ++ p5):=⟨_,rfl⟩;replace H:(impl_PackJobs.l0 y0 a0 a1 k2 l2 (l2.length:Int) (wrap64 (w4+1)))=some (r1,r2):=xq7
     have K1:=ak hyq;clear hyq;have H':=ak H;clear H;obtain ⟨_,_,_,_,_,_,_,_,_,_⟩:=cel5 B9;go_wp2_with (first | ((with_reducible refine gate_callee (f:=87) rfl ?_);refine goB 37 Try.func87 #[.agg #[.int .i64 ((rd_T49 l2 w4).f0),.int .i64 ((rd_T49 l2 w4).f1),.slice g3 ((rd_T49 l2 w4).f2).length x5,.slice g4 ((rd_T49 l2 w4).f3).length x6,.int .i64 ((rd_T49 l2 w4).f4)]] rfl ?_;(with_reducible refine (impl_encodeJob.calls y0 ((rd_T49 l2 w4).f0) ((rd_T49 l2 w4).f1) (fun k_=>k_ < w.heap.size) _ _ ((rd_T49 l2 w4).f2) (fun k_=>k_ < w.heap.size) _ _ ((rd_T49 l2 w4).f3) ((rd_T49 l2 w4).f4) p3 _ ?side1 ?side2 g6.out).mono ?_);(case side1=>exact Kd.V_mk B6.out (Kd.F_below (Kd.C_F (Kd.heap_int .i64) b3.out) belA));(case side2=>exact Kd.V_mk B8.out (Kd.F_below (Kd.C_F (Kd.heap_int .i64) b4.out) belA));rintro e S6 ⟨N3,rfl,u6,hb⟩;refine ⟨_,rfl,?_⟩;have U2:=rL (Kd.R_new' (Kd.R_mono (ok':=fun k_=>True) u6 (fun _ hk_=>trivial)) (Kd.R_lt (rF U1)));replace U1:=ak (Kd.R_elder' (rF U1) (Kd.R_base u6) hb);replace B9:=bB B9 hb;replace HB:=bS hb;(try clear hb u6);obtain ⟨d1,D1,rfl⟩:=Kd.R_slice U2.out) | ((with_reducible refine gate_dst (N:=11) rfl ?_);refine boxA 11 #[.int .i64 0,.int .i64 0,.slice none 0 0] 52 ?_;intro l4 hg S7 hbox hb;have Ba:=ak hbox;have w8:=leA (w:=w) hg;have W2:=leA (w:=w) hg;have N4:=neL hg B9;have N5:=neG hg B9;replace U1:=ak (Kd.R_below (rF U1) hb);replace U2:=ak (Kd.R_below (rF U2) hb);replace B9:=bB B9 hb;replace HB:=bS hb;clear hb hbox hg;have ca:=N5.out;have C1:=N4.out;obtain ⟨_,_,_,_,_,_⟩:=cel3 Ba) | ((with_reducible refine gate_callee (f:=75) rfl ?_);refine goB 40 Try.func75 #[.agg #[.int .i64 a0,.int .i64 (wrap64 (a1+w4)),.slice d1 p3.length D1]] rfl ?_;(with_reducible refine (impl_isFrame.calls a0 (wrap64 (a1+w4)) _ _ p3 true _ ?side1 ?side2 g7.out).mono ?_);(case side1=>refine (Kd.R_reads' (e:=5) (base:=w.heap.size) (ok:=fun k_=>(True∧some k_≠(u8:Value).ownBlock)) (n:=p3.length) (c:=D1) ?_).2.2;exact (rG U2 Ba));(case side2=>exact (Kd.R_reads' U2.out).2.1);rintro e S8 ⟨rfl,hb⟩;refine ⟨_,rfl,?_⟩;replace U1:=ak (Kd.R_below (rG U1 Ba) hb);replace U2:=ak (Kd.R_below (rG U2 Ba) hb);replace B9:=ak (blk_below (g:=l3) (o:=.cells #[.int .i64 ((rd_T49 l2 w4).f0),.int .i64 ((rd_T49 l2 w4).f1),.slice g3 ((rd_T49 l2 w4).f2).length x5,.slice g4 ((rd_T49 l2 w4).f3).length x6,.int .i64 ((rd_T49 l2 w4).f4)] 49 (0,0)) xq114 hb);replace Ba:=ak (blk_below (g:=l4) (o:=.cells #[.int .i64 a0,.int .i64 (wrap64 (a1+w4)),.slice d1 p3.length D1] 52 (0,0)) xq115 hb);replace HB:=bS hb;(try clear hb);obtain ⟨_,_,_,_,_,_⟩:=cel3 Ba) | ((with_reducible refine gate_callee (f:=98) rfl ?_);refine goB 44 Try.func98 #[.agg #[.int .i64 a0,.int .i64 (wrap64 (a1+w4)),.slice d1 p3.length D1]] rfl ?_;(with_reducible refine (impl_encodeFrame.calls y0 a0 (wrap64 (a1+w4)) _ _ p3 p5 _ ?side1 ?side2 g8.out).mono ?_);(case side1=>exact cA ((Kd.R_reads' U2.out).2.2));(case side2=>exact (Kd.R_reads' U2.out).2.1);rintro e S9 ⟨N6,rfl,u6,hb⟩;refine ⟨_,rfl,?_⟩;have U3:=rL (Kd.R_new' (Kd.R_new' u6 (Kd.R_lt (rF U1))) (Kd.R_lt (rF U2)));replace U1:=ak (Kd.R_elder' (rF U1) (Kd.R_base u6) hb);replace U2:=ak (Kd.R_elder' (rF U2) (Kd.R_base u6) hb);replace B9:=bB B9 hb;replace Ba:=bB Ba hb;replace HB:=bS hb;(try clear hb u6);obtain ⟨d2,D2,rfl⟩:=Kd.R_slice U3.out) | ((with_reducible refine gate_builtin (b:=.append) (xs:=#[.tmp 42,.tmp 44]) rfl ?_);at_builtin;refine Kd.R_append_rows (Kd.int .u8) (w0:=w) w.heap.size rfl (.tmp 42) (.tmp 44) 22 5 (.int .u8 0) 1 rfl Try.underlying22 info5 rfl (by decide) (by omega) u8 w3 p5 _ _ _ (fun k_=>some k_≠(.slice d1 p3.length D1:Value).ownBlock∧some k_≠(.slice d2 p5.length D2:Value).ownBlock) (fun _=>False) rfl rfl ?aO ?aR (fun _ _ h=>h) (fun _ h=>h.elim) ?aF ?aB ?aS ?aL ?_;(case aR=>exact xq74);(case aB=>exact belA);(case aF=>exact (fun k_ hk=>⟨Kd.fresh' (Kd.R_lt (rF U2)) k_ hk,Kd.fresh' (Kd.R_lt (rF U3)) k_ hk⟩));(case aO=>exact (by (with_reducible repeat (first | apply Kd.R_alloc | apply Kd.R_drewN | apply Kd.R_drew));first | exact Kd.R_mono U1.out (fun _ hk=>⟨hk.1.2,hk.2⟩) | exact Kd.R_mono U1.out (fun _ _=>trivial)));(case aS=>exact (below_size belA));(case aL=>exact xq15);intro N7 Sa ho hb hg hat;rw [← K1.out] at ho;have xb:=ak (blk_grown (g:=l3) (o:=.cells #[.int .i64 ((rd_T49 l2 w4).f0),.int .i64 ((rd_T49 l2 w4).f1),.slice g3 ((rd_T49 l2 w4).f2).length x5,.slice g4 ((rd_T49 l2 w4).f3).length x6,.int .i64 ((rd_T49 l2 w4).f4)] 49 (0,0)) blkA hg (Kd.R_ne U1.out B9.out (by decide)));have xc:=ak (Kd.R_after (ok:=(fun k_=>some k_≠(.slice d2 p5.length D2:Value).ownBlock)) (by (with_reducible repeat (first | apply Kd.R_alloc | apply Kd.R_drewN | apply Kd.R_drew));first | exact Kd.R_mono U2.out (fun _ hk=>⟨hk.2,hk.1.2⟩) | exact Kd.R_mono U2.out (fun _ _=>trivial)) hg hat);have xd:=ak (blk_grown (g:=l4) (o:=.cells #[.int .i64 a0,.int .i64 (wrap64 (a1+w4)),.slice d1 p3.length D1] 52 (0,0)) blkA hg (Kd.R_ne U1.out Ba.out (by decide)));have xe:=ak (Kd.R_after (ok:=(fun k_=>some k_≠(.slice d1 p3.length D1:Value).ownBlock)) (by (with_reducible repeat (first | apply Kd.R_alloc | apply Kd.R_drewN | apply Kd.R_drew));first | exact Kd.R_mono U3.out (fun _ hk=>⟨hk.2,hk.1.2⟩) | exact Kd.R_mono U3.out (fun _ _=>trivial)) hg hat);have xf:=ak hb;have xg:=ak ho;clear B9;clear U2;clear Ba;clear U3;clear HB;clear U1;have B9:=xb;have U2:=xc;have Ba:=xd;have U3:=xe;have HB:=xf;have U4:=xg;clear xb xc xd xe xf xg;clear ho hb hg hat))
     go_roundg y0
     case measure=>have:=W0.out;have:=c0.out;omega
     case rel=>exact ⟨(k2),(wrap64 (w4+1)),eqA,H',⟨by have:=W0.out;have:=c0.out;omega⟩,⟨rE (Kd.R_mono U4.out (fun _ hk=>trivial))⟩,⟨belA⟩⟩

def laws_at.f (l0:List Int) (a1:Int):Option (Int):=if a1 < (l0.length:Int) then (if 0≤a1 then (some (wrap64 (rd l0 a1))) else (none)) else (some (Int.tmod (wrap64 ((wrap64 (a1 * 13))+(wrap64 ((l0.length:Int) * 5)))) 256))
theorem laws_at.calls (A0:Option Addr) (c0:Nat) (l0:List Int) (a1:Int) (r:Int) (w:World) (hr0:Kd.C (Kd.int .u8) w A0 l0.length l0) (hc0:l0.length≤c0) (h:laws_at.f l0 a1=some r) :
 Calls Try.prog 57 #[.slice A0 l0.length c0,.int .i64 a1] w fun e w'=>e=.returned (.int .i64 r)∧Drawn0 w w':=by
 have b0:=ak hr0;have B0:=ak hc0;clear hr0 hc0;have H:=h;clear h;unfold laws_at.f at H
 by_cases c3:a1 < (l0.length:Int);rotate_left
 · rw [if_neg c3] at H;have x0:=decide_eq_false c3;clear c3;obtain rfl:=Option.some.inj H;go_enter Try.func57,Try.ntmps57
   go_wp2
   go_ret
   exact ⟨xq9,xq5⟩
 rw [if_pos c3] at H;have x0:=decide_eq_true c3;clear c3
 obtain ⟨c4,H⟩:=iN H;have x1:=decide_eq_true c4;clear c4;obtain rfl:=Option.some.inj H;have V0:0≤(a1:Int):=odA;have a5:a1 < (l0.length:Int):=odA;obtain ⟨A1,o0,O0⟩:=Kd.at_int b0.out a1 V0 a5
 cases o0
 replace V0:=eq_true V0;replace a5:=eq_true a5;go_enter Try.func57,Try.ntmps57
 go_wp2
 go_ret
 exact ⟨xq9,xq5⟩

end Go.Proofs.Ytogdhclomgafdaa.PFnWireJobs
