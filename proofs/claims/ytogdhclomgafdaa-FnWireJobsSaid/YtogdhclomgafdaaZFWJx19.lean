-- Written by a program of this session (the print of the kit with contracts of this session's own added)
import Derived.Test.YtogdhclomgafdaaZFWJx18
set_option maxHeartbeats 8000000
set_option maxRecDepth 100000
namespace Go.Proofs.Ytogdhclomgafdaa.PFnWireJobs
open Go.RowKit Go.Proofs.YtogdhclomgafdaaW.PrintWords Go.Proofs.YtogdhclomgafdaaW.PrintLast Go.Proofs.YtogdhclomgafdaaW.PrintMore Go.Proofs.YtogdhclomgafdaaW.PrintPack Go.Proofs.YtogdhclomgafdaaW.PrintPack
attribute [local go_sem] max2_int min2_int max_two min_two max_three min_three max_four min_four   -- for this text's walks alone
set_option linter.unusedVariables false
set_option linter.unusedSimpArgs false

mutual
def spec_l10PutList.l0:Nat → List Int → List Int → Int → Option (List Int)
 | 0,_,_,_=>none
 | k+1,x0,x1,x5=>if x5 < (x1.length:Int) then (if 0≤x5 then ((spec_PutNumber.f k (rd x1 x5)).bind fun t770=>(spec_l10PutList.l1 k x0 x1 x5 t770 (t770.length:Int) 0)) else (none)) else (some x0)
def spec_l10PutList.l1:Nat → List Int → List Int → Int → List Int → Int → Int → Option (List Int)
 | 0,_,_,_,_,_,_=>none
 | k+1,x0,x1,x5,x23,x24,x25=>if x25 < x24 then (if 0≤x25 then (if x25 < (x23.length:Int) then (if x0.length < 140737488355328 then (spec_l10PutList.l1 k (x0 ++ [rd x23 x25]) x1 x5 x23 x24 (wrap64 (x25+1))) else (none)) else (none)) else (none)) else (spec_l10PutList.l0 k x0 x1 (wrap64 (x5+1)))
end
def spec_l10PutList.f (k:Nat) (l0:List Int) (l1:List Int):Option (List Int):=(spec_PutNumber.f k (l1.length:Int)).bind fun t763=>((spec_l01Join.f k l0 t763).bind fun t766=>(spec_l10PutList.l0 k t766 l1 0))
theorem spec_l10PutList.calls (k:Nat) (A0:Option Addr) (c0:Nat) (l0:List Int) (A1:Option Addr) (c1:Nat) (l1:List Int) (r:List Int) (w:World) (hr0:Kd.C (Kd.int .u8) w A0 l0.length l0) (hc0:l0.length≤c0) (hr1:Kd.C (Kd.int .i64) w A1 l1.length l1) (hc1:l1.length≤c1) (h:spec_l10PutList.f k l0 l1=some r) :
 Calls Try.prog 117 #[.slice A0 l0.length c0,.slice A1 l1.length c1] w fun e w'=>∃ v0_:Value,e=.returned (v0_)∧Kd.R (Kd.int .u8) 5 w' w.heap.size (fun _=>True) v0_ r∧Below w.heap.size w w':=by
 have b0:=ak hr0;have B0:=ak hc0;clear hr0 hc0;have b1:=ak hr1;have B2:=ak hc1;clear hr1 hc1;have HB:=ak (Below.refl w.heap.size w);have H:=h;clear h;unfold spec_l10PutList.f at H;obtain ⟨p0,A3,H⟩:=ob H;(try dsimp only at H);obtain ⟨p1,A4,H⟩:=ob H;(try dsimp only at H);have H':=ak H;clear H;go_enter Try.func117,Try.ntmps117
 go_wp2_with (first | ((with_reducible refine gate_callee (f:=116) rfl ?_);refine goB 11 Try.func116 #[.int .i64 (l1.length:Int)] rfl ?_;(with_reducible refine (spec_PutNumber.calls k (l1.length:Int) p0 _ A3.out).mono ?_);rintro e w5 ⟨N0,rfl,u5,hb⟩;refine ⟨_,rfl,?_⟩;have U0:=rL u5;replace HB:=bS hb;(try clear hb u5);obtain ⟨d0,D0,rfl⟩:=Kd.R_slice U0.out) | ((with_reducible refine gate_callee (f:=96) rfl ?_);refine goB 12 Try.func96 #[.slice A0 l0.length c0,.slice d0 p0.length D0] rfl ?_;(with_reducible refine (spec_l01Join.calls k _ _ l0 _ _ p0 p1 _ ?side1 B0.out ?side3 ?side4 A4.out).mono ?_);(case side1=>exact cA (Kd.C_below b0.out HB.out));(case side3=>exact cA ((Kd.R_reads' U0.out).2.2));(case side4=>exact (Kd.R_reads' U0.out).2.1);rintro e w7 ⟨N1,rfl,u5,hb⟩;refine ⟨_,rfl,?_⟩;have U1:=rL (Kd.R_new' u5 (Kd.R_lt (rF U0)));replace U0:=ak (Kd.R_elder' (rF U0) (Kd.R_base u5) hb);replace HB:=bS hb;(try clear hb u5)))
 go_loopg [0,5] k (fun kq v0 v5 w'=>∃ (w3:List Int) (w4:Int),v5=.int .i64 w4∧Aside0 (spec_l10PutList.l0 kq w3 l1 w4=some r)∧Aside0 (kq≤k)∧Aside0 (Kd.R (Kd.int .u8) 5 w' w.heap.size (fun _=>True) v0 w3)∧Aside0 (Below w.heap.size w w'))
 case atStart=>exact ⟨(p1),(0),eqA,H',⟨Nat.le_refl _⟩,⟨rE (Kd.R_mono U1.out (fun _ hk=>trivial))⟩,⟨belA⟩⟩
 case round =>
  clear H';obtain ⟨w3,w4,rfl,HA,W0,U2,HB⟩:=hrel
  cases gk with
  | zero=>exact absurd HA.out (by simp [spec_l10PutList.l0])
  | succ k1 =>
   have H:=HA.out;clear HA;simp only [spec_l10PutList.l0] at H
   by_cases c8:w4 < (l1.length:Int);rotate_left
   · rw [if_neg c8] at H;have x0:=decide_eq_false c8;clear c8;obtain rfl:=Option.some.inj H;go_wp2
     go_ret
     exact ⟨_,xq4,xq72,belA⟩
   rw [if_pos c8] at H;have x0:=decide_eq_true c8;clear c8
   obtain ⟨c9,H⟩:=iN H;have x1:=decide_eq_true c9;clear c9;obtain ⟨p2,g3,H⟩:=ob H;(try dsimp only at H);have H':=ak H;clear H;have V0:0≤(w4:Int):=odA;have a5:w4 < (l1.length:Int):=odA;obtain ⟨A2,o0,O0⟩:=Kd.at_int b1.out w4 V0 a5
   cases o0
   try replace O0:=cB HB O0
   replace V0:=eq_true V0;replace a5:=eq_true a5;go_wp2_with (first | ((with_reducible refine gate_callee (f:=116) rfl ?_);refine goB 23 Try.func116 #[.int .i64 (rd l1 w4)] rfl ?_;(with_reducible refine (spec_PutNumber.calls k1 (rd l1 w4) p2 _ g3.out).mono ?_);rintro e S0 ⟨N2,rfl,u5,hb⟩;refine ⟨_,rfl,?_⟩;have U3:=rL (Kd.R_new' u5 (Kd.R_lt (rF U2)));replace U2:=ak (Kd.R_elder' (rF U2) (Kd.R_base u5) hb);replace HB:=bS hb;(try clear hb u5);obtain ⟨d1,D1,rfl⟩:=Kd.R_slice U3.out))
   go_loopg [0,25] k1 (fun kq v0 N3 w'=>∃ (w6:List Int) (w8:Int),N3=.int .i64 w8∧Aside0 (spec_l10PutList.l1 kq w6 l1 w4 p2 (p2.length:Int) w8=some r)∧Aside0 (kq≤k1)∧Aside0 (Kd.R (Kd.int .u8) 5 w' w.heap.size (fun k_=>some k_≠((.slice d1 p2.length D1):Value).ownBlock) v0 w6)∧Aside0 (Kd.R (Kd.int .u8) 5 w' w.heap.size (fun k_=>some k_≠(v0:Value).ownBlock) (.slice d1 p2.length D1) p2)∧Aside0 (Below w.heap.size w w'))
   case atStart=>exact ⟨(w3),(0),eqA,H',⟨Nat.le_refl _⟩,⟨rE (Kd.R_mono U2.out (fun _ hk=>hk.2))⟩,⟨rE (Kd.R_mono U3.out (fun _ hk=>hk.2))⟩,⟨belA⟩⟩
   case round =>
    clear H';obtain ⟨w6,w8,rfl,HA,W1,U2,U4,HB⟩:=hrel
    cases gk with
    | zero=>exact absurd HA.out (by simp [spec_l10PutList.l1])
    | succ k2 =>
     have H:=HA.out;clear HA;simp only [spec_l10PutList.l1] at H
     by_cases x2:w8 < (p2.length:Int);rotate_left
     · rw [if_neg x2] at H;have x3:=decide_eq_false x2;clear x2;have H':=ak H;clear H;go_wp2
       go_roundg k2
       case measure=>have:=W0.out;have:=W1.out;omega
       case rel=>exact ⟨(w6),(wrap64 (w4+1)),eqA,H',⟨by have:=W0.out;have:=W1.out;omega⟩,⟨rE (Kd.R_mono U2.out (fun _ hk=>trivial))⟩,⟨belA⟩⟩
     rw [if_pos x2] at H;have x3:=decide_eq_true x2;clear x2
     obtain ⟨x4,H⟩:=iN H;have x5:=decide_eq_true x4;clear x4
     obtain ⟨x6,H⟩:=iN H;have x7:=decide_eq_true x6;clear x6
     obtain ⟨x8,H⟩:=iN H;have E0:=ak x8;clear x8;obtain ⟨k0,hyq⟩:∃ y_:List Int,y_=(w6 ++ [rd p2 w8]):=⟨_,rfl⟩;replace H:(spec_l10PutList.l1 k2 k0 l1 w4 p2 (p2.length:Int) (wrap64 (w8+1)))=some r:=xq7
     have K0:=ak hyq;clear hyq;have H':=ak H;clear H;have V1:0≤(w8:Int):=odA;have a6:w8 < (p2.length:Int):=odA;obtain ⟨A5,o1,O1⟩:=Kd.at_int (Kd.R_reads' U4.out).2.2 w8 V1 a6
     cases o1
     replace V1:=eq_true V1;replace a6:=eq_true a6;go_wp2_with (first | ((with_reducible refine gate_builtin (b:=.append) (xs:=#[.tmp 29,.tmp 31]) rfl ?_);at_builtin;refine Kd.R_append (Kd.int .u8) (w0:=w) w.heap.size rfl (.tmp 29) (.tmp 31) 22 5 (.int .u8 0) 1 rfl Try.underlying22 info5 rfl (by decide) (by omega) u0 w6 (rd p2 w8) [.int .u8 (rd p2 w8)] (fun k_=>some k_≠(.slice (some A5) p2.length D1:Value).ownBlock) (fun _=>False) rfl rfl ?aP (fun _ hk=>hk.elim) ?aF ?aO ?aB ?aS ?aL ?_;(case aP=>exact rfl);(case aB=>exact belA);(case aF=>exact (fun k_ hk=>Kd.fresh' (Kd.R_lt (rF U4)) k_ hk));(case aO=>exact (rF U2));(case aS=>exact (below_size belA));(case aL=>exact xq15);intro N4 S1 ho hb hg hat;rw [← K0.out] at ho;have U5:=ak ho;replace U4:=ak (Kd.R_after (ok:=(fun _=>True)) (by (with_reducible repeat (first | apply Kd.R_alloc | apply Kd.R_drewN | apply Kd.R_drew));first | exact Kd.R_mono U4.out (fun _ hk=>⟨trivial,hk⟩) | exact Kd.R_mono U4.out (fun _ _=>trivial)) hg hat);replace HB:=ak hb;clear U2;clear ho hb hg hat))
     go_roundg k2
     case measure=>have:=W0.out;have:=W1.out;omega
     case rel=>exact ⟨(k0),(wrap64 (w8+1)),eqA,H',⟨by have:=W0.out;have:=W1.out;omega⟩,⟨rA U5⟩,⟨rE (Kd.R_mono U4.out (fun _ hk=>hk.2))⟩,⟨belA⟩⟩

def spec_EncodeJob.f (k:Nat) (a0_0:Int) (a0_1:Int) (l0_2:List Int) (l0_3:List Int) (a0_4:Int):Option (List Int):=(spec_JobOk.f k a0_0 a0_1 l0_2 l0_3 a0_4).bind fun t778=>(if t778=true then ((spec_PutNumber.f k a0_4).bind fun t782=>((spec_l01Join.f k (([(a0_0) % 256,(a0_1) % 256]:List Int)) t782).bind fun t785=>((spec_l10PutList.f k t785 l0_2).bind fun t788=>((spec_l10PutList.f k t788 l0_3).bind fun t791=>(some t791))))) else (some ([]:List Int)))
def spec_EncodeJob.T3:Bool × List (List Nat × List Nat):=(true,[([],[]),([0],[0]),([1],[1]),([],[]),([3],[3]),([4],[4]),([2,5],[2,5]),([],[]),([7],[7]),([8],[8]),([6,9,9],[6,9]),([10,10,0,1,2,3,4,5,6,7,8,9,10],[10])])
def spec_EncodeJob.B3:List Nat:=[0,1,3,0,8,24,63,0,128,384,1023,2047]
theorem spec_EncodeJob.tab3:rtab .any (opsOf Try.f89 3)=spec_EncodeJob.T3:=by kernel_rfl
theorem spec_EncodeJob.bits3:waitsOk spec_EncodeJob.T3.2 spec_EncodeJob.B3=true:=by kernel_rfl
def spec_EncodeJob.T4:Bool × List (List Nat × List Nat):=(true,[([],[]),([],[]),([1],[1]),([0,2],[0,2]),([],[]),([4],[4]),([3,5,3],[3,5]),([6,6,0,1,2,3,4,5,6],[6])])
def spec_EncodeJob.B4:List Nat:=[0,0,2,7,0,16,63,127]
theorem spec_EncodeJob.tab4:rtab .any (opsOf Try.f89 4)=spec_EncodeJob.T4:=by kernel_rfl
theorem spec_EncodeJob.bits4:waitsOk spec_EncodeJob.T4.2 spec_EncodeJob.B4=true:=by kernel_rfl
theorem spec_EncodeJob.calls (k:Nat) (a0_0:Int) (a0_1:Int) (A0_2:Option Addr) (c0_2:Nat) (l0_2:List Int) (A0_3:Option Addr) (c0_3:Nat) (l0_3:List Int) (a0_4:Int) (r:List Int) (w:World) (hr0_2:Kd.C (Kd.int .i64) w A0_2 l0_2.length l0_2) (hc0_2:l0_2.length≤c0_2) (hr0_3:Kd.C (Kd.int .i64) w A0_3 l0_3.length l0_3) (hc0_3:l0_3.length≤c0_3) (h:spec_EncodeJob.f k a0_0 a0_1 l0_2 l0_3 a0_4=some r) :
 Calls Try.prog 89 #[.agg #[.int .i64 a0_0,.int .i64 a0_1,.slice A0_2 l0_2.length c0_2,.slice A0_3 l0_3.length c0_3,.int .i64 a0_4]] w fun e w'=>∃ v0_:Value,e=.returned (v0_)∧Kd.R (Kd.int .u8) 5 w' w.heap.size (fun _=>True) v0_ r∧Below w.heap.size w w':=by
 have b0:=Try.underlying49;have b1:=ak hr0_2;have B0:=ak hc0_2;clear hr0_2 hc0_2;have b2:=ak hr0_3;have B2:=ak hc0_3;clear hr0_3 hc0_3;have HB:=ak (Below.refl w.heap.size w);have H:=h;clear h;unfold spec_EncodeJob.f at H;obtain ⟨p0,A2,H⟩:=ob H;(try dsimp only at H)
 by_cases c3:p0=true;rotate_left
 · replace c3:=Bool.eq_false_iff.mpr c3;subst c3;rw [if_neg (show ¬ (false=true) by decide)] at H;obtain rfl:=Option.some.inj H;go_enter Try.func89,Try.ntmps89
   go_wp2_with (first | ((with_reducible refine gate_dst (N:=1) rfl ?_);refine boxA 1 #[.int .i64 a0_0,.int .i64 a0_1,.slice A0_2 l0_2.length c0_2,.slice A0_3 l0_3.length c0_3,.int .i64 a0_4] 49 ?_;intro l2 hg S0 hbox hb;have B6:=ak hbox;have w3:=leA (w:=w) hg;have W0:=leA (w:=w) hg;replace HB:=bS hb;clear hb hbox hg;obtain ⟨_,_,_,_,_,_,_,_,_,_⟩:=cel5 B6) | ((with_reducible refine gate_callee (f:=45) rfl ?_);refine goB 5 Try.func45 #[.agg #[.int .i64 a0_0,.int .i64 a0_1,.slice A0_2 l0_2.length c0_2,.slice A0_3 l0_3.length c0_3,.int .i64 a0_4]] rfl ?_;(with_reducible refine (spec_JobOk.calls k a0_0 a0_1 _ _ l0_2 _ _ l0_3 a0_4 false _ ?side1 B0.out ?side3 B2.out A2.out).mono ?_);(case side1=>exact cA (Kd.C_below b1.out HB.out));(case side3=>exact cA (Kd.C_below b2.out HB.out));rintro e S1 ⟨rfl,hb⟩;refine ⟨_,rfl,?_⟩;replace B6:=bB B6 hb;replace HB:=bS hb;(try clear hb)))
   go_ret
   exact ⟨_,xq4,xq16,belA⟩
 subst c3;rw [if_pos rfl] at H;obtain ⟨k0,hyq⟩:∃ y_:List Int,y_=(([(a0_0) % 256,(a0_1) % 256]:List Int)):=⟨_,rfl⟩;replace H:((spec_PutNumber.f k a0_4).bind fun p1=>((spec_l01Join.f k k0 p1).bind fun p2=>((spec_l10PutList.f k p2 l0_2).bind fun p3=>((spec_l10PutList.f k p3 l0_3).bind fun p4=>(some p4)))))=some r:=xq7
 have K0:=ak hyq;clear hyq;obtain ⟨p1,A4,H⟩:=ob H;(try dsimp only at H);obtain ⟨p2,A5,H⟩:=ob H;(try dsimp only at H);obtain ⟨p3,A6,H⟩:=ob H;(try dsimp only at H);obtain ⟨p4,A7,H⟩:=ob H;(try dsimp only at H);obtain rfl:=Option.some.inj H;go_enter Try.func89,Try.ntmps89
 try go_wp2_with (first | ((with_reducible refine gate_dst (N:=1) rfl ?_);refine boxA 1 #[.int .i64 a0_0,.int .i64 a0_1,.slice A0_2 l0_2.length c0_2,.slice A0_3 l0_3.length c0_3,.int .i64 a0_4] 49 ?_;intro l2 hg w8 hbox hb;have B6:=ak hbox;have w3:=leA (w:=w) hg;have W0:=leA (w:=w) hg;replace HB:=bS hb;clear hb hbox hg;obtain ⟨_,_,_,_,_,_,_,_,_,_⟩:=cel5 B6) | ((with_reducible refine gate_callee (f:=45) rfl ?_);refine goB 5 Try.func45 #[.agg #[.int .i64 a0_0,.int .i64 a0_1,.slice A0_2 l0_2.length c0_2,.slice A0_3 l0_3.length c0_3,.int .i64 a0_4]] rfl ?_;(with_reducible refine (spec_JobOk.calls k a0_0 a0_1 _ _ l0_2 _ _ l0_3 a0_4 true _ ?side1 B0.out ?side3 B2.out A2.out).mono ?_);(case side1=>exact cA (Kd.C_below b1.out HB.out));(case side3=>exact cA (Kd.C_below b2.out HB.out));rintro e S2 ⟨rfl,hb⟩;refine ⟨_,rfl,?_⟩;replace B6:=bB B6 hb;replace HB:=bS hb;(try clear hb)))
 replace B6:=ak (blk_drew B6.out);replace HB:=ak (below_drew1 HB.out);refine start_ (n:=12) (S:=fun w'=>True) (ds:=[]) _ (by kernel_rfl) rfl rfl trivial (fun hHeld=>?_);refine with_tabW spec_EncodeJob.tab3 spec_EncodeJob.bits3 (fun HT_ HW_=>?_)
 generalize S2.drew=S3 at B6 HB hHeld ⊢
 refine pR 0 7 (ba 12 1) ?_;refine pR 3 10 (ba 12 9) ?_;refine pR 7 14 (ba 12 137) ?_
 refine inv_at [1,2,4,5,6,8,9,10,11] (fun A0 b a w'=>∃ (N0:Value) (N1:Value) (N2:Value) (o0:Value),a=putSel A0 b [(1,8,.int .i64 a0_0),(2,9,.int .u8 ((a0_0) % 256)),(4,11,.int .i64 a0_1),(5,12,.int .u8 ((a0_1) % 256)),(6,13,N0),(8,15,.int .i64 a0_4),(9,16,N1),(10,17,N2),(11,3,o0)]∧(w'.heap[l2]?=some (.cells #[.int .i64 a0_0,.int .i64 a0_1,.slice A0_2 l0_2.length c0_2,.slice A0_3 l0_3.length c0_3,.int .i64 a0_4] 49 (0,0)))∧(Below w.heap.size w w')∧(b 6=true → Kd.R (Kd.int .u8) 5 w' w.heap.size (fun _=>True) N0 k0)∧(b 9=true → Kd.R (Kd.int .u8) 5 w' w.heap.size (fun _=>True) N1 p1)∧(b 10=true → Kd.R (Kd.int .u8) 5 w' w.heap.size (fun _=>True) N2 p2)∧(b 11=true → (o0:Value)=N2)) HT_.out HW_.out (by kernel_rfl) (by kernel_rfl) ?_ ?_ ?_
 · exact ⟨.bool false,.bool false,.bool false,.bool false,by simp only [putSel,Bool.false_eq_true,if_false],B6.out,HB.out,fun h_=>absurd h_ (by decide),fun h_=>absurd h_ (by decide),fun h_=>absurd h_ (by decide),fun h_=>absurd h_ (by decide)⟩
 · skip
   clear B6 HB;refine steps_cons ?_ ?_
   · rintro b a w' ⟨N0,N1,N2,o0,ha,Q_BK777,Q_HB,Q_HO781,Q_HO784,Q_HO787,Q_X11_⟩ hb_ hon hoff
     refine ⟨_,rfl,fun K hK=>?_⟩
     have e7:a.tmps[7]?=some (.pointer (some ⟨l2,0,none⟩)):=xq43
     replace ha:=ak ha;have B6:=ak Q_BK777;have HB:=ak Q_HB;have t0:w'.cell? ⟨l2,0,none⟩=some (.int .i64 a0_0):=bc B6 0;have t1:w'.cell? ⟨l2,1,none⟩=some (.int .i64 a0_1):=bc B6 1;have t2:w'.cell? ⟨l2,2,none⟩=some (.slice A0_2 l0_2.length c0_2):=bc B6 2;have t3:w'.cell? ⟨l2,3,none⟩=some (.slice A0_3 l0_3.length c0_3):=bc B6 3;have t4:w'.cell? ⟨l2,4,none⟩=some (.int .i64 a0_4):=bc B6 4;refine value_ (w1:=w') (v:=.int .i64 a0_0) (by rfl) rfl ?_ ?_
     · go_simp
       (try simp only [i64_w])
       try rfl
     refine hK.out _ _ ⟨N0,N1,N2,o0,(by rw [ha.out];exact putSel_upk 0 hb_ rfl rfl rfl),Q_BK777,Q_HB,fun O0=>absurd ((hoff 6 (by kernel_rfl)).symm.trans O0) (by decide),Q_HO784,fun O0=>absurd ((hoff 10 (by kernel_rfl)).symm.trans O0) (by decide),fun O0=>absurd ((hoff 11 (by kernel_rfl)).symm.trans O0) (by decide)⟩
   refine steps_cons ?_ ?_
   · rintro b a w' ⟨N0,N1,N2,o0,ha,Q_BK777,Q_HB,Q_HO781,Q_HO784,Q_HO787,Q_X11_⟩ hb_ hon hoff
     refine ⟨_,rfl,fun K hK=>?_⟩
     have e8:a.tmps[8]?=some (.int .i64 a0_0):=xq107
     replace ha:=ak ha;have B6:=ak Q_BK777;have HB:=ak Q_HB;refine value_ (w1:=w') (v:=.int .u8 ((a0_0) % 256)) (by rfl) rfl ?_ ?_
     · go_simp
       (try simp only [i64_w])
       try rfl
     refine hK.out _ _ ⟨N0,N1,N2,o0,(by rw [ha.out];exact putSel_upk 1 hb_ rfl rfl rfl),Q_BK777,Q_HB,fun O0=>absurd ((hoff 6 (by kernel_rfl)).symm.trans O0) (by decide),Q_HO784,fun O0=>absurd ((hoff 10 (by kernel_rfl)).symm.trans O0) (by decide),fun O0=>absurd ((hoff 11 (by kernel_rfl)).symm.trans O0) (by decide)⟩
   refine steps_cons ?_ ?_
   · rintro b a w' ⟨N0,N1,N2,o0,ha,Q_BK777,Q_HB,Q_HO781,Q_HO784,Q_HO787,Q_X11_⟩ hb_ hon hoff
     refine ⟨_,rfl,fun K hK=>?_⟩
     have o1:a.tmps[10]?=some (.pointer (some ⟨l2,1,none⟩)):=xq43
     replace ha:=ak ha;have B6:=ak Q_BK777;have HB:=ak Q_HB;have t0:w'.cell? ⟨l2,0,none⟩=some (.int .i64 a0_0):=bc B6 0;have t1:w'.cell? ⟨l2,1,none⟩=some (.int .i64 a0_1):=bc B6 1;have t2:w'.cell? ⟨l2,2,none⟩=some (.slice A0_2 l0_2.length c0_2):=bc B6 2;have t3:w'.cell? ⟨l2,3,none⟩=some (.slice A0_3 l0_3.length c0_3):=bc B6 3;have t4:w'.cell? ⟨l2,4,none⟩=some (.int .i64 a0_4):=bc B6 4;refine value_ (w1:=w') (v:=.int .i64 a0_1) (by rfl) rfl ?_ ?_
     · go_simp
       (try simp only [i64_w])
       try rfl
     refine hK.out _ _ ⟨N0,N1,N2,o0,(by rw [ha.out];exact putSel_upk 2 hb_ rfl rfl rfl),Q_BK777,Q_HB,fun O0=>absurd ((hoff 6 (by kernel_rfl)).symm.trans O0) (by decide),Q_HO784,fun O0=>absurd ((hoff 10 (by kernel_rfl)).symm.trans O0) (by decide),fun O0=>absurd ((hoff 11 (by kernel_rfl)).symm.trans O0) (by decide)⟩
   refine steps_cons ?_ ?_
   · rintro b a w' ⟨N0,N1,N2,o0,ha,Q_BK777,Q_HB,Q_HO781,Q_HO784,Q_HO787,Q_X11_⟩ hb_ hon hoff
     refine ⟨_,rfl,fun K hK=>?_⟩
     have o2:a.tmps[11]?=some (.int .i64 a0_1):=by rw [ha];exact putSel_on (e:=(4,11,.int .i64 a0_1)) 2 rfl rfl (hon 4 (by kernel_rfl)) rfl
     replace ha:=ak ha;have B6:=ak Q_BK777;have HB:=ak Q_HB;refine value_ (w1:=w') (v:=.int .u8 ((a0_1) % 256)) (by rfl) rfl ?_ ?_
     · go_simp
       (try simp only [i64_w])
       try rfl
     refine hK.out _ _ ⟨N0,N1,N2,o0,(by rw [ha.out];exact putSel_upk 3 hb_ rfl rfl rfl),Q_BK777,Q_HB,fun O0=>absurd ((hoff 6 (by kernel_rfl)).symm.trans O0) (by decide),Q_HO784,fun O0=>absurd ((hoff 10 (by kernel_rfl)).symm.trans O0) (by decide),fun O0=>absurd ((hoff 11 (by kernel_rfl)).symm.trans O0) (by decide)⟩
   refine steps_cons ?_ ?_
   · rintro b a w' ⟨N0,N1,N2,o0,ha,Q_BK777,Q_HB,Q_HO781,Q_HO784,Q_HO787,Q_X11_⟩ hb_ hon hoff
     refine ⟨_,rfl,fun K hK=>?_⟩
     have e9:a.tmps[9]?=some (.int .u8 ((a0_0) % 256)):=xq108
     have o3:a.tmps[12]?=some (.int .u8 ((a0_1) % 256)):=by rw [ha];exact putSel_on (e:=(5,12,.int .u8 ((a0_1) % 256))) 3 rfl rfl (hon 5 (by kernel_rfl)) rfl
     replace ha:=ak ha;have B6:=ak Q_BK777;have HB:=ak Q_HB;refine Kd.R_lit_step (Kd.int .u8) _ 5 ?hg (N:=13) ?hd (xs:=([(a0_0) % 256,(a0_1) % 256]:List Int)) (inner:=[.int .u8 ((a0_0) % 256),.int .u8 ((a0_1) % 256)]) (ok:=fun _=>True) (okp:=fun _=>True) ?hr ?hp (fun _ hk=>hk) trivial (Below.refl _ _) (Nat.le_refl _) (by simp) ?_;(case hd=>rfl);(case hg=>rfl);(case hr=>exact xq10);(case hp=>exact xq73)
     intro N0 S4 u5 hb hg_ hnew_;clear hg_ hnew_;(first | rw [← K0.out] at u5 | (simp only [Int.reduceToNat] at u5;rw [← K0.out] at u5))
     have x0:=rL u5;have x1:=bB B6 hb;have x2:=bS hb;have z_HO784:=fun (O0:b 9=true)=>(show Kd.R (Kd.int .u8) 5 S4 w.heap.size (fun _=>True) N1 p1 from by first | exact (Kd.R_elder' (rE (Q_HO784 O0)) (Kd.R_base u5) hb) | exact Kd.R_mono (Kd.R_elder' (rE (Q_HO784 O0)) (Kd.R_base u5) hb) (fun _ h_=>by first | trivial | exact h_ | exact h_.1))
     clear B6;clear HB;have U0:=x0;have B6:=x1;have HB:=x2;clear x0 x1 x2;clear hb u5;refine hK.out _ _ ⟨N0,N1,N2,o0,(by rw [ha.out];exact putSel_upk 4 hb_ rfl rfl rfl),blkA,belA,fun _=>(rF U0),z_HO784,fun O0=>absurd ((hoff 10 (by kernel_rfl)).symm.trans O0) (by decide),fun O0=>absurd ((hoff 11 (by kernel_rfl)).symm.trans O0) (by decide)⟩
   refine steps_cons ?_ ?_
   · rintro b a w' ⟨N0,N1,N2,o0,ha,Q_BK777,Q_HB,Q_HO781,Q_HO784,Q_HO787,Q_X11_⟩ hb_ hon hoff
     refine ⟨_,rfl,fun K hK=>?_⟩
     have o4:a.tmps[14]?=some (.pointer (some ⟨l2,4,none⟩)):=xq43
     replace ha:=ak ha;have B6:=ak Q_BK777;have HB:=ak Q_HB;have t0:w'.cell? ⟨l2,0,none⟩=some (.int .i64 a0_0):=bc B6 0;have t1:w'.cell? ⟨l2,1,none⟩=some (.int .i64 a0_1):=bc B6 1;have t2:w'.cell? ⟨l2,2,none⟩=some (.slice A0_2 l0_2.length c0_2):=bc B6 2;have t3:w'.cell? ⟨l2,3,none⟩=some (.slice A0_3 l0_3.length c0_3):=bc B6 3;have t4:w'.cell? ⟨l2,4,none⟩=some (.int .i64 a0_4):=bc B6 4;refine value_ (w1:=w') (v:=.int .i64 a0_4) (by rfl) rfl ?_ ?_
     · go_simp
       (try simp only [i64_w])
       try rfl
     refine hK.out _ _ ⟨N0,N1,N2,o0,(by rw [ha.out];exact putSel_upk 5 hb_ rfl rfl rfl),Q_BK777,Q_HB,Q_HO781,fun O0=>absurd ((hoff 9 (by kernel_rfl)).symm.trans O0) (by decide),fun O0=>absurd ((hoff 10 (by kernel_rfl)).symm.trans O0) (by decide),fun O0=>absurd ((hoff 11 (by kernel_rfl)).symm.trans O0) (by decide)⟩
   refine steps_cons ?_ ?_
   · rintro b a w' ⟨N0,N1,N2,o0,ha,Q_BK777,Q_HB,Q_HO781,Q_HO784,Q_HO787,Q_X11_⟩ hb_ hon hoff
     refine ⟨_,rfl,fun K hK=>?_⟩
     have o5:a.tmps[15]?=some (.int .i64 a0_4):=by rw [ha];exact putSel_on (e:=(8,15,.int .i64 a0_4)) 5 rfl rfl (hon 8 (by kernel_rfl)) rfl
     replace ha:=ak ha;have B6:=ak Q_BK777;have HB:=ak Q_HB;refine goes_ Try.func116 (by kernel_rfl) rfl #[.int .i64 a0_4] (by rfl) rfl rfl (by first | (simp only [List.map_toArray,List.map_cons,List.map_nil,Act.eval,Array.getD_eq_getD_getElem?,Option.getD_some,o5];done) | (simp only [List.map_toArray,List.map_cons,List.map_nil,Act.eval,Array.getD_eq_getD_getElem?,Option.getD_some,o5];rfl)) ?_
     with_reducible refine (spec_PutNumber.calls k a0_4 p1 _ A4.out).mono ?_
     rintro e S4 ⟨N1,rfl,u6,hb⟩
     refine ⟨_,rfl,?_⟩
     have x0:=rL u6;have x1:=bB B6 hb;have x2:=bS hb;have z_HO781:=fun (O0:b 6=true)=>(show Kd.R (Kd.int .u8) 5 S4 w.heap.size (fun _=>True) N0 k0 from by first | exact (Kd.R_elder' (rE (Q_HO781 O0)) (Kd.R_base u6) hb) | exact Kd.R_mono (Kd.R_elder' (rE (Q_HO781 O0)) (Kd.R_base u6) hb) (fun _ h_=>by first | trivial | exact h_ | exact h_.1))
     clear B6;clear HB;have U1:=x0;have B6:=x1;have HB:=x2;clear x0 x1 x2;(try clear hb u6);refine hK.out _ _ ⟨N0,N1,N2,o0,(by rw [ha.out];exact putSel_upk 6 hb_ rfl rfl rfl),blkA,belA,z_HO781,fun _=>(rF U1),fun O0=>absurd ((hoff 10 (by kernel_rfl)).symm.trans O0) (by decide),fun O0=>absurd ((hoff 11 (by kernel_rfl)).symm.trans O0) (by decide)⟩
   refine steps_cons ?_ ?_
   · rintro b a w' ⟨N0,N1,N2,o0,ha,Q_BK777,Q_HB,Q_HO781,Q_HO784,Q_HO787,Q_X11_⟩ hb_ hon hoff
     refine ⟨_,rfl,fun K hK=>?_⟩
     have o6:a.tmps[13]?=some (N0):=by rw [ha];exact putSel_on (e:=(6,13,N0)) 4 rfl rfl (hon 6 (by kernel_rfl)) rfl
     have o7:a.tmps[16]?=some (N1):=by rw [ha];exact putSel_on (e:=(9,16,N1)) 6 rfl rfl (hon 9 (by kernel_rfl)) rfl
     replace ha:=ak ha;have B6:=ak Q_BK777;have HB:=ak Q_HB;have U0:=ak (Q_HO781 (hon 6 (by kernel_rfl)));have U1:=ak (Q_HO784 (hon 9 (by kernel_rfl)));obtain ⟨d0,D0,F0⟩:=Kd.R_slice U0.out;(first | subst F0 | (injection F0 with H0 H1 H2;have H3:=H0.symm;have H4:=H2.symm;clear H0 H1 H2;subst H3;subst H4))
     obtain ⟨d1,D1,F1⟩:=Kd.R_slice U1.out;(first | subst F1 | (injection F1 with H0 H1 H2;have H3:=H0.symm;have H4:=H2.symm;clear H0 H1 H2;subst H3;subst H4))
     refine goes_ Try.func96 (by kernel_rfl) rfl #[.slice d0 k0.length D0,.slice d1 p1.length D1] (by rfl) rfl rfl (by first | (simp only [List.map_toArray,List.map_cons,List.map_nil,Act.eval,Array.getD_eq_getD_getElem?,Option.getD_some,o6,o7];done) | (simp only [List.map_toArray,List.map_cons,List.map_nil,Act.eval,Array.getD_eq_getD_getElem?,Option.getD_some,o6,o7];rfl)) ?_
     with_reducible refine (spec_l01Join.calls k _ _ k0 _ _ p1 p2 _ ?side1 ?side2 ?side3 ?side4 A5.out).mono ?_
     (case side1=>exact cA ((Kd.R_reads' U0.out).2.2))
     (case side2=>exact (Kd.R_reads' U0.out).2.1)
     (case side3=>exact cA ((Kd.R_reads' U1.out).2.2))
     (case side4=>exact (Kd.R_reads' U1.out).2.1)
     rintro e S5 ⟨N2,rfl,u6,hb⟩
     refine ⟨_,rfl,?_⟩
     have U2:=rL (Kd.R_new' (Kd.R_new' u6 (Kd.R_lt (rF U0))) (Kd.R_lt (rF U1)));replace U0:=ak (Kd.R_elder' (rF U0) (Kd.R_base u6) hb);replace U1:=ak (Kd.R_elder' (rF U1) (Kd.R_base u6) hb);replace B6:=bB B6 hb;replace HB:=bS hb;(try clear hb u6);refine hK.out _ _ ⟨.slice d0 k0.length D0,.slice d1 p1.length D1,N2,o0,(by rw [ha.out];exact putSel_upk 7 hb_ rfl rfl rfl),blkA,belA,fun _=>(rF U0),fun _=>(rF U1),fun _=>xq106,fun O0=>absurd ((hoff 11 (by kernel_rfl)).symm.trans O0) (by decide)⟩
   refine steps_cons ?_ ?_
   · rintro b a w' ⟨N0,N1,N2,o0,ha,Q_BK777,Q_HB,Q_HO781,Q_HO784,Q_HO787,Q_X11_⟩ hb_ hon hoff
     refine ⟨_,rfl,fun K hK=>?_⟩
     have o8:a.tmps[17]?=some (N2):=by rw [ha];exact putSel_on (e:=(10,17,N2)) 7 rfl rfl (hon 10 (by kernel_rfl)) rfl
     replace ha:=ak ha;have B6:=ak Q_BK777;have HB:=ak Q_HB;have U0:=ak (Q_HO781 (hon 6 (by kernel_rfl)));have U1:=ak (Q_HO784 (hon 9 (by kernel_rfl)));have U2:=ak (Q_HO787 (hon 10 (by kernel_rfl)));refine value_ (w1:=w') (v:=N2) (by rfl) rfl ?_ ?_
     · go_simp
       (try simp only [i64_w])
       try rfl
     refine hK.out _ _ ⟨N0,N1,N2,(N2),(by rw [ha.out];exact putSel_upk 8 hb_ rfl rfl rfl),Q_BK777,Q_HB,Q_HO781,Q_HO784,Q_HO787,fun _=>rfl⟩
   exact steps_nil
 rintro b a S5 hall ⟨N0,N1,N2,o0,ha,Q_BK777,Q_HB,Q_HO781,Q_HO784,Q_HO787,Q_X11_⟩
 clear B6 HB;have a5:=hall 1 (by kernel_rfl);have a6:=hall 2 (by kernel_rfl);have a7:=hall 4 (by kernel_rfl);have a8:=hall 5 (by kernel_rfl);have a9:=hall 6 (by kernel_rfl);have aa:=hall 8 (by kernel_rfl);have ab:=hall 9 (by kernel_rfl);have ac:=hall 10 (by kernel_rfl);have ad:=hall 11 (by kernel_rfl);subst ha;obtain rfl:=Q_X11_ ad;simp only [putSel,a5,a6,a7,a8,a9,aa,ab,ac,ad,if_true,Act.put,sa,sb,sc]
 have B6:=ak Q_BK777;clear Q_BK777;have HB:=ak Q_HB;clear Q_HB;have U0:=ak (Q_HO781 a9);clear Q_HO781;have U1:=ak (Q_HO784 ab);clear Q_HO784;have U2:=ak (Q_HO787 ac);clear Q_HO787;clear hall a5 a6 a7 a8 a9 aa ab ac ad;try go_wp2
 replace U0:=ak (Kd.R_drew U0.out);replace U1:=ak (Kd.R_drew U1.out);replace U2:=ak (Kd.R_drew U2.out);replace B6:=ak (blk_drew B6.out);replace HB:=ak (below_drew1 HB.out);obtain ⟨d2,D2,F2⟩:=Kd.R_slice U2.out;(first | subst F2 | (injection F2 with H0 H1 H2;have H3:=H0.symm;have H4:=H2.symm;clear H0 H1 H2;subst H3;subst H4))
 refine start_ (n:=8) (S:=fun w'=>w'.cell? ⟨l2,0,none⟩=some (.int .i64 a0_0)∧w'.cell? ⟨l2,1,none⟩=some (.int .i64 a0_1)∧w'.cell? ⟨l2,2,none⟩=some (.slice A0_2 l0_2.length c0_2)∧w'.cell? ⟨l2,3,none⟩=some (.slice A0_3 l0_3.length c0_3)∧w'.cell? ⟨l2,4,none⟩=some (.int .i64 a0_4)) (ds:=[]) _ (by kernel_rfl) rfl rfl ⟨bc B6 0,bc B6 1,bc B6 2,bc B6 3,bc B6 4⟩ (fun hHeld=>?_);refine with_tabW spec_EncodeJob.tab4 spec_EncodeJob.bits4 (fun HT_ HW_=>?_)
 generalize S5.drew=S6 at U0 U1 U2 B6 HB hHeld ⊢
 refine pR 0 18 (ba 8 1) ?_;refine pR 1 19 (ba 8 3) ?_;refine pR 4 22 (ba 8 19) ?_;refine tR5 2 20 (ba 8 23) ?_;refine tR5 5 23 (ba 8 55) ?_
 refine one_ (i:=3) (N:=some 21) (ba 8 63) rfl rfl (one_of HT_.out (by kernel_rfl)) (by decide) (fun K hK=>?_)
 refine goes_ Try.func117 (by kernel_rfl) rfl #[.slice d2 p2.length D2,.slice A0_2 l0_2.length c0_2] (by rfl) rfl rfl xq30 ?_
 with_reducible refine (spec_l10PutList.calls k _ _ p2 _ _ l0_2 p3 _ ?side1 ?side2 ?side3 ?side4 A6.out).mono ?_
 (case side1=>exact cA ((Kd.R_reads' U2.out).2.2))
 (case side2=>exact (Kd.R_reads' U2.out).2.1)
 (case side3=>exact cA (Kd.C_below b1.out HB.out))
 (case side4=>exact B0.out)
 rintro e S7 ⟨N3,rfl,u6,hb⟩
 refine ⟨_,rfl,?_⟩
 have U3:=rL (Kd.R_new' (Kd.R_new' (Kd.R_new' u6 (Kd.R_lt (rF U0))) (Kd.R_lt (rF U1))) (Kd.R_lt (rF U2)));replace U0:=ak (Kd.R_elder' (rF U0) (Kd.R_base u6) hb);replace U1:=ak (Kd.R_elder' (rF U1) (Kd.R_base u6) hb);replace U2:=ak (Kd.R_elder' (rF U2) (Kd.R_base u6) hb);replace B6:=bB B6 hb;replace HB:=bS hb;(try clear hb u6);obtain ⟨d3,D3,F3⟩:=Kd.R_slice U3.out;(first | subst F3 | (injection F3 with H0 H1 H2;have H3:=H0.symm;have H4:=H2.symm;clear H0 H1 H2;subst H3;subst H4))
 refine hK.out _ _ ⟨bc B6 0,bc B6 1,bc B6 2,bc B6 3,bc B6 4⟩ (fun hHeld=>?_)
 clear hK K;refine nR 21 ?_
 refine one_ (i:=6) (N:=some 24) (ba 8 127) rfl rfl (one_of HT_.out (by kernel_rfl)) (by decide) (fun K hK=>?_)
 refine goes_ Try.func117 (by kernel_rfl) rfl #[.slice d3 p3.length D3,.slice A0_3 l0_3.length c0_3] (by rfl) rfl rfl xq30 ?_
 with_reducible refine (spec_l10PutList.calls k _ _ p3 _ _ l0_3 p4 _ ?side1 ?side2 ?side3 ?side4 A7.out).mono ?_
 (case side1=>exact cA ((Kd.R_reads' U3.out).2.2))
 (case side2=>exact (Kd.R_reads' U3.out).2.1)
 (case side3=>exact cA (Kd.C_below b2.out HB.out))
 (case side4=>exact B2.out)
 rintro e S8 ⟨N4,rfl,u6,hb⟩
 refine ⟨_,rfl,?_⟩
 have U4:=rL (Kd.R_new' (Kd.R_new' (Kd.R_new' (Kd.R_new' u6 (Kd.R_lt (rF U0))) (Kd.R_lt (rF U1))) (Kd.R_lt (rF U2))) (Kd.R_lt (rF U3)));replace U0:=ak (Kd.R_elder' (rF U0) (Kd.R_base u6) hb);replace U1:=ak (Kd.R_elder' (rF U1) (Kd.R_base u6) hb);replace U2:=ak (Kd.R_elder' (rF U2) (Kd.R_base u6) hb);replace U3:=ak (Kd.R_elder' (rF U3) (Kd.R_base u6) hb);replace B6:=bB B6 hb;replace HB:=bS hb;(try clear hb u6);refine hK.out _ _ ⟨bc B6 0,bc B6 1,bc B6 2,bc B6 3,bc B6 4⟩ (fun hHeld=>?_)
 clear hK K;refine nR 24 ?_;refine pR 7 2 (ba 8 255) ?_
 refine done_ (done_of HT_.out (by kernel_rfl)) ?_
 try go_wp2
 go_ret
 exact ⟨_,xq4,by (with_reducible repeat (first | apply Kd.R_alloc | apply Kd.R_drewN | apply Kd.R_drew));exact Kd.R_mono U4.out (fun _ hk=>trivial),belA⟩

def spec_FrameOk.f (a0_0:Int) (a0_1:Int) (l0_2:List Int):Option (Bool):=(spec_l01In.f a0_0 0 99).bind fun t795=>(if t795=true then ((spec_l01In.f a0_1 0 2147483647).bind fun t796=>(if t796=true then (some (decide ((l0_2.length:Int)≤5000))) else (some false))) else (some false))
theorem spec_FrameOk.calls (a0_0:Int) (a0_1:Int) (A0_2:Option Addr) (c0_2:Nat) (l0_2:List Int) (r:Bool) (w:World) (hr0_2:Kd.C (Kd.int .u8) w A0_2 l0_2.length l0_2) (hc0_2:l0_2.length≤c0_2) (h:spec_FrameOk.f a0_0 a0_1 l0_2=some r) :
 Calls Try.prog 73 #[.agg #[.int .i64 a0_0,.int .i64 a0_1,.slice A0_2 l0_2.length c0_2]] w fun e w'=>e=.returned (.bool r)∧Below w.heap.size w w':=by
 have b0:=Try.underlying52;have b1:=ak hr0_2;have B0:=ak hc0_2;clear hr0_2 hc0_2;have HB:=ak (Below.refl w.heap.size w);have H:=h;clear h;unfold spec_FrameOk.f at H;obtain ⟨p0,A2,H⟩:=ob H;(try dsimp only at H)
 by_cases c3:p0=true;rotate_left
 · replace c3:=Bool.eq_false_iff.mpr c3;subst c3;rw [if_neg (show ¬ (false=true) by decide)] at H;obtain rfl:=Option.some.inj H;go_enter Try.func73,Try.ntmps73
   go_wp2_with (first | ((with_reducible refine gate_dst (N:=1) rfl ?_);(try (refine gate_guard (by rfl) ?_;dsimp only));refine boxA 1 #[.int .i64 a0_0,.int .i64 a0_1,.slice A0_2 l0_2.length c0_2] 52 ?_;intro l2 hg S0 hbox hb;have B2:=ak hbox;have w3:=leA (w:=w) hg;have W0:=leA (w:=w) hg;replace HB:=bS hb;clear hb hbox hg;obtain ⟨_,_,_,_,_,_⟩:=cel3 B2) | ((with_reducible refine gate_callee (f:=62) rfl ?_);refine goB 5 Try.func62 #[.int .i64 a0_0,.int .i64 0,.int .i64 99] rfl ?_;(with_reducible refine (spec_l01In.calls a0_0 0 99 false _ A2.out).mono ?_);rintro e w' ⟨rfl,⟨nd,rfl⟩⟩;refine ⟨_,rfl,?_⟩))
   go_ret
   exact ⟨xq4,belA⟩
 subst c3;rw [if_pos rfl] at H;obtain ⟨p1,A4,H⟩:=ob H;(try dsimp only at H)
 by_cases c5:p1=true
 · subst c5;rw [if_pos rfl] at H;obtain rfl:=Option.some.inj H;go_enter Try.func73,Try.ntmps73
   go_wp2_with (first | ((with_reducible refine gate_dst (N:=1) rfl ?_);(try (refine gate_guard (by rfl) ?_;dsimp only));refine boxA 1 #[.int .i64 a0_0,.int .i64 a0_1,.slice A0_2 l0_2.length c0_2] 52 ?_;intro l2 hg w6 hbox hb;have B2:=ak hbox;have w3:=leA (w:=w) hg;have W0:=leA (w:=w) hg;replace HB:=bS hb;clear hb hbox hg;obtain ⟨_,_,_,_,_,_⟩:=cel3 B2) | ((with_reducible refine gate_callee (f:=62) rfl ?_);refine goB 5 Try.func62 #[.int .i64 a0_0,.int .i64 0,.int .i64 99] rfl ?_;(with_reducible refine (spec_l01In.calls a0_0 0 99 true _ A2.out).mono ?_);rintro e w' ⟨rfl,⟨nd,rfl⟩⟩;refine ⟨_,rfl,?_⟩) | (go_at_call 62;(with_reducible refine (spec_l01In.calls a0_1 0 2147483647 true _ A4.out).mono ?_);rintro e w' ⟨rfl,⟨nd,rfl⟩⟩))
   go_ret
   exact ⟨xq4,belA⟩
 replace c5:=Bool.eq_false_iff.mpr c5;subst c5;rw [if_neg (show ¬ (false=true) by decide)] at H;obtain rfl:=Option.some.inj H;go_enter Try.func73,Try.ntmps73
 go_wp2_with (first | ((with_reducible refine gate_dst (N:=1) rfl ?_);(try (refine gate_guard (by rfl) ?_;dsimp only));refine boxA 1 #[.int .i64 a0_0,.int .i64 a0_1,.slice A0_2 l0_2.length c0_2] 52 ?_;intro l2 hg w8 hbox hb;have B2:=ak hbox;have w3:=leA (w:=w) hg;have W0:=leA (w:=w) hg;replace HB:=bS hb;clear hb hbox hg;obtain ⟨_,_,_,_,_,_⟩:=cel3 B2) | ((with_reducible refine gate_callee (f:=62) rfl ?_);refine goB 5 Try.func62 #[.int .i64 a0_0,.int .i64 0,.int .i64 99] rfl ?_;(with_reducible refine (spec_l01In.calls a0_0 0 99 true _ A2.out).mono ?_);rintro e w' ⟨rfl,⟨nd,rfl⟩⟩;refine ⟨_,rfl,?_⟩) | (go_at_call 62;(with_reducible refine (spec_l01In.calls a0_1 0 2147483647 false _ A4.out).mono ?_);rintro e w' ⟨rfl,⟨nd,rfl⟩⟩))
 go_ret
 exact ⟨xq4,belA⟩

def spec_l11Wide.l0:Nat → Int → List Int → Int → Option (List Int)
 | 0,_,_,_=>none
 | k+1,x0,x5,x6=>if x6 ≥ 0 then (if 0≤(IntKind.u64.wrap (wrap64 (8 * x6))) then (if x5.length < 140737488355328 then (spec_l11Wide.l0 k x0 (x5 ++ [(Go.bits .and .i64 (shr .i64 x0 (IntKind.u64.wrap (wrap64 (8 * x6)))) 255) % 256]) (wrap64 (x6 - 1))) else (none)) else (none)) else (some x5)
def spec_l11Wide.f (k:Nat) (a0:Int) (a1:Int):Option (List Int):=spec_l11Wide.l0 k a0 (([]:List Int)) (wrap64 (a1 - 1))
theorem spec_l11Wide.calls (k:Nat) (a0:Int) (a1:Int) (r:List Int) (w:World) (h:spec_l11Wide.f k a0 a1=some r) :
 Calls Try.prog 120 #[.int .i64 a0,.int .i64 a1] w fun e w'=>∃ v0_:Value,e=.returned (v0_)∧Kd.R (Kd.int .u8) 5 w' w.heap.size (fun _=>True) v0_ r∧Below w.heap.size w w':=by
 have HB:=ak (Below.refl w.heap.size w);have H:(spec_l11Wide.l0 k a0 (([]:List Int)) (wrap64 (a1 - 1)))=some r:=h;clear h;obtain ⟨k0,hyq⟩:∃ y_:List Int,y_=(([]:List Int)):=⟨_,rfl⟩;replace H:(spec_l11Wide.l0 k a0 k0 (wrap64 (a1 - 1)))=some r:=xq7
 have K0:=ak hyq;clear hyq;have H':=ak H;clear H;go_enter Try.func120,Try.ntmps120
 go_wp2_with (first | ((with_reducible refine gate_dst (N:=7) rfl ?_);refine Kd.R_lit (Kd.int .u8) _ 5 ?hg (N:=7) ?hd (xs:=([]:List Int)) (inner:=[]) (ok:=fun _=>True) (okp:=fun _=>True) ?hr ?hp (fun _ hk=>hk) trivial (Below.refl _ _) (Nat.le_refl _) (by simp) ?_;(case hd=>rfl);(case hg=>rfl);(case hr=>exact xq10);(case hp=>exact (Reps.none _ _));intro N0 w3 u6 hb hg_ hnew_;clear hg_ hnew_;(first | rw [← K0.out] at u6 | (simp only [Int.reduceToNat] at u6;rw [← K0.out] at u6));have U0:=rL u6;replace HB:=bS hb;clear hb u6))
 go_loopg [5,6] k (fun kq v5 v6 w'=>∃ (w4:List Int) (w5:Int),v6=.int .i64 w5∧Aside0 (spec_l11Wide.l0 kq a0 w4 w5=some r)∧Aside0 (kq≤k)∧Aside0 (Kd.R (Kd.int .u8) 5 w' w.heap.size (fun _=>True) v5 w4)∧Aside0 (Below w.heap.size w w'))
 case atStart=>exact ⟨(k0),(wrap64 (a1 - 1)),eqA,H',⟨Nat.le_refl _⟩,⟨rA U0⟩,⟨belA⟩⟩
 case round =>
  clear H';obtain ⟨w4,w5,rfl,HA,W0,U1,HB⟩:=hrel
  cases gk with
  | zero=>exact absurd HA.out (by simp [spec_l11Wide.l0])
  | succ k1 =>
   have H:=HA.out;clear HA;simp only [spec_l11Wide.l0] at H
   by_cases c5:w5 ≥ 0;rotate_left
   · rw [if_neg c5] at H;have x0:decide (0≤w5)=false:=decide_eq_false c5;clear c5;obtain rfl:=Option.some.inj H;go_wp2
     go_ret
     exact ⟨_,xq4,xq23,belA⟩
   rw [if_pos c5] at H;have x0:decide (0≤w5)=true:=decide_eq_true c5;clear c5;obtain ⟨Y0,v0⟩:∃ j_:Int,(IntKind.u64.wrap (wrap64 (8 * w5)))=j_:=⟨_,rfl⟩;replace H:(if 0≤(Y0) then (if w4.length < 140737488355328 then (spec_l11Wide.l0 k1 a0 (w4 ++ [(Go.bits .and .i64 (shr .i64 a0 (Y0)) 255) % 256]) (wrap64 (w5 - 1))) else (none)) else (none))=some r:=xq35
   obtain ⟨c7,H⟩:=iN H;have x1:=eq_true c7;have x2:decide (0≤(Y0))=true:=decide_eq_true c7;clear c7;obtain ⟨Y1,v1⟩:∃ j_:Int,(shr .i64 a0 (Y0))=j_:=⟨_,rfl⟩;replace H:(if w4.length < 140737488355328 then (spec_l11Wide.l0 k1 a0 (w4 ++ [(Go.bits .and .i64 (Y1) 255) % 256]) (wrap64 (w5 - 1))) else (none))=some r:=xq67
   have v2:(a0 / 2 ^ min (Y0).toNat 64)=Y1:=v1;have hji8z:(Y0)≤64 → (a0 / 2 ^ (Y0).toNat)=Y1:=shr_small v1
   obtain ⟨c9,H⟩:=iN H;have E0:=ak c9;clear c9;obtain ⟨k2,hyq⟩:∃ y_:List Int,y_=(w4 ++ [(Go.bits .and .i64 (Y1) 255) % 256]):=⟨_,rfl⟩;replace H:(spec_l11Wide.l0 k1 a0 k2 (wrap64 (w5 - 1)))=some r:=xq7
   have K1:=ak hyq;clear hyq;have H':=ak H;clear H;go_wp2_with (first | ((with_reducible refine gate_builtin (b:=.append) (xs:=#[.tmp 14,.tmp 22]) rfl ?_);at_builtin;refine Kd.R_append (Kd.int .u8) (w0:=w) w.heap.size rfl (.tmp 14) (.tmp 22) 22 5 (.int .u8 0) 1 rfl Try.underlying22 info5 rfl (by decide) (by omega) u5 w4 ((Go.bits .and .i64 (Y1) 255) % 256) [.int .u8 ((Go.bits .and .i64 (Y1) 255) % 256)] (fun _=>True) (fun _=>False) rfl rfl ?aP (fun _ hk=>hk.elim) ?aF ?aO ?aB ?aS ?aL ?_;(case aP=>exact rfl);(case aB=>exact belA);(case aF=>exact (fun _ _=>trivial));(case aO=>exact (rF U1));(case aS=>exact (below_size belA));(case aL=>exact xq15);intro N1 S0 ho hb hg hat;rw [← K1.out] at ho;have U2:=ak ho;replace HB:=ak hb;clear U1;clear ho hb hg hat))
   go_roundg k1
   case measure=>have:=W0.out;omega
   case rel=>exact ⟨(k2),(wrap64 (w5 - 1)),eqA,H',⟨xq14⟩,⟨rA U2⟩,⟨belA⟩⟩

end Go.Proofs.Ytogdhclomgafdaa.PFnWireJobs
