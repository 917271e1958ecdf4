-- Written by a program of this session (the print of the kit with contracts of this session's own added)
import Derived.Test.YtogdhclomgafdaaZFWJx19
set_option maxHeartbeats 8000000
set_option maxRecDepth 100000
namespace Go.Proofs.Ytogdhclomgafdaa.PFnWireJobs
open Go.RowKit Go.Proofs.YtogdhclomgafdaaW.PrintWords Go.Proofs.YtogdhclomgafdaaW.PrintLast Go.Proofs.YtogdhclomgafdaaW.PrintMore Go.Proofs.YtogdhclomgafdaaW.PrintPack Go.Proofs.YtogdhclomgafdaaW.PrintPack
set_option linter.unusedVariables false
set_option linter.unusedSimpArgs false

def spec_CheckSum.l0:Nat → List Int → Int → Int → Int → Option (Int)
 | 0,_,_,_,_=>none
 | k+1,x0,x3,x4,x5=>if x5 < (x0.length:Int) then (if 0≤x5 then (spec_CheckSum.l0 k x0 (Int.tmod (wrap64 (x3+(wrap64 (rd x0 x5)))) 65521) (Int.tmod (wrap64 (x4+(Int.tmod (wrap64 (x3+(wrap64 (rd x0 x5)))) 65521))) 65521) (wrap64 (x5+1))) else (none)) else (some (wrap64 ((wrap64 (65536 * x4))+x3)))
def spec_CheckSum.f (k:Nat) (l0:List Int):Option (Int):=spec_CheckSum.l0 k l0 1 0 0
theorem spec_CheckSum.calls (k:Nat) (A0:Option Addr) (c0:Nat) (l0:List Int) (r:Int) (w:World) (hr0:Kd.C (Kd.int .u8) w A0 l0.length l0) (hc0:l0.length≤c0) (h:spec_CheckSum.f k l0=some r) :
 Calls Try.prog 121 #[.slice A0 l0.length c0] w fun e w'=>e=.returned (.int .i64 r)∧Drawn0 w w':=by
 have b0:=ak hr0;have B0:=ak hc0;clear hr0 hc0;have H:(spec_CheckSum.l0 k l0 1 0 0)=some r:=h;clear h;have H':=ak H;clear H;go_enter Try.func121,Try.ntmps121
 go_wp2
 go_loopg [3,4,5] k (fun kq v3 v4 v5 w'=>∃ (w3:Int) (w4:Int) (w5:Int),v3=.int .i64 w3∧v4=.int .i64 w4∧v5=.int .i64 w5∧Aside0 (spec_CheckSum.l0 kq l0 w3 w4 w5=some r)∧Aside0 (kq≤k)∧Drawn0 w w')
 case atStart=>exact ⟨(1),(0),(0),eqA,eqA,eqA,H',⟨Nat.le_refl _⟩,xq5⟩
 case round =>
  clear H';obtain ⟨w3,w4,w5,rfl,rfl,rfl,HA,W0,⟨m1,rfl⟩⟩:=hrel
  cases gk with
  | zero=>exact absurd HA.out (by simp [spec_CheckSum.l0])
  | succ k1 =>
   have H:=HA.out;clear HA;simp only [spec_CheckSum.l0] at H
   by_cases c2:w5 < (l0.length:Int);rotate_left
   · rw [if_neg c2] at H;have x0:=decide_eq_false c2;clear c2;obtain rfl:=Option.some.inj H;go_wp2
     go_ret
     exact ⟨xq9,xq5⟩
   rw [if_pos c2] at H;have x0:=decide_eq_true c2;clear c2
   obtain ⟨c3,H⟩:=iN H;have x1:=decide_eq_true c3;clear c3;have H':=ak H;clear H;have V0:0≤(w5:Int):=odA;have a5:w5 < (l0.length:Int):=odA;obtain ⟨A1,o0,O0⟩:=Kd.at_int b0.out w5 V0 a5
   cases o0
   replace V0:=eq_true V0;replace a5:=eq_true a5;go_wp2
   go_roundg k1
   case measure=>have:=W0.out;omega
   case rel=>exact ⟨(Int.tmod (wrap64 (w3+(wrap64 (rd l0 w5)))) 65521),(Int.tmod (wrap64 (w4+(Int.tmod (wrap64 (w3+(wrap64 (rd l0 w5)))) 65521))) 65521),(wrap64 (w5+1)),eqA,eqA,eqA,H',⟨xq14⟩,xq5⟩

def spec_EncodeFrame.f (k:Nat) (a0_0:Int) (a0_1:Int) (l0_2:List Int):Option (List Int):=(spec_FrameOk.f a0_0 a0_1 l0_2).bind fun t805=>(if t805=true then ((spec_l11Wide.f k a0_1 4).bind fun t809=>((spec_l01Join.f k (([(a0_0) % 256]:List Int)) t809).bind fun t812=>((spec_l11Wide.f k (l0_2.length:Int) 2).bind fun t815=>((spec_l01Join.f k t812 t815).bind fun t818=>((spec_l01Join.f k t818 l0_2).bind fun t821=>((spec_l01Join.f k (([199,77]:List Int)) t821).bind fun t827=>((spec_CheckSum.f k t821).bind fun t830=>((spec_l11Wide.f k t830 4).bind fun t831=>((spec_l01Join.f k t827 t831).bind fun t834=>(some t834)))))))))) else (some ([]:List Int)))
def spec_EncodeFrame.T3:Bool × List (List Nat × List Nat):=(true,[([],[]),([0],[0]),([1],[1]),([2],[2]),([],[]),([4],[4]),([5],[5]),([3,6,6],[3,6]),([7,7,0,1,2,3,4,5,6,7],[7])])
def spec_EncodeFrame.B3:List Nat:=[0,1,3,7,0,16,48,127,255]
theorem spec_EncodeFrame.tab3:rtab .any (opsOf Try.f97 3)=spec_EncodeFrame.T3:=by kernel_rfl
theorem spec_EncodeFrame.bits3:waitsOk spec_EncodeFrame.T3.2 spec_EncodeFrame.B3=true:=by kernel_rfl
def spec_EncodeFrame.T4:Bool × List (List Nat × List Nat):=(true,[([],[]),([],[]),([1],[1]),([2],[2]),([3],[3]),([0,4,4],[0,4]),([],[]),([6],[6]),([5,7,5],[5,7]),([8,8,0,1,2,3,4,5,6,7,8],[0,8])])
def spec_EncodeFrame.B4:List Nat:=[0,0,2,6,14,31,0,64,255,511]
theorem spec_EncodeFrame.tab4:rtab .any (opsOf Try.f97 4)=spec_EncodeFrame.T4:=by kernel_rfl
theorem spec_EncodeFrame.bits4:waitsOk spec_EncodeFrame.T4.2 spec_EncodeFrame.B4=true:=by kernel_rfl
theorem spec_EncodeFrame.calls (k:Nat) (a0_0:Int) (a0_1:Int) (A0_2:Option Addr) (c0_2:Nat) (l0_2:List Int) (r:List Int) (w:World) (hr0_2:Kd.C (Kd.int .u8) w A0_2 l0_2.length l0_2) (hc0_2:l0_2.length≤c0_2) (h:spec_EncodeFrame.f k a0_0 a0_1 l0_2=some r) :
 Calls Try.prog 97 #[.agg #[.int .i64 a0_0,.int .i64 a0_1,.slice A0_2 l0_2.length c0_2]] w fun e w'=>∃ v0_:Value,e=.returned (v0_)∧Kd.R (Kd.int .u8) 5 w' w.heap.size (fun _=>True) v0_ r∧Below w.heap.size w w':=by
 have b0:=Try.underlying52;have b1:=ak hr0_2;have B0:=ak hc0_2;clear hr0_2 hc0_2;have HB:=ak (Below.refl w.heap.size w);have H:=h;clear h;unfold spec_EncodeFrame.f at H;obtain ⟨p0,A2,H⟩:=ob H;(try dsimp only at H)
 by_cases c3:p0=true;rotate_left
 · replace c3:=Bool.eq_false_iff.mpr c3;subst c3;rw [if_neg (show ¬ (false=true) by decide)] at H;obtain rfl:=Option.some.inj H;go_enter Try.func97,Try.ntmps97
   go_wp2_with (first | ((with_reducible refine gate_dst (N:=1) rfl ?_);refine boxA 1 #[.int .i64 a0_0,.int .i64 a0_1,.slice A0_2 l0_2.length c0_2] 52 ?_;intro l2 hg S0 hbox hb;have B2:=ak hbox;have w3:=leA (w:=w) hg;have W0:=leA (w:=w) hg;replace HB:=bS hb;clear hb hbox hg;obtain ⟨_,_,_,_,_,_⟩:=cel3 B2) | ((with_reducible refine gate_callee (f:=73) rfl ?_);refine goB 5 Try.func73 #[.agg #[.int .i64 a0_0,.int .i64 a0_1,.slice A0_2 l0_2.length c0_2]] rfl ?_;(with_reducible refine (spec_FrameOk.calls a0_0 a0_1 _ _ l0_2 false _ ?side1 B0.out A2.out).mono ?_);(case side1=>exact cA (Kd.C_below b1.out HB.out));rintro e S1 ⟨rfl,hb⟩;refine ⟨_,rfl,?_⟩;replace B2:=bB B2 hb;replace HB:=bS hb;(try clear hb)))
   go_ret
   exact ⟨_,xq4,xq16,belA⟩
 subst c3;rw [if_pos rfl] at H;obtain ⟨k0,hyq⟩:∃ y_:List Int,y_=(([(a0_0) % 256]:List Int)):=⟨_,rfl⟩;replace H:((spec_l11Wide.f k a0_1 4).bind fun p1=>((spec_l01Join.f k k0 p1).bind fun p2=>((spec_l11Wide.f k (l0_2.length:Int) 2).bind fun p3=>((spec_l01Join.f k p2 p3).bind fun p4=>((spec_l01Join.f k p4 l0_2).bind fun p5=>((spec_l01Join.f k (([199,77]:List Int)) p5).bind fun p6=>((spec_CheckSum.f k p5).bind fun p7=>((spec_l11Wide.f k p7 4).bind fun p8=>((spec_l01Join.f k p6 p8).bind fun p9=>(some p9))))))))))=some r:=xq7
 have K0:=ak hyq;clear hyq;obtain ⟨p1,A4,H⟩:=ob H;(try dsimp only at H);obtain ⟨p2,A5,H⟩:=ob H;(try dsimp only at H);obtain ⟨p3,A6,H⟩:=ob H;(try dsimp only at H);obtain ⟨p4,A7,H⟩:=ob H;(try dsimp only at H);obtain ⟨p5,A8,H⟩:=ob H;(try dsimp only at H);obtain ⟨k1,hyq⟩:∃ y_:List Int,y_=(([199,77]:List Int)):=⟨_,rfl⟩;replace H:((spec_l01Join.f k k1 p5).bind fun p6=>((spec_CheckSum.f k p5).bind fun p7=>((spec_l11Wide.f k p7 4).bind fun p8=>((spec_l01Join.f k p6 p8).bind fun p9=>(some p9)))))=some r:=xq7
 have K1:=ak hyq;clear hyq;obtain ⟨p6,A9,H⟩:=ob H;(try dsimp only at H);obtain ⟨p7,g3,H⟩:=ob H;(try dsimp only at H);obtain ⟨p8,g4,H⟩:=ob H;(try dsimp only at H);obtain ⟨p9,g5,H⟩:=ob H;(try dsimp only at H);obtain rfl:=Option.some.inj H;go_enter Try.func97,Try.ntmps97
 try go_wp2_with (first | ((with_reducible refine gate_dst (N:=1) rfl ?_);refine boxA 1 #[.int .i64 a0_0,.int .i64 a0_1,.slice A0_2 l0_2.length c0_2] 52 ?_;intro l2 hg S2 hbox hb;have B2:=ak hbox;have w3:=leA (w:=w) hg;have W0:=leA (w:=w) hg;replace HB:=bS hb;clear hb hbox hg;obtain ⟨_,_,_,_,_,_⟩:=cel3 B2) | ((with_reducible refine gate_callee (f:=73) rfl ?_);refine goB 5 Try.func73 #[.agg #[.int .i64 a0_0,.int .i64 a0_1,.slice A0_2 l0_2.length c0_2]] rfl ?_;(with_reducible refine (spec_FrameOk.calls a0_0 a0_1 _ _ l0_2 true _ ?side1 B0.out A2.out).mono ?_);(case side1=>exact cA (Kd.C_below b1.out HB.out));rintro e S3 ⟨rfl,hb⟩;refine ⟨_,rfl,?_⟩;replace B2:=bB B2 hb;replace HB:=bS hb;(try clear hb)))
 replace B2:=ak (blk_drew B2.out);replace HB:=ak (below_drew1 HB.out);refine start_ (n:=9) (S:=fun w'=>True) (ds:=[]) _ (by kernel_rfl) rfl rfl trivial (fun hHeld=>?_);refine with_tabW spec_EncodeFrame.tab3 spec_EncodeFrame.bits3 (fun HT_ HW_=>?_)
 generalize S3.drew=S4 at B2 HB hHeld ⊢
 refine pR 0 7 (ba 9 1) ?_;refine pR 4 11 (ba 9 17) ?_
 refine inv_at [1,2,3,5,6,7,8] (fun A0 b a w'=>∃ (N0:Value) (N1:Value) (N2:Value) (o0:Value),a=putSel A0 b [(1,8,.int .i64 a0_0),(2,9,.int .u8 ((a0_0) % 256)),(3,10,N0),(5,12,.int .i64 a0_1),(6,13,N1),(7,14,N2),(8,3,o0)]∧(w'.heap[l2]?=some (.cells #[.int .i64 a0_0,.int .i64 a0_1,.slice A0_2 l0_2.length c0_2] 52 (0,0)))∧(Below w.heap.size w w')∧(b 3=true → Kd.R (Kd.int .u8) 5 w' w.heap.size (fun _=>True) N0 k0)∧(b 6=true → Kd.R (Kd.int .u8) 5 w' w.heap.size (fun _=>True) N1 p1)∧(b 7=true → Kd.R (Kd.int .u8) 5 w' w.heap.size (fun _=>True) N2 p2)∧(b 8=true → (o0:Value)=N2)) HT_.out HW_.out (by kernel_rfl) (by kernel_rfl) ?_ ?_ ?_
 · exact ⟨.bool false,.bool false,.bool false,.bool false,by simp only [putSel,Bool.false_eq_true,if_false],B2.out,HB.out,fun h_=>absurd h_ (by decide),fun h_=>absurd h_ (by decide),fun h_=>absurd h_ (by decide),fun h_=>absurd h_ (by decide)⟩
 · skip
   clear B2 HB;refine steps_cons ?_ ?_
   · rintro b a w' ⟨N0,N1,N2,o0,ha,Q_BK804,Q_HB,Q_HO808,Q_HO811,Q_HO814,Q_X8_⟩ hb_ hon hoff
     refine ⟨_,rfl,fun K hK=>?_⟩
     have e7:a.tmps[7]?=some (.pointer (some ⟨l2,0,none⟩)):=xq43
     replace ha:=ak ha;have B2:=ak Q_BK804;have HB:=ak Q_HB;have t0:w'.cell? ⟨l2,0,none⟩=some (.int .i64 a0_0):=bc B2 0;have t1:w'.cell? ⟨l2,1,none⟩=some (.int .i64 a0_1):=bc B2 1;have t2:w'.cell? ⟨l2,2,none⟩=some (.slice A0_2 l0_2.length c0_2):=bc B2 2;refine value_ (w1:=w') (v:=.int .i64 a0_0) (by rfl) rfl ?_ ?_
     · go_simp
       (try simp only [i64_w])
       try rfl
     refine hK.out _ _ ⟨N0,N1,N2,o0,(by rw [ha.out];exact putSel_upk 0 hb_ rfl rfl rfl),Q_BK804,Q_HB,fun O0=>absurd ((hoff 3 (by kernel_rfl)).symm.trans O0) (by decide),Q_HO811,fun O0=>absurd ((hoff 7 (by kernel_rfl)).symm.trans O0) (by decide),fun O0=>absurd ((hoff 8 (by kernel_rfl)).symm.trans O0) (by decide)⟩
   refine steps_cons ?_ ?_
   · rintro b a w' ⟨N0,N1,N2,o0,ha,Q_BK804,Q_HB,Q_HO808,Q_HO811,Q_HO814,Q_X8_⟩ hb_ hon hoff
     refine ⟨_,rfl,fun K hK=>?_⟩
     have e8:a.tmps[8]?=some (.int .i64 a0_0):=xq107
     replace ha:=ak ha;have B2:=ak Q_BK804;have HB:=ak Q_HB;refine value_ (w1:=w') (v:=.int .u8 ((a0_0) % 256)) (by rfl) rfl ?_ ?_
     · go_simp
       (try simp only [i64_w])
       try rfl
     refine hK.out _ _ ⟨N0,N1,N2,o0,(by rw [ha.out];exact putSel_upk 1 hb_ rfl rfl rfl),Q_BK804,Q_HB,fun O0=>absurd ((hoff 3 (by kernel_rfl)).symm.trans O0) (by decide),Q_HO811,fun O0=>absurd ((hoff 7 (by kernel_rfl)).symm.trans O0) (by decide),fun O0=>absurd ((hoff 8 (by kernel_rfl)).symm.trans O0) (by decide)⟩
   refine steps_cons ?_ ?_
   · rintro b a w' ⟨N0,N1,N2,o0,ha,Q_BK804,Q_HB,Q_HO808,Q_HO811,Q_HO814,Q_X8_⟩ hb_ hon hoff
     refine ⟨_,rfl,fun K hK=>?_⟩
     have e9:a.tmps[9]?=some (.int .u8 ((a0_0) % 256)):=xq108
     replace ha:=ak ha;have B2:=ak Q_BK804;have HB:=ak Q_HB;refine Kd.R_lit_step (Kd.int .u8) _ 5 ?hg (N:=10) ?hd (xs:=([(a0_0) % 256]:List Int)) (inner:=[.int .u8 ((a0_0) % 256)]) (ok:=fun _=>True) (okp:=fun _=>True) ?hr ?hp (fun _ hk=>hk) trivial (Below.refl _ _) (Nat.le_refl _) (by simp) ?_;(case hd=>rfl);(case hg=>rfl);(case hr=>exact xq10);(case hp=>exact (Reps.one (show Kd.M (Kd.int .u8) _ _ _ ((a0_0) % 256) [.int .u8 ((a0_0) % 256)] from rfl) (Reps.none _ _)))
     intro N0 S5 u5 hb hg_ hnew_;clear hg_ hnew_;(first | rw [← K0.out] at u5 | (simp only [Int.reduceToNat] at u5;rw [← K0.out] at u5))
     have x0:=rL u5;have x1:=bB B2 hb;have x2:=bS hb;have z_HO811:=fun (O0:b 6=true)=>(show Kd.R (Kd.int .u8) 5 S5 w.heap.size (fun _=>True) N1 p1 from by first | exact (Kd.R_elder' (rE (Q_HO811 O0)) (Kd.R_base u5) hb) | exact Kd.R_mono (Kd.R_elder' (rE (Q_HO811 O0)) (Kd.R_base u5) hb) (fun _ h_=>by first | trivial | exact h_ | exact h_.1))
     clear B2;clear HB;have U0:=x0;have B2:=x1;have HB:=x2;clear x0 x1 x2;clear hb u5;refine hK.out _ _ ⟨N0,N1,N2,o0,(by rw [ha.out];exact putSel_upk 2 hb_ rfl rfl rfl),blkA,belA,fun _=>(rF U0),z_HO811,fun O0=>absurd ((hoff 7 (by kernel_rfl)).symm.trans O0) (by decide),fun O0=>absurd ((hoff 8 (by kernel_rfl)).symm.trans O0) (by decide)⟩
   refine steps_cons ?_ ?_
   · rintro b a w' ⟨N0,N1,N2,o0,ha,Q_BK804,Q_HB,Q_HO808,Q_HO811,Q_HO814,Q_X8_⟩ hb_ hon hoff
     refine ⟨_,rfl,fun K hK=>?_⟩
     have o1:a.tmps[11]?=some (.pointer (some ⟨l2,1,none⟩)):=xq43
     replace ha:=ak ha;have B2:=ak Q_BK804;have HB:=ak Q_HB;have t0:w'.cell? ⟨l2,0,none⟩=some (.int .i64 a0_0):=bc B2 0;have t1:w'.cell? ⟨l2,1,none⟩=some (.int .i64 a0_1):=bc B2 1;have t2:w'.cell? ⟨l2,2,none⟩=some (.slice A0_2 l0_2.length c0_2):=bc B2 2;refine value_ (w1:=w') (v:=.int .i64 a0_1) (by rfl) rfl ?_ ?_
     · go_simp
       (try simp only [i64_w])
       try rfl
     refine hK.out _ _ ⟨N0,N1,N2,o0,(by rw [ha.out];exact putSel_upk 3 hb_ rfl rfl rfl),Q_BK804,Q_HB,Q_HO808,fun O0=>absurd ((hoff 6 (by kernel_rfl)).symm.trans O0) (by decide),fun O0=>absurd ((hoff 7 (by kernel_rfl)).symm.trans O0) (by decide),fun O0=>absurd ((hoff 8 (by kernel_rfl)).symm.trans O0) (by decide)⟩
   refine steps_cons ?_ ?_
   · rintro b a w' ⟨N0,N1,N2,o0,ha,Q_BK804,Q_HB,Q_HO808,Q_HO811,Q_HO814,Q_X8_⟩ hb_ hon hoff
     refine ⟨_,rfl,fun K hK=>?_⟩
     have o2:a.tmps[12]?=some (.int .i64 a0_1):=by rw [ha];exact putSel_on (e:=(5,12,.int .i64 a0_1)) 3 rfl rfl (hon 5 (by kernel_rfl)) rfl
     replace ha:=ak ha;have B2:=ak Q_BK804;have HB:=ak Q_HB;refine goes_ Try.func120 (by kernel_rfl) rfl #[.int .i64 a0_1,.int .i64 4] (by rfl) rfl rfl (by first | (simp only [List.map_toArray,List.map_cons,List.map_nil,Act.eval,Array.getD_eq_getD_getElem?,Option.getD_some,o2];done) | (simp only [List.map_toArray,List.map_cons,List.map_nil,Act.eval,Array.getD_eq_getD_getElem?,Option.getD_some,o2];rfl)) ?_
     with_reducible refine (spec_l11Wide.calls k a0_1 4 p1 _ A4.out).mono ?_
     rintro e S5 ⟨N1,rfl,u6,hb⟩
     refine ⟨_,rfl,?_⟩
     have x0:=rL u6;have x1:=bB B2 hb;have x2:=bS hb;have z_HO808:=fun (O0:b 3=true)=>(show Kd.R (Kd.int .u8) 5 S5 w.heap.size (fun _=>True) N0 k0 from by first | exact (Kd.R_elder' (rE (Q_HO808 O0)) (Kd.R_base u6) hb) | exact Kd.R_mono (Kd.R_elder' (rE (Q_HO808 O0)) (Kd.R_base u6) hb) (fun _ h_=>by first | trivial | exact h_ | exact h_.1))
     clear B2;clear HB;have U1:=x0;have B2:=x1;have HB:=x2;clear x0 x1 x2;(try clear hb u6);refine hK.out _ _ ⟨N0,N1,N2,o0,(by rw [ha.out];exact putSel_upk 4 hb_ rfl rfl rfl),blkA,belA,z_HO808,fun _=>(rF U1),fun O0=>absurd ((hoff 7 (by kernel_rfl)).symm.trans O0) (by decide),fun O0=>absurd ((hoff 8 (by kernel_rfl)).symm.trans O0) (by decide)⟩
   refine steps_cons ?_ ?_
   · rintro b a w' ⟨N0,N1,N2,o0,ha,Q_BK804,Q_HB,Q_HO808,Q_HO811,Q_HO814,Q_X8_⟩ hb_ hon hoff
     refine ⟨_,rfl,fun K hK=>?_⟩
     have o3:a.tmps[10]?=some (N0):=by rw [ha];exact putSel_on (e:=(3,10,N0)) 2 rfl rfl (hon 3 (by kernel_rfl)) rfl
     have o4:a.tmps[13]?=some (N1):=by rw [ha];exact putSel_on (e:=(6,13,N1)) 4 rfl rfl (hon 6 (by kernel_rfl)) rfl
     replace ha:=ak ha;have B2:=ak Q_BK804;have HB:=ak Q_HB;have U0:=ak (Q_HO808 (hon 3 (by kernel_rfl)));have U1:=ak (Q_HO811 (hon 6 (by kernel_rfl)));obtain ⟨d0,D0,F0⟩:=Kd.R_slice U0.out;(first | subst F0 | (injection F0 with H0 H1 H2;have H3:=H0.symm;have H4:=H2.symm;clear H0 H1 H2;subst H3;subst H4))
     obtain ⟨d1,D1,F1⟩:=Kd.R_slice U1.out;(first | subst F1 | (injection F1 with H0 H1 H2;have H3:=H0.symm;have H4:=H2.symm;clear H0 H1 H2;subst H3;subst H4))
     refine goes_ Try.func96 (by kernel_rfl) rfl #[.slice d0 k0.length D0,.slice d1 p1.length D1] (by rfl) rfl rfl (by first | (simp only [List.map_toArray,List.map_cons,List.map_nil,Act.eval,Array.getD_eq_getD_getElem?,Option.getD_some,o3,o4];done) | (simp only [List.map_toArray,List.map_cons,List.map_nil,Act.eval,Array.getD_eq_getD_getElem?,Option.getD_some,o3,o4];rfl)) ?_
     with_reducible refine (spec_l01Join.calls k _ _ k0 _ _ p1 p2 _ ?side1 ?side2 ?side3 ?side4 A5.out).mono ?_
     (case side1=>exact cA ((Kd.R_reads' U0.out).2.2))
     (case side2=>exact (Kd.R_reads' U0.out).2.1)
     (case side3=>exact cA ((Kd.R_reads' U1.out).2.2))
     (case side4=>exact (Kd.R_reads' U1.out).2.1)
     rintro e S6 ⟨N2,rfl,u6,hb⟩
     refine ⟨_,rfl,?_⟩
     have U2:=rL (Kd.R_new' (Kd.R_new' u6 (Kd.R_lt (rF U0))) (Kd.R_lt (rF U1)));replace U0:=ak (Kd.R_elder' (rF U0) (Kd.R_base u6) hb);replace U1:=ak (Kd.R_elder' (rF U1) (Kd.R_base u6) hb);replace B2:=bB B2 hb;replace HB:=bS hb;(try clear hb u6);refine hK.out _ _ ⟨.slice d0 k0.length D0,.slice d1 p1.length D1,N2,o0,(by rw [ha.out];exact putSel_upk 5 hb_ rfl rfl rfl),blkA,belA,fun _=>(rF U0),fun _=>(rF U1),fun _=>xq106,fun O0=>absurd ((hoff 8 (by kernel_rfl)).symm.trans O0) (by decide)⟩
   refine steps_cons ?_ ?_
   · rintro b a w' ⟨N0,N1,N2,o0,ha,Q_BK804,Q_HB,Q_HO808,Q_HO811,Q_HO814,Q_X8_⟩ hb_ hon hoff
     refine ⟨_,rfl,fun K hK=>?_⟩
     have o5:a.tmps[14]?=some (N2):=by rw [ha];exact putSel_on (e:=(7,14,N2)) 5 rfl rfl (hon 7 (by kernel_rfl)) rfl
     replace ha:=ak ha;have B2:=ak Q_BK804;have HB:=ak Q_HB;have U0:=ak (Q_HO808 (hon 3 (by kernel_rfl)));have U1:=ak (Q_HO811 (hon 6 (by kernel_rfl)));have U2:=ak (Q_HO814 (hon 7 (by kernel_rfl)));refine value_ (w1:=w') (v:=N2) (by rfl) rfl ?_ ?_
     · go_simp
       (try simp only [i64_w])
       try rfl
     refine hK.out _ _ ⟨N0,N1,N2,(N2),(by rw [ha.out];exact putSel_upk 6 hb_ rfl rfl rfl),Q_BK804,Q_HB,Q_HO808,Q_HO811,Q_HO814,fun _=>rfl⟩
   exact steps_nil
 rintro b a S6 hall ⟨N0,N1,N2,o0,ha,Q_BK804,Q_HB,Q_HO808,Q_HO811,Q_HO814,Q_X8_⟩
 clear B2 HB;have a5:=hall 1 (by kernel_rfl);have a6:=hall 2 (by kernel_rfl);have a7:=hall 3 (by kernel_rfl);have a8:=hall 5 (by kernel_rfl);have a9:=hall 6 (by kernel_rfl);have aa:=hall 7 (by kernel_rfl);have ab:=hall 8 (by kernel_rfl);subst ha;obtain rfl:=Q_X8_ ab;simp only [putSel,a5,a6,a7,a8,a9,aa,ab,if_true,Act.put,sa,sb,sc]
 have B2:=ak Q_BK804;clear Q_BK804;have HB:=ak Q_HB;clear Q_HB;have U0:=ak (Q_HO808 a7);clear Q_HO808;have U1:=ak (Q_HO811 a9);clear Q_HO811;have U2:=ak (Q_HO814 aa);clear Q_HO814;clear hall a5 a6 a7 a8 a9 aa ab;try go_wp2
 replace U0:=ak (Kd.R_drew U0.out);replace U1:=ak (Kd.R_drew U1.out);replace U2:=ak (Kd.R_drew U2.out);replace B2:=ak (blk_drew B2.out);replace HB:=ak (below_drew1 HB.out);refine start_ (n:=10) (S:=fun w'=>w'.cell? ⟨l2,0,none⟩=some (.int .i64 a0_0)∧w'.cell? ⟨l2,1,none⟩=some (.int .i64 a0_1)∧w'.cell? ⟨l2,2,none⟩=some (.slice A0_2 l0_2.length c0_2)) (ds:=[]) _ (by kernel_rfl) rfl rfl ⟨bc B2 0,bc B2 1,bc B2 2⟩ (fun hHeld=>?_);refine with_tabW spec_EncodeFrame.tab4 spec_EncodeFrame.bits4 (fun HT_ HW_=>?_)
 generalize S6.drew=S7 at U0 U1 U2 B2 HB hHeld ⊢
 refine pR 0 15 (ba 10 1) ?_;refine pR 1 16 (ba 10 3) ?_;refine pR 6 21 (ba 10 67) ?_;refine tR3 2 17 (ba 10 71) ?_;refine pR 3 18 (ba 10 79) ?_;refine tR3 7 22 (ba 10 207) ?_
 refine one_ (i:=4) (N:=some 19) (ba 10 223) rfl rfl (one_of HT_.out (by kernel_rfl)) (by decide) (fun K hK=>?_)
 refine goes_ Try.func120 (by kernel_rfl) rfl #[.int .i64 (l0_2.length:Int),.int .i64 2] (by rfl) rfl rfl xq30 ?_
 with_reducible refine (spec_l11Wide.calls k (l0_2.length:Int) 2 p3 _ A6.out).mono ?_
 rintro e S8 ⟨N3,rfl,u6,hb⟩
 refine ⟨_,rfl,?_⟩
 have U3:=rL (Kd.R_new' (Kd.R_new' (Kd.R_new' u6 (Kd.R_lt (rF U0))) (Kd.R_lt (rF U1))) (Kd.R_lt (rF U2)));replace U0:=ak (Kd.R_elder' (rF U0) (Kd.R_base u6) hb);replace U1:=ak (Kd.R_elder' (rF U1) (Kd.R_base u6) hb);replace U2:=ak (Kd.R_elder' (rF U2) (Kd.R_base u6) hb);replace B2:=bB B2 hb;replace HB:=bS hb;(try clear hb u6);obtain ⟨d2,D2,F2⟩:=Kd.R_slice U2.out;(first | subst F2 | (injection F2 with H0 H1 H2;have H3:=H0.symm;have H4:=H2.symm;clear H0 H1 H2;subst H3;subst H4))
 obtain ⟨d3,D3,F3⟩:=Kd.R_slice U3.out;(first | subst F3 | (injection F3 with H0 H1 H2;have H3:=H0.symm;have H4:=H2.symm;clear H0 H1 H2;subst H3;subst H4))
 refine hK.out _ _ ⟨bc B2 0,bc B2 1,bc B2 2⟩ (fun hHeld=>?_)
 clear hK K;refine nR 19 ?_
 refine one_ (i:=5) (N:=some 20) (ba 10 255) rfl rfl (one_of HT_.out (by kernel_rfl)) (by decide) (fun K hK=>?_)
 refine goes_ Try.func96 (by kernel_rfl) rfl #[.slice d2 p2.length D2,.slice d3 p3.length D3] (by rfl) rfl rfl xq30 ?_
 with_reducible refine (spec_l01Join.calls k _ _ p2 _ _ p3 p4 _ ?side1 ?side2 ?side3 ?side4 A7.out).mono ?_
 (case side1=>exact cA ((Kd.R_reads' U2.out).2.2))
 (case side2=>exact (Kd.R_reads' U2.out).2.1)
 (case side3=>exact cA ((Kd.R_reads' U3.out).2.2))
 (case side4=>exact (Kd.R_reads' U3.out).2.1)
 rintro e S9 ⟨N4,rfl,u6,hb⟩
 refine ⟨_,rfl,?_⟩
 have U4:=rL (Kd.R_new' (Kd.R_new' (Kd.R_new' (Kd.R_new' u6 (Kd.R_lt (rF U0))) (Kd.R_lt (rF U1))) (Kd.R_lt (rF U2))) (Kd.R_lt (rF U3)));replace U0:=ak (Kd.R_elder' (rF U0) (Kd.R_base u6) hb);replace U1:=ak (Kd.R_elder' (rF U1) (Kd.R_base u6) hb);replace U2:=ak (Kd.R_elder' (rF U2) (Kd.R_base u6) hb);replace U3:=ak (Kd.R_elder' (rF U3) (Kd.R_base u6) hb);replace B2:=bB B2 hb;replace HB:=bS hb;(try clear hb u6);obtain ⟨d4,D4,F4⟩:=Kd.R_slice U4.out;(first | subst F4 | (injection F4 with H0 H1 H2;have H3:=H0.symm;have H4:=H2.symm;clear H0 H1 H2;subst H3;subst H4))
 refine hK.out _ _ ⟨bc B2 0,bc B2 1,bc B2 2⟩ (fun hHeld=>?_)
 clear hK K;refine nR 20 ?_
 refine one_ (i:=8) (N:=some 23) (ba 10 511) rfl rfl (one_of HT_.out (by kernel_rfl)) (by decide) (fun K hK=>?_)
 refine goes_ Try.func96 (by kernel_rfl) rfl #[.slice d4 p4.length D4,.slice A0_2 l0_2.length c0_2] (by rfl) rfl rfl xq30 ?_
 with_reducible refine (spec_l01Join.calls k _ _ p4 _ _ l0_2 p5 _ ?side1 ?side2 ?side3 ?side4 A8.out).mono ?_
 (case side1=>exact cA ((Kd.R_reads' U4.out).2.2))
 (case side2=>exact (Kd.R_reads' U4.out).2.1)
 (case side3=>exact cA (Kd.C_below b1.out HB.out))
 (case side4=>exact B0.out)
 rintro e Sa ⟨N5,rfl,u6,hb⟩
 refine ⟨_,rfl,?_⟩
 have U5:=rL (Kd.R_new' (Kd.R_new' (Kd.R_new' (Kd.R_new' (Kd.R_new' u6 (Kd.R_lt (rF U0))) (Kd.R_lt (rF U1))) (Kd.R_lt (rF U2))) (Kd.R_lt (rF U3))) (Kd.R_lt (rF U4)));replace U0:=ak (Kd.R_elder' (rF U0) (Kd.R_base u6) hb);replace U1:=ak (Kd.R_elder' (rF U1) (Kd.R_base u6) hb);replace U2:=ak (Kd.R_elder' (rF U2) (Kd.R_base u6) hb);replace U3:=ak (Kd.R_elder' (rF U3) (Kd.R_base u6) hb);replace U4:=ak (Kd.R_elder' (rF U4) (Kd.R_base u6) hb);replace B2:=bB B2 hb;replace HB:=bS hb;(try clear hb u6);refine hK.out _ _ ⟨bc B2 0,bc B2 1,bc B2 2⟩ (fun hHeld=>?_)
 clear hK K;refine nR 23 ?_;refine pR 9 3 (ba 10 1023) ?_
 refine done_ (done_of HT_.out (by kernel_rfl)) ?_
 try go_wp2_with (first | ((with_reducible refine gate_dst (N:=24) rfl ?_);refine Kd.R_lit (Kd.int .u8) _ 5 ?hg (N:=24) ?hd (xs:=([199,77]:List Int)) (inner:=[.int .u8 199,.int .u8 77]) (ok:=fun _=>True) (okp:=fun _=>True) ?hr ?hp (fun _ hk=>hk) trivial (Below.refl _ _) (Nat.le_refl _) (by simp) ?_;(case hd=>rfl);(case hg=>rfl);(case hr=>exact xq10);(case hp=>exact (Reps.one (show Kd.M (Kd.int .u8) _ _ _ 199 [.int .u8 199] from rfl) (Reps.one (show Kd.M (Kd.int .u8) _ _ _ 77 [.int .u8 77] from rfl) (Reps.none _ _))));intro N6 Sb u7 hb hg_ hnew_;clear hg_ hnew_;(first | rw [← K1.out] at u7 | (simp only [Int.reduceToNat] at u7;rw [← K1.out] at u7));have U6:=ak (Kd.R_lower (Kd.R_new' (Kd.R_new' (Kd.R_new' (Kd.R_new' (Kd.R_new' (Kd.R_new' u7 (Kd.R_lt (rF U0))) (Kd.R_lt (rF U1))) (Kd.R_lt (rF U2))) (Kd.R_lt (rF U3))) (Kd.R_lt (rF U4))) (Kd.R_lt (rF U5))) (below_size belA));replace U0:=ak (Kd.R_elder' (rF U0) (Kd.R_base u7) hb);replace U1:=ak (Kd.R_elder' (rF U1) (Kd.R_base u7) hb);replace U2:=ak (Kd.R_elder' (rF U2) (Kd.R_base u7) hb);replace U3:=ak (Kd.R_elder' (rF U3) (Kd.R_base u7) hb);replace U4:=ak (Kd.R_elder' (rF U4) (Kd.R_base u7) hb);replace U5:=ak (Kd.R_elder' (rF U5) (Kd.R_base u7) hb);replace B2:=bB B2 hb;replace HB:=bS hb;clear hb u7;obtain ⟨d5,D5,rfl⟩:=Kd.R_slice U6.out;obtain ⟨d6,D6,rfl⟩:=Kd.R_slice U5.out) | ((with_reducible refine gate_callee (f:=96) rfl ?_);refine goB 26 Try.func96 #[.slice d5 k1.length D5,.slice d6 p5.length D6] rfl ?_;(with_reducible refine (spec_l01Join.calls k _ _ k1 _ _ p5 p6 _ ?side1 ?side2 ?side3 ?side4 A9.out).mono ?_);(case side1=>exact cA ((Kd.R_reads' U6.out).2.2));(case side2=>exact (Kd.R_reads' U6.out).2.1);(case side3=>exact cA ((Kd.R_reads' U5.out).2.2));(case side4=>exact (Kd.R_reads' U5.out).2.1);rintro e Sc ⟨N7,rfl,u6,hb⟩;refine ⟨_,rfl,?_⟩;have U7:=ak (Kd.R_lower (Kd.R_new' (Kd.R_new' (Kd.R_new' (Kd.R_new' (Kd.R_new' (Kd.R_new' (Kd.R_new' u6 (Kd.R_lt (rF U0))) (Kd.R_lt (rF U1))) (Kd.R_lt (rF U2))) (Kd.R_lt (rF U3))) (Kd.R_lt (rF U4))) (Kd.R_lt (rF U5))) (Kd.R_lt (rF U6))) (below_size belA));replace U0:=ak (Kd.R_elder' (rF U0) (Kd.R_base u6) hb);replace U1:=ak (Kd.R_elder' (rF U1) (Kd.R_base u6) hb);replace U2:=ak (Kd.R_elder' (rF U2) (Kd.R_base u6) hb);replace U3:=ak (Kd.R_elder' (rF U3) (Kd.R_base u6) hb);replace U4:=ak (Kd.R_elder' (rF U4) (Kd.R_base u6) hb);replace U5:=ak (Kd.R_elder' (rF U5) (Kd.R_base u6) hb);replace U6:=ak (Kd.R_elder' (rF U6) (Kd.R_base u6) hb);replace B2:=bB B2 hb;replace HB:=bS hb;(try clear hb u6)) | ((with_reducible refine gate_callee (f:=121) rfl ?_);refine goB 28 Try.func121 #[.slice d6 p5.length D6] rfl ?_;(with_reducible refine (spec_CheckSum.calls k _ _ p5 p7 _ ?side1 ?side2 g3.out).mono ?_);(case side1=>exact cA ((Kd.R_reads' U5.out).2.2));(case side2=>exact (Kd.R_reads' U5.out).2.1);rintro e w' ⟨rfl,⟨nd,rfl⟩⟩;refine ⟨_,rfl,?_⟩) | ((with_reducible refine gate_callee (f:=120) rfl ?_);refine goB 29 Try.func120 #[.int .i64 p7,.int .i64 4] rfl ?_;(with_reducible refine (spec_l11Wide.calls k p7 4 p8 _ g4.out).mono ?_);rintro e Sd ⟨N8,rfl,u6,hb⟩;refine ⟨_,rfl,?_⟩;have U8:=ak (Kd.R_lower (Kd.R_new' (Kd.R_new' (Kd.R_new' (Kd.R_new' (Kd.R_new' (Kd.R_new' (Kd.R_new' (Kd.R_new' u6 (Kd.R_lt (rF U0))) (Kd.R_lt (rF U1))) (Kd.R_lt (rF U2))) (Kd.R_lt (rF U3))) (Kd.R_lt (rF U4))) (Kd.R_lt (rF U5))) (Kd.R_lt (rF U6))) (Kd.R_lt (rF U7))) (below_size belA));replace U0:=ak (Kd.R_elder' (rF U0) (Kd.R_base u6) hb);replace U1:=ak (Kd.R_elder' (rF U1) (Kd.R_base u6) hb);replace U2:=ak (Kd.R_elder' (rF U2) (Kd.R_base u6) hb);replace U3:=ak (Kd.R_elder' (rF U3) (Kd.R_base u6) hb);replace U4:=ak (Kd.R_elder' (rF U4) (Kd.R_base u6) hb);replace U5:=ak (Kd.R_elder' (rF U5) (Kd.R_base u6) hb);replace U6:=ak (Kd.R_elder' (rF U6) (Kd.R_base u6) hb);replace U7:=ak (Kd.R_elder' (rF U7) (Kd.R_base u6) hb);replace B2:=bB B2 hb;replace HB:=bS hb;(try clear hb u6);obtain ⟨d7,D7,rfl⟩:=Kd.R_slice U7.out;obtain ⟨d8,D8,rfl⟩:=Kd.R_slice U8.out) | ((with_reducible refine gate_callee (f:=96) rfl ?_);refine goB 30 Try.func96 #[.slice d7 p6.length D7,.slice d8 p8.length D8] rfl ?_;(with_reducible refine (spec_l01Join.calls k _ _ p6 _ _ p8 p9 _ ?side1 ?side2 ?side3 ?side4 g5.out).mono ?_);(case side1=>exact cA ((Kd.R_reads' U7.out).2.2));(case side2=>exact (Kd.R_reads' U7.out).2.1);(case side3=>exact cA ((Kd.R_reads' U8.out).2.2));(case side4=>exact (Kd.R_reads' U8.out).2.1);rintro e Se ⟨N9,rfl,u6,hb⟩;refine ⟨_,rfl,?_⟩;have U9:=ak (Kd.R_lower (Kd.R_new' (Kd.R_new' (Kd.R_new' (Kd.R_new' (Kd.R_new' (Kd.R_new' (Kd.R_new' (Kd.R_new' (Kd.R_new' u6 (Kd.R_lt (rF U0))) (Kd.R_lt (rF U1))) (Kd.R_lt (rF U2))) (Kd.R_lt (rF U3))) (Kd.R_lt (rF U4))) (Kd.R_lt (rF U5))) (Kd.R_lt (rF U6))) (Kd.R_lt (rF U7))) (Kd.R_lt (rF U8))) (below_size belA));replace U0:=ak (Kd.R_elder' (rF U0) (Kd.R_base u6) hb);replace U1:=ak (Kd.R_elder' (rF U1) (Kd.R_base u6) hb);replace U2:=ak (Kd.R_elder' (rF U2) (Kd.R_base u6) hb);replace U3:=ak (Kd.R_elder' (rF U3) (Kd.R_base u6) hb);replace U4:=ak (Kd.R_elder' (rF U4) (Kd.R_base u6) hb);replace U5:=ak (Kd.R_elder' (rF U5) (Kd.R_base u6) hb);replace U6:=ak (Kd.R_elder' (rF U6) (Kd.R_base u6) hb);replace U7:=ak (Kd.R_elder' (rF U7) (Kd.R_base u6) hb);replace U8:=ak (Kd.R_elder' (rF U8) (Kd.R_base u6) hb);replace B2:=bB B2 hb;replace HB:=bS hb;(try clear hb u6)))
 go_ret
 exact ⟨_,xq4,by (with_reducible repeat (first | apply Kd.R_alloc | apply Kd.R_drewN | apply Kd.R_drew));exact Kd.R_mono U9.out (fun _ hk=>trivial),belA⟩

end Go.Proofs.Ytogdhclomgafdaa.PFnWireJobs
