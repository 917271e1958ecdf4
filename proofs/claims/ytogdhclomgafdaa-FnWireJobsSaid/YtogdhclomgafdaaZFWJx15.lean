-- Written by a program of this session (the print of the kit with contracts of this session's own added)
import Derived.Test.YtogdhclomgafdaaZFWJx12
import Derived.Test.YtogdhclomgafdaaZFWJx14
set_option maxHeartbeats 8000000
set_option maxRecDepth 100000
namespace Go.Proofs.Ytogdhclomgafdaa.PFnWireJobs
open Go.RowKit Go.Proofs.YtogdhclomgafdaaW.PrintWords Go.Proofs.YtogdhclomgafdaaW.PrintLast Go.Proofs.YtogdhclomgafdaaW.PrintMore Go.Proofs.YtogdhclomgafdaaW.PrintPack Go.Proofs.YtogdhclomgafdaaW.PrintPack
set_option linter.unusedVariables false
set_option linter.unusedSimpArgs false

mutual
def spec_EncodeWord.j0:Nat → Int → List Int → List Int → List Int → Bool → Option (List Int)
 | 0,_,_,_,_,_=>none
 | k+1,x0,x1,x2,x7,x21=>if x21=true then (some ([]:List Int)) else (spec_EncodeWord.l0 k x0 x1 x2 x7 0)
def spec_EncodeWord.l0:Nat → Int → List Int → List Int → List Int → Int → Option (List Int)
 | 0,_,_,_,_,_=>none
 | k+1,x0,x1,x2,x7,x8=>if x8 < (x1.length:Int) then ((spec_l03Cut.f k x2).bind fun t424=>(if 0≤x8 then ((spec_EvalPoly.f k x0 t424 (rd x1 x8)).bind fun t428=>(if x7.length < 17592186044416 then (spec_EncodeWord.l0 k x0 x1 x2 (x7 ++ [t428]) (wrap64 (x8+1))) else (none))) else (none))) else (some x7)
end
def spec_EncodeWord.f (k:Nat) (a0:Int) (l1:List Int) (l2:List Int):Option (List Int):=(some (([]:List Int):List Int)).bind fun y419=>((spec_l07Code.f k a0 l1 (l2.length:Int)).bind fun t422=>(if t422=true then ((spec_l03Elements.f k a0 l2).bind fun t423=>(spec_EncodeWord.j0 k a0 l1 l2 y419 (!t423))) else (spec_EncodeWord.j0 k a0 l1 l2 y419 true)))
def spec_EncodeWord.T7:Bool × List (List Nat × List Nat):=(true,[([],[]),([],[]),([],[]),([2],[2]),([],[]),([],[]),([4,5],[4,5]),([6],[6]),([1,3,7,3],[1,3,7]),([8],[8]),([0,9,8],[0,9]),([10,10,0,1,2,3,4,5,6,7,8,9,10],[0,10])])
def spec_EncodeWord.B7:List Nat:=[0,0,0,4,0,0,48,112,254,510,1023,2047]
theorem spec_EncodeWord.tab7:rtab .any (opsOf Try.f136 7)=spec_EncodeWord.T7:=by kernel_rfl
theorem spec_EncodeWord.bits7:waitsOk spec_EncodeWord.T7.2 spec_EncodeWord.B7=true:=by kernel_rfl
theorem spec_EncodeWord.calls (k:Nat) (a0:Int) (A1:Option Addr) (c1:Nat) (l1:List Int) (A2:Option Addr) (c2:Nat) (l2:List Int) (r:List Int) (w:World) (hr1:Kd.C (Kd.int .i64) w A1 l1.length l1) (hc1:l1.length≤c1) (hr2:Kd.C (Kd.int .i64) w A2 l2.length l2) (hc2:l2.length≤c2) (h:spec_EncodeWord.f k a0 l1 l2=some r) :
 Calls Try.prog 136 #[.int .i64 a0,.slice A1 l1.length c1,.slice A2 l2.length c2] w fun e w'=>∃ v0_:Value,e=.returned (v0_)∧Kd.R (Kd.int .i64) 3 w' w.heap.size (fun _=>True) v0_ r∧Below w.heap.size w w':=by
 have b0:=ak hr1;have B0:=ak hc1;clear hr1 hc1;have b1:=ak hr2;have B2:=ak hc2;clear hr2 hc2;have HB:=ak (Below.refl w.heap.size w);have H:=h;clear h;unfold spec_EncodeWord.f at H;obtain ⟨k0,hyq⟩:∃ y_:List Int,y_=(([]:List Int)):=⟨_,rfl⟩;replace H:((spec_l07Code.f k a0 l1 (l2.length:Int)).bind fun p0=>(if p0=true then ((spec_l03Elements.f k a0 l2).bind fun p1=>(spec_EncodeWord.j0 k a0 l1 l2 k0 (!p1))) else (spec_EncodeWord.j0 k a0 l1 l2 k0 true)))=some r:=xq7
 have K0:=ak hyq;clear hyq;have B6:=ak H;clear H;go_enter Try.func136,Try.ntmps136
 go_upto_region 2 with (first | ((with_reducible refine gate_dst (N:=9) rfl ?_);refine Kd.R_lit (Kd.int .i64) _ 3 ?hg (N:=9) ?hd (xs:=([]:List Int)) (inner:=[]) (ok:=fun _=>True) (okp:=fun _=>True) ?hr ?hp (fun _ hk=>hk) trivial (Below.refl _ _) (Nat.le_refl _) (by simp) ?_;(case hd=>rfl);(case hg=>rfl);(case hr=>exact xq10);(case hp=>exact (Reps.none _ _));intro N0 w5 u5 hb hg_ hnew_;clear hg_ hnew_;(first | rw [← K0.out] at u5 | (simp only [Int.reduceToNat] at u5;rw [← K0.out] at u5));have U0:=rL u5;replace HB:=bS hb;clear hb u5))
 (try simp only [Act.put,sa,sb,sc])
 go_cut [21] (fun N1 wc=>∃ (kq:Nat) (w3:Bool),N1=.bool w3∧Aside0 (spec_EncodeWord.j0 kq a0 l1 l2 k0 w3=some r)∧Aside0 (kq≤k)∧Aside0 (Kd.R (Kd.int .i64) 3 wc w.heap.size (fun _=>True) N0 k0)∧Aside0 (Below w.heap.size w wc))
 case first =>
  have H:=B6.out;clear B6;obtain ⟨p0,A7,H⟩:=ob H;(try dsimp only at H)
  by_cases c8:p0=true;rotate_left
  · replace c8:=Bool.eq_false_iff.mpr c8;subst c8;rw [if_neg (show ¬ (false=true) by decide)] at H;have H':=ak H;clear H;go_wp2_with (first | ((with_reducible refine gate_callee (f:=137) rfl ?_);refine goB 14 Try.func137 #[.int .i64 a0,.slice A1 l1.length c1,.int .i64 (l2.length:Int)] rfl ?_;(with_reducible refine (spec_l07Code.calls k a0 _ _ l1 (l2.length:Int) false _ ?side1 B0.out A7.out).mono ?_);(case side1=>exact cA (Kd.C_below b0.out HB.out));rintro e w' ⟨rfl,⟨nd,rfl⟩⟩;refine ⟨_,rfl,?_⟩))
    go_meet
    case rel=>exact ⟨_,(true),eqA,H',⟨xq12⟩,⟨rA U0⟩,⟨belA⟩⟩
  subst c8;rw [if_pos rfl] at H;obtain ⟨p1,A9,H⟩:=ob H;(try dsimp only at H);have H':=ak H;clear H;go_wp2_with (first | ((with_reducible refine gate_callee (f:=137) rfl ?_);refine goB 14 Try.func137 #[.int .i64 a0,.slice A1 l1.length c1,.int .i64 (l2.length:Int)] rfl ?_;(with_reducible refine (spec_l07Code.calls k a0 _ _ l1 (l2.length:Int) true _ ?side1 B0.out A7.out).mono ?_);(case side1=>exact cA (Kd.C_below b0.out HB.out));rintro e w' ⟨rfl,⟨nd,rfl⟩⟩;refine ⟨_,rfl,?_⟩) | (go_at_call 138;(with_reducible refine (spec_l03Elements.calls k a0 _ _ l2 p1 _ ?side1 B2.out A9.out).mono ?_);(case side1=>exact cA (Kd.C_below b1.out belA));rintro e w' ⟨rfl,⟨nd,rfl⟩⟩))
  go_meet
  case rel=>exact ⟨_,(!p1),eqA,H',⟨xq12⟩,⟨rA U0⟩,⟨belA⟩⟩
 case rest =>
  clear B6;obtain ⟨kq,w3,rfl,HA,c0,U1,HB⟩:=hcut
  cases kq with
  | zero=>exact absurd HA.out (by simp [spec_EncodeWord.j0])
  | succ y0 =>
   have H:=HA.out;clear HA;simp only [spec_EncodeWord.j0] at H
   by_cases c10:w3=true
   · subst c10;rw [if_pos rfl] at H;obtain rfl:=Option.some.inj H;go_wp2
     go_ret
     exact ⟨_,xq4,xq16,belA⟩
   replace c10:=Bool.eq_false_iff.mpr c10;subst c10;rw [if_neg (show ¬ (false=true) by decide)] at H;have H':=ak H;clear H;go_wp2
   go_loopg [7,8] y0 (fun kq v7 v8 w'=>∃ (w4:List Int) (w6:Int),v8=.int .i64 w6∧Aside0 (spec_EncodeWord.l0 kq a0 l1 l2 w4 w6=some r)∧Aside0 (kq≤y0)∧Aside0 (Kd.R (Kd.int .i64) 3 w' w.heap.size (fun _=>True) v7 w4)∧Aside0 (Below w.heap.size w w'))
   case atStart=>exact ⟨(k0),(0),eqA,H',⟨Nat.le_refl _⟩,⟨rA U1⟩,⟨belA⟩⟩
   case round =>
    clear H';obtain ⟨w4,w6,rfl,HA,W0,U1,HB⟩:=hrel
    cases gk with
    | zero=>exact absurd HA.out (by simp [spec_EncodeWord.l0])
    | succ k2 =>
     have H:=HA.out;clear HA;simp only [spec_EncodeWord.l0] at H
     by_cases x0:w6 < (l1.length:Int);rotate_left
     · rw [if_neg x0] at H;have x1:=decide_eq_false x0;clear x0;obtain rfl:=Option.some.inj H;go_wp2
       go_ret
       exact ⟨_,xq4,xq23,belA⟩
     rw [if_pos x0] at H;have x1:=decide_eq_true x0;clear x0;obtain ⟨p2,g3,H⟩:=ob H;(try dsimp only at H)
     obtain ⟨x2,H⟩:=iN H;have x3:=decide_eq_true x2;clear x2;obtain ⟨p3,g4,H⟩:=ob H;(try dsimp only at H)
     obtain ⟨x4,H⟩:=iN H;have E0:=ak x4;clear x4;obtain ⟨k1,hyq⟩:∃ y_:List Int,y_=(w4 ++ [p3]):=⟨_,rfl⟩;replace H:(spec_EncodeWord.l0 k2 a0 l1 l2 k1 (wrap64 (w6+1)))=some r:=xq7
     have K1:=ak hyq;clear hyq;have H':=ak H;clear H;try go_wp2
     replace U1:=ak (Kd.R_drew U1.out);replace HB:=ak (below_drew1 HB.out);have V0:0≤(w6:Int):=odA;have a5:w6 < (l1.length:Int):=odA;obtain ⟨A0,o0,O0⟩:=Kd.at_int b0.out w6 V0 a5;have h0:=O0
     cases o0
     try replace O0:=cB HB O0
     replace V0:=eq_true V0;replace a5:=eq_true a5;refine start_ (n:=12) (S:=fun w'=>w'.cell? (A0.add (w6).toNat)=some (.int .i64 (rd l1 w6))) (ds:=[]) _ (by kernel_rfl) rfl rfl ((cB HB h0 :)) (fun hHeld=>?_);refine with_tabW spec_EncodeWord.tab7 spec_EncodeWord.bits7 (fun HT_ HW_=>?_)
     generalize wr.drew=S0 at U1 HB O0 hHeld ⊢
     refine pR 0 28 (ba 12 1) ?_;refine pR 1 29 (ba 12 3) ?_;refine pR 2 30 (ba 12 7) ?_;refine pR 4 32 (ba 12 23) ?_;refine pR 5 33 (ba 12 55) ?_;refine pR 6 34 (ba 12 119) ?_
     refine take_ (i:=7) (N:=some 35) (v:=?_) (a':=?_) (ba 12 247) rfl rfl (take_ofW HT_.out HW_.out (by kernel_rfl)) (fun _ _ _ h=>h) (Or.inl ⟨by rfl,?_⟩) hHeld ?_ ?_
     rotate_left
     · intro w' s0;go_simp
       with_reducible rfl
     rotate_left
     · simp only [Act.put,sa,sb,sc,i64_w,i32_w]
       rfl
     refine one_ (i:=3) (N:=some 31) (ba 12 255) rfl rfl (one_of HT_.out (by kernel_rfl)) (by decide) (fun K hK=>?_)
     refine goes_ Try.func128 (by kernel_rfl) rfl #[.slice A2 l2.length c2] (by rfl) rfl rfl xq30 ?_
     with_reducible refine (spec_l03Cut.calls k2 _ _ l2 p2 _ ?side1 ?side2 g3.out).mono ?_
     (case side1=>exact cA (Kd.C_below b1.out HB.out))
     (case side2=>exact B2.out)
     rintro e S1 ⟨N2,rfl,u6,hb⟩
     refine ⟨_,rfl,?_⟩
     have U2:=rL (Kd.R_new' u6 (Kd.R_lt (rF U1)));replace U1:=ak (Kd.R_elder' (rF U1) (Kd.R_base u6) hb);replace HB:=bS hb;(try clear hb u6);obtain ⟨d0,D0,F0⟩:=Kd.R_slice U2.out;(first | subst F0 | (injection F0 with H0 H1 H2;have H3:=H0.symm;have H4:=H2.symm;clear H0 H1 H2;subst H3;subst H4))
     refine hK.out _ _ ((cB HB h0 :)) (fun hHeld=>?_)
     clear hK K;refine nR 31 ?_
     refine one_ (i:=8) (N:=some 36) (ba 12 511) rfl rfl (one_of HT_.out (by kernel_rfl)) (by decide) (fun K hK=>?_)
     refine goes_ Try.func139 (by kernel_rfl) rfl #[.int .i64 a0,.slice d0 p2.length D0,.int .i64 (rd l1 w6)] (by rfl) rfl rfl xq30 ?_
     with_reducible refine (spec_EvalPoly.calls k2 a0 _ _ p2 (rd l1 w6) p3 _ ?side1 ?side2 g4.out).mono ?_
     (case side1=>exact cA ((Kd.R_reads' U2.out).2.2))
     (case side2=>exact (Kd.R_reads' U2.out).2.1)
     rintro e w' ⟨rfl,⟨nd,rfl⟩⟩
     refine ⟨_,rfl,?_⟩
     refine hK.out _ _ ((cB HB h0 :)) (fun hHeld=>?_)
     clear hK K;refine nR 36 ?_
     refine one_ (i:=9) (N:=some 37) (ba 12 1023) rfl rfl (one_of HT_.out (by kernel_rfl)) (by decide) (fun K hK=>?_)
     refine value_ (w1:=?_) (v:=?_) (by rfl) rfl ?_ ?_
     rotate_left 2
     · go_simp
       constructor
       · rfl
       · rfl
     refine hK.out _ _ ((World.cell?_alloc_lt _ _ _ (World.block_lt_of_cell? _ _ ((cB HB h0 :)))).trans ((cB HB h0 :))) (fun hHeld=>?_)
     clear hK K;refine nR 37 ?_
     refine one_ (i:=10) (N:=some 38) (ba 12 2047) rfl rfl (one_of HT_.out (by kernel_rfl)) (by decide) (fun K hK=>?_)
     refine Kd.R_append_step (Kd.int .i64) (w0:=w) w.heap.size (by rfl) (.tmp 28) (.tmp 37) 33 3 (.int .i64 0) 8 rfl Try.underlying33 info3 rfl (by decide) (by omega) u7 w4 p3 [.int .i64 p3] (fun k_=>some k_≠(.slice d0 p2.length D0:Value).ownBlock) (fun _=>False) rfl rfl ?aP (fun _ hk=>hk.elim) ?aF ?aO ?aB ?aS ?aL ?_
     (case aP=>exact rfl)
     (case aB=>exact belA)
     (case aF=>exact (fun k_ hk=>Kd.fresh' (Kd.R_lt (rF U2)) k_ hk))
     (case aO=>exact (rE (Kd.R_mono U1.out (fun _ hk=>hk.2))))
     (case aS=>exact (below_size belA))
     (case aL=>exact xq15)
     intro N3 S2 ho hb hg hat;rw [← K1.out] at ho;have U3:=ak ho;replace U2:=ak (Kd.R_after (ok:=(fun _=>True)) (rF U2) hg hat);replace HB:=ak hb;clear U1;clear ho hb hg hat;refine hK.out _ _ ((cB HB h0 :)) (fun hHeld=>?_)
     clear hK K;refine nR 38 ?_;refine pR 11 7 (ba 12 4095) ?_
     refine done_ (done_of HT_.out (by kernel_rfl)) ?_
     try go_wp2
     go_roundg k2
     case measure=>have:=c0.out;have:=W0.out;omega
     case rel=>exact ⟨(k1),(wrap64 (w6+1)),eqA,H',⟨xq36⟩,⟨rE (Kd.R_mono U3.out (fun _ hk=>trivial))⟩,⟨belA⟩⟩

mutual
def spec_l07DrawWord.j0:Nat → Int → List Int → Int → List Int → Int → Int → Option (Int × List Int × List Int × Int × List Int × Int × Int)
 | 0,_,_,_,_,_,_=>none
 | k+1,x7,x8,x9,x1000,x1001,x1002=>(spec_l01DrawList.f k x1000 x1001 x1002 x7 x9).bind fun bt452=>((spec_EncodeWord.f k x7 x8 bt452.1).bind fun t457=>(if (t457.length:Int)=0 then ((spec_l01DrawList.f k x1000 bt452.2.1 bt452.2.2 x7 (x8.length:Int)).bind fun bt460=>(spec_l07DrawWord.j1 k x7 x8 x9 bt452.1 bt460.1 x1000 bt460.2.1 bt460.2.2)) else (spec_l07DrawWord.j1 k x7 x8 x9 bt452.1 t457 x1000 bt452.2.1 bt452.2.2)))
def spec_l07DrawWord.j1:Nat → Int → List Int → Int → List Int → List Int → List Int → Int → Int → Option (Int × List Int × List Int × Int × List Int × Int × Int)
 | 0,_,_,_,_,_,_,_,_=>none
 | k+1,x7,x8,x9,x10,x11,x1000,x1001,x1002=>(spec_l01Below.f x1000 x1001 x1002 (wrap64 ((wrap64 (Int.tdiv (wrap64 ((x8.length:Int) - x9)) 2))+2))).bind fun bt465=>((spec_l01Once.f x1000 bt465.2.1 bt465.2.2 5).bind fun bt468=>(if bt468.1=true then ((spec_l01Below.f x1000 bt468.2.1 bt468.2.2 (wrap64 ((x8.length:Int)+1))).bind fun bt471=>(spec_l07DrawWord.j2 k x7 x8 x9 x10 x11 bt471.1 x1000 bt471.2.1 bt471.2.2)) else (spec_l07DrawWord.j2 k x7 x8 x9 x10 x11 bt465.1 x1000 bt468.2.1 bt468.2.2)))
def spec_l07DrawWord.j2:Nat → Int → List Int → Int → List Int → List Int → Int → List Int → Int → Int → Option (Int × List Int × List Int × Int × List Int × Int × Int)
 | 0,_,_,_,_,_,_,_,_,_=>none
 | k+1,x7,x8,x9,x10,x11,x12,x1000,x1001,x1002=>spec_l07DrawWord.l0 k x7 x8 x9 x10 x11 x12 0 x1000 x1001 x1002
def spec_l07DrawWord.l0:Nat → Int → List Int → Int → List Int → List Int → Int → Int → List Int → Int → Int → Option (Int × List Int × List Int × Int × List Int × Int × Int)
 | 0,_,_,_,_,_,_,_,_,_,_=>none
 | k+1,x7,x8,x9,x10,x11,x12,x13,x1000,x1001,x1002=>if x13 < x12 then ((spec_l01Below.f x1000 x1001 x1002 (x11.length:Int)).bind fun bt474=>((spec_l01DrawElement.f x1000 bt474.2.1 bt474.2.2 x7).bind fun bt477=>(if 0≤bt474.1 then (if bt474.1 < (x11.length:Int) then (spec_l07DrawWord.l0 k x7 x8 x9 x10 (x11.set (bt474.1:Int).toNat bt477.1) x12 (wrap64 (x13+1)) x1000 bt477.2.1 bt477.2.2) else (none)) else (none)))) else (some (x7,x8,x11,x9,x10,x1001,x1002))
end
def spec_l07DrawWord.f (k:Nat) (s0_0:List Int) (s0_1:Int) (s0_2:Int):Option (Int × List Int × List Int × Int × List Int × Int × Int):=(spec_l01DrawField.f s0_0 s0_1 s0_2).bind fun bt432=>((spec_l01Below.f s0_0 bt432.2.1 bt432.2.2 8).bind fun bt435=>((spec_l07DrawPoints.f k s0_0 bt435.2.1 bt435.2.2 bt432.1 (wrap64 (3+bt435.1))).bind fun bt438=>((spec_l01Below.f s0_0 bt438.2.1 bt438.2.2 (bt438.1.length:Int)).bind fun bt443=>((spec_l01Once.f s0_0 bt443.2.1 bt443.2.2 2).bind fun bt446=>(if bt446.1=true then ((spec_l01Below.f s0_0 bt446.2.1 bt446.2.2 (wrap64 (Int.tdiv (wrap64 ((bt438.1.length:Int)+1)) 2))).bind fun bt449=>(spec_l07DrawWord.j0 k bt432.1 bt438.1 (wrap64 (1+bt449.1)) s0_0 bt449.2.1 bt449.2.2)) else (spec_l07DrawWord.j0 k bt432.1 bt438.1 (wrap64 (1+bt443.1)) s0_0 bt446.2.1 bt446.2.2))))))
theorem spec_l07DrawWord.calls (k:Nat) (g:Nat) (s0_0:List Int) (s0_1:Int) (s0_2:Int) (r1:Int) (r2:List Int) (r3:List Int) (r4:Int) (r5:List Int) (r6:Int) (r7:Int) (w0 w:World) (hI:IsS121 w0 w g s0_0 s0_1 s0_2) (hB:Below w0.heap.size w0 w) (h:spec_l07DrawWord.f k s0_0 s0_1 s0_2=some (r1,r2,r3,r4,r5,r6,r7)) :
 Calls Try.prog 132 #[.pointer (some ⟨g,0,none⟩)] w fun e w'=>∃ v1_ v2_ v4_:Value,e=.returned (.tuple #[.int .i64 r1,v1_,v2_,.int .i64 r4,v4_])∧Kd.R (Kd.int .i64) 3 w' w.heap.size (fun k_=>some k_≠(v2_:Value).ownBlock∧some k_≠(v4_:Value).ownBlock) v1_ r2∧Kd.R (Kd.int .i64) 3 w' w.heap.size (fun k_=>some k_≠(v1_:Value).ownBlock∧some k_≠(v4_:Value).ownBlock) v2_ r3∧Kd.R (Kd.int .i64) 3 w' w.heap.size (fun k_=>some k_≠(v1_:Value).ownBlock∧some k_≠(v2_:Value).ownBlock) v4_ r5∧IsS121 w0 w' g s0_0 r6 r7∧Below w0.heap.size w0 w'∧KeepBut w w' g none:=by
 have z0:=ak hI;have HK:=ak (KeepBut.refl w g none);have HL:=ak hB.size;clear hI;have Z0:=ak hB.size;have HB:=ak hB;clear hB;have H:=h;clear h;unfold spec_l07DrawWord.f at H;obtain ⟨⟨p0,p1,p2⟩,A2,H⟩:=ob H;(try dsimp only at H);obtain ⟨⟨p3,p4,p5⟩,A3,H⟩:=ob H;(try dsimp only at H);obtain ⟨⟨p6,p7,p8⟩,A4,H⟩:=ob H;(try dsimp only at H);obtain ⟨⟨p9,pa,pb⟩,A5,H⟩:=ob H;(try dsimp only at H);obtain ⟨⟨pc,pd,pe⟩,A6,H⟩:=ob H;(try dsimp only at H);have B0:=ak H;clear H;go_enter Try.func132,Try.ntmps132
 go_upto_if 28 with (first | ((with_reducible refine gate_callee (f:=100) rfl ?_);refine goB 15 Try.func100 #[.pointer (some ⟨g,0,none⟩)] rfl ?_;(with_reducible refine (spec_l01DrawField.calls g s0_0 s0_1 s0_2 p0 p1 p2 w0 _ ?side1 ?side2 A2.out).mono ?_);(case side1=>exact xq1);(case side2=>exact xq2);rintro e w8 ⟨rfl,hi,hb,hk⟩;refine ⟨_,rfl,?_⟩;replace HK:=ak (KeepBut.trans kpA hk (.inl rfl));replace HB:=ak hb;replace z0:=ak hi;(try clear hb hk hi)) | ((with_reducible refine gate_callee (f:=91) rfl ?_);refine goB 19 Try.func91 #[.pointer (some ⟨g,0,none⟩),.int .i64 8] rfl ?_;(with_reducible refine (spec_l01Below.calls g s0_0 p1 p2 8 p3 p4 p5 w0 _ ?side1 ?side2 A3.out).mono ?_);(case side1=>exact xq1);(case side2=>exact xq2);rintro e w9 ⟨rfl,hi,hb,hk⟩;refine ⟨_,rfl,?_⟩;replace HK:=ak (KeepBut.trans kpA hk (.inl rfl));replace HB:=ak hb;replace z0:=ak hi;(try clear hb hk hi)) | ((with_reducible refine gate_callee (f:=131) rfl ?_);refine goB 21 Try.func131 #[.pointer (some ⟨g,0,none⟩),.int .i64 p0,.int .i64 (wrap64 (3+p3))] rfl ?_;(with_reducible refine (spec_l07DrawPoints.calls k g s0_0 p4 p5 p0 (wrap64 (3+p3)) p6 p7 p8 w0 _ ?side1 ?side2 A4.out).mono ?_);(case side1=>exact xq1);(case side2=>exact xq2);rintro e S0 ⟨N0,rfl,u5,hi,hb,hk⟩;refine ⟨_,rfl,?_⟩;have U0:=ak (Kd.R_lower u5 (keep_size (w:=w) (g:=g) (row:=none) kpA));replace HK:=ak (KeepBut.trans kpA hk (.inl rfl));replace HB:=ak hb;replace z0:=ak hi;(try clear hb hk hi u5);obtain ⟨d0,D0,rfl⟩:=Kd.R_slice U0.out) | ((with_reducible refine gate_callee (f:=91) rfl ?_);refine goB 25 Try.func91 #[.pointer (some ⟨g,0,none⟩),.int .i64 (p6.length:Int)] rfl ?_;(with_reducible refine (spec_l01Below.calls g s0_0 p7 p8 (p6.length:Int) p9 pa pb w0 _ ?side1 ?side2 A5.out).mono ?_);(case side1=>exact xq1);(case side2=>exact xq2);rintro e S1 ⟨rfl,hi,hb,hk⟩;refine ⟨_,rfl,?_⟩;replace U0:=kS (rF U0) (fun H=>IsS121.apart (show IsS121 w0 _ g s0_0 p7 p8 from xq1) H (by decide)) hk;replace HK:=ak (KeepBut.trans kpA hk (.inl rfl));replace HB:=ak hb;replace z0:=ak hi;(try clear hb hk hi)) | ((with_reducible refine gate_callee (f:=90) rfl ?_);refine goB 28 Try.func90 #[.pointer (some ⟨g,0,none⟩),.int .i64 2] rfl ?_;(with_reducible refine (spec_l01Once.calls g s0_0 pa pb 2 pc pd pe w0 _ ?side1 ?side2 A6.out).mono ?_);(case side1=>exact xq1);(case side2=>exact xq2);rintro e S2 ⟨rfl,hi,hb,hk⟩;refine ⟨_,rfl,?_⟩;replace U0:=kS (rF U0) (fun H=>IsS121.apart (show IsS121 w0 _ g s0_0 pa pb from xq1) H (by decide)) hk;replace HK:=ak (KeepBut.trans kpA hk (.inl rfl));replace HB:=ak hb;replace z0:=ak hi;(try clear hb hk hi)))
 (try simp only [Act.put,sa,sb,sc])
 go_cut [9] (fun v9 wc=>∃ (kq:Nat) (w3:Int) (w4:Int) (w5:Int),v9=.int .i64 w3∧Aside0 (spec_l07DrawWord.j0 kq p0 p6 w3 s0_0 w4 w5=some (r1,r2,r3,r4,r5,r6,r7))∧Aside0 (kq≤k)∧Aside0 (Kd.R (Kd.int .i64) 3 wc w.heap.size (fun _=>True) (.slice d0 p6.length D0) p6)∧Aside0 (IsS121 w0 wc g s0_0 w4 w5)∧Aside0 (KeepBut w wc g none)∧Aside0 (Below w0.heap.size w0 wc))
 case first =>
  have H:=B0.out;clear B0
  by_cases x0:pc=true;rotate_left
  · replace x0:=Bool.eq_false_iff.mpr x0;subst x0;rw [if_neg (show ¬ (false=true) by decide)] at H;have H':=ak H;clear H;go_wp2
    go_meet
    case rel=>exact ⟨_,(wrap64 (1+p9)),(pd),(pe),eqA,H',⟨xq12⟩,⟨rA U0⟩,⟨xq1⟩,⟨kpA⟩,⟨xq2⟩⟩
  subst x0;rw [if_pos rfl] at H;obtain ⟨⟨pf,pg,ph⟩,g3,H⟩:=ob H;(try dsimp only at H);have H':=ak H;clear H;go_wp2_with (first | ((with_reducible refine gate_callee (f:=91) rfl ?_);refine goB 34 Try.func91 #[.pointer (some ⟨g,0,none⟩),.int .i64 (wrap64 (Int.tdiv (wrap64 ((p6.length:Int)+1)) 2))] rfl ?_;(with_reducible refine (spec_l01Below.calls g s0_0 pd pe (wrap64 (Int.tdiv (wrap64 ((p6.length:Int)+1)) 2)) pf pg ph w0 _ ?side1 ?side2 g3.out).mono ?_);(case side1=>exact xq1);(case side2=>exact xq2);rintro e S3 ⟨rfl,hi,hb,hk⟩;refine ⟨_,rfl,?_⟩;replace U0:=kS (rF U0) (fun H=>IsS121.apart (show IsS121 w0 _ g s0_0 pd pe from xq1) H (by decide)) hk;replace HK:=ak (KeepBut.trans kpA hk (.inl rfl));replace HB:=ak hb;replace z0:=ak hi;(try clear hb hk hi)))
  go_meet
  case rel=>exact ⟨_,(wrap64 (1+pf)),(pg),(ph),eqA,H',⟨xq12⟩,⟨rA U0⟩,⟨xq1⟩,⟨kpA⟩,⟨xq2⟩⟩
 case rest =>
  clear B0;obtain ⟨kq,w3,w4,w5,rfl,HA,c0,U1,z0,HK,HB⟩:=hcut
  cases kq with
  | zero=>exact absurd HA.out (by simp [spec_l07DrawWord.j0])
  | succ y0 =>
   have H:=HA.out;clear HA;simp only [spec_l07DrawWord.j0] at H;obtain ⟨⟨pi,pj,pk⟩,g4,H⟩:=ob H;(try dsimp only at H);obtain ⟨pl,g5,H⟩:=ob H;(try dsimp only at H);have B2:=ak H;clear H;go_upto_if 46 with (first | ((with_reducible refine gate_callee (f:=127) rfl ?_);refine goB 39 Try.func127 #[.pointer (some ⟨g,0,none⟩),.int .i64 p0,.int .i64 w3] rfl ?_;(with_reducible refine (spec_l01DrawList.calls y0 g s0_0 w4 w5 p0 w3 pi pj pk w0 _ ?side1 ?side2 g4.out).mono ?_);(case side1=>exact xq1);(case side2=>exact xq2);rintro e S4 ⟨N1,rfl,u5,hi,hb,hk⟩;refine ⟨_,rfl,?_⟩;have U2:=ak (Kd.R_lower (Kd.R_new' u5 (Kd.R_lt (rF U1))) (keep_size (w:=w) (g:=g) (row:=none) kpA));replace U1:=ak (Kd.R_mono (Kd.R_told (Kd.R_oldK (IsS121.apart (show IsS121 w0 _ g s0_0 w4 w5 from xq1) (rF U1) (by decide)) hk) (Kd.R_base u5)) (fun _ h_=>h_.1));replace HK:=ak (KeepBut.trans kpA hk (.inl rfl));replace HB:=ak hb;replace z0:=ak hi;(try clear hb hk hi u5);obtain ⟨d1,D1,rfl⟩:=Kd.R_slice U2.out) | ((with_reducible refine gate_callee (f:=136) rfl ?_);refine goB 43 Try.func136 #[.int .i64 p0,.slice d0 p6.length D0,.slice d1 pi.length D1] rfl ?_;(with_reducible refine (spec_EncodeWord.calls y0 p0 _ _ p6 _ _ pi pl _ ?side1 ?side2 ?side3 ?side4 g5.out).mono ?_);(case side1=>exact cA ((Kd.R_reads' U1.out).2.2));(case side2=>exact (Kd.R_reads' U1.out).2.1);(case side3=>exact cA ((Kd.R_reads' U2.out).2.2));(case side4=>exact (Kd.R_reads' U2.out).2.1);rintro e S5 ⟨N2,rfl,u5,hb⟩;refine ⟨_,rfl,?_⟩;have U3:=ak (Kd.R_lower (Kd.R_new' (Kd.R_new' u5 (Kd.R_lt (rF U1))) (Kd.R_lt (rF U2))) (keep_size (w:=w) (g:=g) (row:=none) kpA));replace U1:=ak (Kd.R_elder' (rF U1) (Kd.R_base u5) hb);replace U2:=ak (Kd.R_elder' (rF U2) (Kd.R_base u5) hb);replace HK:=ak (KeepBut.trans kpA (KeepBut.of_below hb g none) (.inl rfl));replace HB:=ak (below_step xq2 hb);replace z0:=ak (IsS121.below xq1 hb);(try clear hb u5);obtain ⟨d2,D2,rfl⟩:=Kd.R_slice U3.out))
   (try simp only [Act.put,sa,sb,sc])
   go_cut [11] (fun N3 wc=>∃ (kq:Nat) (w6:List Int) (w7:Int) (wa:Int),Aside0 (spec_l07DrawWord.j1 kq p0 p6 w3 pi w6 s0_0 w7 wa=some (r1,r2,r3,r4,r5,r6,r7))∧Aside0 (kq≤y0)∧Aside0 (Kd.R (Kd.int .i64) 3 wc w.heap.size (fun k_=>some k_≠((.slice d1 pi.length D1):Value).ownBlock∧some k_≠(N3:Value).ownBlock) (.slice d0 p6.length D0) p6)∧Aside0 (Kd.R (Kd.int .i64) 3 wc w.heap.size (fun k_=>some k_≠((.slice d0 p6.length D0):Value).ownBlock∧some k_≠(N3:Value).ownBlock) (.slice d1 pi.length D1) pi)∧Aside0 (Kd.R (Kd.int .i64) 3 wc w.heap.size (fun k_=>some k_≠((.slice d0 p6.length D0):Value).ownBlock∧some k_≠((.slice d1 pi.length D1):Value).ownBlock) N3 w6)∧Aside0 (IsS121 w0 wc g s0_0 w7 wa)∧Aside0 (KeepBut w wc g none)∧Aside0 (Below w0.heap.size w0 wc))
   case first =>
    have H:=B2.out;clear B2
    by_cases x1:(pl.length:Int)=0;rotate_left
    · rw [if_neg x1] at H;have x2:((pl.length:Int) == 0)=false:=beq_eq_false_iff_ne.mpr x1;have x3:((pl.length:Int) != 0)=true:=bne_iff_ne.mpr x1;have x4:¬ (pl=[]):=fun h_=>x1 (by rw [h_];rfl)
      (first | rw [x2] | (simp only [i64_w,i32_w];rw [x2]) | skip)
      have H':=ak H;clear H;go_wp2
      go_meet
      case rel=>exact ⟨_,(pl),(pj),(pk),H',⟨xq56⟩,⟨rE (Kd.R_mono U1.out (fun _ hk=>⟨hk.1.2,hk.2⟩))⟩,⟨rE (Kd.R_mono U2.out (fun _ hk=>⟨hk.1.2,hk.2⟩))⟩,⟨rE (Kd.R_mono U3.out (fun _ hk=>⟨hk.1.2,hk.2⟩))⟩,⟨xq1⟩,⟨kpA⟩,⟨xq2⟩⟩
    rw [if_pos x1] at H;have x2:((pl.length:Int) == 0)=true:=beq_iff_eq.mpr x1;have x3:((pl.length:Int) != 0)=false:=bne_eq_false_iff_eq.mpr x1;clear x1;(first | rw [x2] | (simp only [i64_w,i32_w];rw [x2]) | skip)
    obtain ⟨⟨pn,po,pp⟩,g6,H⟩:=ob H;(try dsimp only at H);have H':=ak H;clear H;go_wp2_with (first | ((with_reducible refine gate_callee (f:=127) rfl ?_);refine goB 51 Try.func127 #[.pointer (some ⟨g,0,none⟩),.int .i64 p0,.int .i64 (p6.length:Int)] rfl ?_;(with_reducible refine (spec_l01DrawList.calls y0 g s0_0 pj pk p0 (p6.length:Int) pn po pp w0 _ ?side1 ?side2 g6.out).mono ?_);(case side1=>exact xq1);(case side2=>exact xq2);rintro e S6 ⟨N4,rfl,u5,hi,hb,hk⟩;refine ⟨_,rfl,?_⟩;have U4:=ak (Kd.R_lower (Kd.R_new' (Kd.R_new' (Kd.R_new' u5 (Kd.R_lt (rF U1))) (Kd.R_lt (rF U2))) (Kd.R_lt (rF U3))) (keep_size (w:=w) (g:=g) (row:=none) kpA));replace U1:=ak (Kd.R_mono (Kd.R_told (Kd.R_oldK (IsS121.apart (show IsS121 w0 _ g s0_0 pj pk from xq1) (rF U1) (by decide)) hk) (Kd.R_base u5)) (fun _ h_=>h_.1));replace U2:=ak (Kd.R_mono (Kd.R_told (Kd.R_oldK (IsS121.apart (show IsS121 w0 _ g s0_0 pj pk from xq1) (rF U2) (by decide)) hk) (Kd.R_base u5)) (fun _ h_=>h_.1));replace U3:=ak (Kd.R_mono (Kd.R_told (Kd.R_oldK (IsS121.apart (show IsS121 w0 _ g s0_0 pj pk from xq1) (rF U3) (by decide)) hk) (Kd.R_base u5)) (fun _ h_=>h_.1));replace HK:=ak (KeepBut.trans kpA hk (.inl rfl));replace HB:=ak hb;replace z0:=ak hi;(try clear hb hk hi u5)))
    go_meet
    case rel=>exact ⟨_,(pn),(po),(pp),H',⟨xq56⟩,⟨rE (Kd.R_mono U1.out (fun _ hk=>⟨hk.1.1.2,hk.2⟩))⟩,⟨rE (Kd.R_mono U2.out (fun _ hk=>⟨hk.1.1.2,hk.2⟩))⟩,⟨rE (Kd.R_mono U4.out (fun _ hk=>⟨hk.1.1.2,hk.1.2⟩))⟩,⟨xq1⟩,⟨kpA⟩,⟨xq2⟩⟩
   case rest =>
    clear B2;obtain ⟨kq,w6,w7,wa,HA,c1,U1,U5,U6,z0,HK,HB⟩:=hcut
    cases kq with
    | zero=>exact absurd HA.out (by simp [spec_l07DrawWord.j1])
    | succ y1 =>
     have H:=HA.out;clear HA;simp only [spec_l07DrawWord.j1] at H;obtain ⟨⟨pq,pr,ps⟩,g7,H⟩:=ob H;(try dsimp only at H);obtain ⟨⟨pt,pu,pv⟩,g8,H⟩:=ob H;(try dsimp only at H);have B6:=ak H;clear H;go_upto_if 61 with (first | ((with_reducible refine gate_callee (f:=91) rfl ?_);refine goB 59 Try.func91 #[.pointer (some ⟨g,0,none⟩),.int .i64 (wrap64 ((wrap64 (Int.tdiv (wrap64 ((p6.length:Int) - w3)) 2))+2))] rfl ?_;(with_reducible refine (spec_l01Below.calls g s0_0 w7 wa (wrap64 ((wrap64 (Int.tdiv (wrap64 ((p6.length:Int) - w3)) 2))+2)) pq pr ps w0 _ ?side1 ?side2 g7.out).mono ?_);(case side1=>exact xq1);(case side2=>exact xq2);rintro e S7 ⟨rfl,hi,hb,hk⟩;refine ⟨_,rfl,?_⟩;replace U1:=kS (rF U1) (fun H=>IsS121.apart (show IsS121 w0 _ g s0_0 w7 wa from xq1) H (by decide)) hk;replace U5:=kS (rF U5) (fun H=>IsS121.apart (show IsS121 w0 _ g s0_0 w7 wa from xq1) H (by decide)) hk;replace U6:=kS (rF U6) (fun H=>IsS121.apart (show IsS121 w0 _ g s0_0 w7 wa from xq1) H (by decide)) hk;replace HK:=ak (KeepBut.trans kpA hk (.inl rfl));replace HB:=ak hb;replace z0:=ak hi;(try clear hb hk hi)) | ((with_reducible refine gate_callee (f:=90) rfl ?_);refine goB 61 Try.func90 #[.pointer (some ⟨g,0,none⟩),.int .i64 5] rfl ?_;(with_reducible refine (spec_l01Once.calls g s0_0 pr ps 5 pt pu pv w0 _ ?side1 ?side2 g8.out).mono ?_);(case side1=>exact xq1);(case side2=>exact xq2);rintro e S8 ⟨rfl,hi,hb,hk⟩;refine ⟨_,rfl,?_⟩;replace U1:=kS (rF U1) (fun H=>IsS121.apart (show IsS121 w0 _ g s0_0 pr ps from xq1) H (by decide)) hk;replace U5:=kS (rF U5) (fun H=>IsS121.apart (show IsS121 w0 _ g s0_0 pr ps from xq1) H (by decide)) hk;replace U6:=kS (rF U6) (fun H=>IsS121.apart (show IsS121 w0 _ g s0_0 pr ps from xq1) H (by decide)) hk;replace HK:=ak (KeepBut.trans kpA hk (.inl rfl));replace HB:=ak hb;replace z0:=ak hi;(try clear hb hk hi)))
     (try simp only [Act.put,sa,sb,sc])
     go_cut [12] (fun N5 wc=>∃ (kq:Nat) (wb:Int) (wd:Int) (we:Int),N5=.int .i64 wb∧Aside0 (spec_l07DrawWord.j2 kq p0 p6 w3 pi w6 wb s0_0 wd we=some (r1,r2,r3,r4,r5,r6,r7))∧Aside0 (kq≤y1)∧Aside0 (Kd.R (Kd.int .i64) 3 wc w.heap.size (fun k_=>some k_≠((.slice d1 pi.length D1):Value).ownBlock∧some k_≠(u11:Value).ownBlock) (.slice d0 p6.length D0) p6)∧Aside0 (Kd.R (Kd.int .i64) 3 wc w.heap.size (fun k_=>some k_≠((.slice d0 p6.length D0):Value).ownBlock∧some k_≠(u11:Value).ownBlock) (.slice d1 pi.length D1) pi)∧Aside0 (Kd.R (Kd.int .i64) 3 wc w.heap.size (fun k_=>some k_≠((.slice d0 p6.length D0):Value).ownBlock∧some k_≠((.slice d1 pi.length D1):Value).ownBlock) u11 w6)∧Aside0 (IsS121 w0 wc g s0_0 wd we)∧Aside0 (KeepBut w wc g none)∧Aside0 (Below w0.heap.size w0 wc))
     case first =>
      have H:=B6.out;clear B6
      by_cases x5:pt=true;rotate_left
      · replace x5:=Bool.eq_false_iff.mpr x5;subst x5;rw [if_neg (show ¬ (false=true) by decide)] at H;have H':=ak H;clear H;go_wp2
        go_meet
        case rel=>exact ⟨_,(pq),(pu),(pv),eqA,H',⟨xq57⟩,⟨rA U1⟩,⟨rA U5⟩,⟨rA U6⟩,⟨xq1⟩,⟨kpA⟩,⟨xq2⟩⟩
      subst x5;rw [if_pos rfl] at H;obtain ⟨⟨pw,px,py⟩,g9,H⟩:=ob H;(try dsimp only at H);have H':=ak H;clear H;go_wp2_with (first | ((with_reducible refine gate_callee (f:=91) rfl ?_);refine goB 66 Try.func91 #[.pointer (some ⟨g,0,none⟩),.int .i64 (wrap64 ((p6.length:Int)+1))] rfl ?_;(with_reducible refine (spec_l01Below.calls g s0_0 pu pv (wrap64 ((p6.length:Int)+1)) pw px py w0 _ ?side1 ?side2 g9.out).mono ?_);(case side1=>exact xq1);(case side2=>exact xq2);rintro e S9 ⟨rfl,hi,hb,hk⟩;refine ⟨_,rfl,?_⟩;replace U1:=kS (rF U1) (fun H=>IsS121.apart (show IsS121 w0 _ g s0_0 pu pv from xq1) H (by decide)) hk;replace U5:=kS (rF U5) (fun H=>IsS121.apart (show IsS121 w0 _ g s0_0 pu pv from xq1) H (by decide)) hk;replace U6:=kS (rF U6) (fun H=>IsS121.apart (show IsS121 w0 _ g s0_0 pu pv from xq1) H (by decide)) hk;replace HK:=ak (KeepBut.trans kpA hk (.inl rfl));replace HB:=ak hb;replace z0:=ak hi;(try clear hb hk hi)))
      go_meet
      case rel=>exact ⟨_,(pw),(px),(py),eqA,H',⟨xq57⟩,⟨rA U1⟩,⟨rA U5⟩,⟨rA U6⟩,⟨xq1⟩,⟨kpA⟩,⟨xq2⟩⟩
     case rest =>
      clear B6;obtain ⟨kq,wb,wd,we,rfl,HA,ca,U1,U5,U6,z0,HK,HB⟩:=hcut
      cases kq with
      | zero=>exact absurd HA.out (by simp [spec_l07DrawWord.j2])
      | succ y2 =>
       have H:=HA.out;clear HA;simp only [spec_l07DrawWord.j2] at H;have H':=ak H;clear H;go_wp2
       go_loopg [13] y2 (fun kq N6 w'=>∃ (wf:List Int) (wg:Int) (wh:Int) (wi:Int),N6=.int .i64 wg∧Aside0 (spec_l07DrawWord.l0 kq p0 p6 w3 pi wf wb wg s0_0 wh wi=some (r1,r2,r3,r4,r5,r6,r7))∧Aside0 (kq≤y2)∧Aside0 (Kd.R (Kd.int .i64) 3 w' w.heap.size (fun k_=>some k_≠((.slice d1 pi.length D1):Value).ownBlock∧some k_≠(u11:Value).ownBlock) (.slice d0 p6.length D0) p6)∧Aside0 (Kd.R (Kd.int .i64) 3 w' w.heap.size (fun k_=>some k_≠((.slice d0 p6.length D0):Value).ownBlock∧some k_≠(u11:Value).ownBlock) (.slice d1 pi.length D1) pi)∧Aside0 (Kd.R (Kd.int .i64) 3 w' w.heap.size (fun k_=>some k_≠((.slice d0 p6.length D0):Value).ownBlock∧some k_≠((.slice d1 pi.length D1):Value).ownBlock) u11 wf)∧Aside0 (IsS121 w0 w' g s0_0 wh wi)∧Aside0 (KeepBut w w' g none)∧Aside0 (Below w0.heap.size w0 w'))
       case atStart=>exact ⟨(w6),(0),(wd),(we),eqA,H',⟨Nat.le_refl _⟩,⟨rA U1⟩,⟨rA U5⟩,⟨rA U6⟩,⟨xq1⟩,⟨kpA⟩,⟨xq2⟩⟩
       case round =>
        clear H';obtain ⟨wf,wg,wh,wi,rfl,HA,W0,U1,U5,U6,z0,HK,HB⟩:=hrel
        cases gk with
        | zero=>exact absurd HA.out (by simp [spec_l07DrawWord.l0])
        | succ k4 =>
         have H:=HA.out;clear HA;simp only [spec_l07DrawWord.l0] at H
         by_cases x6:wg < wb;rotate_left
         · rw [if_neg x6] at H;have x7:=decide_eq_false x6;clear x6;simp only [Option.some.injEq,Prod.mk.injEq] at H;obtain ⟨rfl,rfl,rfl,rfl,rfl,rfl,rfl⟩:=H;go_wp2
           refine bodyPost_ret (results_list (rs:=[.tmp 2,.tmp 3,.tmp 4,.tmp 5,.tmp 6]) rfl (by simp) (.tmp (.tmp (.tmp (.tmp (.tmp .nil)))))) rfl ?_
           exact ⟨_,_,_,xq4,by (with_reducible repeat (first | apply Kd.R_alloc | apply Kd.R_drewN | apply Kd.R_drew));exact Kd.R_mono U1.out (fun _ hk=>⟨hk.2,hk.1⟩),xq94,by (with_reducible repeat (first | apply Kd.R_alloc | apply Kd.R_drewN | apply Kd.R_drew));exact U5.out,xq1,xq2,xq13⟩
         rw [if_pos x6] at H;have x7:=decide_eq_true x6;clear x6;obtain ⟨⟨pz,pA,pB⟩,ga,H⟩:=ob H;(try dsimp only at H);obtain ⟨⟨pC,pD,pE⟩,gb,H⟩:=ob H;(try dsimp only at H)
         obtain ⟨x8,H⟩:=iN H;have x9:=decide_eq_true x8;clear x8
         obtain ⟨xa,H⟩:=iN H;have xb:=decide_eq_true xa;clear xa;obtain ⟨k0,hyq⟩:∃ y_:List Int,y_=(wf.set (pz:Int).toNat pC):=⟨_,rfl⟩;replace H:(spec_l07DrawWord.l0 k4 p0 p6 w3 pi k0 wb (wrap64 (wg+1)) s0_0 pD pE)=some (r1,r2,r3,r4,r5,r6,r7):=xq7
         have K0:=ak hyq;clear hyq;have H':=ak H;clear H;obtain ⟨d3,D3,rfl⟩:=Kd.R_slice U6.out;go_wp2_with (first | ((with_reducible refine gate_callee (f:=91) rfl ?_);refine goB 76 Try.func91 #[.pointer (some ⟨g,0,none⟩),.int .i64 (wf.length:Int)] rfl ?_;(with_reducible refine (spec_l01Below.calls g s0_0 wh wi (wf.length:Int) pz pA pB w0 _ ?side1 ?side2 ga.out).mono ?_);(case side1=>exact xq1);(case side2=>exact xq2);rintro e Sa ⟨rfl,hi,hb,hk⟩;refine ⟨_,rfl,?_⟩;replace U1:=kS (rF U1) (fun H=>IsS121.apart (show IsS121 w0 _ g s0_0 wh wi from xq1) H (by decide)) hk;replace U5:=kS (rF U5) (fun H=>IsS121.apart (show IsS121 w0 _ g s0_0 wh wi from xq1) H (by decide)) hk;replace U6:=kS (rF U6) (fun H=>IsS121.apart (show IsS121 w0 _ g s0_0 wh wi from xq1) H (by decide)) hk;replace HK:=ak (KeepBut.trans kpA hk (.inl rfl));replace HB:=ak hb;replace z0:=ak hi;(try clear hb hk hi)) | ((with_reducible refine gate_callee (f:=135) rfl ?_);refine goB 79 Try.func135 #[.pointer (some ⟨g,0,none⟩),.int .i64 p0] rfl ?_;(with_reducible refine (spec_l01DrawElement.calls g s0_0 pA pB p0 pC pD pE w0 _ ?side1 ?side2 gb.out).mono ?_);(case side1=>exact xq1);(case side2=>exact xq2);rintro e Sb ⟨rfl,hi,hb,hk⟩;refine ⟨_,rfl,?_⟩;replace U1:=kS (rF U1) (fun H=>IsS121.apart (show IsS121 w0 _ g s0_0 pA pB from xq1) H (by decide)) hk;replace U5:=kS (rF U5) (fun H=>IsS121.apart (show IsS121 w0 _ g s0_0 pA pB from xq1) H (by decide)) hk;replace U6:=kS (rF U6) (fun H=>IsS121.apart (show IsS121 w0 _ g s0_0 pA pB from xq1) H (by decide)) hk;replace HK:=ak (KeepBut.trans kpA hk (.inl rfl));replace HB:=ak hb;replace z0:=ak hi;(try clear hb hk hi);have V0:0≤(pz:Int):=odA;have a5:(pz:Int) < ((wf.length:Int):Int):=odA;obtain ⟨f0,D4,F0,l2,L0,m0,M0⟩:=Kd.R_form U6.out (by omega);(first | cases F0 | (injection F0 with ea_ en_ ec_;(first | subst ea_ | (injection ea_ with ea_;subst ea_));subst ec_;clear en_));have i0:=ak l2;have I0:=ak M0;clear l2 L0 M0;obtain ⟨O0,j4⟩:=Kd.R_celln 0 U6.out (pz:Int) V0 a5;replace V0:=eq_true V0;replace a5:=eq_true a5;obtain ⟨J0,G0⟩:=Kd.R_celln 0 U6.out (pz:Int) (odA) (odA);have t0:=Kd.R_putg U6.out (pz:Int) pC) | ((with_reducible refine gate_store (t:=3) (p:=80) rfl ?_);refine store_event (t:=3) (p:=80) (v:=?vo_w45) (w1:=(Sb.setCell ⟨f0,(pz:Int).toNat,none⟩ (.int .i64 pC))) ?hg ?ho ?hn ?hr ?_;(case ho=>rfl);(case hg=>rfl);(case hn=>rfl);(case hr=>exact xq10);intro Sc hw;have hg:Sb.grownBy Sc (some f0):=(by rw [hw];exact t0.2);have hp_:Kd.R (Kd.int .i64) 3 Sc w.heap.size (fun k_=>some k_≠(.slice d0 p6.length D0:Value).ownBlock∧some k_≠(.slice d1 pi.length D1:Value).ownBlock) (.slice (some ⟨f0,0,none⟩) wf.length D3) k0:=(by rw [hw,K0.out];exact t0.1);clear t0;replace U1:=ak (Kd.R_after (v:=(.slice (some ⟨f0,0,none⟩) wf.length D3)) (v1:=(.slice (some ⟨f0,0,none⟩) wf.length D3)) (ok:=(fun k_=>some k_≠(.slice d1 pi.length D1:Value).ownBlock)) (rF U1) hg (.inl rfl));replace U5:=ak (Kd.R_after (v:=(.slice (some ⟨f0,0,none⟩) wf.length D3)) (v1:=(.slice (some ⟨f0,0,none⟩) wf.length D3)) (ok:=(fun k_=>some k_≠(.slice d0 p6.length D0:Value).ownBlock)) (rF U5) hg (.inl rfl));replace z0:=ak (IsS121.grown xq28 hg (IsS121.own_ne z0.out U6.out (by decide)));replace HB:=ak ((by rw [hw];exact below_set (HB.out) (Nat.le_trans HL.out i0.out):Below w0.heap.size w0 Sc));replace HK:=ak (KeepBut.trans kpA (KeepBut.of_grown hg g) (Kd.R_base2 U6.out));replace U6:=ak hp_;clear hg hw hp_))
         go_roundg k4
         case measure=>have:=c0.out;have:=c1.out;have:=ca.out;have:=W0.out;omega
         case rel=>exact ⟨(k0),(wrap64 (wg+1)),(pD),(pE),eqA,H',⟨by have:=c0.out;have:=c1.out;have:=ca.out;have:=W0.out;omega⟩,⟨rA U1⟩,⟨rA U5⟩,⟨rA U6⟩,⟨xq1⟩,⟨kpA⟩,⟨xq2⟩⟩

end Go.Proofs.Ytogdhclomgafdaa.PFnWireJobs
