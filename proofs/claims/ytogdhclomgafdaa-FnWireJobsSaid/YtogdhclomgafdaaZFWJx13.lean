-- Written by a program of this session (the print of the kit with contracts of this session's own added)
import Derived.Test.YtogdhclomgafdaaZFWJx11
set_option maxHeartbeats 8000000
set_option maxRecDepth 100000
namespace Go.Proofs.Ytogdhclomgafdaa.PFnWireJobs
open Go.RowKit Go.Proofs.YtogdhclomgafdaaW.PrintWords Go.Proofs.YtogdhclomgafdaaW.PrintLast Go.Proofs.YtogdhclomgafdaaW.PrintMore Go.Proofs.YtogdhclomgafdaaW.PrintPack Go.Proofs.YtogdhclomgafdaaW.PrintPack
set_option linter.unusedVariables false
set_option linter.unusedSimpArgs false

mutual
def spec_l07DrawPoints.l0:Nat → Int → Int → List Int → Int → List Int → Int → Int → Option (List Int × Int × Int)
 | 0,_,_,_,_,_,_,_=>none
 | k+1,x1,x2,x7,x8,x1000,x1001,x1002=>if x8 < x2 then ((spec_l01DrawElement.f x1000 x1001 x1002 x1).bind fun bt364=>((spec_l01Has.f k x7 bt364.1).bind fun t367=>(if t367=true then ((spec_l01Once.f x1000 bt364.2.1 bt364.2.2 60).bind fun bt368=>(if bt368.1=true then (if x7.length < 17592186044416 then (spec_l07DrawPoints.l0 k x1 x2 (x7 ++ [bt364.1]) (wrap64 (x8+1)) x1000 bt368.2.1 bt368.2.2) else (none)) else (spec_l07DrawPoints.l0 k x1 x2 x7 (wrap64 (x8+1)) x1000 bt368.2.1 bt368.2.2))) else (if x7.length < 17592186044416 then (spec_l07DrawPoints.l0 k x1 x2 (x7 ++ [bt364.1]) (wrap64 (x8+1)) x1000 bt364.2.1 bt364.2.2) else (none))))) else ((spec_l01Once.f x1000 x1001 x1002 25).bind fun bt377=>(if bt377.1=true then (spec_l07DrawPoints.j1 k x1 x7 (decide ((x7.length:Int) > 0)) x1000 bt377.2.1 bt377.2.2) else (spec_l07DrawPoints.j1 k x1 x7 false x1000 bt377.2.1 bt377.2.2)))
def spec_l07DrawPoints.j1:Nat → Int → List Int → Bool → List Int → Int → Int → Option (List Int × Int × Int)
 | 0,_,_,_,_,_,_=>none
 | k+1,x1,x7,x37,x1000,x1001,x1002=>if x37=true then ((spec_l01Below.f x1000 x1001 x1002 (x7.length:Int)).bind fun bt380=>((spec_Modulus.f x1).bind fun t383=>((spec_l01PickInt.f x1000 bt380.2.1 bt380.2.2 (([(-1),t383]:List Int))).bind fun bt387=>(if 0≤bt380.1 then (if bt380.1 < (x7.length:Int) then (some ((x7.set (bt380.1:Int).toNat bt387.1),bt387.2.1,bt387.2.2)) else (none)) else (none))))) else (some (x7,x1001,x1002))
end
def spec_l07DrawPoints.f (k:Nat) (s0_0:List Int) (s0_1:Int) (s0_2:Int) (a1:Int) (a2:Int):Option (List Int × Int × Int):=spec_l07DrawPoints.l0 k a1 a2 (([]:List Int)) 0 s0_0 s0_1 s0_2
theorem spec_l07DrawPoints.calls (k:Nat) (g:Nat) (s0_0:List Int) (s0_1:Int) (s0_2:Int) (a1:Int) (a2:Int) (r1:List Int) (r2:Int) (r3:Int) (w0 w:World) (hI:IsS121 w0 w g s0_0 s0_1 s0_2) (hB:Below w0.heap.size w0 w) (h:spec_l07DrawPoints.f k s0_0 s0_1 s0_2 a1 a2=some (r1,r2,r3)) :
 Calls Try.prog 131 #[.pointer (some ⟨g,0,none⟩),.int .i64 a1,.int .i64 a2] w fun e w'=>∃ v0_:Value,e=.returned (v0_)∧Kd.R (Kd.int .i64) 3 w' w.heap.size (fun _=>True) v0_ r1∧IsS121 w0 w' g s0_0 r2 r3∧Below w0.heap.size w0 w'∧KeepBut w w' g none:=by
 have z0:=ak hI;have HK:=ak (KeepBut.refl w g none);have HL:=ak hB.size;clear hI;have Z0:=ak hB.size;have HB:=ak hB;clear hB;have H:=h;clear h;unfold spec_l07DrawPoints.f at H;obtain ⟨k0,hyq⟩:∃ y_:List Int,y_=(([]:List Int)):=⟨_,rfl⟩;replace H:(spec_l07DrawPoints.l0 k a1 a2 k0 0 s0_0 s0_1 s0_2)=some (r1,r2,r3):=xq7
 have K0:=ak hyq;clear hyq;have H':=ak H;clear H;go_enter Try.func131,Try.ntmps131
 go_wp2_with (first | ((with_reducible refine gate_dst (N:=10) rfl ?_);(try (refine gate_guard (by rfl) ?_;dsimp only));refine Kd.R_lit (Kd.int .i64) _ 3 ?hg (N:=10) ?hd (xs:=([]:List Int)) (inner:=[]) (ok:=fun _=>True) (okp:=fun _=>True) ?hr ?hp (fun _ hk=>hk) trivial (Below.refl _ _) (Nat.le_refl _) (by simp) ?_;(case hd=>rfl);(case hg=>rfl);(case hr=>exact xq10);(case hp=>exact (Reps.none _ _));intro N0 w4 u5 hb hg_ hnew_;clear hg_ hnew_;(first | rw [← K0.out] at u5 | (simp only [Int.reduceToNat] at u5;rw [← K0.out] at u5));have U0:=ak (Kd.R_lower u5 (keep_size (w:=w) (g:=g) (row:=none) kpA));replace HK:=ak (KeepBut.trans kpA (KeepBut.of_below hb g none) (.inl rfl));replace HB:=ak (below_step xq2 hb);replace z0:=ak (IsS121.below xq1 hb);clear hb u5))
 go_loopg [7,8] k (fun kq v7 v8 w'=>∃ (w3:List Int) (w5:Int) (w6:Int) (w7:Int),v8=.int .i64 w5∧Aside0 (spec_l07DrawPoints.l0 kq a1 a2 w3 w5 s0_0 w6 w7=some (r1,r2,r3))∧Aside0 (kq≤k)∧Aside0 (Kd.R (Kd.int .i64) 3 w' w.heap.size (fun _=>True) v7 w3)∧Aside0 (IsS121 w0 w' g s0_0 w6 w7)∧Aside0 (KeepBut w w' g none)∧Aside0 (Below w0.heap.size w0 w'))
 case atStart=>exact ⟨(k0),(0),(s0_1),(s0_2),eqA,H',⟨Nat.le_refl _⟩,⟨rA U0⟩,⟨xq1⟩,⟨kpA⟩,⟨xq2⟩⟩
 case round =>
  clear H';obtain ⟨w3,w5,w6,w7,rfl,HA,W0,U1,z0,HK,HB⟩:=hrel
  cases gk with
  | zero=>exact absurd HA.out (by simp [spec_l07DrawPoints.l0])
  | succ k1 =>
   have H:=HA.out;clear HA;simp only [spec_l07DrawPoints.l0] at H
   by_cases c6:w5 < a2
   · rw [if_pos c6] at H;have x0:=decide_eq_true c6;clear c6;obtain ⟨⟨p0,p1,p2⟩,A7,H⟩:=ob H;(try dsimp only at H);obtain ⟨p3,A8,H⟩:=ob H;(try dsimp only at H)
     by_cases c9:p3=true;rotate_left
     · replace c9:=Bool.eq_false_iff.mpr c9;subst c9;rw [if_neg (show ¬ (false=true) by decide)] at H
       obtain ⟨x1,H⟩:=iN H;have E0:=ak x1;clear x1;obtain ⟨k2,hyq⟩:∃ y_:List Int,y_=(w3 ++ [p0]):=⟨_,rfl⟩;replace H:(spec_l07DrawPoints.l0 k1 a1 a2 k2 (wrap64 (w5+1)) s0_0 p1 p2)=some (r1,r2,r3):=xq7
       have K1:=ak hyq;clear hyq;have H':=ak H;clear H;go_wp2_with (first | ((with_reducible refine gate_callee (f:=135) rfl ?_);refine goB 18 Try.func135 #[.pointer (some ⟨g,0,none⟩),.int .i64 a1] rfl ?_;(with_reducible refine (spec_l01DrawElement.calls g s0_0 w6 w7 a1 p0 p1 p2 w0 _ ?side1 ?side2 A7.out).mono ?_);(case side1=>exact xq1);(case side2=>exact xq2);rintro e S0 ⟨rfl,hi,hb,hk⟩;refine ⟨_,rfl,?_⟩;replace U1:=kS (rF U1) (fun H=>IsS121.apart (show IsS121 w0 _ g s0_0 w6 w7 from xq1) H (by decide)) hk;replace HK:=ak (KeepBut.trans kpA hk (.inl rfl));replace HB:=ak hb;replace z0:=ak hi;(try clear hb hk hi);obtain ⟨d0,D0,rfl⟩:=Kd.R_slice U1.out) | ((with_reducible refine gate_callee (f:=112) rfl ?_);refine goB 21 Try.func112 #[.slice d0 w3.length D0,.int .i64 p0] rfl ?_;(with_reducible refine (spec_l01Has.calls k1 _ _ w3 p0 false _ ?side1 ?side2 A8.out).mono ?_);(case side1=>exact cA ((Kd.R_reads' U1.out).2.2));(case side2=>exact (Kd.R_reads' U1.out).2.1);rintro e w' ⟨rfl,⟨nd,rfl⟩⟩;refine ⟨_,rfl,?_⟩) | ((with_reducible refine gate_builtin (b:=.append) (xs:=#[.tmp 27,.tmp 29]) rfl ?_);(try (refine gate_guard (by rfl) ?_;dsimp only));at_builtin;refine Kd.R_append (Kd.int .i64) w.heap.size rfl (.tmp 27) (.tmp 29) 33 3 (.int .i64 0) 8 rfl Try.underlying33 info3 rfl (by decide) (by omega) (.slice d0 w3.length D0) w3 p0 [.int .i64 p0] (fun _=>True) (fun _=>False) rfl rfl ?aP (fun _ hk=>hk.elim) ?aF ?aO (Below.refl _ _) ?aS ?aL ?_;(case aP=>exact rfl);(case aF=>exact (fun _ _=>trivial));(case aO=>exact (rF U1));(case aS=>exact xq58);(case aL=>exact xq15);intro N1 S1 ho hb hg hat;rw [← K1.out] at ho;have U2:=ak ho;replace HB:=ak (below_weaken xq2 HL.out hb);replace z0:=ak (IsS121.grown xq28 hg (IsS121.own_ne z0.out U1.out (by decide)));replace HK:=ak (KeepBut.trans kpA (KeepBut.of_grown hg g) (Kd.R_base2 U1.out));clear U1;clear ho hb hg hat))
       go_roundg k1
       case measure=>have:=W0.out;omega
       case rel=>exact ⟨(k2),(wrap64 (w5+1)),(p1),(p2),eqA,H',⟨xq14⟩,⟨rA U2⟩,⟨xq1⟩,⟨kpA⟩,⟨xq2⟩⟩
     subst c9;rw [if_pos rfl] at H;obtain ⟨⟨p4,p5,p6⟩,g3,H⟩:=ob H;(try dsimp only at H)
     by_cases x2:p4=true;rotate_left
     · replace x2:=Bool.eq_false_iff.mpr x2;subst x2;rw [if_neg (show ¬ (false=true) by decide)] at H;have H':=ak H;clear H;go_wp2_with (first | ((with_reducible refine gate_callee (f:=135) rfl ?_);refine goB 18 Try.func135 #[.pointer (some ⟨g,0,none⟩),.int .i64 a1] rfl ?_;(with_reducible refine (spec_l01DrawElement.calls g s0_0 w6 w7 a1 p0 p1 p2 w0 _ ?side1 ?side2 A7.out).mono ?_);(case side1=>exact xq1);(case side2=>exact xq2);rintro e S2 ⟨rfl,hi,hb,hk⟩;refine ⟨_,rfl,?_⟩;replace U1:=kS (rF U1) (fun H=>IsS121.apart (show IsS121 w0 _ g s0_0 w6 w7 from xq1) H (by decide)) hk;replace HK:=ak (KeepBut.trans kpA hk (.inl rfl));replace HB:=ak hb;replace z0:=ak hi;(try clear hb hk hi);obtain ⟨d1,D1,rfl⟩:=Kd.R_slice U1.out) | ((with_reducible refine gate_callee (f:=112) rfl ?_);refine goB 21 Try.func112 #[.slice d1 w3.length D1,.int .i64 p0] rfl ?_;(with_reducible refine (spec_l01Has.calls k1 _ _ w3 p0 true _ ?side1 ?side2 A8.out).mono ?_);(case side1=>exact cA ((Kd.R_reads' U1.out).2.2));(case side2=>exact (Kd.R_reads' U1.out).2.1);rintro e w' ⟨rfl,⟨nd,rfl⟩⟩;refine ⟨_,rfl,?_⟩) | (go_at_call 90;(with_reducible refine (spec_l01Once.calls g s0_0 p1 p2 60 false p5 p6 w0 _ ?side1 ?side2 g3.out).mono ?_);(case side1=>exact xq1);(case side2=>exact xq2);rintro e S3 ⟨rfl,hi,hb,hk⟩;replace U1:=kS (rF U1) (fun H=>IsS121.apart (show IsS121 w0 _ g s0_0 p1 p2 from xq1) H (by decide)) hk;replace HK:=ak (KeepBut.trans kpA hk (.inl rfl));replace HB:=ak hb;replace z0:=ak hi;(try clear hb hk hi)))
       go_roundg k1
       case measure=>have:=W0.out;omega
       case rel=>exact ⟨(w3),(wrap64 (w5+1)),(p5),(p6),eqA,H',⟨xq14⟩,⟨rA U1⟩,⟨xq1⟩,⟨kpA⟩,⟨xq2⟩⟩
     subst x2;rw [if_pos rfl] at H
     obtain ⟨x3,H⟩:=iN H;have E1:=ak x3;clear x3;obtain ⟨k3,hyq⟩:∃ y_:List Int,y_=(w3 ++ [p0]):=⟨_,rfl⟩;replace H:(spec_l07DrawPoints.l0 k1 a1 a2 k3 (wrap64 (w5+1)) s0_0 p5 p6)=some (r1,r2,r3):=xq7
     have K2:=ak hyq;clear hyq;have H':=ak H;clear H;go_wp2_with (first | ((with_reducible refine gate_callee (f:=135) rfl ?_);refine goB 18 Try.func135 #[.pointer (some ⟨g,0,none⟩),.int .i64 a1] rfl ?_;(with_reducible refine (spec_l01DrawElement.calls g s0_0 w6 w7 a1 p0 p1 p2 w0 _ ?side1 ?side2 A7.out).mono ?_);(case side1=>exact xq1);(case side2=>exact xq2);rintro e S4 ⟨rfl,hi,hb,hk⟩;refine ⟨_,rfl,?_⟩;replace U1:=kS (rF U1) (fun H=>IsS121.apart (show IsS121 w0 _ g s0_0 w6 w7 from xq1) H (by decide)) hk;replace HK:=ak (KeepBut.trans kpA hk (.inl rfl));replace HB:=ak hb;replace z0:=ak hi;(try clear hb hk hi);obtain ⟨d2,D2,rfl⟩:=Kd.R_slice U1.out) | ((with_reducible refine gate_callee (f:=112) rfl ?_);refine goB 21 Try.func112 #[.slice d2 w3.length D2,.int .i64 p0] rfl ?_;(with_reducible refine (spec_l01Has.calls k1 _ _ w3 p0 true _ ?side1 ?side2 A8.out).mono ?_);(case side1=>exact cA ((Kd.R_reads' U1.out).2.2));(case side2=>exact (Kd.R_reads' U1.out).2.1);rintro e w' ⟨rfl,⟨nd,rfl⟩⟩;refine ⟨_,rfl,?_⟩) | (go_at_call 90;(with_reducible refine (spec_l01Once.calls g s0_0 p1 p2 60 true p5 p6 w0 _ ?side1 ?side2 g3.out).mono ?_);(case side1=>exact xq1);(case side2=>exact xq2);rintro e S5 ⟨rfl,hi,hb,hk⟩;replace U1:=kS (rF U1) (fun H=>IsS121.apart (show IsS121 w0 _ g s0_0 p1 p2 from xq1) H (by decide)) hk;replace HK:=ak (KeepBut.trans kpA hk (.inl rfl));replace HB:=ak hb;replace z0:=ak hi;(try clear hb hk hi)) | ((with_reducible refine gate_builtin (b:=.append) (xs:=#[.tmp 27,.tmp 29]) rfl ?_);(try (refine gate_guard (by rfl) ?_;dsimp only));at_builtin;refine Kd.R_append (Kd.int .i64) w.heap.size rfl (.tmp 27) (.tmp 29) 33 3 (.int .i64 0) 8 rfl Try.underlying33 info3 rfl (by decide) (by omega) (.slice d2 w3.length D2) w3 p0 [.int .i64 p0] (fun _=>True) (fun _=>False) rfl rfl ?aP (fun _ hk=>hk.elim) ?aF ?aO (Below.refl _ _) ?aS ?aL ?_;(case aP=>exact rfl);(case aF=>exact (fun _ _=>trivial));(case aO=>exact (rF U1));(case aS=>exact xq58);(case aL=>exact xq31);intro N2 S6 ho hb hg hat;rw [← K2.out] at ho;have U3:=ak ho;replace HB:=ak (below_weaken xq2 HL.out hb);replace z0:=ak (IsS121.grown xq28 hg (IsS121.own_ne z0.out U1.out (by decide)));replace HK:=ak (KeepBut.trans kpA (KeepBut.of_grown hg g) (Kd.R_base2 U1.out));clear U1;clear ho hb hg hat))
     go_roundg k1
     case measure=>have:=W0.out;omega
     case rel=>exact ⟨(k3),(wrap64 (w5+1)),(p5),(p6),eqA,H',⟨xq14⟩,⟨rA U3⟩,⟨xq1⟩,⟨kpA⟩,⟨xq2⟩⟩
   rw [if_neg c6] at H;have x0:=decide_eq_false c6;clear c6;have B0:=ak H;clear H;go_upto_region 8 with (fail)
   go_cut [37] (fun N3 wc=>∃ (kq:Nat) (w8:Bool) (w9:Int) (wa:Int),N3=.bool w8∧Aside0 (spec_l07DrawPoints.j1 kq a1 w3 w8 s0_0 w9 wa=some (r1,r2,r3))∧Aside0 (kq≤k1)∧Aside0 (Kd.R (Kd.int .i64) 3 wc w.heap.size (fun _=>True) u7 w3)∧Aside0 (IsS121 w0 wc g s0_0 w9 wa)∧Aside0 (KeepBut w wc g none)∧Aside0 (Below w0.heap.size w0 wc))
   case first =>
    have H:=B0.out;clear B0;obtain ⟨⟨p7,p8,p9⟩,g4,H⟩:=ob H;(try dsimp only at H)
    by_cases x4:p7=true;rotate_left
    · replace x4:=Bool.eq_false_iff.mpr x4;subst x4;rw [if_neg (show ¬ (false=true) by decide)] at H;have H':=ak H;clear H;go_wp2_with (first | ((with_reducible refine gate_callee (f:=90) rfl ?_);refine goB 32 Try.func90 #[.pointer (some ⟨g,0,none⟩),.int .i64 25] rfl ?_;(with_reducible refine (spec_l01Once.calls g s0_0 w6 w7 25 false p8 p9 w0 _ ?side1 ?side2 g4.out).mono ?_);(case side1=>exact xq1);(case side2=>exact xq2);rintro e S7 ⟨rfl,hi,hb,hk⟩;refine ⟨_,rfl,?_⟩;replace U1:=kS (rF U1) (fun H=>IsS121.apart (show IsS121 w0 _ g s0_0 w6 w7 from xq1) H (by decide)) hk;replace HK:=ak (KeepBut.trans kpA hk (.inl rfl));replace HB:=ak hb;replace z0:=ak hi;(try clear hb hk hi)))
      go_meet
      case rel=>exact ⟨_,(false),(p8),(p9),eqA,H',⟨xq25⟩,⟨rA U1⟩,⟨xq1⟩,⟨kpA⟩,⟨xq2⟩⟩
    subst x4;rw [if_pos rfl] at H;have H':=ak H;clear H;go_wp2_with (first | ((with_reducible refine gate_callee (f:=90) rfl ?_);refine goB 32 Try.func90 #[.pointer (some ⟨g,0,none⟩),.int .i64 25] rfl ?_;(with_reducible refine (spec_l01Once.calls g s0_0 w6 w7 25 true p8 p9 w0 _ ?side1 ?side2 g4.out).mono ?_);(case side1=>exact xq1);(case side2=>exact xq2);rintro e S8 ⟨rfl,hi,hb,hk⟩;refine ⟨_,rfl,?_⟩;replace U1:=kS (rF U1) (fun H=>IsS121.apart (show IsS121 w0 _ g s0_0 w6 w7 from xq1) H (by decide)) hk;replace HK:=ak (KeepBut.trans kpA hk (.inl rfl));replace HB:=ak hb;replace z0:=ak hi;(try clear hb hk hi);obtain ⟨d3,D3,rfl⟩:=Kd.R_slice U1.out))
    go_meet
    case rel=>exact ⟨_,(decide ((w3.length:Int) > 0)),(p8),(p9),eqA,H',⟨xq25⟩,⟨rA U1⟩,⟨xq1⟩,⟨kpA⟩,⟨xq2⟩⟩
   case rest =>
    clear B0;obtain ⟨kq,w8,w9,wa,rfl,HA,c0,U1,z0,HK,HB⟩:=hcut
    cases kq with
    | zero=>exact absurd HA.out (by simp [spec_l07DrawPoints.j1])
    | succ y0 =>
     have H:=HA.out;clear HA;simp only [spec_l07DrawPoints.j1] at H
     by_cases x5:w8=true;rotate_left
     · replace x5:=Bool.eq_false_iff.mpr x5;subst x5;rw [if_neg (show ¬ (false=true) by decide)] at H;simp only [Option.some.injEq,Prod.mk.injEq] at H;obtain ⟨rfl,rfl,rfl⟩:=H;go_wp2
       go_ret
       exact ⟨_,xq4,xq23,xq1,xq2,xq13⟩
     subst x5;rw [if_pos rfl] at H;obtain ⟨⟨pa,pb,pc⟩,g5,H⟩:=ob H;(try dsimp only at H);obtain ⟨pd,g6,H⟩:=ob H;(try dsimp only at H);obtain ⟨k4,hyq⟩:∃ y_:List Int,y_=(([(-1),pd]:List Int)):=⟨_,rfl⟩;replace H:((spec_l01PickInt.f s0_0 pb pc k4).bind fun e0=>(if 0≤pa then (if pa < (w3.length:Int) then (some ((w3.set (pa:Int).toNat e0.1),e0.2.1,e0.2.2)) else (none)) else (none)))=some (r1,r2,r3):=xq7
     have K3:=ak hyq;clear hyq;obtain ⟨⟨pe,pf,pg⟩,g7,H⟩:=ob H;(try dsimp only at H)
     obtain ⟨x6,H⟩:=iN H;have x7:=decide_eq_true x6;clear x6
     obtain ⟨x8,H⟩:=iN H;have x9:=decide_eq_true x8;clear x8;obtain ⟨k5,hyq⟩:∃ y_:List Int,y_=(w3.set (pa:Int).toNat pe):=⟨_,rfl⟩;replace H:(some (k5,pf,pg))=some (r1,r2,r3):=xq7
     have K4:=ak hyq;clear hyq;simp only [Option.some.injEq,Prod.mk.injEq] at H;obtain ⟨rfl,rfl,rfl⟩:=H;obtain ⟨d4,D4,rfl⟩:=Kd.R_slice U1.out;go_wp2_with (first | ((with_reducible refine gate_callee (f:=91) rfl ?_);refine goB 42 Try.func91 #[.pointer (some ⟨g,0,none⟩),.int .i64 (w3.length:Int)] rfl ?_;(with_reducible refine (spec_l01Below.calls g s0_0 w9 wa (w3.length:Int) pa pb pc w0 _ ?side1 ?side2 g5.out).mono ?_);(case side1=>exact xq1);(case side2=>exact xq2);rintro e S9 ⟨rfl,hi,hb,hk⟩;refine ⟨_,rfl,?_⟩;replace U1:=kS (rF U1) (fun H=>IsS121.apart (show IsS121 w0 _ g s0_0 w9 wa from xq1) H (by decide)) hk;replace HK:=ak (KeepBut.trans kpA hk (.inl rfl));replace HB:=ak hb;replace z0:=ak hi;(try clear hb hk hi)) | ((with_reducible refine gate_callee (f:=82) rfl ?_);refine goB 45 Try.func82 #[.int .i64 a1] rfl ?_;(with_reducible refine (spec_Modulus.calls a1 pd _ g6.out).mono ?_);rintro e w' ⟨rfl,⟨nd,rfl⟩⟩;refine ⟨_,rfl,?_⟩;(try (rw [drewN_self S9];generalize hq_:World.drewN S9 _=S9;have xa:Aside0 (Kd.R (Kd.int .i64) 3 S9 w.heap.size (fun _=>True) (.slice d4 w3.length D4) w3):=⟨by rw [← hq_];exact (rF U1)⟩;have xb:Aside0 (IsS121 w0 S9 g s0_0 pb pc):=⟨xq92⟩;have xc:Aside0 (KeepBut w S9 g none):=⟨by rw [← hq_];exact kpA⟩;have xd:Aside0 (Below w0.heap.size w0 S9):=⟨xq93⟩;clear U1 z0 HK HB hq_;have U1:=xa;have z0:=xb;have HK:=xc;have HB:=xd;clear xa xb xc xd))) | ((with_reducible refine gate_dst (N:=46) rfl ?_);(try (refine gate_guard (by rfl) ?_;dsimp only));refine Kd.R_lit (Kd.int .i64) _ 3 ?hg (N:=46) ?hd (xs:=([(-1),pd]:List Int)) (inner:=[.int .i64 (-1),.int .i64 pd]) (ok:=fun _=>True) (okp:=fun _=>True) ?hr ?hp (fun _ hk=>hk) trivial (Below.refl _ _) (Nat.le_refl _) (by simp) ?_;(case hd=>rfl);(case hg=>rfl);(case hr=>exact xq10);(case hp=>exact (Reps.one (show Kd.M (Kd.int .i64) _ _ _ (-1) [.int .i64 (-1)] from rfl) (Reps.one (show Kd.M (Kd.int .i64) _ _ _ pd [.int .i64 pd] from rfl) (Reps.none _ _))));intro N4 Sa u6 hb hg_ hnew_;clear hg_ hnew_;(first | rw [← K3.out] at u6 | (simp only [Int.reduceToNat] at u6;rw [← K3.out] at u6));have U4:=ak (Kd.R_lower (Kd.R_new' u6 (Kd.R_lt (rF U1))) (keep_size (w:=w) (g:=g) (row:=none) kpA));replace U1:=ak (Kd.R_elder' (rF U1) (Kd.R_base u6) hb);replace HK:=ak (KeepBut.trans kpA (KeepBut.of_below hb g none) (.inl rfl));replace HB:=ak (below_step xq2 hb);replace z0:=ak (IsS121.below xq1 hb);clear hb u6;obtain ⟨d5,D5,rfl⟩:=Kd.R_slice U4.out) | ((with_reducible refine gate_callee (f:=60) rfl ?_);refine goB 47 Try.func60 #[.pointer (some ⟨g,0,none⟩),.slice d5 k4.length D5] rfl ?_;(with_reducible refine (spec_l01PickInt.calls g s0_0 pb pc _ _ k4 pe pf pg w0 _ ?side1 ?side2 ?side3 ?side4 ?side5 g7.out).mono ?_);(case side1=>exact xq1);(case side2=>exact xq2);(case side3=>exact cA ((Kd.R_reads' U4.out).2.2));(case side4=>exact (Kd.R_reads' U4.out).2.1);(case side5=>exact xq69);rintro e Sb ⟨rfl,hi,hb,hk⟩;refine ⟨_,rfl,?_⟩;replace U1:=kS (rF U1) (fun H=>IsS121.apart (show IsS121 w0 _ g s0_0 pb pc from xq1) H (by decide)) hk;replace U4:=kS (rF U4) (fun H=>IsS121.apart (show IsS121 w0 _ g s0_0 pb pc from xq1) H (by decide)) hk;replace HK:=ak (KeepBut.trans kpA hk (.inl rfl));replace HB:=ak hb;replace z0:=ak hi;(try clear hb hk hi);have V0:0≤(pa:Int):=odA;have a5:(pa:Int) < ((w3.length:Int):Int):=odA;obtain ⟨f0,D6,F0,l2,L0,m0,M0⟩:=Kd.R_form U1.out (by omega);(first | cases F0 | (injection F0 with ea_ en_ ec_;(first | subst ea_ | (injection ea_ with ea_;subst ea_));subst ec_;clear en_));have i0:=ak l2;have I0:=ak M0;clear l2 L0 M0;obtain ⟨O0,j4⟩:=Kd.R_celln 0 U1.out (pa:Int) V0 a5;replace V0:=eq_true V0;replace a5:=eq_true a5;have n_:=ak (Kd.R_mono (ok':=(fun k_=>some k_≠(.slice d5 k4.length D5:Value).ownBlock)) U1.out (fun k_ hk=>hk.2));clear U1;have U1:=n_;clear n_;obtain ⟨J0,G0⟩:=Kd.R_celln 0 U1.out (pa:Int) (odA) (odA);have t0:=Kd.R_putg U1.out (pa:Int) pe) | ((with_reducible refine gate_store (t:=3) (p:=48) rfl ?_);refine store_event (t:=3) (p:=48) (v:=?vo_w44) (w1:=(Sb.setCell ⟨f0,(pa:Int).toNat,none⟩ (.int .i64 pe))) ?hg ?ho ?hn ?hr ?_;(case ho=>rfl);(case hg=>rfl);(case hn=>rfl);(case hr=>exact xq10);intro Sc hw;have hg:Sb.grownBy Sc (some f0):=(by rw [hw];exact t0.2);have hp_:Kd.R (Kd.int .i64) 3 Sc w.heap.size (fun k_=>some k_≠(.slice d5 k4.length D5:Value).ownBlock) (.slice (some ⟨f0,0,none⟩) w3.length D4) k5:=(by rw [hw,K4.out];exact t0.1);clear t0;replace z0:=ak (IsS121.grown xq28 hg (IsS121.own_ne z0.out U1.out (by decide)));replace U4:=ak (Kd.R_after (v:=(.slice (some ⟨f0,0,none⟩) w3.length D4)) (v1:=(.slice (some ⟨f0,0,none⟩) w3.length D4)) (ok:=(fun _=>True)) (rF U4) hg (.inl rfl));replace HB:=ak ((by rw [hw];exact below_set (HB.out) (Nat.le_trans HL.out i0.out):Below w0.heap.size w0 Sc));replace HK:=ak (KeepBut.trans kpA (KeepBut.of_grown hg g) (Kd.R_base2 U1.out));replace U1:=ak hp_;clear hg hw hp_))
     go_ret
     exact ⟨_,xq4,xq68,xq1,xq2,xq13⟩

def spec_l03Elements.l0:Nat → List Int → Int → Int → Option (Bool)
 | 0,_,_,_=>none
 | k+1,x1,x5,x6=>if x6 < (x1.length:Int) then (if 0≤x6 then ((spec_l01In.f (rd x1 x6) 0 (wrap64 (x5 - 1))).bind fun t393=>(if t393=true then (spec_l03Elements.l0 k x1 x5 (wrap64 (x6+1))) else (some false))) else (none)) else (some true)
def spec_l03Elements.f (k:Nat) (a0:Int) (l1:List Int):Option (Bool):=(spec_Modulus.f a0).bind fun t391=>(if t391=0 then (some false) else (spec_l03Elements.l0 k l1 t391 0))
theorem spec_l03Elements.calls (k:Nat) (a0:Int) (A1:Option Addr) (c1:Nat) (l1:List Int) (r:Bool) (w:World) (hr1:Kd.C (Kd.int .i64) w A1 l1.length l1) (hc1:l1.length≤c1) (h:spec_l03Elements.f k a0 l1=some r) :
 Calls Try.prog 138 #[.int .i64 a0,.slice A1 l1.length c1] w fun e w'=>e=.returned (.bool r)∧Drawn0 w w':=by
 have b0:=ak hr1;have B0:=ak hc1;clear hr1 hc1;have H:=h;clear h;unfold spec_l03Elements.f at H;obtain ⟨p0,A3,H⟩:=ob H;(try dsimp only at H)
 by_cases c4:p0=0
 · rw [if_pos c4] at H;have x0:(p0 == 0)=true:=beq_iff_eq.mpr c4;have x1:(p0 != 0)=false:=bne_eq_false_iff_eq.mpr c4;clear c4;obtain rfl:=Option.some.inj H;go_enter Try.func138,Try.ntmps138
   go_wp2_with (first | ((with_reducible refine gate_callee (f:=82) rfl ?_);refine goB 8 Try.func82 #[.int .i64 a0] rfl ?_;(with_reducible refine (spec_Modulus.calls a0 p0 _ A3.out).mono ?_);rintro e w' ⟨rfl,⟨nd,rfl⟩⟩;refine ⟨_,rfl,?_⟩))
   go_ret
   exact ⟨xq9,xq5⟩
 rw [if_neg c4] at H;have x0:(p0 == 0)=false:=beq_eq_false_iff_ne.mpr c4;have x1:(p0 != 0)=true:=bne_iff_ne.mpr c4;have H':=ak H;clear H;go_enter Try.func138,Try.ntmps138
 go_wp2_with (first | ((with_reducible refine gate_callee (f:=82) rfl ?_);refine goB 8 Try.func82 #[.int .i64 a0] rfl ?_;(with_reducible refine (spec_Modulus.calls a0 p0 _ A3.out).mono ?_);rintro e w' ⟨rfl,⟨nd,rfl⟩⟩;refine ⟨_,rfl,?_⟩))
 go_loopg [6] k (fun kq v6 w'=>∃ (w3:Int),v6=.int .i64 w3∧Aside0 (spec_l03Elements.l0 kq l1 p0 w3=some r)∧Aside0 (kq≤k)∧Drawn0 w w')
 case atStart=>exact ⟨(0),eqA,H',⟨Nat.le_refl _⟩,xq5⟩
 case round =>
  clear H';obtain ⟨w3,rfl,HA,W0,⟨m1,rfl⟩⟩:=hrel
  cases gk with
  | zero=>exact absurd HA.out (by simp [spec_l03Elements.l0])
  | succ k1 =>
   have H:=HA.out;clear HA;simp only [spec_l03Elements.l0] at H
   by_cases c5:w3 < (l1.length:Int);rotate_left
   · rw [if_neg c5] at H;have x2:=decide_eq_false c5;clear c5;obtain rfl:=Option.some.inj H;go_wp2
     go_ret
     exact ⟨xq9,xq5⟩
   rw [if_pos c5] at H;have x2:=decide_eq_true c5;clear c5
   obtain ⟨c6,H⟩:=iN H;have x3:=decide_eq_true c6;clear c6;obtain ⟨p1,A7,H⟩:=ob H;(try dsimp only at H)
   by_cases c8:p1=true;rotate_left
   · replace c8:=Bool.eq_false_iff.mpr c8;subst c8;rw [if_neg (show ¬ (false=true) by decide)] at H;obtain rfl:=Option.some.inj H;have V0:0≤(w3:Int):=odA;have a5:w3 < (l1.length:Int):=odA;obtain ⟨A0,o0,O0⟩:=Kd.at_int b0.out w3 V0 a5
     cases o0
     replace V0:=eq_true V0;replace a5:=eq_true a5;go_wp2_with (first | ((with_reducible refine gate_callee (f:=62) rfl ?_);refine goB 23 Try.func62 #[.int .i64 (rd l1 w3),.int .i64 0,.int .i64 (wrap64 (p0 - 1))] rfl ?_;(with_reducible refine (spec_l01In.calls (rd l1 w3) 0 (wrap64 (p0 - 1)) false _ A7.out).mono ?_);rintro e w' ⟨rfl,⟨nd,rfl⟩⟩;refine ⟨_,rfl,?_⟩))
     go_ret
     exact ⟨xq9,xq5⟩
   subst c8;rw [if_pos rfl] at H;have H':=ak H;clear H;have V0:0≤(w3:Int):=odA;have a5:w3 < (l1.length:Int):=odA;obtain ⟨A0,o0,O0⟩:=Kd.at_int b0.out w3 V0 a5
   cases o0
   replace V0:=eq_true V0;replace a5:=eq_true a5;go_wp2_with (first | ((with_reducible refine gate_callee (f:=62) rfl ?_);refine goB 23 Try.func62 #[.int .i64 (rd l1 w3),.int .i64 0,.int .i64 (wrap64 (p0 - 1))] rfl ?_;(with_reducible refine (spec_l01In.calls (rd l1 w3) 0 (wrap64 (p0 - 1)) true _ A7.out).mono ?_);rintro e w' ⟨rfl,⟨nd,rfl⟩⟩;refine ⟨_,rfl,?_⟩))
   go_roundg k1
   case measure=>have:=W0.out;omega
   case rel=>exact ⟨(wrap64 (w3+1)),eqA,H',⟨xq14⟩,xq5⟩

mutual
def spec_PointsOk.j0:Nat → List Int → Bool → Option (Bool)
 | 0,_,_=>none
 | k+1,x1,x15=>if x15=true then (some false) else (spec_PointsOk.l0 k x1 0)
def spec_PointsOk.l0:Nat → List Int → Int → Option (Bool)
 | 0,_,_=>none
 | k+1,x1,x5=>if x5 < (x1.length:Int) then (if 0≤x5 then (if x5≤(x1.length:Int) then ((spec_l01Has.f k (x1.take (x5:Int).toNat) (rd x1 x5)).bind fun t398=>(if t398=true then (some false) else (spec_PointsOk.l0 k x1 (wrap64 (x5+1))))) else (none)) else (none)) else (some true)
end
def spec_PointsOk.f (k:Nat) (a0:Int) (l1:List Int):Option (Bool):=(spec_l01In.f (l1.length:Int) 1 40).bind fun t394=>(if t394=true then ((spec_l03Elements.f k a0 l1).bind fun t395=>(spec_PointsOk.j0 k l1 (!t395))) else (spec_PointsOk.j0 k l1 true))
theorem spec_PointsOk.calls (k:Nat) (a0:Int) (A1:Option Addr) (c1:Nat) (l1:List Int) (r:Bool) (w:World) (hr1:Kd.C (Kd.int .i64) w A1 l1.length l1) (hc1:l1.length≤c1) (h:spec_PointsOk.f k a0 l1=some r) :
 Calls Try.prog 140 #[.int .i64 a0,.slice A1 l1.length c1] w fun e w'=>e=.returned (.bool r)∧Drawn0 w w':=by
 have b0:=ak hr1;have B0:=ak hc1;clear hr1 hc1;have H:=h;clear h;unfold spec_PointsOk.f at H;have B2:=ak H;clear H;go_enter Try.func140,Try.ntmps140
 go_upto_region 1 with (fail)
 repeat (go_quiet (fail);go_upto_region 1 with (fail))
 go_cut [15] (fun N0 wc=>∃ (kq:Nat) (w3:Bool),N0=.bool w3∧Aside0 (spec_PointsOk.j0 kq l1 w3=some r)∧Aside0 (kq≤k)∧Drawn0 w wc)
 case first =>
  have H:=B2.out;clear B2;obtain ⟨p0,A4,H⟩:=ob H;(try dsimp only at H)
  by_cases c5:p0=true;rotate_left
  · replace c5:=Bool.eq_false_iff.mpr c5;subst c5;rw [if_neg (show ¬ (false=true) by decide)] at H;have H':=ak H;clear H;go_wp2_with (first | (go_at_call 62;(with_reducible refine (spec_l01In.calls (l1.length:Int) 1 40 false _ A4.out).mono ?_);rintro e w' ⟨rfl,⟨nd,rfl⟩⟩;(try first | exact ⟨rfl,_,World.drewN_drewN _ _ _⟩ | exact ⟨rfl,_,Eq.trans (World.drewN_drewN _ _ _) (congrArg (World.drewN _) (Nat.add_assoc _ _ _))⟩)))
    repeat (go_quiet (first | (go_at_call 62;(with_reducible refine (spec_l01In.calls (l1.length:Int) 1 40 false _ A4.out).mono ?_);rintro e w' ⟨rfl,⟨nd,rfl⟩⟩;(try first | exact ⟨rfl,_,World.drewN_drewN _ _ _⟩ | exact ⟨rfl,_,Eq.trans (World.drewN_drewN _ _ _) (congrArg (World.drewN _) (Nat.add_assoc _ _ _))⟩)));try go_wp2_with (first | (go_at_call 62;(with_reducible refine (spec_l01In.calls (l1.length:Int) 1 40 false _ A4.out).mono ?_);rintro e w' ⟨rfl,⟨nd,rfl⟩⟩;(try first | exact ⟨rfl,_,World.drewN_drewN _ _ _⟩ | exact ⟨rfl,_,Eq.trans (World.drewN_drewN _ _ _) (congrArg (World.drewN _) (Nat.add_assoc _ _ _))⟩))))
    go_meet
    case rel=>exact ⟨_,(true),eqA,H',⟨xq12⟩,xq5⟩
  subst c5;rw [if_pos rfl] at H;obtain ⟨p1,A6,H⟩:=ob H;(try dsimp only at H);have H':=ak H;clear H;go_wp2_with (first | (go_at_call 62;(with_reducible refine (spec_l01In.calls (l1.length:Int) 1 40 true _ A4.out).mono ?_);rintro e w' ⟨rfl,⟨nd,rfl⟩⟩;(try first | exact ⟨rfl,_,World.drewN_drewN _ _ _⟩ | exact ⟨rfl,_,Eq.trans (World.drewN_drewN _ _ _) (congrArg (World.drewN _) (Nat.add_assoc _ _ _))⟩)) | (go_at_call 138;(with_reducible refine (spec_l03Elements.calls k a0 _ _ l1 p1 _ ?side1 B0.out A6.out).mono ?_);(case side1=>exact cA b0.out);rintro e w' ⟨rfl,⟨nd,rfl⟩⟩;(try first | exact ⟨rfl,_,World.drewN_drewN _ _ _⟩ | exact ⟨rfl,_,Eq.trans (World.drewN_drewN _ _ _) (congrArg (World.drewN _) (Nat.add_assoc _ _ _))⟩)))
  repeat (go_quiet (first | (go_at_call 62;(with_reducible refine (spec_l01In.calls (l1.length:Int) 1 40 true _ A4.out).mono ?_);rintro e w' ⟨rfl,⟨nd,rfl⟩⟩;(try first | exact ⟨rfl,_,World.drewN_drewN _ _ _⟩ | exact ⟨rfl,_,Eq.trans (World.drewN_drewN _ _ _) (congrArg (World.drewN _) (Nat.add_assoc _ _ _))⟩)) | (go_at_call 138;(with_reducible refine (spec_l03Elements.calls k a0 _ _ l1 p1 _ ?side1 B0.out A6.out).mono ?_);(case side1=>exact cA b0.out);rintro e w' ⟨rfl,⟨nd,rfl⟩⟩;(try first | exact ⟨rfl,_,World.drewN_drewN _ _ _⟩ | exact ⟨rfl,_,Eq.trans (World.drewN_drewN _ _ _) (congrArg (World.drewN _) (Nat.add_assoc _ _ _))⟩)));try go_wp2_with (first | (go_at_call 62;(with_reducible refine (spec_l01In.calls (l1.length:Int) 1 40 true _ A4.out).mono ?_);rintro e w' ⟨rfl,⟨nd,rfl⟩⟩;(try first | exact ⟨rfl,_,World.drewN_drewN _ _ _⟩ | exact ⟨rfl,_,Eq.trans (World.drewN_drewN _ _ _) (congrArg (World.drewN _) (Nat.add_assoc _ _ _))⟩)) | (go_at_call 138;(with_reducible refine (spec_l03Elements.calls k a0 _ _ l1 p1 _ ?side1 B0.out A6.out).mono ?_);(case side1=>exact cA b0.out);rintro e w' ⟨rfl,⟨nd,rfl⟩⟩;(try first | exact ⟨rfl,_,World.drewN_drewN _ _ _⟩ | exact ⟨rfl,_,Eq.trans (World.drewN_drewN _ _ _) (congrArg (World.drewN _) (Nat.add_assoc _ _ _))⟩))))
  go_meet
  case rel=>exact ⟨_,(!p1),eqA,H',⟨xq12⟩,xq5⟩
 case rest =>
  clear B2;obtain ⟨kq,w3,rfl,HA,c0,⟨C0,rfl⟩⟩:=hcut
  cases kq with
  | zero=>exact absurd HA.out (by simp [spec_PointsOk.j0])
  | succ y0 =>
   have H:=HA.out;clear HA;simp only [spec_PointsOk.j0] at H
   by_cases c7:w3=true
   · subst c7;rw [if_pos rfl] at H;obtain rfl:=Option.some.inj H;go_wp2
     repeat (go_quiet (fail);try go_wp2)
     go_ret
     exact ⟨xq9,xq5⟩
   replace c7:=Bool.eq_false_iff.mpr c7;subst c7;rw [if_neg (show ¬ (false=true) by decide)] at H;have H':=ak H;clear H;go_wp2
   repeat (go_quiet (fail);try go_wp2)
   go_loopg [5] y0 (fun kq v5 w'=>∃ (w4:Int),v5=.int .i64 w4∧Aside0 (spec_PointsOk.l0 kq l1 w4=some r)∧Aside0 (kq≤y0)∧Drawn0 w w')
   case atStart=>exact ⟨(0),eqA,H',⟨Nat.le_refl _⟩,xq5⟩
   case round =>
    clear H';obtain ⟨w4,rfl,HA,W0,⟨m2,rfl⟩⟩:=hrel
    cases gk with
    | zero=>exact absurd HA.out (by simp [spec_PointsOk.l0])
    | succ k2 =>
     have H:=HA.out;clear HA;simp only [spec_PointsOk.l0] at H
     by_cases c8:w4 < (l1.length:Int);rotate_left
     · rw [if_neg c8] at H;have x0:=decide_eq_false c8;clear c8;obtain rfl:=Option.some.inj H;go_wp2
       repeat (go_quiet (fail);try go_wp2)
       go_ret
       exact ⟨xq9,xq5⟩
     rw [if_pos c8] at H;have x0:=decide_eq_true c8;clear c8
     obtain ⟨c9,H⟩:=iN H;have x1:=eq_true c9;have x2:decide (0≤w4)=true:=decide_eq_true c9;clear c9
     obtain ⟨c10,H⟩:=iN H;have x3:=eq_true c10;have x4:decide (w4≤(l1.length:Int))=true:=decide_eq_true c10;clear c10;obtain ⟨p2,g3,H⟩:=ob H;(try dsimp only at H)
     by_cases x5:p2=true
     · subst x5;rw [if_pos rfl] at H;obtain rfl:=Option.some.inj H;obtain ⟨P0,q0,_,Q0,_⟩:=info_parts info3;obtain ⟨r0,R0,sd⟩:=print_take_of (P:=Try.prog) (Value.int .i64) 0 33 3 .i64 Try.underlying33 q0 Q0 A1 c1 l1 w4 (odA) (odA) B0.out;have b1:=ak (Kd.C_of_reads (h1:=fun _=>rfl) (R0 _ (Kd.reads_of_C b0.out)));have B6:=ak sd;clear R0 sd q0 Q0;have V0:0≤(w4:Int):=odA;have a5:w4 < (l1.length:Int):=odA;obtain ⟨A0,o0,O0⟩:=Kd.at_int b0.out w4 V0 a5
       cases o0
       replace V0:=eq_true V0;replace a5:=eq_true a5;have hlT_:=ak (show (w4:Int).toNat=(l1.take (w4:Int).toNat).length by have h1:=of_decide_eq_true x4;rw [List.length_take];omega);go_wp2_with (first | (go_at_call 112;(with_reducible refine (spec_l01Has.calls k2 _ _ (l1.take (w4:Int).toNat) (rd l1 w4) true _ ?side1 B6.out g3.out).mono ?_);(case side1=>exact cA b1.out);rintro e w' ⟨rfl,⟨nd,rfl⟩⟩;(try first | exact ⟨rfl,_,World.drewN_drewN _ _ _⟩ | exact ⟨rfl,_,Eq.trans (World.drewN_drewN _ _ _) (congrArg (World.drewN _) (Nat.add_assoc _ _ _))⟩)))
       go_region_with (first | (go_at_call 112;rw [hlT_.out];(with_reducible refine (spec_l01Has.calls k2 _ _ (l1.take (w4:Int).toNat) (rd l1 w4) true _ ?side1 B6.out g3.out).mono ?_);(case side1=>exact cA b1.out);rintro e w' ⟨rfl,⟨nd,rfl⟩⟩;(try first | exact ⟨rfl,_,World.drewN_drewN _ _ _⟩ | exact ⟨rfl,_,Eq.trans (World.drewN_drewN _ _ _) (congrArg (World.drewN _) (Nat.add_assoc _ _ _))⟩)))
       go_wp2
       go_ret
       exact ⟨xq9,xq5⟩
     replace x5:=Bool.eq_false_iff.mpr x5;subst x5;rw [if_neg (show ¬ (false=true) by decide)] at H;have H':=ak H;clear H;obtain ⟨P1,q1,_,Q1,_⟩:=info_parts info3;obtain ⟨r1,R1,se⟩:=print_take_of (P:=Try.prog) (Value.int .i64) 0 33 3 .i64 Try.underlying33 q1 Q1 A1 c1 l1 w4 (odA) (odA) B0.out;have b1:=ak (Kd.C_of_reads (h1:=fun _=>rfl) (R1 _ (Kd.reads_of_C b0.out)));have B6:=ak se;clear R1 se q1 Q1;have V0:0≤(w4:Int):=odA;have a5:w4 < (l1.length:Int):=odA;obtain ⟨A0,o0,O0⟩:=Kd.at_int b0.out w4 V0 a5
     cases o0
     replace V0:=eq_true V0;replace a5:=eq_true a5;have hlT_:=ak (show (w4:Int).toNat=(l1.take (w4:Int).toNat).length by have h1:=of_decide_eq_true x4;rw [List.length_take];omega);go_wp2_with (first | (go_at_call 112;(with_reducible refine (spec_l01Has.calls k2 _ _ (l1.take (w4:Int).toNat) (rd l1 w4) false _ ?side1 B6.out g3.out).mono ?_);(case side1=>exact cA b1.out);rintro e w' ⟨rfl,⟨nd,rfl⟩⟩;(try first | exact ⟨rfl,_,World.drewN_drewN _ _ _⟩ | exact ⟨rfl,_,Eq.trans (World.drewN_drewN _ _ _) (congrArg (World.drewN _) (Nat.add_assoc _ _ _))⟩)))
     go_region_with (first | (go_at_call 112;rw [hlT_.out];(with_reducible refine (spec_l01Has.calls k2 _ _ (l1.take (w4:Int).toNat) (rd l1 w4) false _ ?side1 B6.out g3.out).mono ?_);(case side1=>exact cA b1.out);rintro e w' ⟨rfl,⟨nd,rfl⟩⟩;(try first | exact ⟨rfl,_,World.drewN_drewN _ _ _⟩ | exact ⟨rfl,_,Eq.trans (World.drewN_drewN _ _ _) (congrArg (World.drewN _) (Nat.add_assoc _ _ _))⟩)))
     go_wp2
     go_roundg k2
     case measure=>have:=c0.out;have:=W0.out;omega
     case rel=>exact ⟨(wrap64 (w4+1)),eqA,H',⟨xq36⟩,xq5⟩

def spec_l07Code.f (k:Nat) (a0:Int) (l1:List Int) (a2:Int):Option (Bool):=if (l1.length:Int)≤10 then ((spec_PointsOk.f k a0 l1).bind fun t399=>(if t399=true then ((spec_l01In.f a2 1 (l1.length:Int)).bind fun t400=>(some t400)) else (some false))) else (some false)
theorem spec_l07Code.calls (k:Nat) (a0:Int) (A1:Option Addr) (c1:Nat) (l1:List Int) (a2:Int) (r:Bool) (w:World) (hr1:Kd.C (Kd.int .i64) w A1 l1.length l1) (hc1:l1.length≤c1) (h:spec_l07Code.f k a0 l1 a2=some r) :
 Calls Try.prog 137 #[.int .i64 a0,.slice A1 l1.length c1,.int .i64 a2] w fun e w'=>e=.returned (.bool r)∧Drawn0 w w':=by
 have b0:=ak hr1;have B0:=ak hc1;clear hr1 hc1;have H:=h;clear h;unfold spec_l07Code.f at H
 by_cases c4:(l1.length:Int)≤10;rotate_left
 · rw [if_neg c4] at H;have x0:=decide_eq_false c4;have x1:decide (l1.length≤10)=false:=decide_eq_false (by omega);clear c4;obtain rfl:=Option.some.inj H;go_enter Try.func137,Try.ntmps137
   go_wp2
   go_ret
   exact ⟨xq9,xq5⟩
 rw [if_pos c4] at H;have x0:=decide_eq_true c4;have x1:decide (l1.length≤10)=true:=decide_eq_true (by omega);clear c4;obtain ⟨p0,A5,H⟩:=ob H;(try dsimp only at H)
 by_cases c6:p0=true;rotate_left
 · replace c6:=Bool.eq_false_iff.mpr c6;subst c6;rw [if_neg (show ¬ (false=true) by decide)] at H;obtain rfl:=Option.some.inj H;go_enter Try.func137,Try.ntmps137
   go_wp2_with (first | (go_at_call 140;(with_reducible refine (spec_PointsOk.calls k a0 _ _ l1 false _ ?side1 B0.out A5.out).mono ?_);(case side1=>exact cA b0.out);rintro e w' ⟨rfl,⟨nd,rfl⟩⟩))
   go_ret
   exact ⟨xq9,xq5⟩
 subst c6;rw [if_pos rfl] at H;obtain ⟨p1,A7,H⟩:=ob H;(try dsimp only at H);obtain rfl:=Option.some.inj H;go_enter Try.func137,Try.ntmps137
 go_wp2_with (first | (go_at_call 140;(with_reducible refine (spec_PointsOk.calls k a0 _ _ l1 true _ ?side1 B0.out A5.out).mono ?_);(case side1=>exact cA b0.out);rintro e w' ⟨rfl,⟨nd,rfl⟩⟩) | (go_at_call 62;(with_reducible refine (spec_l01In.calls a2 1 (l1.length:Int) p1 _ A7.out).mono ?_);rintro e w' ⟨rfl,⟨nd,rfl⟩⟩))
 go_ret
 exact ⟨xq9,xq5⟩

def spec_PolyOk.f (k:Nat) (a0:Int) (l1:List Int):Option (Bool):=if (l1.length:Int) > 400 then (some false) else ((spec_l03Elements.f k a0 l1).bind fun t401=>(if t401=true then (if (l1.length:Int)=0 then (some true) else (if 0≤(wrap64 ((l1.length:Int) - 1)) then (if (wrap64 ((l1.length:Int) - 1)) < (l1.length:Int) then (some ((rd l1 (wrap64 ((l1.length:Int) - 1))) != 0)) else (none)) else (none))) else (some false)))
theorem spec_PolyOk.calls (k:Nat) (a0:Int) (A1:Option Addr) (c1:Nat) (l1:List Int) (r:Bool) (w:World) (hr1:Kd.C (Kd.int .i64) w A1 l1.length l1) (hc1:l1.length≤c1) (h:spec_PolyOk.f k a0 l1=some r) :
 Calls Try.prog 141 #[.int .i64 a0,.slice A1 l1.length c1] w fun e w'=>e=.returned (.bool r)∧Drawn0 w w':=by
 have b0:=ak hr1;have B0:=ak hc1;clear hr1 hc1;have H:=h;clear h;unfold spec_PolyOk.f at H
 by_cases c3:(l1.length:Int) > 400
 · rw [if_pos c3] at H;have x0:decide (400 < (l1.length:Int))=true:=decide_eq_true c3;have x1:decide (400 < l1.length)=true:=decide_eq_true (by omega);clear c3;obtain rfl:=Option.some.inj H;go_enter Try.func141,Try.ntmps141
   go_wp2
   go_ret
   exact ⟨xq9,xq5⟩
 rw [if_neg c3] at H;have x0:decide (400 < (l1.length:Int))=false:=decide_eq_false c3;have x1:decide (400 < l1.length)=false:=decide_eq_false (by omega);clear c3;obtain ⟨p0,A4,H⟩:=ob H;(try dsimp only at H)
 by_cases c5:p0=true;rotate_left
 · replace c5:=Bool.eq_false_iff.mpr c5;subst c5;rw [if_neg (show ¬ (false=true) by decide)] at H;obtain rfl:=Option.some.inj H;go_enter Try.func141,Try.ntmps141
   go_wp2_with (first | (go_at_call 138;(with_reducible refine (spec_l03Elements.calls k a0 _ _ l1 false _ ?side1 B0.out A4.out).mono ?_);(case side1=>exact cA b0.out);rintro e w' ⟨rfl,⟨nd,rfl⟩⟩))
   go_ret
   exact ⟨xq9,xq5⟩
 subst c5;rw [if_pos rfl] at H
 by_cases c6:(l1.length:Int)=0
 · rw [if_pos c6] at H;have x2:((l1.length:Int) == 0)=true:=beq_iff_eq.mpr c6;have x3:((l1.length:Int) != 0)=false:=bne_eq_false_iff_eq.mpr c6;clear c6;obtain rfl:=Option.some.inj H;go_enter Try.func141,Try.ntmps141
   go_wp2_with (first | (go_at_call 138;(with_reducible refine (spec_l03Elements.calls k a0 _ _ l1 true _ ?side1 B0.out A4.out).mono ?_);(case side1=>exact cA b0.out);rintro e w' ⟨rfl,⟨nd,rfl⟩⟩))
   go_ret
   exact ⟨xq9,xq5⟩
 rw [if_neg c6] at H;have x2:((l1.length:Int) == 0)=false:=beq_eq_false_iff_ne.mpr c6;have x3:((l1.length:Int) != 0)=true:=bne_iff_ne.mpr c6;have x4:¬ (l1=[]):=fun h_=>c6 (by rw [h_];rfl)
 obtain ⟨Y0,v0⟩:∃ j_:Int,(wrap64 ((l1.length:Int) - 1))=j_:=⟨_,rfl⟩;replace H:(if 0≤(Y0) then (if (Y0) < (l1.length:Int) then (some ((rd l1 (Y0)) != 0)) else (none)) else (none))=some r:=xq35
 (try rw [v0] at A4)
 have hji7w:(IntKind.i64.wrap ((l1.length:Int) - 1))=Y0:=(i64_w _).trans v0
 obtain ⟨c8,H⟩:=iN H;have x5:=decide_eq_true c8;clear c8
 obtain ⟨c9,H⟩:=iN H;have x6:=decide_eq_true c9;clear c9;obtain rfl:=Option.some.inj H;go_enter Try.func141,Try.ntmps141
 go_wp2_with (first | (go_at_call 138;(with_reducible refine (spec_l03Elements.calls k a0 _ _ l1 true _ ?side1 B0.out A4.out).mono ?_);(case side1=>exact cA b0.out);rintro e w' ⟨rfl,⟨nd,rfl⟩⟩;have V0:0≤((Y0):Int):=odA;have a5:(Y0) < (l1.length:Int):=odA;obtain ⟨A0,o0,O0⟩:=Kd.at_int b0.out (Y0) V0 a5;cases o0;replace V0:=eq_true V0;replace a5:=eq_true a5))
 go_ret
 exact ⟨xq90,xq5⟩

def spec_Reduce.f (a0:Int) (a1:Int):Option (Int):=(spec_Modulus.f a0).bind fun t403=>(if t403=0 then (some (-1)) else (if (Int.tmod a1 t403) < 0 then (some (wrap64 ((Int.tmod a1 t403)+t403))) else (some (Int.tmod a1 t403))))
theorem spec_Reduce.calls (a0:Int) (a1:Int) (r:Int) (w:World) (h:spec_Reduce.f a0 a1=some r) :
 Calls Try.prog 145 #[.int .i64 a0,.int .i64 a1] w fun e w'=>e=.returned (.int .i64 r)∧Drawn0 w w':=by
 have H:=h;clear h;unfold spec_Reduce.f at H;obtain ⟨p0,A3,H⟩:=ob H;(try dsimp only at H)
 by_cases c4:p0=0
 · rw [if_pos c4] at H;have x0:(p0 == 0)=true:=beq_iff_eq.mpr c4;have x1:(p0 != 0)=false:=bne_eq_false_iff_eq.mpr c4;clear c4;obtain rfl:=Option.some.inj H;go_enter Try.func145,Try.ntmps145
   go_wp2_with (first | ((with_reducible refine gate_callee (f:=82) rfl ?_);refine goB 8 Try.func82 #[.int .i64 a0] rfl ?_;(with_reducible refine (spec_Modulus.calls a0 p0 _ A3.out).mono ?_);rintro e w' ⟨rfl,⟨nd,rfl⟩⟩;refine ⟨_,rfl,?_⟩))
   go_ret
   exact ⟨xq9,xq5⟩
 rw [if_neg c4] at H;have x0:(p0 == 0)=false:=beq_eq_false_iff_ne.mpr c4;have x1:(p0 != 0)=true:=bne_iff_ne.mpr c4
 by_cases c5:(Int.tmod a1 p0) < 0
 · rw [if_pos c5] at H;have x2:=decide_eq_true c5;clear c5;obtain rfl:=Option.some.inj H;go_enter Try.func145,Try.ntmps145
   go_wp2_with (first | ((with_reducible refine gate_callee (f:=82) rfl ?_);refine goB 8 Try.func82 #[.int .i64 a0] rfl ?_;(with_reducible refine (spec_Modulus.calls a0 p0 _ A3.out).mono ?_);rintro e w' ⟨rfl,⟨nd,rfl⟩⟩;refine ⟨_,rfl,?_⟩))
   go_ret
   exact ⟨xq9,xq5⟩
 rw [if_neg c5] at H;have x2:=decide_eq_false c5;clear c5;obtain rfl:=Option.some.inj H;go_enter Try.func145,Try.ntmps145
 go_wp2_with (first | ((with_reducible refine gate_callee (f:=82) rfl ?_);refine goB 8 Try.func82 #[.int .i64 a0] rfl ?_;(with_reducible refine (spec_Modulus.calls a0 p0 _ A3.out).mono ?_);rintro e w' ⟨rfl,⟨nd,rfl⟩⟩;refine ⟨_,rfl,?_⟩))
 go_ret
 exact ⟨xq9,xq5⟩

end Go.Proofs.Ytogdhclomgafdaa.PFnWireJobs
