-- Written by a program of this session (the print of the kit with contracts of this session's own added)
import Derived.Test.YtogdhclomgafdaaZFWJx11
set_option maxHeartbeats 8000000
set_option maxRecDepth 100000
namespace Go.Proofs.Ytogdhclomgafdaa.PFnWireJobs
open Go.RowKit Go.Proofs.YtogdhclomgafdaaW.PrintWords Go.Proofs.YtogdhclomgafdaaW.PrintLast Go.Proofs.YtogdhclomgafdaaW.PrintMore Go.Proofs.YtogdhclomgafdaaW.PrintPack Go.Proofs.YtogdhclomgafdaaW.PrintPack
set_option linter.unusedVariables false
set_option linter.unusedSimpArgs false

def spec_l03Cut.l0:Nat → List Int → Int → Option (List Int)
 | 0,_,_=>none
 | k+1,x0,x3=>if x3 > 0 then (if 0≤(wrap64 (x3 - 1)) then (if (wrap64 (x3 - 1)) < (x0.length:Int) then (if (rd x0 (wrap64 (x3 - 1)))=0 then (spec_l03Cut.l0 k x0 (wrap64 (x3 - 1))) else (if 0≤x3 then (if x3≤(x0.length:Int) then ((spec_l01Copy.f k (x0.take (x3:Int).toNat)).bind fun t300=>(some t300)) else (none)) else (none))) else (none)) else (none)) else (if 0≤x3 then (if x3≤(x0.length:Int) then ((spec_l01Copy.f k (x0.take (x3:Int).toNat)).bind fun t304=>(some t304)) else (none)) else (none))
def spec_l03Cut.f (k:Nat) (l0:List Int):Option (List Int):=spec_l03Cut.l0 k l0 (l0.length:Int)
theorem spec_l03Cut.calls (k:Nat) (A0:Option Addr) (c0:Nat) (l0:List Int) (r:List Int) (w:World) (hr0:Kd.C (Kd.int .i64) w A0 l0.length l0) (hc0:l0.length≤c0) (h:spec_l03Cut.f k l0=some r) :
 Calls Try.prog 128 #[.slice A0 l0.length c0] w fun e w'=>∃ v0_:Value,e=.returned (v0_)∧Kd.R (Kd.int .i64) 3 w' w.heap.size (fun _=>True) v0_ r∧Below w.heap.size w w':=by
 have b0:=ak hr0;have B0:=ak hc0;clear hr0 hc0;have HB:=ak (Below.refl w.heap.size w);have H:(spec_l03Cut.l0 k l0 (l0.length:Int))=some r:=h;clear h;have H':=ak H;clear H;go_enter Try.func128,Try.ntmps128
 go_wp2
 go_loopg [3] k (fun kq v3 w'=>∃ (w3:Int),v3=.int .i64 w3∧Aside0 (spec_l03Cut.l0 kq l0 w3=some r)∧Aside0 (kq≤k)∧Aside0 (Below w.heap.size w w'))
 case atStart=>exact ⟨((l0.length:Int)),eqA,H',⟨Nat.le_refl _⟩,⟨belA⟩⟩
 case round =>
  clear H';obtain ⟨w3,rfl,HA,W0,HB⟩:=hrel
  cases gk with
  | zero=>exact absurd HA.out (by simp [spec_l03Cut.l0])
  | succ k1 =>
   have H:=HA.out;clear HA;simp only [spec_l03Cut.l0] at H
   by_cases c2:w3 > 0;rotate_left
   · rw [if_neg c2] at H;have x0:decide (0 < w3)=false:=decide_eq_false c2;clear c2
     obtain ⟨x1,H⟩:=iN H;have x2:=eq_true x1;have x3:decide (0≤w3)=true:=decide_eq_true x1;clear x1
     obtain ⟨x4,H⟩:=iN H;have x5:=eq_true x4;have x6:decide (w3≤(l0.length:Int))=true:=decide_eq_true x4;clear x4;obtain ⟨p0,g3,H⟩:=ob H;(try dsimp only at H);obtain rfl:=Option.some.inj H;obtain ⟨P0,q0,_,Q0,_⟩:=info_parts info3;obtain ⟨r0,R0,sd⟩:=print_take_of (P:=Try.prog) (Value.int .i64) 0 33 3 .i64 Try.underlying33 q0 Q0 A0 c0 l0 w3 (odA) (odA) B0.out;have b1:=ak (Kd.C_of_reads (h1:=fun _=>rfl) (R0 _ (Kd.reads_of_C b0.out)));have B2:=ak sd;clear R0 sd q0 Q0;go_wp2_with (first | ((with_reducible refine gate_callee (f:=133) rfl ?_);refine goesL_ (some 21) rfl rfl Try.func133 (by kernel_rfl) rfl #[.slice A0 (l0.take (w3:Int).toNat).length c0] rfl xq88 ?_;(with_reducible refine (spec_l01Copy.calls k1 _ _ (l0.take (w3:Int).toNat) p0 _ ?side1 B2.out g3.out).mono ?_);(case side1=>exact cA (Kd.C_below b1.out HB.out));rintro e S0 ⟨N0,rfl,u5,hb⟩;refine ⟨_,rfl,?_⟩;have U0:=rL u5;replace HB:=bS hb;(try clear hb u5)))
     go_ret
     exact ⟨_,xq4,by (with_reducible repeat (first | apply Kd.R_alloc | apply Kd.R_drewN | apply Kd.R_drew));exact U0.out,belA⟩
   rw [if_pos c2] at H;have x0:decide (0 < w3)=true:=decide_eq_true c2;clear c2;obtain ⟨Y0,v0⟩:∃ j_:Int,(wrap64 (w3 - 1))=j_:=⟨_,rfl⟩;replace H:(if 0≤(Y0) then (if (Y0) < (l0.length:Int) then (if (rd l0 (Y0))=0 then (spec_l03Cut.l0 k1 l0 Y0) else (if 0≤w3 then (if w3≤(l0.length:Int) then ((spec_l01Copy.f k1 (l0.take (w3:Int).toNat)).bind fun p1=>(some p1)) else (none)) else (none))) else (none)) else (none))=some r:=xq35
   have hji3w:(IntKind.i64.wrap (w3 - 1))=Y0:=(i64_w _).trans v0
   obtain ⟨c4,H⟩:=iN H;have x7:=decide_eq_true c4;clear c4
   obtain ⟨c5,H⟩:=iN H;have x8:=decide_eq_true c5;clear c5
   by_cases c6:(rd l0 (Y0))=0
   · rw [if_pos c6] at H;have x9:((rd l0 (Y0)) == 0)=true:=beq_iff_eq.mpr c6;have xa:((rd l0 (Y0)) != 0)=false:=bne_eq_false_iff_eq.mpr c6;clear c6;have H':=ak H;clear H;have V0:0≤((Y0):Int):=odA;have a5:(Y0) < (l0.length:Int):=odA;obtain ⟨A1,o0,O0⟩:=Kd.at_int b0.out (Y0) V0 a5
     cases o0
     try replace O0:=cB HB O0
     replace V0:=eq_true V0;replace a5:=eq_true a5;go_wp2
     go_roundg k1
     case measure=>have:=W0.out;omega
     case rel=>exact ⟨(Y0),xq90,H',⟨xq14⟩,⟨belA⟩⟩
   rw [if_neg c6] at H;have x9:((rd l0 (Y0)) == 0)=false:=beq_eq_false_iff_ne.mpr c6;have xa:((rd l0 (Y0)) != 0)=true:=bne_iff_ne.mpr c6
   obtain ⟨c7,H⟩:=iN H;have xb:=eq_true c7;have xc:decide (0≤w3)=true:=decide_eq_true c7;clear c7
   obtain ⟨c8,H⟩:=iN H;have xd:=eq_true c8;have xe:decide (w3≤(l0.length:Int))=true:=decide_eq_true c8;clear c8;obtain ⟨p1,A9,H⟩:=ob H;(try dsimp only at H);obtain rfl:=Option.some.inj H;have V0:0≤((Y0):Int):=odA;have a5:(Y0) < (l0.length:Int):=odA;obtain ⟨A1,o0,O0⟩:=Kd.at_int b0.out (Y0) V0 a5
   cases o0
   try replace O0:=cB HB O0
   replace V0:=eq_true V0;replace a5:=eq_true a5;obtain ⟨P1,q1,_,Q1,_⟩:=info_parts info3;obtain ⟨r1,R1,se⟩:=print_take_of (P:=Try.prog) (Value.int .i64) 0 33 3 .i64 Try.underlying33 q1 Q1 (some A1) c0 l0 w3 (odA) (odA) B0.out;have b2:=ak (Kd.C_of_reads (h1:=fun _=>rfl) (R1 _ (Kd.reads_of_C b0.out)));have B6:=ak se;clear R1 se q1 Q1;go_wp2_with (first | ((with_reducible refine gate_callee (f:=133) rfl ?_);refine goesL_ (some 21) rfl rfl Try.func133 (by kernel_rfl) rfl #[.slice (some A1) (l0.take (w3:Int).toNat).length c0] rfl xq88 ?_;(with_reducible refine (spec_l01Copy.calls k1 _ _ (l0.take (w3:Int).toNat) p1 _ ?side1 B6.out A9.out).mono ?_);(case side1=>exact cA (Kd.C_below b2.out HB.out));rintro e S1 ⟨N1,rfl,u5,hb⟩;refine ⟨_,rfl,?_⟩;have U1:=rL u5;replace HB:=bS hb;(try clear hb u5)))
   go_ret
   exact ⟨_,xq91,xq23,belA⟩

mutual
def spec_l05DrawTerms.l0:Nat → Int → List Int → Int → List Int → Int → Int → Option (List Int × Int × Int)
 | 0,_,_,_,_,_,_=>none
 | k+1,x1,x5,x6,x1000,x1001,x1002=>if x6 < x1 then ((spec_l01Below.f x1000 x1001 x1002 1000001).bind fun bt310=>((spec_l01Below.f x1000 bt310.2.1 bt310.2.2 1000001).bind fun bt313=>((spec_l01Below.f x1000 bt313.2.1 bt313.2.2 9).bind fun bt316=>((spec_l01PickInt.f x1000 bt316.2.1 bt316.2.2 (([1000000,(-1000000),bt310.1,wrap64 (-bt313.1),wrap64 (bt316.1 - 4),0]:List Int))).bind fun bt322=>(if x5.length < 17592186044416 then (spec_l05DrawTerms.l0 k x1 (x5 ++ [bt322.1]) (wrap64 (x6+1)) x1000 bt322.2.1 bt322.2.2) else (none)))))) else ((spec_l01Once.f x1000 x1001 x1002 15).bind fun bt328=>(if bt328.1=true then (spec_l05DrawTerms.j1 k x1 x5 (decide (x1 > 0)) x1000 bt328.2.1 bt328.2.2) else (spec_l05DrawTerms.j1 k x1 x5 false x1000 bt328.2.1 bt328.2.2)))
def spec_l05DrawTerms.j1:Nat → Int → List Int → Bool → List Int → Int → Int → Option (List Int × Int × Int)
 | 0,_,_,_,_,_,_=>none
 | k+1,x1,x5,x32,x1000,x1001,x1002=>if x32=true then ((spec_l01Below.f x1000 x1001 x1002 x1).bind fun bt331=>((spec_l01PickInt.f x1000 bt331.2.1 bt331.2.2 (([1000001,(-1000001)]:List Int))).bind fun bt337=>(if 0≤bt331.1 then (if bt331.1 < (x5.length:Int) then (some ((x5.set (bt331.1:Int).toNat bt337.1),bt337.2.1,bt337.2.2)) else (none)) else (none)))) else (some (x5,x1001,x1002))
end
def spec_l05DrawTerms.f (k:Nat) (s0_0:List Int) (s0_1:Int) (s0_2:Int) (a1:Int):Option (List Int × Int × Int):=spec_l05DrawTerms.l0 k a1 (([]:List Int)) 0 s0_0 s0_1 s0_2
theorem spec_l05DrawTerms.calls (k:Nat) (g:Nat) (s0_0:List Int) (s0_1:Int) (s0_2:Int) (a1:Int) (r1:List Int) (r2:Int) (r3:Int) (w0 w:World) (hI:IsS121 w0 w g s0_0 s0_1 s0_2) (hB:Below w0.heap.size w0 w) (h:spec_l05DrawTerms.f k s0_0 s0_1 s0_2 a1=some (r1,r2,r3)) :
 Calls Try.prog 129 #[.pointer (some ⟨g,0,none⟩),.int .i64 a1] w fun e w'=>∃ v0_:Value,e=.returned (v0_)∧Kd.R (Kd.int .i64) 3 w' w.heap.size (fun _=>True) v0_ r1∧IsS121 w0 w' g s0_0 r2 r3∧Below w0.heap.size w0 w'∧KeepBut w w' g none:=by
 have z0:=ak hI;have HK:=ak (KeepBut.refl w g none);have HL:=ak hB.size;clear hI;have Z0:=ak hB.size;have HB:=ak hB;clear hB;have H:=h;clear h;unfold spec_l05DrawTerms.f at H;obtain ⟨k0,hyq⟩:∃ y_:List Int,y_=(([]:List Int)):=⟨_,rfl⟩;replace H:(spec_l05DrawTerms.l0 k a1 k0 0 s0_0 s0_1 s0_2)=some (r1,r2,r3):=xq7
 have K0:=ak hyq;clear hyq;have H':=ak H;clear H;go_enter Try.func129,Try.ntmps129
 go_wp2_with (first | ((with_reducible refine gate_dst (N:=7) rfl ?_);refine Kd.R_lit (Kd.int .i64) _ 3 ?hg (N:=7) ?hd (xs:=([]:List Int)) (inner:=[]) (ok:=fun _=>True) (okp:=fun _=>True) ?hr ?hp (fun _ hk=>hk) trivial (Below.refl _ _) (Nat.le_refl _) (by simp) ?_;(case hd=>rfl);(case hg=>rfl);(case hr=>exact xq10);(case hp=>exact (Reps.none _ _));intro N0 w3 u6 hb hg_ hnew_;clear hg_ hnew_;(first | rw [← K0.out] at u6 | (simp only [Int.reduceToNat] at u6;rw [← K0.out] at u6));have U0:=ak (Kd.R_lower u6 (keep_size (w:=w) (g:=g) (row:=none) kpA));replace HK:=ak (KeepBut.trans kpA (KeepBut.of_below hb g none) (.inl rfl));replace HB:=ak (below_step xq2 hb);replace z0:=ak (IsS121.below xq1 hb);clear hb u6))
 go_loopg [5,6] k (fun kq v5 v6 w'=>∃ (w4:List Int) (w5:Int) (w6:Int) (w7:Int),v6=.int .i64 w5∧Aside0 (spec_l05DrawTerms.l0 kq a1 w4 w5 s0_0 w6 w7=some (r1,r2,r3))∧Aside0 (kq≤k)∧Aside0 (Kd.R (Kd.int .i64) 3 w' w.heap.size (fun _=>True) v5 w4)∧Aside0 (IsS121 w0 w' g s0_0 w6 w7)∧Aside0 (KeepBut w w' g none)∧Aside0 (Below w0.heap.size w0 w'))
 case atStart=>exact ⟨(k0),(0),(s0_1),(s0_2),eqA,H',⟨Nat.le_refl _⟩,⟨rA U0⟩,⟨xq1⟩,⟨kpA⟩,⟨xq2⟩⟩
 case round =>
  clear H';obtain ⟨w4,w5,w6,w7,rfl,HA,W0,U1,z0,HK,HB⟩:=hrel
  cases gk with
  | zero=>exact absurd HA.out (by simp [spec_l05DrawTerms.l0])
  | succ k1 =>
   have H:=HA.out;clear HA;simp only [spec_l05DrawTerms.l0] at H
   by_cases c5:w5 < a1
   · rw [if_pos c5] at H;have x0:=decide_eq_true c5;clear c5;obtain ⟨⟨p0,p1,p2⟩,A6,H⟩:=ob H;(try dsimp only at H);obtain ⟨⟨p3,p4,p5⟩,A7,H⟩:=ob H;(try dsimp only at H);obtain ⟨⟨p6,p7,p8⟩,A8,H⟩:=ob H;(try dsimp only at H);obtain ⟨k2,hyq⟩:∃ y_:List Int,y_=(([1000000,(-1000000),p0,wrap64 (-p3),wrap64 (p6 - 4),0]:List Int)):=⟨_,rfl⟩;replace H:((spec_l01PickInt.f s0_0 p7 p8 k2).bind fun e0=>(if w4.length < 17592186044416 then (spec_l05DrawTerms.l0 k1 a1 (w4 ++ [e0.1]) (wrap64 (w5+1)) s0_0 e0.2.1 e0.2.2) else (none)))=some (r1,r2,r3):=by first | (rw [hyq];with_reducible exact H) | (have H2_:=(Option.bind_some _ _).symm.trans H;rw [hyq];with_reducible exact H2_) | (have H2_:=(Option.bind_some _ _).symm.trans H;with_reducible exact H2_) | with_reducible exact H | (rw [hyq];exact H) | exact H
     have K1:=ak hyq;clear hyq;obtain ⟨⟨p9,pa,pb⟩,A9,H⟩:=ob H;(try dsimp only at H)
     obtain ⟨c10,H⟩:=iN H;have E0:=ak c10;clear c10;obtain ⟨k3,hyq⟩:∃ y_:List Int,y_=(w4 ++ [p9]):=⟨_,rfl⟩;replace H:(spec_l05DrawTerms.l0 k1 a1 k3 (wrap64 (w5+1)) s0_0 pa pb)=some (r1,r2,r3):=xq7
     have K2:=ak hyq;clear hyq;have H':=ak H;clear H;go_wp2_with (first | ((with_reducible refine gate_callee (f:=91) rfl ?_);refine goB 16 Try.func91 #[.pointer (some ⟨g,0,none⟩),.int .i64 1000001] rfl ?_;(with_reducible refine (spec_l01Below.calls g s0_0 w6 w7 1000001 p0 p1 p2 w0 _ ?side1 ?side2 A6.out).mono ?_);(case side1=>exact xq1);(case side2=>exact xq2);rintro e S0 ⟨rfl,hi,hb,hk⟩;refine ⟨_,rfl,?_⟩;replace U1:=kS (rF U1) (fun H=>IsS121.apart (show IsS121 w0 _ g s0_0 w6 w7 from xq1) H (by decide)) hk;replace HK:=ak (KeepBut.trans kpA hk (.inl rfl));replace HB:=ak hb;replace z0:=ak hi;(try clear hb hk hi)) | ((with_reducible refine gate_callee (f:=91) rfl ?_);refine goB 18 Try.func91 #[.pointer (some ⟨g,0,none⟩),.int .i64 1000001] rfl ?_;(with_reducible refine (spec_l01Below.calls g s0_0 p1 p2 1000001 p3 p4 p5 w0 _ ?side1 ?side2 A7.out).mono ?_);(case side1=>exact xq1);(case side2=>exact xq2);rintro e S1 ⟨rfl,hi,hb,hk⟩;refine ⟨_,rfl,?_⟩;replace U1:=kS (rF U1) (fun H=>IsS121.apart (show IsS121 w0 _ g s0_0 p1 p2 from xq1) H (by decide)) hk;replace HK:=ak (KeepBut.trans kpA hk (.inl rfl));replace HB:=ak hb;replace z0:=ak hi;(try clear hb hk hi)) | ((with_reducible refine gate_callee (f:=91) rfl ?_);refine goB 21 Try.func91 #[.pointer (some ⟨g,0,none⟩),.int .i64 9] rfl ?_;(with_reducible refine (spec_l01Below.calls g s0_0 p4 p5 9 p6 p7 p8 w0 _ ?side1 ?side2 A8.out).mono ?_);(case side1=>exact xq1);(case side2=>exact xq2);rintro e S2 ⟨rfl,hi,hb,hk⟩;refine ⟨_,rfl,?_⟩;replace U1:=kS (rF U1) (fun H=>IsS121.apart (show IsS121 w0 _ g s0_0 p4 p5 from xq1) H (by decide)) hk;replace HK:=ak (KeepBut.trans kpA hk (.inl rfl));replace HB:=ak hb;replace z0:=ak hi;(try clear hb hk hi)) | ((with_reducible refine gate_dst (N:=23) rfl ?_);refine Kd.R_lit (Kd.int .i64) _ 3 ?hg (N:=23) ?hd (xs:=([1000000,(-1000000),p0,wrap64 (-p3),wrap64 (p6 - 4),0]:List Int)) (inner:=[.int .i64 1000000,.int .i64 (-1000000),.int .i64 p0,.int .i64 (wrap64 (-p3)),.int .i64 (wrap64 (p6 - 4)),.int .i64 0]) (ok:=fun _=>True) (okp:=fun _=>True) ?hr ?hp (fun _ hk=>hk) trivial (Below.refl _ _) (Nat.le_refl _) (by simp) ?_;(case hd=>rfl);(case hg=>rfl);(case hr=>exact xq10);(case hp=>exact (Reps.one (show Kd.M (Kd.int .i64) _ _ _ 1000000 [.int .i64 1000000] from rfl) (Reps.one (show Kd.M (Kd.int .i64) _ _ _ (-1000000) [.int .i64 (-1000000)] from rfl) (Reps.one (show Kd.M (Kd.int .i64) _ _ _ p0 [.int .i64 p0] from rfl) (Reps.one (show Kd.M (Kd.int .i64) _ _ _ (wrap64 (-p3)) [.int .i64 (wrap64 (-p3))] from rfl) (Reps.one (show Kd.M (Kd.int .i64) _ _ _ (wrap64 (p6 - 4)) [.int .i64 (wrap64 (p6 - 4))] from rfl) (Reps.one (show Kd.M (Kd.int .i64) _ _ _ 0 [.int .i64 0] from rfl) (Reps.none _ _))))))));intro N1 S3 u7 hb hg_ hnew_;clear hg_ hnew_;(first | rw [← K1.out] at u7 | (simp only [Int.reduceToNat] at u7;rw [← K1.out] at u7));have U2:=ak (Kd.R_lower (Kd.R_new' u7 (Kd.R_lt (rF U1))) (keep_size (w:=w) (g:=g) (row:=none) kpA));replace U1:=ak (Kd.R_elder' (rF U1) (Kd.R_base u7) hb);replace HK:=ak (KeepBut.trans kpA (KeepBut.of_below hb g none) (.inl rfl));replace HB:=ak (below_step xq2 hb);replace z0:=ak (IsS121.below xq1 hb);clear hb u7;obtain ⟨d0,D0,rfl⟩:=Kd.R_slice U2.out) | ((with_reducible refine gate_callee (f:=60) rfl ?_);refine goB 24 Try.func60 #[.pointer (some ⟨g,0,none⟩),.slice d0 k2.length D0] rfl ?_;(with_reducible refine (spec_l01PickInt.calls g s0_0 p7 p8 _ _ k2 p9 pa pb w0 _ ?side1 ?side2 ?side3 ?side4 ?side5 A9.out).mono ?_);(case side1=>exact xq1);(case side2=>exact xq2);(case side3=>exact cA ((Kd.R_reads' U2.out).2.2));(case side4=>exact (Kd.R_reads' U2.out).2.1);(case side5=>exact far_slice (IsS121.own_ne z0.out U2.out (by decide)));rintro e S4 ⟨rfl,hi,hb,hk⟩;refine ⟨_,rfl,?_⟩;replace U1:=kS (rF U1) (fun H=>IsS121.apart (show IsS121 w0 _ g s0_0 p7 p8 from xq1) H (by decide)) hk;replace U2:=kS (rF U2) (fun H=>IsS121.apart (show IsS121 w0 _ g s0_0 p7 p8 from xq1) H (by decide)) hk;replace HK:=ak (KeepBut.trans kpA hk (.inl rfl));replace HB:=ak hb;replace z0:=ak hi;(try clear hb hk hi)) | ((with_reducible refine gate_builtin (b:=.append) (xs:=#[.tmp 13,.tmp 25]) rfl ?_);at_builtin;refine Kd.R_append (Kd.int .i64) w.heap.size rfl (.tmp 13) (.tmp 25) 33 3 (.int .i64 0) 8 rfl Try.underlying33 info3 rfl (by decide) (by omega) u5 w4 p9 [.int .i64 p9] (fun k_=>some k_≠(.slice d0 k2.length D0:Value).ownBlock) (fun _=>False) rfl rfl ?aP (fun _ hk=>hk.elim) ?aF ?aO (Below.refl _ _) ?aS ?aL ?_;(case aP=>exact rfl);(case aF=>exact (fun k_ hk=>Kd.fresh' (Kd.R_lt (rF U2)) k_ hk));(case aO=>exact (rE (Kd.R_mono U1.out (fun _ hk=>hk.2))));(case aS=>exact xq58);(case aL=>exact xq15);intro N2 S5 ho hb hg hat;rw [← K2.out] at ho;have U3:=ak ho;replace U2:=ak (Kd.R_after (ok:=(fun _=>True)) (rF U2) hg hat);replace HB:=ak (below_weaken xq2 HL.out hb);replace z0:=ak (IsS121.grown xq28 hg (IsS121.own_ne z0.out U1.out (by decide)));replace HK:=ak (KeepBut.trans kpA (KeepBut.of_grown hg g) (Kd.R_base2 U1.out));clear U1;clear ho hb hg hat))
     go_roundg k1
     case measure=>have:=W0.out;omega
     case rel=>exact ⟨(k3),(wrap64 (w5+1)),(pa),(pb),eqA,H',⟨xq14⟩,⟨rE (Kd.R_mono U3.out (fun _ hk=>trivial))⟩,⟨xq1⟩,⟨kpA⟩,⟨xq2⟩⟩
   rw [if_neg c5] at H;have x0:=decide_eq_false c5;clear c5;have B0:=ak H;clear H;go_upto_region 6 with (fail)
   go_cut [32] (fun N3 wc=>∃ (kq:Nat) (w8:Bool) (w9:Int) (wa:Int),N3=.bool w8∧Aside0 (spec_l05DrawTerms.j1 kq a1 w4 w8 s0_0 w9 wa=some (r1,r2,r3))∧Aside0 (kq≤k1)∧Aside0 (Kd.R (Kd.int .i64) 3 wc w.heap.size (fun _=>True) u5 w4)∧Aside0 (IsS121 w0 wc g s0_0 w9 wa)∧Aside0 (KeepBut w wc g none)∧Aside0 (Below w0.heap.size w0 wc))
   case first =>
    have H:=B0.out;clear B0;obtain ⟨⟨pc,pd,pe⟩,g3,H⟩:=ob H;(try dsimp only at H)
    by_cases x1:pc=true
    · subst x1;rw [if_pos rfl] at H;have H':=ak H;clear H;go_wp2_with (first | ((with_reducible refine gate_callee (f:=90) rfl ?_);refine goB 28 Try.func90 #[.pointer (some ⟨g,0,none⟩),.int .i64 15] rfl ?_;(with_reducible refine (spec_l01Once.calls g s0_0 w6 w7 15 true pd pe w0 _ ?side1 ?side2 g3.out).mono ?_);(case side1=>exact xq1);(case side2=>exact xq2);rintro e S6 ⟨rfl,hi,hb,hk⟩;refine ⟨_,rfl,?_⟩;replace U1:=kS (rF U1) (fun H=>IsS121.apart (show IsS121 w0 _ g s0_0 w6 w7 from xq1) H (by decide)) hk;replace HK:=ak (KeepBut.trans kpA hk (.inl rfl));replace HB:=ak hb;replace z0:=ak hi;(try clear hb hk hi)))
      go_meet
      case rel=>exact ⟨_,(decide (a1 > 0)),(pd),(pe),eqA,H',⟨xq25⟩,⟨rA U1⟩,⟨xq1⟩,⟨kpA⟩,⟨xq2⟩⟩
    replace x1:=Bool.eq_false_iff.mpr x1;subst x1;rw [if_neg (show ¬ (false=true) by decide)] at H;have H':=ak H;clear H;go_wp2_with (first | ((with_reducible refine gate_callee (f:=90) rfl ?_);refine goB 28 Try.func90 #[.pointer (some ⟨g,0,none⟩),.int .i64 15] rfl ?_;(with_reducible refine (spec_l01Once.calls g s0_0 w6 w7 15 false pd pe w0 _ ?side1 ?side2 g3.out).mono ?_);(case side1=>exact xq1);(case side2=>exact xq2);rintro e S7 ⟨rfl,hi,hb,hk⟩;refine ⟨_,rfl,?_⟩;replace U1:=kS (rF U1) (fun H=>IsS121.apart (show IsS121 w0 _ g s0_0 w6 w7 from xq1) H (by decide)) hk;replace HK:=ak (KeepBut.trans kpA hk (.inl rfl));replace HB:=ak hb;replace z0:=ak hi;(try clear hb hk hi)))
    go_meet
    case rel=>exact ⟨_,(false),(pd),(pe),eqA,H',⟨xq25⟩,⟨rA U1⟩,⟨xq1⟩,⟨kpA⟩,⟨xq2⟩⟩
   case rest =>
    clear B0;obtain ⟨kq,w8,w9,wa,rfl,HA,c0,U1,z0,HK,HB⟩:=hcut
    cases kq with
    | zero=>exact absurd HA.out (by simp [spec_l05DrawTerms.j1])
    | succ y0 =>
     have H:=HA.out;clear HA;simp only [spec_l05DrawTerms.j1] at H
     by_cases x2:w8=true;rotate_left
     · replace x2:=Bool.eq_false_iff.mpr x2;subst x2;rw [if_neg (show ¬ (false=true) by decide)] at H;simp only [Option.some.injEq,Prod.mk.injEq] at H;obtain ⟨rfl,rfl,rfl⟩:=H;go_wp2
       go_ret
       exact ⟨_,xq4,xq23,xq1,xq2,xq13⟩
     subst x2;rw [if_pos rfl] at H;obtain ⟨⟨pf,pg,ph⟩,g4,H⟩:=ob H;(try dsimp only at H);obtain ⟨k4,hyq⟩:∃ y_:List Int,y_=(([1000001,(-1000001)]:List Int)):=⟨_,rfl⟩;replace H:((spec_l01PickInt.f s0_0 pg ph k4).bind fun e1=>(if 0≤pf then (if pf < (w4.length:Int) then (some ((w4.set (pf:Int).toNat e1.1),e1.2.1,e1.2.2)) else (none)) else (none)))=some (r1,r2,r3):=xq7
     have K3:=ak hyq;clear hyq;obtain ⟨⟨pi,pj,pk⟩,g5,H⟩:=ob H;(try dsimp only at H)
     obtain ⟨x3,H⟩:=iN H;have x4:=decide_eq_true x3;clear x3
     obtain ⟨x5,H⟩:=iN H;have x6:=decide_eq_true x5;clear x5;obtain ⟨k5,hyq⟩:∃ y_:List Int,y_=(w4.set (pf:Int).toNat pi):=⟨_,rfl⟩;replace H:(some (k5,pj,pk))=some (r1,r2,r3):=xq7
     have K4:=ak hyq;clear hyq;simp only [Option.some.injEq,Prod.mk.injEq] at H;obtain ⟨rfl,rfl,rfl⟩:=H;go_wp2_with (first | ((with_reducible refine gate_callee (f:=91) rfl ?_);refine goB 36 Try.func91 #[.pointer (some ⟨g,0,none⟩),.int .i64 a1] rfl ?_;(with_reducible refine (spec_l01Below.calls g s0_0 w9 wa a1 pf pg ph w0 _ ?side1 ?side2 g4.out).mono ?_);(case side1=>exact xq1);(case side2=>exact xq2);rintro e S8 ⟨rfl,hi,hb,hk⟩;refine ⟨_,rfl,?_⟩;replace U1:=kS (rF U1) (fun H=>IsS121.apart (show IsS121 w0 _ g s0_0 w9 wa from xq1) H (by decide)) hk;replace HK:=ak (KeepBut.trans kpA hk (.inl rfl));replace HB:=ak hb;replace z0:=ak hi;(try clear hb hk hi)) | ((with_reducible refine gate_dst (N:=38) rfl ?_);refine Kd.R_lit (Kd.int .i64) _ 3 ?hg (N:=38) ?hd (xs:=([1000001,(-1000001)]:List Int)) (inner:=[.int .i64 1000001,.int .i64 (-1000001)]) (ok:=fun _=>True) (okp:=fun _=>True) ?hr ?hp (fun _ hk=>hk) trivial (Below.refl _ _) (Nat.le_refl _) (by simp) ?_;(case hd=>rfl);(case hg=>rfl);(case hr=>exact xq10);(case hp=>exact (Reps.one (show Kd.M (Kd.int .i64) _ _ _ 1000001 [.int .i64 1000001] from rfl) (Reps.one (show Kd.M (Kd.int .i64) _ _ _ (-1000001) [.int .i64 (-1000001)] from rfl) (Reps.none _ _))));intro N4 S9 u8 hb hg_ hnew_;clear hg_ hnew_;(first | rw [← K3.out] at u8 | (simp only [Int.reduceToNat] at u8;rw [← K3.out] at u8));have U4:=ak (Kd.R_lower (Kd.R_new' u8 (Kd.R_lt (rF U1))) (keep_size (w:=w) (g:=g) (row:=none) kpA));replace U1:=ak (Kd.R_elder' (rF U1) (Kd.R_base u8) hb);replace HK:=ak (KeepBut.trans kpA (KeepBut.of_below hb g none) (.inl rfl));replace HB:=ak (below_step xq2 hb);replace z0:=ak (IsS121.below xq1 hb);clear hb u8;obtain ⟨d1,D1,rfl⟩:=Kd.R_slice U4.out) | ((with_reducible refine gate_callee (f:=60) rfl ?_);refine goB 39 Try.func60 #[.pointer (some ⟨g,0,none⟩),.slice d1 k4.length D1] rfl ?_;(with_reducible refine (spec_l01PickInt.calls g s0_0 pg ph _ _ k4 pi pj pk w0 _ ?side1 ?side2 ?side3 ?side4 ?side5 g5.out).mono ?_);(case side1=>exact xq1);(case side2=>exact xq2);(case side3=>exact cA ((Kd.R_reads' U4.out).2.2));(case side4=>exact (Kd.R_reads' U4.out).2.1);(case side5=>exact xq69);rintro e Sa ⟨rfl,hi,hb,hk⟩;refine ⟨_,rfl,?_⟩;replace U1:=kS (rF U1) (fun H=>IsS121.apart (show IsS121 w0 _ g s0_0 pg ph from xq1) H (by decide)) hk;replace U4:=kS (rF U4) (fun H=>IsS121.apart (show IsS121 w0 _ g s0_0 pg ph from xq1) H (by decide)) hk;replace HK:=ak (KeepBut.trans kpA hk (.inl rfl));replace HB:=ak hb;replace z0:=ak hi;(try clear hb hk hi);have V0:0≤(pf:Int):=odA;have a5:(pf:Int) < ((w4.length:Int):Int):=odA;obtain ⟨f0,D2,F0,l2,L0,m0,M0⟩:=Kd.R_form U1.out (by omega);(first | cases F0 | (injection F0 with ea_ en_ ec_;(first | subst ea_ | (injection ea_ with ea_;subst ea_));subst ec_;clear en_));have i0:=ak l2;have I0:=ak M0;clear l2 L0 M0;obtain ⟨O0,j4⟩:=Kd.R_celln 0 U1.out (pf:Int) V0 a5;replace V0:=eq_true V0;replace a5:=eq_true a5;have n_:=ak (Kd.R_mono (ok':=(fun k_=>some k_≠(.slice d1 k4.length D1:Value).ownBlock)) U1.out (fun k_ hk=>hk.2));clear U1;have U1:=n_;clear n_;obtain ⟨J0,G0⟩:=Kd.R_celln 0 U1.out (pf:Int) (odA) (odA);have t0:=Kd.R_putg U1.out (pf:Int) pi) | ((with_reducible refine gate_store (t:=3) (p:=40) rfl ?_);refine store_event (t:=3) (p:=40) (v:=?vo_w36) (w1:=(Sa.setCell ⟨f0,(pf:Int).toNat,none⟩ (.int .i64 pi))) ?hg ?ho ?hn ?hr ?_;(case ho=>rfl);(case hg=>rfl);(case hn=>rfl);(case hr=>exact xq10);intro Sb hw;have hg:Sa.grownBy Sb (some f0):=(by rw [hw];exact t0.2);have hp_:Kd.R (Kd.int .i64) 3 Sb w.heap.size (fun k_=>some k_≠(.slice d1 k4.length D1:Value).ownBlock) (.slice (some ⟨f0,0,none⟩) w4.length D2) k5:=(by rw [hw,K4.out];exact t0.1);clear t0;replace z0:=ak (IsS121.grown xq28 hg (IsS121.own_ne z0.out U1.out (by decide)));replace U4:=ak (Kd.R_after (v:=(.slice (some ⟨f0,0,none⟩) w4.length D2)) (v1:=(.slice (some ⟨f0,0,none⟩) w4.length D2)) (ok:=(fun _=>True)) (rF U4) hg (.inl rfl));replace HB:=ak ((by rw [hw];exact below_set (HB.out) (Nat.le_trans HL.out i0.out):Below w0.heap.size w0 Sb));replace HK:=ak (KeepBut.trans kpA (KeepBut.of_grown hg g) (Kd.R_base2 U1.out));replace U1:=ak hp_;clear hg hw hp_))
     go_ret
     exact ⟨_,xq4,xq68,xq1,xq2,xq13⟩

mutual
def spec_l06DrawSeries.j0:Nat → Int → Int → Int → List Int → Bool → List Int → Int → Int → Option (List Int × Int × Int)
 | 0,_,_,_,_,_,_,_,_=>none
 | k+1,x1,x2,x3,x9,x19,x1000,x1001,x1002=>if x19=true then (if 0 < (x9.length:Int) then (spec_l06DrawSeries.j1 k x1 x2 (x9.set (0:Int).toNat x3) x1000 x1001 x1002) else (none)) else (spec_l06DrawSeries.j1 k x1 x2 x9 x1000 x1001 x1002)
def spec_l06DrawSeries.j1:Nat → Int → Int → List Int → List Int → Int → Int → Option (List Int × Int × Int)
 | 0,_,_,_,_,_,_=>none
 | k+1,x1,x2,x9,x1000,x1001,x1002=>(spec_l01Once.f x1000 x1001 x1002 20).bind fun bt347=>(if bt347.1=true then (spec_l06DrawSeries.j2 k x1 x2 x9 (decide (x2 > 0)) x1000 bt347.2.1 bt347.2.2) else (spec_l06DrawSeries.j2 k x1 x2 x9 false x1000 bt347.2.1 bt347.2.2))
def spec_l06DrawSeries.j2:Nat → Int → Int → List Int → Bool → List Int → Int → Int → Option (List Int × Int × Int)
 | 0,_,_,_,_,_,_,_=>none
 | k+1,x1,x2,x9,x28,x1000,x1001,x1002=>if x28=true then ((spec_l01Below.f x1000 x1001 x1002 x2).bind fun bt350=>((spec_Modulus.f x1).bind fun t353=>((spec_l01PickInt.f x1000 bt350.2.1 bt350.2.2 (([(-1),t353,0,1]:List Int))).bind fun bt357=>(if 0≤bt350.1 then (if bt350.1 < (x9.length:Int) then (some ((x9.set (bt350.1:Int).toNat bt357.1),bt357.2.1,bt357.2.2)) else (none)) else (none))))) else (some (x9,x1001,x1002))
end
def spec_l06DrawSeries.f (k:Nat) (s0_0:List Int) (s0_1:Int) (s0_2:Int) (a1:Int) (a2:Int) (a3:Int):Option (List Int × Int × Int):=(spec_l01DrawList.f k s0_0 s0_1 s0_2 a1 a2).bind fun bt341=>(if a3 ≥ 0 then (spec_l06DrawSeries.j0 k a1 a2 a3 bt341.1 (decide (a2 > 0)) s0_0 bt341.2.1 bt341.2.2) else (spec_l06DrawSeries.j0 k a1 a2 a3 bt341.1 false s0_0 bt341.2.1 bt341.2.2))
theorem spec_l06DrawSeries.calls (k:Nat) (g:Nat) (s0_0:List Int) (s0_1:Int) (s0_2:Int) (a1:Int) (a2:Int) (a3:Int) (r1:List Int) (r2:Int) (r3:Int) (w0 w:World) (hI:IsS121 w0 w g s0_0 s0_1 s0_2) (hB:Below w0.heap.size w0 w) (h:spec_l06DrawSeries.f k s0_0 s0_1 s0_2 a1 a2 a3=some (r1,r2,r3)) :
 Calls Try.prog 130 #[.pointer (some ⟨g,0,none⟩),.int .i64 a1,.int .i64 a2,.int .i64 a3] w fun e w'=>∃ v0_:Value,e=.returned (v0_)∧Kd.R (Kd.int .i64) 3 w' w.heap.size (fun _=>True) v0_ r1∧IsS121 w0 w' g s0_0 r2 r3∧Below w0.heap.size w0 w'∧KeepBut w w' g none:=by
 have z0:=ak hI;have HK:=ak (KeepBut.refl w g none);have HL:=ak hB.size;clear hI;have Z0:=ak hB.size;have HB:=ak hB;clear hB;have H:=h;clear h;unfold spec_l06DrawSeries.f at H;obtain ⟨⟨p0,p1,p2⟩,A5,H⟩:=ob H;(try dsimp only at H);have B0:=ak H;clear H;go_enter Try.func130,Try.ntmps130
 go_upto_region 2 with (first | ((with_reducible refine gate_callee (f:=127) rfl ?_);refine goB 13 Try.func127 #[.pointer (some ⟨g,0,none⟩),.int .i64 a1,.int .i64 a2] rfl ?_;(with_reducible refine (spec_l01DrawList.calls k g s0_0 s0_1 s0_2 a1 a2 p0 p1 p2 w0 _ ?side1 ?side2 A5.out).mono ?_);(case side1=>exact xq1);(case side2=>exact xq2);rintro e w7 ⟨N0,rfl,u5,hi,hb,hk⟩;refine ⟨_,rfl,?_⟩;have U0:=ak (Kd.R_lower u5 (keep_size (w:=w) (g:=g) (row:=none) kpA));replace HK:=ak (KeepBut.trans kpA hk (.inl rfl));replace HB:=ak hb;replace z0:=ak hi;(try clear hb hk hi u5)))
 (try simp only [Act.put,sa,sb,sc])
 go_cut [19] (fun N1 wc=>∃ (kq:Nat) (w3:Bool),N1=.bool w3∧Aside0 (spec_l06DrawSeries.j0 kq a1 a2 a3 p0 w3 s0_0 p1 p2=some (r1,r2,r3))∧Aside0 (kq≤k)∧Aside0 (Kd.R (Kd.int .i64) 3 wc w.heap.size (fun _=>True) N0 p0)∧Aside0 (IsS121 w0 wc g s0_0 p1 p2)∧Aside0 (KeepBut w wc g none)∧Aside0 (Below w0.heap.size w0 wc))
 case first =>
  have H:=B0.out;clear B0
  by_cases c8:a3 ≥ 0;rotate_left
  · rw [if_neg c8] at H;have x0:decide (0≤a3)=false:=decide_eq_false c8;clear c8;(first | rw [x0] | (simp only [i64_w,i32_w];rw [x0]) | skip)
    have H':=ak H;clear H;go_wp2
    go_meet
    case rel=>exact ⟨_,(false),eqA,H',⟨xq12⟩,⟨rA U0⟩,⟨xq1⟩,⟨kpA⟩,⟨xq2⟩⟩
  rw [if_pos c8] at H;have x0:decide (0≤a3)=true:=decide_eq_true c8;clear c8;(first | rw [x0] | (simp only [i64_w,i32_w];rw [x0]) | skip)
  have H':=ak H;clear H;go_wp2
  go_meet
  case rel=>exact ⟨_,(decide (a2 > 0)),eqA,H',⟨xq12⟩,⟨rA U0⟩,⟨xq1⟩,⟨kpA⟩,⟨xq2⟩⟩
 case rest =>
  clear B0;obtain ⟨kq,w3,rfl,HA,c0,U1,z0,HK,HB⟩:=hcut
  cases kq with
  | zero=>exact absurd HA.out (by simp [spec_l06DrawSeries.j0])
  | succ y0 =>
   have H:=HA.out;clear HA;simp only [spec_l06DrawSeries.j0] at H;have B2:=ak H;clear H;go_upto_if 19 with (fail)
   go_cut [] (fun wc=>∃ (kq:Nat) (w4:List Int),Aside0 (spec_l06DrawSeries.j1 kq a1 a2 w4 s0_0 p1 p2=some (r1,r2,r3))∧Aside0 (kq≤y0)∧Aside0 (Kd.R (Kd.int .i64) 3 wc w.heap.size (fun _=>True) N0 w4)∧Aside0 (IsS121 w0 wc g s0_0 p1 p2)∧Aside0 (KeepBut w wc g none)∧Aside0 (Below w0.heap.size w0 wc))
   case first =>
    have H:=B2.out;clear B2
    by_cases c10:w3=true;rotate_left
    · replace c10:=Bool.eq_false_iff.mpr c10;subst c10;rw [if_neg (show ¬ (false=true) by decide)] at H;have H':=ak H;clear H;go_wp2
      go_meet
      case rel=>exact ⟨_,(p0),H',⟨xq56⟩,⟨rA U1⟩,⟨xq1⟩,⟨kpA⟩,⟨xq2⟩⟩
    subst c10;rw [if_pos rfl] at H
    obtain ⟨x1,H⟩:=iN H;have x2:=decide_eq_true x1;have x3:decide (0 < p0.length)=true:=decide_eq_true (by omega);clear x1;(first | rw [x2] | (simp only [i64_w,i32_w];rw [x2]) | skip)
    obtain ⟨k0,hyq⟩:∃ y_:List Int,y_=(p0.set (0:Int).toNat a3):=⟨_,rfl⟩;replace H:(spec_l06DrawSeries.j1 y0 a1 a2 k0 s0_0 p1 p2)=some (r1,r2,r3):=xq7
    have K0:=ak hyq;clear hyq;have H':=ak H;clear H;have V0:0≤(0:Int):=(by omega);have a5:(0:Int) < ((p0.length:Int):Int):=odA;have g3:(0 < p0.length)=True:=eq_true (by omega);obtain ⟨f0,D0,F0,l2,L0,m0,M0⟩:=Kd.R_form U1.out (by omega);(first | cases F0 | (injection F0 with ea_ en_ ec_;(first | subst ea_ | (injection ea_ with ea_;subst ea_));subst ec_;clear en_))
    have i0:=ak l2;have I0:=ak M0;clear l2 L0 M0;obtain ⟨O0,j4⟩:=Kd.R_celln 0 U1.out (0:Int) V0 a5;(try rw [show ((0:Int)).toNat=0 from rfl] at O0)
    (try simp only [Nat.reduceMul,Nat.zero_mul,Nat.zero_add,Nat.reduceAdd] at O0)
    (try rw [show ((0:Int)).toNat=0 from rfl] at j4)
    (try simp only [Nat.reduceMul,Nat.zero_mul,Nat.zero_add,Nat.reduceAdd] at j4)
    replace V0:=eq_true V0;replace a5:=eq_true a5;have t0:=Kd.R_putg U1.out (0:Int) a3;go_wp2_with (first | ((with_reducible refine gate_store (t:=3) (p:=22) rfl ?_);refine store_event (t:=3) (p:=22) (v:=?vo_w14) (w1:=(wc.setCell ⟨f0,(0:Int).toNat,none⟩ (.int .i64 a3))) ?hg ?ho ?hn ?hr ?_;(case ho=>rfl);(case hg=>rfl);(case hn=>rfl);(case hr=>exact xq10);intro S0 hw;have hg:wc.grownBy S0 (some f0):=(by rw [hw];exact t0.2);have hp_:Kd.R (Kd.int .i64) 3 S0 w.heap.size (fun _=>True) (.slice (some ⟨f0,0,none⟩) p0.length D0) k0:=(by rw [hw,K0.out];exact t0.1);clear t0;replace z0:=ak (IsS121.grown xq28 hg (IsS121.own_ne z0.out U1.out (by decide)));replace HB:=ak ((by rw [hw];exact below_set (HB.out) (Nat.le_trans HL.out i0.out):Below w0.heap.size w0 S0));replace HK:=ak (KeepBut.trans kpA (KeepBut.of_grown hg g) (Kd.R_base2 U1.out));replace U1:=ak hp_;clear hg hw hp_))
    go_meet
    case rel=>exact ⟨_,(k0),H',⟨xq56⟩,⟨rA U1⟩,⟨xq1⟩,⟨kpA⟩,⟨xq2⟩⟩
   case rest =>
    clear B2;obtain ⟨kq,w4,HA,c1,U1,z0,HK,HB⟩:=hcut
    cases kq with
    | zero=>exact absurd HA.out (by simp [spec_l06DrawSeries.j1])
    | succ y1 =>
     have H:=HA.out;clear HA;simp only [spec_l06DrawSeries.j1] at H;have B6:=ak H;clear H;go_upto_region 4 with (fail)
     go_cut [28] (fun N2 wc=>∃ (kq:Nat) (w5:Bool) (w6:Int) (w8:Int),N2=.bool w5∧Aside0 (spec_l06DrawSeries.j2 kq a1 a2 w4 w5 s0_0 w6 w8=some (r1,r2,r3))∧Aside0 (kq≤y1)∧Aside0 (Kd.R (Kd.int .i64) 3 wc w.heap.size (fun _=>True) N0 w4)∧Aside0 (IsS121 w0 wc g s0_0 w6 w8)∧Aside0 (KeepBut w wc g none)∧Aside0 (Below w0.heap.size w0 wc))
     case first =>
      have H:=B6.out;clear B6;obtain ⟨⟨p3,p4,p5⟩,g4,H⟩:=ob H;(try dsimp only at H)
      by_cases x4:p3=true
      · subst x4;rw [if_pos rfl] at H;have H':=ak H;clear H;go_wp2_with (first | ((with_reducible refine gate_callee (f:=90) rfl ?_);refine goB 24 Try.func90 #[.pointer (some ⟨g,0,none⟩),.int .i64 20] rfl ?_;(with_reducible refine (spec_l01Once.calls g s0_0 p1 p2 20 true p4 p5 w0 _ ?side1 ?side2 g4.out).mono ?_);(case side1=>exact xq1);(case side2=>exact xq2);rintro e S1 ⟨rfl,hi,hb,hk⟩;refine ⟨_,rfl,?_⟩;replace U1:=kS (rF U1) (fun H=>IsS121.apart (show IsS121 w0 _ g s0_0 p1 p2 from xq1) H (by decide)) hk;replace HK:=ak (KeepBut.trans kpA hk (.inl rfl));replace HB:=ak hb;replace z0:=ak hi;(try clear hb hk hi)))
        go_meet
        case rel=>exact ⟨_,(decide (a2 > 0)),(p4),(p5),eqA,H',⟨xq57⟩,⟨rA U1⟩,⟨xq1⟩,⟨kpA⟩,⟨xq2⟩⟩
      replace x4:=Bool.eq_false_iff.mpr x4;subst x4;rw [if_neg (show ¬ (false=true) by decide)] at H;have H':=ak H;clear H;go_wp2_with (first | ((with_reducible refine gate_callee (f:=90) rfl ?_);refine goB 24 Try.func90 #[.pointer (some ⟨g,0,none⟩),.int .i64 20] rfl ?_;(with_reducible refine (spec_l01Once.calls g s0_0 p1 p2 20 false p4 p5 w0 _ ?side1 ?side2 g4.out).mono ?_);(case side1=>exact xq1);(case side2=>exact xq2);rintro e S2 ⟨rfl,hi,hb,hk⟩;refine ⟨_,rfl,?_⟩;replace U1:=kS (rF U1) (fun H=>IsS121.apart (show IsS121 w0 _ g s0_0 p1 p2 from xq1) H (by decide)) hk;replace HK:=ak (KeepBut.trans kpA hk (.inl rfl));replace HB:=ak hb;replace z0:=ak hi;(try clear hb hk hi)))
      go_meet
      case rel=>exact ⟨_,(false),(p4),(p5),eqA,H',⟨xq57⟩,⟨rA U1⟩,⟨xq1⟩,⟨kpA⟩,⟨xq2⟩⟩
     case rest =>
      clear B6;obtain ⟨kq,w5,w6,w8,rfl,HA,ca,U1,z0,HK,HB⟩:=hcut
      cases kq with
      | zero=>exact absurd HA.out (by simp [spec_l06DrawSeries.j2])
      | succ y2 =>
       have H:=HA.out;clear HA;simp only [spec_l06DrawSeries.j2] at H
       by_cases x5:w5=true;rotate_left
       · replace x5:=Bool.eq_false_iff.mpr x5;subst x5;rw [if_neg (show ¬ (false=true) by decide)] at H;simp only [Option.some.injEq,Prod.mk.injEq] at H;obtain ⟨rfl,rfl,rfl⟩:=H;go_wp2
         go_ret
         exact ⟨_,xq4,xq23,xq1,xq2,xq13⟩
       subst x5;rw [if_pos rfl] at H;obtain ⟨⟨p6,p7,p8⟩,g5,H⟩:=ob H;(try dsimp only at H);obtain ⟨p9,g6,H⟩:=ob H;(try dsimp only at H);obtain ⟨k1,hyq⟩:∃ y_:List Int,y_=(([(-1),p9,0,1]:List Int)):=⟨_,rfl⟩;replace H:((spec_l01PickInt.f s0_0 p7 p8 k1).bind fun e0=>(if 0≤p6 then (if p6 < (w4.length:Int) then (some ((w4.set (p6:Int).toNat e0.1),e0.2.1,e0.2.2)) else (none)) else (none)))=some (r1,r2,r3):=xq7
       have K1:=ak hyq;clear hyq;obtain ⟨⟨pa,pb,pc⟩,g7,H⟩:=ob H;(try dsimp only at H)
       obtain ⟨x6,H⟩:=iN H;have x7:=decide_eq_true x6;clear x6
       obtain ⟨x8,H⟩:=iN H;have x9:=decide_eq_true x8;clear x8;obtain ⟨k2,hyq⟩:∃ y_:List Int,y_=(w4.set (p6:Int).toNat pa):=⟨_,rfl⟩;replace H:(some (k2,pb,pc))=some (r1,r2,r3):=xq7
       have K2:=ak hyq;clear hyq;simp only [Option.some.injEq,Prod.mk.injEq] at H;obtain ⟨rfl,rfl,rfl⟩:=H;go_wp2_with (first | ((with_reducible refine gate_callee (f:=91) rfl ?_);refine goB 32 Try.func91 #[.pointer (some ⟨g,0,none⟩),.int .i64 a2] rfl ?_;(with_reducible refine (spec_l01Below.calls g s0_0 w6 w8 a2 p6 p7 p8 w0 _ ?side1 ?side2 g5.out).mono ?_);(case side1=>exact xq1);(case side2=>exact xq2);rintro e S3 ⟨rfl,hi,hb,hk⟩;refine ⟨_,rfl,?_⟩;replace U1:=kS (rF U1) (fun H=>IsS121.apart (show IsS121 w0 _ g s0_0 w6 w8 from xq1) H (by decide)) hk;replace HK:=ak (KeepBut.trans kpA hk (.inl rfl));replace HB:=ak hb;replace z0:=ak hi;(try clear hb hk hi)) | ((with_reducible refine gate_callee (f:=82) rfl ?_);refine goB 35 Try.func82 #[.int .i64 a1] rfl ?_;(with_reducible refine (spec_Modulus.calls a1 p9 _ g6.out).mono ?_);rintro e w' ⟨rfl,⟨nd,rfl⟩⟩;refine ⟨_,rfl,?_⟩;(try (rw [drewN_self S3];generalize hq_:World.drewN S3 _=S3;have xa:Aside0 (Kd.R (Kd.int .i64) 3 S3 w.heap.size (fun _=>True) N0 w4):=⟨by rw [← hq_];exact (rF U1)⟩;have xb:Aside0 (IsS121 w0 S3 g s0_0 p7 p8):=⟨xq92⟩;have xc:Aside0 (KeepBut w S3 g none):=⟨by rw [← hq_];exact kpA⟩;have xd:Aside0 (Below w0.heap.size w0 S3):=⟨xq93⟩;clear U1 z0 HK HB hq_;have U1:=xa;have z0:=xb;have HK:=xc;have HB:=xd;clear xa xb xc xd))) | ((with_reducible refine gate_dst (N:=36) rfl ?_);refine Kd.R_lit (Kd.int .i64) _ 3 ?hg (N:=36) ?hd (xs:=([(-1),p9,0,1]:List Int)) (inner:=[.int .i64 (-1),.int .i64 p9,.int .i64 0,.int .i64 1]) (ok:=fun _=>True) (okp:=fun _=>True) ?hr ?hp (fun _ hk=>hk) trivial (Below.refl _ _) (Nat.le_refl _) (by simp) ?_;(case hd=>rfl);(case hg=>rfl);(case hr=>exact xq10);(case hp=>exact (Reps.one (show Kd.M (Kd.int .i64) _ _ _ (-1) [.int .i64 (-1)] from rfl) (Reps.one (show Kd.M (Kd.int .i64) _ _ _ p9 [.int .i64 p9] from rfl) (Reps.one (show Kd.M (Kd.int .i64) _ _ _ 0 [.int .i64 0] from rfl) (Reps.one (show Kd.M (Kd.int .i64) _ _ _ 1 [.int .i64 1] from rfl) (Reps.none _ _))))));intro N3 S4 u6 hb hg_ hnew_;clear hg_ hnew_;(first | rw [← K1.out] at u6 | (simp only [Int.reduceToNat] at u6;rw [← K1.out] at u6));have U2:=ak (Kd.R_lower (Kd.R_new' u6 (Kd.R_lt (rF U1))) (keep_size (w:=w) (g:=g) (row:=none) kpA));replace U1:=ak (Kd.R_elder' (rF U1) (Kd.R_base u6) hb);replace HK:=ak (KeepBut.trans kpA (KeepBut.of_below hb g none) (.inl rfl));replace HB:=ak (below_step xq2 hb);replace z0:=ak (IsS121.below xq1 hb);clear hb u6;obtain ⟨d0,D1,rfl⟩:=Kd.R_slice U2.out) | ((with_reducible refine gate_callee (f:=60) rfl ?_);refine goB 37 Try.func60 #[.pointer (some ⟨g,0,none⟩),.slice d0 k1.length D1] rfl ?_;(with_reducible refine (spec_l01PickInt.calls g s0_0 p7 p8 _ _ k1 pa pb pc w0 _ ?side1 ?side2 ?side3 ?side4 ?side5 g7.out).mono ?_);(case side1=>exact xq1);(case side2=>exact xq2);(case side3=>exact cA ((Kd.R_reads' U2.out).2.2));(case side4=>exact (Kd.R_reads' U2.out).2.1);(case side5=>exact far_slice (IsS121.own_ne z0.out U2.out (by decide)));rintro e S5 ⟨rfl,hi,hb,hk⟩;refine ⟨_,rfl,?_⟩;replace U1:=kS (rF U1) (fun H=>IsS121.apart (show IsS121 w0 _ g s0_0 p7 p8 from xq1) H (by decide)) hk;replace U2:=kS (rF U2) (fun H=>IsS121.apart (show IsS121 w0 _ g s0_0 p7 p8 from xq1) H (by decide)) hk;replace HK:=ak (KeepBut.trans kpA hk (.inl rfl));replace HB:=ak hb;replace z0:=ak hi;(try clear hb hk hi);have V1:0≤(p6:Int):=odA;have a6:(p6:Int) < ((w4.length:Int):Int):=odA;obtain ⟨f1,D2,F1,l3,L1,m1,M1⟩:=Kd.R_form U1.out (by omega);(first | cases F1 | (injection F1 with ea_ en_ ec_;(first | subst ea_ | (injection ea_ with ea_;subst ea_));subst ec_;clear en_));have i1:=ak l3;have I1:=ak M1;clear l3 L1 M1;obtain ⟨O1,j5⟩:=Kd.R_celln 0 U1.out (p6:Int) V1 a6;replace V1:=eq_true V1;replace a6:=eq_true a6;have n_:=ak (Kd.R_mono (ok':=(fun k_=>some k_≠(.slice d0 k1.length D1:Value).ownBlock)) U1.out (fun k_ hk=>hk.2));clear U1;have U1:=n_;clear n_;obtain ⟨J0,G0⟩:=Kd.R_celln 0 U1.out (p6:Int) (odA) (odA);have t1:=Kd.R_putg U1.out (p6:Int) pa) | ((with_reducible refine gate_store (t:=3) (p:=38) rfl ?_);refine store_event (t:=3) (p:=38) (v:=?vo_w33) (w1:=(S5.setCell ⟨f1,(p6:Int).toNat,none⟩ (.int .i64 pa))) ?hg ?ho ?hn ?hr ?_;(case ho=>rfl);(case hg=>rfl);(case hn=>rfl);(case hr=>exact xq10);intro S6 hw;have hg:S5.grownBy S6 (some f1):=(by rw [hw];exact t1.2);have hp_:Kd.R (Kd.int .i64) 3 S6 w.heap.size (fun k_=>some k_≠(.slice d0 k1.length D1:Value).ownBlock) (.slice (some ⟨f1,0,none⟩) w4.length D2) k2:=(by rw [hw,K2.out];exact t1.1);clear t1;replace z0:=ak (IsS121.grown xq28 hg (IsS121.own_ne z0.out U1.out (by decide)));replace U2:=ak (Kd.R_after (v:=(.slice (some ⟨f1,0,none⟩) w4.length D2)) (v1:=(.slice (some ⟨f1,0,none⟩) w4.length D2)) (ok:=(fun _=>True)) (rF U2) hg (.inl rfl));replace HB:=ak ((by rw [hw];exact below_set (HB.out) (Nat.le_trans HL.out i1.out):Below w0.heap.size w0 S6));replace HK:=ak (KeepBut.trans kpA (KeepBut.of_grown hg g) (Kd.R_base2 U1.out));replace U1:=ak hp_;clear hg hw hp_))
       go_ret
       exact ⟨_,xq4,xq68,xq1,xq2,xq13⟩

end Go.Proofs.Ytogdhclomgafdaa.PFnWireJobs
