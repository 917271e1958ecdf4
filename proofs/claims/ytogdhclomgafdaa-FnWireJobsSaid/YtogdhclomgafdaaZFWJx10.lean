-- Written by a program of this session (the print of the kit with contracts of this session's own added)
import Derived.Test.YtogdhclomgafdaaZFWJx9
set_option maxHeartbeats 8000000
set_option maxRecDepth 100000
namespace Go.Proofs.Ytogdhclomgafdaa.PFnWireJobs
open Go.RowKit Go.Proofs.YtogdhclomgafdaaW.PrintWords Go.Proofs.YtogdhclomgafdaaW.PrintLast Go.Proofs.YtogdhclomgafdaaW.PrintMore Go.Proofs.YtogdhclomgafdaaW.PrintPack Go.Proofs.YtogdhclomgafdaaW.PrintPack
set_option linter.unusedVariables false
set_option linter.unusedSimpArgs false

def spec_l01Once.f (s0_0:List Int) (s0_1:Int) (s0_2:Int) (a1:Int):Option (Bool × Int × Int):=(spec_l01Below.f s0_0 s0_1 s0_2 a1).bind fun bt231=>(some ((bt231.1 == 0),bt231.2.1,bt231.2.2))
theorem spec_l01Once.calls (g:Nat) (s0_0:List Int) (s0_1:Int) (s0_2:Int) (a1:Int) (r1:Bool) (r2:Int) (r3:Int) (w0 w:World) (hI:IsS121 w0 w g s0_0 s0_1 s0_2) (hB:Below w0.heap.size w0 w) (h:spec_l01Once.f s0_0 s0_1 s0_2 a1=some (r1,r2,r3)) :
 Calls Try.prog 90 #[.pointer (some ⟨g,0,none⟩),.int .i64 a1] w fun e w'=>e=.returned (.bool r1)∧IsS121 w0 w' g s0_0 r2 r3∧Below w0.heap.size w0 w'∧KeepBut w w' g none:=by
 have z0:=ak hI;have HK:=ak (KeepBut.refl w g none);have HL:=ak hB.size;clear hI;have Z0:=ak hB.size;have HB:=ak hB;clear hB;have H:=h;clear h;unfold spec_l01Once.f at H;obtain ⟨⟨p0,p1,p2⟩,A3,H⟩:=ob H;(try dsimp only at H);simp only [Option.some.injEq,Prod.mk.injEq] at H;obtain ⟨rfl,rfl,rfl⟩:=H;go_enter Try.func90,Try.ntmps90
 go_wp2_with (first | ((with_reducible refine gate_callee (f:=91) rfl ?_);refine goB 7 Try.func91 #[.pointer (some ⟨g,0,none⟩),.int .i64 a1] rfl ?_;(with_reducible refine (spec_l01Below.calls g s0_0 s0_1 s0_2 a1 p0 p1 p2 w0 _ ?side1 ?side2 A3.out).mono ?_);(case side1=>exact xq1);(case side2=>exact xq2);rintro e w4 ⟨rfl,hi,hb,hk⟩;refine ⟨_,rfl,?_⟩;replace HK:=ak (KeepBut.trans kpA hk (.inl rfl));replace HB:=ak hb;replace z0:=ak hi;(try clear hb hk hi)))
 go_ret
 exact ⟨xq4,xq1,xq2,xq13⟩

def spec_l01In.f (a0:Int) (a1:Int) (a2:Int):Option (Bool):=if a1≤a0 then (some (decide (a0≤a2))) else (some false)
theorem spec_l01In.calls (a0:Int) (a1:Int) (a2:Int) (r:Bool) (w:World) (h:spec_l01In.f a0 a1 a2=some r) :
 Calls Try.prog 62 #[.int .i64 a0,.int .i64 a1,.int .i64 a2] w fun e w'=>e=.returned (.bool r)∧Drawn0 w w':=by
 have H:(if a1≤a0 then (some (decide (a0≤a2))) else (some false))=some r:=h;clear h
 by_cases c4:a1≤a0
 · rw [if_pos c4] at H;have x0:=decide_eq_true c4;clear c4;obtain rfl:=Option.some.inj H;go_enter Try.func62,Try.ntmps62
   go_wp2
   go_ret
   exact ⟨xq9,xq5⟩
 rw [if_neg c4] at H;have x0:=decide_eq_false c4;clear c4;obtain rfl:=Option.some.inj H;go_enter Try.func62,Try.ntmps62
 go_wp2
 go_ret
 exact ⟨xq9,xq5⟩

def spec_Modulus.f (a0:Int):Option (Int):=if a0=0 then (some 17) else (if a0=1 then (some 97) else (if a0=2 then (some 193) else (if a0=3 then (some 257) else (if a0=4 then (some 7681) else (if a0=5 then (some 12289) else (if a0=6 then (some 998244353) else (if a0=7 then (some 469762049) else (if a0=8 then (some 1004535809) else (some 0)))))))))
theorem spec_Modulus.calls (a0:Int) (r:Int) (w:World) (h:spec_Modulus.f a0=some r) :
 Calls Try.prog 82 #[.int .i64 a0] w fun e w'=>e=.returned (.int .i64 r)∧Drawn0 w w':=by
 have H:=h;clear h;unfold spec_Modulus.f at H
 by_cases c2:a0=0
 · rw [if_pos c2] at H;have x0:(a0 == 0)=true:=beq_iff_eq.mpr c2;have x1:(a0 != 0)=false:=bne_eq_false_iff_eq.mpr c2;clear c2;obtain rfl:=Option.some.inj H;go_enter Try.func82,Try.ntmps82
   go_wp2
   go_ret
   exact ⟨xq9,xq5⟩
 rw [if_neg c2] at H;have x0:(a0 == 0)=false:=beq_eq_false_iff_ne.mpr c2;have x1:(a0 != 0)=true:=bne_iff_ne.mpr c2
 by_cases c3:a0=1
 · rw [if_pos c3] at H;have x2:(a0 == 1)=true:=beq_iff_eq.mpr c3;have x3:(a0 != 1)=false:=bne_eq_false_iff_eq.mpr c3;clear c3;obtain rfl:=Option.some.inj H;go_enter Try.func82,Try.ntmps82
   go_wp2
   go_ret
   exact ⟨xq9,xq5⟩
 rw [if_neg c3] at H;have x2:(a0 == 1)=false:=beq_eq_false_iff_ne.mpr c3;have x3:(a0 != 1)=true:=bne_iff_ne.mpr c3
 by_cases c4:a0=2
 · rw [if_pos c4] at H;have x4:(a0 == 2)=true:=beq_iff_eq.mpr c4;have x5:(a0 != 2)=false:=bne_eq_false_iff_eq.mpr c4;clear c4;obtain rfl:=Option.some.inj H;go_enter Try.func82,Try.ntmps82
   go_wp2
   go_ret
   exact ⟨xq9,xq5⟩
 rw [if_neg c4] at H;have x4:(a0 == 2)=false:=beq_eq_false_iff_ne.mpr c4;have x5:(a0 != 2)=true:=bne_iff_ne.mpr c4
 by_cases c5:a0=3
 · rw [if_pos c5] at H;have x6:(a0 == 3)=true:=beq_iff_eq.mpr c5;have x7:(a0 != 3)=false:=bne_eq_false_iff_eq.mpr c5;clear c5;obtain rfl:=Option.some.inj H;go_enter Try.func82,Try.ntmps82
   go_wp2
   go_ret
   exact ⟨xq9,xq5⟩
 rw [if_neg c5] at H;have x6:(a0 == 3)=false:=beq_eq_false_iff_ne.mpr c5;have x7:(a0 != 3)=true:=bne_iff_ne.mpr c5
 by_cases c6:a0=4
 · rw [if_pos c6] at H;have x8:(a0 == 4)=true:=beq_iff_eq.mpr c6;have x9:(a0 != 4)=false:=bne_eq_false_iff_eq.mpr c6;clear c6;obtain rfl:=Option.some.inj H;go_enter Try.func82,Try.ntmps82
   go_wp2
   go_ret
   exact ⟨xq9,xq5⟩
 rw [if_neg c6] at H;have x8:(a0 == 4)=false:=beq_eq_false_iff_ne.mpr c6;have x9:(a0 != 4)=true:=bne_iff_ne.mpr c6
 by_cases c7:a0=5
 · rw [if_pos c7] at H;have xa:(a0 == 5)=true:=beq_iff_eq.mpr c7;have xb:(a0 != 5)=false:=bne_eq_false_iff_eq.mpr c7;clear c7;obtain rfl:=Option.some.inj H;go_enter Try.func82,Try.ntmps82
   go_wp2
   go_ret
   exact ⟨xq9,xq5⟩
 rw [if_neg c7] at H;have xa:(a0 == 5)=false:=beq_eq_false_iff_ne.mpr c7;have xb:(a0 != 5)=true:=bne_iff_ne.mpr c7
 by_cases c8:a0=6
 · rw [if_pos c8] at H;have xc:(a0 == 6)=true:=beq_iff_eq.mpr c8;have xd:(a0 != 6)=false:=bne_eq_false_iff_eq.mpr c8;clear c8;obtain rfl:=Option.some.inj H;go_enter Try.func82,Try.ntmps82
   go_wp2
   go_ret
   exact ⟨xq9,xq5⟩
 rw [if_neg c8] at H;have xc:(a0 == 6)=false:=beq_eq_false_iff_ne.mpr c8;have xd:(a0 != 6)=true:=bne_iff_ne.mpr c8
 by_cases c9:a0=7
 · rw [if_pos c9] at H;have xe:(a0 == 7)=true:=beq_iff_eq.mpr c9;have xf:(a0 != 7)=false:=bne_eq_false_iff_eq.mpr c9;clear c9;obtain rfl:=Option.some.inj H;go_enter Try.func82,Try.ntmps82
   go_wp2
   go_ret
   exact ⟨xq9,xq5⟩
 rw [if_neg c9] at H;have xe:(a0 == 7)=false:=beq_eq_false_iff_ne.mpr c9;have xf:(a0 != 7)=true:=bne_iff_ne.mpr c9
 by_cases c10:a0=8;rotate_left
 · rw [if_neg c10] at H;have xg:(a0 == 8)=false:=beq_eq_false_iff_ne.mpr c10;have xh:(a0 != 8)=true:=bne_iff_ne.mpr c10;obtain rfl:=Option.some.inj H;go_enter Try.func82,Try.ntmps82
   go_wp2
   go_ret
   exact ⟨xq9,xq5⟩
 rw [if_pos c10] at H;have xg:(a0 == 8)=true:=beq_iff_eq.mpr c10;have xh:(a0 != 8)=false:=bne_eq_false_iff_eq.mpr c10;clear c10;obtain rfl:=Option.some.inj H;go_enter Try.func82,Try.ntmps82
 go_wp2
 go_ret
 exact ⟨xq9,xq5⟩

def spec_l10Words.l0:Nat → List Int → Int → Option (Bool)
 | 0,_,_=>none
 | k+1,x0,x3=>if x3 < (x0.length:Int) then (if 0≤x3 then ((spec_l01In.f (rd x0 x3) (-1099511627776) 1099511627776).bind fun t235=>(if t235=true then (spec_l10Words.l0 k x0 (wrap64 (x3+1))) else (some false))) else (none)) else (some true)
def spec_l10Words.f (k:Nat) (l0:List Int):Option (Bool):=if (l0.length:Int) > 400 then (some false) else (spec_l10Words.l0 k l0 0)
theorem spec_l10Words.calls (k:Nat) (A0:Option Addr) (c0:Nat) (l0:List Int) (r:Bool) (w:World) (hr0:Kd.C (Kd.int .i64) w A0 l0.length l0) (hc0:l0.length≤c0) (h:spec_l10Words.f k l0=some r) :
 Calls Try.prog 83 #[.slice A0 l0.length c0] w fun e w'=>e=.returned (.bool r)∧Drawn0 w w':=by
 have b0:=ak hr0;have B0:=ak hc0;clear hr0 hc0;have H:=h;clear h;unfold spec_l10Words.f at H
 by_cases c2:(l0.length:Int) > 400
 · rw [if_pos c2] at H;have x0:decide (400 < (l0.length:Int))=true:=decide_eq_true c2;have x1:decide (400 < l0.length)=true:=decide_eq_true (by omega);clear c2;obtain rfl:=Option.some.inj H;go_enter Try.func83,Try.ntmps83
   go_wp2
   go_ret
   exact ⟨xq9,xq5⟩
 rw [if_neg c2] at H;have x0:decide (400 < (l0.length:Int))=false:=decide_eq_false c2;have x1:decide (400 < l0.length)=false:=decide_eq_false (by omega);clear c2;have H':=ak H;clear H;go_enter Try.func83,Try.ntmps83
 go_wp2
 go_loopg [3] k (fun kq v3 w'=>∃ (w3:Int),v3=.int .i64 w3∧Aside0 (spec_l10Words.l0 kq l0 w3=some r)∧Aside0 (kq≤k)∧Drawn0 w w')
 case atStart=>exact ⟨(0),eqA,H',⟨Nat.le_refl _⟩,xq5⟩
 case round =>
  clear H';obtain ⟨w3,rfl,HA,W0,⟨m1,rfl⟩⟩:=hrel
  cases gk with
  | zero=>exact absurd HA.out (by simp [spec_l10Words.l0])
  | succ k1 =>
   have H:=HA.out;clear HA;simp only [spec_l10Words.l0] at H
   by_cases c3:w3 < (l0.length:Int);rotate_left
   · rw [if_neg c3] at H;have x2:=decide_eq_false c3;clear c3;obtain rfl:=Option.some.inj H;go_wp2
     go_ret
     exact ⟨xq9,xq5⟩
   rw [if_pos c3] at H;have x2:=decide_eq_true c3;clear c3
   obtain ⟨c4,H⟩:=iN H;have x3:=decide_eq_true c4;clear c4;obtain ⟨p0,A5,H⟩:=ob H;(try dsimp only at H)
   by_cases c6:p0=true;rotate_left
   · replace c6:=Bool.eq_false_iff.mpr c6;subst c6;rw [if_neg (show ¬ (false=true) by decide)] at H;obtain rfl:=Option.some.inj H;have V0:0≤(w3:Int):=odA;have a5:w3 < (l0.length:Int):=odA;obtain ⟨A1,o0,O0⟩:=Kd.at_int b0.out w3 V0 a5
     cases o0
     replace V0:=eq_true V0;replace a5:=eq_true a5;go_wp2_with (first | ((with_reducible refine gate_callee (f:=62) rfl ?_);refine goB 17 Try.func62 #[.int .i64 (rd l0 w3),.int .i64 (-1099511627776),.int .i64 1099511627776] rfl ?_;(with_reducible refine (spec_l01In.calls (rd l0 w3) (-1099511627776) 1099511627776 false _ A5.out).mono ?_);rintro e w' ⟨rfl,⟨nd,rfl⟩⟩;refine ⟨_,rfl,?_⟩))
     go_ret
     exact ⟨xq9,xq5⟩
   subst c6;rw [if_pos rfl] at H;have H':=ak H;clear H;have V0:0≤(w3:Int):=odA;have a5:w3 < (l0.length:Int):=odA;obtain ⟨A1,o0,O0⟩:=Kd.at_int b0.out w3 V0 a5
   cases o0
   replace V0:=eq_true V0;replace a5:=eq_true a5;go_wp2_with (first | ((with_reducible refine gate_callee (f:=62) rfl ?_);refine goB 17 Try.func62 #[.int .i64 (rd l0 w3),.int .i64 (-1099511627776),.int .i64 1099511627776] rfl ?_;(with_reducible refine (spec_l01In.calls (rd l0 w3) (-1099511627776) 1099511627776 true _ A5.out).mono ?_);rintro e w' ⟨rfl,⟨nd,rfl⟩⟩;refine ⟨_,rfl,?_⟩))
   go_roundg k1
   case measure=>have:=W0.out;omega
   case rel=>exact ⟨(wrap64 (w3+1)),eqA,H',⟨xq14⟩,xq5⟩

def spec_l01Has.l0:Nat → List Int → Int → Int → Option (Bool)
 | 0,_,_,_=>none
 | k+1,x0,x1,x5=>if x5 < (x0.length:Int) then (if 0≤x5 then (if (rd x0 x5)=x1 then (some true) else (spec_l01Has.l0 k x0 x1 (wrap64 (x5+1)))) else (none)) else (some false)
def spec_l01Has.f (k:Nat) (l0:List Int) (a1:Int):Option (Bool):=spec_l01Has.l0 k l0 a1 0
theorem spec_l01Has.calls (k:Nat) (A0:Option Addr) (c0:Nat) (l0:List Int) (a1:Int) (r:Bool) (w:World) (hr0:Kd.C (Kd.int .i64) w A0 l0.length l0) (hc0:l0.length≤c0) (h:spec_l01Has.f k l0 a1=some r) :
 Calls Try.prog 112 #[.slice A0 l0.length c0,.int .i64 a1] w fun e w'=>e=.returned (.bool r)∧Drawn0 w w':=by
 have b0:=ak hr0;have B0:=ak hc0;clear hr0 hc0;have H:(spec_l01Has.l0 k l0 a1 0)=some r:=h;clear h;have H':=ak H;clear H;go_enter Try.func112,Try.ntmps112
 go_wp2
 go_loopg [5] k (fun kq v5 w'=>∃ (w3:Int),v5=.int .i64 w3∧Aside0 (spec_l01Has.l0 kq l0 a1 w3=some r)∧Aside0 (kq≤k)∧Drawn0 w w')
 case atStart=>exact ⟨(0),eqA,H',⟨Nat.le_refl _⟩,xq5⟩
 case round =>
  clear H';obtain ⟨w3,rfl,HA,W0,⟨m1,rfl⟩⟩:=hrel
  cases gk with
  | zero=>exact absurd HA.out (by simp [spec_l01Has.l0])
  | succ k1 =>
   have H:=HA.out;clear HA;simp only [spec_l01Has.l0] at H
   by_cases c3:w3 < (l0.length:Int);rotate_left
   · rw [if_neg c3] at H;have x0:=decide_eq_false c3;clear c3;obtain rfl:=Option.some.inj H;go_wp2
     go_ret
     exact ⟨xq9,xq5⟩
   rw [if_pos c3] at H;have x0:=decide_eq_true c3;clear c3
   obtain ⟨c4,H⟩:=iN H;have x1:=decide_eq_true c4;clear c4
   by_cases c5:(rd l0 w3)=a1
   · rw [if_pos c5] at H;have x2:((rd l0 w3) == a1)=true:=beq_iff_eq.mpr c5;have x3:((rd l0 w3) != a1)=false:=bne_eq_false_iff_eq.mpr c5;clear c5;obtain rfl:=Option.some.inj H;have V0:0≤(w3:Int):=odA;have a5:w3 < (l0.length:Int):=odA;obtain ⟨A1,o0,O0⟩:=Kd.at_int b0.out w3 V0 a5
     cases o0
     replace V0:=eq_true V0;replace a5:=eq_true a5;go_wp2
     go_ret
     exact ⟨xq9,xq5⟩
   rw [if_neg c5] at H;have x2:((rd l0 w3) == a1)=false:=beq_eq_false_iff_ne.mpr c5;have x3:((rd l0 w3) != a1)=true:=bne_iff_ne.mpr c5;have H':=ak H;clear H;have V0:0≤(w3:Int):=odA;have a5:w3 < (l0.length:Int):=odA;obtain ⟨A1,o0,O0⟩:=Kd.at_int b0.out w3 V0 a5
   cases o0
   replace V0:=eq_true V0;replace a5:=eq_true a5;go_wp2
   go_roundg k1
   case measure=>have:=W0.out;omega
   case rel=>exact ⟨(wrap64 (w3+1)),eqA,H',⟨xq14⟩,xq5⟩

def spec_l10UsesB.f (k:Nat) (a0:Int):Option (Bool):=(spec_l01Has.f k (([3,4,5,6,8,9,10,11]:List Int)) a0).bind fun t240=>(some t240)
theorem spec_l10UsesB.calls (k:Nat) (a0:Int) (r:Bool) (w:World) (h:spec_l10UsesB.f k a0=some r) :
 Calls Try.prog 84 #[.int .i64 a0] w fun e w'=>e=.returned (.bool r)∧Below w.heap.size w w':=by
 have HB:=ak (Below.refl w.heap.size w);have H:=h;clear h;unfold spec_l10UsesB.f at H;obtain ⟨k0,hyq⟩:∃ y_:List Int,y_=(([3,4,5,6,8,9,10,11]:List Int)):=⟨_,rfl⟩;replace H:((spec_l01Has.f k k0 a0).bind fun p0=>(some p0))=some r:=xq7
 have K0:=ak hyq;clear hyq;obtain ⟨p0,A2,H⟩:=ob H;(try dsimp only at H);obtain rfl:=Option.some.inj H;go_enter Try.func84,Try.ntmps84
 go_wp2_with (first | ((with_reducible refine gate_dst (N:=3) rfl ?_);refine Kd.R_lit (Kd.int .i64) _ 3 ?hg (N:=3) ?hd (xs:=([3,4,5,6,8,9,10,11]:List Int)) (inner:=[.int .i64 3,.int .i64 4,.int .i64 5,.int .i64 6,.int .i64 8,.int .i64 9,.int .i64 10,.int .i64 11]) (ok:=fun _=>True) (okp:=fun _=>True) ?hr ?hp (fun _ hk=>hk) trivial (Below.refl _ _) (Nat.le_refl _) (by simp) ?_;(case hd=>rfl);(case hg=>rfl);(case hr=>exact xq10);(case hp=>exact (Reps.one (show Kd.M (Kd.int .i64) _ _ _ 3 [.int .i64 3] from rfl) (Reps.one (show Kd.M (Kd.int .i64) _ _ _ 4 [.int .i64 4] from rfl) (Reps.one (show Kd.M (Kd.int .i64) _ _ _ 5 [.int .i64 5] from rfl) (Reps.one (show Kd.M (Kd.int .i64) _ _ _ 6 [.int .i64 6] from rfl) (Reps.one (show Kd.M (Kd.int .i64) _ _ _ 8 [.int .i64 8] from rfl) (Reps.one (show Kd.M (Kd.int .i64) _ _ _ 9 [.int .i64 9] from rfl) (Reps.one (show Kd.M (Kd.int .i64) _ _ _ 10 [.int .i64 10] from rfl) (Reps.one (show Kd.M (Kd.int .i64) _ _ _ 11 [.int .i64 11] from rfl) (Reps.none _ _))))))))));intro N0 w3 u5 hb hg_ hnew_;clear hg_ hnew_;(first | rw [← K0.out] at u5 | (simp only [Int.reduceToNat] at u5;rw [← K0.out] at u5));have U0:=rL u5;replace HB:=bS hb;clear hb u5;obtain ⟨d0,D0,rfl⟩:=Kd.R_slice U0.out) | ((with_reducible refine gate_callee (f:=112) rfl ?_);refine goB 5 Try.func112 #[.slice d0 k0.length D0,.int .i64 a0] rfl ?_;(with_reducible refine (spec_l01Has.calls k _ _ k0 a0 p0 _ ?side1 ?side2 A2.out).mono ?_);(case side1=>exact cA ((Kd.R_reads' U0.out).2.2));(case side2=>exact (Kd.R_reads' U0.out).2.1);rintro e w' ⟨rfl,⟨nd,rfl⟩⟩;refine ⟨_,rfl,?_⟩))
 go_ret
 exact ⟨xq4,belA⟩

end Go.Proofs.Ytogdhclomgafdaa.PFnWireJobs
