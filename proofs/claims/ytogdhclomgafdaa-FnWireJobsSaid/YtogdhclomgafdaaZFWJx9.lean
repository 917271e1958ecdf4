-- Written by a program of this session (the print of the kit with contracts of this session's own added)
import Derived.Test.YtogdhclomgafdaaZFWJx1
import Derived.Test.YtogdhclomgafdaaZFWJx2
set_option maxHeartbeats 8000000
set_option maxRecDepth 100000
namespace Go.Proofs.Ytogdhclomgafdaa.PFnWireJobs
open Go.RowKit Go.Proofs.YtogdhclomgafdaaW.PrintWords Go.Proofs.YtogdhclomgafdaaW.PrintLast Go.Proofs.YtogdhclomgafdaaW.PrintMore Go.Proofs.YtogdhclomgafdaaW.PrintPack Go.Proofs.YtogdhclomgafdaaW.PrintPack
set_option linter.unusedVariables false
set_option linter.unusedSimpArgs false

def laws_same.l0:Nat → List Int → List Int → Int → Option (Bool)
 | 0,_,_,_=>none
 | k+1,x0,x1,x5=>if x5 < (x0.length:Int) then (if 0≤x5 then (if x5 < (x1.length:Int) then (if (rd x0 x5)=(rd x1 x5) then (laws_same.l0 k x0 x1 (wrap64 (x5+1))) else (some false)) else (none)) else (none)) else (some true)
def laws_same.f (k:Nat) (l0:List Int) (l1:List Int):Option (Bool):=if (l0.length:Int)=(l1.length:Int) then (laws_same.l0 k l0 l1 0) else (some false)
theorem laws_same.calls (k:Nat) (A0:Option Addr) (c0:Nat) (l0:List Int) (A1:Option Addr) (c1:Nat) (l1:List Int) (r:Bool) (w:World) (hr0:Kd.C (Kd.int .i64) w A0 l0.length l0) (hc0:l0.length≤c0) (hr1:Kd.C (Kd.int .i64) w A1 l1.length l1) (hc1:l1.length≤c1) (h:laws_same.f k l0 l1=some r) :
 Calls Try.prog 88 #[.slice A0 l0.length c0,.slice A1 l1.length c1] w fun e w'=>e=.returned (.bool r)∧Drawn0 w w':=by
 have b0:=ak hr0;have B0:=ak hc0;clear hr0 hc0;have b1:=ak hr1;have B2:=ak hc1;clear hr1 hc1;have H:=h;clear h;unfold laws_same.f at H
 by_cases c3:(l0.length:Int)=(l1.length:Int);rotate_left
 · rw [if_neg c3] at H;have x0:((l0.length:Int) == (l1.length:Int))=false:=beq_eq_false_iff_ne.mpr c3;have x1:((l0.length:Int) != (l1.length:Int))=true:=bne_iff_ne.mpr c3;have x2:(l0.length == l1.length)=false:=by first | simpa using c3 | (simp at c3 ⊢;omega)
   obtain rfl:=Option.some.inj H;go_enter Try.func88,Try.ntmps88
   go_wp2
   repeat (go_quiet (fail);try go_wp2)
   go_ret
   exact ⟨xq9,xq5⟩
 rw [if_pos c3] at H;have x0:((l0.length:Int) == (l1.length:Int))=true:=beq_iff_eq.mpr c3;have x1:((l0.length:Int) != (l1.length:Int))=false:=bne_eq_false_iff_eq.mpr c3;have x2:(l0.length == l1.length)=true:=by first | simpa using c3 | (simp at c3 ⊢;omega)
 clear c3;have H':=ak H;clear H;go_enter Try.func88,Try.ntmps88
 go_wp2
 repeat (go_quiet (fail);try go_wp2)
 go_loopg [5] k (fun kq v5 w'=>∃ (w3:Int),v5=.int .i64 w3∧Aside0 (laws_same.l0 kq l0 l1 w3=some r)∧Aside0 (kq≤k)∧Drawn0 w w')
 case atStart=>exact ⟨(0),eqA,H',⟨Nat.le_refl _⟩,xq5⟩
 case round =>
  clear H';obtain ⟨w3,rfl,HA,W0,⟨m1,rfl⟩⟩:=hrel
  cases gk with
  | zero=>exact absurd HA.out (by simp [laws_same.l0])
  | succ k1 =>
   have H:=HA.out;clear HA;simp only [laws_same.l0] at H
   by_cases c4:w3 < (l0.length:Int);rotate_left
   · rw [if_neg c4] at H;have x3:=decide_eq_false c4;clear c4;obtain rfl:=Option.some.inj H;go_wp2
     repeat (go_quiet (fail);try go_wp2)
     go_ret
     exact ⟨xq9,xq5⟩
   rw [if_pos c4] at H;have x3:=decide_eq_true c4;clear c4
   obtain ⟨c5,H⟩:=iN H;have x4:=decide_eq_true c5;clear c5
   obtain ⟨c6,H⟩:=iN H;have x5:=decide_eq_true c6;clear c6
   by_cases c7:(rd l0 w3)=(rd l1 w3);rotate_left
   · rw [if_neg c7] at H;have x6:((rd l0 w3) == (rd l1 w3))=false:=beq_eq_false_iff_ne.mpr c7;have x7:((rd l0 w3) != (rd l1 w3))=true:=bne_iff_ne.mpr c7;obtain rfl:=Option.some.inj H;have V0:0≤(w3:Int):=odA;have a5:w3 < (l0.length:Int):=odA;obtain ⟨A2,o0,O0⟩:=Kd.at_int b0.out w3 V0 a5
     cases o0
     replace V0:=eq_true V0;replace a5:=eq_true a5;have V1:0≤(w3:Int):=odA;have a6:w3 < (l1.length:Int):=odA;obtain ⟨A3,o1,O1⟩:=Kd.at_int b1.out w3 V1 a6
     cases o1
     replace V1:=eq_true V1;replace a6:=eq_true a6;go_wp2
     repeat (go_quiet (fail);try go_wp2)
     go_ret
     exact ⟨xq9,xq5⟩
   rw [if_pos c7] at H;have x6:((rd l0 w3) == (rd l1 w3))=true:=beq_iff_eq.mpr c7;have x7:((rd l0 w3) != (rd l1 w3))=false:=bne_eq_false_iff_eq.mpr c7;clear c7;have H':=ak H;clear H;have V0:0≤(w3:Int):=odA;have a5:w3 < (l0.length:Int):=odA;obtain ⟨A2,o0,O0⟩:=Kd.at_int b0.out w3 V0 a5
   cases o0
   replace V0:=eq_true V0;replace a5:=eq_true a5;have V1:0≤(w3:Int):=odA;have a6:w3 < (l1.length:Int):=odA;obtain ⟨A3,o1,O1⟩:=Kd.at_int b1.out w3 V1 a6
   cases o1
   replace V1:=eq_true V1;replace a6:=eq_true a6;go_wp2
   repeat (go_quiet (fail);try go_wp2)
   go_roundg k1
   case measure=>have:=W0.out;omega
   case rel=>exact ⟨(wrap64 (w3+1)),eqA,H',⟨xq14⟩,xq5⟩

def laws_sameJob.f (k:Nat) (a0_0:Int) (a0_1:Int) (l0_2:List Int) (l0_3:List Int) (a0_4:Int) (a1_0:Int) (a1_1:Int) (l1_2:List Int) (l1_3:List Int) (a1_4:Int):Option (Bool):=if a0_0=a1_0 then (if a0_1=a1_1 then (if a0_4=a1_4 then ((laws_same.f k l0_2 l1_2).bind fun t200=>(if t200=true then ((laws_same.f k l0_3 l1_3).bind fun t201=>(some t201)) else (some false))) else (some false)) else (some false)) else (some false)
theorem laws_sameJob.calls (k:Nat) (a0_0:Int) (a0_1:Int) (A0_2:Option Addr) (c0_2:Nat) (l0_2:List Int) (A0_3:Option Addr) (c0_3:Nat) (l0_3:List Int) (a0_4:Int) (a1_0:Int) (a1_1:Int) (A1_2:Option Addr) (c1_2:Nat) (l1_2:List Int) (A1_3:Option Addr) (c1_3:Nat) (l1_3:List Int) (a1_4:Int) (r:Bool) (w:World) (hr0_2:Kd.C (Kd.int .i64) w A0_2 l0_2.length l0_2) (hc0_2:l0_2.length≤c0_2) (hr0_3:Kd.C (Kd.int .i64) w A0_3 l0_3.length l0_3) (hc0_3:l0_3.length≤c0_3) (hr1_2:Kd.C (Kd.int .i64) w A1_2 l1_2.length l1_2) (hc1_2:l1_2.length≤c1_2) (hr1_3:Kd.C (Kd.int .i64) w A1_3 l1_3.length l1_3) (hc1_3:l1_3.length≤c1_3) (h:laws_sameJob.f k a0_0 a0_1 l0_2 l0_3 a0_4 a1_0 a1_1 l1_2 l1_3 a1_4=some r) :
 Calls Try.prog 48 #[.agg #[.int .i64 a0_0,.int .i64 a0_1,.slice A0_2 l0_2.length c0_2,.slice A0_3 l0_3.length c0_3,.int .i64 a0_4],.agg #[.int .i64 a1_0,.int .i64 a1_1,.slice A1_2 l1_2.length c1_2,.slice A1_3 l1_3.length c1_3,.int .i64 a1_4]] w fun e w'=>e=.returned (.bool r)∧Below w.heap.size w w':=by
 have b0:=Try.underlying49;have b1:=ak hr0_2;have B0:=ak hc0_2;clear hr0_2 hc0_2;have b2:=ak hr0_3;have B2:=ak hc0_3;clear hr0_3 hc0_3;have b3:=ak hr1_2;have B6:=ak hc1_2;clear hr1_2 hc1_2;have b4:=ak hr1_3;have B8:=ak hc1_3;clear hr1_3 hc1_3;have HB:=ak (Below.refl w.heap.size w);have H:=h;clear h;unfold laws_sameJob.f at H
 by_cases c3:a0_0=a1_0;rotate_left
 · rw [if_neg c3] at H;have x0:(a0_0 == a1_0)=false:=beq_eq_false_iff_ne.mpr c3;have x1:(a0_0 != a1_0)=true:=bne_iff_ne.mpr c3;obtain rfl:=Option.some.inj H;go_enter Try.func48,Try.ntmps48
   go_wp2_with (first | ((with_reducible refine gate_dst (N:=2) rfl ?_);refine boxA 2 #[.int .i64 a0_0,.int .i64 a0_1,.slice A0_2 l0_2.length c0_2,.slice A0_3 l0_3.length c0_3,.int .i64 a0_4] 49 ?_;intro l2 hg S0 hbox hb;have B9:=ak hbox;have w3:=leA (w:=w) hg;have W0:=leA (w:=w) hg;replace HB:=bS hb;clear hb hbox hg) | ((with_reducible refine gate_dst (N:=3) rfl ?_);refine boxA 3 #[.int .i64 a1_0,.int .i64 a1_1,.slice A1_2 l1_2.length c1_2,.slice A1_3 l1_3.length c1_3,.int .i64 a1_4] 49 ?_;intro l3 hg S1 hbox hb;have Ba:=ak hbox;have w4:=leA (w:=w) hg;have W1:=leA (w:=w) hg;have N0:=neL hg B9;have N1:=neG hg B9;replace B9:=bB B9 hb;replace HB:=bS hb;clear hb hbox hg;have c0:=N0.out;have C0:=N1.out;obtain ⟨_,_,_,_,_,_,_,_,_,_⟩:=cel5 B9;obtain ⟨_,_,_,_,_,_,_,_,_,_⟩:=cel5 Ba))
   go_ret
   exact ⟨xq4,belA⟩
 rw [if_pos c3] at H;have x0:(a0_0 == a1_0)=true:=beq_iff_eq.mpr c3;have x1:(a0_0 != a1_0)=false:=bne_eq_false_iff_eq.mpr c3;clear c3
 by_cases c4:a0_1=a1_1;rotate_left
 · rw [if_neg c4] at H;have x2:(a0_1 == a1_1)=false:=beq_eq_false_iff_ne.mpr c4;have x3:(a0_1 != a1_1)=true:=bne_iff_ne.mpr c4;obtain rfl:=Option.some.inj H;go_enter Try.func48,Try.ntmps48
   go_wp2_with (first | ((with_reducible refine gate_dst (N:=2) rfl ?_);refine boxA 2 #[.int .i64 a0_0,.int .i64 a0_1,.slice A0_2 l0_2.length c0_2,.slice A0_3 l0_3.length c0_3,.int .i64 a0_4] 49 ?_;intro l2 hg S2 hbox hb;have B9:=ak hbox;have w3:=leA (w:=w) hg;have W0:=leA (w:=w) hg;replace HB:=bS hb;clear hb hbox hg) | ((with_reducible refine gate_dst (N:=3) rfl ?_);refine boxA 3 #[.int .i64 a1_0,.int .i64 a1_1,.slice A1_2 l1_2.length c1_2,.slice A1_3 l1_3.length c1_3,.int .i64 a1_4] 49 ?_;intro l3 hg S3 hbox hb;have Ba:=ak hbox;have w4:=leA (w:=w) hg;have W1:=leA (w:=w) hg;have N0:=neL hg B9;have N1:=neG hg B9;replace B9:=bB B9 hb;replace HB:=bS hb;clear hb hbox hg;have c1:=N0.out;have C1:=N1.out;obtain ⟨_,_,_,_,_,_,_,_,_,_⟩:=cel5 B9;obtain ⟨_,_,_,_,_,_,_,_,_,_⟩:=cel5 Ba))
   go_ret
   exact ⟨xq4,belA⟩
 rw [if_pos c4] at H;have x2:(a0_1 == a1_1)=true:=beq_iff_eq.mpr c4;have x3:(a0_1 != a1_1)=false:=bne_eq_false_iff_eq.mpr c4;clear c4
 by_cases c5:a0_4=a1_4;rotate_left
 · rw [if_neg c5] at H;have x4:(a0_4 == a1_4)=false:=beq_eq_false_iff_ne.mpr c5;have x5:(a0_4 != a1_4)=true:=bne_iff_ne.mpr c5;obtain rfl:=Option.some.inj H;go_enter Try.func48,Try.ntmps48
   go_wp2_with (first | ((with_reducible refine gate_dst (N:=2) rfl ?_);refine boxA 2 #[.int .i64 a0_0,.int .i64 a0_1,.slice A0_2 l0_2.length c0_2,.slice A0_3 l0_3.length c0_3,.int .i64 a0_4] 49 ?_;intro l2 hg S4 hbox hb;have B9:=ak hbox;have w3:=leA (w:=w) hg;have W0:=leA (w:=w) hg;replace HB:=bS hb;clear hb hbox hg) | ((with_reducible refine gate_dst (N:=3) rfl ?_);refine boxA 3 #[.int .i64 a1_0,.int .i64 a1_1,.slice A1_2 l1_2.length c1_2,.slice A1_3 l1_3.length c1_3,.int .i64 a1_4] 49 ?_;intro l3 hg S5 hbox hb;have Ba:=ak hbox;have w4:=leA (w:=w) hg;have W1:=leA (w:=w) hg;have N0:=neL hg B9;have N1:=neG hg B9;replace B9:=bB B9 hb;replace HB:=bS hb;clear hb hbox hg;have ca:=N0.out;have C2:=N1.out;obtain ⟨_,_,_,_,_,_,_,_,_,_⟩:=cel5 B9;obtain ⟨_,_,_,_,_,_,_,_,_,_⟩:=cel5 Ba))
   go_ret
   exact ⟨xq4,belA⟩
 rw [if_pos c5] at H;have x4:(a0_4 == a1_4)=true:=beq_iff_eq.mpr c5;have x5:(a0_4 != a1_4)=false:=bne_eq_false_iff_eq.mpr c5;clear c5;obtain ⟨p0,A6,H⟩:=ob H;(try dsimp only at H)
 by_cases c7:p0=true;rotate_left
 · replace c7:=Bool.eq_false_iff.mpr c7;subst c7;rw [if_neg (show ¬ (false=true) by decide)] at H;obtain rfl:=Option.some.inj H;go_enter Try.func48,Try.ntmps48
   go_wp2_with (first | ((with_reducible refine gate_dst (N:=2) rfl ?_);refine boxA 2 #[.int .i64 a0_0,.int .i64 a0_1,.slice A0_2 l0_2.length c0_2,.slice A0_3 l0_3.length c0_3,.int .i64 a0_4] 49 ?_;intro l2 hg S6 hbox hb;have B9:=ak hbox;have w3:=leA (w:=w) hg;have W0:=leA (w:=w) hg;replace HB:=bS hb;clear hb hbox hg) | ((with_reducible refine gate_dst (N:=3) rfl ?_);refine boxA 3 #[.int .i64 a1_0,.int .i64 a1_1,.slice A1_2 l1_2.length c1_2,.slice A1_3 l1_3.length c1_3,.int .i64 a1_4] 49 ?_;intro l3 hg S7 hbox hb;have Ba:=ak hbox;have w4:=leA (w:=w) hg;have W1:=leA (w:=w) hg;have N0:=neL hg B9;have N1:=neG hg B9;replace B9:=bB B9 hb;replace HB:=bS hb;clear hb hbox hg;have cb:=N0.out;have C3:=N1.out;obtain ⟨_,_,_,_,_,_,_,_,_,_⟩:=cel5 B9;obtain ⟨_,_,_,_,_,_,_,_,_,_⟩:=cel5 Ba) | (go_at_call 88;(with_reducible refine (laws_same.calls k _ _ l0_2 _ _ l1_2 false _ ?side1 B0.out ?side3 B6.out A6.out).mono ?_);(case side1=>exact cA (Kd.C_below b1.out HB.out));(case side3=>exact cA (Kd.C_below b3.out HB.out));rintro e w' ⟨rfl,⟨nd,rfl⟩⟩))
   go_ret
   exact ⟨xq4,belA⟩
 subst c7;rw [if_pos rfl] at H;obtain ⟨p1,A8,H⟩:=ob H;(try dsimp only at H);obtain rfl:=Option.some.inj H;go_enter Try.func48,Try.ntmps48
 go_wp2_with (first | ((with_reducible refine gate_dst (N:=2) rfl ?_);refine boxA 2 #[.int .i64 a0_0,.int .i64 a0_1,.slice A0_2 l0_2.length c0_2,.slice A0_3 l0_3.length c0_3,.int .i64 a0_4] 49 ?_;intro l2 hg w9 hbox hb;have B9:=ak hbox;have w3:=leA (w:=w) hg;have W0:=leA (w:=w) hg;replace HB:=bS hb;clear hb hbox hg) | ((with_reducible refine gate_dst (N:=3) rfl ?_);refine boxA 3 #[.int .i64 a1_0,.int .i64 a1_1,.slice A1_2 l1_2.length c1_2,.slice A1_3 l1_3.length c1_3,.int .i64 a1_4] 49 ?_;intro l3 hg S8 hbox hb;have Ba:=ak hbox;have w4:=leA (w:=w) hg;have W1:=leA (w:=w) hg;have N0:=neL hg B9;have N1:=neG hg B9;replace B9:=bB B9 hb;replace HB:=bS hb;clear hb hbox hg;have cc:=N0.out;have C4:=N1.out;obtain ⟨_,_,_,_,_,_,_,_,_,_⟩:=cel5 B9;obtain ⟨_,_,_,_,_,_,_,_,_,_⟩:=cel5 Ba) | (go_at_call 88;(with_reducible refine (laws_same.calls k _ _ l0_2 _ _ l1_2 true _ ?side1 B0.out ?side3 B6.out A6.out).mono ?_);(case side1=>exact cA (Kd.C_below b1.out HB.out));(case side3=>exact cA (Kd.C_below b3.out HB.out));rintro e w' ⟨rfl,⟨nd,rfl⟩⟩) | (go_at_call 88;(with_reducible refine (laws_same.calls k _ _ l0_3 _ _ l1_3 p1 _ ?side1 B2.out ?side3 B8.out A8.out).mono ?_);(case side1=>exact cA (Kd.C_below b2.out belA));(case side3=>exact cA (Kd.C_below b4.out belA));rintro e w' ⟨rfl,⟨nd,rfl⟩⟩))
 go_ret
 exact ⟨xq4,belA⟩

def laws_cpBytes.l0:Nat → List Int → List Int → Int → Option (List Int)
 | 0,_,_,_=>none
 | k+1,x0,x3,x4=>if x4 < (x0.length:Int) then (if 0≤x4 then (if x3.length < 140737488355328 then (laws_cpBytes.l0 k x0 (x3 ++ [rd x0 x4]) (wrap64 (x4+1))) else (none)) else (none)) else (some x3)
def laws_cpBytes.f (k:Nat) (l0:List Int):Option (List Int):=laws_cpBytes.l0 k l0 (([]:List Int)) 0
theorem laws_cpBytes.calls (k:Nat) (A0:Option Addr) (c0:Nat) (l0:List Int) (r:List Int) (w:World) (hr0:Kd.C (Kd.int .u8) w A0 l0.length l0) (hc0:l0.length≤c0) (h:laws_cpBytes.f k l0=some r) :
 Calls Try.prog 52 #[.slice A0 l0.length c0] w fun e w'=>∃ v0_:Value,e=.returned (v0_)∧Kd.R (Kd.int .u8) 5 w' w.heap.size (fun _=>True) v0_ r∧Below w.heap.size w w':=by
 have b0:=ak hr0;have B0:=ak hc0;clear hr0 hc0;have HB:=ak (Below.refl w.heap.size w);have H:(laws_cpBytes.l0 k l0 (([]:List Int)) 0)=some r:=h;clear h;obtain ⟨k0,hyq⟩:∃ y_:List Int,y_=(([]:List Int)):=⟨_,rfl⟩;replace H:(laws_cpBytes.l0 k l0 k0 0)=some r:=xq7
 have K0:=ak hyq;clear hyq;have H':=ak H;clear H;go_enter Try.func52,Try.ntmps52
 go_wp2_with (first | ((with_reducible refine gate_dst (N:=5) rfl ?_);refine Kd.R_lit (Kd.int .u8) _ 5 ?hg (N:=5) ?hd (xs:=([]:List Int)) (inner:=[]) (ok:=fun _=>True) (okp:=fun _=>True) ?hr ?hp (fun _ hk=>hk) trivial (Below.refl _ _) (Nat.le_refl _) (by simp) ?_;(case hd=>rfl);(case hg=>rfl);(case hr=>exact xq10);(case hp=>exact (Reps.none _ _));intro N0 w2 u5 hb hg_ hnew_;clear hg_ hnew_;(first | rw [← K0.out] at u5 | (simp only [Int.reduceToNat] at u5;rw [← K0.out] at u5));have U0:=rL u5;replace HB:=bS hb;clear hb u5))
 go_loopg [3,4] k (fun kq v3 v4 w'=>∃ (w3:List Int) (w4:Int),v4=.int .i64 w4∧Aside0 (laws_cpBytes.l0 kq l0 w3 w4=some r)∧Aside0 (kq≤k)∧Aside0 (Kd.R (Kd.int .u8) 5 w' w.heap.size (fun _=>True) v3 w3)∧Aside0 (Below w.heap.size w w'))
 case atStart=>exact ⟨(k0),(0),eqA,H',⟨Nat.le_refl _⟩,⟨rA U0⟩,⟨belA⟩⟩
 case round =>
  clear H';obtain ⟨w3,w4,rfl,HA,W0,U1,HB⟩:=hrel
  cases gk with
  | zero=>exact absurd HA.out (by simp [laws_cpBytes.l0])
  | succ k1 =>
   have H:=HA.out;clear HA;simp only [laws_cpBytes.l0] at H
   by_cases c4:w4 < (l0.length:Int);rotate_left
   · rw [if_neg c4] at H;have x0:=decide_eq_false c4;clear c4;obtain rfl:=Option.some.inj H;go_wp2
     go_ret
     exact ⟨_,xq4,xq23,belA⟩
   rw [if_pos c4] at H;have x0:=decide_eq_true c4;clear c4
   obtain ⟨c5,H⟩:=iN H;have x1:=decide_eq_true c5;clear c5
   obtain ⟨c6,H⟩:=iN H;have E0:=ak c6;clear c6;obtain ⟨k2,hyq⟩:∃ y_:List Int,y_=(w3 ++ [rd l0 w4]):=⟨_,rfl⟩;replace H:(laws_cpBytes.l0 k1 l0 k2 (wrap64 (w4+1)))=some r:=xq7
   have K1:=ak hyq;clear hyq;have H':=ak H;clear H;have V0:0≤(w4:Int):=odA;have a5:w4 < (l0.length:Int):=odA;obtain ⟨A1,o0,O0⟩:=Kd.at_int b0.out w4 V0 a5
   cases o0
   try replace O0:=cB HB O0
   replace V0:=eq_true V0;replace a5:=eq_true a5;go_wp2_with (first | ((with_reducible refine gate_builtin (b:=.append) (xs:=#[.tmp 12,.tmp 17]) rfl ?_);at_builtin;refine Kd.R_append (Kd.int .u8) (w0:=w) w.heap.size rfl (.tmp 12) (.tmp 17) 22 5 (.int .u8 0) 1 rfl Try.underlying22 info5 rfl (by decide) (by omega) u3 w3 (rd l0 w4) [.int .u8 (rd l0 w4)] (fun _=>True) (fun _=>False) rfl rfl ?aP (fun _ hk=>hk.elim) ?aF ?aO ?aB ?aS ?aL ?_;(case aP=>exact rfl);(case aB=>exact belA);(case aF=>exact (fun _ _=>trivial));(case aO=>exact (rF U1));(case aS=>exact (below_size belA));(case aL=>exact xq15);intro N1 w7 ho hb hg hat;rw [← K1.out] at ho;have U2:=ak ho;replace HB:=ak hb;clear U1;clear ho hb hg hat))
   go_roundg k1
   case measure=>have:=W0.out;omega
   case rel=>exact ⟨(k2),(wrap64 (w4+1)),eqA,H',⟨xq14⟩,⟨rA U2⟩,⟨belA⟩⟩

def laws_sameBytes.l0:Nat → List Int → List Int → Int → Option (Bool)
 | 0,_,_,_=>none
 | k+1,x0,x1,x5=>if x5 < (x0.length:Int) then (if 0≤x5 then (if x5 < (x1.length:Int) then (if (rd x0 x5)=(rd x1 x5) then (laws_sameBytes.l0 k x0 x1 (wrap64 (x5+1))) else (some false)) else (none)) else (none)) else (some true)
def laws_sameBytes.f (k:Nat) (l0:List Int) (l1:List Int):Option (Bool):=if (l0.length:Int)=(l1.length:Int) then (laws_sameBytes.l0 k l0 l1 0) else (some false)
theorem laws_sameBytes.calls (k:Nat) (A0:Option Addr) (c0:Nat) (l0:List Int) (A1:Option Addr) (c1:Nat) (l1:List Int) (r:Bool) (w:World) (hr0:Kd.C (Kd.int .u8) w A0 l0.length l0) (hc0:l0.length≤c0) (hr1:Kd.C (Kd.int .u8) w A1 l1.length l1) (hc1:l1.length≤c1) (h:laws_sameBytes.f k l0 l1=some r) :
 Calls Try.prog 53 #[.slice A0 l0.length c0,.slice A1 l1.length c1] w fun e w'=>e=.returned (.bool r)∧Drawn0 w w':=by
 have b0:=ak hr0;have B0:=ak hc0;clear hr0 hc0;have b1:=ak hr1;have B2:=ak hc1;clear hr1 hc1;have H:=h;clear h;unfold laws_sameBytes.f at H
 by_cases c3:(l0.length:Int)=(l1.length:Int);rotate_left
 · rw [if_neg c3] at H;have x0:((l0.length:Int) == (l1.length:Int))=false:=beq_eq_false_iff_ne.mpr c3;have x1:((l0.length:Int) != (l1.length:Int))=true:=bne_iff_ne.mpr c3;have x2:(l0.length == l1.length)=false:=by first | simpa using c3 | (simp at c3 ⊢;omega)
   obtain rfl:=Option.some.inj H;go_enter Try.func53,Try.ntmps53
   go_wp2
   repeat (go_quiet (fail);try go_wp2)
   go_ret
   exact ⟨xq9,xq5⟩
 rw [if_pos c3] at H;have x0:((l0.length:Int) == (l1.length:Int))=true:=beq_iff_eq.mpr c3;have x1:((l0.length:Int) != (l1.length:Int))=false:=bne_eq_false_iff_eq.mpr c3;have x2:(l0.length == l1.length)=true:=by first | simpa using c3 | (simp at c3 ⊢;omega)
 clear c3;have H':=ak H;clear H;go_enter Try.func53,Try.ntmps53
 go_wp2
 repeat (go_quiet (fail);try go_wp2)
 go_loopg [5] k (fun kq v5 w'=>∃ (w3:Int),v5=.int .i64 w3∧Aside0 (laws_sameBytes.l0 kq l0 l1 w3=some r)∧Aside0 (kq≤k)∧Drawn0 w w')
 case atStart=>exact ⟨(0),eqA,H',⟨Nat.le_refl _⟩,xq5⟩
 case round =>
  clear H';obtain ⟨w3,rfl,HA,W0,⟨m1,rfl⟩⟩:=hrel
  cases gk with
  | zero=>exact absurd HA.out (by simp [laws_sameBytes.l0])
  | succ k1 =>
   have H:=HA.out;clear HA;simp only [laws_sameBytes.l0] at H
   by_cases c4:w3 < (l0.length:Int);rotate_left
   · rw [if_neg c4] at H;have x3:=decide_eq_false c4;clear c4;obtain rfl:=Option.some.inj H;go_wp2
     repeat (go_quiet (fail);try go_wp2)
     go_ret
     exact ⟨xq9,xq5⟩
   rw [if_pos c4] at H;have x3:=decide_eq_true c4;clear c4
   obtain ⟨c5,H⟩:=iN H;have x4:=decide_eq_true c5;clear c5
   obtain ⟨c6,H⟩:=iN H;have x5:=decide_eq_true c6;clear c6
   by_cases c7:(rd l0 w3)=(rd l1 w3);rotate_left
   · rw [if_neg c7] at H;have x6:((rd l0 w3) == (rd l1 w3))=false:=beq_eq_false_iff_ne.mpr c7;have x7:((rd l0 w3) != (rd l1 w3))=true:=bne_iff_ne.mpr c7;obtain rfl:=Option.some.inj H;have V0:0≤(w3:Int):=odA;have a5:w3 < (l0.length:Int):=odA;obtain ⟨A2,o0,O0⟩:=Kd.at_int b0.out w3 V0 a5
     cases o0
     replace V0:=eq_true V0;replace a5:=eq_true a5;have V1:0≤(w3:Int):=odA;have a6:w3 < (l1.length:Int):=odA;obtain ⟨A3,o1,O1⟩:=Kd.at_int b1.out w3 V1 a6
     cases o1
     replace V1:=eq_true V1;replace a6:=eq_true a6;go_wp2
     repeat (go_quiet (fail);try go_wp2)
     go_ret
     exact ⟨xq9,xq5⟩
   rw [if_pos c7] at H;have x6:((rd l0 w3) == (rd l1 w3))=true:=beq_iff_eq.mpr c7;have x7:((rd l0 w3) != (rd l1 w3))=false:=bne_eq_false_iff_eq.mpr c7;clear c7;have H':=ak H;clear H;have V0:0≤(w3:Int):=odA;have a5:w3 < (l0.length:Int):=odA;obtain ⟨A2,o0,O0⟩:=Kd.at_int b0.out w3 V0 a5
   cases o0
   replace V0:=eq_true V0;replace a5:=eq_true a5;have V1:0≤(w3:Int):=odA;have a6:w3 < (l1.length:Int):=odA;obtain ⟨A3,o1,O1⟩:=Kd.at_int b1.out w3 V1 a6
   cases o1
   replace V1:=eq_true V1;replace a6:=eq_true a6;go_wp2
   repeat (go_quiet (fail);try go_wp2)
   go_roundg k1
   case measure=>have:=W0.out;omega
   case rel=>exact ⟨(wrap64 (w3+1)),eqA,H',⟨xq14⟩,xq5⟩

/-- A state of type 121 at block g of W; what its slices lead to came in by w0. -/
def IsS121 (w0 W:World) (g:Nat) (f0:List Int) (f1:Int) (f2:Int):Prop:=∃ A0 c0,W.heap[g]?=some (.cells #[.slice A0 f0.length c0,.int .i64 f1,.int .i64 f2] 121 (0,0))∧w0.heap.size≤g∧Kd.C (Kd.int .u8) w0 A0 f0.length f0
theorem IsS121.grown {w0 W:World} {g:Nat} {f0:List Int} {f1:Int} {f2:Int} {W1:World} {row:Option Nat} (h:IsS121 w0 W g f0 f1 f2) (hw:W.grownBy W1 row) (hne:some g≠row):IsS121 w0 W1 g f0 f1 f2:=by
 obtain ⟨A0,c0,hb,hg,K0⟩:=h;exact ⟨A0,c0,blk_grown hb hw hne,hg,K0⟩
theorem IsS121.own_neN {w0 W:World} {g:Nat} {f0:List Int} {f1:Int} {f2:Int} {α:Type} {d:Kd α} {e:Nat} {base:Nat} {ok:Nat → Prop} {v:Value} {xs:List α} (h:IsS121 w0 W g f0 f1 f2) (ho:Kd.N d e W base ok v xs) (ht:e≠121):some g≠v.ownBlock:=by
 obtain ⟨A0,c0,hb,hg,K0⟩:=h;exact Kd.N_ne ho hb ht
theorem IsS121.fresh {w0 W:World} {g:Nat} {f0:List Int} {f1:Int} {f2:Int} (h:IsS121 w0 W g f0 f1 f2):∀ k,W.heap.size≤k → k≠g:=by
 obtain ⟨A0,c0,hb,hg,K0⟩:=h;exact Kd.freshB hb
theorem IsS121.kept {w0 W:World} {g:Nat} {f0:List Int} {f1:Int} {f2:Int} {W1:World} {S:Nat → Prop} (h:IsS121 w0 W g f0 f1 f2) (hk:Kept W W1 S) (hne:¬ S g):IsS121 w0 W1 g f0 f1 f2:=by
 obtain ⟨A0,c0,hb,hg,K0⟩:=h;exact ⟨A0,c0,blk_kept hb hk hne,hg,K0⟩
theorem IsS121.below {w0 W:World} {g:Nat} {f0:List Int} {f1:Int} {f2:Int} {W1:World} (h:IsS121 w0 W g f0 f1 f2) (hw:Below W.heap.size W W1):IsS121 w0 W1 g f0 f1 f2:=h.grown (grown_of_below hw none) (by simp)
theorem IsS121.alloc {w0 W:World} {g:Nat} {f0:List Int} {f1:Int} {f2:Int} (h:IsS121 w0 W g f0 f1 f2) (o:Obj):IsS121 w0 (W.alloc o) g f0 f1 f2:=h.below (below_alloc (Below.refl _ _) o)
theorem IsS121.drewN {w0 W:World} {g:Nat} {f0:List Int} {f1:Int} {f2:Int} (h:IsS121 w0 W g f0 f1 f2) (m:Nat):IsS121 w0 (W.drewN m) g f0 f1 f2:=h
theorem IsS121.drew {w0 W:World} {g:Nat} {f0:List Int} {f1:Int} {f2:Int} (h:IsS121 w0 W g f0 f1 f2):IsS121 w0 W.drew g f0 f1 f2:=h
theorem IsS121.at_ {w0 W:World} {g:Nat} {f0:List Int} {f1:Int} {f2:Int} {w':World} {m:Nat} (hq:W.drewN m=w') (h:IsS121 w0 W g f0 f1 f2):IsS121 w0 w' g f0 f1 f2:=by subst hq;exact IsS121.drewN h m
theorem IsS121.apart {w0 W:World} {g:Nat} {f0:List Int} {f1:Int} {f2:Int} {α:Type} {d:Kd α} {e:Nat} {base:Nat} {ok:Nat → Prop} {v:Value} {xs:List α} (h:IsS121 w0 W g f0 f1 f2) (ho:d.R e W base ok v xs) (ht:∀ q,q ∈ e :: d.E → q≠121):d.R e W base (fun k=>ok k∧k≠g) v xs:=by
 obtain ⟨A0,c0,hb,hg,K0⟩:=h;exact Kd.R_types ho hb ht
theorem IsS121.own_ne {w0 W:World} {g:Nat} {f0:List Int} {f1:Int} {f2:Int} {α:Type} {d:Kd α} {e:Nat} {base:Nat} {ok:Nat → Prop} {v:Value} {xs:List α} (h:IsS121 w0 W g f0 f1 f2) (ho:d.R e W base ok v xs) (ht:e≠121):some g≠v.ownBlock:=by
 obtain ⟨A0,c0,hb,hg,K0⟩:=h;exact Kd.R_ne ho hb ht
theorem IsS121.apartQ {w0 W:World} {g:Nat} {f0:List Int} {f1:Int} {f2:Int} {α:Type} {d:Kd α} {e:Nat} {base:Nat} {ok:Nat → Prop} {v:Value} {xs:List α} (h:IsS121 w0 W g f0 f1 f2) (ho:d.Q e W base ok v xs) (ht:∀ q,q ∈ e :: d.E → q≠121):d.Q e W base (fun k=>ok k∧k≠g) v xs:=by
 obtain ⟨A0,c0,hb,hg,K0⟩:=h;exact Kd.Q_types ho hb ht
theorem IsS121.own_neQ {w0 W:World} {g:Nat} {f0:List Int} {f1:Int} {f2:Int} {α:Type} {d:Kd α} {e:Nat} {base:Nat} {ok:Nat → Prop} {v:Value} {xs:List α} (h:IsS121 w0 W g f0 f1 f2) (ho:d.Q e W base ok v xs) (ht:e≠121):some g≠v.ownBlock:=by
 obtain ⟨A0,c0,hb,hg,K0⟩:=h;exact Kd.Q_ne ho hb ht
theorem IsS121.apartS {w0 W:World} {g:Nat} {f0:List Int} {f1:Int} {f2:Int} {α:Type} {d:Kd α} {e:Nat} {base:Nat} {ok:Nat → Prop} {v:Value} {xs:List α} (h:IsS121 w0 W g f0 f1 f2) (ho:d.S e W base ok v xs) (ht:∀ q,q ∈ e :: d.E → q≠121):d.S e W base (fun k=>ok k∧k≠g) v xs:=by
 obtain ⟨A0,c0,hb,hg,K0⟩:=h;exact Kd.S_types ho hb ht
theorem IsS121.own_neS {w0 W:World} {g:Nat} {f0:List Int} {f1:Int} {f2:Int} {α:Type} {d:Kd α} {e:Nat} {base:Nat} {ok:Nat → Prop} {v:Value} {xs:List α} (h:IsS121 w0 W g f0 f1 f2) (ho:d.S e W base ok v xs) (ht:e≠121):some g≠v.ownBlock:=by
 obtain ⟨A0,c0,hb,hg,K0⟩:=h;exact Kd.S_ne ho hb ht
theorem IsS121.lt {w0 W:World} {g:Nat} {f0:List Int} {f1:Int} {f2:Int} (h:IsS121 w0 W g f0 f1 f2):g < W.heap.size:=by
 obtain ⟨A0,c0,hb,hg,K0⟩:=h;exact blk_lt hb
theorem IsS121.ge {w0 W:World} {g:Nat} {f0:List Int} {f1:Int} {f2:Int} (h:IsS121 w0 W g f0 f1 f2):w0.heap.size≤g:=by
 obtain ⟨A0,c0,hb,hg,K0⟩:=h;exact hg
theorem IsS121.ne_blk {w0 W:World} {g:Nat} {f0:List Int} {f1:Int} {f2:Int} {a:Nat} {cs:Array Value} {t:TypeId} {fr:Nat × Nat} (h:IsS121 w0 W g f0 f1 f2) (hb2:W.heap[a]?=some (.cells cs t fr)) (ht:t≠121):g≠a:=by
 obtain ⟨A0,c0,hb,hg,K0⟩:=h;rintro rfl
 rw [hb] at hb2;injection hb2 with hb2
 injection hb2 with _ O0
 exact ht O0.symm
theorem IsS121.far {w0 W:World} {g:Nat} {f0:List Int} {f1:Int} {f2:Int} {p:Addr} (h:IsS121 w0 W g f0 f1 f2) (hne:g≠p.block) (u:Value):IsS121 w0 (W.setCell p u) g f0 f1 f2:=by
 obtain ⟨A0,c0,hb,hg,K0⟩:=h;exact ⟨A0,c0,blk_far hb hne u,hg,K0⟩
theorem cellS121_0 {W:World} {g:Nat} {A0:Option Addr} {c0:Nat} {f0:List Int} {f1:Int} {f2:Int} (h:W.heap[g]?=some (.cells #[.slice A0 f0.length c0,.int .i64 f1,.int .i64 f2] 121 (0,0))):W.cell? ⟨g,0,none⟩=some (.slice A0 f0.length c0):=(blk_cell h 0).trans rfl
theorem cellS121_1 {W:World} {g:Nat} {A0:Option Addr} {c0:Nat} {f0:List Int} {f1:Int} {f2:Int} (h:W.heap[g]?=some (.cells #[.slice A0 f0.length c0,.int .i64 f1,.int .i64 f2] 121 (0,0))):W.cell? ⟨g,1,none⟩=some (.int .i64 f1):=(blk_cell h 1).trans rfl
theorem IsS121.set_1 {w0 W:World} {g:Nat} {f0:List Int} {f1:Int} {f2:Int} (h:IsS121 w0 W g f0 f1 f2) (x:Int):IsS121 w0 (W.setCell ⟨g,1,none⟩ (.int .i64 x)) g f0 x f2:=by
 obtain ⟨A0,c0,hb,hg,K0⟩:=h;exact ⟨A0,c0,by simpa using blk_set hb 1 (.int .i64 x),hg,K0⟩
theorem cellS121_2 {W:World} {g:Nat} {A0:Option Addr} {c0:Nat} {f0:List Int} {f1:Int} {f2:Int} (h:W.heap[g]?=some (.cells #[.slice A0 f0.length c0,.int .i64 f1,.int .i64 f2] 121 (0,0))):W.cell? ⟨g,2,none⟩=some (.int .i64 f2):=(blk_cell h 2).trans rfl
theorem IsS121.set_2 {w0 W:World} {g:Nat} {f0:List Int} {f1:Int} {f2:Int} (h:IsS121 w0 W g f0 f1 f2) (x:Int):IsS121 w0 (W.setCell ⟨g,2,none⟩ (.int .i64 x)) g f0 f1 x:=by
 obtain ⟨A0,c0,hb,hg,K0⟩:=h;exact ⟨A0,c0,by simpa using blk_set hb 2 (.int .i64 x),hg,K0⟩
theorem IsS121.new (w0 W:World) (A0:Option Addr) (c0:Nat) (f0:List Int) (f1:Int) (f2:Int) (hB:Below w0.heap.size w0 W) (hr0:Kd.C (Kd.int .u8) w0 A0 f0.length f0):IsS121 w0 (W.alloc (.cells #[.slice A0 f0.length c0,.int .i64 f1,.int .i64 f2] 121)) W.heap.size f0 f1 f2:=⟨A0,c0,by simpa using heap_alloc_new W _,hB.size,hr0⟩

def spec_l01New.l0:Nat → List Int → Int → Int → Option (List Int × Int × Int)
 | 0,_,_,_=>none
 | k+1,x0,x3,x4=>if x4 < (x0.length:Int) then (if x4 < 4000 then (if 0≤x4 then (spec_l01New.l0 k x0 (Go.bits .and .i64 (wrap64 ((wrap64 ((wrap64 (x3 * 149))+(wrap64 (rd x0 x4))))+11)) 1073741823) (wrap64 (x4+1))) else (none)) else (some (x0,0,x3))) else (some (x0,0,x3))
def spec_l01New.f (k:Nat) (l0:List Int):Option (List Int × Int × Int):=spec_l01New.l0 k l0 (wrap64 (710710+(l0.length:Int))) 0
theorem spec_l01New.calls (k:Nat) (A0:Option Addr) (c0:Nat) (l0:List Int) (r1:List Int) (r2:Int) (r3:Int) (w0 w:World) (hB:Below w0.heap.size w0 w) (hr0:Kd.C (Kd.int .u8) w0 A0 l0.length l0) (hc0:l0.length≤c0) (h:spec_l01New.f k l0=some (r1,r2,r3)) :
 Calls Try.prog 58 #[.slice A0 l0.length c0] w fun e w'=>∃ g_:Nat,e=.returned (.pointer (some ⟨g_,0,none⟩))∧IsS121 w0 w' g_ r1 r2 r3∧Below w0.heap.size w0 w'∧Below w.heap.size w w':=by
 have b0:=Try.underlying121;have b1:=ak hr0;have B0:=ak hc0;clear hr0 hc0;have HBW:=ak (Below.refl w.heap.size w);have Z0:=ak hB.size;have HB:=ak hB;clear hB;have H:(spec_l01New.l0 k l0 (wrap64 (710710+(l0.length:Int))) 0)=some (r1,r2,r3):=h;clear h;have H':=ak H;clear H;go_enter Try.func58,Try.ntmps58
 go_wp2
 go_loopg [3,4] k (fun kq v3 v4 w'=>∃ (w3:Int) (w4:Int),v3=.int .i64 w3∧v4=.int .i64 w4∧Aside0 (spec_l01New.l0 kq l0 w3 w4=some (r1,r2,r3))∧Aside0 (kq≤k)∧Aside0 (Below w0.heap.size w0 w')∧Aside0 (Below w.heap.size w w'))
 case atStart=>exact ⟨(wrap64 (710710+(l0.length:Int))),(0),eqA,eqA,H',⟨Nat.le_refl _⟩,⟨belA⟩,⟨xq39⟩⟩
 case round =>
  clear H';obtain ⟨w3,w4,rfl,rfl,HA,W0,HB,HBW⟩:=hrel
  cases gk with
  | zero=>exact absurd HA.out (by simp [spec_l01New.l0])
  | succ k1 =>
   have H:=HA.out;clear HA;simp only [spec_l01New.l0] at H
   by_cases c2:w4 < (l0.length:Int);rotate_left
   · rw [if_neg c2] at H;have x0:=decide_eq_false c2;clear c2;simp only [Option.some.injEq,Prod.mk.injEq] at H;obtain ⟨rfl,rfl,rfl⟩:=H;go_wp2_with (first | ((with_reducible refine gate_dst (N:=31) rfl ?_);refine boxA 31 #[.slice A0 l0.length c0,.int .i64 0,.int .i64 w3] 121 ?_;intro l2 hg w6 hbox hb;have B2:=ak hbox;have w7:=ak ((by rw [hg];exact (below_size xq39):w.heap.size≤l2));have W1:=ak ((Nat.le_trans Z0.out (by rw [hg];exact (below_size xq39):w.heap.size≤l2):w0.heap.size≤l2));replace HBW:=ak (below_step HBW.out hb);replace HB:=bS hb;clear hb hbox hg))
     go_ret
     exact ⟨_,rfl,(show IsS121 w0 _ l2 l0 0 w3 from ⟨_,_,by (with_reducible repeat (first | refine blk_drewN ?_ _ | refine blk_drew ?_ | refine blk_alloc ?_ _));exact B2.out,W1.out,b1.out⟩),belA,by repeat (first | (with_reducible first | exact HBW.out | apply below_alloc | apply pw_below_drewN | apply below_drew1 | refine below_set ?_ w7.out) | exact HBW.out)⟩
   rw [if_pos c2] at H;have x0:=decide_eq_true c2;clear c2
   by_cases c3:w4 < 4000
   · rw [if_pos c3] at H;have x1:=decide_eq_true c3;clear c3
     obtain ⟨c4,H⟩:=iN H;have x2:=decide_eq_true c4;clear c4;have H':=ak H;clear H;have V0:0≤(w4:Int):=odA;have a5:w4 < (l0.length:Int):=odA;obtain ⟨A1,o0,O0⟩:=Kd.at_int b1.out w4 V0 a5
     cases o0
     replace O0:=pw_cell_below HB.out O0;replace V0:=eq_true V0;replace a5:=eq_true a5;go_wp2
     go_roundg k1
     case measure=>have:=W0.out;omega
     case rel=>exact ⟨(Go.bits .and .i64 (wrap64 ((wrap64 ((wrap64 (w3 * 149))+(wrap64 (rd l0 w4))))+11)) 1073741823),(wrap64 (w4+1)),eqA,eqA,H',⟨xq14⟩,⟨belA⟩,⟨xq39⟩⟩
   rw [if_neg c3] at H;have x1:=decide_eq_false c3;clear c3;simp only [Option.some.injEq,Prod.mk.injEq] at H;obtain ⟨rfl,rfl,rfl⟩:=H;go_wp2_with (first | ((with_reducible refine gate_dst (N:=31) rfl ?_);refine boxA 31 #[.slice A0 l0.length c0,.int .i64 0,.int .i64 w3] 121 ?_;intro l3 hg w5 hbox hb;have B6:=ak hbox;have w8:=ak ((by rw [hg];exact (below_size xq39):w.heap.size≤l3));have W2:=ak ((Nat.le_trans Z0.out (by rw [hg];exact (below_size xq39):w.heap.size≤l3):w0.heap.size≤l3));replace HBW:=ak (below_step HBW.out hb);replace HB:=bS hb;clear hb hbox hg))
   go_ret
   exact ⟨_,rfl,(show IsS121 w0 _ l3 l0 0 w3 from ⟨_,_,by (with_reducible repeat (first | refine blk_drewN ?_ _ | refine blk_drew ?_ | refine blk_alloc ?_ _));exact B6.out,W2.out,b1.out⟩),belA,by repeat (first | (with_reducible first | exact HBW.out | apply below_alloc | apply pw_below_drewN | apply below_drew1 | refine below_set ?_ w8.out) | exact HBW.out)⟩

def spec_l01Byte.f (s0_0:List Int) (s0_1:Int) (s0_2:Int):Option (Int × Int × Int):=if s0_1 < (s0_0.length:Int) then (if 0≤s0_1 then (some (Go.bits .and .i64 (wrap64 ((Go.bits .and .i64 (Go.bits .xor .i64 ((wrap64 ((wrap64 (s0_2 * 6364136223846793005))+1442695040888963407)) / 8589934592) ((wrap64 ((wrap64 (s0_2 * 6364136223846793005))+1442695040888963407)) / 35184372088832)) 255)+(wrap64 (rd s0_0 s0_1)))) 255,wrap64 (s0_1+1),wrap64 ((wrap64 (s0_2 * 6364136223846793005))+1442695040888963407))) else (none)) else (some (Go.bits .and .i64 (Go.bits .xor .i64 ((wrap64 ((wrap64 (s0_2 * 6364136223846793005))+1442695040888963407)) / 8589934592) ((wrap64 ((wrap64 (s0_2 * 6364136223846793005))+1442695040888963407)) / 35184372088832)) 255,s0_1,wrap64 ((wrap64 (s0_2 * 6364136223846793005))+1442695040888963407)))
theorem spec_l01Byte.calls (g:Nat) (s0_0:List Int) (s0_1:Int) (s0_2:Int) (r1:Int) (r2:Int) (r3:Int) (w0 w:World) (hI:IsS121 w0 w g s0_0 s0_1 s0_2) (hB:Below w0.heap.size w0 w) (h:spec_l01Byte.f s0_0 s0_1 s0_2=some (r1,r2,r3)) :
 Calls Try.prog 118 #[.pointer (some ⟨g,0,none⟩)] w fun e w'=>e=.returned (.int .i64 r1)∧IsS121 w0 w' g s0_0 r2 r3∧Below w0.heap.size w0 w'∧KeepBut w w' g none:=by
 have z0:=ak hI;have HK:=ak (KeepBut.refl w g none);have HL:=ak hB.size;clear hI;have Z0:=ak hB.size;have HB:=ak hB;clear hB;have H:=h;clear h;unfold spec_l01Byte.f at H
 by_cases c2:s0_1 < (s0_0.length:Int);rotate_left
 · rw [if_neg c2] at H;have x0:=decide_eq_false c2;clear c2;simp only [Option.some.injEq,Prod.mk.injEq] at H;obtain ⟨rfl,rfl,rfl⟩:=H;obtain ⟨p0,P0,q0,Q0,r0⟩:=z0.out;have R0:=cellS121_0 q0;have R1:=cellS121_1 q0;have R2:=cellS121_2 q0;have sd:=blk_frozen q0 1;have se:=blk_frozen q0 2;clear q0 Q0;go_enter Try.func118,Try.ntmps118
   go_wp2
   repeat (go_quiet (fail);try go_wp2)
   go_ret
   exact ⟨xq4,xq1,xq2,xq13⟩
 rw [if_pos c2] at H;have x0:=decide_eq_true c2;clear c2
 obtain ⟨c3,H⟩:=iN H;have x1:=decide_eq_true c3;clear c3;simp only [Option.some.injEq,Prod.mk.injEq] at H;obtain ⟨rfl,rfl,rfl⟩:=H;obtain ⟨p1,P1,q1,Q1,r4⟩:=z0.out;have R3:=cellS121_0 q1;have R4:=cellS121_1 q1;have R5:=cellS121_2 q1;have sf:=blk_frozen q1 1;have sg:=blk_frozen q1 2;clear q1 Q1;have V0:0≤(s0_1:Int):=odA;have a5:s0_1 < (s0_0.length:Int):=odA;obtain ⟨A0,o0,O0⟩:=Kd.at_int r4 s0_1 V0 a5
 cases o0
 have S0:A0.block≠g:=Nat.ne_of_lt (Nat.lt_of_lt_of_le (by have:=World.block_lt_of_cell? _ _ O0;first | rwa [add_block] at this | exact this) (IsS121.ge z0.out));replace O0:=pw_cell_below HB.out O0;replace O0:=(cell_far (p:=⟨g,2,none⟩) (by first | (rw [add_block];exact S0) | (show (Addr.add _ _).block≠_;rw [add_block];exact S0) | exact S0) (.int .i64 (wrap64 ((wrap64 (s0_2 * 6364136223846793005))+1442695040888963407)))).trans O0;(try have J0:=fun (n_:Nat)=>(show (((w.drewN n_).setCell ⟨g,2,none⟩ (.int .i64 (wrap64 ((wrap64 (s0_2 * 6364136223846793005))+1442695040888963407))))).cell? _=some _ from O0))
 clear S0;replace V0:=eq_true V0;replace a5:=eq_true a5;go_enter Try.func118,Try.ntmps118
 go_wp2
 repeat (go_quiet (fail);try go_wp2)
 go_ret
 exact ⟨xq4,xq1,xq2,xq13⟩

def spec_l01Below.f (s0_0:List Int) (s0_1:Int) (s0_2:Int) (a1:Int):Option (Int × Int × Int):=if a1≤0 then (some (0,s0_1,s0_2)) else (if a1≤256 then ((spec_l01Byte.f s0_0 s0_1 s0_2).bind fun bt215=>(if a1=0 then (none) else (some (Int.tmod bt215.1 a1,bt215.2.1,bt215.2.2)))) else ((spec_l01Byte.f s0_0 s0_1 s0_2).bind fun bt218=>((spec_l01Byte.f s0_0 bt218.2.1 bt218.2.2).bind fun bt221=>((spec_l01Byte.f s0_0 bt221.2.1 bt221.2.2).bind fun bt224=>(if a1=0 then (none) else (some (Int.tmod (wrap64 ((wrap64 ((wrap64 (bt218.1 * 65536))+(wrap64 (bt221.1 * 256))))+bt224.1)) a1,bt224.2.1,bt224.2.2)))))))
theorem spec_l01Below.calls (g:Nat) (s0_0:List Int) (s0_1:Int) (s0_2:Int) (a1:Int) (r1:Int) (r2:Int) (r3:Int) (w0 w:World) (hI:IsS121 w0 w g s0_0 s0_1 s0_2) (hB:Below w0.heap.size w0 w) (h:spec_l01Below.f s0_0 s0_1 s0_2 a1=some (r1,r2,r3)) :
 Calls Try.prog 91 #[.pointer (some ⟨g,0,none⟩),.int .i64 a1] w fun e w'=>e=.returned (.int .i64 r1)∧IsS121 w0 w' g s0_0 r2 r3∧Below w0.heap.size w0 w'∧KeepBut w w' g none:=by
 have z0:=ak hI;have HK:=ak (KeepBut.refl w g none);have HL:=ak hB.size;clear hI;have Z0:=ak hB.size;have HB:=ak hB;clear hB;have H:=h;clear h;unfold spec_l01Below.f at H
 by_cases c3:a1≤0
 · rw [if_pos c3] at H;have x0:=decide_eq_true c3;clear c3;simp only [Option.some.injEq,Prod.mk.injEq] at H;obtain ⟨rfl,rfl,rfl⟩:=H;go_enter Try.func91,Try.ntmps91
   go_wp2
   go_ret
   exact ⟨xq4,xq1,xq2,xq13⟩
 rw [if_neg c3] at H;have x0:=decide_eq_false c3;clear c3
 by_cases c4:a1≤256
 · rw [if_pos c4] at H;have x1:=decide_eq_true c4;clear c4;obtain ⟨⟨p0,p1,p2⟩,A5,H⟩:=ob H;(try dsimp only at H)
   by_cases c6:a1=0
   · rw [if_pos c6] at H;exact absurd H (by simp)
   rw [if_neg c6] at H;have x2:(a1 == 0)=false:=beq_eq_false_iff_ne.mpr c6;have x3:(a1 != 0)=true:=bne_iff_ne.mpr c6;simp only [Option.some.injEq,Prod.mk.injEq] at H;obtain ⟨rfl,rfl,rfl⟩:=H;go_enter Try.func91,Try.ntmps91
   go_wp2_with (first | ((with_reducible refine gate_callee (f:=118) rfl ?_);refine goB 13 Try.func118 #[.pointer (some ⟨g,0,none⟩)] rfl ?_;(with_reducible refine (spec_l01Byte.calls g s0_0 s0_1 s0_2 p0 p1 p2 w0 _ ?side1 ?side2 A5.out).mono ?_);(case side1=>exact xq1);(case side2=>exact xq2);rintro e w7 ⟨rfl,hi,hb,hk⟩;refine ⟨_,rfl,?_⟩;replace HK:=ak (KeepBut.trans kpA hk (.inl rfl));replace HB:=ak hb;replace z0:=ak hi;(try clear hb hk hi)))
   go_ret
   exact ⟨xq4,xq1,xq2,xq13⟩
 rw [if_neg c4] at H;have x1:=decide_eq_false c4;clear c4;obtain ⟨⟨p3,p4,p5⟩,A8,H⟩:=ob H;(try dsimp only at H);obtain ⟨⟨p6,p7,p8⟩,A9,H⟩:=ob H;(try dsimp only at H);obtain ⟨⟨p9,pa,pb⟩,g3,H⟩:=ob H;(try dsimp only at H)
 by_cases x4:a1=0
 · rw [if_pos x4] at H;exact absurd H (by simp)
 rw [if_neg x4] at H;have x5:(a1 == 0)=false:=beq_eq_false_iff_ne.mpr x4;have x6:(a1 != 0)=true:=bne_iff_ne.mpr x4;simp only [Option.some.injEq,Prod.mk.injEq] at H;obtain ⟨rfl,rfl,rfl⟩:=H;go_enter Try.func91,Try.ntmps91
 go_wp2_with (first | ((with_reducible refine gate_callee (f:=118) rfl ?_);refine goB 17 Try.func118 #[.pointer (some ⟨g,0,none⟩)] rfl ?_;(with_reducible refine (spec_l01Byte.calls g s0_0 s0_1 s0_2 p3 p4 p5 w0 _ ?side1 ?side2 A8.out).mono ?_);(case side1=>exact xq1);(case side2=>exact xq2);rintro e S0 ⟨rfl,hi,hb,hk⟩;refine ⟨_,rfl,?_⟩;replace HK:=ak (KeepBut.trans kpA hk (.inl rfl));replace HB:=ak hb;replace z0:=ak hi;(try clear hb hk hi)) | ((with_reducible refine gate_callee (f:=118) rfl ?_);refine goB 19 Try.func118 #[.pointer (some ⟨g,0,none⟩)] rfl ?_;(with_reducible refine (spec_l01Byte.calls g s0_0 p4 p5 p6 p7 p8 w0 _ ?side1 ?side2 A9.out).mono ?_);(case side1=>exact xq1);(case side2=>exact xq2);rintro e S1 ⟨rfl,hi,hb,hk⟩;refine ⟨_,rfl,?_⟩;replace HK:=ak (KeepBut.trans kpA hk (.inl rfl));replace HB:=ak hb;replace z0:=ak hi;(try clear hb hk hi)) | ((with_reducible refine gate_callee (f:=118) rfl ?_);refine goB 21 Try.func118 #[.pointer (some ⟨g,0,none⟩)] rfl ?_;(with_reducible refine (spec_l01Byte.calls g s0_0 p7 p8 p9 pa pb w0 _ ?side1 ?side2 g3.out).mono ?_);(case side1=>exact xq1);(case side2=>exact xq2);rintro e S2 ⟨rfl,hi,hb,hk⟩;refine ⟨_,rfl,?_⟩;replace HK:=ak (KeepBut.trans kpA hk (.inl rfl));replace HB:=ak hb;replace z0:=ak hi;(try clear hb hk hi)))
 go_ret
 exact ⟨xq4,xq1,xq2,xq13⟩

def spec_l01PickInt.f (s0_0:List Int) (s0_1:Int) (s0_2:Int) (l1:List Int):Option (Int × Int × Int):=(spec_l01Below.f s0_0 s0_1 s0_2 (l1.length:Int)).bind fun bt227=>(if 0≤bt227.1 then (if bt227.1 < (l1.length:Int) then (some (rd l1 bt227.1,bt227.2.1,bt227.2.2)) else (none)) else (none))
theorem spec_l01PickInt.calls (g:Nat) (s0_0:List Int) (s0_1:Int) (s0_2:Int) (A1:Option Addr) (c1:Nat) (l1:List Int) (r1:Int) (r2:Int) (r3:Int) (w0 w:World) (hI:IsS121 w0 w g s0_0 s0_1 s0_2) (hB:Below w0.heap.size w0 w) (hr1:Kd.C (Kd.int .i64) w A1 l1.length l1) (hc1:l1.length≤c1) (hf1:∀ ad,A1=some ad → 0 < l1.length → ad.block≠g) (h:spec_l01PickInt.f s0_0 s0_1 s0_2 l1=some (r1,r2,r3)) :
 Calls Try.prog 60 #[.pointer (some ⟨g,0,none⟩),.slice A1 l1.length c1] w fun e w'=>e=.returned (.int .i64 r1)∧IsS121 w0 w' g s0_0 r2 r3∧Below w0.heap.size w0 w'∧KeepBut w w' g none:=by
 have b0:=ak hr1;have B0:=ak hc1;clear hr1 hc1;have z0:=ak hI;have HK:=ak (KeepBut.refl w g none);have HL:=ak hB.size;clear hI;have Z0:=ak hB.size;have HB:=ak hB;clear hB;have H:=h;clear h;unfold spec_l01PickInt.f at H;obtain ⟨⟨p0,p1,p2⟩,A3,H⟩:=ob H;(try dsimp only at H)
 obtain ⟨c4,H⟩:=iN H;have x0:=decide_eq_true c4;clear c4
 obtain ⟨c5,H⟩:=iN H;have x1:=decide_eq_true c5;clear c5;simp only [Option.some.injEq,Prod.mk.injEq] at H;obtain ⟨rfl,rfl,rfl⟩:=H;go_enter Try.func60,Try.ntmps60
 go_wp2_with (first | ((with_reducible refine gate_callee (f:=91) rfl ?_);refine goB 9 Try.func91 #[.pointer (some ⟨g,0,none⟩),.int .i64 (l1.length:Int)] rfl ?_;(with_reducible refine (spec_l01Below.calls g s0_0 s0_1 s0_2 (l1.length:Int) p0 p1 p2 w0 _ ?side1 ?side2 A3.out).mono ?_);(case side1=>exact xq1);(case side2=>exact xq2);rintro e w6 ⟨rfl,hi,hb,hk⟩;refine ⟨_,rfl,?_⟩;replace HK:=ak (KeepBut.trans kpA hk (.inl rfl));replace HB:=ak hb;replace z0:=ak hi;(try clear hb hk hi);have V0:0≤(p0:Int):=odA;have a5:p0 < (l1.length:Int):=odA;obtain ⟨A0,o0,O0⟩:=Kd.at_int b0.out p0 V0 a5;cases o0;replace O0:=keep_cell HK.out O0 (by first | (rw [add_block];exact hf1 _ rfl (by omega)) | exact hf1 _ rfl (by omega) | exact hf1 A0 rfl (by omega));replace V0:=eq_true V0;replace a5:=eq_true a5))
 go_ret
 exact ⟨xq4,xq1,xq2,xq13⟩

end Go.Proofs.Ytogdhclomgafdaa.PFnWireJobs
