-- Written by a program of this session (the print of the kit with contracts of this session's own added)
import Derived.Test.YtogdhclomgafdaaZFWJx13
set_option maxHeartbeats 8000000
set_option maxRecDepth 100000
namespace Go.Proofs.Ytogdhclomgafdaa.PFnWireJobs
open Go.RowKit Go.Proofs.YtogdhclomgafdaaW.PrintWords Go.Proofs.YtogdhclomgafdaaW.PrintLast Go.Proofs.YtogdhclomgafdaaW.PrintMore Go.Proofs.YtogdhclomgafdaaW.PrintPack Go.Proofs.YtogdhclomgafdaaW.PrintPack
set_option linter.unusedVariables false
set_option linter.unusedSimpArgs false

def spec_Add.f (a0:Int) (a1:Int) (a2:Int):Option (Int):=(spec_Modulus.f a0).bind fun t404=>(if t404=0 then (some (-1)) else ((spec_Reduce.f a0 a1).bind fun t405=>((spec_Reduce.f a0 a2).bind fun t406=>((spec_Reduce.f a0 (wrap64 (t405+t406))).bind fun t407=>(some t407)))))
theorem spec_Add.calls (a0:Int) (a1:Int) (a2:Int) (r:Int) (w:World) (h:spec_Add.f a0 a1 a2=some r) :
 Calls Try.prog 142 #[.int .i64 a0,.int .i64 a1,.int .i64 a2] w fun e w'=>e=.returned (.int .i64 r)∧Drawn0 w w':=by
 have H:=h;clear h;unfold spec_Add.f at H;obtain ⟨p0,A4,H⟩:=ob H;(try dsimp only at H)
 by_cases c5:p0=0
 · rw [if_pos c5] at H;have x0:(p0 == 0)=true:=beq_iff_eq.mpr c5;have x1:(p0 != 0)=false:=bne_eq_false_iff_eq.mpr c5;clear c5;obtain rfl:=Option.some.inj H;go_enter Try.func142,Try.ntmps142
   go_wp2_with (first | ((with_reducible refine gate_callee (f:=82) rfl ?_);refine goB 8 Try.func82 #[.int .i64 a0] rfl ?_;(with_reducible refine (spec_Modulus.calls a0 p0 _ A4.out).mono ?_);rintro e w' ⟨rfl,⟨nd,rfl⟩⟩;refine ⟨_,rfl,?_⟩))
   go_ret
   exact ⟨xq9,xq5⟩
 rw [if_neg c5] at H;have x0:(p0 == 0)=false:=beq_eq_false_iff_ne.mpr c5;have x1:(p0 != 0)=true:=bne_iff_ne.mpr c5;obtain ⟨p1,A6,H⟩:=ob H;(try dsimp only at H);obtain ⟨p2,A7,H⟩:=ob H;(try dsimp only at H);obtain ⟨p3,A8,H⟩:=ob H;(try dsimp only at H);obtain rfl:=Option.some.inj H;go_enter Try.func142,Try.ntmps142
 go_wp2_with (first | ((with_reducible refine gate_callee (f:=82) rfl ?_);refine goB 8 Try.func82 #[.int .i64 a0] rfl ?_;(with_reducible refine (spec_Modulus.calls a0 p0 _ A4.out).mono ?_);rintro e w' ⟨rfl,⟨nd,rfl⟩⟩;refine ⟨_,rfl,?_⟩) | ((with_reducible refine gate_callee (f:=145) rfl ?_);refine goB 13 Try.func145 #[.int .i64 a0,.int .i64 a1] rfl ?_;(with_reducible refine (spec_Reduce.calls a0 a1 p1 _ A6.out).mono ?_);rintro e w' ⟨rfl,⟨nd,rfl⟩⟩;refine ⟨_,rfl,?_⟩) | ((with_reducible refine gate_callee (f:=145) rfl ?_);refine goB 16 Try.func145 #[.int .i64 a0,.int .i64 a2] rfl ?_;(with_reducible refine (spec_Reduce.calls a0 a2 p2 _ A7.out).mono ?_);rintro e w' ⟨rfl,⟨nd,rfl⟩⟩;refine ⟨_,rfl,?_⟩) | ((with_reducible refine gate_callee (f:=145) rfl ?_);refine goB 18 Try.func145 #[.int .i64 a0,.int .i64 (wrap64 (p1+p2))] rfl ?_;(with_reducible refine (spec_Reduce.calls a0 (wrap64 (p1+p2)) p3 _ A8.out).mono ?_);rintro e w' ⟨rfl,⟨nd,rfl⟩⟩;refine ⟨_,rfl,?_⟩))
 go_ret
 exact ⟨xq9,xq5⟩

def spec_Mul.f (a0:Int) (a1:Int) (a2:Int):Option (Int):=(spec_Modulus.f a0).bind fun t408=>(if t408=0 then (some (-1)) else ((spec_Reduce.f a0 a1).bind fun t409=>((spec_Reduce.f a0 a2).bind fun t410=>((spec_Reduce.f a0 (wrap64 (t409 * t410))).bind fun t411=>(some t411)))))
theorem spec_Mul.calls (a0:Int) (a1:Int) (a2:Int) (r:Int) (w:World) (h:spec_Mul.f a0 a1 a2=some r) :
 Calls Try.prog 143 #[.int .i64 a0,.int .i64 a1,.int .i64 a2] w fun e w'=>e=.returned (.int .i64 r)∧Drawn0 w w':=by
 have H:=h;clear h;unfold spec_Mul.f at H;obtain ⟨p0,A4,H⟩:=ob H;(try dsimp only at H)
 by_cases c5:p0=0
 · rw [if_pos c5] at H;have x0:(p0 == 0)=true:=beq_iff_eq.mpr c5;have x1:(p0 != 0)=false:=bne_eq_false_iff_eq.mpr c5;clear c5;obtain rfl:=Option.some.inj H;go_enter Try.func143,Try.ntmps143
   go_wp2_with (first | ((with_reducible refine gate_callee (f:=82) rfl ?_);refine goB 8 Try.func82 #[.int .i64 a0] rfl ?_;(with_reducible refine (spec_Modulus.calls a0 p0 _ A4.out).mono ?_);rintro e w' ⟨rfl,⟨nd,rfl⟩⟩;refine ⟨_,rfl,?_⟩))
   go_ret
   exact ⟨xq9,xq5⟩
 rw [if_neg c5] at H;have x0:(p0 == 0)=false:=beq_eq_false_iff_ne.mpr c5;have x1:(p0 != 0)=true:=bne_iff_ne.mpr c5;obtain ⟨p1,A6,H⟩:=ob H;(try dsimp only at H);obtain ⟨p2,A7,H⟩:=ob H;(try dsimp only at H);obtain ⟨p3,A8,H⟩:=ob H;(try dsimp only at H);obtain rfl:=Option.some.inj H;go_enter Try.func143,Try.ntmps143
 go_wp2_with (first | ((with_reducible refine gate_callee (f:=82) rfl ?_);refine goB 8 Try.func82 #[.int .i64 a0] rfl ?_;(with_reducible refine (spec_Modulus.calls a0 p0 _ A4.out).mono ?_);rintro e w' ⟨rfl,⟨nd,rfl⟩⟩;refine ⟨_,rfl,?_⟩) | ((with_reducible refine gate_callee (f:=145) rfl ?_);refine goB 13 Try.func145 #[.int .i64 a0,.int .i64 a1] rfl ?_;(with_reducible refine (spec_Reduce.calls a0 a1 p1 _ A6.out).mono ?_);rintro e w' ⟨rfl,⟨nd,rfl⟩⟩;refine ⟨_,rfl,?_⟩) | ((with_reducible refine gate_callee (f:=145) rfl ?_);refine goB 16 Try.func145 #[.int .i64 a0,.int .i64 a2] rfl ?_;(with_reducible refine (spec_Reduce.calls a0 a2 p2 _ A7.out).mono ?_);rintro e w' ⟨rfl,⟨nd,rfl⟩⟩;refine ⟨_,rfl,?_⟩) | ((with_reducible refine gate_callee (f:=145) rfl ?_);refine goB 18 Try.func145 #[.int .i64 a0,.int .i64 (wrap64 (p1 * p2))] rfl ?_;(with_reducible refine (spec_Reduce.calls a0 (wrap64 (p1 * p2)) p3 _ A8.out).mono ?_);rintro e w' ⟨rfl,⟨nd,rfl⟩⟩;refine ⟨_,rfl,?_⟩))
 go_ret
 exact ⟨xq9,xq5⟩

mutual
def spec_Power.j0:Nat → Int → Int → Int → Option (Int)
 | 0,_,_,_=>none
 | k+1,x7,x8,x9=>spec_Power.l0 k x7 x8 x9 1
def spec_Power.l0:Nat → Int → Int → Int → Int → Option (Int)
 | 0,_,_,_,_=>none
 | k+1,x7,x8,x9,x10=>if x9 > 0 then (if (Int.tmod x9 2)=1 then (if x7=0 then (none) else (spec_Power.l0 k x7 (Int.tmod (wrap64 (x8 * x8)) x7) (wrap64 (Int.tdiv x9 2)) (Int.tmod (wrap64 (x10 * x8)) x7))) else (if x7=0 then (none) else (spec_Power.l0 k x7 (Int.tmod (wrap64 (x8 * x8)) x7) (wrap64 (Int.tdiv x9 2)) x10))) else (some x10)
end
def spec_Power.f (k:Nat) (a0:Int) (a1:Int) (a2:Int):Option (Int):=(spec_Modulus.f a0).bind fun t412=>(if t412=0 then (some (-1)) else ((spec_Reduce.f a0 a1).bind fun t413=>(if t413=0 then (if a2=0 then (some 1) else (if a2 < 0 then (some (-1)) else (some 0))) else (if (wrap64 (t412 - 1))=0 then (none) else (if (Int.tmod a2 (wrap64 (t412 - 1))) < 0 then (spec_Power.j0 k t412 t413 (wrap64 ((wrap64 ((Int.tmod a2 (wrap64 (t412 - 1)))+t412)) - 1))) else (spec_Power.j0 k t412 t413 (Int.tmod a2 (wrap64 (t412 - 1)))))))))
theorem spec_Power.calls (k:Nat) (a0:Int) (a1:Int) (a2:Int) (r:Int) (w:World) (h:spec_Power.f k a0 a1 a2=some r) :
 Calls Try.prog 144 #[.int .i64 a0,.int .i64 a1,.int .i64 a2] w fun e w'=>e=.returned (.int .i64 r)∧Drawn0 w w':=by
 have H:=h;clear h;unfold spec_Power.f at H;obtain ⟨p0,A4,H⟩:=ob H;(try dsimp only at H)
 by_cases c5:p0=0
 · rw [if_pos c5] at H;have x0:(p0 == 0)=true:=beq_iff_eq.mpr c5;have x1:(p0 != 0)=false:=bne_eq_false_iff_eq.mpr c5;clear c5;obtain rfl:=Option.some.inj H;go_enter Try.func144,Try.ntmps144
   go_wp2_with (first | ((with_reducible refine gate_callee (f:=82) rfl ?_);refine goB 12 Try.func82 #[.int .i64 a0] rfl ?_;(with_reducible refine (spec_Modulus.calls a0 p0 _ A4.out).mono ?_);rintro e w' ⟨rfl,⟨nd,rfl⟩⟩;refine ⟨_,rfl,?_⟩))
   go_ret
   exact ⟨xq9,xq5⟩
 rw [if_neg c5] at H;have x0:(p0 == 0)=false:=beq_eq_false_iff_ne.mpr c5;have x1:(p0 != 0)=true:=bne_iff_ne.mpr c5;obtain ⟨p1,A6,H⟩:=ob H;(try dsimp only at H)
 by_cases c7:p1=0
 · rw [if_pos c7] at H;have x2:(p1 == 0)=true:=beq_iff_eq.mpr c7;have x3:(p1 != 0)=false:=bne_eq_false_iff_eq.mpr c7;clear c7
   by_cases c8:a2=0
   · rw [if_pos c8] at H;have x4:(a2 == 0)=true:=beq_iff_eq.mpr c8;have x5:(a2 != 0)=false:=bne_eq_false_iff_eq.mpr c8;clear c8;obtain rfl:=Option.some.inj H;go_enter Try.func144,Try.ntmps144
     go_wp2_with (first | ((with_reducible refine gate_callee (f:=82) rfl ?_);refine goB 12 Try.func82 #[.int .i64 a0] rfl ?_;(with_reducible refine (spec_Modulus.calls a0 p0 _ A4.out).mono ?_);rintro e w' ⟨rfl,⟨nd,rfl⟩⟩;refine ⟨_,rfl,?_⟩) | ((with_reducible refine gate_callee (f:=145) rfl ?_);refine goB 17 Try.func145 #[.int .i64 a0,.int .i64 a1] rfl ?_;(with_reducible refine (spec_Reduce.calls a0 a1 p1 _ A6.out).mono ?_);rintro e w' ⟨rfl,⟨nd,rfl⟩⟩;refine ⟨_,rfl,?_⟩))
     go_ret
     exact ⟨xq9,xq5⟩
   rw [if_neg c8] at H;have x4:(a2 == 0)=false:=beq_eq_false_iff_ne.mpr c8;have x5:(a2 != 0)=true:=bne_iff_ne.mpr c8
   by_cases c9:a2 < 0
   · rw [if_pos c9] at H;have x6:=decide_eq_true c9;clear c9;obtain rfl:=Option.some.inj H;go_enter Try.func144,Try.ntmps144
     go_wp2_with (first | ((with_reducible refine gate_callee (f:=82) rfl ?_);refine goB 12 Try.func82 #[.int .i64 a0] rfl ?_;(with_reducible refine (spec_Modulus.calls a0 p0 _ A4.out).mono ?_);rintro e w' ⟨rfl,⟨nd,rfl⟩⟩;refine ⟨_,rfl,?_⟩) | ((with_reducible refine gate_callee (f:=145) rfl ?_);refine goB 17 Try.func145 #[.int .i64 a0,.int .i64 a1] rfl ?_;(with_reducible refine (spec_Reduce.calls a0 a1 p1 _ A6.out).mono ?_);rintro e w' ⟨rfl,⟨nd,rfl⟩⟩;refine ⟨_,rfl,?_⟩))
     go_ret
     exact ⟨xq9,xq5⟩
   rw [if_neg c9] at H;have x6:=decide_eq_false c9;clear c9;obtain rfl:=Option.some.inj H;go_enter Try.func144,Try.ntmps144
   go_wp2_with (first | ((with_reducible refine gate_callee (f:=82) rfl ?_);refine goB 12 Try.func82 #[.int .i64 a0] rfl ?_;(with_reducible refine (spec_Modulus.calls a0 p0 _ A4.out).mono ?_);rintro e w' ⟨rfl,⟨nd,rfl⟩⟩;refine ⟨_,rfl,?_⟩) | ((with_reducible refine gate_callee (f:=145) rfl ?_);refine goB 17 Try.func145 #[.int .i64 a0,.int .i64 a1] rfl ?_;(with_reducible refine (spec_Reduce.calls a0 a1 p1 _ A6.out).mono ?_);rintro e w' ⟨rfl,⟨nd,rfl⟩⟩;refine ⟨_,rfl,?_⟩))
   go_ret
   exact ⟨xq9,xq5⟩
 rw [if_neg c7] at H;have x2:(p1 == 0)=false:=beq_eq_false_iff_ne.mpr c7;have x3:(p1 != 0)=true:=bne_iff_ne.mpr c7
 by_cases c10:(wrap64 (p0 - 1))=0
 · rw [if_pos c10] at H;exact absurd H (by simp)
 rw [if_neg c10] at H;have x7:((wrap64 (p0 - 1)) == 0)=false:=beq_eq_false_iff_ne.mpr c10;have x8:((wrap64 (p0 - 1)) != 0)=true:=bne_iff_ne.mpr c10;have B0:=ak H;clear H;go_enter Try.func144,Try.ntmps144
 go_upto_if 29 with (first | ((with_reducible refine gate_callee (f:=82) rfl ?_);refine goB 12 Try.func82 #[.int .i64 a0] rfl ?_;(with_reducible refine (spec_Modulus.calls a0 p0 _ A4.out).mono ?_);rintro e w' ⟨rfl,⟨nd,rfl⟩⟩;refine ⟨_,rfl,?_⟩) | ((with_reducible refine gate_callee (f:=145) rfl ?_);refine goB 17 Try.func145 #[.int .i64 a0,.int .i64 a1] rfl ?_;(with_reducible refine (spec_Reduce.calls a0 a1 p1 _ A6.out).mono ?_);rintro e w' ⟨rfl,⟨nd,rfl⟩⟩;refine ⟨_,rfl,?_⟩))
 (try simp only [Act.put,sa,sb,sc])
 go_cut [9] (fun v9 wc=>∃ (kq:Nat) (w3:Int),v9=.int .i64 w3∧Aside0 (spec_Power.j0 kq p0 p1 w3=some r)∧Aside0 (kq≤k)∧Drawn0 w wc)
 case first =>
  have H:=B0.out;clear B0
  by_cases x9:(Int.tmod a2 (wrap64 (p0 - 1))) < 0;rotate_left
  · rw [if_neg x9] at H;have xa:=decide_eq_false x9;have xb:decide ((Int.tmod a2 (IntKind.i64.wrap (p0 - 1))) < 0)=false:=by simp only [i64_w];exact xa
    clear x9;(first | rw [xa] | (simp only [i64_w,i32_w];rw [xa]) | skip)
    have H':=ak H;clear H;go_wp2
    go_meet
    case rel=>exact ⟨_,(Int.tmod a2 (wrap64 (p0 - 1))),eqA,H',⟨xq12⟩,xq5⟩
  rw [if_pos x9] at H;have xa:=decide_eq_true x9;have xb:decide ((Int.tmod a2 (IntKind.i64.wrap (p0 - 1))) < 0)=true:=by simp only [i64_w];exact xa
  clear x9;(first | rw [xa] | (simp only [i64_w,i32_w];rw [xa]) | skip)
  have H':=ak H;clear H;go_wp2
  go_meet
  case rel=>exact ⟨_,(wrap64 ((wrap64 ((Int.tmod a2 (wrap64 (p0 - 1)))+p0)) - 1)),eqA,H',⟨xq12⟩,xq5⟩
 case rest =>
  clear B0;obtain ⟨kq,w3,rfl,HA,c0,⟨C0,rfl⟩⟩:=hcut
  cases kq with
  | zero=>exact absurd HA.out (by simp [spec_Power.j0])
  | succ y0 =>
   have H:=HA.out;clear HA;simp only [spec_Power.j0] at H;have H':=ak H;clear H;go_wp2
   go_loopg [8,9,10] y0 (fun kq v8 v9 N0 w'=>∃ (w4:Int) (w5:Int) (w6:Int),v8=.int .i64 w4∧v9=.int .i64 w5∧N0=.int .i64 w6∧Aside0 (spec_Power.l0 kq p0 w4 w5 w6=some r)∧Aside0 (kq≤y0)∧Drawn0 w w')
   case atStart=>exact ⟨(p1),(w3),(1),eqA,eqA,eqA,H',⟨Nat.le_refl _⟩,xq5⟩
   case round =>
    clear H';obtain ⟨w4,w5,w6,rfl,rfl,rfl,HA,W0,⟨m2,rfl⟩⟩:=hrel
    cases gk with
    | zero=>exact absurd HA.out (by simp [spec_Power.l0])
    | succ k2 =>
     have H:=HA.out;clear HA;simp only [spec_Power.l0] at H
     by_cases xc:w5 > 0;rotate_left
     · rw [if_neg xc] at H;have xd:decide (0 < w5)=false:=decide_eq_false xc;clear xc;obtain rfl:=Option.some.inj H;go_wp2
       go_ret
       exact ⟨xq9,xq5⟩
     rw [if_pos xc] at H;have xd:decide (0 < w5)=true:=decide_eq_true xc;clear xc
     by_cases xe:(Int.tmod w5 2)=1;rotate_left
     · rw [if_neg xe] at H;have xf:((Int.tmod w5 2) == 1)=false:=beq_eq_false_iff_ne.mpr xe;have xg:((Int.tmod w5 2) != 1)=true:=bne_iff_ne.mpr xe
       by_cases xh:p0=0
       · rw [if_pos xh] at H;exact absurd H (by simp)
       rw [if_neg xh] at H;have xi:(p0 == 0)=false:=beq_eq_false_iff_ne.mpr xh;have xj:(p0 != 0)=true:=bne_iff_ne.mpr xh;have H':=ak H;clear H;go_wp2
       go_roundg k2
       case measure=>have:=c0.out;have:=W0.out;omega
       case rel=>exact ⟨(Int.tmod (wrap64 (w4 * w4)) p0),(wrap64 (Int.tdiv w5 2)),(w6),eqA,eqA,eqA,H',⟨xq36⟩,xq5⟩
     rw [if_pos xe] at H;have xf:((Int.tmod w5 2) == 1)=true:=beq_iff_eq.mpr xe;have xg:((Int.tmod w5 2) != 1)=false:=bne_eq_false_iff_eq.mpr xe;clear xe
     by_cases xk:p0=0
     · rw [if_pos xk] at H;exact absurd H (by simp)
     rw [if_neg xk] at H;have xl:(p0 == 0)=false:=beq_eq_false_iff_ne.mpr xk;have xm:(p0 != 0)=true:=bne_iff_ne.mpr xk;have H':=ak H;clear H;go_wp2
     go_roundg k2
     case measure=>have:=c0.out;have:=W0.out;omega
     case rel=>exact ⟨(Int.tmod (wrap64 (w4 * w4)) p0),(wrap64 (Int.tdiv w5 2)),(Int.tmod (wrap64 (w6 * w4)) p0),eqA,eqA,eqA,H',⟨xq36⟩,xq5⟩

def spec_EvalPoly.l0:Nat → Int → List Int → Int → Int → Int → Option (Int)
 | 0,_,_,_,_,_=>none
 | k+1,x0,x1,x2,x7,x8=>if x8 < (x1.length:Int) then (if 0≤x8 then ((spec_Power.f k x0 x2 x8).bind fun t416=>((spec_Mul.f x0 (rd x1 x8) t416).bind fun t417=>((spec_Add.f x0 x7 t417).bind fun t418=>(spec_EvalPoly.l0 k x0 x1 x2 t418 (wrap64 (x8+1)))))) else (none)) else (some x7)
def spec_EvalPoly.f (k:Nat) (a0:Int) (l1:List Int) (a2:Int):Option (Int):=(spec_PolyOk.f k a0 l1).bind fun t414=>(if t414=true then (spec_EvalPoly.l0 k a0 l1 a2 0 0) else (some (-1)))
theorem spec_EvalPoly.calls (k:Nat) (a0:Int) (A1:Option Addr) (c1:Nat) (l1:List Int) (a2:Int) (r:Int) (w:World) (hr1:Kd.C (Kd.int .i64) w A1 l1.length l1) (hc1:l1.length≤c1) (h:spec_EvalPoly.f k a0 l1 a2=some r) :
 Calls Try.prog 139 #[.int .i64 a0,.slice A1 l1.length c1,.int .i64 a2] w fun e w'=>e=.returned (.int .i64 r)∧Drawn0 w w':=by
 have b0:=ak hr1;have B0:=ak hc1;clear hr1 hc1;have H:=h;clear h;unfold spec_EvalPoly.f at H;obtain ⟨p0,A4,H⟩:=ob H;(try dsimp only at H)
 by_cases c5:p0=true;rotate_left
 · replace c5:=Bool.eq_false_iff.mpr c5;subst c5;rw [if_neg (show ¬ (false=true) by decide)] at H;obtain rfl:=Option.some.inj H;go_enter Try.func139,Try.ntmps139
   go_wp2_with (first | (go_at_call 141;(with_reducible refine (spec_PolyOk.calls k a0 _ _ l1 false _ ?side1 B0.out A4.out).mono ?_);(case side1=>exact cA b0.out);rintro e w' ⟨rfl,⟨nd,rfl⟩⟩;(try first | exact ⟨rfl,_,World.drewN_drewN _ _ _⟩ | exact ⟨rfl,_,Eq.trans (World.drewN_drewN _ _ _) (congrArg (World.drewN _) (Nat.add_assoc _ _ _))⟩)))
   repeat (go_quiet (first | (go_at_call 141;(with_reducible refine (spec_PolyOk.calls k a0 _ _ l1 false _ ?side1 B0.out A4.out).mono ?_);(case side1=>exact cA b0.out);rintro e w' ⟨rfl,⟨nd,rfl⟩⟩;(try first | exact ⟨rfl,_,World.drewN_drewN _ _ _⟩ | exact ⟨rfl,_,Eq.trans (World.drewN_drewN _ _ _) (congrArg (World.drewN _) (Nat.add_assoc _ _ _))⟩)));try go_wp2_with (first | (go_at_call 141;(with_reducible refine (spec_PolyOk.calls k a0 _ _ l1 false _ ?side1 B0.out A4.out).mono ?_);(case side1=>exact cA b0.out);rintro e w' ⟨rfl,⟨nd,rfl⟩⟩;(try first | exact ⟨rfl,_,World.drewN_drewN _ _ _⟩ | exact ⟨rfl,_,Eq.trans (World.drewN_drewN _ _ _) (congrArg (World.drewN _) (Nat.add_assoc _ _ _))⟩))))
   go_ret
   exact ⟨xq9,xq5⟩
 subst c5;rw [if_pos rfl] at H;have H':=ak H;clear H;go_enter Try.func139,Try.ntmps139
 go_wp2_with (first | (go_at_call 141;(with_reducible refine (spec_PolyOk.calls k a0 _ _ l1 true _ ?side1 B0.out A4.out).mono ?_);(case side1=>exact cA b0.out);rintro e w' ⟨rfl,⟨nd,rfl⟩⟩;(try first | exact ⟨rfl,_,World.drewN_drewN _ _ _⟩ | exact ⟨rfl,_,Eq.trans (World.drewN_drewN _ _ _) (congrArg (World.drewN _) (Nat.add_assoc _ _ _))⟩)))
 repeat (go_quiet (first | (go_at_call 141;(with_reducible refine (spec_PolyOk.calls k a0 _ _ l1 true _ ?side1 B0.out A4.out).mono ?_);(case side1=>exact cA b0.out);rintro e w' ⟨rfl,⟨nd,rfl⟩⟩;(try first | exact ⟨rfl,_,World.drewN_drewN _ _ _⟩ | exact ⟨rfl,_,Eq.trans (World.drewN_drewN _ _ _) (congrArg (World.drewN _) (Nat.add_assoc _ _ _))⟩)));try go_wp2_with (first | (go_at_call 141;(with_reducible refine (spec_PolyOk.calls k a0 _ _ l1 true _ ?side1 B0.out A4.out).mono ?_);(case side1=>exact cA b0.out);rintro e w' ⟨rfl,⟨nd,rfl⟩⟩;(try first | exact ⟨rfl,_,World.drewN_drewN _ _ _⟩ | exact ⟨rfl,_,Eq.trans (World.drewN_drewN _ _ _) (congrArg (World.drewN _) (Nat.add_assoc _ _ _))⟩))))
 go_loopg [7,8] k (fun kq v7 v8 w'=>∃ (w3:Int) (w4:Int),v7=.int .i64 w3∧v8=.int .i64 w4∧Aside0 (spec_EvalPoly.l0 kq a0 l1 a2 w3 w4=some r)∧Aside0 (kq≤k)∧Drawn0 w w')
 case atStart=>exact ⟨(0),(0),eqA,eqA,H',⟨Nat.le_refl _⟩,xq5⟩
 case round =>
  clear H';obtain ⟨w3,w4,rfl,rfl,HA,W0,⟨m1,rfl⟩⟩:=hrel
  cases gk with
  | zero=>exact absurd HA.out (by simp [spec_EvalPoly.l0])
  | succ k1 =>
   have H:=HA.out;clear HA;simp only [spec_EvalPoly.l0] at H
   by_cases c6:w4 < (l1.length:Int);rotate_left
   · rw [if_neg c6] at H;have x0:=decide_eq_false c6;clear c6;obtain rfl:=Option.some.inj H;go_wp2
     repeat (go_quiet (fail);try go_wp2)
     go_ret
     exact ⟨xq9,xq5⟩
   rw [if_pos c6] at H;have x0:=decide_eq_true c6;clear c6
   obtain ⟨c7,H⟩:=iN H;have x1:=decide_eq_true c7;clear c7;obtain ⟨p1,A8,H⟩:=ob H;(try dsimp only at H);obtain ⟨p2,A9,H⟩:=ob H;(try dsimp only at H);obtain ⟨p3,g3,H⟩:=ob H;(try dsimp only at H);have H':=ak H;clear H;have V0:0≤(w4:Int):=odA;have a5:w4 < (l1.length:Int):=odA;obtain ⟨A0,o0,O0⟩:=Kd.at_int b0.out w4 V0 a5
   cases o0
   replace V0:=eq_true V0;replace a5:=eq_true a5;go_wp2_with (first | (go_at_call 144;(with_reducible refine (spec_Power.calls k1 a0 a2 w4 p1 _ A8.out).mono ?_);rintro e w' ⟨rfl,⟨nd,rfl⟩⟩;(try first | exact ⟨rfl,_,World.drewN_drewN _ _ _⟩ | exact ⟨rfl,_,Eq.trans (World.drewN_drewN _ _ _) (congrArg (World.drewN _) (Nat.add_assoc _ _ _))⟩)) | (go_at_call 143;(with_reducible refine (spec_Mul.calls a0 (rd l1 w4) p1 p2 _ A9.out).mono ?_);rintro e w' ⟨rfl,⟨nd,rfl⟩⟩;(try first | exact ⟨rfl,_,World.drewN_drewN _ _ _⟩ | exact ⟨rfl,_,Eq.trans (World.drewN_drewN _ _ _) (congrArg (World.drewN _) (Nat.add_assoc _ _ _))⟩)) | (go_at_call 142;(with_reducible refine (spec_Add.calls a0 w3 p2 p3 _ g3.out).mono ?_);rintro e w' ⟨rfl,⟨nd,rfl⟩⟩;(try first | exact ⟨rfl,_,World.drewN_drewN _ _ _⟩ | exact ⟨rfl,_,Eq.trans (World.drewN_drewN _ _ _) (congrArg (World.drewN _) (Nat.add_assoc _ _ _))⟩)))
   repeat (go_quiet (first | (go_at_call 144;(with_reducible refine (spec_Power.calls k1 a0 a2 w4 p1 _ A8.out).mono ?_);rintro e w' ⟨rfl,⟨nd,rfl⟩⟩;(try first | exact ⟨rfl,_,World.drewN_drewN _ _ _⟩ | exact ⟨rfl,_,Eq.trans (World.drewN_drewN _ _ _) (congrArg (World.drewN _) (Nat.add_assoc _ _ _))⟩)) | (go_at_call 143;(with_reducible refine (spec_Mul.calls a0 (rd l1 w4) p1 p2 _ A9.out).mono ?_);rintro e w' ⟨rfl,⟨nd,rfl⟩⟩;(try first | exact ⟨rfl,_,World.drewN_drewN _ _ _⟩ | exact ⟨rfl,_,Eq.trans (World.drewN_drewN _ _ _) (congrArg (World.drewN _) (Nat.add_assoc _ _ _))⟩)) | (go_at_call 142;(with_reducible refine (spec_Add.calls a0 w3 p2 p3 _ g3.out).mono ?_);rintro e w' ⟨rfl,⟨nd,rfl⟩⟩;(try first | exact ⟨rfl,_,World.drewN_drewN _ _ _⟩ | exact ⟨rfl,_,Eq.trans (World.drewN_drewN _ _ _) (congrArg (World.drewN _) (Nat.add_assoc _ _ _))⟩)));try go_wp2_with (first | (go_at_call 144;(with_reducible refine (spec_Power.calls k1 a0 a2 w4 p1 _ A8.out).mono ?_);rintro e w' ⟨rfl,⟨nd,rfl⟩⟩;(try first | exact ⟨rfl,_,World.drewN_drewN _ _ _⟩ | exact ⟨rfl,_,Eq.trans (World.drewN_drewN _ _ _) (congrArg (World.drewN _) (Nat.add_assoc _ _ _))⟩)) | (go_at_call 143;(with_reducible refine (spec_Mul.calls a0 (rd l1 w4) p1 p2 _ A9.out).mono ?_);rintro e w' ⟨rfl,⟨nd,rfl⟩⟩;(try first | exact ⟨rfl,_,World.drewN_drewN _ _ _⟩ | exact ⟨rfl,_,Eq.trans (World.drewN_drewN _ _ _) (congrArg (World.drewN _) (Nat.add_assoc _ _ _))⟩)) | (go_at_call 142;(with_reducible refine (spec_Add.calls a0 w3 p2 p3 _ g3.out).mono ?_);rintro e w' ⟨rfl,⟨nd,rfl⟩⟩;(try first | exact ⟨rfl,_,World.drewN_drewN _ _ _⟩ | exact ⟨rfl,_,Eq.trans (World.drewN_drewN _ _ _) (congrArg (World.drewN _) (Nat.add_assoc _ _ _))⟩))))
   go_roundg k1
   case measure=>have:=W0.out;omega
   case rel=>exact ⟨(p3),(wrap64 (w4+1)),eqA,eqA,H',⟨xq14⟩,xq5⟩

end Go.Proofs.Ytogdhclomgafdaa.PFnWireJobs
