-- Written by a program of this session (the print of the kit with contracts of this session's own added)
import Derived.Test.YtogdhclomgafdaaZFWJx3
namespace Go.Proofs.Ytogdhclomgafdaa.PFnWireJobs
open Go.RowKit Go.Proofs.YtogdhclomgafdaaW.PrintWords Go.Proofs.YtogdhclomgafdaaW.PrintLast Go.Proofs.YtogdhclomgafdaaW.PrintMore Go.Proofs.YtogdhclomgafdaaW.PrintPack
set_option linter.unusedVariables false
set_option linter.unusedSimpArgs false

def impl_isJob.j0:Nat → Bool → Int → Int → List Int → List Int → Int → Option (Bool)
 | 0,_,_,_,_,_,_=>none
 | k+1,x32,x104000,x104001,x104002,x104003,x104004=>if x32=true then (some false) else ((impl_areWords.f k x104002).bind fun t109=>(if t109=true then ((impl_areWords.f k x104003).bind fun t110=>(if t110=true then (if x104004 < 0 then (some false) else (if x104004 > 400 then (some false) else ((impl_usesB.f x104000).bind fun t111=>(if t111=true then (if x104000=11 then (some true) else (some (x104004 == 0))) else (if (x104003.length:Int)=0 then (if x104000=11 then (some true) else (some (x104004 == 0))) else (some false)))))) else (some false))) else (some false)))
def impl_isJob.f (k:Nat) (a0_0:Int) (a0_1:Int) (l0_2:List Int) (l0_3:List Int) (a0_4:Int):Option (Bool):=(impl_fieldOf.f a0_1).bind fun bt104=>(if bt104.2.2.2=true then (if a0_0 < 1 then (impl_isJob.j0 k true a0_0 a0_1 l0_2 l0_3 a0_4) else (if a0_0 > 11 then (impl_isJob.j0 k true a0_0 a0_1 l0_2 l0_3 a0_4) else (if a0_0=6 then (impl_isJob.j0 k (a0_1 != 0) a0_0 a0_1 l0_2 l0_3 a0_4) else (impl_isJob.j0 k false a0_0 a0_1 l0_2 l0_3 a0_4)))) else (impl_isJob.j0 k true a0_0 a0_1 l0_2 l0_3 a0_4))
set_option maxHeartbeats 8000000 in
set_option maxRecDepth 100000 in
theorem impl_isJob.calls (k:Nat) (a0_0:Int) (a0_1:Int) (A0_2:Option Addr) (c0_2:Nat) (l0_2:List Int) (A0_3:Option Addr) (c0_3:Nat) (l0_3:List Int) (a0_4:Int) (r:Bool) (w:World) (hr0_2:Kd.C (Kd.int .i64) w A0_2 l0_2.length l0_2) (hc0_2:l0_2.length≤c0_2) (hr0_3:Kd.C (Kd.int .i64) w A0_3 l0_3.length l0_3) (hc0_3:l0_3.length≤c0_3) (h:impl_isJob.f k a0_0 a0_1 l0_2 l0_3 a0_4=some r) :
 Calls Try.prog 86 #[.agg #[.int .i64 a0_0,.int .i64 a0_1,.slice A0_2 l0_2.length c0_2,.slice A0_3 l0_3.length c0_3,.int .i64 a0_4]] w fun e w'=>e=.returned (.bool r)∧Below w.heap.size w w':=by
 have b0:=Try.underlying49;have b1:=Try.underlying126;have b2:=ak hr0_2;have B0:=ak hc0_2;clear hr0_2 hc0_2;have b3:=ak hr0_3;have B2:=ak hc0_3;clear hr0_3 hc0_3;have HB:=ak (Below.refl w.heap.size w);have H:=h;clear h;unfold impl_isJob.f at H;obtain ⟨⟨p0,p1,p2,p3⟩,A2,H⟩:=ob H;(try dsimp only at H);have B6:=ak H;clear H;go_enter Try.func86,Try.ntmps86
 go_upto_region 2 with (first | ((with_reducible refine gate_dst (N:=1) rfl ?_);(try (refine gate_guard (by rfl) ?_;dsimp only));refine boxA 1 #[.int .i64 a0_0,.int .i64 a0_1,.slice A0_2 l0_2.length c0_2,.slice A0_3 l0_3.length c0_3,.int .i64 a0_4] 49 ?_;intro l2 hg w4 hbox hb;have B8:=ak hbox;have w3:=leA (w:=w) hg;have W0:=leA (w:=w) hg;replace HB:=bS hb;clear hb hbox hg;obtain ⟨_,_,_,_,_,_,_,_,_,_⟩:=cel5 B8) | ((with_reducible refine gate_callee (f:=103) rfl ?_);refine goB 8 Try.func103 #[.int .i64 a0_1] rfl ?_;(with_reducible refine (impl_fieldOf.calls a0_1 p0 p1 p2 p3 _ A2.out).mono ?_);rintro e w6 ⟨rfl,hb⟩;refine ⟨_,rfl,?_⟩;replace B8:=bB B8 hb;replace HB:=bS hb;(try clear hb)) | ((with_reducible refine gate_dst (N:=3) rfl ?_);(try (refine gate_guard (by rfl) ?_;dsimp only));refine boxA 3 #[.int .i64 0,.int .i64 0,.int .i64 0] 126 ?_;intro l3 hg w7 hbox hb;have B9:=ak hbox;have w5:=leA (w:=w) hg;have W1:=leA (w:=w) hg;have N0:=neL hg B8;have N1:=neG hg B8;replace B8:=bB B8 hb;replace HB:=bS hb;clear hb hbox hg;have c0:=N1.out;have C0:=N0.out;obtain ⟨_,_,_,_,_,_⟩:=cel3 B9))
 (try simp only [Act.put,sa,sb,sc])
 go_cut [32] (fun N2 wc=>∃ (kq:Nat) (w8:Bool),N2=.bool w8∧Aside0 (impl_isJob.j0 kq w8 a0_0 a0_1 l0_2 l0_3 a0_4=some r)∧Aside0 (kq≤k)∧Aside0 (wc.heap[l2]?=some (.cells #[.int .i64 a0_0,.int .i64 a0_1,(.slice A0_2 l0_2.length c0_2),(.slice A0_3 l0_3.length c0_3),.int .i64 a0_4] 49 (0,0)))∧Aside0 (wc.heap[l3]?=some (.cells #[.int .i64 p0,.int .i64 p1,.int .i64 p2] 126 (0,0)))∧Aside0 (Below w.heap.size w wc))
 case first =>
  have H:=B6.out;clear B6
  by_cases c10:p3=true;rotate_left
  · replace c10:=Bool.eq_false_iff.mpr c10;subst c10;rw [if_neg (show ¬ (false=true) by decide)] at H;have H':=ak H;clear H;go_wp2
    go_meet
    case rel=>exact ⟨_,(true),eqA,H',⟨xq12⟩,⟨xq44⟩,⟨xq45⟩,⟨belA⟩⟩
  subst c10;rw [if_pos rfl] at H
  by_cases x0:a0_0 < 1
  · rw [if_pos x0] at H;have x1:=decide_eq_true x0;clear x0;(first | rw [x1] | (simp only [i64_w,i32_w];rw [x1]) | skip)
    have H':=ak H;clear H;have c1:=N0.out;have C1:=N1.out;obtain ⟨_,_,_,_,_,_,_,_,_,_⟩:=cel5 B8;go_wp2
    go_meet
    case rel=>exact ⟨_,(true),eqA,H',⟨xq12⟩,⟨xq44⟩,⟨xq45⟩,⟨belA⟩⟩
  rw [if_neg x0] at H;have x1:=decide_eq_false x0;clear x0;(first | rw [x1] | (simp only [i64_w,i32_w];rw [x1]) | skip)
  by_cases x2:a0_0 > 11
  · rw [if_pos x2] at H;have x3:decide (11 < a0_0)=true:=decide_eq_true x2;clear x2;have H':=ak H;clear H;have ca:=N0.out;have C2:=N1.out;obtain ⟨_,_,_,_,_,_,_,_,_,_⟩:=cel5 B8;go_wp2
    go_meet
    case rel=>exact ⟨_,(true),eqA,H',⟨xq12⟩,⟨xq44⟩,⟨xq45⟩,⟨belA⟩⟩
  rw [if_neg x2] at H;have x3:decide (11 < a0_0)=false:=decide_eq_false x2;clear x2
  by_cases x4:a0_0=6;rotate_left
  · rw [if_neg x4] at H;have x5:(a0_0 == 6)=false:=beq_eq_false_iff_ne.mpr x4;have x6:(a0_0 != 6)=true:=bne_iff_ne.mpr x4;have H':=ak H;clear H;have cb:=N0.out;have C3:=N1.out;obtain ⟨_,_,_,_,_,_,_,_,_,_⟩:=cel5 B8;go_wp2
    go_meet
    case rel=>exact ⟨_,(false),eqA,H',⟨xq12⟩,⟨xq44⟩,⟨xq45⟩,⟨belA⟩⟩
  rw [if_pos x4] at H;have x5:(a0_0 == 6)=true:=beq_iff_eq.mpr x4;have x6:(a0_0 != 6)=false:=bne_eq_false_iff_eq.mpr x4;clear x4;have H':=ak H;clear H;have cc:=N0.out;have C4:=N1.out;obtain ⟨_,_,_,_,_,_,_,_,_,_⟩:=cel5 B8;go_wp2
  go_meet
  case rel=>exact ⟨_,((a0_1 != 0)),eqA,H',⟨xq12⟩,⟨xq44⟩,⟨xq45⟩,⟨belA⟩⟩
 case rest =>
  clear B6;obtain ⟨kq,w8,rfl,HA,cd,B8,B9,HB⟩:=hcut
  cases kq with
  | zero=>exact absurd HA.out (by simp [impl_isJob.j0])
  | succ y0 =>
   have H:=HA.out;clear HA;simp only [impl_isJob.j0] at H
   by_cases x7:w8=true
   · subst x7;rw [if_pos rfl] at H;obtain rfl:=Option.some.inj H;go_wp2
     go_ret
     exact ⟨xq4,belA⟩
   replace x7:=Bool.eq_false_iff.mpr x7;subst x7;rw [if_neg (show ¬ (false=true) by decide)] at H;obtain ⟨p4,g3,H⟩:=ob H;(try dsimp only at H)
   by_cases x8:p4=true;rotate_left
   · replace x8:=Bool.eq_false_iff.mpr x8;subst x8;rw [if_neg (show ¬ (false=true) by decide)] at H;obtain rfl:=Option.some.inj H;have ce:=N0.out;have C5:=N1.out;obtain ⟨_,_,_,_,_,_,_,_,_,_⟩:=cel5 B8;go_wp2_with (first | ((with_reducible refine gate_callee (f:=113) rfl ?_);refine goB 35 Try.func113 #[.slice A0_2 l0_2.length c0_2] rfl ?_;(with_reducible refine (impl_areWords.calls y0 _ _ l0_2 false _ ?side1 B0.out g3.out).mono ?_);(case side1=>exact cA (Kd.C_below b2.out HB.out));rintro e w' ⟨rfl,⟨nd,rfl⟩⟩;refine ⟨_,rfl,?_⟩))
     go_ret
     exact ⟨xq4,belA⟩
   subst x8;rw [if_pos rfl] at H;obtain ⟨p5,g4,H⟩:=ob H;(try dsimp only at H)
   by_cases x9:p5=true;rotate_left
   · replace x9:=Bool.eq_false_iff.mpr x9;subst x9;rw [if_neg (show ¬ (false=true) by decide)] at H;obtain rfl:=Option.some.inj H;have cf:=N0.out;have C6:=N1.out;obtain ⟨_,_,_,_,_,_,_,_,_,_⟩:=cel5 B8;go_wp2_with (first | ((with_reducible refine gate_callee (f:=113) rfl ?_);refine goB 35 Try.func113 #[.slice A0_2 l0_2.length c0_2] rfl ?_;(with_reducible refine (impl_areWords.calls y0 _ _ l0_2 true _ ?side1 B0.out g3.out).mono ?_);(case side1=>exact cA (Kd.C_below b2.out HB.out));rintro e w' ⟨rfl,⟨nd,rfl⟩⟩;refine ⟨_,rfl,?_⟩) | (go_at_call 113;(with_reducible refine (impl_areWords.calls y0 _ _ l0_3 false _ ?side1 B2.out g4.out).mono ?_);(case side1=>exact cA (Kd.C_below b3.out belA));rintro e w' ⟨rfl,⟨nd,rfl⟩⟩))
     go_ret
     exact ⟨xq4,belA⟩
   subst x9;rw [if_pos rfl] at H
   by_cases xa:a0_4 < 0
   · rw [if_pos xa] at H;have xb:=decide_eq_true xa;clear xa;obtain rfl:=Option.some.inj H;have cg:=N0.out;have C7:=N1.out;obtain ⟨_,_,_,_,_,_,_,_,_,_⟩:=cel5 B8;go_wp2_with (first | ((with_reducible refine gate_callee (f:=113) rfl ?_);refine goB 35 Try.func113 #[.slice A0_2 l0_2.length c0_2] rfl ?_;(with_reducible refine (impl_areWords.calls y0 _ _ l0_2 true _ ?side1 B0.out g3.out).mono ?_);(case side1=>exact cA (Kd.C_below b2.out HB.out));rintro e w' ⟨rfl,⟨nd,rfl⟩⟩;refine ⟨_,rfl,?_⟩) | (go_at_call 113;(with_reducible refine (impl_areWords.calls y0 _ _ l0_3 true _ ?side1 B2.out g4.out).mono ?_);(case side1=>exact cA (Kd.C_below b3.out belA));rintro e w' ⟨rfl,⟨nd,rfl⟩⟩))
     go_ret
     exact ⟨xq4,belA⟩
   rw [if_neg xa] at H;have xb:=decide_eq_false xa;clear xa
   by_cases xc:a0_4 > 400
   · rw [if_pos xc] at H;have xd:decide (400 < a0_4)=true:=decide_eq_true xc;clear xc;obtain rfl:=Option.some.inj H;have ch:=N0.out;have C8:=N1.out;obtain ⟨_,_,_,_,_,_,_,_,_,_⟩:=cel5 B8;go_wp2_with (first | ((with_reducible refine gate_callee (f:=113) rfl ?_);refine goB 35 Try.func113 #[.slice A0_2 l0_2.length c0_2] rfl ?_;(with_reducible refine (impl_areWords.calls y0 _ _ l0_2 true _ ?side1 B0.out g3.out).mono ?_);(case side1=>exact cA (Kd.C_below b2.out HB.out));rintro e w' ⟨rfl,⟨nd,rfl⟩⟩;refine ⟨_,rfl,?_⟩) | (go_at_call 113;(with_reducible refine (impl_areWords.calls y0 _ _ l0_3 true _ ?side1 B2.out g4.out).mono ?_);(case side1=>exact cA (Kd.C_below b3.out belA));rintro e w' ⟨rfl,⟨nd,rfl⟩⟩))
     go_ret
     exact ⟨xq4,belA⟩
   rw [if_neg xc] at H;have xd:decide (400 < a0_4)=false:=decide_eq_false xc;clear xc;obtain ⟨p6,g5,H⟩:=ob H;(try dsimp only at H)
   by_cases xe:p6=true
   · subst xe;rw [if_pos rfl] at H
     by_cases xf:a0_0=11;rotate_left
     · rw [if_neg xf] at H;have xg:(a0_0 == 11)=false:=beq_eq_false_iff_ne.mpr xf;have xh:(a0_0 != 11)=true:=bne_iff_ne.mpr xf;obtain rfl:=Option.some.inj H;have ci:=N0.out;have C9:=N1.out;obtain ⟨_,_,_,_,_,_,_,_,_,_⟩:=cel5 B8;go_wp2_with (first | ((with_reducible refine gate_callee (f:=113) rfl ?_);refine goB 35 Try.func113 #[.slice A0_2 l0_2.length c0_2] rfl ?_;(with_reducible refine (impl_areWords.calls y0 _ _ l0_2 true _ ?side1 B0.out g3.out).mono ?_);(case side1=>exact cA (Kd.C_below b2.out HB.out));rintro e w' ⟨rfl,⟨nd,rfl⟩⟩;refine ⟨_,rfl,?_⟩) | (go_at_call 113;(with_reducible refine (impl_areWords.calls y0 _ _ l0_3 true _ ?side1 B2.out g4.out).mono ?_);(case side1=>exact cA (Kd.C_below b3.out belA));rintro e w' ⟨rfl,⟨nd,rfl⟩⟩) | ((with_reducible refine gate_callee (f:=114) rfl ?_);refine goB 55 Try.func114 #[.int .i64 a0_0] rfl ?_;(with_reducible refine (impl_usesB.calls a0_0 true _ g5.out).mono ?_);rintro e w' ⟨rfl,⟨nd,rfl⟩⟩;refine ⟨_,rfl,?_⟩))
       go_ret
       exact ⟨xq4,belA⟩
     rw [if_pos xf] at H;have xg:(a0_0 == 11)=true:=beq_iff_eq.mpr xf;have xh:(a0_0 != 11)=false:=bne_eq_false_iff_eq.mpr xf;clear xf;obtain rfl:=Option.some.inj H;have cj:=N0.out;have Ca:=N1.out;obtain ⟨_,_,_,_,_,_,_,_,_,_⟩:=cel5 B8;go_wp2_with (first | ((with_reducible refine gate_callee (f:=113) rfl ?_);refine goB 35 Try.func113 #[.slice A0_2 l0_2.length c0_2] rfl ?_;(with_reducible refine (impl_areWords.calls y0 _ _ l0_2 true _ ?side1 B0.out g3.out).mono ?_);(case side1=>exact cA (Kd.C_below b2.out HB.out));rintro e w' ⟨rfl,⟨nd,rfl⟩⟩;refine ⟨_,rfl,?_⟩) | (go_at_call 113;(with_reducible refine (impl_areWords.calls y0 _ _ l0_3 true _ ?side1 B2.out g4.out).mono ?_);(case side1=>exact cA (Kd.C_below b3.out belA));rintro e w' ⟨rfl,⟨nd,rfl⟩⟩) | ((with_reducible refine gate_callee (f:=114) rfl ?_);refine goB 55 Try.func114 #[.int .i64 a0_0] rfl ?_;(with_reducible refine (impl_usesB.calls a0_0 true _ g5.out).mono ?_);rintro e w' ⟨rfl,⟨nd,rfl⟩⟩;refine ⟨_,rfl,?_⟩))
     go_ret
     exact ⟨xq4,belA⟩
   replace xe:=Bool.eq_false_iff.mpr xe;subst xe;rw [if_neg (show ¬ (false=true) by decide)] at H
   by_cases xi:(l0_3.length:Int)=0;rotate_left
   · rw [if_neg xi] at H;have xj:((l0_3.length:Int) == 0)=false:=beq_eq_false_iff_ne.mpr xi;have xk:((l0_3.length:Int) != 0)=true:=bne_iff_ne.mpr xi;have xl:¬ (l0_3=[]):=fun h_=>xi (by rw [h_];rfl)
     obtain rfl:=Option.some.inj H;have ck:=N0.out;have Cb:=N1.out;obtain ⟨_,_,_,_,_,_,_,_,_,_⟩:=cel5 B8;go_wp2_with (first | ((with_reducible refine gate_callee (f:=113) rfl ?_);refine goB 35 Try.func113 #[.slice A0_2 l0_2.length c0_2] rfl ?_;(with_reducible refine (impl_areWords.calls y0 _ _ l0_2 true _ ?side1 B0.out g3.out).mono ?_);(case side1=>exact cA (Kd.C_below b2.out HB.out));rintro e w' ⟨rfl,⟨nd,rfl⟩⟩;refine ⟨_,rfl,?_⟩) | (go_at_call 113;(with_reducible refine (impl_areWords.calls y0 _ _ l0_3 true _ ?side1 B2.out g4.out).mono ?_);(case side1=>exact cA (Kd.C_below b3.out belA));rintro e w' ⟨rfl,⟨nd,rfl⟩⟩) | ((with_reducible refine gate_callee (f:=114) rfl ?_);refine goB 55 Try.func114 #[.int .i64 a0_0] rfl ?_;(with_reducible refine (impl_usesB.calls a0_0 false _ g5.out).mono ?_);rintro e w' ⟨rfl,⟨nd,rfl⟩⟩;refine ⟨_,rfl,?_⟩))
     go_ret
     exact ⟨xq4,belA⟩
   rw [if_pos xi] at H;have xj:((l0_3.length:Int) == 0)=true:=beq_iff_eq.mpr xi;have xk:((l0_3.length:Int) != 0)=false:=bne_eq_false_iff_eq.mpr xi;clear xi
   by_cases xm:a0_0=11;rotate_left
   · rw [if_neg xm] at H;have xn:(a0_0 == 11)=false:=beq_eq_false_iff_ne.mpr xm;have xo:(a0_0 != 11)=true:=bne_iff_ne.mpr xm;obtain rfl:=Option.some.inj H;have cl:=N0.out;have Cc:=N1.out;obtain ⟨_,_,_,_,_,_,_,_,_,_⟩:=cel5 B8;go_wp2_with (first | ((with_reducible refine gate_callee (f:=113) rfl ?_);refine goB 35 Try.func113 #[.slice A0_2 l0_2.length c0_2] rfl ?_;(with_reducible refine (impl_areWords.calls y0 _ _ l0_2 true _ ?side1 B0.out g3.out).mono ?_);(case side1=>exact cA (Kd.C_below b2.out HB.out));rintro e w' ⟨rfl,⟨nd,rfl⟩⟩;refine ⟨_,rfl,?_⟩) | (go_at_call 113;(with_reducible refine (impl_areWords.calls y0 _ _ l0_3 true _ ?side1 B2.out g4.out).mono ?_);(case side1=>exact cA (Kd.C_below b3.out belA));rintro e w' ⟨rfl,⟨nd,rfl⟩⟩) | ((with_reducible refine gate_callee (f:=114) rfl ?_);refine goB 55 Try.func114 #[.int .i64 a0_0] rfl ?_;(with_reducible refine (impl_usesB.calls a0_0 false _ g5.out).mono ?_);rintro e w' ⟨rfl,⟨nd,rfl⟩⟩;refine ⟨_,rfl,?_⟩))
     go_ret
     exact ⟨xq4,belA⟩
   rw [if_pos xm] at H;have xn:(a0_0 == 11)=true:=beq_iff_eq.mpr xm;have xo:(a0_0 != 11)=false:=bne_eq_false_iff_eq.mpr xm;clear xm;obtain rfl:=Option.some.inj H;have cm:=N0.out;have Cd:=N1.out;obtain ⟨_,_,_,_,_,_,_,_,_,_⟩:=cel5 B8;go_wp2_with (first | ((with_reducible refine gate_callee (f:=113) rfl ?_);refine goB 35 Try.func113 #[.slice A0_2 l0_2.length c0_2] rfl ?_;(with_reducible refine (impl_areWords.calls y0 _ _ l0_2 true _ ?side1 B0.out g3.out).mono ?_);(case side1=>exact cA (Kd.C_below b2.out HB.out));rintro e w' ⟨rfl,⟨nd,rfl⟩⟩;refine ⟨_,rfl,?_⟩) | (go_at_call 113;(with_reducible refine (impl_areWords.calls y0 _ _ l0_3 true _ ?side1 B2.out g4.out).mono ?_);(case side1=>exact cA (Kd.C_below b3.out belA));rintro e w' ⟨rfl,⟨nd,rfl⟩⟩) | ((with_reducible refine gate_callee (f:=114) rfl ?_);refine goB 55 Try.func114 #[.int .i64 a0_0] rfl ?_;(with_reducible refine (impl_usesB.calls a0_0 false _ g5.out).mono ?_);rintro e w' ⟨rfl,⟨nd,rfl⟩⟩;refine ⟨_,rfl,?_⟩))
   go_ret
   exact ⟨xq4,belA⟩

end Go.Proofs.Ytogdhclomgafdaa.PFnWireJobs
