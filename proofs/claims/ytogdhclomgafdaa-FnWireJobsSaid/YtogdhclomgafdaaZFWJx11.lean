-- Written by a program of this session (the print of the kit with contracts of this session's own added)
import Derived.Test.YtogdhclomgafdaaZFWJx10
set_option maxHeartbeats 8000000
set_option maxRecDepth 100000
namespace Go.Proofs.Ytogdhclomgafdaa.PFnWireJobs
open Go.RowKit Go.Proofs.YtogdhclomgafdaaW.PrintWords Go.Proofs.YtogdhclomgafdaaW.PrintLast Go.Proofs.YtogdhclomgafdaaW.PrintMore Go.Proofs.YtogdhclomgafdaaW.PrintPack Go.Proofs.YtogdhclomgafdaaW.PrintPack
set_option linter.unusedVariables false
set_option linter.unusedSimpArgs false

def spec_JobOk.j0:Nat → Bool → Int → Int → List Int → List Int → Int → Option (Bool)
 | 0,_,_,_,_,_,_=>none
 | k+1,x22,x242000,x242001,x242002,x242003,x242004=>if x22=true then (some false) else ((spec_l10Words.f k x242002).bind fun t244=>(if t244=true then ((spec_l10Words.f k x242003).bind fun t245=>(if t245=true then ((spec_l01In.f x242004 0 400).bind fun t246=>(if t246=true then ((spec_l10UsesB.f k x242000).bind fun t247=>(if t247=true then (if x242000=11 then (some true) else (some (x242004 == 0))) else (if (x242003.length:Int)=0 then (if x242000=11 then (some true) else (some (x242004 == 0))) else (some false)))) else (some false))) else (some false))) else (some false)))
def spec_JobOk.f (k:Nat) (a0_0:Int) (a0_1:Int) (l0_2:List Int) (l0_3:List Int) (a0_4:Int):Option (Bool):=(spec_l01In.f a0_0 1 11).bind fun t242=>(if t242=true then ((spec_Modulus.f a0_1).bind fun t243=>(if t243=0 then (spec_JobOk.j0 k true a0_0 a0_1 l0_2 l0_3 a0_4) else (if a0_0=6 then (spec_JobOk.j0 k (a0_1 != 0) a0_0 a0_1 l0_2 l0_3 a0_4) else (spec_JobOk.j0 k false a0_0 a0_1 l0_2 l0_3 a0_4)))) else (spec_JobOk.j0 k true a0_0 a0_1 l0_2 l0_3 a0_4))
theorem spec_JobOk.calls (k:Nat) (a0_0:Int) (a0_1:Int) (A0_2:Option Addr) (c0_2:Nat) (l0_2:List Int) (A0_3:Option Addr) (c0_3:Nat) (l0_3:List Int) (a0_4:Int) (r:Bool) (w:World) (hr0_2:Kd.C (Kd.int .i64) w A0_2 l0_2.length l0_2) (hc0_2:l0_2.length≤c0_2) (hr0_3:Kd.C (Kd.int .i64) w A0_3 l0_3.length l0_3) (hc0_3:l0_3.length≤c0_3) (h:spec_JobOk.f k a0_0 a0_1 l0_2 l0_3 a0_4=some r) :
 Calls Try.prog 45 #[.agg #[.int .i64 a0_0,.int .i64 a0_1,.slice A0_2 l0_2.length c0_2,.slice A0_3 l0_3.length c0_3,.int .i64 a0_4]] w fun e w'=>e=.returned (.bool r)∧Below w.heap.size w w':=by
 have b0:=Try.underlying49;have b1:=ak hr0_2;have B0:=ak hc0_2;clear hr0_2 hc0_2;have b2:=ak hr0_3;have B2:=ak hc0_3;clear hr0_3 hc0_3;have HB:=ak (Below.refl w.heap.size w);have H:=h;clear h;unfold spec_JobOk.f at H;have B6:=ak H;clear H;go_enter Try.func45,Try.ntmps45
 go_upto_region 1 with (first | ((with_reducible refine gate_dst (N:=1) rfl ?_);(try (refine gate_guard (by rfl) ?_;dsimp only));refine boxA 1 #[.int .i64 a0_0,.int .i64 a0_1,.slice A0_2 l0_2.length c0_2,.slice A0_3 l0_3.length c0_3,.int .i64 a0_4] 49 ?_;intro l2 hg w3 hbox hb;have B8:=ak hbox;have w4:=leA (w:=w) hg;have W0:=leA (w:=w) hg;replace HB:=bS hb;clear hb hbox hg))
 (try simp only [Act.put,sa,sb,sc])
 go_cut [22] (fun N0 wc=>∃ (kq:Nat) (w5:Bool),N0=.bool w5∧Aside0 (spec_JobOk.j0 kq w5 a0_0 a0_1 l0_2 l0_3 a0_4=some r)∧Aside0 (kq≤k)∧Aside0 (wc.heap[l2]?=some (.cells #[.int .i64 a0_0,.int .i64 a0_1,(.slice A0_2 l0_2.length c0_2),(.slice A0_3 l0_3.length c0_3),.int .i64 a0_4] 49 (0,0)))∧Aside0 (Below w.heap.size w wc))
 case first =>
  have H:=B6.out;clear B6;obtain ⟨p0,A4,H⟩:=ob H;(try dsimp only at H)
  by_cases c5:p0=true;rotate_left
  · replace c5:=Bool.eq_false_iff.mpr c5;subst c5;rw [if_neg (show ¬ (false=true) by decide)] at H;have H':=ak H;clear H;obtain ⟨_,_,_,_,_,_,_,_,_,_⟩:=cel5 B8;go_wp2_with (first | ((with_reducible refine gate_callee (f:=62) rfl ?_);refine goB 5 Try.func62 #[.int .i64 a0_0,.int .i64 1,.int .i64 11] rfl ?_;(with_reducible refine (spec_l01In.calls a0_0 1 11 false _ A4.out).mono ?_);rintro e w' ⟨rfl,⟨nd,rfl⟩⟩;refine ⟨_,rfl,?_⟩))
    go_meet
    case rel=>exact ⟨_,(true),eqA,H',⟨xq12⟩,⟨blkA⟩,⟨belA⟩⟩
  subst c5;rw [if_pos rfl] at H;obtain ⟨p1,A6,H⟩:=ob H;(try dsimp only at H)
  by_cases c7:p1=0
  · rw [if_pos c7] at H;have x0:(p1 == 0)=true:=beq_iff_eq.mpr c7;have x1:(p1 != 0)=false:=bne_eq_false_iff_eq.mpr c7;clear c7;(first | rw [x0] | (simp only [i64_w,i32_w];rw [x0]) | skip)
    have H':=ak H;clear H;obtain ⟨_,_,_,_,_,_,_,_,_,_⟩:=cel5 B8;go_wp2_with (first | ((with_reducible refine gate_callee (f:=62) rfl ?_);refine goB 5 Try.func62 #[.int .i64 a0_0,.int .i64 1,.int .i64 11] rfl ?_;(with_reducible refine (spec_l01In.calls a0_0 1 11 true _ A4.out).mono ?_);rintro e w' ⟨rfl,⟨nd,rfl⟩⟩;refine ⟨_,rfl,?_⟩) | (go_at_call 82;(with_reducible refine (spec_Modulus.calls a0_1 p1 _ A6.out).mono ?_);rintro e w' ⟨rfl,⟨nd,rfl⟩⟩))
    go_meet
    case rel=>exact ⟨_,(true),eqA,H',⟨xq12⟩,⟨blkA⟩,⟨belA⟩⟩
  rw [if_neg c7] at H;have x0:(p1 == 0)=false:=beq_eq_false_iff_ne.mpr c7;have x1:(p1 != 0)=true:=bne_iff_ne.mpr c7;(first | rw [x0] | (simp only [i64_w,i32_w];rw [x0]) | skip)
  by_cases c9:a0_0=6;rotate_left
  · rw [if_neg c9] at H;have x2:(a0_0 == 6)=false:=beq_eq_false_iff_ne.mpr c9;have x3:(a0_0 != 6)=true:=bne_iff_ne.mpr c9;have H':=ak H;clear H;obtain ⟨_,_,_,_,_,_,_,_,_,_⟩:=cel5 B8;go_wp2_with (first | ((with_reducible refine gate_callee (f:=62) rfl ?_);refine goB 5 Try.func62 #[.int .i64 a0_0,.int .i64 1,.int .i64 11] rfl ?_;(with_reducible refine (spec_l01In.calls a0_0 1 11 true _ A4.out).mono ?_);rintro e w' ⟨rfl,⟨nd,rfl⟩⟩;refine ⟨_,rfl,?_⟩) | (go_at_call 82;(with_reducible refine (spec_Modulus.calls a0_1 p1 _ A6.out).mono ?_);rintro e w' ⟨rfl,⟨nd,rfl⟩⟩))
    go_meet
    case rel=>exact ⟨_,(false),eqA,H',⟨xq12⟩,⟨blkA⟩,⟨belA⟩⟩
  rw [if_pos c9] at H;have x2:(a0_0 == 6)=true:=beq_iff_eq.mpr c9;have x3:(a0_0 != 6)=false:=bne_eq_false_iff_eq.mpr c9;clear c9;have H':=ak H;clear H;obtain ⟨_,_,_,_,_,_,_,_,_,_⟩:=cel5 B8;go_wp2_with (first | ((with_reducible refine gate_callee (f:=62) rfl ?_);refine goB 5 Try.func62 #[.int .i64 a0_0,.int .i64 1,.int .i64 11] rfl ?_;(with_reducible refine (spec_l01In.calls a0_0 1 11 true _ A4.out).mono ?_);rintro e w' ⟨rfl,⟨nd,rfl⟩⟩;refine ⟨_,rfl,?_⟩) | (go_at_call 82;(with_reducible refine (spec_Modulus.calls a0_1 p1 _ A6.out).mono ?_);rintro e w' ⟨rfl,⟨nd,rfl⟩⟩))
  go_meet
  case rel=>exact ⟨_,((a0_1 != 0)),eqA,H',⟨xq12⟩,⟨blkA⟩,⟨belA⟩⟩
 case rest =>
  clear B6;obtain ⟨kq,w5,rfl,HA,c0,B8,HB⟩:=hcut
  cases kq with
  | zero=>exact absurd HA.out (by simp [spec_JobOk.j0])
  | succ y0 =>
   have H:=HA.out;clear HA;simp only [spec_JobOk.j0] at H
   by_cases x4:w5=true
   · subst x4;rw [if_pos rfl] at H;obtain rfl:=Option.some.inj H;go_wp2
     go_ret
     exact ⟨xq4,belA⟩
   replace x4:=Bool.eq_false_iff.mpr x4;subst x4;rw [if_neg (show ¬ (false=true) by decide)] at H;obtain ⟨p2,g3,H⟩:=ob H;(try dsimp only at H)
   by_cases x5:p2=true;rotate_left
   · replace x5:=Bool.eq_false_iff.mpr x5;subst x5;rw [if_neg (show ¬ (false=true) by decide)] at H;obtain rfl:=Option.some.inj H;obtain ⟨_,_,_,_,_,_,_,_,_,_⟩:=cel5 B8;go_wp2_with (first | ((with_reducible refine gate_callee (f:=83) rfl ?_);refine goB 25 Try.func83 #[.slice A0_2 l0_2.length c0_2] rfl ?_;(with_reducible refine (spec_l10Words.calls y0 _ _ l0_2 false _ ?side1 B0.out g3.out).mono ?_);(case side1=>exact cA (Kd.C_below b1.out HB.out));rintro e w' ⟨rfl,⟨nd,rfl⟩⟩;refine ⟨_,rfl,?_⟩))
     go_ret
     exact ⟨xq4,belA⟩
   subst x5;rw [if_pos rfl] at H;obtain ⟨p3,g4,H⟩:=ob H;(try dsimp only at H)
   by_cases x6:p3=true;rotate_left
   · replace x6:=Bool.eq_false_iff.mpr x6;subst x6;rw [if_neg (show ¬ (false=true) by decide)] at H;obtain rfl:=Option.some.inj H;obtain ⟨_,_,_,_,_,_,_,_,_,_⟩:=cel5 B8;go_wp2_with (first | ((with_reducible refine gate_callee (f:=83) rfl ?_);refine goB 25 Try.func83 #[.slice A0_2 l0_2.length c0_2] rfl ?_;(with_reducible refine (spec_l10Words.calls y0 _ _ l0_2 true _ ?side1 B0.out g3.out).mono ?_);(case side1=>exact cA (Kd.C_below b1.out HB.out));rintro e w' ⟨rfl,⟨nd,rfl⟩⟩;refine ⟨_,rfl,?_⟩) | (go_at_call 83;(with_reducible refine (spec_l10Words.calls y0 _ _ l0_3 false _ ?side1 B2.out g4.out).mono ?_);(case side1=>exact cA (Kd.C_below b2.out belA));rintro e w' ⟨rfl,⟨nd,rfl⟩⟩))
     go_ret
     exact ⟨xq4,belA⟩
   subst x6;rw [if_pos rfl] at H;obtain ⟨p4,g5,H⟩:=ob H;(try dsimp only at H)
   by_cases x7:p4=true;rotate_left
   · replace x7:=Bool.eq_false_iff.mpr x7;subst x7;rw [if_neg (show ¬ (false=true) by decide)] at H;obtain rfl:=Option.some.inj H;obtain ⟨_,_,_,_,_,_,_,_,_,_⟩:=cel5 B8;go_wp2_with (first | ((with_reducible refine gate_callee (f:=83) rfl ?_);refine goB 25 Try.func83 #[.slice A0_2 l0_2.length c0_2] rfl ?_;(with_reducible refine (spec_l10Words.calls y0 _ _ l0_2 true _ ?side1 B0.out g3.out).mono ?_);(case side1=>exact cA (Kd.C_below b1.out HB.out));rintro e w' ⟨rfl,⟨nd,rfl⟩⟩;refine ⟨_,rfl,?_⟩) | (go_at_call 83;(with_reducible refine (spec_l10Words.calls y0 _ _ l0_3 true _ ?side1 B2.out g4.out).mono ?_);(case side1=>exact cA (Kd.C_below b2.out belA));rintro e w' ⟨rfl,⟨nd,rfl⟩⟩) | (go_at_call 62;(with_reducible refine (spec_l01In.calls a0_4 0 400 false _ g5.out).mono ?_);rintro e w' ⟨rfl,⟨nd,rfl⟩⟩))
     go_ret
     exact ⟨xq4,belA⟩
   subst x7;rw [if_pos rfl] at H;obtain ⟨p5,g6,H⟩:=ob H;(try dsimp only at H)
   by_cases x8:p5=true
   · subst x8;rw [if_pos rfl] at H
     by_cases x9:a0_0=11;rotate_left
     · rw [if_neg x9] at H;have xa:(a0_0 == 11)=false:=beq_eq_false_iff_ne.mpr x9;have xb:(a0_0 != 11)=true:=bne_iff_ne.mpr x9;obtain rfl:=Option.some.inj H;obtain ⟨_,_,_,_,_,_,_,_,_,_⟩:=cel5 B8;go_wp2_with (first | ((with_reducible refine gate_callee (f:=83) rfl ?_);refine goB 25 Try.func83 #[.slice A0_2 l0_2.length c0_2] rfl ?_;(with_reducible refine (spec_l10Words.calls y0 _ _ l0_2 true _ ?side1 B0.out g3.out).mono ?_);(case side1=>exact cA (Kd.C_below b1.out HB.out));rintro e w' ⟨rfl,⟨nd,rfl⟩⟩;refine ⟨_,rfl,?_⟩) | (go_at_call 83;(with_reducible refine (spec_l10Words.calls y0 _ _ l0_3 true _ ?side1 B2.out g4.out).mono ?_);(case side1=>exact cA (Kd.C_below b2.out belA));rintro e w' ⟨rfl,⟨nd,rfl⟩⟩) | (go_at_call 62;(with_reducible refine (spec_l01In.calls a0_4 0 400 true _ g5.out).mono ?_);rintro e w' ⟨rfl,⟨nd,rfl⟩⟩) | ((with_reducible refine gate_callee (f:=84) rfl ?_);refine goB 41 Try.func84 #[.int .i64 a0_0] rfl ?_;(with_reducible refine (spec_l10UsesB.calls y0 a0_0 true _ g6.out).mono ?_);rintro e S0 ⟨rfl,hb⟩;refine ⟨_,rfl,?_⟩;replace B8:=bB B8 hb;replace HB:=bS hb;(try clear hb);obtain ⟨_,_,_,_,_,_,_,_,_,_⟩:=cel5 B8))
       go_ret
       exact ⟨xq4,belA⟩
     rw [if_pos x9] at H;have xa:(a0_0 == 11)=true:=beq_iff_eq.mpr x9;have xb:(a0_0 != 11)=false:=bne_eq_false_iff_eq.mpr x9;clear x9;obtain rfl:=Option.some.inj H;obtain ⟨_,_,_,_,_,_,_,_,_,_⟩:=cel5 B8;go_wp2_with (first | ((with_reducible refine gate_callee (f:=83) rfl ?_);refine goB 25 Try.func83 #[.slice A0_2 l0_2.length c0_2] rfl ?_;(with_reducible refine (spec_l10Words.calls y0 _ _ l0_2 true _ ?side1 B0.out g3.out).mono ?_);(case side1=>exact cA (Kd.C_below b1.out HB.out));rintro e w' ⟨rfl,⟨nd,rfl⟩⟩;refine ⟨_,rfl,?_⟩) | (go_at_call 83;(with_reducible refine (spec_l10Words.calls y0 _ _ l0_3 true _ ?side1 B2.out g4.out).mono ?_);(case side1=>exact cA (Kd.C_below b2.out belA));rintro e w' ⟨rfl,⟨nd,rfl⟩⟩) | (go_at_call 62;(with_reducible refine (spec_l01In.calls a0_4 0 400 true _ g5.out).mono ?_);rintro e w' ⟨rfl,⟨nd,rfl⟩⟩) | ((with_reducible refine gate_callee (f:=84) rfl ?_);refine goB 41 Try.func84 #[.int .i64 a0_0] rfl ?_;(with_reducible refine (spec_l10UsesB.calls y0 a0_0 true _ g6.out).mono ?_);rintro e S1 ⟨rfl,hb⟩;refine ⟨_,rfl,?_⟩;replace B8:=bB B8 hb;replace HB:=bS hb;(try clear hb);obtain ⟨_,_,_,_,_,_,_,_,_,_⟩:=cel5 B8))
     go_ret
     exact ⟨xq4,belA⟩
   replace x8:=Bool.eq_false_iff.mpr x8;subst x8;rw [if_neg (show ¬ (false=true) by decide)] at H
   by_cases xc:(l0_3.length:Int)=0;rotate_left
   · rw [if_neg xc] at H;have xd:((l0_3.length:Int) == 0)=false:=beq_eq_false_iff_ne.mpr xc;have xe:((l0_3.length:Int) != 0)=true:=bne_iff_ne.mpr xc;have xf:¬ (l0_3=[]):=fun h_=>xc (by rw [h_];rfl)
     obtain rfl:=Option.some.inj H;obtain ⟨_,_,_,_,_,_,_,_,_,_⟩:=cel5 B8;go_wp2_with (first | ((with_reducible refine gate_callee (f:=83) rfl ?_);refine goB 25 Try.func83 #[.slice A0_2 l0_2.length c0_2] rfl ?_;(with_reducible refine (spec_l10Words.calls y0 _ _ l0_2 true _ ?side1 B0.out g3.out).mono ?_);(case side1=>exact cA (Kd.C_below b1.out HB.out));rintro e w' ⟨rfl,⟨nd,rfl⟩⟩;refine ⟨_,rfl,?_⟩) | (go_at_call 83;(with_reducible refine (spec_l10Words.calls y0 _ _ l0_3 true _ ?side1 B2.out g4.out).mono ?_);(case side1=>exact cA (Kd.C_below b2.out belA));rintro e w' ⟨rfl,⟨nd,rfl⟩⟩) | (go_at_call 62;(with_reducible refine (spec_l01In.calls a0_4 0 400 true _ g5.out).mono ?_);rintro e w' ⟨rfl,⟨nd,rfl⟩⟩) | ((with_reducible refine gate_callee (f:=84) rfl ?_);refine goB 41 Try.func84 #[.int .i64 a0_0] rfl ?_;(with_reducible refine (spec_l10UsesB.calls y0 a0_0 false _ g6.out).mono ?_);rintro e S2 ⟨rfl,hb⟩;refine ⟨_,rfl,?_⟩;replace B8:=bB B8 hb;replace HB:=bS hb;(try clear hb);obtain ⟨_,_,_,_,_,_,_,_,_,_⟩:=cel5 B8))
     go_ret
     exact ⟨xq4,belA⟩
   rw [if_pos xc] at H;have xd:((l0_3.length:Int) == 0)=true:=beq_iff_eq.mpr xc;have xe:((l0_3.length:Int) != 0)=false:=bne_eq_false_iff_eq.mpr xc;clear xc
   by_cases xg:a0_0=11;rotate_left
   · rw [if_neg xg] at H;have xh:(a0_0 == 11)=false:=beq_eq_false_iff_ne.mpr xg;have xi:(a0_0 != 11)=true:=bne_iff_ne.mpr xg;obtain rfl:=Option.some.inj H;obtain ⟨_,_,_,_,_,_,_,_,_,_⟩:=cel5 B8;go_wp2_with (first | ((with_reducible refine gate_callee (f:=83) rfl ?_);refine goB 25 Try.func83 #[.slice A0_2 l0_2.length c0_2] rfl ?_;(with_reducible refine (spec_l10Words.calls y0 _ _ l0_2 true _ ?side1 B0.out g3.out).mono ?_);(case side1=>exact cA (Kd.C_below b1.out HB.out));rintro e w' ⟨rfl,⟨nd,rfl⟩⟩;refine ⟨_,rfl,?_⟩) | (go_at_call 83;(with_reducible refine (spec_l10Words.calls y0 _ _ l0_3 true _ ?side1 B2.out g4.out).mono ?_);(case side1=>exact cA (Kd.C_below b2.out belA));rintro e w' ⟨rfl,⟨nd,rfl⟩⟩) | (go_at_call 62;(with_reducible refine (spec_l01In.calls a0_4 0 400 true _ g5.out).mono ?_);rintro e w' ⟨rfl,⟨nd,rfl⟩⟩) | ((with_reducible refine gate_callee (f:=84) rfl ?_);refine goB 41 Try.func84 #[.int .i64 a0_0] rfl ?_;(with_reducible refine (spec_l10UsesB.calls y0 a0_0 false _ g6.out).mono ?_);rintro e S3 ⟨rfl,hb⟩;refine ⟨_,rfl,?_⟩;replace B8:=bB B8 hb;replace HB:=bS hb;(try clear hb);obtain ⟨_,_,_,_,_,_,_,_,_,_⟩:=cel5 B8))
     go_ret
     exact ⟨xq4,belA⟩
   rw [if_pos xg] at H;have xh:(a0_0 == 11)=true:=beq_iff_eq.mpr xg;have xi:(a0_0 != 11)=false:=bne_eq_false_iff_eq.mpr xg;clear xg;obtain rfl:=Option.some.inj H;obtain ⟨_,_,_,_,_,_,_,_,_,_⟩:=cel5 B8;go_wp2_with (first | ((with_reducible refine gate_callee (f:=83) rfl ?_);refine goB 25 Try.func83 #[.slice A0_2 l0_2.length c0_2] rfl ?_;(with_reducible refine (spec_l10Words.calls y0 _ _ l0_2 true _ ?side1 B0.out g3.out).mono ?_);(case side1=>exact cA (Kd.C_below b1.out HB.out));rintro e w' ⟨rfl,⟨nd,rfl⟩⟩;refine ⟨_,rfl,?_⟩) | (go_at_call 83;(with_reducible refine (spec_l10Words.calls y0 _ _ l0_3 true _ ?side1 B2.out g4.out).mono ?_);(case side1=>exact cA (Kd.C_below b2.out belA));rintro e w' ⟨rfl,⟨nd,rfl⟩⟩) | (go_at_call 62;(with_reducible refine (spec_l01In.calls a0_4 0 400 true _ g5.out).mono ?_);rintro e w' ⟨rfl,⟨nd,rfl⟩⟩) | ((with_reducible refine gate_callee (f:=84) rfl ?_);refine goB 41 Try.func84 #[.int .i64 a0_0] rfl ?_;(with_reducible refine (spec_l10UsesB.calls y0 a0_0 false _ g6.out).mono ?_);rintro e S4 ⟨rfl,hb⟩;refine ⟨_,rfl,?_⟩;replace B8:=bB B8 hb;replace HB:=bS hb;(try clear hb);obtain ⟨_,_,_,_,_,_,_,_,_,_⟩:=cel5 B8))
   go_ret
   exact ⟨xq4,belA⟩

def spec_l01DrawField.f (s0_0:List Int) (s0_1:Int) (s0_2:Int):Option (Int × Int × Int):=(spec_l01Once.f s0_0 s0_1 s0_2 20).bind fun bt248=>(if bt248.1=true then ((spec_l01PickInt.f s0_0 bt248.2.1 bt248.2.2 (([(-1),9,100]:List Int))).bind fun bt254=>(some (bt254.1,bt254.2.1,bt254.2.2))) else ((spec_l01Below.f s0_0 bt248.2.1 bt248.2.2 9).bind fun bt257=>(some (bt257.1,bt257.2.1,bt257.2.2))))
theorem spec_l01DrawField.calls (g:Nat) (s0_0:List Int) (s0_1:Int) (s0_2:Int) (r1:Int) (r2:Int) (r3:Int) (w0 w:World) (hI:IsS121 w0 w g s0_0 s0_1 s0_2) (hB:Below w0.heap.size w0 w) (h:spec_l01DrawField.f s0_0 s0_1 s0_2=some (r1,r2,r3)) :
 Calls Try.prog 100 #[.pointer (some ⟨g,0,none⟩)] w fun e w'=>e=.returned (.int .i64 r1)∧IsS121 w0 w' g s0_0 r2 r3∧Below w0.heap.size w0 w'∧KeepBut w w' g none:=by
 have z0:=ak hI;have HK:=ak (KeepBut.refl w g none);have HL:=ak hB.size;clear hI;have Z0:=ak hB.size;have HB:=ak hB;clear hB;have H:=h;clear h;unfold spec_l01DrawField.f at H;obtain ⟨⟨p0,p1,p2⟩,A2,H⟩:=ob H;(try dsimp only at H)
 by_cases c3:p0=true;rotate_left
 · replace c3:=Bool.eq_false_iff.mpr c3;subst c3;rw [if_neg (show ¬ (false=true) by decide)] at H;obtain ⟨⟨p3,p4,p5⟩,g3,H⟩:=ob H;(try dsimp only at H);simp only [Option.some.injEq,Prod.mk.injEq] at H;obtain ⟨rfl,rfl,rfl⟩:=H;go_enter Try.func100,Try.ntmps100
   go_wp2_with (first | ((with_reducible refine gate_callee (f:=90) rfl ?_);refine goB 4 Try.func90 #[.pointer (some ⟨g,0,none⟩),.int .i64 20] rfl ?_;(with_reducible refine (spec_l01Once.calls g s0_0 s0_1 s0_2 20 false p1 p2 w0 _ ?side1 ?side2 A2.out).mono ?_);(case side1=>exact xq1);(case side2=>exact xq2);rintro e S0 ⟨rfl,hi,hb,hk⟩;refine ⟨_,rfl,?_⟩;replace HK:=ak (KeepBut.trans kpA hk (.inl rfl));replace HB:=ak hb;replace z0:=ak hi;(try clear hb hk hi)) | ((with_reducible refine gate_callee (f:=91) rfl ?_);refine goB 9 Try.func91 #[.pointer (some ⟨g,0,none⟩),.int .i64 9] rfl ?_;(with_reducible refine (spec_l01Below.calls g s0_0 p1 p2 9 p3 p4 p5 w0 _ ?side1 ?side2 g3.out).mono ?_);(case side1=>exact xq1);(case side2=>exact xq2);rintro e S1 ⟨rfl,hi,hb,hk⟩;refine ⟨_,rfl,?_⟩;replace HK:=ak (KeepBut.trans kpA hk (.inl rfl));replace HB:=ak hb;replace z0:=ak hi;(try clear hb hk hi)))
   go_ret
   exact ⟨xq4,xq1,xq2,xq13⟩
 subst c3;rw [if_pos rfl] at H;obtain ⟨k0,hyq⟩:∃ y_:List Int,y_=(([(-1),9,100]:List Int)):=⟨_,rfl⟩;replace H:((spec_l01PickInt.f s0_0 p1 p2 k0).bind fun e0=>(some (e0.1,e0.2.1,e0.2.2)))=some (r1,r2,r3):=xq7
 have K0:=ak hyq;clear hyq;obtain ⟨⟨p6,p7,p8⟩,A4,H⟩:=ob H;(try dsimp only at H);simp only [Option.some.injEq,Prod.mk.injEq] at H;obtain ⟨rfl,rfl,rfl⟩:=H;go_enter Try.func100,Try.ntmps100
 go_wp2_with (first | ((with_reducible refine gate_callee (f:=90) rfl ?_);refine goB 4 Try.func90 #[.pointer (some ⟨g,0,none⟩),.int .i64 20] rfl ?_;(with_reducible refine (spec_l01Once.calls g s0_0 s0_1 s0_2 20 true p1 p2 w0 _ ?side1 ?side2 A2.out).mono ?_);(case side1=>exact xq1);(case side2=>exact xq2);rintro e w5 ⟨rfl,hi,hb,hk⟩;refine ⟨_,rfl,?_⟩;replace HK:=ak (KeepBut.trans kpA hk (.inl rfl));replace HB:=ak hb;replace z0:=ak hi;(try clear hb hk hi)) | ((with_reducible refine gate_dst (N:=6) rfl ?_);refine Kd.R_lit (Kd.int .i64) _ 3 ?hg (N:=6) ?hd (xs:=([(-1),9,100]:List Int)) (inner:=[.int .i64 (-1),.int .i64 9,.int .i64 100]) (ok:=fun _=>True) (okp:=fun _=>True) ?hr ?hp (fun _ hk=>hk) trivial (Below.refl _ _) (Nat.le_refl _) (by simp) ?_;(case hd=>rfl);(case hg=>rfl);(case hr=>exact xq10);(case hp=>exact (Reps.one (show Kd.M (Kd.int .i64) _ _ _ (-1) [.int .i64 (-1)] from rfl) (Reps.one (show Kd.M (Kd.int .i64) _ _ _ 9 [.int .i64 9] from rfl) (Reps.one (show Kd.M (Kd.int .i64) _ _ _ 100 [.int .i64 100] from rfl) (Reps.none _ _)))));intro N0 w6 u5 hb hg_ hnew_;clear hg_ hnew_;(first | rw [← K0.out] at u5 | (simp only [Int.reduceToNat] at u5;rw [← K0.out] at u5));have U0:=ak (Kd.R_lower u5 (keep_size (w:=w) (g:=g) (row:=none) kpA));replace HK:=ak (KeepBut.trans kpA (KeepBut.of_below hb g none) (.inl rfl));replace HB:=ak (below_step xq2 hb);replace z0:=ak (IsS121.below xq1 hb);clear hb u5;obtain ⟨d0,D0,rfl⟩:=Kd.R_slice U0.out) | ((with_reducible refine gate_callee (f:=60) rfl ?_);refine goB 7 Try.func60 #[.pointer (some ⟨g,0,none⟩),.slice d0 k0.length D0] rfl ?_;(with_reducible refine (spec_l01PickInt.calls g s0_0 p1 p2 _ _ k0 p6 p7 p8 w0 _ ?side1 ?side2 ?side3 ?side4 ?side5 A4.out).mono ?_);(case side1=>exact xq1);(case side2=>exact xq2);(case side3=>exact cA ((Kd.R_reads' U0.out).2.2));(case side4=>exact (Kd.R_reads' U0.out).2.1);(case side5=>exact far_slice (IsS121.own_ne z0.out U0.out (by decide)));rintro e w9 ⟨rfl,hi,hb,hk⟩;refine ⟨_,rfl,?_⟩;replace U0:=kS (rF U0) (fun H=>IsS121.apart (show IsS121 w0 _ g s0_0 p1 p2 from xq1) H (by decide)) hk;replace HK:=ak (KeepBut.trans kpA hk (.inl rfl));replace HB:=ak hb;replace z0:=ak hi;(try clear hb hk hi)))
 go_ret
 exact ⟨xq4,xq1,xq2,xq13⟩

def spec_l01DrawElement.f (s0_0:List Int) (s0_1:Int) (s0_2:Int) (a1:Int):Option (Int × Int × Int):=(spec_Modulus.f a1).bind fun t260=>(if t260=0 then ((spec_l01Below.f s0_0 s0_1 s0_2 50).bind fun bt261=>(some (bt261.1,bt261.2.1,bt261.2.2))) else ((spec_l01Below.f s0_0 s0_1 s0_2 6).bind fun bt264=>(if bt264.1=0 then ((spec_l01Below.f s0_0 bt264.2.1 bt264.2.2 3).bind fun bt267=>(some (Int.tmod bt267.1 t260,bt267.2.1,bt267.2.2))) else (if bt264.1=1 then ((spec_l01Below.f s0_0 bt264.2.1 bt264.2.2 3).bind fun bt270=>(some (wrap64 ((wrap64 (t260 - 1)) - bt270.1),bt270.2.1,bt270.2.2))) else (if bt264.1=2 then ((spec_l01Below.f s0_0 bt264.2.1 bt264.2.2 16777216).bind fun bt273=>((spec_l01Below.f s0_0 bt273.2.1 bt273.2.2 256).bind fun bt276=>(some (Int.tmod (wrap64 ((wrap64 (bt273.1 * 61))+bt276.1)) t260,bt276.2.1,bt276.2.2)))) else ((spec_l01Below.f s0_0 bt264.2.1 bt264.2.2 30).bind fun bt279=>(some (Int.tmod bt279.1 t260,bt279.2.1,bt279.2.2))))))))
theorem spec_l01DrawElement.calls (g:Nat) (s0_0:List Int) (s0_1:Int) (s0_2:Int) (a1:Int) (r1:Int) (r2:Int) (r3:Int) (w0 w:World) (hI:IsS121 w0 w g s0_0 s0_1 s0_2) (hB:Below w0.heap.size w0 w) (h:spec_l01DrawElement.f s0_0 s0_1 s0_2 a1=some (r1,r2,r3)) :
 Calls Try.prog 135 #[.pointer (some ⟨g,0,none⟩),.int .i64 a1] w fun e w'=>e=.returned (.int .i64 r1)∧IsS121 w0 w' g s0_0 r2 r3∧Below w0.heap.size w0 w'∧KeepBut w w' g none:=by
 have z0:=ak hI;have HK:=ak (KeepBut.refl w g none);have HL:=ak hB.size;clear hI;have Z0:=ak hB.size;have HB:=ak hB;clear hB;have H:=h;clear h;unfold spec_l01DrawElement.f at H;obtain ⟨p0,A3,H⟩:=ob H;(try dsimp only at H)
 by_cases c4:p0=0
 · rw [if_pos c4] at H;have x0:(p0 == 0)=true:=beq_iff_eq.mpr c4;have x1:(p0 != 0)=false:=bne_eq_false_iff_eq.mpr c4;clear c4;obtain ⟨⟨p1,p2,p3⟩,A5,H⟩:=ob H;(try dsimp only at H);simp only [Option.some.injEq,Prod.mk.injEq] at H;obtain ⟨rfl,rfl,rfl⟩:=H;go_enter Try.func135,Try.ntmps135
   go_wp2_with (first | ((with_reducible refine gate_callee (f:=82) rfl ?_);refine goB 7 Try.func82 #[.int .i64 a1] rfl ?_;(with_reducible refine (spec_Modulus.calls a1 p0 _ A3.out).mono ?_);rintro e w' ⟨rfl,⟨nd,rfl⟩⟩;refine ⟨_,rfl,?_⟩) | ((with_reducible refine gate_callee (f:=91) rfl ?_);refine goB 11 Try.func91 #[.pointer (some ⟨g,0,none⟩),.int .i64 50] rfl ?_;(with_reducible refine (spec_l01Below.calls g s0_0 s0_1 s0_2 50 p1 p2 p3 w0 _ ?side1 ?side2 A5.out).mono ?_);(case side1=>exact xq1);(case side2=>exact xq2);rintro e w6 ⟨rfl,hi,hb,hk⟩;refine ⟨_,rfl,?_⟩;replace HK:=ak (KeepBut.trans kpA hk (.inl rfl));replace HB:=ak hb;replace z0:=ak hi;(try clear hb hk hi)))
   go_ret
   exact ⟨xq4,xq1,xq2,xq13⟩
 rw [if_neg c4] at H;have x0:(p0 == 0)=false:=beq_eq_false_iff_ne.mpr c4;have x1:(p0 != 0)=true:=bne_iff_ne.mpr c4;obtain ⟨⟨p4,p5,p6⟩,A7,H⟩:=ob H;(try dsimp only at H)
 by_cases c8:p4=0
 · rw [if_pos c8] at H;have x2:(p4 == 0)=true:=beq_iff_eq.mpr c8;have x3:(p4 != 0)=false:=bne_eq_false_iff_eq.mpr c8;clear c8;obtain ⟨⟨p7,p8,p9⟩,A9,H⟩:=ob H;(try dsimp only at H);simp only [Option.some.injEq,Prod.mk.injEq] at H;obtain ⟨rfl,rfl,rfl⟩:=H;go_enter Try.func135,Try.ntmps135
   go_wp2_with (first | ((with_reducible refine gate_callee (f:=82) rfl ?_);refine goB 7 Try.func82 #[.int .i64 a1] rfl ?_;(with_reducible refine (spec_Modulus.calls a1 p0 _ A3.out).mono ?_);rintro e w' ⟨rfl,⟨nd,rfl⟩⟩;refine ⟨_,rfl,?_⟩) | ((with_reducible refine gate_callee (f:=91) rfl ?_);refine goB 13 Try.func91 #[.pointer (some ⟨g,0,none⟩),.int .i64 6] rfl ?_;(with_reducible refine (spec_l01Below.calls g s0_0 s0_1 s0_2 6 p4 p5 p6 w0 _ ?side1 ?side2 A7.out).mono ?_);(case side1=>exact xq1);(case side2=>exact xq2);rintro e S0 ⟨rfl,hi,hb,hk⟩;refine ⟨_,rfl,?_⟩;replace HK:=ak (KeepBut.trans kpA hk (.inl rfl));replace HB:=ak hb;replace z0:=ak hi;(try clear hb hk hi)) | ((with_reducible refine gate_callee (f:=91) rfl ?_);refine goB 17 Try.func91 #[.pointer (some ⟨g,0,none⟩),.int .i64 3] rfl ?_;(with_reducible refine (spec_l01Below.calls g s0_0 p5 p6 3 p7 p8 p9 w0 _ ?side1 ?side2 A9.out).mono ?_);(case side1=>exact xq1);(case side2=>exact xq2);rintro e S1 ⟨rfl,hi,hb,hk⟩;refine ⟨_,rfl,?_⟩;replace HK:=ak (KeepBut.trans kpA hk (.inl rfl));replace HB:=ak hb;replace z0:=ak hi;(try clear hb hk hi)))
   go_ret
   exact ⟨xq4,xq1,xq2,xq13⟩
 rw [if_neg c8] at H;have x2:(p4 == 0)=false:=beq_eq_false_iff_ne.mpr c8;have x3:(p4 != 0)=true:=bne_iff_ne.mpr c8
 by_cases x4:p4=1
 · rw [if_pos x4] at H;have x5:(p4 == 1)=true:=beq_iff_eq.mpr x4;have x6:(p4 != 1)=false:=bne_eq_false_iff_eq.mpr x4;clear x4;obtain ⟨⟨pa,pb,pc⟩,g3,H⟩:=ob H;(try dsimp only at H);simp only [Option.some.injEq,Prod.mk.injEq] at H;obtain ⟨rfl,rfl,rfl⟩:=H;go_enter Try.func135,Try.ntmps135
   go_wp2_with (first | ((with_reducible refine gate_callee (f:=82) rfl ?_);refine goB 7 Try.func82 #[.int .i64 a1] rfl ?_;(with_reducible refine (spec_Modulus.calls a1 p0 _ A3.out).mono ?_);rintro e w' ⟨rfl,⟨nd,rfl⟩⟩;refine ⟨_,rfl,?_⟩) | ((with_reducible refine gate_callee (f:=91) rfl ?_);refine goB 13 Try.func91 #[.pointer (some ⟨g,0,none⟩),.int .i64 6] rfl ?_;(with_reducible refine (spec_l01Below.calls g s0_0 s0_1 s0_2 6 p4 p5 p6 w0 _ ?side1 ?side2 A7.out).mono ?_);(case side1=>exact xq1);(case side2=>exact xq2);rintro e S2 ⟨rfl,hi,hb,hk⟩;refine ⟨_,rfl,?_⟩;replace HK:=ak (KeepBut.trans kpA hk (.inl rfl));replace HB:=ak hb;replace z0:=ak hi;(try clear hb hk hi)) | ((with_reducible refine gate_callee (f:=91) rfl ?_);refine goB 25 Try.func91 #[.pointer (some ⟨g,0,none⟩),.int .i64 3] rfl ?_;(with_reducible refine (spec_l01Below.calls g s0_0 p5 p6 3 pa pb pc w0 _ ?side1 ?side2 g3.out).mono ?_);(case side1=>exact xq1);(case side2=>exact xq2);rintro e S3 ⟨rfl,hi,hb,hk⟩;refine ⟨_,rfl,?_⟩;replace HK:=ak (KeepBut.trans kpA hk (.inl rfl));replace HB:=ak hb;replace z0:=ak hi;(try clear hb hk hi)))
   go_ret
   exact ⟨xq4,xq1,xq2,xq13⟩
 rw [if_neg x4] at H;have x5:(p4 == 1)=false:=beq_eq_false_iff_ne.mpr x4;have x6:(p4 != 1)=true:=bne_iff_ne.mpr x4
 by_cases x7:p4=2;rotate_left
 · rw [if_neg x7] at H;have x8:(p4 == 2)=false:=beq_eq_false_iff_ne.mpr x7;have x9:(p4 != 2)=true:=bne_iff_ne.mpr x7;obtain ⟨⟨pd,pe,pf⟩,g4,H⟩:=ob H;(try dsimp only at H);simp only [Option.some.injEq,Prod.mk.injEq] at H;obtain ⟨rfl,rfl,rfl⟩:=H;go_enter Try.func135,Try.ntmps135
   go_wp2_with (first | ((with_reducible refine gate_callee (f:=82) rfl ?_);refine goB 7 Try.func82 #[.int .i64 a1] rfl ?_;(with_reducible refine (spec_Modulus.calls a1 p0 _ A3.out).mono ?_);rintro e w' ⟨rfl,⟨nd,rfl⟩⟩;refine ⟨_,rfl,?_⟩) | ((with_reducible refine gate_callee (f:=91) rfl ?_);refine goB 13 Try.func91 #[.pointer (some ⟨g,0,none⟩),.int .i64 6] rfl ?_;(with_reducible refine (spec_l01Below.calls g s0_0 s0_1 s0_2 6 p4 p5 p6 w0 _ ?side1 ?side2 A7.out).mono ?_);(case side1=>exact xq1);(case side2=>exact xq2);rintro e S4 ⟨rfl,hi,hb,hk⟩;refine ⟨_,rfl,?_⟩;replace HK:=ak (KeepBut.trans kpA hk (.inl rfl));replace HB:=ak hb;replace z0:=ak hi;(try clear hb hk hi)) | ((with_reducible refine gate_callee (f:=91) rfl ?_);refine goB 38 Try.func91 #[.pointer (some ⟨g,0,none⟩),.int .i64 30] rfl ?_;(with_reducible refine (spec_l01Below.calls g s0_0 p5 p6 30 pd pe pf w0 _ ?side1 ?side2 g4.out).mono ?_);(case side1=>exact xq1);(case side2=>exact xq2);rintro e S5 ⟨rfl,hi,hb,hk⟩;refine ⟨_,rfl,?_⟩;replace HK:=ak (KeepBut.trans kpA hk (.inl rfl));replace HB:=ak hb;replace z0:=ak hi;(try clear hb hk hi)))
   go_ret
   exact ⟨xq4,xq1,xq2,xq13⟩
 rw [if_pos x7] at H;have x8:(p4 == 2)=true:=beq_iff_eq.mpr x7;have x9:(p4 != 2)=false:=bne_eq_false_iff_eq.mpr x7;clear x7;obtain ⟨⟨pg,ph,pi⟩,g5,H⟩:=ob H;(try dsimp only at H);obtain ⟨⟨pj,pk,pl⟩,g6,H⟩:=ob H;(try dsimp only at H);simp only [Option.some.injEq,Prod.mk.injEq] at H;obtain ⟨rfl,rfl,rfl⟩:=H;go_enter Try.func135,Try.ntmps135
 go_wp2_with (first | ((with_reducible refine gate_callee (f:=82) rfl ?_);refine goB 7 Try.func82 #[.int .i64 a1] rfl ?_;(with_reducible refine (spec_Modulus.calls a1 p0 _ A3.out).mono ?_);rintro e w' ⟨rfl,⟨nd,rfl⟩⟩;refine ⟨_,rfl,?_⟩) | ((with_reducible refine gate_callee (f:=91) rfl ?_);refine goB 13 Try.func91 #[.pointer (some ⟨g,0,none⟩),.int .i64 6] rfl ?_;(with_reducible refine (spec_l01Below.calls g s0_0 s0_1 s0_2 6 p4 p5 p6 w0 _ ?side1 ?side2 A7.out).mono ?_);(case side1=>exact xq1);(case side2=>exact xq2);rintro e S6 ⟨rfl,hi,hb,hk⟩;refine ⟨_,rfl,?_⟩;replace HK:=ak (KeepBut.trans kpA hk (.inl rfl));replace HB:=ak hb;replace z0:=ak hi;(try clear hb hk hi)) | ((with_reducible refine gate_callee (f:=91) rfl ?_);refine goB 30 Try.func91 #[.pointer (some ⟨g,0,none⟩),.int .i64 16777216] rfl ?_;(with_reducible refine (spec_l01Below.calls g s0_0 p5 p6 16777216 pg ph pi w0 _ ?side1 ?side2 g5.out).mono ?_);(case side1=>exact xq1);(case side2=>exact xq2);rintro e S7 ⟨rfl,hi,hb,hk⟩;refine ⟨_,rfl,?_⟩;replace HK:=ak (KeepBut.trans kpA hk (.inl rfl));replace HB:=ak hb;replace z0:=ak hi;(try clear hb hk hi)) | ((with_reducible refine gate_callee (f:=91) rfl ?_);refine goB 33 Try.func91 #[.pointer (some ⟨g,0,none⟩),.int .i64 256] rfl ?_;(with_reducible refine (spec_l01Below.calls g s0_0 ph pi 256 pj pk pl w0 _ ?side1 ?side2 g6.out).mono ?_);(case side1=>exact xq1);(case side2=>exact xq2);rintro e S8 ⟨rfl,hi,hb,hk⟩;refine ⟨_,rfl,?_⟩;replace HK:=ak (KeepBut.trans kpA hk (.inl rfl));replace HB:=ak hb;replace z0:=ak hi;(try clear hb hk hi)))
 go_ret
 exact ⟨xq4,xq1,xq2,xq13⟩

def spec_l01DrawList.l0:Nat → Int → Int → List Int → Int → List Int → Int → Int → Option (List Int × Int × Int)
 | 0,_,_,_,_,_,_,_=>none
 | k+1,x1,x2,x7,x8,x1000,x1001,x1002=>if x8 < x2 then ((spec_l01DrawElement.f x1000 x1001 x1002 x1).bind fun bt285=>(if x7.length < 17592186044416 then (spec_l01DrawList.l0 k x1 x2 (x7 ++ [bt285.1]) (wrap64 (x8+1)) x1000 bt285.2.1 bt285.2.2) else (none))) else (some (x7,x1001,x1002))
def spec_l01DrawList.f (k:Nat) (s0_0:List Int) (s0_1:Int) (s0_2:Int) (a1:Int) (a2:Int):Option (List Int × Int × Int):=spec_l01DrawList.l0 k a1 a2 (([]:List Int)) 0 s0_0 s0_1 s0_2
theorem spec_l01DrawList.calls (k:Nat) (g:Nat) (s0_0:List Int) (s0_1:Int) (s0_2:Int) (a1:Int) (a2:Int) (r1:List Int) (r2:Int) (r3:Int) (w0 w:World) (hI:IsS121 w0 w g s0_0 s0_1 s0_2) (hB:Below w0.heap.size w0 w) (h:spec_l01DrawList.f k s0_0 s0_1 s0_2 a1 a2=some (r1,r2,r3)) :
 Calls Try.prog 127 #[.pointer (some ⟨g,0,none⟩),.int .i64 a1,.int .i64 a2] w fun e w'=>∃ v0_:Value,e=.returned (v0_)∧Kd.R (Kd.int .i64) 3 w' w.heap.size (fun _=>True) v0_ r1∧IsS121 w0 w' g s0_0 r2 r3∧Below w0.heap.size w0 w'∧KeepBut w w' g none:=by
 have z0:=ak hI;have HK:=ak (KeepBut.refl w g none);have HL:=ak hB.size;clear hI;have Z0:=ak hB.size;have HB:=ak hB;clear hB;have H:=h;clear h;unfold spec_l01DrawList.f at H;obtain ⟨k0,hyq⟩:∃ y_:List Int,y_=(([]:List Int)):=⟨_,rfl⟩;replace H:(spec_l01DrawList.l0 k a1 a2 k0 0 s0_0 s0_1 s0_2)=some (r1,r2,r3):=xq7
 have K0:=ak hyq;clear hyq;have H':=ak H;clear H;go_enter Try.func127,Try.ntmps127
 go_wp2_with (first | ((with_reducible refine gate_dst (N:=9) rfl ?_);refine Kd.R_lit (Kd.int .i64) _ 3 ?hg (N:=9) ?hd (xs:=([]:List Int)) (inner:=[]) (ok:=fun _=>True) (okp:=fun _=>True) ?hr ?hp (fun _ hk=>hk) trivial (Below.refl _ _) (Nat.le_refl _) (by simp) ?_;(case hd=>rfl);(case hg=>rfl);(case hr=>exact xq10);(case hp=>exact (Reps.none _ _));intro N0 w4 u5 hb hg_ hnew_;clear hg_ hnew_;(first | rw [← K0.out] at u5 | (simp only [Int.reduceToNat] at u5;rw [← K0.out] at u5));have U0:=ak (Kd.R_lower u5 (keep_size (w:=w) (g:=g) (row:=none) kpA));replace HK:=ak (KeepBut.trans kpA (KeepBut.of_below hb g none) (.inl rfl));replace HB:=ak (below_step xq2 hb);replace z0:=ak (IsS121.below xq1 hb);clear hb u5))
 go_loopg [7,8] k (fun kq v7 v8 w'=>∃ (w3:List Int) (w5:Int) (w6:Int) (w7:Int),v8=.int .i64 w5∧Aside0 (spec_l01DrawList.l0 kq a1 a2 w3 w5 s0_0 w6 w7=some (r1,r2,r3))∧Aside0 (kq≤k)∧Aside0 (Kd.R (Kd.int .i64) 3 w' w.heap.size (fun _=>True) v7 w3)∧Aside0 (IsS121 w0 w' g s0_0 w6 w7)∧Aside0 (KeepBut w w' g none)∧Aside0 (Below w0.heap.size w0 w'))
 case atStart=>exact ⟨(k0),(0),(s0_1),(s0_2),eqA,H',⟨Nat.le_refl _⟩,⟨rA U0⟩,⟨xq1⟩,⟨kpA⟩,⟨xq2⟩⟩
 case round =>
  clear H';obtain ⟨w3,w5,w6,w7,rfl,HA,W0,U1,z0,HK,HB⟩:=hrel
  cases gk with
  | zero=>exact absurd HA.out (by simp [spec_l01DrawList.l0])
  | succ k1 =>
   have H:=HA.out;clear HA;simp only [spec_l01DrawList.l0] at H
   by_cases c6:w5 < a2;rotate_left
   · rw [if_neg c6] at H;have x0:=decide_eq_false c6;clear c6;simp only [Option.some.injEq,Prod.mk.injEq] at H;obtain ⟨rfl,rfl,rfl⟩:=H;go_wp2
     go_ret
     exact ⟨_,xq4,xq23,xq1,xq2,xq13⟩
   rw [if_pos c6] at H;have x0:=decide_eq_true c6;clear c6;obtain ⟨⟨p0,p1,p2⟩,A7,H⟩:=ob H;(try dsimp only at H)
   obtain ⟨c8,H⟩:=iN H;have E0:=ak c8;clear c8;obtain ⟨k2,hyq⟩:∃ y_:List Int,y_=(w3 ++ [p0]):=⟨_,rfl⟩;replace H:(spec_l01DrawList.l0 k1 a1 a2 k2 (wrap64 (w5+1)) s0_0 p1 p2)=some (r1,r2,r3):=xq7
   have K1:=ak hyq;clear hyq;have H':=ak H;clear H;go_wp2_with (first | ((with_reducible refine gate_callee (f:=135) rfl ?_);refine goB 18 Try.func135 #[.pointer (some ⟨g,0,none⟩),.int .i64 a1] rfl ?_;(with_reducible refine (spec_l01DrawElement.calls g s0_0 w6 w7 a1 p0 p1 p2 w0 _ ?side1 ?side2 A7.out).mono ?_);(case side1=>exact xq1);(case side2=>exact xq2);rintro e w9 ⟨rfl,hi,hb,hk⟩;refine ⟨_,rfl,?_⟩;replace U1:=kS (rF U1) (fun H=>IsS121.apart (show IsS121 w0 _ g s0_0 w6 w7 from xq1) H (by decide)) hk;replace HK:=ak (KeepBut.trans kpA hk (.inl rfl));replace HB:=ak hb;replace z0:=ak hi;(try clear hb hk hi)) | ((with_reducible refine gate_builtin (b:=.append) (xs:=#[.tmp 15,.tmp 19]) rfl ?_);at_builtin;refine Kd.R_append (Kd.int .i64) w.heap.size rfl (.tmp 15) (.tmp 19) 33 3 (.int .i64 0) 8 rfl Try.underlying33 info3 rfl (by decide) (by omega) u7 w3 p0 [.int .i64 p0] (fun _=>True) (fun _=>False) rfl rfl ?aP (fun _ hk=>hk.elim) ?aF ?aO (Below.refl _ _) ?aS ?aL ?_;(case aP=>exact rfl);(case aF=>exact (fun _ _=>trivial));(case aO=>exact (rF U1));(case aS=>exact xq58);(case aL=>exact xq15);intro N1 S0 ho hb hg hat;rw [← K1.out] at ho;have U2:=ak ho;replace HB:=ak (below_weaken xq2 HL.out hb);replace z0:=ak (IsS121.grown xq28 hg (IsS121.own_ne z0.out U1.out (by decide)));replace HK:=ak (KeepBut.trans kpA (KeepBut.of_grown hg g) (Kd.R_base2 U1.out));clear U1;clear ho hb hg hat))
   go_roundg k1
   case measure=>have:=W0.out;omega
   case rel=>exact ⟨(k2),(wrap64 (w5+1)),(p1),(p2),eqA,H',⟨xq14⟩,⟨rA U2⟩,⟨xq1⟩,⟨kpA⟩,⟨xq2⟩⟩

def spec_l01Copy.l0:Nat → List Int → List Int → Int → Option (List Int)
 | 0,_,_,_=>none
 | k+1,x0,x3,x4=>if x4 < (x0.length:Int) then (if 0≤x4 then (if x3.length < 17592186044416 then (spec_l01Copy.l0 k x0 (x3 ++ [rd x0 x4]) (wrap64 (x4+1))) else (none)) else (none)) else (some x3)
def spec_l01Copy.f (k:Nat) (l0:List Int):Option (List Int):=spec_l01Copy.l0 k l0 (([]:List Int)) 0
theorem spec_l01Copy.calls (k:Nat) (A0:Option Addr) (c0:Nat) (l0:List Int) (r:List Int) (w:World) (hr0:Kd.C (Kd.int .i64) w A0 l0.length l0) (hc0:l0.length≤c0) (h:spec_l01Copy.f k l0=some r) :
 Calls Try.prog 133 #[.slice A0 l0.length c0] w fun e w'=>∃ v0_:Value,e=.returned (v0_)∧Kd.R (Kd.int .i64) 3 w' w.heap.size (fun _=>True) v0_ r∧Below w.heap.size w w':=by
 have b0:=ak hr0;have B0:=ak hc0;clear hr0 hc0;have HB:=ak (Below.refl w.heap.size w);have H:(spec_l01Copy.l0 k l0 (([]:List Int)) 0)=some r:=h;clear h;obtain ⟨k0,hyq⟩:∃ y_:List Int,y_=(([]:List Int)):=⟨_,rfl⟩;replace H:(spec_l01Copy.l0 k l0 k0 0)=some r:=xq7
 have K0:=ak hyq;clear hyq;have H':=ak H;clear H;go_enter Try.func133,Try.ntmps133
 go_wp2_with (first | ((with_reducible refine gate_dst (N:=5) rfl ?_);refine Kd.R_lit (Kd.int .i64) _ 3 ?hg (N:=5) ?hd (xs:=([]:List Int)) (inner:=[]) (ok:=fun _=>True) (okp:=fun _=>True) ?hr ?hp (fun _ hk=>hk) trivial (Below.refl _ _) (Nat.le_refl _) (by simp) ?_;(case hd=>rfl);(case hg=>rfl);(case hr=>exact xq10);(case hp=>exact (Reps.none _ _));intro N0 w2 u5 hb hg_ hnew_;clear hg_ hnew_;(first | rw [← K0.out] at u5 | (simp only [Int.reduceToNat] at u5;rw [← K0.out] at u5));have U0:=rL u5;replace HB:=bS hb;clear hb u5))
 go_loopg [3,4] k (fun kq v3 v4 w'=>∃ (w3:List Int) (w4:Int),v4=.int .i64 w4∧Aside0 (spec_l01Copy.l0 kq l0 w3 w4=some r)∧Aside0 (kq≤k)∧Aside0 (Kd.R (Kd.int .i64) 3 w' w.heap.size (fun _=>True) v3 w3)∧Aside0 (Below w.heap.size w w'))
 case atStart=>exact ⟨(k0),(0),eqA,H',⟨Nat.le_refl _⟩,⟨rA U0⟩,⟨belA⟩⟩
 case round =>
  clear H';obtain ⟨w3,w4,rfl,HA,W0,U1,HB⟩:=hrel
  cases gk with
  | zero=>exact absurd HA.out (by simp [spec_l01Copy.l0])
  | succ k1 =>
   have H:=HA.out;clear HA;simp only [spec_l01Copy.l0] at H
   by_cases c4:w4 < (l0.length:Int);rotate_left
   · rw [if_neg c4] at H;have x0:=decide_eq_false c4;clear c4;obtain rfl:=Option.some.inj H;go_wp2
     go_ret
     exact ⟨_,xq4,xq23,belA⟩
   rw [if_pos c4] at H;have x0:=decide_eq_true c4;clear c4
   obtain ⟨c5,H⟩:=iN H;have x1:=decide_eq_true c5;clear c5
   obtain ⟨c6,H⟩:=iN H;have E0:=ak c6;clear c6;obtain ⟨k2,hyq⟩:∃ y_:List Int,y_=(w3 ++ [rd l0 w4]):=⟨_,rfl⟩;replace H:(spec_l01Copy.l0 k1 l0 k2 (wrap64 (w4+1)))=some r:=xq7
   have K1:=ak hyq;clear hyq;have H':=ak H;clear H;have V0:0≤(w4:Int):=odA;have a5:w4 < (l0.length:Int):=odA;obtain ⟨A1,o0,O0⟩:=Kd.at_int b0.out w4 V0 a5
   cases o0
   try replace O0:=cB HB O0
   replace V0:=eq_true V0;replace a5:=eq_true a5;go_wp2_with (first | ((with_reducible refine gate_builtin (b:=.append) (xs:=#[.tmp 12,.tmp 17]) rfl ?_);at_builtin;refine Kd.R_append (Kd.int .i64) (w0:=w) w.heap.size rfl (.tmp 12) (.tmp 17) 33 3 (.int .i64 0) 8 rfl Try.underlying33 info3 rfl (by decide) (by omega) u3 w3 (rd l0 w4) [.int .i64 (rd l0 w4)] (fun _=>True) (fun _=>False) rfl rfl ?aP (fun _ hk=>hk.elim) ?aF ?aO ?aB ?aS ?aL ?_;(case aP=>exact rfl);(case aB=>exact belA);(case aF=>exact (fun _ _=>trivial));(case aO=>exact (rF U1));(case aS=>exact (below_size belA));(case aL=>exact xq15);intro N1 w7 ho hb hg hat;rw [← K1.out] at ho;have U2:=ak ho;replace HB:=ak hb;clear U1;clear ho hb hg hat))
   go_roundg k1
   case measure=>have:=W0.out;omega
   case rel=>exact ⟨(k2),(wrap64 (w4+1)),eqA,H',⟨xq14⟩,⟨rA U2⟩,⟨belA⟩⟩

end Go.Proofs.Ytogdhclomgafdaa.PFnWireJobs
