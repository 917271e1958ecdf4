-- Written by a program of this session (the print of the kit with contracts of this session's own added)
import Derived.Test.YtogdhclomgafdaaZFWJx1
import Derived.Test.YtogdhclomgafdaaZFWJx2
set_option maxHeartbeats 8000000
set_option maxRecDepth 100000
namespace Go.Proofs.Ytogdhclomgafdaa.PFnWireJobs
open Go.RowKit Go.Proofs.YtogdhclomgafdaaW.PrintWords Go.Proofs.YtogdhclomgafdaaW.PrintLast Go.Proofs.YtogdhclomgafdaaW.PrintMore Go.Proofs.YtogdhclomgafdaaW.PrintPack Go.Proofs.YtogdhclomgafdaaW.PrintPack
attribute [local go_sem] max2_int min2_int max_two min_two max_three min_three max_four min_four   -- for this text's walks alone
set_option linter.unusedVariables false
set_option linter.unusedSimpArgs false

def laws_big.f (l0:List Int):Option (Bool):=some (decide ((l0.length:Int) > 1048576))
theorem laws_big.calls (A0:Option Addr) (c0:Nat) (l0:List Int) (r:Bool) (w:World) (hr0:Kd.C (Kd.int .u8) w A0 l0.length l0) (hc0:l0.length≤c0) (h:laws_big.f l0=some r) :
 Calls Try.prog 9 #[.slice A0 l0.length c0] w fun e w'=>e=.returned (.bool r)∧Drawn0 w w':=by
 have b0:=ak hr0;have B0:=ak hc0;clear hr0 hc0;have H:(some (decide ((l0.length:Int) > 1048576)))=some r:=h;clear h;obtain rfl:=Option.some.inj H;go_enter Try.func9,Try.ntmps9
 go_wp2
 go_ret
 exact ⟨xq9,xq5⟩

mutual
def impl_takeNumber.l0:Nat → List Int → Int → Int → Int → Option (Int × Int × Bool)
 | 0,_,_,_,_=>none
 | k+1,x0,x1,x7,x8=>if x8 < 7 then (impl_takeNumber.j1 k x0 x1 x7 x8 (decide ((wrap64 (x1+x8)) < (x0.length:Int)))) else (impl_takeNumber.j1 k x0 x1 x7 x8 false)
def impl_takeNumber.j1:Nat → List Int → Int → Int → Int → Bool → Option (Int × Int × Bool)
 | 0,_,_,_,_,_=>none
 | k+1,x0,x1,x7,x8,x22=>if x22=true then (if 0≤(wrap64 (x1+x8)) then (if (wrap64 (x1+x8)) < (x0.length:Int) then (if 0≤(wrap64 (7 * x8)) then (if (wrap64 (rd x0 (wrap64 (x1+x8)))) ≥ 128 then (impl_takeNumber.l0 k x0 x1 (Go.bits .or .i64 x7 (shl .i64 (Int.tmod (wrap64 (rd x0 (wrap64 (x1+x8)))) 128) (wrap64 (7 * x8)))) (wrap64 (x8+1))) else (if (Int.tmod (Go.bits .or .i64 x7 (shl .i64 (Int.tmod (wrap64 (rd x0 (wrap64 (x1+x8)))) 128) (wrap64 (7 * x8)))) 2)=1 then (if (wrap64 (rd x0 (wrap64 (x1+x8))))=0 then (if x8 > 0 then (some (0,0,false)) else (if (wrap64 (Int.tdiv (wrap64 (-(wrap64 ((Go.bits .or .i64 x7 (shl .i64 (Int.tmod (wrap64 (rd x0 (wrap64 (x1+x8)))) 128) (wrap64 (7 * x8))))+1)))) 2)) < (-1099511627776) then (some (0,0,false)) else (if (wrap64 (Int.tdiv (wrap64 (-(wrap64 ((Go.bits .or .i64 x7 (shl .i64 (Int.tmod (wrap64 (rd x0 (wrap64 (x1+x8)))) 128) (wrap64 (7 * x8))))+1)))) 2)) > 1099511627776 then (some (0,0,false)) else (some (wrap64 (Int.tdiv (wrap64 (-(wrap64 ((Go.bits .or .i64 x7 (shl .i64 (Int.tmod (wrap64 (rd x0 (wrap64 (x1+x8)))) 128) (wrap64 (7 * x8))))+1)))) 2),wrap64 ((wrap64 (x1+x8))+1),true))))) else (if (wrap64 (Int.tdiv (wrap64 (-(wrap64 ((Go.bits .or .i64 x7 (shl .i64 (Int.tmod (wrap64 (rd x0 (wrap64 (x1+x8)))) 128) (wrap64 (7 * x8))))+1)))) 2)) < (-1099511627776) then (some (0,0,false)) else (if (wrap64 (Int.tdiv (wrap64 (-(wrap64 ((Go.bits .or .i64 x7 (shl .i64 (Int.tmod (wrap64 (rd x0 (wrap64 (x1+x8)))) 128) (wrap64 (7 * x8))))+1)))) 2)) > 1099511627776 then (some (0,0,false)) else (some (wrap64 (Int.tdiv (wrap64 (-(wrap64 ((Go.bits .or .i64 x7 (shl .i64 (Int.tmod (wrap64 (rd x0 (wrap64 (x1+x8)))) 128) (wrap64 (7 * x8))))+1)))) 2),wrap64 ((wrap64 (x1+x8))+1),true))))) else (if (wrap64 (rd x0 (wrap64 (x1+x8))))=0 then (if x8 > 0 then (some (0,0,false)) else (if (wrap64 (Int.tdiv (Go.bits .or .i64 x7 (shl .i64 (Int.tmod (wrap64 (rd x0 (wrap64 (x1+x8)))) 128) (wrap64 (7 * x8)))) 2)) < (-1099511627776) then (some (0,0,false)) else (if (wrap64 (Int.tdiv (Go.bits .or .i64 x7 (shl .i64 (Int.tmod (wrap64 (rd x0 (wrap64 (x1+x8)))) 128) (wrap64 (7 * x8)))) 2)) > 1099511627776 then (some (0,0,false)) else (some (wrap64 (Int.tdiv (Go.bits .or .i64 x7 (shl .i64 (Int.tmod (wrap64 (rd x0 (wrap64 (x1+x8)))) 128) (wrap64 (7 * x8)))) 2),wrap64 ((wrap64 (x1+x8))+1),true))))) else (if (wrap64 (Int.tdiv (Go.bits .or .i64 x7 (shl .i64 (Int.tmod (wrap64 (rd x0 (wrap64 (x1+x8)))) 128) (wrap64 (7 * x8)))) 2)) < (-1099511627776) then (some (0,0,false)) else (if (wrap64 (Int.tdiv (Go.bits .or .i64 x7 (shl .i64 (Int.tmod (wrap64 (rd x0 (wrap64 (x1+x8)))) 128) (wrap64 (7 * x8)))) 2)) > 1099511627776 then (some (0,0,false)) else (some (wrap64 (Int.tdiv (Go.bits .or .i64 x7 (shl .i64 (Int.tmod (wrap64 (rd x0 (wrap64 (x1+x8)))) 128) (wrap64 (7 * x8)))) 2),wrap64 ((wrap64 (x1+x8))+1),true))))))) else (none)) else (none)) else (none)) else (some (0,0,false))
end
def impl_takeNumber.f (k:Nat) (l0:List Int) (a1:Int):Option (Int × Int × Bool):=if a1 < 0 then (some (0,0,false)) else (impl_takeNumber.l0 k l0 a1 0 0)
theorem impl_takeNumber.calls (k:Nat) (A0:Option Addr) (c0:Nat) (l0:List Int) (a1:Int) (r1:Int) (r2:Int) (r3:Bool) (w:World) (hr0:Kd.C (Kd.int .u8) w A0 l0.length l0) (hc0:l0.length≤c0) (h:impl_takeNumber.f k l0 a1=some (r1,r2,r3)) :
 Calls Try.prog 85 #[.slice A0 l0.length c0,.int .i64 a1] w fun e w'=>e=.returned (.tuple #[.int .i64 r1,.int .i64 r2,.bool r3])∧Drawn0 w w':=by
 have b0:=ak hr0;have B0:=ak hc0;clear hr0 hc0;have H:=h;clear h;unfold impl_takeNumber.f at H
 by_cases c3:a1 < 0
 · rw [if_pos c3] at H;have x0:=decide_eq_true c3;clear c3;simp only [Option.some.injEq,Prod.mk.injEq] at H;obtain ⟨rfl,rfl,rfl⟩:=H;go_enter Try.func85,Try.ntmps85
   go_wp2
   go_ret3
   exact ⟨xq9,xq5⟩
 rw [if_neg c3] at H;have x0:=decide_eq_false c3;clear c3;have H':=ak H;clear H;go_enter Try.func85,Try.ntmps85
 go_wp2
 go_loopg [7,8] k (fun kq v7 v8 w'=>∃ (w3:Int) (w4:Int),v7=.int .i64 w3∧v8=.int .i64 w4∧Aside0 (impl_takeNumber.l0 kq l0 a1 w3 w4=some (r1,r2,r3))∧Aside0 (kq≤k)∧Drawn0 w w')
 case atStart=>exact ⟨(0),(0),eqA,eqA,H',⟨Nat.le_refl _⟩,xq5⟩
 case round =>
  clear H';obtain ⟨w3,w4,rfl,rfl,HA,W0,⟨m1,rfl⟩⟩:=hrel
  cases gk with
  | zero=>exact absurd HA.out (by simp [impl_takeNumber.l0])
  | succ k1 =>
   have H:=HA.out;clear HA;simp only [impl_takeNumber.l0] at H;have B2:=ak H;clear H;go_upto_region 5 with (fail)
   go_cut [22] (fun N0 wc=>∃ (kq:Nat) (w5:Bool),N0=.bool w5∧Aside0 (impl_takeNumber.j1 kq l0 a1 w3 w4 w5=some (r1,r2,r3))∧Aside0 (kq≤k1)∧Drawn0 w wc)
   case first =>
    have H:=B2.out;clear B2
    by_cases c5:w4 < 7;rotate_left
    · rw [if_neg c5] at H;have x1:=decide_eq_false c5;clear c5;(first | rw [x1] | (simp only [i64_w,i32_w];rw [x1]) | skip)
      have H':=ak H;clear H;go_wp2
      go_meet
      case rel=>exact ⟨_,(false),eqA,H',⟨xq25⟩,xq5⟩
    rw [if_pos c5] at H;have x1:=decide_eq_true c5;clear c5;(first | rw [x1] | (simp only [i64_w,i32_w];rw [x1]) | skip)
    have H':=ak H;clear H;go_wp2
    go_meet
    case rel=>exact ⟨_,(decide ((wrap64 (a1+w4)) < (l0.length:Int))),eqA,H',⟨xq25⟩,xq5⟩
   case rest =>
    clear B2;obtain ⟨kq,w5,rfl,HA,c1,⟨C0,rfl⟩⟩:=hcut
    cases kq with
    | zero=>exact absurd HA.out (by simp [impl_takeNumber.j1])
    | succ y0 =>
     have H:=HA.out;clear HA;simp only [impl_takeNumber.j1] at H
     by_cases c6:w5=true;rotate_left
     · replace c6:=Bool.eq_false_iff.mpr c6;subst c6;rw [if_neg (show ¬ (false=true) by decide)] at H;simp only [Option.some.injEq,Prod.mk.injEq] at H;obtain ⟨rfl,rfl,rfl⟩:=H;go_wp2
       go_ret3
       exact ⟨xq9,xq5⟩
     subst c6;rw [if_pos rfl] at H;obtain ⟨Y0,v0⟩:∃ j_:Int,(wrap64 (a1+w4))=j_:=⟨_,rfl⟩;replace H:(if 0≤(Y0) then (if (Y0) < (l0.length:Int) then (if 0≤(wrap64 (7 * w4)) then (if (wrap64 (rd l0 (Y0))) ≥ 128 then (impl_takeNumber.l0 y0 l0 a1 (Go.bits .or .i64 w3 (shl .i64 (Int.tmod (wrap64 (rd l0 (Y0))) 128) (wrap64 (7 * w4)))) (wrap64 (w4+1))) else (if (Int.tmod (Go.bits .or .i64 w3 (shl .i64 (Int.tmod (wrap64 (rd l0 (Y0))) 128) (wrap64 (7 * w4)))) 2)=1 then (if (wrap64 (rd l0 (Y0)))=0 then (if w4 > 0 then (some (0,0,false)) else (if (wrap64 (Int.tdiv (wrap64 (-(wrap64 ((Go.bits .or .i64 w3 (shl .i64 (Int.tmod (wrap64 (rd l0 (Y0))) 128) (wrap64 (7 * w4))))+1)))) 2)) < (-1099511627776) then (some (0,0,false)) else (if (wrap64 (Int.tdiv (wrap64 (-(wrap64 ((Go.bits .or .i64 w3 (shl .i64 (Int.tmod (wrap64 (rd l0 (Y0))) 128) (wrap64 (7 * w4))))+1)))) 2)) > 1099511627776 then (some (0,0,false)) else (some (wrap64 (Int.tdiv (wrap64 (-(wrap64 ((Go.bits .or .i64 w3 (shl .i64 (Int.tmod (wrap64 (rd l0 (Y0))) 128) (wrap64 (7 * w4))))+1)))) 2),wrap64 ((Y0)+1),true))))) else (if (wrap64 (Int.tdiv (wrap64 (-(wrap64 ((Go.bits .or .i64 w3 (shl .i64 (Int.tmod (wrap64 (rd l0 (Y0))) 128) (wrap64 (7 * w4))))+1)))) 2)) < (-1099511627776) then (some (0,0,false)) else (if (wrap64 (Int.tdiv (wrap64 (-(wrap64 ((Go.bits .or .i64 w3 (shl .i64 (Int.tmod (wrap64 (rd l0 (Y0))) 128) (wrap64 (7 * w4))))+1)))) 2)) > 1099511627776 then (some (0,0,false)) else (some (wrap64 (Int.tdiv (wrap64 (-(wrap64 ((Go.bits .or .i64 w3 (shl .i64 (Int.tmod (wrap64 (rd l0 (Y0))) 128) (wrap64 (7 * w4))))+1)))) 2),wrap64 ((Y0)+1),true))))) else (if (wrap64 (rd l0 (Y0)))=0 then (if w4 > 0 then (some (0,0,false)) else (if (wrap64 (Int.tdiv (Go.bits .or .i64 w3 (shl .i64 (Int.tmod (wrap64 (rd l0 (Y0))) 128) (wrap64 (7 * w4)))) 2)) < (-1099511627776) then (some (0,0,false)) else (if (wrap64 (Int.tdiv (Go.bits .or .i64 w3 (shl .i64 (Int.tmod (wrap64 (rd l0 (Y0))) 128) (wrap64 (7 * w4)))) 2)) > 1099511627776 then (some (0,0,false)) else (some (wrap64 (Int.tdiv (Go.bits .or .i64 w3 (shl .i64 (Int.tmod (wrap64 (rd l0 (Y0))) 128) (wrap64 (7 * w4)))) 2),wrap64 ((Y0)+1),true))))) else (if (wrap64 (Int.tdiv (Go.bits .or .i64 w3 (shl .i64 (Int.tmod (wrap64 (rd l0 (Y0))) 128) (wrap64 (7 * w4)))) 2)) < (-1099511627776) then (some (0,0,false)) else (if (wrap64 (Int.tdiv (Go.bits .or .i64 w3 (shl .i64 (Int.tmod (wrap64 (rd l0 (Y0))) 128) (wrap64 (7 * w4)))) 2)) > 1099511627776 then (some (0,0,false)) else (some (wrap64 (Int.tdiv (Go.bits .or .i64 w3 (shl .i64 (Int.tmod (wrap64 (rd l0 (Y0))) 128) (wrap64 (7 * w4)))) 2),wrap64 ((Y0)+1),true))))))) else (none)) else (none)) else (none))=some (r1,r2,r3):=xq35
     have hji7w:(IntKind.i64.wrap (a1+w4))=Y0:=(i64_w _).trans v0
     obtain ⟨c8,H⟩:=iN H;have x2:=decide_eq_true c8;clear c8
     obtain ⟨c9,H⟩:=iN H;have x3:=decide_eq_true c9;clear c9;obtain ⟨Y1,v1⟩:∃ j_:Int,(wrap64 (7 * w4))=j_:=⟨_,rfl⟩;replace H:(if 0≤(Y1) then (if (wrap64 (rd l0 (Y0))) ≥ 128 then (impl_takeNumber.l0 y0 l0 a1 (Go.bits .or .i64 w3 (shl .i64 (Int.tmod (wrap64 (rd l0 (Y0))) 128) (Y1))) (wrap64 (w4+1))) else (if (Int.tmod (Go.bits .or .i64 w3 (shl .i64 (Int.tmod (wrap64 (rd l0 (Y0))) 128) (Y1))) 2)=1 then (if (wrap64 (rd l0 (Y0)))=0 then (if w4 > 0 then (some (0,0,false)) else (if (wrap64 (Int.tdiv (wrap64 (-(wrap64 ((Go.bits .or .i64 w3 (shl .i64 (Int.tmod (wrap64 (rd l0 (Y0))) 128) (Y1)))+1)))) 2)) < (-1099511627776) then (some (0,0,false)) else (if (wrap64 (Int.tdiv (wrap64 (-(wrap64 ((Go.bits .or .i64 w3 (shl .i64 (Int.tmod (wrap64 (rd l0 (Y0))) 128) (Y1)))+1)))) 2)) > 1099511627776 then (some (0,0,false)) else (some (wrap64 (Int.tdiv (wrap64 (-(wrap64 ((Go.bits .or .i64 w3 (shl .i64 (Int.tmod (wrap64 (rd l0 (Y0))) 128) (Y1)))+1)))) 2),wrap64 ((Y0)+1),true))))) else (if (wrap64 (Int.tdiv (wrap64 (-(wrap64 ((Go.bits .or .i64 w3 (shl .i64 (Int.tmod (wrap64 (rd l0 (Y0))) 128) (Y1)))+1)))) 2)) < (-1099511627776) then (some (0,0,false)) else (if (wrap64 (Int.tdiv (wrap64 (-(wrap64 ((Go.bits .or .i64 w3 (shl .i64 (Int.tmod (wrap64 (rd l0 (Y0))) 128) (Y1)))+1)))) 2)) > 1099511627776 then (some (0,0,false)) else (some (wrap64 (Int.tdiv (wrap64 (-(wrap64 ((Go.bits .or .i64 w3 (shl .i64 (Int.tmod (wrap64 (rd l0 (Y0))) 128) (Y1)))+1)))) 2),wrap64 ((Y0)+1),true))))) else (if (wrap64 (rd l0 (Y0)))=0 then (if w4 > 0 then (some (0,0,false)) else (if (wrap64 (Int.tdiv (Go.bits .or .i64 w3 (shl .i64 (Int.tmod (wrap64 (rd l0 (Y0))) 128) (Y1))) 2)) < (-1099511627776) then (some (0,0,false)) else (if (wrap64 (Int.tdiv (Go.bits .or .i64 w3 (shl .i64 (Int.tmod (wrap64 (rd l0 (Y0))) 128) (Y1))) 2)) > 1099511627776 then (some (0,0,false)) else (some (wrap64 (Int.tdiv (Go.bits .or .i64 w3 (shl .i64 (Int.tmod (wrap64 (rd l0 (Y0))) 128) (Y1))) 2),wrap64 ((Y0)+1),true))))) else (if (wrap64 (Int.tdiv (Go.bits .or .i64 w3 (shl .i64 (Int.tmod (wrap64 (rd l0 (Y0))) 128) (Y1))) 2)) < (-1099511627776) then (some (0,0,false)) else (if (wrap64 (Int.tdiv (Go.bits .or .i64 w3 (shl .i64 (Int.tmod (wrap64 (rd l0 (Y0))) 128) (Y1))) 2)) > 1099511627776 then (some (0,0,false)) else (some (wrap64 (Int.tdiv (Go.bits .or .i64 w3 (shl .i64 (Int.tmod (wrap64 (rd l0 (Y0))) 128) (Y1))) 2),wrap64 ((Y0)+1),true))))))) else (none))=some (r1,r2,r3):=xq67
     have hji10w:(IntKind.i64.wrap (7 * w4))=Y1:=(i64_w _).trans v1
     obtain ⟨x4,H⟩:=iN H;have x5:=eq_true x4;have x6:decide (0≤(Y1))=true:=decide_eq_true x4;clear x4;obtain ⟨Y2,v2⟩:∃ j_:Int,(shl .i64 (Int.tmod (wrap64 (rd l0 (Y0))) 128) (Y1))=j_:=⟨_,rfl⟩;replace H:(if (wrap64 (rd l0 (Y0))) ≥ 128 then (impl_takeNumber.l0 y0 l0 a1 (Go.bits .or .i64 w3 (Y2)) (wrap64 (w4+1))) else (if (Int.tmod (Go.bits .or .i64 w3 (Y2)) 2)=1 then (if (wrap64 (rd l0 (Y0)))=0 then (if w4 > 0 then (some (0,0,false)) else (if (wrap64 (Int.tdiv (wrap64 (-(wrap64 ((Go.bits .or .i64 w3 (Y2))+1)))) 2)) < (-1099511627776) then (some (0,0,false)) else (if (wrap64 (Int.tdiv (wrap64 (-(wrap64 ((Go.bits .or .i64 w3 (Y2))+1)))) 2)) > 1099511627776 then (some (0,0,false)) else (some (wrap64 (Int.tdiv (wrap64 (-(wrap64 ((Go.bits .or .i64 w3 (Y2))+1)))) 2),wrap64 ((Y0)+1),true))))) else (if (wrap64 (Int.tdiv (wrap64 (-(wrap64 ((Go.bits .or .i64 w3 (Y2))+1)))) 2)) < (-1099511627776) then (some (0,0,false)) else (if (wrap64 (Int.tdiv (wrap64 (-(wrap64 ((Go.bits .or .i64 w3 (Y2))+1)))) 2)) > 1099511627776 then (some (0,0,false)) else (some (wrap64 (Int.tdiv (wrap64 (-(wrap64 ((Go.bits .or .i64 w3 (Y2))+1)))) 2),wrap64 ((Y0)+1),true))))) else (if (wrap64 (rd l0 (Y0)))=0 then (if w4 > 0 then (some (0,0,false)) else (if (wrap64 (Int.tdiv (Go.bits .or .i64 w3 (Y2)) 2)) < (-1099511627776) then (some (0,0,false)) else (if (wrap64 (Int.tdiv (Go.bits .or .i64 w3 (Y2)) 2)) > 1099511627776 then (some (0,0,false)) else (some (wrap64 (Int.tdiv (Go.bits .or .i64 w3 (Y2)) 2),wrap64 ((Y0)+1),true))))) else (if (wrap64 (Int.tdiv (Go.bits .or .i64 w3 (Y2)) 2)) < (-1099511627776) then (some (0,0,false)) else (if (wrap64 (Int.tdiv (Go.bits .or .i64 w3 (Y2)) 2)) > 1099511627776 then (some (0,0,false)) else (some (wrap64 (Int.tdiv (Go.bits .or .i64 w3 (Y2)) 2),wrap64 ((Y0)+1),true)))))))=some (r1,r2,r3):=by first | (rw [v2] at H;exact H) | (simp only [v2] at H ⊢;exact H)
     have v3:(IntKind.i64.wrap ((Int.tmod (wrap64 (rd l0 (Y0))) 128) * 2 ^ min (Y1).toNat 64))=Y2:=v2;have hji12z:(Y1)≤64 → (IntKind.i64.wrap ((Int.tmod (wrap64 (rd l0 (Y0))) 128) * 2 ^ (Y1).toNat))=Y2:=shl_small v2;have hji12y:(wrap64 ((Int.tmod (wrap64 (rd l0 (Y0))) 128) * 2 ^ min (Y1).toNat 64))=Y2:=(i64_w _).symm.trans v3;have hji12x:(Y1)≤64 → (wrap64 ((Int.tmod (wrap64 (rd l0 (Y0))) 128) * 2 ^ (Y1).toNat))=Y2:=fun h_=>(i64_w _).symm.trans (hji12z h_)
     by_cases x7:(wrap64 (rd l0 (Y0))) ≥ 128
     · rw [if_pos x7] at H;have x8:decide (128≤(wrap64 (rd l0 (Y0))))=true:=decide_eq_true x7;have x9:decide (128≤(IntKind.i64.wrap (rd l0 (Y0))))=true:=by simp only [i64_w];exact x8
       clear x7;have H':=ak H;clear H;have V0:0≤((Y0):Int):=odA;have a5:(Y0) < (l0.length:Int):=odA;obtain ⟨A1,o0,O0⟩:=Kd.at_int b0.out (Y0) V0 a5
       cases o0
       replace V0:=eq_true V0;replace a5:=eq_true a5;go_wp2
       go_roundg y0
       case measure=>have:=W0.out;have:=c1.out;omega
       case rel=>exact ⟨(Go.bits .or .i64 w3 (Y2)),(wrap64 (w4+1)),(by first | rfl | (simp;done) | (simp only [← v2] <;> (first | rfl | simp)) | (simp [*];done)),eqA,H',⟨by have:=W0.out;have:=c1.out;omega⟩,xq5⟩
     rw [if_neg x7] at H;have x8:decide (128≤(wrap64 (rd l0 (Y0))))=false:=decide_eq_false x7;have x9:decide (128≤(IntKind.i64.wrap (rd l0 (Y0))))=false:=by simp only [i64_w];exact x8
     clear x7
     by_cases xa:(Int.tmod (Go.bits .or .i64 w3 (Y2)) 2)=1;rotate_left
     · rw [if_neg xa] at H;have xb:((Int.tmod (Go.bits .or .i64 w3 (Y2)) 2) == 1)=false:=beq_eq_false_iff_ne.mpr xa;have xc:((Int.tmod (Go.bits .or .i64 w3 (Y2)) 2) != 1)=true:=bne_iff_ne.mpr xa
       by_cases xd:(wrap64 (rd l0 (Y0)))=0;rotate_left
       · rw [if_neg xd] at H;have xe:((wrap64 (rd l0 (Y0))) == 0)=false:=beq_eq_false_iff_ne.mpr xd;have xf:((wrap64 (rd l0 (Y0))) != 0)=true:=bne_iff_ne.mpr xd
         by_cases xg:(wrap64 (Int.tdiv (Go.bits .or .i64 w3 (Y2)) 2)) < (-1099511627776)
         · rw [if_pos xg] at H;have xh:=decide_eq_true xg;have xi:decide ((IntKind.i64.wrap (Int.tdiv (Go.bits .or .i64 w3 (Y2)) 2)) < (-1099511627776))=true:=by simp only [i64_w];exact xh
           clear xg;simp only [Option.some.injEq,Prod.mk.injEq] at H;obtain ⟨rfl,rfl,rfl⟩:=H;have V0:0≤((Y0):Int):=odA;have a5:(Y0) < (l0.length:Int):=odA;obtain ⟨A1,o0,O0⟩:=Kd.at_int b0.out (Y0) V0 a5
           cases o0
           replace V0:=eq_true V0;replace a5:=eq_true a5;go_wp2
           go_ret3
           exact ⟨xq22,xq5⟩
         rw [if_neg xg] at H;have xh:=decide_eq_false xg;have xi:decide ((IntKind.i64.wrap (Int.tdiv (Go.bits .or .i64 w3 (Y2)) 2)) < (-1099511627776))=false:=by simp only [i64_w];exact xh
         clear xg
         by_cases xj:(wrap64 (Int.tdiv (Go.bits .or .i64 w3 (Y2)) 2)) > 1099511627776
         · rw [if_pos xj] at H;have xk:decide (1099511627776 < (wrap64 (Int.tdiv (Go.bits .or .i64 w3 (Y2)) 2)))=true:=decide_eq_true xj;have xl:decide (1099511627776 < (IntKind.i64.wrap (Int.tdiv (Go.bits .or .i64 w3 (Y2)) 2)))=true:=by simp only [i64_w];exact xk
           clear xj;simp only [Option.some.injEq,Prod.mk.injEq] at H;obtain ⟨rfl,rfl,rfl⟩:=H;have V0:0≤((Y0):Int):=odA;have a5:(Y0) < (l0.length:Int):=odA;obtain ⟨A1,o0,O0⟩:=Kd.at_int b0.out (Y0) V0 a5
           cases o0
           replace V0:=eq_true V0;replace a5:=eq_true a5;go_wp2
           go_ret3
           exact ⟨xq22,xq5⟩
         rw [if_neg xj] at H;have xk:decide (1099511627776 < (wrap64 (Int.tdiv (Go.bits .or .i64 w3 (Y2)) 2)))=false:=decide_eq_false xj;have xl:decide (1099511627776 < (IntKind.i64.wrap (Int.tdiv (Go.bits .or .i64 w3 (Y2)) 2)))=false:=by simp only [i64_w];exact xk
         clear xj;simp only [Option.some.injEq,Prod.mk.injEq] at H;obtain ⟨rfl,rfl,rfl⟩:=H;have V0:0≤((Y0):Int):=odA;have a5:(Y0) < (l0.length:Int):=odA;obtain ⟨A1,o0,O0⟩:=Kd.at_int b0.out (Y0) V0 a5
         cases o0
         replace V0:=eq_true V0;replace a5:=eq_true a5;go_wp2
         go_ret3
         exact ⟨xq22,xq5⟩
       rw [if_pos xd] at H;have xe:((wrap64 (rd l0 (Y0))) == 0)=true:=beq_iff_eq.mpr xd;have xf:((wrap64 (rd l0 (Y0))) != 0)=false:=bne_eq_false_iff_eq.mpr xd;clear xd
       by_cases xm:w4 > 0
       · rw [if_pos xm] at H;have xn:decide (0 < w4)=true:=decide_eq_true xm;clear xm;simp only [Option.some.injEq,Prod.mk.injEq] at H;obtain ⟨rfl,rfl,rfl⟩:=H;have V0:0≤((Y0):Int):=odA;have a5:(Y0) < (l0.length:Int):=odA;obtain ⟨A1,o0,O0⟩:=Kd.at_int b0.out (Y0) V0 a5
         cases o0
         replace V0:=eq_true V0;replace a5:=eq_true a5;go_wp2
         go_ret3
         exact ⟨xq22,xq5⟩
       rw [if_neg xm] at H;have xn:decide (0 < w4)=false:=decide_eq_false xm;clear xm
       by_cases xo:(wrap64 (Int.tdiv (Go.bits .or .i64 w3 (Y2)) 2)) < (-1099511627776)
       · rw [if_pos xo] at H;have xp:=decide_eq_true xo;have xq:decide ((IntKind.i64.wrap (Int.tdiv (Go.bits .or .i64 w3 (Y2)) 2)) < (-1099511627776))=true:=by simp only [i64_w];exact xp
         clear xo;simp only [Option.some.injEq,Prod.mk.injEq] at H;obtain ⟨rfl,rfl,rfl⟩:=H;have V0:0≤((Y0):Int):=odA;have a5:(Y0) < (l0.length:Int):=odA;obtain ⟨A1,o0,O0⟩:=Kd.at_int b0.out (Y0) V0 a5
         cases o0
         replace V0:=eq_true V0;replace a5:=eq_true a5;go_wp2
         go_ret3
         exact ⟨xq22,xq5⟩
       rw [if_neg xo] at H;have xp:=decide_eq_false xo;have xq:decide ((IntKind.i64.wrap (Int.tdiv (Go.bits .or .i64 w3 (Y2)) 2)) < (-1099511627776))=false:=by simp only [i64_w];exact xp
       clear xo
       by_cases xr:(wrap64 (Int.tdiv (Go.bits .or .i64 w3 (Y2)) 2)) > 1099511627776
       · rw [if_pos xr] at H;have xt:decide (1099511627776 < (wrap64 (Int.tdiv (Go.bits .or .i64 w3 (Y2)) 2)))=true:=decide_eq_true xr;have xu:decide (1099511627776 < (IntKind.i64.wrap (Int.tdiv (Go.bits .or .i64 w3 (Y2)) 2)))=true:=by simp only [i64_w];exact xt
         clear xr;simp only [Option.some.injEq,Prod.mk.injEq] at H;obtain ⟨rfl,rfl,rfl⟩:=H;have V0:0≤((Y0):Int):=odA;have a5:(Y0) < (l0.length:Int):=odA;obtain ⟨A1,o0,O0⟩:=Kd.at_int b0.out (Y0) V0 a5
         cases o0
         replace V0:=eq_true V0;replace a5:=eq_true a5;go_wp2
         go_ret3
         exact ⟨xq22,xq5⟩
       rw [if_neg xr] at H;have xt:decide (1099511627776 < (wrap64 (Int.tdiv (Go.bits .or .i64 w3 (Y2)) 2)))=false:=decide_eq_false xr;have xu:decide (1099511627776 < (IntKind.i64.wrap (Int.tdiv (Go.bits .or .i64 w3 (Y2)) 2)))=false:=by simp only [i64_w];exact xt
       clear xr;simp only [Option.some.injEq,Prod.mk.injEq] at H;obtain ⟨rfl,rfl,rfl⟩:=H;have V0:0≤((Y0):Int):=odA;have a5:(Y0) < (l0.length:Int):=odA;obtain ⟨A1,o0,O0⟩:=Kd.at_int b0.out (Y0) V0 a5
       cases o0
       replace V0:=eq_true V0;replace a5:=eq_true a5;go_wp2
       go_ret3
       exact ⟨xq22,xq5⟩
     rw [if_pos xa] at H;have xb:((Int.tmod (Go.bits .or .i64 w3 (Y2)) 2) == 1)=true:=beq_iff_eq.mpr xa;have xc:((Int.tmod (Go.bits .or .i64 w3 (Y2)) 2) != 1)=false:=bne_eq_false_iff_eq.mpr xa;clear xa
     by_cases xv:(wrap64 (rd l0 (Y0)))=0;rotate_left
     · rw [if_neg xv] at H;have xw:((wrap64 (rd l0 (Y0))) == 0)=false:=beq_eq_false_iff_ne.mpr xv;have xx:((wrap64 (rd l0 (Y0))) != 0)=true:=bne_iff_ne.mpr xv
       by_cases xy:(wrap64 (Int.tdiv (wrap64 (-(wrap64 ((Go.bits .or .i64 w3 (Y2))+1)))) 2)) < (-1099511627776)
       · rw [if_pos xy] at H;have xz:=decide_eq_true xy;have xA:decide ((IntKind.i64.wrap (Int.tdiv (IntKind.i64.wrap (-(IntKind.i64.wrap ((Go.bits .or .i64 w3 (Y2))+1)))) 2)) < (-1099511627776))=true:=by simp only [i64_w];exact xz
         clear xy;simp only [Option.some.injEq,Prod.mk.injEq] at H;obtain ⟨rfl,rfl,rfl⟩:=H;have V0:0≤((Y0):Int):=odA;have a5:(Y0) < (l0.length:Int):=odA;obtain ⟨A1,o0,O0⟩:=Kd.at_int b0.out (Y0) V0 a5
         cases o0
         replace V0:=eq_true V0;replace a5:=eq_true a5;go_wp2
         go_ret3
         exact ⟨xq22,xq5⟩
       rw [if_neg xy] at H;have xz:=decide_eq_false xy;have xA:decide ((IntKind.i64.wrap (Int.tdiv (IntKind.i64.wrap (-(IntKind.i64.wrap ((Go.bits .or .i64 w3 (Y2))+1)))) 2)) < (-1099511627776))=false:=by simp only [i64_w];exact xz
       clear xy
       by_cases xB:(wrap64 (Int.tdiv (wrap64 (-(wrap64 ((Go.bits .or .i64 w3 (Y2))+1)))) 2)) > 1099511627776
       · rw [if_pos xB] at H;have xC:decide (1099511627776 < (wrap64 (Int.tdiv (wrap64 (-(wrap64 ((Go.bits .or .i64 w3 (Y2))+1)))) 2)))=true:=decide_eq_true xB;have xD:decide (1099511627776 < (IntKind.i64.wrap (Int.tdiv (IntKind.i64.wrap (-(IntKind.i64.wrap ((Go.bits .or .i64 w3 (Y2))+1)))) 2)))=true:=by simp only [i64_w];exact xC
         clear xB;simp only [Option.some.injEq,Prod.mk.injEq] at H;obtain ⟨rfl,rfl,rfl⟩:=H;have V0:0≤((Y0):Int):=odA;have a5:(Y0) < (l0.length:Int):=odA;obtain ⟨A1,o0,O0⟩:=Kd.at_int b0.out (Y0) V0 a5
         cases o0
         replace V0:=eq_true V0;replace a5:=eq_true a5;go_wp2
         go_ret3
         exact ⟨xq22,xq5⟩
       rw [if_neg xB] at H;have xC:decide (1099511627776 < (wrap64 (Int.tdiv (wrap64 (-(wrap64 ((Go.bits .or .i64 w3 (Y2))+1)))) 2)))=false:=decide_eq_false xB;have xD:decide (1099511627776 < (IntKind.i64.wrap (Int.tdiv (IntKind.i64.wrap (-(IntKind.i64.wrap ((Go.bits .or .i64 w3 (Y2))+1)))) 2)))=false:=by simp only [i64_w];exact xC
       clear xB;simp only [Option.some.injEq,Prod.mk.injEq] at H;obtain ⟨rfl,rfl,rfl⟩:=H;have V0:0≤((Y0):Int):=odA;have a5:(Y0) < (l0.length:Int):=odA;obtain ⟨A1,o0,O0⟩:=Kd.at_int b0.out (Y0) V0 a5
       cases o0
       replace V0:=eq_true V0;replace a5:=eq_true a5;go_wp2
       go_ret3
       exact ⟨xq22,xq5⟩
     rw [if_pos xv] at H;have xw:((wrap64 (rd l0 (Y0))) == 0)=true:=beq_iff_eq.mpr xv;have xx:((wrap64 (rd l0 (Y0))) != 0)=false:=bne_eq_false_iff_eq.mpr xv;clear xv
     by_cases xE:w4 > 0
     · rw [if_pos xE] at H;have xF:decide (0 < w4)=true:=decide_eq_true xE;clear xE;simp only [Option.some.injEq,Prod.mk.injEq] at H;obtain ⟨rfl,rfl,rfl⟩:=H;have V0:0≤((Y0):Int):=odA;have a5:(Y0) < (l0.length:Int):=odA;obtain ⟨A1,o0,O0⟩:=Kd.at_int b0.out (Y0) V0 a5
       cases o0
       replace V0:=eq_true V0;replace a5:=eq_true a5;go_wp2
       go_ret3
       exact ⟨xq22,xq5⟩
     rw [if_neg xE] at H;have xF:decide (0 < w4)=false:=decide_eq_false xE;clear xE
     by_cases xG:(wrap64 (Int.tdiv (wrap64 (-(wrap64 ((Go.bits .or .i64 w3 (Y2))+1)))) 2)) < (-1099511627776)
     · rw [if_pos xG] at H;have xH:=decide_eq_true xG;have xI:decide ((IntKind.i64.wrap (Int.tdiv (IntKind.i64.wrap (-(IntKind.i64.wrap ((Go.bits .or .i64 w3 (Y2))+1)))) 2)) < (-1099511627776))=true:=by simp only [i64_w];exact xH
       clear xG;simp only [Option.some.injEq,Prod.mk.injEq] at H;obtain ⟨rfl,rfl,rfl⟩:=H;have V0:0≤((Y0):Int):=odA;have a5:(Y0) < (l0.length:Int):=odA;obtain ⟨A1,o0,O0⟩:=Kd.at_int b0.out (Y0) V0 a5
       cases o0
       replace V0:=eq_true V0;replace a5:=eq_true a5;go_wp2
       go_ret3
       exact ⟨xq22,xq5⟩
     rw [if_neg xG] at H;have xH:=decide_eq_false xG;have xI:decide ((IntKind.i64.wrap (Int.tdiv (IntKind.i64.wrap (-(IntKind.i64.wrap ((Go.bits .or .i64 w3 (Y2))+1)))) 2)) < (-1099511627776))=false:=by simp only [i64_w];exact xH
     clear xG
     by_cases xJ:(wrap64 (Int.tdiv (wrap64 (-(wrap64 ((Go.bits .or .i64 w3 (Y2))+1)))) 2)) > 1099511627776
     · rw [if_pos xJ] at H;have xK:decide (1099511627776 < (wrap64 (Int.tdiv (wrap64 (-(wrap64 ((Go.bits .or .i64 w3 (Y2))+1)))) 2)))=true:=decide_eq_true xJ;have xL:decide (1099511627776 < (IntKind.i64.wrap (Int.tdiv (IntKind.i64.wrap (-(IntKind.i64.wrap ((Go.bits .or .i64 w3 (Y2))+1)))) 2)))=true:=by simp only [i64_w];exact xK
       clear xJ;simp only [Option.some.injEq,Prod.mk.injEq] at H;obtain ⟨rfl,rfl,rfl⟩:=H;have V0:0≤((Y0):Int):=odA;have a5:(Y0) < (l0.length:Int):=odA;obtain ⟨A1,o0,O0⟩:=Kd.at_int b0.out (Y0) V0 a5
       cases o0
       replace V0:=eq_true V0;replace a5:=eq_true a5;go_wp2
       go_ret3
       exact ⟨xq22,xq5⟩
     rw [if_neg xJ] at H;have xK:decide (1099511627776 < (wrap64 (Int.tdiv (wrap64 (-(wrap64 ((Go.bits .or .i64 w3 (Y2))+1)))) 2)))=false:=decide_eq_false xJ;have xL:decide (1099511627776 < (IntKind.i64.wrap (Int.tdiv (IntKind.i64.wrap (-(IntKind.i64.wrap ((Go.bits .or .i64 w3 (Y2))+1)))) 2)))=false:=by simp only [i64_w];exact xK
     clear xJ;simp only [Option.some.injEq,Prod.mk.injEq] at H;obtain ⟨rfl,rfl,rfl⟩:=H;have V0:0≤((Y0):Int):=odA;have a5:(Y0) < (l0.length:Int):=odA;obtain ⟨A1,o0,O0⟩:=Kd.at_int b0.out (Y0) V0 a5
     cases o0
     replace V0:=eq_true V0;replace a5:=eq_true a5;go_wp2
     go_ret3
     exact ⟨xq22,xq5⟩

def impl_fieldOf.f (a0:Int):Option (Int × Int × Int × Bool):=Go.Proofs.Ytogdhclomgafdaa.Fld.impl_fieldOf.f a0
theorem impl_fieldOf.calls (a0:Int) (r1:Int) (r2:Int) (r3:Int) (r4:Bool) (w:World) (h:impl_fieldOf.f a0=some (r1,r2,r3,r4)) :
 Calls Try.prog 103 #[.int .i64 a0] w fun e w'=>e=.returned (.tuple #[.agg #[.int .i64 r1,.int .i64 r2,.int .i64 r3],.bool r4])∧Below w.heap.size w w' :=
 Go.Proofs.Ytogdhclomgafdaa.Fld.impl_fieldOf.calls a0 r1 r2 r3 r4 w h

def impl_areWords.l0:Nat → List Int → List Int → Int → Int → Option (Bool)
 | 0,_,_,_,_=>none
 | k+1,x0,x5,x6,x7=>if x7 < x6 then (if 0≤x7 then (if x7 < (x5.length:Int) then (if (rd x5 x7) < (-1099511627776) then (some false) else (if (rd x5 x7) > 1099511627776 then (some false) else (impl_areWords.l0 k x0 x5 x6 (wrap64 (x7+1))))) else (none)) else (none)) else (some (decide ((x0.length:Int)≤400)))
def impl_areWords.f (k:Nat) (l0:List Int):Option (Bool):=impl_areWords.l0 k l0 l0 (l0.length:Int) 0
theorem impl_areWords.calls (k:Nat) (A0:Option Addr) (c0:Nat) (l0:List Int) (r:Bool) (w:World) (hr0:Kd.C (Kd.int .i64) w A0 l0.length l0) (hc0:l0.length≤c0) (h:impl_areWords.f k l0=some r) :
 Calls Try.prog 113 #[.slice A0 l0.length c0] w fun e w'=>e=.returned (.bool r)∧Drawn0 w w':=by
 have b0:=ak hr0;have B0:=ak hc0;clear hr0 hc0;have H:(impl_areWords.l0 k l0 l0 (l0.length:Int) 0)=some r:=h;clear h;have H':=ak H;clear H;go_enter Try.func113,Try.ntmps113
 go_wp2
 go_loopg [7] k (fun kq v7 w'=>∃ (w3:Int),v7=.int .i64 w3∧Aside0 (impl_areWords.l0 kq l0 l0 (l0.length:Int) w3=some r)∧Aside0 (kq≤k)∧Drawn0 w w')
 case atStart=>exact ⟨(0),eqA,H',⟨Nat.le_refl _⟩,xq5⟩
 case round =>
  clear H';obtain ⟨w3,rfl,HA,W0,⟨m1,rfl⟩⟩:=hrel
  cases gk with
  | zero=>exact absurd HA.out (by simp [impl_areWords.l0])
  | succ k1 =>
   have H:=HA.out;clear HA;simp only [impl_areWords.l0] at H
   by_cases c2:w3 < (l0.length:Int);rotate_left
   · rw [if_neg c2] at H;have x0:=decide_eq_false c2;clear c2;obtain rfl:=Option.some.inj H;go_wp2
     go_ret
     exact ⟨xq9,xq5⟩
   rw [if_pos c2] at H;have x0:=decide_eq_true c2;clear c2
   obtain ⟨c3,H⟩:=iN H;have x1:=decide_eq_true c3;clear c3
   obtain ⟨c4,H⟩:=iN H;have x2:=decide_eq_true c4;clear c4
   by_cases c5:(rd l0 w3) < (-1099511627776)
   · rw [if_pos c5] at H;have x3:=decide_eq_true c5;clear c5;obtain rfl:=Option.some.inj H;have V0:0≤(w3:Int):=odA;have a5:w3 < (l0.length:Int):=odA;obtain ⟨A1,o0,O0⟩:=Kd.at_int b0.out w3 V0 a5
     cases o0
     replace V0:=eq_true V0;replace a5:=eq_true a5;go_wp2
     go_ret
     exact ⟨xq9,xq5⟩
   rw [if_neg c5] at H;have x3:=decide_eq_false c5;clear c5
   by_cases c6:(rd l0 w3) > 1099511627776
   · rw [if_pos c6] at H;have x4:decide (1099511627776 < (rd l0 w3))=true:=decide_eq_true c6;clear c6;obtain rfl:=Option.some.inj H;have V0:0≤(w3:Int):=odA;have a5:w3 < (l0.length:Int):=odA;obtain ⟨A1,o0,O0⟩:=Kd.at_int b0.out w3 V0 a5
     cases o0
     replace V0:=eq_true V0;replace a5:=eq_true a5;go_wp2
     go_ret
     exact ⟨xq9,xq5⟩
   rw [if_neg c6] at H;have x4:decide (1099511627776 < (rd l0 w3))=false:=decide_eq_false c6;clear c6;have H':=ak H;clear H;have V0:0≤(w3:Int):=odA;have a5:w3 < (l0.length:Int):=odA;obtain ⟨A1,o0,O0⟩:=Kd.at_int b0.out w3 V0 a5
   cases o0
   replace V0:=eq_true V0;replace a5:=eq_true a5;go_wp2
   go_roundg k1
   case measure=>have:=W0.out;omega
   case rel=>exact ⟨(wrap64 (w3+1)),eqA,H',⟨xq14⟩,xq5⟩

def impl_usesB.f (a0:Int):Option (Bool):=if a0=1 then (some false) else (if a0=2 then (some false) else (some (a0 != 7)))
theorem impl_usesB.calls (a0:Int) (r:Bool) (w:World) (h:impl_usesB.f a0=some r) :
 Calls Try.prog 114 #[.int .i64 a0] w fun e w'=>e=.returned (.bool r)∧Drawn0 w w':=by
 have H:=h;clear h;unfold impl_usesB.f at H
 by_cases c2:a0=1
 · rw [if_pos c2] at H;have x0:(a0 == 1)=true:=beq_iff_eq.mpr c2;have x1:(a0 != 1)=false:=bne_eq_false_iff_eq.mpr c2;clear c2;obtain rfl:=Option.some.inj H;go_enter Try.func114,Try.ntmps114
   go_wp2
   go_ret
   exact ⟨xq9,xq5⟩
 rw [if_neg c2] at H;have x0:(a0 == 1)=false:=beq_eq_false_iff_ne.mpr c2;have x1:(a0 != 1)=true:=bne_iff_ne.mpr c2
 by_cases c3:a0=2;rotate_left
 · rw [if_neg c3] at H;have x2:(a0 == 2)=false:=beq_eq_false_iff_ne.mpr c3;have x3:(a0 != 2)=true:=bne_iff_ne.mpr c3;obtain rfl:=Option.some.inj H;go_enter Try.func114,Try.ntmps114
   go_wp2
   go_ret
   exact ⟨xq9,xq5⟩
 rw [if_pos c3] at H;have x2:(a0 == 2)=true:=beq_iff_eq.mpr c3;have x3:(a0 != 2)=false:=bne_eq_false_iff_eq.mpr c3;clear c3;obtain rfl:=Option.some.inj H;go_enter Try.func114,Try.ntmps114
 go_wp2
 go_ret
 exact ⟨xq9,xq5⟩

end Go.Proofs.Ytogdhclomgafdaa.PFnWireJobs
