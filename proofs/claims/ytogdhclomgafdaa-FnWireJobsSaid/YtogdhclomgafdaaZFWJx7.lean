-- Written by a program of this session (the print of the kit with contracts of this session's own added)
import Derived.Test.YtogdhclomgafdaaZFWJx6
namespace Go.Proofs.Ytogdhclomgafdaa.PFnWireJobs
open Go.RowKit Go.Proofs.YtogdhclomgafdaaW.PrintWords Go.Proofs.YtogdhclomgafdaaW.PrintLast Go.Proofs.YtogdhclomgafdaaW.PrintMore Go.Proofs.YtogdhclomgafdaaW.PrintPack
set_option linter.unusedVariables false
set_option linter.unusedSimpArgs false

mutual
def impl_decodeFrame.j0:Nat → List Int → Int → Bool → Option (Int × Int × List Int × Int × Int)
 | 0,_,_,_=>none
 | k+1,x0,x5,x12=>if x12=true then (impl_decodeFrame.j3 k x0 x5 x12) else (if x5 > 1 then (if 1 < (x0.length:Int) then (impl_decodeFrame.j1 k x0 x5 ((rd x0 1) != 77)) else (none)) else (impl_decodeFrame.j1 k x0 x5 false))
def impl_decodeFrame.j3:Nat → List Int → Int → Bool → Option (Int × Int × List Int × Int × Int)
 | 0,_,_,_=>none
 | k+1,x0,x5,x12=>if x12=true then (some (0,0,([]:List Int),0,2)) else (if x5 < 9 then (some (0,0,([]:List Int),0,1)) else (if 7≤9 then (if 9≤(x0.length:Int) then ((impl_numberIn.f k ((x0.take 9).drop 7)).bind fun t140=>(if t140 > 5000 then (some (0,0,([]:List Int),0,2)) else (if x5 < (wrap64 (9+t140)) then (some (0,0,([]:List Int),0,1)) else (if 2≤(wrap64 (9+t140)) then (if (wrap64 (9+t140))≤(x0.length:Int) then ((impl_checkSum.f k ((x0.take ((wrap64 (9+t140)):Int).toNat).drop 2)).bind fun t142=>((impl_bigEndian.f k t142 4).bind fun t143=>(impl_decodeFrame.l0 k x0 x5 t140 t143 (t143.length:Int) 0))) else (none)) else (none))))) else (none)) else (none)))
def impl_decodeFrame.l0:Nat → List Int → Int → Int → List Int → Int → Int → Option (Int × Int × List Int × Int × Int)
 | 0,_,_,_,_,_,_=>none
 | k+1,x0,x5,x6,x75,x76,x77=>if x77 < x76 then (if 0≤x77 then (if x77 < (x75.length:Int) then (if (wrap64 ((wrap64 (9+x6))+x77))=x5 then (some (0,0,([]:List Int),0,1)) else (if 0≤(wrap64 ((wrap64 (9+x6))+x77)) then (if (wrap64 ((wrap64 (9+x6))+x77)) < (x0.length:Int) then (if (rd x0 (wrap64 ((wrap64 (9+x6))+x77)))=(rd x75 x77) then (impl_decodeFrame.l0 k x0 x5 x6 x75 x76 (wrap64 (x77+1))) else (some (0,0,([]:List Int),0,2))) else (none)) else (none))) else (none)) else (none)) else (if 2 < (x0.length:Int) then (if 3≤7 then (if 7≤(x0.length:Int) then ((impl_numberIn.f k ((x0.take 7).drop 3)).bind fun t148=>((some (([]:List Int):List Int)).bind fun y149=>(if 9≤(wrap64 (9+x6)) then (if (wrap64 (9+x6))≤(x0.length:Int) then (if y149.length+((x0.take ((wrap64 (9+x6)):Int).toNat).drop 9).length < 140737488355328 then (some (wrap64 (rd x0 2),t148,(y149 ++ ((x0.take ((wrap64 (9+x6)):Int).toNat).drop 9)),wrap64 (13+x6),0)) else (none)) else (none)) else (none)))) else (none)) else (none)) else (none))
def impl_decodeFrame.j1:Nat → List Int → Int → Bool → Option (Int × Int × List Int × Int × Int)
 | 0,_,_,_=>none
 | k+1,x0,x5,x12=>if x12=true then (impl_decodeFrame.j3 k x0 x5 x12) else (if x5 > 2 then (if 2 < (x0.length:Int) then (impl_decodeFrame.j2 k x0 x5 (decide ((rd x0 2) > 99))) else (none)) else (impl_decodeFrame.j2 k x0 x5 false))
def impl_decodeFrame.j2:Nat → List Int → Int → Bool → Option (Int × Int × List Int × Int × Int)
 | 0,_,_,_=>none
 | k+1,x0,x5,x12=>if x12=true then (impl_decodeFrame.j3 k x0 x5 x12) else (if x5 > 3 then (if 3 < (x0.length:Int) then (if (rd x0 3) > 127 then (impl_decodeFrame.j3 k x0 x5 (decide ((rd x0 3) > 127))) else (if x5 > 7 then (if 7 < (x0.length:Int) then (impl_decodeFrame.j3 k x0 x5 (decide ((wrap64 (rd x0 7)) > 19))) else (none)) else (impl_decodeFrame.j3 k x0 x5 false))) else (none)) else (if x5 > 7 then (if 7 < (x0.length:Int) then (impl_decodeFrame.j3 k x0 x5 (decide ((wrap64 (rd x0 7)) > 19))) else (none)) else (impl_decodeFrame.j3 k x0 x5 false)))
end
def impl_decodeFrame.f (k:Nat) (l0:List Int):Option (Int × Int × List Int × Int × Int):=if (l0.length:Int) > 0 then (if 0 < (l0.length:Int) then (impl_decodeFrame.j0 k l0 (l0.length:Int) ((rd l0 0) != 199)) else (none)) else (impl_decodeFrame.j0 k l0 (l0.length:Int) false)
def impl_decodeFrame.T23:Bool × List (List Nat × List Nat):=(true,[([],[]),([0],[0]),([1],[1]),([2],[2]),([],[]),([4],[4]),([5],[5]),([],[]),([],[]),([],[]),([9],[9]),([8,10],[8,10]),([7,11,6],[7,11]),([3,6,12],[3,6,12]),([],[]),([14,13,12,0,1,2,3,4,5,6,7,8,9,10,11,12,13,14],[13,14])])
def impl_decodeFrame.B23:List Nat:=[0,1,3,7,0,16,48,0,0,0,512,1792,4080,8191,0,32767]
theorem impl_decodeFrame.tab23:rtab .any (opsOf Try.f110 23)=impl_decodeFrame.T23:=by kernel_rfl
theorem impl_decodeFrame.bits23:waitsOk impl_decodeFrame.T23.2 impl_decodeFrame.B23=true:=by kernel_rfl
set_option maxHeartbeats 8000000 in
set_option maxRecDepth 100000 in
theorem impl_decodeFrame.calls (k:Nat) (A0:Option Addr) (c0:Nat) (l0:List Int) (r1:Int) (r2:Int) (r3:List Int) (r4:Int) (r5:Int) (w:World) (hr0:Kd.C (Kd.int .u8) w A0 l0.length l0) (hc0:l0.length≤c0) (h:impl_decodeFrame.f k l0=some (r1,r2,r3,r4,r5)) :
 Calls Try.prog 110 #[.slice A0 l0.length c0] w fun e w'=>∃ v2_:Value,e=.returned (.tuple #[.agg #[.int .i64 r1,.int .i64 r2,v2_],.int .i64 r4,.int .i64 r5])∧Kd.R (Kd.int .u8) 5 w' w.heap.size (fun _=>True) v2_ r3∧Below w.heap.size w w':=by
 have b0:=Try.underlying52;have b1:=ak hr0;have B0:=ak hc0;clear hr0 hc0;have HB:=ak (Below.refl w.heap.size w);have H:=h;clear h;unfold impl_decodeFrame.f at H;have B2:=ak H;clear H;go_enter Try.func110,Try.ntmps110
 go_upto_region 2 with (first | ((with_reducible refine gate_dst (N:=2) rfl ?_);refine boxA 2 #[.int .i64 0,.int .i64 0,.slice none 0 0] 52 ?_;intro l2 hg w3 hbox hb;have B6:=ak hbox;have w4:=leA (w:=w) hg;have W0:=leA (w:=w) hg;replace HB:=bS hb;clear hb hbox hg))
 (try simp only [Act.put,sa,sb,sc])
 go_cut [12] (fun N0 wc=>∃ (kq:Nat) (w5:Bool),N0=.bool w5∧Aside0 (impl_decodeFrame.j0 kq l0 (l0.length:Int) w5=some (r1,r2,r3,r4,r5))∧Aside0 (kq≤k)∧Aside0 (wc.heap[l2]?=some (.cells #[.int .i64 0,.int .i64 0,(.slice none 0 0)] 52 (0,0)))∧Aside0 (Below w.heap.size w wc))
 case first =>
  have H:=B2.out;clear B2
  by_cases c4:(l0.length:Int) > 0;rotate_left
  · rw [if_neg c4] at H;have x0:decide (0 < (l0.length:Int))=false:=decide_eq_false c4;have x1:decide (0 < l0.length)=false:=decide_eq_false (by omega);clear c4;(first | rw [x0] | (simp only [i64_w,i32_w];rw [x0]) | skip)
    have H':=ak H;clear H;go_wp2
    go_meet
    case rel=>exact ⟨_,(false),eqA,H',⟨xq12⟩,⟨blkA⟩,⟨belA⟩⟩
  rw [if_pos c4] at H;have x0:decide (0 < (l0.length:Int))=true:=decide_eq_true c4;have x1:decide (0 < l0.length)=true:=decide_eq_true (by omega);clear c4;(first | rw [x0] | (simp only [i64_w,i32_w];rw [x0]) | skip)
  obtain ⟨c5,H⟩:=iN H;have x2:=decide_eq_true c5;have x3:decide (0 < l0.length)=true:=decide_eq_true (by omega);clear c5;have H':=ak H;clear H;have V0:0≤(0:Int):=(by omega);have a5:0 < (l0.length:Int):=odA;obtain ⟨A1,o0,O0⟩:=Kd.at_int b1.out 0 V0 a5
  cases o0
  have g3:(0 < l0.length)=True:=eq_true (by omega);(try rw [show ((0:Int)).toNat=0 from rfl] at O0)
  (try rw [Addr.add_zero'] at O0)
  try replace O0:=cB HB O0
  replace V0:=eq_true V0;replace a5:=eq_true a5;go_wp2
  go_meet
  case rel=>exact ⟨_,(((rd l0 0) != 199)),eqA,H',⟨xq12⟩,⟨blkA⟩,⟨belA⟩⟩
 case rest =>
  clear B2;obtain ⟨kq,w5,rfl,HA,c1,B6,HB⟩:=hcut
  cases kq with
  | zero=>exact absurd HA.out (by simp [impl_decodeFrame.j0])
  | succ y0 =>
   have H:=HA.out;clear HA;simp only [impl_decodeFrame.j0] at H;have B8:=ak H;clear H;go_upto_if 12 with (fail)
   go_cut [12] (fun N0 wc=>∃ (kq:Nat) (w6:Bool),N0=.bool w6∧Aside0 (impl_decodeFrame.j3 kq l0 (l0.length:Int) w6=some (r1,r2,r3,r4,r5))∧Aside0 (kq≤y0)∧Aside0 (wc.heap[l2]?=some (.cells #[.int .i64 0,.int .i64 0,(.slice none 0 0)] 52 (0,0)))∧Aside0 (Below w.heap.size w wc))
   case first =>
    have H:=B8.out;clear B8
    by_cases c7:w5=true
    · subst c7;rw [if_pos rfl] at H;have H':=ak H;clear H;go_wp2
      go_meet
      case rel=>exact ⟨_,(true),eqA,H',⟨xq79⟩,⟨blkA⟩,⟨belA⟩⟩
    replace c7:=Bool.eq_false_iff.mpr c7;subst c7;rw [if_neg (show ¬ (false=true) by decide)] at H;have B9:=ak H;clear H;go_upto_region 3 with (fail)
    go_cut [12] (fun N0 wc=>∃ (kq:Nat) (w7:Bool),N0=.bool w7∧Aside0 (impl_decodeFrame.j1 kq l0 (l0.length:Int) w7=some (r1,r2,r3,r4,r5))∧Aside0 (kq≤y0)∧Aside0 (wc.heap[l2]?=some (.cells #[.int .i64 0,.int .i64 0,(.slice none 0 0)] 52 (0,0)))∧Aside0 (Below w.heap.size w wc))
    case first =>
     have H:=B9.out;clear B9
     by_cases c9:(l0.length:Int) > 1;rotate_left
     · rw [if_neg c9] at H;have x4:decide (1 < (l0.length:Int))=false:=decide_eq_false c9;have x5:decide (1 < l0.length)=false:=decide_eq_false (by omega);clear c9;(first | rw [x4] | (simp only [i64_w,i32_w];rw [x4]) | skip)
       have H':=ak H;clear H;go_wp2
       go_meet
       case rel=>exact ⟨_,(false),eqA,H',⟨xq79⟩,⟨blkA⟩,⟨belA⟩⟩
     rw [if_pos c9] at H;have x4:decide (1 < (l0.length:Int))=true:=decide_eq_true c9;have x5:decide (1 < l0.length)=true:=decide_eq_true (by omega);clear c9;(first | rw [x4] | (simp only [i64_w,i32_w];rw [x4]) | skip)
     obtain ⟨c10,H⟩:=iN H;have x6:=decide_eq_true c10;have x7:decide (1 < l0.length)=true:=decide_eq_true (by omega);clear c10;have H':=ak H;clear H;have V1:0≤(1:Int):=(by omega);have a6:1 < (l0.length:Int):=odA;obtain ⟨A2,o1,O1⟩:=Kd.at_int b1.out 1 V1 a6
     cases o1
     (try simp only [show (1:Int).toNat=1 from rfl,Nat.reduceMul,Nat.reduceEqDiff,Go.Addr.add,↓reduceIte] at O1)
     have g4:(1 < l0.length)=True:=eq_true (by omega);(try rw [show ((1:Int)).toNat=1 from rfl] at O1)
     try replace O1:=cB HB O1
     replace V1:=eq_true V1;replace a6:=eq_true a6;go_wp2
     go_meet
     case rel=>exact ⟨_,(((rd l0 1) != 77)),eqA,H',⟨xq79⟩,⟨blkA⟩,⟨belA⟩⟩
    case rest =>
     clear B9;obtain ⟨kq,w7,rfl,HA,ca,B6,HB⟩:=hcut
     cases kq with
     | zero=>exact absurd HA.out (by simp [impl_decodeFrame.j1])
     | succ y1 =>
      have H:=HA.out;clear HA;simp only [impl_decodeFrame.j1] at H
      by_cases x8:w7=true
      · subst x8;rw [if_pos rfl] at H;have H':=ak H;clear H;go_wp2
        go_meet
        case rel=>exact ⟨_,(true),eqA,H',⟨xq80⟩,⟨blkA⟩,⟨belA⟩⟩
      replace x8:=Bool.eq_false_iff.mpr x8;subst x8;rw [if_neg (show ¬ (false=true) by decide)] at H;have Ba:=ak H;clear H;go_upto_region 4 with (fail)
      go_cut [12] (fun N0 wc=>∃ (kq:Nat) (w8:Bool),N0=.bool w8∧Aside0 (impl_decodeFrame.j2 kq l0 (l0.length:Int) w8=some (r1,r2,r3,r4,r5))∧Aside0 (kq≤y1)∧Aside0 (wc.heap[l2]?=some (.cells #[.int .i64 0,.int .i64 0,(.slice none 0 0)] 52 (0,0)))∧Aside0 (Below w.heap.size w wc))
      case first =>
       have H:=Ba.out;clear Ba
       by_cases x9:(l0.length:Int) > 2;rotate_left
       · rw [if_neg x9] at H;have xa:decide (2 < (l0.length:Int))=false:=decide_eq_false x9;have xb:decide (2 < l0.length)=false:=decide_eq_false (by omega);clear x9;(first | rw [xa] | (simp only [i64_w,i32_w];rw [xa]) | skip)
         have H':=ak H;clear H;go_wp2
         go_meet
         case rel=>exact ⟨_,(false),eqA,H',⟨xq80⟩,⟨blkA⟩,⟨belA⟩⟩
       rw [if_pos x9] at H;have xa:decide (2 < (l0.length:Int))=true:=decide_eq_true x9;have xb:decide (2 < l0.length)=true:=decide_eq_true (by omega);clear x9;(first | rw [xa] | (simp only [i64_w,i32_w];rw [xa]) | skip)
       obtain ⟨xc,H⟩:=iN H;have xd:=decide_eq_true xc;have xe:decide (2 < l0.length)=true:=decide_eq_true (by omega);clear xc;have H':=ak H;clear H;have V2:0≤(2:Int):=(by omega);have a7:2 < (l0.length:Int):=odA;obtain ⟨A3,o2,O2⟩:=Kd.at_int b1.out 2 V2 a7
       cases o2
       (try simp only [show (2:Int).toNat=2 from rfl,Nat.reduceMul,Nat.reduceEqDiff,Go.Addr.add,↓reduceIte] at O2)
       have g5:(2 < l0.length)=True:=eq_true (by omega);(try rw [show ((2:Int)).toNat=2 from rfl] at O2)
       try replace O2:=cB HB O2
       replace V2:=eq_true V2;replace a7:=eq_true a7;go_wp2
       go_meet
       case rel=>exact ⟨_,(decide ((rd l0 2) > 99)),eqA,H',⟨xq80⟩,⟨blkA⟩,⟨belA⟩⟩
      case rest =>
       clear Ba;obtain ⟨kq,w8,rfl,HA,cb,B6,HB⟩:=hcut
       cases kq with
       | zero=>exact absurd HA.out (by simp [impl_decodeFrame.j2])
       | succ y2 =>
        have H:=HA.out;clear HA;simp only [impl_decodeFrame.j2] at H
        by_cases xf:w8=true
        · subst xf;rw [if_pos rfl] at H;have H':=ak H;clear H;go_wp2
          go_meet
          case rel=>exact ⟨_,(true),eqA,H',⟨xq37⟩,⟨blkA⟩,⟨belA⟩⟩
        replace xf:=Bool.eq_false_iff.mpr xf;subst xf;rw [if_neg (show ¬ (false=true) by decide)] at H
        by_cases xg:(l0.length:Int) > 3;rotate_left
        · rw [if_neg xg] at H;have xh:decide (3 < (l0.length:Int))=false:=decide_eq_false xg;have xi:decide (3 < l0.length)=false:=decide_eq_false (by omega);clear xg
          by_cases xj:(l0.length:Int) > 7;rotate_left
          · rw [if_neg xj] at H;have xk:decide (7 < (l0.length:Int))=false:=decide_eq_false xj;have xl:decide (7 < l0.length)=false:=decide_eq_false (by omega);clear xj;have H':=ak H;clear H;go_wp2
            go_meet
            case rel=>exact ⟨_,(false),eqA,H',⟨xq37⟩,⟨blkA⟩,⟨belA⟩⟩
          rw [if_pos xj] at H;have xk:decide (7 < (l0.length:Int))=true:=decide_eq_true xj;have xl:decide (7 < l0.length)=true:=decide_eq_true (by omega);clear xj
          obtain ⟨xm,H⟩:=iN H;have xn:=decide_eq_true xm;have xo:decide (7 < l0.length)=true:=decide_eq_true (by omega);clear xm;have H':=ak H;clear H;have V3:0≤(7:Int):=(by omega);have a8:7 < (l0.length:Int):=odA;obtain ⟨A4,o3,O3⟩:=Kd.at_int b1.out 7 V3 a8
          cases o3
          (try simp only [show (7:Int).toNat=7 from rfl,Nat.reduceMul,Nat.reduceEqDiff,Go.Addr.add,↓reduceIte] at O3)
          have g6:(7 < l0.length)=True:=eq_true (by omega);(try rw [show ((7:Int)).toNat=7 from rfl] at O3)
          try replace O3:=cB HB O3
          replace V3:=eq_true V3;replace a8:=eq_true a8;go_wp2
          go_meet
          case rel=>exact ⟨_,(decide ((wrap64 (rd l0 7)) > 19)),eqA,H',⟨xq37⟩,⟨blkA⟩,⟨belA⟩⟩
        rw [if_pos xg] at H;have xh:decide (3 < (l0.length:Int))=true:=decide_eq_true xg;have xi:decide (3 < l0.length)=true:=decide_eq_true (by omega);clear xg
        obtain ⟨xp,H⟩:=iN H;have xq:=decide_eq_true xp;have xr:decide (3 < l0.length)=true:=decide_eq_true (by omega);clear xp
        by_cases xt:(rd l0 3) > 127
        · rw [if_pos xt] at H;have xu:decide (127 < (rd l0 3))=true:=decide_eq_true xt;clear xt;have H':=ak H;clear H;have V4:0≤(3:Int):=(by omega);have a9:3 < (l0.length:Int):=odA;obtain ⟨A5,o4,O4⟩:=Kd.at_int b1.out 3 V4 a9
          cases o4
          (try simp only [show (3:Int).toNat=3 from rfl,Nat.reduceMul,Nat.reduceEqDiff,Go.Addr.add,↓reduceIte] at O4)
          have g7:(3 < l0.length)=True:=eq_true (by omega);(try rw [show ((3:Int)).toNat=3 from rfl] at O4)
          try replace O4:=cB HB O4
          replace V4:=eq_true V4;replace a9:=eq_true a9;go_wp2
          go_meet
          case rel=>exact ⟨_,(decide ((rd l0 3) > 127)),eqA,H',⟨xq37⟩,⟨blkA⟩,⟨belA⟩⟩
        rw [if_neg xt] at H;have xu:decide (127 < (rd l0 3))=false:=decide_eq_false xt;clear xt
        by_cases xv:(l0.length:Int) > 7;rotate_left
        · rw [if_neg xv] at H;have xw:decide (7 < (l0.length:Int))=false:=decide_eq_false xv;have xx:decide (7 < l0.length)=false:=decide_eq_false (by omega);clear xv;have H':=ak H;clear H;have V4:0≤(3:Int):=(by omega);have a9:3 < (l0.length:Int):=odA;obtain ⟨A5,o4,O4⟩:=Kd.at_int b1.out 3 V4 a9
          cases o4
          (try simp only [show (3:Int).toNat=3 from rfl,Nat.reduceMul,Nat.reduceEqDiff,Go.Addr.add,↓reduceIte] at O4)
          have g7:(3 < l0.length)=True:=eq_true (by omega);(try rw [show ((3:Int)).toNat=3 from rfl] at O4)
          try replace O4:=cB HB O4
          replace V4:=eq_true V4;replace a9:=eq_true a9;go_wp2
          go_meet
          case rel=>exact ⟨_,(false),eqA,H',⟨xq37⟩,⟨blkA⟩,⟨belA⟩⟩
        rw [if_pos xv] at H;have xw:decide (7 < (l0.length:Int))=true:=decide_eq_true xv;have xx:decide (7 < l0.length)=true:=decide_eq_true (by omega);clear xv
        obtain ⟨xy,H⟩:=iN H;have xz:=decide_eq_true xy;have xA:decide (7 < l0.length)=true:=decide_eq_true (by omega);clear xy;have H':=ak H;clear H;have V4:0≤(3:Int):=(by omega);have a9:3 < (l0.length:Int):=odA;obtain ⟨A5,o4,O4⟩:=Kd.at_int b1.out 3 V4 a9
        cases o4
        (try simp only [show (3:Int).toNat=3 from rfl,Nat.reduceMul,Nat.reduceEqDiff,Go.Addr.add,↓reduceIte] at O4)
        have g7:(3 < l0.length)=True:=eq_true (by omega);(try rw [show ((3:Int)).toNat=3 from rfl] at O4)
        try replace O4:=cB HB O4
        replace V4:=eq_true V4;replace a9:=eq_true a9;have V5:0≤(7:Int):=(by omega);have aa:7 < (l0.length:Int):=odA;obtain ⟨A6,o5,O5⟩:=Kd.at_int b1.out 7 V5 aa;obtain rfl:A5=A6:=(by injection o5);(try simp only [show (7:Int).toNat=7 from rfl,Nat.reduceMul,Nat.reduceEqDiff,Go.Addr.add,↓reduceIte] at O5)
        have g8:(7 < l0.length)=True:=eq_true (by omega);(try rw [show ((7:Int)).toNat=7 from rfl] at O5)
        try replace O5:=cB HB O5
        replace V5:=eq_true V5;replace aa:=eq_true aa;go_wp2
        go_meet
        case rel=>exact ⟨_,(decide ((wrap64 (rd l0 7)) > 19)),eqA,H',⟨xq37⟩,⟨blkA⟩,⟨belA⟩⟩
   case rest =>
    clear B8;obtain ⟨kq,w6,rfl,HA,cc,B6,HB⟩:=hcut
    cases kq with
    | zero=>exact absurd HA.out (by simp [impl_decodeFrame.j3])
    | succ y3 =>
     have H:=HA.out;clear HA;simp only [impl_decodeFrame.j3] at H
     by_cases xB:w6=true
     · subst xB;rw [if_pos rfl] at H;simp only [Option.some.injEq,Prod.mk.injEq] at H;obtain ⟨rfl,rfl,rfl,rfl,rfl⟩:=H;obtain ⟨_,_,_,_,_,_⟩:=cel3 B6;go_wp2
       refine bodyPost_ret (results_ctt rfl _ _ l2 52 #[.int .i64 0,.int .i64 0,.slice none 0 0] (0,0) _ rfl xq64 Try.underlying52 rfl (by kernel_rfl)) rfl ?_
       exact ⟨_,xq4,xq16,belA⟩
     replace xB:=Bool.eq_false_iff.mpr xB;subst xB;rw [if_neg (show ¬ (false=true) by decide)] at H
     by_cases xC:(l0.length:Int) < 9
     · rw [if_pos xC] at H;have xD:=decide_eq_true xC;have xE:decide (l0.length < 9)=true:=decide_eq_true (by omega);clear xC;simp only [Option.some.injEq,Prod.mk.injEq] at H;obtain ⟨rfl,rfl,rfl,rfl,rfl⟩:=H;obtain ⟨_,_,_,_,_,_⟩:=cel3 B6;go_wp2
       refine bodyPost_ret (results_ctt rfl _ _ l2 52 #[.int .i64 0,.int .i64 0,.slice none 0 0] (0,0) _ rfl xq64 Try.underlying52 rfl (by kernel_rfl)) rfl ?_
       exact ⟨_,xq4,xq16,belA⟩
     rw [if_neg xC] at H;have xD:=decide_eq_false xC;have xE:decide (l0.length < 9)=false:=decide_eq_false (by omega);clear xC
     obtain ⟨xF,H⟩:=iN H;have xG:=eq_true xF;have xH:decide (7≤9)=true:=decide_eq_true xF;clear xF
     obtain ⟨xI,H⟩:=iN H;have xJ:=eq_true xI;have xK:decide (9≤(l0.length:Int))=true:=decide_eq_true xI;clear xI;obtain ⟨p0,g9,H⟩:=ob H;(try dsimp only at H)
     by_cases xL:p0 > 5000
     · rw [if_pos xL] at H;have xM:decide (5000 < p0)=true:=decide_eq_true xL;clear xL;simp only [Option.some.injEq,Prod.mk.injEq] at H;obtain ⟨rfl,rfl,rfl,rfl,rfl⟩:=H;obtain ⟨P0,q0,_,Q0,_⟩:=info_parts info5;obtain ⟨ga,r0,R0,sd⟩:=print_mid_of (P:=Try.prog) (Value.int .u8) 0 22 5 .i64 .i64 Try.underlying22 q0 Q0 A0 c0 l0 7 9 (by omega) xq38 (odA) B0.out;try simp only [v0] at r0
       have b2:=ak (Kd.C_of_reads (h1:=fun _=>rfl) (R0 _ (Kd.reads_of_C b1.out)));have Bb:=ak sd;clear R0 sd q0 Q0;go_wp2_with (first | ((with_reducible refine gate_callee (f:=126) rfl ?_);refine goesL_ (some 61) rfl rfl Try.func126 (by kernel_rfl) rfl #[.slice ga ((l0.take 9).drop 7).length (c0 - 7)] rfl xq81 ?_;(with_reducible refine (impl_numberIn.calls y3 _ _ ((l0.take 9).drop 7) p0 _ ?side1 Bb.out g9.out).mono ?_);(case side1=>exact cA (Kd.C_below b2.out HB.out));rintro e w' ⟨rfl,⟨nd,rfl⟩⟩;refine ⟨_,rfl,?_⟩;(try (rw [drewN_self wc];generalize hq_:World.drewN wc _=wc;have xN:Aside0 (wc.heap[l2]?=some (.cells #[.int .i64 0,.int .i64 0,.slice none 0 0] 52 (0,0))):=⟨by rw [← hq_];exact blkA⟩;have xO:Aside0 (Below w.heap.size w wc):=⟨by rw [← hq_];exact belA⟩;have v1:wc.cell? ⟨l2,0,none⟩=some (.int .i64 0):=bc xN 0;have V6:=blk_frozen xN.out 0;have v2:wc.cell? ⟨l2,1,none⟩=some (.int .i64 0):=bc xN 1;have V7:=blk_frozen xN.out 1;have v3:wc.cell? ⟨l2,2,none⟩=some (.slice none 0 0):=bc xN 2;have V8:=blk_frozen xN.out 2;clear B6 HB hq_;have B6:=xN;have HB:=xO;clear xN xO));obtain ⟨_,_,_,_,_,_⟩:=cel3 B6))
       refine bodyPost_ret (results_ctt rfl _ _ l2 52 #[.int .i64 0,.int .i64 0,.slice none 0 0] (0,0) _ rfl xq64 Try.underlying52 rfl (by kernel_rfl)) rfl ?_
       exact ⟨_,xq4,xq16,belA⟩
     rw [if_neg xL] at H;have xM:decide (5000 < p0)=false:=decide_eq_false xL;clear xL
     by_cases xP:(l0.length:Int) < (wrap64 (9+p0))
     · rw [if_pos xP] at H;have xQ:=decide_eq_true xP;have xR:decide ((l0.length:Int) < (IntKind.i64.wrap (9+p0)))=true:=by simp only [i64_w];exact xQ
       clear xP;simp only [Option.some.injEq,Prod.mk.injEq] at H;obtain ⟨rfl,rfl,rfl,rfl,rfl⟩:=H;obtain ⟨P1,q1,_,Q1,_⟩:=info_parts info5;obtain ⟨gb,r6,R1,se⟩:=print_mid_of (P:=Try.prog) (Value.int .u8) 0 22 5 .i64 .i64 Try.underlying22 q1 Q1 A0 c0 l0 7 9 (by omega) xq38 (odA) B0.out;try simp only [v0] at r6
       have b2:=ak (Kd.C_of_reads (h1:=fun _=>rfl) (R1 _ (Kd.reads_of_C b1.out)));have Bb:=ak se;clear R1 se q1 Q1;go_wp2_with (first | ((with_reducible refine gate_callee (f:=126) rfl ?_);refine goesL_ (some 61) rfl rfl Try.func126 (by kernel_rfl) rfl #[.slice gb ((l0.take 9).drop 7).length (c0 - 7)] rfl xq81 ?_;(with_reducible refine (impl_numberIn.calls y3 _ _ ((l0.take 9).drop 7) p0 _ ?side1 Bb.out g9.out).mono ?_);(case side1=>exact cA (Kd.C_below b2.out HB.out));rintro e w' ⟨rfl,⟨nd,rfl⟩⟩;refine ⟨_,rfl,?_⟩;(try (rw [drewN_self wc];generalize hq_:World.drewN wc _=wc;have xN:Aside0 (wc.heap[l2]?=some (.cells #[.int .i64 0,.int .i64 0,.slice none 0 0] 52 (0,0))):=⟨by rw [← hq_];exact blkA⟩;have xO:Aside0 (Below w.heap.size w wc):=⟨by rw [← hq_];exact belA⟩;have v1:wc.cell? ⟨l2,0,none⟩=some (.int .i64 0):=bc xN 0;have V6:=blk_frozen xN.out 0;have v2:wc.cell? ⟨l2,1,none⟩=some (.int .i64 0):=bc xN 1;have V7:=blk_frozen xN.out 1;have v3:wc.cell? ⟨l2,2,none⟩=some (.slice none 0 0):=bc xN 2;have V8:=blk_frozen xN.out 2;clear B6 HB hq_;have B6:=xN;have HB:=xO;clear xN xO));obtain ⟨_,_,_,_,_,_⟩:=cel3 B6))
       refine bodyPost_ret (results_ctt rfl _ _ l2 52 #[.int .i64 0,.int .i64 0,.slice none 0 0] (0,0) _ rfl xq64 Try.underlying52 rfl (by kernel_rfl)) rfl ?_
       exact ⟨_,xq4,xq16,belA⟩
     rw [if_neg xP] at H;have xQ:=decide_eq_false xP;have xR:decide ((l0.length:Int) < (IntKind.i64.wrap (9+p0)))=false:=by simp only [i64_w];exact xQ
     clear xP
     obtain ⟨xS,H⟩:=iN H;have xT:=eq_true xS;have xU:decide (2≤(wrap64 (9+p0)))=true:=decide_eq_true xS;have xV:decide (2≤(IntKind.i64.wrap (9+p0)))=true:=by simp only [i64_w];exact xU
     obtain ⟨xW,H⟩:=iN H;have xX:=eq_true xW;have xY:decide ((wrap64 (9+p0))≤(l0.length:Int))=true:=decide_eq_true xW;have xZ:decide ((IntKind.i64.wrap (9+p0))≤(l0.length:Int))=true:=by simp only [i64_w];exact xY
     obtain ⟨p1,gc,H⟩:=ob H;(try dsimp only at H);obtain ⟨p2,gf,H⟩:=ob H;(try dsimp only at H);have H':=ak H;clear H;obtain ⟨P2,q2,_,Q2,_⟩:=info_parts info5;obtain ⟨gg,r7,R2,sf⟩:=print_mid_of (P:=Try.prog) (Value.int .u8) 0 22 5 .i64 .i64 Try.underlying22 q2 Q2 A0 c0 l0 7 9 (by omega) xq38 (odA) B0.out;try simp only [v0] at r7
     have b2:=ak (Kd.C_of_reads (h1:=fun _=>rfl) (R2 _ (Kd.reads_of_C b1.out)));have Bb:=ak sf;clear R2 sf q2 Q2;go_wp2_with (first | ((with_reducible refine gate_callee (f:=126) rfl ?_);refine goesL_ (some 61) rfl rfl Try.func126 (by kernel_rfl) rfl #[.slice gg ((l0.take 9).drop 7).length (c0 - 7)] rfl xq81 ?_;(with_reducible refine (impl_numberIn.calls y3 _ _ ((l0.take 9).drop 7) p0 _ ?side1 Bb.out g9.out).mono ?_);(case side1=>exact cA (Kd.C_below b2.out HB.out));rintro e w' ⟨rfl,⟨nd,rfl⟩⟩;refine ⟨_,rfl,?_⟩;obtain ⟨P3,q3,_,Q3,_⟩:=info_parts info5;obtain ⟨gh,r8,R3,sg⟩:=print_mid_of (P:=Try.prog) (Value.int .u8) 0 22 5 .i64 .i64 Try.underlying22 q3 Q3 A0 c0 l0 2 (wrap64 (9+p0)) (by omega) xq38 (odA) B0.out;have b3:=ak (Kd.C_of_reads (h1:=fun _=>rfl) (R3 _ (Kd.reads_of_C b1.out)));have Bc:=ak sg;clear R3 sg q3 Q3) | ((with_reducible refine gate_callee (f:=123) rfl ?_);refine goesL_ (some 74) rfl rfl Try.func123 (by kernel_rfl) rfl #[.slice gh ((l0.take ((wrap64 (9+p0)):Int).toNat).drop 2).length (c0 - 2)] rfl (by (try simp only [List.map_toArray,List.map_cons,List.map_nil]);first | done | ((try simp only [v0]);rfl) | (simp only [List.length_drop,List.length_take];(try simp only [v0]);rfl) | (rw [show ((l0.take ((wrap64 (9+p0)):Int).toNat).drop 2).length=((wrap64 (9+p0)).toNat - 2) from xq55] <;> rfl) | rfl | (simp only [List.length_drop,List.length_take];rfl)) ?_;(with_reducible refine (impl_checkSum.calls y3 _ _ ((l0.take ((wrap64 (9+p0)):Int).toNat).drop 2) p1 _ ?side1 Bc.out gc.out).mono ?_);(case side1=>exact cA (Kd.C_below b3.out belA));rintro e w' ⟨rfl,⟨nd,rfl⟩⟩;refine ⟨_,rfl,?_⟩) | ((with_reducible refine gate_callee (f:=122) rfl ?_);refine goB 75 Try.func122 #[.int .i64 p1,.int .i64 4] rfl ?_;(with_reducible refine (impl_bigEndian.calls y3 p1 4 p2 _ gf.out).mono ?_);rintro e S0 ⟨N1,rfl,u5,hb⟩;refine ⟨_,rfl,?_⟩;have U0:=rL u5;replace B6:=bB B6 hb;replace HB:=bS hb;(try clear hb u5);obtain ⟨d0,D0,rfl⟩:=Kd.R_slice U0.out))
     go_loopg [77] y3 (fun kq N2 w'=>∃ (w9:Int) (wa:Int) (wb:Int),N2=.int .i64 w9∧Aside0 (impl_decodeFrame.l0 kq l0 (l0.length:Int) p0 p2 (p2.length:Int) w9=some (r1,r2,r3,r4,r5))∧Aside0 (kq≤y3)∧Aside0 (Kd.R (Kd.int .u8) 5 w' w.heap.size (fun _=>True) (.slice d0 p2.length D0) p2)∧Aside0 (w'.heap[l2]?=some (.cells #[.int .i64 wa,.int .i64 wb,(.slice none 0 0)] 52 (0,0)))∧Aside0 (Below w.heap.size w w'))
     case atStart=>exact ⟨(0),(0),(0),eqA,H',⟨Nat.le_refl _⟩,⟨rA U0⟩,⟨blkA⟩,⟨belA⟩⟩
     case round =>
      clear H';obtain ⟨w9,wa,wb,rfl,HA,W1,U1,B6,HB⟩:=hrel
      cases gk with
      | zero=>exact absurd HA.out (by simp [impl_decodeFrame.l0])
      | succ k3 =>
       have H:=HA.out;clear HA;simp only [impl_decodeFrame.l0] at H
       by_cases c44:w9 < (p2.length:Int)
       · rw [if_pos c44] at H;have x01:=decide_eq_true c44;clear c44
         obtain ⟨c45,H⟩:=iN H;have x03:=decide_eq_true c45;clear c45
         obtain ⟨c46,H⟩:=iN H;have x05:=decide_eq_true c46;clear c46
         by_cases c47:(wrap64 ((wrap64 (9+p0))+w9))=(l0.length:Int)
         · rw [if_pos c47] at H;have x07:((wrap64 ((wrap64 (9+p0))+w9)) == (l0.length:Int))=true:=beq_iff_eq.mpr c47;have x08:((wrap64 ((wrap64 (9+p0))+w9)) != (l0.length:Int))=false:=bne_eq_false_iff_eq.mpr c47;clear c47;simp only [Option.some.injEq,Prod.mk.injEq] at H;obtain ⟨rfl,rfl,rfl,rfl,rfl⟩:=H;have V9:0≤(w9:Int):=odA;have ab:w9 < (p2.length:Int):=odA;obtain ⟨A7,o6,O6⟩:=Kd.at_int (Kd.R_reads' U1.out).2.2 w9 V9 ab
           cases o6
           replace V9:=eq_true V9;replace ab:=eq_true ab;obtain ⟨_,_,_,_,_,_⟩:=cel3 B6;go_wp2
           refine bodyPost_ret (results_ctt rfl _ _ l2 52 #[.int .i64 0,.int .i64 0,.slice none 0 0] (0,0) _ rfl xq120 Try.underlying52 rfl (by kernel_rfl)) rfl ?_
           exact ⟨_,xq4,xq16,belA⟩
         rw [if_neg c47] at H;have x07:((wrap64 ((wrap64 (9+p0))+w9)) == (l0.length:Int))=false:=beq_eq_false_iff_ne.mpr c47;have x08:((wrap64 ((wrap64 (9+p0))+w9)) != (l0.length:Int))=true:=bne_iff_ne.mpr c47;obtain ⟨Y0,v0⟩:∃ j_:Int,(wrap64 ((wrap64 (9+p0))+w9))=j_:=⟨_,rfl⟩;replace H:(if 0≤(Y0) then (if (Y0) < (l0.length:Int) then (if (rd l0 (Y0))=(rd p2 w9) then (impl_decodeFrame.l0 k3 l0 (l0.length:Int) p0 p2 (p2.length:Int) (wrap64 (w9+1))) else (some (0,0,([]:List Int),0,2))) else (none)) else (none))=some (r1,r2,r3,r4,r5):=xq35
         (try rw [v0] at x07)
         (try rw [v0] at x08)
         have hji49w:(IntKind.i64.wrap ((wrap64 (9+p0))+w9))=Y0:=(i64_w _).trans v0
         obtain ⟨c50,H⟩:=iN H;have x0a:=decide_eq_true c50;clear c50
         obtain ⟨c51,H⟩:=iN H;have x0c:=decide_eq_true c51;clear c51
         by_cases c52:(rd l0 (Y0))=(rd p2 w9)
         · rw [if_pos c52] at H;have x0e:((rd l0 (Y0)) == (rd p2 w9))=true:=beq_iff_eq.mpr c52;have x0f:((rd l0 (Y0)) != (rd p2 w9))=false:=bne_eq_false_iff_eq.mpr c52;clear c52;have H':=ak H;clear H;have V9:0≤(w9:Int):=odA;have ab:w9 < (p2.length:Int):=odA;obtain ⟨A7,o6,O6⟩:=Kd.at_int (Kd.R_reads' U1.out).2.2 w9 V9 ab
           cases o6
           replace V9:=eq_true V9;replace ab:=eq_true ab;have Va:0≤((Y0):Int):=odA;have ac:(Y0) < (l0.length:Int):=odA;obtain ⟨A8,o7,O7⟩:=Kd.at_int b1.out (Y0) Va ac
           cases o7
           try replace O7:=cB HB O7
           replace Va:=eq_true Va;replace ac:=eq_true ac;go_wp2
           go_roundg k3
           case measure=>have:=c1.out;have:=cc.out;have:=W1.out;omega
           case rel=>exact ⟨(wrap64 (w9+1)),(wa),(wb),eqA,H',⟨by have:=c1.out;have:=cc.out;have:=W1.out;omega⟩,⟨rA U1⟩,⟨blkA⟩,⟨belA⟩⟩
         rw [if_neg c52] at H;have x0e:((rd l0 (Y0)) == (rd p2 w9))=false:=beq_eq_false_iff_ne.mpr c52;have x0f:((rd l0 (Y0)) != (rd p2 w9))=true:=bne_iff_ne.mpr c52;simp only [Option.some.injEq,Prod.mk.injEq] at H;obtain ⟨rfl,rfl,rfl,rfl,rfl⟩:=H;have V9:0≤(w9:Int):=odA;have ab:w9 < (p2.length:Int):=odA;obtain ⟨A7,o6,O6⟩:=Kd.at_int (Kd.R_reads' U1.out).2.2 w9 V9 ab
         cases o6
         replace V9:=eq_true V9;replace ab:=eq_true ab;have Va:0≤((Y0):Int):=odA;have ac:(Y0) < (l0.length:Int):=odA;obtain ⟨A8,o7,O7⟩:=Kd.at_int b1.out (Y0) Va ac
         cases o7
         try replace O7:=cB HB O7
         replace Va:=eq_true Va;replace ac:=eq_true ac;obtain ⟨_,_,_,_,_,_⟩:=cel3 B6;go_wp2
         refine bodyPost_ret (results_ctt rfl _ _ l2 52 #[.int .i64 0,.int .i64 0,.slice none 0 0] (0,0) _ rfl xq120 Try.underlying52 rfl (by kernel_rfl)) rfl ?_
         exact ⟨_,xq91,xq16,belA⟩
       rw [if_neg c44] at H;have x01:=decide_eq_false c44;clear c44
       obtain ⟨c54,H⟩:=iN H;have x0h:=decide_eq_true c54;have x0i:decide (2 < l0.length)=true:=decide_eq_true (by omega);clear c54
       obtain ⟨c55,H⟩:=iN H;have x0k:=eq_true c55;have x0l:decide (3≤7)=true:=decide_eq_true c55;clear c55
       obtain ⟨c56,H⟩:=iN H;have x0n:=eq_true c56;have x0o:decide (7≤(l0.length:Int))=true:=decide_eq_true c56;clear c56;obtain ⟨p3,gi,H⟩:=ob H;(try dsimp only at H);obtain ⟨k0,hyq⟩:∃ y_:List Int,y_=(([]:List Int)):=⟨_,rfl⟩;replace H:(if 9≤(wrap64 (9+p0)) then (if (wrap64 (9+p0))≤(l0.length:Int) then (if k0.length+((l0.take ((wrap64 (9+p0)):Int).toNat).drop 9).length < 140737488355328 then (some (wrap64 (rd l0 2),p3,(k0 ++ ((l0.take ((wrap64 (9+p0)):Int).toNat).drop 9)),wrap64 (13+p0),0)) else (none)) else (none)) else (none))=some (r1,r2,r3,r4,r5):=xq7
       have K0:=ak hyq;clear hyq
       obtain ⟨c58,H⟩:=iN H;have x0q:=eq_true c58;have x0r:decide (9≤(wrap64 (9+p0)))=true:=decide_eq_true c58;have x0s:decide (9≤(IntKind.i64.wrap (9+p0)))=true:=by simp only [i64_w];exact x0r
       obtain ⟨c59,H⟩:=iN H;have x0u:=eq_true c59;have x0v:decide ((wrap64 (9+p0))≤(l0.length:Int))=true:=decide_eq_true c59;have x0w:decide ((IntKind.i64.wrap (9+p0))≤(l0.length:Int))=true:=by simp only [i64_w];exact x0v
       obtain ⟨c60,H⟩:=iN H;have E0:=ak c60;clear c60;obtain ⟨k1,hyq⟩:∃ y_:List Int,y_=(k0 ++ ((l0.take ((wrap64 (9+p0)):Int).toNat).drop 9)):=⟨_,rfl⟩;replace H:(some (wrap64 (rd l0 2),p3,k1,wrap64 (13+p0),0))=some (r1,r2,r3,r4,r5):=xq7
       have K1:=ak hyq;clear hyq;simp only [Option.some.injEq,Prod.mk.injEq] at H;obtain ⟨rfl,rfl,rfl,rfl,rfl⟩:=H;try go_wp2
       replace U1:=ak (Kd.R_drew U1.out);replace B6:=ak (blk_drew B6.out);replace HB:=ak (below_drew1 HB.out);have Vb:0≤(2:Int):=(by omega);have ad:2 < (l0.length:Int):=odA;obtain ⟨A9,o8,O8⟩:=Kd.at_int b1.out 2 Vb ad;have h0:=O8;(try rw [show ((2:Int)).toNat=2 from rfl] at h0)
       (try rw [show 2 * 1=2 from rfl] at h0)
       (try simp only [Nat.reduceMul,Nat.reduceEqDiff,Go.Addr.add,↓reduceIte] at h0)
       cases o8
       (try simp only [show (2:Int).toNat=2 from rfl,Nat.reduceMul,Nat.reduceEqDiff,Go.Addr.add,↓reduceIte] at O8)
       have gj:(2 < l0.length)=True:=eq_true (by omega);(try rw [show ((2:Int)).toNat=2 from rfl] at O8)
       try replace O8:=cB HB O8
       replace Vb:=eq_true Vb;replace ad:=eq_true ad;obtain ⟨P4,q4,_,Q4,_⟩:=info_parts info5;obtain ⟨gl,r9,R4,sh⟩:=print_mid_of (P:=Try.prog) (Value.int .u8) 0 22 5 .i64 .i64 Try.underlying22 q4 Q4 (some A9) c0 l0 3 7 (by omega) xq38 (odA) B0.out;try simp only [v0] at r9
       have b4:=ak (Kd.C_of_reads (h1:=fun _=>rfl) (R4 _ (Kd.reads_of_C b1.out)));have Bd:=ak sh;clear R4 sh q4 Q4;obtain ⟨P5,q5,_,Q5,_⟩:=info_parts info5;obtain ⟨gm,ra,R5,si⟩:=print_mid_of (P:=Try.prog) (Value.int .u8) 0 22 5 .i64 .i64 Try.underlying22 q5 Q5 (some A9) c0 l0 9 (wrap64 (9+p0)) (by omega) xq38 (odA) B0.out;try simp only [v0] at ra
       have b5:=ak (Kd.C_of_reads (h1:=fun _=>rfl) (R5 _ (Kd.reads_of_C b1.out)));have Be:=ak si;clear R5 si q5 Q5;refine start_ (n:=16) (S:=fun w'=>w'.cell? ⟨A9.block,A9.off+2,none⟩=some (.int .u8 (rd l0 2))) (ds:=[]) _ (by kernel_rfl) rfl rfl ((cB HB h0 :)) (fun hHeld=>?_);refine with_tabW impl_decodeFrame.tab23 impl_decodeFrame.bits23 (fun HT_ HW_=>?_)
       generalize wr.drew=S1 at U1 B6 HB b4 b5 O8 hHeld ⊢
       refine pR 0 100 (ba 16 1) ?_;refine pR 1 101 (ba 16 3) ?_;refine pR 4 104 (ba 16 19) ?_;refine pR 5 105 (ba 16 51) ?_;refine pR 8 108 (ba 16 307) ?_;refine pR 9 109 (ba 16 819) ?_;refine pR 10 110 (ba 16 1843) ?_;refine pR 11 111 (ba 16 3891) ?_
       refine take_ (i:=2) (N:=some 102) (v:=?_) (a':=?_) (ba 16 3895) rfl rfl (take_ofW HT_.out HW_.out (by kernel_rfl)) (fun _ _ _ h=>h) (Or.inl ⟨by rfl,?_⟩) hHeld ?_ ?_
       rotate_left
       · intro w' s0;go_simp
         with_reducible rfl
       rotate_left
       · simp only [Act.put,sa,sb,sc,i64_w,i32_w]
         rfl
       refine pR 3 103 (ba 16 3903) ?_
       refine join_ (σ:=Value × Value × Nat) 1 (ba 16 32767) (fun s_=>[(106,.int .i64 p3),(107,s_.1),(112,s_.2.1),(9,.pointer (some ⟨s_.2.2,0,none⟩)),(113,.agg #[.int .i64 (wrap64 (rd l0 2)),.int .i64 p3,s_.2.1])]) (fun s_ w'=>(w'.cell? ⟨A9.block,A9.off+2,none⟩=some (.int .u8 (rd l0 2)))∧(Kd.R (Kd.int .u8) 5 w' w.heap.size (fun k_=>some k_≠(.slice d0 p2.length D0:Value).ownBlock) s_.2.1 k1)∧(Kd.R (Kd.int .u8) 5 w' w.heap.size (fun k_=>some k_≠(s_.2.1:Value).ownBlock) (.slice d0 p2.length D0) p2)∧(w'.heap[l2]?=some (.cells #[.int .i64 wa,.int .i64 wb,.slice none 0 0] 52 (0,0)))∧(w'.heap[s_.2.2]?=some (.cells #[.int .i64 0,.int .i64 0,.slice none 0 0] 52 (0,0)))∧(w.heap.size≤s_.2.2)∧(w.heap.size≤s_.2.2)∧(l2≠s_.2.2)∧(s_.2.2≠l2)∧(Below w.heap.size w w')) ?_ ?_
       rotate_left
       · intro ae;refine join_ (σ:=Value × Value) 2 (ba 16 16383) (fun s_=>[(106,.int .i64 p3),(107,s_.1),(112,s_.2),(113,.agg #[.int .i64 (wrap64 (rd l0 2)),.int .i64 p3,s_.2])]) (fun s_ w'=>(w'.cell? ⟨A9.block,A9.off+2,none⟩=some (.int .u8 (rd l0 2)))∧(Kd.R (Kd.int .u8) 5 w' w.heap.size (fun k_=>some k_≠(.slice d0 p2.length D0:Value).ownBlock) s_.2 k1)∧(Kd.R (Kd.int .u8) 5 w' w.heap.size (fun k_=>some k_≠(s_.2:Value).ownBlock) (.slice d0 p2.length D0) p2)∧(w'.heap[l2]?=some (.cells #[.int .i64 wa,.int .i64 wb,.slice none 0 0] 52 (0,0)))∧(Below w.heap.size w w')) ?_ ?_
         rotate_left
         · intro af;refine join_ (σ:=Value × Nat) 3 (ba 16 20479) (fun s_=>[(106,.int .i64 p3),(107,s_.1),(9,.pointer (some ⟨s_.2,0,none⟩))]) (fun s_ w'=>(w'.cell? ⟨A9.block,A9.off+2,none⟩=some (.int .u8 (rd l0 2)))∧(Kd.R (Kd.int .u8) 5 w' w.heap.size (fun k_=>some k_≠(.slice d0 p2.length D0:Value).ownBlock) s_.1 k0)∧(Kd.R (Kd.int .u8) 5 w' w.heap.size (fun k_=>some k_≠(s_.1:Value).ownBlock) (.slice d0 p2.length D0) p2)∧(w'.heap[l2]?=some (.cells #[.int .i64 wa,.int .i64 wb,.slice none 0 0] 52 (0,0)))∧(w'.heap[s_.2]?=some (.cells #[.int .i64 0,.int .i64 0,.slice none 0 0] 52 (0,0)))∧(w.heap.size≤s_.2)∧(w.heap.size≤s_.2)∧(l2≠s_.2)∧(s_.2≠l2)∧(Below w.heap.size w w')) ?_ ?_
           rotate_left
           · intro ag;refine join_ (σ:=Value) 4 (ba 16 4095) (fun s_=>[(106,.int .i64 p3),(107,s_)]) (fun s_ w'=>(w'.cell? ⟨A9.block,A9.off+2,none⟩=some (.int .u8 (rd l0 2)))∧(Kd.R (Kd.int .u8) 5 w' w.heap.size (fun k_=>some k_≠(.slice d0 p2.length D0:Value).ownBlock) s_ k0)∧(Kd.R (Kd.int .u8) 5 w' w.heap.size (fun k_=>some k_≠(s_:Value).ownBlock) (.slice d0 p2.length D0) p2)∧(w'.heap[l2]?=some (.cells #[.int .i64 wa,.int .i64 wb,.slice none 0 0] 52 (0,0)))∧(Below w.heap.size w w')) ?_ ?_
             rotate_left
             · intro ah;refine join_ (σ:=Nat) 4 (ba 16 20351) (fun s_=>[(106,.int .i64 p3),(9,.pointer (some ⟨s_,0,none⟩))]) (fun s_ w'=>(w'.cell? ⟨A9.block,A9.off+2,none⟩=some (.int .u8 (rd l0 2)))∧(Kd.R (Kd.int .u8) 5 w' w.heap.size (fun _=>True) (.slice d0 p2.length D0) p2)∧(w'.heap[l2]?=some (.cells #[.int .i64 wa,.int .i64 wb,.slice none 0 0] 52 (0,0)))∧(w'.heap[s_]?=some (.cells #[.int .i64 0,.int .i64 0,.slice none 0 0] 52 (0,0)))∧(w.heap.size≤s_)∧(w.heap.size≤s_)∧(l2≠s_)∧(s_≠l2)∧(Below w.heap.size w w')) ?_ ?_
               rotate_left
               · intro ai;refine join_ (σ:=Value × Nat) 4 (ba 16 20415) (fun s_=>[(107,s_.1),(9,.pointer (some ⟨s_.2,0,none⟩))]) (fun s_ w'=>(w'.cell? ⟨A9.block,A9.off+2,none⟩=some (.int .u8 (rd l0 2)))∧(Kd.R (Kd.int .u8) 5 w' w.heap.size (fun k_=>some k_≠(.slice d0 p2.length D0:Value).ownBlock) s_.1 k0)∧(Kd.R (Kd.int .u8) 5 w' w.heap.size (fun k_=>some k_≠(s_.1:Value).ownBlock) (.slice d0 p2.length D0) p2)∧(w'.heap[l2]?=some (.cells #[.int .i64 wa,.int .i64 wb,.slice none 0 0] 52 (0,0)))∧(w'.heap[s_.2]?=some (.cells #[.int .i64 0,.int .i64 0,.slice none 0 0] 52 (0,0)))∧(w.heap.size≤s_.2)∧(w.heap.size≤s_.2)∧(l2≠s_.2)∧(s_.2≠l2)∧(Below w.heap.size w w')) ?_ ?_
                 rotate_left
                 · intro aj;refine join_ (σ:=Unit) 5 (ba 16 3967) (fun s_=>[(106,.int .i64 p3)]) (fun s_ w'=>(w'.cell? ⟨A9.block,A9.off+2,none⟩=some (.int .u8 (rd l0 2)))∧(Kd.R (Kd.int .u8) 5 w' w.heap.size (fun _=>True) (.slice d0 p2.length D0) p2)∧(w'.heap[l2]?=some (.cells #[.int .i64 wa,.int .i64 wb,.slice none 0 0] 52 (0,0)))∧(Below w.heap.size w w')) ?_ ?_
                   rotate_left
                   · intro al;refine join_ (σ:=Value) 5 (ba 16 4031) (fun s_=>[(107,s_)]) (fun s_ w'=>(w'.cell? ⟨A9.block,A9.off+2,none⟩=some (.int .u8 (rd l0 2)))∧(Kd.R (Kd.int .u8) 5 w' w.heap.size (fun k_=>some k_≠(.slice d0 p2.length D0:Value).ownBlock) s_ k0)∧(Kd.R (Kd.int .u8) 5 w' w.heap.size (fun k_=>some k_≠(s_:Value).ownBlock) (.slice d0 p2.length D0) p2)∧(w'.heap[l2]?=some (.cells #[.int .i64 wa,.int .i64 wb,.slice none 0 0] 52 (0,0)))∧(Below w.heap.size w w')) ?_ ?_
                     rotate_left
                     · intro am;refine join_ (σ:=Nat) 5 (ba 16 20287) (fun s_=>[(9,.pointer (some ⟨s_,0,none⟩))]) (fun s_ w'=>(w'.cell? ⟨A9.block,A9.off+2,none⟩=some (.int .u8 (rd l0 2)))∧(Kd.R (Kd.int .u8) 5 w' w.heap.size (fun _=>True) (.slice d0 p2.length D0) p2)∧(w'.heap[l2]?=some (.cells #[.int .i64 wa,.int .i64 wb,.slice none 0 0] 52 (0,0)))∧(w'.heap[s_]?=some (.cells #[.int .i64 0,.int .i64 0,.slice none 0 0] 52 (0,0)))∧(w.heap.size≤s_)∧(w.heap.size≤s_)∧(l2≠s_)∧(s_≠l2)∧(Below w.heap.size w w')) ?_ ?_
                       rotate_left
                       · intro an;refine three_ (i:=6) (j:=7) (k:=14) (Ni:=some 106) (Nj:=some 107) (Nk:=some 9) (ba 16 3967) (ba 16 4031) (ba 16 20287) rfl rfl rfl rfl rfl rfl (three_of HT_.out (by kernel_rfl)) (by decide) (by decide) (by decide) (fun K hK=>?_) (fun K hK=>?_) (fun K hK=>?_)
                         · skip
                           refine goes_ Try.func126 (by kernel_rfl) rfl #[.slice gl ((l0.take 7).drop 3).length (c0 - 3)] (by rfl) rfl rfl xq65 ?_
                           with_reducible refine (impl_numberIn.calls k3 _ _ ((l0.take 7).drop 3) p3 _ ?side1 ?side2 gi.out).mono ?_
                           (case side1=>exact cA (Kd.C_below b4.out HB.out))
                           (case side2=>exact Bd.out)
                           rintro e w' ⟨rfl,⟨nd,rfl⟩⟩
                           refine ⟨_,rfl,?_⟩
                           refine hK.out _ _ ((cB HB h0 :)) (fun hHeld=>?_)
                           clear hK K;refine nR 106 ?_
                           exact norm_ xq21 (al () _ ⟨hHeld,(rF U1),blkA,belA⟩)
                         · skip
                           refine Kd.R_lit_step (Kd.int .u8) _ 5 ?hg (N:=107) ?hd (xs:=([]:List Int)) (inner:=[]) (ok:=fun _=>True) (okp:=fun _=>True) ?hr ?hp (fun _ hk=>hk) trivial (Below.refl _ _) (Nat.le_refl _) (by simp) ?_;(case hd=>rfl);(case hg=>rfl);(case hr=>exact xq10);(case hp=>exact (Reps.none _ _))
                           intro N3 w64 u6 hb hg_ hnew_;clear hg_ hnew_;(first | rw [← K0.out] at u6 | (simp only [Int.reduceToNat] at u6;rw [← K0.out] at u6))
                           have U2:=rL (Kd.R_new' u6 (Kd.R_lt (rF U1)));replace U1:=ak (Kd.R_elder' (rF U1) (Kd.R_base u6) hb);replace B6:=bB B6 hb;replace HB:=bS hb;clear hb u6;refine hK.out _ _ ((cB HB h0 :)) (fun hHeld=>?_)
                           clear hK K;refine nR 107 ?_
                           exact norm_ xq21 (am (N3) _ ⟨hHeld,(rE (Kd.R_mono U2.out (fun _ hk=>hk.2))),(rE (Kd.R_mono U1.out (fun _ hk=>hk.2))),blkA,belA⟩)
                         · skip
                           refine box_step ?hg (N:=9) ?hd (cs:=#[.int .i64 0,.int .i64 0,.slice none 0 0]) (t:=52) ?hr ?_;(case hd=>rfl);(case hg=>rfl);(case hr=>exact xq10)
                           intro l3 hg w64 hbox hb;have Bf:=ak hbox;have wd:=leA (w:=w) hg;have W2:=leA (w:=w) hg;have N4:=neL hg B6;have N5:=neG hg B6;replace U1:=ak (Kd.R_below (rF U1) hb);replace B6:=bB B6 hb;replace HB:=bS hb;clear hb hbox hg;refine hK.out _ _ ((cB HB h0 :)) (fun hHeld=>?_)
                           clear hK K;refine nR 9 ?_
                           exact norm_ xq21 (an (l3) _ ⟨hHeld,(rF U1),blkA,blkA,wd.out,W2.out,N4.out,N5.out,belA⟩)
                       · skip
                         rintro l3 S2 ⟨hS_,O9,Oa,Ob,Oc,Od,Oe,Of,Og⟩
                         have xN:Aside0 (Kd.R (Kd.int .u8) 5 S2 w.heap.size (fun _=>True) (.slice d0 p2.length D0) p2):=⟨O9⟩;have xO:Aside0 (S2.heap[l2]?=some (.cells #[.int .i64 wa,.int .i64 wb,.slice none 0 0] 52 (0,0))):=⟨Oa⟩;have n2_:Aside0 (S2.heap[l3]?=some (.cells #[.int .i64 0,.int .i64 0,.slice none 0 0] 52 (0,0))):=⟨Ob⟩;have n3_:Aside0 (w.heap.size≤l3):=⟨Oc⟩;have n4_:Aside0 (w.heap.size≤l3):=⟨Od⟩;have n5_:Aside0 (l2≠l3):=⟨Oe⟩;have n6_:Aside0 (l3≠l2):=⟨Of⟩;have n7_:Aside0 (Below w.heap.size w S2):=⟨Og⟩;clear U1;clear B6;clear HB;clear O9 Oa Ob Oc Od Oe Of Og;have U1:=xN;have B6:=xO;have Bf:=n2_;have wd:=n3_;have W2:=n4_;have N4:=n5_;have N5:=n6_;have HB:=n7_;clear xN xO n2_ n3_ n4_ n5_ n6_ n7_;have hHeld:S2.cell? ⟨A9.block,A9.off+2,none⟩=some (.int .u8 (rd l0 2)):=hS_;refine norm_ (a':=?_) ?_ ?_
                         rotate_left
                         · simp only [putAll,Act.put,sa,sb,sc]
                           rfl
                         refine two_ (i:=6) (j:=7) (Ni:=some 106) (Nj:=some 107) (ba 16 20351) (ba 16 20415) rfl rfl rfl rfl (two_of HT_.out (by kernel_rfl)) (by decide) (by decide) (fun K hK=>?_) (fun K hK=>?_)
                         · skip
                           refine goes_ Try.func126 (by kernel_rfl) rfl #[.slice gl ((l0.take 7).drop 3).length (c0 - 3)] (by rfl) rfl rfl xq65 ?_
                           with_reducible refine (impl_numberIn.calls k3 _ _ ((l0.take 7).drop 3) p3 _ ?side1 ?side2 gi.out).mono ?_
                           (case side1=>exact cA (Kd.C_below b4.out HB.out))
                           (case side2=>exact Bd.out)
                           rintro e w' ⟨rfl,⟨nd,rfl⟩⟩
                           refine ⟨_,rfl,?_⟩
                           refine hK.out _ _ ((cB HB h0 :)) (fun hHeld=>?_)
                           clear hK K;refine nR 106 ?_
                           exact norm_ xq21 (ai (l3) _ ⟨hHeld,(rF U1),blkA,blkA,wd.out,W2.out,N4.out,N5.out,belA⟩)
                         · skip
                           refine Kd.R_lit_step (Kd.int .u8) _ 5 ?hg (N:=107) ?hd (xs:=([]:List Int)) (inner:=[]) (ok:=fun _=>True) (okp:=fun _=>True) ?hr ?hp (fun _ hk=>hk) trivial (Below.refl _ _) (Nat.le_refl _) (by simp) ?_;(case hd=>rfl);(case hg=>rfl);(case hr=>exact xq10);(case hp=>exact (Reps.none _ _))
                           intro N3 S3 u7 hb hg_ hnew_;clear hg_ hnew_;(first | rw [← K0.out] at u7 | (simp only [Int.reduceToNat] at u7;rw [← K0.out] at u7))
                           have U2:=rL (Kd.R_new' u7 (Kd.R_lt (rF U1)));replace U1:=ak (Kd.R_elder' (rF U1) (Kd.R_base u7) hb);replace B6:=bB B6 hb;replace Bf:=bB Bf hb;replace HB:=bS hb;clear hb u7;refine hK.out _ _ ((cB HB h0 :)) (fun hHeld=>?_)
                           clear hK K;refine nR 107 ?_
                           exact norm_ xq21 (aj (N3,l3) _ ⟨hHeld,(rE (Kd.R_mono U2.out (fun _ hk=>hk.2))),(rE (Kd.R_mono U1.out (fun _ hk=>hk.2))),blkA,blkA,wd.out,W2.out,N4.out,N5.out,belA⟩)
                     · skip
                       rintro N3 S3 ⟨hS_,O9,Oa,Ob,Oc⟩
                       have xN:Aside0 (Kd.R (Kd.int .u8) 5 S3 w.heap.size (fun k_=>some k_≠(.slice d0 p2.length D0:Value).ownBlock) N3 k0):=⟨O9⟩;have xO:Aside0 (Kd.R (Kd.int .u8) 5 S3 w.heap.size (fun k_=>some k_≠(N3:Value).ownBlock) (.slice d0 p2.length D0) p2):=⟨Oa⟩;have n2_:Aside0 (S3.heap[l2]?=some (.cells #[.int .i64 wa,.int .i64 wb,.slice none 0 0] 52 (0,0))):=⟨Ob⟩;have n3_:Aside0 (Below w.heap.size w S3):=⟨Oc⟩;clear U1;clear B6;clear HB;clear O9 Oa Ob Oc;have U2:=xN;have U1:=xO;have B6:=n2_;have HB:=n3_;clear xN xO n2_ n3_;have hHeld:S3.cell? ⟨A9.block,A9.off+2,none⟩=some (.int .u8 (rd l0 2)):=hS_;refine norm_ (a':=?_) ?_ ?_
                       rotate_left
                       · simp only [putAll,Act.put,sa,sb,sc]
                         rfl
                       refine two_ (i:=6) (j:=14) (Ni:=some 106) (Nj:=some 9) (ba 16 4095) (ba 16 20415) rfl rfl rfl rfl (two_of HT_.out (by kernel_rfl)) (by decide) (by decide) (fun K hK=>?_) (fun K hK=>?_)
                       · skip
                         refine goes_ Try.func126 (by kernel_rfl) rfl #[.slice gl ((l0.take 7).drop 3).length (c0 - 3)] (by rfl) rfl rfl xq65 ?_
                         with_reducible refine (impl_numberIn.calls k3 _ _ ((l0.take 7).drop 3) p3 _ ?side1 ?side2 gi.out).mono ?_
                         (case side1=>exact cA (Kd.C_below b4.out HB.out))
                         (case side2=>exact Bd.out)
                         rintro e w' ⟨rfl,⟨nd,rfl⟩⟩
                         refine ⟨_,rfl,?_⟩
                         refine hK.out _ _ ((cB HB h0 :)) (fun hHeld=>?_)
                         clear hK K;refine nR 106 ?_
                         exact norm_ xq21 (ah (N3) _ ⟨hHeld,(rF U2),(rF U1),blkA,belA⟩)
                       · skip
                         refine box_step ?hg (N:=9) ?hd (cs:=#[.int .i64 0,.int .i64 0,.slice none 0 0]) (t:=52) ?hr ?_;(case hd=>rfl);(case hg=>rfl);(case hr=>exact xq10)
                         intro l3 hg S4 hbox hb;have Bf:=ak hbox;have wd:=leA (w:=w) hg;have W2:=leA (w:=w) hg;have N4:=neL hg B6;have N5:=neG hg B6;replace U1:=ak (Kd.R_below (rF U1) hb);replace U2:=ak (Kd.R_below (rF U2) hb);replace B6:=bB B6 hb;replace HB:=bS hb;clear hb hbox hg;refine hK.out _ _ ((cB HB h0 :)) (fun hHeld=>?_)
                         clear hK K;refine nR 9 ?_
                         exact norm_ xq21 (aj (N3,l3) _ ⟨hHeld,(rF U2),(rF U1),blkA,blkA,wd.out,W2.out,N4.out,N5.out,belA⟩)
                   · skip
                     rintro _ w64 ⟨hS_,O9,Oa,Ob⟩
                     have xN:Aside0 (Kd.R (Kd.int .u8) 5 w64 w.heap.size (fun _=>True) (.slice d0 p2.length D0) p2):=⟨O9⟩;have xO:Aside0 (w64.heap[l2]?=some (.cells #[.int .i64 wa,.int .i64 wb,.slice none 0 0] 52 (0,0))):=⟨Oa⟩;have n2_:Aside0 (Below w.heap.size w w64):=⟨Ob⟩;clear U1;clear B6;clear HB;clear O9 Oa Ob;have U1:=xN;have B6:=xO;have HB:=n2_;clear xN xO n2_;have hHeld:w64.cell? ⟨A9.block,A9.off+2,none⟩=some (.int .u8 (rd l0 2)):=hS_;refine norm_ (a':=?_) ?_ ?_
                     rotate_left
                     · simp only [putAll,Act.put,sa,sb,sc]
                       rfl
                     refine two_ (i:=7) (j:=14) (Ni:=some 107) (Nj:=some 9) (ba 16 4095) (ba 16 20351) rfl rfl rfl rfl (two_of HT_.out (by kernel_rfl)) (by decide) (by decide) (fun K hK=>?_) (fun K hK=>?_)
                     · skip
                       refine Kd.R_lit_step (Kd.int .u8) _ 5 ?hg (N:=107) ?hd (xs:=([]:List Int)) (inner:=[]) (ok:=fun _=>True) (okp:=fun _=>True) ?hr ?hp (fun _ hk=>hk) trivial (Below.refl _ _) (Nat.le_refl _) (by simp) ?_;(case hd=>rfl);(case hg=>rfl);(case hr=>exact xq10);(case hp=>exact (Reps.none _ _))
                       intro N3 S2 u9 hb hg_ hnew_;clear hg_ hnew_;(first | rw [← K0.out] at u9 | (simp only [Int.reduceToNat] at u9;rw [← K0.out] at u9))
                       have U2:=rL (Kd.R_new' u9 (Kd.R_lt (rF U1)));replace U1:=ak (Kd.R_elder' (rF U1) (Kd.R_base u9) hb);replace B6:=bB B6 hb;replace HB:=bS hb;clear hb u9;refine hK.out _ _ ((cB HB h0 :)) (fun hHeld=>?_)
                       clear hK K;refine nR 107 ?_
                       exact norm_ xq21 (ah (N3) _ ⟨hHeld,(rE (Kd.R_mono U2.out (fun _ hk=>hk.2))),(rE (Kd.R_mono U1.out (fun _ hk=>hk.2))),blkA,belA⟩)
                     · skip
                       refine box_step ?hg (N:=9) ?hd (cs:=#[.int .i64 0,.int .i64 0,.slice none 0 0]) (t:=52) ?hr ?_;(case hd=>rfl);(case hg=>rfl);(case hr=>exact xq10)
                       intro l3 hg S2 hbox hb;have Bf:=ak hbox;have wd:=leA (w:=w) hg;have W2:=leA (w:=w) hg;have N4:=neL hg B6;have N5:=neG hg B6;replace U1:=ak (Kd.R_below (rF U1) hb);replace B6:=bB B6 hb;replace HB:=bS hb;clear hb hbox hg;refine hK.out _ _ ((cB HB h0 :)) (fun hHeld=>?_)
                       clear hK K;refine nR 9 ?_
                       exact norm_ xq21 (ai (l3) _ ⟨hHeld,(rF U1),blkA,blkA,wd.out,W2.out,N4.out,N5.out,belA⟩)
                 · skip
                   rintro ⟨N3,l3⟩ S4 ⟨hS_,O9,Oa,Ob,Oc,Od,Oe,Of,Og,Oh⟩
                   have xN:Aside0 (Kd.R (Kd.int .u8) 5 S4 w.heap.size (fun k_=>some k_≠(.slice d0 p2.length D0:Value).ownBlock) N3 k0):=⟨O9⟩;have xO:Aside0 (Kd.R (Kd.int .u8) 5 S4 w.heap.size (fun k_=>some k_≠(N3:Value).ownBlock) (.slice d0 p2.length D0) p2):=⟨Oa⟩;have n2_:Aside0 (S4.heap[l2]?=some (.cells #[.int .i64 wa,.int .i64 wb,.slice none 0 0] 52 (0,0))):=⟨Ob⟩;have n3_:Aside0 (S4.heap[l3]?=some (.cells #[.int .i64 0,.int .i64 0,.slice none 0 0] 52 (0,0))):=⟨Oc⟩;have n4_:Aside0 (w.heap.size≤l3):=⟨Od⟩;have n5_:Aside0 (w.heap.size≤l3):=⟨Oe⟩;have n6_:Aside0 (l2≠l3):=⟨Of⟩;have n7_:Aside0 (l3≠l2):=⟨Og⟩;have n8_:Aside0 (Below w.heap.size w S4):=⟨Oh⟩;clear U1;clear B6;clear HB;clear O9 Oa Ob Oc Od Oe Of Og Oh;have U2:=xN;have U1:=xO;have B6:=n2_;have Bf:=n3_;have wd:=n4_;have W2:=n5_;have N4:=n6_;have N5:=n7_;have HB:=n8_;clear xN xO n2_ n3_ n4_ n5_ n6_ n7_ n8_;have hHeld:S4.cell? ⟨A9.block,A9.off+2,none⟩=some (.int .u8 (rd l0 2)):=hS_;refine norm_ (a':=?_) ?_ ?_
                   rotate_left
                   · simp only [putAll,Act.put,sa,sb,sc]
                     rfl
                   refine one_ (i:=6) (N:=some 106) (ba 16 20479) rfl rfl (one_of HT_.out (by kernel_rfl)) (by decide) (fun K hK=>?_)
                   refine goes_ Try.func126 (by kernel_rfl) rfl #[.slice gl ((l0.take 7).drop 3).length (c0 - 3)] (by rfl) rfl rfl xq65 ?_
                   with_reducible refine (impl_numberIn.calls k3 _ _ ((l0.take 7).drop 3) p3 _ ?side1 ?side2 gi.out).mono ?_
                   (case side1=>exact cA (Kd.C_below b4.out HB.out))
                   (case side2=>exact Bd.out)
                   rintro e w' ⟨rfl,⟨nd,rfl⟩⟩
                   refine ⟨_,rfl,?_⟩
                   refine hK.out _ _ ((cB HB h0 :)) (fun hHeld=>?_)
                   clear hK K;refine nR 106 ?_
                   exact norm_ xq21 (ag (N3,l3) _ ⟨hHeld,(rF U2),(rF U1),blkA,blkA,wd.out,W2.out,N4.out,N5.out,belA⟩)
               · skip
                 rintro l3 S2 ⟨hS_,O9,Oa,Ob,Oc,Od,Oe,Of,Og⟩
                 have xN:Aside0 (Kd.R (Kd.int .u8) 5 S2 w.heap.size (fun _=>True) (.slice d0 p2.length D0) p2):=⟨O9⟩;have xO:Aside0 (S2.heap[l2]?=some (.cells #[.int .i64 wa,.int .i64 wb,.slice none 0 0] 52 (0,0))):=⟨Oa⟩;have n2_:Aside0 (S2.heap[l3]?=some (.cells #[.int .i64 0,.int .i64 0,.slice none 0 0] 52 (0,0))):=⟨Ob⟩;have n3_:Aside0 (w.heap.size≤l3):=⟨Oc⟩;have n4_:Aside0 (w.heap.size≤l3):=⟨Od⟩;have n5_:Aside0 (l2≠l3):=⟨Oe⟩;have n6_:Aside0 (l3≠l2):=⟨Of⟩;have n7_:Aside0 (Below w.heap.size w S2):=⟨Og⟩;clear U1;clear B6;clear HB;clear O9 Oa Ob Oc Od Oe Of Og;have U1:=xN;have B6:=xO;have Bf:=n2_;have wd:=n3_;have W2:=n4_;have N4:=n5_;have N5:=n6_;have HB:=n7_;clear xN xO n2_ n3_ n4_ n5_ n6_ n7_;have hHeld:S2.cell? ⟨A9.block,A9.off+2,none⟩=some (.int .u8 (rd l0 2)):=hS_;refine norm_ (a':=?_) ?_ ?_
                 rotate_left
                 · simp only [putAll,Act.put,sa,sb,sc]
                   rfl
                 refine one_ (i:=7) (N:=some 107) (ba 16 20479) rfl rfl (one_of HT_.out (by kernel_rfl)) (by decide) (fun K hK=>?_)
                 refine Kd.R_lit_step (Kd.int .u8) _ 5 ?hg (N:=107) ?hd (xs:=([]:List Int)) (inner:=[]) (ok:=fun _=>True) (okp:=fun _=>True) ?hr ?hp (fun _ hk=>hk) trivial (Below.refl _ _) (Nat.le_refl _) (by simp) ?_;(case hd=>rfl);(case hg=>rfl);(case hr=>exact xq10);(case hp=>exact (Reps.none _ _))
                 intro N3 S3 u7 hb hg_ hnew_;clear hg_ hnew_;(first | rw [← K0.out] at u7 | (simp only [Int.reduceToNat] at u7;rw [← K0.out] at u7))
                 have U2:=rL (Kd.R_new' u7 (Kd.R_lt (rF U1)));replace U1:=ak (Kd.R_elder' (rF U1) (Kd.R_base u7) hb);replace B6:=bB B6 hb;replace Bf:=bB Bf hb;replace HB:=bS hb;clear hb u7;refine hK.out _ _ ((cB HB h0 :)) (fun hHeld=>?_)
                 clear hK K;refine nR 107 ?_
                 exact norm_ xq21 (ag (N3,l3) _ ⟨hHeld,(rE (Kd.R_mono U2.out (fun _ hk=>hk.2))),(rE (Kd.R_mono U1.out (fun _ hk=>hk.2))),blkA,blkA,wd.out,W2.out,N4.out,N5.out,belA⟩)
             · skip
               rintro N3 S3 ⟨hS_,O9,Oa,Ob,Oc⟩
               have xN:Aside0 (Kd.R (Kd.int .u8) 5 S3 w.heap.size (fun k_=>some k_≠(.slice d0 p2.length D0:Value).ownBlock) N3 k0):=⟨O9⟩;have xO:Aside0 (Kd.R (Kd.int .u8) 5 S3 w.heap.size (fun k_=>some k_≠(N3:Value).ownBlock) (.slice d0 p2.length D0) p2):=⟨Oa⟩;have n2_:Aside0 (S3.heap[l2]?=some (.cells #[.int .i64 wa,.int .i64 wb,.slice none 0 0] 52 (0,0))):=⟨Ob⟩;have n3_:Aside0 (Below w.heap.size w S3):=⟨Oc⟩;clear U1;clear B6;clear HB;clear O9 Oa Ob Oc;have U2:=xN;have U1:=xO;have B6:=n2_;have HB:=n3_;clear xN xO n2_ n3_;have hHeld:S3.cell? ⟨A9.block,A9.off+2,none⟩=some (.int .u8 (rd l0 2)):=hS_;refine norm_ (a':=?_) ?_ ?_
               rotate_left
               · simp only [putAll,Act.put,sa,sb,sc]
                 rfl
               refine two_ (i:=12) (j:=14) (Ni:=some 112) (Nj:=some 9) (ba 16 8191) (ba 16 20479) rfl rfl rfl rfl (two_of HT_.out (by kernel_rfl)) (by decide) (by decide) (fun K hK=>?_) (fun K hK=>?_)
               · skip
                 refine Kd.R_append_rows_step (Kd.int .u8) (w0:=w) w.heap.size (by rfl) (.tmp 107) (.tmp 111) 22 5 (.int .u8 0) 1 rfl Try.underlying22 info5 rfl (by decide) (by omega) N3 k0 ((l0.take ((wrap64 (9+p0)):Int).toNat).drop 9) _ _ _ (fun k_=>some k_≠(.slice d0 p2.length D0:Value).ownBlock) (fun _=>False) rfl rfl ?aO ?aR (fun _ _ h=>h) (fun _ h=>h.elim) ?aF ?aB ?aS ?aL ?_
                 (case aR=>exact xq122)
                 (case aB=>exact belA)
                 (case aF=>exact xq75)
                 (case aO=>exact (rF U2))
                 (case aS=>exact (below_size belA))
                 (case aL=>exact xq123)
                 intro N6 S4 ho hb hg hat;rw [← K1.out] at ho;have U3:=ak ho;replace U1:=ak (Kd.R_after (ok:=(fun _=>True)) xq121 hg hat);replace B6:=ak (blk_grown (g:=l2) (o:=.cells #[.int .i64 wa,.int .i64 wb,.slice none 0 0] 52 (0,0)) blkA hg (Kd.R_ne U2.out B6.out (by decide)));replace HB:=ak hb;clear U2;clear ho hb hg hat;obtain ⟨d1,D1,F0⟩:=Kd.R_slice U3.out;(first | subst F0 | (injection F0 with H0 H1 H2;have H3:=H0.symm;have H4:=H2.symm;clear H0 H1 H2;subst H3;subst H4))
                 refine hK.out _ _ ((cB HB h0 :)) (fun hHeld=>?_)
                 clear hK K;refine nR 112 ?_;refine pR 13 113 (ba 16 16383) ?_
                 exact norm_ xq21 (af (N3,.slice d1 k1.length D1) _ ⟨hHeld,(rF U3),(rE (Kd.R_mono U1.out (fun _ hk=>hk.2))),blkA,belA⟩)
               · skip
                 refine box_step ?hg (N:=9) ?hd (cs:=#[.int .i64 0,.int .i64 0,.slice none 0 0]) (t:=52) ?hr ?_;(case hd=>rfl);(case hg=>rfl);(case hr=>exact xq10)
                 intro l3 hg S4 hbox hb;have Bf:=ak hbox;have wd:=leA (w:=w) hg;have W2:=leA (w:=w) hg;have N4:=neL hg B6;have N5:=neG hg B6;replace U1:=ak (Kd.R_below (rF U1) hb);replace U2:=ak (Kd.R_below (rF U2) hb);replace B6:=bB B6 hb;replace HB:=bS hb;clear hb hbox hg;refine hK.out _ _ ((cB HB h0 :)) (fun hHeld=>?_)
                 clear hK K;refine nR 9 ?_
                 exact norm_ xq21 (ag (N3,l3) _ ⟨hHeld,(rF U2),(rF U1),blkA,blkA,wd.out,W2.out,N4.out,N5.out,belA⟩)
           · skip
             rintro ⟨N3,l3⟩ S4 ⟨hS_,O9,Oa,Ob,Oc,Od,Oe,Of,Og,Oh⟩
             have xN:Aside0 (Kd.R (Kd.int .u8) 5 S4 w.heap.size (fun k_=>some k_≠(.slice d0 p2.length D0:Value).ownBlock) N3 k0):=⟨O9⟩;have xO:Aside0 (Kd.R (Kd.int .u8) 5 S4 w.heap.size (fun k_=>some k_≠(N3:Value).ownBlock) (.slice d0 p2.length D0) p2):=⟨Oa⟩;have n2_:Aside0 (S4.heap[l2]?=some (.cells #[.int .i64 wa,.int .i64 wb,.slice none 0 0] 52 (0,0))):=⟨Ob⟩;have n3_:Aside0 (S4.heap[l3]?=some (.cells #[.int .i64 0,.int .i64 0,.slice none 0 0] 52 (0,0))):=⟨Oc⟩;have n4_:Aside0 (w.heap.size≤l3):=⟨Od⟩;have n5_:Aside0 (w.heap.size≤l3):=⟨Oe⟩;have n6_:Aside0 (l2≠l3):=⟨Of⟩;have n7_:Aside0 (l3≠l2):=⟨Og⟩;have n8_:Aside0 (Below w.heap.size w S4):=⟨Oh⟩;clear U1;clear B6;clear HB;clear O9 Oa Ob Oc Od Oe Of Og Oh;have U2:=xN;have U1:=xO;have B6:=n2_;have Bf:=n3_;have wd:=n4_;have W2:=n5_;have N4:=n6_;have N5:=n7_;have HB:=n8_;clear xN xO n2_ n3_ n4_ n5_ n6_ n7_ n8_;have hHeld:S4.cell? ⟨A9.block,A9.off+2,none⟩=some (.int .u8 (rd l0 2)):=hS_;refine norm_ (a':=?_) ?_ ?_
             rotate_left
             · simp only [putAll,Act.put,sa,sb,sc]
               rfl
             refine one_ (i:=12) (N:=some 112) (ba 16 24575) rfl rfl (one_of HT_.out (by kernel_rfl)) (by decide) (fun K hK=>?_)
             refine Kd.R_append_rows_step (Kd.int .u8) (w0:=w) w.heap.size (by rfl) (.tmp 107) (.tmp 111) 22 5 (.int .u8 0) 1 rfl Try.underlying22 info5 rfl (by decide) (by omega) N3 k0 ((l0.take ((wrap64 (9+p0)):Int).toNat).drop 9) _ _ _ (fun k_=>some k_≠(.slice d0 p2.length D0:Value).ownBlock) (fun _=>False) rfl rfl ?aO ?aR (fun _ _ h=>h) (fun _ h=>h.elim) ?aF ?aB ?aS ?aL ?_
             (case aR=>exact xq122)
             (case aB=>exact belA)
             (case aF=>exact xq75)
             (case aO=>exact (rF U2))
             (case aS=>exact (below_size belA))
             (case aL=>exact xq123)
             intro N6 S5 ho hb hg hat;rw [← K1.out] at ho;have xN:=ak (Kd.R_after (ok:=(fun _=>True)) xq121 hg hat);have xO:=ak (blk_grown (g:=l2) (o:=.cells #[.int .i64 wa,.int .i64 wb,.slice none 0 0] 52 (0,0)) blkA hg (Kd.R_ne U2.out B6.out (by decide)));have n2_:=ak (blk_grown (g:=l3) (o:=.cells #[.int .i64 0,.int .i64 0,.slice none 0 0] 52 (0,0)) blkA hg (Kd.R_ne U2.out Bf.out (by decide)));have n3_:=ak hb;have n4_:=ak ho;clear U1;clear B6;clear Bf;clear HB;clear U2;have U1:=xN;have B6:=xO;have Bf:=n2_;have HB:=n3_;have U3:=n4_;clear xN xO n2_ n3_ n4_;clear ho hb hg hat;obtain ⟨d2,D2,F1⟩:=Kd.R_slice U3.out;(first | subst F1 | (injection F1 with H0 H1 H2;have H3:=H0.symm;have H4:=H2.symm;clear H0 H1 H2;subst H3;subst H4))
             refine hK.out _ _ ((cB HB h0 :)) (fun hHeld=>?_)
             clear hK K;refine nR 112 ?_;refine pR 13 113 (ba 16 32767) ?_
             exact norm_ xq21 (ae (N3,.slice d2 k1.length D2,l3) _ ⟨hHeld,(rF U3),(rE (Kd.R_mono U1.out (fun _ hk=>hk.2))),blkA,blkA,wd.out,W2.out,N4.out,N5.out,belA⟩)
         · skip
           rintro ⟨N3,N6⟩ S5 ⟨hS_,O9,Oa,Ob,Oc⟩
           have xN:Aside0 (Kd.R (Kd.int .u8) 5 S5 w.heap.size (fun k_=>some k_≠(.slice d0 p2.length D0:Value).ownBlock) N6 k1):=⟨O9⟩;have xO:Aside0 (Kd.R (Kd.int .u8) 5 S5 w.heap.size (fun k_=>some k_≠(N6:Value).ownBlock) (.slice d0 p2.length D0) p2):=⟨Oa⟩;have n2_:Aside0 (S5.heap[l2]?=some (.cells #[.int .i64 wa,.int .i64 wb,.slice none 0 0] 52 (0,0))):=⟨Ob⟩;have n3_:Aside0 (Below w.heap.size w S5):=⟨Oc⟩;clear U1;clear B6;clear HB;clear O9 Oa Ob Oc;have U3:=xN;have U1:=xO;have B6:=n2_;have HB:=n3_;clear xN xO n2_ n3_;have hHeld:S5.cell? ⟨A9.block,A9.off+2,none⟩=some (.int .u8 (rd l0 2)):=hS_;obtain ⟨d2,D2,F1⟩:=Kd.R_slice U3.out;(first | subst F1 | (injection F1 with H0 H1 H2;have H3:=H0.symm;have H4:=H2.symm;clear H0 H1 H2;subst H3;subst H4))
           refine norm_ (a':=?_) ?_ ?_
           rotate_left
           · simp only [putAll,Act.put,sa,sb,sc]
             rfl
           refine one_ (i:=14) (N:=some 9) (ba 16 32767) rfl rfl (one_of HT_.out (by kernel_rfl)) (by decide) (fun K hK=>?_)
           refine box_step ?hg (N:=9) ?hd (cs:=#[.int .i64 0,.int .i64 0,.slice none 0 0]) (t:=52) ?hr ?_;(case hd=>rfl);(case hg=>rfl);(case hr=>exact xq10)
           intro l3 hg S6 hbox hb;have Bf:=ak hbox;have wd:=leA (w:=w) hg;have W2:=leA (w:=w) hg;have N4:=neL hg B6;have N5:=neG hg B6;replace U1:=ak (Kd.R_below (rF U1) hb);replace U3:=ak (Kd.R_below (rF U3) hb);replace B6:=bB B6 hb;replace HB:=bS hb;clear hb hbox hg;refine hK.out _ _ ((cB HB h0 :)) (fun hHeld=>?_)
           clear hK K;refine nR 9 ?_
           exact norm_ xq21 (ae (N3,.slice d2 k1.length D2,l3) _ ⟨hHeld,(rF U3),(rF U1),blkA,blkA,wd.out,W2.out,N4.out,N5.out,belA⟩)
       rintro ⟨N3,N6,l3⟩ S7 ⟨hS_,O9,Oa,Ob,Oc,Od,Oe,Of,Og,Oh⟩
       have xN:Aside0 (Kd.R (Kd.int .u8) 5 S7 w.heap.size (fun k_=>some k_≠(.slice d0 p2.length D0:Value).ownBlock) N6 k1):=⟨O9⟩;have xO:Aside0 (Kd.R (Kd.int .u8) 5 S7 w.heap.size (fun k_=>some k_≠(N6:Value).ownBlock) (.slice d0 p2.length D0) p2):=⟨Oa⟩;have n2_:Aside0 (S7.heap[l2]?=some (.cells #[.int .i64 wa,.int .i64 wb,.slice none 0 0] 52 (0,0))):=⟨Ob⟩;have n3_:Aside0 (S7.heap[l3]?=some (.cells #[.int .i64 0,.int .i64 0,.slice none 0 0] 52 (0,0))):=⟨Oc⟩;have n4_:Aside0 (w.heap.size≤l3):=⟨Od⟩;have n5_:Aside0 (w.heap.size≤l3):=⟨Oe⟩;have n6_:Aside0 (l2≠l3):=⟨Of⟩;have n7_:Aside0 (l3≠l2):=⟨Og⟩;have n8_:Aside0 (Below w.heap.size w S7):=⟨Oh⟩;clear U1;clear B6;clear HB;clear O9 Oa Ob Oc Od Oe Of Og Oh;have U3:=xN;have U1:=xO;have B6:=n2_;have Bf:=n3_;have wd:=n4_;have W2:=n5_;have N4:=n6_;have N5:=n7_;have HB:=n8_;clear xN xO n2_ n3_ n4_ n5_ n6_ n7_ n8_;have hHeld:S7.cell? ⟨A9.block,A9.off+2,none⟩=some (.int .u8 (rd l0 2)):=hS_;obtain ⟨d3,D3,F2⟩:=Kd.R_slice U3.out;(first | subst F2 | (injection F2 with H0 H1 H2;have H3:=H0.symm;have H4:=H2.symm;clear H0 H1 H2;subst H3;subst H4))
       refine norm_ (a':=?_) ?_ ?_
       rotate_left
       · simp only [putAll,Act.put,sa,sb,sc]
         rfl
       refine one_ (i:=15) (N:=none) (ba 16 65535) rfl rfl (one_of HT_.out (by kernel_rfl)) (by decide) (fun K hK=>?_)
       have y4:S7.cell? ⟨l3,0,none⟩=some (.int .i64 0):=bc Bf 0;have Y1:=blk_frozen Bf.out 0;have v4:=N4.out;have Vc:=N5.out;have y5:S7.cell? ⟨l3,1,none⟩=some (.int .i64 0):=bc Bf 1;have Y2:=blk_frozen Bf.out 1;have v5:=N4.out;have Vd:=N5.out;have y6:S7.cell? ⟨l3,2,none⟩=some (.slice none 0 0):=bc Bf 2;have Y3:=blk_frozen Bf.out 2;have v6:=N4.out;have Ve:=N5.out;refine skip_ (w1:=?_) (by rfl) rfl ?_ ?_
       rotate_left
       · go_simp
         rfl
       refine hK.out _ _ (((cell_far (p:=⟨l3,_,none⟩) xq83 _).trans (((cell_far (p:=⟨l3,_,none⟩) xq83 _).trans (((cell_far (p:=⟨l3,_,none⟩) xq83 _).trans (hHeld))))))) (fun hHeld=>?_)
       clear hK K;refine done_ (done_of HT_.out (by kernel_rfl)) ?_
       have cd:=N5.out;have C0:=N4.out;obtain ⟨_,_,_,_,_,_⟩:=cel3 Bf;obtain ⟨_,_,_,_,_,_⟩:=cel3 B6;try go_wp2
       refine bodyPost_ret (results_ctt rfl _ _ l2 52 #[.int .i64 (wrap64 (rd l0 2)),.int .i64 p3,.slice d3 k1.length D3] (0,0) _ rfl (by (with_reducible repeat (first | refine blk_drewN ?_ _ | refine blk_drew ?_ | refine blk_alloc ?_ _));refine blk_put (cs:=#[.int .i64 (wrap64 (rd l0 2)),.int .i64 p3,.slice none 0 0]) ?_ 2 _ rfl;(with_reducible repeat (first | refine blk_drewN ?_ _ | refine blk_drew ?_ | refine blk_alloc ?_ _));refine blk_put (cs:=#[.int .i64 (wrap64 (rd l0 2)),.int .i64 wb,.slice none 0 0]) ?_ 1 _ rfl;(with_reducible repeat (first | refine blk_drewN ?_ _ | refine blk_drew ?_ | refine blk_alloc ?_ _));refine blk_put (cs:=#[.int .i64 wa,.int .i64 wb,.slice none 0 0]) ?_ 0 _ rfl;(with_reducible repeat (first | refine blk_drewN ?_ _ | refine blk_drew ?_ | refine blk_alloc ?_ _));refine blk_far ?_ N4.out _;(with_reducible repeat (first | refine blk_drewN ?_ _ | refine blk_drew ?_ | refine blk_alloc ?_ _));refine blk_far ?_ N4.out _;(with_reducible repeat (first | refine blk_drewN ?_ _ | refine blk_drew ?_ | refine blk_alloc ?_ _));refine blk_far ?_ N4.out _;(with_reducible repeat (first | refine blk_drewN ?_ _ | refine blk_drew ?_ | refine blk_alloc ?_ _));exact B6.out) Try.underlying52 rfl (by kernel_rfl)) rfl ?_
       exact ⟨_,xq4,by (with_reducible repeat (first | apply Kd.R_alloc | apply Kd.R_drewN | apply Kd.R_drew));exact Kd.R_mono (Kd.R_far (p:=⟨l2,2,none⟩) (Kd.R_far (p:=⟨l2,1,none⟩) (Kd.R_far (p:=⟨l2,0,none⟩) (Kd.R_far (p:=⟨l3,2,none⟩) (Kd.R_far (p:=⟨l3,1,none⟩) (Kd.R_far (p:=⟨l3,0,none⟩) (Kd.R_types (Kd.R_types U3.out Bf.out (by decide)) B6.out (by decide)) (fun _ hk=>hk.1.2) (.int .i64 (wrap64 (rd l0 2)))) (fun _ hk=>hk.1.2) (.int .i64 p3)) (fun _ hk=>hk.1.2) (.slice d3 k1.length D3)) (fun _ hk=>hk.2) (.int .i64 (wrap64 (rd l0 2)))) (fun _ hk=>hk.2) (.int .i64 p3)) (fun _ hk=>hk.2) (.slice d3 k1.length D3)) (fun _ hk=>trivial),belA⟩

end Go.Proofs.Ytogdhclomgafdaa.PFnWireJobs
