-- Written by a program of this session (the print of the kit with contracts of this session's own added)
import Derived.Test.YtogdhclomgafdaaZFWJx1
import Derived.Test.YtogdhclomgafdaaZFWJx2
set_option maxHeartbeats 8000000
set_option maxRecDepth 100000
namespace Go.Proofs.Ytogdhclomgafdaa.PFnWireJobs
open Go.RowKit Go.Proofs.YtogdhclomgafdaaW.PrintWords Go.Proofs.YtogdhclomgafdaaW.PrintLast Go.Proofs.YtogdhclomgafdaaW.PrintMore Go.Proofs.YtogdhclomgafdaaW.PrintPack Go.Proofs.YtogdhclomgafdaaW.PrintPack
set_option linter.unusedVariables false
set_option linter.unusedSimpArgs false

def impl_bigEndian.l0:Nat → Int → List Int → Int → Option (List Int)
 | 0,_,_,_=>none
 | k+1,x0,x5,x6=>if x6 ≥ 0 then (if 0≤x6 then (if x6 < (x5.length:Int) then (impl_bigEndian.l0 k (x0 / 256) (x5.set (x6:Int).toNat ((x0) % 256)) (wrap64 (x6 - 1))) else (none)) else (none)) else (some x5)
def impl_bigEndian.f (k:Nat) (a0:Int) (a1:Int):Option (List Int):=if 0≤a1 then (if (a1:Int).toNat≤281474976710656 then (impl_bigEndian.l0 k a0 (List.replicate (a1:Int).toNat 0) (wrap64 (a1 - 1))) else (none)) else (none)
theorem impl_bigEndian.calls (k:Nat) (a0:Int) (a1:Int) (r:List Int) (w:World) (h:impl_bigEndian.f k a0 a1=some r) :
 Calls Try.prog 122 #[.int .i64 a0,.int .i64 a1] w fun e w'=>∃ v0_:Value,e=.returned (v0_)∧Kd.R (Kd.int .u8) 5 w' w.heap.size (fun _=>True) v0_ r∧Below w.heap.size w w':=by
 have HB:=ak (Below.refl w.heap.size w);have H:=h;clear h;unfold impl_bigEndian.f at H
 obtain ⟨c3,H⟩:=iN H;have x0:=eq_true c3;have x1:decide (0≤a1)=true:=decide_eq_true c3;clear c3
 obtain ⟨c4,H⟩:=iN H;have x2:=eq_true c4;have x3:decide ((a1:Int).toNat≤281474976710656)=true:=decide_eq_true c4;clear c4;obtain ⟨k0,hyq⟩:∃ y_:List Int,y_=(List.replicate (a1:Int).toNat 0):=⟨_,rfl⟩;replace H:(impl_bigEndian.l0 k a0 k0 (wrap64 (a1 - 1)))=some r:=xq7
 have K0:=ak hyq;clear hyq;have H':=ak H;clear H;go_enter Try.func122,Try.ntmps122
 go_wp2_with (first | ((with_reducible refine gate_dst (N:=8) rfl ?_);refine Kd.R_make (Kd.int .u8) _ 5 rfl (N:=8) rfl 22 _ _ rfl a1 rfl rfl Try.underlying22 (.int .u8 0) 1 info5 rfl (by decide) (by omega) 0 (ok:=fun _=>True) (okp:=fun _=>True) rfl (fun _ hk=>hk) trivial (odA) (Nat.le_trans (Nat.mul_le_mul_right _ (odA:a1.toNat≤281474976710656)) (by omega)) (Below.refl _ _) (Nat.le_refl _) ?_;intro N0 w5 u5 hb hg_ hnew_;clear hg_ hnew_;(first | rw [← K0.out] at u5 | (simp only [Int.reduceToNat] at u5;rw [← K0.out] at u5));have U0:=rL u5;replace HB:=bS hb;clear hb u5))
 go_loopg [0,6] k (fun kq v0 v6 w'=>∃ (w3:Int) (w4:List Int) (w6:Int),v0=.int .i64 w3∧v6=.int .i64 w6∧Aside0 (impl_bigEndian.l0 kq w3 w4 w6=some r)∧Aside0 (kq≤k)∧Aside0 (Kd.R (Kd.int .u8) 5 w' w.heap.size (fun _=>True) N0 w4)∧Aside0 (Below w.heap.size w w'))
 case atStart=>exact ⟨(a0),(k0),(wrap64 (a1 - 1)),eqA,eqA,H',⟨Nat.le_refl _⟩,⟨rA U0⟩,⟨belA⟩⟩
 case round =>
  clear H';obtain ⟨w3,w4,w6,rfl,rfl,HA,W0,U1,HB⟩:=hrel
  cases gk with
  | zero=>exact absurd HA.out (by simp [impl_bigEndian.l0])
  | succ k1 =>
   have H:=HA.out;clear HA;simp only [impl_bigEndian.l0] at H
   by_cases c7:w6 ≥ 0;rotate_left
   · rw [if_neg c7] at H;have x4:decide (0≤w6)=false:=decide_eq_false c7;clear c7;obtain rfl:=Option.some.inj H;go_wp2
     go_ret
     exact ⟨_,xq4,xq23,belA⟩
   rw [if_pos c7] at H;have x4:decide (0≤w6)=true:=decide_eq_true c7;clear c7
   obtain ⟨c8,H⟩:=iN H;have x5:=decide_eq_true c8;clear c8
   obtain ⟨c9,H⟩:=iN H;have x6:=decide_eq_true c9;clear c9;obtain ⟨k2,hyq⟩:∃ y_:List Int,y_=(w4.set (w6:Int).toNat ((w3) % 256)):=⟨_,rfl⟩;replace H:(impl_bigEndian.l0 k1 (w3 / 256) k2 (wrap64 (w6 - 1)))=some r:=xq7
   have K1:=ak hyq;clear hyq;have H':=ak H;clear H;have V0:0≤(w6:Int):=odA;have a5:(w6:Int) < ((w4.length:Int):Int):=odA;obtain ⟨f0,D0,F0,l2,L0,m0,M0⟩:=Kd.R_form U1.out (by omega);(first | cases F0 | (injection F0 with ea_ en_ ec_;(first | subst ea_ | (injection ea_ with ea_;subst ea_));subst ec_;clear en_))
   have i0:=ak l2;have I0:=ak M0;clear l2 L0 M0;obtain ⟨O0,j4⟩:=Kd.R_celln 0 U1.out (w6:Int) V0 a5;replace V0:=eq_true V0;replace a5:=eq_true a5;have t0:=Kd.R_putg U1.out (w6:Int) ((w3) % 256);go_wp2_with (first | ((with_reducible refine gate_store (t:=5) (p:=19) rfl ?_);refine store_event (t:=5) (p:=19) (v:=?vo_w12) (w1:=(wr.setCell ⟨f0,(w6:Int).toNat,none⟩ (.int .u8 ((w3) % 256)))) ?hg ?ho ?hn ?hr ?_;(case ho=>rfl);(case hg=>rfl);(case hn=>rfl);(case hr=>exact xq10);intro S0 hw;have hg:wr.grownBy S0 (some f0):=(by rw [hw];exact t0.2);have hp_:Kd.R (Kd.int .u8) 5 S0 w.heap.size (fun _=>True) (.slice (some ⟨f0,0,none⟩) w4.length D0) k2:=(by rw [hw,K1.out];exact t0.1);clear t0;replace U1:=ak hp_;replace HB:=ak ((by rw [hw];exact below_set (HB.out) i0.out:Below w.heap.size w S0));clear hg hw hp_))
   go_roundg k1
   case measure=>have:=W0.out;omega
   case rel=>exact ⟨(w3 / 256),(k2),(wrap64 (w6 - 1)),eqA,eqA,H',⟨xq14⟩,⟨rA U1⟩,⟨belA⟩⟩

def impl_checkSum.l0:Nat → Int → Int → List Int → Int → Int → Option (Int)
 | 0,_,_,_,_,_=>none
 | k+1,x3,x4,x7,x8,x9=>if x9 < x8 then (if 0≤x9 then (if x9 < (x7.length:Int) then (impl_checkSum.l0 k (Int.tmod (wrap64 (x3+(wrap64 (rd x7 x9)))) 65521) (Int.tmod (wrap64 (x4+(Int.tmod (wrap64 (x3+(wrap64 (rd x7 x9)))) 65521))) 65521) x7 x8 (wrap64 (x9+1))) else (none)) else (none)) else (some (wrap64 ((wrap64 (65536 * x4))+x3)))
def impl_checkSum.f (k:Nat) (l0:List Int):Option (Int):=impl_checkSum.l0 k 1 0 l0 (l0.length:Int) 0
theorem impl_checkSum.calls (k:Nat) (A0:Option Addr) (c0:Nat) (l0:List Int) (r:Int) (w:World) (hr0:Kd.C (Kd.int .u8) w A0 l0.length l0) (hc0:l0.length≤c0) (h:impl_checkSum.f k l0=some r) :
 Calls Try.prog 123 #[.slice A0 l0.length c0] w fun e w'=>e=.returned (.int .i64 r)∧Drawn0 w w':=by
 have b0:=ak hr0;have B0:=ak hc0;clear hr0 hc0;have H:(impl_checkSum.l0 k 1 0 l0 (l0.length:Int) 0)=some r:=h;clear h;have H':=ak H;clear H;go_enter Try.func123,Try.ntmps123
 go_wp2
 go_loopg [3,4,9] k (fun kq v3 v4 v9 w'=>∃ (w3:Int) (w4:Int) (w5:Int),v3=.int .i64 w3∧v4=.int .i64 w4∧v9=.int .i64 w5∧Aside0 (impl_checkSum.l0 kq w3 w4 l0 (l0.length:Int) w5=some r)∧Aside0 (kq≤k)∧Drawn0 w w')
 case atStart=>exact ⟨(1),(0),(0),eqA,eqA,eqA,H',⟨Nat.le_refl _⟩,xq5⟩
 case round =>
  clear H';obtain ⟨w3,w4,w5,rfl,rfl,rfl,HA,W0,⟨m1,rfl⟩⟩:=hrel
  cases gk with
  | zero=>exact absurd HA.out (by simp [impl_checkSum.l0])
  | succ k1 =>
   have H:=HA.out;clear HA;simp only [impl_checkSum.l0] at H
   by_cases c2:w5 < (l0.length:Int);rotate_left
   · rw [if_neg c2] at H;have x0:=decide_eq_false c2;clear c2;obtain rfl:=Option.some.inj H;go_wp2
     go_ret
     exact ⟨xq9,xq5⟩
   rw [if_pos c2] at H;have x0:=decide_eq_true c2;clear c2
   obtain ⟨c3,H⟩:=iN H;have x1:=decide_eq_true c3;clear c3
   obtain ⟨c4,H⟩:=iN H;have x2:=decide_eq_true c4;clear c4;have H':=ak H;clear H;have V0:0≤(w5:Int):=odA;have a5:w5 < (l0.length:Int):=odA;obtain ⟨A1,o0,O0⟩:=Kd.at_int b0.out w5 V0 a5
   cases o0
   replace V0:=eq_true V0;replace a5:=eq_true a5;go_wp2
   go_roundg k1
   case measure=>have:=W0.out;omega
   case rel=>exact ⟨(Int.tmod (wrap64 (w3+(wrap64 (rd l0 w5)))) 65521),(Int.tmod (wrap64 (w4+(Int.tmod (wrap64 (w3+(wrap64 (rd l0 w5)))) 65521))) 65521),(wrap64 (w5+1)),eqA,eqA,eqA,H',⟨xq14⟩,xq5⟩

def impl_numberIn.l0:Nat → Int → List Int → Int → Int → Option (Int)
 | 0,_,_,_,_=>none
 | k+1,x3,x6,x7,x8=>if x8 < x7 then (if 0≤x8 then (if x8 < (x6.length:Int) then (impl_numberIn.l0 k (Go.bits .or .i64 (wrap64 (x3 * 256)) (wrap64 (rd x6 x8))) x6 x7 (wrap64 (x8+1))) else (none)) else (none)) else (some x3)
def impl_numberIn.f (k:Nat) (l0:List Int):Option (Int):=impl_numberIn.l0 k 0 l0 (l0.length:Int) 0
theorem impl_numberIn.calls (k:Nat) (A0:Option Addr) (c0:Nat) (l0:List Int) (r:Int) (w:World) (hr0:Kd.C (Kd.int .u8) w A0 l0.length l0) (hc0:l0.length≤c0) (h:impl_numberIn.f k l0=some r) :
 Calls Try.prog 126 #[.slice A0 l0.length c0] w fun e w'=>e=.returned (.int .i64 r)∧Drawn0 w w':=by
 have b0:=ak hr0;have B0:=ak hc0;clear hr0 hc0;have H:(impl_numberIn.l0 k 0 l0 (l0.length:Int) 0)=some r:=h;clear h;have H':=ak H;clear H;go_enter Try.func126,Try.ntmps126
 go_wp2
 go_loopg [3,8] k (fun kq v3 v8 w'=>∃ (w3:Int) (w4:Int),v3=.int .i64 w3∧v8=.int .i64 w4∧Aside0 (impl_numberIn.l0 kq w3 l0 (l0.length:Int) w4=some r)∧Aside0 (kq≤k)∧Drawn0 w w')
 case atStart=>exact ⟨(0),(0),eqA,eqA,H',⟨Nat.le_refl _⟩,xq5⟩
 case round =>
  clear H';obtain ⟨w3,w4,rfl,rfl,HA,W0,⟨m1,rfl⟩⟩:=hrel
  cases gk with
  | zero=>exact absurd HA.out (by simp [impl_numberIn.l0])
  | succ k1 =>
   have H:=HA.out;clear HA;simp only [impl_numberIn.l0] at H
   by_cases c2:w4 < (l0.length:Int);rotate_left
   · rw [if_neg c2] at H;have x0:=decide_eq_false c2;clear c2;obtain rfl:=Option.some.inj H;go_wp2
     go_ret
     exact ⟨xq9,xq5⟩
   rw [if_pos c2] at H;have x0:=decide_eq_true c2;clear c2
   obtain ⟨c3,H⟩:=iN H;have x1:=decide_eq_true c3;clear c3
   obtain ⟨c4,H⟩:=iN H;have x2:=decide_eq_true c4;clear c4;have H':=ak H;clear H;have V0:0≤(w4:Int):=odA;have a5:w4 < (l0.length:Int):=odA;obtain ⟨A1,o0,O0⟩:=Kd.at_int b0.out w4 V0 a5
   cases o0
   replace V0:=eq_true V0;replace a5:=eq_true a5;go_wp2
   go_roundg k1
   case measure=>have:=W0.out;omega
   case rel=>exact ⟨(Go.bits .or .i64 (wrap64 (w3 * 256)) (wrap64 (rd l0 w4))),(wrap64 (w4+1)),eqA,eqA,H',⟨xq14⟩,xq5⟩

end Go.Proofs.Ytogdhclomgafdaa.PFnWireJobs
