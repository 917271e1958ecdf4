-- Written by a program of this session (the print of the kit with contracts of this session's own added)
import Derived.Test.YtogdhclomgafdaaZFWJx4
set_option maxHeartbeats 8000000
set_option maxRecDepth 100000
namespace Go.Proofs.Ytogdhclomgafdaa.PFnWireJobs
open Go.RowKit Go.Proofs.YtogdhclomgafdaaW.PrintWords Go.Proofs.YtogdhclomgafdaaW.PrintLast Go.Proofs.YtogdhclomgafdaaW.PrintMore Go.Proofs.YtogdhclomgafdaaW.PrintPack Go.Proofs.YtogdhclomgafdaaW.PrintPack
set_option linter.unusedVariables false
set_option linter.unusedSimpArgs false

def impl_DecodeJob.l1:Nat → List Int → List Int → Int → Int → Bool → Int → Option (List Int × Int × Bool)
 | 0,_,_,_,_,_,_=>none
 | k+1,x0,xs,m,at_,ok,kk=>if ok=true then (if kk < m then ((impl_takeNumber.f k x0 at_).bind fun bt=>(if xs.length < 17592186044416 then (impl_DecodeJob.l1 k x0 (xs ++ [bt.1]) m bt.2.1 bt.2.2 (wrap64 (kk+1))) else (none))) else (some (xs,at_,true))) else (some (xs,at_,false))
def impl_DecodeJob.one (k:Nat) (x0:List Int) (at_:Int) (ok:Bool):Option (List Int × Int × Bool):=(impl_takeNumber.f k x0 at_).bind fun bt=>(impl_DecodeJob.l1 k x0 ([]:List Int) bt.1 bt.2.1 (ok && (bt.2.2 && (decide (0≤bt.1) && decide (bt.1≤400)))) 0)
def impl_DecodeJob.g2 (k:Nat) (x0 A B:List Int) (at_ n:Int):Option (Int × Int × List Int × List Int × Int × Bool):=if at_=(x0.length:Int) then ((impl_isJob.f k (wrap64 (rd x0 0)) (wrap64 (rd x0 1)) A B n).bind fun t=>(if t=true then (some (wrap64 (rd x0 0),wrap64 (rd x0 1),A,B,n,true)) else (some (0,0,([]:List Int),([]:List Int),0,false)))) else (some (0,0,([]:List Int),([]:List Int),0,false))
def impl_DecodeJob.g1 (k:Nat) (x0 A:List Int) (at_ n:Int):Option (Int × Int × List Int × List Int × Int × Bool):=(impl_DecodeJob.one k x0 at_ true).bind fun r=>(if r.2.2=true then (impl_DecodeJob.g2 k x0 A r.1 r.2.1 n) else (some (0,0,([]:List Int),([]:List Int),0,false)))
def impl_DecodeJob.g0 (k:Nat) (x0:List Int) (at_:Int) (ok:Bool) (n:Int):Option (Int × Int × List Int × List Int × Int × Bool):=(impl_DecodeJob.one k x0 at_ ok).bind fun r=>(if r.2.2=true then (impl_DecodeJob.g1 k x0 r.1 r.2.1 n) else (some (0,0,([]:List Int),([]:List Int),0,false)))
def impl_DecodeJob.f (k:Nat) (l0:List Int):Option (Int × Int × List Int × List Int × Int × Bool):=if (l0.length:Int) < 2 then (some (0,0,([]:List Int),([]:List Int),0,false)) else (if 0 < (l0.length:Int) then (if 1 < (l0.length:Int) then ((impl_takeNumber.f k l0 2).bind fun bt=>(impl_DecodeJob.g0 k l0 bt.2.1 bt.2.2 bt.1)) else (none)) else (none))
theorem impl_DecodeJob.info:(Try.prog.info? 3).map (fun i=>(i.zero,i.size,i.bytes))=some (some (.int .i64 0),1,8):=by kernel_rfl
def impl_DecodeJob.T3:Bool × List (List Nat × List Nat):=(true,[([],[]),([0],[0]),([1],[1]),([2],[2]),([],[]),([4],[4]),([5],[5]),([6],[6]),([3,7],[3,7]),([],[]),([9,8,0,1,2,3,4,5,6,7,8,9],[8,9])])
def impl_DecodeJob.B3:List Nat:=[0,1,3,7,0,16,48,112,255,0,1023]
theorem impl_DecodeJob.tab3:rtab .any (opsOf Try.f46 3)=impl_DecodeJob.T3:=by kernel_rfl
theorem impl_DecodeJob.bits3:waitsOk impl_DecodeJob.T3.2 impl_DecodeJob.B3=true:=by kernel_rfl
theorem impl_DecodeJob.calls (k:Nat) (A0:Option Addr) (c0:Nat) (l0:List Int) (r1:Int) (r2:Int) (r3:List Int) (r4:List Int) (r5:Int) (r6:Bool) (w:World) (hr0:Kd.C (Kd.int .u8) w A0 l0.length l0) (hc0:l0.length≤c0) (h:impl_DecodeJob.f k l0=some (r1,r2,r3,r4,r5,r6)) :
 Calls Try.prog 46 #[.slice A0 l0.length c0] w fun e w'=>∃ v2_ v3_:Value,e=.returned (.tuple #[.agg #[.int .i64 r1,.int .i64 r2,v2_,v3_,.int .i64 r5],.bool r6])∧Kd.R (Kd.int .i64) 3 w' w.heap.size (fun k_=>some k_≠(v3_:Value).ownBlock) v2_ r3∧Kd.R (Kd.int .i64) 3 w' w.heap.size (fun k_=>some k_≠(v2_:Value).ownBlock) v3_ r4∧Below w.heap.size w w':=by
 have b0:=Try.underlying49;have b1:=ak hr0;have B0:=ak hc0;clear hr0 hc0;have HB:=ak (Below.refl w.heap.size w);have H:=h;clear h;unfold impl_DecodeJob.f at H
 by_cases c2:(l0.length:Int) < 2
 · rw [if_pos c2] at H;have x0:=decide_eq_true c2;have x1:decide (l0.length < 2)=true:=decide_eq_true (by omega);clear c2;simp only [Option.some.injEq,Prod.mk.injEq] at H;obtain ⟨rfl,rfl,rfl,rfl,rfl,rfl⟩:=H;go_enter Try.func46,Try.ntmps46
   go_wp2_with (first | ((with_reducible refine gate_dst (N:=2) rfl ?_);refine boxA 2 #[.int .i64 0,.int .i64 0,.slice none 0 0,.slice none 0 0,.int .i64 0] 49 ?_;intro l2 hg w3 hbox hb;have B2:=ak hbox;have w4:=leA (w:=w) hg;have W0:=leA (w:=w) hg;replace HB:=bS hb;clear hb hbox hg;obtain ⟨_,_,_,_,_,_,_,_,_,_⟩:=cel5 B2))
   refine bodyPost_ret (results_ct rfl _ _ l2 49 #[.int .i64 0,.int .i64 0,.slice none 0 0,.slice none 0 0,.int .i64 0] (0,0) _ rfl xq50 Try.underlying49 rfl (by kernel_rfl)) rfl ?_
   exact ⟨_,_,xq4,xq16,xq16,belA⟩
 rw [if_neg c2] at H;have x0:=decide_eq_false c2;have x1:decide (l0.length < 2)=false:=decide_eq_false (by omega);clear c2
 obtain ⟨c5,H⟩:=iN H;have x2:=decide_eq_true c5;have x3:decide (0 < l0.length)=true:=decide_eq_true (by omega);clear c5
 obtain ⟨c6,H⟩:=iN H;have x4:=decide_eq_true c6;have x5:decide (1 < l0.length)=true:=decide_eq_true (by omega);clear c6;obtain ⟨⟨p0,p1,p2⟩,A7,H⟩:=ob H;(try dsimp only at H);have H':=ak H;clear H;go_enter Try.func46,Try.ntmps46
 try go_wp2_with (first | ((with_reducible refine gate_dst (N:=2) rfl ?_);refine boxA 2 #[.int .i64 0,.int .i64 0,.slice none 0 0,.slice none 0 0,.int .i64 0] 49 ?_;intro l2 hg w8 hbox hb;have B2:=ak hbox;have w4:=leA (w:=w) hg;have W0:=leA (w:=w) hg;replace HB:=bS hb;clear hb hbox hg))
 replace B2:=ak (blk_drew B2.out);replace HB:=ak (below_drew1 HB.out);have V0:0≤(0:Int):=(by omega);have a5:0 < (l0.length:Int):=odA;obtain ⟨A1,o0,O0⟩:=Kd.at_int b1.out 0 V0 a5;have h0:=O0;(try rw [show ((0:Int)).toNat=0 from rfl] at h0)
 (try rw [show 0 * 1=0 from rfl] at h0)
 (try rw [Addr.add_zero'] at h0)
 cases o0
 have g3:(0 < l0.length)=True:=eq_true (by omega);(try rw [show ((0:Int)).toNat=0 from rfl] at O0)
 (try rw [Addr.add_zero'] at O0)
 try replace O0:=cB HB O0
 replace V0:=eq_true V0;replace a5:=eq_true a5;have V1:0≤(1:Int):=(by omega);have a6:1 < (l0.length:Int):=odA;obtain ⟨A2,o1,O1⟩:=Kd.at_int b1.out 1 V1 a6;have h3:=O1;(try rw [show ((1:Int)).toNat=1 from rfl] at h3)
 (try rw [show 1 * 1=1 from rfl] at h3)
 (try simp only [Nat.reduceMul,Nat.reduceEqDiff,Go.Addr.add,↓reduceIte] at h3)
 obtain rfl:A1=A2:=(by injection o1);(try simp only [show (1:Int).toNat=1 from rfl,Nat.reduceMul,Nat.reduceEqDiff,Go.Addr.add,↓reduceIte] at O1)
 have g4:(1 < l0.length)=True:=eq_true (by omega);(try rw [show ((1:Int)).toNat=1 from rfl] at O1)
 try replace O1:=cB HB O1
 replace V1:=eq_true V1;replace a6:=eq_true a6;refine start_ (n:=11) (S:=fun w'=>w'.cell? A1=some (.int .u8 (rd l0 0))∧w'.cell? ⟨A1.block,A1.off+1,none⟩=some (.int .u8 (rd l0 1))) (ds:=[]) _ (by kernel_rfl) rfl rfl ⟨(cB HB h0 :),(cB HB h3 :)⟩ (fun hHeld=>?_);refine with_tabW impl_DecodeJob.tab3 impl_DecodeJob.bits3 (fun HT_ HW_=>?_)
 generalize w8.drew=w9 at B2 HB O0 O1 hHeld ⊢
 refine pR 0 18 (ba 11 1) ?_;refine pR 1 19 (ba 11 3) ?_;refine pR 4 22 (ba 11 19) ?_;refine pR 5 23 (ba 11 51) ?_;refine tR2 2 20 (ba 11 55) ?_;refine pR 3 21 (ba 11 63) ?_;refine tR2 6 24 (ba 11 127) ?_;refine pR 7 25 (ba 11 255) ?_;refine pR 8 26 (ba 11 511) ?_
 refine one_ (i:=9) (N:=some 4) (ba 11 1023) rfl rfl (one_of HT_.out (by kernel_rfl)) (by decide) (fun K hK=>?_)
 refine box_step ?hg (N:=4) ?hd (cs:=#[.int .i64 0,.int .i64 0,.slice none 0 0,.slice none 0 0,.int .i64 0]) (t:=49) ?hr ?_;(case hd=>rfl);(case hg=>rfl);(case hr=>exact xq10)
 intro l3 hg S0 hbox hb;have B6:=ak hbox;have w5:=leA (w:=w) hg;have W1:=leA (w:=w) hg;have N0:=neL hg B2;have N1:=neG hg B2;replace B2:=bB B2 hb;replace HB:=bS hb;clear hb hbox hg;refine hK.out _ _ ⟨(cB HB h0 :),(cB HB h3 :)⟩ (fun hHeld=>?_)
 clear hK K;refine nR 4 ?_
 refine one_ (i:=10) (N:=none) (ba 11 2047) rfl rfl (one_of HT_.out (by kernel_rfl)) (by decide) (fun K hK=>?_)
 have y0:S0.cell? ⟨l3,0,none⟩=some (.int .i64 0):=bc B6 0;have Y0:=blk_frozen B6.out 0;have v0:=N0.out;have V2:=N1.out;have y1:S0.cell? ⟨l3,1,none⟩=some (.int .i64 0):=bc B6 1;have Y1:=blk_frozen B6.out 1;have v1:=N0.out;have V3:=N1.out;have y2:S0.cell? ⟨l3,2,none⟩=some (.slice none 0 0):=bc B6 2;have Y2:=blk_frozen B6.out 2;have v2:=N0.out;have V4:=N1.out;have y3:S0.cell? ⟨l3,3,none⟩=some (.slice none 0 0):=bc B6 3;have Y3:=blk_frozen B6.out 3;have v3:=N0.out;have V5:=N1.out;have y4:S0.cell? ⟨l3,4,none⟩=some (.int .i64 0):=bc B6 4;have Y4:=blk_frozen B6.out 4;have v4:=N0.out;have V6:=N1.out;refine skip_ (w1:=?_) (by rfl) rfl ?_ ?_
 rotate_left
 · go_simp
   rfl
 refine hK.out _ _ ⟨((cell_far (p:=⟨l3,_,none⟩) xq51 _).trans (((cell_far (p:=⟨l3,_,none⟩) xq51 _).trans (((cell_far (p:=⟨l3,_,none⟩) xq51 _).trans (((cell_far (p:=⟨l3,_,none⟩) xq51 _).trans (((cell_far (p:=⟨l3,_,none⟩) xq51 _).trans (hHeld.1)))))))))),((cell_far (p:=⟨l3,_,none⟩) xq52 _).trans (((cell_far (p:=⟨l3,_,none⟩) xq52 _).trans (((cell_far (p:=⟨l3,_,none⟩) xq52 _).trans (((cell_far (p:=⟨l3,_,none⟩) xq52 _).trans (((cell_far (p:=⟨l3,_,none⟩) xq52 _).trans (hHeld.2))))))))))⟩ (fun hHeld=>?_)
 clear hK K;refine done_ (done_of HT_.out (by kernel_rfl)) ?_
 obtain ⟨m0,M0⟩:∃ W_:World,W_=(((((S0.setCell ⟨l3,0,none⟩ (.int .i64 (wrap64 (rd l0 0)))).setCell ⟨l3,1,none⟩ (.int .i64 (wrap64 (rd l0 1)))).setCell ⟨l3,2,none⟩ (.slice none 0 0)).setCell ⟨l3,3,none⟩ (.slice none 0 0)).setCell ⟨l3,4,none⟩ (.int .i64 0)):=⟨_,rfl⟩;have x8:Aside0 (m0.heap[l2]?=some (.cells #[.int .i64 0,.int .i64 0,.slice none 0 0,.slice none 0 0,.int .i64 0] 49 (0,0))):=ak (by rw [M0];exact blk_far (blk_far (blk_far (blk_far (blk_far B2.out N0.out _) N0.out _) N0.out _) N0.out _) N0.out _);have x9:Aside0 (m0.heap[l3]?=some (.cells #[.int .i64 (wrap64 (rd l0 0)),.int .i64 (wrap64 (rd l0 1)),.slice none 0 0,.slice none 0 0,.int .i64 0] 49 (0,0))):=ak (by rw [M0];refine blk_put (cs:=#[.int .i64 (wrap64 (rd l0 0)),.int .i64 (wrap64 (rd l0 1)),.slice none 0 0,.slice none 0 0,.int .i64 0]) ?_ 4 _ rfl;refine blk_put (cs:=#[.int .i64 (wrap64 (rd l0 0)),.int .i64 (wrap64 (rd l0 1)),.slice none 0 0,.slice none 0 0,.int .i64 0]) ?_ 3 _ rfl;refine blk_put (cs:=#[.int .i64 (wrap64 (rd l0 0)),.int .i64 (wrap64 (rd l0 1)),.slice none 0 0,.slice none 0 0,.int .i64 0]) ?_ 2 _ rfl;refine blk_put (cs:=#[.int .i64 (wrap64 (rd l0 0)),.int .i64 0,.slice none 0 0,.slice none 0 0,.int .i64 0]) ?_ 1 _ rfl;refine blk_put (cs:=#[.int .i64 0,.int .i64 0,.slice none 0 0,.slice none 0 0,.int .i64 0]) ?_ 0 _ rfl;exact B6.out);have xa:Aside0 (Below w.heap.size w m0):=ak (by rw [M0];exact below_set (below_set (below_set (below_set (below_set HB.out W1.out) W1.out) W1.out) W1.out) W1.out);rw [← M0];clear B2 B6 HB hHeld M0;have B2:=x8;have B6:=x9;have HB:=xa;clear x8 x9 xa;have i0:=ak N0.out;have i1:=ak N1.out;go_upto_region 4 with (fail)
 (try simp only [Act.put,sa,sb,sc])
 go_cut [5,6,7] (fun v5 v6 v7 wc=>v5=.int .i64 p0∧v6=.int .i64 p1∧v7=.bool p2∧Aside0 (wc.heap[l2]?=some (.cells #[.int .i64 0,.int .i64 0,.slice none 0 0,.slice none 0 0,.int .i64 0] 49 (0,0)))∧Aside0 (wc.heap[l3]?=some (.cells #[.int .i64 (wrap64 (rd l0 0)),.int .i64 (wrap64 (rd l0 1)),.slice none 0 0,.slice none 0 0,.int .i64 0] 49 (0,0)))∧Aside0 (Below w.heap.size w wc))
 case first =>
  go_wp2_with (first | ((with_reducible refine gate_callee (f:=85) rfl ?_);refine goA (some 29) Try.func85 #[.slice (some A1) l0.length c0,.int .i64 2] rfl ?_;(with_reducible refine (impl_takeNumber.calls k _ _ l0 2 p0 p1 p2 _ ?side1 B0.out A7.out).mono ?_);(case side1=>exact xq54);rintro e w' ⟨rfl,⟨nd,rfl⟩⟩;refine ⟨_,rfl,?_⟩))
  go_meet
  case rel=>exact ⟨eqA,eqA,eqA,⟨blkA⟩,⟨blkA⟩,⟨belA⟩⟩
 case rest =>
  clear B2 B6 HB A7;obtain ⟨rfl,rfl,rfl,B2,B6,HB⟩:=hcut;go_upto_region 5 with (fail)
  (try simp only [Act.put,sa,sb,sc])
  go_cut [] (fun wc=>Aside0 (wc.heap[l2]?=some (.cells #[.int .i64 0,.int .i64 0,.slice none 0 0,.slice none 0 0,.int .i64 0] 49 (0,0)))∧Aside0 (wc.heap[l3]?=some (.cells #[.int .i64 (wrap64 (rd l0 0)),.int .i64 (wrap64 (rd l0 1)),.slice none 0 0,.slice none 0 0,.int .i64 p0] 49 (0,0)))∧Aside0 (Below w.heap.size w wc))
  case first =>
   have I0:=bc B6 0;have I1:=bc B6 1;have I2:=bc B6 2;have I3:=bc B6 3;have I4:=bc B6 4;have j4:=blk_frozen B6.out 0;have j5:=blk_frozen B6.out 1;have j6:=blk_frozen B6.out 2;have j7:=blk_frozen B6.out 3;have j8:=blk_frozen B6.out 4;have hn_:=i0.out;have hm_:=i1.out;go_wp2
   go_meet
   case rel=>exact ⟨⟨by (with_reducible repeat (first | refine blk_drewN ?_ _ | refine blk_drew ?_ | refine blk_alloc ?_ _));exact blk_far B2.out i0.out _⟩,⟨by refine blk_put (cs:=#[.int .i64 (wrap64 (rd l0 0)),.int .i64 (wrap64 (rd l0 1)),.slice none 0 0,.slice none 0 0,.int .i64 0]) ?_ 4 _ rfl;(with_reducible repeat (first | refine blk_drewN ?_ _ | refine blk_drew ?_ | refine blk_alloc ?_ _));exact B6.out⟩,⟨belA⟩⟩
  case rest =>
   clear B2 B6 HB;obtain ⟨B2,B6,HB⟩:=hcut;go_upto_region 6 with (fail)
   (try simp only [Act.put,sa,sb,sc])
   go_cut [37,38,39] (fun N2 N3 N4 wc=>∃ G:Nat,N2=.slice (some ⟨G,0,none⟩) 2 2∧N3=.int .i64 2∧N4=.int .i64 0∧Aside0 (w.heap.size≤G)∧Aside0 (G≠l2)∧Aside0 (G≠l3)∧Aside0 (wc.heap[l2]?=some (.cells #[.int .i64 0,.int .i64 0,.slice none 0 0,.slice none 0 0,.int .i64 0] 49 (0,0)))∧Aside0 (wc.heap[l3]?=some (.cells #[.int .i64 (wrap64 (rd l0 0)),.int .i64 (wrap64 (rd l0 1)),.slice none 0 0,.slice none 0 0,.int .i64 p0] 49 (0,0)))∧Aside0 (wc.heap[G]?=some (.cells #[.pointer (some ⟨l3,2,none⟩),.pointer (some ⟨l3,3,none⟩)] 111 (0,0)))∧Aside0 (Below w.heap.size w wc))
   case first =>
    have hsz:=below_size HB.out;have p3:=blk_lt B2.out;have p4:=blk_lt B6.out;have HSZ:=ak hsz;have z0:=ak p3;have z1:=ak p4;clear hsz p3 p4;go_wp2
    go_meet
    case rel=>exact ⟨_,by first | rfl | (simp;done),eqA,eqA,⟨HSZ.out⟩,⟨fun e_=>absurd z0.out (by rw [← e_];exact Nat.lt_irrefl _)⟩,⟨fun e_=>absurd z1.out (by rw [← e_];exact Nat.lt_irrefl _)⟩,⟨blk_alloc B2.out _⟩,⟨blk_alloc B6.out _⟩,⟨blk_new _ _⟩,⟨below_alloc HB.out _⟩⟩
   case rest =>
    clear B2 B6 HB;obtain ⟨G,rfl,rfl,rfl,GEG,J0,J1,B2,B6,BKG,HB⟩:=hcut;go_wp2
    go_loopg [6,7,39] 2 (fun kq v6 v7 N4 w'=>(kq=2∧N4=.int .i64 0∧∃ (x6:Int) (x7:Bool),v6=.int .i64 x6∧v7=.bool x7∧Aside0 (impl_DecodeJob.g0 k l0 x6 x7 p0=some (r1,r2,r3,r4,r5,r6))∧Aside0 (w'.heap[l2]?=some (.cells #[.int .i64 0,.int .i64 0,.slice none 0 0,.slice none 0 0,.int .i64 0] 49 (0,0)))∧Aside0 (w'.heap[l3]?=some (.cells #[.int .i64 (wrap64 (rd l0 0)),.int .i64 (wrap64 (rd l0 1)),.slice none 0 0,.slice none 0 0,.int .i64 p0] 49 (0,0)))∧Aside0 (w'.heap[G]?=some (.cells #[.pointer (some ⟨l3,2,none⟩),.pointer (some ⟨l3,3,none⟩)] 111 (0,0)))∧Aside0 (Below w.heap.size w w'))∨(kq=1∧N4=.int .i64 1∧∃ (x6:Int) (A:List Int) (vA:Value),v6=.int .i64 x6∧v7=.bool true∧Aside0 (impl_DecodeJob.g1 k l0 A x6 p0=some (r1,r2,r3,r4,r5,r6))∧Aside0 (Kd.R (Kd.int .i64) 3 w' w.heap.size (fun k_=>True) vA A)∧Aside0 (w'.heap[l2]?=some (.cells #[.int .i64 0,.int .i64 0,.slice none 0 0,.slice none 0 0,.int .i64 0] 49 (0,0)))∧Aside0 (w'.heap[l3]?=some (.cells #[.int .i64 (wrap64 (rd l0 0)),.int .i64 (wrap64 (rd l0 1)),vA,.slice none 0 0,.int .i64 p0] 49 (0,0)))∧Aside0 (w'.heap[G]?=some (.cells #[.pointer (some ⟨l3,2,none⟩),.pointer (some ⟨l3,3,none⟩)] 111 (0,0)))∧Aside0 (Below w.heap.size w w'))∨(kq=0∧N4=.int .i64 2∧∃ (x6:Int) (A B:List Int) (vA vB:Value),v6=.int .i64 x6∧v7=.bool true∧Aside0 (impl_DecodeJob.g2 k l0 A B x6 p0=some (r1,r2,r3,r4,r5,r6))∧Aside0 (Kd.R (Kd.int .i64) 3 w' w.heap.size (fun k_=>some k_≠(vB:Value).ownBlock) vA A)∧Aside0 (Kd.R (Kd.int .i64) 3 w' w.heap.size (fun k_=>some k_≠(vA:Value).ownBlock) vB B)∧Aside0 (w'.heap[l2]?=some (.cells #[.int .i64 0,.int .i64 0,.slice none 0 0,.slice none 0 0,.int .i64 0] 49 (0,0)))∧Aside0 (w'.heap[l3]?=some (.cells #[.int .i64 (wrap64 (rd l0 0)),.int .i64 (wrap64 (rd l0 1)),vA,vB,.int .i64 p0] 49 (0,0)))∧Aside0 (w'.heap[G]?=some (.cells #[.pointer (some ⟨l3,2,none⟩),.pointer (some ⟨l3,3,none⟩)] 111 (0,0)))∧Aside0 (Below w.heap.size w w')))
    case atStart=>exact .inl ⟨rfl,eqA,p1,p2,eqA,eqA,H',⟨blkA⟩,⟨blkA⟩,⟨xq19⟩,⟨belA⟩⟩
    case round =>
     clear H' B2 B6 BKG HB
     rcases hrel with hrel | hrel | hrel
     · obtain ⟨rfl,rfl,x6,x7,rfl,rfl,HA,B2,B6,BKG,HB⟩:=hrel;have H:=HA.out;clear HA
       unfold impl_DecodeJob.g0 at H
       replace H:=Option.bind_eq_some_iff.mp H;obtain ⟨⟨xs,G0,t0⟩,HL,H⟩:=H
       unfold impl_DecodeJob.one at HL
       replace HL:=Option.bind_eq_some_iff.mp HL;obtain ⟨⟨t1,t2,t3⟩,g5,HL⟩:=HL;dsimp only at HL H
       have g6:=ak g5;clear g5;have HH:=ak H;have HLL:=ak HL;clear H HL;have hG:=bc BKG 0;go_upto_region 11 with (first | ((with_reducible refine gate_callee (f:=85) rfl ?_);refine goA (some 46) Try.func85 #[.slice (some A1) l0.length c0,.int .i64 x6] rfl ?_;(with_reducible refine (impl_takeNumber.calls k _ _ l0 x6 t1 t2 t3 _ ?side1 B0.out g6.out).mono ?_);(case side1=>exact xq54);rintro e w' ⟨rfl,⟨nd,rfl⟩⟩;refine ⟨_,rfl,?_⟩))
       (try simp only [Act.put,sa,sb,sc])
       go_cut [7] (fun v7 wc=>v7=.bool (x7 && (t3 && (decide (0≤t1) && decide (t1≤400))))∧Aside0 (wc.heap[l2]?=some (.cells #[.int .i64 0,.int .i64 0,.slice none 0 0,.slice none 0 0,.int .i64 0] 49 (0,0)))∧Aside0 (wc.heap[l3]?=some (.cells #[.int .i64 (wrap64 (rd l0 0)),.int .i64 (wrap64 (rd l0 1)),.slice none 0 0,.slice none 0 0,.int .i64 p0] 49 (0,0)))∧Aside0 (wc.heap[G]?=some (.cells #[.pointer (some ⟨l3,2,none⟩),.pointer (some ⟨l3,3,none⟩)] 111 (0,0)))∧Aside0 (Below w.heap.size w wc))
       case first =>
        clear HH HLL g6 hG
        cases x7 with
        | false =>
         go_wp2
         go_meet
         case rel=>exact ⟨eqA,⟨blkA⟩,⟨blkA⟩,⟨xq19⟩,⟨belA⟩⟩
        | true =>
         cases t3 with
         | false =>
          go_wp2
          go_meet
          case rel=>exact ⟨eqA,⟨blkA⟩,⟨blkA⟩,⟨xq19⟩,⟨belA⟩⟩
         | true =>
          go_wp2
          · go_meet
            case rel=>exact ⟨xq63,⟨blkA⟩,⟨blkA⟩,⟨xq19⟩,⟨belA⟩⟩
          · go_meet
            case rel=>exact ⟨xq63,⟨blkA⟩,⟨blkA⟩,⟨xq19⟩,⟨belA⟩⟩
       case rest =>
        clear B2 B6 BKG HB hG g6;obtain ⟨rfl,B2,B6,BKG,HB⟩:=hcut;go_upto_block 2 with (fail)
        (try simp only [Act.put,sa,sb,sc])
        go_cut [6,7] (fun v6 v7 wc=>∃ u:Value,v6=.int .i64 G0∧v7=.bool t0∧Aside0 (Kd.R (Kd.int .i64) 3 wc w.heap.size (fun k_=>True) u xs)∧Aside0 (wc.heap[l2]?=some (.cells #[.int .i64 0,.int .i64 0,.slice none 0 0,.slice none 0 0,.int .i64 0] 49 (0,0)))∧Aside0 (wc.heap[l3]?=some (.cells #[.int .i64 (wrap64 (rd l0 0)),.int .i64 (wrap64 (rd l0 1)),u,.slice none 0 0,.int .i64 p0] 49 (0,0)))∧Aside0 (wc.heap[G]?=some (.cells #[.pointer (some ⟨l3,2,none⟩),.pointer (some ⟨l3,3,none⟩)] 111 (0,0)))∧Aside0 (Below w.heap.size w wc))
        case first =>
         go_wp2
         go_loopg [6,7,13] k (fun kq v6 v7 N5 w'=>∃ (g7:List Int) (u:Value) (w6:Int) (w7:Bool) (wa:Int),v6=.int .i64 w6∧v7=.bool w7∧N5=.int .i64 wa∧Aside0 (impl_DecodeJob.l1 kq l0 g7 t1 w6 w7 wa=some (xs,G0,t0))∧Aside0 (kq≤k)∧Aside0 (Kd.R (Kd.int .i64) 3 w' w.heap.size (fun k_=>True) u g7)∧Aside0 (w'.heap[l2]?=some (.cells #[.int .i64 0,.int .i64 0,.slice none 0 0,.slice none 0 0,.int .i64 0] 49 (0,0)))∧Aside0 (w'.heap[l3]?=some (.cells #[.int .i64 (wrap64 (rd l0 0)),.int .i64 (wrap64 (rd l0 1)),u,.slice none 0 0,.int .i64 p0] 49 (0,0)))∧Aside0 (w'.heap[G]?=some (.cells #[.pointer (some ⟨l3,2,none⟩),.pointer (some ⟨l3,3,none⟩)] 111 (0,0)))∧Aside0 (Below w.heap.size w w'))
         case atStart=>exact ⟨[],(.slice none 0 0),_,_,0,eqA,eqA,eqA,HLL,⟨Nat.le_refl _⟩,⟨Kd.R_nil _ _ _ _ _⟩,⟨blkA⟩,⟨blkA⟩,⟨xq19⟩,⟨belA⟩⟩
         case round =>
          clear HLL HH B2 B6 BKG HB;obtain ⟨g7,u,w6,w7,wa,rfl,rfl,rfl,HA,W2,HO,B2,B6,BKG,HB⟩:=hrel
          cases gk with
          | zero=>exact absurd HA.out (by simp [impl_DecodeJob.l1])
          | succ k3 =>
           have H:=HA.out;clear HA;simp only [impl_DecodeJob.l1] at H
           cases w7 with
           | false =>
            rw [if_neg (by decide)] at H;simp only [Option.some.injEq,Prod.mk.injEq] at H;obtain ⟨rfl,rfl,rfl⟩:=H;go_wp2
            go_meet
            case rel=>exact ⟨u,eqA,eqA,⟨rA HO⟩,⟨blkA⟩,⟨blkA⟩,⟨xq19⟩,⟨belA⟩⟩
           | true =>
            rw [if_pos rfl] at H
            by_cases xb:wa < t1;rotate_left
            · rw [if_neg xb] at H;have xc:=decide_eq_false xb;clear xb;(first | rw [xc] | (simp only [i64_w,i32_w];rw [xc]) | skip)
              simp only [Option.some.injEq,Prod.mk.injEq] at H;obtain ⟨rfl,rfl,rfl⟩:=H;go_wp2
              go_meet
              case rel=>exact ⟨u,eqA,eqA,⟨rA HO⟩,⟨blkA⟩,⟨blkA⟩,⟨xq19⟩,⟨belA⟩⟩
            rw [if_pos xb] at H;have xc:=decide_eq_true xb;clear xb;(first | rw [xc] | (simp only [i64_w,i32_w];rw [xc]) | skip)
            obtain ⟨⟨t4,t5,t6⟩,g8,H⟩:=ob H;dsimp only at H
            obtain ⟨xd,H⟩:=iN H;have E0:=ak xd;clear xd;have H':=ak H;clear H;obtain ⟨Au,cu,eu⟩:=Kd.R_slice HO.out;subst eu;have xe:=bc B6 0;have xf:=bc B6 1;have xg:=bc B6 2;have xh:=bc B6 3;have xi:=bc B6 4;have h4:=blk_frozen B6.out 0;have h5:=blk_frozen B6.out 1;have h6:=blk_frozen B6.out 2;have h7:=blk_frozen B6.out 3;have h8:=blk_frozen B6.out 4;go_wp2_with (first | ((with_reducible refine gate_callee (f:=85) rfl ?_);refine goA (some 74) Try.func85 #[.slice (some A1) l0.length c0,.int .i64 w6] rfl ?_;(with_reducible refine (impl_takeNumber.calls k3 _ _ l0 w6 t4 t5 t6 _ ?side1 B0.out g8.out).mono ?_);(case side1=>exact xq54);rintro e w' ⟨rfl,⟨nd,rfl⟩⟩;refine ⟨_,rfl,?_⟩) | ((with_reducible refine gate_builtin (b:=.append) (xs:=#[.tmp 81,.tmp 83]) rfl ?_);at_builtin;refine Kd.R_append (Kd.int .i64) (w0:=w) w.heap.size rfl (.tmp 81) (.tmp 83) 33 3 (.int .i64 0) 8 rfl Try.underlying33 impl_DecodeJob.info rfl (by decide) (by omega) (.slice Au g7.length cu) g7 t4 [.int .i64 t4] (fun k_=>True) (fun _=>False) rfl rfl ?aP (fun _ hk=>hk.elim) ?aF ?aO ?aB ?aS ?aL ?_;(case aP=>exact rfl);(case aB=>exact belA);(case aF=>exact (fun k_ hk=>trivial));(case aO=>exact (rA HO));(case aS=>exact (below_size belA));(case aL=>exact xq15);intro N6 S1 ho hb hg hat;have x9:=ak (blk_grown (g:=l2) (o:=.cells #[.int .i64 0,.int .i64 0,.slice none 0 0,.slice none 0 0,.int .i64 0] 49 (0,0)) blkA hg (Kd.R_ne HO.out B2.out (by decide)));have xa:=ak (blk_grown (g:=l3) (o:=.cells #[.int .i64 (wrap64 (rd l0 0)),.int .i64 (wrap64 (rd l0 1)),(.slice Au g7.length cu),.slice none 0 0,.int .i64 p0] 49 (0,0)) blkA hg (Kd.R_ne HO.out B6.out (by decide)));have xj:=ak (blk_grown (g:=G) (o:=.cells #[.pointer (some ⟨l3,2,none⟩),.pointer (some ⟨l3,3,none⟩)] 111 (0,0)) xq19 hg (Kd.R_ne HO.out BKG.out (by decide)));have xk:=ak hb;have xl:=ak ho;clear B2 B6 BKG HB HO;have B2:=x9;have B6:=xa;have BKG:=xj;have HB:=xk;have HO:=xl;clear x9 xa xj xk xl ho hb hg hat;obtain ⟨Av,cv,ev⟩:=Kd.R_slice HO.out;subst ev;have H0:=bc B6 0;have H1:=bc B6 1;have H2:=bc B6 2;have H3:=bc B6 3;have H4:=bc B6 4;have b2:=blk_frozen B6.out 0;have b3:=blk_frozen B6.out 1;have b4:=blk_frozen B6.out 2;have b5:=blk_frozen B6.out 3;have b6:=blk_frozen B6.out 4) | ((with_reducible refine gate_store (t:=33) (p:=85) rfl ?_);refine store_event (t:=33) (p:=85) (v:=?vo_w32) (w1:=(S1.setCell ⟨l3,2,none⟩ (.slice Av (g7 ++ [t4]).length cv))) ?hg ?ho ?hn ?hr ?_;(case ho=>rfl);(case hg=>rfl);(case hn=>rfl);(case hr=>exact xq10);intro S2 hw;have x9:Aside0 (S2.heap[l2]?=some (.cells #[.int .i64 0,.int .i64 0,.slice none 0 0,.slice none 0 0,.int .i64 0] 49 (0,0))):=ak (by rw [hw];exact blk_far B2.out i0.out _);have xa:Aside0 (S2.heap[l3]?=some (.cells #[.int .i64 (wrap64 (rd l0 0)),.int .i64 (wrap64 (rd l0 1)),(.slice Av (g7 ++ [t4]).length cv),.slice none 0 0,.int .i64 p0] 49 (0,0))):=ak (by rw [hw];exact blk_put B6.out 2 _ rfl);have xj:Aside0 (S2.heap[G]?=some (.cells #[.pointer (some ⟨l3,2,none⟩),.pointer (some ⟨l3,3,none⟩)] 111 (0,0))):=ak (by rw [hw];exact blk_far BKG.out J1.out _);have xk:Aside0 (Below w.heap.size w S2):=ak (by rw [hw];exact below_set HB.out W1.out);have xl:Aside0 (Kd.R (Kd.int .i64) 3 S2 w.heap.size (fun k_=>True) (.slice Av (g7 ++ [t4]).length cv) (g7 ++ [t4])):=ak (by rw [hw];exact Kd.R_set HO.out B6.out (by decide) 2 _);clear B2 B6 BKG HB HO hw;have B2:=x9;have B6:=xa;have BKG:=xj;have HB:=xk;have HO:=xl;clear x9 xa xj xk xl))
            go_roundg k3
            case measure=>have:=W2.out;omega
            case rel=>exact ⟨(g7 ++ [t4]),(.slice Av (g7 ++ [t4]).length cv),t5,t6,(wrap64 (wa+1)),eqA,eqA,eqA,H',⟨by have:=W2.out;omega⟩,⟨rA HO⟩,⟨blkA⟩,⟨blkA⟩,⟨xq19⟩,⟨belA⟩⟩
        case rest =>
         clear HLL B2 B6 BKG HB;obtain ⟨u,rfl,rfl,HO,B2,B6,BKG,HB⟩:=hcut;have H:=HH.out;clear HH
         cases t0 with
         | false =>
          rw [if_neg (by decide)] at H;simp only [Option.some.injEq,Prod.mk.injEq] at H;obtain ⟨rfl,rfl,rfl,rfl,rfl,rfl⟩:=H;have B8:=bc B2 0;have B9:=bc B2 1;have Ba:=bc B2 2;have Bb:=bc B2 3;have Bc:=bc B2 4;have wb:=blk_frozen B2.out 0;have wd:=blk_frozen B2.out 1;have we:=blk_frozen B2.out 2;have wf:=blk_frozen B2.out 3;have wg:=blk_frozen B2.out 4;have hn_:=i0.out;have hm_:=i1.out;go_wp2
          refine bodyPost_ret (results_ct rfl _ _ l2 49 #[.int .i64 0,.int .i64 0,.slice none 0 0,.slice none 0 0,.int .i64 0] (0,0) _ rfl xq50 Try.underlying49 rfl (by kernel_rfl)) rfl ?_
          exact ⟨_,_,xq53,Kd.R_nil _ _ _ _ _,Kd.R_nil _ _ _ _ _,belA⟩
         | true =>
          rw [if_pos rfl] at H;have H':=ak H;clear H;go_wp2
          go_roundg 1
          case measure=>omega
          case rel=>exact .inr (.inl ⟨rfl,(by first | rfl | decide | (simp [wrap64];done)),G0,xs,u,eqA,eqA,H',⟨rA HO⟩,⟨blkA⟩,⟨blkA⟩,⟨xq19⟩,⟨belA⟩⟩)
     · obtain ⟨rfl,rfl,x6,A,vA,rfl,rfl,HA,HOA,B2,B6,BKG,HB⟩:=hrel;have H:=HA.out;clear HA
       unfold impl_DecodeJob.g1 at H
       replace H:=Option.bind_eq_some_iff.mp H;obtain ⟨⟨xs,G0,t0⟩,HL,H⟩:=H
       unfold impl_DecodeJob.one at HL
       replace HL:=Option.bind_eq_some_iff.mp HL;obtain ⟨⟨t1,t2,t3⟩,g5,HL⟩:=HL;dsimp only at HL H
       have g6:=ak g5;clear g5;have HH:=ak H;have HLL:=ak HL;clear H HL;obtain ⟨Aa,ca,ea⟩:=Kd.R_slice HOA.out;subst ea;have hG:=bc BKG 1;go_upto_region 11 with (first | ((with_reducible refine gate_callee (f:=85) rfl ?_);refine goA (some 46) Try.func85 #[.slice (some A1) l0.length c0,.int .i64 x6] rfl ?_;(with_reducible refine (impl_takeNumber.calls k _ _ l0 x6 t1 t2 t3 _ ?side1 B0.out g6.out).mono ?_);(case side1=>exact xq54);rintro e w' ⟨rfl,⟨nd,rfl⟩⟩;refine ⟨_,rfl,?_⟩))
       (try simp only [Act.put,sa,sb,sc])
       go_cut [7] (fun v7 wc=>v7=.bool (true && (t3 && (decide (0≤t1) && decide (t1≤400))))∧Aside0 (Kd.R (Kd.int .i64) 3 wc w.heap.size (fun k_=>True) (.slice Aa A.length ca) A)∧Aside0 (wc.heap[l2]?=some (.cells #[.int .i64 0,.int .i64 0,.slice none 0 0,.slice none 0 0,.int .i64 0] 49 (0,0)))∧Aside0 (wc.heap[l3]?=some (.cells #[.int .i64 (wrap64 (rd l0 0)),.int .i64 (wrap64 (rd l0 1)),(.slice Aa A.length ca),.slice none 0 0,.int .i64 p0] 49 (0,0)))∧Aside0 (wc.heap[G]?=some (.cells #[.pointer (some ⟨l3,2,none⟩),.pointer (some ⟨l3,3,none⟩)] 111 (0,0)))∧Aside0 (Below w.heap.size w wc))
       case first =>
        clear HH HLL g6 hG
        cases t3 with
        | false =>
         go_wp2
         go_meet
         case rel=>exact ⟨eqA,⟨rA HOA⟩,⟨blkA⟩,⟨blkA⟩,⟨xq19⟩,⟨belA⟩⟩
        | true =>
         go_wp2
         · go_meet
           case rel=>exact ⟨xq63,⟨rA HOA⟩,⟨blkA⟩,⟨blkA⟩,⟨xq19⟩,⟨belA⟩⟩
         · go_meet
           case rel=>exact ⟨xq63,⟨rA HOA⟩,⟨blkA⟩,⟨blkA⟩,⟨xq19⟩,⟨belA⟩⟩
       case rest =>
        clear B2 B6 BKG HB hG g6 HOA;obtain ⟨rfl,HOA,B2,B6,BKG,HB⟩:=hcut;go_upto_block 2 with (fail)
        (try simp only [Act.put,sa,sb,sc])
        go_cut [6,7] (fun v6 v7 wc=>∃ u:Value,v6=.int .i64 G0∧v7=.bool t0∧Aside0 (Kd.R (Kd.int .i64) 3 wc w.heap.size (fun k_=>some k_≠((.slice Aa A.length ca):Value).ownBlock) u xs)∧Aside0 (Kd.R (Kd.int .i64) 3 wc w.heap.size (fun k_=>some k_≠(u:Value).ownBlock) (.slice Aa A.length ca) A)∧Aside0 (wc.heap[l2]?=some (.cells #[.int .i64 0,.int .i64 0,.slice none 0 0,.slice none 0 0,.int .i64 0] 49 (0,0)))∧Aside0 (wc.heap[l3]?=some (.cells #[.int .i64 (wrap64 (rd l0 0)),.int .i64 (wrap64 (rd l0 1)),(.slice Aa A.length ca),u,.int .i64 p0] 49 (0,0)))∧Aside0 (wc.heap[G]?=some (.cells #[.pointer (some ⟨l3,2,none⟩),.pointer (some ⟨l3,3,none⟩)] 111 (0,0)))∧Aside0 (Below w.heap.size w wc))
        case first =>
         go_wp2
         go_loopg [6,7,13] k (fun kq v6 v7 N5 w'=>∃ (g7:List Int) (u:Value) (w6:Int) (w7:Bool) (wa:Int),v6=.int .i64 w6∧v7=.bool w7∧N5=.int .i64 wa∧Aside0 (impl_DecodeJob.l1 kq l0 g7 t1 w6 w7 wa=some (xs,G0,t0))∧Aside0 (kq≤k)∧Aside0 (Kd.R (Kd.int .i64) 3 w' w.heap.size (fun k_=>some k_≠((.slice Aa A.length ca):Value).ownBlock) u g7)∧Aside0 (Kd.R (Kd.int .i64) 3 w' w.heap.size (fun k_=>some k_≠(u:Value).ownBlock) (.slice Aa A.length ca) A)∧Aside0 (w'.heap[l2]?=some (.cells #[.int .i64 0,.int .i64 0,.slice none 0 0,.slice none 0 0,.int .i64 0] 49 (0,0)))∧Aside0 (w'.heap[l3]?=some (.cells #[.int .i64 (wrap64 (rd l0 0)),.int .i64 (wrap64 (rd l0 1)),(.slice Aa A.length ca),u,.int .i64 p0] 49 (0,0)))∧Aside0 (w'.heap[G]?=some (.cells #[.pointer (some ⟨l3,2,none⟩),.pointer (some ⟨l3,3,none⟩)] 111 (0,0)))∧Aside0 (Below w.heap.size w w'))
         case atStart=>exact ⟨[],(.slice none 0 0),_,_,0,eqA,eqA,eqA,HLL,⟨Nat.le_refl _⟩,⟨Kd.R_nil _ _ _ _ _⟩,⟨rE (Kd.R_mono HOA.out (fun k_ _=>by simp [Value.ownBlock]))⟩,⟨blkA⟩,⟨blkA⟩,⟨xq19⟩,⟨belA⟩⟩
         case round =>
          clear HLL HH B2 B6 BKG HB HOA;obtain ⟨g7,u,w6,w7,wa,rfl,rfl,rfl,HA,W2,HO,HOA,B2,B6,BKG,HB⟩:=hrel
          cases gk with
          | zero=>exact absurd HA.out (by simp [impl_DecodeJob.l1])
          | succ k3 =>
           have H:=HA.out;clear HA;simp only [impl_DecodeJob.l1] at H
           cases w7 with
           | false =>
            rw [if_neg (by decide)] at H;simp only [Option.some.injEq,Prod.mk.injEq] at H;obtain ⟨rfl,rfl,rfl⟩:=H;go_wp2
            go_meet
            case rel=>exact ⟨u,eqA,eqA,⟨rA HO⟩,⟨rA HOA⟩,⟨blkA⟩,⟨blkA⟩,⟨xq19⟩,⟨belA⟩⟩
           | true =>
            rw [if_pos rfl] at H
            by_cases xb:wa < t1;rotate_left
            · rw [if_neg xb] at H;have xc:=decide_eq_false xb;clear xb;(first | rw [xc] | (simp only [i64_w,i32_w];rw [xc]) | skip)
              simp only [Option.some.injEq,Prod.mk.injEq] at H;obtain ⟨rfl,rfl,rfl⟩:=H;go_wp2
              go_meet
              case rel=>exact ⟨u,eqA,eqA,⟨rA HO⟩,⟨rA HOA⟩,⟨blkA⟩,⟨blkA⟩,⟨xq19⟩,⟨belA⟩⟩
            rw [if_pos xb] at H;have xc:=decide_eq_true xb;clear xb;(first | rw [xc] | (simp only [i64_w,i32_w];rw [xc]) | skip)
            obtain ⟨⟨t4,t5,t6⟩,g8,H⟩:=ob H;dsimp only at H
            obtain ⟨xd,H⟩:=iN H;have E0:=ak xd;clear xd;have H':=ak H;clear H;obtain ⟨Au,cu,eu⟩:=Kd.R_slice HO.out;subst eu;have xe:=bc B6 0;have xf:=bc B6 1;have xg:=bc B6 2;have xh:=bc B6 3;have xi:=bc B6 4;have h4:=blk_frozen B6.out 0;have h5:=blk_frozen B6.out 1;have h6:=blk_frozen B6.out 2;have h7:=blk_frozen B6.out 3;have h8:=blk_frozen B6.out 4;go_wp2_with (first | ((with_reducible refine gate_callee (f:=85) rfl ?_);refine goA (some 74) Try.func85 #[.slice (some A1) l0.length c0,.int .i64 w6] rfl ?_;(with_reducible refine (impl_takeNumber.calls k3 _ _ l0 w6 t4 t5 t6 _ ?side1 B0.out g8.out).mono ?_);(case side1=>exact xq54);rintro e w' ⟨rfl,⟨nd,rfl⟩⟩;refine ⟨_,rfl,?_⟩) | ((with_reducible refine gate_builtin (b:=.append) (xs:=#[.tmp 81,.tmp 83]) rfl ?_);at_builtin;refine Kd.R_append (Kd.int .i64) (w0:=w) w.heap.size rfl (.tmp 81) (.tmp 83) 33 3 (.int .i64 0) 8 rfl Try.underlying33 impl_DecodeJob.info rfl (by decide) (by omega) (.slice Au g7.length cu) g7 t4 [.int .i64 t4] (fun k_=>some k_≠((.slice Aa A.length ca):Value).ownBlock) (fun _=>False) rfl rfl ?aP (fun _ hk=>hk.elim) ?aF ?aO ?aB ?aS ?aL ?_;(case aP=>exact rfl);(case aB=>exact belA);(case aF=>exact (fun k_ hk=>Kd.fresh' (rT HOA) k_ hk));(case aO=>exact (rA HO));(case aS=>exact (below_size belA));(case aL=>exact xq15);intro N6 S1 ho hb hg hat;have x9:=ak (blk_grown (g:=l2) (o:=.cells #[.int .i64 0,.int .i64 0,.slice none 0 0,.slice none 0 0,.int .i64 0] 49 (0,0)) blkA hg (Kd.R_ne HO.out B2.out (by decide)));have xa:=ak (blk_grown (g:=l3) (o:=.cells #[.int .i64 (wrap64 (rd l0 0)),.int .i64 (wrap64 (rd l0 1)),(.slice Aa A.length ca),(.slice Au g7.length cu),.int .i64 p0] 49 (0,0)) blkA hg (Kd.R_ne HO.out B6.out (by decide)));have xj:=ak (blk_grown (g:=G) (o:=.cells #[.pointer (some ⟨l3,2,none⟩),.pointer (some ⟨l3,3,none⟩)] 111 (0,0)) xq19 hg (Kd.R_ne HO.out BKG.out (by decide)));have x8:=ak (Kd.R_after (ok:=(fun _=>True)) (rE (Kd.R_mono HOA.out (fun _ hk=>⟨trivial,hk⟩))) hg hat);have xk:=ak hb;have xl:=ak ho;clear B2 B6 BKG HB HO HOA;have B2:=x9;have B6:=xa;have BKG:=xj;have HB:=xk;have HO:=xl;have HOA:=x8;clear x9 xa xj xk xl x8 ho hb hg hat;obtain ⟨Av,cv,ev⟩:=Kd.R_slice HO.out;subst ev;have H0:=bc B6 0;have H1:=bc B6 1;have H2:=bc B6 2;have H3:=bc B6 3;have H4:=bc B6 4;have b2:=blk_frozen B6.out 0;have b3:=blk_frozen B6.out 1;have b4:=blk_frozen B6.out 2;have b5:=blk_frozen B6.out 3;have b6:=blk_frozen B6.out 4) | ((with_reducible refine gate_store (t:=33) (p:=85) rfl ?_);refine store_event (t:=33) (p:=85) (v:=?vo_w32) (w1:=(S1.setCell ⟨l3,3,none⟩ (.slice Av (g7 ++ [t4]).length cv))) ?hg ?ho ?hn ?hr ?_;(case ho=>rfl);(case hg=>rfl);(case hn=>rfl);(case hr=>exact xq10);intro S2 hw;have x9:Aside0 (S2.heap[l2]?=some (.cells #[.int .i64 0,.int .i64 0,.slice none 0 0,.slice none 0 0,.int .i64 0] 49 (0,0))):=ak (by rw [hw];exact blk_far B2.out i0.out _);have xa:Aside0 (S2.heap[l3]?=some (.cells #[.int .i64 (wrap64 (rd l0 0)),.int .i64 (wrap64 (rd l0 1)),(.slice Aa A.length ca),(.slice Av (g7 ++ [t4]).length cv),.int .i64 p0] 49 (0,0))):=ak (by rw [hw];exact blk_put B6.out 3 _ rfl);have xj:Aside0 (S2.heap[G]?=some (.cells #[.pointer (some ⟨l3,2,none⟩),.pointer (some ⟨l3,3,none⟩)] 111 (0,0))):=ak (by rw [hw];exact blk_far BKG.out J1.out _);have xk:Aside0 (Below w.heap.size w S2):=ak (by rw [hw];exact below_set HB.out W1.out);have xl:Aside0 (Kd.R (Kd.int .i64) 3 S2 w.heap.size (fun k_=>some k_≠((.slice Aa A.length ca):Value).ownBlock) (.slice Av (g7 ++ [t4]).length cv) (g7 ++ [t4])):=ak (by rw [hw];exact Kd.R_set HO.out B6.out (by decide) 3 _);have x8:Aside0 (Kd.R (Kd.int .i64) 3 S2 w.heap.size (fun k_=>some k_≠((.slice Av (g7 ++ [t4]).length cv):Value).ownBlock) (.slice Aa A.length ca) A):=ak (by rw [hw];exact Kd.R_mono (Kd.R_set HOA.out B6.out (by decide) 3 _) (fun _ hk=>hk.2));clear B2 B6 BKG HB HO HOA hw;have B2:=x9;have B6:=xa;have BKG:=xj;have HB:=xk;have HO:=xl;have HOA:=x8;clear x9 xa xj xk xl x8))
            go_roundg k3
            case measure=>have:=W2.out;omega
            case rel=>exact ⟨(g7 ++ [t4]),(.slice Av (g7 ++ [t4]).length cv),t5,t6,(wrap64 (wa+1)),eqA,eqA,eqA,H',⟨by have:=W2.out;omega⟩,⟨rA HO⟩,⟨rA HOA⟩,⟨blkA⟩,⟨blkA⟩,⟨xq19⟩,⟨belA⟩⟩
        case rest =>
         clear HLL B2 B6 BKG HB HOA;obtain ⟨u,rfl,rfl,HO,HOA,B2,B6,BKG,HB⟩:=hcut;have H:=HH.out;clear HH
         cases t0 with
         | false =>
          rw [if_neg (by decide)] at H;simp only [Option.some.injEq,Prod.mk.injEq] at H;obtain ⟨rfl,rfl,rfl,rfl,rfl,rfl⟩:=H;have B8:=bc B2 0;have B9:=bc B2 1;have Ba:=bc B2 2;have Bb:=bc B2 3;have Bc:=bc B2 4;have wb:=blk_frozen B2.out 0;have wd:=blk_frozen B2.out 1;have we:=blk_frozen B2.out 2;have wf:=blk_frozen B2.out 3;have wg:=blk_frozen B2.out 4;have hn_:=i0.out;have hm_:=i1.out;go_wp2
          refine bodyPost_ret (results_ct rfl _ _ l2 49 #[.int .i64 0,.int .i64 0,.slice none 0 0,.slice none 0 0,.int .i64 0] (0,0) _ rfl xq50 Try.underlying49 rfl (by kernel_rfl)) rfl ?_
          exact ⟨_,_,xq53,Kd.R_nil _ _ _ _ _,Kd.R_nil _ _ _ _ _,belA⟩
         | true =>
          rw [if_pos rfl] at H;have H':=ak H;clear H;go_wp2
          go_roundg 0
          case measure=>omega
          case rel=>exact .inr (.inr ⟨rfl,(by first | rfl | decide | (simp [wrap64];done)),G0,A,xs,(.slice Aa A.length ca),u,eqA,eqA,H',⟨rA HOA⟩,⟨rA HO⟩,⟨blkA⟩,⟨blkA⟩,⟨xq19⟩,⟨belA⟩⟩)
     · obtain ⟨rfl,rfl,x6,A,B,vA,vB,rfl,rfl,HA,HOA,HOB,B2,B6,BKG,HB⟩:=hrel;have H:=HA.out;clear HA
       unfold impl_DecodeJob.g2 at H
       obtain ⟨Aa,ca,ea⟩:=Kd.R_slice HOA.out;subst ea;obtain ⟨Ab,cb,eb⟩:=Kd.R_slice HOB.out;subst eb
       by_cases xm:x6=(l0.length:Int);rotate_left
       · rw [if_neg xm] at H;have xn:(x6 == (l0.length:Int))=false:=beq_eq_false_iff_ne.mpr xm;have xo:(x6 != (l0.length:Int))=true:=bne_iff_ne.mpr xm;clear xm;simp only [Option.some.injEq,Prod.mk.injEq] at H;obtain ⟨rfl,rfl,rfl,rfl,rfl,rfl⟩:=H;have B8:=bc B2 0;have B9:=bc B2 1;have Ba:=bc B2 2;have Bb:=bc B2 3;have Bc:=bc B2 4;have wb:=blk_frozen B2.out 0;have wd:=blk_frozen B2.out 1;have we:=blk_frozen B2.out 2;have wf:=blk_frozen B2.out 3;have wg:=blk_frozen B2.out 4;have hn_:=i0.out;have hm_:=i1.out;go_wp2
         refine bodyPost_ret (results_ct rfl _ _ l2 49 #[.int .i64 0,.int .i64 0,.slice none 0 0,.slice none 0 0,.int .i64 0] (0,0) _ rfl xq50 Try.underlying49 rfl (by kernel_rfl)) rfl ?_
         exact ⟨_,_,xq53,Kd.R_nil _ _ _ _ _,Kd.R_nil _ _ _ _ _,belA⟩
       rw [if_pos xm] at H;have xn:(x6 == (l0.length:Int))=true:=beq_iff_eq.mpr xm;have xo:(x6 != (l0.length:Int))=false:=bne_eq_false_iff_eq.mpr xm;clear xm;obtain ⟨t7,g9,H⟩:=ob H
       cases t7 with
       | false =>
        rw [if_neg (by decide)] at H;simp only [Option.some.injEq,Prod.mk.injEq] at H;obtain ⟨rfl,rfl,rfl,rfl,rfl,rfl⟩:=H;have W3:=bc B6 0;have W4:=bc B6 1;have W5:=bc B6 2;have W6:=bc B6 3;have W7:=bc B6 4;have N7:=blk_frozen B6.out 0;have N8:=blk_frozen B6.out 1;have N9:=blk_frozen B6.out 2;have Na:=blk_frozen B6.out 3;have Nb:=blk_frozen B6.out 4;have hn_:=i0.out;have hm_:=i1.out;go_wp2_with (first | (go_at_call 86;(with_reducible refine (impl_isJob.calls k (wrap64 (rd l0 0)) (wrap64 (rd l0 1)) _ _ A _ _ B p0 false _ ?side1 ?side2 ?side3 ?side4 g9.out).mono ?_);(case side1=>exact xq118);(case side2=>exact (Kd.R_reads' HOA.out).2.1);(case side3=>exact xq119);(case side4=>exact (Kd.R_reads' HOB.out).2.1);rintro e S3 ⟨rfl,hb⟩;have xp:=rB HOA hb;have x8:=rB HOB hb;have x9:=bB B2 hb;have xa:=bB B6 hb;have xj:=bS hb;clear HOA HOB B2 B6 HB hb;have HOA:=xp;have HOB:=x8;have B2:=x9;have B6:=xa;have HB:=xj;clear xp x8 x9 xa xj;have c1:=bc B2 0;have cc:=bc B2 1;have cd:=bc B2 2;have ce:=bc B2 3;have cf:=bc B2 4;have C0:=blk_frozen B2.out 0;have C1:=blk_frozen B2.out 1;have C2:=blk_frozen B2.out 2;have C3:=blk_frozen B2.out 3;have C4:=blk_frozen B2.out 4;have y5:=bc B6 0;have y6:=bc B6 1;have y7:=bc B6 2;have y8:=bc B6 3;have y9:=bc B6 4;have Y5:=blk_frozen B6.out 0;have Y6:=blk_frozen B6.out 1;have Y7:=blk_frozen B6.out 2;have Y8:=blk_frozen B6.out 3;have Y9:=blk_frozen B6.out 4))
        refine bodyPost_ret (results_ct rfl _ _ l2 49 #[.int .i64 0,.int .i64 0,.slice none 0 0,.slice none 0 0,.int .i64 0] (0,0) _ rfl xq50 Try.underlying49 rfl (by kernel_rfl)) rfl ?_
        exact ⟨_,_,xq53,Kd.R_nil _ _ _ _ _,Kd.R_nil _ _ _ _ _,belA⟩
       | true =>
        rw [if_pos rfl] at H;simp only [Option.some.injEq,Prod.mk.injEq] at H;obtain ⟨rfl,rfl,rfl,rfl,rfl,rfl⟩:=H;have W3:=bc B6 0;have W4:=bc B6 1;have W5:=bc B6 2;have W6:=bc B6 3;have W7:=bc B6 4;have N7:=blk_frozen B6.out 0;have N8:=blk_frozen B6.out 1;have N9:=blk_frozen B6.out 2;have Na:=blk_frozen B6.out 3;have Nb:=blk_frozen B6.out 4;have hn_:=i0.out;have hm_:=i1.out;go_wp2_with (first | (go_at_call 86;(with_reducible refine (impl_isJob.calls k (wrap64 (rd l0 0)) (wrap64 (rd l0 1)) _ _ A _ _ B p0 true _ ?side1 ?side2 ?side3 ?side4 g9.out).mono ?_);(case side1=>exact xq118);(case side2=>exact (Kd.R_reads' HOA.out).2.1);(case side3=>exact xq119);(case side4=>exact (Kd.R_reads' HOB.out).2.1);rintro e S3 ⟨rfl,hb⟩;have xp:=rB HOA hb;have x8:=rB HOB hb;have x9:=bB B2 hb;have xa:=bB B6 hb;have xj:=bS hb;clear HOA HOB B2 B6 HB hb;have HOA:=xp;have HOB:=x8;have B2:=x9;have B6:=xa;have HB:=xj;clear xp x8 x9 xa xj;have c1:=bc B2 0;have cc:=bc B2 1;have cd:=bc B2 2;have ce:=bc B2 3;have cf:=bc B2 4;have C0:=blk_frozen B2.out 0;have C1:=blk_frozen B2.out 1;have C2:=blk_frozen B2.out 2;have C3:=blk_frozen B2.out 3;have C4:=blk_frozen B2.out 4;have y5:=bc B6 0;have y6:=bc B6 1;have y7:=bc B6 2;have y8:=bc B6 3;have y9:=bc B6 4;have Y5:=blk_frozen B6.out 0;have Y6:=blk_frozen B6.out 1;have Y7:=blk_frozen B6.out 2;have Y8:=blk_frozen B6.out 3;have Y9:=blk_frozen B6.out 4))
        refine bodyPost_ret (results_ct rfl _ _ l2 49 #[.int .i64 (wrap64 (rd l0 0)),.int .i64 (wrap64 (rd l0 1)),.slice Aa A.length ca,.slice Ab B.length cb,.int .i64 p0] (0,0) _ rfl (by (with_reducible repeat (first | refine blk_drewN ?_ _ | refine blk_drew ?_ | refine blk_alloc ?_ _));refine blk_put (cs:=#[.int .i64 (wrap64 (rd l0 0)),.int .i64 (wrap64 (rd l0 1)),.slice Aa A.length ca,.slice Ab B.length cb,.int .i64 0]) ?_ 4 _ rfl;(with_reducible repeat (first | refine blk_drewN ?_ _ | refine blk_drew ?_ | refine blk_alloc ?_ _));refine blk_put (cs:=#[.int .i64 (wrap64 (rd l0 0)),.int .i64 (wrap64 (rd l0 1)),.slice Aa A.length ca,.slice none 0 0,.int .i64 0]) ?_ 3 _ rfl;(with_reducible repeat (first | refine blk_drewN ?_ _ | refine blk_drew ?_ | refine blk_alloc ?_ _));refine blk_put (cs:=#[.int .i64 (wrap64 (rd l0 0)),.int .i64 (wrap64 (rd l0 1)),.slice none 0 0,.slice none 0 0,.int .i64 0]) ?_ 2 _ rfl;(with_reducible repeat (first | refine blk_drewN ?_ _ | refine blk_drew ?_ | refine blk_alloc ?_ _));refine blk_put (cs:=#[.int .i64 (wrap64 (rd l0 0)),.int .i64 0,.slice none 0 0,.slice none 0 0,.int .i64 0]) ?_ 1 _ rfl;(with_reducible repeat (first | refine blk_drewN ?_ _ | refine blk_drew ?_ | refine blk_alloc ?_ _));refine blk_put (cs:=#[.int .i64 0,.int .i64 0,.slice none 0 0,.slice none 0 0,.int .i64 0]) ?_ 0 _ rfl;(with_reducible repeat (first | refine blk_drewN ?_ _ | refine blk_drew ?_ | refine blk_alloc ?_ _));exact B2.out) Try.underlying49 rfl (by kernel_rfl)) rfl ?_
        exact ⟨_,_,xq53,by (with_reducible repeat (first | apply Kd.R_alloc | apply Kd.R_drewN | apply Kd.R_drew));exact Kd.R_mono (cR5 (.int .i64 (wrap64 (rd l0 0))) (.int .i64 (wrap64 (rd l0 1))) (.slice Aa A.length ca) (.slice Ab B.length cb) (.int .i64 p0) (Kd.R_types HOA.out B2.out (by decide))) (fun _ hk=>hk.1),by (with_reducible repeat (first | apply Kd.R_alloc | apply Kd.R_drewN | apply Kd.R_drew));exact Kd.R_mono (cR5 (.int .i64 (wrap64 (rd l0 0))) (.int .i64 (wrap64 (rd l0 1))) (.slice Aa A.length ca) (.slice Ab B.length cb) (.int .i64 p0) (Kd.R_types HOB.out B2.out (by decide))) (fun _ hk=>hk.1),belA⟩

def impl_isFrame.f (a0_0:Int) (a0_1:Int) (l0_2:List Int):Option (Bool):=if a0_0 ≥ 0 then (if a0_0≤99 then (if a0_1 ≥ 0 then (if a0_1≤2147483647 then (some (decide ((l0_2.length:Int)≤5000))) else (some false)) else (some false)) else (some false)) else (some false)
theorem impl_isFrame.calls (a0_0:Int) (a0_1:Int) (A0_2:Option Addr) (c0_2:Nat) (l0_2:List Int) (r:Bool) (w:World) (hr0_2:Kd.C (Kd.int .u8) w A0_2 l0_2.length l0_2) (hc0_2:l0_2.length≤c0_2) (h:impl_isFrame.f a0_0 a0_1 l0_2=some r) :
 Calls Try.prog 75 #[.agg #[.int .i64 a0_0,.int .i64 a0_1,.slice A0_2 l0_2.length c0_2]] w fun e w'=>e=.returned (.bool r)∧Below w.heap.size w w':=by
 have b0:=Try.underlying52;have b1:=ak hr0_2;have B0:=ak hc0_2;clear hr0_2 hc0_2;have HB:=ak (Below.refl w.heap.size w);have H:=h;clear h;unfold impl_isFrame.f at H
 by_cases c2:a0_0 ≥ 0;rotate_left
 · rw [if_neg c2] at H;have x0:decide (0≤a0_0)=false:=decide_eq_false c2;clear c2;obtain rfl:=Option.some.inj H;go_enter Try.func75,Try.ntmps75
   go_wp2_with (first | ((with_reducible refine gate_dst (N:=1) rfl ?_);(try (refine gate_guard (by rfl) ?_;dsimp only));refine boxA 1 #[.int .i64 a0_0,.int .i64 a0_1,.slice A0_2 l0_2.length c0_2] 52 ?_;intro l2 hg S0 hbox hb;have B2:=ak hbox;have w3:=leA (w:=w) hg;have W0:=leA (w:=w) hg;replace HB:=bS hb;clear hb hbox hg;obtain ⟨_,_,_,_,_,_⟩:=cel3 B2))
   go_ret
   exact ⟨xq4,belA⟩
 rw [if_pos c2] at H;have x0:decide (0≤a0_0)=true:=decide_eq_true c2;clear c2
 by_cases c3:a0_0≤99;rotate_left
 · rw [if_neg c3] at H;have x1:=decide_eq_false c3;clear c3;obtain rfl:=Option.some.inj H;go_enter Try.func75,Try.ntmps75
   go_wp2_with (first | ((with_reducible refine gate_dst (N:=1) rfl ?_);(try (refine gate_guard (by rfl) ?_;dsimp only));refine boxA 1 #[.int .i64 a0_0,.int .i64 a0_1,.slice A0_2 l0_2.length c0_2] 52 ?_;intro l2 hg S1 hbox hb;have B2:=ak hbox;have w3:=leA (w:=w) hg;have W0:=leA (w:=w) hg;replace HB:=bS hb;clear hb hbox hg;obtain ⟨_,_,_,_,_,_⟩:=cel3 B2))
   go_ret
   exact ⟨xq4,belA⟩
 rw [if_pos c3] at H;have x1:=decide_eq_true c3;clear c3
 by_cases c4:a0_1 ≥ 0;rotate_left
 · rw [if_neg c4] at H;have x2:decide (0≤a0_1)=false:=decide_eq_false c4;clear c4;obtain rfl:=Option.some.inj H;go_enter Try.func75,Try.ntmps75
   go_wp2_with (first | ((with_reducible refine gate_dst (N:=1) rfl ?_);(try (refine gate_guard (by rfl) ?_;dsimp only));refine boxA 1 #[.int .i64 a0_0,.int .i64 a0_1,.slice A0_2 l0_2.length c0_2] 52 ?_;intro l2 hg S2 hbox hb;have B2:=ak hbox;have w3:=leA (w:=w) hg;have W0:=leA (w:=w) hg;replace HB:=bS hb;clear hb hbox hg;obtain ⟨_,_,_,_,_,_⟩:=cel3 B2))
   go_ret
   exact ⟨xq4,belA⟩
 rw [if_pos c4] at H;have x2:decide (0≤a0_1)=true:=decide_eq_true c4;clear c4
 by_cases c5:a0_1≤2147483647
 · rw [if_pos c5] at H;have x3:=decide_eq_true c5;clear c5;obtain rfl:=Option.some.inj H;go_enter Try.func75,Try.ntmps75
   go_wp2_with (first | ((with_reducible refine gate_dst (N:=1) rfl ?_);(try (refine gate_guard (by rfl) ?_;dsimp only));refine boxA 1 #[.int .i64 a0_0,.int .i64 a0_1,.slice A0_2 l0_2.length c0_2] 52 ?_;intro l2 hg w6 hbox hb;have B2:=ak hbox;have w3:=leA (w:=w) hg;have W0:=leA (w:=w) hg;replace HB:=bS hb;clear hb hbox hg;obtain ⟨_,_,_,_,_,_⟩:=cel3 B2))
   go_ret
   exact ⟨xq4,belA⟩
 rw [if_neg c5] at H;have x3:=decide_eq_false c5;clear c5;obtain rfl:=Option.some.inj H;go_enter Try.func75,Try.ntmps75
 go_wp2_with (first | ((with_reducible refine gate_dst (N:=1) rfl ?_);(try (refine gate_guard (by rfl) ?_;dsimp only));refine boxA 1 #[.int .i64 a0_0,.int .i64 a0_1,.slice A0_2 l0_2.length c0_2] 52 ?_;intro l2 hg w8 hbox hb;have B2:=ak hbox;have w3:=leA (w:=w) hg;have W0:=leA (w:=w) hg;replace HB:=bS hb;clear hb hbox hg;obtain ⟨_,_,_,_,_,_⟩:=cel3 B2))
 go_ret
 exact ⟨xq4,belA⟩

def impl_UnpackJobs.f (k:Nat) (a0_0:Int) (a0_1:Int) (l0_2:List Int):Option (Int × Int × List Int × List Int × Int × Bool):=(impl_isFrame.f a0_0 a0_1 l0_2).bind fun t115=>(if t115=true then ((impl_DecodeJob.f k l0_2).bind fun bt116=>(some (bt116.1,bt116.2.1,bt116.2.2.1,bt116.2.2.2.1,bt116.2.2.2.2.1,bt116.2.2.2.2.2))) else (some (0,0,([]:List Int),([]:List Int),0,false)))
theorem impl_UnpackJobs.calls (k:Nat) (a0_0:Int) (a0_1:Int) (A0_2:Option Addr) (c0_2:Nat) (l0_2:List Int) (r1:Int) (r2:Int) (r3:List Int) (r4:List Int) (r5:Int) (r6:Bool) (w:World) (hr0_2:Kd.C (Kd.int .u8) w A0_2 l0_2.length l0_2) (hc0_2:l0_2.length≤c0_2) (h:impl_UnpackJobs.f k a0_0 a0_1 l0_2=some (r1,r2,r3,r4,r5,r6)) :
 Calls Try.prog 26 #[.agg #[.int .i64 a0_0,.int .i64 a0_1,.slice A0_2 l0_2.length c0_2]] w fun e w'=>∃ v2_ v3_:Value,e=.returned (.tuple #[.agg #[.int .i64 r1,.int .i64 r2,v2_,v3_,.int .i64 r5],.bool r6])∧Kd.R (Kd.int .i64) 3 w' w.heap.size (fun k_=>some k_≠(v3_:Value).ownBlock) v2_ r3∧Kd.R (Kd.int .i64) 3 w' w.heap.size (fun k_=>some k_≠(v2_:Value).ownBlock) v3_ r4∧Below w.heap.size w w':=by
 have b0:=Try.underlying52;have b1:=Try.underlying49;have b2:=ak hr0_2;have B0:=ak hc0_2;clear hr0_2 hc0_2;have HB:=ak (Below.refl w.heap.size w);have H:=h;clear h;unfold impl_UnpackJobs.f at H;obtain ⟨p0,A2,H⟩:=ob H;(try dsimp only at H)
 by_cases c3:p0=true;rotate_left
 · replace c3:=Bool.eq_false_iff.mpr c3;subst c3;rw [if_neg (show ¬ (false=true) by decide)] at H;simp only [Option.some.injEq,Prod.mk.injEq] at H;obtain ⟨rfl,rfl,rfl,rfl,rfl,rfl⟩:=H;go_enter Try.func26,Try.ntmps26
   go_wp2_with (first | ((with_reducible refine gate_dst (N:=1) rfl ?_);refine boxA 1 #[.int .i64 a0_0,.int .i64 a0_1,.slice A0_2 l0_2.length c0_2] 52 ?_;intro l2 hg S0 hbox hb;have B2:=ak hbox;have w3:=leA (w:=w) hg;have W0:=leA (w:=w) hg;replace HB:=bS hb;clear hb hbox hg) | ((with_reducible refine gate_dst (N:=2) rfl ?_);refine boxA 2 #[.int .i64 0,.int .i64 0,.slice none 0 0,.slice none 0 0,.int .i64 0] 49 ?_;intro l3 hg S1 hbox hb;have B6:=ak hbox;have w4:=leA (w:=w) hg;have W1:=leA (w:=w) hg;have N0:=neL hg B2;have N1:=neG hg B2;replace B2:=bB B2 hb;replace HB:=bS hb;clear hb hbox hg;have c0:=N0.out;have C0:=N1.out;obtain ⟨_,_,_,_,_,_⟩:=cel3 B2) | ((with_reducible refine gate_callee (f:=75) rfl ?_);refine goB 5 Try.func75 #[.agg #[.int .i64 a0_0,.int .i64 a0_1,.slice A0_2 l0_2.length c0_2]] rfl ?_;(with_reducible refine (impl_isFrame.calls a0_0 a0_1 _ _ l0_2 false _ ?side1 B0.out A2.out).mono ?_);(case side1=>exact cA (Kd.C_below b2.out HB.out));rintro e S2 ⟨rfl,hb⟩;refine ⟨_,rfl,?_⟩;replace B2:=bB B2 hb;replace B6:=bB B6 hb;replace HB:=bS hb;(try clear hb);obtain ⟨_,_,_,_,_,_,_,_,_,_⟩:=cel5 B6))
   refine bodyPost_ret (results_ct rfl _ _ l3 49 #[.int .i64 0,.int .i64 0,.slice none 0 0,.slice none 0 0,.int .i64 0] (0,0) _ rfl (by (with_reducible repeat (first | refine blk_drewN ?_ _ | refine blk_drew ?_ | refine blk_alloc ?_ _));refine blk_put (cs:=#[.int .i64 0,.int .i64 0,.slice none 0 0,.slice none 0 0,.int .i64 0]) ?_ 4 _ rfl;(with_reducible repeat (first | refine blk_drewN ?_ _ | refine blk_drew ?_ | refine blk_alloc ?_ _));refine blk_put (cs:=#[.int .i64 0,.int .i64 0,.slice none 0 0,.slice none 0 0,.int .i64 0]) ?_ 3 _ rfl;(with_reducible repeat (first | refine blk_drewN ?_ _ | refine blk_drew ?_ | refine blk_alloc ?_ _));refine blk_put (cs:=#[.int .i64 0,.int .i64 0,.slice none 0 0,.slice none 0 0,.int .i64 0]) ?_ 2 _ rfl;(with_reducible repeat (first | refine blk_drewN ?_ _ | refine blk_drew ?_ | refine blk_alloc ?_ _));refine blk_put (cs:=#[.int .i64 0,.int .i64 0,.slice none 0 0,.slice none 0 0,.int .i64 0]) ?_ 1 _ rfl;(with_reducible repeat (first | refine blk_drewN ?_ _ | refine blk_drew ?_ | refine blk_alloc ?_ _));refine blk_put (cs:=#[.int .i64 0,.int .i64 0,.slice none 0 0,.slice none 0 0,.int .i64 0]) ?_ 0 _ rfl;(with_reducible repeat (first | refine blk_drewN ?_ _ | refine blk_drew ?_ | refine blk_alloc ?_ _));exact B6.out) Try.underlying49 rfl (by kernel_rfl)) rfl ?_
   exact ⟨_,_,xq4,xq16,xq16,belA⟩
 subst c3;rw [if_pos rfl] at H;obtain ⟨⟨p1,p2,p3,p4,p5,p6⟩,A4,H⟩:=ob H;(try dsimp only at H);simp only [Option.some.injEq,Prod.mk.injEq] at H;obtain ⟨rfl,rfl,rfl,rfl,rfl,rfl⟩:=H;go_enter Try.func26,Try.ntmps26
 go_wp2_with (first | ((with_reducible refine gate_dst (N:=1) rfl ?_);refine boxA 1 #[.int .i64 a0_0,.int .i64 a0_1,.slice A0_2 l0_2.length c0_2] 52 ?_;intro l2 hg w5 hbox hb;have B2:=ak hbox;have w3:=leA (w:=w) hg;have W0:=leA (w:=w) hg;replace HB:=bS hb;clear hb hbox hg) | ((with_reducible refine gate_dst (N:=2) rfl ?_);refine boxA 2 #[.int .i64 0,.int .i64 0,.slice none 0 0,.slice none 0 0,.int .i64 0] 49 ?_;intro l3 hg w6 hbox hb;have B6:=ak hbox;have w4:=leA (w:=w) hg;have W1:=leA (w:=w) hg;have N0:=neL hg B2;have N1:=neG hg B2;replace B2:=bB B2 hb;replace HB:=bS hb;clear hb hbox hg;have c1:=N0.out;have C1:=N1.out;obtain ⟨_,_,_,_,_,_⟩:=cel3 B2) | ((with_reducible refine gate_callee (f:=75) rfl ?_);refine goB 5 Try.func75 #[.agg #[.int .i64 a0_0,.int .i64 a0_1,.slice A0_2 l0_2.length c0_2]] rfl ?_;(with_reducible refine (impl_isFrame.calls a0_0 a0_1 _ _ l0_2 true _ ?side1 B0.out A2.out).mono ?_);(case side1=>exact cA (Kd.C_below b2.out HB.out));rintro e w9 ⟨rfl,hb⟩;refine ⟨_,rfl,?_⟩;replace B2:=bB B2 hb;replace B6:=bB B6 hb;replace HB:=bS hb;(try clear hb);obtain ⟨_,_,_,_,_,_⟩:=cel3 B2) | ((with_reducible refine gate_callee (f:=46) rfl ?_);refine goB 10 Try.func46 #[.slice A0_2 l0_2.length c0_2] rfl ?_;(with_reducible refine (impl_DecodeJob.calls k _ _ l0_2 p1 p2 p3 p4 p5 p6 _ ?side1 B0.out A4.out).mono ?_);(case side1=>exact cA (Kd.C_below b2.out HB.out));rintro e S3 ⟨N2,N3,rfl,u5,u6,hb⟩;refine ⟨_,rfl,?_⟩;have U0:=rL u5;have U1:=rL u6;replace B2:=bB B2 hb;replace B6:=bB B6 hb;replace HB:=bS hb;(try clear hb u5 u6);obtain ⟨_,_,_,_,_,_,_,_,_,_⟩:=cel5 B6;obtain ⟨d0,D0,rfl⟩:=Kd.R_slice U0.out;obtain ⟨d1,D1,rfl⟩:=Kd.R_slice U1.out))
 refine bodyPost_ret (results_ct rfl _ _ l3 49 #[.int .i64 p1,.int .i64 p2,.slice d0 p3.length D0,.slice d1 p4.length D1,.int .i64 p5] (0,0) _ rfl (by (with_reducible repeat (first | refine blk_drewN ?_ _ | refine blk_drew ?_ | refine blk_alloc ?_ _));refine blk_put (cs:=#[.int .i64 p1,.int .i64 p2,.slice d0 p3.length D0,.slice d1 p4.length D1,.int .i64 0]) ?_ 4 _ rfl;(with_reducible repeat (first | refine blk_drewN ?_ _ | refine blk_drew ?_ | refine blk_alloc ?_ _));refine blk_put (cs:=#[.int .i64 p1,.int .i64 p2,.slice d0 p3.length D0,.slice none 0 0,.int .i64 0]) ?_ 3 _ rfl;(with_reducible repeat (first | refine blk_drewN ?_ _ | refine blk_drew ?_ | refine blk_alloc ?_ _));refine blk_put (cs:=#[.int .i64 p1,.int .i64 p2,.slice none 0 0,.slice none 0 0,.int .i64 0]) ?_ 2 _ rfl;(with_reducible repeat (first | refine blk_drewN ?_ _ | refine blk_drew ?_ | refine blk_alloc ?_ _));refine blk_put (cs:=#[.int .i64 p1,.int .i64 0,.slice none 0 0,.slice none 0 0,.int .i64 0]) ?_ 1 _ rfl;(with_reducible repeat (first | refine blk_drewN ?_ _ | refine blk_drew ?_ | refine blk_alloc ?_ _));refine blk_put (cs:=#[.int .i64 0,.int .i64 0,.slice none 0 0,.slice none 0 0,.int .i64 0]) ?_ 0 _ rfl;(with_reducible repeat (first | refine blk_drewN ?_ _ | refine blk_drew ?_ | refine blk_alloc ?_ _));exact B6.out) Try.underlying49 rfl (by kernel_rfl)) rfl ?_
 exact ⟨_,_,xq4,by (with_reducible repeat (first | apply Kd.R_alloc | apply Kd.R_drewN | apply Kd.R_drew));exact Kd.R_mono (cR5 (.int .i64 p1) (.int .i64 p2) (.slice d0 p3.length D0) (.slice d1 p4.length D1) (.int .i64 p5) (Kd.R_types U0.out B6.out (by decide))) (fun _ hk=>hk.1),by (with_reducible repeat (first | apply Kd.R_alloc | apply Kd.R_drewN | apply Kd.R_drew));exact Kd.R_mono (cR5 (.int .i64 p1) (.int .i64 p2) (.slice d0 p3.length D0) (.slice d1 p4.length D1) (.int .i64 p5) (Kd.R_types U1.out B6.out (by decide))) (fun _ hk=>hk.1),belA⟩

end Go.Proofs.Ytogdhclomgafdaa.PFnWireJobs
