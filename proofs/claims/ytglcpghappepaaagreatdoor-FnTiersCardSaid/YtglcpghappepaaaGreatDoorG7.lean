-- Written by this session's own program over the kit's print (wip/tools/myprint.py); Lean checks it.
import Derived.Test.YtglcpghappepaaaGreatDoorMBase
import Derived.Test.YtglcpghappepaaaGreatDoorG0
namespace Go.Proofs.YtglcpghappepaaaGreatDoor.G
open Go.RowKit Go.Proofs.YtglcpghappepaaaGreatDoorW.PrintWords Go.Proofs.YtglcpghappepaaaGreatDoorW.PrintLast Go.Proofs.YtglcpghappepaaaGreatDoorW.PrintMore
attribute [local go_sem] max2_int min2_int max_two min_two max_three min_three max_four min_four str_geq str_gtr str_leq   -- for this text's walks alone
set_option linter.unusedVariables false
set_option linter.unusedSimpArgs false
/-! ### yAT: function 64 -/
def yAT.f (a0_0 : Int) (a0_1 : Int) (a0_2 : ByteArray) (a1_0 : Int) (a1_1 : Int) (a1_2 : ByteArray) : Option (Int):=some (wrap64 (a0_0 - a1_0))
set_option maxHeartbeats 8000000 in
set_option maxRecDepth 100000 in
theorem yAT.calls (a0_0 : Int) (a0_1 : Int) (a0_2 : ByteArray) (a1_0 : Int) (a1_1 : Int) (a1_2 : ByteArray) (r : Int) (w : World) (h : yAT.f a0_0 a0_1 a0_2 a1_0 a1_1 a1_2 = some r) :
  Calls Tryz.prog 64 #[.agg #[.int .i64 a0_0,.int .i64 a0_1,.string a0_2],.agg #[.int .i64 a1_0,.int .i64 a1_1,.string a1_2]] w fun e w' => e = .returned (.int .i64 r) ∧ Below w.heap.size w w' := by
 have hu25:=Tryz.underlying25;have HB:=Aside0.mk (Below.refl w.heap.size w);have H : (some (wrap64 (a0_0 - a1_0))) = some r:=h;clear h;obtain rfl:=Option.some.inj H;go_enter Tryz.func64,Tryz.ntmps64
 go_wp2_with (first | ((with_reducible refine gate_dst (N:=2) rfl ?_);refine box_event ?hg (N:=2) ?hd (cs:=#[.int .i64 a0_0,.int .i64 a0_1,.string a0_2]) (t:=25) ?hr ?_;(case hd=>rfl);(case hg=>rfl);(case hr=>first | (go_simp;done) | (go_simp;rfl));intro gb101 hg w3 hbox hb;have BK101:=Aside0.mk (hbox);have GW101:=Aside0.mk ((q49_ : w.heap.size ≤ gb101));have GE101:=Aside0.mk ((q49_ : w.heap.size ≤ gb101));replace HB:=bS_ HB hb;clear hb hbox hg) | ((with_reducible refine gate_dst (N:=3) rfl ?_);refine box_event ?hg (N:=3) ?hd (cs:=#[.int .i64 a1_0,.int .i64 a1_1,.string a1_2]) (t:=25) ?hr ?_;(case hd=>rfl);(case hg=>rfl);(case hr=>first | (go_simp;done) | (go_simp;rfl));intro gb102 hg w4 hbox hb;have BK102:=Aside0.mk (hbox);have GW102:=Aside0.mk ((by rw [hg];exact (below_size (q25_)) : w.heap.size ≤ gb102));have GE102:=Aside0.mk ((by rw [hg];exact (below_size (q25_)) : w.heap.size ≤ gb102));replace HB:=Aside0.mk (below_step (q25_) hb);have NB101_102:=Aside0.mk ((by rw [hg];exact Nat.ne_of_lt (blk_lt (g:=gb101) (o:=.cells #[.int .i64 a0_0,.int .i64 a0_1,.string a0_2] 25 (0,0)) (q17_)) : gb101 ≠ gb102));have NB102_101:=Aside0.mk ((by rw [hg];exact Nat.ne_of_gt (blk_lt (g:=gb101) (o:=.cells #[.int .i64 a0_0,.int .i64 a0_1,.string a0_2] 25 (0,0)) (q17_)) : gb102 ≠ gb101));replace BK101:=bkB_ BK101 hb;clear hb hbox hg;have hnb5:=NB101_102.out;have hnc5:=NB102_101.out;obtain ⟨hcz6_0,hcz6_1,hcz6_2,hfz6_0,hfz6_1,hfz6_2⟩:=bx3_ BK101.out;obtain ⟨hcz7_0,hcz7_1,hcz7_2,hfz7_0,hfz7_1,hfz7_2⟩:=bx3_ BK102.out))
 go_ret;exact ⟨q6_,by repeat (first | (with_reducible first | exact HB.out | apply below_alloc | apply pw_below_drewN | apply below_drew1 | refine below_set ?_ GE101.out | refine below_set ?_ GE102.out) | exact HB.out)⟩
end Go.Proofs.YtglcpghappepaaaGreatDoor.G
