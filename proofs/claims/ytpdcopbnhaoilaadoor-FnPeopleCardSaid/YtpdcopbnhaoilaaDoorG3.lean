-- Written by this session's own program over the kit's print (wip/tools/myprint.py); Lean checks it.
import Derived.Test.YtpdcopbnhaoilaaDoorMBase
import Derived.Test.YtpdcopbnhaoilaaDoorG0
import Derived.Test.YtpdcopbnhaoilaaDoorG2
namespace Go.Proofs.YtpdcopbnhaoilaaDoor.G
open Go.RowKit Go.Proofs.YtpdcopbnhaoilaaDoorW.PrintWords Go.Proofs.YtpdcopbnhaoilaaDoorW.PrintLast Go.Proofs.YtpdcopbnhaoilaaDoorW.PrintMore
attribute [local go_sem] max2_int min2_int max_two min_two max_three min_three max_four min_four str_geq str_gtr str_leq   -- for this text's walks alone
set_option linter.unusedVariables false
set_option linter.unusedSimpArgs false
/-! ### impl_ArePeople: function 12 -/
def impl_ArePeople.l0 : Nat → List (S26) → List (S26) → Int → Int → Option (Bool)
 | 0,_,_,_,_=>none
 | k + 1,x0,x5,x6,x7=>if x7 < x6 then (if 0 ≤ x7 then (if x7 < (x5.length : Int) then ((impl_IsPerson.f k ((rd_T26 x5 x7).f0) ((rd_T26 x5 x7).f1) ((rd_T26 x5 x7).f2) ((rd_T26 x5 x7).f3)).bind fun t103=>(if t103 = true then (if x7 > 0 then (if 0 ≤ (wrap64 (x7 - 1)) then (if (wrap64 (x7 - 1)) < (x0.length : Int) then (if ((Op.bytesLess (((rd_T26 x0 (wrap64 (x7 - 1))).f0).toList) (((rd_T26 x5 x7).f0).toList)) = true) then (impl_ArePeople.l0 k x0 x5 x6 (wrap64 (x7 + 1))) else (some false)) else (none)) else (none)) else (impl_ArePeople.l0 k x0 x5 x6 (wrap64 (x7 + 1)))) else (some false))) else (none)) else (none)) else (some (decide ((x0.length : Int) ≤ 10)))
def impl_ArePeople.f (k : Nat) (l0 : List (S26)) : Option (Bool):=impl_ArePeople.l0 k l0 l0 (l0.length : Int) 0
def impl_ArePeople.T4 : Bool × List (List Nat × List Nat):=(true,[([],[]),([0],[0]),([1],[1]),([2,1],[2]),([3],[3]),([4,3],[3,4]),([5,3,3],[3,5]),([6],[6]),([7,6],[6,7]),([6],[6]),([6],[6]),([10,6],[6,10]),([9,11,6],[6,9,11]),([12,6],[6,12]),([13,6],[6,13]),([8,14,6],[6,8,14]),([6,15,3],[3,6,15]),([3,16],[3,16])])
def impl_ArePeople.B4 : List Nat:=[0,1,3,7,15,31,63,127,255,127,127,1151,3711,7807,15999,32767,65535,131071]
theorem impl_ArePeople.tab4 : rtab .any (opsOf Tryd.f12 4) = impl_ArePeople.T4:=by kernel_rfl
theorem impl_ArePeople.bits4 : waitsOk impl_ArePeople.T4.2 impl_ArePeople.B4 = true:=by kernel_rfl
set_option maxHeartbeats 8000000 in
set_option maxRecDepth 100000 in
theorem impl_ArePeople.calls (k : Nat) (A0 : Option Addr) (c0 : Nat) (l0 : List (S26)) (r : Bool) (w : World) (hr0 : Kd.C k26 w A0 l0.length l0) (hc0 : l0.length ≤ c0) (h : impl_ArePeople.f k l0 = some r) :
  Calls Tryd.prog 12 #[.slice A0 l0.length c0] w fun e w' => e = .returned (.bool r) ∧ Below w.heap.size w w' := by
 have hu26:=Tryd.underlying26;have HR0:=Aside0.mk hr0;have HC0:=Aside0.mk hc0;clear hr0 hc0;have HB:=Aside0.mk (Below.refl w.heap.size w);have H : (impl_ArePeople.l0 k l0 l0 (l0.length : Int) 0) = some r:=h;clear h;have H' := Aside0.mk H;clear H;go_enter Tryd.func12,Tryd.ntmps12
 go_wp2;go_loopg [7] k (fun kq v7 w' => ∃ (x7_1 : Int),v7 = .int .i64 x7_1 ∧ Aside0 (impl_ArePeople.l0 kq l0 l0 (l0.length : Int) x7_1 = some r) ∧ Aside0 (kq ≤ k) ∧ Aside0 (Below w.heap.size w w'))
 case atStart=>exact ⟨(0),(q1_),H', ⟨Nat.le_refl _⟩,⟨q33_⟩⟩
 case round =>
  clear H';obtain ⟨x7_1,rfl,HA,HK1,HB⟩:=hrel;cases gk with
  | zero=>exact absurd HA.out (by simp [impl_ArePeople.l0])
  | succ k1 =>
   have H:=HA.out;clear HA;simp only [impl_ArePeople.l0] at H;by_cases c2 : x7_1 < (l0.length : Int)
   ·rw [if_pos c2] at H;have c2b0 : decide (x7_1 < (l0.length : Int)) = true:=decide_eq_true c2;clear c2;by_cases c3 : 0 ≤ x7_1
    ·rw [if_pos c3] at H;have c3b0 : decide (0 ≤ x7_1) = true:=decide_eq_true c3;clear c3;by_cases c4 : x7_1 < (l0.length : Int)
     ·rw [if_pos c4] at H;have c4b0 : decide (x7_1 < (l0.length : Int)) = true:=decide_eq_true c4;clear c4;replace H:=Option.bind_eq_some_iff.mp H;obtain ⟨t103,A50,H⟩:=H;(try dsimp only at H);have A5:=Aside0.mk A50;clear A50;by_cases c6 : t103 = true
      ·subst c6;have H1 : (if x7_1 > 0 then (if 0 ≤ (wrap64 (x7_1 - 1)) then (if (wrap64 (x7_1 - 1)) < (l0.length : Int) then (if ((Op.bytesLess (((rd_T26 l0 (wrap64 (x7_1 - 1))).f0).toList) (((rd_T26 l0 x7_1).f0).toList)) = true) then (impl_ArePeople.l0 k1 l0 l0 (l0.length : Int) (wrap64 (x7_1 + 1))) else (some false)) else (none)) else (none)) else (impl_ArePeople.l0 k1 l0 l0 (l0.length : Int) (wrap64 (x7_1 + 1)))) = some r:=by rw [if_pos rfl] at H;exact H
       clear H;have H:=H1;clear H1;by_cases c7 : x7_1 > 0
       ·rw [if_pos c7] at H;have c7b0 : decide (0 < x7_1) = true:=decide_eq_true c7;clear c7;obtain ⟨ji8,hji8⟩ : ∃ j_ : Int,(wrap64 (x7_1 - 1)) = j_:=⟨_,rfl⟩;replace H : (if 0 ≤ (ji8) then (if (ji8) < (l0.length : Int) then (if ((Op.bytesLess (((rd_T26 l0 (ji8)).f0).toList) (((rd_T26 l0 x7_1).f0).toList)) = true) then (impl_ArePeople.l0 k1 l0 l0 (l0.length : Int) (wrap64 (x7_1 + 1))) else (some false)) else (none)) else (none)) = some r:=by first | (rw [hji8] at H;exact H) | (simp only [hji8] at H ⊢;exact H)
        (try rw [hji8] at A5)
        have hji8w : (IntKind.i64.wrap (x7_1 - 1)) = ji8:=(i64_w _).trans hji8;by_cases c9 : 0 ≤ (ji8)
        ·rw [if_pos c9] at H;have c9b0 : decide (0 ≤ (ji8)) = true:=decide_eq_true c9;clear c9;by_cases c10 : (ji8) < (l0.length : Int)
         ·rw [if_pos c10] at H;have c10b0 : decide ((ji8) < (l0.length : Int)) = true:=decide_eq_true c10;clear c10;by_cases c11 : ((Op.bytesLess (((rd_T26 l0 (ji8)).f0).toList) (((rd_T26 l0 x7_1).f0).toList)) = true)
          ·rw [if_pos c11] at H;have c11b0 : (Op.bytesLess (((rd_T26 l0 (ji8)).f0).toList) (((rd_T26 l0 x7_1).f0).toList)) = true:=c11;clear c11;have H' := Aside0.mk H;clear H;have p101 : 0 ≤ (x7_1 : Int):=of_decide_eq_true (q2_);have q101 : x7_1 < (l0.length : Int):=of_decide_eq_true (q2_);obtain ⟨ad101,e101,hx101_0,hx101_1,hx101_2,hx101_3⟩:=at_T26 HR0.out x7_1 p101 q101;cases e101;replace hx101_0:=hB_ HB.out hx101_0;replace hx101_1:=hB_ HB.out hx101_1;replace hx101_2:=hB_ HB.out hx101_2;replace hx101_3:=hB_ HB.out hx101_3;replace p101:=eq_true p101;replace q101:=eq_true q101;try go_wp2_with (first | ((with_reducible refine gate_dst (N:=4) rfl ?_);refine box_event ?hg (N:=4) ?hd (cs:=#[.string (⟨#[]⟩ : ByteArray),.int .i64 0,.int .i64 0,.int .i64 0]) (t:=26) ?hr ?_;(case hd=>rfl);(case hg=>rfl);(case hr=>first | (go_simp;done) | (go_simp;rfl));intro gb102 hg w12 hbox hb;have BK102:=Aside0.mk (hbox);have GW102:=Aside0.mk ((q64_ : w.heap.size ≤ gb102));have GE102:=Aside0.mk ((q64_ : w.heap.size ≤ gb102));replace HB:=bS_ HB hb;clear hb hbox hg;have hcz13_0 : w12.cell? ⟨gb102,0,none⟩ = some (.string (⟨#[]⟩ : ByteArray)):=(blk_cell BK102.out 0).trans rfl;have hcz13_1 : w12.cell? ⟨gb102,1,none⟩ = some (.int .i64 0):=(blk_cell BK102.out 1).trans rfl;have hcz13_2 : w12.cell? ⟨gb102,2,none⟩ = some (.int .i64 0):=(blk_cell BK102.out 2).trans rfl;have hcz13_3 : w12.cell? ⟨gb102,3,none⟩ = some (.int .i64 0):=(blk_cell BK102.out 3).trans rfl;have hfz13_0:=blk_frozen BK102.out 0;have hfz13_1:=blk_frozen BK102.out 1;have hfz13_2:=blk_frozen BK102.out 2;have hfz13_3:=blk_frozen BK102.out 3))
           have n0_ : Aside0 (((((w12.setCell ⟨gb102,0,none⟩ (.string ((rd_T26 l0 x7_1).f0))).setCell ⟨gb102,1,none⟩ (.int .i64 ((rd_T26 l0 x7_1).f1))).setCell ⟨gb102,2,none⟩ (.int .i64 ((rd_T26 l0 x7_1).f2))).setCell ⟨gb102,3,none⟩ (.int .i64 ((rd_T26 l0 x7_1).f3))).heap[gb102]? = some (.cells #[.string ((rd_T26 l0 x7_1).f0),.int .i64 ((rd_T26 l0 x7_1).f1),.int .i64 ((rd_T26 l0 x7_1).f2),.int .i64 ((rd_T26 l0 x7_1).f3)] 26 (0,0))):=⟨q63_⟩;have n1_ : Aside0 (Below w.heap.size w ((((w12.setCell ⟨gb102,0,none⟩ (.string ((rd_T26 l0 x7_1).f0))).setCell ⟨gb102,1,none⟩ (.int .i64 ((rd_T26 l0 x7_1).f1))).setCell ⟨gb102,2,none⟩ (.int .i64 ((rd_T26 l0 x7_1).f2))).setCell ⟨gb102,3,none⟩ (.int .i64 ((rd_T26 l0 x7_1).f3)))):=⟨q42_⟩
           (try clear BK102)
           (try clear HB)
           generalize ((((w12.setCell ⟨gb102,0,none⟩ (.string ((rd_T26 l0 x7_1).f0))).setCell ⟨gb102,1,none⟩ (.int .i64 ((rd_T26 l0 x7_1).f1))).setCell ⟨gb102,2,none⟩ (.int .i64 ((rd_T26 l0 x7_1).f2))).setCell ⟨gb102,3,none⟩ (.int .i64 ((rd_T26 l0 x7_1).f3))) = w14 at n0_ n1_ ⊢;have BK102:=n0_;have HB:=n1_;clear n0_ n1_;replace BK102:=Aside0.mk (blk_drew BK102.out);replace HB:=Aside0.mk (below_drew1 HB.out);have p104 : 0 ≤ ((ji8) : Int):=of_decide_eq_true (q2_);have q104 : (ji8) < (l0.length : Int):=of_decide_eq_true (q2_);obtain ⟨ad104,e104,hx104_0,hx104_1,hx104_2,hx104_3⟩:=at_T26 HR0.out (ji8) p104 q104;have hw104_3:=hx104_3;have hw104_2:=hx104_2;have hw104_1:=hx104_1;have hw104_0:=hx104_0;obtain rfl : ad101 = ad104:=(by injection e104);replace hx104_0:=hB_ HB.out hx104_0;replace hx104_1:=hB_ HB.out hx104_1;replace hx104_2:=hB_ HB.out hx104_2;replace hx104_3:=hB_ HB.out hx104_3;replace p104:=eq_true p104;replace q104:=eq_true q104;refine start_ (n:=18) (S:=fun w' => w'.cell? ⟨gb102,0,none⟩ = some (.string ((rd_T26 l0 x7_1).f0)) ∧ w'.cell? ⟨gb102,1,none⟩ = some (.int .i64 ((rd_T26 l0 x7_1).f1)) ∧ w'.cell? ⟨gb102,2,none⟩ = some (.int .i64 ((rd_T26 l0 x7_1).f2)) ∧ w'.cell? ⟨gb102,3,none⟩ = some (.int .i64 ((rd_T26 l0 x7_1).f3)) ∧ w'.cell? (ad101.add (((ji8)).toNat * 4)) = some (.string ((rd_T26 l0 (ji8)).f0)) ∧ w'.cell? ⟨(ad101.add (((ji8)).toNat * 4)).block,(ad101.add (((ji8)).toNat * 4)).off + 1,none⟩ = some (.int .i64 ((rd_T26 l0 (ji8)).f1)) ∧ w'.cell? ⟨(ad101.add (((ji8)).toNat * 4)).block,(ad101.add (((ji8)).toNat * 4)).off + 2,none⟩ = some (.int .i64 ((rd_T26 l0 (ji8)).f2)) ∧ w'.cell? ⟨(ad101.add (((ji8)).toNat * 4)).block,(ad101.add (((ji8)).toNat * 4)).off + 3,none⟩ = some (.int .i64 ((rd_T26 l0 (ji8)).f3))) (ds:=[]) f18_ (by kernel_rfl) rfl rfl ⟨(blk_cell BK102.out 0).trans rfl,(blk_cell BK102.out 1).trans rfl,(blk_cell BK102.out 2).trans rfl,(blk_cell BK102.out 3).trans rfl,((HB.out.cell (World.block_lt_of_cell? w _ hw104_0)).trans hw104_0),((HB.out.cell (World.block_lt_of_cell? w _ hw104_1)).trans hw104_1),((HB.out.cell (World.block_lt_of_cell? w _ hw104_2)).trans hw104_2),((HB.out.cell (World.block_lt_of_cell? w _ hw104_3)).trans hw104_3)⟩ (fun hHeld=>?_);refine with_tabW impl_ArePeople.tab4 impl_ArePeople.bits4 (fun HT_ HW_=>?_);generalize w14.drew = w15 at BK102 HB hx104_0 hx104_1 hx104_2 hx104_3 hHeld ⊢;refine take_ (i:=0) (N:=some 12) (v:=?_) (a' := ?_) f19_ rfl rfl (take_ofW HT_.out HW_.out (by kernel_rfl)) (fun _ _ _ h=>h) (Or.inl ⟨by rfl,?_⟩) hHeld ?_ ?_;rotate_left
           ·rintro w' ⟨s0,s1,s2,s3,s4,s5,s6,s7⟩;go_simp;with_reducible rfl
           rotate_left
           ·exact q70_
           refine one_ (i:=1) (N:=some 13) f20_ rfl rfl (one_of HT_.out (by kernel_rfl)) (by decide) (fun K hK=>?_);refine goes_ Tryd.func13 (by kernel_rfl) rfl #[.agg #[.string ((rd_T26 l0 x7_1).f0),.int .i64 ((rd_T26 l0 x7_1).f1),.int .i64 ((rd_T26 l0 x7_1).f2),.int .i64 ((rd_T26 l0 x7_1).f3)]] (by rfl) rfl rfl (q34_) ?_
           with_reducible refine (impl_IsPerson.calls k1 ((rd_T26 l0 x7_1).f0) ((rd_T26 l0 x7_1).f1) ((rd_T26 l0 x7_1).f2) ((rd_T26 l0 x7_1).f3) true _ A5.out).mono ?_
           rintro e w16 ⟨rfl,hb⟩;refine ⟨_,rfl,?_⟩;replace BK102:=bkB_ BK102 hb;replace HB:=Aside0.mk (below_step (q42_) hb)
           (try clear hb)
           (try clear hb2)
           (try clear hk)
           (try clear hi)
           refine hK.out _ _ ⟨(blk_cell BK102.out 0).trans rfl,(blk_cell BK102.out 1).trans rfl,(blk_cell BK102.out 2).trans rfl,(blk_cell BK102.out 3).trans rfl,((HB.out.cell (World.block_lt_of_cell? w _ hw104_0)).trans hw104_0),((HB.out.cell (World.block_lt_of_cell? w _ hw104_1)).trans hw104_1),((HB.out.cell (World.block_lt_of_cell? w _ hw104_2)).trans hw104_2),((HB.out.cell (World.block_lt_of_cell? w _ hw104_3)).trans hw104_3)⟩ (fun hHeld=>?_);clear hK K;refine norm_ (a' := ?_) ?_ ?_;rotate_left
           ·show Act.put _ (some 13) _ = _;simp only [Act.put,List.setIfInBounds_toArray,List.set_cons_zero,List.set_cons_succ,i64_w,i32_w];rfl
           refine pa_ 2 14 f21_ ?_
           refine pa_ 3 15 f22_ ?_
           refine pa_ 4 16 f23_ ?_
           refine pa_ 5 17 f24_ ?_
           refine pa_ 6 18 f25_ ?_
           refine pa_ 7 19 f26_ ?_
           refine pa_ 9 21 f109_ ?_
           refine pa_ 10 22 f110_ ?_
           refine pa_ 11 23 f111_ ?_
           refine pa_ 12 24 f112_ ?_
           refine pa_ 13 25 f113_ ?_
           refine take_ (i:=8) (N:=some 20) (v:=?_) (a' := ?_) f32_ rfl rfl (take_ofW HT_.out HW_.out (by kernel_rfl)) (fun _ _ _ h=>h) (Or.inl ⟨by rfl,?_⟩) hHeld ?_ ?_;rotate_left
           ·rintro w' ⟨s0,s1,s2,s3,s4,s5,s6,s7⟩;go_simp;with_reducible rfl
           rotate_left
           ·exact q70_
           refine take_ (i:=14) (N:=some 26) (v:=?_) (a' := ?_) f33_ rfl rfl (take_ofW HT_.out HW_.out (by kernel_rfl)) (fun _ _ _ h=>h) (Or.inl ⟨by rfl,?_⟩) hHeld ?_ ?_;rotate_left
           ·rintro w' ⟨s0,s1,s2,s3,s4,s5,s6,s7⟩;go_simp;with_reducible rfl
           rotate_left
           ·exact q70_
           refine pa_ 15 27 f34_ ?_
           refine pa_ 16 28 f35_ ?_
           refine pa_ 17 29 f36_ ?_
           refine done_ (done_of HT_.out (by kernel_rfl)) ?_;try go_wp2
           go_roundg k1
           case measure=>have:=HK1.out;omega
           case rel=>exact ⟨(wrap64 (x7_1 + 1)),(q1_),H', ⟨by have:=HK1.out;omega⟩,⟨q42_⟩⟩
          ·rw [if_neg c11] at H;have c11b0 : (Op.bytesLess (((rd_T26 l0 (ji8)).f0).toList) (((rd_T26 l0 x7_1).f0).toList)) = false:=by simpa using c11
           clear c11;obtain rfl:=Option.some.inj H;have p101 : 0 ≤ (x7_1 : Int):=of_decide_eq_true (q2_);have q101 : x7_1 < (l0.length : Int):=of_decide_eq_true (q2_);obtain ⟨ad101,e101,hx101_0,hx101_1,hx101_2,hx101_3⟩:=at_T26 HR0.out x7_1 p101 q101;cases e101;replace hx101_0:=hB_ HB.out hx101_0;replace hx101_1:=hB_ HB.out hx101_1;replace hx101_2:=hB_ HB.out hx101_2;replace hx101_3:=hB_ HB.out hx101_3;replace p101:=eq_true p101;replace q101:=eq_true q101;try go_wp2_with (first | ((with_reducible refine gate_dst (N:=4) rfl ?_);refine box_event ?hg (N:=4) ?hd (cs:=#[.string (⟨#[]⟩ : ByteArray),.int .i64 0,.int .i64 0,.int .i64 0]) (t:=26) ?hr ?_;(case hd=>rfl);(case hg=>rfl);(case hr=>first | (go_simp;done) | (go_simp;rfl));intro gb102 hg w17 hbox hb;have BK102:=Aside0.mk (hbox);have GW102:=Aside0.mk ((q64_ : w.heap.size ≤ gb102));have GE102:=Aside0.mk ((q64_ : w.heap.size ≤ gb102));replace HB:=bS_ HB hb;clear hb hbox hg;have hcz18_0 : w17.cell? ⟨gb102,0,none⟩ = some (.string (⟨#[]⟩ : ByteArray)):=(blk_cell BK102.out 0).trans rfl;have hcz18_1 : w17.cell? ⟨gb102,1,none⟩ = some (.int .i64 0):=(blk_cell BK102.out 1).trans rfl;have hcz18_2 : w17.cell? ⟨gb102,2,none⟩ = some (.int .i64 0):=(blk_cell BK102.out 2).trans rfl;have hcz18_3 : w17.cell? ⟨gb102,3,none⟩ = some (.int .i64 0):=(blk_cell BK102.out 3).trans rfl;have hfz18_0:=blk_frozen BK102.out 0;have hfz18_1:=blk_frozen BK102.out 1;have hfz18_2:=blk_frozen BK102.out 2;have hfz18_3:=blk_frozen BK102.out 3))
           have n0_ : Aside0 (((((w17.setCell ⟨gb102,0,none⟩ (.string ((rd_T26 l0 x7_1).f0))).setCell ⟨gb102,1,none⟩ (.int .i64 ((rd_T26 l0 x7_1).f1))).setCell ⟨gb102,2,none⟩ (.int .i64 ((rd_T26 l0 x7_1).f2))).setCell ⟨gb102,3,none⟩ (.int .i64 ((rd_T26 l0 x7_1).f3))).heap[gb102]? = some (.cells #[.string ((rd_T26 l0 x7_1).f0),.int .i64 ((rd_T26 l0 x7_1).f1),.int .i64 ((rd_T26 l0 x7_1).f2),.int .i64 ((rd_T26 l0 x7_1).f3)] 26 (0,0))):=⟨q63_⟩;have n1_ : Aside0 (Below w.heap.size w ((((w17.setCell ⟨gb102,0,none⟩ (.string ((rd_T26 l0 x7_1).f0))).setCell ⟨gb102,1,none⟩ (.int .i64 ((rd_T26 l0 x7_1).f1))).setCell ⟨gb102,2,none⟩ (.int .i64 ((rd_T26 l0 x7_1).f2))).setCell ⟨gb102,3,none⟩ (.int .i64 ((rd_T26 l0 x7_1).f3)))):=⟨q42_⟩
           (try clear BK102)
           (try clear HB)
           generalize ((((w17.setCell ⟨gb102,0,none⟩ (.string ((rd_T26 l0 x7_1).f0))).setCell ⟨gb102,1,none⟩ (.int .i64 ((rd_T26 l0 x7_1).f1))).setCell ⟨gb102,2,none⟩ (.int .i64 ((rd_T26 l0 x7_1).f2))).setCell ⟨gb102,3,none⟩ (.int .i64 ((rd_T26 l0 x7_1).f3))) = w19 at n0_ n1_ ⊢;have BK102:=n0_;have HB:=n1_;clear n0_ n1_;replace BK102:=Aside0.mk (blk_drew BK102.out);replace HB:=Aside0.mk (below_drew1 HB.out);have p104 : 0 ≤ ((ji8) : Int):=of_decide_eq_true (q2_);have q104 : (ji8) < (l0.length : Int):=of_decide_eq_true (q2_);obtain ⟨ad104,e104,hx104_0,hx104_1,hx104_2,hx104_3⟩:=at_T26 HR0.out (ji8) p104 q104;have hw104_3:=hx104_3;have hw104_2:=hx104_2;have hw104_1:=hx104_1;have hw104_0:=hx104_0;obtain rfl : ad101 = ad104:=(by injection e104);replace hx104_0:=hB_ HB.out hx104_0;replace hx104_1:=hB_ HB.out hx104_1;replace hx104_2:=hB_ HB.out hx104_2;replace hx104_3:=hB_ HB.out hx104_3;replace p104:=eq_true p104;replace q104:=eq_true q104;refine start_ (n:=18) (S:=fun w' => w'.cell? ⟨gb102,0,none⟩ = some (.string ((rd_T26 l0 x7_1).f0)) ∧ w'.cell? ⟨gb102,1,none⟩ = some (.int .i64 ((rd_T26 l0 x7_1).f1)) ∧ w'.cell? ⟨gb102,2,none⟩ = some (.int .i64 ((rd_T26 l0 x7_1).f2)) ∧ w'.cell? ⟨gb102,3,none⟩ = some (.int .i64 ((rd_T26 l0 x7_1).f3)) ∧ w'.cell? (ad101.add (((ji8)).toNat * 4)) = some (.string ((rd_T26 l0 (ji8)).f0)) ∧ w'.cell? ⟨(ad101.add (((ji8)).toNat * 4)).block,(ad101.add (((ji8)).toNat * 4)).off + 1,none⟩ = some (.int .i64 ((rd_T26 l0 (ji8)).f1)) ∧ w'.cell? ⟨(ad101.add (((ji8)).toNat * 4)).block,(ad101.add (((ji8)).toNat * 4)).off + 2,none⟩ = some (.int .i64 ((rd_T26 l0 (ji8)).f2)) ∧ w'.cell? ⟨(ad101.add (((ji8)).toNat * 4)).block,(ad101.add (((ji8)).toNat * 4)).off + 3,none⟩ = some (.int .i64 ((rd_T26 l0 (ji8)).f3))) (ds:=[]) f18_ (by kernel_rfl) rfl rfl ⟨(blk_cell BK102.out 0).trans rfl,(blk_cell BK102.out 1).trans rfl,(blk_cell BK102.out 2).trans rfl,(blk_cell BK102.out 3).trans rfl,((HB.out.cell (World.block_lt_of_cell? w _ hw104_0)).trans hw104_0),((HB.out.cell (World.block_lt_of_cell? w _ hw104_1)).trans hw104_1),((HB.out.cell (World.block_lt_of_cell? w _ hw104_2)).trans hw104_2),((HB.out.cell (World.block_lt_of_cell? w _ hw104_3)).trans hw104_3)⟩ (fun hHeld=>?_);refine with_tabW impl_ArePeople.tab4 impl_ArePeople.bits4 (fun HT_ HW_=>?_);generalize w19.drew = w20 at BK102 HB hx104_0 hx104_1 hx104_2 hx104_3 hHeld ⊢;refine take_ (i:=0) (N:=some 12) (v:=?_) (a' := ?_) f19_ rfl rfl (take_ofW HT_.out HW_.out (by kernel_rfl)) (fun _ _ _ h=>h) (Or.inl ⟨by rfl,?_⟩) hHeld ?_ ?_;rotate_left
           ·rintro w' ⟨s0,s1,s2,s3,s4,s5,s6,s7⟩;go_simp;with_reducible rfl
           rotate_left
           ·exact q70_
           refine one_ (i:=1) (N:=some 13) f20_ rfl rfl (one_of HT_.out (by kernel_rfl)) (by decide) (fun K hK=>?_);refine goes_ Tryd.func13 (by kernel_rfl) rfl #[.agg #[.string ((rd_T26 l0 x7_1).f0),.int .i64 ((rd_T26 l0 x7_1).f1),.int .i64 ((rd_T26 l0 x7_1).f2),.int .i64 ((rd_T26 l0 x7_1).f3)]] (by rfl) rfl rfl (q34_) ?_
           with_reducible refine (impl_IsPerson.calls k1 ((rd_T26 l0 x7_1).f0) ((rd_T26 l0 x7_1).f1) ((rd_T26 l0 x7_1).f2) ((rd_T26 l0 x7_1).f3) true _ A5.out).mono ?_
           rintro e w21 ⟨rfl,hb⟩;refine ⟨_,rfl,?_⟩;replace BK102:=bkB_ BK102 hb;replace HB:=Aside0.mk (below_step (q42_) hb)
           (try clear hb)
           (try clear hb2)
           (try clear hk)
           (try clear hi)
           refine hK.out _ _ ⟨(blk_cell BK102.out 0).trans rfl,(blk_cell BK102.out 1).trans rfl,(blk_cell BK102.out 2).trans rfl,(blk_cell BK102.out 3).trans rfl,((HB.out.cell (World.block_lt_of_cell? w _ hw104_0)).trans hw104_0),((HB.out.cell (World.block_lt_of_cell? w _ hw104_1)).trans hw104_1),((HB.out.cell (World.block_lt_of_cell? w _ hw104_2)).trans hw104_2),((HB.out.cell (World.block_lt_of_cell? w _ hw104_3)).trans hw104_3)⟩ (fun hHeld=>?_);clear hK K;refine norm_ (a' := ?_) ?_ ?_;rotate_left
           ·show Act.put _ (some 13) _ = _;simp only [Act.put,List.setIfInBounds_toArray,List.set_cons_zero,List.set_cons_succ,i64_w,i32_w];rfl
           refine pa_ 2 14 f21_ ?_
           refine pa_ 3 15 f22_ ?_
           refine pa_ 4 16 f23_ ?_
           refine pa_ 5 17 f24_ ?_
           refine pa_ 6 18 f25_ ?_
           refine pa_ 7 19 f26_ ?_
           refine pa_ 9 21 f109_ ?_
           refine pa_ 10 22 f110_ ?_
           refine pa_ 11 23 f111_ ?_
           refine pa_ 12 24 f112_ ?_
           refine pa_ 13 25 f113_ ?_
           refine take_ (i:=8) (N:=some 20) (v:=?_) (a' := ?_) f32_ rfl rfl (take_ofW HT_.out HW_.out (by kernel_rfl)) (fun _ _ _ h=>h) (Or.inl ⟨by rfl,?_⟩) hHeld ?_ ?_;rotate_left
           ·rintro w' ⟨s0,s1,s2,s3,s4,s5,s6,s7⟩;go_simp;with_reducible rfl
           rotate_left
           ·exact q70_
           refine take_ (i:=14) (N:=some 26) (v:=?_) (a' := ?_) f33_ rfl rfl (take_ofW HT_.out HW_.out (by kernel_rfl)) (fun _ _ _ h=>h) (Or.inl ⟨by rfl,?_⟩) hHeld ?_ ?_;rotate_left
           ·rintro w' ⟨s0,s1,s2,s3,s4,s5,s6,s7⟩;go_simp;with_reducible rfl
           rotate_left
           ·exact q70_
           refine pa_ 15 27 f34_ ?_
           refine pa_ 16 28 f35_ ?_
           refine pa_ 17 29 f36_ ?_
           refine done_ (done_of HT_.out (by kernel_rfl)) ?_;try go_wp2
           go_ret;exact ⟨by first | rfl | (simp [errW_none,errW_some] <;> rfl) | (simp only [← hji8];first | rfl | (simp [errW_none,errW_some] <;> rfl)) | (simp [*,errW_none,errW_some] <;> rfl),q42_⟩
         ·rw [if_neg c10] at H;exact absurd H (by simp)
        ·rw [if_neg c9] at H;exact absurd H (by simp)
       ·rw [if_neg c7] at H;have c7b0 : decide (0 < x7_1) = false:=decide_eq_false c7;clear c7;have H' := Aside0.mk H;clear H;have p101 : 0 ≤ (x7_1 : Int):=of_decide_eq_true (q2_);have q101 : x7_1 < (l0.length : Int):=of_decide_eq_true (q2_);obtain ⟨ad101,e101,hx101_0,hx101_1,hx101_2,hx101_3⟩:=at_T26 HR0.out x7_1 p101 q101;cases e101;replace hx101_0:=hB_ HB.out hx101_0;replace hx101_1:=hB_ HB.out hx101_1;replace hx101_2:=hB_ HB.out hx101_2;replace hx101_3:=hB_ HB.out hx101_3;replace p101:=eq_true p101;replace q101:=eq_true q101;try go_wp2_with (first | ((with_reducible refine gate_dst (N:=4) rfl ?_);refine box_event ?hg (N:=4) ?hd (cs:=#[.string (⟨#[]⟩ : ByteArray),.int .i64 0,.int .i64 0,.int .i64 0]) (t:=26) ?hr ?_;(case hd=>rfl);(case hg=>rfl);(case hr=>first | (go_simp;done) | (go_simp;rfl));intro gb102 hg w22 hbox hb;have BK102:=Aside0.mk (hbox);have GW102:=Aside0.mk ((q64_ : w.heap.size ≤ gb102));have GE102:=Aside0.mk ((q64_ : w.heap.size ≤ gb102));replace HB:=bS_ HB hb;clear hb hbox hg;have hcz23_0 : w22.cell? ⟨gb102,0,none⟩ = some (.string (⟨#[]⟩ : ByteArray)):=(blk_cell BK102.out 0).trans rfl;have hcz23_1 : w22.cell? ⟨gb102,1,none⟩ = some (.int .i64 0):=(blk_cell BK102.out 1).trans rfl;have hcz23_2 : w22.cell? ⟨gb102,2,none⟩ = some (.int .i64 0):=(blk_cell BK102.out 2).trans rfl;have hcz23_3 : w22.cell? ⟨gb102,3,none⟩ = some (.int .i64 0):=(blk_cell BK102.out 3).trans rfl;have hfz23_0:=blk_frozen BK102.out 0;have hfz23_1:=blk_frozen BK102.out 1;have hfz23_2:=blk_frozen BK102.out 2;have hfz23_3:=blk_frozen BK102.out 3))
        have n0_ : Aside0 (((((w22.setCell ⟨gb102,0,none⟩ (.string ((rd_T26 l0 x7_1).f0))).setCell ⟨gb102,1,none⟩ (.int .i64 ((rd_T26 l0 x7_1).f1))).setCell ⟨gb102,2,none⟩ (.int .i64 ((rd_T26 l0 x7_1).f2))).setCell ⟨gb102,3,none⟩ (.int .i64 ((rd_T26 l0 x7_1).f3))).heap[gb102]? = some (.cells #[.string ((rd_T26 l0 x7_1).f0),.int .i64 ((rd_T26 l0 x7_1).f1),.int .i64 ((rd_T26 l0 x7_1).f2),.int .i64 ((rd_T26 l0 x7_1).f3)] 26 (0,0))):=⟨q63_⟩;have n1_ : Aside0 (Below w.heap.size w ((((w22.setCell ⟨gb102,0,none⟩ (.string ((rd_T26 l0 x7_1).f0))).setCell ⟨gb102,1,none⟩ (.int .i64 ((rd_T26 l0 x7_1).f1))).setCell ⟨gb102,2,none⟩ (.int .i64 ((rd_T26 l0 x7_1).f2))).setCell ⟨gb102,3,none⟩ (.int .i64 ((rd_T26 l0 x7_1).f3)))):=⟨q42_⟩
        (try clear BK102)
        (try clear HB)
        generalize ((((w22.setCell ⟨gb102,0,none⟩ (.string ((rd_T26 l0 x7_1).f0))).setCell ⟨gb102,1,none⟩ (.int .i64 ((rd_T26 l0 x7_1).f1))).setCell ⟨gb102,2,none⟩ (.int .i64 ((rd_T26 l0 x7_1).f2))).setCell ⟨gb102,3,none⟩ (.int .i64 ((rd_T26 l0 x7_1).f3))) = w24 at n0_ n1_ ⊢;have BK102:=n0_;have HB:=n1_;clear n0_ n1_;replace BK102:=Aside0.mk (blk_drew BK102.out);replace HB:=Aside0.mk (below_drew1 HB.out);refine start_ (n:=18) (S:=fun w' => w'.cell? ⟨gb102,0,none⟩ = some (.string ((rd_T26 l0 x7_1).f0)) ∧ w'.cell? ⟨gb102,1,none⟩ = some (.int .i64 ((rd_T26 l0 x7_1).f1)) ∧ w'.cell? ⟨gb102,2,none⟩ = some (.int .i64 ((rd_T26 l0 x7_1).f2)) ∧ w'.cell? ⟨gb102,3,none⟩ = some (.int .i64 ((rd_T26 l0 x7_1).f3))) (ds:=[]) f18_ (by kernel_rfl) rfl rfl ⟨(blk_cell BK102.out 0).trans rfl,(blk_cell BK102.out 1).trans rfl,(blk_cell BK102.out 2).trans rfl,(blk_cell BK102.out 3).trans rfl⟩ (fun hHeld=>?_);refine with_tabW impl_ArePeople.tab4 impl_ArePeople.bits4 (fun HT_ HW_=>?_);generalize w24.drew = w25 at BK102 HB hHeld ⊢;refine take_ (i:=0) (N:=some 12) (v:=?_) (a' := ?_) f19_ rfl rfl (take_ofW HT_.out HW_.out (by kernel_rfl)) (fun _ _ _ h=>h) (Or.inl ⟨by rfl,?_⟩) hHeld ?_ ?_;rotate_left
        ·rintro w' ⟨s0,s1,s2,s3⟩;go_simp;with_reducible rfl
        rotate_left
        ·exact q70_
        refine one_ (i:=1) (N:=some 13) f20_ rfl rfl (one_of HT_.out (by kernel_rfl)) (by decide) (fun K hK=>?_);refine goes_ Tryd.func13 (by kernel_rfl) rfl #[.agg #[.string ((rd_T26 l0 x7_1).f0),.int .i64 ((rd_T26 l0 x7_1).f1),.int .i64 ((rd_T26 l0 x7_1).f2),.int .i64 ((rd_T26 l0 x7_1).f3)]] (by rfl) rfl rfl (q34_) ?_
        with_reducible refine (impl_IsPerson.calls k1 ((rd_T26 l0 x7_1).f0) ((rd_T26 l0 x7_1).f1) ((rd_T26 l0 x7_1).f2) ((rd_T26 l0 x7_1).f3) true _ A5.out).mono ?_
        rintro e w26 ⟨rfl,hb⟩;refine ⟨_,rfl,?_⟩;replace BK102:=bkB_ BK102 hb;replace HB:=Aside0.mk (below_step (q42_) hb)
        (try clear hb)
        (try clear hb2)
        (try clear hk)
        (try clear hi)
        refine hK.out _ _ ⟨(blk_cell BK102.out 0).trans rfl,(blk_cell BK102.out 1).trans rfl,(blk_cell BK102.out 2).trans rfl,(blk_cell BK102.out 3).trans rfl⟩ (fun hHeld=>?_);clear hK K;refine norm_ (a' := ?_) ?_ ?_;rotate_left
        ·show Act.put _ (some 13) _ = _;simp only [Act.put,List.setIfInBounds_toArray,List.set_cons_zero,List.set_cons_succ,i64_w,i32_w];rfl
        refine pa_ 2 14 f21_ ?_
        refine pa_ 3 15 f22_ ?_
        refine pa_ 4 16 f23_ ?_
        refine pa_ 5 17 f24_ ?_
        refine pa_ 6 18 f25_ ?_
        refine pu_ 7 19 f26_ ?_
        refine pu_ 8 20 f27_ ?_
        refine pu_ 9 21 f105_ ?_
        refine pu_ 10 22 f106_ ?_
        refine pu_ 11 23 f107_ ?_
        refine pu_ 12 24 f31_ ?_
        refine pu_ 13 25 f32_ ?_
        refine pu_ 14 26 f33_ ?_
        refine pu_ 15 27 f34_ ?_
        refine pa_ 16 28 f35_ ?_
        refine pa_ 17 29 f36_ ?_
        refine done_ (done_of HT_.out (by kernel_rfl)) ?_;try go_wp2
        go_roundg k1
        case measure=>have:=HK1.out;omega
        case rel=>exact ⟨(wrap64 (x7_1 + 1)),(q1_),H', ⟨by have:=HK1.out;omega⟩,⟨q42_⟩⟩
      ·replace c6:=Bool.eq_false_iff.mpr c6;subst c6;have H1 : (some false) = some r:=by rw [if_neg (show ¬ (false = true) by decide)] at H;exact H
       clear H;have H:=H1;clear H1;obtain rfl:=Option.some.inj H;have p101 : 0 ≤ (x7_1 : Int):=of_decide_eq_true (q2_);have q101 : x7_1 < (l0.length : Int):=of_decide_eq_true (q2_);obtain ⟨ad101,e101,hx101_0,hx101_1,hx101_2,hx101_3⟩:=at_T26 HR0.out x7_1 p101 q101;cases e101;replace hx101_0:=hB_ HB.out hx101_0;replace hx101_1:=hB_ HB.out hx101_1;replace hx101_2:=hB_ HB.out hx101_2;replace hx101_3:=hB_ HB.out hx101_3;replace p101:=eq_true p101;replace q101:=eq_true q101;try go_wp2_with (first | ((with_reducible refine gate_dst (N:=4) rfl ?_);refine box_event ?hg (N:=4) ?hd (cs:=#[.string (⟨#[]⟩ : ByteArray),.int .i64 0,.int .i64 0,.int .i64 0]) (t:=26) ?hr ?_;(case hd=>rfl);(case hg=>rfl);(case hr=>first | (go_simp;done) | (go_simp;rfl));intro gb102 hg w27 hbox hb;have BK102:=Aside0.mk (hbox);have GW102:=Aside0.mk ((q64_ : w.heap.size ≤ gb102));have GE102:=Aside0.mk ((q64_ : w.heap.size ≤ gb102));replace HB:=bS_ HB hb;clear hb hbox hg;have hcz28_0 : w27.cell? ⟨gb102,0,none⟩ = some (.string (⟨#[]⟩ : ByteArray)):=(blk_cell BK102.out 0).trans rfl;have hcz28_1 : w27.cell? ⟨gb102,1,none⟩ = some (.int .i64 0):=(blk_cell BK102.out 1).trans rfl;have hcz28_2 : w27.cell? ⟨gb102,2,none⟩ = some (.int .i64 0):=(blk_cell BK102.out 2).trans rfl;have hcz28_3 : w27.cell? ⟨gb102,3,none⟩ = some (.int .i64 0):=(blk_cell BK102.out 3).trans rfl;have hfz28_0:=blk_frozen BK102.out 0;have hfz28_1:=blk_frozen BK102.out 1;have hfz28_2:=blk_frozen BK102.out 2;have hfz28_3:=blk_frozen BK102.out 3))
       have n0_ : Aside0 (((((w27.setCell ⟨gb102,0,none⟩ (.string ((rd_T26 l0 x7_1).f0))).setCell ⟨gb102,1,none⟩ (.int .i64 ((rd_T26 l0 x7_1).f1))).setCell ⟨gb102,2,none⟩ (.int .i64 ((rd_T26 l0 x7_1).f2))).setCell ⟨gb102,3,none⟩ (.int .i64 ((rd_T26 l0 x7_1).f3))).heap[gb102]? = some (.cells #[.string ((rd_T26 l0 x7_1).f0),.int .i64 ((rd_T26 l0 x7_1).f1),.int .i64 ((rd_T26 l0 x7_1).f2),.int .i64 ((rd_T26 l0 x7_1).f3)] 26 (0,0))):=⟨q63_⟩;have n1_ : Aside0 (Below w.heap.size w ((((w27.setCell ⟨gb102,0,none⟩ (.string ((rd_T26 l0 x7_1).f0))).setCell ⟨gb102,1,none⟩ (.int .i64 ((rd_T26 l0 x7_1).f1))).setCell ⟨gb102,2,none⟩ (.int .i64 ((rd_T26 l0 x7_1).f2))).setCell ⟨gb102,3,none⟩ (.int .i64 ((rd_T26 l0 x7_1).f3)))):=⟨q42_⟩
       (try clear BK102)
       (try clear HB)
       generalize ((((w27.setCell ⟨gb102,0,none⟩ (.string ((rd_T26 l0 x7_1).f0))).setCell ⟨gb102,1,none⟩ (.int .i64 ((rd_T26 l0 x7_1).f1))).setCell ⟨gb102,2,none⟩ (.int .i64 ((rd_T26 l0 x7_1).f2))).setCell ⟨gb102,3,none⟩ (.int .i64 ((rd_T26 l0 x7_1).f3))) = w29 at n0_ n1_ ⊢;have BK102:=n0_;have HB:=n1_;clear n0_ n1_;replace BK102:=Aside0.mk (blk_drew BK102.out);replace HB:=Aside0.mk (below_drew1 HB.out);refine start_ (n:=18) (S:=fun w' => w'.cell? ⟨gb102,0,none⟩ = some (.string ((rd_T26 l0 x7_1).f0)) ∧ w'.cell? ⟨gb102,1,none⟩ = some (.int .i64 ((rd_T26 l0 x7_1).f1)) ∧ w'.cell? ⟨gb102,2,none⟩ = some (.int .i64 ((rd_T26 l0 x7_1).f2)) ∧ w'.cell? ⟨gb102,3,none⟩ = some (.int .i64 ((rd_T26 l0 x7_1).f3))) (ds:=[]) f18_ (by kernel_rfl) rfl rfl ⟨(blk_cell BK102.out 0).trans rfl,(blk_cell BK102.out 1).trans rfl,(blk_cell BK102.out 2).trans rfl,(blk_cell BK102.out 3).trans rfl⟩ (fun hHeld=>?_);refine with_tabW impl_ArePeople.tab4 impl_ArePeople.bits4 (fun HT_ HW_=>?_);generalize w29.drew = w30 at BK102 HB hHeld ⊢;refine take_ (i:=0) (N:=some 12) (v:=?_) (a' := ?_) f19_ rfl rfl (take_ofW HT_.out HW_.out (by kernel_rfl)) (fun _ _ _ h=>h) (Or.inl ⟨by rfl,?_⟩) hHeld ?_ ?_;rotate_left
       ·rintro w' ⟨s0,s1,s2,s3⟩;go_simp;with_reducible rfl
       rotate_left
       ·exact q70_
       refine one_ (i:=1) (N:=some 13) f20_ rfl rfl (one_of HT_.out (by kernel_rfl)) (by decide) (fun K hK=>?_);refine goes_ Tryd.func13 (by kernel_rfl) rfl #[.agg #[.string ((rd_T26 l0 x7_1).f0),.int .i64 ((rd_T26 l0 x7_1).f1),.int .i64 ((rd_T26 l0 x7_1).f2),.int .i64 ((rd_T26 l0 x7_1).f3)]] (by rfl) rfl rfl (q34_) ?_
       with_reducible refine (impl_IsPerson.calls k1 ((rd_T26 l0 x7_1).f0) ((rd_T26 l0 x7_1).f1) ((rd_T26 l0 x7_1).f2) ((rd_T26 l0 x7_1).f3) false _ A5.out).mono ?_
       rintro e w31 ⟨rfl,hb⟩;refine ⟨_,rfl,?_⟩;replace BK102:=bkB_ BK102 hb;replace HB:=Aside0.mk (below_step (q42_) hb)
       (try clear hb)
       (try clear hb2)
       (try clear hk)
       (try clear hi)
       refine hK.out _ _ ⟨(blk_cell BK102.out 0).trans rfl,(blk_cell BK102.out 1).trans rfl,(blk_cell BK102.out 2).trans rfl,(blk_cell BK102.out 3).trans rfl⟩ (fun hHeld=>?_);clear hK K;refine norm_ (a' := ?_) ?_ ?_;rotate_left
       ·show Act.put _ (some 13) _ = _;simp only [Act.put,List.setIfInBounds_toArray,List.set_cons_zero,List.set_cons_succ,i64_w,i32_w];rfl
       refine pa_ 2 14 f21_ ?_
       refine pa_ 3 15 f22_ ?_
       refine pu_ 4 16 f23_ ?_
       refine pu_ 5 17 f24_ ?_
       refine pu_ 6 18 f25_ ?_
       refine pu_ 7 19 f26_ ?_
       refine pu_ 8 20 f27_ ?_
       refine pu_ 9 21 f105_ ?_
       refine pu_ 10 22 f106_ ?_
       refine pu_ 11 23 f107_ ?_
       refine pu_ 12 24 f31_ ?_
       refine pu_ 13 25 f32_ ?_
       refine pu_ 14 26 f33_ ?_
       refine pu_ 15 27 f34_ ?_
       refine pu_ 16 28 f35_ ?_
       refine pa_ 17 29 f36_ ?_
       refine done_ (done_of HT_.out (by kernel_rfl)) ?_;try go_wp2
       go_ret;exact ⟨q4_,q42_⟩
     ·rw [if_neg c4] at H;exact absurd H (by simp)
    ·rw [if_neg c3] at H;exact absurd H (by simp)
   ·rw [if_neg c2] at H;have c2b0 : decide (x7_1 < (l0.length : Int)) = false:=decide_eq_false c2;clear c2;obtain rfl:=Option.some.inj H;go_wp2;go_ret;exact ⟨q4_,q33_⟩
end Go.Proofs.YtpdcopbnhaoilaaDoor.G
