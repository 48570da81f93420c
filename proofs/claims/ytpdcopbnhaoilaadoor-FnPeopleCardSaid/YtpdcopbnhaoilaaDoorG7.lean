-- Written by this session's own program over the kit's print (wip/tools/myprint.py); Lean checks it.
import Derived.Test.YtpdcopbnhaoilaaDoorMBase
import Derived.Test.YtpdcopbnhaoilaaDoorG0
import Derived.Test.YtpdcopbnhaoilaaDoorG1
import Derived.Test.YtpdcopbnhaoilaaDoorG6
namespace Go.Proofs.YtpdcopbnhaoilaaDoor.G
open Go.RowKit Go.Proofs.YtpdcopbnhaoilaaDoorW.PrintWords Go.Proofs.YtpdcopbnhaoilaaDoorW.PrintLast Go.Proofs.YtpdcopbnhaoilaaDoorW.PrintMore
attribute [local go_sem] max2_int min2_int max_two min_two max_three min_three max_four min_four str_geq str_gtr str_leq   -- for this text's walks alone
set_option linter.unusedVariables false
set_option linter.unusedSimpArgs false
/-! ### spec_PeopleText: function 23 -/
def spec_PeopleText.l0 : Nat → ByteArray → List (S26) → Int → Int → Option (ByteArray × Bool)
 | 0,_,_,_,_=>none
 | k + 1,x4,x10,x11,x12=>if x12 < x11 then (if 0 ≤ x12 then (if x12 < (x10.length : Int) then (if ((rd_T26 x10 x12).f0).size + 1 ≤ 9223372036854775807 then (if 0 ≤ ((rd_T26 x10 x12).f1) then (if ((rd_T26 x10 x12).f1) ≤ (wrap64 (((rd_T26 x10 x12).f1) + 1)) then (if (wrap64 (((rd_T26 x10 x12).f1) + 1)) ≤ 26 then (if (((rd_T26 x10 x12).f0) ++ (⟨#[32]⟩ : ByteArray)).size + ((⟨#[97,98,99,100,101,102,103,104,105,106,107,108,109,110,111,112,113,114,115,116,117,118,119,120,121,122]⟩ : ByteArray).extract (((rd_T26 x10 x12).f1) : Int).toNat ((wrap64 (((rd_T26 x10 x12).f1) + 1)) : Int).toNat).size ≤ 9223372036854775807 then ((spec_l1Num.f k ((rd_T26 x10 x12).f2)).bind fun t104=>(if ((((rd_T26 x10 x12).f0) ++ (⟨#[32]⟩ : ByteArray)) ++ ((⟨#[97,98,99,100,101,102,103,104,105,106,107,108,109,110,111,112,113,114,115,116,117,118,119,120,121,122]⟩ : ByteArray).extract (((rd_T26 x10 x12).f1) : Int).toNat ((wrap64 (((rd_T26 x10 x12).f1) + 1)) : Int).toNat)).size + t104.size ≤ 9223372036854775807 then (if (((((rd_T26 x10 x12).f0) ++ (⟨#[32]⟩ : ByteArray)) ++ ((⟨#[97,98,99,100,101,102,103,104,105,106,107,108,109,110,111,112,113,114,115,116,117,118,119,120,121,122]⟩ : ByteArray).extract (((rd_T26 x10 x12).f1) : Int).toNat ((wrap64 (((rd_T26 x10 x12).f1) + 1)) : Int).toNat)) ++ t104).size + 1 ≤ 9223372036854775807 then ((spec_l1Num.f k ((rd_T26 x10 x12).f3)).bind fun t105=>(if ((((((rd_T26 x10 x12).f0) ++ (⟨#[32]⟩ : ByteArray)) ++ ((⟨#[97,98,99,100,101,102,103,104,105,106,107,108,109,110,111,112,113,114,115,116,117,118,119,120,121,122]⟩ : ByteArray).extract (((rd_T26 x10 x12).f1) : Int).toNat ((wrap64 (((rd_T26 x10 x12).f1) + 1)) : Int).toNat)) ++ t104) ++ (⟨#[64]⟩ : ByteArray)).size + t105.size ≤ 9223372036854775807 then (if (((((((rd_T26 x10 x12).f0) ++ (⟨#[32]⟩ : ByteArray)) ++ ((⟨#[97,98,99,100,101,102,103,104,105,106,107,108,109,110,111,112,113,114,115,116,117,118,119,120,121,122]⟩ : ByteArray).extract (((rd_T26 x10 x12).f1) : Int).toNat ((wrap64 (((rd_T26 x10 x12).f1) + 1)) : Int).toNat)) ++ t104) ++ (⟨#[64]⟩ : ByteArray)) ++ t105).size + 1 ≤ 9223372036854775807 then (if x4.size + ((((((((rd_T26 x10 x12).f0) ++ (⟨#[32]⟩ : ByteArray)) ++ ((⟨#[97,98,99,100,101,102,103,104,105,106,107,108,109,110,111,112,113,114,115,116,117,118,119,120,121,122]⟩ : ByteArray).extract (((rd_T26 x10 x12).f1) : Int).toNat ((wrap64 (((rd_T26 x10 x12).f1) + 1)) : Int).toNat)) ++ t104) ++ (⟨#[64]⟩ : ByteArray)) ++ t105) ++ (⟨#[59]⟩ : ByteArray)).size ≤ 9223372036854775807 then (spec_PeopleText.l0 k (x4 ++ ((((((((rd_T26 x10 x12).f0) ++ (⟨#[32]⟩ : ByteArray)) ++ ((⟨#[97,98,99,100,101,102,103,104,105,106,107,108,109,110,111,112,113,114,115,116,117,118,119,120,121,122]⟩ : ByteArray).extract (((rd_T26 x10 x12).f1) : Int).toNat ((wrap64 (((rd_T26 x10 x12).f1) + 1)) : Int).toNat)) ++ t104) ++ (⟨#[64]⟩ : ByteArray)) ++ t105) ++ (⟨#[59]⟩ : ByteArray))) x10 x11 (wrap64 (x12 + 1))) else (none)) else (none)) else (none))) else (none)) else (none))) else (none)) else (none)) else (none)) else (none)) else (none)) else (none)) else (none)) else (some (x4,true))
def spec_PeopleText.f (k : Nat) (l0 : List (S26)) : Option (ByteArray × Bool):=(spec_naGood.f k l0).bind fun t101=>(if t101 = true then (spec_PeopleText.l0 k (⟨#[]⟩ : ByteArray) l0 (l0.length : Int) 0) else (some ((⟨#[]⟩ : ByteArray),false)))
def spec_PeopleText.T7 : Bool × List (List Nat × List Nat):=(true,[([],[]),([],[]),([1],[1]),([2],[2]),([],[]),([4],[4]),([],[]),([6],[6]),([7],[7]),([5,8],[5,8]),([3,9],[3,9]),([],[]),([11],[11]),([12],[12]),([10,13],[10,13]),([14],[14]),([],[]),([16],[16]),([17,13],[17]),([15,18],[15,18]),([19],[19]),([0,20],[0,20]),([21,18,0,1,2,3,4,5,6,7,8,9,10,11,12,13,14,15,16,17,18,19,20,21],[0,21])])
def spec_PeopleText.B7 : List Nat:=[0,0,2,6,0,16,0,64,192,496,1022,0,2048,6144,16382,32766,0,65536,210944,524286,1048574,2097151,4194303]
theorem spec_PeopleText.tab7 : rtab .any (opsOf Tryd.f23 7) = spec_PeopleText.T7:=by kernel_rfl
theorem spec_PeopleText.bits7 : waitsOk spec_PeopleText.T7.2 spec_PeopleText.B7 = true:=by kernel_rfl
set_option maxHeartbeats 8000000 in
set_option maxRecDepth 100000 in
theorem spec_PeopleText.calls (k : Nat) (A0 : Option Addr) (c0 : Nat) (l0 : List (S26)) (r1 : ByteArray) (r2 : Bool) (w : World) (hr0 : Kd.C k26 w A0 l0.length l0) (hc0 : l0.length ≤ c0) (h : spec_PeopleText.f k l0 = some (r1,r2)) :
  Calls Tryd.prog 23 #[.slice A0 l0.length c0] w fun e w' => e = .returned (.tuple #[.string r1,.bool r2]) ∧ Below w.heap.size w w' := by
 have hu26:=Tryd.underlying26;have HR0:=Aside0.mk hr0;have HC0:=Aside0.mk hc0;clear hr0 hc0;have HB:=Aside0.mk (Below.refl w.heap.size w);have H : ((spec_naGood.f k l0).bind fun t101=>(if t101 = true then (spec_PeopleText.l0 k (⟨#[]⟩ : ByteArray) l0 (l0.length : Int) 0) else (some ((⟨#[]⟩ : ByteArray),false)))) = some (r1,r2):=h;clear h;replace H:=Option.bind_eq_some_iff.mp H;obtain ⟨t101,A20,H⟩:=H;(try dsimp only at H);have A2:=Aside0.mk A20;clear A20;by_cases c3 : t101 = true
 ·subst c3;have H1 : (spec_PeopleText.l0 k (⟨#[]⟩ : ByteArray) l0 (l0.length : Int) 0) = some (r1,r2):=by rw [if_pos rfl] at H;exact H
  clear H;have H:=H1;clear H1;have H' := Aside0.mk H;clear H;go_enter Tryd.func23,Tryd.ntmps23
  go_wp2_with (first | ((with_reducible refine gate_callee (f:=43) rfl ?_);refine goesL_ (some 8) rfl rfl Tryd.func43 (by kernel_rfl) rfl #[.slice A0 l0.length c0] rfl (q34_) ?_;(with_reducible refine (spec_naGood.calls k _ _ l0 true _ ?side1 ?side2 A2.out).mono ?_);(case side1=>exact cX_ HR0.out);(case side2=>exact HC0.out);rintro e w4 ⟨rfl,hb⟩;refine ⟨_,rfl,?_⟩;replace HB:=bS_ HB hb;(try clear hb)))
  go_loopg [4,12] k (fun kq v4 v12 w' => ∃ (x4_1 : ByteArray) (x12_1 : Int),v4 = .string x4_1 ∧ v12 = .int .i64 x12_1 ∧ Aside0 (spec_PeopleText.l0 kq x4_1 l0 (l0.length : Int) x12_1 = some (r1,r2)) ∧ Aside0 (kq ≤ k) ∧ Aside0 (Below w.heap.size w w'))
  case atStart=>exact ⟨((⟨#[]⟩ : ByteArray)),(0),(q1_),(q1_),H', ⟨Nat.le_refl _⟩,⟨q33_⟩⟩
  case round =>
   clear H';try clear c3
   obtain ⟨x4_1,x12_1,rfl,rfl,HA,HK1,HB⟩:=hrel;cases gk with
   | zero=>exact absurd HA.out (by simp [spec_PeopleText.l0])
   | succ k1 =>
    have H:=HA.out;clear HA;simp only [spec_PeopleText.l0] at H;by_cases c5 : x12_1 < (l0.length : Int)
    ·rw [if_pos c5] at H;have c5b0 : decide (x12_1 < (l0.length : Int)) = true:=decide_eq_true c5;clear c5;by_cases c6 : 0 ≤ x12_1
     ·rw [if_pos c6] at H;have c6b0 : decide (0 ≤ x12_1) = true:=decide_eq_true c6;clear c6;by_cases c7 : x12_1 < (l0.length : Int)
      ·rw [if_pos c7] at H;have c7b0 : decide (x12_1 < (l0.length : Int)) = true:=decide_eq_true c7;clear c7;by_cases c8 : ((rd_T26 l0 x12_1).f0).size + 1 ≤ 9223372036854775807
       ·rw [if_pos c8] at H;have c8b0:=eq_true c8;have c8b1 : decide (((rd_T26 l0 x12_1).f0).size + 1 ≤ 9223372036854775807) = true:=decide_eq_true c8;try have c8b2 : (9223372036854775807 < ((rd_T26 l0 x12_1).f0).size + 1) = False:=eq_false (Nat.not_lt.2 c8)
        by_cases c9 : 0 ≤ ((rd_T26 l0 x12_1).f1)
        ·rw [if_pos c9] at H;have c9b0:=eq_true c9;have c9b1 : decide (0 ≤ ((rd_T26 l0 x12_1).f1)) = true:=decide_eq_true c9;clear c9;by_cases c10 : ((rd_T26 l0 x12_1).f1) ≤ (wrap64 (((rd_T26 l0 x12_1).f1) + 1))
         ·rw [if_pos c10] at H;have c10b0:=eq_true c10;have c10b1 : decide (((rd_T26 l0 x12_1).f1) ≤ (wrap64 (((rd_T26 l0 x12_1).f1) + 1))) = true:=decide_eq_true c10;by_cases c11 : (wrap64 (((rd_T26 l0 x12_1).f1) + 1)) ≤ 26
          ·rw [if_pos c11] at H;have c11b0:=eq_true c11;have c11b1 : decide ((wrap64 (((rd_T26 l0 x12_1).f1) + 1)) ≤ 26) = true:=decide_eq_true c11;obtain ⟨ex_,hex_⟩ : ∃ z_ : ByteArray,((⟨#[97,98,99,100,101,102,103,104,105,106,107,108,109,110,111,112,113,114,115,116,117,118,119,120,121,122]⟩ : ByteArray).extract (((rd_T26 l0 x12_1).f1) : Int).toNat ((wrap64 (((rd_T26 l0 x12_1).f1) + 1)) : Int).toNat) = z_:=⟨_,rfl⟩;rw [hex_] at H;by_cases c12 : (((rd_T26 l0 x12_1).f0) ++ (⟨#[32]⟩ : ByteArray)).size + ex_.size ≤ 9223372036854775807
           ·rw [if_pos c12] at H;have c12b0:=eq_true c12;have c12b1 : decide ((((rd_T26 l0 x12_1).f0) ++ (⟨#[32]⟩ : ByteArray)).size + ex_.size ≤ 9223372036854775807) = true:=decide_eq_true c12;try have c12b2 : (9223372036854775807 < (((rd_T26 l0 x12_1).f0) ++ (⟨#[32]⟩ : ByteArray)).size + ex_.size) = False:=eq_false (Nat.not_lt.2 c12)
            try have c12b3 : (9223372036854775807 < ((rd_T26 l0 x12_1).f0).size + 1 + (ex_).size) = False:=eq_false (Nat.not_lt.2 (by have h:=c12;simp only [ByteArray.size_append] at h;exact h))
            replace H:=Option.bind_eq_some_iff.mp H;obtain ⟨t104,A130,H⟩:=H;(try dsimp only at H);have A13:=Aside0.mk A130;clear A130;by_cases c14 : ((((rd_T26 l0 x12_1).f0) ++ (⟨#[32]⟩ : ByteArray)) ++ ex_).size + t104.size ≤ 9223372036854775807
            ·rw [if_pos c14] at H;have c14b0:=eq_true c14;have c14b1 : decide (((((rd_T26 l0 x12_1).f0) ++ (⟨#[32]⟩ : ByteArray)) ++ ex_).size + t104.size ≤ 9223372036854775807) = true:=decide_eq_true c14;try have c14b2 : (9223372036854775807 < ((((rd_T26 l0 x12_1).f0) ++ (⟨#[32]⟩ : ByteArray)) ++ ex_).size + t104.size) = False:=eq_false (Nat.not_lt.2 c14)
             try have c14b3 : (9223372036854775807 < ((rd_T26 l0 x12_1).f0).size + 1 + (ex_).size + (t104).size) = False:=eq_false (Nat.not_lt.2 (by have h:=c14;simp only [ByteArray.size_append] at h;exact h))
             by_cases c15 : (((((rd_T26 l0 x12_1).f0) ++ (⟨#[32]⟩ : ByteArray)) ++ ex_) ++ t104).size + 1 ≤ 9223372036854775807
             ·rw [if_pos c15] at H;have c15b0:=eq_true c15;have c15b1 : decide ((((((rd_T26 l0 x12_1).f0) ++ (⟨#[32]⟩ : ByteArray)) ++ ex_) ++ t104).size + 1 ≤ 9223372036854775807) = true:=decide_eq_true c15;try have c15b2 : (9223372036854775807 < (((((rd_T26 l0 x12_1).f0) ++ (⟨#[32]⟩ : ByteArray)) ++ ex_) ++ t104).size + 1) = False:=eq_false (Nat.not_lt.2 c15)
              try have c15b3 : (9223372036854775807 < ((rd_T26 l0 x12_1).f0).size + 1 + (ex_).size + (t104).size + 1) = False:=eq_false (Nat.not_lt.2 (by have h:=c15;simp only [ByteArray.size_append] at h;exact h))
              replace H:=Option.bind_eq_some_iff.mp H;obtain ⟨t105,A160,H⟩:=H;(try dsimp only at H);have A16:=Aside0.mk A160;clear A160;by_cases c17 : ((((((rd_T26 l0 x12_1).f0) ++ (⟨#[32]⟩ : ByteArray)) ++ ex_) ++ t104) ++ (⟨#[64]⟩ : ByteArray)).size + t105.size ≤ 9223372036854775807
              ·rw [if_pos c17] at H;have c17b0:=eq_true c17;have c17b1 : decide (((((((rd_T26 l0 x12_1).f0) ++ (⟨#[32]⟩ : ByteArray)) ++ ex_) ++ t104) ++ (⟨#[64]⟩ : ByteArray)).size + t105.size ≤ 9223372036854775807) = true:=decide_eq_true c17;try have c17b2 : (9223372036854775807 < ((((((rd_T26 l0 x12_1).f0) ++ (⟨#[32]⟩ : ByteArray)) ++ ex_) ++ t104) ++ (⟨#[64]⟩ : ByteArray)).size + t105.size) = False:=eq_false (Nat.not_lt.2 c17)
               try have c17b3 : (9223372036854775807 < ((rd_T26 l0 x12_1).f0).size + 1 + (ex_).size + (t104).size + 1 + (t105).size) = False:=eq_false (Nat.not_lt.2 (by have h:=c17;simp only [ByteArray.size_append] at h;exact h))
               by_cases c18 : (((((((rd_T26 l0 x12_1).f0) ++ (⟨#[32]⟩ : ByteArray)) ++ ex_) ++ t104) ++ (⟨#[64]⟩ : ByteArray)) ++ t105).size + 1 ≤ 9223372036854775807
               ·rw [if_pos c18] at H;have c18b0:=eq_true c18;have c18b1 : decide ((((((((rd_T26 l0 x12_1).f0) ++ (⟨#[32]⟩ : ByteArray)) ++ ex_) ++ t104) ++ (⟨#[64]⟩ : ByteArray)) ++ t105).size + 1 ≤ 9223372036854775807) = true:=decide_eq_true c18;try have c18b2 : (9223372036854775807 < (((((((rd_T26 l0 x12_1).f0) ++ (⟨#[32]⟩ : ByteArray)) ++ ex_) ++ t104) ++ (⟨#[64]⟩ : ByteArray)) ++ t105).size + 1) = False:=eq_false (Nat.not_lt.2 c18)
                try have c18b3 : (9223372036854775807 < ((rd_T26 l0 x12_1).f0).size + 1 + (ex_).size + (t104).size + 1 + (t105).size + 1) = False:=eq_false (Nat.not_lt.2 (by have h:=c18;simp only [ByteArray.size_append] at h;exact h))
                by_cases c19 : x4_1.size + ((((((((rd_T26 l0 x12_1).f0) ++ (⟨#[32]⟩ : ByteArray)) ++ ex_) ++ t104) ++ (⟨#[64]⟩ : ByteArray)) ++ t105) ++ (⟨#[59]⟩ : ByteArray)).size ≤ 9223372036854775807
                ·rw [if_pos c19] at H;have c19b0:=eq_true c19;have c19b1 : decide (x4_1.size + ((((((((rd_T26 l0 x12_1).f0) ++ (⟨#[32]⟩ : ByteArray)) ++ ex_) ++ t104) ++ (⟨#[64]⟩ : ByteArray)) ++ t105) ++ (⟨#[59]⟩ : ByteArray)).size ≤ 9223372036854775807) = true:=decide_eq_true c19;try have c19b2 : (9223372036854775807 < x4_1.size + ((((((((rd_T26 l0 x12_1).f0) ++ (⟨#[32]⟩ : ByteArray)) ++ ex_) ++ t104) ++ (⟨#[64]⟩ : ByteArray)) ++ t105) ++ (⟨#[59]⟩ : ByteArray)).size) = False:=eq_false (Nat.not_lt.2 c19)
                 try have c19b3 : (9223372036854775807 < (x4_1).size + (((rd_T26 l0 x12_1).f0).size + 1 + (ex_).size + (t104).size + 1 + (t105).size + 1)) = False:=eq_false (Nat.not_lt.2 (by have h:=c19;simp only [ByteArray.size_append] at h;exact h))
                 have H' := Aside0.mk H;clear H;have p102 : 0 ≤ (x12_1 : Int):=of_decide_eq_true (q2_);have q102 : x12_1 < (l0.length : Int):=of_decide_eq_true (q2_);obtain ⟨ad102,e102,hx102_0,hx102_1,hx102_2,hx102_3⟩:=at_T26 HR0.out x12_1 p102 q102;cases e102;replace hx102_0:=hB_ HB.out hx102_0;replace hx102_1:=hB_ HB.out hx102_1;replace hx102_2:=hB_ HB.out hx102_2;replace hx102_3:=hB_ HB.out hx102_3;replace p102:=eq_true p102;replace q102:=eq_true q102;try go_wp2_with (first | ((with_reducible refine gate_dst (N:=6) rfl ?_);refine box_event ?hg (N:=6) ?hd (cs:=#[.string (⟨#[]⟩ : ByteArray),.int .i64 0,.int .i64 0,.int .i64 0]) (t:=26) ?hr ?_;(case hd=>rfl);(case hg=>rfl);(case hr=>first | (go_simp;done) | (go_simp;rfl));intro gb103 hg w20 hbox hb;have BK103:=Aside0.mk (hbox);have GW103:=Aside0.mk ((q64_ : w.heap.size ≤ gb103));have GE103:=Aside0.mk ((q64_ : w.heap.size ≤ gb103));replace HB:=bS_ HB hb;clear hb hbox hg;have hcz21_0 : w20.cell? ⟨gb103,0,none⟩ = some (.string (⟨#[]⟩ : ByteArray)):=(blk_cell BK103.out 0).trans rfl;have hcz21_1 : w20.cell? ⟨gb103,1,none⟩ = some (.int .i64 0):=(blk_cell BK103.out 1).trans rfl;have hcz21_2 : w20.cell? ⟨gb103,2,none⟩ = some (.int .i64 0):=(blk_cell BK103.out 2).trans rfl;have hcz21_3 : w20.cell? ⟨gb103,3,none⟩ = some (.int .i64 0):=(blk_cell BK103.out 3).trans rfl;have hfz21_0:=blk_frozen BK103.out 0;have hfz21_1:=blk_frozen BK103.out 1;have hfz21_2:=blk_frozen BK103.out 2;have hfz21_3:=blk_frozen BK103.out 3))
                 have n0_ : Aside0 (((((w20.setCell ⟨gb103,0,none⟩ (.string ((rd_T26 l0 x12_1).f0))).setCell ⟨gb103,1,none⟩ (.int .i64 ((rd_T26 l0 x12_1).f1))).setCell ⟨gb103,2,none⟩ (.int .i64 ((rd_T26 l0 x12_1).f2))).setCell ⟨gb103,3,none⟩ (.int .i64 ((rd_T26 l0 x12_1).f3))).heap[gb103]? = some (.cells #[.string ((rd_T26 l0 x12_1).f0),.int .i64 ((rd_T26 l0 x12_1).f1),.int .i64 ((rd_T26 l0 x12_1).f2),.int .i64 ((rd_T26 l0 x12_1).f3)] 26 (0,0))):=⟨by (with_reducible repeat (first | refine blk_drewN ?_ _ | refine blk_drew ?_ | refine blk_alloc ?_ _));refine blk_put (cs:=#[.string ((rd_T26 l0 x12_1).f0),.int .i64 ((rd_T26 l0 x12_1).f1),.int .i64 ((rd_T26 l0 x12_1).f2),.int .i64 0]) ?_ 3 _ rfl;(with_reducible repeat (first | refine blk_drewN ?_ _ | refine blk_drew ?_ | refine blk_alloc ?_ _));refine blk_put (cs:=#[.string ((rd_T26 l0 x12_1).f0),.int .i64 ((rd_T26 l0 x12_1).f1),.int .i64 0,.int .i64 0]) ?_ 2 _ rfl;(with_reducible repeat (first | refine blk_drewN ?_ _ | refine blk_drew ?_ | refine blk_alloc ?_ _));refine blk_put (cs:=#[.string ((rd_T26 l0 x12_1).f0),.int .i64 0,.int .i64 0,.int .i64 0]) ?_ 1 _ rfl;(with_reducible repeat (first | refine blk_drewN ?_ _ | refine blk_drew ?_ | refine blk_alloc ?_ _));refine blk_put (cs:=#[.string (⟨#[]⟩ : ByteArray),.int .i64 0,.int .i64 0,.int .i64 0]) ?_ 0 _ rfl;(with_reducible repeat (first | refine blk_drewN ?_ _ | refine blk_drew ?_ | refine blk_alloc ?_ _));exact BK103.out⟩;have n1_ : Aside0 (Below w.heap.size w ((((w20.setCell ⟨gb103,0,none⟩ (.string ((rd_T26 l0 x12_1).f0))).setCell ⟨gb103,1,none⟩ (.int .i64 ((rd_T26 l0 x12_1).f1))).setCell ⟨gb103,2,none⟩ (.int .i64 ((rd_T26 l0 x12_1).f2))).setCell ⟨gb103,3,none⟩ (.int .i64 ((rd_T26 l0 x12_1).f3)))):=⟨q41_⟩
                 (try clear BK103)
                 (try clear HB)
                 generalize ((((w20.setCell ⟨gb103,0,none⟩ (.string ((rd_T26 l0 x12_1).f0))).setCell ⟨gb103,1,none⟩ (.int .i64 ((rd_T26 l0 x12_1).f1))).setCell ⟨gb103,2,none⟩ (.int .i64 ((rd_T26 l0 x12_1).f2))).setCell ⟨gb103,3,none⟩ (.int .i64 ((rd_T26 l0 x12_1).f3))) = w22 at n0_ n1_ ⊢;have BK103:=n0_;have HB:=n1_;clear n0_ n1_;replace BK103:=Aside0.mk (blk_drew BK103.out);replace HB:=Aside0.mk (below_drew1 HB.out);refine start_ (n:=23) (S:=fun w' => w'.cell? ⟨gb103,0,none⟩ = some (.string ((rd_T26 l0 x12_1).f0)) ∧ w'.cell? ⟨gb103,1,none⟩ = some (.int .i64 ((rd_T26 l0 x12_1).f1)) ∧ w'.cell? ⟨gb103,2,none⟩ = some (.int .i64 ((rd_T26 l0 x12_1).f2)) ∧ w'.cell? ⟨gb103,3,none⟩ = some (.int .i64 ((rd_T26 l0 x12_1).f3))) (ds:=[]) f41_ (by kernel_rfl) rfl rfl ⟨(blk_cell BK103.out 0).trans rfl,(blk_cell BK103.out 1).trans rfl,(blk_cell BK103.out 2).trans rfl,(blk_cell BK103.out 3).trans rfl⟩ (fun hHeld=>?_);refine with_tabW spec_PeopleText.tab7 spec_PeopleText.bits7 (fun HT_ HW_=>?_);generalize w22.drew = w23 at BK103 HB hHeld ⊢;refine pure_ (i:=0) (N:=some 16) (v:=?_) (a' := ?_) f42_ rfl rfl (any_of HT_.out (by kernel_rfl)) (fun _ _ _ h=>h) (Or.inl ⟨by rfl,?_⟩) ?_ ?_;rotate_left
                 ·intro w';go_simp;with_reducible rfl
                 rotate_left
                 ·exact q70_
                 refine pa_ 1 17 f43_ ?_
                 refine pa_ 4 20 f44_ ?_
                 refine pa_ 6 22 f45_ ?_
                 refine pa_ 11 27 f46_ ?_
                 refine pa_ 16 32 f47_ ?_
                 refine take_ (i:=2) (N:=some 18) (v:=?_) (a' := ?_) f48_ rfl rfl (take_ofW HT_.out HW_.out (by kernel_rfl)) (fun _ _ _ h=>h) (Or.inl ⟨by rfl,?_⟩) hHeld ?_ ?_;rotate_left
                 ·rintro w' ⟨s0,s1,s2,s3⟩;go_simp;with_reducible rfl
                 rotate_left
                 ·exact q70_
                 refine pa_ 3 19 f49_ ?_
                 refine take_ (i:=5) (N:=some 21) (v:=?_) (a' := ?_) f50_ rfl rfl (take_ofW HT_.out HW_.out (by kernel_rfl)) (fun _ _ _ h=>h) (Or.inl ⟨by rfl,?_⟩) hHeld ?_ ?_;rotate_left
                 ·rintro w' ⟨s0,s1,s2,s3⟩;go_simp;with_reducible rfl
                 rotate_left
                 ·exact q70_
                 refine take_ (i:=7) (N:=some 23) (v:=?_) (a' := ?_) f51_ rfl rfl (take_ofW HT_.out HW_.out (by kernel_rfl)) (fun _ _ _ h=>h) (Or.inl ⟨by rfl,?_⟩) hHeld ?_ ?_;rotate_left
                 ·rintro w' ⟨s0,s1,s2,s3⟩;go_simp;with_reducible rfl
                 rotate_left
                 ·exact q70_
                 refine pa_ 8 24 f52_ ?_
                 refine pa_ 9 25 f53_ ?_
                 refine pa_ 10 26 f54_ ?_
                 refine take_ (i:=12) (N:=some 28) (v:=?_) (a' := ?_) f55_ rfl rfl (take_ofW HT_.out HW_.out (by kernel_rfl)) (fun _ _ _ h=>h) (Or.inl ⟨by rfl,?_⟩) hHeld ?_ ?_;rotate_left
                 ·rintro w' ⟨s0,s1,s2,s3⟩;go_simp;with_reducible rfl
                 rotate_left
                 ·exact q70_
                 refine take_ (i:=17) (N:=some 33) (v:=?_) (a' := ?_) f56_ rfl rfl (take_ofW HT_.out HW_.out (by kernel_rfl)) (fun _ _ _ h=>h) (Or.inl ⟨by rfl,?_⟩) hHeld ?_ ?_;rotate_left
                 ·rintro w' ⟨s0,s1,s2,s3⟩;go_simp;with_reducible rfl
                 rotate_left
                 ·exact q70_
                 refine one_ (i:=13) (N:=some 29) f57_ rfl rfl (one_of HT_.out (by kernel_rfl)) (by decide) (fun K hK=>?_);refine goes_ Tryd.func56 (by kernel_rfl) rfl #[.int .i64 ((rd_T26 l0 x12_1).f2)] (by rfl) rfl rfl (q34_) ?_
                 with_reducible refine (spec_l1Num.calls k1 ((rd_T26 l0 x12_1).f2) t104 _ A13.out).mono ?_
                 rintro e w24 ⟨rfl,hb⟩;refine ⟨_,rfl,?_⟩;replace BK103:=bkB_ BK103 hb;replace HB:=Aside0.mk (below_step (q41_) hb)
                 (try clear hb)
                 (try clear hb2)
                 (try clear hk)
                 (try clear hi)
                 refine hK.out _ _ ⟨(blk_cell BK103.out 0).trans rfl,(blk_cell BK103.out 1).trans rfl,(blk_cell BK103.out 2).trans rfl,(blk_cell BK103.out 3).trans rfl⟩ (fun hHeld=>?_);clear hK K;refine norm_ (a' := ?_) ?_ ?_;rotate_left
                 ·show Act.put _ (some 29) _ = _;simp only [Act.put,List.setIfInBounds_toArray,List.set_cons_zero,List.set_cons_succ,i64_w,i32_w];rfl
                 refine pa_ 14 30 f58_ ?_
                 refine pa_ 15 31 f59_ ?_
                 refine one_ (i:=18) (N:=some 34) f60_ rfl rfl (one_of HT_.out (by kernel_rfl)) (by decide) (fun K hK=>?_);refine goes_ Tryd.func56 (by kernel_rfl) rfl #[.int .i64 ((rd_T26 l0 x12_1).f3)] (by rfl) rfl rfl (q34_) ?_
                 with_reducible refine (spec_l1Num.calls k1 ((rd_T26 l0 x12_1).f3) t105 _ A16.out).mono ?_
                 rintro e w25 ⟨rfl,hb⟩;refine ⟨_,rfl,?_⟩;replace BK103:=bkB_ BK103 hb;replace HB:=Aside0.mk (below_step (q41_) hb)
                 (try clear hb)
                 (try clear hb2)
                 (try clear hk)
                 (try clear hi)
                 refine hK.out _ _ ⟨(blk_cell BK103.out 0).trans rfl,(blk_cell BK103.out 1).trans rfl,(blk_cell BK103.out 2).trans rfl,(blk_cell BK103.out 3).trans rfl⟩ (fun hHeld=>?_);clear hK K;refine norm_ (a' := ?_) ?_ ?_;rotate_left
                 ·show Act.put _ (some 34) _ = _;simp only [Act.put,List.setIfInBounds_toArray,List.set_cons_zero,List.set_cons_succ,i64_w,i32_w];rfl
                 refine pa_ 19 35 f61_ ?_
                 refine pa_ 20 36 f62_ ?_
                 refine pa_ 21 37 f63_ ?_
                 refine pa_ 22 4 f64_ ?_
                 refine done_ (done_of HT_.out (by kernel_rfl)) ?_;try go_wp2
                 go_roundg k1
                 case measure=>have:=HK1.out;omega
                 case rel=>exact ⟨(x4_1 ++ ((((((((rd_T26 l0 x12_1).f0) ++ (⟨#[32]⟩ : ByteArray)) ++ ex_) ++ t104) ++ (⟨#[64]⟩ : ByteArray)) ++ t105) ++ (⟨#[59]⟩ : ByteArray))),(wrap64 (x12_1 + 1)),(q1_),(q1_),H', ⟨by have:=HK1.out;omega⟩,⟨q41_⟩⟩
                ·rw [if_neg c19] at H;exact absurd H (by simp)
               ·rw [if_neg c18] at H;exact absurd H (by simp)
              ·rw [if_neg c17] at H;exact absurd H (by simp)
             ·rw [if_neg c15] at H;exact absurd H (by simp)
            ·rw [if_neg c14] at H;exact absurd H (by simp)
           ·rw [if_neg c12] at H;exact absurd H (by simp)
          ·rw [if_neg c11] at H;exact absurd H (by simp)
         ·rw [if_neg c10] at H;exact absurd H (by simp)
        ·rw [if_neg c9] at H;exact absurd H (by simp)
       ·rw [if_neg c8] at H;exact absurd H (by simp)
      ·rw [if_neg c7] at H;exact absurd H (by simp)
     ·rw [if_neg c6] at H;exact absurd H (by simp)
    ·rw [if_neg c5] at H;have c5b0 : decide (x12_1 < (l0.length : Int)) = false:=decide_eq_false c5;clear c5;simp only [Option.some.injEq,Prod.mk.injEq] at H;obtain ⟨rfl,rfl⟩:=H;go_wp2;go_ret2
     exact ⟨q4_,q33_⟩
 ·replace c3:=Bool.eq_false_iff.mpr c3;subst c3;have H1 : (some ((⟨#[]⟩ : ByteArray),false)) = some (r1,r2):=by rw [if_neg (show ¬ (false = true) by decide)] at H;exact H
  clear H;have H:=H1;clear H1;simp only [Option.some.injEq,Prod.mk.injEq] at H;obtain ⟨rfl,rfl⟩:=H;go_enter Tryd.func23,Tryd.ntmps23
  go_wp2_with (first | ((with_reducible refine gate_callee (f:=43) rfl ?_);refine goesL_ (some 8) rfl rfl Tryd.func43 (by kernel_rfl) rfl #[.slice A0 l0.length c0] rfl (q34_) ?_;(with_reducible refine (spec_naGood.calls k _ _ l0 false _ ?side1 ?side2 A2.out).mono ?_);(case side1=>exact cX_ HR0.out);(case side2=>exact HC0.out);rintro e w26 ⟨rfl,hb⟩;refine ⟨_,rfl,?_⟩;replace HB:=bS_ HB hb;(try clear hb)))
  go_ret2
  exact ⟨q4_,q33_⟩
/-! ### laws_szPerson: function 69 -/
/-! ### laws_szPersonS: function 29 -/
/-! ### laws_toPerson: function 70 -/
end Go.Proofs.YtpdcopbnhaoilaaDoor.G
