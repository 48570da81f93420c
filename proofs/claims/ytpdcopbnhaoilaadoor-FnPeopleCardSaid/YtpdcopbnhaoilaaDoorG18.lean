-- Written by this session's own program over the kit's print (wip/tools/myprint.py); Lean checks it.
import Derived.Test.YtpdcopbnhaoilaaDoorMBase
import Derived.Test.YtpdcopbnhaoilaaDoorG0
import Derived.Test.YtpdcopbnhaoilaaDoorG17
namespace Go.Proofs.YtpdcopbnhaoilaaDoor.G
open Go.RowKit Go.Proofs.YtpdcopbnhaoilaaDoorW.PrintWords Go.Proofs.YtpdcopbnhaoilaaDoorW.PrintLast Go.Proofs.YtpdcopbnhaoilaaDoorW.PrintMore
attribute [local go_sem] max2_int min2_int max_two min_two max_three min_three max_four min_four str_geq str_gtr str_leq   -- for this text's walks alone
set_option linter.unusedVariables false
set_option linter.unusedSimpArgs false
/-! ### slices_insertionSortCmpFunc_Person: function 92 -/
mutual
def slices_insertionSortCmpFunc_Person.l0 : Nat → List (S26) → Int → Int → Int → Option ((List (S26)))
 | 0,_,_,_,_=>none
 | k + 1,x0,x1,x2,x8=>if x8 < x2 then (slices_insertionSortCmpFunc_Person.l1 k x0 x1 x2 x8 x8) else (some x0)
def slices_insertionSortCmpFunc_Person.l1 : Nat → List (S26) → Int → Int → Int → Int → Option ((List (S26)))
 | 0,_,_,_,_,_=>none
 | k + 1,x0,x1,x2,x8,x9=>if x9 > x1 then (if 0 ≤ x9 then (if x9 < (x0.length : Int) then (if 0 ≤ (wrap64 (x9 - 1)) then (if (wrap64 (x9 - 1)) < (x0.length : Int) then ((impl_AddPersonLit1.f ((rd_T26 x0 x9).f0) ((rd_T26 x0 x9).f1) ((rd_T26 x0 x9).f2) ((rd_T26 x0 x9).f3) ((rd_T26 x0 (wrap64 (x9 - 1))).f0) ((rd_T26 x0 (wrap64 (x9 - 1))).f1) ((rd_T26 x0 (wrap64 (x9 - 1))).f2) ((rd_T26 x0 (wrap64 (x9 - 1))).f3)).bind fun t103=>(if t103 < 0 then (slices_insertionSortCmpFunc_Person.l1 k ((x0.set (x9 : Int).toNat (⟨(rd_T26 x0 (wrap64 (x9 - 1))).f0,(rd_T26 x0 (wrap64 (x9 - 1))).f1,(rd_T26 x0 (wrap64 (x9 - 1))).f2,(rd_T26 x0 (wrap64 (x9 - 1))).f3⟩ : S26)).set ((wrap64 (x9 - 1)) : Int).toNat (⟨(rd_T26 x0 x9).f0,(rd_T26 x0 x9).f1,(rd_T26 x0 x9).f2,(rd_T26 x0 x9).f3⟩ : S26)) x1 x2 x8 (wrap64 (x9 - 1))) else (slices_insertionSortCmpFunc_Person.l0 k x0 x1 x2 (wrap64 (x8 + 1))))) else (none)) else (none)) else (none)) else (none)) else (slices_insertionSortCmpFunc_Person.l0 k x0 x1 x2 (wrap64 (x8 + 1)))
end
def slices_insertionSortCmpFunc_Person.f (k : Nat) (l0 : List (S26)) (a1 : Int) (a2 : Int)  : Option ((List (S26))):=slices_insertionSortCmpFunc_Person.l0 k l0 a1 a2 (wrap64 (a1 + 1))
def slices_insertionSortCmpFunc_Person.T4 : Bool × List (List Nat × List Nat):=(true,[([],[]),([],[]),([0,1],[0,1]),([2],[2]),([3],[3]),([3],[3]),([3],[3]),([5,6,3],[3,5,6]),([7,3],[3,7]),([3],[3]),([3],[3]),([10,3],[3,10]),([9,11,3],[3,9,11]),([12,3],[3,12]),([4,8,13,3,3],[3,4,8,13]),([14,3],[3,14]),([3,15],[3,15])])
def slices_insertionSortCmpFunc_Person.B4 : List Nat:=[0,0,3,7,15,15,15,111,239,15,15,1039,3599,7695,16383,32767,65535]
theorem slices_insertionSortCmpFunc_Person.tab4 : rtab .any (opsOf Tryd.f92 4) = slices_insertionSortCmpFunc_Person.T4:=by kernel_rfl
theorem slices_insertionSortCmpFunc_Person.bits4 : waitsOk slices_insertionSortCmpFunc_Person.T4.2 slices_insertionSortCmpFunc_Person.B4 = true:=by kernel_rfl
def slices_insertionSortCmpFunc_Person.T6 : Bool × List (List Nat × List Nat):=(true,[([],[]),([],[]),([],[]),([],[]),([3],[3]),([],[]),([],[]),([6],[6]),([5,7],[5,7]),([8],[8]),([],[]),([],[]),([10,11],[10,11]),([12],[12]),([0,1,0,1,5,6,7,8,9,13],[0,1]),([14,9,0,1,5,6,7,8,9,13],[9,14]),([2,4,0,1,2,3,4,5,6,7,8,9,10,11,12,13,14,15],[2,4]),([16,13,15,0,1,2,3,4,5,6,7,8,9,10,11,12,13,14,15],[13,16])])
def slices_insertionSortCmpFunc_Person.B6 : List Nat:=[0,0,0,0,8,0,0,64,224,480,0,0,3072,7168,16355,32739,65535,131071]
theorem slices_insertionSortCmpFunc_Person.tab6 : rtab .any (opsOf Tryd.f92 6) = slices_insertionSortCmpFunc_Person.T6:=by kernel_rfl
theorem slices_insertionSortCmpFunc_Person.bits6 : waitsOk slices_insertionSortCmpFunc_Person.T6.2 slices_insertionSortCmpFunc_Person.B6 = true:=by kernel_rfl
set_option maxHeartbeats 8000000 in
set_option maxRecDepth 100000 in
theorem slices_insertionSortCmpFunc_Person.calls (k : Nat) (P0_ : Nat → Prop) (u9000_ : Value) (l0 : List (S26)) (a1 : Int) (a2 : Int)  (r : List (S26)) (w0 w : World) (hB : Below w0.heap.size w0 w) (ho0 : Kd.R k26 26 w w0.heap.size P0_ u9000_ l0) (h : slices_insertionSortCmpFunc_Person.f k l0 a1 a2 = some r) :
  Calls Tryd.prog 92 #[u9000_,.int .i64 a1,.int .i64 a2,.func (.func 41) #[] #[]] w fun e w' => e = .returned (.tuple #[]) ∧ Kd.R k26 26 w' w0.heap.size (fun k_=>(P0_ k_ ∨ w.heap.size ≤ k_)) u9000_ r ∧ Below w0.heap.size w0 w' ∧ Kept w w' (fun k_=>P0_ k_):=by
 have hu26:=Tryd.underlying26;have HO0:=Aside0.mk (show Kd.R k26 26 w w0.heap.size (fun k_=>(P0_ k_ ∨ w.heap.size ≤ k_)) u9000_ l0 from Kd.R_mono ho0 (fun k_ hk=>(.inl hk)));have HK:=Aside0.mk (Kept.refl w (fun k_=>P0_ k_));have HW0:=Aside0.mk hB.size;have HB:=Aside0.mk hB;clear hB;have H : (slices_insertionSortCmpFunc_Person.l0 k l0 a1 a2 (wrap64 (a1 + 1))) = some r:=h;clear h;have H' := Aside0.mk H;clear H;go_enter Tryd.func92,Tryd.ntmps92
 go_wp2;go_loopg [8] k (fun kq v8 w' => ∃ (x0_1 : List (S26)) (x8_1 : Int),v8 = .int .i64 x8_1 ∧ Aside0 (slices_insertionSortCmpFunc_Person.l0 kq x0_1 a1 a2 x8_1 = some r) ∧ Aside0 (kq ≤ k) ∧ Aside0 (Kd.R k26 26 w' w0.heap.size (fun k_=>(P0_ k_ ∨ w.heap.size ≤ k_)) u9000_ x0_1) ∧ Aside0 (Kept w w' (fun k_=>P0_ k_)) ∧ Aside0 (Below w0.heap.size w0 w'))
 case atStart=>exact ⟨(l0),(wrap64 (a1 + 1)),(q1_),H', ⟨Nat.le_refl _⟩,⟨by (with_reducible repeat (first | apply Kd.R_alloc | apply Kd.R_drewN | apply Kd.R_drew));exact HO0.out⟩,⟨q32_⟩,⟨q33_⟩⟩
 case round =>
  clear H';obtain ⟨x0_1,x8_1,rfl,HA,HK1,HO_0,HK,HB⟩:=hrel;cases gk with
  | zero=>exact absurd HA.out (by simp [slices_insertionSortCmpFunc_Person.l0])
  | succ k1 =>
   have H:=HA.out;clear HA;simp only [slices_insertionSortCmpFunc_Person.l0] at H;by_cases c5 : x8_1 < a2
   ·rw [if_pos c5] at H;have c5b0 : decide (x8_1 < a2) = true:=decide_eq_true c5;clear c5;have H' := Aside0.mk H;clear H;go_wp2;go_loopg [9] k1 (fun kq v9 w' => ∃ (x0_2 : List (S26)) (x9_2 : Int),v9 = .int .i64 x9_2 ∧ Aside0 (slices_insertionSortCmpFunc_Person.l1 kq x0_2 a1 a2 x8_1 x9_2 = some r) ∧ Aside0 (kq ≤ k1) ∧ Aside0 (Kd.R k26 26 w' w0.heap.size (fun k_=>(P0_ k_ ∨ w.heap.size ≤ k_)) u9000_ x0_2) ∧ Aside0 (Kept w w' (fun k_=>P0_ k_)) ∧ Aside0 (Below w0.heap.size w0 w'))
    case atStart=>exact ⟨(x0_1),(x8_1),(q1_),H', ⟨Nat.le_refl _⟩,⟨by (with_reducible repeat (first | apply Kd.R_alloc | apply Kd.R_drewN | apply Kd.R_drew));exact HO_0.out⟩,⟨q32_⟩,⟨q33_⟩⟩
    case round =>
     clear H';try clear c5
     try clear c5b0
     obtain ⟨x0_2,x9_2,rfl,HA,HK2,HO_0,HK,HB⟩:=hrel;cases gk with
     | zero=>exact absurd HA.out (by simp [slices_insertionSortCmpFunc_Person.l1])
     | succ k2 =>
      have H:=HA.out;clear HA;simp only [slices_insertionSortCmpFunc_Person.l1] at H;by_cases c6 : x9_2 > a1
      ·rw [if_pos c6] at H;have c6b0 : decide (a1 < x9_2) = true:=decide_eq_true c6;clear c6;by_cases c7 : 0 ≤ x9_2
       ·rw [if_pos c7] at H;have c7b0 : decide (0 ≤ x9_2) = true:=decide_eq_true c7;clear c7;by_cases c8 : x9_2 < (x0_2.length : Int)
        ·rw [if_pos c8] at H;have c8b0 : decide (x9_2 < (x0_2.length : Int)) = true:=decide_eq_true c8;clear c8;obtain ⟨ji9,hji9⟩ : ∃ j_ : Int,(wrap64 (x9_2 - 1)) = j_:=⟨_,rfl⟩;replace H : (if 0 ≤ (ji9) then (if (ji9) < (x0_2.length : Int) then ((impl_AddPersonLit1.f ((rd_T26 x0_2 x9_2).f0) ((rd_T26 x0_2 x9_2).f1) ((rd_T26 x0_2 x9_2).f2) ((rd_T26 x0_2 x9_2).f3) ((rd_T26 x0_2 (ji9)).f0) ((rd_T26 x0_2 (ji9)).f1) ((rd_T26 x0_2 (ji9)).f2) ((rd_T26 x0_2 (ji9)).f3)).bind fun t103=>(if t103 < 0 then (slices_insertionSortCmpFunc_Person.l1 k2 ((x0_2.set (x9_2 : Int).toNat (⟨(rd_T26 x0_2 (ji9)).f0,(rd_T26 x0_2 (ji9)).f1,(rd_T26 x0_2 (ji9)).f2,(rd_T26 x0_2 (ji9)).f3⟩ : S26)).set ((ji9) : Int).toNat (⟨(rd_T26 x0_2 x9_2).f0,(rd_T26 x0_2 x9_2).f1,(rd_T26 x0_2 x9_2).f2,(rd_T26 x0_2 x9_2).f3⟩ : S26)) a1 a2 x8_1 ji9) else (slices_insertionSortCmpFunc_Person.l0 k2 x0_2 a1 a2 (wrap64 (x8_1 + 1))))) else (none)) else (none)) = some r:=by first | (rw [hji9] at H;exact H) | (simp only [hji9] at H ⊢;exact H)
         have hji9w : (IntKind.i64.wrap (x9_2 - 1)) = ji9:=(i64_w _).trans hji9;by_cases c10 : 0 ≤ (ji9)
         ·rw [if_pos c10] at H;have c10b0 : decide (0 ≤ (ji9)) = true:=decide_eq_true c10;clear c10;by_cases c11 : (ji9) < (x0_2.length : Int)
          ·rw [if_pos c11] at H;have c11b0 : decide ((ji9) < (x0_2.length : Int)) = true:=decide_eq_true c11;clear c11;replace H:=Option.bind_eq_some_iff.mp H;obtain ⟨t103,A120,H⟩:=H;(try dsimp only at H);have A12:=Aside0.mk A120;clear A120;by_cases c13 : t103 < 0
           ·rw [if_pos c13] at H;have c13b0 : decide (t103 < 0) = true:=decide_eq_true c13;clear c13;obtain ⟨y106,hy106⟩ : ∃ y_ : List (S26),y_ = (x0_2.set (x9_2 : Int).toNat (⟨(rd_T26 x0_2 (ji9)).f0,(rd_T26 x0_2 (ji9)).f1,(rd_T26 x0_2 (ji9)).f2,(rd_T26 x0_2 (ji9)).f3⟩ : S26)):=⟨_,rfl⟩;replace H : (slices_insertionSortCmpFunc_Person.l1 k2 (y106.set ((ji9) : Int).toNat (⟨(rd_T26 x0_2 x9_2).f0,(rd_T26 x0_2 x9_2).f1,(rd_T26 x0_2 x9_2).f2,(rd_T26 x0_2 x9_2).f3⟩ : S26)) a1 a2 x8_1 ji9) = some r:=by first | (rw [hy106];with_reducible exact H) | (have H2_:=(Option.bind_some _ _).symm.trans H;rw [hy106];with_reducible exact H2_) | (have H2_:=(Option.bind_some _ _).symm.trans H;with_reducible exact H2_) | with_reducible exact H | (rw [hy106];exact H) | exact H
            have Ny106:=Aside0.mk hy106;clear hy106;obtain ⟨y107,hy107⟩ : ∃ y_ : List (S26),y_ = (y106.set ((ji9) : Int).toNat (⟨(rd_T26 x0_2 x9_2).f0,(rd_T26 x0_2 x9_2).f1,(rd_T26 x0_2 x9_2).f2,(rd_T26 x0_2 x9_2).f3⟩ : S26)):=⟨_,rfl⟩;replace H : (slices_insertionSortCmpFunc_Person.l1 k2 y107 a1 a2 x8_1 ji9) = some r:=q57_
            have Ny107:=Aside0.mk hy107;clear hy107;have H' := Aside0.mk H;clear H;try go_wp2
            replace HO_0:=Aside0.mk (Kd.R_drew HO_0.out);replace HK:=Aside0.mk (Kept.drew HK.out);replace HB:=Aside0.mk (below_drew1 HB.out);obtain ⟨Ao17,co17,eo17⟩:=Kd.R_slice HO_0.out
            (first | subst eo17 | (injection eo17 with f1_ f2_ f3_;have f4_:=f1_.symm;have f5_:=f3_.symm;clear f1_ f2_ f3_;subst f4_;subst f5_))
            have p101 : 0 ≤ (x9_2 : Int):=of_decide_eq_true (q2_);have q101 : x9_2 < (x0_2.length : Int):=of_decide_eq_true (q2_);obtain ⟨ad101,e101,hx101_0,hx101_1,hx101_2,hx101_3⟩:=at_T26 (Kd.R_reads' HO_0.out).2.2 x9_2 p101 q101;cases e101;replace p101:=eq_true p101;replace q101:=eq_true q101;have p102 : 0 ≤ ((ji9) : Int):=of_decide_eq_true (q2_);have q102 : (ji9) < (x0_2.length : Int):=of_decide_eq_true (q2_);obtain ⟨ad102,e102,hx102_0,hx102_1,hx102_2,hx102_3⟩:=at_T26 (Kd.R_reads' HO_0.out).2.2 (ji9) p102 q102;obtain rfl : ad101 = ad102:=(by injection e102);replace p102:=eq_true p102;replace q102:=eq_true q102;refine start_ (n:=17) (S:=fun w' => w'.cell? (ad101.add ((x9_2).toNat * 4)) = some (.string ((rd_T26 x0_2 x9_2).f0)) ∧ w'.cell? ⟨(ad101.add ((x9_2).toNat * 4)).block,(ad101.add ((x9_2).toNat * 4)).off + 1,none⟩ = some (.int .i64 ((rd_T26 x0_2 x9_2).f1)) ∧ w'.cell? ⟨(ad101.add ((x9_2).toNat * 4)).block,(ad101.add ((x9_2).toNat * 4)).off + 2,none⟩ = some (.int .i64 ((rd_T26 x0_2 x9_2).f2)) ∧ w'.cell? ⟨(ad101.add ((x9_2).toNat * 4)).block,(ad101.add ((x9_2).toNat * 4)).off + 3,none⟩ = some (.int .i64 ((rd_T26 x0_2 x9_2).f3)) ∧ w'.cell? (ad101.add (((ji9)).toNat * 4)) = some (.string ((rd_T26 x0_2 (ji9)).f0)) ∧ w'.cell? ⟨(ad101.add (((ji9)).toNat * 4)).block,(ad101.add (((ji9)).toNat * 4)).off + 1,none⟩ = some (.int .i64 ((rd_T26 x0_2 (ji9)).f1)) ∧ w'.cell? ⟨(ad101.add (((ji9)).toNat * 4)).block,(ad101.add (((ji9)).toNat * 4)).off + 2,none⟩ = some (.int .i64 ((rd_T26 x0_2 (ji9)).f2)) ∧ w'.cell? ⟨(ad101.add (((ji9)).toNat * 4)).block,(ad101.add (((ji9)).toNat * 4)).off + 3,none⟩ = some (.int .i64 ((rd_T26 x0_2 (ji9)).f3))) (ds:=[]) f0_ (by kernel_rfl) rfl rfl ⟨hx101_0,hx101_1,hx101_2,hx101_3,hx102_0,hx102_1,hx102_2,hx102_3⟩ (fun hHeld=>?_);refine with_tabW slices_insertionSortCmpFunc_Person.tab4 slices_insertionSortCmpFunc_Person.bits4 (fun HT_ HW_=>?_);generalize wr.drew = w16 at HO_0 HK HB hx101_0 hx101_1 hx101_2 hx101_3 hx102_0 hx102_1 hx102_2 hx102_3 hHeld ⊢;refine pure_ (i:=0) (N:=some 18) (v:=?_) (a' := ?_) f1_ rfl rfl (any_of HT_.out (by kernel_rfl)) (fun _ _ _ h=>h) (Or.inl ⟨by rfl,?_⟩) ?_ ?_;rotate_left
            ·intro w';go_simp;with_reducible rfl
            rotate_left
            ·exact q70_
            refine pa_ 1 19 f2_ ?_
            refine pa_ 2 20 f3_ ?_
            refine pa_ 3 21 f4_ ?_
            refine pa_ 4 22 f5_ ?_
            refine pa_ 5 23 f6_ ?_
            refine pa_ 6 24 f7_ ?_
            refine pa_ 7 25 f8_ ?_
            refine pa_ 9 27 f9_ ?_
            refine pa_ 10 28 f10_ ?_
            refine pa_ 11 29 f11_ ?_
            refine pa_ 12 30 f12_ ?_
            refine take_ (i:=8) (N:=some 26) (v:=?_) (a' := ?_) f13_ rfl rfl (take_ofW HT_.out HW_.out (by kernel_rfl)) (fun _ _ _ h=>h) (Or.inl ⟨by rfl,?_⟩) hHeld ?_ ?_;rotate_left
            ·rintro w' ⟨s0,s1,s2,s3,s4,s5,s6,s7⟩;go_simp;with_reducible rfl
            rotate_left
            ·exact q70_
            refine take_ (i:=13) (N:=some 31) (v:=?_) (a' := ?_) f14_ rfl rfl (take_ofW HT_.out HW_.out (by kernel_rfl)) (fun _ _ _ h=>h) (Or.inl ⟨by rfl,?_⟩) hHeld ?_ ?_;rotate_left
            ·rintro w' ⟨s0,s1,s2,s3,s4,s5,s6,s7⟩;go_simp;with_reducible rfl
            rotate_left
            ·exact q70_
            refine one_ (i:=14) (N:=some 32) f15_ rfl rfl (one_of HT_.out (by kernel_rfl)) (by decide) (fun K hK=>?_);refine MFun.goesV_ Tryd.func41 (by kernel_rfl) rfl #[.agg #[.string ((rd_T26 x0_2 x9_2).f0),.int .i64 ((rd_T26 x0_2 x9_2).f1),.int .i64 ((rd_T26 x0_2 x9_2).f2),.int .i64 ((rd_T26 x0_2 x9_2).f3)],.agg #[.string ((rd_T26 x0_2 (ji9)).f0),.int .i64 ((rd_T26 x0_2 (ji9)).f1),.int .i64 ((rd_T26 x0_2 (ji9)).f2),.int .i64 ((rd_T26 x0_2 (ji9)).f3)]] (by rfl) rfl rfl rfl (by (try simp only [List.map_toArray,List.map_cons,List.map_nil]);first | done | (simp only [hji9];rfl) | rfl | (simp only [List.length_drop,List.length_take];rfl)) ?_
            with_reducible refine (impl_AddPersonLit1.calls ((rd_T26 x0_2 x9_2).f0) ((rd_T26 x0_2 x9_2).f1) ((rd_T26 x0_2 x9_2).f2) ((rd_T26 x0_2 x9_2).f3) ((rd_T26 x0_2 (ji9)).f0) ((rd_T26 x0_2 (ji9)).f1) ((rd_T26 x0_2 (ji9)).f2) ((rd_T26 x0_2 (ji9)).f3) t103 _ A12.out).mono ?_
            rintro e w18 ⟨rfl,hb⟩;have HS0_:=(hb.cell (World.block_lt_of_cell? _ _ (hHeld.1))).trans (hHeld.1);have HS1_:=(hb.cell (World.block_lt_of_cell? _ _ (hHeld.2.1))).trans (hHeld.2.1);have HS2_:=(hb.cell (World.block_lt_of_cell? _ _ (hHeld.2.2.1))).trans (hHeld.2.2.1);have HS3_:=(hb.cell (World.block_lt_of_cell? _ _ (hHeld.2.2.2.1))).trans (hHeld.2.2.2.1);have HS4_:=(hb.cell (World.block_lt_of_cell? _ _ (hHeld.2.2.2.2.1))).trans (hHeld.2.2.2.2.1);have HS5_:=(hb.cell (World.block_lt_of_cell? _ _ (hHeld.2.2.2.2.2.1))).trans (hHeld.2.2.2.2.2.1);have HS6_:=(hb.cell (World.block_lt_of_cell? _ _ (hHeld.2.2.2.2.2.2.1))).trans (hHeld.2.2.2.2.2.2.1);have HS7_:=(hb.cell (World.block_lt_of_cell? _ _ (hHeld.2.2.2.2.2.2.2))).trans (hHeld.2.2.2.2.2.2.2);refine ⟨_,rfl,?_⟩;replace HO_0:=rB_ HO_0 hb;replace HK:=Aside0.mk (Kept.below (S:=(fun k_=>P0_ k_)) (q32_) hb);replace HB:=bS_ HB hb
            (try clear hb)
            (try clear hb2)
            (try clear hk)
            (try clear hi)
            refine hK.out _ _ ⟨HS0_,HS1_,HS2_,HS3_,HS4_,HS5_,HS6_,HS7_⟩ (fun hHeld=>?_);clear hK K;refine norm_ (a' := ?_) ?_ ?_;rotate_left
            ·show Act.put _ (some 32) _ = _;simp only [Act.put,List.setIfInBounds_toArray,List.set_cons_zero,List.set_cons_succ,i64_w,i32_w];rfl
            refine pa_ 15 33 f16_ ?_
            refine pa_ 16 34 f17_ ?_
            refine done_ (done_of HT_.out (by kernel_rfl)) ?_;try go_wp2
            replace HO_0:=Aside0.mk (Kd.R_drew HO_0.out);replace HK:=Aside0.mk (Kept.drew HK.out);replace HB:=Aside0.mk (below_drew1 HB.out);have p104 : 0 ≤ ((ji9) : Int):=of_decide_eq_true (q2_);have q104 : (ji9) < (x0_2.length : Int):=of_decide_eq_true (q2_);obtain ⟨ad104,e104,hx104_0,hx104_1,hx104_2,hx104_3⟩:=at_T26 (Kd.R_reads' HO_0.out).2.2 (ji9) p104 q104;obtain rfl : ad101 = ad104:=(by injection e104);replace p104:=eq_true p104;replace q104:=eq_true q104;have p105 : 0 ≤ (x9_2 : Int):=of_decide_eq_true (q2_);have q105 : x9_2 < (x0_2.length : Int):=of_decide_eq_true (q2_);obtain ⟨ad105,e105,hx105_0,hx105_1,hx105_2,hx105_3⟩:=at_T26 (Kd.R_reads' HO_0.out).2.2 x9_2 p105 q105;obtain rfl : ad101 = ad105:=(by injection e105);replace p105:=eq_true p105;replace q105:=eq_true q105;have p14 : 0 ≤ (x9_2 : Int):=of_decide_eq_true (q2_);have q14 : (x9_2 : Int) < ((x0_2.length : Int) : Int):=of_decide_eq_true (q2_);obtain ⟨go14,co14,eo14,gb14,gl14,cl14,HG14⟩:=Kd.R_form HO_0.out (by omega)
            (first | cases eo14 | (injection eo14 with ea_ en_ ec_;(first | subst ea_ | (injection ea_ with ea_;subst ea_));subst ec_;clear en_))
            have GB14:=Aside0.mk gb14;have GG14:=Aside0.mk HG14;clear gb14 gl14 HG14;have HMgo14:=Aside0.mk (show (P0_ go14 ∨ w.heap.size ≤ go14) from (HO_0.out.1 _ rfl))
            (first | simp only [add_plain] at hx101_0 | skip)
            (first | simp only [add_plain] at hx101_1 | skip)
            (first | simp only [add_plain] at hx101_2 | skip)
            (first | simp only [add_plain] at hx101_3 | skip)
            (first | simp only [add_plain] at hx102_0 | skip)
            (first | simp only [add_plain] at hx102_1 | skip)
            (first | simp only [add_plain] at hx102_2 | skip)
            (first | simp only [add_plain] at hx102_3 | skip)
            (first | simp only [add_plain] at hx104_0 | skip)
            (first | simp only [add_plain] at hx104_1 | skip)
            (first | simp only [add_plain] at hx104_2 | skip)
            (first | simp only [add_plain] at hx104_3 | skip)
            (first | simp only [add_plain] at hx105_0 | skip)
            (first | simp only [add_plain] at hx105_1 | skip)
            (first | simp only [add_plain] at hx105_2 | skip)
            (first | simp only [add_plain] at hx105_3 | skip)
            obtain ⟨ce14,hcl14,hM14,hcc14,hfr14⟩:=Kd.R_elem HO_0.out z26 (x9_2 : Int) p14 q14;obtain rfl:=k26_openM hM14;have hx14_0 : World.cell? _ ⟨go14,(x9_2 : Int).toNat * 4,none⟩ = some (.string ((rd_T26 x0_2 x9_2).f0)):=hcc14 0 _ rfl;have hx14_1 : World.cell? _ ⟨go14,(x9_2 : Int).toNat * 4 + 1,none⟩ = some (.int .i64 ((rd_T26 x0_2 x9_2).f1)):=hcc14 1 _ rfl;have hx14_2 : World.cell? _ ⟨go14,(x9_2 : Int).toNat * 4 + 2,none⟩ = some (.int .i64 ((rd_T26 x0_2 x9_2).f2)):=hcc14 2 _ rfl;have hx14_3 : World.cell? _ ⟨go14,(x9_2 : Int).toNat * 4 + 3,none⟩ = some (.int .i64 ((rd_T26 x0_2 x9_2).f3)):=hcc14 3 _ rfl;have hf14_0 : World.frozen? _ ⟨go14,(x9_2 : Int).toNat * 4,none⟩ = false:=hfr14 0;have hf14_1 : World.frozen? _ ⟨go14,(x9_2 : Int).toNat * 4 + 1,none⟩ = false:=hfr14 1;have hf14_2 : World.frozen? _ ⟨go14,(x9_2 : Int).toNat * 4 + 2,none⟩ = false:=hfr14 2;have hf14_3 : World.frozen? _ ⟨go14,(x9_2 : Int).toNat * 4 + 3,none⟩ = false:=hfr14 3;clear hcl14 hcc14 hfr14 hM14;replace p14:=eq_true p14;replace q14:=eq_true q14;obtain ⟨ce20,hcl20,hM20,hcc20,hfr20⟩:=Kd.R_elem HO_0.out z26 (x9_2 : Int) (of_decide_eq_true (q2_)) (by have h_ : (x9_2 : Int) < ((x0_2.length : Int) : Int):=of_decide_eq_true (q2_);first | exact h_ | (have e_:=(Kd.R_reads' HO_0.out).1;omega) | simpa using h_);obtain rfl:=k26_openM hM20;have HP20:=(Kd.R_seg HO_0.out (x9_2 : Int) (of_decide_eq_true (q2_)) (by have h_ : (x9_2 : Int) < ((x0_2.length : Int) : Int):=of_decide_eq_true (q2_);first | exact h_ | (have e_:=(Kd.R_reads' HO_0.out).1;omega) | simpa using h_) (seg:=[.string ((rd_T26 x0_2 (ji9)).f0),.int .i64 ((rd_T26 x0_2 (ji9)).f1),.int .i64 ((rd_T26 x0_2 (ji9)).f2),.int .i64 ((rd_T26 x0_2 (ji9)).f3)]) (j:=0) hcl20 hcc20 (show 4 ≤ 4 from by decide) (x' := (⟨(rd_T26 x0_2 (ji9)).f0,(rd_T26 x0_2 (ji9)).f1,(rd_T26 x0_2 (ji9)).f2,(rd_T26 x0_2 (ji9)).f3⟩ : S26)) (k26_mkM _ _ _ (⟨(rd_T26 x0_2 (ji9)).f0,(rd_T26 x0_2 (ji9)).f1,(rd_T26 x0_2 (ji9)).f2,(rd_T26 x0_2 (ji9)).f3⟩ : S26) ) (fun _ hk=>hk)).1;rw [← Ny106.out] at HP20;have HQ20:=Aside0.mk HP20;clear hcl20 hcc20 hfr20 hM20 HP20;have p15 : 0 ≤ ((ji9) : Int):=of_decide_eq_true (q2_);have q15 : ((ji9) : Int) < ((x0_2.length : Int) : Int):=of_decide_eq_true (q2_);obtain ⟨ce15,hcl15,hM15,hcc15,hfr15⟩:=Kd.R_elem HQ20.out z26 ((ji9) : Int) p15 q15;obtain rfl:=k26_openM hM15;have hx15_0 : World.cell? _ ⟨go14,((ji9) : Int).toNat * 4,none⟩ = some (.string ((rd_T26 y106 (ji9)).f0)):=hcc15 0 _ rfl;have hx15_1 : World.cell? _ ⟨go14,((ji9) : Int).toNat * 4 + 1,none⟩ = some (.int .i64 ((rd_T26 y106 (ji9)).f1)):=hcc15 1 _ rfl;have hx15_2 : World.cell? _ ⟨go14,((ji9) : Int).toNat * 4 + 2,none⟩ = some (.int .i64 ((rd_T26 y106 (ji9)).f2)):=hcc15 2 _ rfl;have hx15_3 : World.cell? _ ⟨go14,((ji9) : Int).toNat * 4 + 3,none⟩ = some (.int .i64 ((rd_T26 y106 (ji9)).f3)):=hcc15 3 _ rfl;have hf15_0 : World.frozen? _ ⟨go14,((ji9) : Int).toNat * 4,none⟩ = false:=hfr15 0;have hf15_1 : World.frozen? _ ⟨go14,((ji9) : Int).toNat * 4 + 1,none⟩ = false:=hfr15 1;have hf15_2 : World.frozen? _ ⟨go14,((ji9) : Int).toNat * 4 + 2,none⟩ = false:=hfr15 2;have hf15_3 : World.frozen? _ ⟨go14,((ji9) : Int).toNat * 4 + 3,none⟩ = false:=hfr15 3;clear hcl15 hcc15 hfr15 hM15;replace p15:=eq_true p15;replace q15:=eq_true q15;obtain ⟨ce21,hcl21,hM21,hcc21,hfr21⟩:=Kd.R_elem HQ20.out z26 ((ji9) : Int) (of_decide_eq_true (q2_)) (by have h_ : ((ji9) : Int) < ((x0_2.length : Int) : Int):=of_decide_eq_true (q2_);first | exact h_ | (have e_:=(Kd.R_reads' HO_0.out).1;omega) | simpa using h_);obtain rfl:=k26_openM hM21;have HP21:=(Kd.R_seg HQ20.out ((ji9) : Int) (of_decide_eq_true (q2_)) (by have h_ : ((ji9) : Int) < ((x0_2.length : Int) : Int):=of_decide_eq_true (q2_);first | exact h_ | (have e_:=(Kd.R_reads' HO_0.out).1;omega) | simpa using h_) (seg:=[.string ((rd_T26 x0_2 x9_2).f0),.int .i64 ((rd_T26 x0_2 x9_2).f1),.int .i64 ((rd_T26 x0_2 x9_2).f2),.int .i64 ((rd_T26 x0_2 x9_2).f3)]) (j:=0) hcl21 hcc21 (show 4 ≤ 4 from by decide) (x' := (⟨(rd_T26 x0_2 x9_2).f0,(rd_T26 x0_2 x9_2).f1,(rd_T26 x0_2 x9_2).f2,(rd_T26 x0_2 x9_2).f3⟩ : S26)) (k26_mkM _ _ _ (⟨(rd_T26 x0_2 x9_2).f0,(rd_T26 x0_2 x9_2).f1,(rd_T26 x0_2 x9_2).f2,(rd_T26 x0_2 x9_2).f3⟩ : S26) ) (fun _ hk=>hk)).1;rw [← Ny107.out] at HP21;have HQ21:=Aside0.mk HP21;clear hcl21 hcc21 hfr21 hM21 HP21;refine start_ (n:=18) (S:=fun w' => w'.cell? ⟨go14,((ji9)).toNat * 4,none⟩ = some (.string ((rd_T26 x0_2 (ji9)).f0)) ∧ w'.cell? ⟨go14,((ji9)).toNat * 4 + 1,none⟩ = some (.int .i64 ((rd_T26 x0_2 (ji9)).f1)) ∧ w'.cell? ⟨go14,((ji9)).toNat * 4 + 2,none⟩ = some (.int .i64 ((rd_T26 x0_2 (ji9)).f2)) ∧ w'.cell? ⟨go14,((ji9)).toNat * 4 + 3,none⟩ = some (.int .i64 ((rd_T26 x0_2 (ji9)).f3)) ∧ w'.cell? ⟨go14,((x9_2).toNat * 4),none⟩ = some (.string ((rd_T26 x0_2 x9_2).f0)) ∧ w'.cell? ⟨go14,((x9_2).toNat * 4) + 1,none⟩ = some (.int .i64 ((rd_T26 x0_2 x9_2).f1)) ∧ w'.cell? ⟨go14,((x9_2).toNat * 4) + 2,none⟩ = some (.int .i64 ((rd_T26 x0_2 x9_2).f2)) ∧ w'.cell? ⟨go14,((x9_2).toNat * 4) + 3,none⟩ = some (.int .i64 ((rd_T26 x0_2 x9_2).f3))) (ds:=[15,17]) f18_ (by kernel_rfl) rfl rfl ⟨hx104_0,hx104_1,hx104_2,hx104_3,hx105_0,hx105_1,hx105_2,hx105_3⟩ (fun hHeld=>?_);refine with_tabW slices_insertionSortCmpFunc_Person.tab6 slices_insertionSortCmpFunc_Person.bits6 (fun HT_ HW_=>?_);generalize w18.drew = w19 at HO_0 HK HB GG14 HQ20 HQ21 hf14_0 hf14_1 hf14_2 hf14_3 hf15_0 hf15_1 hf15_2 hf15_3 hx101_0 hx101_1 hx101_2 hx101_3 hx102_0 hx102_1 hx102_2 hx102_3 hx104_0 hx104_1 hx104_2 hx104_3 hx105_0 hx105_1 hx105_2 hx105_3 hx14_0 hx14_1 hx14_2 hx14_3 hx15_0 hx15_1 hx15_2 hx15_3 hHeld ⊢
            (try simp only [World.setCells,Nat.add_zero,Nat.add_assoc,Nat.reduceAdd,show (k26).sz = 4 from rfl] at hx14_0)
            (try simp only [World.setCells,Nat.add_zero,Nat.add_assoc,Nat.reduceAdd,show (k26).sz = 4 from rfl] at hx14_1)
            (try simp only [World.setCells,Nat.add_zero,Nat.add_assoc,Nat.reduceAdd,show (k26).sz = 4 from rfl] at hx14_2)
            (try simp only [World.setCells,Nat.add_zero,Nat.add_assoc,Nat.reduceAdd,show (k26).sz = 4 from rfl] at hx14_3)
            (try simp only [World.setCells,Nat.add_zero,Nat.add_assoc,Nat.reduceAdd,show (k26).sz = 4 from rfl] at hf14_0)
            (try simp only [World.setCells,Nat.add_zero,Nat.add_assoc,Nat.reduceAdd,show (k26).sz = 4 from rfl] at hf14_1)
            (try simp only [World.setCells,Nat.add_zero,Nat.add_assoc,Nat.reduceAdd,show (k26).sz = 4 from rfl] at hf14_2)
            (try simp only [World.setCells,Nat.add_zero,Nat.add_assoc,Nat.reduceAdd,show (k26).sz = 4 from rfl] at hf14_3)
            (try simp only [World.setCells,Nat.add_zero,Nat.add_assoc,Nat.reduceAdd,show (k26).sz = 4 from rfl] at hx15_0)
            (try simp only [World.setCells,Nat.add_zero,Nat.add_assoc,Nat.reduceAdd,show (k26).sz = 4 from rfl] at hx15_1)
            (try simp only [World.setCells,Nat.add_zero,Nat.add_assoc,Nat.reduceAdd,show (k26).sz = 4 from rfl] at hx15_2)
            (try simp only [World.setCells,Nat.add_zero,Nat.add_assoc,Nat.reduceAdd,show (k26).sz = 4 from rfl] at hx15_3)
            (try simp only [World.setCells,Nat.add_zero,Nat.add_assoc,Nat.reduceAdd,show (k26).sz = 4 from rfl] at hf15_0)
            (try simp only [World.setCells,Nat.add_zero,Nat.add_assoc,Nat.reduceAdd,show (k26).sz = 4 from rfl] at hf15_1)
            (try simp only [World.setCells,Nat.add_zero,Nat.add_assoc,Nat.reduceAdd,show (k26).sz = 4 from rfl] at hf15_2)
            (try simp only [World.setCells,Nat.add_zero,Nat.add_assoc,Nat.reduceAdd,show (k26).sz = 4 from rfl] at hf15_3)
            refine pa_ 0 37 f19_ ?_
            refine pa_ 1 38 f20_ ?_
            refine pa_ 2 39 f21_ ?_
            refine pa_ 3 40 f22_ ?_
            refine pa_ 4 41 f23_ ?_
            refine pa_ 5 42 f24_ ?_
            refine pa_ 6 43 f25_ ?_
            refine pa_ 7 44 f26_ ?_
            refine pa_ 8 45 f27_ ?_
            refine pa_ 10 47 f28_ ?_
            refine pa_ 11 48 f29_ ?_
            refine pa_ 12 49 f30_ ?_
            refine take_ (i:=9) (N:=some 46) (v:=?_) (a' := ?_) f31_ rfl rfl (take_ofW HT_.out HW_.out (by kernel_rfl)) (fun _ _ _ h=>h) (Or.inl ⟨by rfl,?_⟩) hHeld ?_ ?_;rotate_left
            ·rintro w' ⟨s0,s1,s2,s3,s4,s5,s6,s7⟩;go_simp;with_reducible rfl
            rotate_left
            ·exact q70_
            refine take_ (i:=13) (N:=some 50) (v:=?_) (a' := ?_) f32_ rfl rfl (take_ofW HT_.out HW_.out (by kernel_rfl)) (fun _ _ _ h=>h) (Or.inl ⟨by rfl,?_⟩) hHeld ?_ ?_;rotate_left
            ·rintro w' ⟨s0,s1,s2,s3,s4,s5,s6,s7⟩;go_simp;with_reducible rfl
            rotate_left
            ·exact q70_
            refine pa_ 14 51 f33_ ?_
            refine last_ (i:=15) (N:=none) f34_ rfl rfl (one_of HT_.out (by kernel_rfl)) (by decide) (fun K hK=>?_);refine skip_ (w1:=?_) (by rfl) rfl ?_ ?_;rotate_left
            ·go_simp;rfl
            refine hK.out _ _ ?_;clear hK K;refine pure_ (i:=16) (N:=some 52) (v:=?_) (a' := ?_) f35_ rfl rfl (any_of HT_.out (by kernel_rfl)) (fun _ _ _ h=>h) (Or.inl ⟨by rfl,?_⟩) ?_ ?_;rotate_left
            ·intro w';go_simp;with_reducible rfl
            rotate_left
            ·exact q70_
            refine last_ (i:=17) (N:=none) f36_ rfl rfl (one_of HT_.out (by kernel_rfl)) (by decide) (fun K hK=>?_);refine skip_ (w1:=?_) (by rfl) rfl ?_ ?_;rotate_left
            ·go_simp;rfl
            refine hK.out _ _ ?_;clear hK K;refine done_ (done_of HT_.out (by kernel_rfl)) ?_;try go_wp2
            go_roundg k2
            case measure=>have:=HK1.out;have:=HK2.out;omega
            case rel=>exact ⟨(y107),(ji9),(by first | rfl | (simp;done) | (simp only [← hji9] <;> (first | rfl | simp)) | (simp [*];done)),H', ⟨by have:=HK1.out;have:=HK2.out;omega⟩,⟨by (with_reducible repeat (first | apply Kd.R_alloc | apply Kd.R_drewN | apply Kd.R_drew));exact HQ21.out⟩,⟨by repeat (first | (with_reducible first | exact HK.out | apply Kept.alloc | apply Kept.drewN | apply Kept.drew | refine Kept.setCell ?_ HMgo14.out _ | refine Kept.setCell ?_ HMgo14.out _ | refine Kept.setCell ?_ HMgo14.out _ | refine Kept.setCell ?_ HMgo14.out _ | refine Kept.setCell ?_ HMgo14.out _ | refine Kept.setCell ?_ HMgo14.out _ | refine Kept.setCell ?_ HMgo14.out _ | refine Kept.setCell ?_ HMgo14.out _) | exact HK.out)⟩,⟨by repeat (first | (with_reducible first | exact HB.out | apply below_alloc | apply pw_below_drewN | apply below_drew1 | refine below_set ?_ GB14.out | refine below_set ?_ GB14.out | refine below_set ?_ GB14.out | refine below_set ?_ GB14.out | refine below_set ?_ GB14.out | refine below_set ?_ GB14.out | refine below_set ?_ GB14.out | refine below_set ?_ GB14.out) | exact HB.out)⟩⟩
           ·rw [if_neg c13] at H;have c13b0 : decide (t103 < 0) = false:=decide_eq_false c13;clear c13;have H' := Aside0.mk H;clear H;try go_wp2
            replace HO_0:=Aside0.mk (Kd.R_drew HO_0.out);replace HK:=Aside0.mk (Kept.drew HK.out);replace HB:=Aside0.mk (below_drew1 HB.out);obtain ⟨Ao23,co23,eo23⟩:=Kd.R_slice HO_0.out
            (first | subst eo23 | (injection eo23 with f1_ f2_ f3_;have f4_:=f1_.symm;have f5_:=f3_.symm;clear f1_ f2_ f3_;subst f4_;subst f5_))
            have p101 : 0 ≤ (x9_2 : Int):=of_decide_eq_true (q2_);have q101 : x9_2 < (x0_2.length : Int):=of_decide_eq_true (q2_);obtain ⟨ad101,e101,hx101_0,hx101_1,hx101_2,hx101_3⟩:=at_T26 (Kd.R_reads' HO_0.out).2.2 x9_2 p101 q101;cases e101;replace p101:=eq_true p101;replace q101:=eq_true q101;have p102 : 0 ≤ ((ji9) : Int):=of_decide_eq_true (q2_);have q102 : (ji9) < (x0_2.length : Int):=of_decide_eq_true (q2_);obtain ⟨ad102,e102,hx102_0,hx102_1,hx102_2,hx102_3⟩:=at_T26 (Kd.R_reads' HO_0.out).2.2 (ji9) p102 q102;obtain rfl : ad101 = ad102:=(by injection e102);replace p102:=eq_true p102;replace q102:=eq_true q102;refine start_ (n:=17) (S:=fun w' => w'.cell? (ad101.add ((x9_2).toNat * 4)) = some (.string ((rd_T26 x0_2 x9_2).f0)) ∧ w'.cell? ⟨(ad101.add ((x9_2).toNat * 4)).block,(ad101.add ((x9_2).toNat * 4)).off + 1,none⟩ = some (.int .i64 ((rd_T26 x0_2 x9_2).f1)) ∧ w'.cell? ⟨(ad101.add ((x9_2).toNat * 4)).block,(ad101.add ((x9_2).toNat * 4)).off + 2,none⟩ = some (.int .i64 ((rd_T26 x0_2 x9_2).f2)) ∧ w'.cell? ⟨(ad101.add ((x9_2).toNat * 4)).block,(ad101.add ((x9_2).toNat * 4)).off + 3,none⟩ = some (.int .i64 ((rd_T26 x0_2 x9_2).f3)) ∧ w'.cell? (ad101.add (((ji9)).toNat * 4)) = some (.string ((rd_T26 x0_2 (ji9)).f0)) ∧ w'.cell? ⟨(ad101.add (((ji9)).toNat * 4)).block,(ad101.add (((ji9)).toNat * 4)).off + 1,none⟩ = some (.int .i64 ((rd_T26 x0_2 (ji9)).f1)) ∧ w'.cell? ⟨(ad101.add (((ji9)).toNat * 4)).block,(ad101.add (((ji9)).toNat * 4)).off + 2,none⟩ = some (.int .i64 ((rd_T26 x0_2 (ji9)).f2)) ∧ w'.cell? ⟨(ad101.add (((ji9)).toNat * 4)).block,(ad101.add (((ji9)).toNat * 4)).off + 3,none⟩ = some (.int .i64 ((rd_T26 x0_2 (ji9)).f3))) (ds:=[]) f0_ (by kernel_rfl) rfl rfl ⟨hx101_0,hx101_1,hx101_2,hx101_3,hx102_0,hx102_1,hx102_2,hx102_3⟩ (fun hHeld=>?_);refine with_tabW slices_insertionSortCmpFunc_Person.tab4 slices_insertionSortCmpFunc_Person.bits4 (fun HT_ HW_=>?_);generalize wr.drew = w22 at HO_0 HK HB hx101_0 hx101_1 hx101_2 hx101_3 hx102_0 hx102_1 hx102_2 hx102_3 hHeld ⊢;refine pure_ (i:=0) (N:=some 18) (v:=?_) (a' := ?_) f1_ rfl rfl (any_of HT_.out (by kernel_rfl)) (fun _ _ _ h=>h) (Or.inl ⟨by rfl,?_⟩) ?_ ?_;rotate_left
            ·intro w';go_simp;with_reducible rfl
            rotate_left
            ·exact q70_
            refine pa_ 1 19 f2_ ?_
            refine pa_ 2 20 f3_ ?_
            refine pa_ 3 21 f4_ ?_
            refine pa_ 4 22 f5_ ?_
            refine pa_ 5 23 f6_ ?_
            refine pa_ 6 24 f7_ ?_
            refine pa_ 7 25 f8_ ?_
            refine pa_ 9 27 f9_ ?_
            refine pa_ 10 28 f10_ ?_
            refine pa_ 11 29 f11_ ?_
            refine pa_ 12 30 f12_ ?_
            refine take_ (i:=8) (N:=some 26) (v:=?_) (a' := ?_) f13_ rfl rfl (take_ofW HT_.out HW_.out (by kernel_rfl)) (fun _ _ _ h=>h) (Or.inl ⟨by rfl,?_⟩) hHeld ?_ ?_;rotate_left
            ·rintro w' ⟨s0,s1,s2,s3,s4,s5,s6,s7⟩;go_simp;with_reducible rfl
            rotate_left
            ·exact q70_
            refine take_ (i:=13) (N:=some 31) (v:=?_) (a' := ?_) f14_ rfl rfl (take_ofW HT_.out HW_.out (by kernel_rfl)) (fun _ _ _ h=>h) (Or.inl ⟨by rfl,?_⟩) hHeld ?_ ?_;rotate_left
            ·rintro w' ⟨s0,s1,s2,s3,s4,s5,s6,s7⟩;go_simp;with_reducible rfl
            rotate_left
            ·exact q70_
            refine one_ (i:=14) (N:=some 32) f15_ rfl rfl (one_of HT_.out (by kernel_rfl)) (by decide) (fun K hK=>?_);refine MFun.goesV_ Tryd.func41 (by kernel_rfl) rfl #[.agg #[.string ((rd_T26 x0_2 x9_2).f0),.int .i64 ((rd_T26 x0_2 x9_2).f1),.int .i64 ((rd_T26 x0_2 x9_2).f2),.int .i64 ((rd_T26 x0_2 x9_2).f3)],.agg #[.string ((rd_T26 x0_2 (ji9)).f0),.int .i64 ((rd_T26 x0_2 (ji9)).f1),.int .i64 ((rd_T26 x0_2 (ji9)).f2),.int .i64 ((rd_T26 x0_2 (ji9)).f3)]] (by rfl) rfl rfl rfl (by (try simp only [List.map_toArray,List.map_cons,List.map_nil]);first | done | (simp only [hji9];rfl) | rfl | (simp only [List.length_drop,List.length_take];rfl)) ?_
            with_reducible refine (impl_AddPersonLit1.calls ((rd_T26 x0_2 x9_2).f0) ((rd_T26 x0_2 x9_2).f1) ((rd_T26 x0_2 x9_2).f2) ((rd_T26 x0_2 x9_2).f3) ((rd_T26 x0_2 (ji9)).f0) ((rd_T26 x0_2 (ji9)).f1) ((rd_T26 x0_2 (ji9)).f2) ((rd_T26 x0_2 (ji9)).f3) t103 _ A12.out).mono ?_
            rintro e w24 ⟨rfl,hb⟩;have HS0_:=(hb.cell (World.block_lt_of_cell? _ _ (hHeld.1))).trans (hHeld.1);have HS1_:=(hb.cell (World.block_lt_of_cell? _ _ (hHeld.2.1))).trans (hHeld.2.1);have HS2_:=(hb.cell (World.block_lt_of_cell? _ _ (hHeld.2.2.1))).trans (hHeld.2.2.1);have HS3_:=(hb.cell (World.block_lt_of_cell? _ _ (hHeld.2.2.2.1))).trans (hHeld.2.2.2.1);have HS4_:=(hb.cell (World.block_lt_of_cell? _ _ (hHeld.2.2.2.2.1))).trans (hHeld.2.2.2.2.1);have HS5_:=(hb.cell (World.block_lt_of_cell? _ _ (hHeld.2.2.2.2.2.1))).trans (hHeld.2.2.2.2.2.1);have HS6_:=(hb.cell (World.block_lt_of_cell? _ _ (hHeld.2.2.2.2.2.2.1))).trans (hHeld.2.2.2.2.2.2.1);have HS7_:=(hb.cell (World.block_lt_of_cell? _ _ (hHeld.2.2.2.2.2.2.2))).trans (hHeld.2.2.2.2.2.2.2);refine ⟨_,rfl,?_⟩;replace HO_0:=rB_ HO_0 hb;replace HK:=Aside0.mk (Kept.below (S:=(fun k_=>P0_ k_)) (q32_) hb);replace HB:=bS_ HB hb
            (try clear hb)
            (try clear hb2)
            (try clear hk)
            (try clear hi)
            refine hK.out _ _ ⟨HS0_,HS1_,HS2_,HS3_,HS4_,HS5_,HS6_,HS7_⟩ (fun hHeld=>?_);clear hK K;refine norm_ (a' := ?_) ?_ ?_;rotate_left
            ·show Act.put _ (some 32) _ = _;simp only [Act.put,List.setIfInBounds_toArray,List.set_cons_zero,List.set_cons_succ,i64_w,i32_w];rfl
            refine pa_ 15 33 f16_ ?_
            refine pa_ 16 34 f17_ ?_
            refine done_ (done_of HT_.out (by kernel_rfl)) ?_;try go_wp2
            go_roundg k2
            case measure=>have:=HK1.out;have:=HK2.out;omega
            case rel=>exact ⟨(x0_2),(wrap64 (x8_1 + 1)),(q1_),H', ⟨by have:=HK1.out;have:=HK2.out;omega⟩,⟨by (with_reducible repeat (first | apply Kd.R_alloc | apply Kd.R_drewN | apply Kd.R_drew));exact HO_0.out⟩,⟨q32_⟩,⟨q33_⟩⟩
          ·rw [if_neg c11] at H;exact absurd H (by simp)
         ·rw [if_neg c10] at H;exact absurd H (by simp)
        ·rw [if_neg c8] at H;exact absurd H (by simp)
       ·rw [if_neg c7] at H;exact absurd H (by simp)
      ·rw [if_neg c6] at H;have c6b0 : decide (a1 < x9_2) = false:=decide_eq_false c6;clear c6;have H' := Aside0.mk H;clear H;try go_wp2
       replace HO_0:=Aside0.mk (Kd.R_drew HO_0.out);replace HK:=Aside0.mk (Kept.drew HK.out);replace HB:=Aside0.mk (below_drew1 HB.out);refine start_ (n:=17) (S:=fun w' => True) (ds:=[]) f0_ (by kernel_rfl) rfl rfl trivial (fun hHeld=>?_);refine with_tabW slices_insertionSortCmpFunc_Person.tab4 slices_insertionSortCmpFunc_Person.bits4 (fun HT_ HW_=>?_);generalize wr.drew = w25 at HO_0 HK HB hHeld ⊢;refine pure_ (i:=0) (N:=some 18) (v:=?_) (a' := ?_) f1_ rfl rfl (any_of HT_.out (by kernel_rfl)) (fun _ _ _ h=>h) (Or.inl ⟨by rfl,?_⟩) ?_ ?_;rotate_left
       ·intro w';go_simp;with_reducible rfl
       rotate_left
       ·exact q70_
       refine pa_ 1 19 f2_ ?_
       refine pa_ 2 20 f3_ ?_
       refine pa_ 3 21 f4_ ?_
       refine pu_ 4 22 f5_ ?_
       refine pu_ 5 23 f6_ ?_
       refine pu_ 6 24 f7_ ?_
       refine pu_ 7 25 f8_ ?_
       refine pu_ 8 26 f37_ ?_
       refine pu_ 9 27 f38_ ?_
       refine pu_ 10 28 f39_ ?_
       refine pu_ 11 29 f40_ ?_
       refine pu_ 12 30 f13_ ?_
       refine pu_ 13 31 f14_ ?_
       refine pu_ 14 32 f15_ ?_
       refine pu_ 15 33 f16_ ?_
       refine pa_ 16 34 f17_ ?_
       refine done_ (done_of HT_.out (by kernel_rfl)) ?_;try go_wp2
       go_roundg k2
       case measure=>have:=HK1.out;have:=HK2.out;omega
       case rel=>exact ⟨(x0_2),(wrap64 (x8_1 + 1)),(q1_),H', ⟨by have:=HK1.out;have:=HK2.out;omega⟩,⟨by (with_reducible repeat (first | apply Kd.R_alloc | apply Kd.R_drewN | apply Kd.R_drew));exact HO_0.out⟩,⟨q32_⟩,⟨q33_⟩⟩
   ·rw [if_neg c5] at H;have c5b0 : decide (x8_1 < a2) = false:=decide_eq_false c5;clear c5;obtain rfl:=Option.some.inj H;go_wp2;first | go_end0 | ((try simp only [Exit.inBlock,Exit.then]);refine bodyPost_ret (results_none rfl _ _ _) rfl ?_)
    exact ⟨q4_,by (with_reducible repeat (first | apply Kd.R_alloc | apply Kd.R_drewN | apply Kd.R_drew));exact HO_0.out,q33_,q32_⟩
end Go.Proofs.YtpdcopbnhaoilaaDoor.G
