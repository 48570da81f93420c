-- Written by this session's own program over the kit's print (wip/tools/myprint.py); Lean checks it.
import Derived.Test.YtglcpghappepaaaGreatDoorMBase
import Derived.Test.YtglcpghappepaaaGreatDoorG0
namespace Go.Proofs.YtglcpghappepaaaGreatDoor.G
open Go.RowKit Go.Proofs.YtglcpghappepaaaGreatDoorW.PrintWords Go.Proofs.YtglcpghappepaaaGreatDoorW.PrintLast Go.Proofs.YtglcpghappepaaaGreatDoorW.PrintMore
attribute [local go_sem] max2_int min2_int max_two min_two max_three min_three max_four min_four str_geq str_gtr str_leq   -- for this text's walks alone
set_option linter.unusedVariables false
set_option linter.unusedSimpArgs false
/-! ### yAj: function 68 -/
def yAj.f : Nat → Int → Option (ByteArray)
 | 0,_=>none
 | k + 1,a0=>if a0 < 10 then (some (strOfNums (([(wrap64 (48 + a0)) % 256] : List Int)))) else ((yAj.f k (wrap64 (Int.tdiv a0 10))).bind fun t104=>((some (([(wrap64 (48 + (Int.tmod a0 10))) % 256] : List Int) : List Int)).bind fun y105=>(if t104.size + (strOfNums y105).size ≤ 9223372036854775807 then (some (t104 ++ (strOfNums y105))) else (none))))
def yAj.T3 : Bool × List (List Nat × List Nat):=(true,[([],[]),([0],[0]),([1],[1]),([],[]),([3],[3]),([4],[4]),([5],[5]),([6],[6]),([7],[7]),([2,8],[2,8]),([9,2,0,1,2,3,4,5,6,7,8,9],[9])])
def yAj.B3 : List Nat:=[0,1,3,0,8,24,56,120,248,511,1023]
theorem yAj.tab3 : rtab .any (opsOf Tryz.f68 3) = yAj.T3:=by kernel_rfl
theorem yAj.bits3 : waitsOk yAj.T3.2 yAj.B3 = true:=by kernel_rfl
set_option maxHeartbeats 8000000 in
set_option maxRecDepth 100000 in
theorem yAj.calls (k : Nat) : ∀ (a0 : Int) (r : ByteArray) (w : World) (h : yAj.f k a0 = some r),
  Calls Tryz.prog 68 #[.int .i64 a0] w fun e w' => e = .returned (.string r) ∧ Below w.heap.size w w' := by
 induction k using Nat.strongRecOn with
 | _ k ih =>
 intro a0 r w h;cases k with
 | zero=>exact absurd h (by simp [yAj.f])
 | succ k =>
 simp only [yAj.f] at h;have HB:=Aside0.mk (Below.refl w.heap.size w);have H : (if a0 < 10 then (some (strOfNums (([(wrap64 (48 + a0)) % 256] : List Int)))) else ((yAj.f k (wrap64 (Int.tdiv a0 10))).bind fun t104=>((some (([(wrap64 (48 + (Int.tmod a0 10))) % 256] : List Int) : List Int)).bind fun y105=>(if t104.size + (strOfNums y105).size ≤ 9223372036854775807 then (some (t104 ++ (strOfNums y105))) else (none))))) = some r:=h;clear h;by_cases c2 : a0 < 10
 ·rw [if_pos c2] at H;have c2b0:=decide_eq_true c2;clear c2;obtain ⟨y101,hy101⟩ : ∃ y_ : List Int,y_ = (([(wrap64 (48 + a0)) % 256] : List Int)):=⟨_,rfl⟩;replace H : (some (strOfNums y101)) = some r:=by first | (rw [hy101];with_reducible exact H) | (have H2_:=(Option.bind_some _ _).symm.trans H;rw [hy101];with_reducible exact H2_) | (have H2_:=(Option.bind_some _ _).symm.trans H;with_reducible exact H2_) | with_reducible exact H | (rw [hy101];exact H) | exact H
  have Ny101:=Aside0.mk hy101;clear hy101;obtain rfl:=Option.some.inj H;go_enter Tryz.func68,Tryz.ntmps68
  go_wp2_with (first | ((with_reducible refine gate_dst (N:=8) rfl ?_);refine Kd.R_lit (Kd.int .u8) _ 5 ?hg (N:=8) ?hd (xs:=([(wrap64 (48 + a0)) % 256] : List Int)) (inner:=[.int .u8 ((wrap64 (48 + a0)) % 256)]) (ok:=fun _=>True) (okp:=fun _=>True) ?hr ?hp (fun _ hk=>hk) trivial (Below.refl _ _) (Nat.le_refl _) (q1_) ?_;(case hd=>rfl);(case hg=>rfl);(case hr=>first | (go_simp;done) | (go_simp;rfl));(case hp=>exact (Reps.one (show Kd.M (Kd.int .u8) _ _ _ ((wrap64 (48 + a0)) % 256) [.int .u8 ((wrap64 (48 + a0)) % 256)] from rfl) (Reps.none _ _)));intro v102 w3 ho4 hb hg_ hnew_;clear hg_ hnew_;(first | rw [← Ny101.out] at ho4 | (simp only [Int.reduceToNat] at ho4;rw [← Ny101.out] at ho4));have HO103:=Aside0.mk (Kd.R_lower ho4 (below_size (q20_)));replace HB:=bS_ HB hb;clear hb ho4;have hcv5:=own_string (P:=Tryz.prog) Tryz.underlying22 Tryz.underlying5 Tryz.underlying9 (Kd.own_of_R HO103.out)))
  go_ret;exact ⟨q6_,q20_⟩
 ·rw [if_neg c2] at H;have c2b0:=decide_eq_false c2;clear c2;replace H:=Option.bind_eq_some_iff.mp H;obtain ⟨t104,A60,H⟩:=H;(try dsimp only at H);have A6:=Aside0.mk A60;clear A60;obtain ⟨y105,hy105⟩ : ∃ y_ : List Int,y_ = (([(wrap64 (48 + (Int.tmod a0 10))) % 256] : List Int)):=⟨_,rfl⟩;replace H : (if t104.size + (strOfNums y105).size ≤ 9223372036854775807 then (some (t104 ++ (strOfNums y105))) else (none)) = some r:=by first | (rw [hy105];with_reducible exact H) | (have H2_:=(Option.bind_some _ _).symm.trans H;rw [hy105];with_reducible exact H2_) | (have H2_:=(Option.bind_some _ _).symm.trans H;with_reducible exact H2_) | with_reducible exact H | (rw [hy105];exact H) | exact H
  have Ny105:=Aside0.mk hy105;clear hy105;by_cases c7 : t104.size + (strOfNums y105).size ≤ 9223372036854775807
  ·rw [if_pos c7] at H;have c7b0:=eq_true c7;have c7b1:=decide_eq_true c7;try have c7b2 : (9223372036854775807 < t104.size + (strOfNums y105).size) = False:=eq_false (Nat.not_lt.2 c7)
   obtain rfl:=Option.some.inj H;go_enter Tryz.func68,Tryz.ntmps68
   try go_wp2
   replace HB:=Aside0.mk (below_drew1 HB.out);refine start_ (n:=11) (S:=fun w' => True) (ds:=[]) f37_ (by kernel_rfl) rfl rfl trivial (fun hHeld=>?_);refine with_tabW yAj.tab3 yAj.bits3 (fun HT_ HW_=>?_);generalize w.drew = w8 at HB hHeld ⊢;refine pure_ (i:=0) (N:=some 10) (v:=?_) (a' := ?_) f38_ rfl rfl (any_of HT_.out (by kernel_rfl)) (fun _ _ _ h=>h) (Or.inl ⟨by rfl,?_⟩) ?_ ?_;rotate_left
   ·intro w';go_simp;with_reducible rfl
   rotate_left
   ·exact q53_
   refine pa_ 1 11 f39_ ?_
   refine pa_ 3 13 f293_ ?_
   refine pa_ 4 14 f294_ ?_
   refine pa_ 5 15 f295_ ?_
   refine pa_ 6 16 f296_ ?_
   refine join_ (σ:=Value) 2 f46_ (fun s_=>[(12,.string t104),(17,s_),(18,.string (strOfNums y105))]) (fun s_ w' => (Kd.R (Kd.int .u8) 5 w' w.heap.size (fun _=>True) s_ y105) ∧ (Below w.heap.size w w')) ?_ ?_;rotate_left
   ·intro hCont;refine two_ (i:=2) (j:=7) (Ni:=some 12) (Nj:=some 17) f297_ f298_ rfl rfl rfl rfl (two_of HT_.out (by kernel_rfl)) (by decide) (by decide) (fun K hK=>?_) (fun K hK=>?_)
    ·skip
     refine goes_ Tryz.func68 (by kernel_rfl) rfl #[.int .i64 (wrap64 (Int.tdiv a0 10))] (by rfl) rfl rfl (q21_) ?_
     with_reducible refine (ih k (by omega) (wrap64 (Int.tdiv a0 10)) t104 _ A6.out).mono ?_
     rintro e w9 ⟨rfl,hb⟩;refine ⟨_,rfl,?_⟩;replace HB:=bS_ HB hb
     (try clear hb)
     refine hK.out _ _ trivial (fun hHeld=>?_);clear hK K;refine norm_ (a' := ?_) ?_ ?_;rotate_left
     ·show Act.put _ (some 12) _ = _;simp only [Act.put,List.setIfInBounds_toArray,List.set_cons_zero,List.set_cons_succ,i64_w,i32_w];rfl
     refine one_ (i:=7) (N:=some 17) f45_ rfl rfl (one_of HT_.out (by kernel_rfl)) (by decide) (fun K hK=>?_);refine Kd.R_lit_step (Kd.int .u8) _ 5 ?hg (N:=17) ?hd (xs:=([(wrap64 (48 + (Int.tmod a0 10))) % 256] : List Int)) (inner:=[.int .u8 ((wrap64 (48 + (Int.tmod a0 10))) % 256)]) (ok:=fun _=>True) (okp:=fun _=>True) ?hr ?hp (fun _ hk=>hk) trivial (Below.refl _ _) (Nat.le_refl _) (q1_) ?_;(case hd=>rfl);(case hg=>rfl);(case hr=>first | (go_simp;done) | (go_simp;rfl));(case hp=>exact (Reps.one (show Kd.M (Kd.int .u8) _ _ _ ((wrap64 (48 + (Int.tmod a0 10))) % 256) [.int .u8 ((wrap64 (48 + (Int.tmod a0 10))) % 256)] from rfl) (Reps.none _ _)));intro v106 w10 ho11 hb hg_ hnew_;clear hg_ hnew_
     (first | rw [← Ny105.out] at ho11 | (simp only [Int.reduceToNat] at ho11;rw [← Ny105.out] at ho11))
     have HO107:=Aside0.mk (Kd.R_lower ho11 (below_size (q20_)));replace HB:=bS_ HB hb;clear hb ho11;refine hK.out _ _ trivial (fun hHeld=>?_);clear hK K;refine norm_ (a' := ?_) ?_ ?_;rotate_left
     ·show Act.put _ (some 17) _ = _;simp only [Act.put,List.setIfInBounds_toArray,List.set_cons_zero,List.set_cons_succ,i64_w,i32_w];rfl
     refine one_ (i:=8) (N:=some 18) f46_ rfl rfl (one_of HT_.out (by kernel_rfl)) (by decide) (fun K hK=>?_);have hcv12:=own_string (P:=Tryz.prog) Tryz.underlying22 Tryz.underlying5 Tryz.underlying9 (Kd.own_of_R HO107.out);refine value_ (w1:=?_) (v:=?_) (by rfl) rfl ?_ ?_;rotate_left 2
     ·go_simp
      constructor
      ·rfl
      ·rfl
     clear hcv12;refine hK.out _ _ trivial (fun hHeld=>?_);clear hK K;refine norm_ (a' := ?_) ?_ ?_;rotate_left
     ·show Act.put _ (some 18) _ = _;simp only [Act.put,List.setIfInBounds_toArray,List.set_cons_zero,List.set_cons_succ,i64_w,i32_w];rfl
     exact norm_ (by simp only [putAll,Act.put,List.setIfInBounds_toArray,List.set_cons_zero,List.set_cons_succ]) (hCont (v106) _ ⟨(by (with_reducible repeat (first | apply Kd.R_alloc | apply Kd.R_drewN | apply Kd.R_drew));exact HO107.out),(q20_)⟩)
    ·skip
     refine Kd.R_lit_step (Kd.int .u8) _ 5 ?hg (N:=17) ?hd (xs:=([(wrap64 (48 + (Int.tmod a0 10))) % 256] : List Int)) (inner:=[.int .u8 ((wrap64 (48 + (Int.tmod a0 10))) % 256)]) (ok:=fun _=>True) (okp:=fun _=>True) ?hr ?hp (fun _ hk=>hk) trivial (Below.refl _ _) (Nat.le_refl _) (q1_) ?_;(case hd=>rfl);(case hg=>rfl);(case hr=>first | (go_simp;done) | (go_simp;rfl));(case hp=>exact (Reps.one (show Kd.M (Kd.int .u8) _ _ _ ((wrap64 (48 + (Int.tmod a0 10))) % 256) [.int .u8 ((wrap64 (48 + (Int.tmod a0 10))) % 256)] from rfl) (Reps.none _ _)));intro v106 w9 ho10 hb hg_ hnew_;clear hg_ hnew_
     (first | rw [← Ny105.out] at ho10 | (simp only [Int.reduceToNat] at ho10;rw [← Ny105.out] at ho10))
     have HO107:=Aside0.mk (Kd.R_lower ho10 (below_size (q20_)));replace HB:=bS_ HB hb;clear hb ho10;refine hK.out _ _ trivial (fun hHeld=>?_);clear hK K;refine norm_ (a' := ?_) ?_ ?_;rotate_left
     ·show Act.put _ (some 17) _ = _;simp only [Act.put,List.setIfInBounds_toArray,List.set_cons_zero,List.set_cons_succ,i64_w,i32_w];rfl
     refine two_ (i:=2) (j:=8) (Ni:=some 12) (Nj:=some 18) f45_ f299_ rfl rfl rfl rfl (two_of HT_.out (by kernel_rfl)) (by decide) (by decide) (fun K hK=>?_) (fun K hK=>?_)
     ·skip
      refine goes_ Tryz.func68 (by kernel_rfl) rfl #[.int .i64 (wrap64 (Int.tdiv a0 10))] (by rfl) rfl rfl (q21_) ?_
      with_reducible refine (ih k (by omega) (wrap64 (Int.tdiv a0 10)) t104 _ A6.out).mono ?_
      rintro e w11 ⟨rfl,hb⟩;refine ⟨_,rfl,?_⟩;replace HO107:=rB_ HO107 hb;replace HB:=bS_ HB hb
      (try clear hb)
      (try clear hk)
      refine hK.out _ _ trivial (fun hHeld=>?_);clear hK K;refine norm_ (a' := ?_) ?_ ?_;rotate_left
      ·show Act.put _ (some 12) _ = _;simp only [Act.put,List.setIfInBounds_toArray,List.set_cons_zero,List.set_cons_succ,i64_w,i32_w];rfl
      refine one_ (i:=8) (N:=some 18) f46_ rfl rfl (one_of HT_.out (by kernel_rfl)) (by decide) (fun K hK=>?_);have hcv12:=own_string (P:=Tryz.prog) Tryz.underlying22 Tryz.underlying5 Tryz.underlying9 (Kd.own_of_R HO107.out);refine value_ (w1:=?_) (v:=?_) (by rfl) rfl ?_ ?_;rotate_left 2
      ·go_simp
       constructor
       ·rfl
       ·rfl
      clear hcv12;refine hK.out _ _ trivial (fun hHeld=>?_);clear hK K;refine norm_ (a' := ?_) ?_ ?_;rotate_left
      ·show Act.put _ (some 18) _ = _;simp only [Act.put,List.setIfInBounds_toArray,List.set_cons_zero,List.set_cons_succ,i64_w,i32_w];rfl
      exact norm_ (by simp only [putAll,Act.put,List.setIfInBounds_toArray,List.set_cons_zero,List.set_cons_succ]) (hCont (v106) _ ⟨(by (with_reducible repeat (first | apply Kd.R_alloc | apply Kd.R_drewN | apply Kd.R_drew));exact HO107.out),(q20_)⟩)
     ·skip
      have hcv11:=own_string (P:=Tryz.prog) Tryz.underlying22 Tryz.underlying5 Tryz.underlying9 (Kd.own_of_R HO107.out);refine value_ (w1:=?_) (v:=?_) (by rfl) rfl ?_ ?_;rotate_left 2
      ·go_simp
       constructor
       ·rfl
       ·rfl
      clear hcv11;refine hK.out _ _ trivial (fun hHeld=>?_);clear hK K;refine norm_ (a' := ?_) ?_ ?_;rotate_left
      ·show Act.put _ (some 18) _ = _;simp only [Act.put,List.setIfInBounds_toArray,List.set_cons_zero,List.set_cons_succ,i64_w,i32_w];rfl
      refine one_ (i:=2) (N:=some 12) f46_ rfl rfl (one_of HT_.out (by kernel_rfl)) (by decide) (fun K hK=>?_);refine goes_ Tryz.func68 (by kernel_rfl) rfl #[.int .i64 (wrap64 (Int.tdiv a0 10))] (by rfl) rfl rfl (q21_) ?_
      with_reducible refine (ih k (by omega) (wrap64 (Int.tdiv a0 10)) t104 _ A6.out).mono ?_
      rintro e w12 ⟨rfl,hb⟩;refine ⟨_,rfl,?_⟩;replace HO107:=rB_ HO107 hb;replace HB:=bS_ HB hb
      (try clear hb)
      (try clear hk)
      refine hK.out _ _ trivial (fun hHeld=>?_);clear hK K;refine norm_ (a' := ?_) ?_ ?_;rotate_left
      ·show Act.put _ (some 12) _ = _;simp only [Act.put,List.setIfInBounds_toArray,List.set_cons_zero,List.set_cons_succ,i64_w,i32_w];rfl
      exact norm_ (by simp only [putAll,Act.put,List.setIfInBounds_toArray,List.set_cons_zero,List.set_cons_succ]) (hCont (v106) _ ⟨(by (with_reducible repeat (first | apply Kd.R_alloc | apply Kd.R_drewN | apply Kd.R_drew));exact HO107.out),(q20_)⟩)
   rintro v106 w13 ⟨h0_,h1_⟩;have n0_ : Aside0 (Kd.R (Kd.int .u8) 5 w13 w.heap.size (fun _=>True) v106 y105):=⟨h0_⟩;have n1_ : Aside0 (Below w.heap.size w w13):=⟨h1_⟩;clear HB h0_ h1_;have HO107:=n0_;have HB:=n1_;clear n0_ n1_;have hHeld:=trivial;refine norm_ (a' := ?_) ?_ ?_;rotate_left
   ·simp only [putAll,Act.put,List.setIfInBounds_toArray,List.set_cons_zero,List.set_cons_succ];rfl
   refine pa_ 9 19 f47_ ?_
   refine pa_ 10 2 f48_ ?_
   refine done_ (done_of HT_.out (by kernel_rfl)) ?_;try go_wp2
   go_ret;exact ⟨q6_,q20_⟩
  ·rw [if_neg c7] at H;exact absurd H (q1_)
/-! ### yAX: function 44 -/
def yAX.l0 : Nat → ByteArray → List (S25) → Int → Int → Option (ByteArray)
 | 0,_,_,_,_=>none
 | k + 1,x3,x6,x7,x8=>if x8 < x7 then (if 0 ≤ x8 then (if x8 < (x6.length : Int) then ((yAj.f k ((rd_T25 x6 x8).f0)).bind fun t103=>(if t103.size + 1 ≤ 9223372036854775807 then ((yAj.f k ((rd_T25 x6 x8).f1)).bind fun t104=>(if (t103 ++ (⟨#[45]⟩ : ByteArray)).size + t104.size ≤ 9223372036854775807 then (if ((t103 ++ (⟨#[45]⟩ : ByteArray)) ++ t104).size + 1 ≤ 9223372036854775807 then (if (((t103 ++ (⟨#[45]⟩ : ByteArray)) ++ t104) ++ (⟨#[32]⟩ : ByteArray)).size + ((rd_T25 x6 x8).f2).size ≤ 9223372036854775807 then (if ((((t103 ++ (⟨#[45]⟩ : ByteArray)) ++ t104) ++ (⟨#[32]⟩ : ByteArray)) ++ ((rd_T25 x6 x8).f2)).size + 1 ≤ 9223372036854775807 then (if x3.size + (((((t103 ++ (⟨#[45]⟩ : ByteArray)) ++ t104) ++ (⟨#[32]⟩ : ByteArray)) ++ ((rd_T25 x6 x8).f2)) ++ (⟨#[59]⟩ : ByteArray)).size ≤ 9223372036854775807 then (yAX.l0 k (x3 ++ (((((t103 ++ (⟨#[45]⟩ : ByteArray)) ++ t104) ++ (⟨#[32]⟩ : ByteArray)) ++ ((rd_T25 x6 x8).f2)) ++ (⟨#[59]⟩ : ByteArray))) x6 x7 (wrap64 (x8 + 1))) else (none)) else (none)) else (none)) else (none)) else (none))) else (none))) else (none)) else (none)) else (some x3)
def yAX.f (k : Nat) (l0 : List (S25)) : Option (ByteArray):=yAX.l0 k (⟨#[]⟩ : ByteArray) l0 (l0.length : Int) 0
def yAX.T5 : Bool × List (List Nat × List Nat):=(true,[([],[]),([],[]),([1],[1]),([2],[2]),([3],[3]),([],[]),([5],[5]),([6,3],[6]),([4,7],[4,7]),([8],[8]),([],[]),([10],[10]),([9,11],[9,11]),([12],[12]),([0,13],[0,13]),([14,7,0,1,2,3,4,5,6,7,8,9,10,11,12,13,14],[0,14])])
def yAX.B5 : List Nat:=[0,0,2,6,14,0,32,110,254,510,0,1024,4094,8190,16383,32767]
theorem yAX.tab5 : rtab .any (opsOf Tryz.f44 5) = yAX.T5:=by kernel_rfl
theorem yAX.bits5 : waitsOk yAX.T5.2 yAX.B5 = true:=by kernel_rfl
set_option maxHeartbeats 8000000 in
set_option maxRecDepth 100000 in
theorem yAX.calls (k : Nat) (A0 : Option Addr) (c0 : Nat) (l0 : List (S25)) (r : ByteArray) (w : World) (hr0 : Kd.C k25 w A0 l0.length l0) (hc0 : l0.length ≤ c0) (h : yAX.f k l0 = some r) :
  Calls Tryz.prog 44 #[.slice A0 l0.length c0] w fun e w' => e = .returned (.string r) ∧ Below w.heap.size w w' := by
 have hu25:=Tryz.underlying25;have HR0:=Aside0.mk hr0;have HC0:=Aside0.mk hc0;clear hr0 hc0;have HB:=Aside0.mk (Below.refl w.heap.size w);have H : (yAX.l0 k (⟨#[]⟩ : ByteArray) l0 (l0.length : Int) 0) = some r:=h;clear h;have H' := Aside0.mk H;clear H;go_enter Tryz.func44,Tryz.ntmps44
 go_wp2;go_loopg [3,8] k (fun kq v3 v8 w' => ∃ (x3_1 : ByteArray) (x8_1 : Int),v3 = .string x3_1 ∧ v8 = .int .i64 x8_1 ∧ Aside0 (yAX.l0 kq x3_1 l0 (l0.length : Int) x8_1 = some r) ∧ Aside0 (kq ≤ k) ∧ Aside0 (Below w.heap.size w w'))
 case atStart=>exact ⟨((⟨#[]⟩ : ByteArray)),(0),(q3_),(q3_),H', ⟨Nat.le_refl _⟩,⟨q20_⟩⟩
 case round =>
  clear H';obtain ⟨x3_1,x8_1,rfl,rfl,HA,HK1,HB⟩:=hrel;cases gk with
  | zero=>exact absurd HA.out (by simp [yAX.l0])
  | succ k1 =>
   have H:=HA.out;clear HA;simp only [yAX.l0] at H;by_cases c2 : x8_1 < (l0.length : Int)
   ·rw [if_pos c2] at H;have c2b0:=decide_eq_true c2;clear c2;by_cases c3 : 0 ≤ x8_1
    ·rw [if_pos c3] at H;have c3b0:=decide_eq_true c3;clear c3;by_cases c4 : x8_1 < (l0.length : Int)
     ·rw [if_pos c4] at H;have c4b0:=decide_eq_true c4;clear c4;replace H:=Option.bind_eq_some_iff.mp H;obtain ⟨t103,A50,H⟩:=H;(try dsimp only at H);have A5:=Aside0.mk A50;clear A50;by_cases c6 : t103.size + 1 ≤ 9223372036854775807
      ·rw [if_pos c6] at H;have c6b0:=eq_true c6;have c6b1:=decide_eq_true c6;try have c6b2 : (9223372036854775807 < t103.size + 1) = False:=eq_false (Nat.not_lt.2 c6)
       replace H:=Option.bind_eq_some_iff.mp H;obtain ⟨t104,A70,H⟩:=H;(try dsimp only at H);have A7:=Aside0.mk A70;clear A70;by_cases c8 : (t103 ++ (⟨#[45]⟩ : ByteArray)).size + t104.size ≤ 9223372036854775807
       ·rw [if_pos c8] at H;have c8b0:=eq_true c8;have c8b1:=decide_eq_true c8;try have c8b2 : (9223372036854775807 < (t103 ++ (⟨#[45]⟩ : ByteArray)).size + t104.size) = False:=eq_false (Nat.not_lt.2 c8)
        try have c8b3 : (9223372036854775807 < (t103).size + 1 + (t104).size) = False:=eq_false (Nat.not_lt.2 (by have h:=c8;simp only [ByteArray.size_append] at h;exact h))
        by_cases c9 : ((t103 ++ (⟨#[45]⟩ : ByteArray)) ++ t104).size + 1 ≤ 9223372036854775807
        ·rw [if_pos c9] at H;have c9b0:=eq_true c9;have c9b1:=decide_eq_true c9;try have c9b2 : (9223372036854775807 < ((t103 ++ (⟨#[45]⟩ : ByteArray)) ++ t104).size + 1) = False:=eq_false (Nat.not_lt.2 c9)
         try have c9b3 : (9223372036854775807 < (t103).size + 1 + (t104).size + 1) = False:=eq_false (Nat.not_lt.2 (by have h:=c9;simp only [ByteArray.size_append] at h;exact h))
         by_cases c10 : (((t103 ++ (⟨#[45]⟩ : ByteArray)) ++ t104) ++ (⟨#[32]⟩ : ByteArray)).size + ((rd_T25 l0 x8_1).f2).size ≤ 9223372036854775807
         ·rw [if_pos c10] at H;have c10b0:=eq_true c10;have c10b1:=decide_eq_true c10;try have c10b2 : (9223372036854775807 < (((t103 ++ (⟨#[45]⟩ : ByteArray)) ++ t104) ++ (⟨#[32]⟩ : ByteArray)).size + ((rd_T25 l0 x8_1).f2).size) = False:=eq_false (Nat.not_lt.2 c10)
          try have c10b3 : (9223372036854775807 < (t103).size + 1 + (t104).size + 1 + ((rd_T25 l0 x8_1).f2).size) = False:=eq_false (Nat.not_lt.2 (by have h:=c10;simp only [ByteArray.size_append] at h;exact h))
          by_cases c11 : ((((t103 ++ (⟨#[45]⟩ : ByteArray)) ++ t104) ++ (⟨#[32]⟩ : ByteArray)) ++ ((rd_T25 l0 x8_1).f2)).size + 1 ≤ 9223372036854775807
          ·rw [if_pos c11] at H;have c11b0:=eq_true c11;have c11b1:=decide_eq_true c11;try have c11b2 : (9223372036854775807 < ((((t103 ++ (⟨#[45]⟩ : ByteArray)) ++ t104) ++ (⟨#[32]⟩ : ByteArray)) ++ ((rd_T25 l0 x8_1).f2)).size + 1) = False:=eq_false (Nat.not_lt.2 c11)
           try have c11b3 : (9223372036854775807 < (t103).size + 1 + (t104).size + 1 + ((rd_T25 l0 x8_1).f2).size + 1) = False:=eq_false (Nat.not_lt.2 (by have h:=c11;simp only [ByteArray.size_append] at h;exact h))
           by_cases c12 : x3_1.size + (((((t103 ++ (⟨#[45]⟩ : ByteArray)) ++ t104) ++ (⟨#[32]⟩ : ByteArray)) ++ ((rd_T25 l0 x8_1).f2)) ++ (⟨#[59]⟩ : ByteArray)).size ≤ 9223372036854775807
           ·rw [if_pos c12] at H;have c12b0:=eq_true c12;have c12b1:=decide_eq_true c12;try have c12b2 : (9223372036854775807 < x3_1.size + (((((t103 ++ (⟨#[45]⟩ : ByteArray)) ++ t104) ++ (⟨#[32]⟩ : ByteArray)) ++ ((rd_T25 l0 x8_1).f2)) ++ (⟨#[59]⟩ : ByteArray)).size) = False:=eq_false (Nat.not_lt.2 c12)
            try have c12b3 : (9223372036854775807 < (x3_1).size + ((t103).size + 1 + (t104).size + 1 + ((rd_T25 l0 x8_1).f2).size + 1)) = False:=eq_false (Nat.not_lt.2 (by have h:=c12;simp only [ByteArray.size_append] at h;exact h))
            have H' := Aside0.mk H;clear H;have p101 : 0 ≤ (x8_1 : Int):=of_decide_eq_true (q4_);have q101 : x8_1 < (l0.length : Int):=of_decide_eq_true (q4_);obtain ⟨ad101,e101,hx101_0,hx101_1,hx101_2⟩:=at_T25 HR0.out x8_1 p101 q101;cases e101;replace hx101_0:=hB_ HB.out hx101_0;replace hx101_1:=hB_ HB.out hx101_1;replace hx101_2:=hB_ HB.out hx101_2;replace p101:=eq_true p101;replace q101:=eq_true q101;try go_wp2_with (first | ((with_reducible refine gate_dst (N:=5) rfl ?_);refine box_event ?hg (N:=5) ?hd (cs:=#[.int .i64 0,.int .i64 0,.string (⟨#[]⟩ : ByteArray)]) (t:=25) ?hr ?_;(case hd=>rfl);(case hg=>rfl);(case hr=>first | (go_simp;done) | (go_simp;rfl));intro gb102 hg w13 hbox hb;have BK102:=Aside0.mk (hbox);have GW102:=Aside0.mk ((q49_ : w.heap.size ≤ gb102));have GE102:=Aside0.mk ((q49_ : w.heap.size ≤ gb102));replace HB:=bS_ HB hb;clear hb hbox hg;obtain ⟨hcz14_0,hcz14_1,hcz14_2,hfz14_0,hfz14_1,hfz14_2⟩:=bx3_ BK102.out))
            have n0_ : Aside0 ((((w13.setCell ⟨gb102,0,none⟩ (.int .i64 ((rd_T25 l0 x8_1).f0))).setCell ⟨gb102,1,none⟩ (.int .i64 ((rd_T25 l0 x8_1).f1))).setCell ⟨gb102,2,none⟩ (.string ((rd_T25 l0 x8_1).f2))).heap[gb102]? = some (.cells #[.int .i64 ((rd_T25 l0 x8_1).f0),.int .i64 ((rd_T25 l0 x8_1).f1),.string ((rd_T25 l0 x8_1).f2)] 25 (0,0))):=⟨by (with_reducible repeat (first | refine blk_drewN ?_ _ | refine blk_drew ?_ | refine blk_alloc ?_ _));refine blk_put (cs:=#[.int .i64 ((rd_T25 l0 x8_1).f0),.int .i64 ((rd_T25 l0 x8_1).f1),.string (⟨#[]⟩ : ByteArray)]) ?_ 2 _ rfl;(with_reducible repeat (first | refine blk_drewN ?_ _ | refine blk_drew ?_ | refine blk_alloc ?_ _));refine blk_put (cs:=#[.int .i64 ((rd_T25 l0 x8_1).f0),.int .i64 0,.string (⟨#[]⟩ : ByteArray)]) ?_ 1 _ rfl;(with_reducible repeat (first | refine blk_drewN ?_ _ | refine blk_drew ?_ | refine blk_alloc ?_ _));refine blk_put (cs:=#[.int .i64 0,.int .i64 0,.string (⟨#[]⟩ : ByteArray)]) ?_ 0 _ rfl;(with_reducible repeat (first | refine blk_drewN ?_ _ | refine blk_drew ?_ | refine blk_alloc ?_ _));exact BK102.out⟩;have n1_ : Aside0 (Below w.heap.size w (((w13.setCell ⟨gb102,0,none⟩ (.int .i64 ((rd_T25 l0 x8_1).f0))).setCell ⟨gb102,1,none⟩ (.int .i64 ((rd_T25 l0 x8_1).f1))).setCell ⟨gb102,2,none⟩ (.string ((rd_T25 l0 x8_1).f2)))):=⟨q24_⟩
            (try clear BK102)
            (try clear HB)
            generalize (((w13.setCell ⟨gb102,0,none⟩ (.int .i64 ((rd_T25 l0 x8_1).f0))).setCell ⟨gb102,1,none⟩ (.int .i64 ((rd_T25 l0 x8_1).f1))).setCell ⟨gb102,2,none⟩ (.string ((rd_T25 l0 x8_1).f2))) = w15 at n0_ n1_ ⊢;have BK102:=n0_;have HB:=n1_;clear n0_ n1_;replace BK102:=Aside0.mk (blk_drew BK102.out);replace HB:=Aside0.mk (below_drew1 HB.out);refine start_ (n:=16) (S:=fun w' => w'.cell? ⟨gb102,0,none⟩ = some (.int .i64 ((rd_T25 l0 x8_1).f0)) ∧ w'.cell? ⟨gb102,1,none⟩ = some (.int .i64 ((rd_T25 l0 x8_1).f1)) ∧ w'.cell? ⟨gb102,2,none⟩ = some (.string ((rd_T25 l0 x8_1).f2))) (ds:=[]) f0_ (by kernel_rfl) rfl rfl ⟨(blk_cell BK102.out 0).trans rfl,(blk_cell BK102.out 1).trans rfl,(blk_cell BK102.out 2).trans rfl⟩ (fun hHeld=>?_);refine with_tabW yAX.tab5 yAX.bits5 (fun HT_ HW_=>?_);generalize w15.drew = w16 at BK102 HB hHeld ⊢;refine pure_ (i:=0) (N:=some 12) (v:=?_) (a' := ?_) f1_ rfl rfl (any_of HT_.out (by kernel_rfl)) (fun _ _ _ h=>h) (Or.inl ⟨by rfl,?_⟩) ?_ ?_;rotate_left
            ·intro w';go_simp;with_reducible rfl
            rotate_left
            ·exact q53_
            refine pa_ 1 13 f2_ ?_
            refine pa_ 5 17 f281_ ?_
            refine pa_ 10 22 f282_ ?_
            refine take_ (i:=2) (N:=some 14) (v:=?_) (a' := ?_) f283_ rfl rfl (take_ofW HT_.out HW_.out (by kernel_rfl)) (fun _ _ _ h=>h) (Or.inl ⟨by rfl,?_⟩) hHeld ?_ ?_;rotate_left
            ·rintro w' ⟨s0,s1,s2⟩;go_simp;with_reducible rfl
            rotate_left
            ·exact q53_
            refine take_ (i:=6) (N:=some 18) (v:=?_) (a' := ?_) f284_ rfl rfl (take_ofW HT_.out HW_.out (by kernel_rfl)) (fun _ _ _ h=>h) (Or.inl ⟨by rfl,?_⟩) hHeld ?_ ?_;rotate_left
            ·rintro w' ⟨s0,s1,s2⟩;go_simp;with_reducible rfl
            rotate_left
            ·exact q53_
            refine take_ (i:=11) (N:=some 23) (v:=?_) (a' := ?_) f285_ rfl rfl (take_ofW HT_.out HW_.out (by kernel_rfl)) (fun _ _ _ h=>h) (Or.inl ⟨by rfl,?_⟩) hHeld ?_ ?_;rotate_left
            ·rintro w' ⟨s0,s1,s2⟩;go_simp;with_reducible rfl
            rotate_left
            ·exact q53_
            refine one_ (i:=3) (N:=some 15) f286_ rfl rfl (one_of HT_.out (by kernel_rfl)) (by decide) (fun K hK=>?_);refine goes_ Tryz.func68 (by kernel_rfl) rfl #[.int .i64 ((rd_T25 l0 x8_1).f0)] (by rfl) rfl rfl (q21_) ?_
            with_reducible refine (yAj.calls k1 ((rd_T25 l0 x8_1).f0) t103 _ A5.out).mono ?_
            rintro e w17 ⟨rfl,hb⟩;refine ⟨_,rfl,?_⟩;replace BK102:=bkB_ BK102 hb;replace HB:=Aside0.mk (below_step (q24_) hb)
            (try clear hb)
            refine hK.out _ _ ⟨(blk_cell BK102.out 0).trans rfl,(blk_cell BK102.out 1).trans rfl,(blk_cell BK102.out 2).trans rfl⟩ (fun hHeld=>?_);clear hK K;refine norm_ (a' := ?_) ?_ ?_;rotate_left
            ·show Act.put _ (some 15) _ = _;simp only [Act.put,List.setIfInBounds_toArray,List.set_cons_zero,List.set_cons_succ,i64_w,i32_w];rfl
            refine pa_ 4 16 f287_ ?_
            refine one_ (i:=7) (N:=some 19) f288_ rfl rfl (one_of HT_.out (by kernel_rfl)) (by decide) (fun K hK=>?_);refine goes_ Tryz.func68 (by kernel_rfl) rfl #[.int .i64 ((rd_T25 l0 x8_1).f1)] (by rfl) rfl rfl (q21_) ?_
            with_reducible refine (yAj.calls k1 ((rd_T25 l0 x8_1).f1) t104 _ A7.out).mono ?_
            rintro e w18 ⟨rfl,hb⟩;refine ⟨_,rfl,?_⟩;replace BK102:=bkB_ BK102 hb;replace HB:=Aside0.mk (below_step (q24_) hb)
            (try clear hb)
            refine hK.out _ _ ⟨(blk_cell BK102.out 0).trans rfl,(blk_cell BK102.out 1).trans rfl,(blk_cell BK102.out 2).trans rfl⟩ (fun hHeld=>?_);clear hK K;refine norm_ (a' := ?_) ?_ ?_;rotate_left
            ·show Act.put _ (some 19) _ = _;simp only [Act.put,List.setIfInBounds_toArray,List.set_cons_zero,List.set_cons_succ,i64_w,i32_w];rfl
            refine pa_ 8 20 f289_ ?_
            refine pa_ 9 21 f12_ ?_
            refine pa_ 12 24 f13_ ?_
            refine pa_ 13 25 f14_ ?_
            refine pa_ 14 26 f15_ ?_
            refine pa_ 15 3 f16_ ?_
            refine done_ (done_of HT_.out (by kernel_rfl)) ?_;try go_wp2
            go_roundg k1
            case measure=>have:=HK1.out;omega
            case rel=>exact ⟨(x3_1 ++ (((((t103 ++ (⟨#[45]⟩ : ByteArray)) ++ t104) ++ (⟨#[32]⟩ : ByteArray)) ++ ((rd_T25 l0 x8_1).f2)) ++ (⟨#[59]⟩ : ByteArray))),(wrap64 (x8_1 + 1)),(q3_),(q3_),H', ⟨by have:=HK1.out;omega⟩,⟨q24_⟩⟩
           ·rw [if_neg c12] at H;exact absurd H (q1_)
          ·rw [if_neg c11] at H;exact absurd H (q1_)
         ·rw [if_neg c10] at H;exact absurd H (q1_)
        ·rw [if_neg c9] at H;exact absurd H (q1_)
       ·rw [if_neg c8] at H;exact absurd H (q1_)
      ·rw [if_neg c6] at H;exact absurd H (q1_)
     ·rw [if_neg c4] at H;exact absurd H (q1_)
    ·rw [if_neg c3] at H;exact absurd H (q1_)
   ·rw [if_neg c2] at H;have c2b0:=decide_eq_false c2;clear c2;obtain rfl:=Option.some.inj H;go_wp2;go_ret;exact ⟨q6_,q20_⟩
end Go.Proofs.YtglcpghappepaaaGreatDoor.G
