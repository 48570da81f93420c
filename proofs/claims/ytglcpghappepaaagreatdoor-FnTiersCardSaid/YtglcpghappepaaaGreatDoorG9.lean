-- Written by this session's own program over the kit's print (wip/tools/myprint.py); Lean checks it.
import Derived.Test.YtglcpghappepaaaGreatDoorMBase
import Derived.Test.YtglcpghappepaaaGreatDoorG0
namespace Go.Proofs.YtglcpghappepaaaGreatDoor.G
open Go.RowKit Go.Proofs.YtglcpghappepaaaGreatDoorW.PrintWords Go.Proofs.YtglcpghappepaaaGreatDoorW.PrintLast Go.Proofs.YtglcpghappepaaaGreatDoorW.PrintMore
attribute [local go_sem] max2_int min2_int max_two min_two max_three min_three max_four min_four str_geq str_gtr str_leq   -- for this text's walks alone
set_option linter.unusedVariables false
set_option linter.unusedSimpArgs false
/-! ### yAE: function 111 -/
def yAE.l0 : Nat → List (S25) → Int → Int → Int → Int → Option ((List (S25)))
 | 0,_,_,_,_,_=>none
 | k + 1,x0,x1,x2,x3,x10=>if x10 < x3 then (if 0 ≤ (wrap64 (x2 + x10)) then (if (wrap64 (x2 + x10)) < (x0.length : Int) then (if 0 ≤ (wrap64 (x1 + x10)) then (if (wrap64 (x1 + x10)) < (x0.length : Int) then (yAE.l0 k ((x0.set ((wrap64 (x1 + x10)) : Int).toNat (⟨(rd_T25 x0 (wrap64 (x2 + x10))).f0,(rd_T25 x0 (wrap64 (x2 + x10))).f1,(rd_T25 x0 (wrap64 (x2 + x10))).f2⟩ : S25)).set ((wrap64 (x2 + x10)) : Int).toNat (⟨(rd_T25 x0 (wrap64 (x1 + x10))).f0,(rd_T25 x0 (wrap64 (x1 + x10))).f1,(rd_T25 x0 (wrap64 (x1 + x10))).f2⟩ : S25)) x1 x2 x3 (wrap64 (x10 + 1))) else (none)) else (none)) else (none)) else (none)) else (some x0)
def yAE.f (k : Nat) (l0 : List (S25)) (a1 : Int) (a2 : Int) (a3 : Int)  : Option ((List (S25))):=yAE.l0 k l0 a1 a2 a3 0
def yAE.T3 : Bool × List (List Nat × List Nat):=(true,[([],[]),([],[]),([],[]),([1,2],[1,2]),([],[]),([],[]),([],[]),([5,6],[5,6]),([],[]),([],[]),([],[]),([9,10],[9,10]),([8,11],[8,11]),([12],[12]),([],[]),([],[]),([],[]),([15,16],[15,16]),([14,17],[14,17]),([18],[18]),([0,3,0,1,2,3,8,9,10,11,12,13,19],[0,3]),([20,13,0,1,2,3,8,9,10,11,12,13,19],[13,20]),([4,7,0,1,2,3,4,5,6,7,8,9,10,11,12,13,14,15,16,17,18,19,20,21],[4,7]),([22,19,21,0,1,2,3,4,5,6,7,8,9,10,11,12,13,14,15,16,17,18,19,20,21],[19,22])])
def yAE.B3 : List Nat:=[0,0,0,6,0,0,0,96,0,0,0,1536,3840,7936,0,0,0,98304,245760,507904,1048335,2096911,4194303,8388607]
theorem yAE.tab3 : rtab .any (opsOf Tryz.f111 3) = yAE.T3:=by kernel_rfl
theorem yAE.bits3 : waitsOk yAE.T3.2 yAE.B3 = true:=by kernel_rfl
set_option maxHeartbeats 8000000 in
set_option maxRecDepth 100000 in
theorem yAE.calls (k : Nat) (P0_ : Nat → Prop) (u9000_ : Value) (l0 : List (S25)) (a1 : Int) (a2 : Int) (a3 : Int)  (r : List (S25)) (w0 w : World) (hB : Below w0.heap.size w0 w) (ho0 : Kd.R k25 25 w w0.heap.size P0_ u9000_ l0) (h : yAE.f k l0 a1 a2 a3 = some r) :
  Calls Tryz.prog 111 #[u9000_,.int .i64 a1,.int .i64 a2,.int .i64 a3,.func (.func 64) #[] #[]] w fun e w' => e = .returned (.tuple #[]) ∧ Kd.R k25 25 w' w0.heap.size (fun k_=>(P0_ k_ ∨ w.heap.size ≤ k_)) u9000_ r ∧ Below w0.heap.size w0 w' ∧ Kept w w' (fun k_=>P0_ k_):=by
 have hu25:=Tryz.underlying25;have HO0:=Aside0.mk (show Kd.R k25 25 w w0.heap.size (fun k_=>(P0_ k_ ∨ w.heap.size ≤ k_)) u9000_ l0 from Kd.R_mono ho0 (fun k_ hk=>(.inl hk)));have HK:=Aside0.mk (Kept.refl w (fun k_=>P0_ k_));have HW0:=Aside0.mk hB.size;have HB:=Aside0.mk hB;clear hB;have H : (yAE.l0 k l0 a1 a2 a3 0) = some r:=h;clear h;have H' := Aside0.mk H;clear H;go_enter Tryz.func111,Tryz.ntmps111
 go_wp2;go_loopg [10] k (fun kq v10 w' => ∃ (x0_1 : List (S25)) (x10_1 : Int),v10 = .int .i64 x10_1 ∧ Aside0 (yAE.l0 kq x0_1 a1 a2 a3 x10_1 = some r) ∧ Aside0 (kq ≤ k) ∧ Aside0 (Kd.R k25 25 w' w0.heap.size (fun k_=>(P0_ k_ ∨ w.heap.size ≤ k_)) u9000_ x0_1) ∧ Aside0 (Kept w w' (fun k_=>P0_ k_)) ∧ Aside0 (Below w0.heap.size w0 w'))
 case atStart=>exact ⟨(l0),(0),(q3_),H', ⟨Nat.le_refl _⟩,⟨q7_⟩,⟨q19_⟩,⟨q20_⟩⟩
 case round =>
  clear H';obtain ⟨x0_1,x10_1,rfl,HA,HK1,HO_0,HK,HB⟩:=hrel;cases gk with
  | zero=>exact absurd HA.out (by simp [yAE.l0])
  | succ k1 =>
   have H:=HA.out;clear HA;simp only [yAE.l0] at H;by_cases c6 : x10_1 < a3
   ·rw [if_pos c6] at H;have c6b0:=decide_eq_true c6;clear c6;obtain ⟨ji7,hji7⟩ : ∃ j_ : Int,(wrap64 (a2 + x10_1)) = j_:=⟨_,rfl⟩;replace H : (if 0 ≤ (ji7) then (if (ji7) < (x0_1.length : Int) then (if 0 ≤ (wrap64 (a1 + x10_1)) then (if (wrap64 (a1 + x10_1)) < (x0_1.length : Int) then (yAE.l0 k1 ((x0_1.set ((wrap64 (a1 + x10_1)) : Int).toNat (⟨(rd_T25 x0_1 (ji7)).f0,(rd_T25 x0_1 (ji7)).f1,(rd_T25 x0_1 (ji7)).f2⟩ : S25)).set ((ji7) : Int).toNat (⟨(rd_T25 x0_1 (wrap64 (a1 + x10_1))).f0,(rd_T25 x0_1 (wrap64 (a1 + x10_1))).f1,(rd_T25 x0_1 (wrap64 (a1 + x10_1))).f2⟩ : S25)) a1 a2 a3 (wrap64 (x10_1 + 1))) else (none)) else (none)) else (none)) else (none)) = some r:=by first | (rw [hji7] at H;exact H) | (simp only [hji7] at H ⊢;exact H)
    have hji7w : (IntKind.i64.wrap (a2 + x10_1)) = ji7:=(i64_w _).trans hji7;by_cases c8 : 0 ≤ (ji7)
    ·rw [if_pos c8] at H;have c8b0:=decide_eq_true c8;clear c8;by_cases c9 : (ji7) < (x0_1.length : Int)
     ·rw [if_pos c9] at H;have c9b0:=decide_eq_true c9;clear c9;obtain ⟨ji10,hji10⟩ : ∃ j_ : Int,(wrap64 (a1 + x10_1)) = j_:=⟨_,rfl⟩;replace H : (if 0 ≤ (ji10) then (if (ji10) < (x0_1.length : Int) then (yAE.l0 k1 ((x0_1.set ((ji10) : Int).toNat (⟨(rd_T25 x0_1 (ji7)).f0,(rd_T25 x0_1 (ji7)).f1,(rd_T25 x0_1 (ji7)).f2⟩ : S25)).set ((ji7) : Int).toNat (⟨(rd_T25 x0_1 (ji10)).f0,(rd_T25 x0_1 (ji10)).f1,(rd_T25 x0_1 (ji10)).f2⟩ : S25)) a1 a2 a3 (wrap64 (x10_1 + 1))) else (none)) else (none)) = some r:=by first | (rw [hji10] at H;exact H) | (simp only [hji10] at H ⊢;exact H)
      have hji10w : (IntKind.i64.wrap (a1 + x10_1)) = ji10:=(i64_w _).trans hji10;by_cases c11 : 0 ≤ (ji10)
      ·rw [if_pos c11] at H;have c11b0:=decide_eq_true c11;clear c11;by_cases c12 : (ji10) < (x0_1.length : Int)
       ·rw [if_pos c12] at H;have c12b0:=decide_eq_true c12;clear c12;obtain ⟨y103,hy103⟩ : ∃ y_ : List (S25),y_ = (x0_1.set ((ji10) : Int).toNat (⟨(rd_T25 x0_1 (ji7)).f0,(rd_T25 x0_1 (ji7)).f1,(rd_T25 x0_1 (ji7)).f2⟩ : S25)):=⟨_,rfl⟩;replace H : (yAE.l0 k1 (y103.set ((ji7) : Int).toNat (⟨(rd_T25 x0_1 (ji10)).f0,(rd_T25 x0_1 (ji10)).f1,(rd_T25 x0_1 (ji10)).f2⟩ : S25)) a1 a2 a3 (wrap64 (x10_1 + 1))) = some r:=by first | (rw [hy103];with_reducible exact H) | (have H2_:=(Option.bind_some _ _).symm.trans H;rw [hy103];with_reducible exact H2_) | (have H2_:=(Option.bind_some _ _).symm.trans H;with_reducible exact H2_) | with_reducible exact H | (rw [hy103];exact H) | exact H
        have Ny103:=Aside0.mk hy103;clear hy103;obtain ⟨y104,hy104⟩ : ∃ y_ : List (S25),y_ = (y103.set ((ji7) : Int).toNat (⟨(rd_T25 x0_1 (ji10)).f0,(rd_T25 x0_1 (ji10)).f1,(rd_T25 x0_1 (ji10)).f2⟩ : S25)):=⟨_,rfl⟩;replace H : (yAE.l0 k1 y104 a1 a2 a3 (wrap64 (x10_1 + 1))) = some r:=by first | (rw [hy104];with_reducible exact H) | (have H2_:=(Option.bind_some _ _).symm.trans H;rw [hy104];with_reducible exact H2_) | (have H2_:=(Option.bind_some _ _).symm.trans H;with_reducible exact H2_) | with_reducible exact H | (rw [hy104];exact H) | exact H
        have Ny104:=Aside0.mk hy104;clear hy104;have H' := Aside0.mk H;clear H;try go_wp2
        replace HO_0:=Aside0.mk (Kd.R_drew HO_0.out);replace HK:=Aside0.mk (Kept.drew HK.out);replace HB:=Aside0.mk (below_drew1 HB.out);obtain ⟨Ao16,co16,eo16⟩:=Kd.R_slice HO_0.out
        (first | subst eo16 | (injection eo16 with f1_ f2_ f3_;have f4_:=f1_.symm;have f5_:=f3_.symm;clear f1_ f2_ f3_;subst f4_;subst f5_))
        have p101 : 0 ≤ ((ji7) : Int):=of_decide_eq_true (q4_);have q101 : (ji7) < (x0_1.length : Int):=of_decide_eq_true (q4_);obtain ⟨ad101,e101,hx101_0,hx101_1,hx101_2⟩:=at_T25 (Kd.R_reads' HO_0.out).2.2 (ji7) p101 q101;cases e101;replace p101:=eq_true p101;replace q101:=eq_true q101;have p102 : 0 ≤ ((ji10) : Int):=of_decide_eq_true (q4_);have q102 : (ji10) < (x0_1.length : Int):=of_decide_eq_true (q4_);obtain ⟨ad102,e102,hx102_0,hx102_1,hx102_2⟩:=at_T25 (Kd.R_reads' HO_0.out).2.2 (ji10) p102 q102;obtain rfl : ad101 = ad102:=(by injection e102);replace p102:=eq_true p102;replace q102:=eq_true q102;have p13 : 0 ≤ ((ji10) : Int):=of_decide_eq_true (q4_);have q13 : ((ji10) : Int) < ((x0_1.length : Int) : Int):=of_decide_eq_true (q4_);obtain ⟨go13,co13,eo13,gb13,gl13,cl13,HG13⟩:=Kd.R_form HO_0.out (by omega)
        (first | cases eo13 | (injection eo13 with ea_ en_ ec_;(first | subst ea_ | (injection ea_ with ea_;subst ea_));subst ec_;clear en_))
        have GB13:=Aside0.mk gb13;have GG13:=Aside0.mk HG13;clear gb13 gl13 HG13;have HMgo13:=Aside0.mk (show (P0_ go13 ∨ w.heap.size ≤ go13) from (HO_0.out.1 _ rfl))
        (first | simp only [add_plain] at hx101_0 | skip)
        (first | simp only [add_plain] at hx101_1 | skip)
        (first | simp only [add_plain] at hx101_2 | skip)
        (first | simp only [add_plain] at hx102_0 | skip)
        (first | simp only [add_plain] at hx102_1 | skip)
        (first | simp only [add_plain] at hx102_2 | skip)
        obtain ⟨ce13,hcl13,hM13,hcc13,hfr13⟩:=Kd.R_elem HO_0.out z25 ((ji10) : Int) p13 q13;obtain rfl:=k25_openM hM13;have hx13_0 : World.cell? _ ⟨go13,((ji10) : Int).toNat * 3,none⟩ = some (.int .i64 ((rd_T25 x0_1 (ji10)).f0)):=hcc13 0 _ rfl;have hx13_1 : World.cell? _ ⟨go13,((ji10) : Int).toNat * 3 + 1,none⟩ = some (.int .i64 ((rd_T25 x0_1 (ji10)).f1)):=hcc13 1 _ rfl;have hx13_2 : World.cell? _ ⟨go13,((ji10) : Int).toNat * 3 + 2,none⟩ = some (.string ((rd_T25 x0_1 (ji10)).f2)):=hcc13 2 _ rfl;have hf13_0 : World.frozen? _ ⟨go13,((ji10) : Int).toNat * 3,none⟩ = false:=hfr13 0;have hf13_1 : World.frozen? _ ⟨go13,((ji10) : Int).toNat * 3 + 1,none⟩ = false:=hfr13 1;have hf13_2 : World.frozen? _ ⟨go13,((ji10) : Int).toNat * 3 + 2,none⟩ = false:=hfr13 2;clear hcl13 hcc13 hfr13 hM13;replace p13:=eq_true p13;replace q13:=eq_true q13;obtain ⟨ce17,hcl17,hM17,hcc17,hfr17⟩:=Kd.R_elem HO_0.out z25 ((ji10) : Int) (of_decide_eq_true (q4_)) (by have h_ : ((ji10) : Int) < ((x0_1.length : Int) : Int):=of_decide_eq_true (q4_);first | exact h_ | (have e_:=(Kd.R_reads' HO_0.out).1;omega) | simpa using h_);obtain rfl:=k25_openM hM17;have HP17:=(Kd.R_seg HO_0.out ((ji10) : Int) (of_decide_eq_true (q4_)) (by have h_ : ((ji10) : Int) < ((x0_1.length : Int) : Int):=of_decide_eq_true (q4_);first | exact h_ | (have e_:=(Kd.R_reads' HO_0.out).1;omega) | simpa using h_) (seg:=[.int .i64 ((rd_T25 x0_1 (ji7)).f0),.int .i64 ((rd_T25 x0_1 (ji7)).f1),.string ((rd_T25 x0_1 (ji7)).f2)]) (j:=0) hcl17 hcc17 (show 3 ≤ 3 from by decide) (x' := (⟨(rd_T25 x0_1 (ji7)).f0,(rd_T25 x0_1 (ji7)).f1,(rd_T25 x0_1 (ji7)).f2⟩ : S25)) (k25_mkM _ _ _ (⟨(rd_T25 x0_1 (ji7)).f0,(rd_T25 x0_1 (ji7)).f1,(rd_T25 x0_1 (ji7)).f2⟩ : S25) ) (fun _ hk=>hk)).1;rw [← Ny103.out] at HP17;have HQ17:=Aside0.mk HP17;clear hcl17 hcc17 hfr17 hM17 HP17;have p14 : 0 ≤ ((ji7) : Int):=of_decide_eq_true (q4_);have q14 : ((ji7) : Int) < ((x0_1.length : Int) : Int):=of_decide_eq_true (q4_);obtain ⟨ce14,hcl14,hM14,hcc14,hfr14⟩:=Kd.R_elem HQ17.out z25 ((ji7) : Int) p14 q14;obtain rfl:=k25_openM hM14;have hx14_0 : World.cell? _ ⟨go13,((ji7) : Int).toNat * 3,none⟩ = some (.int .i64 ((rd_T25 y103 (ji7)).f0)):=hcc14 0 _ rfl;have hx14_1 : World.cell? _ ⟨go13,((ji7) : Int).toNat * 3 + 1,none⟩ = some (.int .i64 ((rd_T25 y103 (ji7)).f1)):=hcc14 1 _ rfl;have hx14_2 : World.cell? _ ⟨go13,((ji7) : Int).toNat * 3 + 2,none⟩ = some (.string ((rd_T25 y103 (ji7)).f2)):=hcc14 2 _ rfl;have hf14_0 : World.frozen? _ ⟨go13,((ji7) : Int).toNat * 3,none⟩ = false:=hfr14 0;have hf14_1 : World.frozen? _ ⟨go13,((ji7) : Int).toNat * 3 + 1,none⟩ = false:=hfr14 1;have hf14_2 : World.frozen? _ ⟨go13,((ji7) : Int).toNat * 3 + 2,none⟩ = false:=hfr14 2;clear hcl14 hcc14 hfr14 hM14;replace p14:=eq_true p14;replace q14:=eq_true q14;obtain ⟨ce18,hcl18,hM18,hcc18,hfr18⟩:=Kd.R_elem HQ17.out z25 ((ji7) : Int) (of_decide_eq_true (q4_)) (by have h_ : ((ji7) : Int) < ((x0_1.length : Int) : Int):=of_decide_eq_true (q4_);first | exact h_ | (have e_:=(Kd.R_reads' HO_0.out).1;omega) | simpa using h_);obtain rfl:=k25_openM hM18;have HP18:=(Kd.R_seg HQ17.out ((ji7) : Int) (of_decide_eq_true (q4_)) (by have h_ : ((ji7) : Int) < ((x0_1.length : Int) : Int):=of_decide_eq_true (q4_);first | exact h_ | (have e_:=(Kd.R_reads' HO_0.out).1;omega) | simpa using h_) (seg:=[.int .i64 ((rd_T25 x0_1 (ji10)).f0),.int .i64 ((rd_T25 x0_1 (ji10)).f1),.string ((rd_T25 x0_1 (ji10)).f2)]) (j:=0) hcl18 hcc18 (show 3 ≤ 3 from by decide) (x' := (⟨(rd_T25 x0_1 (ji10)).f0,(rd_T25 x0_1 (ji10)).f1,(rd_T25 x0_1 (ji10)).f2⟩ : S25)) (k25_mkM _ _ _ (⟨(rd_T25 x0_1 (ji10)).f0,(rd_T25 x0_1 (ji10)).f1,(rd_T25 x0_1 (ji10)).f2⟩ : S25) ) (fun _ hk=>hk)).1;rw [← Ny104.out] at HP18;have HQ18:=Aside0.mk HP18;clear hcl18 hcc18 hfr18 hM18 HP18;refine start_ (n:=24) (S:=fun w' => w'.cell? ⟨go13,((ji7)).toNat * 3,none⟩ = some (.int .i64 ((rd_T25 x0_1 (ji7)).f0)) ∧ w'.cell? ⟨go13,((ji7)).toNat * 3 + 1,none⟩ = some (.int .i64 ((rd_T25 x0_1 (ji7)).f1)) ∧ w'.cell? ⟨go13,((ji7)).toNat * 3 + 2,none⟩ = some (.string ((rd_T25 x0_1 (ji7)).f2)) ∧ w'.cell? ⟨go13,((ji10)).toNat * 3,none⟩ = some (.int .i64 ((rd_T25 x0_1 (ji10)).f0)) ∧ w'.cell? ⟨go13,((ji10)).toNat * 3 + 1,none⟩ = some (.int .i64 ((rd_T25 x0_1 (ji10)).f1)) ∧ w'.cell? ⟨go13,((ji10)).toNat * 3 + 2,none⟩ = some (.string ((rd_T25 x0_1 (ji10)).f2))) (ds:=[21,23]) f255_ (by kernel_rfl) rfl rfl ⟨hx101_0,hx101_1,hx101_2,hx102_0,hx102_1,hx102_2⟩ (fun hHeld=>?_);refine with_tabW yAE.tab3 yAE.bits3 (fun HT_ HW_=>?_);generalize wr.drew = w15 at HO_0 HK HB GG13 HQ17 HQ18 hf13_0 hf13_1 hf13_2 hf14_0 hf14_1 hf14_2 hx101_0 hx101_1 hx101_2 hx102_0 hx102_1 hx102_2 hx13_0 hx13_1 hx13_2 hx14_0 hx14_1 hx14_2 hHeld ⊢
        (try simp only [World.setCells,Nat.add_zero,Nat.add_assoc,Nat.reduceAdd,show (k25).sz = 3 from rfl] at hx13_0)
        (try simp only [World.setCells,Nat.add_zero,Nat.add_assoc,Nat.reduceAdd,show (k25).sz = 3 from rfl] at hx13_1)
        (try simp only [World.setCells,Nat.add_zero,Nat.add_assoc,Nat.reduceAdd,show (k25).sz = 3 from rfl] at hx13_2)
        (try simp only [World.setCells,Nat.add_zero,Nat.add_assoc,Nat.reduceAdd,show (k25).sz = 3 from rfl] at hf13_0)
        (try simp only [World.setCells,Nat.add_zero,Nat.add_assoc,Nat.reduceAdd,show (k25).sz = 3 from rfl] at hf13_1)
        (try simp only [World.setCells,Nat.add_zero,Nat.add_assoc,Nat.reduceAdd,show (k25).sz = 3 from rfl] at hf13_2)
        (try simp only [World.setCells,Nat.add_zero,Nat.add_assoc,Nat.reduceAdd,show (k25).sz = 3 from rfl] at hx14_0)
        (try simp only [World.setCells,Nat.add_zero,Nat.add_assoc,Nat.reduceAdd,show (k25).sz = 3 from rfl] at hx14_1)
        (try simp only [World.setCells,Nat.add_zero,Nat.add_assoc,Nat.reduceAdd,show (k25).sz = 3 from rfl] at hx14_2)
        (try simp only [World.setCells,Nat.add_zero,Nat.add_assoc,Nat.reduceAdd,show (k25).sz = 3 from rfl] at hf14_0)
        (try simp only [World.setCells,Nat.add_zero,Nat.add_assoc,Nat.reduceAdd,show (k25).sz = 3 from rfl] at hf14_1)
        (try simp only [World.setCells,Nat.add_zero,Nat.add_assoc,Nat.reduceAdd,show (k25).sz = 3 from rfl] at hf14_2)
        refine pa_ 0 16 f256_ ?_
        refine pa_ 1 17 f257_ ?_
        refine pa_ 2 18 f258_ ?_
        refine pa_ 3 19 f259_ ?_
        refine pa_ 4 20 f260_ ?_
        refine pa_ 5 21 f261_ ?_
        refine pa_ 6 22 f262_ ?_
        refine pa_ 7 23 f263_ ?_
        refine pa_ 8 24 f264_ ?_
        refine pa_ 9 25 f265_ ?_
        refine pa_ 10 26 f266_ ?_
        refine pa_ 11 27 f267_ ?_
        refine pa_ 12 28 f268_ ?_
        refine pa_ 14 30 f269_ ?_
        refine pa_ 15 31 f270_ ?_
        refine pa_ 16 32 f271_ ?_
        refine pa_ 17 33 f272_ ?_
        refine pa_ 18 34 f273_ ?_
        refine take_ (i:=13) (N:=some 29) (v:=?_) (a' := ?_) f274_ rfl rfl (take_ofW HT_.out HW_.out (by kernel_rfl)) (fun _ _ _ h=>h) (Or.inl ⟨by rfl,?_⟩) hHeld ?_ ?_;rotate_left
        ·rintro w' ⟨s0,s1,s2,s3,s4,s5⟩;go_simp;with_reducible rfl
        rotate_left
        ·exact q53_
        refine take_ (i:=19) (N:=some 35) (v:=?_) (a' := ?_) f275_ rfl rfl (take_ofW HT_.out HW_.out (by kernel_rfl)) (fun _ _ _ h=>h) (Or.inl ⟨by rfl,?_⟩) hHeld ?_ ?_;rotate_left
        ·rintro w' ⟨s0,s1,s2,s3,s4,s5⟩;go_simp;with_reducible rfl
        rotate_left
        ·exact q53_
        refine pa_ 20 36 f276_ ?_
        refine last_ (i:=21) (N:=none) f277_ rfl rfl (one_of HT_.out (by kernel_rfl)) (by decide) (fun K hK=>?_);refine skip_ (w1:=?_) (by rfl) rfl ?_ ?_;rotate_left
        ·go_simp;rfl
        refine hK.out _ _ ?_;clear hK K;refine pure_ (i:=22) (N:=some 37) (v:=?_) (a' := ?_) f278_ rfl rfl (any_of HT_.out (by kernel_rfl)) (fun _ _ _ h=>h) (Or.inl ⟨by rfl,?_⟩) ?_ ?_;rotate_left
        ·intro w';go_simp;with_reducible rfl
        rotate_left
        ·exact q53_
        refine last_ (i:=23) (N:=none) f279_ rfl rfl (one_of HT_.out (by kernel_rfl)) (by decide) (fun K hK=>?_);refine skip_ (w1:=?_) (by rfl) rfl ?_ ?_;rotate_left
        ·go_simp;rfl
        refine hK.out _ _ ?_;clear hK K;refine done_ (done_of HT_.out (by kernel_rfl)) ?_;try go_wp2
        go_roundg k1
        case measure=>have:=HK1.out;omega
        case rel=>exact ⟨(y104),(wrap64 (x10_1 + 1)),(q3_),H', ⟨by have:=HK1.out;omega⟩,⟨by (with_reducible repeat (first | apply Kd.R_alloc | apply Kd.R_drewN | apply Kd.R_drew));exact HQ18.out⟩,⟨by repeat (first | (with_reducible first | exact HK.out | apply Kept.alloc | apply Kept.drewN | apply Kept.drew | refine Kept.setCell ?_ HMgo13.out _ | refine Kept.setCell ?_ HMgo13.out _ | refine Kept.setCell ?_ HMgo13.out _ | refine Kept.setCell ?_ HMgo13.out _ | refine Kept.setCell ?_ HMgo13.out _ | refine Kept.setCell ?_ HMgo13.out _) | exact HK.out)⟩,⟨by repeat (first | (with_reducible first | exact HB.out | apply below_alloc | apply pw_below_drewN | apply below_drew1 | refine below_set ?_ GB13.out | refine below_set ?_ GB13.out | refine below_set ?_ GB13.out | refine below_set ?_ GB13.out | refine below_set ?_ GB13.out | refine below_set ?_ GB13.out) | exact HB.out)⟩⟩
       ·rw [if_neg c12] at H;exact absurd H (q1_)
      ·rw [if_neg c11] at H;exact absurd H (q1_)
     ·rw [if_neg c9] at H;exact absurd H (q1_)
    ·rw [if_neg c8] at H;exact absurd H (q1_)
   ·rw [if_neg c6] at H;have c6b0:=decide_eq_false c6;clear c6;obtain rfl:=Option.some.inj H;go_wp2;first | go_end0 | ((try simp only [Exit.inBlock,Exit.then]);refine bodyPost_ret (results_none rfl _ _ _) rfl ?_)
    exact ⟨q6_,q9_,q20_,q19_⟩
/-! ### yAO: function 101 -/
def yAO.l0 : Nat → List (S25) → Int → Int → Int → Option ((List (S25)))
 | 0,_,_,_,_=>none
 | k + 1,x0,x2,x10,x11=>if x10 = x11 then ((yAE.f k x0 (wrap64 (x2 - x10)) x2 x10).bind fun t101=>(some t101)) else (if x10 > x11 then ((yAE.f k x0 (wrap64 (x2 - x10)) x2 x11).bind fun t102=>(yAO.l0 k t102 x2 (wrap64 (x10 - x11)) x11)) else ((yAE.f k x0 (wrap64 (x2 - x10)) (wrap64 ((wrap64 (x2 + x11)) - x10)) x10).bind fun t103=>(yAO.l0 k t103 x2 x10 (wrap64 (x11 - x10)))))
def yAO.f (k : Nat) (l0 : List (S25)) (a1 : Int) (a2 : Int) (a3 : Int)  : Option ((List (S25))):=yAO.l0 k l0 a2 (wrap64 (a2 - a1)) (wrap64 (a3 - a2))
set_option maxHeartbeats 8000000 in
set_option maxRecDepth 100000 in
theorem yAO.calls (k : Nat) (P0_ : Nat → Prop) (u9000_ : Value) (l0 : List (S25)) (a1 : Int) (a2 : Int) (a3 : Int)  (r : List (S25)) (w0 w : World) (hB : Below w0.heap.size w0 w) (ho0 : Kd.R k25 25 w w0.heap.size P0_ u9000_ l0) (h : yAO.f k l0 a1 a2 a3 = some r) :
  Calls Tryz.prog 101 #[u9000_,.int .i64 a1,.int .i64 a2,.int .i64 a3,.func (.func 64) #[] #[]] w fun e w' => e = .returned (.tuple #[]) ∧ Kd.R k25 25 w' w0.heap.size (fun k_=>(P0_ k_ ∨ w.heap.size ≤ k_)) u9000_ r ∧ Below w0.heap.size w0 w' ∧ Kept w w' (fun k_=>P0_ k_):=by
 have HO0:=Aside0.mk (show Kd.R k25 25 w w0.heap.size (fun k_=>(P0_ k_ ∨ w.heap.size ≤ k_)) u9000_ l0 from Kd.R_mono ho0 (fun k_ hk=>(.inl hk)));have HK:=Aside0.mk (Kept.refl w (fun k_=>P0_ k_));have HW0:=Aside0.mk hB.size;have HB:=Aside0.mk hB;clear hB;have H : (yAO.l0 k l0 a2 (wrap64 (a2 - a1)) (wrap64 (a3 - a2))) = some r:=h;clear h;have H' := Aside0.mk H;clear H;go_enter Tryz.func101,Tryz.ntmps101
 go_wp2;go_loopg [10,11] k (fun kq v10 v11 w' => ∃ (x0_1 : List (S25)) (x10_1 : Int) (x11_1 : Int),v10 = .int .i64 x10_1 ∧ v11 = .int .i64 x11_1 ∧ Aside0 (yAO.l0 kq x0_1 a2 x10_1 x11_1 = some r) ∧ Aside0 (kq ≤ k) ∧ Aside0 (Kd.R k25 25 w' w0.heap.size (fun k_=>(P0_ k_ ∨ w.heap.size ≤ k_)) u9000_ x0_1) ∧ Aside0 (Kept w w' (fun k_=>P0_ k_)) ∧ Aside0 (Below w0.heap.size w0 w'))
 case atStart=>exact ⟨(l0),(wrap64 (a2 - a1)),(wrap64 (a3 - a2)),(q3_),(q3_),H', ⟨Nat.le_refl _⟩,⟨q7_⟩,⟨q19_⟩,⟨q20_⟩⟩
 case round =>
  clear H';obtain ⟨x0_1,x10_1,x11_1,rfl,rfl,HA,HK1,HO_0,HK,HB⟩:=hrel;cases gk with
  | zero=>exact absurd HA.out (by simp [yAO.l0])
  | succ k1 =>
   have H:=HA.out;clear HA;simp only [yAO.l0] at H;by_cases c6 : x10_1 = x11_1
   ·rw [if_pos c6] at H;have c6b0 : (x10_1 == x11_1) = true:=beq_iff_eq.mpr c6;have c6b1 : (x10_1 != x11_1) = false:=bne_eq_false_iff_eq.mpr c6;clear c6;replace H:=Option.bind_eq_some_iff.mp H;obtain ⟨t101,A70,H⟩:=H;(try dsimp only at H);have A7:=Aside0.mk A70;clear A70;obtain rfl:=Option.some.inj H;obtain ⟨Ao8,co8,eo8⟩:=Kd.R_slice HO_0.out;subst eo8;go_wp2_with (first | ((with_reducible refine gate_callee (f:=111) rfl ?_);refine goesL_ (some 57) rfl rfl Tryz.func111 (by kernel_rfl) rfl #[.slice Ao8 x0_1.length co8,.int .i64 (wrap64 (a2 - x10_1)),.int .i64 a2,.int .i64 x10_1,.func (.func 64) #[] #[]] rfl (q21_) ?_;(with_reducible refine (yAE.calls k1 (fun k_=>some k_ = (.slice Ao8 x0_1.length co8 : Value).ownBlock) (.slice Ao8 x0_1.length co8) x0_1 (wrap64 (a2 - x10_1)) a2 x10_1  t101 w0 _ ?side1 ?side2 A7.out).mono ?_);(case side1=>exact (q20_));(case side2=>exact Kd.R_tight rfl HO_0.out);rintro e w9 ⟨rfl,hy0,hb,hkp⟩;refine ⟨_,rfl,?_⟩;replace HK:=Aside0.mk (Kept.then_ (S:=(fun k_=>P0_ k_)) (q19_) hkp (fun k_ hs_=>(fun e_=>(HO_0.out.1 k_ e_.symm)) hs_));replace HO_0:=Aside0.mk (Kd.R_reok rfl hy0 (fun k_ e_=>HO_0.out.1 k_ e_));replace HB:=Aside0.mk (hb);(try clear hb);(try clear hkp);(try clear hy0)))
    first | go_end0 | ((try simp only [Exit.inBlock,Exit.then]);refine bodyPost_ret (results_none rfl _ _ _) rfl ?_)
    exact ⟨q6_,q9_,q20_,q19_⟩
   ·rw [if_neg c6] at H;have c6b0 : (x10_1 == x11_1) = false:=beq_eq_false_iff_ne.mpr c6;have c6b1 : (x10_1 != x11_1) = true:=bne_iff_ne.mpr c6;by_cases c10 : x10_1 > x11_1
    ·rw [if_pos c10] at H;have c10b0 : decide (x11_1 < x10_1) = true:=decide_eq_true c10;clear c10;replace H:=Option.bind_eq_some_iff.mp H;obtain ⟨t102,A110,H⟩:=H;(try dsimp only at H);have A11:=Aside0.mk A110;clear A110;have H' := Aside0.mk H;clear H;obtain ⟨Ao12,co12,eo12⟩:=Kd.R_slice HO_0.out;subst eo12;go_wp2_with (first | ((with_reducible refine gate_callee (f:=111) rfl ?_);refine goesL_ (some 31) rfl rfl Tryz.func111 (by kernel_rfl) rfl #[.slice Ao12 x0_1.length co12,.int .i64 (wrap64 (a2 - x10_1)),.int .i64 a2,.int .i64 x11_1,.func (.func 64) #[] #[]] rfl (q21_) ?_;(with_reducible refine (yAE.calls k1 (fun k_=>some k_ = (.slice Ao12 x0_1.length co12 : Value).ownBlock) (.slice Ao12 x0_1.length co12) x0_1 (wrap64 (a2 - x10_1)) a2 x11_1  t102 w0 _ ?side1 ?side2 A11.out).mono ?_);(case side1=>exact (q20_));(case side2=>exact Kd.R_tight rfl HO_0.out);rintro e w13 ⟨rfl,hy0,hb,hkp⟩;refine ⟨_,rfl,?_⟩;replace HK:=Aside0.mk (Kept.then_ (S:=(fun k_=>P0_ k_)) (q19_) hkp (fun k_ hs_=>(fun e_=>(HO_0.out.1 k_ e_.symm)) hs_));replace HO_0:=Aside0.mk (Kd.R_reok rfl hy0 (fun k_ e_=>HO_0.out.1 k_ e_));replace HB:=Aside0.mk (hb);(try clear hb);(try clear hkp);(try clear hy0)))
     go_roundg k1
     case measure=>have:=HK1.out;omega
     case rel=>exact ⟨(t102),(wrap64 (x10_1 - x11_1)),(x11_1),(q3_),(q3_),H', ⟨by have:=HK1.out;omega⟩,⟨q9_⟩,⟨q19_⟩,⟨q20_⟩⟩
    ·rw [if_neg c10] at H;have c10b0 : decide (x11_1 < x10_1) = false:=decide_eq_false c10;clear c10;replace H:=Option.bind_eq_some_iff.mp H;obtain ⟨t103,A140,H⟩:=H;(try dsimp only at H);have A14:=Aside0.mk A140;clear A140;have H' := Aside0.mk H;clear H;obtain ⟨Ao15,co15,eo15⟩:=Kd.R_slice HO_0.out;subst eo15;go_wp2_with (first | ((with_reducible refine gate_callee (f:=111) rfl ?_);refine goesL_ (some 46) rfl rfl Tryz.func111 (by kernel_rfl) rfl #[.slice Ao15 x0_1.length co15,.int .i64 (wrap64 (a2 - x10_1)),.int .i64 (wrap64 ((wrap64 (a2 + x11_1)) - x10_1)),.int .i64 x10_1,.func (.func 64) #[] #[]] rfl (q21_) ?_;(with_reducible refine (yAE.calls k1 (fun k_=>some k_ = (.slice Ao15 x0_1.length co15 : Value).ownBlock) (.slice Ao15 x0_1.length co15) x0_1 (wrap64 (a2 - x10_1)) (wrap64 ((wrap64 (a2 + x11_1)) - x10_1)) x10_1  t103 w0 _ ?side1 ?side2 A14.out).mono ?_);(case side1=>exact (q20_));(case side2=>exact Kd.R_tight rfl HO_0.out);rintro e w16 ⟨rfl,hy0,hb,hkp⟩;refine ⟨_,rfl,?_⟩;replace HK:=Aside0.mk (Kept.then_ (S:=(fun k_=>P0_ k_)) (q19_) hkp (fun k_ hs_=>(fun e_=>(HO_0.out.1 k_ e_.symm)) hs_));replace HO_0:=Aside0.mk (Kd.R_reok rfl hy0 (fun k_ e_=>HO_0.out.1 k_ e_));replace HB:=Aside0.mk (hb);(try clear hb);(try clear hkp);(try clear hy0)))
     go_roundg k1
     case measure=>have:=HK1.out;omega
     case rel=>exact ⟨(t103),(x10_1),(wrap64 (x11_1 - x10_1)),(q3_),(q3_),H', ⟨by have:=HK1.out;omega⟩,⟨q9_⟩,⟨q19_⟩,⟨q20_⟩⟩
end Go.Proofs.YtglcpghappepaaaGreatDoor.G
