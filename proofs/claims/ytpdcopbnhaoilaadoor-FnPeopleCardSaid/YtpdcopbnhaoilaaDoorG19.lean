-- Written by this session's own program over the kit's print (wip/tools/myprint.py); Lean checks it.
import Derived.Test.YtpdcopbnhaoilaaDoorMBase
import Derived.Test.YtpdcopbnhaoilaaDoorG0
import Derived.Test.YtpdcopbnhaoilaaDoorG2
import Derived.Test.YtpdcopbnhaoilaaDoorG3
import Derived.Test.YtpdcopbnhaoilaaDoorG17
import Derived.Test.YtpdcopbnhaoilaaDoorG18
namespace Go.Proofs.YtpdcopbnhaoilaaDoor.G
open Go.RowKit Go.Proofs.YtpdcopbnhaoilaaDoorW.PrintWords Go.Proofs.YtpdcopbnhaoilaaDoorW.PrintLast Go.Proofs.YtpdcopbnhaoilaaDoorW.PrintMore
attribute [local go_sem] max2_int min2_int max_two min_two max_three min_three max_four min_four str_geq str_gtr str_leq   -- for this text's walks alone
set_option linter.unusedVariables false
set_option linter.unusedSimpArgs false
/-! ### slices_pdqsortCmpFunc_Person: function 78 -/
def slices_pdqsortCmpFunc_Person.f (k : Nat) (l0 : List (S26)) (a1 : Int) (a2 : Int) (_a3 : Int) : Option ((List (S26))):=if wrap64 (a2 - a1) ≤ 12 then slices_insertionSortCmpFunc_Person.f k l0 a1 a2 else none
set_option maxHeartbeats 4000000 in
set_option maxRecDepth 100000 in
theorem slices_pdqsortCmpFunc_Person.calls (k : Nat) (P0_ : Nat → Prop) (u9000_ : Value) (l0 : List (S26)) (a1 : Int) (a2 : Int) (a3 : Int) (r : List (S26)) (w0 w : World) (hB : Below w0.heap.size w0 w) (ho0 : Kd.R k26 26 w w0.heap.size P0_ u9000_ l0) (h : slices_pdqsortCmpFunc_Person.f k l0 a1 a2 a3 = some r) :
  Calls Tryd.prog 78 #[u9000_,.int .i64 a1,.int .i64 a2,.int .i64 a3,.func (.func 41) #[] #[]] w fun e w' => e = .returned (.tuple #[]) ∧ Kd.R k26 26 w' w0.heap.size (fun k_=>(P0_ k_ ∨ w.heap.size ≤ k_)) u9000_ r ∧ Below w0.heap.size w0 w' ∧ Kept w w' (fun k_=>P0_ k_):=by
 unfold slices_pdqsortCmpFunc_Person.f at h
 split at h
 rotate_left
 ·exact absurd h (by simp)
 rename_i hl;have b1 : decide (wrap64 (a2 - a1) ≤ 12) = true:=decide_eq_true hl;have HC:=Aside0.mk (slices_insertionSortCmpFunc_Person.calls k P0_ u9000_ l0 a1 a2 r w0 w hB ho0 h);clear hl h hB ho0;go_enter Tryd.func78,Tryd.ntmps78
 go_wp2;refine wp_loop_rounds 1 ?_;rw [rounds_succ];go_wp2_with fail
 refine HC.out.mono ?_;rintro e w' ⟨rfl,hr,hb,hk⟩;have HR:=Aside0.mk hr;have HB:=Aside0.mk hb;have HK:=Aside0.mk hk;clear hr hb hk HC;go_wp2;first | go_end0 | ((try simp only [Exit.inBlock,Exit.then]);refine bodyPost_ret (results_none rfl _ _ _) rfl ?_)
 exact ⟨rfl,HR.out,HB.out,HK.out⟩
/-! ### bits_Len: function 79 -/
def bits_Len.tab : List Int:=[0,1,2,2,3,3,3,3,4,4,4,4,4,4,4,4]
def bits_Len.f (a0 : Int) : Option (Int):=if 0 ≤ a0 ∧ a0 < 16 then some (bits_Len.tab.getD a0.toNat 0) else none
set_option maxHeartbeats 8000000 in
set_option maxRecDepth 100000 in
theorem bits_Len.lite (x : Int) (w : World) (hx : x = 0 ∨ x = 1 ∨ x = 2 ∨ x = 3 ∨ x = 4 ∨ x = 5 ∨ x = 6 ∨ x = 7 ∨ x = 8 ∨ x = 9 ∨ x = 10 ∨ x = 11 ∨ x = 12 ∨ x = 13 ∨ x = 14 ∨ x = 15) :
  Calls Tryd.prog 101 #[.int .u64 x] w fun e w' => e = .returned (.int .i64 (bits_Len.tab.getD x.toNat 0)) ∧ w = w' := by
 rcases hx with rfl | rfl | rfl | rfl | rfl | rfl | rfl | rfl | rfl | rfl | rfl | rfl | rfl | rfl | rfl | rfl
 all_goals
  go_enter Tryd.func101,Tryd.ntmps101
  go_wp2;go_ret;exact ⟨by kernel_rfl,rfl⟩
set_option maxHeartbeats 1000000 in
set_option maxRecDepth 100000 in
theorem bits_Len.calls (a0 : Int) (r : Int) (w : World) (h : bits_Len.f a0 = some r) :
  Calls Tryd.prog 79 #[.int .u64 a0] w fun e w' => e = .returned (.int .i64 r) ∧ Drawn0 w w' := by
 unfold bits_Len.f at h
 split at h
 rotate_left
 ·exact absurd h (by simp)
 rename_i hx;obtain rfl:=Option.some.inj h;have HL:=Aside0.mk (fun w=>bits_Len.lite a0 w (by omega));clear h;go_enter Tryd.func79,Tryd.ntmps79
 go_wp2_with (go_at_call 101;refine (HL.out _).mono ?_;rintro e w' ⟨rfl,rfl⟩)
 go_ret;exact ⟨rfl,Drawn0.refl _⟩
/-! ### slices_SortFunc_Person: function 40 -/
def slices_SortFunc_Person.f (k : Nat) (l0 : List (S26))  : Option ((List (S26))):=(bits_Len.f (IntKind.u64.wrap ((l0.length : Int)))).bind fun t101=>((slices_pdqsortCmpFunc_Person.f k l0 0 (l0.length : Int) t101).bind fun t102=>(some t102))
set_option maxHeartbeats 8000000 in
set_option maxRecDepth 100000 in
theorem slices_SortFunc_Person.calls (k : Nat) (P0_ : Nat → Prop) (u9000_ : Value) (l0 : List (S26))  (r : List (S26)) (w0 w : World) (hB : Below w0.heap.size w0 w) (ho0 : Kd.R k26 26 w w0.heap.size P0_ u9000_ l0) (h : slices_SortFunc_Person.f k l0 = some r) :
  Calls Tryd.prog 40 #[u9000_,.func (.func 41) #[] #[]] w fun e w' => e = .returned (.tuple #[]) ∧ Kd.R k26 26 w' w0.heap.size (fun k_=>(P0_ k_ ∨ w.heap.size ≤ k_)) u9000_ r ∧ Below w0.heap.size w0 w' ∧ Kept w w' (fun k_=>P0_ k_):=by
 have HO0:=Aside0.mk (show Kd.R k26 26 w w0.heap.size (fun k_=>(P0_ k_ ∨ w.heap.size ≤ k_)) u9000_ l0 from Kd.R_mono ho0 (fun k_ hk=>(.inl hk)));have HK:=Aside0.mk (Kept.refl w (fun k_=>P0_ k_));have HW0:=Aside0.mk hB.size;have HB:=Aside0.mk hB;clear hB;have H : ((bits_Len.f (IntKind.u64.wrap ((l0.length : Int)))).bind fun t101=>((slices_pdqsortCmpFunc_Person.f k l0 0 (l0.length : Int) t101).bind fun t102=>(some t102))) = some r:=h;clear h;replace H:=Option.bind_eq_some_iff.mp H;obtain ⟨t101,A30,H⟩:=H;(try dsimp only at H);have A3:=Aside0.mk A30;clear A30;replace H:=Option.bind_eq_some_iff.mp H;obtain ⟨t102,A40,H⟩:=H;(try dsimp only at H);have A4:=Aside0.mk A40;clear A40;obtain rfl:=Option.some.inj H;obtain ⟨Ao5,co5,eo5⟩:=Kd.R_slice HO0.out;subst eo5;go_enter Tryd.func40,Tryd.ntmps40
 go_wp2_with (first | ((with_reducible refine gate_callee (f:=79) rfl ?_);refine goesL_ (some 11) rfl rfl Tryd.func79 (by kernel_rfl) rfl #[.int .u64 (IntKind.u64.wrap ((l0.length : Int)))] rfl (q34_) ?_;(with_reducible refine (bits_Len.calls (IntKind.u64.wrap ((l0.length : Int))) t101 _ A3.out).mono ?_);rintro e w' ⟨rfl,⟨nd,rfl⟩⟩;refine ⟨_,rfl,?_⟩) | ((with_reducible refine gate_callee (f:=78) rfl ?_);refine goesL_ (some 13) rfl rfl Tryd.func78 (by kernel_rfl) rfl #[.slice Ao5 l0.length co5,.int .i64 0,.int .i64 (l0.length : Int),.int .i64 t101,.func (.func 41) #[] #[]] rfl (q34_) ?_;(with_reducible refine (slices_pdqsortCmpFunc_Person.calls k (fun k_=>some k_ = (.slice Ao5 l0.length co5 : Value).ownBlock) (.slice Ao5 l0.length co5) l0 0 (l0.length : Int) t101  t102 w0 _ ?side1 ?side2 A4.out).mono ?_);(case side1=>repeat (first | (with_reducible first | exact HB.out | apply below_alloc | apply pw_below_drewN | apply below_drew1) | exact HB.out));(case side2=>exact Kd.R_tight rfl HO0.out);rintro e w6 ⟨rfl,hy0,hb,hkp⟩;refine ⟨_,rfl,?_⟩;replace HK:=Aside0.mk (Kept.then_ (S:=(fun k_=>P0_ k_)) (q32_) hkp (fun k_ hs_=>(fun e_=>(HO0.out.1 k_ e_.symm)) hs_));replace HO0:=Aside0.mk (Kd.R_reok rfl hy0 (fun k_ e_=>HO0.out.1 k_ e_));replace HB:=Aside0.mk (hb);(try clear hb);(try clear hkp);(try clear hy0)))
 first | go_end0 | ((try simp only [Exit.inBlock,Exit.then]);refine bodyPost_ret (results_none rfl _ _ _) rfl ?_)
 exact ⟨q4_,by (with_reducible repeat (first | apply Kd.R_alloc | apply Kd.R_drewN | apply Kd.R_drew));exact HO0.out,q33_,q32_⟩
/-! ### impl_AddPerson: function 9 -/
def impl_AddPerson.j0 : Nat → List (S26) → Bool → ByteArray → Int → Int → Int → Option ((List (S26)) × Bool)
 | 0,_,_,_,_,_,_=>none
 | k + 1,x0,x14,x102000,x102001,x102002,x102003=>if x14 = true then (some (([] : List (S26)),false)) else ((slices_Clone_Person.f x0).bind fun t104=>((some (([(⟨x102000,x102001,x102002,x102003⟩ : S26)] : List (S26)) : List (S26))).bind fun y107=>(if t104.length + y107.length < 3518437208883 then ((slices_SortFunc_Person.f k (t104 ++ y107)).bind fun t113=>((impl_ArePeople.f k t113).bind fun t114=>(if t114 = true then (some (t113,true)) else (some (([] : List (S26)),false))))) else (none))))
def impl_AddPerson.f (k : Nat) (l0 : List (S26)) (a1_0 : ByteArray) (a1_1 : Int) (a1_2 : Int) (a1_3 : Int) : Option ((List (S26)) × Bool):=(impl_ArePeople.f k l0).bind fun t102=>(if t102 = true then ((impl_IsPerson.f k a1_0 a1_1 a1_2 a1_3).bind fun t103=>(impl_AddPerson.j0 k l0 (!t103) a1_0 a1_1 a1_2 a1_3)) else (impl_AddPerson.j0 k l0 true a1_0 a1_1 a1_2 a1_3))
set_option maxHeartbeats 8000000 in
set_option maxRecDepth 100000 in
theorem impl_AddPerson.calls (k : Nat) (A0 : Option Addr) (c0 : Nat) (l0 : List (S26)) (a1_0 : ByteArray) (a1_1 : Int) (a1_2 : Int) (a1_3 : Int) (r1 : List (S26)) (r2 : Bool) (w : World) (hr0 : Kd.C k26 w A0 l0.length l0) (hc0 : l0.length ≤ c0) (h : impl_AddPerson.f k l0 a1_0 a1_1 a1_2 a1_3 = some (r1,r2)) :
  Calls Tryd.prog 9 #[.slice A0 l0.length c0,.agg #[.string a1_0,.int .i64 a1_1,.int .i64 a1_2,.int .i64 a1_3]] w fun e w' => ∃ v0_ : Value,e = .returned (.tuple #[v0_,.bool r2]) ∧ Kd.R k26 26 w' w.heap.size (fun _=>True) v0_ r1 ∧ Below w.heap.size w w' := by
 have hu26:=Tryd.underlying26;have HR0:=Aside0.mk hr0;have HC0:=Aside0.mk hc0;clear hr0 hc0;have HB:=Aside0.mk (Below.refl w.heap.size w);have H : ((impl_ArePeople.f k l0).bind fun t102=>(if t102 = true then ((impl_IsPerson.f k a1_0 a1_1 a1_2 a1_3).bind fun t103=>(impl_AddPerson.j0 k l0 (!t103) a1_0 a1_1 a1_2 a1_3)) else (impl_AddPerson.j0 k l0 true a1_0 a1_1 a1_2 a1_3))) = some (r1,r2):=h;clear h;have HC3:=Aside0.mk H;clear H;go_enter Tryd.func9,Tryd.ntmps9
 go_upto_region 1 with (first | ((with_reducible refine gate_dst (N:=3) rfl ?_);refine box_event ?hg (N:=3) ?hd (cs:=#[.string a1_0,.int .i64 a1_1,.int .i64 a1_2,.int .i64 a1_3]) (t:=26) ?hr ?_;(case hd=>rfl);(case hg=>rfl);(case hr=>first | (go_simp;done) | (go_simp;rfl));intro gb101 hg w4 hbox hb;have BK101:=Aside0.mk (hbox);have GW101:=Aside0.mk ((q64_ : w.heap.size ≤ gb101));have GE101:=Aside0.mk ((q64_ : w.heap.size ≤ gb101));replace HB:=bS_ HB hb;clear hb hbox hg))
 (try simp only [Act.put,List.setIfInBounds_toArray,List.set_cons_zero,List.set_cons_succ])
 go_cut [14] (fun v14 wc=>∃ (kq : Nat) (x14_2 : Bool),v14 = .bool x14_2 ∧ Aside0 (impl_AddPerson.j0 kq l0 x14_2 a1_0 a1_1 a1_2 a1_3 = some (r1,r2)) ∧ Aside0 (kq ≤ k) ∧ Aside0 (wc.heap[gb101]? = some (.cells #[.string a1_0,.int .i64 a1_1,.int .i64 a1_2,.int .i64 a1_3] 26 (0,0))) ∧ Aside0 (Below w.heap.size w wc))
 case first =>
  have H:=HC3.out;clear HC3;replace H:=Option.bind_eq_some_iff.mp H;obtain ⟨t102,A50,H⟩:=H;(try dsimp only at H);have A5:=Aside0.mk A50;clear A50;by_cases c6 : t102 = true
  ·subst c6;have H1 : ((impl_IsPerson.f k a1_0 a1_1 a1_2 a1_3).bind fun t103=>(impl_AddPerson.j0 k l0 (!t103) a1_0 a1_1 a1_2 a1_3)) = some (r1,r2):=by rw [if_pos rfl] at H;exact H
   clear H;have H:=H1;clear H1;replace H:=Option.bind_eq_some_iff.mp H;obtain ⟨t103,A70,H⟩:=H;(try dsimp only at H);have A7:=Aside0.mk A70;clear A70;have H' := Aside0.mk H;clear H;go_wp2_with (first | ((with_reducible refine gate_callee (f:=12) rfl ?_);refine goesL_ (some 8) rfl rfl Tryd.func12 (by kernel_rfl) rfl #[.slice A0 l0.length c0] rfl (q34_) ?_;(with_reducible refine (impl_ArePeople.calls k _ _ l0 true _ ?side1 ?side2 A5.out).mono ?_);(case side1=>exact cX_ (Kd.C_below HR0.out HB.out));(case side2=>exact HC0.out);rintro e w8 ⟨rfl,hb⟩;refine ⟨_,rfl,?_⟩;replace BK101:=bkB_ BK101 hb;replace HB:=Aside0.mk (below_step (q40_) hb);(try clear hb);have hcz9_0 : w8.cell? ⟨gb101,0,none⟩ = some (.string a1_0):=(blk_cell BK101.out 0).trans rfl;have hcz9_1 : w8.cell? ⟨gb101,1,none⟩ = some (.int .i64 a1_1):=(blk_cell BK101.out 1).trans rfl;have hcz9_2 : w8.cell? ⟨gb101,2,none⟩ = some (.int .i64 a1_2):=(blk_cell BK101.out 2).trans rfl;have hcz9_3 : w8.cell? ⟨gb101,3,none⟩ = some (.int .i64 a1_3):=(blk_cell BK101.out 3).trans rfl;have hfz9_0:=blk_frozen BK101.out 0;have hfz9_1:=blk_frozen BK101.out 1;have hfz9_2:=blk_frozen BK101.out 2;have hfz9_3:=blk_frozen BK101.out 3) | (go_at_call 13;(with_reducible refine (impl_IsPerson.calls k a1_0 a1_1 a1_2 a1_3 t103 _ A7.out).mono ?_);rintro e w10 ⟨rfl,hb⟩;replace BK101:=bkB_ BK101 hb;replace HB:=Aside0.mk (below_step (q40_) hb);(try clear hb)))
   go_meet
   case rel=>exact ⟨_,(!t103),(q1_),H', ⟨by first | omega | exact Nat.le_refl _⟩,⟨q18_⟩,⟨q40_⟩⟩
  ·replace c6:=Bool.eq_false_iff.mpr c6;subst c6;have H1 : (impl_AddPerson.j0 k l0 true a1_0 a1_1 a1_2 a1_3) = some (r1,r2):=by rw [if_neg (show ¬ (false = true) by decide)] at H;exact H
   clear H;have H:=H1;clear H1;have H' := Aside0.mk H;clear H;go_wp2_with (first | ((with_reducible refine gate_callee (f:=12) rfl ?_);refine goesL_ (some 8) rfl rfl Tryd.func12 (by kernel_rfl) rfl #[.slice A0 l0.length c0] rfl (q34_) ?_;(with_reducible refine (impl_ArePeople.calls k _ _ l0 false _ ?side1 ?side2 A5.out).mono ?_);(case side1=>exact cX_ (Kd.C_below HR0.out HB.out));(case side2=>exact HC0.out);rintro e w11 ⟨rfl,hb⟩;refine ⟨_,rfl,?_⟩;replace BK101:=bkB_ BK101 hb;replace HB:=Aside0.mk (below_step (q40_) hb);(try clear hb)))
   go_meet
   case rel=>exact ⟨_,(true),(q1_),H', ⟨by first | omega | exact Nat.le_refl _⟩,⟨q18_⟩,⟨q40_⟩⟩
 case rest =>
  clear HC3;try clear c6
  try clear hcz9_0
  try clear hcz9_1
  try clear hcz9_2
  try clear hcz9_3
  try clear hfz9_0
  try clear hfz9_1
  try clear hfz9_2
  try clear hfz9_3
  obtain ⟨kq,x14_2,rfl,HA,HJ2,BK101,HB⟩:=hcut;cases kq with
  | zero=>exact absurd HA.out (by simp [impl_AddPerson.j0])
  | succ kj2 =>
   have H:=HA.out;clear HA;simp only [impl_AddPerson.j0] at H;by_cases c12 : x14_2 = true
   ·subst c12;have H1 : (some (([] : List (S26)),false)) = some (r1,r2):=by rw [if_pos rfl] at H;exact H
    clear H;have H:=H1;clear H1;simp only [Option.some.injEq,Prod.mk.injEq] at H;obtain ⟨rfl,rfl⟩:=H;go_wp2;go_ret2
    exact ⟨_,q4_,q38_,q40_⟩
   ·replace c12:=Bool.eq_false_iff.mpr c12;subst c12;have H1 : ((slices_Clone_Person.f l0).bind fun t104=>((some (([(⟨a1_0,a1_1,a1_2,a1_3⟩ : S26)] : List (S26)) : List (S26))).bind fun y107=>(if t104.length + y107.length < 3518437208883 then ((slices_SortFunc_Person.f kj2 (t104 ++ y107)).bind fun t113=>((impl_ArePeople.f kj2 t113).bind fun t114=>(if t114 = true then (some (t113,true)) else (some (([] : List (S26)),false))))) else (none)))) = some (r1,r2):=by rw [if_neg (show ¬ (false = true) by decide)] at H;exact H
    clear H;have H:=H1;clear H1;replace H:=Option.bind_eq_some_iff.mp H;obtain ⟨t104,A130,H⟩:=H;(try dsimp only at H);have A13:=Aside0.mk A130;clear A130;obtain ⟨y107,hy107⟩ : ∃ y_ : List (S26),y_ = (([(⟨a1_0,a1_1,a1_2,a1_3⟩ : S26)] : List (S26))):=⟨_,rfl⟩;replace H : (if t104.length + y107.length < 3518437208883 then ((slices_SortFunc_Person.f kj2 (t104 ++ y107)).bind fun t113=>((impl_ArePeople.f kj2 t113).bind fun t114=>(if t114 = true then (some (t113,true)) else (some (([] : List (S26)),false))))) else (none)) = some (r1,r2):=q57_
    have Ny107:=Aside0.mk hy107;clear hy107;by_cases c14 : t104.length + y107.length < 3518437208883
    ·rw [if_pos c14] at H;have LMc14:=Aside0.mk c14;clear c14;obtain ⟨y110,hy110⟩ : ∃ y_ : List (S26),y_ = (t104 ++ y107):=⟨_,rfl⟩;replace H : ((slices_SortFunc_Person.f kj2 y110).bind fun t113=>((impl_ArePeople.f kj2 t113).bind fun t114=>(if t114 = true then (some (t113,true)) else (some (([] : List (S26)),false))))) = some (r1,r2):=by first | (rw [hy110];with_reducible exact H) | (have H2_:=(Option.bind_some _ _).symm.trans H;rw [hy110];with_reducible exact H2_) | (have H2_:=(Option.bind_some _ _).symm.trans H;with_reducible exact H2_) | with_reducible exact H | (rw [hy110];exact H) | exact H
     have Ny110:=Aside0.mk hy110;clear hy110;replace H:=Option.bind_eq_some_iff.mp H;obtain ⟨t113,A150,H⟩:=H;(try dsimp only at H);have A15:=Aside0.mk A150;clear A150;replace H:=Option.bind_eq_some_iff.mp H;obtain ⟨t114,A160,H⟩:=H;(try dsimp only at H);have A16:=Aside0.mk A160;clear A160;by_cases c17 : t114 = true
     ·subst c17;have H1 : (some (t113,true)) = some (r1,r2):=by rw [if_pos rfl] at H;exact H
      clear H;have H:=H1;clear H1;simp only [Option.some.injEq,Prod.mk.injEq] at H;obtain ⟨rfl,rfl⟩:=H;try go_wp2
      replace BK101:=Aside0.mk (blk_drew BK101.out);replace HB:=Aside0.mk (below_drew1 HB.out);refine start_ (n:=6) (S:=fun w' => w'.cell? ⟨gb101,0,none⟩ = some (.string a1_0) ∧ w'.cell? ⟨gb101,1,none⟩ = some (.int .i64 a1_1) ∧ w'.cell? ⟨gb101,2,none⟩ = some (.int .i64 a1_2) ∧ w'.cell? ⟨gb101,3,none⟩ = some (.int .i64 a1_3)) (ds:=[]) f97_ (by kernel_rfl) rfl rfl ⟨(blk_cell BK101.out 0).trans rfl,(blk_cell BK101.out 1).trans rfl,(blk_cell BK101.out 2).trans rfl,(blk_cell BK101.out 3).trans rfl⟩ (fun hHeld=>?_);generalize wc.drew = w18 at BK101 HB hHeld ⊢;refine pure_ (i:=0) (N:=some 15) (v:=?_) (a' := ?_) f98_ rfl rfl (by kernel_rfl) (fun _ _ _ h=>h) (Or.inl ⟨by rfl,?_⟩) ?_ ?_;rotate_left
      ·intro w';go_simp;with_reducible rfl
      rotate_left
      ·exact q70_
      refine take_ (i:=2) (N:=some 17) (v:=?_) (a' := ?_) f99_ rfl rfl (by kernel_rfl) (fun _ _ _ h=>h) (Or.inl ⟨by rfl,?_⟩) hHeld ?_ ?_;rotate_left
      ·rintro w' ⟨s0,s1,s2,s3⟩;go_simp;with_reducible rfl
      rotate_left
      ·exact q70_
      refine join_ (σ:=Value × Value) 2 f100_ (fun s_=>[(16,s_.1),(18,s_.2)]) (fun s_ w' => (w'.cell? ⟨gb101,0,none⟩ = some (.string a1_0) ∧ w'.cell? ⟨gb101,1,none⟩ = some (.int .i64 a1_1) ∧ w'.cell? ⟨gb101,2,none⟩ = some (.int .i64 a1_2) ∧ w'.cell? ⟨gb101,3,none⟩ = some (.int .i64 a1_3)) ∧ (Kd.R k26 26 w' w.heap.size (fun k_=>some k_ ≠ (s_.2 : Value).ownBlock ∧ k_ ≠ gb101) s_.1 t104) ∧ (Kd.R k26 26 w' w.heap.size (fun k_=>some k_ ≠ (s_.1 : Value).ownBlock ∧ k_ ≠ gb101) s_.2 y107) ∧ (w'.heap[gb101]? = some (.cells #[.string a1_0,.int .i64 a1_1,.int .i64 a1_2,.int .i64 a1_3] 26 (0,0))) ∧ (Below w.heap.size w w')) ?_ ?_;rotate_left
      ·intro hCont;refine two_ (i:=1) (j:=3) (Ni:=some 16) (Nj:=some 18) f101_ f102_ rfl rfl rfl rfl (by kernel_rfl) (by decide) (by decide) (fun K hK=>?_) (fun K hK=>?_)
       ·skip
        refine goes_ Tryd.func39 (by kernel_rfl) rfl #[.slice A0 l0.length c0] (by rfl) rfl rfl (q34_) ?_
        with_reducible refine (slices_Clone_Person.calls _ _ l0 t104 _ ?side1 ?side2 A13.out).mono ?_
        (case side1=>exact cX_ (Kd.C_below HR0.out HB.out))
        (case side2=>exact HC0.out)
        rintro e w19 ⟨v105,rfl,ho0,hb⟩;refine ⟨_,rfl,?_⟩;have HO106:=Aside0.mk (Kd.R_lower (Kd.R_newB ho0 (g:=gb101) (o:=.cells #[.string a1_0,.int .i64 a1_1,.int .i64 a1_2,.int .i64 a1_3] 26 (0,0)) (q18_)) (below_size (q40_)));replace BK101:=bkB_ BK101 hb;replace HB:=Aside0.mk (below_step (q40_) hb)
        (try clear hb)
        (try clear hb2)
        (try clear hk)
        (try clear hi)
        (try clear ho0)
        refine hK.out _ _ ⟨(blk_cell BK101.out 0).trans rfl,(blk_cell BK101.out 1).trans rfl,(blk_cell BK101.out 2).trans rfl,(blk_cell BK101.out 3).trans rfl⟩ (fun hHeld=>?_);clear hK K;refine norm_ (a' := ?_) ?_ ?_;rotate_left
        ·show Act.put _ (some 16) _ = _;simp only [Act.put,List.setIfInBounds_toArray,List.set_cons_zero,List.set_cons_succ,i64_w,i32_w];rfl
        refine one_ (i:=3) (N:=some 18) f100_ rfl rfl (by kernel_rfl) (by decide) (fun K hK=>?_);refine Kd.R_lit_step k26 _ 26 ?hg (N:=18) ?hd (xs:=([(⟨a1_0,a1_1,a1_2,a1_3⟩ : S26)] : List (S26))) (inner:=[.string a1_0,.int .i64 a1_1,.int .i64 a1_2,.int .i64 a1_3]) (ok:=fun _=>True) (okp:=fun _=>True) ?hr ?hp (fun _ hk=>hk) trivial (Below.refl _ _) (Nat.le_refl _) (by simp) ?_;(case hd=>rfl);(case hg=>rfl);(case hr=>first | (go_simp;done) | (go_simp;rfl));(case hp=>exact (Reps.c4 (show Kd.M k26 _ _ _ (⟨a1_0,a1_1,a1_2,a1_3⟩ : S26) [.string a1_0,.int .i64 a1_1,.int .i64 a1_2,.int .i64 a1_3] from (k26_mkM _ _ _ (⟨a1_0,a1_1,a1_2,a1_3⟩ : S26) )) (Reps.none _ _)));intro v108 w20 ho21 hb hg_ hnew_;clear hg_ hnew_
        (first | rw [← Ny107.out] at ho21 | (simp only [Int.reduceToNat] at ho21;rw [← Ny107.out] at ho21))
        have HO109:=Aside0.mk (Kd.R_lower (Kd.R_newB (Kd.R_new' ho21 (Kd.R_lt (by (with_reducible repeat (first | apply Kd.R_alloc | apply Kd.R_drewN | apply Kd.R_drew));exact HO106.out))) (g:=gb101) (o:=.cells #[.string a1_0,.int .i64 a1_1,.int .i64 a1_2,.int .i64 a1_3] 26 (0,0)) (q18_)) (below_size (q40_)));replace HO106:=rE_ HO106 ho21 hb;replace BK101:=bkB_ BK101 hb;replace HB:=Aside0.mk (below_step (q40_) hb);clear hb ho21;refine hK.out _ _ ⟨(blk_cell BK101.out 0).trans rfl,(blk_cell BK101.out 1).trans rfl,(blk_cell BK101.out 2).trans rfl,(blk_cell BK101.out 3).trans rfl⟩ (fun hHeld=>?_);clear hK K;refine norm_ (a' := ?_) ?_ ?_;rotate_left
        ·show Act.put _ (some 18) _ = _;simp only [Act.put,List.setIfInBounds_toArray,List.set_cons_zero,List.set_cons_succ,i64_w,i32_w];rfl
        exact norm_ (q5_) (hCont (v105,v108) _ ⟨hHeld,(by (with_reducible repeat (first | apply Kd.R_alloc | apply Kd.R_drewN | apply Kd.R_drew));exact Kd.R_mono HO106.out (fun _ hk=>⟨hk.2,hk.1.2⟩)),(by (with_reducible repeat (first | apply Kd.R_alloc | apply Kd.R_drewN | apply Kd.R_drew));exact Kd.R_mono HO109.out (fun _ hk=>⟨hk.1.2,hk.2⟩)),(q18_),(q40_)⟩)
       ·skip
        refine Kd.R_lit_step k26 _ 26 ?hg (N:=18) ?hd (xs:=([(⟨a1_0,a1_1,a1_2,a1_3⟩ : S26)] : List (S26))) (inner:=[.string a1_0,.int .i64 a1_1,.int .i64 a1_2,.int .i64 a1_3]) (ok:=fun _=>True) (okp:=fun _=>True) ?hr ?hp (fun _ hk=>hk) trivial (Below.refl _ _) (Nat.le_refl _) (by simp) ?_;(case hd=>rfl);(case hg=>rfl);(case hr=>first | (go_simp;done) | (go_simp;rfl));(case hp=>exact (Reps.c4 (show Kd.M k26 _ _ _ (⟨a1_0,a1_1,a1_2,a1_3⟩ : S26) [.string a1_0,.int .i64 a1_1,.int .i64 a1_2,.int .i64 a1_3] from (k26_mkM _ _ _ (⟨a1_0,a1_1,a1_2,a1_3⟩ : S26) )) (Reps.none _ _)));intro v108 w19 ho20 hb hg_ hnew_;clear hg_ hnew_
        (first | rw [← Ny107.out] at ho20 | (simp only [Int.reduceToNat] at ho20;rw [← Ny107.out] at ho20))
        have HO109:=Aside0.mk (Kd.R_lower (Kd.R_newB ho20 (g:=gb101) (o:=.cells #[.string a1_0,.int .i64 a1_1,.int .i64 a1_2,.int .i64 a1_3] 26 (0,0)) (q18_)) (below_size (q40_)));replace BK101:=bkB_ BK101 hb;replace HB:=Aside0.mk (below_step (q40_) hb);clear hb ho20;refine hK.out _ _ ⟨(blk_cell BK101.out 0).trans rfl,(blk_cell BK101.out 1).trans rfl,(blk_cell BK101.out 2).trans rfl,(blk_cell BK101.out 3).trans rfl⟩ (fun hHeld=>?_);clear hK K;refine norm_ (a' := ?_) ?_ ?_;rotate_left
        ·show Act.put _ (some 18) _ = _;simp only [Act.put,List.setIfInBounds_toArray,List.set_cons_zero,List.set_cons_succ,i64_w,i32_w];rfl
        refine one_ (i:=1) (N:=some 16) f100_ rfl rfl (by kernel_rfl) (by decide) (fun K hK=>?_);refine goes_ Tryd.func39 (by kernel_rfl) rfl #[.slice A0 l0.length c0] (by rfl) rfl rfl (q34_) ?_
        with_reducible refine (slices_Clone_Person.calls _ _ l0 t104 _ ?side1 ?side2 A13.out).mono ?_
        (case side1=>exact cX_ (Kd.C_below HR0.out HB.out))
        (case side2=>exact HC0.out)
        rintro e w21 ⟨v105,rfl,ho0,hb⟩;refine ⟨_,rfl,?_⟩;have HO106:=Aside0.mk (Kd.R_lower (Kd.R_newB (Kd.R_new' ho0 (Kd.R_lt (by (with_reducible repeat (first | apply Kd.R_alloc | apply Kd.R_drewN | apply Kd.R_drew));exact HO109.out))) (g:=gb101) (o:=.cells #[.string a1_0,.int .i64 a1_1,.int .i64 a1_2,.int .i64 a1_3] 26 (0,0)) (q18_)) (below_size (q40_)));replace HO109:=rE_ HO109 ho0 hb;replace BK101:=bkB_ BK101 hb;replace HB:=Aside0.mk (below_step (q40_) hb)
        (try clear hb)
        (try clear hb2)
        (try clear hk)
        (try clear hi)
        (try clear ho0)
        refine hK.out _ _ ⟨(blk_cell BK101.out 0).trans rfl,(blk_cell BK101.out 1).trans rfl,(blk_cell BK101.out 2).trans rfl,(blk_cell BK101.out 3).trans rfl⟩ (fun hHeld=>?_);clear hK K;refine norm_ (a' := ?_) ?_ ?_;rotate_left
        ·show Act.put _ (some 16) _ = _;simp only [Act.put,List.setIfInBounds_toArray,List.set_cons_zero,List.set_cons_succ,i64_w,i32_w];rfl
        exact norm_ (q5_) (hCont (v105,v108) _ ⟨hHeld,(by (with_reducible repeat (first | apply Kd.R_alloc | apply Kd.R_drewN | apply Kd.R_drew));exact Kd.R_mono HO106.out (fun _ hk=>⟨hk.1.2,hk.2⟩)),(by (with_reducible repeat (first | apply Kd.R_alloc | apply Kd.R_drewN | apply Kd.R_drew));exact Kd.R_mono HO109.out (fun _ hk=>⟨hk.2,hk.1.2⟩)),(q18_),(q40_)⟩)
      rintro ⟨v105,v108⟩ w22 ⟨hS_,h0_,h1_,h2_,h3_⟩;have n0_ : Aside0 (Kd.R k26 26 w22 w.heap.size (fun k_=>some k_ ≠ (v108 : Value).ownBlock ∧ k_ ≠ gb101) v105 t104):=⟨h0_⟩;have n1_ : Aside0 (Kd.R k26 26 w22 w.heap.size (fun k_=>some k_ ≠ (v105 : Value).ownBlock ∧ k_ ≠ gb101) v108 y107):=⟨h1_⟩;have n2_ : Aside0 (w22.heap[gb101]? = some (.cells #[.string a1_0,.int .i64 a1_1,.int .i64 a1_2,.int .i64 a1_3] 26 (0,0))):=⟨h2_⟩;have n3_ : Aside0 (Below w.heap.size w w22):=⟨h3_⟩;clear BK101 HB h0_ h1_ h2_ h3_;have HO106:=n0_;have HO109:=n1_;have BK101:=n2_;have HB:=n3_;clear n0_ n1_ n2_ n3_;have hHeld : w22.cell? ⟨gb101,0,none⟩ = some (.string a1_0) ∧ w22.cell? ⟨gb101,1,none⟩ = some (.int .i64 a1_1) ∧ w22.cell? ⟨gb101,2,none⟩ = some (.int .i64 a1_2) ∧ w22.cell? ⟨gb101,3,none⟩ = some (.int .i64 a1_3):=hS_;obtain ⟨Ao24,co24,eo24⟩:=Kd.R_slice HO109.out
      (first | subst eo24 | (injection eo24 with f1_ f2_ f3_;have f4_:=f1_.symm;have f5_:=f3_.symm;clear f1_ f2_ f3_;subst f4_;subst f5_))
      refine norm_ (a' := ?_) ?_ ?_;rotate_left
      ·simp only [putAll,Act.put,List.setIfInBounds_toArray,List.set_cons_zero,List.set_cons_succ];rfl
      refine one_ (i:=4) (N:=some 19) f103_ rfl rfl (by kernel_rfl) (by decide) (fun K hK=>?_);refine Kd.R_append_rows_step k26 (w0:=w) w.heap.size (by rfl) (.tmp 16) (.tmp 18) 24 26 (.agg #[(.string ⟨#[]⟩),(.int .i64 0),(.int .i64 0),(.int .i64 0)]) 40 rfl Tryd.underlying24 info26 rfl (by decide) (by omega) v105 t104 y107 _ _ _ (fun k_=>some k_ ≠ (.slice Ao24 y107.length co24 : Value).ownBlock ∧ k_ ≠ gb101) (fun _=>False) rfl rfl ?aO ?aR (fun _ _ h=>h) (fun _ h=>h.elim) ?aF ?aB ?aS ?aL ?_
      (case aR=>exact cX_ (Kd.R_reads' HO109.out).2.2)
      (case aB=>exact (q40_))
      (case aF=>exact (fun k_ hk=>⟨Kd.fresh' (Kd.R_lt (by (with_reducible repeat (first | apply Kd.R_alloc | apply Kd.R_drewN | apply Kd.R_drew));exact HO109.out)) k_ hk,Kd.freshB (g:=gb101) (o:=.cells #[.string a1_0,.int .i64 a1_1,.int .i64 a1_2,.int .i64 a1_3] 26 (0,0)) (q18_) k_ hk⟩))
      (case aO=>exact (by (with_reducible repeat (first | apply Kd.R_alloc | apply Kd.R_drewN | apply Kd.R_drew));exact HO106.out))
      (case aS=>exact (below_size (q40_)))
      (case aL=>have:=LMc14.out;omega)
      intro v111 w23 ho hb hg hat;rw [← Ny110.out] at ho;replace BK101:=Aside0.mk (blk_grown (g:=gb101) (o:=.cells #[.string a1_0,.int .i64 a1_1,.int .i64 a1_2,.int .i64 a1_3] 26 (0,0)) (q18_) hg (Kd.R_away HO106.out (fun _ hk=>hk.2)));replace HO109:=Aside0.mk (Kd.R_after (ok:=(fun k_=>k_ ≠ gb101)) (by (with_reducible repeat (first | apply Kd.R_alloc | apply Kd.R_drewN | apply Kd.R_drew));exact Kd.R_mono HO109.out (fun _ hk=>⟨hk.2,hk.1⟩)) hg hat);replace HB:=Aside0.mk (hb);have HO112:=Aside0.mk (ho);clear HO106 ho hb hg hat;refine hK.out _ _ ⟨(blk_cell BK101.out 0).trans rfl,(blk_cell BK101.out 1).trans rfl,(blk_cell BK101.out 2).trans rfl,(blk_cell BK101.out 3).trans rfl⟩ (fun hHeld=>?_);clear hK K;refine norm_ (a' := ?_) ?_ ?_;rotate_left
      ·show Act.put _ (some 19) _ = _;simp only [Act.put,List.setIfInBounds_toArray,List.set_cons_zero,List.set_cons_succ,i64_w,i32_w];rfl
      refine pure_ (i:=5) (N:=some 6) (v:=?_) (a' := ?_) f104_ rfl rfl (by kernel_rfl) (fun _ _ _ h=>h) (Or.inl ⟨by rfl,?_⟩) ?_ ?_;rotate_left
      ·intro w';go_simp;with_reducible rfl
      rotate_left
      ·exact q70_
      refine done_ (by kernel_rfl) ?_;obtain ⟨Ao25,co25,eo25⟩:=Kd.R_slice HO112.out;subst eo25;try go_wp2_with (first | ((with_reducible refine gate_callee (f:=40) rfl ?_);refine goesL_ (some 21) rfl rfl Tryd.func40 (by kernel_rfl) rfl #[.slice Ao25 y110.length co25,.func (.func 41) #[] #[]] rfl (q34_) ?_;(with_reducible refine (slices_SortFunc_Person.calls kj2 (fun k_=>some k_ = (.slice Ao25 y110.length co25 : Value).ownBlock) (.slice Ao25 y110.length co25) y110  t113 w _ ?side1 ?side2 A15.out).mono ?_);(case side1=>repeat (first | (with_reducible first | exact HB.out | apply below_alloc | apply pw_below_drewN | apply below_drew1 | refine below_set ?_ GE101.out) | exact HB.out));(case side2=>exact Kd.R_tight rfl HO112.out);rintro e w26 ⟨rfl,hy0,hb,hkp⟩;refine ⟨_,rfl,?_⟩;replace BK101:=Aside0.mk (blk_kept (q18_) hkp (fun hs_=>(fun e_=>(Kd.R_away HO112.out (fun _ hk=>hk.2)) e_) hs_));replace HO109:=Aside0.mk (Kd.R_mono (ok' := fun k_=>some k_ ≠ (.slice Ao25 y110.length co25 : Value).ownBlock ∧ k_ ≠ gb101) (Kd.R_keptB (HO109.out) hkp (fun k_ hk_ hs_=>(hk_.2) hs_)) (fun k_ hk_=>⟨hk_.1.2,hk_.1.1⟩));replace HO112:=Aside0.mk (Kd.R_reok rfl hy0 (fun k_ e_=>HO112.out.1 k_ e_));replace HB:=Aside0.mk (hb);(try clear hb);(try clear hkp);(try clear hy0)) | ((with_reducible refine gate_callee (f:=12) rfl ?_);refine goesL_ (some 23) rfl rfl Tryd.func12 (by kernel_rfl) rfl #[.slice Ao25 t113.length co25] rfl (by (try simp only [List.map_toArray,List.map_cons,List.map_nil]);first | done | (rw [show t113.length = y110.length from (Kd.R_reads' HO112.out).1.symm] <;> rfl) | rfl | (simp only [List.length_drop,List.length_take];rfl)) ?_;(with_reducible refine (impl_ArePeople.calls kj2 _ _ t113 true _ ?side1 ?side2 A16.out).mono ?_);(case side1=>exact cX_ (Kd.R_reads' HO112.out).2.2);(case side2=>rw [show t113.length = y110.length from (Kd.R_reads' HO112.out).1.symm];exact (Kd.R_reads' HO112.out).2.1);rintro e w27 ⟨rfl,hb⟩;refine ⟨_,rfl,?_⟩;replace HO109:=rB_ HO109 hb;replace HO112:=rB_ HO112 hb;replace BK101:=bkB_ BK101 hb;replace HB:=Aside0.mk (below_step (q40_) hb);(try clear hb)))
      go_ret2
      exact ⟨_,q4_,by (with_reducible repeat (first | apply Kd.R_alloc | apply Kd.R_drewN | apply Kd.R_drew));exact Kd.R_mono HO112.out (fun _ hk=>trivial),q40_⟩
     ·replace c17:=Bool.eq_false_iff.mpr c17;subst c17;have H1 : (some (([] : List (S26)),false)) = some (r1,r2):=by rw [if_neg (show ¬ (false = true) by decide)] at H;exact H
      clear H;have H:=H1;clear H1;simp only [Option.some.injEq,Prod.mk.injEq] at H;obtain ⟨rfl,rfl⟩:=H;try go_wp2
      replace BK101:=Aside0.mk (blk_drew BK101.out);replace HB:=Aside0.mk (below_drew1 HB.out);refine start_ (n:=6) (S:=fun w' => w'.cell? ⟨gb101,0,none⟩ = some (.string a1_0) ∧ w'.cell? ⟨gb101,1,none⟩ = some (.int .i64 a1_1) ∧ w'.cell? ⟨gb101,2,none⟩ = some (.int .i64 a1_2) ∧ w'.cell? ⟨gb101,3,none⟩ = some (.int .i64 a1_3)) (ds:=[]) f97_ (by kernel_rfl) rfl rfl ⟨(blk_cell BK101.out 0).trans rfl,(blk_cell BK101.out 1).trans rfl,(blk_cell BK101.out 2).trans rfl,(blk_cell BK101.out 3).trans rfl⟩ (fun hHeld=>?_);generalize wc.drew = w28 at BK101 HB hHeld ⊢;refine pure_ (i:=0) (N:=some 15) (v:=?_) (a' := ?_) f98_ rfl rfl (by kernel_rfl) (fun _ _ _ h=>h) (Or.inl ⟨by rfl,?_⟩) ?_ ?_;rotate_left
      ·intro w';go_simp;with_reducible rfl
      rotate_left
      ·exact q70_
      refine take_ (i:=2) (N:=some 17) (v:=?_) (a' := ?_) f99_ rfl rfl (by kernel_rfl) (fun _ _ _ h=>h) (Or.inl ⟨by rfl,?_⟩) hHeld ?_ ?_;rotate_left
      ·rintro w' ⟨s0,s1,s2,s3⟩;go_simp;with_reducible rfl
      rotate_left
      ·exact q70_
      refine join_ (σ:=Value × Value) 2 f100_ (fun s_=>[(16,s_.1),(18,s_.2)]) (fun s_ w' => (w'.cell? ⟨gb101,0,none⟩ = some (.string a1_0) ∧ w'.cell? ⟨gb101,1,none⟩ = some (.int .i64 a1_1) ∧ w'.cell? ⟨gb101,2,none⟩ = some (.int .i64 a1_2) ∧ w'.cell? ⟨gb101,3,none⟩ = some (.int .i64 a1_3)) ∧ (Kd.R k26 26 w' w.heap.size (fun k_=>some k_ ≠ (s_.2 : Value).ownBlock ∧ k_ ≠ gb101) s_.1 t104) ∧ (Kd.R k26 26 w' w.heap.size (fun k_=>some k_ ≠ (s_.1 : Value).ownBlock ∧ k_ ≠ gb101) s_.2 y107) ∧ (w'.heap[gb101]? = some (.cells #[.string a1_0,.int .i64 a1_1,.int .i64 a1_2,.int .i64 a1_3] 26 (0,0))) ∧ (Below w.heap.size w w')) ?_ ?_;rotate_left
      ·intro hCont;refine two_ (i:=1) (j:=3) (Ni:=some 16) (Nj:=some 18) f101_ f102_ rfl rfl rfl rfl (by kernel_rfl) (by decide) (by decide) (fun K hK=>?_) (fun K hK=>?_)
       ·skip
        refine goes_ Tryd.func39 (by kernel_rfl) rfl #[.slice A0 l0.length c0] (by rfl) rfl rfl (q34_) ?_
        with_reducible refine (slices_Clone_Person.calls _ _ l0 t104 _ ?side1 ?side2 A13.out).mono ?_
        (case side1=>exact cX_ (Kd.C_below HR0.out HB.out))
        (case side2=>exact HC0.out)
        rintro e w29 ⟨v105,rfl,ho0,hb⟩;refine ⟨_,rfl,?_⟩;have HO106:=Aside0.mk (Kd.R_lower (Kd.R_newB ho0 (g:=gb101) (o:=.cells #[.string a1_0,.int .i64 a1_1,.int .i64 a1_2,.int .i64 a1_3] 26 (0,0)) (q18_)) (below_size (q40_)));replace BK101:=bkB_ BK101 hb;replace HB:=Aside0.mk (below_step (q40_) hb)
        (try clear hb)
        (try clear hb2)
        (try clear hk)
        (try clear hi)
        (try clear ho0)
        refine hK.out _ _ ⟨(blk_cell BK101.out 0).trans rfl,(blk_cell BK101.out 1).trans rfl,(blk_cell BK101.out 2).trans rfl,(blk_cell BK101.out 3).trans rfl⟩ (fun hHeld=>?_);clear hK K;refine norm_ (a' := ?_) ?_ ?_;rotate_left
        ·show Act.put _ (some 16) _ = _;simp only [Act.put,List.setIfInBounds_toArray,List.set_cons_zero,List.set_cons_succ,i64_w,i32_w];rfl
        refine one_ (i:=3) (N:=some 18) f100_ rfl rfl (by kernel_rfl) (by decide) (fun K hK=>?_);refine Kd.R_lit_step k26 _ 26 ?hg (N:=18) ?hd (xs:=([(⟨a1_0,a1_1,a1_2,a1_3⟩ : S26)] : List (S26))) (inner:=[.string a1_0,.int .i64 a1_1,.int .i64 a1_2,.int .i64 a1_3]) (ok:=fun _=>True) (okp:=fun _=>True) ?hr ?hp (fun _ hk=>hk) trivial (Below.refl _ _) (Nat.le_refl _) (by simp) ?_;(case hd=>rfl);(case hg=>rfl);(case hr=>first | (go_simp;done) | (go_simp;rfl));(case hp=>exact (Reps.c4 (show Kd.M k26 _ _ _ (⟨a1_0,a1_1,a1_2,a1_3⟩ : S26) [.string a1_0,.int .i64 a1_1,.int .i64 a1_2,.int .i64 a1_3] from (k26_mkM _ _ _ (⟨a1_0,a1_1,a1_2,a1_3⟩ : S26) )) (Reps.none _ _)));intro v108 w30 ho31 hb hg_ hnew_;clear hg_ hnew_
        (first | rw [← Ny107.out] at ho31 | (simp only [Int.reduceToNat] at ho31;rw [← Ny107.out] at ho31))
        have HO109:=Aside0.mk (Kd.R_lower (Kd.R_newB (Kd.R_new' ho31 (Kd.R_lt (by (with_reducible repeat (first | apply Kd.R_alloc | apply Kd.R_drewN | apply Kd.R_drew));exact HO106.out))) (g:=gb101) (o:=.cells #[.string a1_0,.int .i64 a1_1,.int .i64 a1_2,.int .i64 a1_3] 26 (0,0)) (q18_)) (below_size (q40_)));replace HO106:=rE_ HO106 ho31 hb;replace BK101:=bkB_ BK101 hb;replace HB:=Aside0.mk (below_step (q40_) hb);clear hb ho31;refine hK.out _ _ ⟨(blk_cell BK101.out 0).trans rfl,(blk_cell BK101.out 1).trans rfl,(blk_cell BK101.out 2).trans rfl,(blk_cell BK101.out 3).trans rfl⟩ (fun hHeld=>?_);clear hK K;refine norm_ (a' := ?_) ?_ ?_;rotate_left
        ·show Act.put _ (some 18) _ = _;simp only [Act.put,List.setIfInBounds_toArray,List.set_cons_zero,List.set_cons_succ,i64_w,i32_w];rfl
        exact norm_ (q5_) (hCont (v105,v108) _ ⟨hHeld,(by (with_reducible repeat (first | apply Kd.R_alloc | apply Kd.R_drewN | apply Kd.R_drew));exact Kd.R_mono HO106.out (fun _ hk=>⟨hk.2,hk.1.2⟩)),(by (with_reducible repeat (first | apply Kd.R_alloc | apply Kd.R_drewN | apply Kd.R_drew));exact Kd.R_mono HO109.out (fun _ hk=>⟨hk.1.2,hk.2⟩)),(q18_),(q40_)⟩)
       ·skip
        refine Kd.R_lit_step k26 _ 26 ?hg (N:=18) ?hd (xs:=([(⟨a1_0,a1_1,a1_2,a1_3⟩ : S26)] : List (S26))) (inner:=[.string a1_0,.int .i64 a1_1,.int .i64 a1_2,.int .i64 a1_3]) (ok:=fun _=>True) (okp:=fun _=>True) ?hr ?hp (fun _ hk=>hk) trivial (Below.refl _ _) (Nat.le_refl _) (by simp) ?_;(case hd=>rfl);(case hg=>rfl);(case hr=>first | (go_simp;done) | (go_simp;rfl));(case hp=>exact (Reps.c4 (show Kd.M k26 _ _ _ (⟨a1_0,a1_1,a1_2,a1_3⟩ : S26) [.string a1_0,.int .i64 a1_1,.int .i64 a1_2,.int .i64 a1_3] from (k26_mkM _ _ _ (⟨a1_0,a1_1,a1_2,a1_3⟩ : S26) )) (Reps.none _ _)));intro v108 w29 ho30 hb hg_ hnew_;clear hg_ hnew_
        (first | rw [← Ny107.out] at ho30 | (simp only [Int.reduceToNat] at ho30;rw [← Ny107.out] at ho30))
        have HO109:=Aside0.mk (Kd.R_lower (Kd.R_newB ho30 (g:=gb101) (o:=.cells #[.string a1_0,.int .i64 a1_1,.int .i64 a1_2,.int .i64 a1_3] 26 (0,0)) (q18_)) (below_size (q40_)));replace BK101:=bkB_ BK101 hb;replace HB:=Aside0.mk (below_step (q40_) hb);clear hb ho30;refine hK.out _ _ ⟨(blk_cell BK101.out 0).trans rfl,(blk_cell BK101.out 1).trans rfl,(blk_cell BK101.out 2).trans rfl,(blk_cell BK101.out 3).trans rfl⟩ (fun hHeld=>?_);clear hK K;refine norm_ (a' := ?_) ?_ ?_;rotate_left
        ·show Act.put _ (some 18) _ = _;simp only [Act.put,List.setIfInBounds_toArray,List.set_cons_zero,List.set_cons_succ,i64_w,i32_w];rfl
        refine one_ (i:=1) (N:=some 16) f100_ rfl rfl (by kernel_rfl) (by decide) (fun K hK=>?_);refine goes_ Tryd.func39 (by kernel_rfl) rfl #[.slice A0 l0.length c0] (by rfl) rfl rfl (q34_) ?_
        with_reducible refine (slices_Clone_Person.calls _ _ l0 t104 _ ?side1 ?side2 A13.out).mono ?_
        (case side1=>exact cX_ (Kd.C_below HR0.out HB.out))
        (case side2=>exact HC0.out)
        rintro e w31 ⟨v105,rfl,ho0,hb⟩;refine ⟨_,rfl,?_⟩;have HO106:=Aside0.mk (Kd.R_lower (Kd.R_newB (Kd.R_new' ho0 (Kd.R_lt (by (with_reducible repeat (first | apply Kd.R_alloc | apply Kd.R_drewN | apply Kd.R_drew));exact HO109.out))) (g:=gb101) (o:=.cells #[.string a1_0,.int .i64 a1_1,.int .i64 a1_2,.int .i64 a1_3] 26 (0,0)) (q18_)) (below_size (q40_)));replace HO109:=rE_ HO109 ho0 hb;replace BK101:=bkB_ BK101 hb;replace HB:=Aside0.mk (below_step (q40_) hb)
        (try clear hb)
        (try clear hb2)
        (try clear hk)
        (try clear hi)
        (try clear ho0)
        refine hK.out _ _ ⟨(blk_cell BK101.out 0).trans rfl,(blk_cell BK101.out 1).trans rfl,(blk_cell BK101.out 2).trans rfl,(blk_cell BK101.out 3).trans rfl⟩ (fun hHeld=>?_);clear hK K;refine norm_ (a' := ?_) ?_ ?_;rotate_left
        ·show Act.put _ (some 16) _ = _;simp only [Act.put,List.setIfInBounds_toArray,List.set_cons_zero,List.set_cons_succ,i64_w,i32_w];rfl
        exact norm_ (q5_) (hCont (v105,v108) _ ⟨hHeld,(by (with_reducible repeat (first | apply Kd.R_alloc | apply Kd.R_drewN | apply Kd.R_drew));exact Kd.R_mono HO106.out (fun _ hk=>⟨hk.1.2,hk.2⟩)),(by (with_reducible repeat (first | apply Kd.R_alloc | apply Kd.R_drewN | apply Kd.R_drew));exact Kd.R_mono HO109.out (fun _ hk=>⟨hk.2,hk.1.2⟩)),(q18_),(q40_)⟩)
      rintro ⟨v105,v108⟩ w32 ⟨hS_,h0_,h1_,h2_,h3_⟩;have n0_ : Aside0 (Kd.R k26 26 w32 w.heap.size (fun k_=>some k_ ≠ (v108 : Value).ownBlock ∧ k_ ≠ gb101) v105 t104):=⟨h0_⟩;have n1_ : Aside0 (Kd.R k26 26 w32 w.heap.size (fun k_=>some k_ ≠ (v105 : Value).ownBlock ∧ k_ ≠ gb101) v108 y107):=⟨h1_⟩;have n2_ : Aside0 (w32.heap[gb101]? = some (.cells #[.string a1_0,.int .i64 a1_1,.int .i64 a1_2,.int .i64 a1_3] 26 (0,0))):=⟨h2_⟩;have n3_ : Aside0 (Below w.heap.size w w32):=⟨h3_⟩;clear BK101 HB h0_ h1_ h2_ h3_;have HO106:=n0_;have HO109:=n1_;have BK101:=n2_;have HB:=n3_;clear n0_ n1_ n2_ n3_;have hHeld : w32.cell? ⟨gb101,0,none⟩ = some (.string a1_0) ∧ w32.cell? ⟨gb101,1,none⟩ = some (.int .i64 a1_1) ∧ w32.cell? ⟨gb101,2,none⟩ = some (.int .i64 a1_2) ∧ w32.cell? ⟨gb101,3,none⟩ = some (.int .i64 a1_3):=hS_;obtain ⟨Ao34,co34,eo34⟩:=Kd.R_slice HO109.out
      (first | subst eo34 | (injection eo34 with f1_ f2_ f3_;have f4_:=f1_.symm;have f5_:=f3_.symm;clear f1_ f2_ f3_;subst f4_;subst f5_))
      refine norm_ (a' := ?_) ?_ ?_;rotate_left
      ·simp only [putAll,Act.put,List.setIfInBounds_toArray,List.set_cons_zero,List.set_cons_succ];rfl
      refine one_ (i:=4) (N:=some 19) f103_ rfl rfl (by kernel_rfl) (by decide) (fun K hK=>?_);refine Kd.R_append_rows_step k26 (w0:=w) w.heap.size (by rfl) (.tmp 16) (.tmp 18) 24 26 (.agg #[(.string ⟨#[]⟩),(.int .i64 0),(.int .i64 0),(.int .i64 0)]) 40 rfl Tryd.underlying24 info26 rfl (by decide) (by omega) v105 t104 y107 _ _ _ (fun k_=>some k_ ≠ (.slice Ao34 y107.length co34 : Value).ownBlock ∧ k_ ≠ gb101) (fun _=>False) rfl rfl ?aO ?aR (fun _ _ h=>h) (fun _ h=>h.elim) ?aF ?aB ?aS ?aL ?_
      (case aR=>exact cX_ (Kd.R_reads' HO109.out).2.2)
      (case aB=>exact (q40_))
      (case aF=>exact (fun k_ hk=>⟨Kd.fresh' (Kd.R_lt (by (with_reducible repeat (first | apply Kd.R_alloc | apply Kd.R_drewN | apply Kd.R_drew));exact HO109.out)) k_ hk,Kd.freshB (g:=gb101) (o:=.cells #[.string a1_0,.int .i64 a1_1,.int .i64 a1_2,.int .i64 a1_3] 26 (0,0)) (q18_) k_ hk⟩))
      (case aO=>exact (by (with_reducible repeat (first | apply Kd.R_alloc | apply Kd.R_drewN | apply Kd.R_drew));exact HO106.out))
      (case aS=>exact (below_size (q40_)))
      (case aL=>have:=LMc14.out;omega)
      intro v111 w33 ho hb hg hat;rw [← Ny110.out] at ho;replace BK101:=Aside0.mk (blk_grown (g:=gb101) (o:=.cells #[.string a1_0,.int .i64 a1_1,.int .i64 a1_2,.int .i64 a1_3] 26 (0,0)) (q18_) hg (Kd.R_away HO106.out (fun _ hk=>hk.2)));replace HO109:=Aside0.mk (Kd.R_after (ok:=(fun k_=>k_ ≠ gb101)) (by (with_reducible repeat (first | apply Kd.R_alloc | apply Kd.R_drewN | apply Kd.R_drew));exact Kd.R_mono HO109.out (fun _ hk=>⟨hk.2,hk.1⟩)) hg hat);replace HB:=Aside0.mk (hb);have HO112:=Aside0.mk (ho);clear HO106 ho hb hg hat;refine hK.out _ _ ⟨(blk_cell BK101.out 0).trans rfl,(blk_cell BK101.out 1).trans rfl,(blk_cell BK101.out 2).trans rfl,(blk_cell BK101.out 3).trans rfl⟩ (fun hHeld=>?_);clear hK K;refine norm_ (a' := ?_) ?_ ?_;rotate_left
      ·show Act.put _ (some 19) _ = _;simp only [Act.put,List.setIfInBounds_toArray,List.set_cons_zero,List.set_cons_succ,i64_w,i32_w];rfl
      refine pure_ (i:=5) (N:=some 6) (v:=?_) (a' := ?_) f104_ rfl rfl (by kernel_rfl) (fun _ _ _ h=>h) (Or.inl ⟨by rfl,?_⟩) ?_ ?_;rotate_left
      ·intro w';go_simp;with_reducible rfl
      rotate_left
      ·exact q70_
      refine done_ (by kernel_rfl) ?_;obtain ⟨Ao35,co35,eo35⟩:=Kd.R_slice HO112.out;subst eo35;try go_wp2_with (first | ((with_reducible refine gate_callee (f:=40) rfl ?_);refine goesL_ (some 21) rfl rfl Tryd.func40 (by kernel_rfl) rfl #[.slice Ao35 y110.length co35,.func (.func 41) #[] #[]] rfl (q34_) ?_;(with_reducible refine (slices_SortFunc_Person.calls kj2 (fun k_=>some k_ = (.slice Ao35 y110.length co35 : Value).ownBlock) (.slice Ao35 y110.length co35) y110  t113 w _ ?side1 ?side2 A15.out).mono ?_);(case side1=>repeat (first | (with_reducible first | exact HB.out | apply below_alloc | apply pw_below_drewN | apply below_drew1 | refine below_set ?_ GE101.out) | exact HB.out));(case side2=>exact Kd.R_tight rfl HO112.out);rintro e w36 ⟨rfl,hy0,hb,hkp⟩;refine ⟨_,rfl,?_⟩;replace BK101:=Aside0.mk (blk_kept (q18_) hkp (fun hs_=>(fun e_=>(Kd.R_away HO112.out (fun _ hk=>hk.2)) e_) hs_));replace HO109:=Aside0.mk (Kd.R_mono (ok' := fun k_=>some k_ ≠ (.slice Ao35 y110.length co35 : Value).ownBlock ∧ k_ ≠ gb101) (Kd.R_keptB (HO109.out) hkp (fun k_ hk_ hs_=>(hk_.2) hs_)) (fun k_ hk_=>⟨hk_.1.2,hk_.1.1⟩));replace HO112:=Aside0.mk (Kd.R_reok rfl hy0 (fun k_ e_=>HO112.out.1 k_ e_));replace HB:=Aside0.mk (hb);(try clear hb);(try clear hkp);(try clear hy0)) | ((with_reducible refine gate_callee (f:=12) rfl ?_);refine goesL_ (some 23) rfl rfl Tryd.func12 (by kernel_rfl) rfl #[.slice Ao35 t113.length co35] rfl (by (try simp only [List.map_toArray,List.map_cons,List.map_nil]);first | done | (rw [show t113.length = y110.length from (Kd.R_reads' HO112.out).1.symm] <;> rfl) | rfl | (simp only [List.length_drop,List.length_take];rfl)) ?_;(with_reducible refine (impl_ArePeople.calls kj2 _ _ t113 false _ ?side1 ?side2 A16.out).mono ?_);(case side1=>exact cX_ (Kd.R_reads' HO112.out).2.2);(case side2=>rw [show t113.length = y110.length from (Kd.R_reads' HO112.out).1.symm];exact (Kd.R_reads' HO112.out).2.1);rintro e w37 ⟨rfl,hb⟩;refine ⟨_,rfl,?_⟩;replace HO109:=rB_ HO109 hb;replace HO112:=rB_ HO112 hb;replace BK101:=bkB_ BK101 hb;replace HB:=Aside0.mk (below_step (q40_) hb);(try clear hb)))
      go_ret2
      exact ⟨_,q4_,q38_,q40_⟩
    ·rw [if_neg c14] at H;exact absurd H (by simp)
end Go.Proofs.YtpdcopbnhaoilaaDoor.G
