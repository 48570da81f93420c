-- Written by this session's own program over the kit's print (wip/tools/myprint.py); Lean checks it.
import Derived.Test.YtmllkdgdkagkkaaG0
import Derived.Test.YtmllkdgdkagkkaaMBase
namespace Go.Proofs.Ytmllkdgdkagkkaa.G
open Go.RowKit Go.Proofs.YtmllkdgdkagkkaaW.PrintWords Go.Proofs.YtmllkdgdkagkkaaW.PrintLast Go.Proofs.YtmllkdgdkagkkaaW.PrintMore
attribute [local go_sem] max2_int min2_int max_two min_two max_three min_three max_four min_four str_geq str_gtr str_leq   -- for this text's walks alone
set_option linter.unusedVariables false
set_option linter.unusedSimpArgs false
/-! ### slices_Clone_Person: function 113 -/
def slices_Clone_Person.f (l0 : List S76) : Option (List S76):=if l0.length * 40 ≤ 140737488355328 then some l0 else none
set_option maxHeartbeats 4000000 in
set_option maxRecDepth 100000 in
theorem slices_Clone_Person.calls (A0 : Option Addr) (c0 : Nat) (l0 : List S76) (r : List S76) (w : World) (hr0 : Kd.C k76 w A0 l0.length l0) (hc0 : l0.length ≤ c0) (h : slices_Clone_Person.f l0 = some r) :
  Calls Try.prog 113 #[.slice A0 l0.length c0] w fun e w' => ∃ v0_ : Value,e = .returned (v0_) ∧ Kd.R k76 76 w' w.heap.size (fun _=>True) v0_ r ∧ Below w.heap.size w w' := by
 by_cases hb : l0.length * 40 ≤ 140737488355328
 case neg=>simp [slices_Clone_Person.f,hb] at h
 rw [slices_Clone_Person.f,if_pos hb] at h;obtain rfl:=Option.some.inj h;clear h;have HL:=Aside0.mk hb;have HR:=Aside0.mk hr0;clear hb hr0;cases A0 with
 | none =>
  have e : l0 = []:=by
   rcases Nat.eq_zero_or_pos l0.length with h | h
   ·exact List.eq_nil_of_length_eq_zero h
   ·obtain ⟨ad,he,_⟩:=HR.out.2.2 h;cases he
  subst e;clear HL HR hc0;have hz:=MOwn.eql_nil (P:=Try.prog) 40 76 none 0 c0 Try.underlying40;go_enter Try.func113,Try.ntmps113
  go_wp2;go_ret;exact ⟨_,rfl,Kd.R_nil _ _ _ _ _,Below.refl _ _⟩
 | some ad =>
  clear hc0;have hz:=MOwn.eql_nil (P:=Try.prog) 40 76 (some ad) l0.length c0 Try.underlying40;go_enter Try.func113,Try.ntmps113
  go_wp2_with (first | ((with_reducible refine gate_dst (N:=5) rfl ?_);refine Kd.R_lit k76 _ 76 ?hg (N:=5) ?hd (xs:=([] : List S76)) (inner:=[]) (ok:=fun _=>True) (okp:=fun _=>False) ?hr ?hp (fun _ hk=>hk.elim) trivial (Below.refl _ _) (Nat.le_refl _) (by simp) ?_;(case hd=>rfl);(case hg=>rfl);(case hr=>first | (go_simp;done) | (go_simp;rfl));(case hp=>exact Reps.none _ _);intro v1 w1 ho1 hb1 _ _;have HO1:=Aside0.mk ho1;have HB1:=Aside0.mk hb1;clear ho1 hb1) | ((with_reducible refine gate_builtin (b:=.append) (xs:=#[.tmp 5,.tmp 6]) rfl ?_);at_builtin;refine Kd.R_append_rows k76 (w0:=w) w.heap.size rfl (.tmp 5) (.tmp 6) 40 76 (.agg #[(.string ⟨#[]⟩),(.int .i64 0),(.int .i64 0),(.int .i64 0)]) 40 rfl Try.underlying40 info76 rfl (by decide) (by omega) v1 ([] : List S76) l0 (some ad) l0.length c0 (fun _=>True) (fun _=>False) rfl (by first | (go_simp;done) | (go_simp;rfl)) ?aO ?aR (fun _ _ h=>h) (fun _ h=>h.elim) ?aF ?aB ?aS ?aL ?_;(case aO=>exact HO1.out);(case aR=>exact Kd.C_below HR.out HB1.out);(case aF=>exact (fun _ _=>trivial));(case aB=>exact HB1.out);(case aS=>exact HB1.out.size);(case aL=>have:=HL.out;simpa using this);intro v2 w2 ho2 hb2 _ _;have HO2:=Aside0.mk ho2;have HB2:=Aside0.mk hb2;clear ho2 hb2))
  go_ret;exact ⟨_,rfl,by simpa using HO2.out,HB2.out⟩
/-! ### bits_Len: function 144 -/
def bits_Len.tab : List Int:=[0,1,2,2,3,3,3,3,4,4,4,4,4,4,4,4]
def bits_Len.f (a0 : Int) : Option (Int):=if 0 ≤ a0 ∧ a0 < 16 then some (bits_Len.tab.getD a0.toNat 0) else none
set_option maxHeartbeats 8000000 in
set_option maxRecDepth 100000 in
theorem bits_Len.lite (x : Int) (w : World) (hx : x = 0 ∨ x = 1 ∨ x = 2 ∨ x = 3 ∨ x = 4 ∨ x = 5 ∨ x = 6 ∨ x = 7 ∨ x = 8 ∨ x = 9 ∨ x = 10 ∨ x = 11 ∨ x = 12 ∨ x = 13 ∨ x = 14 ∨ x = 15) :
  Calls Try.prog 168 #[.int .u64 x] w fun e w' => e = .returned (.int .i64 (bits_Len.tab.getD x.toNat 0)) ∧ w = w' := by
 rcases hx with rfl | rfl | rfl | rfl | rfl | rfl | rfl | rfl | rfl | rfl | rfl | rfl | rfl | rfl | rfl | rfl
 all_goals
  go_enter Try.func168,Try.ntmps168
  go_wp2;go_ret;exact ⟨by kernel_rfl,rfl⟩
set_option maxHeartbeats 1000000 in
set_option maxRecDepth 100000 in
theorem bits_Len.calls (a0 : Int) (r : Int) (w : World) (h : bits_Len.f a0 = some r) :
  Calls Try.prog 144 #[.int .u64 a0] w fun e w' => e = .returned (.int .i64 r) ∧ Drawn0 w w' := by
 unfold bits_Len.f at h
 split at h
 rotate_left
 ·exact absurd h (by simp)
 rename_i hx;obtain rfl:=Option.some.inj h;have HL:=Aside0.mk (fun w=>bits_Len.lite a0 w (by omega));clear h;go_enter Try.func144,Try.ntmps144
 go_wp2_with (go_at_call 168;refine (HL.out _).mono ?_;rintro e w' ⟨rfl,rfl⟩)
 go_ret;exact ⟨rfl,Drawn0.refl _⟩
end Go.Proofs.Ytmllkdgdkagkkaa.G
