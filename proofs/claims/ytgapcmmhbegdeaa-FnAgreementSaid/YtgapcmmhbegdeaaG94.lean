-- Written by this session's own program over the kit's print (wip/tools/myprint.py); Lean checks it.
import Derived.Test.YtgapcmmhbegdeaaMBase
import Derived.Test.YtgapcmmhbegdeaaG0
import Derived.Test.YtgapcmmhbegdeaaG2
import Derived.Test.YtgapcmmhbegdeaaG5
import Derived.Test.YtgapcmmhbegdeaaG8
import Derived.Test.YtgapcmmhbegdeaaG11
namespace Go.Proofs.Ytgapcmmhbegdeaa.G
open Go.RowKit Go.Proofs.YtgapcmmhbegdeaaW.PrintWords Go.Proofs.YtgapcmmhbegdeaaW.PrintLast Go.Proofs.YtgapcmmhbegdeaaW.PrintMore
attribute [local go_sem] max2_int min2_int max_two min_two max_three min_three max_four min_four str_geq str_gtr str_leq   -- for this text's walks alone
set_option linter.unusedVariables false
set_option linter.unusedSimpArgs false
/-! ### impl_ConfusedGlosses: function 27 -/
def impl_ConfusedGlosses.bad (p : MEnt.Duo) : Bool:=decide (p.1.toList = []) || decide (p.2.toList = []) || decide (p.1.toList = p.2.toList)
def impl_ConfusedGlosses.pairs (z : List MEnt.Duo) : List MEnt.Duo:=z.filter (fun p=>!impl_ConfusedGlosses.bad p)
def impl_ConfusedGlosses.top (z : List MEnt.Duo) : MEnt.Duo × Int:=MEnt.best (impl_ConfusedGlosses.pairs z) (impl_ConfusedGlosses.pairs z) MEnt.init
def impl_ConfusedGlosses.g (ga gb : List ByteArray) : Option (ByteArray × ByteArray × Int × Bool):=if (ga.all (fun x=>decide (x.size ≤ 140737488355328)) && gb.all (fun x=>decide (x.size ≤ 140737488355328)) && decide (ga.length ≤ 1000) && decide (ga.length ≤ gb.length)) = true then some ((impl_ConfusedGlosses.top (ga.zip gb)).1.1,(impl_ConfusedGlosses.top (ga.zip gb)).1.2,(impl_ConfusedGlosses.top (ga.zip gb)).2,decide ((impl_ConfusedGlosses.top (ga.zip gb)).2 > 0)) else none
def impl_ConfusedGlosses.f (k : Nat) (l0 l1 : List S58) (a2 a3 : Int) : Option (ByteArray × ByteArray × Int × Bool):=(impl_IsTier.f k l0).bind fun t=>if t = true then ((impl_IsTier.f k l1).bind fun u=>if u = true then ((impl_isWindow.f a2 a3).bind fun v=>if v = true then ((impl_frameGlosses.f k l0 a2 a3).bind fun ga=>(impl_frameGlosses.f k l1 a2 a3).bind fun gb=>impl_ConfusedGlosses.g ga gb) else some (⟨#[]⟩,⟨#[]⟩,0,false)) else some (⟨#[]⟩,⟨#[]⟩,0,false)) else some (⟨#[]⟩,⟨#[]⟩,0,false)
theorem impl_ConfusedGlosses.all_at {l : List ByteArray} (h : l.all (fun x=>decide (x.size ≤ 140737488355328)) = true) (i : Int) (h0 : 0 ≤ i) (h1 : i < (l.length : Int)) : (l.getD i.toNat ⟨#[]⟩).size ≤ maxLen:=by
 rw [List.all_eq_true] at h;have h2 : i.toNat < l.length:=by omega
 rw [List.getD_eq_getElem?_getD,List.getElem?_eq_getElem h2];have h3:=h _ (List.getElem_mem h2);have h4:=of_decide_eq_true h3;exact Nat.le_trans h4 (by unfold maxLen;omega)
theorem impl_ConfusedGlosses.pairsK : MEnt.Pairs Try.prog 133:=MEnt.Pairs.of (deep_law_laid (show laidOutB Try.prog = true by kernel_rfl) (m:=3) (by decide) (Nat.le_of_ble_eq_true (by kernel_rfl)) (by kernel_rfl) (by kernel_rfl)) Try.underlying133 Try.underlying9 (by kernel_rfl) (by kernel_rfl) (by kernel_rfl) ⟨_,rfl⟩
theorem impl_ConfusedGlosses.zip_at {ga gb : List ByteArray} (i : Int) (h0 : 0 ≤ i) (h1 : i < (ga.length : Int)) (h2 : i < (gb.length : Int)) : (ga.zip gb).take (i + 1).toNat = (ga.zip gb).take i.toNat ++ [(ga.getD i.toNat ⟨#[]⟩,gb.getD i.toNat ⟨#[]⟩)]:=by
 have g1 : i.toNat < ga.length:=by omega
 have g2 : i.toNat < gb.length:=by omega
 have g3 : i.toNat < (ga.zip gb).length:=by rw [List.length_zip];omega
 rw [show (i + 1).toNat = i.toNat + 1 by omega,List.take_succ_eq_append_getElem g3,List.getElem_zip,List.getD_eq_getElem?_getD,List.getElem?_eq_getElem g1,List.getD_eq_getElem?_getD,List.getElem?_eq_getElem g2];rfl
theorem impl_ConfusedGlosses.skips {B : Nat} {wj wr : World} {o : Obj} {ga : List ByteArray} {z : List MEnt.Duo} {i : Int} {gk : Nat} (h0 : 0 ≤ i ∧ i ≤ (ga.length : Int) ∧ (ga.length : Int) - i ≤ (gk : Int)) (h1 : i < (ga.length : Int)) (hw : wrap64 (i + 1) = i + 1) (he : impl_ConfusedGlosses.pairs (z.take (i + 1).toNat) = impl_ConfusedGlosses.pairs (z.take i.toNat)) {k e : TypeId}
  (hO : ∃ D n,MEnt.Has (impl_ConfusedGlosses.pairs (z.take i.toNat)) D ∧ n ≤ i.toNat ∧ wr.ownsMap Try.prog k (plainElem Try.prog e) B n D) (hG : wr.heap[B + 1]? = some o) (hJ : Below wj.heap.size wj wr) (o' : Obj) :
  ∃ j : Int,Value.int .i64 (wrap64 (i + 1)) = .int .i64 j ∧ Aside0 (0 ≤ j ∧ j ≤ (ga.length : Int) ∧ (ga.length : Int) - j ≤ ((ga.length - (i.toNat + 1) : Nat) : Int)) ∧ Aside0 (∃ D n,MEnt.Has (impl_ConfusedGlosses.pairs (z.take j.toNat)) D ∧ n ≤ j.toNat ∧ (wr.alloc o').ownsMap Try.prog k (plainElem Try.prog e) B n D) ∧ Aside0 ((wr.alloc o').heap[B + 1]? = some o) ∧ Aside0 (Below wj.heap.size wj (wr.alloc o')):=by
 obtain ⟨D,n,h2,h3,h4⟩:=hO;exact ⟨i + 1,by rw [hw],⟨by omega⟩,⟨D,n,he ▸ h2,by omega,MMap.own_below h4 (below_alloc (Below.refl _ _) _)⟩,⟨blk_alloc hG _⟩,⟨below_step hJ (below_alloc (Below.refl _ _) _)⟩⟩
theorem impl_ConfusedGlosses.steps_ {B : Nat} {wj w0 w3 : World} {o : Obj} {ga : List ByteArray} {z : List MEnt.Duo} {x y : ByteArray} {i c : Int} {n gk : Nat} {D : DataW Unit} (h0 : 0 ≤ i ∧ i ≤ (ga.length : Int) ∧ (ga.length : Int) - i ≤ (gk : Int)) (h1 : i < (ga.length : Int)) (hw : wrap64 (i + 1) = i + 1) (he : impl_ConfusedGlosses.pairs (z.take (i + 1).toNat) = impl_ConfusedGlosses.pairs (z.take i.toNat) ++ [(x,y)])
  (hn : n ≤ i.toNat) (hc : MEnt.cnt (impl_ConfusedGlosses.pairs (z.take i.toNat)) (x,y) = c) (hl : ga.length ≤ 1000) (hD : MEnt.Has (impl_ConfusedGlosses.pairs (z.take i.toNat)) D) {k e : TypeId} (hK : MEnt.Pairs Try.prog k) (hS : x.size ≤ maxLen ∧ y.size ≤ maxLen)
  (hO : w3.ownsMap Try.prog k (plainElem Try.prog e) B (n + 1) (D.put (MEnt.key (x,y)) (.lit (.int .i64 (wrap64 (c + 1)))))) (h9 : w0.grownBy w3 (some B)) (hG : w0.heap[B + 1]? = some o) (hJ : Below wj.heap.size wj w0) (hB : wj.heap.size = B) :
  ∃ j : Int,Value.int .i64 (wrap64 (i + 1)) = .int .i64 j ∧ Aside0 (0 ≤ j ∧ j ≤ (ga.length : Int) ∧ (ga.length : Int) - j ≤ ((ga.length - (i.toNat + 1) : Nat) : Int)) ∧ Aside0 (∃ D n,MEnt.Has (impl_ConfusedGlosses.pairs (z.take j.toNat)) D ∧ n ≤ j.toNat ∧ w3.ownsMap Try.prog k (plainElem Try.prog e) B n D) ∧ Aside0 (w3.heap[B + 1]? = some o) ∧ Aside0 (Below wj.heap.size wj w3):=by
 have hle:=MEnt.cnt_le (impl_ConfusedGlosses.pairs (z.take i.toNat)) (x,y);have hlen : (impl_ConfusedGlosses.pairs (z.take i.toNat)).length ≤ i.toNat:=Nat.le_trans (List.length_filter_le _ _) (by rw [List.length_take];exact Nat.min_le_left _ _);have hcw : wrap64 (c + 1) = c + 1:=by unfold wrap64;omega
 rw [hcw,← hc] at hO;refine ⟨i + 1,by rw [hw],⟨by omega⟩,⟨_,n + 1,by rw [he];exact hD.step hK (x,y) hS.1 hS.2,by omega,hO⟩,⟨blk_grown hG h9 (by simp)⟩,⟨hJ.grown h9 hJ.size (fun k hk=>by cases hk;omega)⟩⟩
theorem impl_ConfusedGlosses.duoC {w : World} {q : Nat} {x y : ByteArray} (h0 : w.cell? ⟨q,0,none⟩ = some (.string x)) (h1 : w.cell? ⟨q,1,none⟩ = some (.string y)) : Kd.C Kd.string w (some ⟨q,0,none⟩) ([x,y] : List ByteArray).length [x,y]:=by
 refine ⟨rfl,by show (2 : Nat) ≤ _;decide,fun _=>⟨_,rfl,fun j p hj=>⟨[.string p],rfl,rfl,fun i u hu=>?_⟩⟩⟩
 match i,hu with
 | 0,hu =>
  obtain rfl:=Option.some.inj hu
  match j,hj with
  | 0,hj=>obtain rfl:=Option.some.inj hj;exact h0
  | 1,hj=>obtain rfl:=Option.some.inj hj;exact h1
theorem impl_ConfusedGlosses.cmp (p b : MEnt.Duo) : ∃ r,slices_Compare_string.f 10 [p.1,p.2] [b.1,b.2] = some r ∧ decide (r < 0) = MEnt.lt p b:=by
 have hc : ∀ x y : ByteArray,cmp_Compare_string.f x y = some (if Op.bytesLess x.toList y.toList = true then -1 else if Op.bytesLess y.toList x.toList = true then 1 else 0):=by
  intro x y;unfold cmp_Compare_string.f;have hnan : ∀ z : ByteArray,cmp_isNaN_string.f z = some false:=fun z=>by unfold cmp_isNaN_string.f;simp
  rw [hnan,hnan];cases h1 : Op.bytesLess x.toList y.toList <;> cases h2 : Op.bytesLess y.toList x.toList <;> rfl
 have eqv : ∀ x y : ByteArray,Op.bytesLess x.toList y.toList = false → Op.bytesLess y.toList x.toList = false → x.toList = y.toList:=fun x y h1 h2=>List.le_antisymm (fun h=>by rw [(MEnt.less_iff _ _).2 h] at h2;cases h2) (fun h=>by rw [(MEnt.less_iff _ _).2 h] at h1;cases h1)
 have ne : ∀ x y : ByteArray,Op.bytesLess x.toList y.toList = true → x.toList ≠ y.toList:=fun x y h e=>by
  rw [e,MEnt.less_iff] at h;exact List.lt_irrefl _ h
 unfold slices_Compare_string.f MEnt.lt;cases h1 : Op.bytesLess p.1.toList b.1.toList with
 | true=>exact ⟨-1,by simp [slices_Compare_string.l0,rdOf,hc,h1],by simp⟩
 | false =>
  cases h2 : Op.bytesLess b.1.toList p.1.toList with
  | true =>
   have hn : (p.1.toList == b.1.toList) = false:=by simpa using (ne _ _ h2).symm
   exact ⟨1,by simp [slices_Compare_string.l0,rdOf,hc,h1,h2],by simp [hn]⟩
  | false =>
   have he:=eqv _ _ h1 h2;cases h3 : Op.bytesLess p.2.toList b.2.toList with
   | true=>exact ⟨-1,by simp [slices_Compare_string.l0,rdOf,hc,h1,h2,h3,wrap64],by simp [he]⟩
   | false =>
    cases h4 : Op.bytesLess b.2.toList p.2.toList with
    | true=>exact ⟨1,by simp [slices_Compare_string.l0,rdOf,hc,h1,h2,h3,h4,wrap64],by simp⟩
    | false=>exact ⟨0,by simp [slices_Compare_string.l0,rdOf,hc,h1,h2,h3,h4,wrap64],by simp⟩
theorem impl_ConfusedGlosses.ranges_drew {w : World} {P : Program} {k : TypeId} {R : Value → Option (DataW Unit × List MemPlace)} {b r n : Nat} {D : DataW Unit} {left : Lit → Bool} {cnt : Nat} (h : w.ranges P k R b r n D left cnt) : w.drew.ranges P k R b r n D left cnt:=h
theorem impl_ConfusedGlosses.ranges_drewN {w : World} {P : Program} {k : TypeId} {R : Value → Option (DataW Unit × List MemPlace)} {b r n : Nat} {D : DataW Unit} {left : Lit → Bool} {cnt : Nat} (h : w.ranges P k R b r n D left cnt) (m : Nat) : (w.drewN m).ranges P k R b r n D left cnt:=h
theorem impl_ConfusedGlosses.grown_set (w : World) (g i : Nat) (v : Value) : w.grownBy (w.setCell ⟨g,i,none⟩ v) (some g):=⟨rfl,rfl,rfl,by simp [World.setCell],fun j _ hne=>Below.heap_setCell w ⟨g,i,none⟩ v j (fun e=>hne (by rw [e]))⟩
theorem impl_ConfusedGlosses.put_ {P : Program} {k : TypeId} {R : Value → Option (DataW Unit × List MemPlace)} {B r n cnt1 : Nat} {D : DataW Unit} {left : Lit → Bool} {wj W : World} {ps : List MEnt.Duo} {p : MEnt.Duo} {c : Int} {x y : Value} (hT : Aside0 (MEnt.Top ps (fun p=>left (MEnt.key p) = true) (p,c))) (hR : W.ranges P k R B r n D left cnt1) (hG : W.heap[B + 1]? = some (.cells #[x,y] k (0,0))) (hJ : Below wj.heap.size wj W) (hZ : wj.heap.size = B) (hr : B + 1 < r) :
  ∃ (b : MEnt.Duo × Int) (left' : Lit → Bool) (cnt : Nat),Value.int .i64 c = .int .i64 b.2 ∧ Aside0 (((W.setCell ⟨B + 1,0,none⟩ (.string p.1)).setCell ⟨B + 1,1,none⟩ (.string p.2)).ranges P k R B r n D left' cnt ∧ cnt ≤ cnt1) ∧ Aside0 (MEnt.Top ps (fun p=>left' (MEnt.key p) = true) b) ∧ Aside0 (((W.setCell ⟨B + 1,0,none⟩ (.string p.1)).setCell ⟨B + 1,1,none⟩ (.string p.2)).heap[B + 1]? = some (.cells #[.string b.1.1,.string b.1.2] k (0,0))) ∧ Aside0 (Below wj.heap.size wj ((W.setCell ⟨B + 1,0,none⟩ (.string p.1)).setCell ⟨B + 1,1,none⟩ (.string p.2))):=by
 have h1:=hR.kept (impl_ConfusedGlosses.grown_set W (B + 1) 0 (.string p.1)) (by simp) (by simp;omega);have h2:=h1.kept (impl_ConfusedGlosses.grown_set _ (B + 1) 1 (.string p.2)) (by simp) (by simp;omega);exact ⟨(p,c),left,cnt1,rfl,⟨h2,Nat.le_refl _⟩,hT,⟨blk_put (blk_put hG 0 _ rfl) 1 _ rfl⟩,⟨below_set (below_set hJ (by omega)) (by omega)⟩⟩
theorem impl_ConfusedGlosses.top_step {P : Program} {k : TypeId} {l : List MEnt.Duo} {left : Lit → Bool} {b : MEnt.Duo × Int} (h : MEnt.Top l (fun p=>left (MEnt.key p) = true) b) {q : MEnt.Duo} (hq : q ∈ l) (K : MEnt.Pairs P k) (hz : ∀ p : MEnt.Duo,p ∈ l → p.1.size ≤ maxLen ∧ p.2.size ≤ maxLen) :
  MEnt.Top l (fun p=>(left (MEnt.key p) && !(MEnt.key p).sameKey (MEnt.key q)) = true) (if MEnt.bt q (MEnt.cnt l q) b = true then (q,MEnt.cnt l q) else b):=by
 have h2:=h.step q hq;refine ⟨h2.1,fun p hp hn=>h2.2 p hp (fun hl=>hn ?_)⟩;show (left (MEnt.key p) && !(MEnt.key p).sameKey (MEnt.key q)) = true;rw [hl.1,Bool.true_and,Bool.not_eq_true'];cases hs : (MEnt.key p).sameKey (MEnt.key q) with
 | false=>rfl
 | true=>exact absurd (K.inj (hz p hp).1 (hz p hp).2 (hz q hq).1 (hz q hq).2 (WideAt.sameKey_eq hs)) hl.2
set_option maxHeartbeats 8000000 in
set_option maxRecDepth 100000 in
theorem impl_ConfusedGlosses.calls (k : Nat) (A0 : Option Addr) (c0 : Nat) (l0 : List S58) (A1 : Option Addr) (c1 : Nat) (l1 : List S58) (a2 a3 : Int) (r1 r2 : ByteArray) (r3 : Int) (r4 : Bool) (w : World) (hr0 : Kd.C k58 w A0 l0.length l0) (hc0 : l0.length ≤ c0) (hr1 : Kd.C k58 w A1 l1.length l1) (hc1 : l1.length ≤ c1) (h : impl_ConfusedGlosses.f k l0 l1 a2 a3 = some (r1,r2,r3,r4)) :
  Calls Try.prog 27 #[.slice A0 l0.length c0,.slice A1 l1.length c1,.int .i64 a2,.int .i64 a3] w fun e w' => e = .returned (.tuple #[.string r1,.string r2,.int .i64 r3,.bool r4]) ∧ Below w.heap.size w w' := by
 obtain ⟨t,ht,h⟩:=Option.bind_eq_some_iff.mp h;have HR0:=Aside0.mk hr0;have HR1:=Aside0.mk hr1;have HC0:=Aside0.mk hc0;have HC1:=Aside0.mk hc1;have HB:=Aside0.mk (Below.refl w.heap.size w);have HT:=Aside0.mk (fun (W : World) (hb : Below w.heap.size w W)=>impl_IsTier.calls k A0 c0 l0 t W (Kd.C_below HR0.out hb) HC0.out ht);have hmm:=@run_makeMap Try.prog;clear ht hr0 hr1 hc0 hc1;go_enter Try.func27,Try.ntmps27
 go_wp2_with fail
 refine MOwn.named ?_;intro wa hW;have HB1:=Aside0.mk (show Below w.heap.size w wa by exact q22_);clear HB hW;refine (HT.out wa HB1.out).mono ?_;clear HT;rintro e wb ⟨rfl,hb⟩;have HB:=Aside0.mk (below_step HB1.out hb);clear hb HB1;cases t with
 | false =>
  simp only [Bool.false_eq_true,if_false,Option.some.injEq,Prod.mk.injEq] at h;obtain ⟨rfl,rfl,rfl,rfl⟩:=h;go_wp2
  (try simp only [Exit.inBlock,Exit.then])
  refine bodyPost_ret (results_list (rs:=[.tmp 8,.tmp 9,.tmp 10,.tmp 11]) rfl (by simp) (.tmp (.tmp (.tmp (.tmp .nil))))) rfl ?_;exact ⟨rfl,q19_⟩
 | true =>
  simp only [if_true] at h;obtain ⟨u,hu,h⟩:=Option.bind_eq_some_iff.mp h;have HU:=Aside0.mk (fun (W : World) (hb : Below w.heap.size w W)=>impl_IsTier.calls k A1 c1 l1 u W (Kd.C_below HR1.out hb) HC1.out hu);clear hu;go_wp2_with fail
  refine MOwn.named ?_;intro wc hW;have HB1:=Aside0.mk (show Below w.heap.size w wc by exact q22_);clear HB hW;refine (HU.out wc HB1.out).mono ?_;clear HU;rintro e wd ⟨rfl,hb⟩;have HB:=Aside0.mk (below_step HB1.out hb);clear hb HB1;cases u with
  | false =>
   simp only [Bool.false_eq_true,if_false,Option.some.injEq,Prod.mk.injEq] at h;obtain ⟨rfl,rfl,rfl,rfl⟩:=h;go_wp2
   (try simp only [Exit.inBlock,Exit.then])
   refine bodyPost_ret (results_list (rs:=[.tmp 8,.tmp 9,.tmp 10,.tmp 11]) rfl (by simp) (.tmp (.tmp (.tmp (.tmp .nil))))) rfl ?_;exact ⟨rfl,q19_⟩
  | true =>
   simp only [if_true] at h;obtain ⟨v,hv,h⟩:=Option.bind_eq_some_iff.mp h;have HV:=Aside0.mk hv;clear hv;go_wp2_with fail
   refine MOwn.named ?_;intro we hW;have HB1:=Aside0.mk (show Below w.heap.size w we by exact q22_);clear HB hW;refine (impl_isWindow.calls a2 a3 v we HV.out).mono ?_;clear HV;rintro e wf ⟨rfl,hd⟩;have HB:=Aside0.mk (below_step HB1.out hd.below);clear hd HB1;cases v with
   | false =>
    simp only [Bool.false_eq_true,if_false,Option.some.injEq,Prod.mk.injEq] at h;obtain ⟨rfl,rfl,rfl,rfl⟩:=h;go_wp2
    (try simp only [Exit.inBlock,Exit.then])
    refine bodyPost_ret (results_list (rs:=[.tmp 8,.tmp 9,.tmp 10,.tmp 11]) rfl (by simp) (.tmp (.tmp (.tmp (.tmp .nil))))) rfl ?_;exact ⟨rfl,q19_⟩
   | true =>
    simp only [if_true] at h;obtain ⟨ga,hga,h2_⟩:=Option.bind_eq_some_iff.mp h;clear h;obtain ⟨gb,hgb,h⟩:=Option.bind_eq_some_iff.mp h2_;clear h2_;have HGA:=Aside0.mk (fun (W : World) (hb : Below w.heap.size w W)=>impl_frameGlosses.calls k A0 c0 l0 a2 a3 ga W (Kd.C_below HR0.out hb) HC0.out hga);have HGB:=Aside0.mk (fun (W : World) (hb : Below w.heap.size w W)=>impl_frameGlosses.calls k A1 c1 l1 a2 a3 gb W (Kd.C_below HR1.out hb) HC1.out hgb);unfold impl_ConfusedGlosses.g at h
    split at h
    rotate_left
    ·exact absurd h (by simp)
    rename_i hok;simp only [Bool.and_eq_true,decide_eq_true_eq] at hok;have HOK:=Aside0.mk hok;simp only [Option.some.injEq,Prod.mk.injEq] at h;have HH:=Aside0.mk h;clear hga hgb h hok;go_wp2_with fail
    refine MOwn.named ?_;intro wg hW;have HB1:=Aside0.mk (show Below w.heap.size w wg by exact q22_);clear HB hW;refine (HGA.out wg HB1.out).mono ?_;clear HGA;rintro e wh ⟨v,rfl,ho,hb⟩;have HB:=Aside0.mk (below_step HB1.out hb);have HRA:=Aside0.mk (show Kd.R Kd.string 9 wh w.heap.size (fun _=>True) v ga from Kd.R_lower ho HB1.out.size);clear ho hb HB1;go_wp2_with fail
    refine MOwn.named ?_;intro wi hW;have HB1:=Aside0.mk (show Below w.heap.size w wi by exact q22_);have HRA1:=Aside0.mk (show Kd.R Kd.string 9 wi w.heap.size (fun _=>True) v ga by subst hW;repeat (first | (with_reducible first | exact HRA.out | apply Kd.R_alloc | apply Kd.R_drewN | apply Kd.R_drew) | exact HRA.out));clear HB HRA hW;refine (HGB.out wi HB1.out).mono ?_;clear HGB;rintro e wj ⟨v2,rfl,ho,hb⟩;have HB:=Aside0.mk (below_step HB1.out hb);have HRB:=Aside0.mk (show Kd.R Kd.string 9 wj w.heap.size (fun _=>True) v2 gb from Kd.R_lower ho HB1.out.size);have HRA:=Aside0.mk (Kd.R_below HRA1.out hb);clear ho hb HB1 HRA1;obtain ⟨Ag,cg,rfl⟩:=Kd.R_slice HRA.out;obtain ⟨Ah,ch,rfl⟩:=Kd.R_slice HRB.out;go_wp2;obtain ⟨B,hB⟩ : ∃ B,wj.heap.size = B:=⟨_,rfl⟩;rw [hB];obtain ⟨wk,hwk⟩ : ∃ wk,wk = (wj.alloc (.map #[] 0)).alloc (.cells #[.string ⟨#[]⟩,.string ⟨#[]⟩] 133 (0,0)):=⟨_,rfl⟩;rw [← hwk];have HJ:=Aside0.mk (show Below wj.heap.size wj wk by subst hwk;exact below_alloc (below_alloc (Below.refl _ _) _) _);have HO:=Aside0.mk (show wk.ownsMap Try.prog 133 (plainElem Try.prog 3) B 0 (.map [] : DataW Unit) by subst hwk;rw [← hB];exact MMap.own_below (World.ownsMap_made _ _ _ _) (below_alloc (Below.refl _ _) _));have HG:=Aside0.mk (show wk.heap[B + 1]? = some (.cells #[.string ⟨#[]⟩,.string ⟨#[]⟩] 133 (0,0)) by subst hwk;rw [← hB,show wj.heap.size + 1 = (wj.alloc (.map #[] 0)).heap.size by simp];exact blk_new (wj.alloc (.map #[] 0)) _);have HZ:=Aside0.mk hB;have HK:=Aside0.mk (impl_ConfusedGlosses.pairsK);clear hwk hB;go_loopg [17,18,19,48] ga.length (fun gg _ _ _ s48 wr=>∃ i : Int,s48 = .int .i64 i ∧ Aside0 (0 ≤ i ∧ i ≤ (ga.length : Int) ∧ (ga.length : Int) - i ≤ (gg : Int)) ∧ Aside0 (∃ D n,MEnt.Has (impl_ConfusedGlosses.pairs ((ga.zip gb).take i.toNat)) D ∧ n ≤ i.toNat ∧ wr.ownsMap Try.prog 133 (plainElem Try.prog 3) B n D) ∧ Aside0 (wr.heap[B + 1]? = some (.cells #[.string ⟨#[]⟩,.string ⟨#[]⟩] 133 (0,0))) ∧ Aside0 (Below wj.heap.size wj wr))
    case atStart=>exact ⟨0,rfl,⟨by omega⟩,⟨_,0,MEnt.Has.start,Nat.le_refl _,HO.out⟩,HG,HJ⟩
    case round =>
     clear HO HG HJ;obtain ⟨i,rfl,HX,HO,HG,HJ⟩:=hrel;by_cases hlt : i < (ga.length : Int)
     ·have p1 : 0 ≤ i:=HX.out.1;have hlen:=HOK.out.2;obtain ⟨g,cap,he,_⟩:=Kd.R_form (Kd.R_below HRA.out HJ.out) (by omega);obtain ⟨rfl,-,-⟩:=Value.slice.inj he;obtain ⟨ce,hcl,hM,hcc,_⟩:=Kd.R_elem (Kd.R_below HRA.out HJ.out) ⟨#[]⟩ i p1 hlt;obtain ⟨x,hxe⟩ : ∃ x,x = ga.getD i.toNat ⟨#[]⟩:=⟨_,rfl⟩;rw [← hxe] at hM;obtain rfl : ce = [.string x]:=hM
      have hx0 : wr.cell? ⟨g,i.toNat,none⟩ = some (.string x):=by
       have:=hcc 0 _ rfl;rw [show i.toNat * Kd.string.sz + 0 = i.toNat from Nat.mul_one _] at this;exact this
      clear hcl hcc he;obtain ⟨g2,cap2,he,_⟩:=Kd.R_form (Kd.R_below HRB.out HJ.out) (by omega);obtain ⟨rfl,-,-⟩:=Value.slice.inj he;obtain ⟨ce,hcl,hM,hcc,_⟩:=Kd.R_elem (Kd.R_below HRB.out HJ.out) ⟨#[]⟩ i p1 (by omega);obtain ⟨y,hye⟩ : ∃ y,y = gb.getD i.toNat ⟨#[]⟩:=⟨_,rfl⟩;rw [← hye] at hM;obtain rfl : ce = [.string y]:=hM
      have hy0 : wr.cell? ⟨g2,i.toNat,none⟩ = some (.string y):=by
       have:=hcc 0 _ rfl;rw [show i.toNat * Kd.string.sz + 0 = i.toNat from Nat.mul_one _] at this;exact this
      have HS:=Aside0.mk (show x.size ≤ maxLen ∧ y.size ≤ maxLen by rw [hxe,hye];exact ⟨impl_ConfusedGlosses.all_at HOK.out.1.1.1 i p1 hlt,impl_ConfusedGlosses.all_at HOK.out.1.1.2 i p1 (by omega)⟩);have HTK:=Aside0.mk (impl_ConfusedGlosses.zip_at (ga:=ga) (gb:=gb) i p1 hlt (by omega));rw [← hxe,← hye] at HTK;have hw : wrap64 (i + 1) = i + 1:=by have:=HOK.out;unfold wrap64;omega
      have HW:=Aside0.mk hw;have HLT:=Aside0.mk hlt;have b0 : decide (i < (ga.length : Int)) = true:=decide_eq_true hlt;have q2 : i < (gb.length : Int):=by omega
      clear hcl hcc hxe hye he hlt hw hlen;replace p1:=eq_true p1;have q1:=eq_true HLT.out;replace q2:=eq_true q2
      have hskip : impl_ConfusedGlosses.bad (x,y) = true → impl_ConfusedGlosses.pairs ((ga.zip gb).take (i + 1).toNat) = impl_ConfusedGlosses.pairs ((ga.zip gb).take i.toNat):=by
       intro hb;unfold impl_ConfusedGlosses.pairs;rw [HTK.out,List.filter_append,List.filter_cons,hb];simp
      have HSK:=Aside0.mk hskip;clear hskip;by_cases n1 : x.toList = []
      ·have HB:=Aside0.mk (HSK.out (by unfold impl_ConfusedGlosses.bad;simp [n1]));go_wp2;go_roundg (ga.length - (i.toNat + 1))
       case measure=>have:=HX.out;have:=HLT.out;omega
       case rel=>exact impl_ConfusedGlosses.skips HX.out HLT.out HW.out HB.out HO.out HG.out HJ.out _
      ·by_cases n2 : y.toList = []
       ·have HB:=Aside0.mk (HSK.out (by unfold impl_ConfusedGlosses.bad;simp [n2]));go_wp2;go_roundg (ga.length - (i.toNat + 1))
        case measure=>have:=HX.out;have:=HLT.out;omega
        case rel=>exact impl_ConfusedGlosses.skips HX.out HLT.out HW.out HB.out HO.out HG.out HJ.out _
       ·by_cases n3 : x.toList = y.toList
        ·have HB:=Aside0.mk (HSK.out (by unfold impl_ConfusedGlosses.bad;simp [n3]));go_wp2;go_roundg (ga.length - (i.toNat + 1))
         case measure=>have:=HX.out;have:=HLT.out;omega
         case rel=>exact impl_ConfusedGlosses.skips HX.out HLT.out HW.out HB.out HO.out HG.out HJ.out _
        ·have HTL:=Aside0.mk (show impl_ConfusedGlosses.pairs ((ga.zip gb).take (i + 1).toNat) = impl_ConfusedGlosses.pairs ((ga.zip gb).take i.toNat) ++ [(x,y)] by
          unfold impl_ConfusedGlosses.pairs;have hb : impl_ConfusedGlosses.bad (x,y) = false:=by unfold impl_ConfusedGlosses.bad;simp [n1,n2,n3]
          rw [HTK.out,List.filter_append,List.filter_cons,hb];simp)
         have i1 : x.toList.isEmpty = false:=by simp [n1]
         have i2 : y.toList.isEmpty = false:=by simp [n2]
         have i3 : (x.toList == y.toList) = false:=by simp [n3]
         go_wp2;obtain ⟨W0,hW0⟩ : ∃ W0,W0 = wr.alloc (.cells #[.string x,.string y] 133 (0,0)):=⟨_,rfl⟩;rw [← hW0];have hb0 : Below wr.heap.size wr W0:=by subst hW0;exact below_alloc (Below.refl _ _) _
         have hq : W0.heap[wr.heap.size]? = some (.cells #[.string x,.string y] 133 (0,0)):=by subst hW0;exact blk_new _ _
         obtain ⟨q,hqe⟩ : ∃ q,wr.heap.size = q:=⟨_,rfl⟩;rw [hqe] at hq ⊢;have HG1:=Aside0.mk (blk_drew (blk_below HG.out hb0));have HJ1:=Aside0.mk (show Below wj.heap.size wj W0.drew from below_drew1 (below_step HJ.out hb0));obtain ⟨D,n,hD,hn,hown⟩:=HO.out;have HN:=Aside0.mk hn;have k0 : W0.drew.cell? ⟨q,0,none⟩ = some (.string x):=blk_cell (blk_drew hq) 0;have k1 : W0.drew.cell? ⟨q,1,none⟩ = some (.string y):=blk_cell (blk_drew hq) 1;obtain ⟨c,v0,st,w2,s1,s2,s3,s4,s5,s6⟩:=MEnt.steps HK.out.law Try.underlying132 Try.underlying3 (fun u=>show (zeroValue 3).run Try.prog u = .ok (.int .i64 0) u by kernel_rfl) (MMap.own_below hown (below_drew1 hb0)) (show n < maxLen by have:=HOK.out;have:=HX.out;unfold maxLen;omega) (HK.out.into (x,y) HS.out.1 HS.out.2)
         have hc : c = MEnt.cnt (impl_ConfusedGlosses.pairs ((ga.zip gb).take i.toNat)) (x,y):=by
          rw [hD.zero (x,y) HS.out.1 HS.out.2] at s2;injection s2 with s2
          injection s2 with _ s2
          exact s2.symm
         subst hc;have HD:=Aside0.mk hD;generalize hcz : MEnt.cnt (impl_ConfusedGlosses.pairs ((ga.zip gb).take i.toNat)) (x,y) = z at s1 s4;obtain ⟨w3,s7,s8,s9⟩:=s6 (wrap64 (z + 1)) (wrap64_wf _);have HCZ:=Aside0.mk hcz;have H8:=Aside0.mk s8;have H9:=Aside0.mk s9;clear hD hn hown s2 s5 s6 s8 s9 hcz hW0 hb0 hx0 hy0 HO HG HJ
         dsimp only at s1 s3 s4 s7
         replace s7 : (Instr.entryStore 132 (.map (some B)) (.int .i64 (st : Int)) (.int .i64 (IntKind.i64.wrap (z + 1)))).run Try.prog w2 = .ok () w3:=by rw [i64_w];exact s7
         have hreg:=MReg.here;go_region
         all_goals
          clear s1 s3 s4 s7 k0 k1 hq;go_wp2;go_roundg (ga.length - (i.toNat + 1))
          case measure=>have:=HX.out;have:=HLT.out;omega
          case rel=>exact impl_ConfusedGlosses.steps_ HX.out HLT.out HW.out HTL.out HN.out HCZ.out HOK.out.1.2 HD.out HK.out HS.out H8.out H9.out HG1.out HJ1.out HZ.out
     ·have b0 : decide (i < (ga.length : Int)) = false:=decide_eq_false hlt;have hi : (ga.zip gb).take i.toNat = ga.zip gb:=List.take_of_length_le (by rw [List.length_zip];have:=HX.out;omega);obtain ⟨D,n,hD,hn,hown⟩:=HO.out;rw [hi] at hD;have HD:=Aside0.mk hD;have HO1:=Aside0.mk hown;obtain ⟨ps,hps⟩ : ∃ ps,ps = impl_ConfusedGlosses.pairs (ga.zip gb):=⟨_,rfl⟩;have HP:=Aside0.mk hps;rw [← hps] at HD;clear hD hn hown hi HO HRA HRB hlt hps;go_wp2_with (first | (at_range;refine wpList_range_own _ rfl _ 132 rfl 133 3 (Go.Maps.Keyed.of_law HK.out.law) Try.underlying132 _ B n _ rfl HO1.out ?_;intro w0 hrg0 hg0 hs0) | go_in)
      go_frame
      obtain ⟨r,hr⟩ : ∃ r,wr.heap.size = r:=⟨_,rfl⟩;rw [hr] at hrg0 ⊢;have HG1:=Aside0.mk (blk_grown HG.out hg0 (by simp));have HJ1:=Aside0.mk (HJ.out.grown hg0 HJ.out.size (fun k hk=>by cases hk));have HR0:=Aside0.mk hrg0;have HRJ:=Aside0.mk (show B + 1 < r by rw [← hr];exact blk_lt HG.out);clear hrg0 hg0 hs0 hr HO1 HG HJ;go_loopg [16,20,21] (Go.Maps.size D) (fun gg s16 _ _ wr=>∃ (b : MEnt.Duo × Int) (left : Lit → Bool) (cnt : Nat),s16 = .int .i64 b.2 ∧ Aside0 (wr.ranges Try.prog 133 (plainElem Try.prog 3) B r n D left cnt ∧ cnt ≤ gg) ∧ Aside0 (MEnt.Top ps (fun p=>left (MEnt.key p) = true) b) ∧ Aside0 (wr.heap[B + 1]? = some (.cells #[.string b.1.1,.string b.1.2] 133 (0,0))) ∧ Aside0 (Below wj.heap.size wj wr))
      case atStart=>exact ⟨MEnt.init,_,_,rfl,⟨HR0.out,Nat.le_refl _⟩,⟨MEnt.Top.start _ _ (fun p hp=>HD.out.there hp)⟩,HG1,HJ1⟩
      case round =>
       clear HR0 HG1 HJ1;obtain ⟨b,left,cnt,rfl,HR,HT,HG,HJ⟩:=hrel;go_wp2_with (first | (at_next;refine wpList_next_ranges _ rfl _ rfl 133 (Go.Maps.Keyed.of_law HK.out.law) (plainElem Try.prog 3) (fun p : MEnt.Duo=>.agg #[.string p.1,.string p.2]) (Value.int .i64) (fun key kl h=>by obtain ⟨p,e,_⟩:=HK.out.out key kl h;exact ⟨p,e⟩) (fun v y hv=>by obtain ⟨c,e,_⟩:=plainElem_int_inv Try.underlying3 hv;exact ⟨c,e⟩) B r n D left cnt rfl HR.out.1 ?_ ?_) | go_in)
       ·intro hc0 hl0
        have hbe : b = impl_ConfusedGlosses.top (ga.zip gb):=by
         rw [HT.out.end_ (fun p hp=>by rw [hl0] at hp;cases hp),HP.out];rfl
        have HE:=Aside0.mk hbe;clear hc0 hl0 HR HT HD HP hbe;go_wp2;have hreg:=MReg.here;have g0 : wr.drew.cell? ⟨B + 1,0,none⟩ = some (.string b.1.1):=blk_cell (blk_drew HG.out) 0;have g1 : wr.drew.cell? ⟨B + 1,1,none⟩ = some (.string b.1.2):=blk_cell (blk_drew HG.out) 1;go_region
        go_wp2
        (try simp only [Exit.inBlock,Exit.then])
        refine bodyPost_ret (results_list (rs:=[.tmp 8,.tmp 9,.tmp 10,.tmp 11]) rfl (by simp) (.tmp (.tmp (.tmp (.tmp .nil))))) rfl ?_;refine ⟨?_,below_step HB.out (below_drew1 HJ.out)⟩;obtain ⟨e1,e2,e3,e4⟩:=HH.out;rw [← HE.out] at e1 e2 e3 e4;rw [← e1,← e2,← e3,← e4];rfl
       ·intro px py c kl yd yl w1 cnt1 hkey hlk hv hat hrg1 hlt1 hg1 hs1 hen;obtain ⟨p,rfl,rfl⟩ : ∃ p : MEnt.Duo,p.1 = px ∧ p.2 = py:=⟨(px,py),rfl,rfl⟩;replace hen : (Instr.entry (.pointer (some ⟨r,0,none⟩))).run Try.prog w1 = .ok (.tuple #[.agg #[.string p.1,.string p.2],.int .i64 c]) w1:=hen
        have hps : p ∈ ps ∧ c = MEnt.cnt ps p ∧ kl = MEnt.key p ∧ p.1.size ≤ maxLen ∧ p.2.size ≤ maxLen:=by
         obtain ⟨p', e1,e2,z1,z2⟩:=HK.out.out _ _ hkey;simp only [Value.agg.injEq] at e1;have e3:=congrArg Array.toList e1;simp at e3;have e4 : p = p' := Prod.ext e3.1 e3.2;subst e4;obtain ⟨c', e5,e6,_⟩:=plainElem_int_inv Try.underlying3 hv;cases e5;subst e2;injection e6 with e6 _
         subst e6;have h2:=HD.out.come z1 z2 hat;exact ⟨h2.1,h2.2,rfl,z1,z2⟩
        obtain ⟨hp,hce,rfl,hz1,hz2⟩:=hps;have HPC:=Aside0.mk hce;have HTN:=Aside0.mk (impl_ConfusedGlosses.top_step HT.out hp HK.out HD.out.2.1);have HRN:=Aside0.mk hrg1;have HLT:=Aside0.mk hlt1;have HG2:=Aside0.mk (blk_grown HG.out hg1 (by have:=HRJ.out;simp;omega));have HJ2:=Aside0.mk (HJ.out.grown hg1 HJ.out.size (fun k hk=>by cases hk;have:=HRJ.out;have:=HZ.out;omega));rw [← hce] at HTN;clear hkey hlk hv hat hrg1 hlt1 hg1 hs1 hp hce hz1 hz2 HG HJ HT;go_wp2;clear hen;obtain ⟨W0,hW0⟩ : ∃ W0,W0 = w1.alloc (.cells #[.string p.1,.string p.2] 133 (0,0)):=⟨_,rfl⟩;rw [← hW0];have hb0 : Below w1.heap.size w1 W0:=by subst hW0;exact below_alloc (Below.refl _ _) _
        have hgr : w1.grownBy W0 none:=by subst hW0;exact World.grownBy_alloc _ _ _
        have hq : W0.heap[w1.heap.size]? = some (.cells #[.string p.1,.string p.2] 133 (0,0)):=by subst hW0;exact blk_new _ _
        obtain ⟨q,hqe⟩ : ∃ q,w1.heap.size = q:=⟨_,rfl⟩;rw [hqe] at hq ⊢;have HG1:=Aside0.mk (blk_drew (blk_below HG2.out hb0));have HQ:=Aside0.mk (blk_drew hq);have HQG:=Aside0.mk (show B + 1 < q by rw [← hqe];exact blk_lt HG2.out);have HJ1:=Aside0.mk (show Below wj.heap.size wj W0.drew from below_drew1 (below_step HJ2.out hb0));have HR1:=Aside0.mk (impl_ConfusedGlosses.ranges_drew (HRN.out.kept hgr (by simp) (by simp)));clear hW0 hb0 hgr hq hqe HG2 HJ2 HRN;refine start_ (n:=14) (S:=fun _=>True) (ds:=[]) f32_ (by kernel_rfl) rfl rfl trivial (fun _=>?_);generalize W0.drew = W1 at HG1 HQ HR1 HJ1 ⊢;by_cases ha : b.2 < c
        ·have hbt : MEnt.bt p c b = true:=MEnt.bt_iff.2 (.inl ha);have d1 : decide (b.2 < c) = true:=decide_eq_true ha;rw [hbt,if_pos rfl] at HTN;refine pure_ (i:=0) (N:=some 90) (v:=?_) (a' := ?_) f33_ rfl rfl (by kernel_rfl) (fun _ _ _ h=>h) (Or.inl ⟨by rfl,?_⟩) ?_ ?_;rotate_left
         ·intro w';go_simp;try with_reducible rfl
         rotate_left
         ·exact q52_
         refine pure_ (i:=1) (N:=some 91) (v:=?_) (a' := ?_) f34_ rfl rfl (by kernel_rfl) (fun _ _ _ h=>h) (Or.inl ⟨by rfl,?_⟩) ?_ ?_;rotate_left
         ·intro w';go_simp;try with_reducible rfl
         rotate_left
         ·exact q52_
         refine pure_ (i:=2) (N:=some 92) (v:=?_) (a' := ?_) f35_ rfl rfl (by kernel_rfl) (fun _ _ _ h=>h) (Or.inl ⟨by rfl,?_⟩) ?_ ?_;rotate_left
         ·intro w';go_simp;try with_reducible rfl
         rotate_left
         ·exact q52_
         refine pure_ (i:=3) (N:=some 93) (v:=?_) (a' := ?_) f36_ rfl rfl (by kernel_rfl) (fun _ _ _ h=>h) (Or.inl ⟨by rfl,?_⟩) ?_ ?_;rotate_left
         ·intro w';go_simp;try with_reducible rfl
         rotate_left
         ·exact q52_
         refine pure_ (i:=4) (N:=some 94) (v:=undef) (a' := ?_) f37_ rfl rfl (by kernel_rfl) (fun _ _ _ h=>h) (Or.inr ⟨by rfl,rfl⟩) ?_ ?_;rotate_left
         ·exact q52_
         refine pure_ (i:=5) (N:=some 95) (v:=undef) (a' := ?_) f38_ rfl rfl (by kernel_rfl) (fun _ _ _ h=>h) (Or.inr ⟨by rfl,rfl⟩) ?_ ?_;rotate_left
         ·exact q52_
         refine pure_ (i:=6) (N:=some 96) (v:=undef) (a' := ?_) f39_ rfl rfl (by kernel_rfl) (fun _ _ _ h=>h) (Or.inr ⟨by rfl,rfl⟩) ?_ ?_;rotate_left
         ·exact q52_
         refine pure_ (i:=7) (N:=some 97) (v:=undef) (a' := ?_) f40_ rfl rfl (by kernel_rfl) (fun _ _ _ h=>h) (Or.inr ⟨by rfl,rfl⟩) ?_ ?_;rotate_left
         ·exact q52_
         refine pure_ (i:=8) (N:=some 98) (v:=undef) (a' := ?_) f41_ rfl rfl (by kernel_rfl) (fun _ _ _ h=>h) (Or.inr ⟨by rfl,rfl⟩) ?_ ?_;rotate_left
         ·exact q52_
         refine pure_ (i:=9) (N:=some 99) (v:=undef) (a' := ?_) f42_ rfl rfl (by kernel_rfl) (fun _ _ _ h=>h) (Or.inr ⟨by rfl,rfl⟩) ?_ ?_;rotate_left
         ·exact q52_
         refine pure_ (i:=10) (N:=some 100) (v:=undef) (a' := ?_) f43_ rfl rfl (by kernel_rfl) (fun _ _ _ h=>h) (Or.inr ⟨by rfl,rfl⟩) ?_ ?_;rotate_left
         ·exact q52_
         refine pure_ (i:=11) (N:=some 101) (v:=undef) (a' := ?_) f44_ rfl rfl (by kernel_rfl) (fun _ _ _ h=>h) (Or.inr ⟨by rfl,rfl⟩) ?_ ?_;rotate_left
         ·exact q52_
         refine pure_ (i:=12) (N:=some 102) (v:=undef) (a' := ?_) f45_ rfl rfl (by kernel_rfl) (fun _ _ _ h=>h) (Or.inr ⟨by rfl,rfl⟩) ?_ ?_;rotate_left
         ·exact q52_
         refine pure_ (i:=13) (N:=some 103) (v:=?_) (a' := ?_) f46_ rfl rfl (by kernel_rfl) (fun _ _ _ h=>h) (Or.inl ⟨by rfl,?_⟩) ?_ ?_;rotate_left
         ·intro w';go_simp;try with_reducible rfl
         rotate_left
         ·exact q52_
         refine done_ (by kernel_rfl) ?_;have k0:=blk_cell HQ.out 0;have k1:=blk_cell HQ.out 1;have g0:=blk_cell HG1.out 0;have g1:=blk_cell HG1.out 1;have f0:=blk_frozen HG1.out 0;have f1:=blk_frozen HG1.out 1;go_wp2;go_roundg cnt1
         case measure=>have:=HR.out.2;have:=HLT.out;omega
         case rel=>exact impl_ConfusedGlosses.put_ HTN HR1.out HG1.out HJ1.out HZ.out HRJ.out
        ·have ha1 : c ≤ b.2:=Int.not_lt.1 ha;have d1 : decide (b.2 < c) = false:=decide_eq_false ha;by_cases hb : c = b.2
         ·have d2 : decide (c = b.2) = true:=decide_eq_true hb;have d3 : (c == b.2) = true:=by simp [hb]
          obtain ⟨rr,hr1,hr2⟩:=impl_ConfusedGlosses.cmp p b.1;have hrr:=Aside0.mk hr1;have k0:=Aside0.mk (show W1.cell? ⟨q,0,none⟩ = some (.string p.1) from blk_cell HQ.out 0);have k1:=Aside0.mk (show W1.cell? ⟨q,1,none⟩ = some (.string p.2) from blk_cell HQ.out 1);have g0:=Aside0.mk (show W1.cell? ⟨B + 1,0,none⟩ = some (.string b.1.1) from blk_cell HG1.out 0);have g1:=Aside0.mk (show W1.cell? ⟨B + 1,1,none⟩ = some (.string b.1.2) from blk_cell HG1.out 1);cases hl : MEnt.lt p b.1 with
          | true =>
           have hbt : MEnt.bt p c b = true:=MEnt.bt_iff.2 (.inr ⟨hb,hl⟩);rw [hbt,if_pos rfl] at HTN;have hr0 : rr < 0:=of_decide_eq_true (hr2.trans hl);have d4 : decide (rr < 0) = true:=decide_eq_true hr0;clear hr1 hr2;refine pure_ (i:=0) (N:=some 90) (v:=?_) (a' := ?_) f33_ rfl rfl (by kernel_rfl) (fun _ _ _ h=>h) (Or.inl ⟨by rfl,?_⟩) ?_ ?_;rotate_left
           ·intro w';go_simp;try with_reducible rfl
           rotate_left
           ·exact q52_
           refine pure_ (i:=1) (N:=some 91) (v:=?_) (a' := ?_) f34_ rfl rfl (by kernel_rfl) (fun _ _ _ h=>h) (Or.inl ⟨by rfl,?_⟩) ?_ ?_;rotate_left
           ·intro w';go_simp;try with_reducible rfl
           rotate_left
           ·exact q52_
           refine pure_ (i:=2) (N:=some 92) (v:=?_) (a' := ?_) f35_ rfl rfl (by kernel_rfl) (fun _ _ _ h=>h) (Or.inl ⟨by rfl,?_⟩) ?_ ?_;rotate_left
           ·intro w';go_simp;try with_reducible rfl
           rotate_left
           ·exact q52_
           refine pure_ (i:=3) (N:=some 93) (v:=?_) (a' := ?_) f36_ rfl rfl (by kernel_rfl) (fun _ _ _ h=>h) (Or.inl ⟨by rfl,?_⟩) ?_ ?_;rotate_left
           ·intro w';go_simp;try with_reducible rfl
           rotate_left
           ·exact q52_
           refine pure_ (i:=4) (N:=some 94) (v:=?_) (a' := ?_) f37_ rfl rfl (by kernel_rfl) (fun _ _ _ h=>h) (Or.inl ⟨by rfl,?_⟩) ?_ ?_;rotate_left
           ·intro w';go_simp;try with_reducible rfl
           rotate_left
           ·exact q52_
           refine pure_ (i:=5) (N:=some 95) (v:=?_) (a' := ?_) f38_ rfl rfl (by kernel_rfl) (fun _ _ _ h=>h) (Or.inl ⟨by rfl,?_⟩) ?_ ?_;rotate_left
           ·intro w';go_simp;try with_reducible rfl
           rotate_left
           ·exact q52_
           refine pure_ (i:=6) (N:=some 96) (v:=?_) (a' := ?_) f39_ rfl rfl (by kernel_rfl) (fun _ _ _ h=>h) (Or.inl ⟨by rfl,?_⟩) ?_ ?_;rotate_left
           ·intro w';go_simp;try with_reducible rfl
           rotate_left
           ·exact q52_
           refine pure_ (i:=7) (N:=some 97) (v:=?_) (a' := ?_) f40_ rfl rfl (by kernel_rfl) (fun _ _ _ h=>h) (Or.inl ⟨by rfl,?_⟩) ?_ ?_;rotate_left
           ·intro w';go_simp;try with_reducible rfl
           rotate_left
           ·exact q52_
           refine pure_ (i:=8) (N:=some 98) (v:=?_) (a' := ?_) f41_ rfl rfl (by kernel_rfl) (fun _ _ _ h=>h) (Or.inl ⟨by rfl,?_⟩) ?_ ?_;rotate_left
           ·intro w';go_simp;try with_reducible rfl
           rotate_left
           ·exact q52_
           refine pure_ (i:=9) (N:=some 99) (v:=?_) (a' := ?_) f42_ rfl rfl (by kernel_rfl) (fun _ _ _ h=>h) (Or.inl ⟨by rfl,?_⟩) ?_ ?_;rotate_left
           ·intro w';go_simp;try with_reducible rfl
           rotate_left
           ·exact q52_
           refine one_ (i:=10) (N:=some 100) f43_ rfl rfl (by kernel_rfl) (by decide) (fun K hK=>?_);refine goes_ Try.func128 (by kernel_rfl) rfl #[.slice (some ⟨q,0,none⟩) 2 2,.slice (some ⟨B + 1,0,none⟩) 2 2] (by rfl) rfl rfl (by (try simp only [List.map_toArray,List.map_cons,List.map_nil]);first | done | rfl) ?_;refine (show Calls Try.prog 128 #[.slice (some ⟨q,0,none⟩) 2 2,.slice (some ⟨B + 1,0,none⟩) 2 2] _ _ from slices_Compare_string.calls 10 (some ⟨q,0,none⟩) 2 [p.1,p.2] (some ⟨B + 1,0,none⟩) 2 [b.1.1,b.1.2] rr _ (impl_ConfusedGlosses.duoC k0.out k1.out) (Nat.le_refl _) (impl_ConfusedGlosses.duoC g0.out g1.out) (Nat.le_refl _) hrr.out).mono ?_;rintro e w' ⟨rfl,⟨nd,rfl⟩⟩;refine ⟨_,rfl,?_⟩;refine hK.out _ _ trivial (fun _=>?_);clear hK K;refine norm_ (a' := ?_) ?_ ?_;rotate_left
           ·show Act.put _ (some 100) _ = _;simp only [Act.put,List.setIfInBounds_toArray,List.set_cons_zero,List.set_cons_succ,i64_w,i32_w];rfl
           refine pure_ (i:=11) (N:=some 101) (v:=?_) (a' := ?_) f44_ rfl rfl (by kernel_rfl) (fun _ _ _ h=>h) (Or.inl ⟨by rfl,?_⟩) ?_ ?_;rotate_left
           ·intro w';go_simp;try with_reducible rfl
           rotate_left
           ·exact q52_
           refine pure_ (i:=12) (N:=some 102) (v:=?_) (a' := ?_) f45_ rfl rfl (by kernel_rfl) (fun _ _ _ h=>h) (Or.inl ⟨by rfl,?_⟩) ?_ ?_;rotate_left
           ·intro w';go_simp;try with_reducible rfl
           rotate_left
           ·exact q52_
           refine pure_ (i:=13) (N:=some 103) (v:=?_) (a' := ?_) f46_ rfl rfl (by kernel_rfl) (fun _ _ _ h=>h) (Or.inl ⟨by rfl,?_⟩) ?_ ?_;rotate_left
           ·intro w';go_simp;try with_reducible rfl
           rotate_left
           ·exact q52_
           refine done_ (by kernel_rfl) ?_;have HQ2:=Aside0.mk (blk_drewN HQ.out nd);have HG2:=Aside0.mk (blk_drewN HG1.out nd);have HJ2:=Aside0.mk (show Below wj.heap.size wj (W1.drewN nd) from pw_below_drewN HJ1.out nd);have HR2:=Aside0.mk (impl_ConfusedGlosses.ranges_drewN HR1.out nd);clear HQ HG1 HJ1 HR1 k0 k1 g0 g1;generalize W1.drewN nd = W2 at HQ2 HG2 HJ2 HR2 ⊢;have k0:=blk_cell HQ2.out 0;have k1:=blk_cell HQ2.out 1;have g0:=blk_cell HG2.out 0;have g1:=blk_cell HG2.out 1;have f0:=blk_frozen HG2.out 0;have f1:=blk_frozen HG2.out 1;go_wp2;go_roundg cnt1
           case measure=>have:=HR.out.2;have:=HLT.out;omega
           case rel=>exact impl_ConfusedGlosses.put_ (hb ▸ HTN) HR2.out HG2.out HJ2.out HZ.out HRJ.out
          | false =>
           have hbt : ¬ MEnt.bt p c b = true:=fun h=>by rw [MEnt.bt_iff,hl] at h;rcases h with h | h;exact ha h;exact absurd h.2 (by simp)
           rw [if_neg hbt] at HTN;have hr0 : ¬ rr < 0:=of_decide_eq_false (hr2.trans hl);have d4 : decide (rr < 0) = false:=decide_eq_false hr0;clear hr1 hr2;refine pure_ (i:=0) (N:=some 90) (v:=?_) (a' := ?_) f33_ rfl rfl (by kernel_rfl) (fun _ _ _ h=>h) (Or.inl ⟨by rfl,?_⟩) ?_ ?_;rotate_left
           ·intro w';go_simp;try with_reducible rfl
           rotate_left
           ·exact q52_
           refine pure_ (i:=1) (N:=some 91) (v:=?_) (a' := ?_) f34_ rfl rfl (by kernel_rfl) (fun _ _ _ h=>h) (Or.inl ⟨by rfl,?_⟩) ?_ ?_;rotate_left
           ·intro w';go_simp;try with_reducible rfl
           rotate_left
           ·exact q52_
           refine pure_ (i:=2) (N:=some 92) (v:=?_) (a' := ?_) f35_ rfl rfl (by kernel_rfl) (fun _ _ _ h=>h) (Or.inl ⟨by rfl,?_⟩) ?_ ?_;rotate_left
           ·intro w';go_simp;try with_reducible rfl
           rotate_left
           ·exact q52_
           refine pure_ (i:=3) (N:=some 93) (v:=?_) (a' := ?_) f36_ rfl rfl (by kernel_rfl) (fun _ _ _ h=>h) (Or.inl ⟨by rfl,?_⟩) ?_ ?_;rotate_left
           ·intro w';go_simp;try with_reducible rfl
           rotate_left
           ·exact q52_
           refine pure_ (i:=4) (N:=some 94) (v:=?_) (a' := ?_) f37_ rfl rfl (by kernel_rfl) (fun _ _ _ h=>h) (Or.inl ⟨by rfl,?_⟩) ?_ ?_;rotate_left
           ·intro w';go_simp;try with_reducible rfl
           rotate_left
           ·exact q52_
           refine pure_ (i:=5) (N:=some 95) (v:=?_) (a' := ?_) f38_ rfl rfl (by kernel_rfl) (fun _ _ _ h=>h) (Or.inl ⟨by rfl,?_⟩) ?_ ?_;rotate_left
           ·intro w';go_simp;try with_reducible rfl
           rotate_left
           ·exact q52_
           refine pure_ (i:=6) (N:=some 96) (v:=?_) (a' := ?_) f39_ rfl rfl (by kernel_rfl) (fun _ _ _ h=>h) (Or.inl ⟨by rfl,?_⟩) ?_ ?_;rotate_left
           ·intro w';go_simp;try with_reducible rfl
           rotate_left
           ·exact q52_
           refine pure_ (i:=7) (N:=some 97) (v:=?_) (a' := ?_) f40_ rfl rfl (by kernel_rfl) (fun _ _ _ h=>h) (Or.inl ⟨by rfl,?_⟩) ?_ ?_;rotate_left
           ·intro w';go_simp;try with_reducible rfl
           rotate_left
           ·exact q52_
           refine pure_ (i:=8) (N:=some 98) (v:=?_) (a' := ?_) f41_ rfl rfl (by kernel_rfl) (fun _ _ _ h=>h) (Or.inl ⟨by rfl,?_⟩) ?_ ?_;rotate_left
           ·intro w';go_simp;try with_reducible rfl
           rotate_left
           ·exact q52_
           refine pure_ (i:=9) (N:=some 99) (v:=?_) (a' := ?_) f42_ rfl rfl (by kernel_rfl) (fun _ _ _ h=>h) (Or.inl ⟨by rfl,?_⟩) ?_ ?_;rotate_left
           ·intro w';go_simp;try with_reducible rfl
           rotate_left
           ·exact q52_
           refine one_ (i:=10) (N:=some 100) f43_ rfl rfl (by kernel_rfl) (by decide) (fun K hK=>?_);refine goes_ Try.func128 (by kernel_rfl) rfl #[.slice (some ⟨q,0,none⟩) 2 2,.slice (some ⟨B + 1,0,none⟩) 2 2] (by rfl) rfl rfl (by (try simp only [List.map_toArray,List.map_cons,List.map_nil]);first | done | rfl) ?_;refine (show Calls Try.prog 128 #[.slice (some ⟨q,0,none⟩) 2 2,.slice (some ⟨B + 1,0,none⟩) 2 2] _ _ from slices_Compare_string.calls 10 (some ⟨q,0,none⟩) 2 [p.1,p.2] (some ⟨B + 1,0,none⟩) 2 [b.1.1,b.1.2] rr _ (impl_ConfusedGlosses.duoC k0.out k1.out) (Nat.le_refl _) (impl_ConfusedGlosses.duoC g0.out g1.out) (Nat.le_refl _) hrr.out).mono ?_;rintro e w' ⟨rfl,⟨nd,rfl⟩⟩;refine ⟨_,rfl,?_⟩;refine hK.out _ _ trivial (fun _=>?_);clear hK K;refine norm_ (a' := ?_) ?_ ?_;rotate_left
           ·show Act.put _ (some 100) _ = _;simp only [Act.put,List.setIfInBounds_toArray,List.set_cons_zero,List.set_cons_succ,i64_w,i32_w];rfl
           refine pure_ (i:=11) (N:=some 101) (v:=?_) (a' := ?_) f44_ rfl rfl (by kernel_rfl) (fun _ _ _ h=>h) (Or.inl ⟨by rfl,?_⟩) ?_ ?_;rotate_left
           ·intro w';go_simp;try with_reducible rfl
           rotate_left
           ·exact q52_
           refine pure_ (i:=12) (N:=some 102) (v:=?_) (a' := ?_) f45_ rfl rfl (by kernel_rfl) (fun _ _ _ h=>h) (Or.inl ⟨by rfl,?_⟩) ?_ ?_;rotate_left
           ·intro w';go_simp;try with_reducible rfl
           rotate_left
           ·exact q52_
           refine pure_ (i:=13) (N:=some 103) (v:=?_) (a' := ?_) f46_ rfl rfl (by kernel_rfl) (fun _ _ _ h=>h) (Or.inl ⟨by rfl,?_⟩) ?_ ?_;rotate_left
           ·intro w';go_simp;try with_reducible rfl
           rotate_left
           ·exact q52_
           refine done_ (by kernel_rfl) ?_;go_wp2;go_roundg cnt1
           case measure=>have:=HR.out.2;have:=HLT.out;omega
           case rel=>exact ⟨b,_,cnt1,rfl,⟨impl_ConfusedGlosses.ranges_drewN HR1.out nd,Nat.le_refl _⟩,HTN,⟨blk_drewN HG1.out nd⟩,⟨pw_below_drewN HJ1.out nd⟩⟩
         ·have d2 : decide (c = b.2) = false:=decide_eq_false hb;have d3 : (c == b.2) = false:=by simp [hb]
          have hbt : ¬ MEnt.bt p c b = true:=fun h=>by rw [MEnt.bt_iff] at h;rcases h with h | h;exact ha h;exact hb h.1
          rw [if_neg hbt] at HTN;refine pure_ (i:=0) (N:=some 90) (v:=?_) (a' := ?_) f33_ rfl rfl (by kernel_rfl) (fun _ _ _ h=>h) (Or.inl ⟨by rfl,?_⟩) ?_ ?_;rotate_left
          ·intro w';go_simp;try with_reducible rfl
          rotate_left
          ·exact q52_
          refine pure_ (i:=1) (N:=some 91) (v:=?_) (a' := ?_) f34_ rfl rfl (by kernel_rfl) (fun _ _ _ h=>h) (Or.inl ⟨by rfl,?_⟩) ?_ ?_;rotate_left
          ·intro w';go_simp;try with_reducible rfl
          rotate_left
          ·exact q52_
          refine pure_ (i:=2) (N:=some 92) (v:=?_) (a' := ?_) f35_ rfl rfl (by kernel_rfl) (fun _ _ _ h=>h) (Or.inl ⟨by rfl,?_⟩) ?_ ?_;rotate_left
          ·intro w';go_simp;try with_reducible rfl
          rotate_left
          ·exact q52_
          refine pure_ (i:=3) (N:=some 93) (v:=?_) (a' := ?_) f36_ rfl rfl (by kernel_rfl) (fun _ _ _ h=>h) (Or.inl ⟨by rfl,?_⟩) ?_ ?_;rotate_left
          ·intro w';go_simp;try with_reducible rfl
          rotate_left
          ·exact q52_
          refine pure_ (i:=4) (N:=some 94) (v:=?_) (a' := ?_) f37_ rfl rfl (by kernel_rfl) (fun _ _ _ h=>h) (Or.inl ⟨by rfl,?_⟩) ?_ ?_;rotate_left
          ·intro w';go_simp;try with_reducible rfl
          rotate_left
          ·exact q52_
          refine pure_ (i:=5) (N:=some 95) (v:=?_) (a' := ?_) f38_ rfl rfl (by kernel_rfl) (fun _ _ _ h=>h) (Or.inl ⟨by rfl,?_⟩) ?_ ?_;rotate_left
          ·intro w';go_simp;try with_reducible rfl
          rotate_left
          ·exact q52_
          refine pure_ (i:=6) (N:=some 96) (v:=?_) (a' := ?_) f39_ rfl rfl (by kernel_rfl) (fun _ _ _ h=>h) (Or.inl ⟨by rfl,?_⟩) ?_ ?_;rotate_left
          ·intro w';go_simp;try with_reducible rfl
          rotate_left
          ·exact q52_
          refine pure_ (i:=7) (N:=some 97) (v:=?_) (a' := ?_) f40_ rfl rfl (by kernel_rfl) (fun _ _ _ h=>h) (Or.inl ⟨by rfl,?_⟩) ?_ ?_;rotate_left
          ·intro w';go_simp;try with_reducible rfl
          rotate_left
          ·exact q52_
          refine pure_ (i:=8) (N:=some 98) (v:=undef) (a' := ?_) f41_ rfl rfl (by kernel_rfl) (fun _ _ _ h=>h) (Or.inr ⟨by rfl,rfl⟩) ?_ ?_;rotate_left
          ·exact q52_
          refine pure_ (i:=9) (N:=some 99) (v:=undef) (a' := ?_) f42_ rfl rfl (by kernel_rfl) (fun _ _ _ h=>h) (Or.inr ⟨by rfl,rfl⟩) ?_ ?_;rotate_left
          ·exact q52_
          refine pure_ (i:=10) (N:=some 100) (v:=undef) (a' := ?_) f43_ rfl rfl (by kernel_rfl) (fun _ _ _ h=>h) (Or.inr ⟨by rfl,rfl⟩) ?_ ?_;rotate_left
          ·exact q52_
          refine pure_ (i:=11) (N:=some 101) (v:=undef) (a' := ?_) f44_ rfl rfl (by kernel_rfl) (fun _ _ _ h=>h) (Or.inr ⟨by rfl,rfl⟩) ?_ ?_;rotate_left
          ·exact q52_
          refine pure_ (i:=12) (N:=some 102) (v:=?_) (a' := ?_) f45_ rfl rfl (by kernel_rfl) (fun _ _ _ h=>h) (Or.inl ⟨by rfl,?_⟩) ?_ ?_;rotate_left
          ·intro w';go_simp;try with_reducible rfl
          rotate_left
          ·exact q52_
          refine pure_ (i:=13) (N:=some 103) (v:=?_) (a' := ?_) f46_ rfl rfl (by kernel_rfl) (fun _ _ _ h=>h) (Or.inl ⟨by rfl,?_⟩) ?_ ?_;rotate_left
          ·intro w';go_simp;try with_reducible rfl
          rotate_left
          ·exact q52_
          refine done_ (by kernel_rfl) ?_;go_wp2;go_roundg cnt1
          case measure=>have:=HR.out.2;have:=HLT.out;omega
          case rel=>exact ⟨b,_,cnt1,rfl,⟨HR1.out,Nat.le_refl _⟩,HTN,HG1,HJ1⟩
end Go.Proofs.Ytgapcmmhbegdeaa.G
