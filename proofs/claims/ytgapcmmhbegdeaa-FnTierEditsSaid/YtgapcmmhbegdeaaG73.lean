-- Written by this session's own program over the kit's print (wip/tools/myprint.py); Lean checks it.
import Derived.Test.YtgapcmmhbegdeaaMBase
import Derived.Test.YtgapcmmhbegdeaaG0
namespace Go.Proofs.Ytgapcmmhbegdeaa.G
open Go.RowKit Go.Proofs.YtgapcmmhbegdeaaW.PrintWords Go.Proofs.YtgapcmmhbegdeaaW.PrintLast Go.Proofs.YtgapcmmhbegdeaaW.PrintMore
attribute [local go_sem] max2_int min2_int max_two min_two max_three min_three max_four min_four str_geq str_gtr str_leq   -- for this text's walks alone
set_option linter.unusedVariables false
set_option linter.unusedSimpArgs false
/-! ### slices_Insert_Note: function 144 -/
def slices_Insert_Note.cellsOf : List S58 → List Value
 | []=>[]
 | x :: xs=>.int .i64 x.f0 :: .int .i64 x.f1 :: .string x.f2 :: slices_Insert_Note.cellsOf xs
theorem slices_Insert_Note.cells_length : ∀ xs,(slices_Insert_Note.cellsOf xs).length = xs.length * 3
 | []=>rfl
 | x :: xs=>by
  show (slices_Insert_Note.cellsOf xs).length + 1 + 1 + 1 = (xs.length + 1) * 3;rw [slices_Insert_Note.cells_length xs];omega
theorem slices_Insert_Note.cells_one : ∀ xs,∀ v ∈ slices_Insert_Note.cellsOf xs,v.oneCell' = true
 | []=>by intro v hv;cases hv
 | x :: xs=>by
  intro v hv;simp only [slices_Insert_Note.cellsOf,List.mem_cons] at hv
  rcases hv with rfl | rfl | rfl | hv
  ·rfl
  ·rfl
  ·rfl
  ·exact slices_Insert_Note.cells_one xs v hv
theorem slices_Insert_Note.cells_append : ∀ xs ys,slices_Insert_Note.cellsOf (xs ++ ys) = slices_Insert_Note.cellsOf xs ++ slices_Insert_Note.cellsOf ys
 | [],_=>rfl
 | x :: xs,ys=>by show _ :: _ :: _ :: slices_Insert_Note.cellsOf (xs ++ ys) = _;rw [slices_Insert_Note.cells_append xs ys];rfl
theorem slices_Insert_Note.cells_take : ∀ (i : Nat) xs,slices_Insert_Note.cellsOf (xs.take i) = (slices_Insert_Note.cellsOf xs).take (i * 3)
 | 0,_=>by simp [slices_Insert_Note.cellsOf]
 | i + 1,[]=>by simp [slices_Insert_Note.cellsOf]
 | i + 1,x :: xs=>by
  rw [show (i + 1) * 3 = i * 3 + 1 + 1 + 1 by omega];show _ :: _ :: _ :: slices_Insert_Note.cellsOf (xs.take i) = _;rw [slices_Insert_Note.cells_take i xs];rfl
theorem slices_Insert_Note.cells_drop : ∀ (i : Nat) xs,slices_Insert_Note.cellsOf (xs.drop i) = (slices_Insert_Note.cellsOf xs).drop (i * 3)
 | 0,_=>by simp
 | i + 1,[]=>by simp [slices_Insert_Note.cellsOf]
 | i + 1,x :: xs=>by
  rw [show (i + 1) * 3 = i * 3 + 1 + 1 + 1 by omega];show slices_Insert_Note.cellsOf (xs.drop i) = _;rw [slices_Insert_Note.cells_drop i xs];rfl
theorem slices_Insert_Note.reps_cells {R : S58 → List Value → Prop} (hR : ∀ x cs,R x cs → cs = [.int .i64 x.f0,.int .i64 x.f1,.string x.f2]) : ∀ (xs : List S58) (inner : List Value),Reps R 3 xs inner → inner = slices_Insert_Note.cellsOf xs
 | [],inner,h=>List.eq_nil_of_length_eq_zero (by rw [h.1];rfl)
 | x :: xs,inner,h=>by
  have h0:=hR _ _ (h.2 0 x rfl);rw [Nat.zero_mul,List.drop_zero] at h0
  have ih:=slices_Insert_Note.reps_cells hR xs (inner.drop 3) ⟨by rw [List.length_drop,h.1,List.length_cons];omega,fun j p hj=>by
   have:=h.2 (j + 1) p (by simpa using hj)
   rwa [List.drop_drop,show 3 + j * 3 = (j + 1) * 3 by omega]⟩
  rw [← List.take_append_drop 3 inner,h0,ih];rfl
theorem slices_Insert_Note.cells_reps (w : World) (base : Nat) (ok : Nat → Prop) : ∀ (xs : List S58),Reps ((k58).M w base ok) 3 xs (slices_Insert_Note.cellsOf xs):=fun xs=>⟨slices_Insert_Note.cells_length xs,fun j p hj=>by
 have hlt:=(List.getElem?_eq_some_iff.1 hj).1
 have he : (xs.drop j).take 1 = [p]:=by
  rw [List.drop_eq_getElem_cons hlt,(List.getElem?_eq_some_iff.1 hj).2];rfl
 have h:=congrArg slices_Insert_Note.cellsOf he;rw [slices_Insert_Note.cells_take,slices_Insert_Note.cells_drop,Nat.one_mul] at h;rw [h];exact k58_mkM _ _ _ _⟩
theorem slices_Insert_Note.mk {base g n cap : Nat} {W : World} {cur : Array Value} {xs : List S58} (hg : W.heap[g]? = some (.cells cur 58 (0,0))) (hb : base ≤ g) (hn : xs.length = n) (h1 : n ≤ cap) (h2 : cap ≤ maxLen) (h3 : cur.size = cap * 3) (h4 : cur.toList.take (n * 3) = slices_Insert_Note.cellsOf xs) : Kd.R k58 58 W base (fun _=>True) (.slice (some ⟨g,0,none⟩) n cap) xs:=by
 subst hn;exact ⟨fun _ _=>trivial,slices_Insert_Note.cellsOf xs,⟨slices_Insert_Note.cells_length xs,.inr ⟨g,cap,cur,rfl,hb,hg,h1,h2,h3,h4⟩⟩,slices_Insert_Note.cells_reps _ _ _ xs⟩
theorem slices_Insert_Note.form {base n cap : Nat} {ok : Nat → Prop} {W : World} {A : Option Addr} {xs : List S58} (h : Kd.R k58 58 W base ok (.slice A n cap) xs) (hp : 0 < xs.length) : ∃ g cur,A = some ⟨g,0,none⟩ ∧ base ≤ g ∧ W.heap[g]? = some (.cells cur 58 (0,0)) ∧ xs.length ≤ cap ∧ cap ≤ maxLen ∧ cur.size = cap * 3 ∧ cur.toList.take (xs.length * 3) = slices_Insert_Note.cellsOf xs:=by
 obtain ⟨_,inner,ho,hr⟩:=h;have hi:=slices_Insert_Note.reps_cells (fun x cs hx=>k58_openM hx) xs inner hr;subst hi
 rcases ho.2 with ⟨_,h0⟩ | ⟨g,cap', cur,hv,hb,hg,h1,h2,h3,h4⟩
 ·omega
 ·obtain ⟨rfl,_,rfl⟩:=Value.slice.inj hv;exact ⟨g,cur,rfl,hb,hg,h1,h2,h3,h4⟩
theorem slices_Insert_Note.below {B g : Nat} {a w : World} (h : Below B a w) (hg : B ≤ g) (cs : Array Value) : Below B a (w.setRow g cs):=⟨h.os,h.tape,h.output,by unfold World.setRow;simp;exact h.size,fun k hk=>by
 rw [← h.block k hk];unfold World.setRow;rw [Array.getElem?_modify,if_neg (by omega)]⟩
theorem slices_Insert_Note.copy (W : World) (ty : TypeId) (g o dLen dCap : Nat) (a : Addr) (sLen sCap m : Nat) (cur : Array Value) (cs : List Value) (hg : W.heap[g]? = some (.cells cur 58 (0,0))) (hm : Nat.min sLen dLen = m) (hl : cs.length = m * 3)
  (hsrc : ∀ j v,cs[j]? = some v → W.cell? (a.add j) = some v) (hfit : o + cs.length ≤ cur.size) (h1 : ∀ v ∈ cs,v.oneCell' = true) :
  (Builtin.copy_ #[30,30] ty #[.slice (some ⟨g,o,none⟩) dLen dCap,.slice (some a) sLen sCap]).run Try.prog W = .ok (goInt m) (W.setRow g (cur.toList.take o ++ cs ++ cur.toList.drop (o + cs.length)).toArray):=by
 have hld:=run_loadCells_list (P:=Try.prog) W a cs hsrc;have hst:=run_storeCells_at Try.prog g o 58 cs 0 cur W hg (by simpa using hfit) h1;obtain ⟨i0,hi0,_,hsz0,_⟩:=info_parts info58;rw [hl] at hld;simp [Builtin.copy_,run_underlying Try.underlying30,Builtin.lenOf,Builtin.firstCells,sizeOf,typeInfo,hi0,hsz0,hm,hld,hst]
theorem slices_Insert_Note.cut_up (A : Option Addr) (n c : Nat) (j : Int) (h0 : 0 ≤ j) (hm : j ≤ c) : ∀ W : World,(Instr.slice 30 (.slice A n c) none (some (.int .i64 j)) none).run Try.prog W = .ok (.slice A j.toNat c) W:=by
 intro W;obtain ⟨i0,hi0,_,hsz0,_⟩:=info_parts info58;have hel : (Try.prog).elem 30 = 58:=by simp [Program.elem,Try.underlying30]
 have hu : (Try.prog).underlying 30 = some (.slice ((Try.prog).elem 30)):=by rw [hel];exact Try.underlying30
 have ha : (A.map fun x=>x.add 0) = A:=by cases A <;> simp [Addr.add]
 rw [run_slice_h W 30 A n c hu .i64 j h0 (by omega),hel];simp [sizeOf,typeInfo,hi0,sliced,Result.andThen,ha]
theorem slices_Insert_Note.add_lit (b o q : Nat) : (⟨b,o,none⟩ : Addr).add q = ⟨b,o + q,none⟩:=by unfold Addr.add;split <;> simp_all
theorem slices_Insert_Note.far {W : World} {g b j : Nat} (hne : g ≠ b) (cs : Array Value) : (W.setRow g cs).cell? ⟨b,j,none⟩ = W.cell? ⟨b,j,none⟩:=by
 refine World.cell?_of_block (w:=W) (a:=⟨b,j,none⟩) ?_;unfold World.setRow;show (Array.modify W.heap g _)[b]? = _;rw [Array.getElem?_modify,if_neg hne]
theorem slices_Insert_Note.lists (R D Y : List Value) (k m : Nat) (hR : (k * 3 + 3) + m ≤ R.length) (hY : Y.length = 3) (hD : D.length = m) : ((R.take (k * 3 + 3) ++ D ++ R.drop (k * 3 + 3 + m)).take (k * 3) ++ Y ++ (R.take (k * 3 + 3) ++ D ++ R.drop (k * 3 + 3 + m)).drop (k * 3 + 3)).take (k * 3 + 3 + m) = R.take (k * 3) ++ Y ++ D:=by
 have h1 : (R.take (k * 3 + 3)).length = k * 3 + 3:=by rw [List.length_take];omega
 have h2 : (R.take (k * 3 + 3) ++ D ++ R.drop (k * 3 + 3 + m)).take (k * 3) = R.take (k * 3):=by
  rw [List.append_assoc,List.take_append_of_le_length (by omega),List.take_take,Nat.min_eq_left (by omega)]
 have h3 : (R.take (k * 3 + 3) ++ D ++ R.drop (k * 3 + 3 + m)).drop (k * 3 + 3) = D ++ R.drop (k * 3 + 3 + m):=by
  rw [List.append_assoc,List.drop_append_of_le_length (by omega),List.drop_of_length_le (by omega),List.nil_append]
 have h4 : (R.take (k * 3)).length = k * 3:=by rw [List.length_take];omega
 rw [h2,h3,← List.append_assoc,List.take_append_of_le_length (by rw [List.length_append,List.length_append,h4,hY,hD];omega),List.take_of_length_le (by rw [List.length_append,List.length_append,h4,hY,hD];omega)]
theorem slices_Insert_Note.room (w0 w : World) (g vb k c0 c2 : Nat) (l0 : List S58) (y : S58) (cur : Array Value) (hB : Below w0.heap.size w0 w) (hgb : w0.heap.size ≤ g) (hgh : w.heap[g]? = some (.cells cur 58 (0,0))) (hg2 : c0 ≤ maxLen) (hg3 : cur.size = c0 * 3) (hg4 : cur.toList.take (l0.length * 3) = slices_Insert_Note.cellsOf l0) (hgv : g ≠ vb)
  (hvc : ∀ j v,(slices_Insert_Note.cellsOf [y])[j]? = some v → w.cell? ⟨vb,j,none⟩ = some v) (hgd : ∀ j v,(slices_Insert_Note.cellsOf (l0.drop k))[j]? = some v → w.cell? ⟨g,k * 3 + j,none⟩ = some v) (hk : k < l0.length) (hroom : l0.length + 1 ≤ c0) :
  ∃ W1 W2 : World,(∀ ty dc sc,(Builtin.copy_ #[30,30] ty #[.slice (some ⟨g,k * 3 + 3,none⟩) (l0.length - k) dc,.slice (some ⟨g,k * 3,none⟩) (l0.length + 1 - k) sc]).run Try.prog w.drew = .ok (goInt ((l0.length - k : Nat) : Int)) W1) ∧
   (∀ ty dc,(Builtin.copy_ #[30,30] ty #[.slice (some ⟨g,k * 3,none⟩) (l0.length + 1 - k) dc,.slice (some ⟨vb,0,none⟩) 1 c2]).run Try.prog W1 = .ok (goInt 1) W2) ∧
   Kd.R k58 58 W2 w0.heap.size (fun _=>True) (.slice (some ⟨g,0,none⟩) (l0.length + 1) c0) (l0.take k ++ [y] ++ l0.drop k) ∧ Below w0.heap.size w0 W2:=by
 have hDl : (slices_Insert_Note.cellsOf (l0.drop k)).length = (l0.length - k) * 3:=by rw [slices_Insert_Note.cells_length,List.length_drop]
 have hcl : cur.toList.length = c0 * 3:=by rw [Array.length_toList];exact hg3
 have hlists:=slices_Insert_Note.lists cur.toList (slices_Insert_Note.cellsOf (l0.drop k)) (slices_Insert_Note.cellsOf [y]) k ((l0.length - k) * 3) (by omega) rfl hDl;have ht : cur.toList.take (k * 3) = slices_Insert_Note.cellsOf (l0.take k):=by rw [slices_Insert_Note.cells_take,← hg4,List.take_take,Nat.min_eq_left (by omega)]
 have h1:=fun ty dc sc=>slices_Insert_Note.copy w.drew ty g (k * 3 + 3) (l0.length - k) dc ⟨g,k * 3,none⟩ (l0.length + 1 - k) sc (l0.length - k) cur (slices_Insert_Note.cellsOf (l0.drop k)) hgh (Nat.min_eq_right (by omega)) hDl (fun j v hj=>by rw [slices_Insert_Note.add_lit];exact hgd j v hj) (by rw [hDl];omega) (slices_Insert_Note.cells_one _)
 rw [hDl] at h1
 have hC1l : (cur.toList.take (k * 3 + 3) ++ slices_Insert_Note.cellsOf (l0.drop k) ++ cur.toList.drop (k * 3 + 3 + (l0.length - k) * 3)).length = c0 * 3:=by
  rw [List.length_append,List.length_append,List.length_take,List.length_drop,hDl,hcl,Nat.min_eq_left (by omega)];omega
 generalize cur.toList.take (k * 3 + 3) ++ slices_Insert_Note.cellsOf (l0.drop k) ++ cur.toList.drop (k * 3 + 3 + (l0.length - k) * 3) = C1 at h1 hC1l hlists;have hgh1 : (w.drew.setRow g C1.toArray).heap[g]? = some (.cells C1.toArray 58 (0,0)):=setRow_heap w.drew g cur _ _ _ hgh;have hvc1 : ∀ j v,(slices_Insert_Note.cellsOf [y])[j]? = some v → (w.drew.setRow g C1.toArray).cell? ⟨vb,j,none⟩ = some v:=fun j v hj=>by rw [slices_Insert_Note.far hgv];exact hvc j v hj
 have hB1 : Below w0.heap.size w0 (w.drew.setRow g C1.toArray):=slices_Insert_Note.below (below_drew1 hB) hgb _;have h2:=fun ty dc=>slices_Insert_Note.copy (w.drew.setRow g C1.toArray) ty g (k * 3) (l0.length + 1 - k) dc ⟨vb,0,none⟩ 1 c2 1 C1.toArray (slices_Insert_Note.cellsOf [y]) hgh1 (Nat.min_eq_left (by omega)) rfl (fun j v hj=>by rw [slices_Insert_Note.add_lit,Nat.zero_add];exact hvc1 j v hj) (by rw [List.size_toArray,hC1l];show k * 3 + 3 ≤ _;omega) (slices_Insert_Note.cells_one _)
 have hl2 : (C1.take (k * 3) ++ slices_Insert_Note.cellsOf [y] ++ C1.drop (k * 3 + 3)).length = c0 * 3:=by
  rw [List.length_append,List.length_append,List.length_take,List.length_drop,hC1l,Nat.min_eq_left (by omega)];show k * 3 + 3 + _ = _;omega
 refine ⟨_,_,h1,h2,slices_Insert_Note.mk (setRow_heap _ g C1.toArray _ _ _ hgh1) hgb ?_ hroom hg2 (by rw [List.size_toArray];exact hl2) ?_,slices_Insert_Note.below hB1 hgb _⟩
 ·rw [List.length_append,List.length_append,List.length_take,List.length_drop,List.length_singleton,Nat.min_eq_left (by omega)];omega
 ·rw [show (l0.length + 1) * 3 = k * 3 + 3 + (l0.length - k) * 3 by omega,slices_Insert_Note.cells_append,slices_Insert_Note.cells_append,← ht];exact hlists
theorem slices_Insert_Note.lists2 (R D Y : List Value) (k m : Nat) (hR : (k * 3 + 3) + m ≤ R.length) (hY : Y.length = 3) (hD : D.length = m) : ((R.take (k * 3) ++ Y ++ R.drop (k * 3 + 3)).take (k * 3 + 3) ++ D ++ (R.take (k * 3) ++ Y ++ R.drop (k * 3 + 3)).drop (k * 3 + 3 + m)).take (k * 3 + 3 + m) = R.take (k * 3) ++ Y ++ D:=by
 have h4 : (R.take (k * 3)).length = k * 3:=by rw [List.length_take];omega
 have h5 : (R.take (k * 3) ++ Y).length = k * 3 + 3:=by rw [List.length_append,h4,hY]
 have h6 : (R.take (k * 3) ++ Y ++ R.drop (k * 3 + 3)).take (k * 3 + 3) = R.take (k * 3) ++ Y:=by rw [List.take_append_of_le_length (by omega),List.take_of_length_le (by omega)]
 rw [h6,List.take_append_of_le_length (by rw [List.length_append,h5,hD];omega),List.take_of_length_le (by rw [List.length_append,h5,hD];omega)]
theorem slices_Insert_Note.wk (k n : Nat) (h1 : k ≤ n) (h : (n + 1) * 32 ≤ 140737488355328) : IntKind.i64.wrap ((k : Int) + 1) = (k : Int) + 1:=by rw [IntKind.wrap_i64];omega
theorem slices_Insert_Note.ws (k n : Nat) (h1 : k ≤ n) (h : (n + 1) * 32 ≤ 140737488355328) : wrap64 ((n : Int) + 1 - (k : Int)) = (n : Int) + 1 - (k : Int):=by
 have e : (n : Int) + 1 - (k : Int) = ((n + 1 - k : Nat) : Int):=by omega
 rw [e];have h2 : n + 1 - k ≤ 140737488355328:=by omega
 clear h h1 e;generalize n + 1 - k = q at h2;unfold wrap64;omega
theorem slices_Insert_Note.zlen (m : Nat) : (Builtin.zeroCells ((.agg #[(.int .i64 0),(.int .i64 0),(.string ⟨#[]⟩)]) : Value).cells m).toList.length = m * 3:=by rw [Array.length_toList,size_zeroCells];rfl
theorem slices_Insert_Note.grow (w0 w : World) (g vb k c0 c2 : Nat) (l0 : List S58) (y : S58) (hB : Below w0.heap.size w0 w) (hgw : g < w.heap.size) (hvw : vb < w.heap.size)
  (hvc : ∀ j v,(slices_Insert_Note.cellsOf [y])[j]? = some v → w.cell? ⟨vb,j,none⟩ = some v) (hgc : ∀ j v,(slices_Insert_Note.cellsOf l0)[j]? = some v → w.cell? ⟨g,j,none⟩ = some v) (hk : k < l0.length) (hroom : c0 < l0.length + 1) (hL : (l0.length + 1) * 32 ≤ 140737488355328) :
  ∃ (G : Nat) (W1 W2 W3 : World),l0.length + 1 ≤ G ∧
   (∀ ty,(Builtin.append_ #[30,3] ty #[.slice (some ⟨g,0,none⟩) k c0,.int .i64 ((l0.length : Int) + 1 - (k : Int))]).run Try.prog w = .ok (.slice (some ⟨w.heap.size,0,none⟩) (l0.length + 1) G) W1) ∧
   (∀ ty dc,(Builtin.copy_ #[30,30] ty #[.slice (some ⟨w.heap.size,k * 3,none⟩) (l0.length + 1 - k) dc,.slice (some ⟨vb,0,none⟩) 1 c2]).run Try.prog W1 = .ok (goInt 1) W2) ∧
   (∀ ty dc sc,(Builtin.copy_ #[30,30] ty #[.slice (some ⟨w.heap.size,k * 3 + 3,none⟩) (l0.length - k) dc,.slice (some ⟨g,k * 3,none⟩) (l0.length - k) sc]).run Try.prog W2.drew = .ok (goInt ((l0.length - k : Nat) : Int)) W3) ∧
   Kd.R k58 58 W3 w0.heap.size (fun _=>True) (.slice (some ⟨w.heap.size,0,none⟩) (l0.length + 1) G) (l0.take k ++ [y] ++ l0.drop k) ∧ Below w0.heap.size w0 W3:=by
 obtain ⟨i0,hi0,hz0,hsz0,hzb⟩:=info_parts info58;have hTl : (slices_Insert_Note.cellsOf (l0.take k)).length = k * 3:=by rw [slices_Insert_Note.cells_length,List.length_take,Nat.min_eq_left (by omega)]
 have hDl : (slices_Insert_Note.cellsOf (l0.drop k)).length = (l0.length - k) * 3:=by rw [slices_Insert_Note.cells_length,List.length_drop]
 have hgt : ∀ j v,(slices_Insert_Note.cellsOf (l0.take k))[j]? = some v → w.cell? ⟨g,j,none⟩ = some v:=fun j v hj=>hgc _ _ (by
  rw [slices_Insert_Note.cells_take,List.getElem?_take] at hj
  split at hj
  ·exact hj
  ·cases hj)
 have hgd : ∀ j v,(slices_Insert_Note.cellsOf (l0.drop k))[j]? = some v → w.cell? ⟨g,k * 3 + j,none⟩ = some v:=fun j v hj=>hgc _ _ (by rw [slices_Insert_Note.cells_drop,List.getElem?_drop] at hj;exact hj)
 have hold : (Builtin.firstCells i0.size k (.slice (some ⟨g,0,none⟩) k c0)).run Try.prog w.drew = .ok (slices_Insert_Note.cellsOf (l0.take k)).toArray w.drew :=
  run_firstCells_some w.drew i0.size k ⟨g,0,none⟩ k c0 (slices_Insert_Note.cellsOf (l0.take k)) (by rw [hTl,hsz0]) (fun j v hj=>by rw [slices_Insert_Note.add_lit,Nat.zero_add];exact hgt j v hj)
 have hik : k + (l0.length + 1 - k) = l0.length + 1:=by omega
 have hkk : (l0.length : Int) + 1 - (k : Int) = ((l0.length + 1 - k : Nat) : Int):=by omega
 have hap:=fun ty=>Lib.run_append_grow_zeros w 30 3 ty 58 i0 _ .i64 .i64 Try.underlying30 Try.underlying3 hi0 hz0 (some ⟨g,0,none⟩) k c0 (slices_Insert_Note.cellsOf (l0.take k)) hold (l0.length + 1 - k) (by omega) (by omega) (by omega) (by omega) (by rw [hzb];omega) (by rw [hzb,hik];exact growslice_fits hroom hL)
 rw [hik] at hap;have hGn : l0.length + 1 ≤ grownCap w (l0.length + 1) c0 58:=grownCap_ge w _ _ _;have hGm : grownCap w (l0.length + 1) c0 58 ≤ maxLen:=grownCap_le_maxLen w (l0.length + 1) c0 58 (by unfold maxLen;omega);generalize grownCap w (l0.length + 1) c0 58 = G at hap hGn hGm;obtain ⟨R,hR⟩ : ∃ R : List Value,R = slices_Insert_Note.cellsOf (l0.take k) ++ (Builtin.zeroCells ((.agg #[(.int .i64 0),(.int .i64 0),(.string ⟨#[]⟩)]) : Value).cells (l0.length + 1 - k)).toList ++ (Builtin.zeroCells ((.agg #[(.int .i64 0),(.int .i64 0),(.string ⟨#[]⟩)]) : Value).cells (G - (l0.length + 1))).toList:=⟨_,rfl⟩
 have hRa : (slices_Insert_Note.cellsOf (l0.take k)).toArray ++ Builtin.zeroCells ((.agg #[(.int .i64 0),(.int .i64 0),(.string ⟨#[]⟩)]) : Value).cells (l0.length + 1 - k) ++ Builtin.zeroCells ((.agg #[(.int .i64 0),(.int .i64 0),(.string ⟨#[]⟩)]) : Value).cells (G - (l0.length + 1)) = R.toArray:=by
  rw [hR];simp
 rw [hRa] at hap
 have hRl : R.length = G * 3:=by
  rw [hR,List.length_append,List.length_append,hTl,slices_Insert_Note.zlen,slices_Insert_Note.zlen];omega
 have hRt : R.take (k * 3) = slices_Insert_Note.cellsOf (l0.take k):=by
  rw [hR,List.append_assoc,List.take_append_of_le_length (by omega),List.take_of_length_le (by omega)]
 have hlists:=slices_Insert_Note.lists2 R (slices_Insert_Note.cellsOf (l0.drop k)) (slices_Insert_Note.cellsOf [y]) k ((l0.length - k) * 3) (by omega) rfl hDl;clear hR hRa hold hi0 hz0 hsz0 hzb;have hh1 : (w.drew.alloc (.cells R.toArray 58)).heap[w.heap.size]? = some (.cells R.toArray 58 (0,0)):=heap_alloc_new w.drew _;have hold1 : ∀ b j,b < w.heap.size → (w.drew.alloc (.cells R.toArray 58)).cell? ⟨b,j,none⟩ = w.cell? ⟨b,j,none⟩:=fun b j hb=>World.cell?_of_block (w:=w) (a:=⟨b,j,none⟩) (heap_alloc_old w.drew _ hb)
 have hB1 : Below w0.heap.size w0 (w.drew.alloc (.cells R.toArray 58)):=(below_drew1 hB).alloc hB.size _;generalize w.drew.alloc (.cells R.toArray 58) = W1 at hap hh1 hold1 hB1;have h1:=fun ty dc=>slices_Insert_Note.copy W1 ty w.heap.size (k * 3) (l0.length + 1 - k) dc ⟨vb,0,none⟩ 1 c2 1 R.toArray (slices_Insert_Note.cellsOf [y]) hh1 (Nat.min_eq_left (by omega)) rfl (fun j v hj=>by rw [slices_Insert_Note.add_lit,Nat.zero_add,hold1 _ _ hvw];exact hvc j v hj) (by rw [List.size_toArray,hRl];show k * 3 + 3 ≤ _;omega) (slices_Insert_Note.cells_one _)
 rw [show k * 3 + (slices_Insert_Note.cellsOf [y]).length = k * 3 + 3 from rfl] at h1
 have hC1l : (R.take (k * 3) ++ slices_Insert_Note.cellsOf [y] ++ R.drop (k * 3 + 3)).length = G * 3:=by
  rw [List.length_append,List.length_append,List.length_take,List.length_drop,hRl,Nat.min_eq_left (by omega)];show k * 3 + 3 + _ = _;omega
 simp only [] at h1;generalize R.take (k * 3) ++ slices_Insert_Note.cellsOf [y] ++ R.drop (k * 3 + 3) = C1 at h1 hC1l hlists;have hh2 : (W1.setRow w.heap.size C1.toArray).drew.heap[w.heap.size]? = some (.cells C1.toArray 58 (0,0)):=setRow_heap W1 w.heap.size R.toArray _ _ _ hh1;have hB2 : Below w0.heap.size w0 (W1.setRow w.heap.size C1.toArray):=slices_Insert_Note.below hB1 hB.size _
 have h2:=fun ty dc sc=>slices_Insert_Note.copy (W1.setRow w.heap.size C1.toArray).drew ty w.heap.size (k * 3 + 3) (l0.length - k) dc ⟨g,k * 3,none⟩ (l0.length - k) sc (l0.length - k) C1.toArray (slices_Insert_Note.cellsOf (l0.drop k)) hh2 (Nat.min_eq_left (Nat.le_refl _)) hDl (fun j v hj=>by
  rw [slices_Insert_Note.add_lit];show (W1.setRow w.heap.size C1.toArray).cell? _ = _;rw [slices_Insert_Note.far (by omega),hold1 _ _ hgw];exact hgd j v hj) (by rw [List.size_toArray,hC1l,hDl];omega) (slices_Insert_Note.cells_one _)
 rw [hDl] at h2;refine ⟨G,W1,_,_,hGn,fun ty=>?_,h1,h2,slices_Insert_Note.mk (setRow_heap _ w.heap.size C1.toArray _ _ _ hh2) hB.size ?_ hGn hGm ?_ ?_,slices_Insert_Note.below (below_drew1 hB2) hB.size _⟩
 ·rw [hkk];exact hap ty
 ·rw [List.length_append,List.length_append,List.length_take,List.length_drop,List.length_singleton,Nat.min_eq_left (by omega)];omega
 ·rw [List.size_toArray,List.length_append,List.length_append,List.length_take,List.length_drop,hC1l,hDl,Nat.min_eq_left (by omega)];omega
 ·rw [show (l0.length + 1) * 3 = k * 3 + 3 + (l0.length - k) * 3 by omega,slices_Insert_Note.cells_append,slices_Insert_Note.cells_append,← hRt];exact hlists
def slices_Insert_Note.f (l0 : List S58) (a1 : Int) (l2 : List S58) : Option (List S58):=if 0 ≤ a1 ∧ a1 ≤ (l0.length : Int) ∧ l2.length = 1 ∧ (l0.length + 1) * 32 ≤ 140737488355328 then some (l0.take a1.toNat ++ l2 ++ l0.drop a1.toNat) else none
set_option maxHeartbeats 8000000 in
set_option maxRecDepth 100000 in
theorem slices_Insert_Note.own (A0 : Option Addr) (c0 : Nat) (l0 : List S58) (a1 : Int) (A2 : Option Addr) (c2 : Nat) (l2 : List S58) (r1 : List S58) (w0 w : World) (hB : Below w0.heap.size w0 w) (hr0 : Kd.R k58 58 w w0.heap.size (fun _=>True) (.slice A0 l0.length c0) l0) (hr2 : Kd.R k58 58 w w0.heap.size (fun _=>True) (.slice A2 l2.length c2) l2) (hne : ∀ k,(Value.slice A0 l0.length c0).ownBlock = some k → (Value.slice A2 l2.length c2).ownBlock ≠ some k) (h : slices_Insert_Note.f l0 a1 l2 = some r1) :
  Calls Try.prog 144 #[.slice A0 l0.length c0,.int .i64 a1,.slice A2 l2.length c2] w fun e w' => ∃ v0_ : Value,e = .returned v0_ ∧ Kd.R k58 58 w' w0.heap.size (fun _=>True) v0_ r1 ∧ Below w0.heap.size w0 w' := by
 unfold slices_Insert_Note.f at h
 split at h
 rotate_left
 ·exact absurd h (by simp)
 rename_i hc;obtain rfl:=Option.some.inj h;clear h;obtain ⟨p1,p2,hl2,hL⟩:=hc;obtain ⟨y,rfl⟩:=List.length_eq_one_iff.1 hl2;obtain ⟨k,rfl⟩ : ∃ k : Nat,a1 = (k : Int):=⟨a1.toNat,by omega⟩;rw [Int.toNat_natCast];obtain ⟨vb,vcur,rfl,hvb,hvh,hv1,hv2,hv3,hv4⟩:=slices_Insert_Note.form hr2 (by simp);have hcc:=(Kd.R_reads' hr0).2.1;have hvr:=(Kd.R_reads' hr2).2.2;have hreg:=MReg.here;clear hreg;simp only [List.length_cons,List.length_nil,Nat.zero_add] at hr2 hne hv1 hv4 hvr ⊢;obtain ⟨i0,hi0,hz0,hsz0,_⟩:=info_parts info58;obtain ⟨VA,hcutA⟩ : ∃ VA,∀ W,(Instr.slice 30 (.slice A0 l0.length c0) (some (.int .i64 (k : Int))) none none).run Try.prog W = .ok VA W:=⟨_,cut_from (P:=Try.prog) 30 58 .i64 Try.underlying30 hi0 _ hsz0 A0 l0.length c0 (k : Int) p1 p2⟩;by_cases hk : k = l0.length
 ·subst hk;have b1 : ((l0.length : Int) == (l0.length : Int)) = true:=by simp
  have HO:=Aside0.mk hr0;have HB:=Aside0.mk hB;have HV:=Aside0.mk hvr;have HL:=Aside0.mk hL;clear hr0 hr2 hne hB hvh hv1 hv2 hv3 hv4 hvr hL hcc hi0 hz0 hsz0 p1 p2;go_enter Try.func144,Try.ntmps144
  go_wp2_with (at_builtin;refine Kd.R_append_rows k58 (w0:=w0) w0.heap.size rfl (.tmp 23) (.tmp 24) 30 58 ((.agg #[(.int .i64 0),(.int .i64 0),(.string ⟨#[]⟩)])) 32 rfl Try.underlying30 info58 rfl (by decide) (by omega) (.slice A0 l0.length c0) l0 [y] _ _ _ (fun _=>True) (fun _=>False) rfl rfl HO.out HV.out (fun _ _ h=>h) (fun _ h=>h.elim) (fun _ _=>trivial) HB.out HB.out.size HL.out ?_)
  intro v1 w1 ho hb hx1 hx2;clear hx1 hx2;have HO1:=Aside0.mk ho;have HB1:=Aside0.mk hb;clear ho hb HO HB;go_wp2;go_ret;exact ⟨_,rfl,by rw [List.take_length,List.drop_length,List.append_nil];exact HO1.out,HB1.out⟩
 ·have b1 : ((k : Int) == (l0.length : Int)) = false:=by simp;omega
  obtain ⟨g,cur,rfl,hgb,hgh,hg1,hg2,hg3,hg4⟩:=slices_Insert_Note.form hr0 (by omega);have HCUT:=Aside0.mk hcutA;have HG2:=Aside0.mk hg2;have HV2:=Aside0.mk hv2;have HLL:=Aside0.mk hL;have HVR:=Aside0.mk hvr;have HR0:=Aside0.mk hr0;have HBB:=Aside0.mk hB;have HI:=Aside0.mk (show (Try.prog.info? 58 = some i0) ∧ i0.size = 3 from ⟨hi0,hsz0⟩);clear hcutA hg2 hv2 hL hvr hr0 hB hr2 hi0 hsz0
  have hgv : g ≠ vb:=by
   intro e;exact hne g rfl (by rw [e];rfl)
  have hY : slices_Insert_Note.cellsOf [y] = [.int .i64 y.f0,.int .i64 y.f1,.string y.f2]:=rfl;have hDl : (slices_Insert_Note.cellsOf (l0.drop k)).length = (l0.length - k) * 3:=by rw [slices_Insert_Note.cells_length,List.length_drop]
  have hTl : (slices_Insert_Note.cellsOf (l0.take k)).length = k * 3:=by rw [slices_Insert_Note.cells_length,List.length_take,Nat.min_eq_left (by omega)]
  -- what the two blocks hold
  have hvc : ∀ j v,(slices_Insert_Note.cellsOf [y])[j]? = some v → w.cell? ⟨vb,j,none⟩ = some v:=fun j v hj=>by
   have hlt : j < 3:=(List.getElem?_eq_some_iff.1 hj).1;rw [← hv4,List.getElem?_take,if_pos (by omega),Array.getElem?_toList] at hj;have hlt2:=(Array.getElem?_eq_some_iff.1 hj).1;simp only [World.cell?,hvh]
   simpa using hj
  have hgc : ∀ j v,(slices_Insert_Note.cellsOf l0)[j]? = some v → w.cell? ⟨g,j,none⟩ = some v:=fun j v hj=>by
   have hlt : j < l0.length * 3:=by have:=(List.getElem?_eq_some_iff.1 hj).1;rwa [slices_Insert_Note.cells_length] at this
   rw [← hg4,List.getElem?_take,if_pos hlt,Array.getElem?_toList] at hj;simp only [World.cell?,hgh]
   simpa using hj
  have hkl : k < l0.length:=by omega
  have hgd : ∀ j v,(slices_Insert_Note.cellsOf (l0.drop k))[j]? = some v → w.cell? ⟨g,k * 3 + j,none⟩ = some v:=fun j v hj=>hgc _ _ (by rw [slices_Insert_Note.cells_drop,List.getElem?_drop] at hj;exact hj)
  have HW1:=Aside0.mk (show wrap64 ((l0.length : Int) + 1) = (l0.length : Int) + 1 by have:=HLL.out;unfold wrap64;omega);have HWK:=Aside0.mk (show wrap64 ((k : Int) + 1) = (k : Int) + 1 by have:=HLL.out;unfold wrap64;omega);have hins:=@MIns.list_copy Try.prog;clear hins;by_cases hroom : l0.length + 1 ≤ c0
  ·have hcutC:=slices_Insert_Note.cut_up (some ⟨g,0,none⟩) l0.length c0 ((l0.length : Int) + 1) (by omega) (by omega);have hcutD:=cut_from (P:=Try.prog) 30 58 .i64 Try.underlying30 HI.out.1 _ HI.out.2 (some ⟨g,0,none⟩) (l0.length + 1) c0 ((k : Int) + 1) (by omega) (by omega);have hcutE:=cut_from (P:=Try.prog) 30 58 .i64 Try.underlying30 HI.out.1 _ HI.out.2 (some ⟨g,0,none⟩) (l0.length + 1) c0 (k : Int) (by omega) (by omega);rw [show ((l0.length : Int) + 1).toNat = l0.length + 1 by omega] at hcutC;rw [show ((k : Int) + 1).toNat = k + 1 by omega,if_neg (show ¬ c0 = k + 1 by omega),Option.map_some,slices_Insert_Note.add_lit,show 0 + (k + 1) * 3 = k * 3 + 3 by omega,show l0.length + 1 - (k + 1) = l0.length - k by omega] at hcutD;rw [Int.toNat_natCast,if_neg (show ¬ c0 = k by omega),Option.map_some,slices_Insert_Note.add_lit,Nat.zero_add] at hcutE;obtain ⟨W1,W2,hcp1,hcp2,hR2,hB2⟩:=slices_Insert_Note.room w0 w g vb k c0 c2 l0 y cur HBB.out hgb hgh HG2.out hg3 hg4 hgv hvc hgd (by omega) hroom;have HMK:=Aside0.mk hR2;have HB2:=Aside0.mk hB2
   have hov : ∀ lb cb,(callFunc 228 #[.slice (some ⟨vb,0,none⟩) 1 c2,.slice (some ⟨g,k * 3 + 3,none⟩) lb cb]).run Try.prog w = .ok (.value (.bool false)) w:=fun lb cb=>by
    rw [run_callFunc_extern Try.func228 (by kernel_rfl) (by kernel_rfl) (by kernel_rfl) (e:=Extern.SlicesOverlaps.overlaps #[30,30] #[4]) (by kernel_rfl),
     Lib.run_overlaps_apart w 30 4 58 Try.underlying30 3 (fun W=>by simp [sizeOf,typeInfo,HI.out.1,HI.out.2,Result.andThen]) ⟨vb,0,none⟩ ⟨g,k * 3 + 3,none⟩ 1 c2 lb cb (fun e=>hgv e.symm) 58 58 vcur.size cur.size (by simp [World.shape?,hvh]) (by simp [World.shape?,hgh]) (by omega) (by simp [World.frozen?,hvh]) (by simp [World.frozen?,hvh])]
    rfl
   have b2 : decide ((c0 : Int) < (l0.length : Int) + 1) = false:=decide_eq_false (by omega);have hw1:=HW1.out;have hwk:=HWK.out;have hwk2 : IntKind.i64.wrap ((k : Int) + 1) = (k : Int) + 1:=slices_Insert_Note.wk k l0.length (Nat.le_of_lt hkl) HLL.out;have mixed : (Try.prog).follows Departure.mixedOrders = true:=by kernel_rfl
   have hkn : (k : Int) ≤ (l0.length : Int):=by omega
   have hk0 : (0 : Int) ≤ (k : Int):=by omega
   have hcutA:=HCUT.out;clear hR2 hB2 hvc hgc hgd hDl hTl hY hgv hvh hv1 hv3 hv4 hgh hg1 hg3 hg4 hvb hgb hcc hroom hk hl2 p1 p2 HI HG2 HV2 HLL HVR HR0 HBB HW1 HWK HCUT hkl;go_enter Try.func144,Try.ntmps144
   go_wp2_with (simp only [hov])
   go_region_law_o (refine MIns.step_copy rfl _ _ 30 30 rfl (by simp [Act.eval,Act.put]) (by simp [Act.eval,Act.put]) (hcp1 _ _ _) ?_)
   go_wp2_with (at_builtin;refine MIns.list_copy _ rfl _ _ 30 30 rfl rfl rfl (hcp2 _ _) ?_)
   go_ret;exact ⟨_,rfl,HMK.out,HB2.out⟩
  ·have hgw : g < w.heap.size:=(Array.getElem?_eq_some_iff.1 hgh).1;have hvw : vb < w.heap.size:=(Array.getElem?_eq_some_iff.1 hvh).1;obtain ⟨G,W1,W2,W3,hG,hap,hcp1,hcp2,hR3,hB3⟩:=slices_Insert_Note.grow w0 w g vb k c0 c2 l0 y HBB.out hgw hvw hvc hgc hkl (by omega) HLL.out;have hcutC:=cut_to (P:=Try.prog) 30 58 .i64 Try.underlying30 HI.out.1 (some ⟨g,0,none⟩) l0.length c0 (k : Int) (by omega) (by omega) hcc;have hcutD:=cut_from (P:=Try.prog) 30 58 .i64 Try.underlying30 HI.out.1 _ HI.out.2 (some ⟨w.heap.size,0,none⟩) (l0.length + 1) G (k : Int) (by omega) (by omega);have hcutE:=cut_from (P:=Try.prog) 30 58 .i64 Try.underlying30 HI.out.1 _ HI.out.2 (some ⟨w.heap.size,0,none⟩) (l0.length + 1) G ((k : Int) + 1) (by omega) (by omega);have hcutF:=cut_from (P:=Try.prog) 30 58 .i64 Try.underlying30 HI.out.1 _ HI.out.2 (some ⟨g,0,none⟩) l0.length c0 (k : Int) (by omega) (by omega);rw [Int.toNat_natCast] at hcutC;rw [Int.toNat_natCast,if_neg (show ¬ G = k by omega),Option.map_some,slices_Insert_Note.add_lit,Nat.zero_add] at hcutD;rw [show ((k : Int) + 1).toNat = k + 1 by omega,if_neg (show ¬ G = k + 1 by omega),Option.map_some,slices_Insert_Note.add_lit,show 0 + (k + 1) * 3 = k * 3 + 3 by omega,show l0.length + 1 - (k + 1) = l0.length - k by omega] at hcutE;rw [Int.toNat_natCast,if_neg (show ¬ c0 = k by omega),Option.map_some,slices_Insert_Note.add_lit,Nat.zero_add] at hcutF;have HMK:=Aside0.mk hR3;have HB2:=Aside0.mk hB3;have b2 : decide ((c0 : Int) < (l0.length : Int) + 1) = true:=decide_eq_true (by omega);have hw1:=HW1.out;have hwk:=HWK.out;have hwk2 : IntKind.i64.wrap ((k : Int) + 1) = (k : Int) + 1:=slices_Insert_Note.wk k l0.length (Nat.le_of_lt hkl) HLL.out;have hws : wrap64 ((l0.length : Int) + 1 - (k : Int)) = (l0.length : Int) + 1 - (k : Int):=slices_Insert_Note.ws k l0.length (Nat.le_of_lt hkl) HLL.out;have mixed : (Try.prog).follows Departure.mixedOrders = true:=by kernel_rfl
   have hkn : (k : Int) ≤ (l0.length : Int):=by omega
   have hk0 : (0 : Int) ≤ (k : Int):=by omega
   have hcutA:=HCUT.out;clear hR3 hB3 hvc hgc hgd hDl hTl hY hgv hvh hv1 hv3 hv4 hgh hg1 hg3 hg4 hvb hgb hcc hroom hk hl2 p1 p2 HI HG2 HV2 HLL HVR HR0 HBB HW1 HWK HCUT hkl hgw hvw hG;go_enter Try.func144,Try.ntmps144
   go_wp2_with (first | (at_builtin;refine Lib.wpList_append_run _ rfl (.tmp 34) (.tmp 39) 30 3 rfl (.slice (some ⟨g,0,none⟩) k c0) (.int .i64 ((l0.length : Int) + 1 - (k : Int))) rfl (by show Value.int .i64 (wrap64 ((l0.length : Int) + 1 - (k : Int))) = _;rw [hws]) (.slice (some ⟨w.heap.size,0,none⟩) (l0.length + 1) G) W1 (hap _) ?_) | (at_builtin;refine MIns.list_copy _ rfl _ _ 30 30 rfl rfl rfl (hcp1 _ _) ?_))
   go_region_law_o (refine MIns.step_copy rfl _ _ 30 30 rfl (by simp [Act.eval,Act.put]) (by simp [Act.eval,Act.put]) (hcp2 _ _ _) ?_)
   go_wp2;go_ret;exact ⟨_,rfl,HMK.out,HB2.out⟩
end Go.Proofs.Ytgapcmmhbegdeaa.G
