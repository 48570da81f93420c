/- ParseTier of the program returns what that of the reference returns, for every text: both answer with a tier if the text is that tier's text, and with nothing else. -/
import Derived.Test.YtpdcopbnhaoilaaDoorG27
import Derived.Test.YtpdcopbnhaoilaaDoorG28
import Derived.Test.YtpdcopbnhaoilaaDoorG31
import Derived.Test.YtpdcopbnhaoilaaDoorG32
import Derived.Test.YtpdcopbnhaoilaaDoorMAll
namespace Go.Proofs.YtpdcopbnhaoilaaDoor.Pure
open Go.RowKit Go.Proofs.YtpdcopbnhaoilaaDoor.G Go.Proofs.YtpdcopbnhaoilaaDoorW.PrintWords Go.Proofs.YtpdcopbnhaoilaaDoorW.PrintLast Go.Proofs.YtpdcopbnhaoilaaDoor.MPure Go.Proofs.YtpdcopbnhaoilaaDoor.MWord Go.Proofs.YtpdcopbnhaoilaaDoor.MNum Go.Proofs.YtpdcopbnhaoilaaDoor.MNote Go.Proofs.YtpdcopbnhaoilaaDoor.MTierT Go.Proofs.YtpdcopbnhaoilaaDoor.MSeq Go.Proofs.YtpdcopbnhaoilaaDoor.MSplit Go.Proofs.YtpdcopbnhaoilaaDoor.MMarkN

/-! ### a note's text -/
def times (x : NI) : List UInt8 := Lib.itoa x.f0 ++ 45 :: Lib.itoa x.f1
def body (x : NI) : List UInt8 := times x ++ 32 :: x.f2.data.toList
def piecL (x : NI) : List UInt8 := body x ++ [59]
theorem piece_list (x : NI) : (piece x).data.toList = piecL x := by
  unfold piece piecL body times num
  simp [ByteArray.data_append]
theorem text_list : ∀ (l : List NI) (s : ByteArray), (tailT s l).data.toList = s.data.toList ++ (l.map piecL).flatten
  | [], s => by
    rw [List.map_nil, List.flatten_nil, List.append_nil]
    rfl
  | x :: l, s => by
    show (tailT (s ++ piece x) l).data.toList = _
    rw [text_list l, List.map_cons, List.flatten_cons, ByteArray.data_append, Array.toList_append, piece_list, List.append_assoc]
theorem tier_list (l : List NI) : (tierT l).data.toList = (l.map piecL).flatten := text_list l _
theorem tier_notes {l : List NI} (h : tierB l = true) : ∀ x, x ∈ l → noteB x.f0 x.f1 x.f2 = true := by
  intro x hx
  obtain ⟨i, hi, rfl⟩ := List.mem_iff_getElem.1 hx
  have := tier_note h hi
  have e : atN l i = l[i] := by
    unfold atN
    rw [List.getD_eq_getElem?_getD, List.getElem?_eq_getElem hi]
    rfl
  rwa [e] at this
theorem itoa_byte {n : Int} (h0 : 0 ≤ n) {b : UInt8} (h : b ∈ Lib.itoa n) : 48 ≤ b.toNat ∧ b.toNat ≤ 57 := by
  obtain ⟨u, rfl⟩ := Int.eq_ofNat_of_zero_le h0
  rw [itoa_nat] at h
  exact digits_byte h
theorem itoa_size {n : Int} (h0 : 0 ≤ n) (h1 : n < 1000000) : (Lib.itoa n).length ≤ 6 := num_size n h0 h1
theorem gloss_byte {g : ByteArray} (h : wordB capB g = true) {b : UInt8} (hb : b ∈ g.data.toList) : 65 ≤ b.toNat ∧ b.toNat ≤ 90 := by
  obtain ⟨i, hi, rfl⟩ := List.mem_iff_getElem.1 hb
  unfold wordB at h
  have h2 := List.all_eq_true.1 (Bool.and_eq_true_iff.1 h).1 i (List.mem_range.2 (by rw [← size_list]; exact hi))
  rw [bt_byte g i hi] at h2
  have := of_decide_eq_true h2
  omega
theorem note_word {f t : Int} {g : ByteArray} (h : noteB f t g = true) : wordB capB g = true := by
  unfold noteB at h
  exact (Bool.and_eq_true_iff.1 h).2
theorem times_byte {x : NI} (h : noteB x.f0 x.f1 x.f2 = true) {b : UInt8} (hb : b ∈ times x) : 45 ≤ b.toNat ∧ b.toNat ≤ 57 := by
  obtain ⟨⟨a0, _⟩, ⟨b0, _⟩, _⟩ := note_says h
  unfold times at hb
  rcases List.mem_append.1 hb with hb | hb
  · have := itoa_byte a0 hb
    omega
  · rcases List.mem_cons.1 hb with rfl | hb
    · decide
    · have := itoa_byte b0 hb
      omega
theorem no_32 {x : NI} (h : noteB x.f0 x.f1 x.f2 = true) : (32 : UInt8) ∉ times x := fun hb => absurd (times_byte h hb).1 (by decide)
theorem no_45 {n : Int} (h : 0 ≤ n) : (45 : UInt8) ∉ Lib.itoa n := fun hb => absurd (itoa_byte h hb).1 (by decide)
theorem no_59 {x : NI} (h : noteB x.f0 x.f1 x.f2 = true) : (59 : UInt8) ∉ body x := by
  intro hb
  rcases List.mem_append.1 hb with hb | hb
  · exact absurd (times_byte h hb).2 (by decide)
  · rcases List.mem_cons.1 hb with hb | hb
    · exact absurd hb (by decide)
    · exact absurd (gloss_byte (note_word h) hb).1 (by decide)
theorem no_32g {x : NI} (h : noteB x.f0 x.f1 x.f2 = true) : (32 : UInt8) ∉ x.f2.data.toList := fun hb => absurd (gloss_byte (note_word h) hb).1 (by decide)
theorem cuts_text : ∀ l : List NI, (∀ x, x ∈ l → noteB x.f0 x.f1 x.f2 = true) → cuts 59 [] (l.map piecL).flatten = l.map piecL ++ [[]]
  | [], _ => rfl
  | x :: l, h => by
    rw [List.map_cons, List.flatten_cons]
    unfold piecL
    rw [List.append_assoc, List.singleton_append, cuts_app _ _ _ (no_59 (h x (List.mem_cons_self ..)))]
    exact congrArg _ (cuts_text l (fun y hy => h y (List.mem_cons_of_mem _ hy)))
theorem cutsS_text : ∀ l : List NI, (∀ x, x ∈ l → noteB x.f0 x.f1 x.f2 = true) → cutsS 59 [] (l.map piecL).flatten = l.map body ++ [[]]
  | [], _ => rfl
  | x :: l, h => by
    rw [List.map_cons, List.flatten_cons]
    unfold piecL
    rw [List.append_assoc, List.singleton_append, cutsS_app _ _ _ (no_59 (h x (List.mem_cons_self ..)))]
    exact congrArg _ (cutsS_text l (fun y hy => h y (List.mem_cons_of_mem _ hy)))

/-! ### the program's one -/
theorem note_any (x : ByteArray) (hs : x.size ≤ 1048576) : ∃ n, impl_ParseTier.note x = some n ∧ n.f2.size ≤ x.size := by
  obtain ⟨t, ht, zt⟩ := trim_any x hs
  obtain ⟨c, hc, zc, zg⟩ := cut_any t 32 (by omega)
  obtain ⟨d, hd, zd, ze⟩ := cut_any c.1 45 (by omega)
  obtain ⟨p, hp⟩ := decimal_any d.1 (by omega)
  obtain ⟨q, hq⟩ := decimal_any d.2.1 (by omega)
  refine ⟨⟨p.1, q.1, c.2.1⟩, ?_, Nat.le_trans zg zt⟩
  unfold impl_ParseTier.note
  rw [ht]
  show (strings_Cut.f t ⟨#[32]⟩).bind _ = _
  rw [hc]
  show (strings_Cut.f c.1 ⟨#[45]⟩).bind _ = _
  rw [hd]
  show (impl_decimal.f d.1).bind _ = _
  rw [hp]
  show (impl_decimal.f d.2.1).bind _ = _
  rw [hq]
  rfl
theorem body_size {x : NI} (h : noteB x.f0 x.f1 x.f2 = true) : (times x).length ≤ 13 ∧ x.f2.data.toList.length ≤ 8 ∧ (body x).length ≤ 22 := by
  obtain ⟨⟨a0, a1⟩, ⟨b0, b1⟩, c⟩ := note_says h
  have ha := itoa_size a0 a1
  have hb := itoa_size b0 b1
  have hg : x.f2.data.toList.length ≤ 8 := by rw [size_list]; exact c
  have ht : (times x).length ≤ 13 := by
    unfold times
    rw [List.length_append, List.length_cons]
    omega
  refine ⟨ht, hg, ?_⟩
  unfold body
  rw [List.length_append, List.length_cons]
  omega
theorem note_at {x : NI} (h : noteB x.f0 x.f1 x.f2 = true) : impl_ParseTier.note (MSeq.bytes (piecL x)) = some x := by
  obtain ⟨⟨a0, a1⟩, ⟨b0, b1⟩, c⟩ := note_says h
  obtain ⟨z1, z2, z3⟩ := body_size h
  have ha := itoa_size a0 a1
  have hb := itoa_size b0 b1
  have ht : strings_TrimSuffix.f (MSeq.bytes (piecL x)) ⟨#[59]⟩ = some (MSeq.bytes (body x)) := trim_at (body x) (by omega)
  have hc : strings_Cut.f (MSeq.bytes (body x)) ⟨#[32]⟩ = some (MSeq.bytes (times x), MSeq.bytes x.f2.data.toList, true) := cut_at (times x) x.f2.data.toList 32 (no_32 h) (by omega)
  have hd : strings_Cut.f (MSeq.bytes (times x)) ⟨#[45]⟩ = some (num x.f0, num x.f1, true) := cut_at (Lib.itoa x.f0) (Lib.itoa x.f1) 45 (no_45 a0) (by omega)
  unfold impl_ParseTier.note
  rw [ht]
  show (strings_Cut.f (MSeq.bytes (body x)) ⟨#[32]⟩).bind _ = _
  rw [hc]
  show (strings_Cut.f (MSeq.bytes (times x)) ⟨#[45]⟩).bind _ = _
  rw [hd]
  show (impl_decimal.f (num x.f0)).bind _ = _
  rw [decimal_num _ a0 a1]
  show (impl_decimal.f (num x.f1)).bind _ = _
  rw [decimal_num _ b0 b1, bytes_at]
  rfl
theorem outs_any (M : Nat) (hM : M ≤ 1048576) : ∀ (xs : List ByteArray) (out : List NI), (∀ x, x ∈ xs → x.size ≤ M) → out.length ≤ 41 → (∀ n, n ∈ out → n.f2.size ≤ M) → ∃ o, impl_ParseTier.outs out xs = some o ∧ o.length ≤ 41 ∧ ∀ n, n ∈ o → n.f2.size ≤ M
  | [], out, _, hl, ho => ⟨out, rfl, hl, ho⟩
  | x :: xs, out, hx, hl, ho => by
    rw [impl_ParseTier.outs, impl_ParseTier.step]
    by_cases h : x.toList = [] ∨ 40 < out.length
    · rw [if_pos h]
      exact outs_any M hM xs out (fun y hy => hx y (List.mem_cons_of_mem _ hy)) hl ho
    · rw [if_neg h]
      have hz := hx x (List.mem_cons_self ..)
      obtain ⟨n, hn, zn⟩ := note_any x (by omega)
      rw [hn]
      refine outs_any M hM xs (out ++ [n]) (fun y hy => hx y (List.mem_cons_of_mem _ hy)) ?_ ?_
      · rw [List.length_append, List.length_singleton]
        omega
      · intro y hy
        rcases List.mem_append.1 hy with hy | hy
        · exact ho y hy
        · rw [List.mem_singleton.1 hy]
          omega
theorem outs_at : ∀ (l o : List NI), (∀ x, x ∈ l → noteB x.f0 x.f1 x.f2 = true) → o.length + l.length ≤ 40 → impl_ParseTier.outs o ((l.map piecL ++ [[]]).map MSeq.bytes) = some (o ++ l)
  | [], o, _, _ => by
    show (impl_ParseTier.step o (MSeq.bytes [])).bind _ = _
    rw [impl_ParseTier.step, if_pos (Or.inl (by rw [ByteArray.toList_eq]; rfl)), List.append_nil]
    rfl
  | x :: l, o, h, hl => by
    have hx := h x (List.mem_cons_self ..)
    rw [List.length_cons] at hl
    show (impl_ParseTier.step o (MSeq.bytes (piecL x))).bind (fun q => impl_ParseTier.outs q ((l.map piecL ++ [[]]).map MSeq.bytes)) = _
    rw [impl_ParseTier.step, if_neg ?_, note_at hx]
    · show impl_ParseTier.outs (o ++ [x]) ((l.map piecL ++ [[]]).map MSeq.bytes) = _
      rw [outs_at l (o ++ [x]) (fun y hy => h y (List.mem_cons_of_mem _ hy)) (by rw [List.length_append, List.length_singleton]; omega), List.append_assoc]
      rfl
    · rintro (h2 | h2)
      · rw [ByteArray.toList_eq, bytes_list] at h2
        unfold piecL at h2
        simp at h2
      · omega
/-- What ParseTier answers: the tier whose text it is, or nothing. -/
theorem impl_yes {l : List NI} {s : ByteArray} (hs : s.size ≤ 1048576) (h : tierB l = true) (ht : tierT l = s) : Ev (fun k => impl_ParseTier.f k s) (l, true) := by
  have h40 := tier_40 h
  have hn := tier_notes h
  have hz : Sized l := ⟨by omega, fun x hx => by have := (note_says (hn x hx)).2.2; omega⟩
  have ho : impl_ParseTier.outs [] (MSeq.parts s) = some l := by
    unfold MSeq.parts
    rw [← ht, tier_list, cuts_text l hn]
    exact outs_at l [] hn (by rw [List.length_nil]; omega)
  unfold impl_ParseTier.f
  refine Ev.pos (by omega) (Ev.have ho (Ev.bind (IsTier_ l hz) (Ev.pos h (Ev.bind (text_loops l h l.length 0 (by omega) ⟨#[]⟩ (Nat.le_refl _)).2 (Ev.pos ?_ (Ev.some rfl))))))
  exact congrArg ByteArray.toList ht
theorem impl_no {s : ByteArray} (hs : s.size ≤ 1048576) (hno : ∀ l, tierB l = true → tierT l ≠ s) : Ev (fun k => impl_ParseTier.f k s) (([] : List NI), false) := by
  obtain ⟨o, ho, hl, hg⟩ := outs_any s.size hs (MSeq.parts s) [] (fun x hx => by
    obtain ⟨y, hy, rfl⟩ := List.mem_map.1 hx
    have := cuts_mem _ _ _ _ hy
    rw [List.length_nil, size_list] at this
    rw [bytes_size]
    omega) (Nat.zero_le _) (fun n hn => nomatch hn)
  have hz : Sized o := ⟨by omega, fun x hx => by have := hg x hx; omega⟩
  unfold impl_ParseTier.f
  refine Ev.pos (by omega) (Ev.have ho (Ev.bind (IsTier_ o hz) (Ev.ite (fun h => ?_) (fun _ => Ev.some rfl))))
  refine Ev.bind (text_loops o h o.length 0 (by omega) ⟨#[]⟩ (Nat.le_refl _)).2 (Ev.neg ?_ (Ev.some rfl))
  intro e
  apply hno o h
  rw [ByteArray.toList_eq, ByteArray.toList_eq] at e
  have := congrArg MSeq.bytes e
  rw [bytes_at, bytes_at] at this
  exact this

/-! ### the reference's one -/
theorem rd_of {α : Type} (d : α) (l : List α) (i : Nat) (h : i < l.length) : rdOf d l (i : Int) = l[i] := by
  show l.getD i d = _
  rw [List.getD_eq_getElem?_getD, List.getElem?_eq_getElem h]
  rfl
theorem split_mem {s : ByteArray} {c : UInt8} {x : ByteArray} (h : x ∈ (cutsS c [] s.data.toList).map MSeq.bytes) : x.size ≤ s.size := by
  obtain ⟨y, hy, rfl⟩ := List.mem_map.1 h
  have := cutsS_mem _ _ _ _ hy
  rw [List.length_nil, size_list] at this
  rw [bytes_size]
  omega
theorem spec_end_no (s : ByteArray) (hno : ∀ l, tierB l = true → tierT l ≠ s) (o : List NI) (hz : Sized o) (ys : List ByteArray) (i : Nat) (hi : ys.length ≤ i) : Ev (fun k => spec_ParseTier.l0 k s o ys (ys.length : Int) (i : Int)) (([] : List NI), false) := by
  refine Ev.step (fun _ => spec_ParseTier.l0.eq_2 ..) (Ev.neg (by omega) (Ev.bind (tiGood_ o hz) (Ev.ite (fun h => ?_) (fun _ => Ev.some rfl))))
  refine Ev.bind (text_loops o h o.length 0 (by omega) ⟨#[]⟩ (Nat.le_refl _)).1 (Ev.neg ?_ (Ev.some rfl))
  intro e
  apply hno o h
  rw [ByteArray.toList_eq, ByteArray.toList_eq] at e
  have := congrArg MSeq.bytes e
  rw [bytes_at, bytes_at] at this
  exact this
theorem spec_loop_no (s : ByteArray) (hno : ∀ l, tierB l = true → tierT l ≠ s) (ys : List ByteArray) (hys : ys.length ≤ 41) (hm : ∀ y, y ∈ ys → y.size ≤ 1048576) : ∀ d i : Nat, i + d = ys.length → ∀ o : List NI, o.length ≤ i → (∀ n, n ∈ o → n.f2.size ≤ 1048576) →
    Ev (fun k => spec_ParseTier.l0 k s o ys (ys.length : Int) (i : Int)) (([] : List NI), false) := by
  intro d
  induction d with
  | zero =>
    intro i hi o ho hg
    exact spec_end_no s hno o ⟨by omega, fun x hx => by have := hg x hx; omega⟩ ys i (by omega)
  | succ d ih =>
    intro i hi o ho hg
    have hy := rd_of ByteArray.empty ys i (by omega)
    have hyz := hm _ (List.getElem_mem (by omega : i < ys.length))
    rw [← hy] at hyz
    generalize hye : rdOf ByteArray.empty ys (i : Int) = y at hy hyz
    have h1 := split_ y hyz 32 32 rfl
    generalize hw : (cutsS 32 [] y.data.toList).map MSeq.bytes = w at h1
    have hw0 : 0 < w.length := by rw [← hw, List.length_map]; exact cutsS_ne _ _ _
    have hwm : ∀ x, x ∈ w → x.size ≤ 1048576 := fun x hx => by
      rw [← hw] at hx
      exact Nat.le_trans (split_mem hx) hyz
    have hz0 : (rdOf ByteArray.empty w ((0 : Nat) : Int)).size ≤ 1048576 := by
      rw [rd_of _ w 0 hw0]
      exact hwm _ (List.getElem_mem hw0)
    have h2 := split_ _ hz0 45 45 rfl
    generalize hv : (cutsS 45 [] (rdOf ByteArray.empty w ((0 : Nat) : Int)).data.toList).map MSeq.bytes = v at h2
    have hvm : ∀ x, x ∈ v → x.size ≤ 1048576 := fun x hx => by
      rw [← hv] at hx
      exact Nat.le_trans (split_mem hx) hz0
    refine Ev.step (fun _ => spec_ParseTier.l0.eq_2 ..) (Ev.pos (by omega) (Ev.pos (by omega) (Ev.pos (by omega) ?_)))
    rw [hye]
    refine Ev.bind h1 (Ev.pos (by omega) (Ev.bind h2 (Ev.ite (fun hw2 => ?_) (fun _ => ?_))))
    · by_cases hv2 : (v.length : Int) = 2
      · have e : ((v.length : Int) != 2) = false := by rw [hv2]; rfl
        rw [e]
        have v0 : v[0]'(by omega) = rdOf ByteArray.empty v 0 := (rd_of _ v 0 (by omega)).symm
        have v1 : v[1]'(by omega) = rdOf ByteArray.empty v 1 := (rd_of _ v 1 (by omega)).symm
        have w1 : w[1]'(by omega) = rdOf ByteArray.empty w 1 := (rd_of _ w 1 (by omega)).symm
        have z0 := hvm _ (List.getElem_mem (by omega : 0 < v.length))
        have z1 := hvm _ (List.getElem_mem (by omega : 1 < v.length))
        have z2 := hwm _ (List.getElem_mem (by omega : 1 < w.length))
        rw [v0] at z0
        rw [v1] at z1
        rw [w1] at z2
        obtain ⟨a, ha⟩ := read_any _ z0
        obtain ⟨b, hb⟩ := read_any _ z1
        refine Ev.step (fun _ => spec_ParseTier.j1.eq_2 ..) (Ev.neg (by decide) (Ev.pos (by omega) (Ev.bind ha (Ev.pos (by omega) (Ev.bind hb (Ev.pos (by omega) (Ev.pos (by omega) ?_)))))))
        rw [wrap_succ (by omega)]
        refine ih (i + 1) (by omega) _ (by rw [List.length_append, List.length_singleton]; omega) ?_
        intro n hn
        rcases List.mem_append.1 hn with hn | hn
        · exact hg n hn
        · rw [List.mem_singleton.1 hn]
          exact z2
      · have e : ((v.length : Int) != 2) = true := by rw [bne_iff_ne]; exact hv2
        rw [e]
        exact Ev.step (fun _ => spec_ParseTier.j1.eq_2 ..) (Ev.pos rfl (Ev.some rfl))
    · exact Ev.step (fun _ => spec_ParseTier.j1.eq_2 ..) (Ev.pos rfl (Ev.some rfl))
theorem spec_take (n : Nat) (h : 0 < n) (h2 : n ≤ 1048577) : (wrap64 ((n : Int) - 1)) = ((n - 1 : Nat) : Int) := wrap_pred h (by omega)
theorem cutsS_len (c : UInt8) : ∀ l acc : List UInt8, (cutsS c acc l).length ≤ l.length + 1
  | [], _ => Nat.le_refl _
  | x :: xs, acc => by
    rw [cutsS, List.length_cons]
    split
    · have := cutsS_len c xs []
      rw [List.length_cons]
      omega
    · have := cutsS_len c xs (acc ++ [x])
      omega
theorem spec_no {s : ByteArray} (hs : s.size ≤ 1048576) (hno : ∀ l, tierB l = true → tierT l ≠ s) : Ev (fun k => spec_ParseTier.f k s) (([] : List NI), false) := by
  have h0 := split_ s hs 59 59 rfl
  have hp := cutsS_ne 59 s.data.toList []
  have hp2 := cutsS_len 59 s.data.toList []
  rw [size_list] at hp2
  have hm : ∀ x, x ∈ (cutsS 59 [] s.data.toList).map MSeq.bytes → x.size ≤ 1048576 := fun x hx => Nat.le_trans (split_mem hx) hs
  rw [← List.length_map (f := MSeq.bytes)] at hp hp2
  generalize (cutsS 59 [] s.data.toList).map MSeq.bytes = ps at h0 hp hp2 hm
  unfold spec_ParseTier.f
  refine Ev.bind h0 (Ev.ite (fun _ => Ev.some rfl) (fun h => ?_))
  rw [spec_take ps.length hp (by omega)]
  refine Ev.pos (by omega) (Ev.pos (by omega) (Ev.have rfl ?_))
  rw [Int.toNat_natCast]
  exact spec_loop_no s hno (ps.take (ps.length - 1)) (by rw [List.length_take]; omega) (fun y hy => hm y (List.mem_of_mem_take hy)) _ 0 (Nat.zero_add _) [] (Nat.le_refl _) (fun n hn => nomatch hn)
theorem two_pos (a b : ByteArray) : (0 : Int) < (([a, b] : List ByteArray).length : Int) := by
  show (0 : Int) < 2
  decide
theorem two_one (a b : ByteArray) : (1 : Int) < (([a, b] : List ByteArray).length : Int) := by
  show (1 : Int) < 2
  decide
theorem two_ne (a b : ByteArray) : ¬ ((([a, b] : List ByteArray).length : Int) != 2) = true := by
  show ¬ ((2 : Int) != 2) = true
  decide
theorem spec_loop_yes (s : ByteArray) (l : List NI) (h : tierB l = true) (ht : tierT l = s) : ∀ d i : Nat, i + d = l.length →
    Ev (fun k => spec_ParseTier.l0 k s (l.take i) ((l.map body).map MSeq.bytes) (((l.map body).map MSeq.bytes).length : Int) (i : Int)) (l, true) := by
  have h40 := tier_40 h
  have hn := tier_notes h
  have hlen : ((l.map body).map MSeq.bytes).length = l.length := by rw [List.length_map, List.length_map]
  intro d
  induction d with
  | zero =>
    intro i hi
    rw [List.take_of_length_le (by omega)]
    refine Ev.step (fun _ => spec_ParseTier.l0.eq_2 ..) (Ev.neg (by omega) (Ev.bind (tiGood_ l ⟨by omega, fun x hx => by have := (note_says (hn x hx)).2.2; omega⟩) (Ev.pos h ?_)))
    refine Ev.bind (text_loops l h l.length 0 (by omega) ⟨#[]⟩ (Nat.le_refl _)).1 (Ev.pos ?_ (Ev.some rfl))
    exact congrArg ByteArray.toList ht
  | succ d ih =>
    intro i hi
    have hil : i < l.length := by omega
    have hx := hn _ (List.getElem_mem hil)
    have ey : rdOf ByteArray.empty ((l.map body).map MSeq.bytes) (i : Int) = MSeq.bytes (body l[i]) := by
      rw [rd_of _ _ i (by omega), List.getElem_map, List.getElem_map]
    have p := ih (i + 1) (by omega)
    rw [List.take_succ_eq_append_getElem hil] at p
    generalize l[i] = x at hx ey p
    obtain ⟨⟨a0, a1⟩, ⟨b0, b1⟩, c⟩ := note_says hx
    obtain ⟨z1, z2, z3⟩ := body_size hx
    have h1 := split_ (MSeq.bytes (body x)) (by rw [bytes_size]; omega) 32 32 rfl
    have e1 : (cutsS 32 [] (MSeq.bytes (body x)).data.toList).map MSeq.bytes = [MSeq.bytes (times x), x.f2] := by
      rw [bytes_list]
      unfold body
      rw [cutsS_app _ _ _ (no_32 hx), cutsS_one _ _ (no_32g hx)]
      show [MSeq.bytes (times x), MSeq.bytes x.f2.data.toList] = _
      rw [bytes_at]
    rw [e1] at h1
    have h2 := split_ (MSeq.bytes (times x)) (by rw [bytes_size]; omega) 45 45 rfl
    have e2 : (cutsS 45 [] (MSeq.bytes (times x)).data.toList).map MSeq.bytes = [num x.f0, num x.f1] := by
      rw [bytes_list]
      unfold times
      rw [cutsS_app _ _ _ (no_45 a0), cutsS_one _ _ (no_45 b0)]
      rfl
    rw [e2] at h2
    refine Ev.step (fun _ => spec_ParseTier.l0.eq_2 ..) (Ev.pos (by omega) (Ev.pos (by omega) (Ev.pos (by omega) ?_)))
    rw [ey]
    refine Ev.bind h1 (Ev.pos (two_pos _ _) (Ev.bind h2 (Ev.pos rfl ?_)))
    have ht : (l.take i).length ≤ 40 := by rw [List.length_take]; omega
    refine Ev.step (fun _ => spec_ParseTier.j1.eq_2 ..) (Ev.neg (two_ne _ _) (Ev.pos (two_pos _ _) (Ev.bind (read_num _ a0 a1) (Ev.pos (two_one _ _) (Ev.bind (read_num _ b0 b1) (Ev.pos (two_one _ _) (Ev.pos (by omega) ?_)))))))
    rw [wrap_succ (by omega)]
    exact p
theorem spec_yes {l : List NI} {s : ByteArray} (hs : s.size ≤ 1048576) (h : tierB l = true) (ht : tierT l = s) : Ev (fun k => spec_ParseTier.f k s) (l, true) := by
  have h40 := tier_40 h
  have h0 := split_ s hs 59 59 rfl
  have e : (cutsS 59 [] s.data.toList).map MSeq.bytes = (l.map body).map MSeq.bytes ++ [MSeq.bytes []] := by
    rw [← ht, tier_list, cutsS_text l (tier_notes h), List.map_append]
    rfl
  rw [e] at h0
  have hlen : ((l.map body).map MSeq.bytes ++ [MSeq.bytes []]).length = l.length + 1 := by rw [List.length_append, List.length_map, List.length_map]; rfl
  have hlen2 : ((l.map body).map MSeq.bytes).length = l.length := by rw [List.length_map, List.length_map]
  have p := spec_loop_yes s l h ht l.length 0 (Nat.zero_add _)
  unfold spec_ParseTier.f
  refine Ev.bind h0 ?_
  rw [hlen, spec_take (l.length + 1) (Nat.succ_pos _) (by omega)]
  refine Ev.neg (by omega) (Ev.pos (by omega) (Ev.pos (by omega) (Ev.have rfl ?_)))
  rw [Int.toNat_natCast, Nat.add_sub_cancel, List.take_left' hlen2]
  exact p

/-! ### the law -/
theorem both_law (s : ByteArray) (R : List NI × Bool) (hi : Ev (fun k => impl_ParseTier.f k s) R) (hp : Ev (fun k => spec_ParseTier.f k s) R) (hl : R.1.length ≤ 41) (hs : ¬ (s.size : Int) > 1048576) : ∃ k, laws_FnExactParseTier.f k s = some true := by
  have e1 : (R.2 != R.2) = false := by cases R.2 <;> rfl
  refine Ev.rounds (Ev.neg hs (Ev.bind hp (Ev.bind hi (Ev.bind (eqNoteS_ R.1 (by omega)) (Ev.pos rfl ?_)))))
  rw [e1]
  have hm := markNoteS_ R.1 (by omega) 1 (by omega) (by omega)
  have hh := heldNoteS_ R.1.length (by omega) 1 (by omega) (by omega)
  refine Ev.step (fun _ => laws_FnExactParseTier.j0.eq_2 ..) (Ev.neg (by decide) (Ev.bind hm (Ev.bind hh (Ev.neg (by omega) (Ev.pos rfl (Ev.bind hi (Ev.bind (eqNoteS_ R.1 (by omega)) (Ev.pos rfl ?_))))))))
  rw [e1]
  exact Ev.step (fun _ => laws_FnExactParseTier.j1.eq_2 ..) (Ev.neg (by decide) (Ev.bind hh (Ev.neg (by omega) (Ev.pos rfl (Ev.some rfl)))))
theorem FnExactParseTier : laws_FnExactParseTier.Pure := by
  intro s _
  by_cases hs : (s.size : Int) > 1048576
  · exact Ev.rounds (Ev.pos hs (Ev.some rfl))
  have hz : s.size ≤ 1048576 := by omega
  by_cases hex : ∃ l, tierB l = true ∧ tierT l = s
  · obtain ⟨l, h, ht⟩ := hex
    have := tier_40 h
    exact both_law s (l, true) (impl_yes hz h ht) (spec_yes hz h ht) (by show l.length ≤ 41; omega) hs
  · have hno : ∀ l, tierB l = true → tierT l ≠ s := fun l h e => hex ⟨l, h, e⟩
    exact both_law s ([], false) (impl_no hz hno) (spec_no hz hno) (Nat.zero_le _) hs
end Go.Proofs.YtpdcopbnhaoilaaDoor.Pure
