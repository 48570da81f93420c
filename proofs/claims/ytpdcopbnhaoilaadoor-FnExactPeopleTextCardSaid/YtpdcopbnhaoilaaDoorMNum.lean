/- Numerals: what the reference writes of a number that is not negative is what strconv.Itoa writes, no condition but the number's size; and how long it is. -/
import Derived.Test.YtpdcopbnhaoilaaDoorG1
import Derived.Test.YtpdcopbnhaoilaaDoorMPure
import Derived.Lib.ItoaNum
namespace Go.Proofs.YtpdcopbnhaoilaaDoor.MNum
open Go.RowKit Go.Proofs.YtpdcopbnhaoilaaDoor.G Go.Proofs.YtpdcopbnhaoilaaDoorW.PrintWords Go.Proofs.YtpdcopbnhaoilaaDoorW.PrintLast Go.Proofs.YtpdcopbnhaoilaaDoor.MPure

/-- The decimal numeral of a number. -/
def num (n : Int) : ByteArray := ⟨(Lib.itoa n).toArray⟩
def numN (u : Nat) : ByteArray := ⟨(Lib.decDigits u).toArray⟩
theorem num_nat (u : Nat) : num (u : Int) = numN u := by
  unfold num numN Lib.itoa
  rw [if_neg (by omega), Int.toNat_natCast]
theorem digits_len : ∀ (d u : Nat), u < 10 ^ (d + 1) → (Lib.decDigits u).length ≤ d + 1 := by
  intro d
  induction d with
  | zero =>
    intro u hu
    rw [Lib.decDigits, dif_pos (by simpa using hu)]
    exact Nat.le_refl _
  | succ d ih =>
    intro u hu
    rw [Lib.decDigits]
    split
    · exact Nat.succ_le_succ (Nat.zero_le _)
    · have := ih (u / 10) (by rw [Nat.pow_succ] at hu; omega)
      rw [List.length_append, List.length_singleton]
      omega
theorem numN_size (d u : Nat) (h : u < 10 ^ (d + 1)) : (numN u).size ≤ d + 1 := digits_len d u h
theorem one_digit (d : Nat) (h : d < 10) : strOfNums [(wrap64 (48 + (d : Int))) % 256] = ⟨[UInt8.ofNat (48 + d)].toArray⟩ := by
  have e : (wrap64 (48 + (d : Int))) % 256 = ((48 + d : Nat) : Int) := by unfold wrap64; omega
  rw [e]
  rfl
theorem bytes_snoc (l : List UInt8) (x : UInt8) : (⟨l.toArray⟩ : ByteArray) ++ ⟨[x].toArray⟩ = ⟨(l ++ [x]).toArray⟩ := by
  apply ByteArray.ext
  simp
theorem l1Num_ : ∀ (d u : Nat), u < 10 ^ (d + 1) → d ≤ 18 → Ev (fun k => spec_l1Num.f k (u : Int)) (numN u) := by
  intro d
  induction d with
  | zero =>
    intro u hu _
    have hu : u < 10 := by simpa using hu
    refine Ev.step (fun _ => spec_l1Num.f.eq_2 ..) (Ev.pos (by omega) (Ev.some ?_))
    rw [one_digit u hu]
    unfold numN
    rw [Lib.decDigits, dif_pos hu]
  | succ d ih =>
    intro u hu hd
    by_cases h : u < 10
    · refine Ev.step (fun _ => spec_l1Num.f.eq_2 ..) (Ev.pos (by omega) (Ev.some ?_))
      rw [one_digit u h]
      unfold numN
      rw [Lib.decDigits, dif_pos h]
    · have h10 : u / 10 < 10 ^ (d + 1) := by rw [Nat.pow_succ] at hu; omega
      have hb : u < 10 ^ 20 := Nat.lt_of_lt_of_le hu (Nat.pow_le_pow_right (by decide) (by omega))
      have e1 : wrap64 (Int.tdiv (u : Int) 10) = ((u / 10 : Nat) : Int) := by
        rw [show Int.tdiv (u : Int) 10 = ((u / 10 : Nat) : Int) from rfl]
        have : u / 10 < 10 ^ 18 := Nat.lt_of_lt_of_le h10 (Nat.pow_le_pow_right (by decide) (by omega))
        exact wrap_in (by omega) (by have h18 : (10 : Nat) ^ 18 = 1000000000000000000 := by decide
                                     omega)
      have e2 : Int.tmod (u : Int) 10 = ((u % 10 : Nat) : Int) := rfl
      have key := ih (u / 10) h10 (by omega)
      rw [← e1] at key
      have hs := numN_size d (u / 10) h10
      refine Ev.step (fun _ => spec_l1Num.f.eq_2 ..) (Ev.neg (by omega) (Ev.bind key (Ev.have rfl (Ev.pos ?_ (Ev.some ?_)))))
      · rw [e2, one_digit _ (Nat.mod_lt _ (by decide))]
        show (numN (u / 10)).size + 1 ≤ 9223372036854775807
        omega
      · rw [e2, one_digit _ (Nat.mod_lt _ (by decide))]
        unfold numN
        rw [bytes_snoc]
        rw [Lib.decDigits.eq_1 u, dif_neg h]
theorem l1Num_at (n : Int) (h0 : 0 ≤ n) (h1 : n < 1000000) : Ev (fun k => spec_l1Num.f k n) (num n) := by
  obtain ⟨u, rfl⟩ : ∃ u : Nat, n = (u : Int) := ⟨n.toNat, by omega⟩
  rw [num_nat]
  exact l1Num_ 5 u (by omega) (by omega)
theorem Itoa_at (n : Int) (h0 : 0 ≤ n) (h1 : n < 1000000) : strconv_Itoa.f n = some (num n) := if_pos ⟨by omega, by omega⟩
theorem num_size (n : Int) (h0 : 0 ≤ n) (h1 : n < 1000000) : (num n).size ≤ 6 := by
  obtain ⟨u, rfl⟩ : ∃ u : Nat, n = (u : Int) := ⟨n.toNat, by omega⟩
  rw [num_nat]
  exact numN_size 5 u (by omega)
end Go.Proofs.YtpdcopbnhaoilaaDoor.MNum
