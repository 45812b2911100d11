/-
ClassParts: the plain law: the first op that can't be turned back, of two rows of ops one behind the other.
-/
import Derived.Test.YtbklalklebjiaaaGreatDoorPCpd
import Derived.Test.YtbklalklebjiaaaGreatDoorPCpo
set_option linter.unusedVariables false
set_option linter.unusedSimpArgs false
namespace Go.Proofs.YtbklalklebjiaaaGreatDoor.PCp
open Go.RowKit Go.Proofs.YtbklalklebjiaaaGreatDoorW.PrintWords Go.Proofs.YtbklalklebjiaaaGreatDoorW.PrintLast Go.Proofs.YtbklalklebjiaaaGreatDoorW.PrintMore

theorem wrap_succ {n : Nat} (h : (n : Int) < 9223372036854775807) : wrap64 ((n : Int) + 1) = ((n + 1 : Nat) : Int) := by
  unfold wrap64; omega

theorem Make_total (l : List Int) (hlen : l.length ≤ 9223372036854775807) : ∀ (d j : Nat) (x : Int) (acc : List Int) (y : Int), j ≤ l.length → l.length - j ≤ d → j ≤ 12 → acc.length ≤ j + 1 →
    ∃ r, ∀ k, d < k → transposallaw08_Make.l0 k x l (l.length : Int) (j : Int) acc y = some r := by
  intro d
  induction d with
  | zero =>
    intro j x acc y hj hd h12 ha
    refine ⟨(acc, wrap32 (x + 31)), fun k hk => ?_⟩
    obtain ⟨k, rfl⟩ : ∃ m, k = m + 1 := ⟨k - 1, by omega⟩
    simp only [transposallaw08_Make.l0]
    rw [if_neg (by omega)]
  | succ d ih =>
    intro j x acc y hj hd h12 ha
    by_cases h : (j : Int) < (l.length : Int)
    · by_cases h2 : (j : Int) = 12
      · refine ⟨(acc, wrap32 (x + 31)), fun k hk => ?_⟩
        obtain ⟨k, rfl⟩ : ∃ m, k = m + 1 := ⟨k - 1, by omega⟩
        simp only [transposallaw08_Make.l0]
        rw [if_pos h, if_pos (by omega), if_pos h, if_pos h2]
      · obtain ⟨r, hr⟩ := ih (j + 1) (wrap32 (x + (wrap32 (1 + (wrap32 (Int.tmod (rd l j) 40)))))) (acc ++ [wrap32 (x + (wrap32 (1 + (wrap32 (Int.tmod (rd l j) 40)))))]) y (by omega) (by omega) (by omega) (by simp; omega)
        refine ⟨r, fun k hk => ?_⟩
        obtain ⟨k, rfl⟩ : ∃ m, k = m + 1 := ⟨k - 1, by omega⟩
        simp only [transposallaw08_Make.l0]
        rw [if_pos h, if_pos (by omega), if_pos h, if_neg h2, if_pos (by omega), wrap_succ (by omega)]
        exact hr k (by omega)
    · refine ⟨(acc, wrap32 (x + 31)), fun k hk => ?_⟩
      obtain ⟨k, rfl⟩ : ∃ m, k = m + 1 := ⟨k - 1, by omega⟩
      simp only [transposallaw08_Make.l0]
      rw [if_neg h]

theorem RawParts_total (l : List S119) (hlen : l.length ≤ 9223372036854775807) : ∀ (d j : Nat) (a b c : Int) (s : ByteArray) (acc : List S117) (y z : Int), j ≤ l.length → l.length - j ≤ d → acc.length ≤ 8 → (j ≤ 7 → acc.length ≤ j + 1) →
    ∃ r, ∀ k, d < k → transposallaw13_Raw.l0 k l (l.length : Int) (j : Int) a b c s acc y z = some r := by
  intro d
  induction d with
  | zero =>
    intro j a b c s acc y z hj hd ha ha2
    refine ⟨(a, b, c, s, acc, ([] : List Int), y, z), fun k hk => ?_⟩
    obtain ⟨k, rfl⟩ : ∃ m, k = m + 1 := ⟨k - 1, by omega⟩
    simp only [transposallaw13_Raw.l0]
    rw [if_neg (by omega)]
  | succ d ih =>
    intro j a b c s acc y z hj hd ha ha2
    by_cases h : (j : Int) < (l.length : Int)
    · by_cases h2 : (j : Int) < 7
      · obtain ⟨r, hr⟩ := ih (j + 1) a b c s (acc ++ [(⟨(1 + (rd_T119 l j).f0) % 4294967296, wrap64 (1 + (wrap64 (Int.tmod ((rd_T119 l j).f1) 1000000)))⟩ : S117)]) y z (by omega) (by omega) (by have := ha2 (by omega); simp; omega) (by have := ha2 (by omega); intro _; simp; omega)
        refine ⟨r, fun k hk => ?_⟩
        obtain ⟨k, rfl⟩ : ∃ m, k = m + 1 := ⟨k - 1, by omega⟩
        simp only [transposallaw13_Raw.l0]
        rw [if_pos h, if_pos (by omega), if_pos h, if_pos h2, if_pos (by omega), wrap_succ (by omega)]
        exact hr k (by omega)
      · obtain ⟨r, hr⟩ := ih (j + 1) a b c s acc y z (by omega) (by omega) ha (by intro _; omega)
        refine ⟨r, fun k hk => ?_⟩
        obtain ⟨k, rfl⟩ : ∃ m, k = m + 1 := ⟨k - 1, by omega⟩
        simp only [transposallaw13_Raw.l0]
        rw [if_pos h, if_pos (by omega), if_pos h, if_neg h2, wrap_succ (by omega)]
        exact hr k (by omega)
    · refine ⟨(a, b, c, s, acc, ([] : List Int), y, z), fun k hk => ?_⟩
      obtain ⟨k, rfl⟩ : ∃ m, k = m + 1 := ⟨k - 1, by omega⟩
      simp only [transposallaw13_Raw.l0]
      rw [if_neg h]

theorem Name_total {a : Int} (h : 0 ≤ a) : ∃ s, transposallaw06_Name.f a = some s := by
  have h1 : 0 ≤ Int.tmod a 5 := Int.tmod_nonneg _ h
  have h2 : Int.tmod a 5 < 5 := Int.tmod_lt_of_pos _ (by omega)
  unfold transposallaw06_Name.f
  simp only [Option.bind_some]
  rw [if_pos h1, if_pos (by simpa using h2)]
  exact ⟨_, rfl⟩

theorem Raw_total {x : S29} (h : Ok29 x) : ∃ r, ∀ k, x.f4.length + x.f6.length < k → transposallaw13_Raw.f k x.f0 x.f1 x.f2 x.f3 x.f4 x.f5 x.f6 = some r := by
  by_cases c1 : wrap64 (Int.tmod x.f0 8) = 1
  · obtain ⟨s, hs⟩ := Name_total h.name.1
    refine ⟨(wrap64 (Int.tmod x.f0 8), (1 + x.f1) % 4294967296, 0, s, ([] : List S117), ([] : List Int), 0, 0), fun k hk => ?_⟩
    unfold transposallaw13_Raw.f
    rw [if_pos c1, hs]
    rfl
  by_cases c4 : wrap64 (Int.tmod x.f0 8) = 4
  · obtain ⟨r, hr⟩ := RawParts_total x.f4 h.parts x.f4.length 0 (wrap64 (Int.tmod x.f0 8)) ((1 + x.f1) % 4294967296) 0 (⟨#[]⟩ : ByteArray) [(⟨(1 + x.f2) % 4294967296, 1⟩ : S117)] 0 0 (by omega) (by omega) (by simp) (by simp)
    refine ⟨r, fun k hk => ?_⟩
    unfold transposallaw13_Raw.f
    rw [if_neg c1, if_pos c4]
    exact hr k (by omega)
  by_cases c7 : wrap64 (Int.tmod x.f0 8) = 7
  · obtain ⟨r, hr⟩ := Make_total x.f6 h.long x.f6.length 0 (wrap32 x.f5) [wrap32 x.f5] 0 (by omega) (by omega) (by omega) (by simp)
    refine ⟨(wrap64 (Int.tmod x.f0 8), 0, 0, (⟨#[]⟩ : ByteArray), ([] : List S117), r.1, r.2, 0), fun k hk => ?_⟩
    have hm : transposallaw08_Make.f k x.f5 x.f6 = some r := hr k (by omega)
    unfold transposallaw13_Raw.f
    rw [if_neg c1, if_neg c4, if_pos c7, hm]
    rfl
  by_cases c2 : wrap64 (Int.tmod x.f0 8) = 2
  · refine ⟨(wrap64 (Int.tmod x.f0 8), (1 + x.f1) % 4294967296, x.f2 % 4294967296, (⟨#[]⟩ : ByteArray), ([] : List S117), ([] : List Int), 0, 0), fun k hk => ?_⟩
    unfold transposallaw13_Raw.f
    rw [if_neg c1, if_neg c4, if_neg c7, if_pos c2]
  · refine ⟨(wrap64 (Int.tmod x.f0 8), (1 + x.f1) % 4294967296, (1 + x.f2) % 4294967296, (⟨#[]⟩ : ByteArray), ([] : List S117), ([] : List Int), 0, 0), fun k hk => ?_⟩
    unfold transposallaw13_Raw.f
    rw [if_neg c1, if_neg c4, if_neg c7, if_neg c2]

/-! #### the first one that can't be turned back -/
def lossy (n : Int) : Bool := !(n == 0 || n == 1 || n == 2 || n == 5 || n == 7)
theorem Lossless_eq (a b c : Int) (s : ByteArray) (p : List S117) (q : List Int) (d e : Int) : class_Lossless.f a b c s p q d e = some (!lossy a) := by
  unfold class_Lossless.f lossy
  by_cases h0 : a = 0
  · simp [h0]
  by_cases h1 : a = 1
  · simp [h1]
  by_cases h2 : a = 2
  · simp [h2]
  by_cases h5 : a = 5
  · simp [h5]
  by_cases h7 : a = 7
  · simp [h7]
  simp [h0, h1, h2, h5, h7]

def fl : List S38 → Nat → Int
  | [], _ => -1
  | x :: t, j => if lossy x.f0 = true then (j : Int) else fl t (j + 1)
theorem fl_range : ∀ (l : List S38) (j : Nat), fl l j = -1 ∨ ((j : Int) ≤ fl l j ∧ fl l j < (j : Int) + l.length)
  | [], j => .inl rfl
  | x :: t, j => by
    simp only [fl, List.length_cons]
    split
    · right; omega
    · rcases fl_range t (j + 1) with h | h
      · exact .inl h
      · right; omega
theorem fl_shift : ∀ (l : List S38) (j m : Nat), fl l (j + m) = if fl l j < 0 then -1 else fl l j + m
  | [], j, m => by simp [fl]
  | x :: t, j, m => by
    simp only [fl]
    split
    · rw [if_neg (by omega)]; omega
    · rw [show j + m + 1 = j + 1 + m by omega, fl_shift t (j + 1) m]
theorem fl_append : ∀ (a b : List S38) (j : Nat), fl (a ++ b) j = if fl a j < 0 then fl b (j + a.length) else fl a j
  | [], b, j => by simp [fl]
  | x :: t, b, j => by
    simp only [List.cons_append, fl, List.length_cons]
    split
    · rw [if_neg (by omega)]
    · rw [fl_append t b (j + 1), show j + 1 + t.length = j + (t.length + 1) by omega]

theorem Lossy_eq (l : List S38) (hlen : l.length ≤ 9223372036854775807) : ∀ (d j : Nat), j ≤ l.length → l.length - j ≤ d → ∀ k, d < k → class_Lossy.l0 k l (l.length : Int) (j : Int) = some (fl (l.drop j) j) := by
  intro d
  induction d with
  | zero =>
    intro j hj hd k hk
    obtain ⟨k, rfl⟩ : ∃ m, k = m + 1 := ⟨k - 1, by omega⟩
    simp only [class_Lossy.l0]
    rw [if_neg (by omega), List.drop_of_length_le (by omega)]
    rfl
  | succ d ih =>
    intro j hj hd k hk
    obtain ⟨k, rfl⟩ : ∃ m, k = m + 1 := ⟨k - 1, by omega⟩
    simp only [class_Lossy.l0]
    by_cases h : (j : Int) < (l.length : Int)
    · have hjl : j < l.length := by omega
      have hrd : rd_T38 l (j : Int) = l[j] := by
        unfold rd_T38
        rw [Int.toNat_natCast, List.getD_eq_getElem?_getD, List.getElem?_eq_getElem hjl]; rfl
      rw [if_pos h, if_pos (by omega), if_pos h, Lossless_eq, Option.bind_some, hrd, List.drop_eq_getElem_cons hjl]
      simp only [fl]
      by_cases hx : lossy l[j].f0 = true
      · rw [hx]
        rfl
      · have hx' : lossy l[j].f0 = false := by simpa using hx
        rw [hx']
        simp only [Bool.not_false, if_true, Bool.false_eq_true, if_false]
        rw [wrap_succ (by omega)]
        exact ih (j + 1) (by omega) (by omega) k (by omega)
    · rw [if_neg h, List.drop_of_length_le (by omega)]
      rfl
theorem Lossy_f {l : List S38} (hlen : l.length ≤ 9223372036854775807) {k : Nat} (hk : l.length < k) : class_Lossy.f k l = some (fl l 0) := by
  have := Lossy_eq l hlen l.length 0 (by omega) (by omega) k hk
  simpa [class_Lossy.f] using this

/-! #### the law -/
theorem Parts_end (a b : List S38) (ha : a.length ≤ 30) (hb : b.length ≤ 30) : ∀ k, 70 < k →
    ((class_Lossy.f k a).bind fun t175 => ((class_Lossy.f k b).bind fun t176 => (if t175 < 0 then (transposallaw16_ClassParts.j3 k a b t175 t176 (decide (t176 ≥ 0))) else (transposallaw16_ClassParts.j3 k a b t175 t176 false)))) = some true := by
  intro k hk
  obtain ⟨k, rfl⟩ : ∃ m, k = m + 1 := ⟨k - 1, by omega⟩
  rw [Lossy_f (by omega) (by omega), Option.bind_some, Lossy_f (by omega) (by omega), Option.bind_some]
  have hc : script_Op.f a = some a := by
    unfold script_Op.f
    simp only [Option.bind_some, List.nil_append, List.length_nil, Nat.zero_add]
    rw [if_pos (by omega)]
  have hab : class_Lossy.f k (a ++ b) = some (fl (a ++ b) 0) := Lossy_f (by simp; omega) (by simp; omega)
  have hsh := fl_shift b 0 a.length
  rw [Nat.zero_add] at hsh
  have hra := fl_range a 0
  have hrb := fl_range b 0
  have happ := fl_append a b 0
  rw [Nat.zero_add] at happ
  by_cases h1 : fl a 0 < 0
  · rw [if_pos h1]
    rw [if_pos h1] at happ
    simp only [transposallaw16_ClassParts.j3]
    rw [hc]
    simp only [Option.bind_some]
    rw [if_pos (by omega : a.length + b.length < 1466015503701), hab]
    simp only [Option.bind_some]
    by_cases h2 : fl b 0 ≥ 0
    · rw [if_neg (by omega)] at hsh
      have hw : wrap64 ((a.length : Int) + fl b 0) = (a.length : Int) + fl b 0 := by
        unfold wrap64; omega
      have he : fl (a ++ b) 0 = (a.length : Int) + fl b 0 := by omega
      simp [h2, hw, he]
    · rw [if_pos (by omega)] at hsh
      have he : fl (a ++ b) 0 = fl a 0 := by omega
      simp [h2, he]
      omega
  · rw [if_neg h1]
    rw [if_neg h1] at happ
    simp only [transposallaw16_ClassParts.j3]
    rw [hc]
    simp only [Option.bind_some]
    rw [if_pos (by omega : a.length + b.length < 1466015503701), hab]
    simp [happ]
    omega

theorem Parts_loop1 (l : List S29) (hok : ∀ x ∈ l, Ok29 x) (hl : l.length ≤ 30) (a : List S38) (ha : a.length ≤ 30) : ∀ (d j : Nat) (acc : List S38), j ≤ l.length → l.length - j ≤ d → acc.length = j →
    ∃ K, ∀ k, K < k → transposallaw16_ClassParts.l1 k a acc l (l.length : Int) (j : Int) = some true := by
  intro d
  have fin : ∀ (j : Nat) (acc : List S38), j ≤ l.length → ¬ ((j : Int) < (l.length : Int)) → acc.length = j → ∃ K, ∀ k, K < k → transposallaw16_ClassParts.l1 k a acc l (l.length : Int) (j : Int) = some true := by
    intro j acc hj h hacc
    refine ⟨71, fun k hk => ?_⟩
    obtain ⟨k, rfl⟩ : ∃ m, k = m + 1 := ⟨k - 1, by omega⟩
    simp only [transposallaw16_ClassParts.l1]
    rw [if_neg h]
    exact Parts_end a acc ha (by omega) k (by omega)
  induction d with
  | zero => intro j acc hj hd hacc; exact fin j acc hj (by omega) hacc
  | succ d ih =>
    intro j acc hj hd hacc
    by_cases h : (j : Int) < (l.length : Int)
    · have hjl : j < l.length := by omega
      have hrd : rd_T29 l (j : Int) = l[j] := by
        unfold rd_T29
        rw [Int.toNat_natCast, List.getD_eq_getElem?_getD, List.getElem?_eq_getElem hjl]; rfl
      obtain ⟨r, hr⟩ := Raw_total (hok l[j] (List.getElem_mem hjl))
      obtain ⟨K, hK⟩ := ih (j + 1) (acc ++ [(⟨r.1, r.2.1, r.2.2.1, r.2.2.2.1, r.2.2.2.2.1, (⟨r.2.2.2.2.2.1, r.2.2.2.2.2.2.1⟩ : S36), r.2.2.2.2.2.2.2⟩ : S38)]) (by omega) (by omega) (by simp [hacc])
      refine ⟨K + l[j].f4.length + l[j].f6.length + 1, fun k hk => ?_⟩
      obtain ⟨k, rfl⟩ : ∃ m, k = m + 1 := ⟨k - 1, by omega⟩
      simp only [transposallaw16_ClassParts.l1]
      rw [if_pos h, if_pos (by omega), if_pos h, hrd, hr k (by omega), Option.bind_some, if_pos (by omega), wrap_succ (by omega)]
      exact hK k (by omega)
    · exact fin j acc hj h hacc

theorem Parts_loop0 (l : List S29) (hok : ∀ x ∈ l, Ok29 x) (hl : l.length ≤ 30) (m : List S29) (hokm : ∀ x ∈ m, Ok29 x) (hm : m.length ≤ 30) : ∀ (d j : Nat) (acc : List S38), j ≤ l.length → l.length - j ≤ d → acc.length = j →
    ∃ K, ∀ k, K < k → transposallaw16_ClassParts.l0 k m acc l (l.length : Int) (j : Int) = some true := by
  intro d
  have fin : ∀ (j : Nat) (acc : List S38), j ≤ l.length → ¬ ((j : Int) < (l.length : Int)) → acc.length = j → ∃ K, ∀ k, K < k → transposallaw16_ClassParts.l0 k m acc l (l.length : Int) (j : Int) = some true := by
    intro j acc hj h hacc
    obtain ⟨K, hK⟩ := Parts_loop1 m hokm hm acc (by omega) m.length 0 [] (by omega) (by omega) rfl
    refine ⟨K + 1, fun k hk => ?_⟩
    obtain ⟨k, rfl⟩ : ∃ m, k = m + 1 := ⟨k - 1, by omega⟩
    simp only [transposallaw16_ClassParts.l0]
    rw [if_neg h]
    exact hK k (by omega)
  induction d with
  | zero => intro j acc hj hd hacc; exact fin j acc hj (by omega) hacc
  | succ d ih =>
    intro j acc hj hd hacc
    by_cases h : (j : Int) < (l.length : Int)
    · have hjl : j < l.length := by omega
      have hrd : rd_T29 l (j : Int) = l[j] := by
        unfold rd_T29
        rw [Int.toNat_natCast, List.getD_eq_getElem?_getD, List.getElem?_eq_getElem hjl]; rfl
      obtain ⟨r, hr⟩ := Raw_total (hok l[j] (List.getElem_mem hjl))
      obtain ⟨K, hK⟩ := ih (j + 1) (acc ++ [(⟨r.1, r.2.1, r.2.2.1, r.2.2.2.1, r.2.2.2.2.1, (⟨r.2.2.2.2.2.1, r.2.2.2.2.2.2.1⟩ : S36), r.2.2.2.2.2.2.2⟩ : S38)]) (by omega) (by omega) (by simp [hacc])
      refine ⟨K + l[j].f4.length + l[j].f6.length + 1, fun k hk => ?_⟩
      obtain ⟨k, rfl⟩ : ∃ m, k = m + 1 := ⟨k - 1, by omega⟩
      simp only [transposallaw16_ClassParts.l0]
      rw [if_pos h, if_pos (by omega), if_pos h, hrd, hr k (by omega), Option.bind_some, if_pos (by omega), wrap_succ (by omega)]
      exact hK k (by omega)
    · exact fin j acc hj h hacc

/-- The law, in plain words. -/
theorem ClassParts_pure (l m : List S29) (hok : ∀ x ∈ l, Ok29 x) (hokm : ∀ x ∈ m, Ok29 x) : ∃ k, transposallaw16_ClassParts.f k l m = some true := by
  by_cases h1 : (l.length : Int) > 30
  · refine ⟨1, ?_⟩
    unfold transposallaw16_ClassParts.f
    simp only [transposallaw16_Awake.f, Option.bind_some, if_true]
    rw [if_pos h1]
    simp [transposallaw16_ClassParts.j0]
  · by_cases h2 : (m.length : Int) > 30
    · refine ⟨1, ?_⟩
      unfold transposallaw16_ClassParts.f
      simp only [transposallaw16_Awake.f, Option.bind_some, if_true]
      rw [if_neg h1]
      simp [transposallaw16_ClassParts.j0, h2]
    · obtain ⟨K, hK⟩ := Parts_loop0 l hok (by omega) m hokm (by omega) l.length 0 [] (by omega) (by omega) rfl
      refine ⟨K + 2, ?_⟩
      unfold transposallaw16_ClassParts.f
      simp only [transposallaw16_Awake.f, Option.bind_some, if_true]
      rw [if_neg h1, decide_eq_false h2]
      simp only [transposallaw16_ClassParts.j0, Bool.false_eq_true, if_false]
      exact hK (K + 1) (by omega)
end Go.Proofs.YtbklalklebjiaaaGreatDoor.PCp
