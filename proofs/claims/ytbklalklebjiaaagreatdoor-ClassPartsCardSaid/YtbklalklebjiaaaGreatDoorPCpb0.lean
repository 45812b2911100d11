/- Printed over stubs by a program of this session: functions, contracts, the law's walk. -/
import Derived.Test.YtbklalklebjiaaaGreatDoorPCpa
namespace Go.Proofs.YtbklalklebjiaaaGreatDoor.PCp
open Go.RowKit Go.Proofs.YtbklalklebjiaaaGreatDoorW.PrintWords Go.Proofs.YtbklalklebjiaaaGreatDoorW.PrintLast Go.Proofs.YtbklalklebjiaaaGreatDoorW.PrintMore
attribute [local go_sem] max2_int min2_int max_two min_two max_three min_three max_four min_four   -- for this text's walks alone
set_option linter.unusedVariables false
set_option linter.unusedSimpArgs false

/-! ### transposallaw13_Raw: function 16 -/
def transposallaw13_Raw.l0 : Nat → List (S119) → Int → Int → Int → Int → Int → ByteArray → List (S117) → Int → Int → Option (Int × Int × Int × ByteArray × (List (S117)) × List Int × Int × Int)
  | 0, _, _, _, _, _, _, _, _, _, _ => none
  | k + 1, x38, x39, x40, x120000, x120001, x120002, x120003, x120004, x120006, x120007 => if x40 < x39 then (if 0 ≤ x40 then (if x40 < (x38.length : Int) then (if x40 < 7 then (if x120004.length < 8796093022208 then (transposallaw13_Raw.l0 k x38 x39 (wrap64 (x40 + 1)) x120000 x120001 x120002 x120003 (x120004 ++ [(⟨(1 + (rd_T119 x38 x40).f0) % 4294967296, wrap64 (1 + (wrap64 (Int.tmod ((rd_T119 x38 x40).f1) 1000000)))⟩ : S117)]) x120006 x120007) else (none)) else (transposallaw13_Raw.l0 k x38 x39 (wrap64 (x40 + 1)) x120000 x120001 x120002 x120003 x120004 x120006 x120007)) else (none)) else (none)) else (some (x120000, x120001, x120002, x120003, x120004, ([] : List Int), x120006, x120007))
def transposallaw13_Raw.f (k : Nat) (a0_0 : Int) (a0_1 : Int) (a0_2 : Int) (a0_3 : Int) (l0_4 : List (S119)) (a0_5 : Int) (l0_6 : List Int) : Option (Int × Int × Int × ByteArray × (List (S117)) × List Int × Int × Int) := if (wrap64 (Int.tmod a0_0 8)) = 1 then ((transposallaw06_Name.f a0_3).bind fun t120 => (some (wrap64 (Int.tmod a0_0 8), (1 + a0_1) % 4294967296, 0, t120, ([] : List (S117)), ([] : List Int), 0, 0))) else (if (wrap64 (Int.tmod a0_0 8)) = 4 then (transposallaw13_Raw.l0 k l0_4 (l0_4.length : Int) 0 (wrap64 (Int.tmod a0_0 8)) ((1 + a0_1) % 4294967296) 0 (⟨#[]⟩ : ByteArray) (([(⟨(1 + a0_2) % 4294967296, 1⟩ : S117)] : List (S117))) 0 0) else (if (wrap64 (Int.tmod a0_0 8)) = 7 then ((transposallaw08_Make.f k a0_5 l0_6).bind fun bt129 => (some (wrap64 (Int.tmod a0_0 8), 0, 0, (⟨#[]⟩ : ByteArray), ([] : List (S117)), bt129.1, bt129.2, 0))) else (if (wrap64 (Int.tmod a0_0 8)) = 2 then (some (wrap64 (Int.tmod a0_0 8), (1 + a0_1) % 4294967296, (a0_2) % 4294967296, (⟨#[]⟩ : ByteArray), ([] : List (S117)), ([] : List Int), 0, 0)) else (some (wrap64 (Int.tmod a0_0 8), (1 + a0_1) % 4294967296, (1 + a0_2) % 4294967296, (⟨#[]⟩ : ByteArray), ([] : List (S117)), ([] : List Int), 0, 0)))))
theorem transposallaw13_Raw.mono_l : ∀ k, (∀ y0 y1 y2 y3 y4 y5 y6 y7 y8 y9, LeO (transposallaw13_Raw.l0 k y0 y1 y2 y3 y4 y5 y6 y7 y8 y9) (transposallaw13_Raw.l0 (k + 1) y0 y1 y2 y3 y4 y5 y6 y7 y8 y9))
  | 0 => fun _ _ _ _ _ _ _ _ _ _ r h => by simp [transposallaw13_Raw.l0] at h
  | k + 1 => by
    have ih0 := transposallaw13_Raw.mono_l k
    · intro y0 y1 y2 y3 y4 y5 y6 y7 y8 y9
      unfold transposallaw13_Raw.l0
      repeat' first
      | (with_reducible exact ih0 _ _ _ _ _ _ _ _ _ _)
      | (with_reducible exact transposallaw08_Make.mono _ _ _)
      | (with_reducible exact LeO.refl _)
      | (with_reducible exact LeO.none _)
      | (with_reducible refine LeO.ite ?_ ?_)
      | (with_reducible refine LeO.bind ?_ (fun _ => ?_))
      | exact ih0 _ _ _ _ _ _ _ _ _ _
      | exact transposallaw08_Make.mono _ _ _
      | exact LeO.none _
      | refine LeO.ite ?_ ?_
      | refine LeO.bind ?_ (fun _ => ?_)
theorem transposallaw13_Raw.mono : ∀ a0 a1 a2 a3 a4 a5 a6 k, LeO (transposallaw13_Raw.f k a0 a1 a2 a3 a4 a5 a6) (transposallaw13_Raw.f (k + 1) a0 a1 a2 a3 a4 a5 a6) := by
  intro a0 a1 a2 a3 a4 a5 a6 k
  have ih0 := transposallaw13_Raw.mono_l k
  unfold transposallaw13_Raw.f
  repeat' first
      | (with_reducible exact ih0 _ _ _ _ _ _ _ _ _ _)
      | (with_reducible exact transposallaw08_Make.mono _ _ _)
      | (with_reducible exact LeO.refl _)
      | (with_reducible exact LeO.none _)
      | (with_reducible refine LeO.ite ?_ ?_)
      | (with_reducible refine LeO.bind ?_ (fun _ => ?_))
      | exact ih0 _ _ _ _ _ _ _ _ _ _
      | exact transposallaw08_Make.mono _ _ _
      | exact LeO.none _
      | refine LeO.ite ?_ ?_
      | refine LeO.bind ?_ (fun _ => ?_)

end Go.Proofs.YtbklalklebjiaaaGreatDoor.PCp
