/- Printed over stubs by a program of this session: functions, contracts, the law's walk. -/
import Derived.Test.YtbklalklebjiaaaGreatDoorPCpb1
import Derived.Test.YtbklalklebjiaaaGreatDoorPCpb2
import Derived.Test.YtbklalklebjiaaaGreatDoorPCpb3
import Derived.Test.YtbklalklebjiaaaGreatDoorPCpb4
import Derived.Test.YtbklalklebjiaaaGreatDoorPCpb5
namespace Go.Proofs.YtbklalklebjiaaaGreatDoor.PCp
open Go.RowKit Go.Proofs.YtbklalklebjiaaaGreatDoorW.PrintWords Go.Proofs.YtbklalklebjiaaaGreatDoorW.PrintLast Go.Proofs.YtbklalklebjiaaaGreatDoorW.PrintMore
attribute [local go_sem] max2_int min2_int max_two min_two max_three min_three max_four min_four   -- for this text's walks alone
set_option linter.unusedVariables false
set_option linter.unusedSimpArgs false

/-! ### transposallaw13_Raw: its contract -/
theorem transposallaw13_Raw.calls (k : Nat) (a0_0 : Int) (a0_1 : Int) (a0_2 : Int) (a0_3 : Int) (A0_4 : Option Addr) (c0_4 : Nat) (l0_4 : List (S119)) (a0_5 : Int) (A0_6 : Option Addr) (c0_6 : Nat) (l0_6 : List Int) (r1 : Int) (r2 : Int) (r3 : Int) (r4 : ByteArray) (r5 : List (S117)) (r6 : List Int) (r7 : Int) (r8 : Int) (w : World) (hr0_4 : Kd.C k119 w A0_4 l0_4.length l0_4) (hc0_4 : l0_4.length ≤ c0_4) (hr0_6 : Kd.C (Kd.int .u8) w A0_6 l0_6.length l0_6) (hc0_6 : l0_6.length ≤ c0_6) (h : transposallaw13_Raw.f k a0_0 a0_1 a0_2 a0_3 l0_4 a0_5 l0_6 = some (r1, r2, r3, r4, r5, r6, r7, r8)) :
    Calls Tryz.prog 16 #[.agg #[.int .u8 a0_0, .int .u8 a0_1, .int .u8 a0_2, .int .u8 a0_3, .slice A0_4 l0_4.length c0_4, .int .i16 a0_5, .slice A0_6 l0_6.length c0_6]] w fun e w' => ∃ v4_ v5_ : Value, e = .returned (.agg #[.int .i64 r1, .int .u32 r2, .int .u32 r3, .string r4, v4_, v5_, .int .i32 r7, .int .i64 r8]) ∧ Kd.R k117 117 w' w.heap.size (fun _ => True) v4_ r5 ∧ Kd.R (Kd.int .i32) 34 w' w.heap.size (fun _ => True) v5_ r6 ∧ Below w.heap.size w w' := by
  by_cases c2 : (wrap64 (Int.tmod a0_0 8)) = 1
  · exact Raw_b1 k a0_0 a0_1 a0_2 a0_3 A0_4 c0_4 l0_4 a0_5 A0_6 c0_6 l0_6 r1 r2 r3 r4 r5 r6 r7 r8 w hr0_4 hc0_4 hr0_6 hc0_6 h c2
  by_cases c16 : (wrap64 (Int.tmod a0_0 8)) = 4
  · exact Raw_b2 k a0_0 a0_1 a0_2 a0_3 A0_4 c0_4 l0_4 a0_5 A0_6 c0_6 l0_6 r1 r2 r3 r4 r5 r6 r7 r8 w hr0_4 hc0_4 hr0_6 hc0_6 h c2 c16
  by_cases c58 : (wrap64 (Int.tmod a0_0 8)) = 7
  · exact Raw_b3 k a0_0 a0_1 a0_2 a0_3 A0_4 c0_4 l0_4 a0_5 A0_6 c0_6 l0_6 r1 r2 r3 r4 r5 r6 r7 r8 w hr0_4 hc0_4 hr0_6 hc0_6 h c2 c16 c58
  by_cases c73 : (wrap64 (Int.tmod a0_0 8)) = 2
  · exact Raw_b4 k a0_0 a0_1 a0_2 a0_3 A0_4 c0_4 l0_4 a0_5 A0_6 c0_6 l0_6 r1 r2 r3 r4 r5 r6 r7 r8 w hr0_4 hc0_4 hr0_6 hc0_6 h c2 c16 c58 c73
  · exact Raw_b5 k a0_0 a0_1 a0_2 a0_3 A0_4 c0_4 l0_4 a0_5 A0_6 c0_6 l0_6 r1 r2 r3 r4 r5 r6 r7 r8 w hr0_4 hc0_4 hr0_6 hc0_6 h c2 c16 c58 c73

end Go.Proofs.YtbklalklebjiaaaGreatDoor.PCp
