/-
The law's arguments, as the form hands them over, as rows of the printed kinds.
-/
import Derived.Test.YtbklalklebjiaaaGreatDoorPCpx0
import Derived.ProofKit
import Derived.WideShapes
import Derived.DataReads
set_option linter.unusedVariables false
set_option linter.unusedSimpArgs false
namespace Go.Proofs.YtbklalklebjiaaaGreatDoor.PCp
open Go.RowKit Go.Proofs.YtbklalklebjiaaaGreatDoorW.PrintWords Go.Proofs.YtbklalklebjiaaaGreatDoorW.PrintLast Go.Proofs.YtbklalklebjiaaaGreatDoorW.PrintMore

theorem ex_list {β : Type} {Q : Nat → β → Prop} : ∀ {n : Nat}, (∀ j, j < n → ∃ p, Q j p) → ∃ xs : List β, xs.length = n ∧ ∀ (j : Nat) p, xs[j]? = some p → Q j p
  | 0, _ => ⟨[], rfl, fun j p h => by simp at h⟩
  | n + 1, h => by
    obtain ⟨xs, h1, h2⟩ := ex_list (n := n) (fun j hj => h j (by omega))
    obtain ⟨p, hp⟩ := h n (by omega)
    refine ⟨xs ++ [p], by simp [h1], fun j q hq => ?_⟩
    by_cases e : j < n
    · rw [List.getElem?_append_left (by omega)] at hq
      exact h2 j q hq
    · rw [List.getElem?_append_right (by omega)] at hq
      have hj : j - xs.length = 0 := by
        have := (List.getElem?_eq_some_iff.1 hq).1
        simp at this; omega
      rw [hj] at hq
      simp at hq
      subst hq
      have : j = n := by omega
      rw [this]; exact hp
theorem mapM_get {α β : Type} {f : α → Option β} : ∀ {l : List α} {xs : List β}, l.mapM f = some xs → xs.length = l.length ∧ ∀ (i : Nat) (x : α), l[i]? = some x → ∃ y, xs[i]? = some y ∧ f x = some y
  | [], xs, h => by
    simp at h; subst h
    exact ⟨rfl, fun i x hx => by simp at hx⟩
  | a :: l, xs, h => by
    simp only [List.mapM_cons, Option.bind_eq_bind, Option.bind_eq_some_iff, Option.pure_def, Option.some.injEq] at h
    obtain ⟨y, hy, ys, hys, rfl⟩ := h
    obtain ⟨h1, h2⟩ := mapM_get hys
    refine ⟨by simp [h1], fun i x hx => ?_⟩
    cases i with
    | zero => simp at hx; subst hx; exact ⟨y, rfl, hy⟩
    | succ i => exact h2 i x (by simpa using hx)
theorem add_add' (a : Addr) (m n : Nat) : (a.add m).add n = a.add (m + n) := by
  unfold Addr.add
  by_cases hm : m = 0
  · subst hm; simp
  · by_cases hn : n = 0
    · subst hn; simp
    · rw [if_neg hm, if_neg hn, if_neg (by omega)]
      simp; omega

section
variable {H : Type} {enc : TypeId × Value → H} {P : Program} {W : World} {base : Nat} {sp : Nat → Bool} {held : Bool}
theorem open_int' {t : TypeId} {k : IntKind} (ht : P.underlying t = some (.int k)) {fuel : Nat} {c : List Value} {y : DataW H × List MemPlace} (h : DataW.trod enc P W base sp held fuel t c = some y) : ∃ n, c = [.int k n] ∧ k.min ≤ n ∧ n ≤ k.max := by
  cases fuel with
  | zero => simp [DataW.trod] at h
  | succ fuel =>
    simp only [DataW.trod, ht] at h
    split at h <;> try (simp at *; done)
    rename_i h1
    cases h1
    split at h
    · rename_i h2
      obtain ⟨rfl, h3⟩ := h2
      simp only [Lit.wf, Bool.and_eq_true, decide_eq_true_eq] at h3
      exact ⟨_, rfl, h3.1, h3.2⟩
    · cases h
/-- A slice, as a row of a kind. -/
theorem open_row {α : Type} (d : Kd α) {OK : α → Prop} {t e : TypeId} (ht : P.underlying t = some (.slice e)) (hsz : P.cellsOf e = d.sz)
    (hel : ∀ {fuel cs y}, DataW.trod enc P W base sp held fuel e cs = some y → cs.length = d.sz → ∃ x, d.K W x cs ∧ OK x)
    {fuel : Nat} {c : List Value} {y : DataW H × List MemPlace} (h : DataW.trod enc P W base sp held fuel t c = some y) : ∃ (A : Option Addr) (len cap : Nat) (xs : List α), c = [.slice A len cap] ∧ xs.length = len ∧ d.C W A len xs ∧ len ≤ cap ∧ ∀ x ∈ xs, OK x := by
  cases fuel with
  | zero => simp [DataW.trod] at h
  | succ fuel =>
    simp only [DataW.trod, ht] at h
    split at h <;> try (simp at *; done)
    · rename_i h1
      exact ⟨none, 0, 0, [], rfl, rfl, ⟨rfl, by omega, fun h => by omega⟩, Nat.le_refl _, fun x hx => by cases hx⟩
    · rename_i e' a len cap h1
      cases h1
      split at h
      · rename_i h2
        obtain ⟨hb, hlc, hcm⟩ := h2
        simp only [Option.bind_eq_some_iff] at h
        obtain ⟨elems, he, _⟩ := h
        obtain ⟨_, hget⟩ := mapM_get he
        have hmax : maxLen = 9223372036854775807 := rfl
        obtain ⟨xs, hx1, hx2⟩ := ex_list (n := len) (Q := fun j x => OK x ∧ ∃ cs, cs.length = d.sz ∧ d.K W x cs ∧ ∀ i u, cs[i]? = some u → W.cell? (a.add (j * d.sz + i)) = some u) (fun j hj => by
          obtain ⟨y, _, hy⟩ := hget j j (by rw [List.getElem?_range hj])
          simp only [Option.bind_eq_some_iff] at hy
          obtain ⟨cs, hc, ht⟩ := hy
          obtain ⟨_, hl, hcell⟩ := World.cells?_some hc
          obtain ⟨x, hx, hok⟩ := hel ht (by rw [hl, hsz])
          refine ⟨x, hok, cs, by rw [hl, hsz], hx, fun i u hu => ?_⟩
          have hil := (List.getElem?_eq_some_iff.1 hu).1
          have := hcell i (by omega)
          rw [add_add', hsz] at this
          rw [this]; exact hu)
        refine ⟨some a, len, cap, xs, rfl, hx1, ⟨hx1, by omega, fun _ => ⟨a, rfl, fun j p hp => ?_⟩⟩, hlc, fun x hx => ?_⟩
        · obtain ⟨_, cs, h1, h2, h3⟩ := hx2 j p hp
          exact ⟨cs, h1, h2, h3⟩
        · obtain ⟨j, hj⟩ := List.getElem?_of_mem hx
          exact (hx2 j x hj).1
      · cases h
end

/-- A part. -/
theorem open_119 {H : Type} {enc : TypeId × Value → H} {W : World} {base : Nat} {sp : Nat → Bool} {held : Bool} {fuel : Nat} {cs : List Value} {y : DataW H × List MemPlace} (h : DataW.trod enc Tryz.prog W base sp held fuel 119 cs = some y) (hl : cs.length = k119.sz) : ∃ x, k119.K W x cs ∧ True := by
  have hl' : cs.length = 2 := hl
  obtain ⟨a, b, rfl⟩ : ∃ a b, cs = [a, b] := by
    match cs, hl' with
    | [a, b], _ => exact ⟨a, b, rfl⟩
  cases fuel with
  | zero => simp [DataW.trod] at h
  | succ fuel =>
    simp only [DataW.trod, Tryz.underlying119] at h
    split at h
    · simp only [Option.map_eq_some_iff] at h
      obtain ⟨xs, hx, _⟩ := h
      obtain ⟨_, hg⟩ := mapM_get hx
      obtain ⟨y0, _, h0⟩ := hg 0 _ rfl
      obtain ⟨y1, _, h1⟩ := hg 1 _ rfl
      obtain ⟨n0, e0, _, _⟩ := open_int' (P := Tryz.prog) (t := 5) (k := .u8) (by kernel_rfl) h0
      obtain ⟨n1, e1, _, _⟩ := open_int' (P := Tryz.prog) (t := 31) (k := .u32) (by kernel_rfl) h1
      have k5 : Tryz.prog.cellsOf 5 = 1 := by kernel_rfl
      have k31 : Tryz.prog.cellsOf 31 = 1 := by kernel_rfl
      simp only [k5, k31] at e0 e1
      have e0' : [a] = [Value.int .u8 n0] := e0
      have e1' : [b] = [Value.int .u32 n1] := e1
      cases e0'; cases e1'
      exact ⟨⟨n0, n1⟩, k119_mk W ⟨n0, n1⟩, trivial⟩
    · cases h
/-- A row of the law's input, as its type has it. -/
structure Ok29 (x : S29) : Prop where
  kind : 0 ≤ x.f0 ∧ x.f0 ≤ 255
  a : 0 ≤ x.f1 ∧ x.f1 ≤ 255
  b : 0 ≤ x.f2 ∧ x.f2 ≤ 255
  name : 0 ≤ x.f3 ∧ x.f3 ≤ 255
  parts : x.f4.length ≤ 9223372036854775807
  long : x.f6.length ≤ 9223372036854775807
theorem open_29 {H : Type} {enc : TypeId × Value → H} {W : World} {base : Nat} {sp : Nat → Bool} {held : Bool} {fuel : Nat} {cs : List Value} {y : DataW H × List MemPlace} (h : DataW.trod enc Tryz.prog W base sp held fuel 29 cs = some y) (hl : cs.length = k29.sz) : ∃ x, k29.K W x cs ∧ Ok29 x := by
  have hl' : cs.length = 7 := hl
  obtain ⟨a0, a1, a2, a3, a4, a5, a6, rfl⟩ : ∃ a0 a1 a2 a3 a4 a5 a6, cs = [a0, a1, a2, a3, a4, a5, a6] := by
    match cs, hl' with
    | [a0, a1, a2, a3, a4, a5, a6], _ => exact ⟨a0, a1, a2, a3, a4, a5, a6, rfl⟩
  cases fuel with
  | zero => simp [DataW.trod] at h
  | succ fuel =>
    simp only [DataW.trod, Tryz.underlying29] at h
    split at h
    · simp only [Option.map_eq_some_iff] at h
      obtain ⟨xs, hx, _⟩ := h
      obtain ⟨_, hg⟩ := mapM_get hx
      obtain ⟨y0, _, h0⟩ := hg 0 _ rfl
      obtain ⟨y1, _, h1⟩ := hg 1 _ rfl
      obtain ⟨y2, _, h2⟩ := hg 2 _ rfl
      obtain ⟨y3, _, h3⟩ := hg 3 _ rfl
      obtain ⟨y4, _, h4⟩ := hg 4 _ rfl
      obtain ⟨y5, _, h5⟩ := hg 5 _ rfl
      obtain ⟨y6, _, h6⟩ := hg 6 _ rfl
      have u5 : Tryz.prog.underlying 5 = some (.int .u8) := by kernel_rfl
      obtain ⟨n0, e0, b0, c0⟩ := open_int' (P := Tryz.prog) u5 h0
      obtain ⟨n1, e1, b1, c1⟩ := open_int' (P := Tryz.prog) u5 h1
      obtain ⟨n2, e2, b2, c2⟩ := open_int' (P := Tryz.prog) u5 h2
      obtain ⟨n3, e3, b3, c3⟩ := open_int' (P := Tryz.prog) u5 h3
      obtain ⟨A4, l4, p4, xs4, e4, x4, g4, q4, _⟩ := open_row (P := Tryz.prog) k119 (OK := fun _ => True) (t := 25) (e := 119) Tryz.underlying25 (by kernel_rfl) (fun h hl => open_119 h hl) h4
      obtain ⟨n5, e5, b5, c5⟩ := open_int' (P := Tryz.prog) (t := 26) (k := .i16) (by kernel_rfl) h5
      obtain ⟨A6, l6, p6, xs6, e6, x6, g6, q6, _⟩ := open_row (P := Tryz.prog) (Kd.int .u8) (OK := fun _ => True) (t := 27) (e := 5) Tryz.underlying27 (by kernel_rfl) (fun h hl => by
        obtain ⟨n, e, _, _⟩ := open_int' (P := Tryz.prog) u5 h
        exact ⟨n, e, trivial⟩) h6
      have k5 : Tryz.prog.cellsOf 5 = 1 := by kernel_rfl
      have k25 : Tryz.prog.cellsOf 25 = 1 := by kernel_rfl
      have k26 : Tryz.prog.cellsOf 26 = 1 := by kernel_rfl
      have k27 : Tryz.prog.cellsOf 27 = 1 := by kernel_rfl
      simp only [k5, k25, k26, k27] at e0 e1 e2 e3 e4 e5 e6
      have e0' : [a0] = [Value.int .u8 n0] := e0
      have e1' : [a1] = [Value.int .u8 n1] := e1
      have e2' : [a2] = [Value.int .u8 n2] := e2
      have e3' : [a3] = [Value.int .u8 n3] := e3
      have e4' : [a4] = [Value.slice A4 l4 p4] := e4
      have e5' : [a5] = [Value.int .i16 n5] := e5
      have e6' : [a6] = [Value.slice A6 l6 p6] := e6
      cases e0'; cases e1'; cases e2'; cases e3'; cases e4'; cases e5'; cases e6'
      subst x4 x6
      have r0 : (0 : Int) ≤ n0 ∧ n0 ≤ 255 := ⟨b0, c0⟩
      have r1 : (0 : Int) ≤ n1 ∧ n1 ≤ 255 := ⟨b1, c1⟩
      have r2 : (0 : Int) ≤ n2 ∧ n2 ≤ 255 := ⟨b2, c2⟩
      have r3 : (0 : Int) ≤ n3 ∧ n3 ≤ 255 := ⟨b3, c3⟩
      exact ⟨⟨n0, n1, n2, n3, xs4, n5, xs6⟩, k29_mk W ⟨n0, n1, n2, n3, xs4, n5, xs6⟩ q4 g4 q6 g6, ⟨r0, r1, r2, r3, g4.2.1, g6.2.1⟩⟩
    · cases h
end Go.Proofs.YtbklalklebjiaaaGreatDoor.PCp
