/-
What stands outside the abstract machine at this program; the closed run as a contract; the listed variables.
-/
import Derived.Test.YtbklalklebjiaaaGreatDoorAmb
import Derived.Test.YtbklalklebjiaaaGreatDoorProg
import Derived.Recover
import Derived.Shelf.Strings.OnBuilder
import Derived.Test.YtbklalklebjiaaaGreatDoorRows
set_option linter.unusedVariables false
set_option linter.unusedSimpArgs false
namespace Go.Proofs.YtbklalklebjiaaaGreatDoor.XAm
open Go Go.Proofs Go.RowKit

theorem parse_deferred (args : Array Value) (w : World) : CallsD Tryz.prog 123 args .returning w fun e u w' => (∃ v, e = .returned v) ∧ u = .returning ∧ ∃ d, w' = { w with drawn := d } := by
  refine callsD_of_wpS Tryz.func123 rfl fun c₀ cs hu => ?_
  have hrec : recoverD (c₀ :: cs) = none := by simp [recoverD, hu]
  have hsz : 21 ≤ (args ++ Array.replicate (Tryz.f123.ntmps - args.size) undef).size := by
    have : Tryz.f123.ntmps = 21 := rfl
    rw [this]; simp; omega
  generalize (args ++ Array.replicate (Tryz.f123.ntmps - args.size) undef) = T at hsz
  have h3 : 3 < T.size := by omega
  have h6 : 6 < T.size := by omega
  have h7 : 7 < T.size := by omega
  have h8 : 8 < T.size := by omega
  refine wpS_seq (wpS_region ?_)
  have hr2 : ∀ o1 o2 : Oper, List.range (#[o1, o2] : Array Oper).size = [0, 1] := fun _ _ => rfl
  rw [hr2]
  simp only [wpOpsS, List.getElem?_toArray, List.getElem?_cons_zero, List.getElem?_cons_succ, Region.wanted, if_true, execOp, resolve, invoke, builtin, Sem.run_bind, Sem.run_pure, Result.andThen_ok, hrec, List.map_toArray, List.map_nil, Exit.thenS]
  rw [Oper.upon_value]
  have e1 : ((({ tmps := T, defers := [] } : Act).put (some 6) .nilIface).eval (.tmp 6)) = .nilIface := by simp [Act.eval, Act.put, h6]
  rw [e1]
  refine wpS_seq (wpS_region ?_)
  rw [hr2]
  simp only [wpOpsS, List.getElem?_toArray, List.getElem?_cons_zero, List.getElem?_cons_succ, Region.wanted, if_true, execOp, Sem.run_bind, Sem.run_pure, Result.andThen_ok]
  rw [Oper.upon_value]
  have e2 : (((({ tmps := T, defers := [] } : Act).put (some 6) .nilIface).put (some 3) .nilIface).eval (.tmp 3)) = .nilIface := by simp [Act.eval, Act.put, h3]
  rw [e2]
  have e3 : ((((({ tmps := T, defers := [] } : Act).put (some 6) .nilIface).put (some 3) .nilIface).put (some 7) .nilIface).eval (.tmp 7)) = .nilIface := by simp [Act.eval, Act.put, h7]
  have e4 : ((((({ tmps := T, defers := [] } : Act).put (some 6) .nilIface).put (some 3) .nilIface).put (some 7) .nilIface).eval (.const .nilIface)) = .nilIface := rfl
  rw [e3, e4]
  have e5 : (binOp .neq 20 .nilIface .nilIface).run Tryz.prog w = .ok (.bool false) w := by
    have hn : aNil Tryz.prog 20 .niliface .niliface = some true := by kernel_rfl
    have hq : (Op.equal 20 .nilIface .nilIface).run Tryz.prog w = .ok true w := nil_sound (P := Tryz.prog) (r := fun _ => none) hn .niliface .niliface 9999 w
    have hb : (binOp .neq 20 .nilIface .nilIface).run Tryz.prog w = ((Op.equal 20 .nilIface .nilIface).run Tryz.prog w).andThen fun b w' => .ok (.bool (!b)) w' := by simp only [binOp]; simp
    rw [hb, hq]
    rfl
  simp only [eqGuard_nil_constR, Sem.run_pure, Result.andThen_ok, e5, Oper.upon_value]
  simp only [Exit.thenS]
  refine wpS_cond (t := false) (by simp [Act.eval, Act.put, h8]) ?_
  rw [if_neg (by simp)]
  refine wpS_of_wp (wp_skip ?_)
  refine ⟨rfl, .returning, ?_, .tuple #[], results_none rfl _ _ _, ⟨_, rfl⟩, rfl, w.drawn, rfl⟩
  rw [← hu]
end Go.Proofs.YtbklalklebjiaaaGreatDoor.XAm

namespace Go.Proofs
open Go.Shelf
def Tryz.lays156_ren : Go.Shelf.Ren := ⟨fun | 156 => 165 | 165 => 195 | 166 => 196 | 169 => 197 | 240 => 219 | 241 => 220 | 276 => 240 | 277 => 241 | n => n, fun | 31 => 160 | 9 => 9 | 3 => 3 | 4 => 4 | 0 => 0 | 20 => 20 | 72 => 294 | 76 => 298 | 70 => 292 | 37 => 27 | 75 => 297 | 127 => 322 | 164 => 337 | 5 => 5 | 80 => 236 | n => n, fun | n => n⟩
theorem Tryz.lays156 : Go.Proofs.Lays.n156 Tryz.prog Tryz.lays156_ren := {
  mixed := by kernel_rfl
  f156 := Tryz.func165.trans (congrArg some (by kernel_rfl))
  f165 := Tryz.func195.trans (congrArg some (by kernel_rfl))
  f166 := Tryz.func196.trans (congrArg some (by kernel_rfl))
  f169 := Tryz.func197.trans (congrArg some (by kernel_rfl))
  f240 := Tryz.func219.trans (congrArg some (by kernel_rfl))
  f241 := Tryz.func220.trans (congrArg some (by kernel_rfl))
  f276 := Tryz.func240.trans (congrArg some (by kernel_rfl))
  f277 := Tryz.func241.trans (congrArg some (by kernel_rfl))
  t0 := Tryz.underlying0
  a0 := Tryz.isAgg0
  z0 := Tryz.sizeOf0
  v0 := Tryz.zeroValue0
  t3 := Tryz.underlying3
  a3 := Tryz.isAgg3
  z3 := Tryz.sizeOf3
  v3 := Tryz.zeroValue3
  t4 := Tryz.underlying4
  a4 := Tryz.isAgg4
  z4 := Tryz.sizeOf4
  v4 := Tryz.zeroValue4
  t9 := Tryz.underlying9
  a9 := Tryz.isAgg9
  z9 := Tryz.sizeOf9
  v9 := Tryz.zeroValue9
  t20 := Tryz.underlying20
  a20 := Tryz.isAgg20
  z20 := Tryz.sizeOf20
  v20 := Tryz.zeroValue20
  t31 := Tryz.underlying160
  a31 := Tryz.isAgg160
  z31 := Tryz.sizeOf160
  v31 := Tryz.zeroValue160
  t37 := Tryz.underlying27
  a37 := Tryz.isAgg27
  z37 := Tryz.sizeOf27
  v37 := Tryz.zeroValue27
  t70 := Tryz.underlying292
  a70 := Tryz.isAgg292
  z70 := Tryz.sizeOf292
  v70 := Tryz.zeroValue292
  t72 := Tryz.underlying294
  a72 := Tryz.isAgg294
  z72 := Tryz.sizeOf294
  v72 := Tryz.zeroValue294
  t75 := Tryz.underlying297
  a75 := Tryz.isAgg297
  z75 := Tryz.sizeOf297
  v75 := Tryz.zeroValue297
  t76 := Tryz.underlying298
  a76 := Tryz.isAgg298
  z76 := Tryz.sizeOf298
  v76 := Tryz.zeroValue298
  t127 := Tryz.underlying322
  a127 := Tryz.isAgg322
  z127 := Tryz.sizeOf322
  v127 := Tryz.zeroValue322
  t164 := Tryz.underlying337
  a164 := Tryz.isAgg337
  z164 := Tryz.sizeOf337
  v164 := Tryz.zeroValue337 }
theorem Tryz.Builder_Extra_156 : Builder.Extra Tryz.prog Tryz.lays156_ren := {
  sizeBuilder := by kernel_rfl
  liesBuilder := by kernel_rfl
  t5 := Tryz.underlying5
  a5 := Tryz.isAgg5
  z5 := Tryz.sizeOf5
  v5 := Tryz.zeroValue5
  infoByte := by kernel_rfl
  cellsByte := by kernel_rfl
  sizeByte := by kernel_rfl
  neB5 := by decide }
open Go.RowKit in
/-- No element: the empty string; the world is as it was. (Whatever the slice's address and capacity: a nil slice too.) (LAID: no walk: one application.) -/
theorem Tryz.strings_Join_none (a : Option Addr) (c : Nat) (sep : ByteArray) (w : World) :
    Calls Tryz.prog 165 #[.slice a 0 c, .string sep] w fun e w' => e = .returned (.string ⟨#[]⟩) ∧ w' = w := Any.strings_Join_none Tryz.lays156 Tryz.Builder_Extra_156 a c sep w
open Go.RowKit in
/-- strings.Join: "Join concatenates the elements of its first argument to create a single string. The separator string sep is placed between elements in the resulting string.": HOWEVER MANY ELEMENTS. Below the heap's end the world is as it was. (LAID: no walk: one application.) -/
theorem Tryz.strings_Join (bk o c : Nat) (xs : List ByteArray) (sep : ByteArray) (w : World) (hcells : ∀ (j : Nat) x, xs[j]? = some x → w.cell? ⟨bk, o + j, none⟩ = some (.string x)) (hbk : bk < w.heap.size) (hN : xs.length ≤ 140737488355328) (hcap : xs.length ≤ c) (hlen : (Lib.join (xs.map (·.data.toList)) sep.data.toList).length ≤ 140737488355328) :
    Calls Tryz.prog 165 #[.slice (some ⟨bk, o, none⟩) xs.length c, .string sep] w fun e w' => e = .returned (.string ⟨(Lib.join (xs.map (·.data.toList)) sep.data.toList).toArray⟩) ∧ Below w.heap.size w w' := Any.strings_Join Tryz.lays156 Tryz.Builder_Extra_156 bk o c xs sep w hcells hbk hN hcap hlen
end Go.Proofs

set_option linter.unusedVariables false
set_option linter.unusedSimpArgs false
namespace Go.Proofs.YtbklalklebjiaaaGreatDoor.XAm
open Go Go.Proofs Go.RowKit

noncomputable def xExt (g : FuncId) (H : T AObj) (l : List AV) : Option AV :=
  match Nat.beq g 234 with
  | true => xIndexByte l
  | false => match Nat.beq g 206 with
    | true => xOverlaps H l
    | false => none
theorem xExt_sound : ∀ g H l v, xExt g H l = some v → ∀ (B : Nat) (r : Ren) (cs : List Value) (w : World), HRel B r H w → VRels r l cs → ∃ u, (callFunc g ⟨cs⟩).run Tryz.prog w = .ok (.value u) w ∧ VRel r v u := by
  intro g H l v h B r cs w hH hv
  unfold xExt at h
  split at h
  · rename_i hg
    have := beq_t hg
    subst this
    exact xIndexByte_sound Tryz.func234 (by kernel_rfl) (by kernel_rfl) (by kernel_rfl) (by kernel_rfl) h hv w
  · split at h
    · rename_i hg
      have := beq_t hg
      subst this
      exact xOverlaps_sound (tS := 58) (tR := 4) (e := 45) (size := 1) Tryz.func206 (by kernel_rfl) (by kernel_rfl) (by kernel_rfl) (by kernel_rfl) (by kernel_rfl) (by kernel_rfl) h hH hv
    · cases h
theorem none_sound (G : Nat) : CSound Tryz.prog G (fun _ _ _ => none) := fun g l s v s' h => nomatch h
noncomputable def orc1 : Orc Tryz.prog 8 :=
  { ext := xExt, ext_sound := xExt_sound, fn := fun _ _ _ => none, fn_sound := none_sound 8, dfr := fun _ => false, dfr_sound := fun g h => nomatch h }
theorem mixed : Tryz.prog.follows .mixedOrders = true := by kernel_rfl
noncomputable def xFn (g : FuncId) (l : List AV) (s : HS) : Option (AV × HS) :=
  match Nat.beq g 180 with
  | true => aInsert (aFunc Tryz.prog orc1 10000 50) 180 l s
  | false => match Nat.beq g 165 with
    | true => aJoin l s
    | false => none
theorem xFn_sound : CSound Tryz.prog 8 xFn := by
  intro g l s v s' h
  unfold xFn at h
  split at h
  · rename_i hg
    have := beq_t hg
    subst this
    exact insert_sound (func_sound mixed 10000 50) l s v s' h
  · split at h
    · rename_i hg
      have := beq_t hg
      subst this
      exact join_sound Tryz.strings_Join_none Tryz.strings_Join l s v s' h
    · cases h
noncomputable def orc : Orc Tryz.prog 8 :=
  { ext := xExt, ext_sound := xExt_sound, fn := xFn, fn_sound := xFn_sound, dfr := fun g => Nat.beq g 123, dfr_sound := fun g h => by
      have := beq_t h
      subst this
      exact parse_deferred }
def isTr : Option (AV × HS) → Bool
  | some (.bool true, _) => true
  | _ => false
end Go.Proofs.YtbklalklebjiaaaGreatDoor.XAm

set_option linter.unusedVariables false
set_option linter.unusedSimpArgs false
namespace Go.Proofs.YtbklalklebjiaaaGreatDoor.XAm
open Go Go.Proofs Go.RowKit

/-- The variables' blocks read as H says. -/
def GlobAt (H : T AObj) (G : Nat) (w : World) : Prop :=
  G ≤ w.heap.size ∧ ∀ b o, H.get b = some o → b < G ∧ o.ro = true ∧ ∃ oc K, w.heap[b]? = some oc ∧ ORel (fun _ => none) K o oc
def sizeAt (w : World) (b : Nat) : Nat := match w.heap[b]? with
  | some (.cells c _ _) => c.size
  | _ => 0
def renG (G : Nat) (w : World) : Ren := fun g => if g < G then some (g, sizeAt w g) else none

theorem closed_calls {P : Program} {G : Nat} {orc : Orc P G} (hm : P.follows .mixedOrders = true) {KF k f n : Nat} {H : T AObj} (hcells : ∀ b o, H.get b = some o → ∃ l t ro, o = .cells l t ro) (hn : G ≤ n) (h : isTr (aFunc P orc KF k f [] ⟨H, n⟩) = true) {w : World} (hw : GlobAt H G w) :
    Calls P f #[] w fun e w' => e = .returned (.bool true) ∧ Below w.heap.size w w' := by
  obtain ⟨s', hs⟩ : ∃ s', aFunc P orc KF k f [] ⟨H, n⟩ = some (.bool true, s') := by
    generalize aFunc P orc KF k f [] ⟨H, n⟩ = q at h
    unfold isTr at h
    split at h
    · exact ⟨_, rfl⟩
    · cases h
  have hR : HRel w.heap.size (renG G w) H w := by
    refine ⟨fun b o hb => ?_, fun b1 b2 o1 o2 c K1 K2 g1 g2 q1 q2 => ?_, fun b o c K hb hr hro => ?_, Nat.le_refl _⟩
    · obtain ⟨hbG, hro, oc, K, hoc, hO⟩ := hw.2 b o hb
      obtain ⟨l, t, ro, rfl⟩ := hcells b o hb
      cases oc <;> simp only [ORel] at hO
      rename_i c t' fz
      have hK : sizeAt w b = c.size := by simp [sizeAt, hoc]
      refine ⟨b, c.size, _, by simp [renG, hbG, hK], hoc, ?_⟩
      have hO' : ORel (renG G w) K (.cells l t ro) (.cells c t' fz) := ORel.mono (r := fun _ => none) (fun b x hx => by cases hx) (by simp only [ORel]; exact hO)
      rw [hO.1]
      exact hO'
    · simp only [renG] at q1 q2
      split at q1
      · split at q2
        · cases q1; cases q2; rfl
        · cases q2
      · cases q1
    · have := (hw.2 b o hb).2.1
      rw [this] at hro; cases hro
  have hG : Glob G (renG G w) := fun g hg => ⟨sizeAt w g, by simp [renG, hg]⟩
  have hF : Fresh (renG G w) n s'.n := fun b hb _ => by
    simp only [renG]
    rw [if_neg (by omega)]
  refine (func_sound hm KF k _ _ _ _ _ hs w.heap.size (renG G w) [] w hR hG hF .nil).mono fun e w' he => ?_
  obtain ⟨u, r', rfl, st, hv⟩ := he
  cases hv
  exact ⟨rfl, st.below⟩
end Go.Proofs.YtbklalklebjiaaaGreatDoor.XAm

set_option linter.unusedVariables false
set_option linter.unusedSimpArgs false
namespace Go.Proofs.YtbklalklebjiaaaGreatDoor.XAm
open Go Go.Proofs Go.RowKit

section
variable {H : Type} {enc : TypeId × Value → H} {P : Program} {w : World} {base : Nat} {sp : Nat → Bool} {held : Bool}

def F0 : DataW H → List Value
  | .lit (.int k n) => [.int k n]
  | .lit (.string b) => [.string ⟨b.toArray⟩]
  | _ => []
def F1 : DataW H → List Value
  | .agg ds => ds.flatMap F0
  | _ => []
theorem trod_int0 {t : TypeId} {k : IntKind} (ht : P.underlying t = some (.int k)) {fuel : Nat} {c : List Value} {y : DataW H × List MemPlace} (h : DataW.trod enc P w base sp held fuel t c = some y) : c = F0 y.1 := by
  cases fuel with
  | zero => simp [DataW.trod] at h
  | succ fuel =>
    simp only [DataW.trod, ht] at h
    split at h <;> try (simp at *; done)
    rename_i h1
    cases h1
    split at h
    · rename_i h2
      obtain ⟨rfl, _⟩ := h2
      cases h; rfl
    · cases h
theorem trod_str0 {t : TypeId} (ht : P.underlying t = some .string) {fuel : Nat} {c : List Value} {y : DataW H × List MemPlace} (h : DataW.trod enc P w base sp held fuel t c = some y) : c = F0 y.1 := by
  cases fuel with
  | zero => simp [DataW.trod] at h
  | succ fuel =>
    simp only [DataW.trod, ht] at h
    split at h <;> try (simp at *; done)
    split at h
    · cases h; rfl
    · cases h
theorem mapM_some {α β : Type} {f : α → Option β} : ∀ {l : List α} {xs : List β}, l.mapM f = some xs → xs.length = l.length ∧ ∀ (i : Nat) (x : α), l[i]? = some x → ∃ y, xs[i]? = some y ∧ f x = some y
  | [], xs, h => by
    simp at h; subst h
    exact ⟨rfl, fun i x hx => by simp at hx⟩
  | a :: l, xs, h => by
    simp only [List.mapM_cons, Option.bind_eq_bind, Option.bind_eq_some_iff, Option.pure_def, Option.some.injEq] at h
    obtain ⟨y, hy, ys, hys, rfl⟩ := h
    obtain ⟨h1, h2⟩ := mapM_some hys
    refine ⟨by simp [h1], fun i x hx => ?_⟩
    cases i with
    | zero => simp at hx; subst hx; exact ⟨y, rfl, hy⟩
    | succ i => exact h2 i x (by simpa using hx)
theorem trod_arr {t e : TypeId} {n : Nat} (ht : P.underlying t = some (.array n e)) (hc : P.cellsOf t = n * P.cellsOf e) {G : DataW H → List Value} {fuel : Nat} {c : List Value} {y : DataW H × List MemPlace}
    (hstep : ∀ {c y}, DataW.trod enc P w base sp held (fuel - 1) e c = some y → c = G y.1) (h : DataW.trod enc P w base sp held fuel t c = some y) : ∃ ds, y.1 = .agg ds ∧ c = ds.flatMap G := by
  cases fuel with
  | zero => simp [DataW.trod] at h
  | succ fuel =>
    simp only [Nat.add_sub_cancel] at hstep
    simp only [DataW.trod, ht] at h
    split at h
    · rename_i hl
      simp only [Option.map_eq_some_iff] at h
      obtain ⟨xs, hx, rfl⟩ := h
      obtain ⟨h1, h2⟩ := mapM_some hx
      rw [List.length_range] at h1
      refine ⟨_, rfl, ?_⟩
      have key : ∀ m, m ≤ n → c.take (m * P.cellsOf e) = ((xs.take m).map (·.1)).flatMap G := by
        intro m
        induction m with
        | zero => intro _; simp
        | succ m ih =>
          intro hm
          obtain ⟨y, hy, hf⟩ := h2 m m (by rw [List.getElem?_range (by omega)])
          have := hstep hf
          rw [Nat.succ_mul, List.take_add, ih (by omega), this]
          have hml : m < xs.length := by omega
          rw [List.take_add_one, hy]
          simp
      have := key n (Nat.le_refl _)
      rw [← hc, ← hl, List.take_length, List.take_of_length_le (by omega)] at this
      exact this
    · cases h
end

/-- Plain cells, as abstract ones. -/
def litB : List AV → List Value → Bool
  | [], [] => true
  | .int k n :: l, .int k' n' :: c => decide (k = k') && decide (n = n') && litB l c
  | .str s :: l, .string s' :: c => decide (s = s') && litB l c
  | _, _ => false
theorem litB_rel {r : Ren} : ∀ {l : List AV} {c : List Value}, litB l c = true → VRels r l c
  | [], [], _ => .nil
  | [], _ :: _, h => by simp [litB] at h
  | a :: l, [], h => by cases a <;> simp [litB] at h
  | a :: l, v :: c, h => by
    cases a <;> cases v <;> simp only [litB, Bool.false_eq_true, Bool.and_eq_true, decide_eq_true_eq] at h
    · obtain ⟨⟨rfl, rfl⟩, h⟩ := h
      exact .cons (.int _ _) (litB_rel h)
    · obtain ⟨rfl, h⟩ := h
      exact .cons (.str _) (litB_rel h)
theorem glob_obj {w : World} {P : Program} {nm : String} {g : Nat} {cs : List Value} {l : List AV} {t : TypeId} (hg : P.globalNamed nm = some g) (hv : w.var? P nm = some ⟨cs⟩) (hl : litB l cs = true) :
    ∃ oc K, w.heap[g]? = some oc ∧ ORel (fun _ => none) K (.cells l t true) oc := by
  simp only [World.var?, hg, Option.bind_some] at hv
  split at hv
  · rename_i c t' f hh
    simp only [Option.some.injEq] at hv
    subst hv
    refine ⟨_, cs.length, hh, ?_⟩
    have hr : VRels (fun _ => none) l cs := litB_rel hl
    simp only [ORel]
    refine ⟨rfl, by rw [hr.length]; exact Nat.le_refl _, (fun h => nomatch h), fun n a hn => ?_, (fun h => nomatch h)⟩
    obtain ⟨v, e, hv⟩ := hr.nth hn
    exact ⟨v, by simpa using e, hv⟩
  · cases hv

def gC (l : List AV) (t : TypeId) : Option AObj := some (.cells l t true)
def gWords : List AV := [.str ⟨#[114, 101, 110, 117, 109, 98, 101, 114]⟩, .str ⟨#[116, 111]⟩, .str ⟨#[114, 101, 110, 97, 109, 101]⟩, .str ⟨#[]⟩, .str ⟨#[114, 101, 112, 97, 114, 101, 110, 116]⟩, .str ⟨#[117, 110, 100, 101, 114]⟩, .str ⟨#[109, 101, 114, 103, 101]⟩, .str ⟨#[105, 110, 116, 111]⟩, .str ⟨#[115, 112, 108, 105, 116]⟩, .str ⟨#[105, 110, 116, 111]⟩, .str ⟨#[114, 101, 99, 111, 100, 101]⟩, .str ⟨#[116, 111]⟩, .str ⟨#[106, 111, 105, 110]⟩, .str ⟨#[105, 110, 116, 111]⟩, .str ⟨#[99, 97, 108, 101, 110, 100, 97, 114]⟩, .str ⟨#[117, 110, 116, 105, 108]⟩]
def gPow : List AV := [.int .u64 1, .int .u64 10, .int .u64 100, .int .u64 1000, .int .u64 10000, .int .u64 100000, .int .u64 1000000, .int .u64 10000000, .int .u64 100000000, .int .u64 1000000000, .int .u64 10000000000, .int .u64 100000000000, .int .u64 1000000000000, .int .u64 10000000000000, .int .u64 100000000000000, .int .u64 1000000000000000, .int .u64 10000000000000000, .int .u64 100000000000000000, .int .u64 1000000000000000000, .int .u64 10000000000000000000]
def gMonths : List AV := [.int .i64 31, .int .i64 28, .int .i64 31, .int .i64 30, .int .i64 31, .int .i64 30, .int .i64 31, .int .i64 31, .int .i64 30, .int .i64 31, .int .i64 30, .int .i64 31]
def gTab32 : List AV := [.int .u8 0, .int .u8 1, .int .u8 28, .int .u8 2, .int .u8 29, .int .u8 14, .int .u8 24, .int .u8 3, .int .u8 30, .int .u8 22, .int .u8 20, .int .u8 15, .int .u8 25, .int .u8 17, .int .u8 4, .int .u8 8, .int .u8 31, .int .u8 27, .int .u8 13, .int .u8 23, .int .u8 21, .int .u8 19, .int .u8 16, .int .u8 7, .int .u8 26, .int .u8 12, .int .u8 18, .int .u8 6, .int .u8 11, .int .u8 5, .int .u8 10, .int .u8 9]
def gTab64 : List AV := [.int .u8 0, .int .u8 1, .int .u8 56, .int .u8 2, .int .u8 57, .int .u8 49, .int .u8 28, .int .u8 3, .int .u8 61, .int .u8 58, .int .u8 42, .int .u8 50, .int .u8 38, .int .u8 29, .int .u8 17, .int .u8 4, .int .u8 62, .int .u8 47, .int .u8 59, .int .u8 36, .int .u8 45, .int .u8 43, .int .u8 51, .int .u8 22, .int .u8 53, .int .u8 39, .int .u8 33, .int .u8 30, .int .u8 24, .int .u8 18, .int .u8 12, .int .u8 5, .int .u8 63, .int .u8 55, .int .u8 48, .int .u8 27, .int .u8 60, .int .u8 41, .int .u8 37, .int .u8 16, .int .u8 46, .int .u8 35, .int .u8 44, .int .u8 21, .int .u8 52, .int .u8 32, .int .u8 23, .int .u8 11, .int .u8 54, .int .u8 26, .int .u8 40, .int .u8 15, .int .u8 34, .int .u8 20, .int .u8 31, .int .u8 10, .int .u8 25, .int .u8 14, .int .u8 19, .int .u8 9, .int .u8 13, .int .u8 8, .int .u8 7, .int .u8 6]
def H0 : T AObj := T.put F (T.put F (T.put F (T.put F (T.put F (.nil) 0 (gC gWords 290)) 1 (gC gPow 334)) 2 (gC gMonths 340)) 4 (gC gTab32 359)) 5 (gC gTab64 360)
theorem H0_get {b : Nat} {o : AObj} (h : H0.get b = some o) : (b = 0 ∧ o = .cells gWords 290 true) ∨ (b = 1 ∧ o = .cells gPow 334 true) ∨ (b = 2 ∧ o = .cells gMonths 340 true) ∨ (b = 4 ∧ o = .cells gTab32 359 true) ∨ (b = 5 ∧ o = .cells gTab64 360 true) := by
  unfold H0 gC at h
  have hF : ∀ n, n < 60000 → n + 1 < 2 ^ F := fun n h => by unfold F; omega
  by_cases e5 : b = 5
  · rw [e5, T.get_put_same F _ 5 _ (hF 5 (by omega))] at h; cases h; simp [e5]
  rw [T.get_put_other F _ _ _ _ e5] at h
  by_cases e4 : b = 4
  · rw [e4, T.get_put_same F _ 4 _ (hF 4 (by omega))] at h; cases h; simp [e4]
  rw [T.get_put_other F _ _ _ _ e4] at h
  by_cases e2 : b = 2
  · rw [e2, T.get_put_same F _ 2 _ (hF 2 (by omega))] at h; cases h; simp [e2]
  rw [T.get_put_other F _ _ _ _ e2] at h
  by_cases e1 : b = 1
  · rw [e1, T.get_put_same F _ 1 _ (hF 1 (by omega))] at h; cases h; simp [e1]
  rw [T.get_put_other F _ _ _ _ e1] at h
  by_cases e0 : b = 0
  · rw [e0, T.get_put_same F _ 0 _ (hF 0 (by omega))] at h; cases h; simp [e0]
  rw [T.get_put_other F _ _ _ _ e0] at h
  cases h
theorem H0_cells : ∀ b o, H0.get b = some o → ∃ l t ro, o = .cells l t ro := fun b o h => by
  rcases H0_get h with ⟨_, rfl⟩ | ⟨_, rfl⟩ | ⟨_, rfl⟩ | ⟨_, rfl⟩ | ⟨_, rfl⟩ <;> exact ⟨_, _, _, rfl⟩

open Go.Proofs.YtbklalklebjiaaaGreatDoor.Rows in
/-- The row's premise, as the machine asks it. -/
theorem globAt_of_laid {w : World} (h : laidMet Tryz.prog [("math/bits.deBruijn32tab", laid_math_bits_deBruijn32tab), ("math/bits.deBruijn64tab", laid_math_bits_deBruijn64tab), ("internal/strconv.uint64pow10", laid_internal_strconv_uint64pow10), ("strconv.ErrRange", laid_strconv_ErrRange), ("strconv.ErrSyntax", laid_strconv_ErrSyntax), ("transposal/day.months", laid_transposal_day_months), ("transposal/script.words", laid_transposal_script_words)] w) : GlobAt H0 8 w := by
  obtain ⟨ps, ⟨g0, t0, cs0, f0, p0, q0, hg0, ht0, hv0, hd0, ⟨g1, t1, cs1, f1, p1, q1, hg1, ht1, hv1, hd1, ⟨g2, t2, cs2, f2, p2, q2, hg2, ht2, hv2, hd2, ⟨g3, t3, cs3, f3, p3, q3, hg3, ht3, hv3, hd3, ⟨g4, t4, cs4, f4, p4, q4, hg4, ht4, hv4, hd4, ⟨g5, t5, cs5, f5, p5, q5, hg5, ht5, hv5, hd5, ⟨g6, t6, cs6, f6, p6, q6, hg6, ht6, hv6, hd6, _⟩, _⟩, _⟩, _⟩, _⟩, _⟩, _⟩, _⟩ := h
  obtain rfl := Option.some.inj ((show Tryz.prog.globalNamed "math/bits.deBruijn32tab" = some 4 by kernel_rfl).symm.trans hg0)
  obtain rfl := Option.some.inj ((show Tryz.prog.globalNamed "math/bits.deBruijn64tab" = some 5 by kernel_rfl).symm.trans hg1)
  obtain rfl := Option.some.inj ((show Tryz.prog.globalNamed "internal/strconv.uint64pow10" = some 1 by kernel_rfl).symm.trans hg2)
  obtain rfl := Option.some.inj ((show Tryz.prog.globalNamed "strconv.ErrRange" = some 7 by kernel_rfl).symm.trans hg3)
  obtain rfl := Option.some.inj ((show Tryz.prog.globalNamed "transposal/day.months" = some 2 by kernel_rfl).symm.trans hg5)
  obtain rfl := Option.some.inj ((show Tryz.prog.globalNamed "transposal/script.words" = some 0 by kernel_rfl).symm.trans hg6)
  obtain rfl := Option.some.inj ((show (Tryz.prog.globals[4]?).map (·.type) = some 359 by kernel_rfl).symm.trans ht0)
  obtain rfl := Option.some.inj ((show (Tryz.prog.globals[5]?).map (·.type) = some 360 by kernel_rfl).symm.trans ht1)
  obtain rfl := Option.some.inj ((show (Tryz.prog.globals[1]?).map (·.type) = some 334 by kernel_rfl).symm.trans ht2)
  obtain rfl := Option.some.inj ((show (Tryz.prog.globals[2]?).map (·.type) = some 340 by kernel_rfl).symm.trans ht5)
  obtain rfl := Option.some.inj ((show (Tryz.prog.globals[0]?).map (·.type) = some 290 by kernel_rfl).symm.trans ht6)
  have i5 : Tryz.prog.underlying 5 = some (.int .u8) := by kernel_rfl
  have i3 : Tryz.prog.underlying 3 = some (.int .i64) := by kernel_rfl
  have i54 : Tryz.prog.underlying 54 = some (.int .u64) := by kernel_rfl
  have i9 : Tryz.prog.underlying 9 = some .string := by kernel_rfl
  obtain ⟨ds0, e0, c0⟩ := trod_arr (P := Tryz.prog) (t := 359) (e := 5) (n := 32) (by kernel_rfl) (by kernel_rfl) (fun h => trod_int0 i5 h) hd0
  obtain ⟨ds1, e1, c1⟩ := trod_arr (P := Tryz.prog) (t := 360) (e := 5) (n := 64) (by kernel_rfl) (by kernel_rfl) (fun h => trod_int0 i5 h) hd1
  obtain ⟨ds2, e2, c2⟩ := trod_arr (P := Tryz.prog) (t := 334) (e := 54) (n := 20) (by kernel_rfl) (by kernel_rfl) (fun h => trod_int0 i54 h) hd2
  obtain ⟨ds5, e5, c5⟩ := trod_arr (P := Tryz.prog) (t := 340) (e := 3) (n := 12) (by kernel_rfl) (by kernel_rfl) (fun h => trod_int0 i3 h) hd5
  obtain ⟨ds6, e6, c6⟩ := trod_arr (P := Tryz.prog) (t := 290) (e := 289) (n := 8) (by kernel_rfl) (by kernel_rfl) (G := F1) (fun {c y} h => by
    obtain ⟨ds, h1, h2⟩ := trod_arr (P := Tryz.prog) (t := 289) (e := 9) (n := 2) (by kernel_rfl) (by kernel_rfl) (fun h => trod_str0 i9 h) h
    rw [h1]; exact h2) hd6
  obtain ⟨cs0⟩ := cs0; obtain ⟨cs1⟩ := cs1; obtain ⟨cs2⟩ := cs2; obtain ⟨cs5⟩ := cs5; obtain ⟨cs6⟩ := cs6
  simp only [laid_math_bits_deBruijn32tab, DataW.agg.injEq] at e0
  simp only [laid_math_bits_deBruijn64tab, DataW.agg.injEq] at e1
  simp only [laid_internal_strconv_uint64pow10, DataW.agg.injEq] at e2
  simp only [laid_transposal_day_months, DataW.agg.injEq] at e5
  simp only [laid_transposal_script_words, DataW.agg.injEq] at e6
  subst e0 e1 e2 e5 e6
  have c0' : cs0 = _ := c0
  have c1' : cs1 = _ := c1
  have c2' : cs2 = _ := c2
  have c5' : cs5 = _ := c5
  have c6' : cs6 = _ := c6
  subst c0' c1' c2' c5' c6'
  have o7 : ∃ oc, w.heap[7]? = some oc := by
    simp only [World.var?, hg3, Option.bind_some] at hv3
    split at hv3
    · rename_i hh; exact ⟨_, hh⟩
    · cases hv3
  refine ⟨?_, fun b o hb => ?_⟩
  · obtain ⟨oc, ho⟩ := o7
    have := (Array.getElem?_eq_some_iff.1 ho).1
    omega
  · rcases H0_get hb with ⟨rfl, rfl⟩ | ⟨rfl, rfl⟩ | ⟨rfl, rfl⟩ | ⟨rfl, rfl⟩ | ⟨rfl, rfl⟩
    · exact ⟨by omega, rfl, glob_obj hg6 hv6 (by kernel_rfl)⟩
    · exact ⟨by omega, rfl, glob_obj hg2 hv2 (by kernel_rfl)⟩
    · exact ⟨by omega, rfl, glob_obj hg5 hv5 (by kernel_rfl)⟩
    · exact ⟨by omega, rfl, glob_obj hg0 hv0 (by kernel_rfl)⟩
    · exact ⟨by omega, rfl, glob_obj hg1 hv1 (by kernel_rfl)⟩
end Go.Proofs.YtbklalklebjiaaaGreatDoor.XAm
