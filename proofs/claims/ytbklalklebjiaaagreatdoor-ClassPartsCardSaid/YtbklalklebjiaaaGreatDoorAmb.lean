/-
The abstract machine, the other half: calls, orders left open, code, functions.
-/
import Derived.Test.YtbklalklebjiaaaGreatDoorAma
import Derived.Tactics
import Derived.Scope
import Derived.RegionTactic
import Derived.LoopN
import Derived.Lib.Overlaps
import Derived.Lib.Bytealg
import Derived.Laws.Externs
import Derived.Lib.Join
set_option linter.unusedVariables false
set_option linter.unusedSimpArgs false
namespace Go.Proofs.YtbklalklebjiaaaGreatDoor.XAm
open Go Go.RowKit
section
variable {P : Program} {B n G : Nat} {r : Ren} {H H' : T AObj} {w : World} {tm : T AV} {a : Act}

theorem ERels.filter (p : Nat → Bool) : ∀ {l : List (AV × AV × Nat)} {es : List MapEntry}, ERels r l es → ERels r (l.filter fun x => p x.2.2) (es.filter fun e => p e.born)
  | _, _, .nil => .nil
  | _, _, .cons (e := e) hk hv t => by
    simp only [List.filter_cons]
    cases p e.born
    · exact t.filter p
    · exact .cons hk hv (t.filter p)
theorem ERels.all (p : Nat → Bool) : ∀ {l : List (AV × AV × Nat)} {es : List MapEntry}, ERels r l es → (l.all fun x => p x.2.2) = (es.all fun e => p e.born)
  | _, _, .nil => rfl
  | _, _, .cons hk hv t => by simp [ERels.all p t]
theorem ERels.empty : ∀ {l : List (AV × AV × Nat)} {es : List MapEntry}, ERels r l es → l.isEmpty = es.isEmpty
  | _, _, .nil => rfl
  | _, _, .cons hk hv t => rfl
def findBorn : List (AV × AV × Nat) → Nat → Option (AV × AV)
  | [], _ => none
  | (k, v, b) :: l, s => match b == s with
    | true => some (k, v)
    | false => findBorn l s
theorem findBorn_sound {s : Nat} : ∀ {l : List (AV × AV × Nat)} {es : List MapEntry} {k v : AV}, ERels r l es → findBorn l s = some (k, v) → ∃ e, es.find? (·.born == s) = some e ∧ VRel r k e.key ∧ VRel r v e.val
  | _, _, k, v, .nil, h => by cases h
  | _, _, k, v, .cons (e := e) hk hv t, h => by
    simp only [findBorn] at h
    split at h
    · rename_i hb; cases h
      exact ⟨e, by simp [List.find?_cons, hb], hk, hv⟩
    · rename_i hb
      obtain ⟨e', he, h1, h2⟩ := findBorn_sound t h
      exact ⟨e', by simp only [List.find?_cons, hb]; exact he, h1, h2⟩

theorem obj_sIter (h : HRel B r H w) {b c K p : Nat} {s : ByteArray} (hg : H.get b = some (.strIter s p)) (hr : r b = some (c, K)) : w.heap[c]? = some (.stringIter s p) := by
  obtain ⟨c2, K2, oc, hr2, hw, hO⟩ := h.obj b _ hg
  rw [hr] at hr2; cases hr2
  cases oc <;> simp only [ORel] at hO
  obtain ⟨rfl, rfl⟩ := hO
  exact hw
theorem obj_mIter (h : HRel B r H w) {b c K m since st : Nat} {seen : List Nat} (hg : H.get b = some (.mapIter m since seen st)) (hr : r b = some (c, K)) :
    ∃ m' K', r m = some (m', K') ∧ w.heap[c]? = some (.mapIter (some m') since seen.toArray st) := by
  obtain ⟨c2, K2, oc, hr2, hw, hO⟩ := h.obj b _ hg
  rw [hr] at hr2; cases hr2
  cases oc <;> simp only [ORel] at hO
  rename_i m' _ seen' _
  cases m' with
  | none => exact hO.elim
  | some m' =>
    obtain ⟨⟨K', hK⟩, rfl, rfl, rfl⟩ := hO
    exact ⟨m', K', hK, by simpa using hw⟩

def aNext (s : HS) (x : AV) (isS : Bool) : Option (AV × HS) :=
  match x, isS with
  | .ptr b 0, true => match Nat.blt b 60000, s.h.get b with
    | true, some (.strIter str pos) => match Nat.blt pos str.size with
      | true => some (.tuple [.bool true, .int .i64 pos, .int .i32 (Utf8.decode str pos).1], ⟨T.put F s.h b (some (.strIter str (pos + (Utf8.decode str pos).2))), s.n⟩)
      | false => some (.tuple [.bool false], s)
    | _, _ => none
  | .ptr b 0, false => match Nat.blt b 60000, s.h.get b with
    | true, some (.mapIter m since seen st) => match s.h.get m with
      | some (.map es cl) => match !seen.isEmpty && !es.isEmpty && es.all fun e => decide (e.2.2 ≥ st) with
        | true => none
        | false => match (es.filter fun e => !seen.contains e.2.2).filter (fun e => decide (e.2.2 < since)), (es.filter fun e => !seen.contains e.2.2).filter fun e => decide (e.2.2 ≥ since) with
          | [], [] => some (.tuple [.bool false], s)
          | [(k, v, born)], [] => some (.tuple [.bool true, k, v], ⟨T.put F s.h b (some (.mapIter m since (seen ++ [born]) cl)), s.n⟩)
          | _, _ => none
      | _ => none
    | _, _ => none
  | _, _ => none
theorem next_sound {s s' : HS} {x z : AV} {isS : Bool} {u : Value} (hs : aNext s x isS = some (z, s')) (h : HRel B r s.h w) (hx : VRel r x u) (ty : TypeId) :
    ∃ q w', (Instr.next u isS ty).run P w = .ok q w' ∧ Step B s.n s'.n r s.h w r s'.h w' ∧ VRel r z q := by
  unfold aNext at hs
  split at hs
  · rename_i b
    split at hs
    · rename_i str pos hb hg
      have hb' : b < 60000 := by simpa [Nat.blt_eq] using hb
      cases hx
      rename_i c K hr
      have hw := obj_sIter h hg hr
      have hgo := run_getObj (P := P) hw (fun _ _ _ => by simp)
      split at hs
      · rename_i hlt
        have hlt' : pos < str.size := by simpa [Nat.blt_eq] using hlt
        cases hs
        refine ⟨_, _, ?_, Step.turn h s.n hb' hg rfl rfl hr (oc' := .stringIter str (pos + (Utf8.decode str pos).2)) ?_ rfl, .tuple (.cons (.bool _) (.cons (.int _ _) (.cons (.int _ _) .nil)))⟩
        · simp only [Instr.next, Sem.run_bind, hgo, Result.andThen_ok, Sem.run_ite, if_pos hlt', run_setObj (P := P) hw (fun _ _ _ => by simp), Sem.run_pure, goInt]
        · simp only [ORel]; exact ⟨trivial, trivial⟩
      · rename_i hlt
        have hlt' : ¬ pos < str.size := fun e => by rw [show Nat.blt pos str.size = true from by rw [Nat.blt_eq]; exact e] at hlt; cases hlt
        cases hs
        refine ⟨_, w, ?_, Step.refl h _, .tuple (.cons (.bool _) .nil)⟩
        simp only [Instr.next, Sem.run_bind, hgo, Result.andThen_ok, Sem.run_ite, if_neg hlt', Sem.run_pure]
    · cases hs
  · rename_i b
    split at hs
    · rename_i m since seen st hb hg
      have hb' : b < 60000 := by simpa [Nat.blt_eq] using hb
      split at hs
      · rename_i es cl hgm
        split at hs
        · cases hs
        · rename_i hcond
          cases hx
          rename_i c K hr
          obtain ⟨m', K', hrm, hw⟩ := obj_mIter h hg hr
          obtain ⟨ces, hwm, hE⟩ := obj_map h hgm hrm
          have hgo := run_getObj (P := P) hw (fun _ _ _ => by simp)
          have hgm' := run_getObj (P := P) hwm (fun _ _ _ => by simp)
          have hcond' : (!seen.toArray.isEmpty && !ces.isEmpty && ces.all (fun e => decide (e.born ≥ st))) = false := by
            rw [← hcond, hE.all (fun b => decide (b ≥ st)), hE.empty]
            simp
          have hl := hE.filter (fun b => !seen.contains b)
          have ho := hl.filter (fun b => decide (b < since))
          have hn := hl.filter (fun b => decide (b ≥ since))
          have e1 : (ces.filter (fun e => !seen.toArray.contains e.born)).filter (fun e => decide (e.born < since)) = ((ces.toList.filter fun e => !seen.contains e.born).filter fun e => decide (e.born < since)).toArray := by
            apply Array.ext'; simp
          have e2 : (ces.filter (fun e => !seen.toArray.contains e.born)).filter (fun e => decide (e.born ≥ since)) = ((ces.toList.filter fun e => !seen.contains e.born).filter fun e => decide (e.born ≥ since)).toArray := by
            apply Array.ext'; simp
          split at hs
          · rename_i h1 h2
            cases hs
            rw [h1] at ho; rw [h2] at hn
            cases ho' : (ces.toList.filter fun e => !seen.contains e.born).filter (fun e => decide (e.born < since)) with
            | cons x l => rw [ho'] at ho; cases ho
            | nil =>
              cases hn' : (ces.toList.filter fun e => !seen.contains e.born).filter (fun e => decide (e.born ≥ since)) with
              | cons x l => rw [hn'] at hn; cases hn
              | nil =>
                refine ⟨_, w, ?_, Step.refl h _, .tuple (.cons (.bool _) .nil)⟩
                rw [ho'] at e1; rw [hn'] at e2
                simp only [Instr.next, Sem.run_bind, hgo, hgm', Result.andThen_ok, hcond', Bool.false_eq_true, if_false, Sem.run_ite, e1, e2]
                simp [choose, Sem.run, Question.forced]
          · rename_i k v born h1 h2
            cases hs
            rw [h1] at ho; rw [h2] at hn
            cases ho' : (ces.toList.filter fun e => !seen.contains e.born).filter (fun e => decide (e.born < since)) with
            | nil => rw [ho'] at ho; cases ho
            | cons x l =>
              rw [ho'] at ho
              cases ho
              rename_i hk hv ht
              cases ht
              cases hn' : (ces.toList.filter fun e => !seen.contains e.born).filter (fun e => decide (e.born ≥ since)) with
              | cons x l => rw [hn'] at hn; cases hn
              | nil =>
                refine ⟨_, _, ?_, Step.turn h s.n hb' hg rfl rfl hr (oc' := .mapIter (some m') since (seen.toArray.push x.born) cl) ?_ rfl, .tuple (.cons (.bool _) (.cons hk (.cons hv .nil)))⟩
                · rw [ho'] at e1; rw [hn'] at e2
                  have hso := run_setObj (P := P) (o' := .mapIter (some m') since (seen.toArray.push x.born) cl) hw (fun _ _ _ => by simp)
                  simp only [Instr.next, Sem.run_bind, hgo, hgm', Result.andThen_ok, hcond', Bool.false_eq_true, if_false, Sem.run_ite, e1, e2]
                  simp [choose, Sem.run, Question.forced]
                  simp at hso
                  rw [hso]; rfl
                · simp only [ORel]; exact ⟨⟨K', hrm⟩, trivial, by simp, trivial⟩
          · cases hs
      · cases hs
    · cases hs
  · cases hs

def lastN : List Nat → Option Nat
  | [] => none
  | [x] => some x
  | _ :: l => lastN l
theorem lastN_eq : ∀ l : List Nat, lastN l = l.getLast?
  | [] => rfl
  | [x] => rfl
  | x :: y :: l => by simp only [lastN, lastN_eq (y :: l)]; simp
def aEntry (H : T AObj) (x : AV) : Option AV :=
  match x with
  | .ptr b 0 => match H.get b with
    | some (.mapIter m _ seen st) => match lastN seen, H.get m with
      | some stamp, some (.map es cl) => match cl == st, findBorn es stamp with
        | true, some (k, v) => some (.tuple [k, v])
        | _, _ => none
      | _, _ => none
    | _ => none
  | _ => none
theorem entry_sound {x z : AV} {u : Value} (hs : aEntry H x = some z) (h : HRel B r H w) (hx : VRel r x u) : ∃ q, (Instr.entry u).run P w = .ok q w ∧ VRel r z q := by
  unfold aEntry at hs
  split at hs
  · rename_i b
    split at hs
    · rename_i m since seen st hg
      split at hs
      · rename_i stamp es cl hst hgm
        split at hs
        · rename_i k v hcl hf
          cases hs; cases hx
          rename_i c K hr
          obtain ⟨m', K', hrm, hw⟩ := obj_mIter h hg hr
          obtain ⟨ces, hwm, hE⟩ := obj_map h hgm hrm
          have hgo := run_getObj (P := P) hw (fun _ _ _ => by simp)
          have hgm' := run_getObj (P := P) hwm (fun _ _ _ => by simp)
          obtain ⟨e, he, h1, h2⟩ := findBorn_sound hE hf
          have hback : seen.toArray.back? = some stamp := by rw [lastN_eq] at hst; simpa using hst
          have hne : (cl != st) = false := by simp at hcl; simp [hcl]
          refine ⟨_, ?_, .tuple (.cons h1 (.cons h2 .nil))⟩
          have he' : ces.find? (fun x => x.born == stamp) = some e := by rw [← Array.find?_toList]; exact he
          simp only [Instr.entry, Sem.run_bind, hgo, hgm', Result.andThen_ok, hback, hne, Bool.false_eq_true, if_false, Sem.run_ite, he', Sem.run_pure]
        · cases hs
      · cases hs
    · cases hs
  · cases hs
end
end Go.Proofs.YtbklalklebjiaaaGreatDoor.XAm

set_option linter.unusedVariables false
set_option linter.unusedSimpArgs false
namespace Go.Proofs.YtbklalklebjiaaaGreatDoor.XAm
open Go Go.RowKit
section
variable {P : Program} {B : Nat} {r : Ren} {w : World}

def aAppendZ (P : Program) (s : HS) (t1 t2 : TypeId) (x y : AV) : Option (AV × HS) :=
  match P.underlying t1, P.underlying t2 with
  | some (.slice e), some (.int _) => match szB P e, P.info? e, zeroA P e, x, y with
    | some size, some i, some z, .slice b o k m, .int .i64 (.ofNat n) => match z.cells with
      | some zc => match Nat.beq zc.length size, Nat.ble i.bytes 1000, Nat.beq (n * size) 0, Nat.ble (k + n) m, Nat.ble (k + n) 100000, aFirst s.h size k (.slice b o k m) with
        | true, true, false, false, true, some old => match Nat.beq old.length (k * size) with
          | true => growTo s s.h size (k + n) e (old ++ rep zc n)
          | false => none
        | _, _, _, _, _, _ => none
      | none => none
    | _, _, _, _, _ => none
  | _, _ => none

theorem appendZ_sound {s s' : HS} {t1 t2 ty : TypeId} {x y q : AV} {xv yv : Value} (hs : aAppendZ P s t1 t2 x y = some (q, s'))
    (h : HRel B r s.h w) (hf : Fresh r s.n s'.n) (hx : VRel r x xv) (hy : VRel r y yv) :
    ∃ r' v w', (Builtin.append_ #[t1, t2] ty #[xv, yv]).run P w = .ok v w' ∧ Step B s.n s'.n r s.h w r' s'.h w' ∧ VRel r' q v := by
  unfold aAppendZ at hs
  split at hs
  · rename_i e ik hu1 hu2
    split at hs
    · rename_i size i z b o k m n hsz hi hz
      split at hs
      · rename_i zc hzc
        split at hs
        · rename_i old hzl hb hn0 hroom hbig hold
          split at hs
          · rename_i hol
            have hzl' : zc.length = size := beq_t hzl
            have hb' : i.bytes ≤ 1000 := by simpa [Nat.ble_eq] using hb
            have hn0' : n * size ≠ 0 := beq_f hn0
            have hbig' : k + n ≤ 100000 := by simpa [Nat.ble_eq] using hbig
            have hroom' : ¬ (k + n ≤ m) := fun hc => by rw [Nat.ble_eq_true_of_le hc] at hroom; cases hroom
            have hol' : old.length = k * size := beq_t hol
            cases hy
            unfold growTo at hs
            split at hs
            · rename_i b2 s2 hnw
              cases hs
              unfold HS.new at hnw
              split at hnw
              · rename_i hlt
                cases hnw
                have hlt' : s.n < 60000 := by simpa [Nat.blt_eq] using hlt
                obtain ⟨zv, ez, hzr⟩ := run_zeroA (P := P) hz { w with drawn := w.drawn + 1 } r
                obtain ⟨zcs, ezc, hzcr⟩ := hzr.cells hzc
                have hzlen : zcs.length = size := by rw [← hzcr.length]; exact hzl'
                have hfl := hzcr.fill n
                obtain ⟨d', hcap⟩ : ∃ d', (choose (.appendCap (k + n) m e)).run P w = .ok d' { w with drawn := w.drawn + 1 } ∧ k + n ≤ d' := by
                  refine ⟨(Question.appendCap (k + n) m e).cut (w.tape w.drawn (.appendCap (k + n) m e)), ?_, ?_⟩
                  · rw [run_choose]; simp only [Question.forced, Bool.false_eq_true, if_false]
                  · simp only [Question.cut]; omega
                obtain ⟨hcap, hge⟩ := hcap
                obtain ⟨co, eo, ho⟩ := first_sound (P := P) h hold hx (w.drawn + 1)
                have hcol : co.length = k * size := by rw [← ho.length]; exact hol'
                let rest := Builtin.zeroCells zv.cells (d' - (k + n))
                have hrest : rest.size = (d' - (k + n)) * size := by simp [rest, Builtin.zeroCells, ezc, hzlen]
                have hnz : (Builtin.zeroCells zv.cells n).toList.length = n * size := by simp [Builtin.zeroCells, ezc, hzlen]
                have hfl' : VRels r (rep zc n) (Builtin.zeroCells zv.cells n).toList := by
                  have hl : zc.length = zcs.length := hzcr.length
                  rw [hl] at hfl
                  simp only [Builtin.zeroCells, ezc]
                  exact hfl
                have h1 : HRel B r s.h { w with drawn := w.drawn + 1 } := h.heap rfl
                have hK : (co.toArray ++ Builtin.zeroCells zv.cells n ++ rest).size = d' * size := by
                  rw [Array.size_append, Array.size_append, hrest, List.size_toArray, hcol, ← Array.length_toList, hnz, ← Nat.add_mul, ← Nat.add_mul]
                  congr 1; omega
                have st := Step.alloc h1 hlt' (hf _ (Nat.le_refl _) (Nat.lt_succ_self _)) (K := d' * size) (o := .cells (old ++ rep zc n) e false) (oc := .cells (co.toArray ++ Builtin.zeroCells zv.cells n ++ rest) e (0, 0)) (by
                  simp only [ORel]
                  refine ⟨hK, ?_, fun _ => trivial, fun q x hq => ?_, fun _ => .inl trivial⟩
                  · rw [List.length_append, hol', hfl'.length, hnz, ← Nat.add_mul]
                    exact Nat.mul_le_mul_right _ (by omega)
                  · obtain ⟨v, ev, hv⟩ := (ho.append hfl').nth hq
                    refine ⟨v, ?_, hv⟩
                    have hlt2 := (List.getElem?_eq_some_iff.1 ev).1
                    rw [Array.getElem?_append_left (by simpa using hlt2)]
                    rw [← Array.getElem?_toList]
                    simpa using ev)
                generalize hxv : xv = X at hx
                cases hx
                rename_i c K hr
                refine ⟨_, .slice (some ⟨w.heap.size, 0, none⟩) (k + n) d', _, ?_, (Step.drew h s.n (w.drawn + 1)).trans st (Nat.le_refl _) (Nat.le_succ _), .oslice (Ren.put_same _ _ _) hge (by simp)⟩
                have hcond : ¬ ((Builtin.nextslicecap (k + n) m) * i.bytes > 2 ^ 48) := by
                  have h1 := nextcap_le (newLen := k + n) (oldCap := m) (by omega)
                  have h2 : Builtin.nextslicecap (k + n) m * i.bytes ≤ 201000 * 1000 := Nat.mul_le_mul (by omega) hb'
                  omega
                have wn : IntKind.i64.wrap (Int.ofNat n) = (n : Int) := wrap_small (by simp) (by simp; omega)
                have hmul : (n : Int) * (i.bytes : Int) ≤ 100000000 := by
                  have : n * i.bytes ≤ 100000 * 1000 := Nat.mul_le_mul (by omega) hb'
                  have h2 : ((n * i.bytes : Nat) : Int) = (n : Int) * (i.bytes : Int) := by simp
                  omega
                subst hxv
                simp only [Builtin.append_, List.getElem?_toArray, List.getElem?_cons_zero, List.getElem?_cons_succ, Sem.run_bind, run_underlying hu1, run_underlying hu2, Result.andThen_ok, run_szB hsz, Sem.run_pure, if_true, asInt, asIntOf, wn, Sem.run_ite]
                rw [if_neg (by omega)]
                simp only [Sem.run_pure, Result.andThen_ok, run_typeInfoB hi]
                rw [if_neg (by omega)]
                simp only [Sem.run_pure, Result.andThen_ok, Int.toNat_natCast]
                rw [if_neg hroom']
                rw [if_neg (by intro hc; rw [IntKind.max_i64] at hc; omega), if_neg hcond, hcap]
                simp only [Result.andThen_ok, run_typeInfoB hi, run_askRoom, eo, Bool.not_true, Bool.false_eq_true, if_false, hn0', ez, Sem.run_pure]
                simp only [newRow, Sem.run_bind, run_newObj, Result.andThen_ok, Sem.run_pure]
                rfl
              · cases hnw
            · cases hs
          · cases hs
        · cases hs
      · cases hs
    · cases hs
  · cases hs
end
end Go.Proofs.YtbklalklebjiaaaGreatDoor.XAm

set_option linter.unusedVariables false
set_option linter.unusedSimpArgs false
namespace Go.Proofs.YtbklalklebjiaaaGreatDoor.XAm
open Go Go.RowKit

abbrev EV := Operand → Option AV

/-- What is told of operands holds of their values. -/
def ESound (r : Ren) (E : EV) (ρ : Operand → Value) (xs : List Operand) : Prop := ∀ x ∈ xs, ∀ v, E x = some v → VRel r v (ρ x)

def evsE (E : EV) : List Operand → Option (List AV)
  | [] => some []
  | x :: l => match E x, evsE E l with
    | some a, some as => some (a :: as)
    | _, _ => none
theorem evsE_sound {r : Ren} {E : EV} {ρ : Operand → Value} : ∀ {l : List Operand} {as : List AV}, ESound r E ρ l → evsE E l = some as → VRels r as (l.map ρ)
  | [], as, _, hv => by cases hv; exact .nil
  | x :: l, as, h, hv => by
    simp only [evsE] at hv
    split at hv
    · rename_i h1 h2; cases hv; exact .cons (h x (by simp) _ h1) (evsE_sound (fun y hy => h y (by simp [hy])) h2)
    · cases hv
def evpsE (E : EV) : List (Nat × Operand) → Option (List (Nat × AV))
  | [] => some []
  | (i, x) :: l => match E x, evpsE E l with
    | some a, some as => some ((i, a) :: as)
    | _, _ => none
theorem evpsE_sound {r : Ren} {E : EV} {ρ : Operand → Value} : ∀ {l : List (Nat × Operand)} {as : List (Nat × AV)}, ESound r E ρ (l.map (·.2)) → evpsE E l = some as → PRels r as (l.map fun (i, x) => (i, ρ x))
  | [], as, _, hv => by cases hv; exact .nil
  | (i, x) :: l, as, h, hv => by
    simp only [evpsE] at hv
    split at hv
    · rename_i h1 h2; cases hv; exact .cons (h x (by simp) _ h1) (evpsE_sound (fun y hy => h y (by simp at hy ⊢; exact .inr hy)) h2)
    · cases hv
def evO (E : EV) : Option Operand → Option (Option AV)
  | none => some none
  | some x => match E x with
    | some v => some (some v)
    | none => none
theorem evO_sound {r : Ren} {E : EV} {ρ : Operand → Value} {x : Option Operand} {v : Option AV} (h : ESound r E ρ x.toList) (hv : evO E x = some v) : OVRel r v (x.map ρ) := by
  cases x with
  | none => cases hv; exact .none
  | some x =>
    simp only [evO] at hv
    split at hv
    · rename_i h1; cases hv; exact .some (h x (by simp) _ h1)
    · cases hv

inductive Kd where
  | q | r | a | e | c
def kindOf (P : Program) (o : Oper) : Kd :=
  match o.op with
  | .load _ _ => .r
  | .lookup _ _ _ _ => .r
  | .entry _ => .r
  | .alloc _ => .a
  | .box _ _ => .a
  | .buildSlice _ _ _ => .a
  | .makeSlice _ _ _ => .a
  | .makeMap _ _ => .a
  | .store _ _ _ => .e
  | .mapUpdate _ _ _ _ => .e
  | .next _ _ => .e
  | .range _ _ => .e
  | .convert src dst _ => match P.underlying src, P.underlying dst with
    | some (.int _), some (.int _) => .q
    | some (.slice _), some .string => .r
    | _, _ => .e
  | .call c => match c.callee with
    | .builtin .len => match c.argTypes.toList with
      | [t] => match P.underlying t with
        | some (.map _ _) => .r
        | _ => .q
      | _ => .q
    | .builtin .cap => .q
    | .builtin .min => .q
    | .builtin .max => .q
    | .builtin _ => .e
    | _ => .c
  | _ => .q

section
variable {P : Program} {B n G : Nat} {r : Ren} {H H' : T AObj} {w : World} {tm : T AV} {a : Act}

def aField (P : Program) (t : TypeId) (x : AV) (f : Nat) : Option AV :=
  match P.underlying t, x with
  | some (.struct fs), .agg l => match nth fs.toList f with
    | some fl => aPart P fl.type l fl.offset
    | none => none
  | _, _ => none
def aMinMax (mx : Bool) (x y : AV) : Option AV :=
  match x, y with
  | .int k a, .int _ b => some (.int k (match mx with | true => (if b > a then b else a) | false => (if b < a then b else a)))
  | _, _ => none

def aQ (P : Program) (E : EV) (o : Oper) : Option AV :=
  match o.op with
  | .move x => E x
  | .assign x => E x
  | .pick c x y => match E c with
    | some (.bool true) => E x
    | some (.bool false) => E y
    | _ => none
  | .build t ps => match evpsE E ps.toList with
    | some l => aBuild P t l
    | none => none
  | .nilCheck x => match E x with
    | some (.ptr b o) => some (.ptr b o)
    | some (.iface t v) => some (.iface t v)
    | _ => none
  | .binOp op t x y _ => match E x, E y with
    | some u, some v => aBin P op t x y u v
    | _, _ => none
  | .unOp op _ x => match E x with
    | some u => aUn op u
    | none => none
  | .convert src dst x => match E x with
    | some u => aConvInt P src dst u
    | none => none
  | .makeInterface t x => match P.underlying t, E x with
    | some (.interface _), _ => none
    | some _, some u => some (.iface t u)
    | _, _ => none
  | .makeFunc fn first captured => match evsE E first.toList, evsE E captured.toList with
    | some l1, some l2 => some (.func fn l1 l2)
    | _, _ => none
  | .slice t x lo hi mx => match E x, evO E lo, evO E hi, evO E mx with
    | some u, some l, some h, some m => aSlice P t u l h m
    | _, _, _, _ => none
  | .fieldAddr t x f => match E x with
    | some u => aFieldAddr P t u f
    | none => none
  | .field t x f => match E x with
    | some u => aField P t u f
    | none => none
  | .indexAddr t x i => match E x, E i with
    | some u, some v => aIndexAddr P t u v
    | _, _ => none
  | .index t x i => match E x, E i with
    | some u, some v => aIndexStr P t u v
    | _, _ => none
  | .extract x i => match E x with
    | some (.tuple l) => nth l i
    | _ => none
  | .call c => match c.callee, c.args.toList, c.argTypes.toList with
    | .builtin .len, [x], [t] => match P.underlying t, E x with
      | some .string, some (.str s) => some (.int .i64 s.size)
      | some (.slice _), some u => match u, aLen u with
        | .str _, _ => none
        | _, some n => some (.int .i64 n)
        | _, none => none
      | _, _ => none
    | .builtin .cap, [x], [t] => match P.underlying t, E x with
      | some (.slice _), some (.slice _ _ _ m) => some (.int .i64 m)
      | some (.slice _), some .nilslice => some (.int .i64 0)
      | some (.slice _), some (.oslice _ _ _ m _) => some (.geint m)
      | _, _ => none
    | .builtin .min, [x, y], _ => match E x, E y with
      | some u, some v => aMinMax false u v
      | _, _ => none
    | .builtin .max, [x, y], _ => match E x, E y with
      | some u, some v => aMinMax true u v
      | _, _ => none
    | _, _, _ => none
  | _ => none

theorem run_builtin {o : Oper} {c : Call} {b : Builtin} (ρ : Operand → Value) (ho : o.op = .call c) (hc : c.callee = .builtin b) (w : World) :
    (execOp ρ o).run P w = (builtin b c.argTypes o.type (c.args.map fun | .const _ => true | _ => false) (c.args.map ρ)).run P w := by
  simp only [execOp, ho, resolve, hc, Sem.run_bind, Sem.run_pure, Result.andThen_ok, invoke]
  rfl
theorem args1 {c : Call} {x : Operand} (h : c.args.toList = [x]) (ρ : Operand → Value) : c.args.map ρ = #[ρ x] := by
  apply Array.ext'; rw [Array.toList_map, h]; rfl
theorem args2 {c : Call} {x y : Operand} (h : c.args.toList = [x, y]) (ρ : Operand → Value) : c.args.map ρ = #[ρ x, ρ y] := by
  apply Array.ext'; rw [Array.toList_map, h]; rfl
theorem types1 {c : Call} {t : TypeId} (h : c.argTypes.toList = [t]) : c.argTypes = #[t] := by apply Array.ext'; rw [h]
theorem types2 {c : Call} {t t' : TypeId} (h : c.argTypes.toList = [t, t']) : c.argTypes = #[t, t'] := by apply Array.ext'; rw [h]
theorem ops1 {c : Call} {b : Builtin} {l : List Operand} (hc : c.callee = .builtin b) (h : c.args.toList = l) : c.operands.toList = l := by
  simp [Call.operands, hc, h]

theorem q_sound {E : EV} {ρ : Operand → Value} {o : Oper} {z : AV} (hs : aQ P E o = some z) (hE : ESound r E ρ o.op.operands.toList) (w : World) :
    ∃ v, (execOp ρ o).run P w = .ok (.value v) w ∧ VRel r z v := by
  unfold aQ at hs
  split at hs
  · rename_i x ho
    rw [ho] at hE
    exact ⟨ρ x, by simp [execOp, ho], hE x (by simp [Op.operands]) _ hs⟩
  · rename_i x ho
    rw [ho] at hE
    exact ⟨ρ x, by simp [execOp, ho], hE x (by simp [Op.operands]) _ hs⟩
  · rename_i c x y ho
    rw [ho] at hE
    split at hs
    · rename_i hc
      have h1 := hE c (by simp [Op.operands]) _ hc
      have h2 := hE x (by simp [Op.operands]) _ hs
      generalize hcv : ρ c = cv at h1
      cases h1
      exact ⟨ρ x, by simp [execOp, ho, hcv, asBool], h2⟩
    · rename_i hc
      have h1 := hE c (by simp [Op.operands]) _ hc
      have h2 := hE y (by simp [Op.operands]) _ hs
      generalize hcv : ρ c = cv at h1
      cases h1
      exact ⟨ρ y, by simp [execOp, ho, hcv, asBool], h2⟩
    · cases hs
  · rename_i t ps ho
    rw [ho] at hE
    split at hs
    · rename_i l hl
      have hp := evpsE_sound (ρ := ρ) (by simpa [Op.operands] using hE) hl
      obtain ⟨v, e, hv⟩ := build_sound (P := P) (w := w) hs hp
      refine ⟨v, ?_, hv⟩
      have : (ps.map fun (i, x) => (i, ρ x)) = ⟨ps.toList.map fun (i, x) => (i, ρ x)⟩ := by apply Array.ext'; simp
      simp only [execOp, ho, this, Sem.run_bind, e, Result.andThen_ok, Sem.run_pure]
    · cases hs
  · rename_i x ho
    rw [ho] at hE
    split at hs
    · rename_i b o' hx
      have h1 := hE x (by simp [Op.operands]) _ hx
      cases hs
      generalize hcv : ρ x = cv at h1
      refine ⟨cv, ?_, h1⟩
      cases h1
      simp [execOp, ho, hcv]
    · rename_i t v hx
      have h1 := hE x (by simp [Op.operands]) _ hx
      cases hs
      generalize hcv : ρ x = cv at h1
      refine ⟨cv, ?_, h1⟩
      cases h1
      simp [execOp, ho, hcv]
    · cases hs
  · rename_i op t x y t2 ho
    rw [ho] at hE
    split at hs
    · rename_i u v hx hy
      obtain ⟨q, e, hq⟩ := bin_sound (P := P) (w := w) hs (hE x (by simp [Op.operands]) _ hx) (hE y (by simp [Op.operands]) _ hy)
      exact ⟨q, by simp only [execOp, ho, Sem.run_bind] at e ⊢; rw [e]; rfl, hq⟩
    · cases hs
  · rename_i op t x ho
    rw [ho] at hE
    split at hs
    · rename_i u hx
      obtain ⟨q, e, hq⟩ := un_sound (P := P) (w := w) hs (hE x (by simp [Op.operands]) _ hx)
      exact ⟨q, by simp only [execOp, ho, Sem.run_bind, e]; rfl, hq⟩
    · cases hs
  · rename_i src dst x ho
    rw [ho] at hE
    split at hs
    · rename_i u hx
      obtain ⟨q, e, hq⟩ := convInt_sound (P := P) (w := w) hs (hE x (by simp [Op.operands]) _ hx)
      exact ⟨q, by simp only [execOp, ho, Sem.run_bind, e]; rfl, hq⟩
    · cases hs
  · rename_i t x ho
    rw [ho] at hE
    split at hs
    · cases hs
    · rename_i d u hno hx hu
      cases hs
      refine ⟨.iface t (ρ x), ?_, .iface t (hE x (by simp [Op.operands]) _ hu)⟩
      simp only [execOp, ho, Sem.run_bind, Instr.makeInterface, run_underlying hx, Result.andThen_ok]
      cases d <;> first | rfl | exact absurd rfl (hno _)
    · cases hs
  · rename_i fn first captured ho
    rw [ho] at hE
    split at hs
    · rename_i l1 l2 h1 h2
      cases hs
      have e1 := evsE_sound (ρ := ρ) (fun x hx => hE x (by simp [Op.operands]; simp at hx; exact .inl hx)) h1
      have e2 := evsE_sound (ρ := ρ) (fun x hx => hE x (by simp [Op.operands]; simp at hx; exact .inr hx)) h2
      refine ⟨.func fn (first.map ρ) (captured.map ρ), by simp [execOp, ho, Instr.makeFunc], ?_⟩
      have c1 : first.map ρ = ⟨first.toList.map ρ⟩ := by apply Array.ext'; simp
      have c2 : captured.map ρ = ⟨captured.toList.map ρ⟩ := by apply Array.ext'; simp
      rw [c1, c2]
      exact .func fn e1 e2
    · cases hs
  · rename_i t x lo hi mx ho
    rw [ho] at hE
    split at hs
    · rename_i u l h m hx hl hh hm
      obtain ⟨q, e, hq⟩ := slice_sound (P := P) (w := w) hs (hE x (by simp [Op.operands]) _ hx)
        (evO_sound (ρ := ρ) (fun y hy => hE y (by simp [Op.operands]; simp at hy; exact .inr (.inl hy))) hl)
        (evO_sound (ρ := ρ) (fun y hy => hE y (by simp [Op.operands]; simp at hy; exact .inr (.inr (.inl hy)))) hh)
        (evO_sound (ρ := ρ) (fun y hy => hE y (by simp [Op.operands]; simp at hy; exact .inr (.inr (.inr hy)))) hm)
      exact ⟨q, by simp only [execOp, ho, Sem.run_bind, e]; rfl, hq⟩
    · cases hs
  · rename_i t x f ho
    rw [ho] at hE
    split at hs
    · rename_i u hx
      obtain ⟨q, e, hq⟩ := fieldAddr_sound (P := P) (w := w) hs (hE x (by simp [Op.operands]) _ hx)
      exact ⟨q, by simp only [execOp, ho, Sem.run_bind, e]; rfl, hq⟩
    · cases hs
  · rename_i t x f ho
    rw [ho] at hE
    split at hs
    · rename_i u hx
      have h1 := hE x (by simp [Op.operands]) _ hx
      unfold aField at hs
      split at hs
      · rename_i fs l hu
        split at hs
        · rename_i fl hf
          generalize hcv : ρ x = cv at h1
          cases h1
          rename_i c hc
          obtain ⟨v, e, hv⟩ := part_sound (P := P) hs hc w
          rw [nth_eq] at hf
          have hf' : fs[f]? = some fl := by simpa using hf
          refine ⟨v, ?_, hv⟩
          simp only [execOp, ho, Sem.run_bind, Instr.field, run_underlying hu, Result.andThen_ok, hf', hcv, asAgg, Sem.run_pure, e]
        · cases hs
      · cases hs
    · cases hs
  · rename_i t x i ho
    rw [ho] at hE
    split at hs
    · rename_i u v hx hy
      obtain ⟨q, e, hq⟩ := indexAddr_sound (P := P) (w := w) hs (hE x (by simp [Op.operands]) _ hx) (hE i (by simp [Op.operands]) _ hy)
      exact ⟨q, by simp only [execOp, ho, Sem.run_bind, e]; rfl, hq⟩
    · cases hs
  · rename_i t x i ho
    rw [ho] at hE
    split at hs
    · rename_i u v hx hy
      obtain ⟨q, e, hq⟩ := indexStr_sound (P := P) (w := w) hs (hE x (by simp [Op.operands]) _ hx) (hE i (by simp [Op.operands]) _ hy)
      exact ⟨q, by simp only [execOp, ho, Sem.run_bind, e]; rfl, hq⟩
    · cases hs
  · rename_i x i ho
    rw [ho] at hE
    split at hs
    · rename_i l hx
      have h1 := hE x (by simp [Op.operands]) _ hx
      generalize hcv : ρ x = cv at h1
      cases h1
      rename_i c hc
      obtain ⟨v, e, hv⟩ := hc.nth hs
      refine ⟨v, ?_, hv⟩
      have e' : (⟨c⟩ : Array Value)[i]? = some v := by simpa using e
      simp only [execOp, ho, Sem.run_bind, Instr.extract, hcv, e', Sem.run_pure, Result.andThen_ok]
    · cases hs
  · rename_i c ho
    rw [ho] at hE
    split at hs
    · rename_i x t hc ha ht
      have hops := ops1 hc ha
      rw [run_builtin ρ ho hc w, args1 ha, types1 ht]
      split at hs
      · rename_i s hu hx
        have h1 := hE x (by simp only [Op.operands]; rw [hops]; simp) _ hx
        cases hs
        generalize hcv : ρ x = cv at h1
        cases h1
        refine ⟨_, ?_, .int _ _⟩
        simp [builtin, Builtin.len_, run_underlying hu, goInt]
      · rename_i e u hu hx
        have h1 := hE x (by simp only [Op.operands]; rw [hops]; simp) _ hx
        generalize hcv : ρ x = cv at h1
        split at hs
        · cases hs
        · rename_i n hno hn
          cases hs
          refine ⟨_, ?_, .int _ _⟩
          cases h1 <;> simp only [aLen, Option.some.injEq, reduceCtorEq] at hn
          case str s => exact absurd rfl (hno s)
          all_goals subst hn; simp [builtin, Builtin.len_, run_underlying hu, goInt]
        · cases hs
      · cases hs
    · rename_i x t hc ha ht
      have hops := ops1 hc ha
      rw [run_builtin ρ ho hc w, args1 ha, types1 ht]
      split at hs
      · rename_i e b o' n m hu hx
        have h1 := hE x (by simp only [Op.operands]; rw [hops]; simp) _ hx
        cases hs
        generalize hcv : ρ x = cv at h1
        cases h1
        refine ⟨_, ?_, .int _ _⟩
        simp [builtin, Builtin.cap_, run_underlying hu, goInt]
      · rename_i e hu hx
        have h1 := hE x (by simp only [Op.operands]; rw [hops]; simp) _ hx
        cases hs
        generalize hcv : ρ x = cv at h1
        cases h1
        refine ⟨_, ?_, .int _ _⟩
        simp [builtin, Builtin.cap_, run_underlying hu, goInt]
      · rename_i e b o' n m z hu hx
        have h1 := hE x (by simp only [Op.operands]; rw [hops]; simp) _ hx
        cases hs
        generalize hcv : ρ x = cv at h1
        cases h1
        refine ⟨_, ?_, .geint (by assumption)⟩
        simp [builtin, Builtin.cap_, run_underlying hu, goInt]
      · cases hs
    · rename_i tl x y hc ha
      have hops := ops1 hc ha
      rw [run_builtin ρ ho hc w, args2 ha]
      split at hs
      · rename_i u v hx hy
        have h1 := hE x (by simp only [Op.operands]; rw [hops]; simp) _ hx
        have h2 := hE y (by simp only [Op.operands]; rw [hops]; simp) _ hy
        unfold aMinMax at hs
        split at hs
        · cases hs
          generalize hcv : ρ x = cv at h1
          generalize hcv2 : ρ y = cv2 at h2
          cases h1; cases h2
          refine ⟨_, ?_, .int _ _⟩
          simp [builtin, Builtin.min_, Builtin.min2]
        · cases hs
      · cases hs
    · rename_i tl x y hc ha
      have hops := ops1 hc ha
      rw [run_builtin ρ ho hc w, args2 ha]
      split at hs
      · rename_i u v hx hy
        have h1 := hE x (by simp only [Op.operands]; rw [hops]; simp) _ hx
        have h2 := hE y (by simp only [Op.operands]; rw [hops]; simp) _ hy
        unfold aMinMax at hs
        split at hs
        · cases hs
          generalize hcv : ρ x = cv at h1
          generalize hcv2 : ρ y = cv2 at h2
          cases h1; cases h2
          refine ⟨_, ?_, .int _ _⟩
          simp [builtin, Builtin.max_, Builtin.max2]
        · cases hs
      · cases hs
    · cases hs
  · cases hs

/-! #### reading -/
def aR (P : Program) (E : EV) (H : T AObj) (o : Oper) : Option AV :=
  match o.op with
  | .load t x => match E x with
    | some u => aLoad P H t u
    | none => none
  | .lookup t x k ok => match E x, E k with
    | some u, some v => aLookup P H t u v ok
    | _, _ => none
  | .entry x => match E x with
    | some u => aEntry H u
    | none => none
  | .convert src dst x => match E x with
    | some u => aBytesStr P H src dst u
    | none => none
  | .call c => match c.callee, c.args.toList, c.argTypes.toList with
    | .builtin .len, [x], [t] => match P.underlying t, E x with
      | some (.map _ _), some .nilmap => some (.int .i64 0)
      | some (.map _ _), some (.map b) => match H.get b with
        | some (.map es _) => some (.int .i64 es.length)
        | _ => none
      | _, _ => none
    | _, _, _ => none
  | _ => none
theorem r_sound {E : EV} {ρ : Operand → Value} {o : Oper} {z : AV} (hs : aR P E H o = some z) (h : HRel B r H w) (hE : ESound r E ρ o.op.operands.toList) :
    ∃ v, (execOp ρ o).run P w = .ok (.value v) w ∧ VRel r z v := by
  unfold aR at hs
  split at hs
  · rename_i t x ho
    rw [ho] at hE
    split at hs
    · rename_i u hx
      obtain ⟨q, e, hq⟩ := load_sound (P := P) h hs (hE x (by simp [Op.operands]) _ hx)
      exact ⟨q, by simp only [execOp, ho, Sem.run_bind, e]; rfl, hq⟩
    · cases hs
  · rename_i t x k ok ho
    rw [ho] at hE
    split at hs
    · rename_i u v hx hk
      obtain ⟨q, e, hq⟩ := lookup_sound (P := P) h hs (hE x (by simp [Op.operands]) _ hx) (hE k (by simp [Op.operands]) _ hk)
      exact ⟨q, by simp only [execOp, ho, Sem.run_bind, e]; rfl, hq⟩
    · cases hs
  · rename_i x ho
    rw [ho] at hE
    split at hs
    · rename_i u hx
      obtain ⟨q, e, hq⟩ := entry_sound (P := P) hs h (hE x (by simp [Op.operands]) _ hx)
      exact ⟨q, by simp only [execOp, ho, Sem.run_bind, e]; rfl, hq⟩
    · cases hs
  · rename_i src dst x ho
    rw [ho] at hE
    split at hs
    · rename_i u hx
      obtain ⟨q, e, hq⟩ := bytesStr_sound (P := P) h hs (hE x (by simp [Op.operands]) _ hx)
      exact ⟨q, by simp only [execOp, ho, Sem.run_bind, e]; rfl, hq⟩
    · cases hs
  · rename_i c ho
    rw [ho] at hE
    split at hs
    · rename_i x t hc ha ht
      have hops := ops1 hc ha
      rw [run_builtin ρ ho hc w, args1 ha, types1 ht]
      split at hs
      · rename_i k e hu hx
        have h1 := hE x (by simp only [Op.operands]; rw [hops]; simp) _ hx
        cases hs
        generalize hcv : ρ x = cv at h1
        cases h1
        refine ⟨_, ?_, .int _ _⟩
        simp [builtin, Builtin.len_, run_underlying hu, goInt]
      · rename_i k e b hu hx
        have h1 := hE x (by simp only [Op.operands]; rw [hops]; simp) _ hx
        split at hs
        · rename_i es cl hg
          cases hs
          generalize hcv : ρ x = cv at h1
          cases h1
          rename_i c' K hr
          obtain ⟨ces, hw, hE'⟩ := obj_map h hg hr
          have hgo := run_getObj (P := P) hw (fun _ _ _ => by simp)
          refine ⟨_, ?_, .int _ _⟩
          rw [hE'.length]
          simp [builtin, Builtin.len_, run_underlying hu, goInt, hgo]
        · cases hs
      · cases hs
    · cases hs
  · cases hs

/-! #### new blocks -/
def aA (P : Program) (E : EV) (s : HS) (o : Oper) : Option (AV × HS) :=
  match o.op with
  | .alloc t => match zeroA P t with
    | some z => aBox s t z
    | none => none
  | .box t x => match E x with
    | some u => aBox s t u
    | none => none
  | .buildSlice t len ps => match evpsE E ps.toList with
    | some l => aBuildSlice P s t len l
    | none => none
  | .makeSlice t x y => match E x, E y with
    | some u, some v => aMake P s t u v
    | _, _ => none
  | .makeMap _ none => aMakeMap s
  | _ => none
theorem a_sound {E : EV} {ρ : Operand → Value} {o : Oper} {z : AV} {s s' : HS} (hs : aA P E s o = some (z, s')) (h : HRel B r s.h w) (hf : Fresh r s.n s'.n) (hE : ESound r E ρ o.op.operands.toList) :
    ∃ r' v w', (execOp ρ o).run P w = .ok (.value v) w' ∧ Step B s.n s'.n r s.h w r' s'.h w' ∧ VRel r' z v := by
  unfold aA at hs
  split at hs
  · rename_i t ho
    split at hs
    · rename_i zz hz
      obtain ⟨zv, ez, hzr⟩ := run_zeroA (P := P) hz w r
      obtain ⟨r', _, w', e, st, hv, _⟩ := box_sound (P := P) hs h hf hzr
      refine ⟨r', _, w', ?_, st, hv⟩
      simp only [execOp, ho, Sem.run_bind, Instr.alloc, ez, Result.andThen_ok, e, Sem.run_pure]
    · cases hs
  · rename_i t x ho
    rw [ho] at hE
    split at hs
    · rename_i u hx
      obtain ⟨r', _, w', e, st, hv, _⟩ := box_sound (P := P) hs h hf (hE x (by simp [Op.operands]) _ hx)
      refine ⟨r', _, w', ?_, st, hv⟩
      simp only [execOp, ho, Sem.run_bind, Instr.box, e, Result.andThen_ok, Sem.run_pure]
    · cases hs
  · rename_i t len ps ho
    rw [ho] at hE
    split at hs
    · rename_i l hl
      have hp := evpsE_sound (ρ := ρ) (by simpa [Op.operands] using hE) hl
      obtain ⟨r', v, w', e, st, hv⟩ := buildSlice_sound (P := P) hs h hf hp
      refine ⟨r', v, w', ?_, st, hv⟩
      have : (ps.map fun (i, x) => (i, ρ x)) = ⟨ps.toList.map fun (i, x) => (i, ρ x)⟩ := by apply Array.ext'; simp
      simp only [execOp, ho, this, Sem.run_bind, e, Result.andThen_ok, Sem.run_pure]
    · cases hs
  · rename_i t x y ho
    rw [ho] at hE
    split at hs
    · rename_i u v hx hy
      obtain ⟨r', q, w', e, st, hv⟩ := make_sound (P := P) hs h hf (hE x (by simp [Op.operands]) _ hx) (hE y (by simp [Op.operands]) _ hy)
      refine ⟨r', q, w', ?_, st, hv⟩
      simp only [execOp, ho, Sem.run_bind, e, Result.andThen_ok, Sem.run_pure]
    · cases hs
  · rename_i t ho
    obtain ⟨r', q, w', e, st, hv⟩ := makeMap_sound (P := P) (t := t) hs h hf
    refine ⟨r', q, w', ?_, st, hv⟩
    simp only [execOp, ho, Option.map_none, Sem.run_bind, e, Result.andThen_ok, Sem.run_pure]
  · cases hs

/-! #### all others -/
def aE (P : Program) (E : EV) (s : HS) (o : Oper) : Option (AV × HS) :=
  match o.op with
  | .store t x y => match E x, E y with
    | some u, some v => match aStore P s.h t u v with
      | some H' => some (.tuple [], ⟨H', s.n⟩)
      | none => none
    | _, _ => none
  | .mapUpdate t x k y => match E x, E k, E y with
    | some u, some kv, some v => match aUpdate P s t u kv v with
      | some s' => some (.tuple [], s')
      | none => none
    | _, _, _ => none
  | .next x isS => match E x with
    | some u => aNext s u isS
    | none => none
  | .range t x => match E x with
    | some u => aRange P s t u
    | none => none
  | .convert src dst x => match E x with
    | some u => match aStrBytes P s src dst u with
      | some q => some q
      | none => aConvSlice P s src dst u
    | none => none
  | .call c => match c.callee, c.args.toList, c.argTypes.toList with
    | .builtin .append, [x, y], [t, t'] => match E x, E y with
      | some u, some v => match v with
        | .str _ => match P.underlying t with
          | some (.slice e) => match szB P e with
            | some 1 => aAppend P s t t' u v
            | _ => none
          | _ => none
        | .int _ _ => aAppendZ P s t t' u v
        | _ => aAppend P s t t' u v
      | _, _ => none
    | .builtin .copy, [x, y], [t, _] => match E x, E y with
      | some u, some v => aCopy P s t u v
      | _, _ => none
    | _, _, _ => none
  | _ => none
theorem e_sound {E : EV} {ρ : Operand → Value} {o : Oper} {z : AV} {s s' : HS} (hs : aE P E s o = some (z, s')) (h : HRel B r s.h w) (hf : Fresh r s.n s'.n) (hE : ESound r E ρ o.op.operands.toList) :
    ∃ r' v w' nx, (execOp ρ o).run P w = .ok nx w' ∧ (nx = .value v ∨ nx = .skip ∧ v = undef) ∧ Step B s.n s'.n r s.h w r' s'.h w' ∧ VRel r' z v := by
  unfold aE at hs
  split at hs
  · rename_i t x y ho
    rw [ho] at hE
    split at hs
    · rename_i u v hx hy
      split at hs
      · rename_i H2 hst
        cases hs
        obtain ⟨w', e, st⟩ := store_sound (P := P) h hst (hE x (by simp [Op.operands]) _ hx) (hE y (by simp [Op.operands]) _ hy) s.n
        refine ⟨r, undef, w', .skip, ?_, .inr ⟨rfl, rfl⟩, st, .tuple .nil⟩
        simp only [execOp, ho, Sem.run_bind, e, Result.andThen_ok, Sem.run_pure]
      · cases hs
    · cases hs
  · rename_i t x k y ho
    rw [ho] at hE
    split at hs
    · rename_i u kv v hx hk hy
      split at hs
      · rename_i s2 hst
        cases hs
        obtain ⟨w', e, st⟩ := update_sound (P := P) hst h (hE x (by simp [Op.operands]) _ hx) (hE k (by simp [Op.operands]) _ hk) (hE y (by simp [Op.operands]) _ hy)
        refine ⟨r, undef, w', .skip, ?_, .inr ⟨rfl, rfl⟩, st, .tuple .nil⟩
        simp only [execOp, ho, Sem.run_bind, e, Result.andThen_ok, Sem.run_pure]
      · cases hs
    · cases hs
  · rename_i x isS ho
    rw [ho] at hE
    split at hs
    · rename_i u hx
      obtain ⟨q, w', e, st, hv⟩ := next_sound (P := P) hs h (hE x (by simp [Op.operands]) _ hx) o.type
      refine ⟨r, q, w', .value q, ?_, .inl rfl, st, hv⟩
      simp only [execOp, ho, Sem.run_bind, e, Result.andThen_ok, Sem.run_pure]
    · cases hs
  · rename_i t x ho
    rw [ho] at hE
    split at hs
    · rename_i u hx
      obtain ⟨r', q, w', e, st, hv⟩ := range_sound (P := P) hs h hf (hE x (by simp [Op.operands]) _ hx)
      refine ⟨r', q, w', .value q, ?_, .inl rfl, st, hv⟩
      simp only [execOp, ho, Sem.run_bind, e, Result.andThen_ok, Sem.run_pure]
    · cases hs
  · rename_i src dst x ho
    rw [ho] at hE
    split at hs
    · rename_i u hx
      split at hs
      · rename_i q hq
        cases hs
        obtain ⟨r', q, w', e, st, hv⟩ := strBytes_sound (P := P) hq h hf (hE x (by simp [Op.operands]) _ hx)
        refine ⟨r', q, w', .value q, ?_, .inl rfl, st, hv⟩
        simp only [execOp, ho, Sem.run_bind, e, Result.andThen_ok, Sem.run_pure]
      · obtain ⟨q, w', e, st, hv⟩ := convSlice_sound (P := P) hs h (hE x (by simp [Op.operands]) _ hx)
        refine ⟨r, q, w', .value q, ?_, .inl rfl, st, hv⟩
        simp only [execOp, ho, Sem.run_bind, e, Result.andThen_ok, Sem.run_pure]
    · cases hs
  · rename_i c ho
    rw [ho] at hE
    split at hs
    · rename_i x y t t' hc ha ht
      have hops := ops1 hc ha
      split at hs
      · rename_i u v hx hy
        have h1 := hE x (by simp only [Op.operands]; rw [hops]; simp) _ hx
        have h2 := hE y (by simp only [Op.operands]; rw [hops]; simp) _ hy
        have key : (aAppendZ P s t t' u v = some (z, s')) ∨ (aAppend P s t t' u v = some (z, s') ∧ (∀ b, v = .str b → ∀ e, P.underlying t = some (.slice e) → szB P e = some 1)) := by
          split at hs
          · split at hs
            · rename_i e hu
              split at hs
              · rename_i h1
                exact .inr ⟨hs, fun b _ e' he' => by rw [hu] at he'; cases he'; exact h1⟩
              · cases hs
            · cases hs
          · exact .inl hs
          · rename_i hno _
            exact .inr ⟨hs, fun b hb => absurd hb (hno b)⟩
        obtain ⟨r', q, w', e, st, hv⟩ : ∃ r' q w', (Builtin.append_ #[t, t'] o.type #[ρ x, ρ y]).run P w = .ok q w' ∧ Step B s.n s'.n r s.h w r' s'.h w' ∧ VRel r' z q := by
          rcases key with key | key
          · exact appendZ_sound (P := P) (ty := o.type) key h hf h1 h2
          · exact append_sound (P := P) (ty := o.type) key.1 key.2 h hf h1 h2
        refine ⟨r', q, w', .value q, ?_, .inl rfl, st, hv⟩
        rw [run_builtin ρ ho hc w, args2 ha, types2 ht]
        simp only [builtin, Sem.run_bind, e, Result.andThen_ok, Sem.run_pure]
      · cases hs
    · rename_i x y t t' hc ha ht
      have hops := ops1 hc ha
      split at hs
      · rename_i u v hx hy
        have h1 := hE x (by simp only [Op.operands]; rw [hops]; simp) _ hx
        have h2 := hE y (by simp only [Op.operands]; rw [hops]; simp) _ hy
        obtain ⟨q, w', e, st, hv⟩ := copy_sound (P := P) (t2 := t') (ty := o.type) hs h h1 h2
        refine ⟨r, q, w', .value q, ?_, .inl rfl, st, hv⟩
        rw [run_builtin ρ ho hc w, args2 ha, types2 ht]
        simp only [builtin, Sem.run_bind, e, Result.andThen_ok, Sem.run_pure]
      · cases hs
    · cases hs
  · cases hs
end
end Go.Proofs.YtbklalklebjiaaaGreatDoor.XAm

set_option linter.unusedVariables false
set_option linter.unusedSimpArgs false
namespace Go.Proofs.YtbklalklebjiaaaGreatDoor.XAm
open Go Go.RowKit

theorem Step.comp {B c0 c1 : Nat} {r r1 r2 : Ren} {H H1 H2 : T AObj} {w w1 w2 : World} (h : Step B c0 c1 r H w r1 H1 w1) (k : Step B c0 c1 r1 H1 w1 r2 H2 w2) : Step B c0 c1 r H w r2 H2 w2 := by
  refine ⟨h.ext.trans k.ext, fun b hb => ?_, k.rel, h.below.trans k.below, fun i hi hn => ?_, fun b o c K hb hr => ?_⟩
  · rw [k.out b hb, h.out b hb]
  · have h1 := h.kept i hi hn
    have hs := h.below.size
    refine (k.kept i (by omega) fun b o K hb hr => ?_).trans h1
    rcases h.img b o i K hb hr with hc | ⟨b0, o0, K0, hb0, hr0⟩
    · omega
    · exact hn b0 o0 K0 hb0 hr0
  · rcases k.img b o c K hb hr with hc | ⟨b0, o0, K0, hb0, hr0⟩
    · have := h.below.size; exact .inl (by omega)
    · exact h.img b0 o0 c K0 hb0 hr0
theorem Step.widen {B c0 c1 d0 d1 : Nat} {r r1 : Ren} {H H1 : T AObj} {w w1 : World} (h : Step B c0 c1 r H w r1 H1 w1) (h0 : d0 ≤ c0) (h1 : c1 ≤ d1) : Step B d0 d1 r H w r1 H1 w1 :=
  ⟨h.ext, fun b hb => h.out b (by omega), h.rel, h.below, h.kept, h.img⟩

/-- What a call comes to. -/
def CallPost (B : Nat) (r : Ren) (s : HS) (w : World) (v : AV) (s' : HS) (e : Ending) (w' : World) : Prop :=
  ∃ u r', e = .returned u ∧ Step B s.n s'.n r s.h w r' s'.h w' ∧ VRel r' v u
abbrev CF := FuncId → List AV → HS → Option (AV × HS)
def CSound (P : Program) (G : Nat) (cl : CF) : Prop :=
  ∀ g as s v s', cl g as s = some (v, s') → ∀ B r cs w, HRel B r s.h w → Glob G r → Fresh r s.n s'.n → VRels r as cs → Calls P g ⟨cs⟩ w (CallPost B r s w v s')

/-- What is known from elsewhere: functions without a body; functions that are called by a contract; deferred functions that do nothing where nothing panics. -/
structure Orc (P : Program) (G : Nat) where
  ext : FuncId → T AObj → List AV → Option AV
  ext_sound : ∀ g H as v, ext g H as = some v → ∀ B r cs w, HRel B r H w → VRels r as cs → ∃ u, (callFunc g ⟨cs⟩).run P w = .ok (.value u) w ∧ VRel r v u
  fn : CF
  fn_sound : CSound P G fn
  dfr : FuncId → Bool
  dfr_sound : ∀ g, dfr g = true → ∀ args w, CallsD P g args .returning w fun e u w' => (∃ v, e = .returned v) ∧ u = .returning ∧ ∃ d, w' = { w with drawn := d }

def hasBody (P : Program) (g : FuncId) : Bool :=
  match P.funcs[g]? with
  | some fn => match fn.name == "runtime.NumGoroutine", fn.body with
    | false, some _ => true
    | _, _ => false
  | none => false
theorem run_callFunc {P : Program} {g : FuncId} (h : hasBody P g = true) (args : Array Value) (w : World) : (callFunc g args).run P w = .ok (.enter g args) w := by
  unfold hasBody at h
  split at h
  · rename_i fn hf
    split at h
    · rename_i b hn hb
      simp only [callFunc, Sem.run_bind, run_program, Result.andThen_ok, hf, hn, Bool.false_eq_true, if_false, hb, Option.isNone_some, Sem.run_ite, Sem.run_pure]
    · cases h
  · cases h

section
variable {P : Program} {B n G N : Nat} {r : Ren} {H H' : T AObj} {w : World} {tm : T AV} {a : Act} {orc : Orc P G} {cl : CF}

def aC (P : Program) (orc : Orc P G) (cl : CF) (E : EV) (s : HS) (o : Oper) : Option (AV × HS) :=
  match o.op with
  | .call c => match c.callee with
    | .value f => match E f, evsE E c.args.toList with
      | some (.func (.func g) l1 l2), some as => match hasBody P g with
        | true => match orc.fn g (l1 ++ as ++ l2) s with
          | some q => some q
          | none => cl g (l1 ++ as ++ l2) s
        | false => match orc.ext g s.h (l1 ++ as ++ l2) with
          | some v => some (v, s)
          | none => none
      | _, _ => none
    | _ => none
  | _ => none

/-- One operation, whatever its kind; the count of blocks doesn't fall. -/
def aOp (P : Program) (orc : Orc P G) (cl : CF) (E : EV) (s : HS) (o : Oper) : Option (AV × HS) :=
  match (match kindOf P o with
    | .q => match aQ P E o with
      | some v => some (v, s)
      | none => none
    | .r => match aR P E s.h o with
      | some v => some (v, s)
      | none => none
    | .a => aA P E s o
    | .e => aE P E s o
    | .c => aC P orc cl E s o) with
  | some (v, s') => match Nat.ble s.n s'.n with
    | true => some (v, s')
    | false => none
  | none => none
theorem aOp_le {E : EV} {s s' : HS} {o : Oper} {v : AV} (h : aOp P orc cl E s o = some (v, s')) : s.n ≤ s'.n := by
  unfold aOp at h
  split at h
  · split at h
    · rename_i hb; cases h; simpa [Nat.ble_eq] using hb
    · cases h
  · cases h

theorem c_sound {E : EV} {s s' : HS} {o : Oper} {z : AV} (hcl : CSound P G cl) (hs : aC P orc cl E s o = some (z, s')) (h : HRel B r s.h w) (hG : Glob G r) (hf : Fresh r s.n s'.n) (hE : ESound r E a.eval o.op.operands.toList)
    {K : Act → World → Prop} {Q : Exit → Act → World → Prop} (hK : ∀ r' u w', Step B s.n s'.n r s.h w r' s'.h w' → VRel r' z u → K (a.put o.dst u) w') : o.wp P a w K Q := by
  unfold aC at hs
  split at hs
  · rename_i c ho
    rw [ho] at hE
    split at hs
    · rename_i f hc
      split at hs
      · rename_i g l1 l2 as hF hA
        have hops : c.operands.toList = f :: c.args.toList := by simp [Call.operands, hc]
        have h1 := hE f (by simp only [Op.operands]; rw [hops]; simp) _ hF
        have h2 := evsE_sound (ρ := a.eval) (fun x hx => hE x (by simp only [Op.operands]; rw [hops]; simp at hx ⊢; exact .inr hx)) hA
        generalize hfv : a.eval f = fv at h1
        cases h1
        rename_i c1 c2 hc1 hc2
        have hargs : c.args.map a.eval = ⟨c.args.toList.map a.eval⟩ := by apply Array.ext'; simp
        have hall := (hc1.append h2).append hc2
        have hrun : (execOp a.eval o).run P w = (callFunc g ⟨c1 ++ c.args.toList.map a.eval ++ c2⟩).run P w := by
          simp only [execOp, ho, resolve, hc, Sem.run_bind, hfv, Deferred.ofValue, Sem.run_pure, Result.andThen_ok, invoke, hargs]
          congr 1
          congr 1
          apply Array.ext'; simp
        unfold Oper.wp
        rw [hrun]
        split at hs
        · rename_i hb
          rw [run_callFunc hb, Oper.upon_enter]
          have hcalls : Calls P g ⟨c1 ++ c.args.toList.map a.eval ++ c2⟩ w (CallPost B r s w z s') := by
            split at hs
            · rename_i q hq
              cases hs
              exact orc.fn_sound _ _ _ _ _ hq B r _ w h hG hf hall
            · exact hcl _ _ _ _ _ hs B r _ w h hG hf hall
          refine hcalls.mono fun e w' he => ?_
          obtain ⟨u, r', rfl, st, hv⟩ := he
          exact hK r' u w' st hv
        · split at hs
          · rename_i v hq
            cases hs
            obtain ⟨u, e, hv⟩ := orc.ext_sound _ _ _ _ hq B r _ w h hall
            rw [e, Oper.upon_value]
            exact hK r u w (Step.refl h _) hv
          · cases hs
      · cases hs
    · cases hs
  · cases hs

theorem op_wp {E : EV} {s s' : HS} {o : Oper} {z : AV} (hcl : CSound P G cl) (hs : aOp P orc cl E s o = some (z, s')) (h : HRel B r s.h w) (hG : Glob G r) (hf : Fresh r s.n s'.n) (hE : ESound r E a.eval o.op.operands.toList)
    {K : Act → World → Prop} {Q : Exit → Act → World → Prop} (hK : ∀ r' u w', Step B s.n s'.n r s.h w r' s'.h w' → VRel r' z u → K (a.put o.dst u) w') : o.wp P a w K Q := by
  unfold aOp at hs
  split at hs
  · rename_i v s2 hk
    split at hs
    · cases hs
      split at hk
      · split at hk
        · rename_i hq; cases hk
          obtain ⟨u, e, hv⟩ := q_sound (P := P) hq hE w
          unfold Oper.wp; rw [e, Oper.upon_value]; exact hK r u w (Step.refl h _) hv
        · cases hk
      · split at hk
        · rename_i hq; cases hk
          obtain ⟨u, e, hv⟩ := r_sound (P := P) hq h hE
          unfold Oper.wp; rw [e, Oper.upon_value]; exact hK r u w (Step.refl h _) hv
        · cases hk
      · obtain ⟨r', u, w', e, st, hv⟩ := a_sound (P := P) hk h hf hE
        unfold Oper.wp; rw [e, Oper.upon_value]; exact hK r' u w' st hv
      · obtain ⟨r', u, w', nx, e, hnx, st, hv⟩ := e_sound (P := P) hk h hf hE
        unfold Oper.wp; rw [e]
        rcases hnx with rfl | ⟨rfl, rfl⟩
        · rw [Oper.upon_value]; exact hK r' u w' st hv
        · rw [Oper.upon_skip]; exact hK r' _ w' st hv
      · exact c_sound hcl hk h hG hf hE hK
    · cases hs
  · cases hs

/-! #### slots -/
def aPut (N : Nat) (tm : T AV) (d : Option Tmp) (v : AV) : Option (T AV) :=
  match d with
  | none => some tm
  | some d => match Nat.blt d N, Nat.blt d 60000 with
    | true, true => some (T.put F tm d (some v))
    | _, _ => none
theorem aPut_sound {tm tm' : T AV} {d : Option Tmp} {z : AV} {u : Value} (h : aPut N tm d z = some tm') (ht : TRel r tm a.tmps) (hN : a.tmps.size = N) (hv : VRel r z u) : TRel r tm' (a.put d u).tmps ∧ (a.put d u).tmps.size = N ∧ (a.put d u).defers = a.defers := by
  unfold aPut at h
  split at h
  · cases h; exact ⟨ht, hN, rfl⟩
  · rename_i d'
    split at h
    · rename_i h1 h2
      cases h
      have h1' : d' < N := by simpa [Nat.blt_eq] using h1
      have h2' : d' < 60000 := by simpa [Nat.blt_eq] using h2
      exact ⟨ht.put (by rw [hN]; exact h1') h2' hv, by simp [Act.put, hN], rfl⟩
    · cases h

/-- Is an operation wanted? -/
def aWant (N : Nat) (ops : List Oper) (tm : T AV) (o : Oper) : Option Bool :=
  match o.guard with
  | none => some true
  | some (g, want) => match nth ops g with
    | some og => match og.dst with
      | some d => match Nat.blt d N, tm.get d with
        | true, some (.bool b) => some (b == want)
        | true, some (.tuple []) => some false
        | _, _ => none
      | none => none
    | none => none
theorem want_sound {ops : Array Oper} {o : Oper} {b : Bool} (h : aWant N ops.toList tm o = some b) (ht : TRel r tm a.tmps) (hN : a.tmps.size = N) : Region.wanted o (yielded ops a.tmps) = b := by
  unfold aWant at h
  split at h
  · rename_i hg; cases h; simp [Region.wanted, hg]
  · rename_i g want hg
    split at h
    · rename_i og hog
      split at h
      · rename_i d hd
        rw [nth_eq] at hog
        have hog' : ops[g]? = some og := by simpa using hog
        split at h
        · rename_i b' hdN hb
          cases h
          have hv := ht.get d _ hb
          have hlt : d < a.tmps.size := by rw [hN]; simpa [Nat.blt_eq] using hdN
          have : a.tmps[d]? = some (.bool b') := by
            rw [Array.getElem?_eq_getElem hlt]
            generalize hq : a.tmps.getD d undef = q at hv
            cases hv
            rw [Array.getD_eq_getD_getElem?, Array.getElem?_eq_getElem hlt] at hq
            simpa using hq
          simp only [Region.wanted, hg, yielded, hog', Option.bind_some, hd, this]
          cases b' <;> cases want <;> rfl
        · rename_i hdN hb
          cases h
          have hv := ht.get d _ hb
          have hlt : d < a.tmps.size := by rw [hN]; simpa [Nat.blt_eq] using hdN
          have : a.tmps[d]? = some (.tuple #[]) := by
            rw [Array.getElem?_eq_getElem hlt]
            generalize hq : a.tmps.getD d undef = q at hv
            cases hv
            rename_i c hc
            cases hc
            rw [Array.getD_eq_getD_getElem?, Array.getElem?_eq_getElem hlt] at hq
            simpa using hq
          simp only [Region.wanted, hg, yielded, hog', Option.bind_some, hd, this]
          cases want <;> rfl
        · cases h
      · cases h
    · cases h

structure SRel (B G N : Nat) (r : Ren) (tm : T AV) (s : HS) (a : Act) (w : World) : Prop where
  heap : HRel B r s.h w
  glob : Glob G r
  tmps : TRel r tm a.tmps
  size : a.tmps.size = N

/-- Operations in the order of the text. -/
def aSeq (P : Program) (orc : Orc P G) (cl : CF) (N : Nat) (ops : List Oper) : List Oper → T AV → HS → Option (T AV × HS)
  | [], tm, s => some (tm, s)
  | o :: l, tm, s => match aWant N ops tm o with
    | some true => match aOp P orc cl (ev G tm) s o with
      | some (v, s') => match aPut N tm o.dst v with
        | some tm' => aSeq P orc cl N ops l tm' s'
        | none => none
      | none => none
    | some false => match aPut N tm o.dst (.tuple []) with
      | some tm' => aSeq P orc cl N ops l tm' s
      | none => none
    | none => none
theorem aSeq_le {ops : List Oper} : ∀ {l : List Oper} {tm tm' : T AV} {s s' : HS}, aSeq P orc cl N ops l tm s = some (tm', s') → s.n ≤ s'.n
  | [], _, _, _, _, h => by cases h; exact Nat.le_refl _
  | o :: l, tm, tm', s, s', h => by
    simp only [aSeq] at h
    split at h
    · split at h
      · rename_i h1
        split at h
        · exact Nat.le_trans (aOp_le h1) (aSeq_le h)
        · cases h
      · cases h
    · split at h
      · exact aSeq_le h
      · cases h
    · cases h

def RPost (B G N c0 c1 : Nat) (r : Ren) (H : T AObj) (w : World) (tm' : T AV) (s' : HS) (ds : List Deferred) (a' : Act) (w' : World) : Prop :=
  ∃ r', Step B c0 c1 r H w r' s'.h w' ∧ SRel B G N r' tm' s' a' w' ∧ a'.defers = ds

theorem seq_wp (hcl : CSound P G cl) {ops : Array Oper} {Q : Exit → Act → World → Prop} : ∀ {l : List Oper} {tm tm' : T AV} {s s' : HS} {r : Ren} {a : Act} {w : World}, aSeq P orc cl N ops.toList l tm s = some (tm', s') → SRel B G N r tm s a w → Fresh r s.n s'.n →
    (∀ a' w', RPost B G N s.n s'.n r s.h w tm' s' a.defers a' w' → Q .normal a' w') → wpList P ops Q l a w
  | [], tm, tm', s, s', r, a, w, h, hR, hf, hQ => by
    cases h
    exact wpList_nil (hQ a w ⟨r, Step.refl hR.heap _, hR, rfl⟩)
  | o :: l, tm, tm', s, s', r, a, w, h, hR, hf, hQ => by
    refine wpList_step fun K hK => ?_
    simp only [aSeq] at h
    split at h
    · rename_i hw
      rw [want_sound hw hR.tmps hR.size, if_pos rfl]
      split at h
      · rename_i v s1 h1
        split at h
        · rename_i tm1 hp
          have hle1 := aOp_le h1
          have hle2 := aSeq_le h
          refine op_wp hcl h1 hR.heap hR.glob (hf.left hle2) (fun x _ v hv => ev_sound hR.glob hR.tmps hv) (fun r' u w' st hv => hK _ _ ?_)
          obtain ⟨p1, p2, p3⟩ := aPut_sound (u := u) hp (hR.tmps.mono st.ext) hR.size hv
          refine seq_wp hcl h ⟨st.rel, hR.glob.mono st.ext, p1, p2⟩ (hf.step st hle1) fun a' w2 hq => hQ a' w2 ?_
          obtain ⟨r2, st2, hR2, hd⟩ := hq
          exact ⟨r2, st.trans st2 hle1 hle2, hR2, by rw [hd, p3]⟩
        · cases h
      · cases h
    · rename_i hw
      rw [want_sound hw hR.tmps hR.size, if_neg (by simp)]
      split at h
      · rename_i tm1 hp
        obtain ⟨p1, p2, p3⟩ := aPut_sound (u := undef) hp hR.tmps hR.size (.tuple .nil)
        refine hK _ _ (seq_wp hcl h ⟨hR.heap, hR.glob, p1, p2⟩ hf fun a' w2 hq => hQ a' w2 ?_)
        obtain ⟨r2, st2, hR2, hd⟩ := hq
        exact ⟨r2, st2, hR2, by rw [hd, p3]⟩
      · cases h
    · cases h
end
end Go.Proofs.YtbklalklebjiaaaGreatDoor.XAm

set_option linter.unusedVariables false
set_option linter.unusedSimpArgs false
namespace Go.Proofs.YtbklalklebjiaaaGreatDoor.XAm
open Go Go.RowKit

/-! #### what is live, as a predicate -/
structure PRel (B : Nat) (r : Ren) (HP : Nat → AObj → Prop) (w : World) : Prop where
  obj : ∀ b o, HP b o → ∃ c K oc, r b = some (c, K) ∧ w.heap[c]? = some oc ∧ ORel r K o oc
  inj : ∀ b1 b2 o1 o2 c K1 K2, HP b1 o1 → HP b2 o2 → r b1 = some (c, K1) → r b2 = some (c, K2) → b1 = b2
  wr : ∀ b o c K, HP b o → r b = some (c, K) → o.ro = false → B ≤ c
  base : B ≤ w.heap.size
structure PStep (B c0 c1 : Nat) (r : Ren) (HP : Nat → AObj → Prop) (w : World) (r' : Ren) (HP' : Nat → AObj → Prop) (w' : World) : Prop where
  ext : Ext r r'
  out : ∀ b, b < c0 ∨ c1 ≤ b → r' b = r b
  rel : PRel B r' HP' w'
  below : Below B w w'
  kept : ∀ i, i < w.heap.size → (∀ b o K, HP b o → r b ≠ some (i, K)) → w'.heap[i]? = w.heap[i]?
  img : ∀ b o c K, HP' b o → r' b = some (c, K) → w.heap.size ≤ c ∨ ∃ b0 o0 K0, HP b0 o0 ∧ r b0 = some (c, K0)
section
variable {B c0 c1 : Nat} {r r1 r2 : Ren} {H X X' : T AObj} {w w1 w2 : World} {HP HP' HP2 : Nat → AObj → Prop}
theorem PRel.of (h : HRel B r H w) : PRel B r (fun b o => H.get b = some o) w := ⟨h.obj, h.inj, h.wr, h.base⟩
theorem PRel.to (h : PRel B r HP w) (hs : ∀ b o, H.get b = some o → HP b o) : HRel B r H w :=
  ⟨fun b o hb => h.obj b o (hs b o hb), fun b1 b2 o1 o2 c K1 K2 g1 g2 => h.inj b1 b2 o1 o2 c K1 K2 (hs _ _ g1) (hs _ _ g2), fun b o c K hb => h.wr b o c K (hs _ _ hb), h.base⟩
theorem PRel.sub (h : PRel B r HP w) (hs : ∀ b o, HP' b o → HP b o) : PRel B r HP' w :=
  ⟨fun b o hb => h.obj b o (hs b o hb), fun b1 b2 o1 o2 c K1 K2 g1 g2 => h.inj b1 b2 o1 o2 c K1 K2 (hs _ _ g1) (hs _ _ g2), fun b o c K hb => h.wr b o c K (hs _ _ hb), h.base⟩
theorem PStep.refl (h : PRel B r HP w) (c0 c1 : Nat) : PStep B c0 c1 r HP w r HP w :=
  ⟨Ext.refl r, fun _ _ => rfl, h, Below.refl _ _, fun _ _ _ => rfl, fun b o c K hb hr => .inr ⟨b, o, K, hb, hr⟩⟩
theorem PStep.sub (h : PStep B c0 c1 r HP w r1 HP' w1) (hs : ∀ b o, HP2 b o → HP' b o) : PStep B c0 c1 r HP w r1 HP2 w1 :=
  ⟨h.ext, h.out, h.rel.sub hs, h.below, h.kept, fun b o c K hb => h.img b o c K (hs _ _ hb)⟩
theorem PStep.comp (h : PStep B c0 c1 r HP w r1 HP' w1) (k : PStep B c0 c1 r1 HP' w1 r2 HP2 w2) : PStep B c0 c1 r HP w r2 HP2 w2 := by
  refine ⟨h.ext.trans k.ext, fun b hb => ?_, k.rel, h.below.trans k.below, fun i hi hn => ?_, fun b o c K hb hr => ?_⟩
  · rw [k.out b hb, h.out b hb]
  · have h1 := h.kept i hi hn
    have hs := h.below.size
    refine (k.kept i (by omega) fun b o K hb hr => ?_).trans h1
    rcases h.img b o i K hb hr with hc | ⟨b0, o0, K0, hb0, hr0⟩
    · omega
    · exact hn b0 o0 K0 hb0 hr0
  · rcases k.img b o c K hb hr with hc | ⟨b0, o0, K0, hb0, hr0⟩
    · have := h.below.size; exact .inl (by omega)
    · exact h.img b0 o0 c K0 hb0 hr0
theorem PRel.lt (h : PRel B r HP w) {b c K : Nat} {o : AObj} (hb : HP b o) (hr : r b = some (c, K)) : c < w.heap.size := by
  obtain ⟨c', K', oc', hr', hw, _⟩ := h.obj b o hb
  rw [hr] at hr'; cases hr'
  exact (Array.getElem?_eq_some_iff.1 hw).1
/-- A step on a part of what is live is one on all of it. -/
theorem PStep.frame (h : PRel B r HP w) (hX : ∀ b o, X.get b = some o → HP b o) {d0 d1 : Nat} (k : Step B d0 d1 r X w r1 X' w1) (h0 : c0 ≤ d0) (h1 : d1 ≤ c1)
    (hs : ∀ b o, HP' b o → X'.get b = some o ∨ (HP b o ∧ X.get b = none)) : PStep B c0 c1 r HP w r1 HP' w1 := by
  have hold : ∀ b o c K, HP b o → X.get b = none → r1 b = some (c, K) → r b = some (c, K) ∧ c < w.heap.size ∧ ∀ b' o' K', X.get b' = some o' → r b' ≠ some (c, K') := fun b o c K hb hx hr => by
    obtain ⟨c', K', oc', hr', hw, _⟩ := h.obj b o hb
    have := k.ext _ _ hr'
    rw [hr] at this; cases this
    refine ⟨hr', (Array.getElem?_eq_some_iff.1 hw).1, fun b' o' K2 hb' hr2 => ?_⟩
    have := h.inj b' b o' o c K2 K (hX _ _ hb') hb hr2 hr'
    subst this
    rw [hx] at hb'; cases hb'
  refine ⟨k.ext, fun b hb => k.out b (by omega), ⟨fun b o hb => ?_, fun b1 b2 o1 o2 c K1 K2 g1 g2 q1 q2 => ?_, fun b o c K hb hr hro => ?_, ?_⟩, k.below, fun i hi hn => k.kept i hi fun b o K hb => hn b o K (hX _ _ hb), fun b o c K hb hr => ?_⟩
  · rcases hs b o hb with hb | ⟨hb, hx⟩
    · exact k.rel.obj b o hb
    · obtain ⟨c, K, oc, hr, hw, hO⟩ := h.obj b o hb
      obtain ⟨_, hlt, hne⟩ := hold b o c K hb hx (k.ext _ _ hr)
      exact ⟨c, K, oc, k.ext _ _ hr, by rw [k.kept c hlt fun b' o' K' hb' => hne b' o' K' hb']; exact hw, hO.mono k.ext⟩
  · rcases hs b1 o1 g1 with g1 | ⟨g1, x1⟩ <;> rcases hs b2 o2 g2 with g2 | ⟨g2, x2⟩
    · exact k.rel.inj b1 b2 o1 o2 c K1 K2 g1 g2 q1 q2
    · obtain ⟨e2, hlt, hne⟩ := hold b2 o2 c K2 g2 x2 q2
      rcases k.img b1 o1 c K1 g1 q1 with hc | ⟨b0, o0, K0, hb0, hr0⟩
      · omega
      · exact absurd hr0 (hne b0 o0 K0 hb0)
    · obtain ⟨e1, hlt, hne⟩ := hold b1 o1 c K1 g1 x1 q1
      rcases k.img b2 o2 c K2 g2 q2 with hc | ⟨b0, o0, K0, hb0, hr0⟩
      · omega
      · exact absurd hr0 (hne b0 o0 K0 hb0)
    · obtain ⟨e1, _, _⟩ := hold b1 o1 c K1 g1 x1 q1
      obtain ⟨e2, _, _⟩ := hold b2 o2 c K2 g2 x2 q2
      exact h.inj b1 b2 o1 o2 c K1 K2 g1 g2 e1 e2
  · rcases hs b o hb with hb | ⟨hb, hx⟩
    · exact k.rel.wr b o c K hb hr hro
    · exact h.wr b o c K hb (hold b o c K hb hx hr).1 hro
  · exact k.rel.base
  · rcases hs b o hb with hb | ⟨hb, hx⟩
    · rcases k.img b o c K hb hr with hc | ⟨b0, o0, K0, hb0, hr0⟩
      · exact .inl hc
      · exact .inr ⟨b0, o0, K0, hX _ _ hb0, hr0⟩
    · exact .inr ⟨b, o, K, hb, (hold b o c K hb hx hr).1⟩
end

/-! #### the same value? -/
def avEq0 : AV → AV → Bool
  | .bool a, .bool b => a == b
  | .int k a, .int k' b => decide (k = k') && decide (a = b)
  | .str a, .str b => decide (a = b)
  | .ptr b o, .ptr b' o' => Nat.beq b b' && Nat.beq o o'
  | .nilptr, .nilptr => true
  | .slice b o n m, .slice b' o' n' m' => Nat.beq b b' && Nat.beq o o' && Nat.beq n n' && Nat.beq m m'
  | .oslice b o n m z, .oslice b' o' n' m' z' => Nat.beq b b' && Nat.beq o o' && Nat.beq n n' && Nat.beq m m' && Nat.beq z z'
  | .eslice, .eslice => true
  | .nilslice, .nilslice => true
  | .map b, .map b' => Nat.beq b b'
  | .nilmap, .nilmap => true
  | .nilfunc, .nilfunc => true
  | .niliface, .niliface => true
  | .func (.func f) [] [], .func (.func f') [] [] => Nat.beq f f'
  | _, _ => false
theorem avEq0_spec {a b : AV} (h : avEq0 a b = true) : a = b := by
  unfold avEq0 at h
  split at h <;> first
    | rfl
    | (cases h; done)
    | (try simp only [beq_iff_eq, Bool.and_eq_true, decide_eq_true_eq] at h
       first
         | (subst h; rfl)
         | (obtain ⟨rfl, rfl⟩ := h; rfl)
         | (obtain ⟨h1, h2⟩ := h; rw [beq_t h1, beq_t h2])
         | (rw [beq_t h])
         | (obtain ⟨⟨⟨h1, h2⟩, h3⟩, h4⟩ := h; rw [beq_t h1, beq_t h2, beq_t h3, beq_t h4])
         | (obtain ⟨⟨⟨⟨h1, h2⟩, h3⟩, h4⟩, h5⟩ := h; rw [beq_t h1, beq_t h2, beq_t h3, beq_t h4, beq_t h5]))
def avEqL : List AV → List AV → Bool
  | [], [] => true
  | a :: l, b :: l' => match avEq0 a b with
    | true => avEqL l l'
    | false => false
  | _, _ => false
theorem avEqL_spec : ∀ {a b : List AV}, avEqL a b = true → a = b
  | [], [], _ => rfl
  | [], _ :: _, h => by simp [avEqL] at h
  | _ :: _, [], h => by simp [avEqL] at h
  | a :: l, b :: l', h => by
    simp only [avEqL] at h
    split at h
    · rename_i h0; rw [avEq0_spec h0, avEqL_spec h]
    · cases h
def avEq : AV → AV → Bool
  | .agg a, .agg b => avEqL a b
  | .tuple a, .tuple b => avEqL a b
  | a, b => avEq0 a b
theorem avEq_spec {a b : AV} (h : avEq a b = true) : a = b := by
  unfold avEq at h
  split at h
  · rw [avEqL_spec h]
  · rw [avEqL_spec h]
  · exact avEq0_spec h

/-! #### the static look -/
def isE (P : Program) (o : Oper) : Bool := match kindOf P o with
  | .e => true
  | .c => true
  | _ => false
def isA (P : Program) (o : Oper) : Bool := match kindOf P o with
  | .a => true
  | _ => false
def inAft (o : Oper) (j : Nat) : Bool := o.after.toList.any fun e => Region.binds .any e && Nat.beq e.on j
def orAft (ms : List Nat) : List Edge → Nat
  | [] => 0
  | e :: l => match Region.binds .any e with
    | true => orAft ms l ||| 2 ^ e.on ||| (nth ms e.on).getD 0
    | false => orAft ms l
def masksGo : List Oper → List Nat → List Nat
  | [], ms => ms
  | o :: l, ms => masksGo l (ms ++ [orAft ms o.after.toList])
def dsts : Nat → List Oper → List (Nat × Nat)
  | _, [] => []
  | i, o :: l => match o.dst with
    | some d => (i, d) :: dsts (i + 1) l
    | none => dsts (i + 1) l
def depOk (ms : List Nat) (D : List (Nat × Nat)) (i : Nat) (o : Oper) (t : Nat) : Bool := D.all fun x => match Nat.beq x.2 t with
  | true => inAft o x.1 || (Nat.ble i x.1 && ((nth ms x.1).getD 0).testBit i)
  | false => true
def befOk (P : Program) (m i : Nat) : Nat → List Oper → Bool
  | _, [] => true
  | j, o :: l => match Nat.blt j i with
    | true => match isE P o || isA P o with
      | true => match Nat.testBit m j with
        | true => befOk P m i (j + 1) l
        | false => false
      | false => befOk P m i (j + 1) l
    | false => true
def chk1 (P : Program) (ops : List Oper) (ms : List Nat) (D : List (Nat × Nat)) (i : Nat) (o : Oper) : Bool :=
  (o.after.toList.all fun e => !Region.binds .any e || Nat.blt e.on i) &&
  (o.op.operands.toList.all fun x => match x with
    | .tmp t => depOk ms D i o t
    | _ => true) &&
  (match o.guard with
    | none => true
    | some (g, _) => inAft o g) &&
  (match o.dst with
    | none => true
    | some d => D.all fun x => match Nat.beq x.2 d with
      | true => Nat.beq x.1 i
      | false => true) &&
  (match isE P o with
    | true => befOk P ((nth ms i).getD 0) i 0 ops
    | false => true)
def chkAll (P : Program) (ops : List Oper) (ms : List Nat) (D : List (Nat × Nat)) : Nat → List Oper → Bool
  | _, [] => true
  | i, o :: l => match chk1 P ops ms D i o with
    | true => chkAll P ops ms D (i + 1) l
    | false => false
def okReg (P : Program) (ops : List Oper) : Bool := chkAll P ops (masksGo ops []) (dsts 0 ops) 0 ops

section
variable {P : Program}
theorem chkAll_spec {ops : List Oper} {ms : List Nat} {D : List (Nat × Nat)} : ∀ {l : List Oper} {k : Nat}, chkAll P ops ms D k l = true → ∀ i o, nth l i = some o → chk1 P ops ms D (k + i) o = true
  | [], k, _, i, o, h => by cases i <;> cases h
  | x :: l, k, h, 0, o, ho => by
    cases ho
    simp only [chkAll] at h
    split at h
    · assumption
    · cases h
  | x :: l, k, h, i + 1, o, ho => by
    simp only [chkAll] at h
    split at h
    · have := chkAll_spec h i o ho
      rwa [show k + 1 + i = k + (i + 1) by omega] at this
    · cases h
theorem dsts_mem : ∀ {l : List Oper} {k i : Nat} {o : Oper} {d : Nat}, nth l i = some o → o.dst = some d → (k + i, d) ∈ dsts k l
  | [], k, i, o, d, h, _ => by cases i <;> cases h
  | x :: l, k, 0, o, d, h, hd => by cases h; simp [dsts, hd]
  | x :: l, k, i + 1, o, d, h, hd => by
    have := dsts_mem (l := l) (k := k + 1) (i := i) h hd
    rw [show k + 1 + i = k + (i + 1) by omega] at this
    simp only [dsts]
    split
    · exact List.mem_cons_of_mem _ this
    · exact this
theorem nth_app {α : Type} (l l' : List α) (i : Nat) : nth (l ++ l') i = if i < l.length then nth l i else nth l' (i - l.length) := by
  simp only [nth_eq]
  split
  · rename_i h; rw [List.getElem?_append_left h]
  · rename_i h; rw [List.getElem?_append_right (by omega)]
theorem masksGo_pre : ∀ (l : List Oper) (ms : List Nat) (i : Nat), i < ms.length → nth (masksGo l ms) i = nth ms i
  | [], ms, i, h => rfl
  | o :: l, ms, i, h => by
    rw [masksGo, masksGo_pre l _ i (by simp; omega), nth_app, if_pos h]
theorem orAft_spec {ms : List Nat} {i : Nat} : ∀ {l : List Edge}, (orAft ms l).testBit i = true → ∃ e ∈ l, Region.binds .any e = true ∧ (e.on = i ∨ ((nth ms e.on).getD 0).testBit i = true)
  | [], h => by simp [orAft] at h
  | e :: l, h => by
    simp only [orAft] at h
    split at h
    · rename_i hb
      simp only [Nat.testBit_or, Bool.or_eq_true, Nat.testBit_two_pow, decide_eq_true_eq] at h
      rcases h with (h | h) | h
      · obtain ⟨e', he', h2⟩ := orAft_spec h; exact ⟨e', by simp [he'], h2⟩
      · exact ⟨e, by simp, hb, .inl h⟩
      · exact ⟨e, by simp, hb, .inr h⟩
    · obtain ⟨e', he', h2⟩ := orAft_spec h; exact ⟨e', by simp [he'], h2⟩
theorem masksGo_spec : ∀ (l : List Oper) (ms : List Nat) (i : Nat) (o : Oper), nth l i = some o → ∃ ms', nth (masksGo l ms) (ms.length + i) = some (orAft ms' o.after.toList) ∧ ∀ k, k < ms.length + i → nth ms' k = nth (masksGo l ms) k
  | [], ms, i, o, h => by cases i <;> cases h
  | x :: l, ms, 0, o, h => by
    cases h
    refine ⟨ms, ?_, fun k hk => ?_⟩
    · rw [masksGo, masksGo_pre l _ _ (by simp), nth_app, if_neg (by omega)]; simp [nth]
    · rw [masksGo, masksGo_pre l _ _ (by simp; omega), nth_app, if_pos (by omega)]
  | x :: l, ms, i + 1, o, h => by
    obtain ⟨ms', h1, h2⟩ := masksGo_spec l (ms ++ [orAft ms x.after.toList]) i o h
    simp only [List.length_append, List.length_singleton] at h1 h2
    exact ⟨ms', by rw [masksGo, show ms.length + (i + 1) = ms.length + 1 + i by omega]; exact h1, fun k hk => by rw [masksGo]; exact h2 k (by omega)⟩
theorem befOk_spec {m i : Nat} : ∀ {l : List Oper} {k : Nat}, befOk P m i k l = true → ∀ j o, nth l j = some o → k + j < i → (isE P o = true ∨ isA P o = true) → m.testBit (k + j) = true
  | [], k, _, j, o, h, _, _ => by cases j <;> cases h
  | x :: l, k, h, 0, o, ho, hlt, hk => by
    cases ho
    simp only [befOk] at h
    rw [show Nat.blt k i = true from by rw [Nat.blt_eq]; exact hlt] at h
    rw [show (isE P x || isA P x) = true from by rw [Bool.or_eq_true]; exact hk] at h
    split at h
    · split at h
      · split at h
        · assumption
        · cases h
      · rename_i h2; cases h2
    · rename_i h2; cases h2
  | x :: l, k, h, j + 1, o, ho, hlt, hk => by
    simp only [befOk] at h
    rw [show Nat.blt k i = true from by rw [Nat.blt_eq]; omega] at h
    have hrec : befOk P m i (k + 1) l = true := by
      split at h
      · split at h
        · split at h
          · exact h
          · cases h
        · exact h
      · rename_i h2; cases h2
    have := befOk_spec hrec j o ho (by omega) hk
    rwa [show k + 1 + j = k + (j + 1) by omega] at this

/-- What the static look gives. -/
structure OkR (P : Program) (ops : List Oper) (ms : List Nat) : Prop where
  on : ∀ i o, nth ops i = some o → ∀ e ∈ o.after.toList, Region.binds .any e = true → e.on < i
  dep : ∀ i o, nth ops i = some o → ∀ t, Operand.tmp t ∈ o.op.operands.toList → ∀ j oj, nth ops j = some oj → oj.dst = some t → inAft o j = true ∨ (i ≤ j ∧ ((nth ms j).getD 0).testBit i = true)
  guard : ∀ i o, nth ops i = some o → ∀ g b, o.guard = some (g, b) → inAft o g = true
  dst : ∀ i o, nth ops i = some o → ∀ d, o.dst = some d → ∀ j oj, nth ops j = some oj → oj.dst = some d → j = i
  bef : ∀ i o, nth ops i = some o → isE P o = true → ∀ j oj, nth ops j = some oj → j < i → (isE P oj = true ∨ isA P oj = true) → ((nth ms i).getD 0).testBit j = true
  mask : ∀ i o, nth ops i = some o → ∀ j, ((nth ms i).getD 0).testBit j = true → ∃ e ∈ o.after.toList, Region.binds .any e = true ∧ (e.on = j ∨ ((nth ms e.on).getD 0).testBit j = true)
theorem okReg_spec {ops : List Oper} (h : okReg P ops = true) : OkR P ops (masksGo ops []) := by
  have h1 := fun i o ho => by simpa using chkAll_spec h i o ho
  have hon : ∀ i o, nth ops i = some o → ∀ e ∈ o.after.toList, Region.binds .any e = true → e.on < i := fun i o ho e he hb => by
    have h2 := h1 i o ho
    unfold chk1 at h2
    simp only [Bool.and_eq_true, List.all_eq_true] at h2
    have := h2.1.1.1.1 e he
    rw [hb] at this
    simpa [Nat.blt_eq] using this
  refine ⟨hon, fun i o ho t ht j oj hj hd => ?_, fun i o ho g b hg => ?_, fun i o ho d hd j oj hj hd2 => ?_, fun i o ho hE j oj hj hlt hk => ?_, fun i o ho j hj => ?_⟩
  · have h2 := h1 i o ho
    unfold chk1 at h2
    simp only [Bool.and_eq_true, List.all_eq_true] at h2
    have h3 := h2.1.1.1.2 _ ht
    simp only [depOk, List.all_eq_true] at h3
    have h4 := h3 _ (dsts_mem (k := 0) hj hd)
    simp only [Nat.zero_add] at h4
    rw [show Nat.beq t t = true from Nat.beq_refl t] at h4
    simpa [Nat.ble_eq] using h4
  · have h2 := h1 i o ho
    unfold chk1 at h2
    simp only [Bool.and_eq_true] at h2
    have h3 := h2.1.1.2
    rw [hg] at h3
    exact h3
  · have h2 := h1 i o ho
    unfold chk1 at h2
    simp only [Bool.and_eq_true] at h2
    have h3 := h2.1.2
    rw [hd] at h3
    simp only [List.all_eq_true] at h3
    have h4 := h3 _ (dsts_mem (k := 0) hj hd2)
    simp only [Nat.zero_add] at h4
    rw [show Nat.beq d d = true from Nat.beq_refl d] at h4
    exact beq_t h4
  · have h2 := h1 i o ho
    unfold chk1 at h2
    simp only [Bool.and_eq_true] at h2
    have h3 := h2.2
    rw [hE] at h3
    have := befOk_spec h3 j oj hj (by omega) hk
    simpa using this
  · obtain ⟨ms', e1, e2⟩ := masksGo_spec ops [] i o ho
    simp only [List.length_nil, Nat.zero_add] at e1 e2
    rw [e1, Option.getD_some] at hj
    obtain ⟨e, he, hb, h2⟩ := orAft_spec hj
    refine ⟨e, he, hb, ?_⟩
    rcases h2 with h2 | h2
    · exact .inl h2
    · right
      rwa [e2 e.on (hon i o ho e he hb)] at h2
end
end Go.Proofs.YtbklalklebjiaaaGreatDoor.XAm

set_option linter.unusedVariables false
set_option linter.unusedSimpArgs false
namespace Go.Proofs.YtbklalklebjiaaaGreatDoor.XAm
open Go Go.RowKit

/-! #### new blocks don't look at the heap -/
theorem HS.new_any {s s' : HS} {o : AObj} {b : Nat} (h : s.new o = some (b, s')) : s.n < 60000 ∧ b = s.n ∧ s' = ⟨T.put F s.h s.n (some o), s.n + 1⟩ ∧ ∀ H, HS.new ⟨H, s.n⟩ o = some (s.n, ⟨T.put F H s.n (some o), s.n + 1⟩) := by
  unfold HS.new at h
  split at h
  · rename_i hb
    cases h
    exact ⟨by simpa [Nat.blt_eq] using hb, rfl, rfl, fun H => by simp only [HS.new, hb]⟩
  · cases h
theorem aA_any {P : Program} {E : EV} {s s' : HS} {o : Oper} {v : AV} (h : aA P E s o = some (v, s')) :
    s.n < 60000 ∧ ∃ x, s' = ⟨T.put F s.h s.n (some x), s.n + 1⟩ ∧ ∀ H, aA P E ⟨H, s.n⟩ o = some (v, ⟨T.put F H s.n (some x), s.n + 1⟩) := by
  unfold aA at h
  split at h
  · rename_i t ho
    split at h
    · rename_i z hz
      unfold aBox at h
      split at h
      · rename_i l hl
        split at h
        · rename_i b s2 hn
          cases h
          obtain ⟨h1, rfl, rfl, h2⟩ := HS.new_any hn
          exact ⟨h1, _, rfl, fun H => by simp only [aA, ho, hz, aBox, hl, h2]⟩
        · cases h
      · cases h
    · cases h
  · rename_i t x ho
    split at h
    · rename_i z hz
      unfold aBox at h
      split at h
      · rename_i l hl
        split at h
        · rename_i b s2 hn
          cases h
          obtain ⟨h1, rfl, rfl, h2⟩ := HS.new_any hn
          exact ⟨h1, _, rfl, fun H => by simp only [aA, ho, hz, aBox, hl, h2]⟩
        · cases h
      · cases h
    · cases h
  · rename_i t len ps ho
    split at h
    · rename_i l hl
      unfold aBuildSlice at h
      split at h
      · rename_i e hu
        split at h
        · rename_i size z hs hz
          split at h
          · rename_i zc hzc
            split at h
            · rename_i c c1 c2 c3 c4
              split at h
              · rename_i b s2 hn
                cases h
                obtain ⟨h1, rfl, rfl, h2⟩ := HS.new_any hn
                exact ⟨h1, _, rfl, fun H => by simp only [aA, ho, hl, aBuildSlice, hu, hs, hz, hzc, c1, c2, c3, c4, h2]⟩
              · cases h
            · cases h
          · cases h
        · cases h
      · cases h
    · cases h
  · rename_i t x y ho
    split at h
    · rename_i u v hx hy
      unfold aMake at h
      split at h
      · rename_i e k1 l k2 c hu
        split at h
        · rename_i i size z hi hs hz
          split at h
          · rename_i zc hzc
            split at h
            · rename_i c1 c2 c3 c4 c5 c6
              split at h
              · rename_i b s2 hn
                cases h
                obtain ⟨h1, rfl, rfl, h2⟩ := HS.new_any hn
                exact ⟨h1, _, rfl, fun H => by simp only [aA, ho, hx, hy, aMake, hu, hi, hs, hz, hzc, c1, c2, c3, c4, c5, c6, h2]⟩
              · cases h
            · rename_i c1 c2 c3 c4 c5 c6
              split at h
              · rename_i b s2 hn
                cases h
                obtain ⟨h1, rfl, rfl, h2⟩ := HS.new_any hn
                exact ⟨h1, _, rfl, fun H => by simp only [aA, ho, hx, hy, aMake, hu, hi, hs, hz, hzc, c1, c2, c3, c4, c5, c6, h2]⟩
              · cases h
            · cases h
          · cases h
        · cases h
      · cases h
    · cases h
  · rename_i t ho
    unfold aMakeMap at h
    split at h
    · rename_i b s2 hn
      cases h
      obtain ⟨h1, rfl, rfl, h2⟩ := HS.new_any hn
      exact ⟨h1, _, rfl, fun H => by simp only [aA, ho, aMakeMap, h2]⟩
    · cases h
  · cases h

/-! #### the run -/
structure Snap where
  tm : T AV
  s : HS
  w : Bool
  v : AV
section
variable {P : Program} {B n G N : Nat} {orc : Orc P G} {cl : CF}

def drawRun (P : Program) (orc : Orc P G) (cl : CF) (N : Nat) (ops : List Oper) : List Oper → T AV → HS → Option (List Snap × T AV × HS)
  | [], tm, s => some ([], tm, s)
  | o :: l, tm, s => match aWant N ops tm o with
    | some true => match aOp P orc cl (ev G tm) s o with
      | some (v, s') => match aPut N tm o.dst v with
        | some tm' => match drawRun P orc cl N ops l tm' s' with
          | some (xs, tE, sE) => some (⟨tm, s, true, v⟩ :: xs, tE, sE)
          | none => none
        | none => none
      | none => none
    | some false => match aPut N tm o.dst (.tuple []) with
      | some tm' => match drawRun P orc cl N ops l tm' s with
        | some (xs, tE, sE) => some (⟨tm, s, false, .tuple []⟩ :: xs, tE, sE)
        | none => none
      | none => none
    | none => none

structure Tr (P : Program) (orc : Orc P G) (cl : CF) (N : Nat) (ops l : List Oper) (xs : List Snap) (S : Nat → HS) (TM : Nat → T AV) (W : Nat → Bool) (V : Nat → AV) : Prop where
  at_ : ∀ i o, nth l i = some o → nth xs i = some ⟨TM i, S i, W i, V i⟩
  want : ∀ i o, nth l i = some o → aWant N ops (TM i) o = some (W i)
  run : ∀ i o, nth l i = some o → W i = true → aOp P orc cl (ev G (TM i)) (S i) o = some (V i, S (i + 1))
  skip : ∀ i o, nth l i = some o → W i = false → V i = .tuple [] ∧ S (i + 1) = S i
  put : ∀ i o, nth l i = some o → aPut N (TM i) o.dst (V i) = some (TM (i + 1))

def shift {α : Type} (a : α) (f : Nat → α) : Nat → α
  | 0 => a
  | i + 1 => f i
theorem drawRun_spec {ops : List Oper} : ∀ {l : List Oper} {tm tE : T AV} {s sE : HS} {xs : List Snap}, drawRun P orc cl N ops l tm s = some (xs, tE, sE) →
    ∃ S TM W V, Tr P orc cl N ops l xs S TM W V ∧ S 0 = s ∧ TM 0 = tm ∧ S l.length = sE ∧ TM l.length = tE
  | [], tm, tE, s, sE, xs, h => by
    cases h
    refine ⟨fun _ => s, fun _ => tm, fun _ => true, fun _ => .junk, ⟨?_, ?_, ?_, ?_, ?_⟩, rfl, rfl, rfl, rfl⟩ <;> intro i o ho <;> cases i <;> cases ho
  | o :: l, tm, tE, s, sE, xs, h => by
    simp only [drawRun] at h
    split at h
    · rename_i hw
      split at h
      · rename_i v s1 h1
        split at h
        · rename_i tm1 hp
          split at h
          · rename_i xs1 tE1 sE1 hr
            cases h
            obtain ⟨S, TM, W, V, ht, e1, e2, e3, e4⟩ := drawRun_spec hr
            refine ⟨shift s S, shift tm TM, shift true W, shift v V, ⟨?_, ?_, ?_, ?_, ?_⟩, rfl, rfl, e3, e4⟩ <;> intro i o' ho <;> cases i <;> simp only [nth, Option.some.injEq] at ho
            · rfl
            · exact ht.at_ _ _ ho
            · subst ho; exact hw
            · exact ht.want _ _ ho
            · intro _; subst ho; simp only [shift, e1]; exact h1
            · exact ht.run _ _ ho
            · intro hc; cases hc
            · exact ht.skip _ _ ho
            · subst ho; simp only [shift, e2]; exact hp
            · exact ht.put _ _ ho
          · cases h
        · cases h
      · cases h
    · rename_i hw
      split at h
      · rename_i tm1 hp
        split at h
        · rename_i xs1 tE1 sE1 hr
          cases h
          obtain ⟨S, TM, W, V, ht, e1, e2, e3, e4⟩ := drawRun_spec hr
          refine ⟨shift s S, shift tm TM, shift false W, shift (.tuple []) V, ⟨?_, ?_, ?_, ?_, ?_⟩, rfl, rfl, e3, e4⟩ <;> intro i o' ho <;> cases i <;> simp only [nth, Option.some.injEq] at ho
          · rfl
          · exact ht.at_ _ _ ho
          · subst ho; exact hw
          · exact ht.want _ _ ho
          · intro hc; cases hc
          · exact ht.run _ _ ho
          · intro _; exact ⟨rfl, e1⟩
          · exact ht.skip _ _ ho
          · subst ho; simp only [shift, e2]; exact hp
          · exact ht.put _ _ ho
        · cases h
      · cases h
    · cases h

theorem drawRun_len {ops : List Oper} : ∀ {l : List Oper} {tm tE : T AV} {s sE : HS} {xs : List Snap}, drawRun P orc cl N ops l tm s = some (xs, tE, sE) → nth xs l.length = none
  | [], tm, tE, s, sE, xs, h => by cases h; rfl
  | o :: l, tm, tE, s, sE, xs, h => by
    simp only [drawRun] at h
    split at h
    · split at h
      · split at h
        · split at h
          · rename_i hr; cases h; exact drawRun_len (l := l) hr
          · cases h
        · cases h
      · cases h
    · split at h
      · split at h
        · rename_i hr; cases h; exact drawRun_len (l := l) hr
        · cases h
      · cases h
    · cases h

/-! #### the looks -/
def esOf (P : Program) : Nat → List Oper → List Nat
  | _, [] => []
  | i, o :: l => match isE P o with
    | true => i :: esOf P (i + 1) l
    | false => esOf P (i + 1) l
theorem esOf_spec : ∀ {l : List Oper} {k i : Nat}, i ∈ esOf P k l → ∃ j o, i = k + j ∧ nth l j = some o ∧ isE P o = true
  | [], k, i, h => by cases h
  | o :: l, k, i, h => by
    simp only [esOf] at h
    split at h
    · rename_i hE
      rcases List.mem_cons.1 h with rfl | h
      · exact ⟨0, o, rfl, rfl, hE⟩
      · obtain ⟨j, o', e, h1, h2⟩ := esOf_spec h; exact ⟨j + 1, o', by omega, h1, h2⟩
    · obtain ⟨j, o', e, h1, h2⟩ := esOf_spec h; exact ⟨j + 1, o', by omega, h1, h2⟩
theorem esOf_mem : ∀ {l : List Oper} {k j : Nat} {o : Oper}, nth l j = some o → isE P o = true → k + j ∈ esOf P k l
  | [], k, j, o, h, _ => by cases j <;> cases h
  | x :: l, k, 0, o, h, hE => by cases h; simp [esOf, hE]
  | x :: l, k, j + 1, o, h, hE => by
    have := esOf_mem (l := l) (k := k + 1) (j := j) h hE
    rw [show k + 1 + j = k + (j + 1) by omega] at this
    simp only [esOf]
    split
    · exact List.mem_cons_of_mem _ this
    · exact this

/-- Could op i be run when just the effects before p have been run? -/
def admis (es : List Nat) (ms : List Nat) (p i : Nat) : Bool := es.all fun e => match Nat.ble p e with
  | true => !((nth ms i).getD 0).testBit e
  | false => !((nth ms e).getD 0).testBit i
def isR (P : Program) (o : Oper) : Bool := match kindOf P o with
  | .r => true
  | _ => false
def sAt (xs : List Snap) (sE : HS) (p : Nat) : HS := match nth xs p with
  | some x => x.s
  | none => sE
def chkR (G : Nat) (P : Program) (es ms : List Nat) (xs : List Snap) (sE : HS) (i : Nat) (o : Oper) (x : Snap) (p : Nat) : Bool := match admis es ms p i with
  | true => match aR P (ev G x.tm) (sAt xs sE p).h o with
    | some v => avEq v x.v
    | none => false
  | false => true
def chkA (b : Nat) : Nat → List Snap → Bool
  | 0, _ => true
  | _ + 1, [] => true
  | k + 1, x :: l => match x.s.h.get b with
    | none => chkA b k l
    | some _ => false
def dyn1 (G : Nat) (P : Program) (es ms : List Nat) (xs : List Snap) (sE : HS) (i : Nat) (o : Oper) (x : Snap) : Bool := match x.w, kindOf P o with
  | true, .r => chkR G P es ms xs sE i o x 0 && es.all fun e => chkR G P es ms xs sE i o x (e + 1)
  | true, .a => chkA x.s.n (i + 1) xs
  | _, _ => true
def dynGo (G : Nat) (P : Program) (es ms : List Nat) (xs : List Snap) (sE : HS) : Nat → List Oper → List Snap → Bool
  | i, o :: l, x :: ys => match dyn1 G P es ms xs sE i o x with
    | true => dynGo G P es ms xs sE (i + 1) l ys
    | false => false
  | _, _, _ => true
theorem dynGo_spec {es ms : List Nat} {xs : List Snap} {sE : HS} : ∀ {l : List Oper} {ys : List Snap} {k : Nat}, dynGo G P es ms xs sE k l ys = true → ∀ i o x, nth l i = some o → nth ys i = some x → dyn1 G P es ms xs sE (k + i) o x = true
  | [], _, _, _, i, o, x, h, _ => by cases i <;> cases h
  | _ :: _, [], _, _, i, o, x, _, h => by cases i <;> cases h
  | o' :: l, y :: ys, k, h, i, o, x, ho, hx => by
    simp only [dynGo] at h
    split at h
    · rename_i h1
      cases i with
      | zero => cases ho; cases hx; exact h1
      | succ i =>
        have := dynGo_spec h i o x ho hx
        rwa [show k + 1 + i = k + (i + 1) by omega] at this
    · cases h
theorem chkA_spec {b : Nat} : ∀ {xs : List Snap} {k : Nat}, chkA b k xs = true → ∀ i x, i < k → nth xs i = some x → x.s.h.get b = none
  | [], k, _, i, x, _, h => by cases i <;> cases h
  | y :: xs, 0, _, i, x, hi, _ => by omega
  | y :: xs, k + 1, h, i, x, hi, hx => by
    simp only [chkA] at h
    split at h
    · rename_i h1
      cases i with
      | zero => cases hx; exact h1
      | succ i => exact chkA_spec h i x (by omega) hx
    · cases h
theorem admis_spec {es ms : List Nat} {p i : Nat} (h : ∀ e ∈ es, if p ≤ e then ((nth ms i).getD 0).testBit e = false else ((nth ms e).getD 0).testBit i = false) : admis es ms p i = true := by
  unfold admis
  rw [List.all_eq_true]
  intro e he
  have := h e he
  split
  · rename_i hb
    rw [if_pos (by simpa [Nat.ble_eq] using hb)] at this
    simp [this]
  · rename_i hb
    rw [if_neg (by intro hc; rw [Nat.ble_eq_true_of_le hc] at hb; cases hb)] at this
    simp [this]

def aDraw (P : Program) (orc : Orc P G) (cl : CF) (N : Nat) (ops : List Oper) (tm : T AV) (s : HS) : Option (T AV × HS) :=
  match drawRun P orc cl N ops ops tm s with
  | some (xs, tE, sE) => match okReg P ops with
    | true => match dynGo G P (esOf P 0 ops) (masksGo ops []) xs sE 0 ops xs with
      | true => some (tE, sE)
      | false => none
    | false => none
  | none => none
end
end Go.Proofs.YtbklalklebjiaaaGreatDoor.XAm

set_option linter.unusedVariables false
set_option linter.unusedSimpArgs false
namespace Go.Proofs.YtbklalklebjiaaaGreatDoor.XAm
open Go Go.RowKit

theorem ltF {n : Nat} (h : Nat.blt n 60000 = true) : n + 1 < 2 ^ F := by
  have : n < 60000 := by simpa [Nat.blt_eq] using h
  unfold F; omega
theorem want_sound' {r : Ren} {N : Nat} {tm : T AV} {a : Act} {ops : Array Oper} {o : Oper} {b : Bool} (h : aWant N ops.toList tm o = some b)
    (ht : ∀ g want, o.guard = some (g, want) → ∀ og d, nth ops.toList g = some og → og.dst = some d → ∀ v, tm.get d = some v → VRel r v (a.tmps.getD d undef)) (hN : a.tmps.size = N) : Region.wanted o (yielded ops a.tmps) = b := by
  unfold aWant at h
  split at h
  · rename_i hg; cases h; simp [Region.wanted, hg]
  · rename_i g want hg
    split at h
    · rename_i og hog
      split at h
      · rename_i d hd
        have ht' := ht g want hg og d hog hd
        rw [nth_eq] at hog
        have hog' : ops[g]? = some og := by simpa using hog
        split at h
        · rename_i b' hdN hb
          cases h
          have hv := ht' _ hb
          have hlt : d < a.tmps.size := by rw [hN]; simpa [Nat.blt_eq] using hdN
          have : a.tmps[d]? = some (.bool b') := by
            rw [Array.getElem?_eq_getElem hlt]
            generalize hq : a.tmps.getD d undef = q at hv
            cases hv
            rw [Array.getD_eq_getD_getElem?, Array.getElem?_eq_getElem hlt] at hq
            simpa using hq
          simp only [Region.wanted, hg, yielded, hog', Option.bind_some, hd, this]
          cases b' <;> cases want <;> rfl
        · rename_i hdN hb
          cases h
          have hv := ht' _ hb
          have hlt : d < a.tmps.size := by rw [hN]; simpa [Nat.blt_eq] using hdN
          have : a.tmps[d]? = some (.tuple #[]) := by
            rw [Array.getElem?_eq_getElem hlt]
            generalize hq : a.tmps.getD d undef = q at hv
            cases hv
            rename_i c hc
            cases hc
            rw [Array.getD_eq_getD_getElem?, Array.getElem?_eq_getElem hlt] at hq
            simpa using hq
          simp only [Region.wanted, hg, yielded, hog', Option.bind_some, hd, this]
          cases want <;> rfl
        · cases h
      · cases h
    · cases h

theorem down_mask {P : Program} {ops : List Oper} {ms : List Nat} (hok : OkR P ops ms) {lst : Nat → Bool} (hd : ∀ i o, nth ops i = some o → lst i = true → ∀ e ∈ o.after.toList, Region.binds .any e = true → lst e.on = true) :
    ∀ (i : Nat) (o : Oper), nth ops i = some o → (∀ e ∈ o.after.toList, Region.binds .any e = true → lst e.on = true) → ∀ j, ((nth ms i).getD 0).testBit j = true → lst j = true := by
  intro i
  induction i using Nat.strongRecOn with
  | _ i ih =>
    intro o ho ha j hj
    obtain ⟨e, he, hb, h⟩ := hok.mask i o ho j hj
    have hl := ha e he hb
    rcases h with rfl | h
    · exact hl
    · have hlt := hok.on i o ho e he hb
      have hil : i < ops.length := by
        rw [nth_eq] at ho; exact (List.getElem?_eq_some_iff.1 ho).1
      have hex : nth ops e.on = some ops[e.on] := by rw [nth_eq]; exact List.getElem?_eq_getElem (by omega)
      exact ih e.on hlt _ hex (hd _ _ hex hl) j h

def cnt (f : Nat → Bool) : Nat → Nat
  | 0 => 0
  | n + 1 => cnt f n + (if f n then 0 else 1)
theorem cnt_eq {f g : Nat → Bool} : ∀ {n : Nat}, (∀ j, j < n → g j = f j) → cnt g n = cnt f n
  | 0, _ => rfl
  | n + 1, h => by simp only [cnt]; rw [cnt_eq fun j hj => h j (by omega), h n (by omega)]
theorem cnt_set {f g : Nat → Bool} {i : Nat} (hi : f i = false) (hg : g i = true) (ho : ∀ j, j ≠ i → g j = f j) : ∀ {n : Nat}, i < n → cnt g n + 1 = cnt f n
  | 0, h => by omega
  | n + 1, h => by
    simp only [cnt]
    by_cases e : i = n
    · subst e
      rw [cnt_eq (f := f) fun j hj => ho j (by omega), hi, hg]
      simp
    · have := cnt_set hi hg ho (n := n) (by omega)
      rw [ho n (by omega)]
      omega
theorem cnt_zero {f : Nat → Bool} : ∀ {n : Nat}, cnt f n = 0 → ∀ i, i < n → f i = true
  | 0, _, i, h => by omega
  | n + 1, h, i, hi => by
    simp only [cnt] at h
    by_cases e : i = n
    · subst e
      cases hf : f i with
      | true => rfl
      | false => rw [hf] at h; simp at h
    · exact cnt_zero (n := n) (by omega) i (by omega)

section
variable {P : Program} {B G N : Nat} {orc : Orc P G} {cl : CF} {ops : Array Oper} {ms : List Nat} {xs : List Snap} {S : Nat → HS} {TM : Nat → T AV} {W : Nat → Bool} {V : Nat → AV}

theorem Tr.le (ht : Tr P orc cl N ops.toList ops.toList xs S TM W V) {i : Nat} {o : Oper} (ho : nth ops.toList i = some o) : (S i).n ≤ (S (i + 1)).n := by
  cases hw : W i with
  | true => exact aOp_le (ht.run i o ho hw)
  | false => rw [(ht.skip i o ho hw).2]; exact Nat.le_refl _
theorem nth_lt {α : Type} {l : List α} {i : Nat} {x : α} (h : nth l i = some x) : i < l.length := by
  rw [nth_eq] at h; exact (List.getElem?_eq_some_iff.1 h).1
theorem nth_of_lt {α : Type} {l : List α} {i : Nat} (h : i < l.length) : ∃ x, nth l i = some x := ⟨l[i], by rw [nth_eq]; exact List.getElem?_eq_getElem h⟩
theorem Tr.mono (ht : Tr P orc cl N ops.toList ops.toList xs S TM W V) : ∀ {d i : Nat}, i + d ≤ ops.toList.length → (S i).n ≤ (S (i + d)).n
  | 0, i, _ => Nat.le_refl _
  | d + 1, i, h => by
    have h1 := Tr.mono ht (d := d) (i := i) (by omega)
    obtain ⟨o, ho⟩ := nth_of_lt (l := ops.toList) (i := i + d) (by omega)
    exact Nat.le_trans h1 (ht.le ho)
theorem Tr.mono' (ht : Tr P orc cl N ops.toList ops.toList xs S TM W V) {i j : Nat} (hij : i ≤ j) (hj : j ≤ ops.toList.length) : (S i).n ≤ (S j).n := by
  have := ht.mono (d := j - i) (i := i) (by omega)
  rwa [show i + (j - i) = j by omega] at this

/-- What a slot holds in the run by the text. -/
theorem Tr.slot (ht : Tr P orc cl N ops.toList ops.toList xs S TM W V) (hok : OkR P ops.toList ms) : ∀ {i : Nat}, i ≤ ops.toList.length → ∀ {t : Nat} {v : AV}, (TM i).get t = some v →
    (∃ j o, j < i ∧ nth ops.toList j = some o ∧ o.dst = some t ∧ v = V j) ∨ ((TM 0).get t = some v ∧ ∀ j o, j < i → nth ops.toList j = some o → o.dst ≠ some t)
  | 0, _, t, v, h => .inr ⟨h, fun j o hj => by omega⟩
  | i + 1, hi, t, v, h => by
    have hi' : i < ops.toList.length := hi
    obtain ⟨o, ho⟩ := nth_of_lt (l := ops.toList) (i := i) hi'
    have hp := ht.put i o ho
    unfold aPut at hp
    split at hp
    · rename_i hd
      simp only [Option.some.injEq] at hp
      rw [← hp] at h
      rcases Tr.slot ht hok (i := i) (by omega) h with ⟨j, oj, hj, h1, h2, h3⟩ | ⟨h1, h2⟩
      · exact .inl ⟨j, oj, by omega, h1, h2, h3⟩
      · refine .inr ⟨h1, fun j oj hj hoj => ?_⟩
        by_cases e : j = i
        · subst e; rw [ho] at hoj; cases hoj; rw [hd]; intro hc; cases hc
        · exact h2 j oj (by omega) hoj
    · rename_i d hd
      split at hp
      · rename_i b1 b2
        simp only [Option.some.injEq] at hp
        rw [← hp] at h
        have hF := ltF b2
        by_cases e : t = d
        · subst e
          rw [T.get_put_same F _ t _ hF] at h
          cases h
          exact .inl ⟨i, o, by omega, ho, hd, rfl⟩
        · rw [T.get_put_other F _ d _ t e] at h
          rcases Tr.slot ht hok (i := i) (by omega) h with ⟨j, oj, hj, h1, h2, h3⟩ | ⟨h1, h2⟩
          · exact .inl ⟨j, oj, by omega, h1, h2, h3⟩
          · refine .inr ⟨h1, fun j oj hj hoj => ?_⟩
            by_cases e' : j = i
            · subst e'; rw [ho] at hoj; cases hoj; rw [hd]; intro hc; cases hc; exact e rfl
            · exact h2 j oj (by omega) hoj
      · cases hp

/-- What an operation is that neither writes nor allocates. -/
theorem aOp_quiet {E : EV} {s s' : HS} {o : Oper} {v : AV} (h : aOp P orc cl E s o = some (v, s')) (hE : isE P o = false) (hA : isA P o = false) : s' = s := by
  unfold aOp at h
  unfold isE at hE
  unfold isA at hA
  split at h
  · rename_i v1 s1 hk
    split at h
    · cases h
      split at hk
      · split at hk
        · cases hk; rfl
        · cases hk
      · split at hk
        · cases hk; rfl
        · cases hk
      · rename_i hkk; rw [hkk] at hA; cases hA
      · rename_i hkk; rw [hkk] at hE; cases hE
      · rename_i hkk; rw [hkk] at hE; cases hE
    · cases h
  · cases h
theorem aOp_a {E : EV} {s s' : HS} {o : Oper} {v : AV} (h : aOp P orc cl E s o = some (v, s')) (hA : isA P o = true) : aA P E s o = some (v, s') := by
  unfold aOp at h
  unfold isA at hA
  split at h
  · rename_i v1 s1 hk
    split at h
    · cases h
      split at hk
      · rename_i hkk; rw [hkk] at hA; cases hA
      · rename_i hkk; rw [hkk] at hA; cases hA
      · exact hk
      · rename_i hkk; rw [hkk] at hA; cases hA
      · rename_i hkk; rw [hkk] at hA; cases hA
    · cases h
  · cases h
theorem aOp_q {E : EV} {s s' : HS} {o : Oper} {v : AV} (h : aOp P orc cl E s o = some (v, s')) (hE : isE P o = false) (hA : isA P o = false) (hR : isR P o = false) : aQ P E o = some v := by
  unfold aOp at h
  unfold isE at hE
  unfold isA at hA
  unfold isR at hR
  split at h
  · rename_i v1 s1 hk
    split at h
    · cases h
      split at hk
      · split at hk
        · cases hk; assumption
        · cases hk
      · rename_i hkk; rw [hkk] at hR; cases hR
      · rename_i hkk; rw [hkk] at hA; cases hA
      · rename_i hkk; rw [hkk] at hE; cases hE
      · rename_i hkk; rw [hkk] at hE; cases hE
    · cases h
  · cases h

/-- A block that is live at q was live at p, or is new since. -/
theorem Tr.since (ht : Tr P orc cl N ops.toList ops.toList xs S TM W V) {p : Nat} : ∀ {d : Nat}, p + d ≤ ops.toList.length → (∀ j o, p ≤ j → j < p + d → nth ops.toList j = some o → isE P o = false) → ∀ {b : Nat} {o : AObj}, (S (p + d)).h.get b = some o →
    (S p).h.get b = some o ∨ ∃ j oj, p ≤ j ∧ j < p + d ∧ nth ops.toList j = some oj ∧ isA P oj = true ∧ W j = true ∧ b = (S j).n ∧ (S (j + 1)).h.get b = some o
  | 0, _, _, b, o, h => .inl h
  | d + 1, hd, hE, b, o, h => by
    obtain ⟨o', ho'⟩ := nth_of_lt (l := ops.toList) (i := p + d) (by omega)
    have hrec := fun (h : (S (p + d)).h.get b = some o) => Tr.since ht (d := d) (by omega) (fun j oj h1 h2 => hE j oj h1 (by omega)) h
    have fin : (S (p + d)).h.get b = some o → (S p).h.get b = some o ∨ ∃ j oj, p ≤ j ∧ j < p + (d + 1) ∧ nth ops.toList j = some oj ∧ isA P oj = true ∧ W j = true ∧ b = (S j).n ∧ (S (j + 1)).h.get b = some o := fun h => by
      rcases hrec h with h | ⟨j, oj, h1, h2, h3⟩
      · exact .inl h
      · exact .inr ⟨j, oj, h1, by omega, h3⟩
    have hEo := hE (p + d) o' (by omega) (by omega) ho'
    cases hw : W (p + d) with
    | false => exact fin (by have := (ht.skip _ _ ho' hw).2; rw [show p + (d + 1) = p + d + 1 from rfl, this] at h; exact h)
    | true =>
      have hr := ht.run _ _ ho' hw
      cases hA : isA P o' with
      | false => exact fin (by rw [show p + (d + 1) = p + d + 1 from rfl, aOp_quiet hr hEo hA] at h; exact h)
      | true =>
        obtain ⟨hlt, x, hs, _⟩ := aA_any (aOp_a hr hA)
        have hF : (S (p + d)).n + 1 < 2 ^ F := by unfold F; omega
        have h0 := h
        rw [show p + (d + 1) = p + d + 1 from rfl, hs] at h
        simp only at h
        by_cases e : b = (S (p + d)).n
        · exact .inr ⟨p + d, o', by omega, by omega, ho', hA, hw, e, h0⟩
        · rw [T.get_put_other F _ _ _ b e] at h
          exact fin h

/-- What is live when just the effects before p have been run, and what is listed. -/
def HPof (P : Program) (ops : List Oper) (S : Nat → HS) (W : Nat → Bool) (p : Nat) (lst : Nat → Bool) (b : Nat) (o : AObj) : Prop :=
  (S p).h.get b = some o ∨ ∃ j oj, nth ops j = some oj ∧ isA P oj = true ∧ W j = true ∧ lst j = true ∧ p ≤ j ∧ b = (S j).n ∧ (S (j + 1)).h.get b = some o

structure Inv (B G N c0 c1 : Nat) (P : Program) (ops : List Oper) (S : Nat → HS) (TM : Nat → T AV) (W : Nat → Bool) (V : Nat → AV) (r0 : Ren) (w0 : World) (ds : List Deferred) (p : Nat) (r : Ren) (lst : Nat → Bool) (a : Act) (w : World) : Prop where
  down : ∀ i o, nth ops i = some o → lst i = true → ∀ e ∈ o.after.toList, Region.binds .any e = true → lst e.on = true
  upto : p = 0 ∨ ∃ e o, p = e + 1 ∧ nth ops e = some o ∧ isE P o = true
  effs : ∀ e o, nth ops e = some o → isE P o = true → (lst e = true ↔ e < p)
  step : PStep B c0 c1 r0 (fun b o => (S 0).h.get b = some o) w0 r (HPof P ops S W p lst) w
  glob : Glob G r
  fresh : ∀ i o, nth ops i = some o → lst i = false → Fresh r (S i).n (S (i + 1)).n
  tm0 : ∀ t v, (∀ i o, nth ops i = some o → lst i = true → o.dst ≠ some t) → (TM 0).get t = some v → VRel r v (a.tmps.getD t undef)
  tmV : ∀ i o d, nth ops i = some o → lst i = true → o.dst = some d → VRel r (V i) (a.tmps.getD d undef)
  size : a.tmps.size = N
  dfr : a.defers = ds

theorem PStep.widen {B c0 c1 d0 d1 : Nat} {r r1 : Ren} {HP HP1 : Nat → AObj → Prop} {w w1 : World} (h : PStep B c0 c1 r HP w r1 HP1 w1) (h0 : d0 ≤ c0) (h1 : c1 ≤ d1) : PStep B d0 d1 r HP w r1 HP1 w1 :=
  ⟨h.ext, fun b hb => h.out b (by omega), h.rel, h.below, h.kept, h.img⟩

theorem Inv.next (ht : Tr P orc cl N ops.toList ops.toList xs S TM W V) (hok : OkR P ops.toList ms) {c0 c1 : Nat} (hc0 : c0 = (S 0).n) (hc1 : c1 = (S ops.toList.length).n) {r0 : Ren} {w0 : World} {ds : List Deferred} {p p' : Nat} {r r' : Ren} {lst lst' : Nat → Bool} {a : Act} {w w' : World}
    (h : Inv B G N c0 c1 P ops.toList S TM W V r0 w0 ds p r lst a w) {i : Nat} {o : Oper} (ho : nth ops.toList i = some o) (hi : lst i = false) (ha : ∀ e ∈ o.after.toList, Region.binds .any e = true → lst e.on = true)
    (hl1 : lst' i = true) (hl2 : ∀ j, j ≠ i → lst' j = lst j) {u : Value} (hu : VRel r' (V i) u)
    (hp : p' = if isE P o = true then i + 1 else p)
    (st : PStep B (S i).n (S (i + 1)).n r (HPof P ops.toList S W p lst) w r' (HPof P ops.toList S W p' lst') w') : Inv B G N c0 c1 P ops.toList S TM W V r0 w0 ds p' r' lst' (a.put o.dst u) w' := by
  have hil := nth_lt ho
  have hpo := ht.put i o ho
  have hmono : ∀ j, lst j = true → lst' j = true := fun j hj => by
    by_cases e : j = i
    · rw [e]; exact hl1
    · rw [hl2 j e]; exact hj
  have hsel : ∀ j, lst' j = true → j = i ∨ lst j = true := fun j hj => by
    by_cases e : j = i
    · exact .inl e
    · rw [hl2 j e] at hj; exact .inr hj
  have hput : ∀ t, o.dst ≠ some t → (a.put o.dst u).tmps.getD t undef = a.tmps.getD t undef := fun t htd => by
    cases hd : o.dst with
    | none => rfl
    | some d =>
      have hne : t ≠ d := fun e => htd (by rw [hd, e])
      simp only [Act.put]
      rw [Array.getD_eq_getD_getElem?, Array.getD_eq_getD_getElem?, Array.getElem?_setIfInBounds_ne (Ne.symm hne)]
  have hsame : ∀ d, o.dst = some d → (a.put o.dst u).tmps.getD d undef = u := fun d hd => by
    rw [hd]
    unfold aPut at hpo
    rw [hd] at hpo
    simp only at hpo
    split at hpo
    · rename_i b1 b2
      have hlt : d < a.tmps.size := by rw [h.size]; simpa [Nat.blt_eq] using b1
      simp [Act.put, hlt]
    · cases hpo
  refine ⟨fun j oj hj hlj e he hb => ?_, ?_, fun e oe he hE => ?_, ?_, h.glob.mono st.ext, fun j oj hj hlj => ?_, fun t v hn hg => ?_, fun j oj d hj hlj hd => ?_, ?_, ?_⟩
  · rcases hsel j hlj with rfl | hlj
    · rw [ho] at hj; cases hj; exact hmono _ (ha e he hb)
    · exact hmono _ (h.down j oj hj hlj e he hb)
  · rw [hp]
    split
    · rename_i hE; exact .inr ⟨i, o, rfl, ho, hE⟩
    · exact h.upto
  · rw [hp]
    by_cases hei : e = i
    · subst hei
      rw [ho] at he; cases he
      rw [if_pos hE]
      exact ⟨fun _ => by omega, fun _ => hl1⟩
    · rw [hl2 e hei]
      split
      · rename_i hEo
        constructor
        · intro hle
          by_cases hlt : e < i
          · omega
          · have := down_mask hok h.down e oe he (h.down e oe he hle) i (hok.bef e oe he hE i o ho (by omega) (.inl hEo))
            rw [hi] at this; cases this
        · intro hlt
          exact down_mask hok h.down i o ho ha e (hok.bef i o ho hEo e oe he (by omega) (.inl hE))
      · exact h.effs e oe he hE
  · refine h.step.comp (st.widen ?_ ?_)
    · rw [hc0]; exact ht.mono' (Nat.zero_le _) (by omega)
    · rw [hc1]; exact ht.mono' (by omega) (Nat.le_refl _)
  · have hji : j ≠ i := fun e => by subst e; rw [hl1] at hlj; cases hlj
    rw [hl2 j hji] at hlj
    have hjl := nth_lt hj
    intro b hb1 hb2
    rw [st.out b ?_]
    · exact h.fresh j oj hj hlj b hb1 hb2
    · by_cases hlt : j < i
      · have := ht.mono' (i := j + 1) (j := i) (by omega) (by omega)
        exact .inl (by omega)
      · have := ht.mono' (i := i + 1) (j := j) (by omega) (by omega)
        exact .inr (by omega)
  · rw [hput t (hn i o ho hl1)]
    exact (h.tm0 t v (fun j oj hj hlj => hn j oj hj (hmono j hlj)) hg).mono st.ext
  · rcases hsel j hlj with rfl | hlj
    · rw [ho] at hj; cases hj
      rw [hsame d hd]; exact hu
    · have hne : o.dst ≠ some d := fun hc => by
        have := hok.dst j oj hj d hd i o ho hc
        subst this; rw [hi] at hlj; cases hlj
      rw [hput d hne]
      exact (h.tmV j oj d hj hlj hd).mono st.ext
  · cases hd : o.dst with
    | none => exact h.size
    | some d => simp [Act.put, h.size]
  · cases hd : o.dst with
    | none => exact h.dfr
    | some d => exact h.dfr
end
end Go.Proofs.YtbklalklebjiaaaGreatDoor.XAm

set_option linter.unusedVariables false
set_option linter.unusedSimpArgs false
namespace Go.Proofs.YtbklalklebjiaaaGreatDoor.XAm
open Go Go.RowKit

section
variable {P : Program} {B G N : Nat} {orc : Orc P G} {cl : CF} {ops : Array Oper} {ms : List Nat} {xs : List Snap} {S : Nat → HS} {TM : Nat → T AV} {W : Nat → Bool} {V : Nat → AV}
  {c0 c1 p : Nat} {r0 r : Ren} {w0 w : World} {ds : List Deferred} {lst lst' : Nat → Bool} {a : Act}

theorem inAft_spec {o : Oper} {j : Nat} (h : inAft o j = true) : ∃ e ∈ o.after.toList, Region.binds .any e = true ∧ e.on = j := by
  unfold inAft at h
  rw [List.any_eq_true] at h
  obtain ⟨e, he, hb⟩ := h
  rw [Bool.and_eq_true] at hb
  exact ⟨e, he, hb.1, beq_t hb.2⟩

theorem Inv.slot (ht : Tr P orc cl N ops.toList ops.toList xs S TM W V) (hok : OkR P ops.toList ms) (h : Inv B G N c0 c1 P ops.toList S TM W V r0 w0 ds p r lst a w) {i : Nat} (hi : i ≤ ops.toList.length) {t : Nat} {v : AV}
    (hl : ∀ j oj, nth ops.toList j = some oj → oj.dst = some t → (lst j = true ∧ j < i) ∨ (lst j = false ∧ i ≤ j)) (hg : (TM i).get t = some v) : VRel r v (a.tmps.getD t undef) := by
  rcases ht.slot hok hi hg with ⟨j, oj, hj, h1, h2, rfl⟩ | ⟨h1, h2⟩
  · rcases hl j oj h1 h2 with ⟨h3, _⟩ | ⟨_, h4⟩
    · exact h.tmV j oj t h1 h3 h2
    · omega
  · refine h.tm0 t v (fun j oj hj hlj hd => ?_) h1
    rcases hl j oj hj hd with ⟨_, h4⟩ | ⟨h3, _⟩
    · exact h2 j oj h4 hj hd
    · rw [hlj] at h3; cases h3

theorem Inv.opers (ht : Tr P orc cl N ops.toList ops.toList xs S TM W V) (hok : OkR P ops.toList ms) (h : Inv B G N c0 c1 P ops.toList S TM W V r0 w0 ds p r lst a w) {i : Nat} {o : Oper} (ho : nth ops.toList i = some o) (hi : lst i = false)
    (ha : ∀ e ∈ o.after.toList, Region.binds .any e = true → lst e.on = true) : ESound r (ev G (TM i)) a.eval o.op.operands.toList := by
  intro x hx v hv
  cases x with
  | tmp t =>
    refine h.slot ht hok (Nat.le_of_lt (nth_lt ho)) (fun j oj hj hd => ?_) hv
    rcases hok.dep i o ho t hx j oj hj hd with hd | ⟨hij, hm⟩
    · obtain ⟨e, he, hb, rfl⟩ := inAft_spec hd
      exact .inl ⟨ha e he hb, hok.on i o ho e he hb⟩
    · cases hlj : lst j with
      | false => exact .inr ⟨rfl, hij⟩
      | true =>
        have := down_mask hok h.down j oj hj (h.down j oj hj hlj) i hm
        rw [hi] at this; cases this
  | const c => exact ev_sound (tm := .nil) h.glob ⟨fun t a h => by cases h⟩ (x := .const c) hv
  | global g => exact ev_sound (tm := .nil) h.glob ⟨fun t a h => by cases h⟩ (x := .global g) hv
  | func f => exact ev_sound (tm := .nil) h.glob ⟨fun t a h => by cases h⟩ (x := .func f) hv

theorem Inv.wants (ht : Tr P orc cl N ops.toList ops.toList xs S TM W V) (hok : OkR P ops.toList ms) (h : Inv B G N c0 c1 P ops.toList S TM W V r0 w0 ds p r lst a w) {i : Nat} {o : Oper} (ho : nth ops.toList i = some o)
    (ha : ∀ e ∈ o.after.toList, Region.binds .any e = true → lst e.on = true) : Region.wanted o (yielded ops a.tmps) = W i := by
  refine want_sound' (r := r) (ht.want i o ho) (fun g want hg og d hog hd v hv => ?_) h.size
  refine h.slot ht hok (Nat.le_of_lt (nth_lt ho)) (fun j oj hj hdj => ?_) hv
  have : j = g := hok.dst g og hog d hd j oj hj hdj
  subst this
  obtain ⟨e, he, hb, rfl⟩ := inAft_spec (hok.guard i o ho j want hg)
  exact .inl ⟨ha e he hb, hok.on i o ho e he hb⟩

theorem Inv.before (ht : Tr P orc cl N ops.toList ops.toList xs S TM W V) (hok : OkR P ops.toList ms) (h : Inv B G N c0 c1 P ops.toList S TM W V r0 w0 ds p r lst a w) {i : Nat} {o : Oper} (ho : nth ops.toList i = some o) (hi : lst i = false)
    (ha : ∀ e ∈ o.after.toList, Region.binds .any e = true → lst e.on = true) (hE : isE P o = true) : p ≤ i ∧ ∀ b x, (S i).h.get b = some x → HPof P ops.toList S W p lst b x := by
  have hil := nth_lt ho
  have hpi : p ≤ i := by
    rcases h.upto with rfl | ⟨e, oe, rfl, he, hEe⟩
    · exact Nat.zero_le _
    · have hle : lst e = true := (h.effs e oe he hEe).2 (by omega)
      by_cases hlt : e < i
      · omega
      · have hne : e ≠ i := fun hc => by rw [hc, hi] at hle; cases hle
        have := down_mask hok h.down e oe he (h.down e oe he hle) i (hok.bef e oe he hEe i o ho (by omega) (.inl hE))
        rw [hi] at this; cases this
  refine ⟨hpi, fun b x hb => ?_⟩
  have hadd : p + (i - p) = i := by omega
  rw [← hadd] at hb
  have hnoE : ∀ j oj, p ≤ j → j < p + (i - p) → nth ops.toList j = some oj → isE P oj = false := fun j oj h1 h2 hj => by
    cases hEj : isE P oj with
    | false => rfl
    | true =>
      have hl := down_mask hok h.down i o ho ha j (hok.bef i o ho hE j oj hj (by omega) (.inl hEj))
      have := (h.effs j oj hj hEj).1 hl
      omega
  rcases ht.since (by omega) hnoE hb with hb | ⟨j, oj, h1, h2, hj, hA, hW, h3⟩
  · exact .inl hb
  · exact .inr ⟨j, oj, hj, hA, hW, down_mask hok h.down i o ho ha j (hok.bef i o ho hE j oj hj (by omega) (.inr hA)), h1, h3⟩

theorem sAt_eq {sE : HS} (ht : Tr P orc cl N ops.toList ops.toList xs S TM W V) (hlen : nth xs ops.toList.length = none) (hS : S ops.toList.length = sE) {p : Nat} (hp : p ≤ ops.toList.length) : sAt xs sE p = S p := by
  unfold sAt
  by_cases e : p = ops.toList.length
  · rw [e, hlen, hS]
  · obtain ⟨o, ho⟩ := nth_of_lt (l := ops.toList) (i := p) (by omega)
    rw [ht.at_ p o ho]

theorem Inv.op (hcl : CSound P G cl) (ht : Tr P orc cl N ops.toList ops.toList xs S TM W V) (hok : OkR P ops.toList ms) {sE : HS} (hlen : nth xs ops.toList.length = none) (hS : S ops.toList.length = sE)
    (hdyn : dynGo G P (esOf P 0 ops.toList) ms xs sE 0 ops.toList xs = true) (hc0 : c0 = (S 0).n) (hc1 : c1 = (S ops.toList.length).n) (h : Inv B G N c0 c1 P ops.toList S TM W V r0 w0 ds p r lst a w)
    {i : Nat} {o : Oper} (ho : nth ops.toList i = some o) (hi : lst i = false) (ha : ∀ e ∈ o.after.toList, Region.binds .any e = true → lst e.on = true) (hl1 : lst' i = true) (hl2 : ∀ j, j ≠ i → lst' j = lst j)
    {K : Act → World → Prop} {Q : Exit → Act → World → Prop} (hK : ∀ p' r' a' w', Inv B G N c0 c1 P ops.toList S TM W V r0 w0 ds p' r' lst' a' w' → K a' w') :
    if Region.wanted o (yielded ops a.tmps) = true then o.wp P a w K Q else K (a.put o.dst undef) w := by
  have hil := nth_lt ho
  have hsel : ∀ j, lst' j = true → j = i ∨ lst j = true := fun j hj => by
    by_cases e : j = i
    · exact .inl e
    · rw [hl2 j e] at hj; exact .inr hj
  have hd1 : ∀ j oj, nth ops.toList j = some oj → dyn1 G P (esOf P 0 ops.toList) ms xs sE j oj ⟨TM j, S j, W j, V j⟩ = true := fun j oj hj => by
    have := dynGo_spec hdyn j oj _ hj (ht.at_ j oj hj)
    rwa [Nat.zero_add] at this
  have hOps := h.opers ht hok ho hi ha
  rw [h.wants ht hok ho ha]
  cases hw : W i with
  | false =>
    rw [if_neg (by simp)]
    obtain ⟨hv, hs⟩ := ht.skip i o ho hw
    refine hK _ r _ _ (h.next ht hok hc0 hc1 ho hi ha hl1 hl2 (u := undef) (by rw [hv]; exact .tuple .nil) rfl ((PStep.refl h.step.rel (S i).n (S (i + 1)).n).sub fun b x hb => ?_))
    split at hb
    · rename_i hE
      obtain ⟨hpi, hbef⟩ := h.before ht hok ho hi ha hE
      rcases hb with hb | ⟨j, oj, hj, hA, hW, hlj, hpj, h3⟩
      · rw [hs] at hb; exact hbef b x hb
      · rcases hsel j hlj with rfl | hlj
        · omega
        · exact .inr ⟨j, oj, hj, hA, hW, hlj, by omega, h3⟩
    · rcases hb with hb | ⟨j, oj, hj, hA, hW, hlj, hpj, h3⟩
      · exact .inl hb
      · rcases hsel j hlj with rfl | hlj
        · rw [hw] at hW; cases hW
        · exact .inr ⟨j, oj, hj, hA, hW, hlj, hpj, h3⟩
  | true =>
    rw [if_pos rfl]
    have hrun := ht.run i o ho hw
    have hle := ht.le ho
    cases hE : isE P o with
    | true =>
      obtain ⟨hpi, hbef⟩ := h.before ht hok ho hi ha hE
      refine op_wp hcl hrun (h.step.rel.to hbef) h.glob (h.fresh i o ho hi) hOps fun r' u w' st hv => hK (i + 1) r' _ _ (h.next ht hok hc0 hc1 ho hi ha hl1 hl2 hv (by rw [if_pos hE])
        (PStep.frame h.step.rel hbef st (Nat.le_refl _) (Nat.le_refl _) fun b x hb => ?_))
      rcases hb with hb | ⟨j, oj, hj, hA, hW, hlj, hpj, hbj, h3⟩
      · exact .inl hb
      · rcases hsel j hlj with rfl | hlj
        · omega
        · refine .inr ⟨.inr ⟨j, oj, hj, hA, hW, hlj, by omega, hbj, h3⟩, ?_⟩
          have h4 := hd1 j oj hj
          unfold dyn1 at h4
          have hk : kindOf P oj = .a := by
            unfold isA at hA
            split at hA
            · assumption
            · cases hA
          rw [hW, hk] at h4
          rw [hbj]
          exact chkA_spec h4 i _ (by omega) (ht.at_ i o ho)
    | false =>
      have hp' : p = if isE P o = true then i + 1 else p := by rw [hE]; rfl
      cases hA : isA P o with
      | true =>
        obtain ⟨hlt, x, hs, hany⟩ := aA_any (aOp_a hrun hA)
        have hF : (S i).n + 1 < 2 ^ F := by unfold F; omega
        have hfr : Fresh r (S i).n ((S i).n + 1) := by
          have := h.fresh i o ho hi
          rw [hs] at this; exact this
        have hnil : HRel B r .nil w := h.step.rel.to fun b x hb => by cases hb
        obtain ⟨r', v, w', e, st, hv⟩ := a_sound (P := P) (hany .nil) hnil hfr hOps
        unfold Oper.wp; rw [e, Oper.upon_value]
        refine hK p r' _ _ (h.next ht hok hc0 hc1 ho hi ha hl1 hl2 hv hp' (PStep.frame h.step.rel (X := .nil) (fun b x hb => by cases hb) st (Nat.le_refl _) (by rw [hs]; exact Nat.le_refl _) fun b y hb => ?_))
        rcases hb with hb | ⟨j, oj, hj, hAj, hW, hlj, hpj, hbj, h3⟩
        · exact .inr ⟨.inl hb, rfl⟩
        · rcases hsel j hlj with rfl | hlj
          · rw [hs, hbj] at h3
            simp only at h3
            rw [T.get_put_same F _ _ _ hF] at h3
            refine .inl ?_
            rw [hbj, T.get_put_same F _ _ _ hF]
            exact h3
          · exact .inr ⟨.inr ⟨j, oj, hj, hAj, hW, hlj, hpj, hbj, h3⟩, rfl⟩
      | false =>
        have hsub : ∀ b x, HPof P ops.toList S W p lst' b x → HPof P ops.toList S W p lst b x := fun b x hb => by
          rcases hb with hb | ⟨j, oj, hj, hAj, hW, hlj, hpj, h3⟩
          · exact .inl hb
          · rcases hsel j hlj with rfl | hlj
            · rw [ho] at hj; cases hj; rw [hA] at hAj; cases hAj
            · exact .inr ⟨j, oj, hj, hAj, hW, hlj, hpj, h3⟩
        have hstep := (PStep.refl h.step.rel (S i).n (S (i + 1)).n).sub hsub
        cases hR : isR P o with
        | true =>
          have hk : kindOf P o = .r := by
            unfold isR at hR
            split at hR
            · assumption
            · cases hR
          have h4 := hd1 i o ho
          unfold dyn1 at h4
          rw [hw, hk] at h4
          simp only [Bool.and_eq_true, List.all_eq_true] at h4
          have h5 : chkR G P (esOf P 0 ops.toList) ms xs sE i o ⟨TM i, S i, true, V i⟩ p = true := by
            rcases h.upto with hp0 | ⟨e, oe, hpe, he, hEe⟩
            · rw [hp0]; exact h4.1
            · rw [hpe]
              have := esOf_mem (k := 0) he hEe
              rw [Nat.zero_add] at this
              exact h4.2 e this
          have hpl : p ≤ ops.toList.length := by
            rcases h.upto with hp0 | ⟨e, oe, hpe, he, hEe⟩
            · omega
            · have := nth_lt he; omega
          unfold chkR at h5
          rw [admis_spec fun e he => ?_, sAt_eq ht hlen hS hpl] at h5
          · simp only at h5
            split at h5
            · rename_i v hr
              rw [show v = V i from avEq_spec h5] at hr
              obtain ⟨v, e, hv⟩ := r_sound (P := P) hr (h.step.rel.to fun b x hb => .inl hb) hOps
              unfold Oper.wp; rw [e, Oper.upon_value]
              exact hK p r _ _ (h.next ht hok hc0 hc1 ho hi ha hl1 hl2 hv hp' hstep)
            · cases h5
          · obtain ⟨j, oj, e1, hj, hEj⟩ := esOf_spec he
            rw [Nat.zero_add] at e1
            subst e1
            split
            · rename_i hpe
              cases hb : ((nth ms i).getD 0).testBit e with
              | false => rfl
              | true =>
                have := (h.effs e oj hj hEj).1 (down_mask hok h.down i o ho ha e hb)
                omega
            · rename_i hpe
              cases hb : ((nth ms e).getD 0).testBit i with
              | false => rfl
              | true =>
                have hle := (h.effs e oj hj hEj).2 (by omega)
                have := down_mask hok h.down e oj hj (h.down e oj hj hle) i hb
                rw [hi] at this; cases this
        | false =>
          have hq := aOp_q hrun hE hA hR
          obtain ⟨v, e, hv⟩ := q_sound (P := P) hq hOps w
          unfold Oper.wp; rw [e, Oper.upon_value]
          exact hK p r _ _ (h.next ht hok hc0 hc1 ho hi ha hl1 hl2 hv hp' hstep)

theorem Inv.done (ht : Tr P orc cl N ops.toList ops.toList xs S TM W V) (hok : OkR P ops.toList ms) (h : Inv B G N c0 c1 P ops.toList S TM W V r0 w0 ds p r lst a w) (hall : ∀ i, i < ops.toList.length → lst i = true) :
    PStep B c0 c1 r0 (fun b o => (S 0).h.get b = some o) w0 r (fun b o => (S ops.toList.length).h.get b = some o) w ∧ TRel r (TM ops.toList.length) a.tmps := by
  have hpl : p ≤ ops.toList.length := by
    rcases h.upto with hp0 | ⟨e, oe, hpe, he, hEe⟩
    · omega
    · have := nth_lt he; omega
  refine ⟨h.step.sub fun b x hb => ?_, ⟨fun t v hv => h.slot ht hok (Nat.le_refl _) (fun j oj hj hd => .inl ⟨hall j (nth_lt hj), nth_lt hj⟩) hv⟩⟩
  have hadd : p + (ops.toList.length - p) = ops.toList.length := by omega
  rw [← hadd] at hb
  have hnoE : ∀ j oj, p ≤ j → j < p + (ops.toList.length - p) → nth ops.toList j = some oj → isE P oj = false := fun j oj h1 h2 hj => by
    cases hEj : isE P oj with
    | false => rfl
    | true =>
      have := (h.effs j oj hj hEj).1 (hall j (nth_lt hj))
      omega
  rcases ht.since (by omega) hnoE hb with hb | ⟨j, oj, h1, h2, hj, hA, hW, h3⟩
  · exact .inl hb
  · exact .inr ⟨j, oj, hj, hA, hW, hall j (nth_lt hj), h1, h3⟩

theorem ready_mem {listed : Array Bool} (hsz : listed.size = ops.size) {i : Nat} : i ∈ Region.ready .any ops listed ↔ ∃ o, nth ops.toList i = some o ∧ listed.getD i false = false ∧ ∀ e ∈ o.after.toList, Region.binds .any e = true → listed.getD e.on false = true := by
  unfold Region.ready
  simp only [List.mem_filter, List.mem_range, Bool.and_eq_true]
  constructor
  · rintro ⟨hi, h1, h2⟩
    have hlt : i < listed.size := by omega
    rw [Array.getElem?_eq_getElem hi] at h2
    simp only [Option.map_some, Option.getD_some, Array.all_eq_true', Bool.or_eq_true, Bool.not_eq_true'] at h2
    refine ⟨ops[i], by rw [nth_eq]; simp [hi], ?_, fun e he hb => ?_⟩
    · simp [hlt] at h1 ⊢; exact h1
    · rcases h2 e (by simpa using he) with h3 | h3
      · rw [hb] at h3; cases h3
      · exact h3
  · rintro ⟨o, ho, h1, h2⟩
    have hi : i < ops.size := by have := nth_lt ho; simpa using this
    have hlt : i < listed.size := by omega
    refine ⟨hi, ?_, ?_⟩
    · simp [hlt] at h1 ⊢; exact h1
    · rw [nth_eq] at ho
      rw [show ops[i]? = some o by simpa using ho]
      simp only [Option.map_some, Option.getD_some, Array.all_eq_true', Bool.or_eq_true, Bool.not_eq_true']
      intro e he
      cases hb : Region.binds .any e with
      | false => exact .inl rfl
      | true => exact .inr (h2 e (by simpa using he) hb)

theorem any_wp (hcl : CSound P G cl) (ht : Tr P orc cl N ops.toList ops.toList xs S TM W V) (hok : OkR P ops.toList ms) {sE : HS} (hlen : nth xs ops.toList.length = none) (hS : S ops.toList.length = sE)
    (hdyn : dynGo G P (esOf P 0 ops.toList) ms xs sE 0 ops.toList xs = true) (hc0 : c0 = (S 0).n) (hc1 : c1 = (S ops.toList.length).n) {Q : Exit → Act → World → Prop}
    (hQ : ∀ p r lst a w, Inv B G N c0 c1 P ops.toList S TM W V r0 w0 ds p r lst a w → (∀ i, i < ops.toList.length → lst i = true) → Q .normal a w) :
    ∀ (fuel : Nat) (listed : Array Bool) (p : Nat) (r : Ren) (a : Act) (w : World), listed.size = ops.size → Inv B G N c0 c1 P ops.toList S TM W V r0 w0 ds p r (fun i => listed.getD i false) a w → cnt (fun i => listed.getD i false) ops.size ≤ fuel → wpAny P .any ops Q fuel listed a w := by
  have hready : ∀ (listed : Array Bool), listed.size = ops.size → Region.ready .any ops listed = [] → ∀ i, i < ops.toList.length → listed.getD i false = true := by
    intro listed hsz hr i
    induction i using Nat.strongRecOn with
    | _ i ih =>
      intro hi
      cases hl : listed.getD i false with
      | true => rfl
      | false =>
        obtain ⟨o, ho⟩ := nth_of_lt hi
        have : i ∈ Region.ready .any ops listed := (ready_mem hsz).2 ⟨o, ho, hl, fun e he hb => by
          have hlt := hok.on i o ho e he hb
          exact ih e.on hlt (by omega)⟩
        rw [hr] at this; cases this
  intro fuel
  induction fuel with
  | zero =>
    intro listed p r a w hsz h hc
    have hall : ∀ i, i < ops.toList.length → listed.getD i false = true := fun i hi => cnt_zero (Nat.le_zero.1 hc) i (by simpa using hi)
    refine ⟨?_, hQ p r _ a w h hall⟩
    cases hr : Region.ready .any ops listed with
    | nil => rfl
    | cons i l =>
      obtain ⟨o, ho, h1, _⟩ := (ready_mem hsz).1 (show i ∈ Region.ready .any ops listed by rw [hr]; simp)
      rw [hall i (nth_lt ho)] at h1; cases h1
  | succ fuel ih =>
    intro listed p r a w hsz h hc
    refine ⟨fun hr => hQ p r _ a w h (hready listed hsz hr), fun i hi => ?_⟩
    obtain ⟨o, ho, hli, ha⟩ := (ready_mem hsz).1 hi
    have hio : i < ops.size := by have := nth_lt ho; simpa using this
    have ho' : ops[i]? = some o := by rw [nth_eq] at ho; simpa using ho
    have hl1 : (listed.setIfInBounds i true).getD i false = true := by
      have : i < listed.size := by omega
      simp [this]
    have hl2 : ∀ j, j ≠ i → (listed.setIfInBounds i true).getD j false = listed.getD j false := fun j hj => by
      rw [Array.getD_eq_getD_getElem?, Array.getD_eq_getD_getElem?, Array.getElem?_setIfInBounds_ne (Ne.symm hj)]
    refine wpOp_step ho' fun K' hK' => ?_
    refine h.op hcl ht hok hlen hS hdyn hc0 hc1 ho hli ha (lst' := fun j => (listed.setIfInBounds i true).getD j false) hl1 hl2 fun p' r' a' w' h' => hK' _ _ (ih _ p' r' a' w' (by simpa using hsz) h' ?_)
    have := cnt_set (f := fun j => listed.getD j false) (g := fun j => (listed.setIfInBounds i true).getD j false) hli hl1 hl2 hio
    omega

theorem draw_wp (hm : P.follows .mixedOrders = true) (hcl : CSound P G cl) {tm tE : T AV} {s sE : HS} {id : Nat} {Q : Exit → Act → World → Prop} (h : aDraw P orc cl N ops.toList tm s = some (tE, sE)) (hR : SRel B G N r tm s a w) (hf : Fresh r s.n sE.n)
    (hQ : ∀ a' w', RPost B G N s.n sE.n r s.h w tE sE a.defers a' w' → Q .normal a' w') : (Code.region id ops true).wp P Q a w := by
  unfold aDraw at h
  split at h
  · rename_i xs tE1 sE1 hrun
    split at h
    · rename_i hok
      split at h
      · rename_i hdyn
        cases h
        have hok := okReg_spec hok
        obtain ⟨S, TM, W, V, ht, e1, e2, e3, e4⟩ := drawRun_spec hrun
        have hlen := drawRun_len hrun
        refine wp_region_any hm ?_
        refine any_wp (B := B) (G := G) (r0 := r) (w0 := { w with drawn := w.drawn + 1 }) (ds := a.defers) hcl ht hok hlen e3 hdyn rfl rfl (fun p r' lst a' w' h hall => ?_) ops.size _ 0 r a _ (by simp) ?_ ?_
        · obtain ⟨h1, h2⟩ := h.done ht hok hall
          rw [e1, e3] at h1
          rw [e4] at h2
          have hst : Step B s.n sE.n r s.h { w with drawn := w.drawn + 1 } r' sE.h w' := ⟨h1.ext, h1.out, h1.rel.to fun _ _ h => h, h1.below, h1.kept, h1.img⟩
          have hle : s.n ≤ sE.n := by
            have := ht.mono' (i := 0) (j := ops.toList.length) (Nat.zero_le _) (Nat.le_refl _)
            rwa [e1, e3] at this
          exact hQ a' w' ⟨r', ((Step.drew hR.heap s.n (w.drawn + 1)).widen (Nat.le_refl _) hle).comp hst, ⟨hst.rel, h.glob, h2, h.size⟩, h.dfr⟩
        · have hno : ∀ i, (Array.replicate ops.size false).getD i false = false := fun i => by
            rw [Array.getD_eq_getD_getElem?]
            by_cases hi : i < ops.size
            · simp [hi]
            · simp [hi]
          refine ⟨fun i o _ hl => ?_, .inl rfl, fun e o he hE => ?_, ?_, hR.glob, fun i o ho _ => ?_, fun t v _ hg => ?_, fun i o d _ hl => ?_, hR.size, rfl⟩
          · rw [hno] at hl; cases hl
          · rw [hno]; exact ⟨(fun hc => nomatch hc), (fun hc => absurd hc (Nat.not_lt_zero _))⟩
          · have hrel : PRel B r (fun b o => (S 0).h.get b = some o) { w with drawn := w.drawn + 1 } := PRel.of (by rw [e1]; exact hR.heap.heap rfl)
            refine (PStep.refl hrel _ _).sub fun b o hb => ?_
            rcases hb with hb | ⟨j, oj, _, _, _, hl, _⟩
            · exact hb
            · simp only [hno] at hl; cases hl
          · have hil := nth_lt ho
            have h1 := ht.mono' (i := 0) (j := i) (Nat.zero_le _) (by omega)
            have h2 := ht.mono' (i := i + 1) (j := ops.toList.length) (by omega) (Nat.le_refl _)
            rw [e1] at h1; rw [e3] at h2
            exact fun b hb1 hb2 => hf b (by omega) (by omega)
          · rw [e2] at hg; exact hR.tmps.get t v hg
          · rw [hno] at hl; cases hl
        · have : ∀ (f : Nat → Bool) n, cnt f n ≤ n := fun f n => by
            induction n with
            | zero => exact Nat.le_refl _
            | succ n ih => simp only [cnt]; split <;> omega
          exact this _ _
      · cases h
    · cases h
  · cases h
end
end Go.Proofs.YtbklalklebjiaaaGreatDoor.XAm

set_option linter.unusedVariables false
set_option linter.unusedSimpArgs false
namespace Go.Proofs.YtbklalklebjiaaaGreatDoor.XAm
open Go Go.RowKit

def DRel : List Nat → List Deferred → Prop
  | [], [] => True
  | g :: l, d :: ds => (∃ cap, d.target = .fn (.func g) cap) ∧ DRel l ds
  | _, _ => False

section
variable {P : Program} {B G N : Nat} {orc : Orc P G} {cl : CF}

/-- Operations in the order of the text, defer statements among them. -/
def aSeqD (P : Program) (orc : Orc P G) (cl : CF) (N : Nat) (ops : List Oper) : List Oper → T AV → HS → List Nat → Option (T AV × HS × List Nat)
  | [], tm, s, ds => some (tm, s, ds)
  | o :: l, tm, s, ds => match aWant N ops tm o with
    | some true => match o.op with
      | .defer c => match c.callee with
        | .value f => match ev G tm f with
          | some (.func (.func g) [] l2) => match aPut N tm o.dst (.tuple []) with
            | some tm' => aSeqD P orc cl N ops l tm' s (g :: ds)
            | none => none
          | _ => none
        | _ => none
      | _ => match aOp P orc cl (ev G tm) s o with
        | some (v, s') => match aPut N tm o.dst v with
          | some tm' => aSeqD P orc cl N ops l tm' s' ds
          | none => none
        | none => none
    | some false => match aPut N tm o.dst (.tuple []) with
      | some tm' => aSeqD P orc cl N ops l tm' s ds
      | none => none
    | none => none

theorem seqD_le {ops : List Oper} : ∀ {l : List Oper} {tm tm' : T AV} {s s' : HS} {ds ds' : List Nat}, aSeqD P orc cl N ops l tm s ds = some (tm', s', ds') → s.n ≤ s'.n
  | [], _, _, _, _, _, _, h => by cases h; exact Nat.le_refl _
  | o :: l, tm, tm', s, s', ds, ds', h => by
    simp only [aSeqD] at h
    split at h
    · split at h
      · split at h
        · split at h
          · split at h
            · exact seqD_le (l := l) h
            · cases h
          · cases h
        · cases h
      · split at h
        · rename_i h1
          split at h
          · exact Nat.le_trans (aOp_le h1) (seqD_le (l := l) h)
          · cases h
        · cases h
    · split at h
      · exact seqD_le (l := l) h
      · cases h
    · cases h

def DPost (B G N c0 c1 : Nat) (r : Ren) (H : T AObj) (w : World) (tm' : T AV) (s' : HS) (ds : List Nat) (a' : Act) (w' : World) : Prop :=
  ∃ r', Step B c0 c1 r H w r' s'.h w' ∧ SRel B G N r' tm' s' a' w' ∧ DRel ds a'.defers

theorem seqD_wp (hcl : CSound P G cl) {ops : Array Oper} {Q : Exit → Act → World → Prop} : ∀ {l : List Oper} {tm tm' : T AV} {s s' : HS} {ds ds' : List Nat} {r : Ren} {a : Act} {w : World}, aSeqD P orc cl N ops.toList l tm s ds = some (tm', s', ds') → SRel B G N r tm s a w → DRel ds a.defers → Fresh r s.n s'.n →
    (s.n ≤ s'.n) ∧ ((∀ a' w', DPost B G N s.n s'.n r s.h w tm' s' ds' a' w' → Q .normal a' w') → wpList P ops Q l a w)
  | [], tm, tm', s, s', ds, ds', r, a, w, h, hR, hD, hf => by
    cases h
    exact ⟨Nat.le_refl _, fun hQ => wpList_nil (hQ a w ⟨r, Step.refl hR.heap _, hR, hD⟩)⟩
  | o :: l, tm, tm', s, s', ds, ds', r, a, w, h, hR, hD, hf => by
    simp only [aSeqD] at h
    split at h
    · rename_i hw
      split at h
      · rename_i c ho
        split at h
        · rename_i f hc
          split at h
          · rename_i g l2 hF
            split at h
            · rename_i tm1 hp
              obtain ⟨c2, hv⟩ : ∃ c2, a.eval f = .func (.func g) #[] c2 := by
                have := ev_sound hR.glob hR.tmps hF
                generalize a.eval f = v at this
                cases this
                rename_i c1 c2 h1 h2
                cases h1
                exact ⟨_, rfl⟩
              have hrun : (execOp a.eval o).run P w = .ok (.defer { target := .fn (.func g) c2, args := #[] ++ c.args.map a.eval }) w := by
                simp only [execOp, ho, resolve, hc, Sem.run_bind, hv, Deferred.ofValue, Sem.run_pure, Result.andThen_ok]
              obtain ⟨p1, p2, p3⟩ := aPut_sound (u := undef) (a := { a with defers := { target := .fn (.func g) c2, args := #[] ++ c.args.map a.eval } :: a.defers }) hp hR.tmps hR.size (.tuple .nil)
              have hrec := seqD_wp (a := ({ a with defers := { target := .fn (.func g) c2, args := #[] ++ c.args.map a.eval } :: a.defers } : Act).put o.dst undef) (Q := Q) hcl h ⟨hR.heap, hR.glob, p1, p2⟩ (by rw [p3]; exact ⟨⟨_, rfl⟩, hD⟩) hf
              refine ⟨hrec.1, fun hQ => wpList_step fun K hK => ?_⟩
              rw [want_sound hw hR.tmps hR.size, if_pos rfl]
              unfold Oper.wp
              rw [hrun, Oper.upon_defer]
              exact hK _ _ (hrec.2 hQ)
            · cases h
          · cases h
        · cases h
      · split at h
        · rename_i v s1 h1
          split at h
          · rename_i tm1 hp
            have hle1 := aOp_le h1
            have hle : s1.n ≤ s'.n := by
              -- the count of blocks alone
              exact seqD_le h
            refine ⟨Nat.le_trans hle1 hle, fun hQ => wpList_step fun K hK => ?_⟩
            rw [want_sound hw hR.tmps hR.size, if_pos rfl]
            refine op_wp hcl h1 hR.heap hR.glob (hf.left hle) (fun x _ v hv => ev_sound hR.glob hR.tmps hv) (fun r' u w' st hv => hK _ _ ?_)
            obtain ⟨p1, p2, p3⟩ := aPut_sound (u := u) hp (hR.tmps.mono st.ext) hR.size hv
            refine (seqD_wp hcl h ⟨st.rel, hR.glob.mono st.ext, p1, p2⟩ (by rw [p3]; exact hD) (hf.step st hle1)).2 fun a' w2 hq => hQ a' w2 ?_
            obtain ⟨r2, st2, hR2, hd⟩ := hq
            exact ⟨r2, st.trans st2 hle1 hle, hR2, hd⟩
          · cases h
        · cases h
    · rename_i hw
      split at h
      · rename_i tm1 hp
        obtain ⟨p1, p2, p3⟩ := aPut_sound (u := undef) hp hR.tmps hR.size (.tuple .nil)
        have hrec := seqD_wp (Q := Q) hcl h ⟨hR.heap, hR.glob, p1, p2⟩ (by rw [p3]; exact hD) hf
        refine ⟨hrec.1, fun hQ => wpList_step fun K hK => ?_⟩
        rw [want_sound hw hR.tmps hR.size, if_neg (by simp)]
        exact hK _ _ (hrec.2 hQ)
      · cases h
    · cases h

/-! #### code -/
inductive AEx where
  | norm
  | exit (id : Nat)
  | ret
def AEx.to : AEx → Exit
  | .norm => .normal
  | .exit id => .exit id
  | .ret => .ret

def aRegion (P : Program) (orc : Orc P G) (cl : CF) (N : Nat) (ops : List Oper) (draw : Bool) (tm : T AV) (s : HS) (ds : List Nat) : Option (AEx × T AV × HS × List Nat) :=
  match draw with
  | true => match aDraw P orc cl N ops tm s with
    | some (tm', s') => match Nat.ble s.n s'.n with
      | true => some (.norm, tm', s', ds)
      | false => none
    | none => none
  | false => match aSeq P orc cl N ops ops tm s with
    | some (tm', s') => some (.norm, tm', s', ds)
    | none => match aSeqD P orc cl N ops ops tm s ds with
      | some (tm', s', ds') => some (.norm, tm', s', ds')
      | none => none

def aCode (P : Program) (orc : Orc P G) (cl : CF) (N : Nat) : Nat → Code → T AV → HS → List Nat → Option (AEx × T AV × HS × List Nat)
  | 0, _, _, _, _ => none
  | k + 1, c, tm, s, ds => match c with
    | .skip => some (.norm, tm, s, ds)
    | .label _ => some (.norm, tm, s, ds)
    | .region _ ops draw => aRegion P orc cl N ops.toList draw tm s ds
    | .seq a b => match aCode P orc cl N k a tm s ds with
      | some (e, tm1, s1, ds1) => match e with
        | .norm => aCode P orc cl N k b tm1 s1 ds1
        | e => some (e, tm1, s1, ds1)
      | none => none
    | .cond x a b => match ev G tm x with
      | some (.bool t) => match t with
        | true => aCode P orc cl N k a tm s ds
        | false => aCode P orc cl N k b tm s ds
      | _ => none
    | .block id b => match aCode P orc cl N k b tm s ds with
      | some (e, tm1, s1, ds1) => match e with
        | .exit i => match Nat.beq i id with
          | true => some (.norm, tm1, s1, ds1)
          | false => some (.exit i, tm1, s1, ds1)
        | e => some (e, tm1, s1, ds1)
      | none => none
    | .loop b => match aCode P orc cl N k b tm s ds with
      | some (e, tm1, s1, ds1) => match e with
        | .norm => aCode P orc cl N k (.loop b) tm1 s1 ds1
        | e => some (e, tm1, s1, ds1)
      | none => none
    | .scope b => aCode P orc cl N k b tm s ds
    | .exit id => some (.exit id, tm, s, ds)
    | .ret => some (.ret, tm, s, ds)
    | _ => none

theorem aRegion_le {ops : List Oper} {draw : Bool} {tm tm' : T AV} {s s' : HS} {ds ds' : List Nat} {e : AEx} (h : aRegion P orc cl N ops draw tm s ds = some (e, tm', s', ds')) : s.n ≤ s'.n := by
  unfold aRegion at h
  split at h
  · split at h
    · split at h
      · rename_i hb; cases h; simpa [Nat.ble_eq] using hb
      · cases h
    · cases h
  · split at h
    · rename_i h1; cases h; exact aSeq_le h1
    · split at h
      · rename_i h1; cases h; exact seqD_le h1
      · cases h
theorem aCode_le : ∀ {k : Nat} {c : Code} {tm tm' : T AV} {s s' : HS} {ds ds' : List Nat} {e : AEx}, aCode P orc cl N k c tm s ds = some (e, tm', s', ds') → s.n ≤ s'.n
  | 0, _, _, _, _, _, _, _, _, h => by simp only [aCode] at h; cases h
  | k + 1, c, tm, tm', s, s', ds, ds', e, h => by
    unfold aCode at h
    split at h
    · cases h; exact Nat.le_refl _
    · cases h; exact Nat.le_refl _
    · exact aRegion_le h
    · split at h
      · rename_i h1
        split at h
        · exact Nat.le_trans (aCode_le h1) (aCode_le h)
        · cases h; exact aCode_le h1
      · cases h
    · split at h
      · split at h
        · exact aCode_le h
        · exact aCode_le h
      · cases h
    · split at h
      · rename_i h1
        split at h
        · split at h
          · cases h; exact aCode_le h1
          · cases h; exact aCode_le h1
        · cases h; exact aCode_le h1
      · cases h
    · split at h
      · rename_i h1
        split at h
        · exact Nat.le_trans (aCode_le h1) (aCode_le h)
        · cases h; exact aCode_le h1
      · cases h
    · exact aCode_le h
    · cases h; exact Nat.le_refl _
    · cases h; exact Nat.le_refl _
    · cases h

def CWp (P : Program) (k : Nat) (Q : Exit → Act → World → Prop) (c : Code) (a : Act) (w : World) : Prop :=
  match c with
  | .loop b => Code.rounds P b Q k a w
  | c => c.wp P Q a w
theorem CWp.wp {k : Nat} {Q : Exit → Act → World → Prop} {c : Code} {a : Act} {w : World} (h : CWp P k Q c a w) : c.wp P Q a w := by
  cases c <;> first
    | exact h
    | exact wp_loop_rounds k h

theorem region_wp (hm : P.follows .mixedOrders = true) (hcl : CSound P G cl) {ops : Array Oper} {draw : Bool} {id : Nat} {tm tm' : T AV} {s s' : HS} {ds ds' : List Nat} {e : AEx} {r : Ren} {a : Act} {w : World} (h : aRegion P orc cl N ops.toList draw tm s ds = some (e, tm', s', ds'))
    (hR : SRel B G N r tm s a w) (hD : DRel ds a.defers) (hf : Fresh r s.n s'.n) {Q : Exit → Act → World → Prop} (hQ : ∀ a' w', DPost B G N s.n s'.n r s.h w tm' s' ds' a' w' → Q e.to a' w') : (Code.region id ops draw).wp P Q a w := by
  unfold aRegion at h
  split at h
  · split at h
    · rename_i h1
      split at h
      · cases h
        refine draw_wp hm hcl h1 hR hf fun a' w' hq => hQ a' w' ?_
        obtain ⟨r2, st2, hR2, hd⟩ := hq
        exact ⟨r2, st2, hR2, by rw [hd]; exact hD⟩
      · cases h
    · cases h
  · split at h
    · rename_i h1
      cases h
      refine wp_region_list (seq_wp hcl h1 hR hf fun a' w' hq => hQ a' w' ?_)
      obtain ⟨r2, st2, hR2, hd⟩ := hq
      exact ⟨r2, st2, hR2, by rw [hd]; exact hD⟩
    · split at h
      · rename_i h1
        cases h
        exact wp_region_list ((seqD_wp hcl h1 hR hD hf).2 hQ)
      · cases h

theorem code_wp (hm : P.follows .mixedOrders = true) (hcl : CSound P G cl) : ∀ {k : Nat} {c : Code} {tm tm' : T AV} {s s' : HS} {ds ds' : List Nat} {e : AEx} {r : Ren} {a : Act} {w : World} {Q : Exit → Act → World → Prop}, aCode P orc cl N k c tm s ds = some (e, tm', s', ds') →
    SRel B G N r tm s a w → DRel ds a.defers → Fresh r s.n s'.n → (∀ a' w', DPost B G N s.n s'.n r s.h w tm' s' ds' a' w' → Q e.to a' w') → CWp P k Q c a w
  | 0, _, _, _, _, _, _, _, _, _, _, _, _, h, _, _, _, _ => by simp only [aCode] at h; cases h
  | k + 1, c, tm, tm', s, s', ds, ds', e, r, a, w, Q, h, hR, hD, hf, hQ => by
    have here : DPost B G N s.n s.n r s.h w tm s ds a w := ⟨r, Step.refl hR.heap _, hR, hD⟩
    unfold aCode at h
    split at h
    · cases h; exact wp_skip (hQ a w here)
    · cases h; exact wp_label (hQ a w here)
    · exact region_wp hm hcl h hR hD hf hQ
    · split at h
      · rename_i e1 tm1 s1 ds1 h1
        split at h
        · have hle1 := aCode_le h1
          have hle2 := aCode_le h
          refine wp_seq (code_wp hm hcl h1 hR hD (hf.left hle2) fun a1 w1 hq => ?_).wp
          obtain ⟨r1, st1, hR1, hD1⟩ := hq
          refine (code_wp hm hcl h hR1 hD1 (hf.step st1 hle1) fun a2 w2 hq2 => hQ a2 w2 ?_).wp
          obtain ⟨r2, st2, hR2, hD2⟩ := hq2
          exact ⟨r2, st1.trans st2 hle1 hle2, hR2, hD2⟩
        · rename_i hne
          cases h
          refine wp_seq (code_wp hm hcl h1 hR hD hf fun a1 w1 hq => ?_).wp
          have := hQ a1 w1 hq
          cases e with
          | norm => exact absurd rfl (hne)
          | exit id => exact this
          | ret => exact this
      · cases h
    · rename_i x ca cb
      split at h
      · rename_i t hx
        have hev : a.eval x = .bool t := by
          have := ev_sound hR.glob hR.tmps hx
          generalize a.eval x = v at this
          cases this; rfl
        split at h
        · exact wp_cond_true hev (code_wp hm hcl h hR hD hf hQ).wp
        · exact wp_cond_false hev (code_wp hm hcl h hR hD hf hQ).wp
      · cases h
    · split at h
      · rename_i e1 tm1 s1 ds1 h1
        split at h
        · rename_i i
          split at h
          · rename_i hb
            cases h
            have := beq_t hb
            subst this
            refine wp_block (code_wp hm hcl h1 hR hD hf fun a1 w1 hq => ?_).wp
            simp only [AEx.to, Exit.inBlock, if_true]
            exact hQ a1 w1 hq
          · rename_i hb
            cases h
            have := beq_f hb
            refine wp_block (code_wp hm hcl h1 hR hD hf fun a1 w1 hq => ?_).wp
            simp only [AEx.to, Exit.inBlock, if_neg this]
            exact hQ a1 w1 hq
        · rename_i hne
          cases h
          refine wp_block (code_wp hm hcl h1 hR hD hf fun a1 w1 hq => ?_).wp
          have := hQ a1 w1 hq
          cases e with
          | norm => exact this
          | exit id => exact absurd rfl (hne id)
          | ret => exact this
      · cases h
    · split at h
      · rename_i e1 tm1 s1 ds1 h1
        split at h
        · have hle1 := aCode_le h1
          have hle2 := aCode_le h
          refine (code_wp hm hcl h1 hR hD (hf.left hle2) (Q := Exit.then (Code.rounds P _ Q k) Q) fun a1 w1 hq => ?_).wp
          obtain ⟨r1, st1, hR1, hD1⟩ := hq
          refine code_wp hm hcl h hR1 hD1 (hf.step st1 hle1) fun a2 w2 hq2 => hQ a2 w2 ?_
          obtain ⟨r2, st2, hR2, hD2⟩ := hq2
          exact ⟨r2, st1.trans st2 hle1 hle2, hR2, hD2⟩
        · rename_i hne
          cases h
          refine (code_wp hm hcl h1 hR hD hf (Q := Exit.then (Code.rounds P _ Q k) Q) fun a1 w1 hq => ?_).wp
          have := hQ a1 w1 hq
          cases e with
          | norm => exact absurd rfl (hne)
          | exit id => exact this
          | ret => exact this
      · cases h
    · refine wp_scope_straight (code_wp hm hcl h hR hD hf fun a1 w1 hq => ?_).wp
      have := hQ a1 w1 hq
      cases e <;> exact this
    · cases h; exact wp_exit (hQ a w here)
    · cases h; exact wp_ret (hQ a w here)
    · cases h
end
end Go.Proofs.YtbklalklebjiaaaGreatDoor.XAm

set_option linter.unusedVariables false
set_option linter.unusedSimpArgs false
namespace Go.Proofs.YtbklalklebjiaaaGreatDoor.XAm
open Go Go.RowKit

section
variable {P : Program} {B G N : Nat} {orc : Orc P G} {r : Ren} {H : T AObj} {w : World} {tm : T AV} {tmps : Array Value}

def putArgs : Nat → List AV → T AV → T AV
  | _, [], t => t
  | i, a :: l, t => putArgs (i + 1) l (T.put F t i (some a))
theorem putArgs_sound : ∀ {l : List AV} {cs : List Value} {i : Nat} {t : T AV}, TRel r t tmps → VRels r l cs → (∀ j v, cs[j]? = some v → tmps.getD (i + j) undef = v) → i + l.length < 1000 → TRel r (putArgs i l t) tmps
  | [], _, i, t, h, _, _, _ => h
  | a :: l, _ :: cs, i, t, h, .cons hv hs, hc, hb => by
    simp only [List.length_cons] at hb
    refine putArgs_sound (l := l) (cs := cs) (i := i + 1) (t := T.put F t i (some a)) ⟨fun x v hx => ?_⟩ hs (fun j v hj => ?_) (by omega)
    · have hF : i + 1 < 2 ^ F := by unfold F; omega
      by_cases e : x = i
      · subst e
        rw [T.get_put_same F t x _ hF] at hx
        cases hx
        have := hc 0 _ rfl
        rw [Nat.add_zero] at this
        rw [this]; exact hv
      · rw [T.get_put_other F t i _ x e] at hx
        exact h.get x v hx
    · have := hc (j + 1) v (by simpa using hj)
      rwa [show i + (j + 1) = i + 1 + j by omega] at this

def resOne (tmps : Array Value) : ResultVar → Sem Value := fun
  | .tmp t => pure (tmps.getD t undef)
  | .cell a t => do loadVar t (← asAddr (tmps.getD a undef))
theorem results_eq (fn : Func) (tmps : Array Value) : results fn tmps = (do
  let vs ← fn.results.mapM (resOne tmps)
  pure (if h : vs.size = 1 then vs[0] else .tuple vs)) := rfl

def aRes (P : Program) (tm : T AV) (H : T AObj) : List ResultVar → Option (List AV)
  | [] => some []
  | .tmp t :: l => match tm.get t, aRes P tm H l with
    | some v, some vs => some (v :: vs)
    | _, _ => none
  | .cell a t :: l => match tm.get a with
    | some (.ptr b o) => match aLoad P H t (.ptr b o), aRes P tm H l with
      | some v, some vs => some (v :: vs)
      | _, _ => none
    | _ => none
theorem res_list (ht : TRel r tm tmps) (h : HRel B r H w) : ∀ {rs : List ResultVar} {l : List AV}, aRes P tm H rs = some l → ∃ vs, (rs.mapM (resOne tmps)).run P w = .ok vs w ∧ VRels r l vs
  | [], l, hs => by cases hs; exact ⟨[], by simp, .nil⟩
  | .tmp t :: rs, l, hs => by
    simp only [aRes] at hs
    split at hs
    · rename_i v vs h1 h2
      cases hs
      obtain ⟨us, e, hu⟩ := res_list ht h h2
      refine ⟨tmps.getD t undef :: us, ?_, .cons (ht.get t v h1) hu⟩
      simp only [List.mapM_cons, Sem.run_bind, resOne, Sem.run_pure, Result.andThen_ok, e]
    · cases hs
  | .cell a t :: rs, l, hs => by
    simp only [aRes] at hs
    split at hs
    · rename_i b o h1
      split at hs
      · rename_i v vs h2 h3
        cases hs
        obtain ⟨us, e, hu⟩ := res_list ht h h3
        have hp := ht.get a _ h1
        obtain ⟨u, e2, hv⟩ := load_sound (P := P) h h2 hp
        generalize hq : tmps.getD a undef = q at hp e2
        cases hp
        refine ⟨u :: us, ?_, .cons hv hu⟩
        simp only [Instr.loadAt, Sem.run_bind, Instr.sureAddr, Sem.run_pure, Result.andThen_ok] at e2
        simp only [List.mapM_cons, Sem.run_bind, resOne, Sem.run_pure, Result.andThen_ok, e, hq, asAddr, e2]
      · cases hs
    · cases hs
def aResV : List AV → AV
  | [v] => v
  | l => .tuple l
theorem res_sound {fn : Func} {l : List AV} (hs : aRes P tm H fn.results.toList = some l) (ht : TRel r tm tmps) (h : HRel B r H w) : ∃ v, (results fn tmps).run P w = .ok v w ∧ VRel r (aResV l) v := by
  obtain ⟨us, e, hu⟩ := res_list (P := P) ht h hs
  have hlen := hu.length
  have hm : (fn.results.mapM (resOne tmps)).run P w = .ok us.toArray w := by
    rw [Array.mapM_eq_mapM_toList, map_eq_pure_bind]
    simp only [Sem.run_bind, e, Result.andThen_ok, Sem.run_pure]
  rw [results_eq]
  simp only [Sem.run_bind, hm, Result.andThen_ok, Sem.run_pure]
  refine ⟨_, rfl, ?_⟩
  cases hu with
  | nil => exact .tuple .nil
  | cons h1 hs1 =>
    cases hs1 with
    | nil => exact h1
    | cons h2 hs2 => exact .tuple (.cons h1 (.cons h2 hs2))

def dfrOk (P : Program) (orc : Orc P G) : List Nat → Bool
  | [] => true
  | g :: l => match hasBody P g, orc.dfr g with
    | true, true => dfrOk P orc l
    | _, _ => false
theorem leaves_ok {fn : Func} {R : Ending → World → Prop} : ∀ {l : List Nat} {ds : List Deferred} {w : World}, DRel l ds → dfrOk P orc l = true →
    (∀ d, ∃ v, (results fn tmps).run P { w with drawn := d } = .ok v { w with drawn := d } ∧ R (.returned v) { w with drawn := d }) → Leaves P fn tmps R ds .returning w
  | [], [], w, _, _, h => by simpa [Leaves] using h w.drawn
  | [], _ :: _, w, hD, _, _ => hD.elim
  | _ :: _, [], w, hD, _, _ => hD.elim
  | g :: l, d :: ds, w, hD, hk, h => by
    obtain ⟨⟨cap, hc⟩, hD⟩ := hD
    simp only [dfrOk] at hk
    split at hk
    · rename_i hb hd
      obtain ⟨t, dargs⟩ := d
      simp only at hc
      subst hc
      refine leaves_cons (args := dargs ++ cap) (f := g) (by simp) (by simp only [invoke]; exact run_callFunc hb _ w) ((orc.dfr_sound g hd (dargs ++ cap) w).mono fun e u w' he => ?_)
      obtain ⟨⟨v, rfl⟩, rfl, d2, rfl⟩ := he
      exact leaves_ok (l := l) (ds := ds) (w := { w with drawn := d2 }) hD hk h
    · cases hk

def aFunc (P : Program) (orc : Orc P G) (KF : Nat) : Nat → CF
  | 0 => fun _ _ _ => none
  | k + 1 => fun g as s => match P.funcs[g]? with
    | some fn => match fn.body, Nat.blt as.length 1000 with
      | some c, true => match aCode P orc (aFunc P orc KF k) (as.length + (fn.ntmps - as.length)) KF c (putArgs 0 as .nil) s [] with
        | some (e, tm', s', ds') => match e with
          | .exit _ => none
          | _ => match dfrOk P orc ds', aRes P tm' s'.h fn.results.toList with
            | true, some l => some (aResV l, s')
            | _, _ => none
        | none => none
      | _, _ => none
    | none => none

theorem func_sound (hm : P.follows .mixedOrders = true) (KF : Nat) : ∀ k, CSound P G (aFunc P orc KF k)
  | 0 => fun g as s v s' h => by simp only [aFunc] at h; cases h
  | k + 1 => fun g as s v s' h B r cs w hH hG hf hv => by
    have ih := func_sound hm KF k
    simp only [aFunc] at h
    split at h
    · rename_i fn hfn
      split at h
      · rename_i c hc hb
        split at h
        · rename_i e tm' s1 ds' hcode
          have key : e ≠ .exit 0 ∧ (∃ l, dfrOk P orc ds' = true ∧ aRes P tm' s1.h fn.results.toList = some l ∧ v = aResV l ∧ s' = s1) ∧ (e = .norm ∨ e = .ret) := by
            split at h
            · cases h
            · rename_i hne
              split at h
              · rename_i l h1 h2
                cases h
                refine ⟨hne 0, ⟨l, h1, h2, rfl, rfl⟩, ?_⟩
                cases e with
                | norm => exact .inl rfl
                | exit i => exact absurd rfl (hne i)
                | ret => exact .inr rfl
              · cases h
          obtain ⟨_, ⟨l, hd, hres, rfl, rfl⟩, he⟩ := key
          have hlen := hv.length
          have hsz : ((⟨cs⟩ : Array Value) ++ Array.replicate (fn.ntmps - (⟨cs⟩ : Array Value).size) undef).size = as.length + (fn.ntmps - as.length) := by
            simp [hlen]
          have htm : TRel r (putArgs 0 as .nil) ((⟨cs⟩ : Array Value) ++ Array.replicate (fn.ntmps - (⟨cs⟩ : Array Value).size) undef) := by
            refine putArgs_sound ⟨fun t a ht => by cases ht⟩ hv (fun j u hj => ?_) (by simpa [Nat.blt_eq] using hb)
            have hjl := (List.getElem?_eq_some_iff.1 hj).1
            rw [Nat.zero_add, Array.getD_eq_getD_getElem?, Array.getElem?_append_left (by simpa using hjl)]
            simp [hj]
          refine calls_of_wp_defers hfn hc (code_wp (B := B) hm ih hcode ⟨hH, hG, htm, hsz⟩ (by simp [DRel]) hf fun a' w' hq => ?_).wp
          obtain ⟨r', st, hR, hD⟩ := hq
          have hL : Leaves P fn a'.tmps (CallPost B r s w (aResV l) s') a'.defers .returning w' := by
            refine leaves_ok hD hd fun d => ?_
            obtain ⟨u, e1, hu⟩ := res_sound (P := P) (fn := fn) (w := { w' with drawn := d }) hres hR.tmps (hR.heap.heap rfl)
            refine ⟨u, e1, u, r', rfl, ?_, hu⟩
            exact st.comp ((Step.drew hR.heap s.n d).widen (Nat.le_refl _) (aCode_le hcode))
          rcases he with rfl | rfl
          · exact hL
          · exact hL
        · cases h
      · cases h
    · cases h
end
end Go.Proofs.YtbklalklebjiaaaGreatDoor.XAm

set_option linter.unusedVariables false
set_option linter.unusedSimpArgs false
namespace Go.Proofs.YtbklalklebjiaaaGreatDoor.XAm
open Go Go.RowKit

section
variable {P : Program} {B G N : Nat} {r : Ren} {H : T AObj} {w : World}

/-! #### bodies that the model gives -/
def xIndexByte : List AV → Option AV
  | [.str s, .int .u8 c] => some (.int .i64 (Lib.indexByte s.data.toList c.toNat.toUInt8))
  | _ => none
theorem xIndexByte_sound {f : FuncId} {fn : Func} (hf : P.funcs[f]? = some fn) (hname : (fn.name == "runtime.NumGoroutine") = false) (hb : fn.body.isNone = true) (hn : Extern.findNext fn = none)
    (he : Extern.find fn = some Extern.BytealgIndexByte.indexByte) {l : List AV} {cs : List Value} {v : AV} (h : xIndexByte l = some v) (hv : VRels r l cs) (w : World) : ∃ u, (callFunc f ⟨cs⟩).run P w = .ok (.value u) w ∧ VRel r v u := by
  unfold xIndexByte at h
  split at h
  · cases h
    cases hv with
    | cons h1 h2 =>
      cases h2 with
      | cons h3 h4 =>
        cases h4; cases h1; cases h3
        refine ⟨_, ?_, .int _ _⟩
        rw [run_callFunc_extern hf hname hb hn he]
        have := Lib.run_indexByteString (P := P)
        rw [this]
        rfl
  · cases h

def blkOf : AV → Option (Nat × Nat)
  | .slice b o _ _ => some (b, o)
  | .oslice b o _ _ _ => some (b, o)
  | _ => none
theorem blkOf_sound {x : AV} {b o : Nat} {v : Value} (h : blkOf x = some (b, o)) (hv : VRel r x v) : ∃ c K n m, r b = some (c, K) ∧ v = .slice (some ⟨c, o, none⟩) n m := by
  cases hv <;> simp only [blkOf, Option.some.injEq, Prod.mk.injEq, reduceCtorEq] at h
  case slice hr => obtain ⟨rfl, rfl⟩ := h; exact ⟨_, _, _, _, hr, rfl⟩
  case oslice hr _ _ => obtain ⟨rfl, rfl⟩ := h; exact ⟨_, _, _, _, hr, rfl⟩
def xOverlaps (H : T AObj) : List AV → Option AV
  | [x, y] => match blkOf x, blkOf y with
    | some (b1, _), some (b2, _) => match Nat.beq b1 b2, H.get b1, H.get b2 with
      | false, some (.cells _ t1 false), some (.cells (_ :: _) _ _) => match Nat.beq t1 5 with
        | false => some (.bool false)
        | true => none
      | _, _, _ => none
    | _, _ => none
  | _ => none
theorem xOverlaps_sound {f : FuncId} {fn : Func} {tS tR e : TypeId} {size : Nat} (hf : P.funcs[f]? = some fn) (hname : (fn.name == "runtime.NumGoroutine") = false) (hb : fn.body.isNone = true) (hn : Extern.findNext fn = none)
    (he : Extern.find fn = some (Extern.SlicesOverlaps.overlaps #[tS, tS] #[tR])) (ht : P.underlying tS = some (.slice e)) (hz : szB P e = some size) {l : List AV} {cs : List Value} {v : AV} (h : xOverlaps H l = some v) (hH : HRel B r H w) (hv : VRels r l cs) :
    ∃ u, (callFunc f ⟨cs⟩).run P w = .ok (.value u) w ∧ VRel r v u := by
  unfold xOverlaps at h
  split at h
  · rename_i x y
    split at h
    · rename_i b1 o1 b2 o2 hb1 hb2
      split at h
      · rename_i hne g1 g2
        rename_i l1 t1 x2 l2 t2 ro2
        split at h
        · rename_i h5
          cases h
          cases hv with
          | cons h1 h2 =>
            cases h2 with
            | cons h3 h4 =>
              cases h4
              obtain ⟨c1, K1, n1, m1, r1, rfl⟩ := blkOf_sound hb1 h1
              obtain ⟨c2, K2, n2, m2, r2, rfl⟩ := blkOf_sound hb2 h3
              obtain ⟨c1', K1', oc1, q1, w1, O1⟩ := hH.obj _ _ g1
              obtain ⟨c2', K2', oc2, q2, w2, O2⟩ := hH.obj _ _ g2
              rw [r1] at q1; cases q1
              rw [r2] at q2; cases q2
              have hcc : c1 ≠ c2 := fun ec => beq_f hne (hH.inj _ _ _ _ c1 K1 K2 g1 g2 r1 (by rw [ec]; exact r2))
              cases oc1 <;> simp only [ORel] at O1
              cases oc2 <;> simp only [ORel] at O2
              rename_i cs1 t1' fz1 cs2 t2' fz2
              obtain ⟨p1, p2, p3, p4, p5⟩ := O1
              obtain ⟨q1, q2, q3, q4, q5⟩ := O2
              have hfz : fz1.1 = fz1.2 := by
                rcases p5 trivial with h | ⟨_, h⟩
                · exact h
                · exact absurd h (beq_f h5)
              have hfr : ∀ off, w.frozen? ⟨c1, off, none⟩ = false := fun off => by
                simp only [World.frozen?, w1]
                rw [hfz]
                simp only [Bool.and_eq_false_iff, decide_eq_false_iff_not]
                omega
              refine ⟨_, ?_, .bool _⟩
              rw [run_callFunc_extern hf hname hb hn he, Lib.run_overlaps_apart w tS tR e ht size (run_szB hz) ⟨c1, o1, none⟩ ⟨c2, o2, none⟩ n1 m1 n2 m2 hcc t1' t2' cs1.size cs2.size (by simp [World.shape?, w1]) (by simp [World.shape?, w2]) (by simp only [List.length_cons] at q2; omega) (hfr _) (hfr _)]
              rfl
        · cases h
      · cases h
    · cases h
  · cases h

/-! #### Insert at an open capacity -/
def junks : Nat → List AV
  | 0 => []
  | n + 1 => .junk :: junks n
theorem junks_len : ∀ n, (junks n).length = n
  | 0 => rfl
  | n + 1 => by simp [junks, junks_len n]
theorem junks_nth : ∀ {n i : Nat} {x : AV}, nth (junks n) i = some x → x = .junk
  | 0, i, x, h => by cases i <;> cases h
  | n + 1, 0, x, h => by cases h; rfl
  | n + 1, i + 1, x, h => junks_nth (n := n) (i := i) h
def twoH (b vb : Nat) (o vo : AObj) : T AObj := T.put F (T.put F .nil b (some o)) vb (some vo)
theorem twoH_get {b vb : Nat} {o vo : AObj} (hb : b < 60000) (hvb : vb < 60000) (hne : b ≠ vb) {i : Nat} {x : AObj} : (twoH b vb o vo).get i = some x ↔ (i = vb ∧ x = vo) ∨ (i = b ∧ x = o) := by
  have hF : ∀ n, n < 60000 → n + 1 < 2 ^ F := fun n h => by unfold F; omega
  unfold twoH
  by_cases e : i = vb
  · subst e
    rw [T.get_put_same F _ _ _ (hF _ hvb)]
    constructor
    · intro h; cases h; exact .inl ⟨rfl, rfl⟩
    · rintro (⟨_, rfl⟩ | ⟨h, _⟩)
      · rfl
      · exact absurd h.symm hne
  · rw [T.get_put_other F _ _ _ _ e]
    by_cases e2 : i = b
    · subst e2
      rw [T.get_put_same F _ _ _ (hF _ hb)]
      constructor
      · intro h; cases h; exact .inr ⟨rfl, rfl⟩
      · rintro (⟨h, _⟩ | ⟨_, rfl⟩)
        · exact absurd h e
        · rfl
    · rw [T.get_put_other F _ _ _ _ e2]
      constructor
      · intro h; cases h
      · rintro (⟨h, _⟩ | ⟨h, _⟩)
        · exact absurd h e
        · exact absurd h e2

def insGo (cl : CF) (f b n k z i : Nat) (v : AV) (X : T AObj) (sn : Nat) (l1 : List AV) (t1 : TypeId) : Nat → Nat → Bool
  | 0, _ => true
  | q + 1, c => match cl f [.slice b 0 n c, .int .i64 i, v] ⟨X, sn⟩ with
    | some (.oslice b2 0 n2 m2 z2, s2) => match Nat.beq b2 sn, Nat.beq n2 (n + k), Nat.ble (n + k) m2, Nat.beq z2 z, Nat.beq s2.n (sn + 1), s2.h.get sn with
      | true, true, true, true, true, some (.cells l2 t2 false) => match avEqL l1 l2, Nat.beq t1 t2 with
        | true, true => insGo cl f b n k z i v X sn l1 t1 q (c + 1)
        | _, _ => false
      | _, _, _, _, _, _ => false
    | _ => false
def insHeap (s : HS) (b vb : Nat) (x : AObj) : T AObj := T.put F (T.put F (T.put F (T.put F s.h vb none) b (some x)) b none) s.n (some x)
def aInsert (cl : CF) (f : Nat) (l : List AV) (s : HS) : Option (AV × HS) :=
  match l with
  | [.oslice b 0 n m z, .int .i64 (.ofNat i), .slice vb vo k kc] => match s.h.get b, s.h.get vb with
    | some (.cells l t false), some vx => match Nat.blt b 60000, Nat.blt vb 60000, Nat.blt s.n 60000, Nat.beq b vb, Nat.beq z 0, Nat.ble l.length (n + k) with
      | true, true, true, false, false, true => match cl f [.oslice b 0 n (n + k) z, .int .i64 i, .slice vb vo k kc] ⟨twoH b vb (.cells (l ++ junks (n + k - l.length)) t false) vx, s.n⟩ with
        | some (.oslice b1 0 n1 m1 z1, s1) => match Nat.beq b1 b, Nat.beq n1 (n + k), Nat.ble (n + k) m1, Nat.beq z1 z, Nat.beq s1.n s.n, s1.h.get b with
          | true, true, true, true, true, some (.cells l1 t1 false) => match insGo cl f b n k z i (.slice vb vo k kc) (twoH b vb (.cells l t false) vx) s.n l1 t1 (n + k - m) m with
            | true => some (.oslice s.n 0 (n + k) (n + k) z, ⟨insHeap s b vb (.cells l1 t1 false), s.n + 1⟩)
            | false => none
          | _, _, _, _, _, _ => none
        | _ => none
      | _, _, _, _, _, _ => none
    | _, _ => none
  | _ => none

theorem set_same {a : Array Obj} {i : Nat} {x : Obj} (h : a[i]? = some x) : a.setIfInBounds i x = a := by
  apply Array.ext_getElem?
  intro j
  by_cases e : i = j
  · subst e
    have hl := (Array.getElem?_eq_some_iff.1 h).1
    rw [Array.getElem?_setIfInBounds_self]
    simp [hl, (Array.getElem?_eq_some_iff.1 h).2]
  · rw [Array.getElem?_setIfInBounds_ne e]

theorem insGo_spec {cl : CF} {f b n k z i : Nat} {v : AV} {X : T AObj} {sn : Nat} {l1 : List AV} {t1 : TypeId} : ∀ {q c : Nat}, insGo cl f b n k z i v X sn l1 t1 q c = true → ∀ c', c ≤ c' → c' < c + q →
    ∃ m2 s2, cl f [.slice b 0 n c', .int .i64 i, v] ⟨X, sn⟩ = some (.oslice sn 0 (n + k) m2 z, s2) ∧ n + k ≤ m2 ∧ s2.n = sn + 1 ∧ s2.h.get sn = some (.cells l1 t1 false)
  | 0, c, _, c', h1, h2 => by omega
  | q + 1, c, h, c', h1, h2 => by
    simp only [insGo] at h
    split at h
    · rename_i b2 n2 m2 z2 s2 hcl
      split at h
      · rename_i l2 t2 e1 e2 e3 e4 e5 hg
        split at h
        · rename_i hl ht
          by_cases e : c' = c
          · subst e
            have e1' := beq_t e1; have e2' := beq_t e2; have e4' := beq_t e4
            subst e1' e2' e4'
            have hl' := avEqL_spec hl
            have ht' := beq_t ht
            subst hl' ht'
            exact ⟨m2, s2, hcl, by simpa [Nat.ble_eq] using e3, beq_t e5, hg⟩
          · exact insGo_spec h c' (by omega) (by omega)
        · cases h
      · cases h
    · cases h

theorem PStep.toStep {B c0 c1 : Nat} {r r1 : Ren} {H H1 : T AObj} {w w1 : World} {HP1 : Nat → AObj → Prop} (h : PStep B c0 c1 r (fun b o => H.get b = some o) w r1 HP1 w1) (hs : ∀ b o, H1.get b = some o → HP1 b o) : Step B c0 c1 r H w r1 H1 w1 :=
  ⟨h.ext, h.out, h.rel.to hs, h.below, h.kept, fun b o c K hb => h.img b o c K (hs b o hb)⟩

theorem insHeap_get {s : HS} {b vb : Nat} {x : AObj} (hb : b < 60000) (hvb : vb < 60000) (hn : s.n < 60000) {i : Nat} {o : AObj} (h : (insHeap s b vb x).get i = some o) : (i = s.n ∧ o = x) ∨ (i ≠ s.n ∧ i ≠ b ∧ i ≠ vb ∧ s.h.get i = some o) := by
  have hF : ∀ n, n < 60000 → n + 1 < 2 ^ F := fun n h => by unfold F; omega
  unfold insHeap at h
  by_cases e : i = s.n
  · rw [e, T.get_put_same F _ _ _ (hF _ hn)] at h; cases h; exact .inl ⟨e, rfl⟩
  · rw [T.get_put_other F _ _ _ _ e] at h
    by_cases e2 : i = b
    · rw [e2, T.get_put_same F _ _ _ (hF _ hb)] at h; cases h
    · rw [T.get_put_other F _ _ _ _ e2, T.get_put_other F _ _ _ _ e2] at h
      by_cases e3 : i = vb
      · rw [e3, T.get_put_same F _ _ _ (hF _ hvb)] at h; cases h
      · rw [T.get_put_other F _ _ _ _ e3] at h
        exact .inr ⟨e, e2, e3, h⟩

theorem insert_sound {cl : CF} (hcl : CSound P G cl) {f : Nat} : ∀ (l : List AV) (s : HS) (v : AV) (s' : HS), aInsert cl f l s = some (v, s') → ∀ (B : Nat) (r : Ren) (cs : List Value) (w : World), HRel B r s.h w → Glob G r → Fresh r s.n s'.n → VRels r l cs → Calls P f ⟨cs⟩ w (CallPost B r s w v s') := by
  intro l s v s' hs B r cs w h hG hf hv
  have hF : ∀ n, n < 60000 → n + 1 < 2 ^ F := fun n h => by unfold F; omega
  unfold aInsert at hs
  split at hs
  · rename_i b n m z i vb vo k kc
    split at hs
    · rename_i l t vx hgb hgv
      split at hs
      · rename_i c1 c2 c3 c4 c5 c6
        have hb : b < 60000 := by simpa [Nat.blt_eq] using c1
        have hvb : vb < 60000 := by simpa [Nat.blt_eq] using c2
        have hn : s.n < 60000 := by simpa [Nat.blt_eq] using c3
        have hne : b ≠ vb := beq_f c4
        have hz : z ≠ 0 := beq_f c5
        have hll : l.length ≤ n + k := by simpa [Nat.ble_eq] using c6
        split at hs
        · rename_i b1 n1 m1 z1 s1 hA
          split at hs
          · rename_i l1 t1 d1 d2 d3 d4 d5 hg1
            split at hs
            · rename_i hB
              cases hs
              have e1 := beq_t d1; have e2 := beq_t d2; have e4 := beq_t d4; have e5 := beq_t d5
              subst e1 e2 e4
              have hm1 : n + k ≤ m1 := by simpa [Nat.ble_eq] using d3
              cases hv with
              | cons hx hv =>
              cases hv with
              | cons hi hv =>
              cases hv with
              | cons hvv hv =>
              cases hv
              cases hi
              cases hx
              rename_i c K m' hr hm hK
              obtain ⟨cc, KK, oc, hr', hw, hO⟩ := h.obj _ _ hgb
              rw [hr] at hr'; cases hr'
              have hbn : b1 ≠ s.n := fun e => by
                have := hf s.n (Nat.le_refl _) (Nat.lt_succ_self _)
                rw [← e, hr] at this; cases this
              by_cases hfit : n + k ≤ m'
              · -- there is room
                have hlK : n + k ≤ K := by
                  have : m' ≤ m' * z1 := Nat.le_mul_of_pos_right _ (by omega)
                  omega
                let o1 : AObj := .cells (l ++ junks (n + k - l.length)) t false
                have hO1 : ORel r K o1 oc := by
                  cases oc <;> simp only [ORel] at hO
                  rename_i ca ta fz
                  obtain ⟨q1, q2, q3, q4, q5⟩ := hO
                  show ORel r K (.cells (l ++ junks (n + k - l.length)) t false) (.cells ca ta fz)
                  simp only [ORel]
                  refine ⟨q1, ?_, q3, fun j x hj => ?_, q5⟩
                  · rw [List.length_append, junks_len]; omega
                  · rw [nth_append] at hj
                    split at hj
                    · exact q4 j x hj
                    · have hjk := junks_nth hj
                      subst hjk
                      have hjl : j < (l ++ junks (n + k - l.length)).length := by
                        have := nth_lt hj
                        rw [List.length_append]; omega
                      rw [List.length_append, junks_len] at hjl
                      exact ⟨ca[j]'(by omega), Array.getElem?_eq_getElem (by omega), .junk _⟩
                have st0 : Step B s.n s.n r s.h w r (T.put F s.h b1 (some o1)) w := Step.turn h s.n hb hgb rfl rfl hr hO1 (by rw [set_same hw])
                have hget1 : ∀ j x, (twoH b1 vb o1 vx).get j = some x → (T.put F s.h b1 (some o1)).get j = some x := fun j x hj => by
                  rcases (twoH_get hb hvb hne).1 hj with ⟨rfl, rfl⟩ | ⟨rfl, rfl⟩
                  · rw [T.get_put_other F _ _ _ _ (Ne.symm hne)]; exact hgv
                  · exact T.get_put_same F _ _ _ (hF _ hb)
                have hX : HRel B r (twoH b1 vb o1 vx) w := (PRel.of st0.rel).to hget1
                refine (hcl _ _ _ _ _ hA B r _ w hX hG (by show Fresh r s.n s1.n; rw [e5]; exact fun q h1 h2 => by omega) (.cons (.oslice hr hfit hK) (.cons (.int _ _) (.cons hvv .nil)))).mono fun e w' he => ?_
                obtain ⟨u, r1, rfl, st, hu⟩ := he
                have hrr : r1 = r := funext fun q => st.out q (by show q < s.n ∨ s1.n ≤ q; rw [e5]; omega)
                subst hrr
                have st' : Step B s.n s.n r1 (twoH b1 vb o1 vx) w r1 s1.h w' := st.widen (Nat.le_refl _) (Nat.le_of_eq e5)
                let x1 : AObj := .cells l1 t1 false
                let Y : T AObj := T.put F (T.put F s.h vb none) b1 (some x1)
                have hY : ∀ j x, Y.get j = some x → (j = b1 ∧ x = x1) ∨ (j ≠ b1 ∧ j ≠ vb ∧ s.h.get j = some x) := fun j x hj => by
                  by_cases ej : j = b1
                  · rw [ej, T.get_put_same F _ _ _ (hF _ hb)] at hj; cases hj; exact .inl ⟨ej, rfl⟩
                  · rw [T.get_put_other F _ _ _ _ ej] at hj
                    by_cases ev : j = vb
                    · rw [ev, T.get_put_same F _ _ _ (hF _ hvb)] at hj; cases hj
                    · rw [T.get_put_other F _ _ _ _ ev] at hj; exact .inr ⟨ej, ev, hj⟩
                have st1 : Step B s.n s.n r1 (T.put F s.h b1 (some o1)) w r1 Y w' := (PStep.frame (HP' := fun j x => Y.get j = some x) (PRel.of st0.rel) hget1 st' (Nat.le_refl _) (Nat.le_refl _) fun j x hj => by
                  rcases hY j x hj with ⟨rfl, rfl⟩ | ⟨ej, ev, hj⟩
                  · exact .inl hg1
                  · refine .inr ⟨?_, ?_⟩
                    · show (T.put F s.h b1 (some o1)).get j = some x
                      rw [T.get_put_other F _ _ _ _ ej]; exact hj
                    · cases hq : (twoH b1 vb o1 vx).get j with
                      | none => rfl
                      | some y =>
                        rcases (twoH_get hb hvb hne).1 hq with ⟨h1, _⟩ | ⟨h1, _⟩
                        · exact absurd h1 ev
                        · exact absurd h1 ej).toStep fun _ _ h => h
                have hgY : Y.get b1 = some x1 := T.get_put_same F _ _ _ (hF _ hb)
                obtain ⟨cc, KK, oc2, hr2, hw2, hO2⟩ := st1.rel.obj _ _ hgY
                rw [hr] at hr2; cases hr2
                have st2 := Step.shift st1.rel hb hn (hf s.n (Nat.le_refl _) (Nat.lt_succ_self _)) hgY rfl hr hO2 (w1 := w') (by rw [set_same hw2])
                refine ⟨u, _, rfl, (st0.comp st1).trans st2 (Nat.le_refl _) (Nat.le_succ _), ?_⟩
                cases hu with
                | oslice hr3 hm3 hK3 =>
                  rw [hr] at hr3; cases hr3
                  exact .oslice (Ren.put_same _ _ _) (by omega) hK3
              · -- there is none
                obtain ⟨m2, s2, hcl2, hm2, hn2, hg2⟩ := insGo_spec hB m' hm (by omega)
                have hget2 : ∀ j x, (twoH b1 vb (.cells l t false) vx).get j = some x → s.h.get j = some x := fun j x hj => by
                  rcases (twoH_get hb hvb hne).1 hj with ⟨rfl, rfl⟩ | ⟨rfl, rfl⟩
                  · exact hgv
                  · exact hgb
                have hX : HRel B r (twoH b1 vb (.cells l t false) vx) w := (PRel.of h).to hget2
                refine (hcl _ _ _ _ _ hcl2 B r _ w hX hG (by show Fresh r s.n s2.n; rw [hn2]; exact hf) (.cons (.slice hr) (.cons (.int _ _) (.cons hvv .nil)))).mono fun e w' he => ?_
                obtain ⟨u, r2, rfl, st, hu⟩ := he
                have st' : Step B s.n (s.n + 1) r (twoH b1 vb (.cells l t false) vx) w r2 s2.h w' := st.widen (Nat.le_refl _) (Nat.le_of_eq hn2)
                refine ⟨u, r2, rfl, (PStep.frame (HP' := fun j x => (insHeap s b1 vb (.cells l1 t1 false)).get j = some x) (PRel.of h) hget2 st' (Nat.le_refl _) (Nat.le_refl _) fun j x hj => ?_).toStep fun _ _ h => h, ?_⟩
                · rcases insHeap_get hb hvb hn hj with ⟨rfl, rfl⟩ | ⟨ej, eb, ev, hj⟩
                  · exact .inl hg2
                  · refine .inr ⟨hj, ?_⟩
                    cases hq : (twoH b1 vb (.cells l t false) vx).get j with
                    | none => rfl
                    | some y =>
                      rcases (twoH_get hb hvb hne).1 hq with ⟨h1, _⟩ | ⟨h1, _⟩
                      · exact absurd h1 ev
                      · exact absurd h1 eb
                · cases hu with
                  | oslice hr3 hm3 hK3 => exact .oslice hr3 (by omega) hK3
            · cases hs
          · cases hs
        · cases hs
      · cases hs
    · cases hs
  · cases hs
end
end Go.Proofs.YtbklalklebjiaaaGreatDoor.XAm

set_option linter.unusedVariables false
set_option linter.unusedSimpArgs false
namespace Go.Proofs.YtbklalklebjiaaaGreatDoor.XAm
open Go Go.RowKit

theorem Step.quiet {B n : Nat} {r : Ren} {H : T AObj} {w w' : World} (h : HRel B r H w) (hb : Below w.heap.size w w') : Step B n n r H w r H w' := by
  refine ⟨Ext.refl r, fun _ _ => rfl, ⟨fun b o hg => ?_, h.inj, h.wr, Nat.le_trans h.base hb.size⟩, hb.mono h.base, fun i hi _ => hb.block i hi, fun b o c K hg hr => .inr ⟨b, o, K, hg, hr⟩⟩
  obtain ⟨c, K, oc, hr, hw, hO⟩ := h.obj b o hg
  exact ⟨c, K, oc, hr, by rw [hb.block c (h.lt hg hr)]; exact hw, hO⟩

def blk4 : AV → Option (Nat × Nat × Nat × Nat)
  | .slice b o n m => some (b, o, n, m)
  | .oslice b o n m _ => some (b, o, n, m)
  | _ => none
theorem blk4_sound {r : Ren} {x : AV} {b o n m : Nat} {v : Value} (h : blk4 x = some (b, o, n, m)) (hv : VRel r x v) : ∃ c K m', r b = some (c, K) ∧ v = .slice (some ⟨c, o, none⟩) n m' ∧ m ≤ m' := by
  cases hv <;> simp only [blk4, Option.some.injEq, Prod.mk.injEq, reduceCtorEq] at h
  case slice hr => obtain ⟨rfl, rfl, rfl, rfl⟩ := h; exact ⟨_, _, _, hr, rfl, Nat.le_refl _⟩
  case oslice hr hm _ => obtain ⟨rfl, rfl, rfl, rfl⟩ := h; exact ⟨_, _, _, hr, rfl, hm⟩
def strsN : Nat → List AV → Option (List ByteArray)
  | 0, _ => some []
  | n + 1, .str s :: l => match strsN n l with
    | some xs => some (s :: xs)
    | none => none
  | _ + 1, _ => none
theorem strsN_spec : ∀ {n : Nat} {l : List AV} {xs : List ByteArray}, strsN n l = some xs → xs.length = n ∧ ∀ (j : Nat) x, xs[j]? = some x → nth l j = some (.str x)
  | 0, l, xs, h => by cases h; exact ⟨rfl, fun j x hx => by simp at hx⟩
  | n + 1, [], xs, h => by cases h
  | n + 1, v :: l, xs, h => by
    cases v <;> simp only [strsN, reduceCtorEq] at h
    rename_i s
    split at h
    · rename_i ys hy
      cases h
      obtain ⟨h1, h2⟩ := strsN_spec hy
      refine ⟨by simp [h1], fun j x hx => ?_⟩
      cases j with
      | zero => simp at hx; subst hx; rfl
      | succ j => exact h2 j x (by simpa using hx)
    · cases h
def aJoin (l : List AV) (s : HS) : Option (AV × HS) :=
  match l with
  | [x, .str sep] => match blk4 x with
    | some (b, o, n, m) => match s.h.get b with
      | some (.cells cs _ _) => match strsN n (cs.drop o), Nat.ble n m, Nat.ble n 100000 with
        | some xs, true, true => match Nat.ble (Lib.join (xs.map (·.data.toList)) sep.data.toList).length 1000000 with
          | true => some (.str ⟨(Lib.join (xs.map (·.data.toList)) sep.data.toList).toArray⟩, s)
          | false => none
        | _, _, _ => none
      | _ => none
    | none => match x with
      | .nilslice => some (.str ⟨#[]⟩, s)
      | _ => none
  | _ => none
theorem nth_dropA {α : Type} : ∀ (l : List α) (o j : Nat), nth (l.drop o) j = nth l (o + j) := fun l o j => by
  rw [nth_eq, nth_eq, List.getElem?_drop]
theorem join_sound {P : Program} {G f : Nat}
    (h0 : ∀ (a : Option Addr) (c : Nat) (sep : ByteArray) (w : World), Calls P f #[.slice a 0 c, .string sep] w fun e w' => e = .returned (.string ⟨#[]⟩) ∧ w' = w)
    (h1 : ∀ (bk o c : Nat) (xs : List ByteArray) (sep : ByteArray) (w : World), (∀ (j : Nat) x, xs[j]? = some x → w.cell? ⟨bk, o + j, none⟩ = some (.string x)) → bk < w.heap.size → xs.length ≤ 140737488355328 → xs.length ≤ c →
      (Lib.join (xs.map (·.data.toList)) sep.data.toList).length ≤ 140737488355328 →
      Calls P f #[.slice (some ⟨bk, o, none⟩) xs.length c, .string sep] w fun e w' => e = .returned (.string ⟨(Lib.join (xs.map (·.data.toList)) sep.data.toList).toArray⟩) ∧ Below w.heap.size w w') :
    ∀ (l : List AV) (s : HS) (v : AV) (s' : HS), aJoin l s = some (v, s') → ∀ (B : Nat) (r : Ren) (cs : List Value) (w : World), HRel B r s.h w → Glob G r → Fresh r s.n s'.n → VRels r l cs → Calls P f ⟨cs⟩ w (CallPost B r s w v s') := by
  intro l s v s' hs B r cs w h hG hf hv
  unfold aJoin at hs
  split at hs
  · rename_i x sep
    cases hv with
    | cons hx hv =>
    cases hv with
    | cons hsep hv =>
    cases hv
    cases hsep
    split at hs
    · rename_i b o n m hb
      obtain ⟨c, K, m', hr, rfl, hm⟩ := blk4_sound hb hx
      split at hs
      · rename_i cl t ro hg
        split at hs
        · rename_i xs hxs hnm hn
          split at hs
          · rename_i hlen
            cases hs
            obtain ⟨e1, e2⟩ := strsN_spec hxs
            subst e1
            obtain ⟨c', K', oc, hr', hw, hO⟩ := h.obj _ _ hg
            rw [hr] at hr'; cases hr'
            cases oc <;> simp only [ORel] at hO
            obtain ⟨q1, q2, q3, q4, q5⟩ := hO
            have hn' : xs.length ≤ 100000 := by simpa [Nat.ble_eq] using hn
            have hnm' : xs.length ≤ m := by simpa [Nat.ble_eq] using hnm
            have hlen' : (Lib.join (xs.map (·.data.toList)) sep.data.toList).length ≤ 1000000 := by simpa [Nat.ble_eq] using hlen
            refine (h1 c o m' xs sep w (fun j x hj => ?_) (h.lt hg hr) (by omega) (by omega) (by omega)).mono fun e w' he => ?_
            · have := e2 j x hj
              rw [nth_dropA] at this
              obtain ⟨v, ev, hv⟩ := q4 _ _ this
              cases hv
              simp only [World.cell?, hw]
              exact ev
            · obtain ⟨rfl, hb⟩ := he
              exact ⟨_, r, rfl, Step.quiet h hb, .str _⟩
          · cases hs
        · cases hs
      · cases hs
    · split at hs
      · cases hs
        cases hx
        refine (h0 none 0 sep w).mono fun e w' he => ?_
        obtain ⟨rfl, rfl⟩ := he
        exact ⟨_, r, rfl, Step.refl h _, .str _⟩
      · cases hs
  · cases hs
end Go.Proofs.YtbklalklebjiaaaGreatDoor.XAm
