/- make and append. -/
import Derived.Test.YtdinkfmkhdnbpaaFlow15
import Derived.WalkKit
import Derived.WalkSpells
import Derived.IntWalk
import Derived.Laws.Append
import Derived.Laws.AppendOwn
namespace Go.Proofs.Ytdinkfmkhdnbpaa
open Go.RowKit
set_option linter.unusedVariables false
set_option linter.unusedSimpArgs false

section
variable {P : Program} {w0 : Env} {w : World} {σ : St} {ν : Loc} {a : Act}

theorem info_of {t : TypeId} (h : P.cellsOf t ≠ 0) : ∃ i, P.info? t = some i ∧ i.size = P.cellsOf t ∧ i.bytes = P.bytesOf t := by
  cases hi : P.info? t with
  | none => simp [Program.cellsOf, hi] at h
  | some i => exact ⟨i, rfl, by simp [Program.cellsOf, hi], by simp [Program.bytesOf, hi]⟩

theorem makeSlice_sound (h : Sim P w0 σ ν a w) {t e : TypeId} {s : Nat} (hs : s < σ.n) (hu : P.underlying t = some (.slice e)) {n : Int} (hn : 0 ≤ n) (hb : n * P.bytesOf e ≤ 140737488355328) (hb0 : P.bytesOf e ≠ 0) (hz : zeroOk P e = true) (hk : P.cellsOf e ≠ 0) :
    ∃ v w' ν', (Instr.makeSlice t (.int .i64 n) (.int .i64 n)).run P w = .ok v w' ∧ Sim P w0 (σ.new s (.ds ((List.replicate n.toNat (zeroD P e)).flatten)) (.bs s 0 n.toNat (P.cellsOf e))) ν' (a.put (some s) v) w' ∧ Below w.heap.size w w' := by
  obtain ⟨z, h1, h2, h3, h4⟩ := zero_run (w := w) hz
  have hzz : z.cells = (zeroV P e).toArray := by rw [← h2]
  obtain ⟨i, hi, hi1, hi2⟩ := info_of hk
  obtain ⟨m, rfl⟩ := Int.eq_ofNat_of_zero_le hn
  have hm : m * P.bytesOf e ≤ 140737488355328 := by
    rw [← Int.natCast_mul] at hb
    generalize m * P.bytesOf e = q at hb ⊢
    omega
  have hm2 : m ≤ 140737488355328 := Nat.le_trans (Nat.le_mul_of_pos_right m (by omega)) hm
  have hw : IntKind.i64.wrap (m : Int) = m := IntWalk.i64_in _ (by omega)
  simp only [Int.toNat_natCast]
  have hlen : ((List.replicate m (zeroV P e)).flatten).length = m * P.cellsOf e := by simp [h4]
  have hcells : obCells (.ds ((List.replicate m (zeroD P e)).flatten)) = (List.replicate m ((zeroD P e).map AV.d)).flatten := by
    simp only [obCells, List.map_flatten, List.map_replicate]
  obtain ⟨ν', h5⟩ := h.alloc hs (o := .ds ((List.replicate m (zeroD P e)).flatten)) (by simp) (by rw [hcells]; exact VRs.flatten _ _) (Ones.flatten h3 m) (by simp only [obCells]; exact refs_dmap _ _) e (.bs s 0 m (P.cellsOf e)) _ (.inr ⟨m, P.cellsOf e, rfl, rfl, hlen.symm⟩)
  refine ⟨.slice (some ⟨w.heap.size, 0, none⟩) m m, _, ν', ?_, h5, below_alloc w _⟩
  have hty : (typeInfo e).run P w = .ok i w := by simp [typeInfo, hi]
  have e48 : (2 : Int) ^ 48 = 281474976710656 := by decide
  have hmb : (P.bytesOf e : Int) * (m : Int) ≤ 140737488355328 := by
    have : P.bytesOf e * m ≤ 140737488355328 := by rw [Nat.mul_comm]; exact hm
    rw [← Int.natCast_mul]
    generalize P.bytesOf e * m = q at this ⊢
    omega
  have hroom : (askRoom (m * P.bytesOf e)).run P w = .ok () w := by
    unfold askRoom roomBytes
    rw [if_neg (by have : (2 : Nat) ^ 47 = 140737488355328 := by decide
                   omega)]
    rfl
  have hd : ∀ x : Int, x = m → (decide (x < 0) || decide ((P.bytesOf e : Int) * x > 2 ^ 48)) = false := by
    intro x hx
    subst hx
    rw [e48]
    simp only [Bool.or_eq_false_iff, decide_eq_false_iff_not]
    exact ⟨by omega, by omega⟩
  simp only [Instr.makeSlice, Sem.run_bind, run_underlying hu, Result.andThen_ok, asInt, asIntOf, Sem.run_pure, hty, hi2, hw, hd _ rfl]
  have e1 : ¬ ((m : Int) < 0) := by omega
  simp only [e1, decide_false, Bool.false_or, gt_iff_lt, Int.lt_irrefl, Bool.false_eq_true, if_false, Sem.run_bind, Result.andThen_ok, Int.toNat_natCast, hroom, run_size' rfl hk]
  by_cases h0 : m * P.cellsOf e = 0
  · have hm0 : m = 0 := by
      rcases Nat.mul_eq_zero.1 h0 with h0 | h0
      · exact h0
      · exact absurd h0 hk
    subst hm0
    rw [if_pos h0]
    have e0 : Array.map (fun x => (#[] : Array Value)[x % (#[] : Array Value).size]!) (Array.range (0 * P.cellsOf e)) = #[] := by simp
    simp only [Sem.run_bind, Sem.run_pure, Result.andThen_ok]
    simp only [e0]
    rfl
  · rw [if_neg h0]
    simp only [Sem.run_bind, h1, Result.andThen_ok, Sem.run_pure, hzz]
    have hl := zeros_list (zeroV P e) m
    rw [h4] at hl
    have : Array.map (fun x => (zeroV P e).toArray[x % (zeroV P e).toArray.size]!) (Array.range (m * P.cellsOf e)) = ((List.replicate m (zeroV P e)).flatten).toArray := by
      apply Array.ext'
      rw [← hl]
      simp [h4]
    simp only [this]
    rfl
end

end Go.Proofs.Ytdinkfmkhdnbpaa
