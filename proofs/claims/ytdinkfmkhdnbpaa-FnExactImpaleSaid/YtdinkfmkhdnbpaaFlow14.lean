/- Slice literals; stores into the frame's own objects. -/
import Derived.Test.YtdinkfmkhdnbpaaFlow13
import Derived.WalkKit
import Derived.WalkSpells
namespace Go.Proofs.Ytdinkfmkhdnbpaa
open Go.RowKit
set_option linter.unusedVariables false
set_option linter.unusedSimpArgs false

section
variable {P : Program} {w0 : Env} {w : World} {σ : St} {ν : Loc} {a : Act}

theorem zeros_list (z : List Value) (n : Nat) : ((Array.range (n * z.length)).map fun j => z.toArray[j % z.length]!).toList = (List.replicate n z).flatten := by
  by_cases hz : z.length = 0
  · have : z = [] := List.eq_nil_of_length_eq_zero hz
    subst this
    simp
  · apply List.ext_getElem?
    intro i
    simp only [Array.toList_map, Array.toList_range, List.getElem?_map]
    have hl : ((List.replicate n z).flatten).length = n * z.length := by simp
    by_cases hi : i < n * z.length
    · rw [List.getElem?_range hi]
      simp only [Option.map_some]
      have key : ∀ n i, i < n * z.length → ((List.replicate n z).flatten)[i]? = z[i % z.length]? := by
        intro n
        induction n with
        | zero => intro i hi; simp at hi
        | succ n ih =>
          intro i hi
          rw [List.replicate_succ, List.flatten_cons, List.getElem?_append]
          split
          · rename_i h; rw [Nat.mod_eq_of_lt h]
          · rename_i h
            rw [ih _ (by rw [Nat.succ_mul] at hi; omega)]
            congr 1
            rw [Nat.mod_eq_sub_mod (a := i) (by omega)]
      rw [key n i hi]
      have hm : i % z.length < z.length := Nat.mod_lt _ (by omega)
      rw [List.getElem?_eq_getElem hm]
      simp [getElem!_pos, hm]
    · rw [List.getElem?_eq_none (by simp; omega), List.getElem?_eq_none (by omega)]
      rfl

theorem VRs.flatten {ob : List (Nat × OB)} (z : List Value) : ∀ n, VRs P w0 w ob ν ((List.replicate n ((z.map D.v).map AV.d)).flatten) ((List.replicate n z).flatten)
  | 0 => by simp [VRs]
  | n + 1 => by
    rw [List.replicate_succ, List.replicate_succ, List.flatten_cons, List.flatten_cons]
    exact (VRs.vals z).append (VRs.flatten z n)

theorem Ones.flatten {z : List Value} (h : Ones z) : ∀ n, Ones ((List.replicate n z).flatten)
  | 0 => fun x hx => by simp at hx
  | n + 1 => by
    rw [List.replicate_succ, List.flatten_cons]
    exact h.append (Ones.flatten h n)

theorem buildSlice_sound (h : Sim P w0 σ ν a w) {t e : TypeId} {n : Nat} {parts : Array (Nat × Operand)} {s : Nat} (hs : s < σ.n) (hu : P.underlying t = some (.slice e)) {cs : List AV}
    (hf : fillA σ.ob (P.cellsOf e) (parts.toList.map fun (i, x) => (i, σ.ev x)) ((List.replicate n ((zeroD P e).map AV.d)).flatten) = some cs) (hn : n * P.cellsOf e ≤ 65536) (hz : zeroOk P e = true) (hk : P.cellsOf e ≠ 0) (hr : AV.refsL s cs = false) :
    ∃ v w' ν', (Instr.buildSlice t n (parts.map fun (i, x) => (i, a.eval x))).run P w = .ok v w' ∧ Sim P w0 (σ.new s (obOf cs) (.bs s 0 n (P.cellsOf e))) ν' (a.put (some s) v) w' ∧ Below w.heap.size w w' := by
  obtain ⟨z, h1, h2, h3, h4⟩ := zero_run (w := w) hz
  have hzz : z.cells = (zeroV P e).toArray := by rw [← h2]
  let start : Array Value := if n * P.cellsOf e = 0 then #[] else (Array.range (n * P.cellsOf e)).map fun j => (zeroV P e).toArray[j % (zeroV P e).length]!
  have hstart : start.toList = (List.replicate n (zeroV P e)).flatten := by
    simp only [start]
    split
    · rename_i h0
      have : n = 0 := by
        rcases Nat.mul_eq_zero.1 h0 with h0 | h0
        · exact h0
        · exact absurd h0 hk
      subst this
      simp
    · rw [← h4]
      exact zeros_list _ _
  obtain ⟨ys, q1, q2, q3, q4⟩ := fill_sound (P := P) (w0 := w0) (w := w) (ν := ν) (P.cellsOf e) (parts.toList.map fun (i, x) => (i, σ.ev x)) (parts.toList.map fun (i, x) => (i, a.eval x)) (by simp [Function.comp_def])
    (fun i p q hp hq => by
      simp only [List.getElem?_map, Option.map_eq_some_iff] at hp hq
      obtain ⟨x, hx, rfl⟩ := hp
      obtain ⟨y, hy, rfl⟩ := hq
      rw [hx] at hy
      cases hy
      exact h.ev x.2) _ start cs (by rw [hstart]; exact VRs.flatten _ _) (by rw [hstart]; exact Ones.flatten h3 _) hf
  have hlen : ys.toList.length = n * P.cellsOf e := by
    rw [Array.length_toList, q4, ← Array.length_toList, hstart]
    simp [h4]
  obtain ⟨ν', h5⟩ := h.alloc hs (o := obOf cs) (obOf_ne cs) (by rw [obCells_obOf]; exact q2) q3 (by rw [obCells_obOf]; exact hr) e (.bs s 0 n (P.cellsOf e)) _ (.inr ⟨n, P.cellsOf e, rfl, rfl, hlen.symm⟩)
  refine ⟨.slice (some ⟨w.heap.size, 0, none⟩) n n, w.alloc (.cells ys.toList.toArray e), ν', ?_, h5, below_alloc w _⟩
  have e0 : ¬ (n * P.cellsOf e > 2 ^ 24) := by
    have : (2 : Nat) ^ 24 = 16777216 := by decide
    omega
  have hq : Instr.fill (fun i => some (i * P.cellsOf e, P.cellsOf e)) start (parts.map fun (i, x) => (i, a.eval x)).toList = some ys := by
    rw [Array.toList_map]; exact q1
  simp only [Instr.buildSlice, Sem.run_bind, run_underlying hu, Result.andThen_ok, run_size' rfl hk, if_neg e0]
  by_cases h0 : n * P.cellsOf e = 0
  · simp only [start, if_pos h0] at hq
    rw [if_pos h0, h0]
    have hq' : Instr.fill (fun i => some (i * P.cellsOf e, P.cellsOf e)) (Array.map (fun x => (#[] : Array Value)[x % (#[] : Array Value).size]!) (Array.range 0)) (Array.map (fun x => (x.fst, a.eval x.snd)) parts).toList = some ys := by
      have e0 : Array.map (fun x => (#[] : Array Value)[x % (#[] : Array Value).size]!) (Array.range 0) = #[] := by simp
      rw [e0]
      exact hq
    simp only [Sem.run_bind, Sem.run_pure, Result.andThen_ok, hq']
    rfl
  · simp only [start, if_neg h0] at hq
    rw [if_neg h0]
    simp only [Sem.run_bind, h1, Result.andThen_ok, Sem.run_pure, hzz]
    have hq' : Instr.fill (fun i => some (i * P.cellsOf e, P.cellsOf e)) (Array.map (fun x => (zeroV P e).toArray[x % (zeroV P e).toArray.size]!) (Array.range (n * P.cellsOf e))) (Array.map (fun x => (x.fst, a.eval x.snd)) parts).toList = some ys := hq
    simp only [hq']
    rfl
end

end Go.Proofs.Ytdinkfmkhdnbpaa
