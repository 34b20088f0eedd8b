/- Slice literals; stores into the frame's own objects. -/
import Derived.Test.YteimddagjikcaaaFlow13
import Derived.WalkKit
import Derived.WalkSpells
namespace Go.Proofs.Yteimddagjikcaaa
open Go.RowKit

section
variable {P : Program} {w0 : Env} {w : World} {σ : St} {ν : Loc} {a : Act}

theorem foldl_fill (off : Nat) : ∀ (l : List Value) (j : Nat) (cells : Array Value), off + j + l.length ≤ cells.size →
    ((l.zipIdx j).foldl (fun cs (p : Value × Nat) => cs.setIfInBounds (off + p.2) p.1) cells).toList = cells.toList.take (off + j) ++ l ++ cells.toList.drop (off + j + l.length)
  | [], j, cells, h => by simp
  | v :: l, j, cells, h => by
    simp only [List.zipIdx_cons, List.foldl_cons]
    simp only [List.length_cons] at h
    rw [foldl_fill off l (j + 1) _ (by simp; omega)]
    simp only [Array.toList_setIfInBounds, List.length_cons]
    have h1 : off + j < cells.toList.length := by simp; omega
    have e1 : (cells.toList.set (off + j) v).take (off + (j + 1)) = cells.toList.take (off + j) ++ [v] := by
      rw [show off + (j + 1) = off + j + 1 from by omega, List.take_set, List.take_succ_eq_append_getElem h1, List.set_append_right _ _ (by simp; omega)]
      have : off + j - (cells.toList.take (off + j)).length = 0 := by simp; omega
      rw [this]
      rfl
    have e2 : (cells.toList.set (off + j) v).drop (off + (j + 1) + l.length) = cells.toList.drop (off + j + (l.length + 1)) := by
      rw [List.drop_set_of_lt (by omega), show off + (j + 1) + l.length = off + j + (l.length + 1) from by omega]
    rw [e1, e2]
    simp

theorem VRs.splice {ob : List (Nat × OB)} {cs ys : List AV} {xs vs : List Value} (h : VRs P w0 w ob ν cs xs) (h' : VRs P w0 w ob ν ys vs) (off : Nat) :
    VRs P w0 w ob ν (cs.take off ++ ys ++ cs.drop (off + ys.length)) (xs.take off ++ vs ++ xs.drop (off + vs.length)) := by
  rw [h'.length]
  exact ((h.take off).append h').append (h.drop _)

theorem Ones.append {xs ys : List Value} (h : Ones xs) (h' : Ones ys) : Ones (xs ++ ys) := fun x hx => by
  rcases List.mem_append.1 hx with hx | hx
  · exact h x hx
  · exact h' x hx

theorem fill_sound (k : Nat) {ob : List (Nat × OB)} : ∀ (ps : List (Nat × AV)) (qs : List (Nat × Value)), ps.map (·.1) = qs.map (·.1) → (∀ (i : Nat) (p : Nat × AV) (q : Nat × Value), ps[i]? = some p → qs[i]? = some q → VR P w0 w ob ν p.2 q.2) →
    ∀ (cs : List AV) (xs : Array Value) (rs : List AV), VRs P w0 w ob ν cs xs.toList → Ones xs.toList → fillA ob k ps cs = some rs →
      ∃ ys : Array Value, Instr.fill (fun i => some (i * k, k)) xs qs = some ys ∧ VRs P w0 w ob ν rs ys.toList ∧ Ones ys.toList ∧ ys.size = xs.size
  | [], [], _, _, cs, xs, rs, h, h1, hf => by
    simp only [fillA, Option.some.injEq] at hf
    subst hf
    exact ⟨xs, rfl, h, h1, rfl⟩
  | [], _ :: _, he, _, _, _, _, _, _, _ => by simp at he
  | _ :: _, [], he, _, _, _, _, _, _, _ => by simp at he
  | (i, x) :: ps, (i', v) :: qs, he, hv, cs, xs, rs, h, h1, hf => by
    simp only [List.map_cons, List.cons.injEq] at he
    obtain ⟨rfl, he⟩ := he
    have hx := hv 0 _ _ rfl rfl
    simp only [fillA] at hf
    split at hf
    · rename_i ys hys
      split at hf
      · rename_i hk
        obtain ⟨hk1, hk2⟩ := hk
        obtain ⟨vs, g1, g2, g3⟩ := split_sound hys hx
        have hlen := h.length
        have hvl := g3.length
        simp only [Array.length_toList] at hlen
        have hsz : v.cells.size = k := by rw [g1]; simp; omega
        have e := foldl_fill (i * k) vs 0 xs (by omega)
        simp only [Nat.add_zero] at e
        obtain ⟨zs, q1, q2, q3, q4⟩ := fill_sound k ps qs he (fun j p q hp hq => hv (j + 1) p q (by simpa using hp) (by simpa using hq)) _
          (vs.zipIdx.foldl (fun cs (p : Value × Nat) => cs.setIfInBounds (i * k + p.2) p.1) xs) rs (by rw [e, ← hk1]; exact h.splice g3 _) (by rw [e]; exact ((h1.take _).append g2).append (h1.drop _)) hf
        refine ⟨zs, ?_, q2, q3, ?_⟩
        · simp only [Instr.fill]
          rw [if_neg (by simp [hsz]; omega)]
          rw [g1]
          have : (vs.toArray.zipIdx.foldl (fun cs (x : Value × Nat) => cs.setIfInBounds (i * k + x.2) x.1) xs) = vs.zipIdx.foldl (fun cs (p : Value × Nat) => cs.setIfInBounds (i * k + p.2) p.1) xs := by
            rw [← Array.foldl_toList]
            simp
          simp only [this]
          exact q1
        · rw [q4, ← Array.length_toList, e]
          simp
          omega
      · cases hf
    · cases hf

theorem zeros_list (z : List Value) (n : Nat) : ((Array.range (n * z.length)).map fun j => z.toArray[j % z.length]!).toList = (List.replicate n z).flatten := by
  by_cases hz : z.length = 0
  · have : z = [] := List.eq_nil_of_length_eq_zero hz
    subst this
    simp
  · apply List.ext_getElem?
    intro i
    simp only [Array.toList_map, Array.toList_range, List.getElem?_map]
    have hl : ((List.replicate n z).flatten).length = n * z.length := by simp
    by_cases hi : i < n * z.length
    · rw [List.getElem?_range hi]
      simp only [Option.map_some]
      have key : ∀ n i, i < n * z.length → ((List.replicate n z).flatten)[i]? = z[i % z.length]? := by
        intro n
        induction n with
        | zero => intro i hi; simp at hi
        | succ n ih =>
          intro i hi
          rw [List.replicate_succ, List.flatten_cons, List.getElem?_append]
          split
          · rename_i h; rw [Nat.mod_eq_of_lt h]
          · rename_i h
            rw [ih _ (by rw [Nat.succ_mul] at hi; omega)]
            congr 1
            rw [Nat.mod_eq_sub_mod (a := i) (by omega)]
      rw [key n i hi]
      have hm : i % z.length < z.length := Nat.mod_lt _ (by omega)
      rw [List.getElem?_eq_getElem hm]
      simp [getElem!_pos, hm]
    · rw [List.getElem?_eq_none (by simp; omega), List.getElem?_eq_none (by omega)]
      rfl

theorem VRs.flatten {ob : List (Nat × OB)} (z : List Value) : ∀ n, VRs P w0 w ob ν ((List.replicate n ((z.map D.v).map AV.d)).flatten) ((List.replicate n z).flatten)
  | 0 => by simp [VRs]
  | n + 1 => by
    rw [List.replicate_succ, List.replicate_succ, List.flatten_cons, List.flatten_cons]
    exact (VRs.vals z).append (VRs.flatten z n)

theorem Ones.flatten {z : List Value} (h : Ones z) : ∀ n, Ones ((List.replicate n z).flatten)
  | 0 => fun x hx => by simp at hx
  | n + 1 => by
    rw [List.replicate_succ, List.flatten_cons]
    exact h.append (Ones.flatten h n)

theorem buildSlice_sound (h : Sim P w0 σ ν a w) {t e : TypeId} {n : Nat} {parts : Array (Nat × Operand)} {s : Nat} (hs : s < σ.n) (hu : P.underlying t = some (.slice e)) {cs : List AV}
    (hf : fillA σ.ob (P.cellsOf e) (parts.toList.map fun (i, x) => (i, σ.ev x)) ((List.replicate n ((zeroD P e).map AV.d)).flatten) = some cs) (hn : n * P.cellsOf e ≤ 65536) (hz : zeroOk P e = true) (hk : P.cellsOf e ≠ 0) (hr : AV.refsL s cs = false) :
    ∃ v w' ν', (Instr.buildSlice t n (parts.map fun (i, x) => (i, a.eval x))).run P w = .ok v w' ∧ Sim P w0 (σ.new s (obOf cs) (.bs s 0 n (P.cellsOf e))) ν' (a.put (some s) v) w' := by
  obtain ⟨z, h1, h2, h3, h4⟩ := zero_run (w := w) hz
  have hzz : z.cells = (zeroV P e).toArray := by rw [← h2]
  let start : Array Value := if n * P.cellsOf e = 0 then #[] else (Array.range (n * P.cellsOf e)).map fun j => (zeroV P e).toArray[j % (zeroV P e).length]!
  have hstart : start.toList = (List.replicate n (zeroV P e)).flatten := by
    simp only [start]
    split
    · rename_i h0
      have : n = 0 := by
        rcases Nat.mul_eq_zero.1 h0 with h0 | h0
        · exact h0
        · exact absurd h0 hk
      subst this
      simp
    · rw [← h4]
      exact zeros_list _ _
  obtain ⟨ys, q1, q2, q3, q4⟩ := fill_sound (P := P) (w0 := w0) (w := w) (ν := ν) (P.cellsOf e) (parts.toList.map fun (i, x) => (i, σ.ev x)) (parts.toList.map fun (i, x) => (i, a.eval x)) (by simp [Function.comp_def])
    (fun i p q hp hq => by
      simp only [List.getElem?_map, Option.map_eq_some_iff] at hp hq
      obtain ⟨x, hx, rfl⟩ := hp
      obtain ⟨y, hy, rfl⟩ := hq
      rw [hx] at hy
      cases hy
      exact h.ev x.2) _ start cs (by rw [hstart]; exact VRs.flatten _ _) (by rw [hstart]; exact Ones.flatten h3 _) hf
  have hlen : ys.toList.length = n * P.cellsOf e := by
    rw [Array.length_toList, q4, ← Array.length_toList, hstart]
    simp [h4]
  obtain ⟨ν', h5⟩ := h.alloc hs (o := obOf cs) (obOf_ne cs) (by rw [obCells_obOf]; exact q2) q3 (by rw [obCells_obOf]; exact hr) e (.bs s 0 n (P.cellsOf e)) _ (.inr ⟨n, P.cellsOf e, rfl, rfl, hlen.symm⟩)
  refine ⟨.slice (some ⟨w.heap.size, 0, none⟩) n n, w.alloc (.cells ys.toList.toArray e), ν', ?_, h5⟩
  have e0 : ¬ (n * P.cellsOf e > 2 ^ 24) := by
    have : (2 : Nat) ^ 24 = 16777216 := by decide
    omega
  have hq : Instr.fill (fun i => some (i * P.cellsOf e, P.cellsOf e)) start (parts.map fun (i, x) => (i, a.eval x)).toList = some ys := by
    rw [Array.toList_map]; exact q1
  simp only [Instr.buildSlice, Sem.run_bind, run_underlying hu, Result.andThen_ok, run_size' rfl hk, if_neg e0]
  by_cases h0 : n * P.cellsOf e = 0
  · simp only [start, if_pos h0] at hq
    rw [if_pos h0, h0]
    have hq' : Instr.fill (fun i => some (i * P.cellsOf e, P.cellsOf e)) (Array.map (fun x => (#[] : Array Value)[x % (#[] : Array Value).size]!) (Array.range 0)) (Array.map (fun x => (x.fst, a.eval x.snd)) parts).toList = some ys := by
      have e0 : Array.map (fun x => (#[] : Array Value)[x % (#[] : Array Value).size]!) (Array.range 0) = #[] := by simp
      rw [e0]
      exact hq
    simp only [Sem.run_bind, Sem.run_pure, Result.andThen_ok, hq']
    rfl
  · simp only [start, if_neg h0] at hq
    rw [if_neg h0]
    simp only [Sem.run_bind, h1, Result.andThen_ok, Sem.run_pure, hzz]
    have hq' : Instr.fill (fun i => some (i * P.cellsOf e, P.cellsOf e)) (Array.map (fun x => (zeroV P e).toArray[x % (zeroV P e).toArray.size]!) (Array.range (n * P.cellsOf e))) (Array.map (fun x => (x.fst, a.eval x.snd)) parts).toList = some ys := hq
    simp only [hq']
    rfl
end

end Go.Proofs.Yteimddagjikcaaa
