/- What a pure operation yields is what the abstract view says: slices of slices and of strings. -/
import Derived.Test.YtdinkfmkhdnbpaaFlow10
import Derived.WalkKit
import Derived.WalkSpells
namespace Go.Proofs.Ytdinkfmkhdnbpaa
open Go.RowKit
set_option linter.unusedVariables false
set_option linter.unusedSimpArgs false

section
variable {P : Program} {w0 : Env} {w : World} {σ : St} {ν : Loc} {a : Act}

/-- The bounds of a slice expression, as numbers. -/
theorem run_bounds {isSlice : Bool} {len cap : Nat} {low high : Option Value} {l h : Nat}
    (hh : (high = none ∧ h = len) ∨ ∃ k i, high = some (.int k i) ∧ 0 ≤ i ∧ i ≤ cap ∧ h = i.toNat) (hl : (low = none ∧ l = 0) ∨ ∃ k i, low = some (.int k i) ∧ 0 ≤ i ∧ i ≤ h ∧ l = i.toNat) :
    (Instr.sliceBounds isSlice len cap low high none).run P w = .ok (l, h, cap) w := by
  rcases hh with ⟨rfl, rfl⟩ | ⟨k, i, rfl, h1, h2, rfl⟩ <;> rcases hl with ⟨rfl, rfl⟩ | ⟨k', i', rfl, h3, h4, rfl⟩
  · simp [Instr.sliceBounds]
  · simp [Instr.sliceBounds, Instr.sliceBound, asIntOf, h3, h4]
  · simp [Instr.sliceBounds, Instr.sliceBound, asIntOf, h1, h2]
  · simp [Instr.sliceBounds, Instr.sliceBound, asIntOf, h1, h2, h3]
    intro hlt
    omega

theorem run_sliceAt {t e : TypeId} (hu : P.underlying t = some (.slice e)) {ad : Option Addr} {n cap k l h : Nat} (hk : P.cellsOf e = k) (hk0 : k ≠ 0) {low high : Option Value}
    (hh : (high = none ∧ h = n) ∨ ∃ k i, high = some (.int k i) ∧ 0 ≤ i ∧ i ≤ cap ∧ h = i.toNat) (hl : (low = none ∧ l = 0) ∨ ∃ k i, low = some (.int k i) ∧ 0 ≤ i ∧ i ≤ h ∧ l = i.toNat) :
    (Instr.sliceAt t (.slice ad n cap) low high none).run P w = .ok (.slice (if cap = l then ad else ad.map (·.add (l * k))) (h - l) (cap - l)) w := by
  simp only [Instr.sliceAt, Sem.run_bind, run_underlying hu, Result.andThen_ok, Instr.slice, run_bounds hh hl, run_size' hk hk0, Sem.run_pure]

theorem run_sliceStr {t : TypeId} (hu : P.underlying t = some .string) {s : ByteArray} {l h : Nat} {low high : Option Value}
    (hh : (high = none ∧ h = s.size) ∨ ∃ k i, high = some (.int k i) ∧ 0 ≤ i ∧ i ≤ s.size ∧ h = i.toNat) (hl : (low = none ∧ l = 0) ∨ ∃ k i, low = some (.int k i) ∧ 0 ≤ i ∧ i ≤ h ∧ l = i.toNat) :
    (Instr.sliceAt t (.string s) low high none).run P w = .ok (.string (s.extract l h)) w := by
  simp only [Instr.sliceAt, Sem.run_bind, run_underlying hu, Result.andThen_ok, Instr.slice, run_bounds hh hl, Sem.run_pure, Option.isSome_none, Bool.false_eq_true, if_false]

/-- A part of a slice over data. -/
theorem RD.part {k n l h : Nat} {cs : List D} {y : Value} {bs : List Nat} (hr : RD w false (.ls k n cs) y bs) (hl : l ≤ h) (hh : h ≤ n) :
    ∃ ad cap, y = .slice ad n cap ∧ n ≤ cap ∧ ∃ bs', RD w false (.ls k (h - l) ((cs.take (h * k)).drop (l * k))) (.slice (if cap = l then ad else ad.map (·.add (l * k))) (h - l) (cap - l)) bs' ∧ ∀ b ∈ bs', b ∈ bs := by
  simp only [RD] at hr
  rcases hr with ⟨a, c, rfl, _, rfl, rfl, rfl⟩ | ⟨b, off, cap, xs, bs1, rfl, rfl, h3, h4, h5, h6⟩
  · refine ⟨a, c, rfl, Nat.zero_le _, [], ?_, by simp⟩
    have e1 : l = 0 := by omega
    have e2 : h = 0 := by omega
    subst e1 e2
    simp only [RD]
    exact .inl ⟨_, _, rfl, (by first | trivial | rfl | simp), (by first | trivial | rfl | simp), (by first | trivial | rfl | simp), (by first | trivial | rfl | simp)⟩
  · refine ⟨_, cap, rfl, h4, ?_⟩
    obtain ⟨bs2, g1, g2⟩ := h6.take (h * k)
    obtain ⟨bs3, g3, g4⟩ := g1.drop (l * k)
    obtain ⟨q1, c, T, fz, q2, q3, _⟩ := h5
    have hlen := h6.length
    have hb : l * k ≤ h * k := Nat.mul_le_mul_right k hl
    have hb2 : h * k ≤ n * k := Nat.mul_le_mul_right k hh
    by_cases hc : cap = l
    · rw [if_pos hc]
      have e1 : h = l := by omega
      have e2 : n = l := by omega
      subst e1
      refine ⟨[b], ?_, by simp⟩
      simp only [RD]
      refine .inr ⟨b, off, cap - h, [], [], by simp, by simp, by simp, by omega, ⟨(fun x hx => by cases hx), c, T, fz, q2, (fun i hi => by simp at hi), (fun e => by cases e)⟩, ?_⟩
      have : (cs.take (h * k)).drop (h * k) = [] := List.drop_eq_nil_of_le (by simp; omega)
      rw [this]
      simp [RDs]
    · rw [if_neg hc]
      refine ⟨b :: bs3, ?_, fun b' hb' => ?_⟩
      · simp only [RD]
        refine .inr ⟨b, off + l * k, cap - l, (xs.take (h * k)).drop (l * k), bs3, by simp [addr_add], rfl, ?_, by omega, ⟨(q1.take _).drop _, c, T, fz, q2, fun i hi => ?_, fun e => by cases e⟩, g3⟩
        · simp only [List.length_drop, List.length_take]
          rw [Nat.sub_mul]
          omega
        · simp only [List.length_drop, List.length_take] at hi
          rw [Nat.add_assoc, q3 _ (by omega), List.getElem?_drop, List.getElem?_take, if_pos (by omega)]
      · rcases List.mem_cons.1 hb' with rfl | hb'
        · simp
        · simp [g2 b' (g4 b' hb')]

theorem VR.part {ob : List (Nat × OB)} {s off n k l h : Nat} {y : Value} (hr : VR P w0 w ob ν (.bs s off n k) y) (hs : (lookO ob s).isSome = true) (hl : l ≤ h) (hh : h ≤ n) :
    ∃ ad cap, y = .slice ad n cap ∧ n ≤ cap ∧ VR P w0 w ob ν (.bs s (off + l * k) (h - l) k) (.slice (if cap = l then ad else ad.map (·.add (l * k))) (h - l) (cap - l)) := by
  simp only [VR] at hr
  obtain ⟨hle, hr⟩ := hr hs
  have hle2 : ∀ o, lookO ob s = some o → off + l * k + (h - l) * k ≤ (obCells o).length := fun o ho => by
    have h1 := hle o ho
    have h2 : (h - l) * k + l * k ≤ n * k := by rw [← Nat.add_mul]; exact Nat.mul_le_mul_right k (by omega)
    omega
  rcases hr with ⟨h1, rfl, rfl, rfl⟩ | ⟨b, base, cap, ad, c, T, h1, rfl, h3, h4, h5, h6⟩
  · refine ⟨none, 0, rfl, Nat.le_refl _, ?_⟩
    have e1 : l = 0 := by omega
    have e2 : h = 0 := by omega
    subst e1 e2
    simp only [VR]
    exact fun _ => ⟨hle2, .inl ⟨h1, by simp, by simp, by simp⟩⟩
  · refine ⟨_, cap, rfl, h3, ?_⟩
    simp only [VR]
    intro _
    refine ⟨hle2, .inr ⟨b, base, cap - l, (if cap = l then ad else ad.add (l * k)), c, T, h1, by split <;> simp, by omega, ?_, h5, ?_⟩⟩
    · by_cases hc : cap = l
      · refine .inl ⟨by omega, ?_⟩
        rw [if_pos hc]
        rcases h4 with ⟨_, h4⟩ | rfl
        · exact h4
        · exact ⟨_, by omega, rfl⟩
      · rcases h4 with ⟨h4, _⟩ | h4
        · omega
        · subst h4
          rw [if_neg hc]
          exact .inr (by rw [addr_add, Nat.add_assoc])
    · rw [Nat.sub_mul]
      have : l * k ≤ cap * k := Nat.mul_le_mul_right k (by omega)
      omega

theorem slice_sound (h : Sim P w0 σ ν a w) {t : TypeId} {x : Operand} {lo hi mx : Option Operand} {p : Prop} {r : AV} (ho : pureOp P σ (.slice t x lo hi mx) = some (p, r)) (hp : p) :
    ∃ v, RT P w (Instr.sliceAt t (a.eval x) (lo.map a.eval) (hi.map a.eval) (mx.map a.eval)) v ∧ VR P w0 w σ.ob ν r v := by
  have hx := h.ev x
  cases mx with
  | some m => simp [pureOp] at ho
  | none =>
  have hop : ∀ (o : Option Operand) (k : IntKind) (i : Int), o.map σ.ev = some (.d (.v (.int k i))) → o.map a.eval = some (.int k i) := fun o k i he => by
    obtain ⟨o', rfl, e⟩ := Option.map_eq_some_iff.1 he
    have := h.ev o'
    rw [e] at this
    simp [this.val]
  simp only [pureOp] at ho
  split at ho
  · rename_i e s off n k hu hsx
    rw [hsx] at hx
    split at ho
    · rename_i hlo hhi
      obtain ⟨rfl, rfl⟩ := Prod.mk.inj (Option.some.inj ho)
      obtain ⟨hk, hk0, hs⟩ := hp
      obtain ⟨ad, cap, e1, e2, e3⟩ := hx.part hs (Nat.zero_le n) (Nat.le_refl n)
      have z1 : lo = none := by simpa using hlo
      have z2 : hi = none := by simpa using hhi
      subst z1 z2
      refine ⟨_, by rw [e1]; exact fun _ _ => run_sliceAt hu hk hk0 (.inl ⟨rfl, rfl⟩) (.inl ⟨rfl, rfl⟩), by simpa using e3⟩
    · rename_i kk i hlo hhi
      obtain ⟨rfl, rfl⟩ := Prod.mk.inj (Option.some.inj ho)
      obtain ⟨q1, q2, hk, hk0, hs⟩ := hp
      obtain ⟨ad, cap, e1, e2, e3⟩ := hx.part hs (l := i.toNat) (h := n) (by omega) (Nat.le_refl n)
      have z2 : hi = none := by simpa using hhi
      subst z2
      exact ⟨_, by rw [e1, hop _ _ _ hlo]; exact fun _ _ => run_sliceAt hu hk hk0 (.inl ⟨rfl, rfl⟩) (.inr ⟨_, _, rfl, q1, q2, rfl⟩), e3⟩
    · rename_i kk i hlo hhi
      obtain ⟨rfl, rfl⟩ := Prod.mk.inj (Option.some.inj ho)
      obtain ⟨q1, q2, hk, hk0, hs⟩ := hp
      obtain ⟨ad, cap, e1, e2, e3⟩ := hx.part hs (l := 0) (h := i.toNat) (by omega) (by omega)
      have z2 : lo = none := by simpa using hlo
      subst z2
      exact ⟨_, by rw [e1, hop _ _ _ hhi]; exact fun _ _ => run_sliceAt hu hk hk0 (.inr ⟨_, _, rfl, q1, by omega, rfl⟩) (.inl ⟨rfl, rfl⟩), by simpa using e3⟩
    · rename_i kk i kk' j hlo hhi
      obtain ⟨rfl, rfl⟩ := Prod.mk.inj (Option.some.inj ho)
      obtain ⟨q1, q2, q3, hk, hk0, hs⟩ := hp
      obtain ⟨ad, cap, e1, e2, e3⟩ := hx.part hs (l := i.toNat) (h := j.toNat) (by omega) (by omega)
      exact ⟨_, by rw [e1, hop _ _ _ hhi, hop _ _ _ hlo]; exact fun _ _ => run_sliceAt hu hk hk0 (.inr ⟨_, _, rfl, by omega, by omega, rfl⟩) (.inr ⟨_, _, rfl, q1, by omega, rfl⟩), e3⟩
    · cases ho
  · rename_i e k n cs hu hsx
    rw [hsx] at hx
    simp only [VR] at hx
    obtain ⟨bs, hx, hf⟩ := hx
    have hlen : cs.length = n * k := by
      simp only [RD] at hx
      rcases hx with ⟨_, _, _, _, rfl, rfl, _⟩ | ⟨b, off, cap, xs, bs', _, _, h3, _⟩
      · simp
      · exact h3.symm
    split at ho
    · rename_i hlo hhi
      obtain ⟨rfl, rfl⟩ := Prod.mk.inj (Option.some.inj ho)
      obtain ⟨hk, hk0⟩ := hp
      obtain ⟨ad, cap, e1, e2, bs', e3, e4⟩ := hx.part (Nat.zero_le n) (Nat.le_refl n)
      have z1 : lo = none := by simpa using hlo
      have z2 : hi = none := by simpa using hhi
      subst z1 z2
      refine ⟨_, by rw [e1]; exact fun _ _ => run_sliceAt hu hk hk0 (.inl ⟨rfl, rfl⟩) (.inl ⟨rfl, rfl⟩), ?_⟩
      simp only [VR]
      refine ⟨bs', ?_, fun b hb => hf b (e4 b hb)⟩
      rw [List.take_of_length_le (by omega)] at e3
      simpa using e3
    · rename_i kk i hlo hhi
      obtain ⟨rfl, rfl⟩ := Prod.mk.inj (Option.some.inj ho)
      obtain ⟨q1, q2, hk, hk0⟩ := hp
      obtain ⟨ad, cap, e1, e2, bs', e3, e4⟩ := hx.part (l := i.toNat) (h := n) (by omega) (Nat.le_refl n)
      have z2 : hi = none := by simpa using hhi
      subst z2
      refine ⟨_, by rw [e1, hop _ _ _ hlo]; exact fun _ _ => run_sliceAt hu hk hk0 (.inl ⟨rfl, rfl⟩) (.inr ⟨_, _, rfl, q1, q2, rfl⟩), ?_⟩
      simp only [VR]
      refine ⟨bs', ?_, fun b hb => hf b (e4 b hb)⟩
      rw [List.take_of_length_le (by omega)] at e3
      exact e3
    · rename_i kk i hlo hhi
      obtain ⟨rfl, rfl⟩ := Prod.mk.inj (Option.some.inj ho)
      obtain ⟨q1, q2, hk, hk0⟩ := hp
      obtain ⟨ad, cap, e1, e2, bs', e3, e4⟩ := hx.part (l := 0) (h := i.toNat) (by omega) (by omega)
      have z2 : lo = none := by simpa using hlo
      subst z2
      refine ⟨_, by rw [e1, hop _ _ _ hhi]; exact fun _ _ => run_sliceAt hu hk hk0 (.inr ⟨_, _, rfl, q1, by omega, rfl⟩) (.inl ⟨rfl, rfl⟩), ?_⟩
      simp only [VR]
      exact ⟨bs', by simpa using e3, fun b hb => hf b (e4 b hb)⟩
    · rename_i kk i kk' j hlo hhi
      obtain ⟨rfl, rfl⟩ := Prod.mk.inj (Option.some.inj ho)
      obtain ⟨q1, q2, q3, hk, hk0⟩ := hp
      obtain ⟨ad, cap, e1, e2, bs', e3, e4⟩ := hx.part (l := i.toNat) (h := j.toNat) (by omega) (by omega)
      refine ⟨_, by rw [e1, hop _ _ _ hhi, hop _ _ _ hlo]; exact fun _ _ => run_sliceAt hu hk hk0 (.inr ⟨_, _, rfl, by omega, by omega, rfl⟩) (.inr ⟨_, _, rfl, q1, by omega, rfl⟩), ?_⟩
      simp only [VR]
      exact ⟨bs', e3, fun b hb => hf b (e4 b hb)⟩
    · cases ho
  · rename_i s hu hsx
    rw [hsx] at hx
    rw [hx.val]
    split at ho
    · rename_i kk i hlo hhi
      obtain ⟨rfl, rfl⟩ := Prod.mk.inj (Option.some.inj ho)
      have z2 : hi = none := by simpa using hhi
      subst z2
      exact ⟨_, by rw [hop _ _ _ hlo]; exact fun _ _ => run_sliceStr hu (.inl ⟨rfl, rfl⟩) (.inr ⟨_, _, rfl, hp.1, hp.2, rfl⟩), VR.mk _⟩
    · rename_i kk i hlo hhi
      obtain ⟨rfl, rfl⟩ := Prod.mk.inj (Option.some.inj ho)
      have z2 : lo = none := by simpa using hlo
      subst z2
      exact ⟨_, by rw [hop _ _ _ hhi]; exact fun _ _ => run_sliceStr hu (.inr ⟨_, _, rfl, hp.1, hp.2, rfl⟩) (.inl ⟨rfl, rfl⟩), VR.mk _⟩
    · rename_i kk i kk' j hlo hhi
      obtain ⟨rfl, rfl⟩ := Prod.mk.inj (Option.some.inj ho)
      obtain ⟨q1, q2, q3⟩ := hp
      exact ⟨_, by rw [hop _ _ _ hlo, hop _ _ _ hhi]; exact fun _ _ => run_sliceStr hu (.inr ⟨_, _, rfl, by omega, by omega, rfl⟩) (.inr ⟨_, _, rfl, q1, by omega, rfl⟩), VR.mk _⟩
    · cases ho
  · cases ho
end

end Go.Proofs.Ytdinkfmkhdnbpaa
