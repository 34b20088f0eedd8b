/- What a call gives back is taken over; the operations that make or write objects, all together. -/
import Derived.Test.YtdinkfmkhdnbpaaFlow18
import Derived.WalkKit
import Derived.WalkSpells
namespace Go.Proofs.Ytdinkfmkhdnbpaa
open Go.RowKit
set_option linter.unusedVariables false
set_option linter.unusedSimpArgs false

section
variable {P : Program} {w0 : Env} {w w' : World} {σ : St} {ν : Loc} {a : Act}

theorem adoptL_sound (s : Nat) : ∀ {ds : List D} {as : List AV} {cs : List D} {ys : List Value} {bs : List Nat}, adoptL s ds = (as, some cs) → RDs w' true ds ys bs → bs.Nodup → (∀ b ∈ bs, ¬ w0.S b ∧ w0.D b) →
    ∃ loc : Option (Nat × Nat), (∀ p, loc = some p → p.1 ∈ bs) ∧ ∀ ob' ν', lookO ob' s = some (.ds cs) → ν' s = loc → (∀ b ∈ bs, (∀ p, loc = some p → p.1 ≠ b) → AvoidB ob' ν' b) → OR P w0 w' ob' ν' s (.ds cs) ∧ VRs P w0 w' ob' ν' as ys
  | [], as, cs, ys, bs, ha, _, _, _ => by simp [adoptL] at ha
  | .ls k n cs0 :: r, as, cs, ys, bs, ha, hr, hn, hlo => by
    simp only [adoptL, Prod.mk.injEq, Option.some.injEq] at ha
    obtain ⟨rfl, rfl⟩ := ha
    simp only [RDs] at hr
    obtain ⟨y, ys', b1, b2, rfl, rfl, h1, h2⟩ := hr
    have hlt2 := RDs.lt h2
    simp only [RD] at h1
    rcases h1 with ⟨a0, c0, rfl, h0, rfl, rfl, rfl⟩ | ⟨b, off, cap, xs, bs', rfl, rfl, g3, g4, g5, g6⟩
    · obtain ⟨rfl, rfl⟩ : a0 = none ∧ c0 = 0 := by simpa using h0
      refine ⟨none, by simp, fun ob' ν' hlk hs hav => ⟨.inl ⟨hs, by simp [obCells]⟩, ?_⟩⟩
      simp only [VRs]
      refine ⟨_, ys', rfl, ?_, VRs.of_rds (RDs.weak false h2) (fun b hb => ⟨hlt2 b hb, hav b (by simpa using hb) (by simp), (hlo b (by simpa using hb)).2⟩)⟩
      simp only [VR]
      exact fun _ => ⟨fun o' _ => by simp, .inl ⟨hs, by trivial, by trivial, by trivial⟩⟩
    · obtain ⟨q1, c, T, fz, q2, q3, q4⟩ := g5
      obtain ⟨rfl, q5⟩ := q4 rfl
      have hlt1 := RDs.lt g6
      have hne : ∀ b' ∈ bs', b ≠ b' := fun b' hb' e => by
        subst e
        have := (List.nodup_append.1 hn).1
        exact (List.nodup_cons.1 this).1 hb'
      have hne2 : ∀ b' ∈ b2, b ≠ b' := fun b' hb' e => by
        subst e
        exact (List.nodup_append.1 hn).2.2 b (by simp) b hb' rfl
      refine ⟨some (b, off), fun p hp => by cases hp; simp, fun ob' ν' hlk hs hav => ⟨?_, ?_⟩⟩
      · refine .inr ⟨b, off, c, T, xs, hs, hlo b (by simp), q2, q3, q1, ?_⟩
        exact VRs.of_rds (RDs.weak false g6) (fun b' hb' => ⟨hlt1 b' hb', hav b' (by simp [hb']) (fun p hp => by cases hp; exact hne b' hb'), (hlo b' (by simp [hb'])).2⟩)
      · simp only [VRs]
        refine ⟨_, ys', rfl, ?_, VRs.of_rds (RDs.weak false h2) (fun b' hb' => ⟨hlt2 b' hb', hav b' (by simp [hb']) (fun p hp => by cases hp; exact hne2 b' hb'), (hlo b' (by simp [hb'])).2⟩)⟩
        simp only [VR]
        exact fun _ => ⟨fun o' ho' => by rw [hlk] at ho'; cases ho'; simp only [obCells, List.length_map]; omega, .inr ⟨b, off, cap, ⟨b, off, none⟩, c, T, hs, rfl, g4, .inr (by simp), q2, by simpa using q5⟩⟩
  | .v x :: r, as, cs, ys, bs, ha, hr, hn, hlo => by
    simp only [adoptL, Prod.mk.injEq] at ha
    obtain ⟨rfl, ha⟩ := ha
    simp only [RDs] at hr
    obtain ⟨y, ys', b1, b2, rfl, rfl, h1, h2⟩ := hr
    obtain ⟨loc, h3, h4⟩ := adoptL_sound s (as := (adoptL s r).1) (cs := cs) (by rw [← ha]) h2 (List.nodup_append.1 hn).2.1 (fun b hb => hlo b (by simp [hb]))
    refine ⟨loc, fun p hp => by simp [h3 p hp], fun ob' ν' hlk hs hav => ?_⟩
    obtain ⟨h5, h6⟩ := h4 ob' ν' hlk hs (fun b hb => hav b (by simp [hb]))
    refine ⟨h5, ?_⟩
    simp only [VRs]
    refine ⟨y, ys', rfl, ?_, h6⟩
    simp only [VR]
    refine ⟨b1, RD.weak false h1, fun b hb => ⟨RD.lt h1 b hb, hav b (by simp [hb]) (fun p hp e => ?_), (hlo b (by simp [hb])).2⟩⟩
    exact (List.nodup_append.1 hn).2.2 b hb p.1 (h3 p hp) e.symm
  | .ag x :: r, as, cs, ys, bs, ha, hr, hn, hlo => by
    simp only [adoptL, Prod.mk.injEq] at ha
    obtain ⟨rfl, ha⟩ := ha
    simp only [RDs] at hr
    obtain ⟨y, ys', b1, b2, rfl, rfl, h1, h2⟩ := hr
    obtain ⟨loc, h3, h4⟩ := adoptL_sound s (as := (adoptL s r).1) (cs := cs) (by rw [← ha]) h2 (List.nodup_append.1 hn).2.1 (fun b hb => hlo b (by simp [hb]))
    refine ⟨loc, fun p hp => by simp [h3 p hp], fun ob' ν' hlk hs hav => ?_⟩
    obtain ⟨h5, h6⟩ := h4 ob' ν' hlk hs (fun b hb => hav b (by simp [hb]))
    refine ⟨h5, ?_⟩
    simp only [VRs]
    refine ⟨y, ys', rfl, ?_, h6⟩
    simp only [VR]
    refine ⟨b1, RD.weak false h1, fun b hb => ⟨RD.lt h1 b hb, hav b (by simp [hb]) (fun p hp e => ?_), (hlo b (by simp [hb])).2⟩⟩
    exact (List.nodup_append.1 hn).2.2 b hb p.1 (h3 p hp) e.symm
  | .tu x :: r, as, cs, ys, bs, ha, hr, hn, hlo => by
    simp only [adoptL, Prod.mk.injEq] at ha
    obtain ⟨rfl, ha⟩ := ha
    simp only [RDs] at hr
    obtain ⟨y, ys', b1, b2, rfl, rfl, h1, h2⟩ := hr
    obtain ⟨loc, h3, h4⟩ := adoptL_sound s (as := (adoptL s r).1) (cs := cs) (by rw [← ha]) h2 (List.nodup_append.1 hn).2.1 (fun b hb => hlo b (by simp [hb]))
    refine ⟨loc, fun p hp => by simp [h3 p hp], fun ob' ν' hlk hs hav => ?_⟩
    obtain ⟨h5, h6⟩ := h4 ob' ν' hlk hs (fun b hb => hav b (by simp [hb]))
    refine ⟨h5, ?_⟩
    simp only [VRs]
    refine ⟨y, ys', rfl, ?_, h6⟩
    simp only [VR]
    refine ⟨b1, RD.weak false h1, fun b hb => ⟨RD.lt h1 b hb, hav b (by simp [hb]) (fun p hp e => ?_), (hlo b (by simp [hb])).2⟩⟩
    exact (List.nodup_append.1 hn).2.2 b hb p.1 (h3 p hp) e.symm
  | .pt x :: r, as, cs, ys, bs, ha, hr, hn, hlo => by
    simp only [adoptL, Prod.mk.injEq] at ha
    obtain ⟨rfl, ha⟩ := ha
    simp only [RDs] at hr
    obtain ⟨y, ys', b1, b2, rfl, rfl, h1, h2⟩ := hr
    obtain ⟨loc, h3, h4⟩ := adoptL_sound s (as := (adoptL s r).1) (cs := cs) (by rw [← ha]) h2 (List.nodup_append.1 hn).2.1 (fun b hb => hlo b (by simp [hb]))
    refine ⟨loc, fun p hp => by simp [h3 p hp], fun ob' ν' hlk hs hav => ?_⟩
    obtain ⟨h5, h6⟩ := h4 ob' ν' hlk hs (fun b hb => hav b (by simp [hb]))
    refine ⟨h5, ?_⟩
    simp only [VRs]
    refine ⟨y, ys', rfl, ?_, h6⟩
    simp only [VR]
    refine ⟨b1, RD.weak false h1, fun b hb => ⟨RD.lt h1 b hb, hav b (by simp [hb]) (fun p hp e => ?_), (hlo b (by simp [hb])).2⟩⟩
    exact (List.nodup_append.1 hn).2.2 b hb p.1 (h3 p hp) e.symm

/-- Blocks that came up behind w are nobody's own. -/
theorem avoid_new (h : Sim P w0 σ ν a w) {b : Nat} (hb : w.heap.size ≤ b) : AvoidB σ.ob ν b := fun t o ht p hp e => by
  rcases h.objs t o ht with ⟨r1, _⟩ | ⟨b', base', c, T, xs, r1, r2, r3, _⟩
  · rw [r1] at hp; cases hp
  · rw [r1] at hp; cases hp
    have := (Array.getElem?_eq_some_iff.1 r3).1
    simp only at e
    omega

theorem Sim.adopt_one (h : Sim P w0 σ ν a w) (hb : Below w.heap.size w w') {s : Nat} (hs : s < σ.n) {ds : List D} {as : List AV} {cs : List D} {ys : List Value} {bs : List Nat} (ha : adoptL s ds = (as, some cs)) (hr : RDs w' true ds ys bs) (hn : bs.Nodup) (hlo : ∀ b ∈ bs, w.heap.size ≤ b)
    {x : AV} {v : Value} (hx : ∀ ob' ν', VRs P w0 w' ob' ν' as ys → VR P w0 w' ob' ν' x v) : ∃ ν', Sim P w0 (σ.new s (.ds cs) x) ν' (a.put (some s) v) w' := by
  obtain ⟨loc, h1, h2⟩ := adoptL_sound (P := P) (w0 := w0) s ha hr hn (fun b hb => h.newB (hlo b hb))
  refine h.new hb hs (by simp) (loc := loc) (fun p hp => hlo _ (h1 p hp)) (fun ob' ν' hl hf hνs hlook => ?_)
  have hav : ∀ b ∈ bs, (∀ p, loc = some p → p.1 ≠ b) → AvoidB ob' ν' b := fun b hbb hp t o ht p hpp => by
    by_cases e : t = s
    · subst e
      rw [hνs] at hpp
      exact hp p hpp
    · obtain ⟨f1, f2, _⟩ := hf t e (by rw [ht]; rfl)
      rw [f2] at hpp
      obtain ⟨o2, ho2⟩ := Option.isSome_iff_exists.1 f1
      exact avoid_new h (hlo b hbb) t o2 ho2 p hpp
  obtain ⟨h3, h4⟩ := h2 ob' ν' hlook hνs hav
  exact ⟨h3, hx ob' ν' h4⟩

/-- What comes back from a call is taken over. -/
theorem Sim.adopt (h : Sim P w0 σ ν a w) (hb : Below w.heap.size w w') {dst : Option Nat} (hd : ∀ t, dst = some t → t < σ.n) {r : D} {v : Value} {bs : List Nat} (hr : RD w' true r v bs) (hn : bs.Nodup) (hlo : ∀ b ∈ bs, w.heap.size ≤ b) :
    ∃ ν', Sim P w0 (σ.adopt dst r) ν' (a.put dst v) w' := by
  have hplain : ∀ s, s < σ.n → ∃ ν', Sim P w0 (σ.put s (.d r)) ν' (a.put (some s) v) w' := fun s hs => by
    refine ⟨ν, (h.grown hb).put hs ?_⟩
    simp only [VR]
    exact ⟨bs, RD.weak false hr, fun b hbb => ⟨RD.lt hr b hbb, avoid_new h (hlo b hbb), (h.newB (hlo b hbb)).2⟩⟩
  cases dst with
  | none => exact ⟨ν, h.grown hb⟩
  | some s =>
    have hs := hd s rfl
    cases r with
    | v x => exact hplain s hs
    | pt x => exact hplain s hs
    | ls k n cs =>
      have hr' : RDs w' true [.ls k n cs] [v] bs := by
        simp only [RDs]
        exact ⟨v, [], bs, [], rfl, by simp, hr, rfl, rfl⟩
      exact h.adopt_one hb hs (as := [.bs s 0 n k]) (cs := cs) (by simp [adoptL]) hr' hn hlo (fun ob' ν' hv => by
        simp only [VRs] at hv
        obtain ⟨y, ys', e1, e2, _⟩ := hv
        simp only [List.cons.injEq] at e1
        rw [e1.1]
        exact e2)
    | ag ds =>
      simp only [St.adopt]
      split
      · rename_i as cs hcs
        simp only [RD] at hr
        obtain ⟨xs, rfl, h1, h2⟩ := hr
        exact h.adopt_one hb hs hcs h2 hn hlo (fun ob' ν' hv => by simp only [VR]; exact ⟨xs, rfl, h1, hv⟩)
      · exact hplain s hs
    | tu ds =>
      simp only [St.adopt]
      split
      · rename_i as cs hcs
        simp only [RD] at hr
        obtain ⟨xs, rfl, h2⟩ := hr
        exact h.adopt_one hb hs hcs h2 hn hlo (fun ob' ν' hv => by simp only [VR]; exact ⟨xs, rfl, hv⟩)
      · exact hplain s hs

theorem fill_dense (ob : List (Nat × OB)) (k : Nat) : ∀ (ps : List (Nat × AV)) (i : Nat) (pre rest cs : List AV), denseA ob k i ps = some cs → pre.length = i * k → cs.length ≤ rest.length → fillA ob k ps (pre ++ rest) = some (pre ++ cs ++ rest.drop cs.length)
  | [], i, pre, rest, cs, h, _, _ => by
    simp only [denseA, Option.some.injEq] at h
    subst h
    simp [fillA]
  | (j, x) :: r, i, pre, rest, cs, h, hp, hl => by
    simp only [denseA] at h
    split at h
    · rename_i e
      subst e
      split at h
      · rename_i ys hys
        split at h
        · rename_i hk
          simp only [Option.map_eq_some_iff] at h
          obtain ⟨cs', h1, rfl⟩ := h
          simp only [List.length_append] at hl
          simp only [fillA, hys]
          rw [if_pos ⟨hk, by simp only [List.length_append]; omega⟩]
          have e1 : (pre ++ rest).take (j * k) = pre := by rw [← hp]; simp
          have e2 : (pre ++ rest).drop (j * k + k) = rest.drop k := by
            rw [← hp, List.drop_append, List.drop_eq_nil_of_le (by omega), List.nil_append]
            congr 1
            omega
          rw [e1, e2, fill_dense ob k r (j + 1) (pre ++ ys) (rest.drop k) cs' h1 (by simp only [List.length_append, Nat.add_mul, Nat.one_mul]; omega) (by simp only [List.length_drop]; omega)]
          simp only [List.append_assoc, List.drop_drop, List.length_append, hk]
        · cases h
      · cases h
    · cases h

theorem build_fill {ob : List (Nat × OB)} {k n : Nat} {z : List D} {ps : List (Nat × AV)} {cs : List AV} (hz : z.length = k) (h : buildA ob k n z ps = some cs) : fillA ob k ps ((List.replicate n (z.map AV.d)).flatten) = some cs := by
  have hlen : ((List.replicate n (z.map AV.d)).flatten).length = n * k := by
    simp [hz]
  unfold buildA at h
  split at h
  · rename_i cs' h1
    split at h
    · rename_i h2
      cases h
      have := fill_dense ob k ps 0 [] ((List.replicate n (z.map AV.d)).flatten) cs h1 (by simp) (by omega)
      simp only [List.nil_append] at this
      rw [this, List.drop_eq_nil_of_le (by omega), List.append_nil]
    · exact h
  · exact h

/-- It makes an object, and turns nothing that was there. -/
def growKind : Op → Bool
  | .alloc _ | .box _ _ | .buildSlice _ _ _ | .makeSlice _ _ _ => true
  | _ => false

/-- AN OPERATION THAT MAKES OR WRITES AN OBJECT DOES WHAT THE VIEW SAYS. -/
theorem act_sound (h : Sim P w0 σ ν a w) {o : Oper} {p : Prop} {σ' : St} (ho : actOp P σ o.dst o.op = some (p, σ')) (hp : p) (hd : ∀ t, o.dst = some t → t < σ.n) :
    ∃ r w' ν', (execOp a.eval o).run P w = .ok r w' ∧ ((∃ v, r = .value v ∧ Sim P w0 σ' ν' (a.put o.dst v) w') ∨ (r = .skip ∧ Sim P w0 σ' ν' (a.put o.dst undef) w')) ∧ (growKind o.op = true → Below w.heap.size w w') := by
  have lift : ∀ {s : Sem Value} {v : Value} {w1 : World}, s.run P w = .ok v w1 → (do pure (Go.Next.value (← s)) : Sem Go.Next).run P w = .ok (.value v) w1 := fun hh => by simp [hh]
  generalize hdst : o.dst = dst at ho hd
  generalize hop : o.op = op at ho
  cases op with
  | alloc t =>
    simp only [actOp] at ho
    split at ho
    · rename_i s
      obtain ⟨rfl, rfl⟩ := Prod.mk.inj (Option.some.inj ho)
      obtain ⟨v, w', ν', h1, h2, h3⟩ := alloc_sound h (hd s rfl) hp
      exact ⟨_, w', ν', by simp only [execOp, hop]; exact lift h1, .inl ⟨v, rfl, h2⟩, fun _ => h3⟩
    · cases ho
  | box t x =>
    simp only [actOp] at ho
    split at ho
    · rename_i s cs hcs
      obtain ⟨rfl, rfl⟩ := Prod.mk.inj (Option.some.inj ho)
      obtain ⟨v, w', ν', h1, h2, h3⟩ := box_sound h (t := t) (hd s rfl) hcs hp
      exact ⟨_, w', ν', by simp only [execOp, hop]; exact lift h1, .inl ⟨v, rfl, h2⟩, fun _ => h3⟩
    · cases ho
  | buildSlice t n parts =>
    simp only [actOp] at ho
    split at ho
    · rename_i s e hu
      split at ho
      · rename_i cs hcs
        obtain ⟨rfl, rfl⟩ := Prod.mk.inj (Option.some.inj ho)
        obtain ⟨v, w', ν', h1, h2, h3⟩ := buildSlice_sound h (hd s rfl) hu (build_fill (by
          have := hp.2.1
          simp only [zeroOk, Bool.and_eq_true, beq_iff_eq] at this
          simpa [zeroD] using this.2) hcs) hp.1 hp.2.1 hp.2.2.1 hp.2.2.2
        exact ⟨_, w', ν', by simp only [execOp, hop]; exact lift h1, .inl ⟨v, rfl, h2⟩, fun _ => h3⟩
      · cases ho
    · cases ho
  | makeSlice t l c =>
    simp only [actOp] at ho
    split at ho
    · rename_i s e m m' hu hl hc
      obtain ⟨rfl, rfl⟩ := Prod.mk.inj (Option.some.inj ho)
      obtain ⟨q1, q2, q3, q4, q5, q6⟩ := hp
      subst q2
      obtain ⟨v, w', ν', h1, h2, h3⟩ := makeSlice_sound h (hd s rfl) hu q1 q3 q4 q5 q6
      have e1 := h.ev l
      have e2 := h.ev c
      rw [hl] at e1
      rw [hc] at e2
      exact ⟨_, w', ν', by simp only [execOp, hop, e1.val, e2.val]; exact lift h1, .inl ⟨v, rfl, h2⟩, fun _ => h3⟩
    · cases ho
  | store t x y =>
    simp only [actOp] at ho
    split at ho
    · rename_i s off hsx
      split at ho
      · rename_i ob hob
        split at ho
        · rename_i p' o' hst
          obtain ⟨rfl, rfl⟩ := Prod.mk.inj (Option.some.inj ho)
          obtain ⟨w', h1, h2⟩ := store_sound h hsx hob hst hp
          exact ⟨.skip, w', ν, by simp [execOp, hop, h1], .inr ⟨rfl, h2⟩, fun e => by first | (rw [hop] at e; cases e) | cases e⟩
        · cases ho
      · cases ho
    · cases ho
  | call c =>
    obtain ⟨callee, args, ts⟩ := c
    cases callee with
    | builtin b =>
      cases b with
      | append =>
        simp only [actOp] at ho
        split at ho
        · rename_i s x y t t' hargs hts
          split at ho
          · rename_i e b off n k q m k' new hu hsx hsy
            split at ho
            · rename_i ob q' n' k'' old hob hold
              obtain ⟨rfl, rfl⟩ := Prod.mk.inj (Option.some.inj ho)
              obtain ⟨rfl, rfl, p3, p4, p5, p6, p7, p8, p9, p10⟩ := hp
              obtain ⟨v, w', ν', h1, h2⟩ := append_sound h (ty := o.type) (hd s rfl) hu hsx hsy hob hold p3 p4 p5 p6 p7 p8 p9 p10
              refine ⟨_, w', ν', ?_, .inl ⟨v, rfl, h2⟩, fun e => by first | (rw [hop] at e; cases e) | cases e⟩
              have ha : args = #[x, y] := by apply Array.ext'; simpa using hargs
              have ht : ts = #[t, t] := by apply Array.ext'; simpa using hts
              subst ha ht
              rw [exec_builtin hop]
              simp only [builtin]
              exact lift (by simpa using h1)
            · cases ho
          · cases ho
        · cases ho
      | _ => simp [actOp] at ho
    | _ => simp [actOp] at ho
  | _ => simp [actOp] at ho
end

end Go.Proofs.Ytdinkfmkhdnbpaa
