/- Values that are built of parts. -/
import Derived.Test.YtdinkfmkhdnbpaaFlow11
import Derived.WalkKit
import Derived.WalkSpells
import Derived.Laws.Tables
namespace Go.Proofs.Ytdinkfmkhdnbpaa
open Go.RowKit
set_option linter.unusedVariables false
set_option linter.unusedSimpArgs false

section
variable {P : Program} {w0 : Env} {w w' : World} {σ : St} {ν : Loc} {a : Act}

theorem VRs.vals {ob : List (Nat × OB)} : ∀ (vs : List Value), VRs P w0 w ob ν ((vs.map D.v).map AV.d) vs
  | [] => by simp [VRs]
  | v :: vs => by
    simp only [List.map_cons, VRs]
    exact ⟨v, vs, rfl, VR.mk v, VRs.vals vs⟩

theorem zero_run {t : TypeId} (hz : zeroOk P t = true) : ∃ z, (zeroValue t).run P w = .ok z w ∧ z.cells.toList = zeroV P t ∧ (∀ x ∈ zeroV P t, x.oneCell' = true) ∧ (zeroV P t).length = P.cellsOf t := by
  simp only [zeroOk, Bool.and_eq_true, beq_iff_eq, List.all_eq_true] at hz
  obtain ⟨⟨h1, h2⟩, h3⟩ := hz
  cases hi : P.info? t with
  | none => simp [hi] at h1
  | some i =>
    cases hzi : i.zero with
    | none => simp [hi, hzi] at h1
    | some z =>
      refine ⟨z, by simp [zeroValue, typeInfo, hi, hzi], by simp [zeroV, hi, hzi], h2, h3⟩

/-- A value that the view splits into cells has these cells. -/
theorem split_sound {ob : List (Nat × OB)} {x : AV} {cs : List AV} (hs : x.split ob = some cs) {v : Value} (hv : VR P w0 w ob ν x v) : ∃ xs, v.cells = xs.toArray ∧ Ones xs ∧ VRs P w0 w ob ν cs xs := by
  have hone : ∀ y : AV, y.one ob = true → ∀ u, VR P w0 w ob ν y u → u.oneCell' = true := by
    intro y hy u hu
    cases y with
    | d y =>
      cases y with
      | v z => rw [hu.val]; simpa [AV.one] using hy
      | ls k n cs =>
        simp only [VR, RD] at hu
        obtain ⟨bs, hu, _⟩ := hu
        rcases hu with ⟨_, _, rfl, _⟩ | ⟨b, off, cap, xs, bs', rfl, _⟩ <;> rfl
      | pt cs =>
        simp only [VR, RD] at hu
        obtain ⟨bs, ⟨b, off, xs, bs', rfl, _⟩, _⟩ := hu
        rfl
      | ag cs => simp [AV.one] at hy
      | tu cs => simp [AV.one] at hy
    | bp s o =>
      simp only [VR] at hu
      obtain ⟨b, base, _, rfl⟩ := hu (by simpa [AV.one] using hy)
      rfl
    | bs s off n k =>
      simp only [VR] at hu
      rcases (hu (by simpa [AV.one] using hy)).2 with ⟨_, rfl, _⟩ | ⟨b, base, cap, ad, c, T, _, rfl, _⟩ <;> rfl
    | fn dom k =>
      simp only [VR, RF] at hu
      obtain ⟨g, first, cap, rfl, _⟩ := hu
      rfl
    | fc g l1 l2 =>
      simp only [VR] at hu
      obtain ⟨xs, ys, rfl, _⟩ := hu
      rfl
    | _ => simp [AV.one] at hy
  have hcells : ∀ u : Value, u.oneCell' = true → u.cells = #[u] := by
    intro u hu
    cases u <;> first | rfl | (simp [Value.oneCell'] at hu)
  have hsingle : ∀ y : AV, (if y.one ob then some [y] else none) = some cs → VR P w0 w ob ν y v → ∃ xs, v.cells = xs.toArray ∧ Ones xs ∧ VRs P w0 w ob ν cs xs := by
    intro y hy hv
    split at hy
    · rename_i h1
      cases hy
      have h2 := hone y h1 v hv
      refine ⟨[v], hcells v h2, fun x hx => by simp at hx; subst hx; exact h2, ?_⟩
      simp only [VRs]
      exact ⟨v, [], rfl, hv, rfl⟩
    · cases hy
  unfold AV.split at hs
  split at hs
  · rename_i ds
    cases hs
    simp only [VR, RD] at hv
    obtain ⟨bs, ⟨xs, rfl, h1, h2⟩, h3⟩ := hv
    exact ⟨xs, rfl, h1, VRs.of_rds h2 h3⟩
  · cases hs
    simp only [VR] at hv
    obtain ⟨xs, rfl, h1, h2⟩ := hv
    exact ⟨xs, rfl, h1, h2⟩
  · exact hsingle _ hs hv

theorem foldl_fill (off : Nat) : ∀ (l : List Value) (j : Nat) (cells : Array Value), off + j + l.length ≤ cells.size →
    ((l.zipIdx j).foldl (fun cs (p : Value × Nat) => cs.setIfInBounds (off + p.2) p.1) cells).toList = cells.toList.take (off + j) ++ l ++ cells.toList.drop (off + j + l.length)
  | [], j, cells, h => by simp
  | v :: l, j, cells, h => by
    simp only [List.zipIdx_cons, List.foldl_cons]
    simp only [List.length_cons] at h
    rw [foldl_fill off l (j + 1) _ (by simp; omega)]
    simp only [Array.toList_setIfInBounds, List.length_cons]
    have h1 : off + j < cells.toList.length := by simp; omega
    have e1 : (cells.toList.set (off + j) v).take (off + (j + 1)) = cells.toList.take (off + j) ++ [v] := by
      rw [show off + (j + 1) = off + j + 1 from by omega, List.take_set, List.take_succ_eq_append_getElem h1, List.set_append_right _ _ (by simp; omega)]
      have : off + j - (cells.toList.take (off + j)).length = 0 := by simp; omega
      rw [this]
      rfl
    have e2 : (cells.toList.set (off + j) v).drop (off + (j + 1) + l.length) = cells.toList.drop (off + j + (l.length + 1)) := by
      rw [List.drop_set_of_lt (by omega), show off + (j + 1) + l.length = off + j + (l.length + 1) from by omega]
    rw [e1, e2]
    simp

theorem VRs.splice {ob : List (Nat × OB)} {cs ys : List AV} {xs vs : List Value} (h : VRs P w0 w ob ν cs xs) (h' : VRs P w0 w ob ν ys vs) (off : Nat) :
    VRs P w0 w ob ν (cs.take off ++ ys ++ cs.drop (off + ys.length)) (xs.take off ++ vs ++ xs.drop (off + vs.length)) := by
  rw [h'.length]
  exact ((h.take off).append h').append (h.drop _)

theorem Ones.append {xs ys : List Value} (h : Ones xs) (h' : Ones ys) : Ones (xs ++ ys) := fun x hx => by
  rcases List.mem_append.1 hx with hx | hx
  · exact h x hx
  · exact h' x hx

theorem fill_sound (k : Nat) {ob : List (Nat × OB)} : ∀ (ps : List (Nat × AV)) (qs : List (Nat × Value)), ps.map (·.1) = qs.map (·.1) → (∀ (i : Nat) (p : Nat × AV) (q : Nat × Value), ps[i]? = some p → qs[i]? = some q → VR P w0 w ob ν p.2 q.2) →
    ∀ (cs : List AV) (xs : Array Value) (rs : List AV), VRs P w0 w ob ν cs xs.toList → Ones xs.toList → fillA ob k ps cs = some rs →
      ∃ ys : Array Value, Instr.fill (fun i => some (i * k, k)) xs qs = some ys ∧ VRs P w0 w ob ν rs ys.toList ∧ Ones ys.toList ∧ ys.size = xs.size
  | [], [], _, _, cs, xs, rs, h, h1, hf => by
    simp only [fillA, Option.some.injEq] at hf
    subst hf
    exact ⟨xs, rfl, h, h1, rfl⟩
  | [], _ :: _, he, _, _, _, _, _, _, _ => by simp at he
  | _ :: _, [], he, _, _, _, _, _, _, _ => by simp at he
  | (i, x) :: ps, (i', v) :: qs, he, hv, cs, xs, rs, h, h1, hf => by
    simp only [List.map_cons, List.cons.injEq] at he
    obtain ⟨rfl, he⟩ := he
    have hx := hv 0 _ _ rfl rfl
    simp only [fillA] at hf
    split at hf
    · rename_i ys hys
      split at hf
      · rename_i hk
        obtain ⟨hk1, hk2⟩ := hk
        obtain ⟨vs, g1, g2, g3⟩ := split_sound hys hx
        have hlen := h.length
        have hvl := g3.length
        simp only [Array.length_toList] at hlen
        have hsz : v.cells.size = k := by rw [g1]; simp; omega
        have e := foldl_fill (i * k) vs 0 xs (by omega)
        simp only [Nat.add_zero] at e
        obtain ⟨zs, q1, q2, q3, q4⟩ := fill_sound k ps qs he (fun j p q hp hq => hv (j + 1) p q (by simpa using hp) (by simpa using hq)) _
          (vs.zipIdx.foldl (fun cs (p : Value × Nat) => cs.setIfInBounds (i * k + p.2) p.1) xs) rs (by rw [e, ← hk1]; exact h.splice g3 _) (by rw [e]; exact ((h1.take _).append g2).append (h1.drop _)) hf
        refine ⟨zs, ?_, q2, q3, ?_⟩
        · simp only [Instr.fill]
          rw [if_neg (by simp [hsz]; omega)]
          rw [g1]
          have : (vs.toArray.zipIdx.foldl (fun cs (x : Value × Nat) => cs.setIfInBounds (i * k + x.2) x.1) xs) = vs.zipIdx.foldl (fun cs (p : Value × Nat) => cs.setIfInBounds (i * k + p.2) p.1) xs := by
            rw [← Array.foldl_toList]
            simp
          simp only [this]
          exact q1
        · rw [q4, ← Array.length_toList, e]
          simp
          omega
      · cases hf
    · cases hf

theorem fillP_sound (pl : Nat → Option (Nat × Nat)) {ob : List (Nat × OB)} : ∀ (ps : List (Nat × AV)) (qs : List (Nat × Value)), ps.map (·.1) = qs.map (·.1) → (∀ (i : Nat) (p : Nat × AV) (q : Nat × Value), ps[i]? = some p → qs[i]? = some q → VR P w0 w ob ν p.2 q.2) →
    ∀ (cs : List AV) (xs : Array Value) (rs : List AV), VRs P w0 w ob ν cs xs.toList → Ones xs.toList → fillP ob pl ps cs = some rs →
      ∃ ys : Array Value, Instr.fill pl xs qs = some ys ∧ VRs P w0 w ob ν rs ys.toList ∧ Ones ys.toList ∧ ys.size = xs.size
  | [], [], _, _, cs, xs, rs, h, h1, hf => by
    simp only [fillP, Option.some.injEq] at hf
    subst hf
    exact ⟨xs, rfl, h, h1, rfl⟩
  | [], _ :: _, he, _, _, _, _, _, _, _ => by simp at he
  | _ :: _, [], he, _, _, _, _, _, _, _ => by simp at he
  | (i, x) :: ps, (i', v) :: qs, he, hv, cs, xs, rs, h, h1, hf => by
    simp only [List.map_cons, List.cons.injEq] at he
    obtain ⟨rfl, he⟩ := he
    have hx := hv 0 _ _ rfl rfl
    simp only [fillP] at hf
    split at hf
    · rename_i o k ys hpl hys
      split at hf
      · rename_i hk
        obtain ⟨hk1, hk2⟩ := hk
        obtain ⟨vs, g1, g2, g3⟩ := split_sound hys hx
        have hlen := h.length
        have hvl := g3.length
        simp only [Array.length_toList] at hlen
        have hsz : v.cells.size = k := by rw [g1]; simp; omega
        have e := foldl_fill (o) vs 0 xs (by omega)
        simp only [Nat.add_zero] at e
        obtain ⟨zs, q1, q2, q3, q4⟩ := fillP_sound pl ps qs he (fun j p q hp hq => hv (j + 1) p q (by simpa using hp) (by simpa using hq)) _
          (vs.zipIdx.foldl (fun cs (p : Value × Nat) => cs.setIfInBounds (o + p.2) p.1) xs) rs (by rw [e, ← hk1]; exact h.splice g3 _) (by rw [e]; exact ((h1.take _).append g2).append (h1.drop _)) hf
        refine ⟨zs, ?_, q2, q3, ?_⟩
        · simp only [Instr.fill, hpl]
          rw [if_neg (by simp [hsz]; omega)]
          rw [g1]
          have : (vs.toArray.zipIdx.foldl (fun cs (x : Value × Nat) => cs.setIfInBounds (o + x.2) x.1) xs) = vs.zipIdx.foldl (fun cs (p : Value × Nat) => cs.setIfInBounds (o + p.2) p.1) xs := by
            rw [← Array.foldl_toList]
            simp
          simp only [this]
          exact q1
        · rw [q4, ← Array.length_toList, e]
          simp
          omega
      · cases hf
    · cases hf

theorem mapM_places {P : Program} : ∀ {fs : List Field}, allU P fs → fs.mapM (fun f => (P.info? f.type).map fun i => (f.offset, i.size)) = some (fs.map fun f => (f.offset, P.cellsOf f.type))
  | [], _ => rfl
  | f :: fs, h => by
    simp only [allU] at h
    obtain ⟨h1, h2⟩ := h
    have : ∃ i, P.info? f.type = some i := by
      cases hi : P.info? f.type with
      | none => simp [Program.underlying, hi] at h1
      | some i => exact ⟨i, rfl⟩
    obtain ⟨i, hi⟩ := this
    simp [List.mapM_cons, hi, mapM_places h2, Program.cellsOf]

theorem VRs.evs0 (hev : ∀ x : Operand, VR P w0 w σ.ob ν (σ.ev x) (a.eval x)) (parts : List (Nat × Operand)) (i : Nat) (p : Nat × AV) (q : Nat × Value) (hp : (parts.map fun x => (x.1, σ.ev x.2))[i]? = some p) (hq : (parts.map fun x => (x.1, a.eval x.2))[i]? = some q) : VR P w0 w σ.ob ν p.2 q.2 := by
  simp only [List.getElem?_map, Option.map_eq_some_iff] at hp hq
  obtain ⟨x, hx, rfl⟩ := hp
  obtain ⟨y, hy, rfl⟩ := hq
  rw [hx] at hy
  cases hy
  exact hev x.2

theorem VR.packed {ob : List (Nat × OB)} {cs : List AV} {ys : List Value} (h1 : Ones ys) (h2 : VRs P w0 w ob ν cs ys) : VR P w0 w ob ν (AV.pack cs) (.agg ys.toArray) := by
  unfold AV.pack
  split
  · rename_i ds hd
    rw [allD_spec hd] at h2
    obtain ⟨bs, h5, h6⟩ := h2.to_rds
    simp only [VR, RD]
    exact ⟨bs, ⟨_, rfl, h1, h5⟩, h6⟩
  · simp only [VR]
    exact ⟨_, rfl, h1, h2⟩

theorem build_sound (h : Sim P w0 σ ν a w) {t : TypeId} {parts : Array (Nat × Operand)} {p : Prop} {r : AV} (ho : pureOp P σ (.build t parts) = some (p, r)) (hp : p) :
    ∃ v, RT P w (Instr.build t (parts.map fun (i, x) => (i, a.eval x))) v ∧ VR P w0 w σ.ob ν r v := by
  have zz : ∀ {t : TypeId}, zeroOk P t = true → ∃ i z, P.info? t = some i ∧ i.zero = some z ∧ z.cells = (zeroV P t).toArray ∧ Ones (zeroV P t) := fun {t} hz => by
    simp only [zeroOk, Bool.and_eq_true, beq_iff_eq, List.all_eq_true] at hz
    obtain ⟨⟨h1, h2⟩, h3⟩ := hz
    cases hi : P.info? t with
    | none => simp [hi] at h1
    | some i =>
      cases hzi : i.zero with
      | none => simp [hi, hzi] at h1
      | some z => exact ⟨i, z, rfl, hzi, by simp [zeroV, hi, hzi], h2⟩
  have key : ∀ (pl : Nat → Option (Nat × Nat)) (cs : List AV), zeroOk P t = true → fillP σ.ob pl (parts.toList.map fun x => (x.1, σ.ev x.2)) ((zeroD P t).map AV.d) = some cs →
      ∃ ys : Array Value, Instr.fill pl (zeroV P t).toArray (parts.toList.map fun x => (x.1, a.eval x.2)) = some ys ∧ VR P w0 w σ.ob ν (AV.pack cs) (.agg ys) := fun pl cs hz hf => by
    obtain ⟨i, z, _, _, _, h1⟩ := zz hz
    obtain ⟨ys, q1, q2, q3, q4⟩ := fillP_sound (P := P) (w0 := w0) (w := w) (ν := ν) pl (parts.toList.map fun x => (x.1, σ.ev x.2)) (parts.toList.map fun x => (x.1, a.eval x.2)) (by simp [Function.comp_def])
      (VRs.evs0 (fun x => h.ev x) parts.toList) ((zeroD P t).map AV.d) (zeroV P t).toArray cs (by simpa [zeroD] using VRs.vals (zeroV P t)) (by simpa using h1) hf
    exact ⟨ys, q1, by simpa using VR.packed q3 q2⟩
  have hpl : (parts.map fun (i, x) => (i, a.eval x)).toList = parts.toList.map fun x => (x.1, a.eval x.2) := by simp
  simp only [pureOp] at ho
  split at ho
  · rename_i fs hu
    split at ho
    · rename_i cs hcs
      obtain ⟨rfl, rfl⟩ := Prod.mk.inj (Option.some.inj ho)
      obtain ⟨i, z, hi, hz, hzc, _⟩ := zz hp.1
      obtain ⟨ys, q1, q2⟩ := key _ cs hp.1 hcs
      refine ⟨.agg ys, fun w' _ => run_build w' t _ ys ?_, q2⟩
      have hm := mapM_places hp.2
      simp only [Program.built, hi, hu, hz, hm, hpl, hzc]
      rw [← q1]
      congr 1
      funext j
      simp only [List.getElem?_toArray, List.getElem?_map, Array.getElem?_toList]
    · cases ho
  · rename_i n e hu
    split at ho
    · rename_i cs hcs
      obtain ⟨rfl, rfl⟩ := Prod.mk.inj (Option.some.inj ho)
      obtain ⟨i, z, hi, hz, hzc, _⟩ := zz hp.1
      obtain ⟨ys, q1, q2⟩ := key _ cs hp.1 hcs
      refine ⟨.agg ys, fun w' _ => run_build w' t _ ys ?_, q2⟩
      have he : ∃ i, P.info? e = some i := by
        cases hi : P.info? e with
        | none => have := hp.2; simp [Program.underlying, hi] at this
        | some i => exact ⟨i, rfl⟩
      obtain ⟨ie, he⟩ := he
      have hce : P.cellsOf e = ie.size := by simp [Program.cellsOf, he]
      rw [hce] at q1
      simp only [Program.built, hi, hu, hz, he, hpl, hzc]
      exact q1
    · cases ho
  · cases ho
end

end Go.Proofs.Ytdinkfmkhdnbpaa
