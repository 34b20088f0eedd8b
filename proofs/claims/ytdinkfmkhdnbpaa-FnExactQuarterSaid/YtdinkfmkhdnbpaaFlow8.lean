/- What a pure operation yields is what the abstract view says: loads, addresses, numbers. -/
import Derived.Test.YtdinkfmkhdnbpaaFlow7
import Derived.WalkKit
import Derived.WalkSpells
namespace Go.Proofs.Ytdinkfmkhdnbpaa
open Go.RowKit
set_option linter.unusedVariables false
set_option linter.unusedSimpArgs false

section
variable {P : Program} {w0 : Env} {w : World} {σ : St} {ν : Loc} {a : Act}

theorem Sim.ev (h : Sim P w0 σ ν a w) (x : Operand) : VR P w0 w σ.ob ν (σ.ev x) (a.eval x) := by
  cases x with
  | tmp t => exact h.slots t
  | const v => simp only [St.ev, VR]; exact ⟨[], by simp [RD, Act.eval], by simp⟩
  | global g => simp only [St.ev, VR]
  | func f =>
    simp only [St.ev, VR]
    exact ⟨[], [], rfl, by simp [VRs], by simp [VRs]⟩

theorem VR.val {ob : List (Nat × OB)} {x y : Value} (h : VR P w0 w ob ν (.d (.v x)) y) : y = x := by
  simp only [VR, RD] at h
  obtain ⟨bs, h1, _⟩ := h
  exact h1.1

theorem VR.mk {ob : List (Nat × OB)} (x : Value) : VR P w0 w ob ν (.d (.v x)) x := by
  simp only [VR, RD]
  exact ⟨[], by simp, by simp⟩

/-- An own object that lies somewhere, cell by cell. -/
theorem OR.read {s : Nat} {o : OB} {ob : List (Nat × OB)} (h : OR P w0 w ob ν s o) {b base : Nat} (hs : ν s = some (b, base)) :
    ∃ xs, (∀ i, i < xs.length → w.cell? ⟨b, base + i, none⟩ = xs[i]?) ∧ Ones xs ∧ VRs P w0 w ob ν (obCells o) xs := by
  rcases h with ⟨h1, _⟩ | ⟨b', base', c, T, xs, h1, h2, h3, h4, h5, h6⟩
  · rw [h1] at hs; cases hs
  · rw [h1] at hs; cases hs
    refine ⟨xs, fun i hi => ?_, h5, h6⟩
    rw [cell_row h3]
    exact h4 i hi

/-- The same in whatever later world. -/
theorem OR.reads {s : Nat} {o : OB} {ob : List (Nat × OB)} (h : OR P w0 w ob ν s o) {b base : Nat} (hs : ν s = some (b, base)) :
    ∃ xs, (∀ w', Below w.heap.size w w' → ∀ i, i < xs.length → w'.cell? ⟨b, base + i, none⟩ = xs[i]?) ∧ Ones xs ∧ VRs P w0 w ob ν (obCells o) xs := by
  rcases h with ⟨h1, _⟩ | ⟨b', base', c, T, xs, h1, h2, h3, h4, h5, h6⟩
  · rw [h1] at hs; cases hs
  · rw [h1] at hs; cases hs
    refine ⟨xs, fun w' hw' i hi => ?_, h5, h6⟩
    rw [cell_row ((hw'.block b (Array.getElem?_eq_some_iff.1 h3).1).trans h3)]
    exact h4 i hi

theorem Ones.drop {xs : List Value} (h : Ones xs) (i : Nat) : Ones (xs.drop i) := fun x hx => h x (List.mem_of_mem_drop hx)

theorem Ones.take {xs : List Value} (h : Ones xs) (i : Nat) : Ones (xs.take i) := fun x hx => h x (List.mem_of_mem_take hx)

/-- Data cells that lie at an address are read. -/
theorem loadD_sound {t : TypeId} {cs : List D} {o : Nat} {p : Prop} {x : D} (ho : loadD P t cs o = some (p, x)) (hp : p) {b off : Nat} {ys : List Value} {bs : List Nat}
    (hc : ∀ w', Below w.heap.size w w' → ∀ i, i < ys.length → w'.cell? ⟨b, off + i, none⟩ = ys[i]?) (h1 : Ones ys) (hr : RDs w false cs ys bs) :
    ∃ v bs', RT P w (loadVar t ⟨b, off + o, none⟩) v ∧ RD w false x v bs' ∧ ∀ b ∈ bs', b ∈ bs := by
  have hlen := hr.length
  unfold loadD at ho
  split at ho
  · rename_i ht
    obtain ⟨rfl, rfl⟩ := Prod.mk.inj (Option.some.inj ho)
    obtain ⟨bs1, h2, h3⟩ := hr.drop o
    obtain ⟨bs2, h4, h5⟩ := h2.take (P.cellsOf t)
    refine ⟨.agg ((ys.drop o).take (P.cellsOf t)).toArray, bs2, fun w' hw' => run_loadVar_agg ht (by simp; omega) (fun i hi => ?_), ?_, fun b hb => h3 b (h5 b hb)⟩
    · simp only [List.length_take, List.length_drop] at hi
      rw [Nat.add_assoc, hc w' hw' (o + i) (by omega), List.getElem?_take, if_pos (by omega), List.getElem?_drop]
    · simp only [RD]
      exact ⟨_, rfl, (h1.drop o).take _, h4⟩
  · rename_i ht
    obtain ⟨rfl, rfl⟩ := Prod.mk.inj (Option.some.inj ho)
    obtain ⟨y, bs', h2, h3, h4⟩ := hr.get o hp.2
    refine ⟨y, bs', fun w' hw' => run_loadVar_one (by simpa using ht) hp.1 ?_, h3, h4⟩
    rw [hc w' hw' o (by omega), h2]

theorem loadA_sound {t : TypeId} {ob : List (Nat × OB)} {cs : List AV} {o : Nat} {p : Prop} {x : AV} (ho : loadA P t cs o = some (p, x)) (hp : p) {b off : Nat} {ys : List Value}
    (hc : ∀ w', Below w.heap.size w w' → ∀ i, i < ys.length → w'.cell? ⟨b, off + i, none⟩ = ys[i]?) (h1 : Ones ys) (hr : VRs P w0 w ob ν cs ys) :
    ∃ v, RT P w (loadVar t ⟨b, off + o, none⟩) v ∧ VR P w0 w ob ν x v := by
  have hlen := hr.length
  unfold loadA at ho
  split at ho
  · rename_i ht
    obtain ⟨rfl, rfl⟩ := Prod.mk.inj (Option.some.inj ho)
    have h4 := (hr.drop o).take (P.cellsOf t)
    refine ⟨.agg ((ys.drop o).take (P.cellsOf t)).toArray, fun w' hw' => run_loadVar_agg ht (by simp; omega) (fun i hi => ?_), ?_⟩
    · simp only [List.length_take, List.length_drop] at hi
      rw [Nat.add_assoc, hc w' hw' (o + i) (by omega), List.getElem?_take, if_pos (by omega), List.getElem?_drop]
    · unfold AV.pack
      split
      · rename_i ds hd
        rw [allD_spec hd] at h4
        obtain ⟨bs, h5, h6⟩ := h4.to_rds
        simp only [VR, RD]
        exact ⟨bs, ⟨_, rfl, (h1.drop o).take _, h5⟩, h6⟩
      · simp only [VR]
        exact ⟨_, rfl, (h1.drop o).take _, h4⟩
  · rename_i ht
    obtain ⟨rfl, rfl⟩ := Prod.mk.inj (Option.some.inj ho)
    obtain ⟨y, h2, h3⟩ := hr.get o hp.2
    refine ⟨y, fun w' hw' => run_loadVar_one (by simpa using ht) hp.1 ?_, h3⟩
    rw [hc w' hw' o (by omega), h2]

theorem load_sound (h : Sim P w0 σ ν a w) {t : TypeId} {x : Operand} {p : Prop} {r : AV} (ho : pureOp P σ (.load t x) = some (p, r)) (hp : p) :
    ∃ v, RT P w (Instr.loadAt t (a.eval x)) v ∧ VR P w0 w σ.ob ν r v := by
  have hx := h.ev x
  simp only [pureOp] at ho
  split at ho
  · rename_i s o hsx
    rw [hsx] at hx
    simp only [VR] at hx
    split at ho
    · rename_i cs hs
      obtain ⟨b, base, h1, h2⟩ := hx (by simp [hs])
      obtain ⟨xs, h3, h4, h5⟩ := (h.objs s _ hs).reads h1
      obtain ⟨bs, h6, h7⟩ := VRs.to_rds (ds := cs) h5
      simp only [Option.map_eq_some_iff] at ho
      obtain ⟨⟨p', x'⟩, h8, h9⟩ := ho
      obtain ⟨rfl, rfl⟩ := Prod.mk.inj h9
      obtain ⟨v, bs', h10, h11, h12⟩ := loadD_sound h8 hp h3 h4 h6
      refine ⟨v, ?_, ?_⟩
      · rw [h2]
        simpa [RT, Instr.loadAt, Instr.sureAddr] using h10
      · simp only [VR]
        exact ⟨bs', h11, fun b hb => h7 b (h12 b hb)⟩
    · rename_i cs hs
      obtain ⟨b, base, h1, h2⟩ := hx (by simp [hs])
      obtain ⟨xs, h3, h4, h5⟩ := (h.objs s _ hs).reads h1
      obtain ⟨v, h10, h11⟩ := loadA_sound ho hp h3 h4 h5
      refine ⟨v, ?_, h11⟩
      rw [h2]
      simpa [RT, Instr.loadAt, Instr.sureAddr] using h10
    · cases ho
  · rename_i cs hsx
    rw [hsx] at hx
    simp only [VR, RD] at hx
    obtain ⟨bs, ⟨b, off, xs, bs', h1, h2, h3, h4⟩, h5⟩ := hx
    subst h2
    obtain ⟨h6, c, T, fz, h7, h8, _⟩ := h3
    simp only [Option.map_eq_some_iff] at ho
    obtain ⟨⟨p', x'⟩, h9, h10⟩ := ho
    obtain ⟨rfl, rfl⟩ := Prod.mk.inj h10
    obtain ⟨v, bs2, h11, h12, h13⟩ := loadD_sound h9 hp (fun w' hw' i hi => by rw [cell_row ((hw'.block b (Array.getElem?_eq_some_iff.1 h7).1).trans h7)]; exact h8 i hi) h6 h4
    refine ⟨v, ?_, ?_⟩
    · rw [h1]
      simpa [RT, Instr.loadAt, Instr.sureAddr] using h11
    · simp only [VR]
      exact ⟨bs2, h12, fun b hb => h5 b (by simp [h13 b hb])⟩
  · cases ho

theorem fieldAddr_sound (h : Sim P w0 σ ν a w) {t : TypeId} {x : Operand} {f : Nat} {p : Prop} {r : AV} (ho : pureOp P σ (.fieldAddr t x f) = some (p, r)) (hp : p) :
    ∃ v, RT P w (Instr.fieldAt t (a.eval x) f) v ∧ VR P w0 w σ.ob ν r v := by
  have hx := h.ev x
  simp only [pureOp] at ho
  split at ho
  · rename_i fs hfs
    split at ho
    · rename_i fd hfd
      have hrun : ∀ b off, P.cellsOf fd.type ≠ 0 → RT P w (Instr.fieldAt t (.pointer (some ⟨b, off, none⟩)) f) (.pointer (some ⟨b, off + fd.offset, none⟩)) := by
        intro b off hne w' _
        have hi : ∃ i, P.info? fd.type = some i := by
          cases hi : P.info? fd.type with
          | none => simp [Program.cellsOf, hi] at hne
          | some i => exact ⟨i, rfl⟩
        obtain ⟨i, hi⟩ := hi
        have hsz : (sizeOf fd.type).run P w' = .ok (P.cellsOf fd.type) w' := by simp [sizeOf, typeInfo, Program.cellsOf, hi]
        simp only [Instr.fieldAt, Sem.run_bind, run_underlying hfs, Result.andThen_ok, hfd, Instr.sureAddr, Sem.run_pure, fieldPlace, hsz]
        rw [if_neg hne]
        simp [addr_add]
      split at ho
      · rename_i s o hsx
        obtain ⟨rfl, rfl⟩ := Prod.mk.inj (Option.some.inj ho)
        rw [hsx] at hx
        simp only [VR] at hx
        obtain ⟨b, base, h1, h2⟩ := hx hp.2
        refine ⟨_, by rw [h2]; exact hrun _ _ hp.1, ?_⟩
        simp only [VR]
        exact fun _ => ⟨b, base, h1, by rw [Nat.add_assoc]⟩
      · rename_i cs hsx
        obtain ⟨rfl, rfl⟩ := Prod.mk.inj (Option.some.inj ho)
        rw [hsx] at hx
        simp only [VR, RD] at hx
        obtain ⟨bs, ⟨b, off, xs, bs', h1, h2, h3, h4⟩, h5⟩ := hx
        subst h2
        obtain ⟨bs2, h6, h7⟩ := h4.drop fd.offset
        refine ⟨_, by rw [h1]; exact hrun _ _ hp.1, ?_⟩
        simp only [VR, RD]
        obtain ⟨g1, c, T, fz, g2, g3, g4⟩ := h3
        have hl := h4.length
        refine ⟨b :: bs2, ⟨b, off + fd.offset, xs.drop fd.offset, bs2, rfl, rfl, ⟨g1.drop _, c, T, fz, g2, fun i hi => ?_, fun e => by cases e⟩, h6⟩, fun b' hb' => ?_⟩
        · rw [Nat.add_assoc, g3 _ (by simp at hi; omega), List.getElem?_drop]
        · rcases List.mem_cons.1 hb' with rfl | hb'
          · exact h5 _ (by simp)
          · exact h5 b' (by simp [h7 b' hb'])
      · cases ho
    · cases ho
  · cases ho
end

end Go.Proofs.Ytdinkfmkhdnbpaa
