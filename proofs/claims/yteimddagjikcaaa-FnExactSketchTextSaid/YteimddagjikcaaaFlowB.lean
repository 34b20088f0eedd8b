/- Operations do what the view says: loads, addresses, arithmetic, slices, structs, objects. -/
import Derived.Test.YteimddagjikcaaaFlowA
import Derived.WalkKit
import Derived.WalkSpells
import Derived.Laws.Tables
namespace Go.Proofs.Yteimddagjikcaaa
open Go.RowKit
set_option linter.unusedVariables false
set_option linter.unusedSimpArgs false

section
variable {P : Program} {w0 : Env} {w : World} {σ : St} {ν : Loc} {a : Act}

theorem Sim.ev (h : Sim P w0 σ ν a w) (x : Operand) : VR P w0 w σ.ob ν (σ.ev x) (a.eval x) := by
  cases x with
  | tmp t => exact h.slots t
  | const v => simp only [St.ev, VR]; exact ⟨[], by simp [RD, Act.eval], by simp⟩
  | global g => simp only [St.ev, VR]
  | func f =>
    simp only [St.ev, VR]
    exact ⟨[], [], rfl, by simp [VRs], by simp [VRs]⟩

theorem VR.val {ob : List (Nat × OB)} {x y : Value} (h : VR P w0 w ob ν (.d (.v x)) y) : y = x := by
  simp only [VR, RD] at h
  obtain ⟨bs, h1, _⟩ := h
  exact h1.1

theorem VR.mk {ob : List (Nat × OB)} (x : Value) : VR P w0 w ob ν (.d (.v x)) x := by
  simp only [VR, RD]
  exact ⟨[], by simp, by simp⟩

theorem OR.read {s : Nat} {o : OB} {ob : List (Nat × OB)} (h : OR P w0 w ob ν s o) (hrow : o.row = true) {b base : Nat} (hs : ν s = some (b, base)) :
    ∃ xs, (∀ i, i < xs.length → w.cell? ⟨b, base + i, none⟩ = xs[i]?) ∧ Ones xs ∧ VRs P w0 w ob ν (obCells o) xs := by
  rcases h with ⟨h1, _⟩ | ⟨b', base', c, T, xs, h1, h2, h3, h4, h5, h6⟩
  · rw [h1] at hs; cases hs
  · rw [h1] at hs; cases hs
    refine ⟨xs, fun i hi => ?_, h5, h6⟩
    rw [objOf_row hrow] at h3
    rw [cell_row h3]
    exact h4 i hi

theorem OR.reads {s : Nat} {o : OB} {ob : List (Nat × OB)} (h : OR P w0 w ob ν s o) (hrow : o.row = true) {b base : Nat} (hs : ν s = some (b, base)) :
    ∃ xs, (∀ w', Below w.heap.size w w' → ∀ i, i < xs.length → w'.cell? ⟨b, base + i, none⟩ = xs[i]?) ∧ Ones xs ∧ VRs P w0 w ob ν (obCells o) xs := by
  rcases h with ⟨h1, _⟩ | ⟨b', base', c, T, xs, h1, h2, h3, h4, h5, h6⟩
  · rw [h1] at hs; cases hs
  · rw [h1] at hs; cases hs
    refine ⟨xs, fun w' hw' i hi => ?_, h5, h6⟩
    rw [objOf_row hrow] at h3
    rw [cell_row ((hw'.block b (Array.getElem?_eq_some_iff.1 h3).1).trans h3)]
    exact h4 i hi

theorem Ones.drop {xs : List Value} (h : Ones xs) (i : Nat) : Ones (xs.drop i) := fun x hx => h x (List.mem_of_mem_drop hx)

theorem Ones.take {xs : List Value} (h : Ones xs) (i : Nat) : Ones (xs.take i) := fun x hx => h x (List.mem_of_mem_take hx)

theorem loadD_sound {t : TypeId} {cs : List D} {o : Nat} {p : Prop} {x : D} (ho : loadD P t cs o = some (p, x)) (hp : p) {b off : Nat} {ys : List Value} {bs : List Nat}
    (hc : ∀ w', Below w.heap.size w w' → ∀ i, i < ys.length → w'.cell? ⟨b, off + i, none⟩ = ys[i]?) (h1 : Ones ys) (hr : RDs w false cs ys bs) :
    ∃ v bs', RT P w (loadVar t ⟨b, off + o, none⟩) v ∧ RD w false x v bs' ∧ ∀ b ∈ bs', b ∈ bs := by
  have hlen := hr.length
  unfold loadD at ho
  split at ho
  · rename_i ht
    obtain ⟨rfl, rfl⟩ := Prod.mk.inj (Option.some.inj ho)
    obtain ⟨bs1, h2, h3⟩ := hr.drop o
    obtain ⟨bs2, h4, h5⟩ := h2.take (P.cellsOf t)
    refine ⟨.agg ((ys.drop o).take (P.cellsOf t)).toArray, bs2, fun w' hw' => run_loadVar_agg ht (by simp; omega) (fun i hi => ?_), ?_, fun b hb => h3 b (h5 b hb)⟩
    · simp only [List.length_take, List.length_drop] at hi
      rw [Nat.add_assoc, hc w' hw' (o + i) (by omega), List.getElem?_take, if_pos (by omega), List.getElem?_drop]
    · simp only [RD]
      exact ⟨_, rfl, (h1.drop o).take _, h4⟩
  · rename_i ht
    obtain ⟨rfl, rfl⟩ := Prod.mk.inj (Option.some.inj ho)
    obtain ⟨y, bs', h2, h3, h4⟩ := hr.get o hp.2
    refine ⟨y, bs', fun w' hw' => run_loadVar_one (by simpa using ht) hp.1 ?_, h3, h4⟩
    rw [hc w' hw' o (by omega), h2]

theorem loadA_sound {t : TypeId} {ob : List (Nat × OB)} {cs : List AV} {o : Nat} {p : Prop} {x : AV} (ho : loadA P t cs o = some (p, x)) (hp : p) {b off : Nat} {ys : List Value}
    (hc : ∀ w', Below w.heap.size w w' → ∀ i, i < ys.length → w'.cell? ⟨b, off + i, none⟩ = ys[i]?) (h1 : Ones ys) (hr : VRs P w0 w ob ν cs ys) :
    ∃ v, RT P w (loadVar t ⟨b, off + o, none⟩) v ∧ VR P w0 w ob ν x v := by
  have hlen := hr.length
  unfold loadA at ho
  split at ho
  · rename_i ht
    obtain ⟨rfl, rfl⟩ := Prod.mk.inj (Option.some.inj ho)
    have h4 := (hr.drop o).take (P.cellsOf t)
    refine ⟨.agg ((ys.drop o).take (P.cellsOf t)).toArray, fun w' hw' => run_loadVar_agg ht (by simp; omega) (fun i hi => ?_), ?_⟩
    · simp only [List.length_take, List.length_drop] at hi
      rw [Nat.add_assoc, hc w' hw' (o + i) (by omega), List.getElem?_take, if_pos (by omega), List.getElem?_drop]
    · unfold AV.pack
      split
      · rename_i ds hd
        rw [allD_spec hd] at h4
        obtain ⟨bs, h5, h6⟩ := h4.to_rds
        simp only [VR, RD]
        exact ⟨bs, ⟨_, rfl, (h1.drop o).take _, h5⟩, h6⟩
      · simp only [VR]
        exact ⟨_, rfl, (h1.drop o).take _, h4⟩
  · rename_i ht
    obtain ⟨rfl, rfl⟩ := Prod.mk.inj (Option.some.inj ho)
    obtain ⟨y, h2, h3⟩ := hr.get o hp.2
    refine ⟨y, fun w' hw' => run_loadVar_one (by simpa using ht) hp.1 ?_, h3⟩
    rw [hc w' hw' o (by omega), h2]

theorem load_sound (h : Sim P w0 σ ν a w) {t : TypeId} {x : Operand} {p : Prop} {r : AV} (ho : pureOp P σ (.load t x) = some (p, r)) (hp : p) :
    ∃ v, RT P w (Instr.loadAt t (a.eval x)) v ∧ VR P w0 w σ.ob ν r v := by
  have hx := h.ev x
  simp only [pureOp] at ho
  split at ho
  · rename_i s o hsx
    rw [hsx] at hx
    simp only [VR] at hx
    split at ho
    · rename_i cs hs
      obtain ⟨b, base, h1, h2⟩ := hx (by simp [hs])
      obtain ⟨xs, h3, h4, h5⟩ := (h.objs s _ hs).reads rfl h1
      obtain ⟨bs, h6, h7⟩ := VRs.to_rds (ds := cs) h5
      simp only [Option.map_eq_some_iff] at ho
      obtain ⟨⟨p', x'⟩, h8, h9⟩ := ho
      obtain ⟨rfl, rfl⟩ := Prod.mk.inj h9
      obtain ⟨v, bs', h10, h11, h12⟩ := loadD_sound h8 hp h3 h4 h6
      refine ⟨v, ?_, ?_⟩
      · rw [h2]
        simpa [RT, Instr.loadAt, Instr.sureAddr] using h10
      · simp only [VR]
        exact ⟨bs', h11, fun b hb => h7 b (h12 b hb)⟩
    · rename_i cs hs
      obtain ⟨b, base, h1, h2⟩ := hx (by simp [hs])
      obtain ⟨xs, h3, h4, h5⟩ := (h.objs s _ hs).reads rfl h1
      obtain ⟨v, h10, h11⟩ := loadA_sound ho hp h3 h4 h5
      refine ⟨v, ?_, h11⟩
      rw [h2]
      simpa [RT, Instr.loadAt, Instr.sureAddr] using h10
    · cases ho
  · rename_i cs hsx
    rw [hsx] at hx
    simp only [VR, RD] at hx
    obtain ⟨bs, ⟨b, off, xs, bs', h1, h2, h3, h4⟩, h5⟩ := hx
    subst h2
    obtain ⟨h6, c, T, fz, h7, h8, _⟩ := h3
    simp only [Option.map_eq_some_iff] at ho
    obtain ⟨⟨p', x'⟩, h9, h10⟩ := ho
    obtain ⟨rfl, rfl⟩ := Prod.mk.inj h10
    obtain ⟨v, bs2, h11, h12, h13⟩ := loadD_sound h9 hp (fun w' hw' i hi => by rw [cell_row ((hw'.block b (Array.getElem?_eq_some_iff.1 h7).1).trans h7)]; exact h8 i hi) h6 h4
    refine ⟨v, ?_, ?_⟩
    · rw [h1]
      simpa [RT, Instr.loadAt, Instr.sureAddr] using h11
    · simp only [VR]
      exact ⟨bs2, h12, fun b hb => h5 b (by simp [h13 b hb])⟩
  · cases ho

theorem fieldAddr_sound (h : Sim P w0 σ ν a w) {t : TypeId} {x : Operand} {f : Nat} {p : Prop} {r : AV} (ho : pureOp P σ (.fieldAddr t x f) = some (p, r)) (hp : p) :
    ∃ v, RT P w (Instr.fieldAt t (a.eval x) f) v ∧ VR P w0 w σ.ob ν r v := by
  have hx := h.ev x
  simp only [pureOp] at ho
  split at ho
  · rename_i fs hfs
    split at ho
    · rename_i fd hfd
      have hrun : ∀ b off, P.cellsOf fd.type ≠ 0 → RT P w (Instr.fieldAt t (.pointer (some ⟨b, off, none⟩)) f) (.pointer (some ⟨b, off + fd.offset, none⟩)) := by
        intro b off hne w' _
        have hi : ∃ i, P.info? fd.type = some i := by
          cases hi : P.info? fd.type with
          | none => simp [Program.cellsOf, hi] at hne
          | some i => exact ⟨i, rfl⟩
        obtain ⟨i, hi⟩ := hi
        have hsz : (sizeOf fd.type).run P w' = .ok (P.cellsOf fd.type) w' := by simp [sizeOf, typeInfo, Program.cellsOf, hi]
        simp only [Instr.fieldAt, Sem.run_bind, run_underlying hfs, Result.andThen_ok, hfd, Instr.sureAddr, Sem.run_pure, fieldPlace, hsz]
        rw [if_neg hne]
        simp [addr_add]
      split at ho
      · rename_i s o hsx
        obtain ⟨rfl, rfl⟩ := Prod.mk.inj (Option.some.inj ho)
        rw [hsx] at hx
        simp only [VR] at hx
        obtain ⟨b, base, h1, h2⟩ := hx hp.2
        refine ⟨_, by rw [h2]; exact hrun _ _ hp.1, ?_⟩
        simp only [VR]
        exact fun _ => ⟨b, base, h1, by rw [Nat.add_assoc]⟩
      · rename_i cs hsx
        obtain ⟨rfl, rfl⟩ := Prod.mk.inj (Option.some.inj ho)
        rw [hsx] at hx
        simp only [VR, RD] at hx
        obtain ⟨bs, ⟨b, off, xs, bs', h1, h2, h3, h4⟩, h5⟩ := hx
        subst h2
        obtain ⟨bs2, h6, h7⟩ := h4.drop fd.offset
        refine ⟨_, by rw [h1]; exact hrun _ _ hp.1, ?_⟩
        simp only [VR, RD]
        obtain ⟨g1, c, T, fz, g2, g3, g4⟩ := h3
        have hl := h4.length
        refine ⟨b :: bs2, ⟨b, off + fd.offset, xs.drop fd.offset, bs2, rfl, rfl, ⟨g1.drop _, c, T, fz, g2, fun i hi => ?_, fun e => by cases e⟩, h6⟩, fun b' hb' => ?_⟩
        · rw [Nat.add_assoc, g3 _ (by simp at hi; omega), List.getElem?_drop]
        · rcases List.mem_cons.1 hb' with rfl | hb'
          · exact h5 _ (by simp)
          · exact h5 b' (by simp [h7 b' hb'])
      · cases ho
    · cases ho
  · cases ho

end

section
variable {P : Program} {w0 : Env} {w : World} {σ : St} {ν : Loc} {a : Act}

theorem run_size' {t : TypeId} {n : Nat} (h : P.cellsOf t = n) (hn : n ≠ 0) : (sizeOf t).run P w = .ok n w := by
  cases hi : P.info? t with
  | none => simp [Program.cellsOf, hi] at h; exact absurd h.symm hn
  | some i => simp [sizeOf, typeInfo, hi]; simpa [Program.cellsOf, hi] using h

theorem run_indexAt {t e : TypeId} (hu : P.underlying t = some (.slice e)) {k : Nat} (hk : P.cellsOf e = k) (hk0 : k ≠ 0) {b off n cap : Nat} {kk : IntKind} {i : Int} (h1 : 0 ≤ i) (h2 : i < n) :
    (Instr.indexAt t (.slice (some ⟨b, off, none⟩) n cap) (.int kk i)).run P w = .ok (.pointer (some ⟨b, off + i.toNat * k, none⟩)) w := by
  simp [Instr.indexAt, run_underlying hu, asIntOf, h1, h2, run_size' hk hk0, addr_add]

theorem run_indexAt_arr {t e : TypeId} {n : Nat} (hu : P.underlying t = some (.array n e)) (hk0 : P.cellsOf e ≠ 0) {b off : Nat} {kk : IntKind} {i : Int} (h1 : 0 ≤ i) (h2 : i < n) :
    (Instr.indexAt t (.pointer (some ⟨b, off, none⟩)) (.int kk i)).run P w = .ok (.pointer (some ⟨b, off + i.toNat * P.cellsOf e, none⟩)) w := by
  simp [Instr.indexAt, run_underlying hu, asIntOf, h1, h2, run_size' rfl hk0, addr_add, Instr.sureAddr]

theorem indexAddr_sound (h : Sim P w0 σ ν a w) {t : TypeId} {x y : Operand} {p : Prop} {r : AV} (ho : pureOp P σ (.indexAddr t x y) = some (p, r)) (hp : p) :
    ∃ v, RT P w (Instr.indexAt t (a.eval x) (a.eval y)) v ∧ VR P w0 w σ.ob ν r v := by
  have hx := h.ev x
  have hy := h.ev y
  simp only [pureOp] at ho
  split at ho
  · rename_i e kk i hu hsy
    rw [hsy] at hy
    have ey := hy.val
    split at ho
    · rename_i s off n k hsx
      obtain ⟨rfl, rfl⟩ := Prod.mk.inj (Option.some.inj ho)
      obtain ⟨h1, h2, h3, hk0, h4⟩ := hp
      rw [hsx] at hx
      simp only [VR] at hx
      rcases (hx h4).2 with ⟨_, _, h5, _⟩ | ⟨b, base, cap, ad, c, T, h5, h6, h7, h8, h9, h10⟩
      · omega
      · rcases h8 with h8 | h8
        · omega
        · subst h8
          refine ⟨_, by rw [h6, ey]; exact fun _ _ => run_indexAt hu h3 hk0 h1 h2, ?_⟩
          simp only [VR]
          exact fun _ => ⟨b, base, h5, by rw [Nat.add_assoc]⟩
    · rename_i k n cs hsx
      obtain ⟨rfl, rfl⟩ := Prod.mk.inj (Option.some.inj ho)
      obtain ⟨h1, h2, h3, hk0⟩ := hp
      rw [hsx] at hx
      simp only [VR, RD] at hx
      obtain ⟨bs, hx, h4⟩ := hx
      rcases hx with ⟨_, _, _, _, h5, _⟩ | ⟨b, off, cap, xs, bs', h5, h6, h7, h8, h9, h10⟩
      · omega
      · subst h6
        obtain ⟨bs2, g1, g2⟩ := h10.drop (i.toNat * k)
        refine ⟨_, by rw [h5, ey]; exact fun _ _ => run_indexAt hu h3 hk0 h1 h2, ?_⟩
        simp only [VR, RD]
        obtain ⟨q1, c, T, fz, q2, q3, _⟩ := h9
        have hl := h10.length
        refine ⟨b :: bs2, ⟨b, off + i.toNat * k, xs.drop (i.toNat * k), bs2, rfl, rfl, ⟨q1.drop _, c, T, fz, q2, fun j hj => ?_, fun e => by cases e⟩, g1⟩, fun b' hb' => ?_⟩
        · rw [Nat.add_assoc, q3 _ (by simp at hj; omega), List.getElem?_drop]
        · rcases List.mem_cons.1 hb' with rfl | hb'
          · exact h4 _ (by simp)
          · exact h4 b' (by simp [g2 b' hb'])
    · cases ho
  · rename_i n e kk i hu hsy
    rw [hsy] at hy
    have ey := hy.val
    split at ho
    · rename_i s o hsx
      obtain ⟨rfl, rfl⟩ := Prod.mk.inj (Option.some.inj ho)
      obtain ⟨h1, h2, h3, hk0, h4⟩ := hp
      rw [hsx] at hx
      simp only [VR] at hx
      obtain ⟨b, base, h5, h6⟩ := hx h4
      refine ⟨_, by rw [h6, ey]; exact fun _ _ => run_indexAt_arr hu hk0 h1 h2, ?_⟩
      simp only [VR]
      exact fun _ => ⟨b, base, h5, by rw [Nat.add_assoc]⟩
    · rename_i cs hsx
      obtain ⟨rfl, rfl⟩ := Prod.mk.inj (Option.some.inj ho)
      obtain ⟨h1, h2, h3, hk0, h4⟩ := hp
      rw [hsx] at hx
      simp only [VR, RD] at hx
      obtain ⟨bs, ⟨b, off, xs, bs', h5, h6, h7, h8⟩, h9⟩ := hx
      subst h6
      obtain ⟨bs2, g1, g2⟩ := h8.drop (i.toNat * P.cellsOf e)
      refine ⟨_, by rw [h5, ey]; exact fun _ _ => run_indexAt_arr hu hk0 h1 h2, ?_⟩
      simp only [VR, RD]
      obtain ⟨q1, c, T, fz, q2, q3, _⟩ := h7
      have hl := h8.length
      refine ⟨b :: bs2, ⟨b, off + i.toNat * P.cellsOf e, xs.drop (i.toNat * P.cellsOf e), bs2, rfl, rfl, ⟨q1.drop _, c, T, fz, q2, fun j hj => ?_, fun e => by cases e⟩, g1⟩, fun b' hb' => ?_⟩
      · rw [Nat.add_assoc, q3 _ (by simp at hj; omega), List.getElem?_drop]
      · rcases List.mem_cons.1 hb' with rfl | hb'
        · exact h9 _ (by simp)
        · exact h9 b' (by simp [g2 b' hb'])
    · cases ho
  · cases ho

theorem string_eq (x y : ByteArray) : (x.toList == y.toList) = decide (x = y) := by
  rw [ByteArray.toList_eq, ByteArray.toList_eq]
  by_cases h : x = y
  · subst h; simp
  · rw [decide_eq_false h]
    have : x.data.toList ≠ y.data.toList := fun e => h (by
      cases x; cases y
      congr 1
      exact Array.toList_inj.1 e)
    simpa using this

theorem eqInts_spec : ∀ {xs ys : List D} {b : Bool}, eqInts xs ys = some b → ∃ ps qs : List (IntKind × Int), xs = ps.map (fun p => D.v (.int p.1 p.2)) ∧ ys = qs.map (fun p => D.v (.int p.1 p.2)) ∧ ps.map (·.1) = qs.map (·.1) ∧ b = (ps.map (·.2) == qs.map (·.2))
  | [], [], b, h => ⟨[], [], rfl, rfl, rfl, by simpa [eqInts] using h.symm⟩
  | .v (.int k x) :: xs, .v (.int k' y) :: ys, b, h => by
    simp only [eqInts] at h
    split at h
    · rename_i hk
      subst hk
      simp only [Option.map_eq_some_iff] at h
      obtain ⟨b', h1, rfl⟩ := h
      obtain ⟨ps, qs, rfl, rfl, h2, rfl⟩ := eqInts_spec h1
      exact ⟨(k, x) :: ps, (k, y) :: qs, rfl, rfl, by simp [h2], by simp⟩
    · cases h
  | [], _ :: _, b, h => by simp [eqInts] at h
  | _ :: _, [], b, h => by simp [eqInts] at h
  | .v (.bool _) :: _, _ :: _, b, h => by simp [eqInts] at h
  | .v (.float _ _) :: _, _ :: _, b, h => by simp [eqInts] at h
  | .v (.complex _ _ _) :: _, _ :: _, b, h => by simp [eqInts] at h
  | .v (.string _) :: _, _ :: _, b, h => by simp [eqInts] at h
  | .v (.pointer _) :: _, _ :: _, b, h => by simp [eqInts] at h
  | .v (.slice _ _ _) :: _, _ :: _, b, h => by simp [eqInts] at h
  | .v (.map _) :: _, _ :: _, b, h => by simp [eqInts] at h
  | .v (.chan _) :: _, _ :: _, b, h => by simp [eqInts] at h
  | .v (.func _ _ _) :: _, _ :: _, b, h => by simp [eqInts] at h
  | .v .nilFunc :: _, _ :: _, b, h => by simp [eqInts] at h
  | .v (.iface _ _) :: _, _ :: _, b, h => by simp [eqInts] at h
  | .v .nilIface :: _, _ :: _, b, h => by simp [eqInts] at h
  | .v (.agg _) :: _, _ :: _, b, h => by simp [eqInts] at h
  | .v (.tuple _) :: _, _ :: _, b, h => by simp [eqInts] at h
  | .ag _ :: _, _ :: _, b, h => by simp [eqInts] at h
  | .ls _ _ _ :: _, _ :: _, b, h => by simp [eqInts] at h
  | .tu _ :: _, _ :: _, b, h => by simp [eqInts] at h
  | .pt _ :: _, _ :: _, b, h => by simp [eqInts] at h
  | .v (.int k x) :: xs, y :: ys, b, h => by
    cases y with
    | v y => cases y with
      | int k' y =>
        simp only [eqInts] at h
        split at h
        · rename_i hk
          subst hk
          simp only [Option.map_eq_some_iff] at h
          obtain ⟨b', h1, rfl⟩ := h
          obtain ⟨ps, qs, rfl, rfl, h2, rfl⟩ := eqInts_spec h1
          exact ⟨(k, x) :: ps, (k, y) :: qs, rfl, rfl, by simp [h2], by simp⟩
        · cases h
      | _ => simp [eqInts] at h
    | _ => simp [eqInts] at h

theorem rds_ints {o : Bool} : ∀ {ps : List (IntKind × Int)} {ys : List Value} {bs : List Nat}, RDs w o (ps.map fun p => D.v (.int p.1 p.2)) ys bs → ys = ps.map fun p => Value.int p.1 p.2
  | [], ys, bs, h => by simp only [List.map_nil, RDs] at h; simp [h.1]
  | p :: ps, ys, bs, h => by
    simp only [List.map_cons, RDs, RD] at h
    obtain ⟨x, xs', b1, b2, rfl, _, h3, h4⟩ := h
    rw [rds_ints h4, h3.1]
    rfl

theorem eqGuard_int {op : BinOp} {t : TypeId} {x y : Operand} {k k' : IntKind} {m n : Int} : (eqGuard op t x y (.int k m) (.int k' n)).run P w = .ok () w := by
  unfold eqGuard
  split <;> simp

theorem eqGuard_string {op : BinOp} {t : TypeId} {x y : Operand} {m n : ByteArray} : (eqGuard op t x y (.string m) (.string n)).run P w = .ok () w := by
  unfold eqGuard
  split <;> simp

theorem eqGuard_bool {op : BinOp} {t : TypeId} {x y : Operand} {m n : Bool} : (eqGuard op t x y (.bool m) (.bool n)).run P w = .ok () w := by
  unfold eqGuard
  split <;> simp

end

section
variable {P : Program} {w0 : Env} {w : World} {σ : St} {ν : Loc} {a : Act}

theorem equal_bool {t : TypeId} (hu : P.underlying t = some .bool) {m n : Bool} : (Op.equal t (.bool m) (.bool n)).run P w = .ok (m == n) w := by
  have : ∀ d, (Op.equalIn (d + 1) t (.bool m) (.bool n)).run P w = .ok (m == n) w := fun d => by
    simp only [Op.equalIn, Sem.run_bind, run_underlying hu, Result.andThen_ok, Sem.run_pure]
  exact this 9999

theorem binD_sound {t : TypeId} {op : BinOp} {x y : D} {p : Prop} {r : D} (ho : binD P t op x y = some (p, r)) (hp : p) {u v : Value} {bs bs' : List Nat} (hu : RD w false x u bs) (hv : RD w false y v bs') (ox oy : Operand) :
    ∃ z, RT P w (eqGuard op t ox oy u v) () ∧ RT P w (binOp op t u v) z ∧ RD w false r z [] := by
  unfold binD at ho
  split at ho
  · rename_i k m k' n
    simp only [RD] at hu hv
    obtain ⟨rfl, rfl⟩ := hu
    obtain ⟨rfl, rfl⟩ := hv
    cases op <;> simp only [] at ho
    case shl => obtain ⟨rfl, rfl⟩ := Prod.mk.inj (Option.some.inj ho); exact ⟨.int k (k.wrap (m * 2 ^ min n.toNat k.bits)), fun _ _ => eqGuard_int, fun w' _ => by simp [binOp, Op.shift, Int.not_lt.2 hp], by simp [RD]⟩
    case shr => obtain ⟨rfl, rfl⟩ := Prod.mk.inj (Option.some.inj ho); exact ⟨.int k (m.fdiv (2 ^ min n.toNat k.bits)), fun _ _ => eqGuard_int, fun w' _ => by simp [binOp, Op.shift, Int.not_lt.2 hp], by simp [RD]⟩
    all_goals
      split at ho
      · rename_i hk
        subst hk
        first
          | (obtain ⟨rfl, rfl⟩ := Prod.mk.inj (Option.some.inj ho)
             refine ⟨_, fun _ _ => eqGuard_int, fun w' _ => by simp [binOp, Op.intArith, Op.intDiv, Op.intBits, Op.intCmp, hp]; rfl, by simp [RD, bits]⟩)
          | cases ho
      · cases ho
  · rename_i m n
    simp only [RD] at hu hv
    obtain ⟨rfl, rfl⟩ := hu
    obtain ⟨rfl, rfl⟩ := hv
    split at ho
    · obtain ⟨rfl, rfl⟩ := Prod.mk.inj (Option.some.inj ho)
      refine ⟨.string (m ++ n), fun _ _ => eqGuard_string, ?_, by simp [RD]⟩
      intro w' _
      have : ¬ (((m.size + n.size : Nat) : Int) > IntKind.i64.max) := by
        have : IntKind.i64.max = 9223372036854775807 := by decide
        omega
      simp only [binOp, Op.stringOp]
      rw [if_neg this]
      rfl
    · obtain ⟨rfl, rfl⟩ := Prod.mk.inj (Option.some.inj ho)
      exact ⟨_, fun _ _ => eqGuard_string, fun w' _ => by simp only [binOp, Op.stringOp, string_eq]; rfl, by simp [RD]⟩
    · obtain ⟨rfl, rfl⟩ := Prod.mk.inj (Option.some.inj ho)
      exact ⟨_, fun _ _ => eqGuard_string, fun w' _ => by simp only [binOp, Op.stringOp, string_eq]; rfl, by simp [RD]⟩
    · obtain ⟨rfl, rfl⟩ := Prod.mk.inj (Option.some.inj ho)
      exact ⟨_, fun _ _ => eqGuard_string, fun w' _ => by simp only [binOp, Op.stringOp, string_eq]; rfl, by simp [RD]⟩
    · obtain ⟨rfl, rfl⟩ := Prod.mk.inj (Option.some.inj ho)
      exact ⟨_, fun _ _ => eqGuard_string, fun w' _ => by simp only [binOp, Op.stringOp, string_eq]; rfl, by simp [RD]⟩
    · obtain ⟨rfl, rfl⟩ := Prod.mk.inj (Option.some.inj ho)
      exact ⟨_, fun _ _ => eqGuard_string, fun w' _ => by simp only [binOp, Op.stringOp, string_eq]; rfl, by simp [RD]⟩
    · obtain ⟨rfl, rfl⟩ := Prod.mk.inj (Option.some.inj ho)
      exact ⟨_, fun _ _ => eqGuard_string, fun w' _ => by simp only [binOp, Op.stringOp, string_eq]; rfl, by simp [RD]⟩
    · cases ho
  · rename_i m n
    simp only [RD] at hu hv
    obtain ⟨rfl, rfl⟩ := hu
    obtain ⟨rfl, rfl⟩ := hv
    split at ho
    · obtain ⟨rfl, rfl⟩ := Prod.mk.inj (Option.some.inj ho)
      exact ⟨.bool (m == n), fun _ _ => eqGuard_bool, fun w' _ => by simp [binOp, equal_bool hp], by simp [RD]⟩
    · obtain ⟨rfl, rfl⟩ := Prod.mk.inj (Option.some.inj ho)
      exact ⟨.bool (m != n), fun _ _ => eqGuard_bool, fun w' _ => by simp [binOp, equal_bool hp, bne], by simp [RD]⟩
    · cases ho
  · rename_i xs ys
    simp only [RD] at hu hv
    obtain ⟨us, rfl, _, h1⟩ := hu
    obtain ⟨vs, rfl, _, h2⟩ := hv
    split at ho
    · simp only [Option.map_eq_some_iff] at ho
      obtain ⟨b, h3, h4⟩ := ho
      obtain ⟨rfl, rfl⟩ := Prod.mk.inj h4
      obtain ⟨ps, qs, rfl, rfl, h5, rfl⟩ := eqInts_spec h3
      have e1 := rds_ints h1
      have e2 := rds_ints h2
      have hpp := fun w' => hp ps qs ox oy w' (by simp) (by have := congrArg List.length h5; simpa using this.symm) h5 _ _ rfl rfl
      subst e1 e2
      exact ⟨_, fun w' _ => (hpp w').1, fun w' _ => by simp [binOp, (hpp w').2.2]; rfl, by simp [RD]⟩
    · simp only [Option.map_eq_some_iff] at ho
      obtain ⟨b, h3, h4⟩ := ho
      obtain ⟨rfl, rfl⟩ := Prod.mk.inj h4
      obtain ⟨ps, qs, rfl, rfl, h5, rfl⟩ := eqInts_spec h3
      have e1 := rds_ints h1
      have e2 := rds_ints h2
      have hpp := fun w' => hp ps qs ox oy w' (by simp) (by have := congrArg List.length h5; simpa using this.symm) h5 _ _ rfl rfl
      subst e1 e2
      exact ⟨_, fun w' _ => (hpp w').2.1, fun w' _ => by simp [binOp, (hpp w').2.2]; rfl, by simp [RD]⟩
    · cases ho
  · cases ho

theorem unD_sound {op : UnOp} {x r : D} (ho : unD op x = some r) {u : Value} {bs : List Nat} (hu : RD w false x u bs) : ∃ z, RT P w (Op.unary op u) z ∧ RD w false r z [] := by
  unfold unD at ho
  split at ho
  · simp only [RD] at hu
    obtain ⟨rfl, rfl⟩ := hu
    split at ho
    · cases ho; exact ⟨_, fun _ _ => rfl, by simp [RD]⟩
    · cases ho
  · simp only [RD] at hu
    obtain ⟨rfl, rfl⟩ := hu
    split at ho
    · cases ho; exact ⟨_, fun _ _ => rfl, by simp [RD]⟩
    · cases ho
  · cases ho

theorem VR.of_rd {ob : List (Nat × OB)} {r : D} {z : Value} (h : RD w false r z []) : VR P w0 w ob ν (.d r) z := by
  simp only [VR]
  exact ⟨[], h, by simp⟩

theorem VR.pick {ob : List (Nat × OB)} {c : Bool} {x y : AV} {u v : Value} (hx : VR P w0 w ob ν x u) (hy : VR P w0 w ob ν y v) : VR P w0 w ob ν (pickA c x y) (if c then u else v) := by
  unfold pickA
  split
  · have e1 := hx.val
    have e2 := hy.val
    subst e1 e2
    cases c <;> exact VR.mk _
  · cases c
    · simpa using hy
    · simpa using hx

theorem part_sound {t : TypeId} {ob : List (Nat × OB)} {cs : List AV} {o : Nat} {p : Prop} {x : AV} (ho : loadA P t cs o = some (p, x)) (hp : p) {ys : List Value} (h1 : Ones ys) (hr : VRs P w0 w ob ν cs ys) :
    ∃ v, RT P w (part t ys.toArray o) v ∧ VR P w0 w ob ν x v := by
  have hlen := hr.length
  unfold loadA at ho
  split at ho
  · rename_i ht
    obtain ⟨rfl, rfl⟩ := Prod.mk.inj (Option.some.inj ho)
    have h4 := (hr.drop o).take (P.cellsOf t)
    refine ⟨.agg ((ys.drop o).take (P.cellsOf t)).toArray, ?_, ?_⟩
    · intro w' _
      simp only [part, Sem.run_bind, run_agg (tAgg_some ht), Result.andThen_ok, ht, if_true, run_size (tAgg_some ht), Sem.run_pure]
      congr 2
      apply Array.ext'
      simp [List.extract_eq_take_drop]
    · unfold AV.pack
      split
      · rename_i ds hd
        rw [allD_spec hd] at h4
        obtain ⟨bs, h5, h6⟩ := h4.to_rds
        simp only [VR, RD]
        exact ⟨bs, ⟨_, rfl, (h1.drop o).take _, h5⟩, h6⟩
      · simp only [VR]
        exact ⟨_, rfl, (h1.drop o).take _, h4⟩
  · rename_i ht
    obtain ⟨rfl, rfl⟩ := Prod.mk.inj (Option.some.inj ho)
    obtain ⟨y, h2, h3⟩ := hr.get o hp.2
    refine ⟨y, ?_, h3⟩
    intro w' _
    simp only [part, Sem.run_bind, run_agg hp.1, Result.andThen_ok, ht]
    simp [h2]

theorem partD_sound {t : TypeId} {cs : List D} {o : Nat} {p : Prop} {x : D} (ho : loadD P t cs o = some (p, x)) (hp : p) {ys : List Value} {bs : List Nat} (h1 : Ones ys) (hr : RDs w false cs ys bs) :
    ∃ v bs', RT P w (part t ys.toArray o) v ∧ RD w false x v bs' ∧ ∀ b ∈ bs', b ∈ bs := by
  have hlen := hr.length
  unfold loadD at ho
  split at ho
  · rename_i ht
    obtain ⟨rfl, rfl⟩ := Prod.mk.inj (Option.some.inj ho)
    obtain ⟨bs1, h2, h3⟩ := hr.drop o
    obtain ⟨bs2, h4, h5⟩ := h2.take (P.cellsOf t)
    refine ⟨.agg ((ys.drop o).take (P.cellsOf t)).toArray, bs2, ?_, ?_, fun b hb => h3 b (h5 b hb)⟩
    · intro w' _
      simp only [part, Sem.run_bind, run_agg (tAgg_some ht), Result.andThen_ok, ht, if_true, run_size (tAgg_some ht), Sem.run_pure]
      congr 2
      apply Array.ext'
      simp [List.extract_eq_take_drop]
    · simp only [RD]
      exact ⟨_, rfl, (h1.drop o).take _, h4⟩
  · rename_i ht
    obtain ⟨rfl, rfl⟩ := Prod.mk.inj (Option.some.inj ho)
    obtain ⟨y, bs', h2, h3, h4⟩ := hr.get o hp.2
    refine ⟨y, bs', ?_, h3, h4⟩
    intro w' _
    simp only [part, Sem.run_bind, run_agg hp.1, Result.andThen_ok, ht]
    simp [h2]

theorem field_sound (h : Sim P w0 σ ν a w) {t : TypeId} {x : Operand} {f : Nat} {p : Prop} {r : AV} (ho : pureOp P σ (.field t x f) = some (p, r)) (hp : p) :
    ∃ v, RT P w (Instr.field t (a.eval x) f) v ∧ VR P w0 w σ.ob ν r v := by
  have hx := h.ev x
  simp only [pureOp] at ho
  split at ho
  · rename_i fs hfs
    split at ho
    · rename_i fd hfd
      split at ho
      · rename_i cs hsx
        rw [hsx] at hx
        simp only [VR, RD] at hx
        obtain ⟨bs, ⟨xs, h1, h2, h3⟩, h4⟩ := hx
        simp only [Option.map_eq_some_iff] at ho
        obtain ⟨⟨p', x'⟩, h8, h9⟩ := ho
        obtain ⟨rfl, rfl⟩ := Prod.mk.inj h9
        obtain ⟨v, bs', h5, h6, h7⟩ := partD_sound h8 hp h2 h3
        refine ⟨v, ?_, ?_⟩
        · rw [h1]
          simpa [RT, Instr.field, run_underlying hfs, hfd, asAgg] using h5
        · simp only [VR]
          exact ⟨bs', h6, fun b hb => h4 b (h7 b hb)⟩
      · rename_i cs hsx
        rw [hsx] at hx
        simp only [VR] at hx
        obtain ⟨xs, h1, h2, h3⟩ := hx
        obtain ⟨v, h5, h6⟩ := part_sound ho hp h2 h3
        refine ⟨v, ?_, h6⟩
        rw [h1]
        simpa [RT, Instr.field, run_underlying hfs, hfd, asAgg] using h5
      · cases ho
    · cases ho
  · cases ho

theorem extract_sound (h : Sim P w0 σ ν a w) {x : Operand} {i : Nat} {p : Prop} {r : AV} (ho : pureOp P σ (.extract x i) = some (p, r)) :
    ∃ v, RT P w (Instr.extract (a.eval x) i) v ∧ VR P w0 w σ.ob ν r v := by
  have hx := h.ev x
  simp only [pureOp] at ho
  split at ho
  · rename_i cs hsx
    rw [hsx] at hx
    simp only [VR, RD] at hx
    obtain ⟨bs, ⟨xs, h1, h2⟩, h3⟩ := hx
    split at ho
    · rename_i y hy
      obtain ⟨rfl, rfl⟩ := Prod.mk.inj (Option.some.inj ho)
      have hi := (List.getElem?_eq_some_iff.1 hy).1
      obtain ⟨z, bs', h4, h5, h6⟩ := h2.get i hi
      rw [List.getD_eq_getElem?_getD, hy] at h5
      refine ⟨z, ?_, ?_⟩
      · rw [h1]; simp [RT, Instr.extract, h4]
      · simp only [VR]
        exact ⟨bs', h5, fun b hb => h3 b (h6 b hb)⟩
    · cases ho
  · rename_i cs hsx
    rw [hsx] at hx
    simp only [VR] at hx
    obtain ⟨xs, h1, h2⟩ := hx
    split at ho
    · rename_i y hy
      obtain ⟨rfl, rfl⟩ := Prod.mk.inj (Option.some.inj ho)
      have hi := (List.getElem?_eq_some_iff.1 hy).1
      obtain ⟨z, h4, h5⟩ := h2.get i hi
      rw [List.getD_eq_getElem?_getD, hy] at h5
      exact ⟨z, by rw [h1]; simp [RT, Instr.extract, h4], h5⟩
    · cases ho
  · cases ho

theorem index_sound (h : Sim P w0 σ ν a w) {t : TypeId} {x y : Operand} {p : Prop} {r : AV} (ho : pureOp P σ (.index t x y) = some (p, r)) (hp : p) :
    ∃ v, RT P w (Instr.index t (a.eval x) (a.eval y)) v ∧ VR P w0 w σ.ob ν r v := by
  have hx := h.ev x
  have hy := h.ev y
  simp only [pureOp] at ho
  split at ho
  · rename_i s kk i hu hsx hsy
    obtain ⟨rfl, rfl⟩ := Prod.mk.inj (Option.some.inj ho)
    rw [hsx] at hx
    rw [hsy] at hy
    obtain ⟨h1, h2⟩ := hp
    have hi : i.toNat < s.size := by omega
    refine ⟨.int .u8 ((s.data.toList.getD i.toNat 0).toNat : Int), ?_, VR.mk _⟩
    rw [hx.val, hy.val]
    have hs : s[i.toNat]? = some (s.data.toList.getD i.toNat 0) := by
      rw [getElem?_pos s i.toNat hi]
      congr 1
      simp only [List.getD_eq_getElem?_getD, Array.getElem?_toList]
      rw [Array.getElem?_eq_getElem (by simpa using hi)]
      rfl
    intro w' _
    simp only [Instr.index, asIntOf, Sem.run_bind, Sem.run_pure, Result.andThen_ok, run_underlying hu, if_pos h1, hs]
  · rename_i n e cs kk i hu hsx hsy
    split at ho
    · cases ho
    · rename_i ht
      obtain ⟨rfl, rfl⟩ := Prod.mk.inj (Option.some.inj ho)
      rw [hsx] at hx
      rw [hsy] at hy
      obtain ⟨h1, h2, h3, h4, h5⟩ := hp
      simp only [VR, RD] at hx
      obtain ⟨bs, ⟨xs, g1, g2, g3⟩, g4⟩ := hx
      obtain ⟨z, bs', g5, g6, g7⟩ := g3.get i.toNat (by omega)
      refine ⟨z, ?_, ?_⟩
      · rw [g1, hy.val]
        intro w' _
        simp only [Instr.index, asIntOf, Sem.run_bind, Sem.run_pure, Result.andThen_ok, run_underlying hu, if_pos (show 0 ≤ i ∧ i < (n : Int) from ⟨h1, h2⟩), run_size' h4 (by decide), Nat.mul_one, part, run_agg h5, ht]
        simp [g5]
      · simp only [VR]
        exact ⟨bs', g6, fun b hb => g4 b (g7 b hb)⟩
  · cases ho

end

section
variable {P : Program} {w0 : Env} {w : World} {σ : St} {ν : Loc} {a : Act}

theorem run_bounds {isSlice : Bool} {len cap : Nat} {low high : Option Value} {l h : Nat}
    (hh : (high = none ∧ h = len) ∨ ∃ k i, high = some (.int k i) ∧ 0 ≤ i ∧ i ≤ cap ∧ h = i.toNat) (hl : (low = none ∧ l = 0) ∨ ∃ k i, low = some (.int k i) ∧ 0 ≤ i ∧ i ≤ h ∧ l = i.toNat) :
    (Instr.sliceBounds isSlice len cap low high none).run P w = .ok (l, h, cap) w := by
  rcases hh with ⟨rfl, rfl⟩ | ⟨k, i, rfl, h1, h2, rfl⟩ <;> rcases hl with ⟨rfl, rfl⟩ | ⟨k', i', rfl, h3, h4, rfl⟩
  · simp [Instr.sliceBounds]
  · simp [Instr.sliceBounds, Instr.sliceBound, asIntOf, h3, h4]
  · simp [Instr.sliceBounds, Instr.sliceBound, asIntOf, h1, h2]
  · simp [Instr.sliceBounds, Instr.sliceBound, asIntOf, h1, h2, h3]
    intro hlt
    omega

theorem run_sliceAt {t e : TypeId} (hu : P.underlying t = some (.slice e)) {ad : Option Addr} {n cap k l h : Nat} (hk : P.cellsOf e = k) (hk0 : k ≠ 0) {low high : Option Value}
    (hh : (high = none ∧ h = n) ∨ ∃ k i, high = some (.int k i) ∧ 0 ≤ i ∧ i ≤ cap ∧ h = i.toNat) (hl : (low = none ∧ l = 0) ∨ ∃ k i, low = some (.int k i) ∧ 0 ≤ i ∧ i ≤ h ∧ l = i.toNat) :
    (Instr.sliceAt t (.slice ad n cap) low high none).run P w = .ok (.slice (if cap = l then ad else ad.map (·.add (l * k))) (h - l) (cap - l)) w := by
  simp only [Instr.sliceAt, Sem.run_bind, run_underlying hu, Result.andThen_ok, Instr.slice, run_bounds hh hl, run_size' hk hk0, Sem.run_pure]

theorem run_sliceStr {t : TypeId} (hu : P.underlying t = some .string) {s : ByteArray} {l h : Nat} {low high : Option Value}
    (hh : (high = none ∧ h = s.size) ∨ ∃ k i, high = some (.int k i) ∧ 0 ≤ i ∧ i ≤ s.size ∧ h = i.toNat) (hl : (low = none ∧ l = 0) ∨ ∃ k i, low = some (.int k i) ∧ 0 ≤ i ∧ i ≤ h ∧ l = i.toNat) :
    (Instr.sliceAt t (.string s) low high none).run P w = .ok (.string (s.extract l h)) w := by
  simp only [Instr.sliceAt, Sem.run_bind, run_underlying hu, Result.andThen_ok, Instr.slice, run_bounds hh hl, Sem.run_pure, Option.isSome_none, Bool.false_eq_true, if_false]

theorem RD.part {k n l h : Nat} {cs : List D} {y : Value} {bs : List Nat} (hr : RD w false (.ls k n cs) y bs) (hl : l ≤ h) (hh : h ≤ n) :
    ∃ ad cap, y = .slice ad n cap ∧ n ≤ cap ∧ ∃ bs', RD w false (.ls k (h - l) ((cs.take (h * k)).drop (l * k))) (.slice (if cap = l then ad else ad.map (·.add (l * k))) (h - l) (cap - l)) bs' ∧ ∀ b ∈ bs', b ∈ bs := by
  simp only [RD] at hr
  rcases hr with ⟨a, c, rfl, _, rfl, rfl, rfl⟩ | ⟨b, off, cap, xs, bs1, rfl, rfl, h3, h4, h5, h6⟩
  · refine ⟨a, c, rfl, Nat.zero_le _, [], ?_, by simp⟩
    have e1 : l = 0 := by omega
    have e2 : h = 0 := by omega
    subst e1 e2
    simp only [RD]
    exact .inl ⟨_, _, rfl, (by first | trivial | rfl | simp), (by first | trivial | rfl | simp), (by first | trivial | rfl | simp), (by first | trivial | rfl | simp)⟩
  · refine ⟨_, cap, rfl, h4, ?_⟩
    obtain ⟨bs2, g1, g2⟩ := h6.take (h * k)
    obtain ⟨bs3, g3, g4⟩ := g1.drop (l * k)
    obtain ⟨q1, c, T, fz, q2, q3, _⟩ := h5
    have hlen := h6.length
    have hb : l * k ≤ h * k := Nat.mul_le_mul_right k hl
    have hb2 : h * k ≤ n * k := Nat.mul_le_mul_right k hh
    by_cases hc : cap = l
    · rw [if_pos hc]
      have e1 : h = l := by omega
      have e2 : n = l := by omega
      subst e1
      refine ⟨[b], ?_, by simp⟩
      simp only [RD]
      refine .inr ⟨b, off, cap - h, [], [], by simp, by simp, by simp, by omega, ⟨(fun x hx => by cases hx), c, T, fz, q2, (fun i hi => by simp at hi), (fun e => by cases e)⟩, ?_⟩
      have : (cs.take (h * k)).drop (h * k) = [] := List.drop_eq_nil_of_le (by simp; omega)
      rw [this]
      simp [RDs]
    · rw [if_neg hc]
      refine ⟨b :: bs3, ?_, fun b' hb' => ?_⟩
      · simp only [RD]
        refine .inr ⟨b, off + l * k, cap - l, (xs.take (h * k)).drop (l * k), bs3, by simp [addr_add], rfl, ?_, by omega, ⟨(q1.take _).drop _, c, T, fz, q2, fun i hi => ?_, fun e => by cases e⟩, g3⟩
        · simp only [List.length_drop, List.length_take]
          rw [Nat.sub_mul]
          omega
        · simp only [List.length_drop, List.length_take] at hi
          rw [Nat.add_assoc, q3 _ (by omega), List.getElem?_drop, List.getElem?_take, if_pos (by omega)]
      · rcases List.mem_cons.1 hb' with rfl | hb'
        · simp
        · simp [g2 b' (g4 b' hb')]

theorem VR.part {ob : List (Nat × OB)} {s off n k l h : Nat} {y : Value} (hr : VR P w0 w ob ν (.bs s off n k) y) (hs : (lookO ob s).isSome = true) (hl : l ≤ h) (hh : h ≤ n) :
    ∃ ad cap, y = .slice ad n cap ∧ n ≤ cap ∧ VR P w0 w ob ν (.bs s (off + l * k) (h - l) k) (.slice (if cap = l then ad else ad.map (·.add (l * k))) (h - l) (cap - l)) := by
  simp only [VR] at hr
  obtain ⟨hle, hr⟩ := hr hs
  have hle2 : ∀ o, lookO ob s = some o → off + l * k + (h - l) * k ≤ (obCells o).length := fun o ho => by
    have h1 := hle o ho
    have h2 : (h - l) * k + l * k ≤ n * k := by rw [← Nat.add_mul]; exact Nat.mul_le_mul_right k (by omega)
    omega
  rcases hr with ⟨h1, rfl, rfl, rfl⟩ | ⟨b, base, cap, ad, c, T, h1, rfl, h3, h4, h5, h6⟩
  · refine ⟨none, 0, rfl, Nat.le_refl _, ?_⟩
    have e1 : l = 0 := by omega
    have e2 : h = 0 := by omega
    subst e1 e2
    simp only [VR]
    exact fun _ => ⟨hle2, .inl ⟨h1, by simp, by simp, by simp⟩⟩
  · refine ⟨_, cap, rfl, h3, ?_⟩
    simp only [VR]
    intro _
    refine ⟨hle2, .inr ⟨b, base, cap - l, (if cap = l then ad else ad.add (l * k)), c, T, h1, by split <;> simp, by omega, ?_, h5, ?_⟩⟩
    · by_cases hc : cap = l
      · refine .inl ⟨by omega, ?_⟩
        rw [if_pos hc]
        rcases h4 with ⟨_, h4⟩ | rfl
        · exact h4
        · exact ⟨_, by omega, rfl⟩
      · rcases h4 with ⟨h4, _⟩ | h4
        · omega
        · subst h4
          rw [if_neg hc]
          exact .inr (by rw [addr_add, Nat.add_assoc])
    · rw [Nat.sub_mul]
      have : l * k ≤ cap * k := Nat.mul_le_mul_right k (by omega)
      omega

theorem slice_sound (h : Sim P w0 σ ν a w) {t : TypeId} {x : Operand} {lo hi mx : Option Operand} {p : Prop} {r : AV} (ho : pureOp P σ (.slice t x lo hi mx) = some (p, r)) (hp : p) :
    ∃ v, RT P w (Instr.sliceAt t (a.eval x) (lo.map a.eval) (hi.map a.eval) (mx.map a.eval)) v ∧ VR P w0 w σ.ob ν r v := by
  have hx := h.ev x
  cases mx with
  | some m => simp [pureOp] at ho
  | none =>
  have hop : ∀ (o : Option Operand) (k : IntKind) (i : Int), o.map σ.ev = some (.d (.v (.int k i))) → o.map a.eval = some (.int k i) := fun o k i he => by
    obtain ⟨o', rfl, e⟩ := Option.map_eq_some_iff.1 he
    have := h.ev o'
    rw [e] at this
    simp [this.val]
  simp only [pureOp] at ho
  split at ho
  · rename_i e s off n k hu hsx
    rw [hsx] at hx
    split at ho
    · rename_i hlo hhi
      obtain ⟨rfl, rfl⟩ := Prod.mk.inj (Option.some.inj ho)
      obtain ⟨hk, hk0, hs⟩ := hp
      obtain ⟨ad, cap, e1, e2, e3⟩ := hx.part hs (Nat.zero_le n) (Nat.le_refl n)
      have z1 : lo = none := by simpa using hlo
      have z2 : hi = none := by simpa using hhi
      subst z1 z2
      refine ⟨_, by rw [e1]; exact fun _ _ => run_sliceAt hu hk hk0 (.inl ⟨rfl, rfl⟩) (.inl ⟨rfl, rfl⟩), by simpa using e3⟩
    · rename_i kk i hlo hhi
      obtain ⟨rfl, rfl⟩ := Prod.mk.inj (Option.some.inj ho)
      obtain ⟨q1, q2, hk, hk0, hs⟩ := hp
      obtain ⟨ad, cap, e1, e2, e3⟩ := hx.part hs (l := i.toNat) (h := n) (by omega) (Nat.le_refl n)
      have z2 : hi = none := by simpa using hhi
      subst z2
      exact ⟨_, by rw [e1, hop _ _ _ hlo]; exact fun _ _ => run_sliceAt hu hk hk0 (.inl ⟨rfl, rfl⟩) (.inr ⟨_, _, rfl, q1, q2, rfl⟩), e3⟩
    · rename_i kk i hlo hhi
      obtain ⟨rfl, rfl⟩ := Prod.mk.inj (Option.some.inj ho)
      obtain ⟨q1, q2, hk, hk0, hs⟩ := hp
      obtain ⟨ad, cap, e1, e2, e3⟩ := hx.part hs (l := 0) (h := i.toNat) (by omega) (by omega)
      have z2 : lo = none := by simpa using hlo
      subst z2
      exact ⟨_, by rw [e1, hop _ _ _ hhi]; exact fun _ _ => run_sliceAt hu hk hk0 (.inr ⟨_, _, rfl, q1, by omega, rfl⟩) (.inl ⟨rfl, rfl⟩), by simpa using e3⟩
    · rename_i kk i kk' j hlo hhi
      obtain ⟨rfl, rfl⟩ := Prod.mk.inj (Option.some.inj ho)
      obtain ⟨q1, q2, q3, hk, hk0, hs⟩ := hp
      obtain ⟨ad, cap, e1, e2, e3⟩ := hx.part hs (l := i.toNat) (h := j.toNat) (by omega) (by omega)
      exact ⟨_, by rw [e1, hop _ _ _ hhi, hop _ _ _ hlo]; exact fun _ _ => run_sliceAt hu hk hk0 (.inr ⟨_, _, rfl, by omega, by omega, rfl⟩) (.inr ⟨_, _, rfl, q1, by omega, rfl⟩), e3⟩
    · cases ho
  · rename_i e k n cs hu hsx
    rw [hsx] at hx
    simp only [VR] at hx
    obtain ⟨bs, hx, hf⟩ := hx
    have hlen : cs.length = n * k := by
      simp only [RD] at hx
      rcases hx with ⟨_, _, _, _, rfl, rfl, _⟩ | ⟨b, off, cap, xs, bs', _, _, h3, _⟩
      · simp
      · exact h3.symm
    split at ho
    · rename_i hlo hhi
      obtain ⟨rfl, rfl⟩ := Prod.mk.inj (Option.some.inj ho)
      obtain ⟨hk, hk0⟩ := hp
      obtain ⟨ad, cap, e1, e2, bs', e3, e4⟩ := hx.part (Nat.zero_le n) (Nat.le_refl n)
      have z1 : lo = none := by simpa using hlo
      have z2 : hi = none := by simpa using hhi
      subst z1 z2
      refine ⟨_, by rw [e1]; exact fun _ _ => run_sliceAt hu hk hk0 (.inl ⟨rfl, rfl⟩) (.inl ⟨rfl, rfl⟩), ?_⟩
      simp only [VR]
      refine ⟨bs', ?_, fun b hb => hf b (e4 b hb)⟩
      rw [List.take_of_length_le (by omega)] at e3
      simpa using e3
    · rename_i kk i hlo hhi
      obtain ⟨rfl, rfl⟩ := Prod.mk.inj (Option.some.inj ho)
      obtain ⟨q1, q2, hk, hk0⟩ := hp
      obtain ⟨ad, cap, e1, e2, bs', e3, e4⟩ := hx.part (l := i.toNat) (h := n) (by omega) (Nat.le_refl n)
      have z2 : hi = none := by simpa using hhi
      subst z2
      refine ⟨_, by rw [e1, hop _ _ _ hlo]; exact fun _ _ => run_sliceAt hu hk hk0 (.inl ⟨rfl, rfl⟩) (.inr ⟨_, _, rfl, q1, q2, rfl⟩), ?_⟩
      simp only [VR]
      refine ⟨bs', ?_, fun b hb => hf b (e4 b hb)⟩
      rw [List.take_of_length_le (by omega)] at e3
      exact e3
    · rename_i kk i hlo hhi
      obtain ⟨rfl, rfl⟩ := Prod.mk.inj (Option.some.inj ho)
      obtain ⟨q1, q2, hk, hk0⟩ := hp
      obtain ⟨ad, cap, e1, e2, bs', e3, e4⟩ := hx.part (l := 0) (h := i.toNat) (by omega) (by omega)
      have z2 : lo = none := by simpa using hlo
      subst z2
      refine ⟨_, by rw [e1, hop _ _ _ hhi]; exact fun _ _ => run_sliceAt hu hk hk0 (.inr ⟨_, _, rfl, q1, by omega, rfl⟩) (.inl ⟨rfl, rfl⟩), ?_⟩
      simp only [VR]
      exact ⟨bs', by simpa using e3, fun b hb => hf b (e4 b hb)⟩
    · rename_i kk i kk' j hlo hhi
      obtain ⟨rfl, rfl⟩ := Prod.mk.inj (Option.some.inj ho)
      obtain ⟨q1, q2, q3, hk, hk0⟩ := hp
      obtain ⟨ad, cap, e1, e2, bs', e3, e4⟩ := hx.part (l := i.toNat) (h := j.toNat) (by omega) (by omega)
      refine ⟨_, by rw [e1, hop _ _ _ hhi, hop _ _ _ hlo]; exact fun _ _ => run_sliceAt hu hk hk0 (.inr ⟨_, _, rfl, by omega, by omega, rfl⟩) (.inr ⟨_, _, rfl, q1, by omega, rfl⟩), ?_⟩
      simp only [VR]
      exact ⟨bs', e3, fun b hb => hf b (e4 b hb)⟩
    · cases ho
  · rename_i s hu hsx
    rw [hsx] at hx
    rw [hx.val]
    split at ho
    · rename_i kk i hlo hhi
      obtain ⟨rfl, rfl⟩ := Prod.mk.inj (Option.some.inj ho)
      have z2 : hi = none := by simpa using hhi
      subst z2
      exact ⟨_, by rw [hop _ _ _ hlo]; exact fun _ _ => run_sliceStr hu (.inl ⟨rfl, rfl⟩) (.inr ⟨_, _, rfl, hp.1, hp.2, rfl⟩), VR.mk _⟩
    · rename_i kk i hlo hhi
      obtain ⟨rfl, rfl⟩ := Prod.mk.inj (Option.some.inj ho)
      have z2 : lo = none := by simpa using hlo
      subst z2
      exact ⟨_, by rw [hop _ _ _ hhi]; exact fun _ _ => run_sliceStr hu (.inr ⟨_, _, rfl, hp.1, hp.2, rfl⟩) (.inl ⟨rfl, rfl⟩), VR.mk _⟩
    · rename_i kk i kk' j hlo hhi
      obtain ⟨rfl, rfl⟩ := Prod.mk.inj (Option.some.inj ho)
      obtain ⟨q1, q2, q3⟩ := hp
      exact ⟨_, by rw [hop _ _ _ hlo, hop _ _ _ hhi]; exact fun _ _ => run_sliceStr hu (.inr ⟨_, _, rfl, by omega, by omega, rfl⟩) (.inr ⟨_, _, rfl, q1, by omega, rfl⟩), VR.mk _⟩
    · cases ho
  · cases ho

end

section
variable {P : Program} {w0 : Env} {w w' : World} {σ : St} {ν : Loc} {a : Act}

theorem VRs.vals {ob : List (Nat × OB)} : ∀ (vs : List Value), VRs P w0 w ob ν ((vs.map D.v).map AV.d) vs
  | [] => by simp [VRs]
  | v :: vs => by
    simp only [List.map_cons, VRs]
    exact ⟨v, vs, rfl, VR.mk v, VRs.vals vs⟩

theorem zero_run {t : TypeId} (hz : zeroOk P t = true) : ∃ z, (zeroValue t).run P w = .ok z w ∧ z.cells.toList = zeroV P t ∧ (∀ x ∈ zeroV P t, x.oneCell' = true) ∧ (zeroV P t).length = P.cellsOf t := by
  simp only [zeroOk, Bool.and_eq_true, beq_iff_eq, List.all_eq_true] at hz
  obtain ⟨⟨h1, h2⟩, h3⟩ := hz
  cases hi : P.info? t with
  | none => simp [hi] at h1
  | some i =>
    cases hzi : i.zero with
    | none => simp [hi, hzi] at h1
    | some z =>
      refine ⟨z, by simp [zeroValue, typeInfo, hi, hzi], by simp [zeroV, hi, hzi], h2, h3⟩

theorem split_sound {ob : List (Nat × OB)} {x : AV} {cs : List AV} (hs : x.split ob = some cs) {v : Value} (hv : VR P w0 w ob ν x v) : ∃ xs, v.cells = xs.toArray ∧ Ones xs ∧ VRs P w0 w ob ν cs xs := by
  have hone : ∀ y : AV, y.one ob = true → ∀ u, VR P w0 w ob ν y u → u.oneCell' = true := by
    intro y hy u hu
    cases y with
    | d y =>
      cases y with
      | v z => rw [hu.val]; simpa [AV.one] using hy
      | ls k n cs =>
        simp only [VR, RD] at hu
        obtain ⟨bs, hu, _⟩ := hu
        rcases hu with ⟨_, _, rfl, _⟩ | ⟨b, off, cap, xs, bs', rfl, _⟩ <;> rfl
      | pt cs =>
        simp only [VR, RD] at hu
        obtain ⟨bs, ⟨b, off, xs, bs', rfl, _⟩, _⟩ := hu
        rfl
      | ag cs => simp [AV.one] at hy
      | tu cs => simp [AV.one] at hy
    | bp s o =>
      simp only [VR] at hu
      obtain ⟨b, base, _, rfl⟩ := hu (by simpa [AV.one] using hy)
      rfl
    | bs s off n k =>
      simp only [VR] at hu
      rcases (hu (by simpa [AV.one] using hy)).2 with ⟨_, rfl, _⟩ | ⟨b, base, cap, ad, c, T, _, rfl, _⟩ <;> rfl
    | fn dom k =>
      simp only [VR, RF] at hu
      obtain ⟨g, first, cap, rfl, _⟩ := hu
      rfl
    | fc g l1 l2 =>
      simp only [VR] at hu
      obtain ⟨xs, ys, rfl, _⟩ := hu
      rfl
    | _ => simp [AV.one] at hy
  have hcells : ∀ u : Value, u.oneCell' = true → u.cells = #[u] := by
    intro u hu
    cases u <;> first | rfl | (simp [Value.oneCell'] at hu)
  have hsingle : ∀ y : AV, (if y.one ob then some [y] else none) = some cs → VR P w0 w ob ν y v → ∃ xs, v.cells = xs.toArray ∧ Ones xs ∧ VRs P w0 w ob ν cs xs := by
    intro y hy hv
    split at hy
    · rename_i h1
      cases hy
      have h2 := hone y h1 v hv
      refine ⟨[v], hcells v h2, fun x hx => by simp at hx; subst hx; exact h2, ?_⟩
      simp only [VRs]
      exact ⟨v, [], rfl, hv, rfl⟩
    · cases hy
  unfold AV.split at hs
  split at hs
  · rename_i ds
    cases hs
    simp only [VR, RD] at hv
    obtain ⟨bs, ⟨xs, rfl, h1, h2⟩, h3⟩ := hv
    exact ⟨xs, rfl, h1, VRs.of_rds h2 h3⟩
  · cases hs
    simp only [VR] at hv
    obtain ⟨xs, rfl, h1, h2⟩ := hv
    exact ⟨xs, rfl, h1, h2⟩
  · exact hsingle _ hs hv

theorem foldl_fill (off : Nat) : ∀ (l : List Value) (j : Nat) (cells : Array Value), off + j + l.length ≤ cells.size →
    ((l.zipIdx j).foldl (fun cs (p : Value × Nat) => cs.setIfInBounds (off + p.2) p.1) cells).toList = cells.toList.take (off + j) ++ l ++ cells.toList.drop (off + j + l.length)
  | [], j, cells, h => by simp
  | v :: l, j, cells, h => by
    simp only [List.zipIdx_cons, List.foldl_cons]
    simp only [List.length_cons] at h
    rw [foldl_fill off l (j + 1) _ (by simp; omega)]
    simp only [Array.toList_setIfInBounds, List.length_cons]
    have h1 : off + j < cells.toList.length := by simp; omega
    have e1 : (cells.toList.set (off + j) v).take (off + (j + 1)) = cells.toList.take (off + j) ++ [v] := by
      rw [show off + (j + 1) = off + j + 1 from by omega, List.take_set, List.take_succ_eq_append_getElem h1, List.set_append_right _ _ (by simp; omega)]
      have : off + j - (cells.toList.take (off + j)).length = 0 := by simp; omega
      rw [this]
      rfl
    have e2 : (cells.toList.set (off + j) v).drop (off + (j + 1) + l.length) = cells.toList.drop (off + j + (l.length + 1)) := by
      rw [List.drop_set_of_lt (by omega), show off + (j + 1) + l.length = off + j + (l.length + 1) from by omega]
    rw [e1, e2]
    simp

theorem VRs.splice {ob : List (Nat × OB)} {cs ys : List AV} {xs vs : List Value} (h : VRs P w0 w ob ν cs xs) (h' : VRs P w0 w ob ν ys vs) (off : Nat) :
    VRs P w0 w ob ν (cs.take off ++ ys ++ cs.drop (off + ys.length)) (xs.take off ++ vs ++ xs.drop (off + vs.length)) := by
  rw [h'.length]
  exact ((h.take off).append h').append (h.drop _)

theorem Ones.append {xs ys : List Value} (h : Ones xs) (h' : Ones ys) : Ones (xs ++ ys) := fun x hx => by
  rcases List.mem_append.1 hx with hx | hx
  · exact h x hx
  · exact h' x hx

theorem fill_sound (k : Nat) {ob : List (Nat × OB)} : ∀ (ps : List (Nat × AV)) (qs : List (Nat × Value)), ps.map (·.1) = qs.map (·.1) → (∀ (i : Nat) (p : Nat × AV) (q : Nat × Value), ps[i]? = some p → qs[i]? = some q → VR P w0 w ob ν p.2 q.2) →
    ∀ (cs : List AV) (xs : Array Value) (rs : List AV), VRs P w0 w ob ν cs xs.toList → Ones xs.toList → fillA ob k ps cs = some rs →
      ∃ ys : Array Value, Instr.fill (fun i => some (i * k, k)) xs qs = some ys ∧ VRs P w0 w ob ν rs ys.toList ∧ Ones ys.toList ∧ ys.size = xs.size
  | [], [], _, _, cs, xs, rs, h, h1, hf => by
    simp only [fillA, Option.some.injEq] at hf
    subst hf
    exact ⟨xs, rfl, h, h1, rfl⟩
  | [], _ :: _, he, _, _, _, _, _, _, _ => by simp at he
  | _ :: _, [], he, _, _, _, _, _, _, _ => by simp at he
  | (i, x) :: ps, (i', v) :: qs, he, hv, cs, xs, rs, h, h1, hf => by
    simp only [List.map_cons, List.cons.injEq] at he
    obtain ⟨rfl, he⟩ := he
    have hx := hv 0 _ _ rfl rfl
    simp only [fillA] at hf
    split at hf
    · rename_i ys hys
      split at hf
      · rename_i hk
        obtain ⟨hk1, hk2⟩ := hk
        obtain ⟨vs, g1, g2, g3⟩ := split_sound hys hx
        have hlen := h.length
        have hvl := g3.length
        simp only [Array.length_toList] at hlen
        have hsz : v.cells.size = k := by rw [g1]; simp; omega
        have e := foldl_fill (i * k) vs 0 xs (by omega)
        simp only [Nat.add_zero] at e
        obtain ⟨zs, q1, q2, q3, q4⟩ := fill_sound k ps qs he (fun j p q hp hq => hv (j + 1) p q (by simpa using hp) (by simpa using hq)) _
          (vs.zipIdx.foldl (fun cs (p : Value × Nat) => cs.setIfInBounds (i * k + p.2) p.1) xs) rs (by rw [e, ← hk1]; exact h.splice g3 _) (by rw [e]; exact ((h1.take _).append g2).append (h1.drop _)) hf
        refine ⟨zs, ?_, q2, q3, ?_⟩
        · simp only [Instr.fill]
          rw [if_neg (by simp [hsz]; omega)]
          rw [g1]
          have : (vs.toArray.zipIdx.foldl (fun cs (x : Value × Nat) => cs.setIfInBounds (i * k + x.2) x.1) xs) = vs.zipIdx.foldl (fun cs (p : Value × Nat) => cs.setIfInBounds (i * k + p.2) p.1) xs := by
            rw [← Array.foldl_toList]
            simp
          simp only [this]
          exact q1
        · rw [q4, ← Array.length_toList, e]
          simp
          omega
      · cases hf
    · cases hf

theorem fillP_sound (pl : Nat → Option (Nat × Nat)) {ob : List (Nat × OB)} : ∀ (ps : List (Nat × AV)) (qs : List (Nat × Value)), ps.map (·.1) = qs.map (·.1) → (∀ (i : Nat) (p : Nat × AV) (q : Nat × Value), ps[i]? = some p → qs[i]? = some q → VR P w0 w ob ν p.2 q.2) →
    ∀ (cs : List AV) (xs : Array Value) (rs : List AV), VRs P w0 w ob ν cs xs.toList → Ones xs.toList → fillP ob pl ps cs = some rs →
      ∃ ys : Array Value, Instr.fill pl xs qs = some ys ∧ VRs P w0 w ob ν rs ys.toList ∧ Ones ys.toList ∧ ys.size = xs.size
  | [], [], _, _, cs, xs, rs, h, h1, hf => by
    simp only [fillP, Option.some.injEq] at hf
    subst hf
    exact ⟨xs, rfl, h, h1, rfl⟩
  | [], _ :: _, he, _, _, _, _, _, _, _ => by simp at he
  | _ :: _, [], he, _, _, _, _, _, _, _ => by simp at he
  | (i, x) :: ps, (i', v) :: qs, he, hv, cs, xs, rs, h, h1, hf => by
    simp only [List.map_cons, List.cons.injEq] at he
    obtain ⟨rfl, he⟩ := he
    have hx := hv 0 _ _ rfl rfl
    simp only [fillP] at hf
    split at hf
    · rename_i o k ys hpl hys
      split at hf
      · rename_i hk
        obtain ⟨hk1, hk2⟩ := hk
        obtain ⟨vs, g1, g2, g3⟩ := split_sound hys hx
        have hlen := h.length
        have hvl := g3.length
        simp only [Array.length_toList] at hlen
        have hsz : v.cells.size = k := by rw [g1]; simp; omega
        have e := foldl_fill (o) vs 0 xs (by omega)
        simp only [Nat.add_zero] at e
        obtain ⟨zs, q1, q2, q3, q4⟩ := fillP_sound pl ps qs he (fun j p q hp hq => hv (j + 1) p q (by simpa using hp) (by simpa using hq)) _
          (vs.zipIdx.foldl (fun cs (p : Value × Nat) => cs.setIfInBounds (o + p.2) p.1) xs) rs (by rw [e, ← hk1]; exact h.splice g3 _) (by rw [e]; exact ((h1.take _).append g2).append (h1.drop _)) hf
        refine ⟨zs, ?_, q2, q3, ?_⟩
        · simp only [Instr.fill, hpl]
          rw [if_neg (by simp [hsz]; omega)]
          rw [g1]
          have : (vs.toArray.zipIdx.foldl (fun cs (x : Value × Nat) => cs.setIfInBounds (o + x.2) x.1) xs) = vs.zipIdx.foldl (fun cs (p : Value × Nat) => cs.setIfInBounds (o + p.2) p.1) xs := by
            rw [← Array.foldl_toList]
            simp
          simp only [this]
          exact q1
        · rw [q4, ← Array.length_toList, e]
          simp
          omega
      · cases hf
    · cases hf

theorem mapM_places {P : Program} : ∀ {fs : List Field}, allU P fs → fs.mapM (fun f => (P.info? f.type).map fun i => (f.offset, i.size)) = some (fs.map fun f => (f.offset, P.cellsOf f.type))
  | [], _ => rfl
  | f :: fs, h => by
    simp only [allU] at h
    obtain ⟨h1, h2⟩ := h
    have : ∃ i, P.info? f.type = some i := by
      cases hi : P.info? f.type with
      | none => simp [Program.underlying, hi] at h1
      | some i => exact ⟨i, rfl⟩
    obtain ⟨i, hi⟩ := this
    simp [List.mapM_cons, hi, mapM_places h2, Program.cellsOf]

theorem VRs.evs0 (hev : ∀ x : Operand, VR P w0 w σ.ob ν (σ.ev x) (a.eval x)) (parts : List (Nat × Operand)) (i : Nat) (p : Nat × AV) (q : Nat × Value) (hp : (parts.map fun x => (x.1, σ.ev x.2))[i]? = some p) (hq : (parts.map fun x => (x.1, a.eval x.2))[i]? = some q) : VR P w0 w σ.ob ν p.2 q.2 := by
  simp only [List.getElem?_map, Option.map_eq_some_iff] at hp hq
  obtain ⟨x, hx, rfl⟩ := hp
  obtain ⟨y, hy, rfl⟩ := hq
  rw [hx] at hy
  cases hy
  exact hev x.2

theorem VR.packed {ob : List (Nat × OB)} {cs : List AV} {ys : List Value} (h1 : Ones ys) (h2 : VRs P w0 w ob ν cs ys) : VR P w0 w ob ν (AV.pack cs) (.agg ys.toArray) := by
  unfold AV.pack
  split
  · rename_i ds hd
    rw [allD_spec hd] at h2
    obtain ⟨bs, h5, h6⟩ := h2.to_rds
    simp only [VR, RD]
    exact ⟨bs, ⟨_, rfl, h1, h5⟩, h6⟩
  · simp only [VR]
    exact ⟨_, rfl, h1, h2⟩

theorem build_sound (h : Sim P w0 σ ν a w) {t : TypeId} {parts : Array (Nat × Operand)} {p : Prop} {r : AV} (ho : pureOp P σ (.build t parts) = some (p, r)) (hp : p) :
    ∃ v, RT P w (Instr.build t (parts.map fun (i, x) => (i, a.eval x))) v ∧ VR P w0 w σ.ob ν r v := by
  have zz : ∀ {t : TypeId}, zeroOk P t = true → ∃ i z, P.info? t = some i ∧ i.zero = some z ∧ z.cells = (zeroV P t).toArray ∧ Ones (zeroV P t) := fun {t} hz => by
    simp only [zeroOk, Bool.and_eq_true, beq_iff_eq, List.all_eq_true] at hz
    obtain ⟨⟨h1, h2⟩, h3⟩ := hz
    cases hi : P.info? t with
    | none => simp [hi] at h1
    | some i =>
      cases hzi : i.zero with
      | none => simp [hi, hzi] at h1
      | some z => exact ⟨i, z, rfl, hzi, by simp [zeroV, hi, hzi], h2⟩
  have key : ∀ (pl : Nat → Option (Nat × Nat)) (cs : List AV), zeroOk P t = true → fillP σ.ob pl (parts.toList.map fun x => (x.1, σ.ev x.2)) ((zeroD P t).map AV.d) = some cs →
      ∃ ys : Array Value, Instr.fill pl (zeroV P t).toArray (parts.toList.map fun x => (x.1, a.eval x.2)) = some ys ∧ VR P w0 w σ.ob ν (AV.pack cs) (.agg ys) := fun pl cs hz hf => by
    obtain ⟨i, z, _, _, _, h1⟩ := zz hz
    obtain ⟨ys, q1, q2, q3, q4⟩ := fillP_sound (P := P) (w0 := w0) (w := w) (ν := ν) pl (parts.toList.map fun x => (x.1, σ.ev x.2)) (parts.toList.map fun x => (x.1, a.eval x.2)) (by simp [Function.comp_def])
      (VRs.evs0 (fun x => h.ev x) parts.toList) ((zeroD P t).map AV.d) (zeroV P t).toArray cs (by simpa [zeroD] using VRs.vals (zeroV P t)) (by simpa using h1) hf
    exact ⟨ys, q1, by simpa using VR.packed q3 q2⟩
  have hpl : (parts.map fun (i, x) => (i, a.eval x)).toList = parts.toList.map fun x => (x.1, a.eval x.2) := by simp
  simp only [pureOp] at ho
  split at ho
  · rename_i fs hu
    split at ho
    · rename_i cs hcs
      obtain ⟨rfl, rfl⟩ := Prod.mk.inj (Option.some.inj ho)
      obtain ⟨i, z, hi, hz, hzc, _⟩ := zz hp.1
      obtain ⟨ys, q1, q2⟩ := key _ cs hp.1 hcs
      refine ⟨.agg ys, fun w' _ => run_build w' t _ ys ?_, q2⟩
      have hm := mapM_places hp.2
      simp only [Program.built, hi, hu, hz, hm, hpl, hzc]
      rw [← q1]
      congr 1
      funext j
      simp only [List.getElem?_toArray, List.getElem?_map, Array.getElem?_toList]
    · cases ho
  · rename_i n e hu
    split at ho
    · rename_i cs hcs
      obtain ⟨rfl, rfl⟩ := Prod.mk.inj (Option.some.inj ho)
      obtain ⟨i, z, hi, hz, hzc, _⟩ := zz hp.1
      obtain ⟨ys, q1, q2⟩ := key _ cs hp.1 hcs
      refine ⟨.agg ys, fun w' _ => run_build w' t _ ys ?_, q2⟩
      have he : ∃ i, P.info? e = some i := by
        cases hi : P.info? e with
        | none => have := hp.2; simp [Program.underlying, hi] at this
        | some i => exact ⟨i, rfl⟩
      obtain ⟨ie, he⟩ := he
      have hce : P.cellsOf e = ie.size := by simp [Program.cellsOf, he]
      rw [hce] at q1
      simp only [Program.built, hi, hu, hz, he, hpl, hzc]
      exact q1
    · cases ho
  · cases ho

end

section
variable {P : Program} {w0 : Env} {w : World} {σ : St} {ν : Loc} {a : Act}

theorem VRs.evs (h : Sim P w0 σ ν a w) : ∀ (l : List Operand), VRs P w0 w σ.ob ν (l.map σ.ev) (l.map a.eval)
  | [] => by simp [VRs]
  | x :: l => by
    simp only [List.map_cons, VRs]
    exact ⟨_, _, rfl, h.ev x, VRs.evs h l⟩

theorem run_len_slice {ts : Array TypeId} {ty t e : TypeId} (hu : P.underlying t = some (.slice e)) (hts : ts.toList = [t]) {ad : Option Addr} {n c : Nat} {args : Array Value} (ha : args = #[.slice ad n c]) :
    (Builtin.len_ ts ty args).run P w = .ok (.int .i64 n) w := by
  have : ts[0]? = some t := by rw [← Array.getElem?_toList, hts]; rfl
  subst ha
  simp [Builtin.len_, this, run_underlying hu, goInt]

theorem run_len_string {ts : Array TypeId} {ty t : TypeId} (hu : P.underlying t = some .string) (hts : ts.toList = [t]) {s : ByteArray} {args : Array Value} (ha : args = #[.string s]) :
    (Builtin.len_ ts ty args).run P w = .ok (.int .i64 s.size) w := by
  have : ts[0]? = some t := by rw [← Array.getElem?_toList, hts]; rfl
  subst ha
  simp [Builtin.len_, this, run_underlying hu, goInt]

theorem run_len_array {ts : Array TypeId} {ty t e : TypeId} {n : Nat} (hu : P.underlying t = some (.array n e)) (hts : ts.toList = [t]) {v : Value} {args : Array Value} (ha : args = #[v]) :
    (Builtin.len_ ts ty args).run P w = .ok (.int .i64 n) w := by
  have : ts[0]? = some t := by rw [← Array.getElem?_toList, hts]; rfl
  subst ha
  simp [Builtin.len_, this, run_underlying hu, goInt]

theorem exec_builtin {ρ : Operand → Value} {o : Oper} {b : Builtin} {args : Array Operand} {ts : Array TypeId} (ho : o.op = .call ⟨.builtin b, args, ts⟩) :
    (execOp ρ o).run P w = (builtin b ts o.type (args.map fun | .const _ => true | _ => false) (args.map ρ)).run P w := by
  simp only [execOp, ho, resolve]
  rfl

theorem lift_val {s : Sem Value} {v : Value} (h : s.run P w = .ok v w) : (do pure (Go.Next.value (← s)) : Sem Go.Next).run P w = .ok (.value v) w := by
  simp [h]

theorem lift_rt {s : Sem Value} {v : Value} (h : RT P w s v) : RT P w (do pure (Go.Next.value (← s)) : Sem Go.Next) (.value v) := fun w' hw' => lift_val (h w' hw')

theorem keyI_val {d : D} {n : Int} (h : keyI d = some n) : d = .v (.int .i64 n) := by
  unfold keyI at h
  split at h
  · cases h; rfl
  · cases h

theorem keyD_val {ob : List (Nat × OB)} {d : D} {k : List Int} (hk : keyD d = some k) {y : Value} (h : VR P w0 w ob ν (.d d) y) : y = keyV k := by
  unfold keyD at hk
  split at hk
  · cases hk
    exact h.val
  · split at hk
    · rename_i a b x y' ha hb
      cases hk
      simp only [VR, keyI_val ha, keyI_val hb, RD, RDs] at h
      obtain ⟨bs, ⟨xs, rfl, _, x1, xs1, b1, b2, rfl, _, ⟨rfl, _⟩, x2, xs2, b3, b4, rfl, _, ⟨rfl, _⟩, rfl, _⟩, _⟩ := h
      rfl
    · cases hk
  · cases hk

theorem findK_look (k : List Int) : ∀ (kvs : List (List Int × Value)) (i : Nat), (findK k kvs i).map (·.2) = lookK k kvs
  | [], _ => rfl
  | (l, v) :: r, i => by
    simp only [findK, lookK]
    split
    · rfl
    · exact findK_look k r (i + 1)

theorem Sim.mapAt (h : Sim P w0 σ ν a w) {s : Nat} {kvs : List (List Int × Value)} (hs : lookO σ.ob s = some (.mp kvs)) {y : Value} (hy : VR P w0 w σ.ob ν (.rf s false) y) :
    ∃ b, ν s = some (b, 0) ∧ y = .map (some b) ∧ w.heap[b]? = some (.map (entsV 0 kvs).toArray kvs.length) := by
  simp only [VR] at hy
  obtain ⟨b, h1, h2⟩ := hy (by rw [hs]; rfl)
  rcases h.objs s _ hs with ⟨g, _⟩ | ⟨b', base, c, T, xs, g1, g2, g3, _⟩
  · rw [g] at h1; cases h1
  · rw [g1] at h1; cases h1
    exact ⟨b, g1, h2, g3⟩

theorem Sim.iterAt (h : Sim P w0 σ ν a w) {s t n : Nat} {seen : List Nat} {kvs : List (List Int × Value)} (hs : lookO σ.ob s = some (.it t n seen)) (ht : lookO σ.ob t = some (.mp kvs)) {y : Value} (hy : VR P w0 w σ.ob ν (.rf s true) y) :
    ∃ b bm c T, ν s = some (b, 0) ∧ y = .pointer (some ⟨b, 0, none⟩) ∧ w.heap[b]? = some (.mapIter (some bm) n seen.reverse.toArray n) ∧ w.heap[bm]? = some (.map (entsV 0 kvs).toArray kvs.length) ∧
      c[0]? = some (.map (some bm)) ∧ (objOf (.it t n seen) c T = .mapIter (some bm) n seen.reverse.toArray n) ∧ VRs P w0 w σ.ob ν [.rf t false] [.map (some bm)] := by
  simp only [VR] at hy
  obtain ⟨b, h1, h2⟩ := hy (by rw [hs]; rfl)
  rcases h.objs s _ hs with ⟨g, _⟩ | ⟨b', base, c, T, xs, g1, g2, g3, g4, g5, g6⟩
  · rw [g] at h1; cases h1
  · rw [g1] at h1; cases h1
    have g6' := g6
    simp only [obCells, VRs] at g6
    obtain ⟨y1, ys', rfl, g7, rfl⟩ := g6
    obtain ⟨bm, q1, rfl, q3⟩ := h.mapAt ht g7
    have e0 := g4 0 (by simp)
    simp only [Nat.zero_add, List.getElem?_cons_zero] at e0
    have eo : objOf (.it t n seen) c T = .mapIter (some bm) n seen.reverse.toArray n := by
      simp only [objOf, e0, mapRef]
    exact ⟨b, bm, c, T, g1, h2, by rw [g3, eo], q3, e0, eo, g6'⟩

theorem lookup_sound (h : Sim P w0 σ ν a w) {t kt et : TypeId} {x i : Operand} {s : Nat} {kvs : List (List Int × Value)} {kd : D} {k : List Int} {z : Value} {ok : Bool} (hu : P.underlying t = some (.map kt et)) (hx : σ.ev x = .rf s false)
    (hs : lookO σ.ob s = some (.mp kvs)) (hi : σ.ev i = .d kd) (hk : keyD kd = some k) (hz : zeroOf P et = some z) (hkt : KeyT P kt k.length) (hl : keysAre k.length kvs) :
    ∃ v, RT P w (Instr.lookup t (a.eval x) (a.eval i) ok) v ∧ VR P w0 w σ.ob ν (.d (lookD k kvs z ok)) v := by
  have e1 := h.ev x
  rw [hx] at e1
  obtain ⟨b, h1, h2, h3⟩ := h.mapAt hs e1
  have e2 := h.ev i
  rw [hi] at e2
  have e2 := keyD_val hk e2
  have hlt := (Array.getElem?_eq_some_iff.1 h3).1
  refine ⟨bif ok then .tuple #[(lookK k kvs).getD z, .bool (lookK k kvs).isSome] else (lookK k kvs).getD z, fun w' hw' => ?_, ?_⟩
  · obtain ⟨c1, c2, _⟩ := hkt k kvs w' rfl hl
    have hz' : (zeroValue et).run P w' = .ok z w' := by
      unfold zeroOf at hz
      cases hi2 : P.info? et with
      | none => rw [hi2] at hz; cases hz
      | some inf =>
        rw [hi2] at hz
        have hz : inf.zero = some z := hz
        simp [zeroValue, typeInfo, hi2, hz]
    rw [h2, e2]
    simp only [Instr.lookup, Sem.run_bind, run_underlying hu, Result.andThen_ok, MapKept.run_getObj_map ((hw'.block b hlt).trans h3), Sem.run_pure, c1]
    rw [c2]
    rw [← findK_look k kvs 0]
    cases hf : findK k kvs 0 with
    | none => cases ok <;> simp [hz', Result.andThen_ok]
    | some p => cases ok <;> simp [Result.andThen_ok]
  · cases ok
    · exact VR.mk _
    · simp only [lookD, cond_true, VR, RD, RDs]
      exact ⟨[], ⟨_, rfl, _, _, [], [], rfl, rfl, ⟨rfl, rfl⟩, _, _, [], [], rfl, rfl, ⟨rfl, rfl⟩, rfl, rfl⟩, by simp⟩

theorem entsV_get : ∀ (kvs : List (List Int × Value)) (i j : Nat), (entsV i kvs)[j]? = (kvs[j]?).map fun p => { key := keyV p.1, val := p.2, born := i + j }
  | [], _, _ => by simp [entsV]
  | (k, v) :: r, i, 0 => by simp [entsV]
  | (k, v) :: r, i, j + 1 => by
    simp only [entsV, List.getElem?_cons_succ, entsV_get r (i + 1) j]
    congr 2
    funext p
    congr 1
    omega

theorem entsV_born : ∀ (kvs : List (List Int × Value)) (i : Nat), (entsV i kvs).map (·.born) = List.range' i kvs.length
  | [], _ => rfl
  | (k, v) :: r, i => by simp only [entsV, List.map_cons, List.length_cons, List.range'_succ, entsV_born r (i + 1)]

theorem keyB_rd (k : List Int) : RD w false (keyB k) (keyV k) [] := by
  have key : ∀ l : List Int, RDs w false (l.map fun n => .v (.int .i64 n)) (l.map (Value.int .i64)) [] := fun l => by
    induction l with
    | nil => simp [RDs]
    | cons n r ih => simp only [List.map_cons, RDs, RD]; exact ⟨_, _, [], [], rfl, rfl, ⟨rfl, rfl⟩, ih⟩
  have hag : ∀ l : List Int, RD w false (.ag (l.map fun n => .v (.int .i64 n))) (.agg (l.map (Value.int .i64)).toArray) [] := fun l => by
    simp only [RD]
    exact ⟨_, rfl, fun x hx => by obtain ⟨n, _, rfl⟩ := List.mem_map.1 hx; rfl, key l⟩
  match k with
  | [] => exact hag []
  | [n] => simp [keyB, keyV, RD]
  | a :: b :: r => exact hag (a :: b :: r)

theorem entry_sound (h : Sim P w0 σ ν a w) {x : Operand} {s t n i : Nat} {seen : List Nat} {kvs : List (List Int × Value)} {k : List Int} {v : Value} (hx : σ.ev x = .rf s true) (hs : lookO σ.ob s = some (.it t n (i :: seen)))
    (ht : lookO σ.ob t = some (.mp kvs)) (hi : kvs[i]? = some (k, v)) (hn : kvs.length = n) :
    ∃ u, RT P w (Instr.entry (a.eval x)) u ∧ VR P w0 w σ.ob ν (.d (.tu [keyB k, .v v])) u := by
  have e1 := h.ev x
  rw [hx] at e1
  obtain ⟨b, bm, c, T, h1, h2, h3, h4, _⟩ := h.iterAt hs ht e1
  have hlt := (Array.getElem?_eq_some_iff.1 h3).1
  have hlt2 := (Array.getElem?_eq_some_iff.1 h4).1
  subst hn
  refine ⟨.tuple #[keyV k, v], fun w' hw' => ?_, ?_⟩
  · rw [h2]
    have hg : (entsV 0 kvs)[i]? = some { key := keyV k, val := v, born := i } := by
      rw [entsV_get, hi]
      simp
    have := run_entry_at (P := P) w' b bm kvs.length seen.reverse.toArray (entsV 0 kvs).toArray kvs.length { key := keyV k, val := v, born := i } (by rw [hw'.block b hlt, h3]; simp) ((hw'.block bm hlt2).trans h4) (List.mem_of_getElem? hg) (by
      show ((entsV 0 kvs).map (·.born)).Nodup
      rw [entsV_born]
      exact List.nodup_range')
    simpa using this
  · simp only [VR, RD, RDs]
    exact ⟨[], ⟨_, rfl, _, _, [], [], rfl, rfl, keyB_rd k, _, _, [], [], rfl, rfl, ⟨rfl, rfl⟩, rfl, rfl⟩, by simp⟩

theorem pure_sound (h : Sim P w0 σ ν a w) {o : Oper} {p : Prop} {r : AV} (ho : pureOp P σ o.op = some (p, r)) (hp : p) :
    ∃ v, RT P w (execOp a.eval o) (.value v) ∧ VR P w0 w σ.ob ν r v := by
  generalize hop : o.op = op at ho
  cases op with
  | lookup t x y ok =>
    simp only [pureOp] at ho
    split at ho
    · rename_i kt et s kd hu hx hy
      split at ho
      · rename_i kvs k z hs hk hz
        obtain ⟨rfl, rfl⟩ := Prod.mk.inj (Option.some.inj ho)
        obtain ⟨v, h1, h2⟩ := lookup_sound h (ok := ok) hu hx hs hy hk hz hp.1 hp.2
        exact ⟨v, by simp only [execOp, hop]; exact lift_rt h1, h2⟩
      · cases ho
    · cases ho
  | entry x =>
    simp only [pureOp] at ho
    split at ho
    · rename_i s hx
      split at ho
      · rename_i t n i _ hs
        split at ho
        · rename_i kvs ht
          split at ho
          · rename_i k v hi
            obtain ⟨rfl, rfl⟩ := Prod.mk.inj (Option.some.inj ho)
            obtain ⟨v, h1, h2⟩ := entry_sound h hx hs ht hi hp
            exact ⟨v, by simp only [execOp, hop]; exact lift_rt h1, h2⟩
          · cases ho
        · cases ho
      · cases ho
    · cases ho
  | move x =>
    obtain ⟨rfl, rfl⟩ := Prod.mk.inj (Option.some.inj ho)
    exact ⟨_, fun w' _ => by simp [execOp, hop], h.ev x⟩
  | assign x =>
    obtain ⟨rfl, rfl⟩ := Prod.mk.inj (Option.some.inj ho)
    exact ⟨_, fun w' _ => by simp [execOp, hop], h.ev x⟩
  | pick c x y =>
    simp only [pureOp] at ho
    split at ho
    · rename_i b hc
      obtain ⟨rfl, rfl⟩ := Prod.mk.inj (Option.some.inj ho)
      have h1 := h.ev c
      rw [hc] at h1
      refine ⟨_, ?_, VR.pick (h.ev x) (h.ev y)⟩
      intro w' _
      simp only [execOp, hop, h1.val, asBool, Sem.run_bind, Sem.run_pure, Result.andThen_ok]
    · cases ho
  | load t x =>
    obtain ⟨v, h1, h2⟩ := load_sound h ho hp
    exact ⟨v, by simp only [execOp, hop]; exact lift_rt h1, h2⟩
  | fieldAddr t x f =>
    obtain ⟨v, h1, h2⟩ := fieldAddr_sound h ho hp
    exact ⟨v, by simp only [execOp, hop]; exact lift_rt h1, h2⟩
  | indexAddr t x y =>
    obtain ⟨v, h1, h2⟩ := indexAddr_sound h ho hp
    exact ⟨v, by simp only [execOp, hop]; exact lift_rt h1, h2⟩
  | index t x y =>
    obtain ⟨v, h1, h2⟩ := index_sound h ho hp
    exact ⟨v, by simp only [execOp, hop]; exact lift_rt h1, h2⟩
  | field t x f =>
    obtain ⟨v, h1, h2⟩ := field_sound h ho hp
    exact ⟨v, by simp only [execOp, hop]; exact lift_rt h1, h2⟩
  | build t parts =>
    obtain ⟨v, h1, h2⟩ := build_sound h ho hp
    exact ⟨v, by simp only [execOp, hop]; exact lift_rt h1, h2⟩
  | extract x i =>
    obtain ⟨v, h1, h2⟩ := extract_sound h ho
    exact ⟨v, by simp only [execOp, hop]; exact lift_rt h1, h2⟩
  | slice t x lo hi mx =>
    obtain ⟨v, h1, h2⟩ := slice_sound h ho hp
    exact ⟨v, by simp only [execOp, hop]; exact lift_rt h1, h2⟩
  | binOp op t x y u =>
    simp only [pureOp] at ho
    split at ho
    · rename_i d1 d2 h1 h2
      simp only [Option.map_eq_some_iff] at ho
      obtain ⟨⟨p', r'⟩, h3, h4⟩ := ho
      obtain ⟨rfl, rfl⟩ := Prod.mk.inj h4
      have hx := h.ev x
      have hy := h.ev y
      rw [h1] at hx
      rw [h2] at hy
      simp only [VR] at hx hy
      obtain ⟨bs, hx, _⟩ := hx
      obtain ⟨bs', hy, _⟩ := hy
      obtain ⟨z, h5, h6, h7⟩ := binD_sound h3 hp hx hy x y
      refine ⟨z, ?_, VR.of_rd h7⟩
      intro w' hw'
      simp only [execOp, hop, Sem.run_bind, h5 w' hw', Result.andThen_ok, h6 w' hw', Sem.run_pure]
    · cases ho
  | unOp op t x =>
    simp only [pureOp] at ho
    split at ho
    · rename_i d1 h1
      simp only [Option.map_eq_some_iff] at ho
      obtain ⟨r', h3, h4⟩ := ho
      obtain ⟨rfl, rfl⟩ := Prod.mk.inj h4
      have hx := h.ev x
      rw [h1] at hx
      simp only [VR] at hx
      obtain ⟨bs, hx, _⟩ := hx
      obtain ⟨z, h5, h6⟩ := unD_sound h3 hx
      exact ⟨z, by simp only [execOp, hop]; exact lift_rt h5, VR.of_rd h6⟩
    · cases ho
  | convert s t x =>
    simp only [pureOp] at ho
    split at ho
    · rename_i k1 k2 k3 n h1 h2 h3
      obtain ⟨rfl, rfl⟩ := Prod.mk.inj (Option.some.inj ho)
      have hx := h.ev x
      rw [h3] at hx
      refine ⟨_, ?_, VR.mk _⟩
      simp only [execOp, hop]
      intro w' _
      refine lift_val ?_
      rw [hx.val]
      simp only [convert, Sem.run_bind, run_underlying h1, run_underlying h2, Result.andThen_ok, Conv.intToInt, Sem.run_pure]
    · cases ho
  | makeFunc f first captured =>
    cases f with
    | func f =>
      obtain ⟨rfl, rfl⟩ := Prod.mk.inj (Option.some.inj ho)
      refine ⟨.func (.func f) (first.map a.eval) (captured.map a.eval), fun w' _ => by simp [execOp, hop, Instr.makeFunc], ?_⟩
      simp only [VR]
      exact ⟨first.toList.map a.eval, captured.toList.map a.eval, by congr <;> (apply Array.ext'; simp), VRs.evs h _, VRs.evs h _⟩
    | _ => simp [pureOp] at ho
  | nilCheck x =>
    have hx := h.ev x
    simp only [pureOp] at ho
    split at ho
    · rename_i dom k hsx
      obtain ⟨rfl, rfl⟩ := Prod.mk.inj (Option.some.inj ho)
      rw [hsx] at hx
      refine ⟨a.eval x, ?_, hx⟩
      simp only [VR, RF] at hx
      obtain ⟨g, first, cap, h1, _⟩ := hx
      intro w' _
      simp only [execOp, hop, h1, Sem.run_pure]
    · rename_i g l1 l2 hsx
      obtain ⟨rfl, rfl⟩ := Prod.mk.inj (Option.some.inj ho)
      rw [hsx] at hx
      refine ⟨a.eval x, ?_, hx⟩
      simp only [VR] at hx
      obtain ⟨xs, ys, h1, _⟩ := hx
      intro w' _
      simp only [execOp, hop, h1, Sem.run_pure]
    · rename_i s off hsx
      obtain ⟨rfl, rfl⟩ := Prod.mk.inj (Option.some.inj ho)
      rw [hsx] at hx
      refine ⟨a.eval x, ?_, hx⟩
      simp only [VR] at hx
      obtain ⟨b, base, _, h1⟩ := hx hp
      intro w' _
      simp only [execOp, hop, h1, Sem.run_pure]
    · rename_i cs hsx
      obtain ⟨rfl, rfl⟩ := Prod.mk.inj (Option.some.inj ho)
      rw [hsx] at hx
      refine ⟨a.eval x, ?_, hx⟩
      simp only [VR, RD] at hx
      obtain ⟨bs, ⟨b, off, xs, bs', h1, _⟩, _⟩ := hx
      intro w' _
      simp only [execOp, hop, h1, Sem.run_pure]
    · cases ho
  | call c =>
    obtain ⟨callee, args, ts⟩ := c
    cases callee with
    | builtin b =>
      cases b with
      | len =>
        simp only [pureOp] at ho
        split at ho
        · rename_i x t hargs hts
          have hx := h.ev x
          have ha : args = #[x] := by apply Array.ext'; simpa using hargs
          subst ha
          have hb : ∀ v, RT P w (Builtin.len_ ts o.type #[a.eval x]) v → RT P w (execOp a.eval o) (.value v) := fun v hv w' hw' => by
            rw [exec_builtin hop]
            simp only [builtin]
            exact lift_val (by simpa using hv w' hw')
          split at ho
          · rename_i e s off n k hu hsx
            obtain ⟨rfl, rfl⟩ := Prod.mk.inj (Option.some.inj ho)
            rw [hsx] at hx
            simp only [VR] at hx
            refine ⟨.int .i64 n, hb _ ?_, VR.mk _⟩
            rcases (hx hp).2 with ⟨_, h1, rfl, _⟩ | ⟨b, base, cap, ad, c, T, _, h1, _⟩
            · exact fun _ _ => run_len_slice hu hts (by rw [h1])
            · exact fun _ _ => run_len_slice hu hts (by rw [h1])
          · rename_i e k n cs hu hsx
            obtain ⟨rfl, rfl⟩ := Prod.mk.inj (Option.some.inj ho)
            rw [hsx] at hx
            simp only [VR, RD] at hx
            refine ⟨.int .i64 n, hb _ ?_, VR.mk _⟩
            obtain ⟨bs, hx, _⟩ := hx
            rcases hx with ⟨_, _, h1, _, rfl, _⟩ | ⟨b, off, cap, xs, bs', h1, _⟩
            · exact fun _ _ => run_len_slice hu hts (by rw [h1])
            · exact fun _ _ => run_len_slice hu hts (by rw [h1])
          · rename_i s hu hsx
            obtain ⟨rfl, rfl⟩ := Prod.mk.inj (Option.some.inj ho)
            rw [hsx] at hx
            exact ⟨.int .i64 s.size, hb _ (fun _ _ => run_len_string hu hts (by rw [hx.val])), VR.mk _⟩
          · rename_i n e hu
            obtain ⟨rfl, rfl⟩ := Prod.mk.inj (Option.some.inj ho)
            exact ⟨.int .i64 n, hb _ (fun _ _ => run_len_array hu hts rfl), VR.mk _⟩
          · cases ho
        · cases ho
      | min =>
        simp only [pureOp] at ho
        split at ho
        · rename_i x y hargs
          have ha : args = #[x, y] := by apply Array.ext'; simpa using hargs
          subst ha
          split at ho
          · rename_i k m k' n hsx hsy
            obtain ⟨rfl, rfl⟩ := Prod.mk.inj (Option.some.inj ho)
            have hx := h.ev x
            have hy := h.ev y
            rw [hsx] at hx
            rw [hsy] at hy
            refine ⟨_, ?_, VR.mk _⟩
            intro w' _
            rw [exec_builtin hop]
            simp only [builtin]
            refine lift_val ?_
            simp [Builtin.min_, Builtin.min2, hx.val, hy.val]
          · cases ho
        · cases ho
      | max =>
        simp only [pureOp] at ho
        split at ho
        · rename_i x y hargs
          have ha : args = #[x, y] := by apply Array.ext'; simpa using hargs
          subst ha
          split at ho
          · rename_i k m k' n hsx hsy
            obtain ⟨rfl, rfl⟩ := Prod.mk.inj (Option.some.inj ho)
            have hx := h.ev x
            have hy := h.ev y
            rw [hsx] at hx
            rw [hsy] at hy
            refine ⟨_, ?_, VR.mk _⟩
            intro w' _
            rw [exec_builtin hop]
            simp only [builtin]
            refine lift_val ?_
            simp [Builtin.max_, Builtin.max2, hx.val, hy.val]
          · cases ho
        · cases ho
      | _ => simp [pureOp] at ho
    | _ => simp [pureOp] at ho
  | _ => simp [pureOp] at ho

end

section
variable {P : Program} {w0 : Env} {w : World} {σ : St} {ν : Loc} {a : Act}

theorem below_alloc (w : World) (o : Obj) : Below w.heap.size w (w.alloc o) := (Below.refl _ _).alloc (Nat.le_refl _) _

theorem alloc_heap (w : World) (o : Obj) : (w.alloc o).heap[w.heap.size]? = some o := by
  show (w.heap.push o)[w.heap.size]? = _
  simp

theorem obCells_obOf (cs : List AV) : obCells (obOf cs) = cs := by
  unfold obOf
  split
  · rename_i ds h
    simp only [obCells]
    exact (allD_spec h).symm
  · rfl

theorem obOf_row (cs : List AV) : (obOf cs).row = true := by
  unfold obOf
  split <;> simp

theorem Sim.alloc (h : Sim P w0 σ ν a w) {s : Nat} (hs : s < σ.n) {o : OB} (ho : o.row = true) {xs : List Value} (hv : VRs P w0 w σ.ob ν (obCells o) xs) (h1 : Ones xs) (hr : AV.refsL s (obCells o) = false) (T : TypeId) (x : AV) (v : Value)
    (hx : (x = .bp s 0 ∧ v = .pointer (some ⟨w.heap.size, 0, none⟩)) ∨ ∃ n k, x = .bs s 0 n k ∧ v = .slice (some ⟨w.heap.size, 0, none⟩) n n ∧ n * k = xs.length) :
    ∃ ν', Sim P w0 (σ.new s o x) ν' (a.put (some s) v) (w.alloc (.cells xs.toArray T)) := by
  refine h.new (below_alloc w _) hs (OB.row_ne ho) (loc := some (w.heap.size, 0)) (fun p hp => by cases hp; exact Nat.le_refl _) (fun ob' ν' hl hf hνs hlook => ⟨?_, ?_⟩)
  · refine .inr ⟨w.heap.size, 0, xs.toArray, T, xs, hνs, h.newB (Nat.le_refl _), (alloc_heap w _).trans (by rw [objOf_row ho]), fun i hi => by simp, h1, ?_⟩
    exact VRs.later hl hv (fun s' hs' => hf s' (fun e => by subst e; rw [hr] at hs'; cases hs'))
  · rcases hx with ⟨rfl, rfl⟩ | ⟨n, k, rfl, rfl, hn⟩
    · simp only [VR]
      exact fun _ => ⟨w.heap.size, 0, hνs, by simp⟩
    · simp only [VR]
      exact fun _ => ⟨fun o' ho' => by rw [hlook] at ho'; cases ho'; rw [← hv.length]; omega, .inr ⟨w.heap.size, 0, n, ⟨w.heap.size, 0, none⟩, xs.toArray, T, hνs, rfl, Nat.le_refl _, .inr (by simp), alloc_heap w _, by simp [hn]⟩⟩

theorem refs_dmap (s : Nat) : ∀ ds : List D, AV.refsL s (ds.map AV.d) = false
  | [] => rfl
  | d :: ds => by simp [AV.refsL, AV.refs, refs_dmap s ds]

theorem alloc_sound (h : Sim P w0 σ ν a w) {t : TypeId} {s : Nat} (hs : s < σ.n) (hz : zeroOk P t = true) :
    ∃ v w' ν', (Instr.alloc t true (.tuple #[])).run P w = .ok v w' ∧ Sim P w0 (σ.new s (.av ((zeroD P t).map AV.d)) (.bp s 0)) ν' (a.put (some s) v) w' ∧ Below w.heap.size w w' := by
  obtain ⟨z, h1, h2, h3, h4⟩ := zero_run (w := w) hz
  obtain ⟨ν', h5⟩ := h.alloc hs (o := .av ((zeroD P t).map AV.d)) (by simp) (xs := zeroV P t) (VRs.vals _) h3 (refs_dmap s _) t (.bp s 0) _ (.inl ⟨rfl, rfl⟩)
  refine ⟨.pointer (some ⟨w.heap.size, 0, none⟩), w.alloc (.cells (zeroV P t).toArray t), ν', ?_, h5, below_alloc w _⟩
  have e : z.cells = (zeroV P t).toArray := by rw [← h2]
  simp only [Instr.alloc, Sem.run_bind, h1, Result.andThen_ok, newVar, newRow, newObj, e]
  rfl

theorem box_sound (h : Sim P w0 σ ν a w) {t : TypeId} {x : Operand} {s : Nat} (hs : s < σ.n) {cs : List AV} (hsp : (σ.ev x).split σ.ob = some cs) (hr : AV.refsL s cs = false) :
    ∃ v w' ν', (Instr.box t (a.eval x)).run P w = .ok v w' ∧ Sim P w0 (σ.new s (.av cs) (.bp s 0)) ν' (a.put (some s) v) w' ∧ Below w.heap.size w w' := by
  obtain ⟨xs, h1, h2, h3⟩ := split_sound hsp (h.ev x)
  obtain ⟨ν', h5⟩ := h.alloc hs (o := .av cs) (by simp) h3 h2 hr t (.bp s 0) _ (.inl ⟨rfl, rfl⟩)
  refine ⟨.pointer (some ⟨w.heap.size, 0, none⟩), w.alloc (.cells xs.toArray t), ν', ?_, h5, below_alloc w _⟩
  simp only [Instr.box, newVar, newRow, newObj, h1]
  rfl

end

section
variable {P : Program} {w0 : Env} {w : World} {σ : St} {ν : Loc} {a : Act}

theorem zeros_list (z : List Value) (n : Nat) : ((Array.range (n * z.length)).map fun j => z.toArray[j % z.length]!).toList = (List.replicate n z).flatten := by
  by_cases hz : z.length = 0
  · have : z = [] := List.eq_nil_of_length_eq_zero hz
    subst this
    simp
  · apply List.ext_getElem?
    intro i
    simp only [Array.toList_map, Array.toList_range, List.getElem?_map]
    have hl : ((List.replicate n z).flatten).length = n * z.length := by simp
    by_cases hi : i < n * z.length
    · rw [List.getElem?_range hi]
      simp only [Option.map_some]
      have key : ∀ n i, i < n * z.length → ((List.replicate n z).flatten)[i]? = z[i % z.length]? := by
        intro n
        induction n with
        | zero => intro i hi; simp at hi
        | succ n ih =>
          intro i hi
          rw [List.replicate_succ, List.flatten_cons, List.getElem?_append]
          split
          · rename_i h; rw [Nat.mod_eq_of_lt h]
          · rename_i h
            rw [ih _ (by rw [Nat.succ_mul] at hi; omega)]
            congr 1
            rw [Nat.mod_eq_sub_mod (a := i) (by omega)]
      rw [key n i hi]
      have hm : i % z.length < z.length := Nat.mod_lt _ (by omega)
      rw [List.getElem?_eq_getElem hm]
      simp [getElem!_pos, hm]
    · rw [List.getElem?_eq_none (by simp; omega), List.getElem?_eq_none (by omega)]
      rfl

theorem VRs.flatten {ob : List (Nat × OB)} (z : List Value) : ∀ n, VRs P w0 w ob ν ((List.replicate n ((z.map D.v).map AV.d)).flatten) ((List.replicate n z).flatten)
  | 0 => by simp [VRs]
  | n + 1 => by
    rw [List.replicate_succ, List.replicate_succ, List.flatten_cons, List.flatten_cons]
    exact (VRs.vals z).append (VRs.flatten z n)

theorem Ones.flatten {z : List Value} (h : Ones z) : ∀ n, Ones ((List.replicate n z).flatten)
  | 0 => fun x hx => by simp at hx
  | n + 1 => by
    rw [List.replicate_succ, List.flatten_cons]
    exact h.append (Ones.flatten h n)

theorem buildSlice_sound (h : Sim P w0 σ ν a w) {t e : TypeId} {n : Nat} {parts : Array (Nat × Operand)} {s : Nat} (hs : s < σ.n) (hu : P.underlying t = some (.slice e)) {cs : List AV}
    (hf : fillA σ.ob (P.cellsOf e) (parts.toList.map fun (i, x) => (i, σ.ev x)) ((List.replicate n ((zeroD P e).map AV.d)).flatten) = some cs) (hn : n * P.cellsOf e ≤ 65536) (hz : zeroOk P e = true) (hk : P.cellsOf e ≠ 0) (hr : AV.refsL s cs = false) :
    ∃ v w' ν', (Instr.buildSlice t n (parts.map fun (i, x) => (i, a.eval x))).run P w = .ok v w' ∧ Sim P w0 (σ.new s (obOf cs) (.bs s 0 n (P.cellsOf e))) ν' (a.put (some s) v) w' ∧ Below w.heap.size w w' := by
  obtain ⟨z, h1, h2, h3, h4⟩ := zero_run (w := w) hz
  have hzz : z.cells = (zeroV P e).toArray := by rw [← h2]
  let start : Array Value := if n * P.cellsOf e = 0 then #[] else (Array.range (n * P.cellsOf e)).map fun j => (zeroV P e).toArray[j % (zeroV P e).length]!
  have hstart : start.toList = (List.replicate n (zeroV P e)).flatten := by
    simp only [start]
    split
    · rename_i h0
      have : n = 0 := by
        rcases Nat.mul_eq_zero.1 h0 with h0 | h0
        · exact h0
        · exact absurd h0 hk
      subst this
      simp
    · rw [← h4]
      exact zeros_list _ _
  obtain ⟨ys, q1, q2, q3, q4⟩ := fill_sound (P := P) (w0 := w0) (w := w) (ν := ν) (P.cellsOf e) (parts.toList.map fun (i, x) => (i, σ.ev x)) (parts.toList.map fun (i, x) => (i, a.eval x)) (by simp [Function.comp_def])
    (fun i p q hp hq => by
      simp only [List.getElem?_map, Option.map_eq_some_iff] at hp hq
      obtain ⟨x, hx, rfl⟩ := hp
      obtain ⟨y, hy, rfl⟩ := hq
      rw [hx] at hy
      cases hy
      exact h.ev x.2) _ start cs (by rw [hstart]; exact VRs.flatten _ _) (by rw [hstart]; exact Ones.flatten h3 _) hf
  have hlen : ys.toList.length = n * P.cellsOf e := by
    rw [Array.length_toList, q4, ← Array.length_toList, hstart]
    simp [h4]
  obtain ⟨ν', h5⟩ := h.alloc hs (o := obOf cs) (obOf_row cs) (by rw [obCells_obOf]; exact q2) q3 (by rw [obCells_obOf]; exact hr) e (.bs s 0 n (P.cellsOf e)) _ (.inr ⟨n, P.cellsOf e, rfl, rfl, hlen.symm⟩)
  refine ⟨.slice (some ⟨w.heap.size, 0, none⟩) n n, w.alloc (.cells ys.toList.toArray e), ν', ?_, h5, below_alloc w _⟩
  have e0 : ¬ (n * P.cellsOf e > 2 ^ 24) := by
    have : (2 : Nat) ^ 24 = 16777216 := by decide
    omega
  have hq : Instr.fill (fun i => some (i * P.cellsOf e, P.cellsOf e)) start (parts.map fun (i, x) => (i, a.eval x)).toList = some ys := by
    rw [Array.toList_map]; exact q1
  simp only [Instr.buildSlice, Sem.run_bind, run_underlying hu, Result.andThen_ok, run_size' rfl hk, if_neg e0]
  by_cases h0 : n * P.cellsOf e = 0
  · simp only [start, if_pos h0] at hq
    rw [if_pos h0, h0]
    have hq' : Instr.fill (fun i => some (i * P.cellsOf e, P.cellsOf e)) (Array.map (fun x => (#[] : Array Value)[x % (#[] : Array Value).size]!) (Array.range 0)) (Array.map (fun x => (x.fst, a.eval x.snd)) parts).toList = some ys := by
      have e0 : Array.map (fun x => (#[] : Array Value)[x % (#[] : Array Value).size]!) (Array.range 0) = #[] := by simp
      rw [e0]
      exact hq
    simp only [Sem.run_bind, Sem.run_pure, Result.andThen_ok, hq']
    rfl
  · simp only [start, if_neg h0] at hq
    rw [if_neg h0]
    simp only [Sem.run_bind, h1, Result.andThen_ok, Sem.run_pure, hzz]
    have hq' : Instr.fill (fun i => some (i * P.cellsOf e, P.cellsOf e)) (Array.map (fun x => (zeroV P e).toArray[x % (zeroV P e).toArray.size]!) (Array.range (n * P.cellsOf e))) (Array.map (fun x => (x.fst, a.eval x.snd)) parts).toList = some ys := hq
    simp only [hq']
    rfl

end

end Go.Proofs.Yteimddagjikcaaa
