/- What a pure operation yields is what the abstract view says: indexes, slices, numbers, strings. -/
import Derived.Test.YtdinkfmkhdnbpaaFlow8
import Derived.WalkKit
import Derived.WalkSpells
namespace Go.Proofs.Ytdinkfmkhdnbpaa
open Go.RowKit
set_option linter.unusedVariables false
set_option linter.unusedSimpArgs false

section
variable {P : Program} {w0 : Env} {w : World} {σ : St} {ν : Loc} {a : Act}

theorem run_size' {t : TypeId} {n : Nat} (h : P.cellsOf t = n) (hn : n ≠ 0) : (sizeOf t).run P w = .ok n w := by
  cases hi : P.info? t with
  | none => simp [Program.cellsOf, hi] at h; exact absurd h.symm hn
  | some i => simp [sizeOf, typeInfo, hi]; simpa [Program.cellsOf, hi] using h

theorem run_indexAt {t e : TypeId} (hu : P.underlying t = some (.slice e)) {k : Nat} (hk : P.cellsOf e = k) (hk0 : k ≠ 0) {b off n cap : Nat} {kk : IntKind} {i : Int} (h1 : 0 ≤ i) (h2 : i < n) :
    (Instr.indexAt t (.slice (some ⟨b, off, none⟩) n cap) (.int kk i)).run P w = .ok (.pointer (some ⟨b, off + i.toNat * k, none⟩)) w := by
  simp [Instr.indexAt, run_underlying hu, asIntOf, h1, h2, run_size' hk hk0, addr_add]

theorem run_indexAt_arr {t e : TypeId} {n : Nat} (hu : P.underlying t = some (.array n e)) (hk0 : P.cellsOf e ≠ 0) {b off : Nat} {kk : IntKind} {i : Int} (h1 : 0 ≤ i) (h2 : i < n) :
    (Instr.indexAt t (.pointer (some ⟨b, off, none⟩)) (.int kk i)).run P w = .ok (.pointer (some ⟨b, off + i.toNat * P.cellsOf e, none⟩)) w := by
  simp [Instr.indexAt, run_underlying hu, asIntOf, h1, h2, run_size' rfl hk0, addr_add, Instr.sureAddr]

theorem indexAddr_sound (h : Sim P w0 σ ν a w) {t : TypeId} {x y : Operand} {p : Prop} {r : AV} (ho : pureOp P σ (.indexAddr t x y) = some (p, r)) (hp : p) :
    ∃ v, RT P w (Instr.indexAt t (a.eval x) (a.eval y)) v ∧ VR P w0 w σ.ob ν r v := by
  have hx := h.ev x
  have hy := h.ev y
  simp only [pureOp] at ho
  split at ho
  · rename_i e kk i hu hsy
    rw [hsy] at hy
    have ey := hy.val
    split at ho
    · rename_i s off n k hsx
      obtain ⟨rfl, rfl⟩ := Prod.mk.inj (Option.some.inj ho)
      obtain ⟨h1, h2, h3, hk0, h4⟩ := hp
      rw [hsx] at hx
      simp only [VR] at hx
      rcases (hx h4).2 with ⟨_, _, h5, _⟩ | ⟨b, base, cap, ad, c, T, h5, h6, h7, h8, h9, h10⟩
      · omega
      · rcases h8 with h8 | h8
        · omega
        · subst h8
          refine ⟨_, by rw [h6, ey]; exact fun _ _ => run_indexAt hu h3 hk0 h1 h2, ?_⟩
          simp only [VR]
          exact fun _ => ⟨b, base, h5, by rw [Nat.add_assoc]⟩
    · rename_i k n cs hsx
      obtain ⟨rfl, rfl⟩ := Prod.mk.inj (Option.some.inj ho)
      obtain ⟨h1, h2, h3, hk0⟩ := hp
      rw [hsx] at hx
      simp only [VR, RD] at hx
      obtain ⟨bs, hx, h4⟩ := hx
      rcases hx with ⟨_, _, _, _, h5, _⟩ | ⟨b, off, cap, xs, bs', h5, h6, h7, h8, h9, h10⟩
      · omega
      · subst h6
        obtain ⟨bs2, g1, g2⟩ := h10.drop (i.toNat * k)
        refine ⟨_, by rw [h5, ey]; exact fun _ _ => run_indexAt hu h3 hk0 h1 h2, ?_⟩
        simp only [VR, RD]
        obtain ⟨q1, c, T, fz, q2, q3, _⟩ := h9
        have hl := h10.length
        refine ⟨b :: bs2, ⟨b, off + i.toNat * k, xs.drop (i.toNat * k), bs2, rfl, rfl, ⟨q1.drop _, c, T, fz, q2, fun j hj => ?_, fun e => by cases e⟩, g1⟩, fun b' hb' => ?_⟩
        · rw [Nat.add_assoc, q3 _ (by simp at hj; omega), List.getElem?_drop]
        · rcases List.mem_cons.1 hb' with rfl | hb'
          · exact h4 _ (by simp)
          · exact h4 b' (by simp [g2 b' hb'])
    · cases ho
  · rename_i n e kk i hu hsy
    rw [hsy] at hy
    have ey := hy.val
    split at ho
    · rename_i s o hsx
      obtain ⟨rfl, rfl⟩ := Prod.mk.inj (Option.some.inj ho)
      obtain ⟨h1, h2, h3, hk0, h4⟩ := hp
      rw [hsx] at hx
      simp only [VR] at hx
      obtain ⟨b, base, h5, h6⟩ := hx h4
      refine ⟨_, by rw [h6, ey]; exact fun _ _ => run_indexAt_arr hu hk0 h1 h2, ?_⟩
      simp only [VR]
      exact fun _ => ⟨b, base, h5, by rw [Nat.add_assoc]⟩
    · rename_i cs hsx
      obtain ⟨rfl, rfl⟩ := Prod.mk.inj (Option.some.inj ho)
      obtain ⟨h1, h2, h3, hk0, h4⟩ := hp
      rw [hsx] at hx
      simp only [VR, RD] at hx
      obtain ⟨bs, ⟨b, off, xs, bs', h5, h6, h7, h8⟩, h9⟩ := hx
      subst h6
      obtain ⟨bs2, g1, g2⟩ := h8.drop (i.toNat * P.cellsOf e)
      refine ⟨_, by rw [h5, ey]; exact fun _ _ => run_indexAt_arr hu hk0 h1 h2, ?_⟩
      simp only [VR, RD]
      obtain ⟨q1, c, T, fz, q2, q3, _⟩ := h7
      have hl := h8.length
      refine ⟨b :: bs2, ⟨b, off + i.toNat * P.cellsOf e, xs.drop (i.toNat * P.cellsOf e), bs2, rfl, rfl, ⟨q1.drop _, c, T, fz, q2, fun j hj => ?_, fun e => by cases e⟩, g1⟩, fun b' hb' => ?_⟩
      · rw [Nat.add_assoc, q3 _ (by simp at hj; omega), List.getElem?_drop]
      · rcases List.mem_cons.1 hb' with rfl | hb'
        · exact h9 _ (by simp)
        · exact h9 b' (by simp [g2 b' hb'])
    · cases ho
  · cases ho

theorem string_eq (x y : ByteArray) : (x.toList == y.toList) = decide (x = y) := by
  rw [ByteArray.toList_eq, ByteArray.toList_eq]
  by_cases h : x = y
  · subst h; simp
  · rw [decide_eq_false h]
    have : x.data.toList ≠ y.data.toList := fun e => h (by
      cases x; cases y
      congr 1
      exact Array.toList_inj.1 e)
    simpa using this

theorem eqInts_spec : ∀ {xs ys : List D} {b : Bool}, eqInts xs ys = some b → ∃ ps qs : List (IntKind × Int), xs = ps.map (fun p => D.v (.int p.1 p.2)) ∧ ys = qs.map (fun p => D.v (.int p.1 p.2)) ∧ ps.map (·.1) = qs.map (·.1) ∧ b = (ps.map (·.2) == qs.map (·.2))
  | [], [], b, h => ⟨[], [], rfl, rfl, rfl, by simpa [eqInts] using h.symm⟩
  | .v (.int k x) :: xs, .v (.int k' y) :: ys, b, h => by
    simp only [eqInts] at h
    split at h
    · rename_i hk
      subst hk
      simp only [Option.map_eq_some_iff] at h
      obtain ⟨b', h1, rfl⟩ := h
      obtain ⟨ps, qs, rfl, rfl, h2, rfl⟩ := eqInts_spec h1
      exact ⟨(k, x) :: ps, (k, y) :: qs, rfl, rfl, by simp [h2], by simp⟩
    · cases h
  | [], _ :: _, b, h => by simp [eqInts] at h
  | _ :: _, [], b, h => by simp [eqInts] at h
  | .v (.bool _) :: _, _ :: _, b, h => by simp [eqInts] at h
  | .v (.float _ _) :: _, _ :: _, b, h => by simp [eqInts] at h
  | .v (.complex _ _ _) :: _, _ :: _, b, h => by simp [eqInts] at h
  | .v (.string _) :: _, _ :: _, b, h => by simp [eqInts] at h
  | .v (.pointer _) :: _, _ :: _, b, h => by simp [eqInts] at h
  | .v (.slice _ _ _) :: _, _ :: _, b, h => by simp [eqInts] at h
  | .v (.map _) :: _, _ :: _, b, h => by simp [eqInts] at h
  | .v (.chan _) :: _, _ :: _, b, h => by simp [eqInts] at h
  | .v (.func _ _ _) :: _, _ :: _, b, h => by simp [eqInts] at h
  | .v .nilFunc :: _, _ :: _, b, h => by simp [eqInts] at h
  | .v (.iface _ _) :: _, _ :: _, b, h => by simp [eqInts] at h
  | .v .nilIface :: _, _ :: _, b, h => by simp [eqInts] at h
  | .v (.agg _) :: _, _ :: _, b, h => by simp [eqInts] at h
  | .v (.tuple _) :: _, _ :: _, b, h => by simp [eqInts] at h
  | .ag _ :: _, _ :: _, b, h => by simp [eqInts] at h
  | .ls _ _ _ :: _, _ :: _, b, h => by simp [eqInts] at h
  | .tu _ :: _, _ :: _, b, h => by simp [eqInts] at h
  | .pt _ :: _, _ :: _, b, h => by simp [eqInts] at h
  | .v (.int k x) :: xs, y :: ys, b, h => by
    cases y with
    | v y => cases y with
      | int k' y =>
        simp only [eqInts] at h
        split at h
        · rename_i hk
          subst hk
          simp only [Option.map_eq_some_iff] at h
          obtain ⟨b', h1, rfl⟩ := h
          obtain ⟨ps, qs, rfl, rfl, h2, rfl⟩ := eqInts_spec h1
          exact ⟨(k, x) :: ps, (k, y) :: qs, rfl, rfl, by simp [h2], by simp⟩
        · cases h
      | _ => simp [eqInts] at h
    | _ => simp [eqInts] at h

theorem rds_ints {o : Bool} : ∀ {ps : List (IntKind × Int)} {ys : List Value} {bs : List Nat}, RDs w o (ps.map fun p => D.v (.int p.1 p.2)) ys bs → ys = ps.map fun p => Value.int p.1 p.2
  | [], ys, bs, h => by simp only [List.map_nil, RDs] at h; simp [h.1]
  | p :: ps, ys, bs, h => by
    simp only [List.map_cons, RDs, RD] at h
    obtain ⟨x, xs', b1, b2, rfl, _, h3, h4⟩ := h
    rw [rds_ints h4, h3.1]
    rfl

theorem eqGuard_int {op : BinOp} {t : TypeId} {x y : Operand} {k k' : IntKind} {m n : Int} : (eqGuard op t x y (.int k m) (.int k' n)).run P w = .ok () w := by
  unfold eqGuard
  split <;> simp

theorem eqGuard_string {op : BinOp} {t : TypeId} {x y : Operand} {m n : ByteArray} : (eqGuard op t x y (.string m) (.string n)).run P w = .ok () w := by
  unfold eqGuard
  split <;> simp

theorem eqGuard_bool {op : BinOp} {t : TypeId} {x y : Operand} {m n : Bool} : (eqGuard op t x y (.bool m) (.bool n)).run P w = .ok () w := by
  unfold eqGuard
  split <;> simp

end

end Go.Proofs.Ytdinkfmkhdnbpaa
