/- What a pure operation yields is what the abstract view says: the rest, and all of them together. -/
import Derived.Test.YtdinkfmkhdnbpaaFlow9
import Derived.WalkKit
import Derived.WalkSpells
namespace Go.Proofs.Ytdinkfmkhdnbpaa
open Go.RowKit
set_option linter.unusedVariables false
set_option linter.unusedSimpArgs false

section
variable {P : Program} {w0 : Env} {w : World} {σ : St} {ν : Loc} {a : Act}

theorem equal_bool {t : TypeId} (hu : P.underlying t = some .bool) {m n : Bool} : (Op.equal t (.bool m) (.bool n)).run P w = .ok (m == n) w := by
  have : ∀ d, (Op.equalIn (d + 1) t (.bool m) (.bool n)).run P w = .ok (m == n) w := fun d => by
    simp only [Op.equalIn, Sem.run_bind, run_underlying hu, Result.andThen_ok, Sem.run_pure]
  exact this 9999

theorem binD_sound {t : TypeId} {op : BinOp} {x y : D} {p : Prop} {r : D} (ho : binD P t op x y = some (p, r)) (hp : p) {u v : Value} {bs bs' : List Nat} (hu : RD w false x u bs) (hv : RD w false y v bs') (ox oy : Operand) :
    ∃ z, RT P w (eqGuard op t ox oy u v) () ∧ RT P w (binOp op t u v) z ∧ RD w false r z [] := by
  unfold binD at ho
  split at ho
  · rename_i k m k' n
    simp only [RD] at hu hv
    obtain ⟨rfl, rfl⟩ := hu
    obtain ⟨rfl, rfl⟩ := hv
    cases op <;> simp only [] at ho
    case shl => obtain ⟨rfl, rfl⟩ := Prod.mk.inj (Option.some.inj ho); exact ⟨.int k (k.wrap (m * 2 ^ min n.toNat k.bits)), fun _ _ => eqGuard_int, fun w' _ => by simp [binOp, Op.shift, Int.not_lt.2 hp], by simp [RD]⟩
    case shr => obtain ⟨rfl, rfl⟩ := Prod.mk.inj (Option.some.inj ho); exact ⟨.int k (m.fdiv (2 ^ min n.toNat k.bits)), fun _ _ => eqGuard_int, fun w' _ => by simp [binOp, Op.shift, Int.not_lt.2 hp], by simp [RD]⟩
    all_goals
      split at ho
      · rename_i hk
        subst hk
        first
          | (obtain ⟨rfl, rfl⟩ := Prod.mk.inj (Option.some.inj ho)
             refine ⟨_, fun _ _ => eqGuard_int, fun w' _ => by simp [binOp, Op.intArith, Op.intDiv, Op.intBits, Op.intCmp, hp]; rfl, by simp [RD, bits]⟩)
          | cases ho
      · cases ho
  · rename_i m n
    simp only [RD] at hu hv
    obtain ⟨rfl, rfl⟩ := hu
    obtain ⟨rfl, rfl⟩ := hv
    split at ho
    · obtain ⟨rfl, rfl⟩ := Prod.mk.inj (Option.some.inj ho)
      refine ⟨.string (m ++ n), fun _ _ => eqGuard_string, ?_, by simp [RD]⟩
      intro w' _
      have : ¬ (((m.size + n.size : Nat) : Int) > IntKind.i64.max) := by
        have : IntKind.i64.max = 9223372036854775807 := by decide
        omega
      simp only [binOp, Op.stringOp]
      rw [if_neg this]
      rfl
    · obtain ⟨rfl, rfl⟩ := Prod.mk.inj (Option.some.inj ho)
      exact ⟨_, fun _ _ => eqGuard_string, fun w' _ => by simp only [binOp, Op.stringOp, string_eq]; rfl, by simp [RD]⟩
    · obtain ⟨rfl, rfl⟩ := Prod.mk.inj (Option.some.inj ho)
      exact ⟨_, fun _ _ => eqGuard_string, fun w' _ => by simp only [binOp, Op.stringOp, string_eq]; rfl, by simp [RD]⟩
    · obtain ⟨rfl, rfl⟩ := Prod.mk.inj (Option.some.inj ho)
      exact ⟨_, fun _ _ => eqGuard_string, fun w' _ => by simp only [binOp, Op.stringOp, string_eq]; rfl, by simp [RD]⟩
    · obtain ⟨rfl, rfl⟩ := Prod.mk.inj (Option.some.inj ho)
      exact ⟨_, fun _ _ => eqGuard_string, fun w' _ => by simp only [binOp, Op.stringOp, string_eq]; rfl, by simp [RD]⟩
    · obtain ⟨rfl, rfl⟩ := Prod.mk.inj (Option.some.inj ho)
      exact ⟨_, fun _ _ => eqGuard_string, fun w' _ => by simp only [binOp, Op.stringOp, string_eq]; rfl, by simp [RD]⟩
    · obtain ⟨rfl, rfl⟩ := Prod.mk.inj (Option.some.inj ho)
      exact ⟨_, fun _ _ => eqGuard_string, fun w' _ => by simp only [binOp, Op.stringOp, string_eq]; rfl, by simp [RD]⟩
    · cases ho
  · rename_i m n
    simp only [RD] at hu hv
    obtain ⟨rfl, rfl⟩ := hu
    obtain ⟨rfl, rfl⟩ := hv
    split at ho
    · obtain ⟨rfl, rfl⟩ := Prod.mk.inj (Option.some.inj ho)
      exact ⟨.bool (m == n), fun _ _ => eqGuard_bool, fun w' _ => by simp [binOp, equal_bool hp], by simp [RD]⟩
    · obtain ⟨rfl, rfl⟩ := Prod.mk.inj (Option.some.inj ho)
      exact ⟨.bool (m != n), fun _ _ => eqGuard_bool, fun w' _ => by simp [binOp, equal_bool hp, bne], by simp [RD]⟩
    · cases ho
  · rename_i xs ys
    simp only [RD] at hu hv
    obtain ⟨us, rfl, _, h1⟩ := hu
    obtain ⟨vs, rfl, _, h2⟩ := hv
    split at ho
    · simp only [Option.map_eq_some_iff] at ho
      obtain ⟨b, h3, h4⟩ := ho
      obtain ⟨rfl, rfl⟩ := Prod.mk.inj h4
      obtain ⟨ps, qs, rfl, rfl, h5, rfl⟩ := eqInts_spec h3
      have e1 := rds_ints h1
      have e2 := rds_ints h2
      have hpp := fun w' => hp ps qs ox oy w' (by simp) (by have := congrArg List.length h5; simpa using this.symm) h5 _ _ rfl rfl
      subst e1 e2
      exact ⟨_, fun w' _ => (hpp w').1, fun w' _ => by simp [binOp, (hpp w').2.2]; rfl, by simp [RD]⟩
    · simp only [Option.map_eq_some_iff] at ho
      obtain ⟨b, h3, h4⟩ := ho
      obtain ⟨rfl, rfl⟩ := Prod.mk.inj h4
      obtain ⟨ps, qs, rfl, rfl, h5, rfl⟩ := eqInts_spec h3
      have e1 := rds_ints h1
      have e2 := rds_ints h2
      have hpp := fun w' => hp ps qs ox oy w' (by simp) (by have := congrArg List.length h5; simpa using this.symm) h5 _ _ rfl rfl
      subst e1 e2
      exact ⟨_, fun w' _ => (hpp w').2.1, fun w' _ => by simp [binOp, (hpp w').2.2]; rfl, by simp [RD]⟩
    · cases ho
  · cases ho

theorem unD_sound {op : UnOp} {x r : D} (ho : unD op x = some r) {u : Value} {bs : List Nat} (hu : RD w false x u bs) : ∃ z, RT P w (Op.unary op u) z ∧ RD w false r z [] := by
  unfold unD at ho
  split at ho
  · simp only [RD] at hu
    obtain ⟨rfl, rfl⟩ := hu
    split at ho
    · cases ho; exact ⟨_, fun _ _ => rfl, by simp [RD]⟩
    · cases ho
  · simp only [RD] at hu
    obtain ⟨rfl, rfl⟩ := hu
    split at ho
    · cases ho; exact ⟨_, fun _ _ => rfl, by simp [RD]⟩
    · cases ho
  · cases ho

theorem VR.of_rd {ob : List (Nat × OB)} {r : D} {z : Value} (h : RD w false r z []) : VR P w0 w ob ν (.d r) z := by
  simp only [VR]
  exact ⟨[], h, by simp⟩

theorem VR.pick {ob : List (Nat × OB)} {c : Bool} {x y : AV} {u v : Value} (hx : VR P w0 w ob ν x u) (hy : VR P w0 w ob ν y v) : VR P w0 w ob ν (pickA c x y) (if c then u else v) := by
  unfold pickA
  split
  · have e1 := hx.val
    have e2 := hy.val
    subst e1 e2
    cases c <;> exact VR.mk _
  · cases c
    · simpa using hy
    · simpa using hx

theorem part_sound {t : TypeId} {ob : List (Nat × OB)} {cs : List AV} {o : Nat} {p : Prop} {x : AV} (ho : loadA P t cs o = some (p, x)) (hp : p) {ys : List Value} (h1 : Ones ys) (hr : VRs P w0 w ob ν cs ys) :
    ∃ v, RT P w (part t ys.toArray o) v ∧ VR P w0 w ob ν x v := by
  have hlen := hr.length
  unfold loadA at ho
  split at ho
  · rename_i ht
    obtain ⟨rfl, rfl⟩ := Prod.mk.inj (Option.some.inj ho)
    have h4 := (hr.drop o).take (P.cellsOf t)
    refine ⟨.agg ((ys.drop o).take (P.cellsOf t)).toArray, ?_, ?_⟩
    · intro w' _
      simp only [part, Sem.run_bind, run_agg (tAgg_some ht), Result.andThen_ok, ht, if_true, run_size (tAgg_some ht), Sem.run_pure]
      congr 2
      apply Array.ext'
      simp [List.extract_eq_take_drop]
    · unfold AV.pack
      split
      · rename_i ds hd
        rw [allD_spec hd] at h4
        obtain ⟨bs, h5, h6⟩ := h4.to_rds
        simp only [VR, RD]
        exact ⟨bs, ⟨_, rfl, (h1.drop o).take _, h5⟩, h6⟩
      · simp only [VR]
        exact ⟨_, rfl, (h1.drop o).take _, h4⟩
  · rename_i ht
    obtain ⟨rfl, rfl⟩ := Prod.mk.inj (Option.some.inj ho)
    obtain ⟨y, h2, h3⟩ := hr.get o hp.2
    refine ⟨y, ?_, h3⟩
    intro w' _
    simp only [part, Sem.run_bind, run_agg hp.1, Result.andThen_ok, ht]
    simp [h2]

theorem partD_sound {t : TypeId} {cs : List D} {o : Nat} {p : Prop} {x : D} (ho : loadD P t cs o = some (p, x)) (hp : p) {ys : List Value} {bs : List Nat} (h1 : Ones ys) (hr : RDs w false cs ys bs) :
    ∃ v bs', RT P w (part t ys.toArray o) v ∧ RD w false x v bs' ∧ ∀ b ∈ bs', b ∈ bs := by
  have hlen := hr.length
  unfold loadD at ho
  split at ho
  · rename_i ht
    obtain ⟨rfl, rfl⟩ := Prod.mk.inj (Option.some.inj ho)
    obtain ⟨bs1, h2, h3⟩ := hr.drop o
    obtain ⟨bs2, h4, h5⟩ := h2.take (P.cellsOf t)
    refine ⟨.agg ((ys.drop o).take (P.cellsOf t)).toArray, bs2, ?_, ?_, fun b hb => h3 b (h5 b hb)⟩
    · intro w' _
      simp only [part, Sem.run_bind, run_agg (tAgg_some ht), Result.andThen_ok, ht, if_true, run_size (tAgg_some ht), Sem.run_pure]
      congr 2
      apply Array.ext'
      simp [List.extract_eq_take_drop]
    · simp only [RD]
      exact ⟨_, rfl, (h1.drop o).take _, h4⟩
  · rename_i ht
    obtain ⟨rfl, rfl⟩ := Prod.mk.inj (Option.some.inj ho)
    obtain ⟨y, bs', h2, h3, h4⟩ := hr.get o hp.2
    refine ⟨y, bs', ?_, h3, h4⟩
    intro w' _
    simp only [part, Sem.run_bind, run_agg hp.1, Result.andThen_ok, ht]
    simp [h2]

theorem field_sound (h : Sim P w0 σ ν a w) {t : TypeId} {x : Operand} {f : Nat} {p : Prop} {r : AV} (ho : pureOp P σ (.field t x f) = some (p, r)) (hp : p) :
    ∃ v, RT P w (Instr.field t (a.eval x) f) v ∧ VR P w0 w σ.ob ν r v := by
  have hx := h.ev x
  simp only [pureOp] at ho
  split at ho
  · rename_i fs hfs
    split at ho
    · rename_i fd hfd
      split at ho
      · rename_i cs hsx
        rw [hsx] at hx
        simp only [VR, RD] at hx
        obtain ⟨bs, ⟨xs, h1, h2, h3⟩, h4⟩ := hx
        simp only [Option.map_eq_some_iff] at ho
        obtain ⟨⟨p', x'⟩, h8, h9⟩ := ho
        obtain ⟨rfl, rfl⟩ := Prod.mk.inj h9
        obtain ⟨v, bs', h5, h6, h7⟩ := partD_sound h8 hp h2 h3
        refine ⟨v, ?_, ?_⟩
        · rw [h1]
          simpa [RT, Instr.field, run_underlying hfs, hfd, asAgg] using h5
        · simp only [VR]
          exact ⟨bs', h6, fun b hb => h4 b (h7 b hb)⟩
      · rename_i cs hsx
        rw [hsx] at hx
        simp only [VR] at hx
        obtain ⟨xs, h1, h2, h3⟩ := hx
        obtain ⟨v, h5, h6⟩ := part_sound ho hp h2 h3
        refine ⟨v, ?_, h6⟩
        rw [h1]
        simpa [RT, Instr.field, run_underlying hfs, hfd, asAgg] using h5
      · cases ho
    · cases ho
  · cases ho

theorem extract_sound (h : Sim P w0 σ ν a w) {x : Operand} {i : Nat} {p : Prop} {r : AV} (ho : pureOp P σ (.extract x i) = some (p, r)) :
    ∃ v, RT P w (Instr.extract (a.eval x) i) v ∧ VR P w0 w σ.ob ν r v := by
  have hx := h.ev x
  simp only [pureOp] at ho
  split at ho
  · rename_i cs hsx
    rw [hsx] at hx
    simp only [VR, RD] at hx
    obtain ⟨bs, ⟨xs, h1, h2⟩, h3⟩ := hx
    split at ho
    · rename_i y hy
      obtain ⟨rfl, rfl⟩ := Prod.mk.inj (Option.some.inj ho)
      have hi := (List.getElem?_eq_some_iff.1 hy).1
      obtain ⟨z, bs', h4, h5, h6⟩ := h2.get i hi
      rw [List.getD_eq_getElem?_getD, hy] at h5
      refine ⟨z, ?_, ?_⟩
      · rw [h1]; simp [RT, Instr.extract, h4]
      · simp only [VR]
        exact ⟨bs', h5, fun b hb => h3 b (h6 b hb)⟩
    · cases ho
  · rename_i cs hsx
    rw [hsx] at hx
    simp only [VR] at hx
    obtain ⟨xs, h1, h2⟩ := hx
    split at ho
    · rename_i y hy
      obtain ⟨rfl, rfl⟩ := Prod.mk.inj (Option.some.inj ho)
      have hi := (List.getElem?_eq_some_iff.1 hy).1
      obtain ⟨z, h4, h5⟩ := h2.get i hi
      rw [List.getD_eq_getElem?_getD, hy] at h5
      exact ⟨z, by rw [h1]; simp [RT, Instr.extract, h4], h5⟩
    · cases ho
  · cases ho

theorem index_sound (h : Sim P w0 σ ν a w) {t : TypeId} {x y : Operand} {p : Prop} {r : AV} (ho : pureOp P σ (.index t x y) = some (p, r)) (hp : p) :
    ∃ v, RT P w (Instr.index t (a.eval x) (a.eval y)) v ∧ VR P w0 w σ.ob ν r v := by
  have hx := h.ev x
  have hy := h.ev y
  simp only [pureOp] at ho
  split at ho
  · rename_i s kk i hu hsx hsy
    obtain ⟨rfl, rfl⟩ := Prod.mk.inj (Option.some.inj ho)
    rw [hsx] at hx
    rw [hsy] at hy
    obtain ⟨h1, h2⟩ := hp
    have hi : i.toNat < s.size := by omega
    refine ⟨.int .u8 ((s.data.toList.getD i.toNat 0).toNat : Int), ?_, VR.mk _⟩
    rw [hx.val, hy.val]
    have hs : s[i.toNat]? = some (s.data.toList.getD i.toNat 0) := by
      rw [getElem?_pos s i.toNat hi]
      congr 1
      simp only [List.getD_eq_getElem?_getD, Array.getElem?_toList]
      rw [Array.getElem?_eq_getElem (by simpa using hi)]
      rfl
    intro w' _
    simp only [Instr.index, asIntOf, Sem.run_bind, Sem.run_pure, Result.andThen_ok, run_underlying hu, if_pos h1, hs]
  · rename_i n e cs kk i hu hsx hsy
    split at ho
    · cases ho
    · rename_i ht
      obtain ⟨rfl, rfl⟩ := Prod.mk.inj (Option.some.inj ho)
      rw [hsx] at hx
      rw [hsy] at hy
      obtain ⟨h1, h2, h3, h4, h5⟩ := hp
      simp only [VR, RD] at hx
      obtain ⟨bs, ⟨xs, g1, g2, g3⟩, g4⟩ := hx
      obtain ⟨z, bs', g5, g6, g7⟩ := g3.get i.toNat (by omega)
      refine ⟨z, ?_, ?_⟩
      · rw [g1, hy.val]
        intro w' _
        simp only [Instr.index, asIntOf, Sem.run_bind, Sem.run_pure, Result.andThen_ok, run_underlying hu, if_pos (show 0 ≤ i ∧ i < (n : Int) from ⟨h1, h2⟩), run_size' h4 (by decide), Nat.mul_one, part, run_agg h5, ht]
        simp [g5]
      · simp only [VR]
        exact ⟨bs', g6, fun b hb => g4 b (g7 b hb)⟩
  · cases ho
end

end Go.Proofs.Ytdinkfmkhdnbpaa
