/- Maps whose keys are pairs of integers (arrays of two), their values bools. -/
import Derived.Test.YtjfeleejiofeoaaFlowE
import Derived.WalkKit
import Derived.WalkSpells
import Derived.ChangeKeysEq
namespace Go.Proofs.Ytjfeleejiofeoaa
open Go.RowKit
set_option linter.unusedVariables false
set_option linter.unusedSimpArgs false

section
variable {P : Program}

theorem key2 {k : List Int} (h : k.length = 2) : ∃ a b, k = [a, b] := by
  match k, h with
  | [a, b], _ => exact ⟨a, b, rfl⟩

theorem structEq_a2 {t et : TypeId} (h : P.underlying t = some (.array 2 et)) (he : P.underlying et = some (.int .i64)) (hs : P.cellsOf et = 1) (hg : P.eqGuardType P.depth t = false) : StructEq P t 2 := by
  intro xs ys x y w h1 h2 h3 u v hu hv
  subst hu hv
  refine ⟨run_eqGuard_agg w .eql t x y _ _ hg, run_eqGuard_agg w .neq t x y _ _ hg, ?_⟩
  match xs, ys, h1, h2 with
  | [(k1, a), (k2, b)], [(l1, c), (l2, d)], _, _ =>
    simp only [List.map_cons, List.map_nil, List.cons.injEq, and_true] at h3
    obtain ⟨rfl, rfl⟩ := h3
    have hag : (isAgg et).run P w = .ok false w := by simp [isAgg, run_underlying he]
    have hp : ∀ (zs : Array Value) (i : Nat) (v : Value), zs[i]? = some v → (part et zs i).run P w = .ok v w := fun zs i v hv => by
      simp only [part, Sem.run_bind, hag, Result.andThen_ok, Bool.false_eq_true, if_false]
      rw [hv]
      rfl
    have hsz : (sizeOf et).run P w = .ok 1 w := run_size' hs (by decide)
    have e0 : ∀ D k p q, (Op.equalIn (D + 1) et (.int k p) (.int k q)).run P w = .ok (p == q) w := fun D k p q => run_equalIn_int w D et k .i64 p q he
    have key : ∀ D, (Op.equalIn (D + 1 + 1) t (.agg #[.int k1 a, .int k2 b]) (.agg #[.int k1 c, .int k2 d])).run P w = .ok ([a, b] == [c, d]) w := fun D => by
      have q0 := hp #[.int k1 a, .int k2 b] 0 _ rfl
      have q1 := hp #[.int k1 a, .int k2 b] 1 _ rfl
      have r0 := hp #[.int k1 c, .int k2 d] 0 _ rfl
      have r1 := hp #[.int k1 c, .int k2 d] 1 _ rfl
      obtain ⟨ti, hti⟩ := info_of_underlying he
      rw [run_equalIn_array w (D + 1) _ _ h hti, hs]
      simp only [Op.eqItems, List.range, List.range.loop, Nat.zero_mul, Nat.mul_one, Nat.one_mul, Sem.run_bind, q0, q1, r0, r1, Result.andThen_ok, e0]
      cases hac : a == c <;> cases hbd : b == d <;> simp_all
    exact key 9998

theorem findAsk2 {kt : TypeId} (hq : StructEq P kt 2) (a b : Int) (w : World) : ∀ (kvs : List (List Int × Value)) (i j : Nat), (∀ p ∈ kvs, p.1.length = 2) → (Instr.findAsking kt (keyV [a, b]) (entsV j kvs) i).run P w = .ok (findK [a, b] kvs i) w
  | [], _, _, _ => by simp only [entsV, Instr.findAsking, findK, Sem.run_pure]
  | (l, v) :: r, i, j, h => by
    obtain ⟨c, d, rfl⟩ := key2 (h (l, v) (by simp))
    have hr := findAsk2 hq a b w r (i + 1) (j + 1) (fun p hp => h p (by simp [hp]))
    obtain ⟨_, _, h3⟩ := hq [(.i64, a), (.i64, b)] [(.i64, c), (.i64, d)] (.tmp 0) (.tmp 0) w rfl rfl rfl (keyV [a, b]) (keyV [c, d]) rfl rfl
    simp only [entsV, Instr.findAsking, Sem.run_bind, h3, Result.andThen_ok, findK]
    by_cases e : [c, d] = [a, b]
    · have e2 : ([(IntKind.i64, a), (IntKind.i64, b)].map (·.2) == [(IntKind.i64, c), (IntKind.i64, d)].map (·.2)) = true := by
        simp only [List.cons.injEq, and_true] at e
        simp [e.1, e.2]
      rw [e2, if_pos e]
      simp
    · have e2 : ([(IntKind.i64, a), (IntKind.i64, b)].map (·.2) == [(IntKind.i64, c), (IntKind.i64, d)].map (·.2)) = false := by
        simp only [List.map_cons, List.map_nil, beq_eq_false_iff_ne, ne_eq]
        exact fun q => e q.symm
      rw [e2, if_neg e]
      simpa using hr

theorem keyT_a2 {kt et : TypeId} (h : P.underlying kt = some (.array 2 et)) (he : P.underlying et = some (.int .i64)) (hs : P.cellsOf et = 1) (hq : StructEq P kt 2) : KeyT P kt 2 := by
  intro k kvs w hk hl
  obtain ⟨a, b, rfl⟩ := key2 hk
  refine ⟨fun em => ?_, ?_, by simp [keyV, Instr.sameBits]⟩
  · have hag : (isAgg et).run P w = .ok false w := by simp [isAgg, run_underlying he]
    have hp : ∀ (i : Nat) (v : Value), #[Value.int .i64 a, Value.int .i64 b][i]? = some v → (part et #[Value.int .i64 a, Value.int .i64 b] i).run P w = .ok v w := fun i v hv => by
      simp only [part, Sem.run_bind, hag, Result.andThen_ok, Bool.false_eq_true, if_false]
      rw [hv]
      rfl
    have hsz : (sizeOf et).run P w = .ok 1 w := run_size' hs (by decide)
    have hk : ∀ (m : Nat) (n : Int), (Instr.checkKey em (m + 1) et (.int .i64 n)).run P w = .ok () w := fun m n => by
      rw [Instr.checkKey]
      simp only [Sem.run_bind, run_underlying he, Result.andThen_ok]
      rfl
    have hck : ∀ m, (Instr.checkKey em (m + 1 + 1) kt (keyV [a, b])).run P w = .ok () w := fun m => by
      rw [Instr.checkKey]
      have hp0 := hp 0 (.int .i64 a) rfl
      have hp1 := hp 1 (.int .i64 b) rfl
      simp only [keyV, Sem.run_bind, run_underlying h, Result.andThen_ok]
      simp [Std.Legacy.Range.forIn_eq_forIn_range', List.range', hsz, hp0, hp1, hk]
    exact hck 9998
  · simp only [Instr.findKey, Sem.run_bind, run_underlying h, Result.andThen_ok]
    cases kvs with
    | nil => simp [entsV, Instr.findNow, findK]
    | cons p r =>
      have hn : Instr.findNow (.array 2 et) (keyV [a, b]) (entsV 0 (p :: r)) 0 = none := by
        obtain ⟨l, v⟩ := p
        simp [entsV, Instr.findNow, Instr.sameNow]
      simp only [hn]
      exact findAsk2 hq a b w (p :: r) 0 0 hl

def mpB (L : List (Int × Int)) : List (List Int × Value) := L.map fun p => ([p.1, p.2], Value.bool true)

theorem lookK_mpB (x y : Int) : ∀ L, lookK [x, y] (mpB L) = if (x, y) ∈ L then some (Value.bool true) else none
  | [] => by simp [mpB, lookK]
  | (a, b) :: r => by
    show (if [a, b] = [x, y] then some (Value.bool true) else lookK [x, y] (mpB r)) = _
    rw [lookK_mpB x y r]
    by_cases e : [a, b] = [x, y]
    · simp only [List.cons.injEq, and_true] at e
      simp [e.1, e.2]
    · rw [if_neg e]
      have : (x, y) ≠ (a, b) := by
        intro q
        cases q
        exact e rfl
      simp [this]

theorem lookD_mpB (x y : Int) (L : List (Int × Int)) : lookD [x, y] (mpB L) (.bool false) false = .bool (decide ((x, y) ∈ L)) := by
  simp only [lookD, lookK_mpB, cond_false]
  by_cases h : (x, y) ∈ L
  · simp [h]
  · simp [h]

theorem setKV_mpB (x y : Int) : ∀ L, (x, y) ∉ L → setKV [x, y] (.bool true) (mpB L) = mpB (L ++ [(x, y)])
  | [], _ => rfl
  | (a, b) :: r, h => by
    show (if [a, b] = [x, y] then ([x, y], Value.bool true) :: mpB r else ([a, b], Value.bool true) :: setKV [x, y] (.bool true) (mpB r)) = _
    have e : ¬ [a, b] = [x, y] := by
      intro q
      simp only [List.cons.injEq, and_true] at q
      exact h (by simp [q.1, q.2])
    rw [if_neg e, setKV_mpB x y r (fun q => h (by simp [q]))]
    rfl

theorem keysAre_mpB (L : List (Int × Int)) : keysAre 2 (mpB L) = True := eq_true (fun p hp => by
  obtain ⟨q, _, rfl⟩ := List.mem_map.1 hp
  rfl)

end

end Go.Proofs.Ytjfeleejiofeoaa
