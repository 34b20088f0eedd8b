/- Stores, make, append, results taken over, data read off objects. -/
import Derived.Test.YteimddagjikcaaaFlowB
import Derived.WalkKit
import Derived.WalkSpells
import Derived.Laws.CopyRow
import Derived.Laws.Tables
import Derived.IntWalk
import Derived.Laws.Append
import Derived.Laws.AppendOwn
namespace Go.Proofs.Yteimddagjikcaaa
open Go.RowKit
set_option linter.unusedVariables false
set_option linter.unusedSimpArgs false

section
variable {P : Program} {w0 : Env} {w : World} {σ : St} {ν : Loc} {a : Act}

theorem Sim.turn (h : Sim P w0 σ ν a w) {s : Nat} {o o' : OB} (hs : lookO σ.ob s = some o) (ho' : o' ≠ .dead) {b base : Nat} (hν : ν s = some (b, base)) {w' : World} (hsz' : w.heap.size = w'.heap.size)
    (hos : w'.os = w.os) (htp : w'.tape = w.tape) (hou : w'.output = w.output) (hother : ∀ k, k ≠ b → w'.heap[k]? = w.heap[k]?)
    (hrow : ∀ c T, w.heap[b]? = some (.cells c T (0, 0)) → ∃ (c' : Array Value) (T' : TypeId), w'.heap[b]? = some (.cells c' T' (0, 0)) ∧ c'.size = c.size)
    (hxl : (obCells o').length = (obCells o).length)
    (hor : Later σ.ob ν w (putO σ.ob s o') ν w' → (∀ t, Fits σ.ob ν (putO σ.ob s o') ν t) → (¬ w0.S b ∧ w0.D b) → OR P w0 w' (putO σ.ob s o') ν s o') :
    Sim P w0 { σ with ob := putO σ.ob s o' } ν a w' := by
  have hlk : ∀ t, lookO (putO σ.ob s o') t = if t = s then some o' else lookO σ.ob t := fun t => lookO_put ho'
  have hlive : ∀ t, (lookO (putO σ.ob s o') t).isSome = true → (lookO σ.ob t).isSome = true := fun t ht => by
    rw [hlk] at ht
    split at ht
    · rename_i e; subst e; simp [hs]
    · exact ht
  have hB : ¬ w0.S b ∧ w0.D b := by
    rcases h.objs s o hs with ⟨g, _⟩ | ⟨b', base', c2, T2, xs, g1, g2, _⟩
    · rw [g] at hν; cases hν
    · rw [g1] at hν; cases hν; exact g2
  have hl : Later σ.ob ν w (putO σ.ob s o') ν w' := by
    refine ⟨Nat.le_of_eq hsz', fun b' hb' ha => ⟨fun t o2 ht p hp => ?_, hother b' (fun e => ?_)⟩, fun b' c2 T2 h2 => ?_⟩
    · rw [hlk] at ht
      split at ht
      · rename_i e; subst e
        exact ha t o hs p hp
      · exact ha t o2 ht p hp
    · exact ha s o hs _ hν e.symm
    · by_cases e : b' = b
      · subst e
        exact hrow c2 T2 h2
      · exact ⟨c2, T2, (hother b' e).trans h2, rfl⟩
  have hf : ∀ t, Fits σ.ob ν (putO σ.ob s o') ν t := fun t ht => ⟨hlive t ht, rfl, fun o1 o2 g1 g2 => by
    rw [hlk] at g2
    split at g2
    · rename_i e; subst e
      rw [hs] at g1; cases g1; cases g2
      exact hxl
    · rw [g1] at g2; cases g2; rfl⟩
  have hbelow : Keep w0.S w w' := ⟨hos, htp, hou, Nat.le_of_eq hsz', fun k hk => hother k (fun e => hB.1 (e ▸ hk))⟩
  refine ⟨⟨fun t o2 ht => ?_, fun t t' o1 o2 p p' hne g1 g2 g3 g4 => ?_⟩, h.below.trans hbelow, h.rows.trans hl.rows, h.lt, h.fresh, h.le, h.glob, h.stab, h.defers, h.size, fun t => VR.later hl (h.slots t) (fun t' _ => hf t')⟩
  · have ht' := ht
    rw [hlk] at ht'
    split at ht'
    · rename_i e; subst e
      cases ht'
      exact hor hl hf hB
    · rename_i hne
      refine (h.objs t o2 ht').later (σ' := { σ with ob := putO σ.ob s o' }) hl rfl (fun t' _ => hf t') (fun b2 base2 hb2 => hother b2 (fun e => ?_))
      subst e
      exact h.inj t s o2 o _ _ hne ht' hs hb2 hν rfl
  · obtain ⟨q1, hq1⟩ := Option.isSome_iff_exists.1 (hlive t (by rw [g1]; rfl))
    obtain ⟨q2, hq2⟩ := Option.isSome_iff_exists.1 (hlive t' (by rw [g2]; rfl))
    exact h.inj t t' q1 q2 p p' hne hq1 hq2 g3 g4

theorem Sim.store (h : Sim P w0 σ ν a w) {s : Nat} {o o' : OB} (hs : lookO σ.ob s = some o) (ho' : o'.row = true) {b base : Nat} (hν : ν s = some (b, base)) {c c' : Array Value} {T : TypeId} (hc : w.heap[b]? = some (.cells c T (0, 0))) (hsz : c'.size = c.size)
    {ys : List Value} (hy : VRs P w0 w σ.ob ν (obCells o') ys) (h1 : Ones ys) (hcy : ∀ i, i < ys.length → c'[base + i]? = ys[i]?) (hlen : ys.length = (obCells o).length) :
    Sim P w0 { σ with ob := putO σ.ob s o' } ν a (w.setRow b c') :=
  h.turn hs (OB.row_ne ho') hν (by simp [World.setRow]) rfl rfl rfl (fun k hk => setRow_other w b k c' hk) (fun c2 T2 h2 => by rw [hc] at h2; cases h2; exact ⟨c', T, setRow_heap w b c c' T (0, 0) hc, hsz⟩)
    (by rw [← hy.length]; exact hlen)
    (fun hl hf hB => .inr ⟨b, base, c', T, ys, hν, hB, (setRow_heap w b c c' T (0, 0) hc).trans (by rw [objOf_row ho']), hcy, h1, VRs.later hl hy (fun t' _ => hf t')⟩)

theorem splice_get {α : Type} (l : List α) (off : Nat) (vs : List α) (h : off + vs.length ≤ l.length) (i : Nat) : (l.take off ++ vs ++ l.drop (off + vs.length))[i]? = if i < off then l[i]? else if i < off + vs.length then vs[i - off]? else l[i]? := by
  have h1 : (l.take off).length = off := by simp; omega
  rw [List.append_assoc, List.getElem?_append, h1]
  by_cases hi : i < off
  · rw [if_pos hi, if_pos hi, List.getElem?_take, if_pos hi]
  · rw [if_neg hi, if_neg hi, List.getElem?_append]
    by_cases hi2 : i < off + vs.length
    · rw [if_pos (by omega), if_pos hi2]
    · rw [if_neg (by omega), if_neg hi2, List.getElem?_drop]
      congr 1
      omega

theorem store_sound (h : Sim P w0 σ ν a w) {t : TypeId} {x y : Operand} {s off : Nat} (hsx : σ.ev x = .bp s off) {o o' : OB} (hs : lookO σ.ob s = some o) {p : Prop} (ho : storeOb P σ.ob t o off (σ.ev y) = some (p, o')) (hp : p) :
    ∃ w', (Instr.storeAt t (a.eval x) (a.eval y)).run P w = .ok () w' ∧ Sim P w0 { σ with ob := putO σ.ob s o' } ν a w' := by
  have hx := h.ev x
  rw [hsx] at hx
  simp only [VR] at hx
  obtain ⟨b, base, hν, hax⟩ := hx (by rw [hs]; rfl)
  unfold storeOb at ho
  split at ho
  · cases ho
  · rename_i cs hsp
    obtain ⟨vs, g1, g2, g3⟩ := split_sound hsp (h.ev y)
    have hlen := g3.length
    have hrow : o.row = true := by
      split at ho <;> first | rfl | cases ho
    rcases h.objs s o hs with ⟨q, _⟩ | ⟨b', base', c, T, xs, q1, q2, q3, q4, q5, q6⟩
    · rw [q] at hν; cases hν
    rw [q1] at hν
    cases hν
    rw [objOf_row hrow] at q3
    have key : ∀ (o2 : OB), o2.row = true → obCells o2 = (obCells o).take off ++ cs ++ (obCells o).drop (off + cs.length) → cs.length = P.cellsOf t → P.cellsOf t ≠ 0 → off + cs.length ≤ (obCells o).length →
        ∃ w', (Instr.storeAt t (a.eval x) (a.eval y)).run P w = .ok () w' ∧ Sim P w0 { σ with ob := putO σ.ob s o2 } ν a w' := by
      intro o2 hne hcells hcl hk hle
      have hxl := q6.length
      have hin : ∀ i, i < xs.length → base + i < c.size := fun i hi => by
        have := q4 i hi
        rw [List.getElem?_eq_getElem hi] at this
        exact (Array.getElem?_eq_some_iff.1 this).1
      have hfit : base + off + 0 + vs.length ≤ c.size := by
        have := hin (off + vs.length - 1) (by omega)
        omega
      have hrun := run_storeCells_at P b (base + off) T vs 0 c w q3 hfit g2
      simp only [Nat.add_zero] at hrun
      refine ⟨_, ?_, h.store hs hne q1 q3 (c' := (c.toList.take (base + off) ++ vs ++ c.toList.drop (base + off + vs.length)).toArray) (by simp; omega) (ys := xs.take off ++ vs ++ xs.drop (off + vs.length)) ?_ (((q5.take _).append g2).append (q5.drop _)) ?_ (by simp; omega)⟩
      · rw [hax]
        simp only [Instr.storeAt, Instr.sureAddr, Sem.run_bind, Sem.run_pure, Result.andThen_ok, storeVar, run_size' rfl hk]
        rw [if_neg (by rw [g1]; simp; omega), g1]
        exact hrun
      · rw [hcells]
        exact q6.splice g3 off
      · intro i hi
        simp only [List.length_append, List.length_take, List.length_drop] at hi
        rw [List.getElem?_toArray, splice_get _ _ _ (by simp; omega), splice_get _ _ _ (by omega)]
        by_cases hi1 : i < off
        · rw [if_pos (by omega), if_pos hi1, Array.getElem?_toList]
          exact q4 i (by omega)
        · rw [if_neg (by omega), if_neg hi1]
          by_cases hi2 : i < off + vs.length
          · rw [if_pos (by omega), if_pos hi2]
            congr 1
            omega
          · rw [if_neg (by omega), if_neg hi2, Array.getElem?_toList]
            exact q4 i (by omega)
    split at ho
    · rename_i old
      obtain ⟨rfl, rfl⟩ := Prod.mk.inj (Option.some.inj ho)
      exact key _ (by simp) rfl hp.1 hp.2.1 hp.2.2
    · rename_i old
      split at ho
      · rename_i d hd
        obtain ⟨rfl, rfl⟩ := Prod.mk.inj (Option.some.inj ho)
        have e := allD_spec hd
        subst e
        refine key _ (by simp) ?_ (by simpa using hp.1.symm) (by rw [hp.1]; decide) (by simp [obCells]; omega)
        simp only [obCells, List.length_cons, List.length_nil, List.map_cons, List.map_nil]
        rw [List.map_set, List.set_eq_take_append_cons_drop, if_pos (by simpa using hp.2)]
        simp
      · rename_i ds _ hd
        obtain ⟨rfl, rfl⟩ := Prod.mk.inj (Option.some.inj ho)
        have e := allD_spec hd
        subst e
        refine key _ (by simp) ?_ (by simpa using hp.1) hp.2.1 (by simpa [obCells] using hp.2.2)
        simp only [obCells, List.length_map, List.map_append, List.map_take, List.map_drop]
      · obtain ⟨rfl, rfl⟩ := Prod.mk.inj (Option.some.inj ho)
        refine key _ (by simp) ?_ hp.1 hp.2.1 (by simpa [obCells] using hp.2.2)
        simp only [obCells, List.map_take, List.map_drop]
    · cases ho

end

section
variable {P : Program} {w0 : Env} {w : World} {σ : St} {ν : Loc} {a : Act}

theorem fill_cells {o : OB} {off : Nat} {zs : List D} (ho : o.row = true) : (o.fill off zs).row = true ∧ obCells (o.fill off zs) = (obCells o).take off ++ zs.map AV.d ++ (obCells o).drop (off + zs.length) := by
  cases o with
  | ds cs => exact ⟨by simp [OB.fill], by simp [OB.fill, obCells, List.map_take, List.map_drop]⟩
  | av cs => exact ⟨by simp [OB.fill], by simp [OB.fill, obCells]⟩
  | mp _ => cases ho
  | it _ _ _ => cases ho
  | dead => cases ho

theorem clear_sound (h : Sim P w0 σ ν a w) {t e ty : TypeId} {x : Operand} {s off n k : Nat} (hu : P.underlying t = some (.slice e)) (hsx : σ.ev x = .bs s off n k) {o : OB} (hs : lookO σ.ob s = some o) (hk : P.cellsOf e = k) (hk0 : k ≠ 0) (hn : n ≠ 0) (hz : zeroOk P e = true) (hle : off + n * k ≤ (obCells o).length) :
    ∃ w', (Builtin.clear_ #[t] ty #[a.eval x]).run P w = .ok (.tuple #[]) w' ∧ Sim P w0 { σ with ob := putO σ.ob s (o.fill off ((List.replicate n (zeroD P e)).flatten)) } ν a w' := by
  have hx := h.ev x
  rw [hsx] at hx
  simp only [VR] at hx
  obtain ⟨_, hx⟩ := hx (by rw [hs]; rfl)
  rcases hx with ⟨_, _, e, _⟩ | ⟨b, base, cap, ad, c0, T0, hν, hax, hcap, had, hc0, _⟩
  · exact absurd e hn
  rcases had with ⟨e, _⟩ | rfl
  · omega
  rcases h.objs s o hs with ⟨q, _⟩ | ⟨b', base', c, T, xs, q1, q2, q3, q4, q5, q6⟩
  · rw [q] at hν; cases hν
  rw [q1] at hν
  cases hν
  have hod : o.row = true := by
    rw [q3] at hc0
    have hnk : n * k ≠ 0 := fun e => by
      rcases Nat.mul_eq_zero.1 e with e | e
      · exact hn e
      · exact hk0 e
    cases o with
    | ds _ => rfl
    | av _ => rfl
    | mp _ => cases hc0
    | it _ _ _ => cases hc0
    | dead => simp only [obCells, List.length_nil] at hle; omega
  rw [objOf_row hod] at q3
  obtain ⟨z, z1, z2, z3, z4⟩ := zero_run (w := w) hz
  have hzz : z.cells = (zeroV P e).toArray := by rw [← z2]
  obtain ⟨f1, f2⟩ := fill_cells (off := off) (zs := (List.replicate n (zeroD P e)).flatten) hod
  let vs := (List.replicate n (zeroV P e)).flatten
  have hvs : vs.length = n * k := by simp [vs, z4, hk]
  have hds : ((List.replicate n (zeroD P e)).flatten).map AV.d = (List.replicate n ((zeroD P e).map AV.d)).flatten := by
    simp only [List.map_flatten, List.map_replicate]
  have hdl : ((List.replicate n (zeroD P e)).flatten).length = n * k := by simp [zeroD, z4, hk]
  have g2 : Ones vs := Ones.flatten z3 n
  have g3 : VRs P w0 w σ.ob ν (((List.replicate n (zeroD P e)).flatten).map AV.d) vs := by
    rw [hds]
    exact VRs.flatten _ _
  have hxl := q6.length
  have hnk : n * k ≠ 0 := fun e => by
    rcases Nat.mul_eq_zero.1 e with e | e
    · exact hn e
    · exact hk0 e
  have hin : ∀ i, i < xs.length → base + i < c.size := fun i hi => by
    have := q4 i hi
    rw [List.getElem?_eq_getElem hi] at this
    exact (Array.getElem?_eq_some_iff.1 this).1
  have hfit : base + off + 0 + vs.length ≤ c.size := by
    have := hin (off + n * k - 1) (by omega)
    omega
  have hrun := run_storeCells_at P b (base + off) T vs 0 c w q3 hfit g2
  simp only [Nat.add_zero] at hrun
  refine ⟨_, ?_, h.store hs f1 q1 q3 (c' := (c.toList.take (base + off) ++ vs ++ c.toList.drop (base + off + vs.length)).toArray) (by simp; omega) (ys := xs.take off ++ vs ++ xs.drop (off + vs.length)) ?_ (((q5.take _).append g2).append (q5.drop _)) ?_ (by simp; omega)⟩
  · rw [hax]
    obtain ⟨m, rfl⟩ : ∃ m, n = m + 1 := ⟨n - 1, by omega⟩
    have hl := zeros_list (zeroV P e) (m + 1)
    have e0 : (Builtin.zeroCells (zeroV P e).toArray (m + 1)).toList = vs := by
      simp only [Builtin.zeroCells, List.size_toArray]
      exact hl
    simp only [Builtin.clear_, List.getElem?_toArray, List.getElem?_cons_zero, Sem.run_bind, run_underlying hu, Result.andThen_ok, z1, hzz, e0, Sem.run_pure]
    rw [hrun]
    rfl
  · rw [f2, ← List.length_map (f := AV.d)]
    exact q6.splice g3 off
  · intro i hi
    simp only [List.length_append, List.length_take, List.length_drop] at hi
    rw [List.getElem?_toArray, splice_get _ _ _ (by simp; omega), splice_get _ _ _ (by omega)]
    by_cases hi1 : i < off
    · rw [if_pos (by omega), if_pos hi1, Array.getElem?_toList]
      exact q4 i (by omega)
    · rw [if_neg (by omega), if_neg hi1]
      by_cases hi2 : i < off + vs.length
      · rw [if_pos (by omega), if_pos hi2]
        congr 1
        omega
      · rw [if_neg (by omega), if_neg hi2, Array.getElem?_toList]
        exact q4 i (by omega)

theorem info_of {t : TypeId} (h : P.cellsOf t ≠ 0) : ∃ i, P.info? t = some i ∧ i.size = P.cellsOf t ∧ i.bytes = P.bytesOf t := by
  cases hi : P.info? t with
  | none => simp [Program.cellsOf, hi] at h
  | some i => exact ⟨i, rfl, by simp [Program.cellsOf, hi], by simp [Program.bytesOf, hi]⟩

theorem makeSlice_sound (h : Sim P w0 σ ν a w) {t e : TypeId} {s : Nat} (hs : s < σ.n) (hu : P.underlying t = some (.slice e)) {n : Int} (hn : 0 ≤ n) (hb : n * P.bytesOf e ≤ 140737488355328) (hb0 : P.bytesOf e ≠ 0) (hz : zeroOk P e = true) (hk : P.cellsOf e ≠ 0) :
    ∃ v w' ν', (Instr.makeSlice t (.int .i64 n) (.int .i64 n)).run P w = .ok v w' ∧ Sim P w0 (σ.new s (.ds ((List.replicate n.toNat (zeroD P e)).flatten)) (.bs s 0 n.toNat (P.cellsOf e))) ν' (a.put (some s) v) w' ∧ Below w.heap.size w w' := by
  obtain ⟨z, h1, h2, h3, h4⟩ := zero_run (w := w) hz
  have hzz : z.cells = (zeroV P e).toArray := by rw [← h2]
  obtain ⟨i, hi, hi1, hi2⟩ := info_of hk
  obtain ⟨m, rfl⟩ := Int.eq_ofNat_of_zero_le hn
  have hm : m * P.bytesOf e ≤ 140737488355328 := by
    rw [← Int.natCast_mul] at hb
    generalize m * P.bytesOf e = q at hb ⊢
    omega
  have hm2 : m ≤ 140737488355328 := Nat.le_trans (Nat.le_mul_of_pos_right m (by omega)) hm
  have hw : IntKind.i64.wrap (m : Int) = m := IntWalk.i64_in _ (by omega)
  simp only [Int.toNat_natCast]
  have hlen : ((List.replicate m (zeroV P e)).flatten).length = m * P.cellsOf e := by simp [h4]
  have hcells : obCells (.ds ((List.replicate m (zeroD P e)).flatten)) = (List.replicate m ((zeroD P e).map AV.d)).flatten := by
    simp only [obCells, List.map_flatten, List.map_replicate]
  obtain ⟨ν', h5⟩ := h.alloc hs (o := .ds ((List.replicate m (zeroD P e)).flatten)) (by simp) (by rw [hcells]; exact VRs.flatten _ _) (Ones.flatten h3 m) (by simp only [obCells]; exact refs_dmap _ _) e (.bs s 0 m (P.cellsOf e)) _ (.inr ⟨m, P.cellsOf e, rfl, rfl, hlen.symm⟩)
  refine ⟨.slice (some ⟨w.heap.size, 0, none⟩) m m, _, ν', ?_, h5, below_alloc w _⟩
  have hty : (typeInfo e).run P w = .ok i w := by simp [typeInfo, hi]
  have e48 : (2 : Int) ^ 48 = 281474976710656 := by decide
  have hmb : (P.bytesOf e : Int) * (m : Int) ≤ 140737488355328 := by
    have : P.bytesOf e * m ≤ 140737488355328 := by rw [Nat.mul_comm]; exact hm
    rw [← Int.natCast_mul]
    generalize P.bytesOf e * m = q at this ⊢
    omega
  have hroom : (askRoom (m * P.bytesOf e)).run P w = .ok () w := by
    unfold askRoom roomBytes
    rw [if_neg (by have : (2 : Nat) ^ 47 = 140737488355328 := by decide
                   omega)]
    rfl
  have hd : ∀ x : Int, x = m → (decide (x < 0) || decide ((P.bytesOf e : Int) * x > 2 ^ 48)) = false := by
    intro x hx
    subst hx
    rw [e48]
    simp only [Bool.or_eq_false_iff, decide_eq_false_iff_not]
    exact ⟨by omega, by omega⟩
  simp only [Instr.makeSlice, Sem.run_bind, run_underlying hu, Result.andThen_ok, asInt, asIntOf, Sem.run_pure, hty, hi2, hw, hd _ rfl]
  have e1 : ¬ ((m : Int) < 0) := by omega
  simp only [e1, decide_false, Bool.false_or, gt_iff_lt, Int.lt_irrefl, Bool.false_eq_true, if_false, Sem.run_bind, Result.andThen_ok, Int.toNat_natCast, hroom, run_size' rfl hk]
  by_cases h0 : m * P.cellsOf e = 0
  · have hm0 : m = 0 := by
      rcases Nat.mul_eq_zero.1 h0 with h0 | h0
      · exact h0
      · exact absurd h0 hk
    subst hm0
    rw [if_pos h0]
    have e0 : Array.map (fun x => (#[] : Array Value)[x % (#[] : Array Value).size]!) (Array.range (0 * P.cellsOf e)) = #[] := by simp
    simp only [Sem.run_bind, Sem.run_pure, Result.andThen_ok]
    simp only [e0]
    rfl
  · rw [if_neg h0]
    simp only [Sem.run_bind, h1, Result.andThen_ok, Sem.run_pure, hzz]
    have hl := zeros_list (zeroV P e) m
    rw [h4] at hl
    have : Array.map (fun x => (zeroV P e).toArray[x % (zeroV P e).toArray.size]!) (Array.range (m * P.cellsOf e)) = ((List.replicate m (zeroV P e)).flatten).toArray := by
      apply Array.ext'
      rw [← hl]
      simp [h4]
    simp only [this]
    rfl

end

section
variable {P : Program} {w0 : Env} {w w' : World} {σ : St} {ν : Loc} {a : Act}

theorem Sim.renew (h : Sim P w0 σ ν a w) {ob1 : List (Nat × OB)} (hob1 : ∀ t o, lookO ob1 t = some o → lookO σ.ob t = some o) (hb : Keep w0.S w w')
    (hrows : ∀ (b : Nat) (c : Array Value) (T : TypeId), w.heap[b]? = some (.cells c T (0, 0)) → ∃ (c' : Array Value) (T' : TypeId), w'.heap[b]? = some (.cells c' T' (0, 0)) ∧ c'.size = c.size)
    (havoid : ∀ b, b < w.heap.size → AvoidB σ.ob ν b → w'.heap[b]? = w.heap[b]?) (hlive : ∀ t o, lookO ob1 t = some o → ∀ p, ν t = some p → w'.heap[p.1]? = w.heap[p.1]?)
    {s : Nat} (hs : s < σ.n) {o : OB} (ho : o ≠ .dead) {x : AV} {v : Value} {loc : Option (Nat × Nat)}
    (hloc : ∀ p, loc = some p → w.heap.size ≤ p.1 ∨ ((∃ t o q, lookO σ.ob t = some o ∧ ν t = some q ∧ q.1 = p.1) ∧ ∀ t o, lookO ob1 t = some o → ∀ q, ν t = some q → q.1 ≠ p.1))
    (hor : ∀ ob' ν', Later σ.ob ν w ob' ν' w' → (∀ s', s' ≠ s → Fits σ.ob ν ob' ν' s') → ν' s = loc → lookO ob' s = some o → OR P w0 w' ob' ν' s o ∧ VR P w0 w' ob' ν' x v) :
    ∃ ν', Sim P w0 (St.new { σ with ob := ob1 } s o x) ν' (a.put (some s) v) w' := by
  have hm : ∀ r, lookO ((s, o) :: r) s = some o := fun r => by
    simp only [lookO, if_true]
  let ob' := (s, o) :: killO s ob1
  let ν' : Loc := fun t => if t = s then loc else ν t
  have hν : ∀ t, t ≠ s → ν' t = ν t := fun t ht => by simp only [ν']; rw [if_neg ht]
  have hνs : ν' s = loc := by simp [ν']
  have hlook : ∀ t o', lookO ob' t = some o' → (t = s ∧ o' = o) ∨ (t ≠ s ∧ lookO ob1 t = some o' ∧ o'.refs s = false) := fun t o' ht => by
    by_cases hts : t = s
    · subst hts
      rw [show lookO ob' t = some o from hm _] at ht
      exact .inl ⟨rfl, (Option.some.inj ht).symm⟩
    · have : lookO ob' t = lookO (killO s ob1) t := by
        show lookO ((s, o) :: killO s ob1) t = _
        simp only [lookO]
        rw [if_neg (fun e => hts e.symm)]
      rw [this] at ht
      exact .inr (lookO_kill ht)
  have hl : Later σ.ob ν w ob' ν' w' := by
    refine ⟨hb.size, fun b hbl ha => ⟨fun t o' ht p hp => ?_, havoid b hbl ha⟩, hrows⟩
    rcases hlook t o' ht with ⟨rfl, _⟩ | ⟨h1, h2, _⟩
    · rw [hνs] at hp
      rcases hloc p hp with g | ⟨⟨t', o2, q, g1, g2, g3⟩, _⟩
      · omega
      · rw [← g3]
        exact ha t' o2 g1 q g2
    · rw [hν t h1] at hp
      exact ha t o' (hob1 _ _ h2) p hp
  have hf : ∀ s', s' ≠ s → Fits σ.ob ν ob' ν' s' := fun s' hs' hsome => by
    obtain ⟨o', ho'⟩ := Option.isSome_iff_exists.1 hsome
    rcases hlook s' o' ho' with ⟨e, _⟩ | ⟨_, h2, _⟩
    · exact absurd e hs'
    · exact ⟨by rw [hob1 _ _ h2]; rfl, hν s' hs', fun o1 o2 g1 g2 => by
        rw [hob1 _ _ h2] at g1; rw [ho'] at g2; cases g1; cases g2; rfl⟩
  obtain ⟨hor1, hor2⟩ := hor ob' ν' hl hf hνs (hm _)
  have hlt : ∀ t o' p, lookO σ.ob t = some o' → ν t = some p → p.1 < w.heap.size := fun t o' p h2 hp => by
    rcases h.objs t o' h2 with ⟨h4, _⟩ | ⟨b', base', c, T, xs, h4, h5, h6, _⟩
    · rw [h4] at hp; cases hp
    · rw [h4] at hp; cases hp
      exact (Array.getElem?_eq_some_iff.1 h6).1
  refine ⟨ν', ⟨fun t o' ht => ?_, fun t t' o1 o2 p p' hne h1 h2 hp hp' => ?_⟩, h.below.trans hb, h.rows.trans hrows, h.lt, h.fresh, h.le, h.glob, fun t ht ht2 => (hν t (fun e => by have := h.le; omega)).trans (h.stab t ht ht2), h.defers, (size_put a s v).trans h.size, fun t => ?_⟩
  rotate_left 2
  · rw [tmps_put a s v (h.size ▸ hs)]
    show VR P w0 w' ob' ν' (look (Go.Proofs.Yteimddagjikcaaa.put (killS s σ.sl) s x) t) _
    rw [look_put]
    split
    · exact hor2
    · rw [look_kill]
      split
      · simp only [VR]
      · rename_i hr
        exact VR.later hl (h.slots t) (fun s' hs' => hf s' (fun e => hr (e ▸ hs')))
  · rcases hlook t o' ht with ⟨rfl, rfl⟩ | ⟨h1, h2, h3⟩
    · exact hor1
    · refine (h.objs t o' (hob1 _ _ h2)).later (σ' := ⟨0, [], ob'⟩) hl (hν t h1) (fun s' hs' => hf s' (fun e => ?_)) (fun b base hsb => hlive t o' h2 _ hsb)
      subst e
      have hne := lookO_ne h2
      cases o' <;> try (simp_all [obCells, OB.refs, AV.refsL, AV.refs]; done)
      all_goals simp_all [obCells, OB.refs]
      rw [refs_dmap] at hs'; cases hs'
  · have key : ∀ t o' p q, lookO ob1 t = some o' → ν t = some p → loc = some q → p.1 ≠ q.1 := fun t o' p q h2 hp hq => by
      have := hlt t o' p (hob1 _ _ h2) hp
      rcases hloc q hq with g | ⟨_, g⟩
      · omega
      · exact g t o' h2 p hp
    rcases hlook t o1 h1 with ⟨rfl, _⟩ | ⟨h3, h4, _⟩
    · rcases hlook t' o2 h2 with ⟨rfl, _⟩ | ⟨h5, h6, _⟩
      · exact absurd rfl hne
      · rw [hν t' h5] at hp'
        rw [hνs] at hp
        exact (key t' o2 p' p h6 hp' hp).symm
    · rcases hlook t' o2 h2 with ⟨rfl, _⟩ | ⟨h5, h6, _⟩
      · rw [hν t h3] at hp
        rw [hνs] at hp'
        exact key t o1 p p' h4 hp hp'
      · rw [hν t h3] at hp
        rw [hν t' h5] at hp'
        exact h.inj t t' o1 o2 p p' hne (hob1 _ _ h4) (hob1 _ _ h6) hp hp'

theorem src_sound (h : Sim P w0 σ ν a w) {x : AV} {y : Value} (hx : VR P w0 w σ.ob ν x y) {q : Prop} {m k : Nat} {o : OB} (hs : srcCells σ x = some (q, m, k, o)) (hq : q) :
    ∃ ad c news, y = .slice ad m c ∧ news.length = m * k ∧ (∀ d, ad = some d → ∀ (j : Nat) (u : Value), news[j]? = some u → w.cell? (d.add j) = some u) ∧ (ad = none → m = 0) ∧ Ones news ∧ VRs P w0 w σ.ob ν (obCells o) news := by
  unfold srcCells at hs
  split at hs
  · rename_i s off n k'
    have key : ∀ o2 : OB, lookO σ.ob s = some o2 → o2.row = true → off + n * k' ≤ (obCells o2).length →
        ∃ ad c news, y = .slice ad n c ∧ news.length = n * k' ∧ (∀ d, ad = some d → ∀ (j : Nat) (u : Value), news[j]? = some u → w.cell? (d.add j) = some u) ∧ (ad = none → n = 0) ∧ Ones news ∧ VRs P w0 w σ.ob ν (((obCells o2).drop off).take (n * k')) news := by
      intro o2 ho2 hrow2 hle
      simp only [VR] at hx
      rcases (hx (by rw [ho2]; rfl)).2 with ⟨g1, rfl, rfl, rfl⟩ | ⟨b, base, cap, ad, c, T, g1, rfl, g3, g4, g5, g6⟩
      · exact ⟨none, 0, [], rfl, by simp, by simp, by simp, fun x hx => (by cases hx), by simp [VRs]⟩
      · obtain ⟨xs, r1, r2, r3⟩ := (h.objs s o2 ho2).read hrow2 g1
        have hl := r3.length
        refine ⟨some ad, cap, (xs.drop off).take (n * k'), rfl, by simp; omega, fun d hd j u hu => ?_, by simp, (r2.drop _).take _, (r3.drop _).take _⟩
        cases hd
        have hj := (List.getElem?_eq_some_iff.1 hu).1
        simp only [List.length_take, List.length_drop] at hj
        rcases g4 with ⟨g4, _⟩ | rfl
        · have : n = 0 := by omega
          subst this
          simp at hj
        · rw [addr_add, Nat.add_assoc, r1 _ (by omega)]
          rw [List.getElem?_take, if_pos (by omega), List.getElem?_drop] at hu
          exact hu
    split at hs
    · rename_i cs ho2
      simp only [Option.some.injEq, Prod.mk.injEq] at hs
      obtain ⟨rfl, rfl, rfl, rfl⟩ := hs
      have := key _ ho2 rfl (by simpa [obCells] using hq)
      simpa [obCells] using this
    · rename_i cs ho2
      simp only [Option.some.injEq, Prod.mk.injEq] at hs
      obtain ⟨rfl, rfl, rfl, rfl⟩ := hs
      exact key _ ho2 rfl hq
    · cases hs
  · rename_i k' n cs
    simp only [Option.some.injEq, Prod.mk.injEq] at hs
    obtain ⟨rfl, rfl, rfl, rfl⟩ := hs
    simp only [VR, RD] at hx
    obtain ⟨bs, hx, hf⟩ := hx
    rcases hx with ⟨a0, c0, rfl, _, rfl, rfl, rfl⟩ | ⟨b, off, cap, xs, bs', rfl, rfl, g3, g4, g5, g6⟩
    · exact ⟨a0, c0, [], rfl, by simp, by simp, by simp, fun x hx => (by cases hx), by simp [VRs, obCells]⟩
    · obtain ⟨q1, c, T, fz, q2, q3, _⟩ := g5
      refine ⟨some ⟨b, off, none⟩, cap, xs, rfl, by rw [g6.length, g3], fun d hd j u hu => ?_, by simp, q1, VRs.of_rds g6 (fun b' hb' => hf b' (by simp [hb']))⟩
      cases hd
      rw [addr_add, cell_row q2, q3 _ (List.getElem?_eq_some_iff.1 hu).1, hu]
  · cases hs

theorem obCells_join (a b : OB) : obCells (a.join b) = obCells a ++ obCells b := by
  unfold OB.join
  split
  · simp [obCells]
  · split
    · rename_i cs h
      simp only [obCells]
      exact (allD_spec h).symm
    · rfl

theorem join_row (a b : OB) : (a.join b).row = true := by
  unfold OB.join
  split
  · simp
  · split <;> simp

end

section
variable {P : Program} {w0 : Env} {w w' : World} {σ : St} {ν : Loc} {a : Act}

theorem run_first {k m c : Nat} {ad : Option Addr} {news : List Value} (hl : news.length = m * k) (hc : ∀ d, ad = some d → ∀ (j : Nat) (u : Value), news[j]? = some u → w.cell? (d.add j) = some u) (hn : ad = none → m = 0) :
    (Builtin.firstCells k m (.slice ad m c)).run P w = .ok news.toArray w := by
  cases ad with
  | none =>
    have : m = 0 := hn rfl
    subst this
    have : news = [] := List.eq_nil_of_length_eq_zero (by simpa using hl)
    subst this
    exact run_firstCells_none _ _ _ _ _
  | some d => exact run_firstCells_some (P := P) w k m d m c news hl (hc d rfl)

theorem run_append_fits {t ty e : TypeId} {i : TypeInfo} (ht : P.underlying t = some (.slice e)) (hi : P.info? e = some i) {base ad : Option Addr} {n cap m c : Nat} {news : List Value} (hl : news.length = m * i.size)
    (hc : ∀ d, ad = some d → ∀ (j : Nat) (u : Value), news[j]? = some u → w.cell? (d.add j) = some u) (hn : ad = none → m = 0) (hfit : n + m ≤ cap) :
    (Builtin.append_ #[t, t] ty #[.slice base n cap, .slice ad m c]).run P w = match base with
      | none => .ok (.slice none (n + m) cap) w
      | some b => ((storeCells (b.add (n * i.size)) news).run P w).andThen fun _ w' => .ok (.slice (some b) (n + m) cap) w' := by
  have hf := run_first (P := P) (w := w) (c := c) hl hc hn
  cases base with
  | none => simp [Builtin.append_, run_underlying ht, sizeOf, typeInfo, hi, Builtin.lenOf, hfit, hf]
  | some b => simp [Builtin.append_, run_underlying ht, sizeOf, typeInfo, hi, Builtin.lenOf, hfit, hf]

theorem below_drew_alloc (w : World) (o : Obj) : Below w.heap.size w (w.drew.alloc o) := ((Below.refl _ _).drew).alloc (Nat.le_refl _) _

theorem append_sound (h : Sim P w0 σ ν a w) {t ty e : TypeId} {x y : Operand} {s b off n k m : Nat} {o old new : OB} {q q' : Prop} {n' k'' : Nat} (hs : s < σ.n) (hu : P.underlying t = some (.slice e)) (hx : σ.ev x = .bs b off n k) (hy : srcCells σ (σ.ev y) = some (q, m, k, new))
    (hb : lookO σ.ob b = some o) (hold : srcCells σ (.bs b off n k) = some (q', n', k'', old)) (hk : P.cellsOf e = k) (hk0 : k ≠ 0) (hb0 : P.bytesOf e ≠ 0) (hz : zeroOk P e = true) (htip : off + n * k ≤ (obCells o).length) (hroom : (n + m) * P.bytesOf e ≤ 140737488355328) (hq : q) (hr : AV.refsL s (obCells old ++ obCells new) = false) :
    ∃ v w' ν', (Builtin.append_ #[t, t] ty #[a.eval x, a.eval y]).run P w = .ok v w' ∧ Sim P w0 (St.new { σ with ob := delO σ.ob b } s (old.join new) (.bs s 0 (n + m) k)) ν' (a.put (some s) v) w' := by
  obtain ⟨ad, c, news, e1, e2, e3, e4, e5, e6⟩ := src_sound h (h.ev y) hy hq
  have hvx := h.ev x
  rw [hx] at hvx
  obtain ⟨i, hi, hi1, hi2⟩ := info_of (P := P) (t := e) (by rw [hk]; exact hk0)
  obtain ⟨z, z1, z2, z3, z4⟩ := zero_run (w := w) hz
  have hzi : ∃ z, i.zero = some z := by
    simp only [zeroOk, Bool.and_eq_true] at hz
    have := hz.1.1
    rw [hi] at this
    exact Option.isSome_iff_exists.1 (by simpa using this)
  obtain ⟨zz, hzz⟩ := hzi
  have hsz : i.size = k := hi1.trans hk
  have hnm : n + m ≤ 140737488355328 := Nat.le_trans (Nat.le_mul_of_pos_right _ (by omega)) hroom
  have hob1 : ∀ t o, lookO (delO σ.ob b) t = some o → lookO σ.ob t = some o := fun t o ht => (lookO_del ht).2
  -- what the base holds
  have hbase : ∃ base cap olds, a.eval x = .slice base n cap ∧ n ≤ cap ∧ olds.length = n * k ∧ (∀ d, base = some d → ∀ (j : Nat) (u : Value), olds[j]? = some u → w.cell? (d.add j) = some u) ∧ (base = none → n = 0 ∧ cap = 0 ∧ ν b = none) ∧ Ones olds ∧ VRs P w0 w σ.ob ν (obCells old) olds ∧
      (∀ d, base = some d → ∃ blk bo cc T, ν b = some (blk, bo) ∧ ((cap = 0 ∧ ∃ x, x ≤ cc.size ∧ d = ⟨blk, x, none⟩) ∨ d = ⟨blk, bo + off, none⟩) ∧ w.heap[blk]? = some (.cells cc T (0, 0)) ∧ bo + off + cap * k ≤ cc.size ∧ (¬ w0.S blk ∧ w0.D blk) ∧ (∀ j : Nat, j < olds.length → cc[bo + off + j]? = olds[j]?)) := by
    have hq' : q' := by
      unfold srcCells at hold
      simp only [hb] at hold
      split at hold
      · rename_i cs hcs
        simp only [Option.some.injEq, Prod.mk.injEq] at hold hcs
        obtain ⟨rfl, _⟩ := hold
        subst hcs
        simp only [obCells, List.length_map] at htip
        exact htip
      · rename_i cs hcs
        simp only [Option.some.injEq, Prod.mk.injEq] at hold hcs
        obtain ⟨rfl, _⟩ := hold
        subst hcs
        exact htip
      · cases hold
    obtain ⟨ad', c', olds, f1, f2, f3, f4, f5, f6⟩ := src_sound h hvx hold hq'
    have hnk : n' = n ∧ k'' = k := by
      unfold srcCells at hold
      simp only [hb] at hold
      split at hold
      · simp only [Option.some.injEq, Prod.mk.injEq] at hold; exact ⟨hold.2.1.symm, hold.2.2.1.symm⟩
      · simp only [Option.some.injEq, Prod.mk.injEq] at hold; exact ⟨hold.2.1.symm, hold.2.2.1.symm⟩
      · cases hold
    obtain ⟨rfl, rfl⟩ := hnk
    simp only [VR] at hvx
    rcases (hvx (by rw [hb]; rfl)).2 with ⟨g1, g2, g3, g4⟩ | ⟨blk, bo, cap, d, cc, T, g1, g2, g3, g4, g5, g6⟩
    · rw [g2] at f1
      simp only [Value.slice.injEq] at f1
      obtain ⟨rfl, h1, rfl⟩ := f1
      exact ⟨none, 0, olds, by rw [g2, g3], by omega, f2, f3, fun _ => ⟨g3, rfl, g1⟩, f5, f6, by simp⟩
    · rw [g2] at f1
      simp only [Value.slice.injEq] at f1
      obtain ⟨rfl, _, rfl⟩ := f1
      have hB : ¬ w0.S blk ∧ w0.D blk := by
        rcases h.objs b o hb with ⟨r1, _⟩ | ⟨b', base', c2, T2, xs, r1, r2, _⟩
        · rw [r1] at g1; cases g1
        · rw [r1] at g1; cases g1; exact r2
      refine ⟨some d, cap, olds, g2, g3, f2, f3, by simp, f5, f6, fun d' hd' => ?_⟩
      cases hd'
      refine ⟨blk, bo, cc, T, g1, g4, g5, g6, hB, fun j hj => ?_⟩
      rcases g4 with ⟨g4, _⟩ | rfl
      · have : n' = 0 := by omega
        subst this
        simp at f2
        rw [f2] at hj
        cases hj
      · have := f3 _ rfl j _ (List.getElem?_eq_getElem hj)
        rw [addr_add, cell_row g5] at this
        rw [this, List.getElem?_eq_getElem hj]
  obtain ⟨base, cap, olds, b1, b2, b3, b4, b5, b6, b7, b8⟩ := hbase
  have hcells : VRs P w0 w σ.ob ν (obCells (old.join new)) (olds ++ news) := by
    rw [obCells_join]; exact b7.append e6
  have hlen : (olds ++ news).length = (n + m) * k := by rw [List.length_append, b3, e2, Nat.add_mul]
  have hrefs : AV.refsL s (obCells (old.join new)) = false := by rw [obCells_join]; exact hr
  have hfin : ∀ (w' : World) (loc : Option (Nat × Nat)) (v : Value), Keep w0.S w w' →
      (∀ (b : Nat) (c : Array Value) (T : TypeId), w.heap[b]? = some (.cells c T (0, 0)) → ∃ (c' : Array Value) (T' : TypeId), w'.heap[b]? = some (.cells c' T' (0, 0)) ∧ c'.size = c.size) →
      (∀ b, b < w.heap.size → AvoidB σ.ob ν b → w'.heap[b]? = w.heap[b]?) → (∀ t o, lookO (delO σ.ob b) t = some o → ∀ p, ν t = some p → w'.heap[p.1]? = w.heap[p.1]?) →
      (∀ p, loc = some p → w.heap.size ≤ p.1 ∨ ((∃ t o q, lookO σ.ob t = some o ∧ ν t = some q ∧ q.1 = p.1) ∧ ∀ t o, lookO (delO σ.ob b) t = some o → ∀ q, ν t = some q → q.1 ≠ p.1)) →
      ((loc = none ∧ v = .slice none 0 0 ∧ n + m = 0) ∨ ∃ blk bo cap' d cc T, loc = some (blk, bo) ∧ v = .slice (some d) (n + m) cap' ∧ n + m ≤ cap' ∧ ((cap' = 0 ∧ ∃ x, x ≤ cc.size ∧ d = ⟨blk, x, none⟩) ∨ d = ⟨blk, bo, none⟩) ∧ w'.heap[blk]? = some (.cells cc T (0, 0)) ∧ bo + cap' * k ≤ cc.size ∧ (¬ w0.S blk ∧ w0.D blk) ∧ ∀ j : Nat, j < (olds ++ news).length → cc[bo + j]? = (olds ++ news)[j]?) →
      ∃ ν', Sim P w0 (St.new { σ with ob := delO σ.ob b } s (old.join new) (.bs s 0 (n + m) k)) ν' (a.put (some s) v) w' := by
    intro w' loc v h1 h2 h3 h4 h5 h6
    refine h.renew hob1 h1 h2 h3 h4 hs (OB.row_ne (join_row _ _)) h5 (fun ob' ν' hl hf hνs hlook => ?_)
    have hv2 := VRs.later hl hcells (fun s' hs' => hf s' (fun e => by subst e; rw [hrefs] at hs'; cases hs'))
    rcases h6 with ⟨rfl, rfl, h7⟩ | ⟨blk, bo, cap', d, cc, T, rfl, rfl, g3, g4, g5, g6, g7, g8⟩
    · refine ⟨.inl ⟨hνs, ?_⟩, ?_⟩
      · have hz0 : (olds ++ news).length = 0 := by rw [hlen, h7, Nat.zero_mul]
        have := hv2.length
        exact List.eq_nil_of_length_eq_zero (by omega)
      · simp only [VR]
        exact fun _ => ⟨fun o' ho' => by simp only [h7]; omega, .inl ⟨hνs, by trivial, h7, by trivial⟩⟩
    · refine ⟨.inr ⟨blk, bo, cc, T, olds ++ news, hνs, g7, g5.trans (by rw [objOf_row (join_row _ _)]), g8, b6.append e5, hv2⟩, ?_⟩
      simp only [VR]
      exact fun _ => ⟨fun o' ho' => by rw [hlook] at ho'; cases ho'; rw [← hcells.length, hlen]; omega, .inr ⟨blk, bo, cap', d, cc, T, hνs, rfl, g3, by simpa using g4, g5, by omega⟩⟩
  have hgrow : ∀ (v : Value) (cc : Array Value) (cap' : Nat), v = .slice (some ⟨w.heap.size, 0, none⟩) (n + m) cap' → n + m ≤ cap' → cc.size = cap' * k → (∀ j : Nat, j < (olds ++ news).length → cc[j]? = (olds ++ news)[j]?) →
      ∃ ν', Sim P w0 (St.new { σ with ob := delO σ.ob b } s (old.join new) (.bs s 0 (n + m) k)) ν' (a.put (some s) v) (w.drew.alloc (.cells cc e)) := by
    intro v cc cap' hv hcap hcs hcc
    have hbl := below_drew_alloc w (.cells cc e)
    refine hfin _ (some (w.heap.size, 0)) v (keep_below hbl (fun k hk => Nat.lt_of_lt_of_le (h.lt k hk) h.below.size)) (later_below hbl σ.ob ν).rows (fun b' hb' _ => hbl.block b' hb') (fun t o2 ht p hp => ?_) (fun p hp => by cases hp; exact .inl (Nat.le_refl _)) (.inr ⟨w.heap.size, 0, cap', _, cc, e, rfl, hv, hcap, .inr rfl, ?_, by omega, h.newB (Nat.le_refl _), fun j hj => by rw [Nat.zero_add]; exact hcc j hj⟩)
    · rcases h.objs t o2 (hob1 t o2 ht) with ⟨r1, _⟩ | ⟨b', base', c2, T2, xs, r1, r2, r3, _⟩
      · rw [r1] at hp; cases hp
      · rw [r1] at hp; cases hp
        exact hbl.block _ (Array.getElem?_eq_some_iff.1 r3).1
    · exact alloc_heap w.drew _
  rw [b1, e1]
  by_cases hfit : n + m ≤ cap
  · have hrun := run_append_fits (P := P) (w := w) (ty := ty) (base := base) (n := n) (cap := cap) (c := c) hu hi (by rw [hsz]; exact e2) e3 e4 hfit
    cases base with
    | none =>
      obtain ⟨rfl, rfl, hνn⟩ := b5 rfl
      have hm : m = 0 := by omega
      subst hm
      refine ⟨_, w, (hfin w none _ (Keep.refl _ _) (fun b c T hh => ⟨c, T, hh, rfl⟩) (fun _ _ _ => rfl) (fun _ _ _ _ _ => rfl) (by simp) (.inl ⟨rfl, rfl, rfl⟩)).choose, hrun, (hfin w none _ (Keep.refl _ _) (fun b c T hh => ⟨c, T, hh, rfl⟩) (fun _ _ _ => rfl) (fun _ _ _ _ _ => rfl) (by simp) (.inl ⟨rfl, rfl, rfl⟩)).choose_spec⟩
    | some d =>
      obtain ⟨blk, bo, cc, T, g1, g2, g3, g4, g5, g6⟩ := b8 d rfl
      have hother : ∀ t o2, lookO (delO σ.ob b) t = some o2 → ∀ p, ν t = some p → p.1 ≠ blk := fun t o2 ht p hp => by
        obtain ⟨r1, r2⟩ := lookO_del ht
        exact h.inj t b o2 o p _ r1 r2 hb hp g1
      have hlocs : ∀ p, some (blk, bo + off) = some p → w.heap.size ≤ p.1 ∨ ((∃ t o q, lookO σ.ob t = some o ∧ ν t = some q ∧ q.1 = p.1) ∧ ∀ t o, lookO (delO σ.ob b) t = some o → ∀ q, ν t = some q → q.1 ≠ p.1) := fun p hp => by
        cases hp
        exact .inr ⟨⟨b, o, _, hb, g1, rfl⟩, fun t o2 ht q hq => hother t o2 ht q hq⟩
      by_cases hn0 : news = []
      · subst hn0
        have hm : m = 0 := by
          rw [List.length_nil] at e2
          rcases Nat.mul_eq_zero.1 e2.symm with e2 | e2
          · exact e2
          · exact absurd e2 hk0
        subst hm
        have hst : (storeCells (d.add (n * i.size)) ([] : List Value)).run P w = .ok () w := rfl
        simp only [hst, Result.andThen_ok] at hrun
        obtain ⟨ν', hh⟩ := hfin w (some (blk, bo + off)) (.slice (some d) (n + 0) cap) (Keep.refl _ _) (fun b c T hh => ⟨c, T, hh, rfl⟩) (fun _ _ _ => rfl) (fun _ _ _ _ _ => rfl) hlocs (.inr ⟨blk, bo + off, cap, d, cc, T, rfl, rfl, by omega, g2, g3, g4, g5, fun j hj => by simpa using g6 j (by simpa using hj)⟩)
        exact ⟨_, w, ν', hrun, hh⟩
      · have hm : 0 < m := by
          rcases Nat.eq_zero_or_pos m with hm | hm
          · subst hm
            exact absurd (List.eq_nil_of_length_eq_zero (by simpa using e2)) hn0
          · exact hm
        have hd : d = ⟨blk, bo + off, none⟩ := by
          rcases g2 with g2 | g2
          · omega
          · exact g2
        subst hd
        have hcapk : (n + m) * k ≤ cap * k := Nat.mul_le_mul_right k hfit
        rw [Nat.add_mul] at hcapk
        have hst := run_storeCells_at P blk (bo + off + n * k) T news 0 cc w g3 (by omega) e5
        simp only [Nat.add_zero] at hst
        simp only [addr_add, hsz, hst, Result.andThen_ok] at hrun
        let c' : Array Value := (cc.toList.take (bo + off + n * k) ++ news ++ cc.toList.drop (bo + off + n * k + news.length)).toArray
        have hc'sz : c'.size = cc.size := by simp [c']; omega
        have hheap := setRow_heap w blk cc c' T (0, 0) g3
        have hsetsz : (w.setRow blk c').heap.size = w.heap.size := by simp [World.setRow]
        obtain ⟨ν', hh⟩ := hfin (w.setRow blk c') (some (blk, bo + off)) (.slice (some ⟨blk, bo + off, none⟩) (n + m) cap) ⟨rfl, rfl, rfl, Nat.le_of_eq hsetsz.symm, fun k2 hk2 => setRow_other w blk k2 c' (fun e => g5.1 (e ▸ hk2))⟩
          (fun b2 c2 T2 hh => by
            by_cases e : b2 = blk
            · subst e
              rw [g3] at hh; cases hh
              exact ⟨c', T, hheap, hc'sz⟩
            · exact ⟨c2, T2, (setRow_other w blk b2 c' e).trans hh, rfl⟩)
          (fun b2 _ hav => setRow_other w blk b2 c' (fun e => hav b o hb _ g1 e.symm)) (fun t o2 ht p hp => setRow_other w blk _ c' (hother t o2 ht p hp)) hlocs
          (.inr ⟨blk, bo + off, cap, _, c', T, rfl, rfl, hfit, .inr rfl, hheap, by rw [hc'sz]; exact g4, g5, fun j hj => by
            simp only [c', List.getElem?_toArray]
            rw [splice_get _ _ _ (by simp; omega)]
            by_cases hj1 : j < olds.length
            · rw [if_pos (by omega), Array.getElem?_toList, g6 j hj1, List.getElem?_append_left hj1]
            · simp only [List.length_append] at hj
              rw [if_neg (by omega), if_pos (by omega), List.getElem?_append_right (by omega)]
              congr 1
              omega⟩)
        exact ⟨_, _, ν', hrun, hh⟩
  · cases ad with
    | none =>
      have := e4 rfl
      omega
    | some d2 =>
    cases base with
    | none =>
      obtain ⟨rfl, rfl, hνn⟩ := b5 rfl
      have ho0 : olds = [] := List.eq_nil_of_length_eq_zero (by simpa using b3)
      subst ho0
      have hrun := run_append_nil (P := P) w t ty e i zz hu hi hzz d2 m c news (by rw [hsz]; exact e2) (e3 d2 rfl) (by omega) (by omega) (by rw [hi2]; have := hroom; rw [Nat.zero_add] at this; omega)
      have hge := grownCap_ge w m 0 e
      obtain ⟨ν', hh⟩ := hgrow (.slice (some ⟨w.heap.size, 0, none⟩) (0 + m) (grownCap w m 0 e)) (news.toArray ++ Builtin.zeroCells zz.cells (grownCap w m 0 e - m)) (grownCap w m 0 e) rfl (by omega) (by
          have hzl : zz.cells.size = k := by
            simp only [zeroOk, Bool.and_eq_true, beq_iff_eq, zeroV, hi, hzz, Option.bind_some, Array.length_toList] at hz
            omega
          simp only [Array.size_append, List.size_toArray, size_zeroCells, hzl, e2, ← Nat.add_mul]
          congr 1
          omega) (fun j hj => by
          simp only [List.nil_append] at hj ⊢
          rw [Array.getElem?_append_left (by simpa using hj)]
          simp)
      refine ⟨_, _, ν', ?_, hh⟩
      rw [hrun, Nat.zero_add]
    | some d =>
      obtain ⟨blk, bo, cc, T, g1, g2, g3, g4, g5, g6⟩ := b8 d rfl
      have hrun := run_append_grow (P := P) w t ty e i zz hu hi hzz d n cap olds (by rw [hsz]; exact b3) (b4 d rfl) d2 m c news (by rw [hsz]; exact e2) (e3 d2 rfl) (by omega) (by omega) (growslice_fits (by omega) (by rw [hi2]; exact hroom))
      have hge := grownCap_ge w (n + m) cap e
      obtain ⟨ν', hh⟩ := hgrow _ (olds.toArray ++ news.toArray ++ Builtin.zeroCells zz.cells (grownCap w (n + m) cap e - (n + m))) (grownCap w (n + m) cap e) rfl hge (by
          have hzl : zz.cells.size = k := by
            simp only [zeroOk, Bool.and_eq_true, beq_iff_eq, zeroV, hi, hzz, Option.bind_some, Array.length_toList] at hz
            omega
          simp only [Array.size_append, List.size_toArray, size_zeroCells, hzl, b3, e2, ← Nat.add_mul]
          congr 1
          omega) (fun j hj => by
          rw [Array.getElem?_append_left (by simpa using hj)]
          simp)
      exact ⟨_, _, ν', hrun, hh⟩

end

section
variable {P : Program} {w0 : Env} {w w' : World} {σ : St} {ν : Loc} {a : Act}

theorem adoptL_sound (s : Nat) : ∀ {ds : List D} {as : List AV} {cs : List D} {ys : List Value} {bs : List Nat}, adoptL s ds = (as, some cs) → RDs w' true ds ys bs → bs.Nodup → (∀ b ∈ bs, ¬ w0.S b ∧ w0.D b) →
    ∃ loc : Option (Nat × Nat), (∀ p, loc = some p → p.1 ∈ bs) ∧ ∀ ob' ν', lookO ob' s = some (.ds cs) → ν' s = loc → (∀ b ∈ bs, (∀ p, loc = some p → p.1 ≠ b) → AvoidB ob' ν' b) → OR P w0 w' ob' ν' s (.ds cs) ∧ VRs P w0 w' ob' ν' as ys
  | [], as, cs, ys, bs, ha, _, _, _ => by simp [adoptL] at ha
  | .ls k n cs0 :: r, as, cs, ys, bs, ha, hr, hn, hlo => by
    simp only [adoptL, Prod.mk.injEq, Option.some.injEq] at ha
    obtain ⟨rfl, rfl⟩ := ha
    simp only [RDs] at hr
    obtain ⟨y, ys', b1, b2, rfl, rfl, h1, h2⟩ := hr
    have hlt2 := RDs.lt h2
    simp only [RD] at h1
    rcases h1 with ⟨a0, c0, rfl, h0, rfl, rfl, rfl⟩ | ⟨b, off, cap, xs, bs', rfl, rfl, g3, g4, g5, g6⟩
    · obtain ⟨rfl, rfl⟩ : a0 = none ∧ c0 = 0 := by simpa using h0
      refine ⟨none, by simp, fun ob' ν' hlk hs hav => ⟨.inl ⟨hs, by simp [obCells]⟩, ?_⟩⟩
      simp only [VRs]
      refine ⟨_, ys', rfl, ?_, VRs.of_rds (RDs.weak false h2) (fun b hb => ⟨hlt2 b hb, hav b (by simpa using hb) (by simp), (hlo b (by simpa using hb)).2⟩)⟩
      simp only [VR]
      exact fun _ => ⟨fun o' _ => by simp, .inl ⟨hs, by trivial, by trivial, by trivial⟩⟩
    · obtain ⟨q1, c, T, fz, q2, q3, q4⟩ := g5
      obtain ⟨rfl, q5⟩ := q4 rfl
      have hlt1 := RDs.lt g6
      have hne : ∀ b' ∈ bs', b ≠ b' := fun b' hb' e => by
        subst e
        have := (List.nodup_append.1 hn).1
        exact (List.nodup_cons.1 this).1 hb'
      have hne2 : ∀ b' ∈ b2, b ≠ b' := fun b' hb' e => by
        subst e
        exact (List.nodup_append.1 hn).2.2 b (by simp) b hb' rfl
      refine ⟨some (b, off), fun p hp => by cases hp; simp, fun ob' ν' hlk hs hav => ⟨?_, ?_⟩⟩
      · refine .inr ⟨b, off, c, T, xs, hs, hlo b (by simp), q2, q3, q1, ?_⟩
        exact VRs.of_rds (RDs.weak false g6) (fun b' hb' => ⟨hlt1 b' hb', hav b' (by simp [hb']) (fun p hp => by cases hp; exact hne b' hb'), (hlo b' (by simp [hb'])).2⟩)
      · simp only [VRs]
        refine ⟨_, ys', rfl, ?_, VRs.of_rds (RDs.weak false h2) (fun b' hb' => ⟨hlt2 b' hb', hav b' (by simp [hb']) (fun p hp => by cases hp; exact hne2 b' hb'), (hlo b' (by simp [hb'])).2⟩)⟩
        simp only [VR]
        exact fun _ => ⟨fun o' ho' => by rw [hlk] at ho'; cases ho'; simp only [obCells, List.length_map]; omega, .inr ⟨b, off, cap, ⟨b, off, none⟩, c, T, hs, rfl, g4, .inr (by simp), q2, by simpa using q5⟩⟩
  | .v x :: r, as, cs, ys, bs, ha, hr, hn, hlo => by
    simp only [adoptL, Prod.mk.injEq] at ha
    obtain ⟨rfl, ha⟩ := ha
    simp only [RDs] at hr
    obtain ⟨y, ys', b1, b2, rfl, rfl, h1, h2⟩ := hr
    obtain ⟨loc, h3, h4⟩ := adoptL_sound s (as := (adoptL s r).1) (cs := cs) (by rw [← ha]) h2 (List.nodup_append.1 hn).2.1 (fun b hb => hlo b (by simp [hb]))
    refine ⟨loc, fun p hp => by simp [h3 p hp], fun ob' ν' hlk hs hav => ?_⟩
    obtain ⟨h5, h6⟩ := h4 ob' ν' hlk hs (fun b hb => hav b (by simp [hb]))
    refine ⟨h5, ?_⟩
    simp only [VRs]
    refine ⟨y, ys', rfl, ?_, h6⟩
    simp only [VR]
    refine ⟨b1, RD.weak false h1, fun b hb => ⟨RD.lt h1 b hb, hav b (by simp [hb]) (fun p hp e => ?_), (hlo b (by simp [hb])).2⟩⟩
    exact (List.nodup_append.1 hn).2.2 b hb p.1 (h3 p hp) e.symm
  | .ag x :: r, as, cs, ys, bs, ha, hr, hn, hlo => by
    simp only [adoptL, Prod.mk.injEq] at ha
    obtain ⟨rfl, ha⟩ := ha
    simp only [RDs] at hr
    obtain ⟨y, ys', b1, b2, rfl, rfl, h1, h2⟩ := hr
    obtain ⟨loc, h3, h4⟩ := adoptL_sound s (as := (adoptL s r).1) (cs := cs) (by rw [← ha]) h2 (List.nodup_append.1 hn).2.1 (fun b hb => hlo b (by simp [hb]))
    refine ⟨loc, fun p hp => by simp [h3 p hp], fun ob' ν' hlk hs hav => ?_⟩
    obtain ⟨h5, h6⟩ := h4 ob' ν' hlk hs (fun b hb => hav b (by simp [hb]))
    refine ⟨h5, ?_⟩
    simp only [VRs]
    refine ⟨y, ys', rfl, ?_, h6⟩
    simp only [VR]
    refine ⟨b1, RD.weak false h1, fun b hb => ⟨RD.lt h1 b hb, hav b (by simp [hb]) (fun p hp e => ?_), (hlo b (by simp [hb])).2⟩⟩
    exact (List.nodup_append.1 hn).2.2 b hb p.1 (h3 p hp) e.symm
  | .tu x :: r, as, cs, ys, bs, ha, hr, hn, hlo => by
    simp only [adoptL, Prod.mk.injEq] at ha
    obtain ⟨rfl, ha⟩ := ha
    simp only [RDs] at hr
    obtain ⟨y, ys', b1, b2, rfl, rfl, h1, h2⟩ := hr
    obtain ⟨loc, h3, h4⟩ := adoptL_sound s (as := (adoptL s r).1) (cs := cs) (by rw [← ha]) h2 (List.nodup_append.1 hn).2.1 (fun b hb => hlo b (by simp [hb]))
    refine ⟨loc, fun p hp => by simp [h3 p hp], fun ob' ν' hlk hs hav => ?_⟩
    obtain ⟨h5, h6⟩ := h4 ob' ν' hlk hs (fun b hb => hav b (by simp [hb]))
    refine ⟨h5, ?_⟩
    simp only [VRs]
    refine ⟨y, ys', rfl, ?_, h6⟩
    simp only [VR]
    refine ⟨b1, RD.weak false h1, fun b hb => ⟨RD.lt h1 b hb, hav b (by simp [hb]) (fun p hp e => ?_), (hlo b (by simp [hb])).2⟩⟩
    exact (List.nodup_append.1 hn).2.2 b hb p.1 (h3 p hp) e.symm
  | .pt x :: r, as, cs, ys, bs, ha, hr, hn, hlo => by
    simp only [adoptL, Prod.mk.injEq] at ha
    obtain ⟨rfl, ha⟩ := ha
    simp only [RDs] at hr
    obtain ⟨y, ys', b1, b2, rfl, rfl, h1, h2⟩ := hr
    obtain ⟨loc, h3, h4⟩ := adoptL_sound s (as := (adoptL s r).1) (cs := cs) (by rw [← ha]) h2 (List.nodup_append.1 hn).2.1 (fun b hb => hlo b (by simp [hb]))
    refine ⟨loc, fun p hp => by simp [h3 p hp], fun ob' ν' hlk hs hav => ?_⟩
    obtain ⟨h5, h6⟩ := h4 ob' ν' hlk hs (fun b hb => hav b (by simp [hb]))
    refine ⟨h5, ?_⟩
    simp only [VRs]
    refine ⟨y, ys', rfl, ?_, h6⟩
    simp only [VR]
    refine ⟨b1, RD.weak false h1, fun b hb => ⟨RD.lt h1 b hb, hav b (by simp [hb]) (fun p hp e => ?_), (hlo b (by simp [hb])).2⟩⟩
    exact (List.nodup_append.1 hn).2.2 b hb p.1 (h3 p hp) e.symm

theorem avoid_new (h : Sim P w0 σ ν a w) {b : Nat} (hb : w.heap.size ≤ b) : AvoidB σ.ob ν b := fun t o ht p hp e => by
  rcases h.objs t o ht with ⟨r1, _⟩ | ⟨b', base', c, T, xs, r1, r2, r3, _⟩
  · rw [r1] at hp; cases hp
  · rw [r1] at hp; cases hp
    have := (Array.getElem?_eq_some_iff.1 r3).1
    simp only at e
    omega

theorem Sim.adopt_one (h : Sim P w0 σ ν a w) (hb : Below w.heap.size w w') {s : Nat} (hs : s < σ.n) {ds : List D} {as : List AV} {cs : List D} {ys : List Value} {bs : List Nat} (ha : adoptL s ds = (as, some cs)) (hr : RDs w' true ds ys bs) (hn : bs.Nodup) (hlo : ∀ b ∈ bs, w.heap.size ≤ b)
    {x : AV} {v : Value} (hx : ∀ ob' ν', VRs P w0 w' ob' ν' as ys → VR P w0 w' ob' ν' x v) : ∃ ν', Sim P w0 (σ.new s (.ds cs) x) ν' (a.put (some s) v) w' := by
  obtain ⟨loc, h1, h2⟩ := adoptL_sound (P := P) (w0 := w0) s ha hr hn (fun b hb => h.newB (hlo b hb))
  refine h.new hb hs (by simp) (loc := loc) (fun p hp => hlo _ (h1 p hp)) (fun ob' ν' hl hf hνs hlook => ?_)
  have hav : ∀ b ∈ bs, (∀ p, loc = some p → p.1 ≠ b) → AvoidB ob' ν' b := fun b hbb hp t o ht p hpp => by
    by_cases e : t = s
    · subst e
      rw [hνs] at hpp
      exact hp p hpp
    · obtain ⟨f1, f2, _⟩ := hf t e (by rw [ht]; rfl)
      rw [f2] at hpp
      obtain ⟨o2, ho2⟩ := Option.isSome_iff_exists.1 f1
      exact avoid_new h (hlo b hbb) t o2 ho2 p hpp
  obtain ⟨h3, h4⟩ := h2 ob' ν' hlook hνs hav
  exact ⟨h3, hx ob' ν' h4⟩

theorem Sim.adopt (h : Sim P w0 σ ν a w) (hb : Below w.heap.size w w') {dst : Option Nat} (hd : ∀ t, dst = some t → t < σ.n) {r : D} {v : Value} {bs : List Nat} (hr : RD w' true r v bs) (hn : bs.Nodup) (hlo : ∀ b ∈ bs, w.heap.size ≤ b) :
    ∃ ν', Sim P w0 (σ.adopt dst r) ν' (a.put dst v) w' := by
  have hplain : ∀ s, s < σ.n → ∃ ν', Sim P w0 (σ.put s (.d r)) ν' (a.put (some s) v) w' := fun s hs => by
    refine ⟨ν, (h.grown hb).put hs ?_⟩
    simp only [VR]
    exact ⟨bs, RD.weak false hr, fun b hbb => ⟨RD.lt hr b hbb, avoid_new h (hlo b hbb), (h.newB (hlo b hbb)).2⟩⟩
  cases dst with
  | none => exact ⟨ν, h.grown hb⟩
  | some s =>
    have hs := hd s rfl
    cases r with
    | v x => exact hplain s hs
    | pt x => exact hplain s hs
    | ls k n cs =>
      have hr' : RDs w' true [.ls k n cs] [v] bs := by
        simp only [RDs]
        exact ⟨v, [], bs, [], rfl, by simp, hr, rfl, rfl⟩
      exact h.adopt_one hb hs (as := [.bs s 0 n k]) (cs := cs) (by simp [adoptL]) hr' hn hlo (fun ob' ν' hv => by
        simp only [VRs] at hv
        obtain ⟨y, ys', e1, e2, _⟩ := hv
        simp only [List.cons.injEq] at e1
        rw [e1.1]
        exact e2)
    | ag ds =>
      simp only [St.adopt]
      split
      · rename_i as cs hcs
        simp only [RD] at hr
        obtain ⟨xs, rfl, h1, h2⟩ := hr
        exact h.adopt_one hb hs hcs h2 hn hlo (fun ob' ν' hv => by simp only [VR]; exact ⟨xs, rfl, h1, hv⟩)
      · exact hplain s hs
    | tu ds =>
      simp only [St.adopt]
      split
      · rename_i as cs hcs
        simp only [RD] at hr
        obtain ⟨xs, rfl, h2⟩ := hr
        exact h.adopt_one hb hs hcs h2 hn hlo (fun ob' ν' hv => by simp only [VR]; exact ⟨xs, rfl, hv⟩)
      · exact hplain s hs

theorem fill_dense (ob : List (Nat × OB)) (k : Nat) : ∀ (ps : List (Nat × AV)) (i : Nat) (pre rest cs : List AV), denseA ob k i ps = some cs → pre.length = i * k → cs.length ≤ rest.length → fillA ob k ps (pre ++ rest) = some (pre ++ cs ++ rest.drop cs.length)
  | [], i, pre, rest, cs, h, _, _ => by
    simp only [denseA, Option.some.injEq] at h
    subst h
    simp [fillA]
  | (j, x) :: r, i, pre, rest, cs, h, hp, hl => by
    simp only [denseA] at h
    split at h
    · rename_i e
      subst e
      split at h
      · rename_i ys hys
        split at h
        · rename_i hk
          simp only [Option.map_eq_some_iff] at h
          obtain ⟨cs', h1, rfl⟩ := h
          simp only [List.length_append] at hl
          simp only [fillA, hys]
          rw [if_pos ⟨hk, by simp only [List.length_append]; omega⟩]
          have e1 : (pre ++ rest).take (j * k) = pre := by rw [← hp]; simp
          have e2 : (pre ++ rest).drop (j * k + k) = rest.drop k := by
            rw [← hp, List.drop_append, List.drop_eq_nil_of_le (by omega), List.nil_append]
            congr 1
            omega
          rw [e1, e2, fill_dense ob k r (j + 1) (pre ++ ys) (rest.drop k) cs' h1 (by simp only [List.length_append, Nat.add_mul, Nat.one_mul]; omega) (by simp only [List.length_drop]; omega)]
          simp only [List.append_assoc, List.drop_drop, List.length_append, hk]
        · cases h
      · cases h
    · cases h

theorem build_fill {ob : List (Nat × OB)} {k n : Nat} {z : List D} {ps : List (Nat × AV)} {cs : List AV} (hz : z.length = k) (h : buildA ob k n z ps = some cs) : fillA ob k ps ((List.replicate n (z.map AV.d)).flatten) = some cs := by
  have hlen : ((List.replicate n (z.map AV.d)).flatten).length = n * k := by
    simp [hz]
  unfold buildA at h
  split at h
  · rename_i cs' h1
    split at h
    · rename_i h2
      cases h
      have := fill_dense ob k ps 0 [] ((List.replicate n (z.map AV.d)).flatten) cs h1 (by simp) (by omega)
      simp only [List.nil_append] at this
      rw [this, List.drop_eq_nil_of_le (by omega), List.append_nil]
    · exact h
  · exact h

section
variable {P : Program} {w0 : Env} {w : World} {σ : St} {ν : Loc} {a : Act}

theorem makeMap_sound (h : Sim P w0 σ ν a w) {t : TypeId} {r : Option Operand} {s : Nat} (hs : s < σ.n) (hr : r = none ∨ ∃ x k e j n, r = some x ∧ P.underlying t = some (.map k e) ∧ σ.ev x = .d (.v (.int j n))) :
    ∃ v w' ν', (Instr.makeMap t (r.map a.eval)).run P w = .ok v w' ∧ Sim P w0 (σ.new s (.mp []) (.rf s false)) ν' (a.put (some s) v) w' ∧ Below w.heap.size w w' := by
  obtain ⟨ν', h5⟩ := h.new (below_alloc w (.map #[] 0)) hs (o := .mp []) (by simp) (x := .rf s false) (v := .map (some w.heap.size)) (loc := some (w.heap.size, 0)) (fun p hp => by cases hp; exact Nat.le_refl _) (fun ob' ν' hl hf hνs hlook =>
    ⟨.inr ⟨w.heap.size, 0, #[], 0, [], hνs, h.newB (Nat.le_refl _), alloc_heap w _, by simp, (fun x hx => by cases hx), by simp [VRs, obCells]⟩, by simp only [VR]; exact fun _ => ⟨w.heap.size, hνs, rfl⟩⟩)
  refine ⟨.map (some w.heap.size), w.alloc (.map #[] 0), ν', ?_, h5, below_alloc w _⟩
  rcases hr with rfl | ⟨x, k, e, j, n, rfl, hu, hx⟩
  · rfl
  · have e1 := h.ev x
    rw [hx] at e1
    simp only [Instr.makeMap, Option.map_some, e1.val, Sem.run_bind, run_underlying hu, Result.andThen_ok]
    rfl

theorem range_sound (h : Sim P w0 σ ν a w) {t k e : TypeId} {x : Operand} {s m : Nat} {kvs : List (List Int × Value)} (hs : s < σ.n) (hu : P.underlying t = some (.map k e)) (hx : σ.ev x = .rf m false) (hm : lookO σ.ob m = some (.mp kvs)) (hne : m ≠ s) :
    ∃ v w' ν', (Instr.range t (a.eval x)).run P w = .ok v w' ∧ Sim P w0 (σ.new s (.it m kvs.length []) (.rf s true)) ν' (a.put (some s) v) w' ∧ Below w.heap.size w w' := by
  have e1 := h.ev x
  rw [hx] at e1
  obtain ⟨b, h1, h2, h3⟩ := h.mapAt hm e1
  obtain ⟨ν', h5⟩ := h.new (below_alloc w (.mapIter (some b) kvs.length #[] kvs.length)) hs (o := .it m kvs.length []) (by simp) (x := .rf s true) (v := .pointer (some ⟨w.heap.size, 0, none⟩)) (loc := some (w.heap.size, 0)) (fun p hp => by cases hp; exact Nat.le_refl _) (fun ob' ν' hl hf hνs hlook =>
    ⟨.inr ⟨w.heap.size, 0, #[.map (some b)], 0, [.map (some b)], hνs, h.newB (Nat.le_refl _), alloc_heap w _, (fun i hi => by simp at hi; subst hi; rfl), (fun x hx => by simp at hx; subst hx; rfl), by
      simp only [obCells, VRs]
      exact ⟨_, _, rfl, VR.later hl (h2 ▸ e1) (fun s' hs' => hf s' (fun e => hne (by simp only [AV.refs, beq_iff_eq] at hs'; omega))), rfl⟩⟩, by simp only [VR]; exact fun _ => ⟨w.heap.size, hνs, rfl⟩⟩)
  refine ⟨.pointer (some ⟨w.heap.size, 0, none⟩), w.alloc (.mapIter (some b) kvs.length #[] kvs.length), ν', ?_, h5, below_alloc w _⟩
  rw [h2]
  exact run_range_map w t k e b _ _ hu h3

theorem setKV_some (k : List Int) (v : Value) : ∀ (kvs : List (List Int × Value)) (i j : Nat) (u : Value), findK k kvs i = some (j, u) →
    ∃ n, j = i + n ∧ entsV i (setKV k v kvs) = (entsV i kvs).modify n (fun e => { e with key := keyV k, val := v }) ∧ (setKV k v kvs).length = kvs.length ∧ ((entsV i kvs)[n]?).map (·.key) = some (keyV k)
  | [], i, j, u, h => by simp [findK] at h
  | (l, x) :: r, i, j, u, h => by
    simp only [findK] at h
    simp only [setKV]
    split at h
    · rename_i e
      subst e
      cases h
      refine ⟨0, rfl, ?_, ?_, ?_⟩
      · simp [entsV]
      · simp
      · simp [entsV]
    · rename_i e
      obtain ⟨n, h1, h2, h3, h4⟩ := setKV_some k v r (i + 1) j u h
      refine ⟨n + 1, by omega, ?_, ?_, ?_⟩
      · rw [if_neg e]
        simp only [entsV, List.modify_succ_cons, h2]
      · rw [if_neg e]
        simp [h3]
      · simpa [entsV] using h4

theorem setKV_none (k : List Int) (v : Value) : ∀ (kvs : List (List Int × Value)) (i : Nat), findK k kvs i = none →
    entsV i (setKV k v kvs) = entsV i kvs ++ [{ key := keyV k, val := v, born := i + kvs.length }] ∧ (setKV k v kvs).length = kvs.length + 1
  | [], i, _ => by simp [setKV, entsV]
  | (l, x) :: r, i, h => by
    simp only [findK] at h
    simp only [setKV]
    split at h
    · cases h
    · rename_i e
      obtain ⟨h1, h2⟩ := setKV_none k v r (i + 1) h
      rw [if_neg e]
      refine ⟨?_, by simp [h2]⟩
      simp only [entsV, h1, List.cons_append, List.length_cons]
      rw [show i + 1 + r.length = i + (r.length + 1) from by omega]

theorem mapUpdate_sound (h : Sim P w0 σ ν a w) {t kt et : TypeId} {m k x : Operand} {s : Nat} {kvs : List (List Int × Value)} {kd : D} {ky : List Int} {v : Value} (hu : P.underlying t = some (.map kt et)) (hm : σ.ev m = .rf s false) (hs : lookO σ.ob s = some (.mp kvs))
    (hk : σ.ev k = .d kd) (hky : keyD kd = some ky) (hx : σ.ev x = .d (.v v)) (hkt : KeyT P kt ky.length) (hl : keysAre ky.length kvs) :
    ∃ w', (Instr.mapUpdate t (a.eval m) (a.eval k) (a.eval x)).run P w = .ok () w' ∧ Sim P w0 { σ with ob := putO σ.ob s (.mp (setKV ky v kvs)) } ν a w' := by
  have e1 := h.ev m
  rw [hm] at e1
  obtain ⟨b, h1, h2, h3⟩ := h.mapAt hs e1
  have e2 := h.ev k
  rw [hk] at e2
  have e2 := keyD_val hky e2
  have e3 := h.ev x
  rw [hx] at e3
  have e3 := e3.val
  obtain ⟨c1, c2, c3⟩ := hkt ky kvs w rfl hl
  have hlt := (Array.getElem?_eq_some_iff.1 h3).1
  let w' : World := { w with heap := w.heap.setIfInBounds b (.map (entsV 0 (setKV ky v kvs)).toArray (setKV ky v kvs).length) }
  obtain ⟨q1, q2⟩ := MapKept.heap_set (o' := .map (entsV 0 (setKV ky v kvs)).toArray (setKV ky v kvs).length) h3
  refine ⟨w', ?_, h.turn hs (o' := .mp (setKV ky v kvs)) (by simp) h1 (by simp [w']) rfl rfl rfl q2 (fun c T e => by rw [h3] at e; cases e) rfl (fun hlat hf hB => .inr ⟨b, 0, #[], 0, [], h1, hB, q1, by simp, (fun x hx => by cases hx), by simp [VRs, obCells]⟩)⟩
  rw [h2, e2, e3]
  simp only [Instr.mapUpdate, Sem.run_bind, run_underlying hu, Result.andThen_ok, MapKept.run_getObj_map h3, c1]
  rw [c2]
  cases hf : findK ky kvs 0 with
  | none =>
    obtain ⟨g1, g2⟩ := setKV_none ky v kvs 0 hf
    simp only [Result.andThen_ok, MapKept.run_setObj_map _ h3, w', g1, g2]
    simp
  | some p =>
    obtain ⟨i, u⟩ := p
    obtain ⟨n, rfl, g1, g2, g3⟩ := setKV_some ky v kvs 0 i u hf
    simp only [Nat.zero_add, List.getElem?_toArray, g3, Option.getD_some, Instr.keyThatStays, c3, if_true, Sem.run_pure, Sem.run_bind, Result.andThen_ok, MapKept.run_setObj_map _ h3, w', g1, g2]
    simp

end

def growKind : Op → Bool
  | .alloc _ | .box _ _ | .buildSlice _ _ _ | .makeSlice _ _ _ | .makeMap _ _ | .range _ _ => true
  | _ => false

theorem act_sound (h : Sim P w0 σ ν a w) {o : Oper} {p : Prop} {σ' : St} (ho : actOp P σ o.dst o.op = some (p, σ')) (hp : p) (hd : ∀ t, o.dst = some t → t < σ.n) :
    ∃ r w' ν', (execOp a.eval o).run P w = .ok r w' ∧ ((∃ v, r = .value v ∧ Sim P w0 σ' ν' (a.put o.dst v) w') ∨ (r = .skip ∧ Sim P w0 σ' ν' (a.put o.dst undef) w')) ∧ (growKind o.op = true → Below w.heap.size w w') := by
  have lift : ∀ {s : Sem Value} {v : Value} {w1 : World}, s.run P w = .ok v w1 → (do pure (Go.Next.value (← s)) : Sem Go.Next).run P w = .ok (.value v) w1 := fun hh => by simp [hh]
  generalize hdst : o.dst = dst at ho hd
  generalize hop : o.op = op at ho
  cases op with
  | makeMap t r =>
    simp only [actOp] at ho
    split at ho
    · rename_i s
      obtain ⟨rfl, rfl⟩ := Prod.mk.inj (Option.some.inj ho)
      obtain ⟨v, w', ν', h1, h2, h3⟩ := makeMap_sound h (t := t) (r := none) (hd s rfl) (.inl rfl)
      exact ⟨_, w', ν', by simp only [execOp, hop]; exact lift h1, .inl ⟨v, rfl, h2⟩, fun _ => h3⟩
    · rename_i s x
      split at ho
      · rename_i k e j n hu hx
        obtain ⟨rfl, rfl⟩ := Prod.mk.inj (Option.some.inj ho)
        obtain ⟨v, w', ν', h1, h2, h3⟩ := makeMap_sound h (t := t) (r := some x) (hd s rfl) (.inr ⟨x, k, e, j, n, rfl, hu, hx⟩)
        exact ⟨_, w', ν', by simp only [execOp, hop]; exact lift h1, .inl ⟨v, rfl, h2⟩, fun _ => h3⟩
      · cases ho
    · cases ho
  | range t x =>
    simp only [actOp] at ho
    split at ho
    · rename_i s k e m hu hx
      split at ho
      · rename_i kvs hm
        obtain ⟨rfl, rfl⟩ := Prod.mk.inj (Option.some.inj ho)
        obtain ⟨v, w', ν', h1, h2, h3⟩ := range_sound h (hd s rfl) hu hx hm hp
        exact ⟨_, w', ν', by simp only [execOp, hop]; exact lift h1, .inl ⟨v, rfl, h2⟩, fun _ => h3⟩
      · cases ho
    · cases ho
  | mapUpdate t m k x =>
    simp only [actOp] at ho
    split at ho
    · rename_i kt et s hu hm
      split at ho
      · rename_i kd v kvs hk hx hs
        split at ho
        · rename_i ky hky
          obtain ⟨rfl, rfl⟩ := Prod.mk.inj (Option.some.inj ho)
          obtain ⟨w', h1, h2⟩ := mapUpdate_sound h hu hm hs hk hky hx hp.1 hp.2
          exact ⟨.skip, w', ν, by simp [execOp, hop, h1], .inr ⟨rfl, h2⟩, fun e => by first | (rw [hop] at e; cases e) | cases e⟩
        · cases ho
      · cases ho
    · cases ho
  | insert t m k x =>
    simp only [actOp] at ho
    split at ho
    · rename_i kt et s hu hm
      split at ho
      · rename_i kd v kvs hk hx hs
        split at ho
        · rename_i ky hky
          obtain ⟨rfl, rfl⟩ := Prod.mk.inj (Option.some.inj ho)
          obtain ⟨w', h1, h2⟩ := mapUpdate_sound h hu hm hs hk hky hx hp.1 hp.2
          exact ⟨.skip, w', ν, by simp [execOp, hop, h1], .inr ⟨rfl, h2⟩, fun e => by first | (rw [hop] at e; cases e) | cases e⟩
        · cases ho
      · cases ho
    · cases ho
  | alloc t =>
    simp only [actOp] at ho
    split at ho
    · rename_i s
      obtain ⟨rfl, rfl⟩ := Prod.mk.inj (Option.some.inj ho)
      obtain ⟨v, w', ν', h1, h2, h3⟩ := alloc_sound h (hd s rfl) hp
      exact ⟨_, w', ν', by simp only [execOp, hop]; exact lift h1, .inl ⟨v, rfl, h2⟩, fun _ => h3⟩
    · cases ho
  | box t x =>
    simp only [actOp] at ho
    split at ho
    · rename_i s cs hcs
      obtain ⟨rfl, rfl⟩ := Prod.mk.inj (Option.some.inj ho)
      obtain ⟨v, w', ν', h1, h2, h3⟩ := box_sound h (t := t) (hd s rfl) hcs hp
      exact ⟨_, w', ν', by simp only [execOp, hop]; exact lift h1, .inl ⟨v, rfl, h2⟩, fun _ => h3⟩
    · cases ho
  | buildSlice t n parts =>
    simp only [actOp] at ho
    split at ho
    · rename_i s e hu
      split at ho
      · rename_i cs hcs
        obtain ⟨rfl, rfl⟩ := Prod.mk.inj (Option.some.inj ho)
        obtain ⟨v, w', ν', h1, h2, h3⟩ := buildSlice_sound h (hd s rfl) hu (build_fill (by
          have := hp.2.1
          simp only [zeroOk, Bool.and_eq_true, beq_iff_eq] at this
          simpa [zeroD] using this.2) hcs) hp.1 hp.2.1 hp.2.2.1 hp.2.2.2
        exact ⟨_, w', ν', by simp only [execOp, hop]; exact lift h1, .inl ⟨v, rfl, h2⟩, fun _ => h3⟩
      · cases ho
    · cases ho
  | makeSlice t l c =>
    simp only [actOp] at ho
    split at ho
    · rename_i s e m m' hu hl hc
      obtain ⟨rfl, rfl⟩ := Prod.mk.inj (Option.some.inj ho)
      obtain ⟨q1, q2, q3, q4, q5, q6⟩ := hp
      subst q2
      obtain ⟨v, w', ν', h1, h2, h3⟩ := makeSlice_sound h (hd s rfl) hu q1 q3 q4 q5 q6
      have e1 := h.ev l
      have e2 := h.ev c
      rw [hl] at e1
      rw [hc] at e2
      exact ⟨_, w', ν', by simp only [execOp, hop, e1.val, e2.val]; exact lift h1, .inl ⟨v, rfl, h2⟩, fun _ => h3⟩
    · cases ho
  | store t x y =>
    simp only [actOp] at ho
    split at ho
    · rename_i s off hsx
      split at ho
      · rename_i ob hob
        split at ho
        · rename_i p' o' hst
          obtain ⟨rfl, rfl⟩ := Prod.mk.inj (Option.some.inj ho)
          obtain ⟨w', h1, h2⟩ := store_sound h hsx hob hst hp
          exact ⟨.skip, w', ν, by simp [execOp, hop, h1], .inr ⟨rfl, h2⟩, fun e => by first | (rw [hop] at e; cases e) | cases e⟩
        · cases ho
      · cases ho
    · cases ho
  | call c =>
    obtain ⟨callee, args, ts⟩ := c
    cases callee with
    | builtin b =>
      cases b with
      | clear =>
        simp only [actOp] at ho
        split at ho
        · rename_i x t hargs hts
          split at ho
          · rename_i e s off n k hu hsx
            split at ho
            · rename_i ob hob
              obtain ⟨rfl, rfl⟩ := Prod.mk.inj (Option.some.inj ho)
              obtain ⟨p1, p2, p3, p4, p5⟩ := hp
              obtain ⟨w', h1, h2⟩ := clear_sound h (ty := o.type) hu hsx hob p1 p2 p3 p4 p5
              refine ⟨.value (.tuple #[]), w', ν, ?_, .inl ⟨.tuple #[], rfl, h2⟩, fun e => by first | (rw [hop] at e; cases e) | cases e⟩
              have ha : args = #[x] := by apply Array.ext'; simpa using hargs
              have ht : ts = #[t] := by apply Array.ext'; simpa using hts
              subst ha ht
              rw [exec_builtin hop]
              simp only [builtin]
              exact lift (by simpa using h1)
            · cases ho
          · cases ho
        · cases ho
      | append =>
        simp only [actOp] at ho
        split at ho
        · rename_i s x y t t' hargs hts
          split at ho
          · rename_i e b off n k q m k' new hu hsx hsy
            split at ho
            · rename_i ob q' n' k'' old hob hold
              obtain ⟨rfl, rfl⟩ := Prod.mk.inj (Option.some.inj ho)
              obtain ⟨rfl, rfl, p3, p4, p5, p6, p7, p8, p9, p10⟩ := hp
              obtain ⟨v, w', ν', h1, h2⟩ := append_sound h (ty := o.type) (hd s rfl) hu hsx hsy hob hold p3 p4 p5 p6 p7 p8 p9 p10
              refine ⟨_, w', ν', ?_, .inl ⟨v, rfl, h2⟩, fun e => by first | (rw [hop] at e; cases e) | cases e⟩
              have ha : args = #[x, y] := by apply Array.ext'; simpa using hargs
              have ht : ts = #[t, t] := by apply Array.ext'; simpa using hts
              subst ha ht
              rw [exec_builtin hop]
              simp only [builtin]
              exact lift (by simpa using h1)
            · cases ho
          · cases ho
        · cases ho
      | _ => simp [actOp] at ho
    | _ => simp [actOp] at ho
  | _ => simp [actOp] at ho

end

section
variable {P : Program} {w0 : Env} {w w' : World} {σ : St} {ν : Loc} {a : Act}

def From (ob ob0 : List (Nat × OB)) (ν : Loc) (w : World) (b : Nat) : Prop := b < w.heap.size ∧ (AvoidB ob ν b ∨ ∃ s o base, lookO ob0 s = some o ∧ ν s = some (b, base))

mutual
theorem toD_from (h : Sim P w0 σ ν a w) {ob0 : List (Nat × OB)} (hsub : ∀ s o, lookO ob0 s = some o → lookO σ.ob s = some o) : ∀ (n : Nat) {x : AV} {d : D} {y : Value}, toD ob0 n x = some d → VR P w0 w σ.ob ν x y → ∃ bs, RD w false d y bs ∧ ∀ b ∈ bs, From σ.ob ob0 ν w b
  | n, .d x, d, y, ht, hv => by
    have : d = x := by cases n <;> simp_all [toD]
    subst this
    simp only [VR] at hv
    obtain ⟨bs, h1, h2⟩ := hv
    exact ⟨bs, h1, fun b hb => ⟨(h2 b hb).1, .inl (h2 b hb).2.1⟩⟩
  | n + 1, .bs s off m k, d, y, ht, hv => by
    simp only [toD] at ht
    simp only [VR] at hv
    have key : ∀ (o : OB) (ds : List D), lookO ob0 s = some o → o.row = true → (∀ ys, VRs P w0 w σ.ob ν (((obCells o).drop off).take (m * k)) ys → ∃ bs, RDs w false ds ys bs ∧ ∀ b ∈ bs, From σ.ob ob0 ν w b) → ∃ bs, RD w false (.ls k m ds) y bs ∧ ∀ b ∈ bs, From σ.ob ob0 ν w b := fun o ds ho0 hrow hds => by
      have ho := hsub s o ho0
      obtain ⟨hle, hv⟩ := hv (by rw [ho]; rfl)
      have hle := hle o ho
      simp only [RD]
      rcases hv with ⟨g1, rfl, rfl, rfl⟩ | ⟨b, base, cap, ad, c, T, g1, rfl, g3, g4, g5, g6⟩
      · obtain ⟨bs, hb, _⟩ := hds [] (by simp [VRs])
        have := hb.length
        exact ⟨[], .inl ⟨none, 0, by trivial, (by first | trivial | rfl | simp), by trivial, List.eq_nil_of_length_eq_zero (by simpa using this.symm), rfl⟩, by simp⟩
      · obtain ⟨xs, r1, r2, r3⟩ := (h.objs s o ho).read hrow g1
        have hl := r3.length
        obtain ⟨bs, hb, hfb⟩ := hds _ ((r3.drop off).take (m * k))
        have hroot : From σ.ob ob0 ν w b := ⟨(Array.getElem?_eq_some_iff.1 g5).1, .inr ⟨s, o, base, ho0, g1⟩⟩
        have hbl := hb.length
        rcases g4 with ⟨g4, x0, _, rfl⟩ | rfl
        · have hm : m = 0 := by omega
          subst hm
          have hds0 : ds = [] := List.eq_nil_of_length_eq_zero (by simpa using hbl.symm)
          subst hds0
          simp only [List.length_nil, RDs] at hb hbl
          refine ⟨b :: [], .inr ⟨b, x0, cap, [], [], rfl, rfl, by simp, by omega, ⟨(fun x hx => by cases hx), c, T, (0, 0), g5, (fun i hi => by simp at hi), (fun e => by cases e)⟩, by simp [RDs]⟩, fun b' hb' => by simp at hb'; rw [hb']; exact hroot⟩
        · refine ⟨b :: bs, .inr ⟨b, base + off, cap, (xs.drop off).take (m * k), bs, rfl, rfl, by simp at hbl; omega, g3, ⟨(r2.drop _).take _, c, T, (0, 0), g5, fun i hi => ?_, fun e => by cases e⟩, hb⟩, fun b' hb' => by rcases List.mem_cons.1 hb' with e | e; exact e ▸ hroot; exact hfb b' e⟩
          simp only [List.length_take, List.length_drop] at hi
          have := r1 (off + i) (by omega)
          rw [cell_row g5] at this
          rw [Nat.add_assoc, this, List.getElem?_take, if_pos (by omega), List.getElem?_drop]
    split at ht
    · rename_i cs ho
      cases ht
      refine key _ _ ho rfl (fun ys hys => ?_)
      simp only [obCells, ← List.map_drop, ← List.map_take] at hys
      obtain ⟨bs, h1, h2⟩ := hys.to_rds
      exact ⟨bs, h1, fun b hb => ⟨(h2 b hb).1, .inl (h2 b hb).2.1⟩⟩
    · rename_i cs ho
      simp only [Option.map_eq_some_iff] at ht
      obtain ⟨ds, hds, rfl⟩ := ht
      exact key _ _ ho rfl (fun ys hys => mapD_from h hsub n hds hys)
    · cases ht
  | n + 1, .bp s off, d, y, ht, hv => by
    simp only [toD] at ht
    simp only [VR] at hv
    have key : ∀ (o : OB) (ds : List D), lookO ob0 s = some o → o.row = true → (∀ ys, VRs P w0 w σ.ob ν ((obCells o).drop off) ys → ∃ bs, RDs w false ds ys bs ∧ ∀ b ∈ bs, From σ.ob ob0 ν w b) → ∃ bs, RD w false (.pt ds) y bs ∧ ∀ b ∈ bs, From σ.ob ob0 ν w b := fun o ds ho0 hrow hds => by
      have ho := hsub s o ho0
      obtain ⟨b, base, g1, rfl⟩ := hv (by rw [ho]; rfl)
      rcases h.objs s o ho with ⟨r, _⟩ | ⟨b', base', c, T, xs, q1, q2, q3, q4, q5, q6⟩
      · rw [r] at g1; cases g1
      · rw [q1] at g1; cases g1
        rw [objOf_row hrow] at q3
        obtain ⟨bs, hb, hfb⟩ := hds _ (q6.drop off)
        simp only [RD]
        have hroot : From σ.ob ob0 ν w b := ⟨(Array.getElem?_eq_some_iff.1 q3).1, .inr ⟨s, o, base, ho0, q1⟩⟩
        refine ⟨b :: bs, ⟨b, base + off, xs.drop off, bs, rfl, rfl, ⟨q5.drop _, c, T, (0, 0), q3, fun i hi => ?_, fun e => by cases e⟩, hb⟩, fun b' hb' => by rcases List.mem_cons.1 hb' with e | e; exact e ▸ hroot; exact hfb b' e⟩
        simp only [List.length_drop] at hi
        rw [Nat.add_assoc, q4 _ (by omega), List.getElem?_drop]
    split at ht
    · rename_i cs ho
      cases ht
      refine key _ _ ho rfl (fun ys hys => ?_)
      simp only [obCells, ← List.map_drop] at hys
      obtain ⟨bs, h1, h2⟩ := hys.to_rds
      exact ⟨bs, h1, fun b hb => ⟨(h2 b hb).1, .inl (h2 b hb).2.1⟩⟩
    · rename_i cs ho
      simp only [Option.map_eq_some_iff] at ht
      obtain ⟨ds, hds, rfl⟩ := ht
      exact key _ _ ho rfl (fun ys hys => mapD_from h hsub n hds hys)
    · cases ht
  | n + 1, .ag cs, d, y, ht, hv => by
    simp only [toD, Option.map_eq_some_iff] at ht
    obtain ⟨ds, hds, rfl⟩ := ht
    simp only [VR] at hv
    obtain ⟨xs, rfl, h1, h2⟩ := hv
    obtain ⟨bs, h3, h4⟩ := mapD_from h hsub n hds h2
    simp only [RD]
    exact ⟨bs, ⟨xs, rfl, h1, h3⟩, h4⟩
  | n + 1, .tu cs, d, y, ht, hv => by
    simp only [toD, Option.map_eq_some_iff] at ht
    obtain ⟨ds, hds, rfl⟩ := ht
    simp only [VR] at hv
    obtain ⟨xs, rfl, h2⟩ := hv
    obtain ⟨bs, h3, h4⟩ := mapD_from h hsub n hds h2
    simp only [RD]
    exact ⟨bs, ⟨xs, rfl, h3⟩, h4⟩
  | n + 1, .fn _ _, d, y, ht, hv => by simp [toD] at ht
  | n + 1, .fc _ _ _, d, y, ht, hv => by simp [toD] at ht
  | n + 1, .un, d, y, ht, hv => by simp [toD] at ht
  | n + 1, .rf _ _, d, y, ht, hv => by simp [toD] at ht
  | 0, .rf _ _, d, y, ht, hv => by simp [toD] at ht
  | 0, .bs _ _ _ _, d, y, ht, hv => by simp [toD] at ht
  | 0, .bp _ _, d, y, ht, hv => by simp [toD] at ht
  | 0, .ag _, d, y, ht, hv => by simp [toD] at ht
  | 0, .tu _, d, y, ht, hv => by simp [toD] at ht
  | 0, .fn _ _, d, y, ht, hv => by simp [toD] at ht
  | 0, .fc _ _ _, d, y, ht, hv => by simp [toD] at ht
  | 0, .un, d, y, ht, hv => by simp [toD] at ht
theorem mapD_from (h : Sim P w0 σ ν a w) {ob0 : List (Nat × OB)} (hsub : ∀ s o, lookO ob0 s = some o → lookO σ.ob s = some o) : ∀ (n : Nat) {xs : List AV} {ds : List D} {ys : List Value}, mapD (toD ob0 n) xs = some ds → VRs P w0 w σ.ob ν xs ys → ∃ bs, RDs w false ds ys bs ∧ ∀ b ∈ bs, From σ.ob ob0 ν w b
  | n, [], ds, ys, ht, hv => by
    simp only [mapD, Option.some.injEq] at ht
    subst ht
    simp only [VRs] at hv
    exact ⟨[], by simp [RDs, hv], by simp⟩
  | n, x :: xs, ds, ys, ht, hv => by
    simp only [mapD] at ht
    split at ht
    · rename_i d hd
      simp only [Option.map_eq_some_iff] at ht
      obtain ⟨ds', hds, rfl⟩ := ht
      simp only [VRs] at hv
      obtain ⟨y, ys', rfl, h1, h2⟩ := hv
      obtain ⟨b1, h3, h5⟩ := toD_from h hsub n hd h1
      obtain ⟨b2, h4, h6⟩ := mapD_from h hsub n hds h2
      simp only [RDs]
      exact ⟨b1 ++ b2, ⟨y, ys', b1, b2, rfl, rfl, h3, h4⟩, fun b hb => by rcases List.mem_append.1 hb with e | e; exact h5 b e; exact h6 b e⟩
    · cases ht
end

theorem toD_sound (h : Sim P w0 σ ν a w) (n : Nat) {x : AV} {d : D} {y : Value} (ht : toD σ.ob n x = some d) (hv : VR P w0 w σ.ob ν x y) : ∃ bs, RD w false d y bs := by
  obtain ⟨bs, h1, _⟩ := toD_from h (fun _ _ h => h) n ht hv
  exact ⟨bs, h1⟩

theorem mapD_sound (h : Sim P w0 σ ν a w) (n : Nat) {xs : List AV} {ds : List D} {ys : List Value} (ht : mapD (toD σ.ob n) xs = some ds) (hv : VRs P w0 w σ.ob ν xs ys) : ∃ bs, RDs w false ds ys bs := by
  obtain ⟨bs, h1, _⟩ := mapD_from h (fun _ _ h => h) n ht hv
  exact ⟨bs, h1⟩

end

section
variable {P : Program} {w0 : Env} {w w' : World} {σ : St} {ν : Loc} {a : Act}

theorem subS_look {sl : List (Nat × AV)} : ∀ {r : List (Nat × AV)}, SubS sl r → ∀ t, look r t = .un ∨ look r t = look sl t
  | [], _, t => .inl rfl
  | (k, x) :: r, h, t => by
    obtain ⟨h1, h2⟩ := h
    simp only [look]
    by_cases e : k = t
    · subst e
      rw [if_pos rfl]
      exact .inr h1.symm
    · rw [if_neg e]
      exact subS_look h2 t

theorem subO_look {ob : List (Nat × OB)} : ∀ {r : List (Nat × OB)}, SubO ob r → ∀ s o, lookO r s = some o → lookO ob s = some o
  | [], _, s, o, h => by simp [lookO] at h
  | (k, x) :: r, h, s, o, hl => by
    obtain ⟨h1, h2⟩ := h
    simp only [lookO] at hl
    by_cases e : k = s
    · subst e
      rw [if_pos rfl] at hl
      split at hl
      · cases hl
      · cases hl; exact h1
    · rw [if_neg e] at hl
      exact subO_look h2 s o hl

mutual
theorem RD.plain {o o' : Bool} : ∀ {d : D} {y : Value} {bs : List Nat}, RD w o d y bs → d.plain → bs = [] ∧ RD w' o' d y []
  | .v x, y, bs, h, _ => by simp only [RD] at h ⊢; simp [h]
  | .ag cs, y, bs, h, hp => by
    simp only [RD] at h ⊢
    obtain ⟨xs, h1, h2, h3⟩ := h
    obtain ⟨e, h4⟩ := RDs.plain h3 (by simpa only [D.plain] using hp)
    exact ⟨e, xs, h1, h2, h4⟩
  | .tu cs, y, bs, h, hp => by
    simp only [RD] at h ⊢
    obtain ⟨xs, h1, h3⟩ := h
    obtain ⟨e, h4⟩ := RDs.plain h3 (by simpa only [D.plain] using hp)
    exact ⟨e, xs, h1, h4⟩
  | .ls _ _ _, y, bs, h, hp => by simp only [D.plain] at hp
  | .pt _, y, bs, h, hp => by simp only [D.plain] at hp
theorem RDs.plain {o o' : Bool} : ∀ {ds : List D} {ys : List Value} {bs : List Nat}, RDs w o ds ys bs → plains ds → bs = [] ∧ RDs w' o' ds ys []
  | [], ys, bs, h, _ => by simp only [RDs] at h ⊢; simp [h]
  | d :: ds, ys, bs, h, hp => by
    simp only [RDs] at h ⊢
    simp only [plains] at hp
    obtain ⟨x, xs', b1, b2, rfl, rfl, h1, h2⟩ := h
    obtain ⟨e1, h3⟩ := RD.plain h1 hp.1
    obtain ⟨e2, h4⟩ := RDs.plain h2 hp.2
    exact ⟨by simp [e1, e2], x, xs', [], [], rfl, rfl, h3, h4⟩
end

theorem lookO_mem {ob : List (Nat × OB)} {s : Nat} {o : OB} (h : lookO ob s = some o) : (s, o) ∈ ob := by
  induction ob with
  | nil => simp [lookO] at h
  | cons p r ih =>
    obtain ⟨k, x⟩ := p
    simp only [lookO] at h
    by_cases e : k = s
    · subst e
      rw [if_pos rfl] at h
      have : x = o := by
        split at h
        · cases h
        · exact Option.some.inj h
      subst this
      simp
    · rw [if_neg e] at h
      exact List.mem_cons_of_mem _ (ih h)

theorem lookO_app {x y : List (Nat × OB)} {s : Nat} {o : OB} (h : lookO (x ++ y) s = some o) : lookO x s = some o ∨ ((∀ p ∈ x, p.1 ≠ s) ∧ lookO y s = some o) := by
  induction x with
  | nil => exact .inr ⟨by simp, h⟩
  | cons p r ih =>
    obtain ⟨k, z⟩ := p
    simp only [lookO, List.cons_append] at h ⊢
    by_cases e : k = s
    · rw [if_pos e] at h ⊢; exact .inl h
    · rw [if_neg e] at h ⊢
      rcases ih h with h | ⟨h1, h2⟩
      · exact .inl h
      · exact .inr ⟨fun p hp => by rcases List.mem_cons.1 hp with rfl | hp; exact e; exact h1 p hp, h2⟩

theorem lookO_killN {s t : Nat} {ob : List (Nat × OB)} {o : OB} (h : lookO (killN s ob) t = some o) : t ≠ s ∧ lookO ob t = some o := by
  induction ob with
  | nil => simp [killN, lookO] at h
  | cons p r ih =>
    obtain ⟨k, x⟩ := p
    simp only [killN] at h
    by_cases e : k = s
    · rw [if_pos e] at h
      obtain ⟨h1, h2⟩ := ih h
      exact ⟨h1, by simp only [lookO]; rw [if_neg (fun e2 => h1 (e2.symm.trans e))]; exact h2⟩
    · rw [if_neg e] at h
      simp only [lookO] at h ⊢
      by_cases e2 : k = t
      · subst e2
        rw [if_pos rfl] at h ⊢
        exact ⟨e, h⟩
      · rw [if_neg e2] at h ⊢
        exact ih h

theorem lookO_dropO {t : Nat} {o : OB} : ∀ {r ob : List (Nat × OB)}, lookO (dropO ob r) t = some o → (∀ p ∈ r, p.1 ≠ t) ∧ lookO ob t = some o
  | [], ob, h => ⟨by simp, h⟩
  | (s, x) :: r, ob, h => by
    simp only [dropO] at h
    obtain ⟨h1, h2⟩ := lookO_dropO h
    obtain ⟨h3, h4⟩ := lookO_killN h2
    exact ⟨fun p hp => by rcases List.mem_cons.1 hp with rfl | hp; exact h3.symm; exact h1 p hp, h4⟩

theorem lookO_killOs {t : Nat} {o : OB} : ∀ {nn : List Nat} {ob : List (Nat × OB)}, lookO (killOs nn ob) t = some o → (∀ s ∈ nn, t ≠ s ∧ o.refs s = false) ∧ lookO ob t = some o
  | [], ob, h => ⟨by simp, h⟩
  | s :: nn, ob, h => by
    simp only [killOs] at h
    obtain ⟨h1, h2⟩ := lookO_killOs h
    obtain ⟨h3, h4, h5⟩ := lookO_kill h2
    exact ⟨fun p hp => by rcases List.mem_cons.1 hp with rfl | hp; exact ⟨h3, h5⟩; exact h1 p hp, h4⟩

theorem look_killSs {t : Nat} : ∀ {nn : List Nat} {sl : List (Nat × AV)}, look (killSs nn sl) t = .un ∨ (look (killSs nn sl) t = look sl t ∧ ∀ s ∈ nn, (look sl t).refs s = false)
  | [], sl => .inr ⟨rfl, by simp⟩
  | s :: nn, sl => by
    simp only [killSs]
    rcases look_killSs (t := t) (nn := nn) (sl := killS s sl) with h | ⟨h1, h2⟩
    · exact .inl h
    · rw [look_kill] at h1 h2
      split at h1
      · exact .inl h1
      · rename_i hr
        rw [if_neg hr] at h2
        exact .inr ⟨h1, fun p hp => by rcases List.mem_cons.1 hp with rfl | hp; simpa using hr; exact h2 p hp⟩

theorem newN_mem {ob : List (Nat × OB)} {t : Nat} : ∀ {r : List (Nat × OB)} {o : OB}, (t, o) ∈ r → lookO ob t = none → t ∈ newN ob r
  | [], o, h, _ => by simp at h
  | (s, x) :: r, o, h, hn => by
    simp only [newN]
    rcases List.mem_cons.1 h with e | h
    · cases e
      rw [hn]
      simp
    · have := newN_mem h hn
      split
      · exact this
      · exact List.mem_cons_of_mem _ this

theorem ltAll_spec {n t : Nat} : ∀ {l : List Nat}, ltAll n l = true → t ∈ l → t < n ∨ 1000000000 ≤ t
  | [], _, h => by simp at h
  | s :: r, h, hm => by
    simp only [ltAll, Bool.and_eq_true, Bool.or_eq_true, decide_eq_true_eq] at h
    rcases List.mem_cons.1 hm with rfl | hm
    · exact h.1
    · exact ltAll_spec h.2 hm

theorem apartO_spec {ob' : List (Nat × OB)} {res : AV} : ∀ {rest : List (Nat × OB)}, apartO rest ob' res = true →
    (∀ p ∈ ob', AV.nofns (obCells p.2) = true) ∧ res.nofn = true ∧ ∀ t o, (t, o) ∈ rest → (∀ p ∈ ob', AV.refsL t (obCells p.2) = false) ∧ res.refs t = false
  | [], h => by
    simp only [apartO, Bool.and_eq_true, List.all_eq_true] at h
    exact ⟨h.1, h.2, by simp⟩
  | (t, o) :: r, h => by
    simp only [apartO, Bool.and_eq_true, List.all_eq_true] at h
    obtain ⟨h1, h2, h3⟩ := apartO_spec h.2
    refine ⟨h1, h2, fun t' o' hm => ?_⟩
    rcases List.mem_cons.1 hm with e | hm
    · cases e
      exact ⟨fun p hp => by simpa using h.1.1 p hp, by simpa using h.1.2⟩
    · exact h3 t' o' hm

theorem RF.sub {S S' : Nat → Prop} {w1 w2 : World} {y : Value} {dom : List D → Prop} {h : List D → D} (hr : RF P S w1 y dom h) (hk : ∀ w', Keep S' w2 w' → Keep S w1 w') : RF P S' w2 y dom h := by
  obtain ⟨g, first, cap, rfl, hg, hc⟩ := hr
  exact ⟨g, first, cap, rfl, hg, fun w' ds vs bs h1 => hc w' ds vs bs ⟨hk w' h1.1, h1.2⟩⟩

mutual
theorem VR.into {E : Env} {ob ob1 : List (Nat × OB)} (hsub : ∀ s o, lookO ob1 s = some o → lookO ob s = some o) (hd : ∀ b, b < w.heap.size → AvoidB ob ν b → w0.D b → E.D b) (hk : ∀ w', Keep E.S E.w w' → Keep w0.S w0.w w') :
    ∀ {x : AV} {y : Value}, VR P w0 w ob ν x y → VR P E w ob1 ν x y
  | .d x, y, h => by
    simp only [VR] at h ⊢
    obtain ⟨bs, h1, h2⟩ := h
    exact ⟨bs, h1, fun b hb => ⟨(h2 b hb).1, fun s o hs => (h2 b hb).2.1 s o (hsub s o hs), hd b (h2 b hb).1 (h2 b hb).2.1 (h2 b hb).2.2⟩⟩
  | .bp s o, y, h => by
    simp only [VR] at h ⊢
    intro hs
    obtain ⟨o1, hs⟩ := Option.isSome_iff_exists.1 hs
    exact h (by rw [hsub s o1 hs]; rfl)
  | .bs s off n k, y, h => by
    simp only [VR] at h ⊢
    intro hs
    obtain ⟨o1, hs⟩ := Option.isSome_iff_exists.1 hs
    obtain ⟨h1, h2⟩ := h (by rw [hsub s o1 hs]; rfl)
    exact ⟨fun o ho => h1 o (hsub s o ho), h2⟩
  | .ag cs, y, h => by
    simp only [VR] at h ⊢
    obtain ⟨xs, h1, h0, h2⟩ := h
    exact ⟨xs, h1, h0, VRs.into hsub hd hk h2⟩
  | .tu cs, y, h => by
    simp only [VR] at h ⊢
    obtain ⟨xs, h1, h2⟩ := h
    exact ⟨xs, h1, VRs.into hsub hd hk h2⟩
  | .fn dom k, y, h => by
    simp only [VR] at h ⊢
    exact h.sub hk
  | .fc g l1 l2, y, h => by
    simp only [VR] at h ⊢
    obtain ⟨xs, ys, h1, h2, h3⟩ := h
    exact ⟨xs, ys, h1, VRs.into hsub hd hk h2, VRs.into hsub hd hk h3⟩
  | .rf s k, y, h => by
    simp only [VR] at h ⊢
    intro hs
    obtain ⟨o1, hs⟩ := Option.isSome_iff_exists.1 hs
    exact h (by rw [hsub s o1 hs]; rfl)
  | .un, y, h => by simp only [VR]
theorem VRs.into {E : Env} {ob ob1 : List (Nat × OB)} (hsub : ∀ s o, lookO ob1 s = some o → lookO ob s = some o) (hd : ∀ b, b < w.heap.size → AvoidB ob ν b → w0.D b → E.D b) (hk : ∀ w', Keep E.S E.w w' → Keep w0.S w0.w w') :
    ∀ {xs : List AV} {ys : List Value}, VRs P w0 w ob ν xs ys → VRs P E w ob1 ν xs ys
  | [], ys, h => by simp only [VRs] at h ⊢; exact h
  | x :: xs, ys, h => by
    simp only [VRs] at h ⊢
    obtain ⟨y, ys', h1, h2, h3⟩ := h
    exact ⟨y, ys', h1, VR.into hsub hd hk h2, VRs.into hsub hd hk h3⟩
end

mutual
theorem VR.back {E : Env} {ob ob1 : List (Nat × OB)} {ν1 : Loc} : ∀ {x : AV} {y : Value}, VR P E w ob1 ν1 x y → x.nofn = true →
    ((∀ b, b < w.heap.size → AvoidB ob1 ν1 b → E.D b → AvoidB ob ν b ∧ w0.D b) ∨ x.plain) → (∀ s, x.refs s = true → ∀ o, lookO ob s = some o → lookO ob1 s = some o ∧ ν s = ν1 s) → VR P w0 w ob ν x y
  | .d x, y, h, _, hd, _ => by
    simp only [VR] at h ⊢
    obtain ⟨bs, h1, h2⟩ := h
    rcases hd with hd | hd
    · exact ⟨bs, h1, fun b hb => ⟨(h2 b hb).1, hd b (h2 b hb).1 (h2 b hb).2.1 (h2 b hb).2.2⟩⟩
    · simp only [AV.plain] at hd
      exact ⟨[], (RD.plain h1 hd).2, by simp⟩
  | .bp s o, y, h, _, _, hr => by
    simp only [VR] at h ⊢
    intro hs
    obtain ⟨o1, hs⟩ := Option.isSome_iff_exists.1 hs
    obtain ⟨e1, e2⟩ := hr s (by simp [AV.refs]) o1 hs
    obtain ⟨b, base, h1, h2⟩ := h (by rw [e1]; rfl)
    exact ⟨b, base, e2.trans h1, h2⟩
  | .bs s off n k, y, h, _, _, hr => by
    simp only [VR] at h ⊢
    intro hs
    obtain ⟨o1, hs⟩ := Option.isSome_iff_exists.1 hs
    obtain ⟨e1, e2⟩ := hr s (by simp [AV.refs]) o1 hs
    obtain ⟨h1, h2⟩ := h (by rw [e1]; rfl)
    refine ⟨fun o ho => h1 o (by rw [e1, ← hs, ho]), ?_⟩
    rw [e2]
    exact h2
  | .ag cs, y, h, hf, hd, hr => by
    simp only [VR] at h ⊢
    obtain ⟨xs, h1, h0, h2⟩ := h
    exact ⟨xs, h1, h0, VRs.back h2 (by simpa [AV.nofn] using hf) (hd.imp id (by simp [AV.plain])) (fun s hs => hr s (by simpa [AV.refs] using hs))⟩
  | .tu cs, y, h, hf, hd, hr => by
    simp only [VR] at h ⊢
    obtain ⟨xs, h1, h2⟩ := h
    exact ⟨xs, h1, VRs.back h2 (by simpa [AV.nofn] using hf) (hd.imp id (by simp [AV.plain])) (fun s hs => hr s (by simpa [AV.refs] using hs))⟩
  | .fn dom k, y, h, hf, _, _ => by simp [AV.nofn] at hf
  | .fc g l1 l2, y, h, hf, hd, hr => by
    simp only [VR] at h ⊢
    obtain ⟨xs, ys, h1, h2, h3⟩ := h
    simp only [AV.nofn, Bool.and_eq_true] at hf
    exact ⟨xs, ys, h1, VRs.back h2 hf.1 (hd.imp id (fun h => by simp only [AV.plain] at h; exact h.1)) (fun s hs => hr s (by simp [AV.refs, hs])), VRs.back h3 hf.2 (hd.imp id (fun h => by simp only [AV.plain] at h; exact h.2)) (fun s hs => hr s (by simp [AV.refs, hs]))⟩
  | .rf s k, y, h, _, _, hr => by
    simp only [VR] at h ⊢
    intro hs
    obtain ⟨o1, hs⟩ := Option.isSome_iff_exists.1 hs
    obtain ⟨e1, e2⟩ := hr s (by simp [AV.refs]) o1 hs
    obtain ⟨b, h1, h2⟩ := h (by rw [e1]; rfl)
    exact ⟨b, e2.trans h1, h2⟩
  | .un, y, h, _, _, _ => by simp only [VR]
theorem VRs.back {E : Env} {ob ob1 : List (Nat × OB)} {ν1 : Loc} : ∀ {xs : List AV} {ys : List Value}, VRs P E w ob1 ν1 xs ys → AV.nofns xs = true →
    ((∀ b, b < w.heap.size → AvoidB ob1 ν1 b → E.D b → AvoidB ob ν b ∧ w0.D b) ∨ AV.plains xs) → (∀ s, AV.refsL s xs = true → ∀ o, lookO ob s = some o → lookO ob1 s = some o ∧ ν s = ν1 s) → VRs P w0 w ob ν xs ys
  | [], ys, h, _, _, _ => by simp only [VRs] at h ⊢; exact h
  | x :: xs, ys, h, hf, hd, hr => by
    simp only [VRs] at h ⊢
    obtain ⟨y, ys', h1, h2, h3⟩ := h
    simp only [AV.nofns, Bool.and_eq_true] at hf
    exact ⟨y, ys', h1, VR.back h2 hf.1 (hd.imp id (fun h => by simp only [AV.plains] at h; exact h.1)) (fun s hs => hr s (by simp [AV.refsL, hs])), VRs.back h3 hf.2 (hd.imp id (fun h => by simp only [AV.plains] at h; exact h.2)) (fun s hs => hr s (by simp [AV.refsL, hs]))⟩
end
end

section
variable {P : Program} {w0 : Env} {w w' : World} {σ : St} {ν : Loc} {a : Act} {m n : Nat}

theorem plainsD : ∀ {cs : List D}, plains cs → AV.plains (cs.map AV.d)
  | [], _ => by simp [AV.plains]
  | c :: cs, h => by
    simp only [plains] at h
    simp only [List.map_cons, AV.plains, AV.plain]
    exact ⟨h.1, plainsD h.2⟩

theorem nofnsD : ∀ (cs : List D), AV.nofns (cs.map AV.d) = true
  | [] => by simp [AV.nofns]
  | c :: cs => by simp [AV.nofns, AV.nofn, nofnsD cs]

mutual
theorem Opn.facts : ∀ {d : D} {x : AV} {os : List (Nat × OB)}, Opn d x os → x.plain ∧ x.nofn = true ∧ (∀ s, x.refs s = true → ∃ p ∈ os, p.1 = s) ∧ plainOs os ∧ (∀ p ∈ os, p.2 ≠ .dead ∧ AV.plains (obCells p.2) ∧ AV.nofns (obCells p.2) = true ∧ ∀ s, AV.refsL s (obCells p.2) = true → ∃ q ∈ os, q.1 = s)
  | .v x, a, os, h => by
    simp only [Opn] at h
    obtain ⟨rfl, rfl⟩ := h
    simp [AV.plain, D.plain, AV.nofn, AV.refs, plainOs]
  | .ag cs, a, os, h => by
    simp only [Opn] at h
    rcases h with ⟨h1, rfl, rfl⟩ | ⟨as, rfl, h1⟩
    · simp [AV.plain, D.plain, AV.nofn, AV.refs, plainOs, h1]
    · have := OpnL.facts h1
      simpa only [AV.plain, AV.nofn, AV.refs] using this
  | .tu cs, a, os, h => by
    simp only [Opn] at h
    rcases h with ⟨h1, rfl, rfl⟩ | ⟨as, rfl, h1⟩
    · simp [AV.plain, D.plain, AV.nofn, AV.refs, plainOs, h1]
    · have := OpnL.facts h1
      simpa only [AV.plain, AV.nofn, AV.refs] using this
  | .ls k n cs, a, os, h => by
    simp only [Opn] at h
    obtain ⟨s, rfl, ⟨h1, rfl⟩ | ⟨as, os', rfl, h1, h2⟩⟩ := h
    · refine ⟨by simp [AV.plain], by simp [AV.nofn], fun t ht => ⟨(s, .ds cs), by simp, by simpa [AV.refs] using ht⟩, by simp [plainOs, OB.plain, h1], fun p hp => ?_⟩
      simp only [List.mem_singleton] at hp
      subst hp
      exact ⟨by simp, plainsD h1, nofnsD cs, fun t ht => by simp only [obCells, refs_dmap] at ht; cases ht⟩
    · obtain ⟨g1, g2, g3, g4, g5⟩ := OpnL.facts h1
      refine ⟨by simp [AV.plain], by simp [AV.nofn], fun t ht => ⟨_, List.mem_cons_self .., by simpa [AV.refs] using ht⟩, by simp [plainOs, OB.plain, g1, g4], fun p hp => ?_⟩
      rcases List.mem_cons.1 hp with rfl | hp
      · exact ⟨by simp, g1, g2, fun t ht => by obtain ⟨q, q1, q2⟩ := g3 t ht; exact ⟨q, List.mem_cons_of_mem _ q1, q2⟩⟩
      · obtain ⟨e1, e2, e3, e4⟩ := g5 p hp
        exact ⟨e1, e2, e3, fun t ht => by obtain ⟨q, q1, q2⟩ := e4 t ht; exact ⟨q, List.mem_cons_of_mem _ q1, q2⟩⟩
  | .pt _, a, os, h => by simp only [Opn] at h
theorem OpnL.facts : ∀ {ds : List D} {xs : List AV} {os : List (Nat × OB)}, OpnL ds xs os → AV.plains xs ∧ AV.nofns xs = true ∧ (∀ s, AV.refsL s xs = true → ∃ p ∈ os, p.1 = s) ∧ plainOs os ∧ (∀ p ∈ os, p.2 ≠ .dead ∧ AV.plains (obCells p.2) ∧ AV.nofns (obCells p.2) = true ∧ ∀ s, AV.refsL s (obCells p.2) = true → ∃ q ∈ os, q.1 = s)
  | [], xs, os, h => by
    simp only [OpnL] at h
    obtain ⟨rfl, rfl⟩ := h
    simp [AV.plains, AV.nofns, AV.refsL, plainOs]
  | d :: ds, xs, os, h => by
    simp only [OpnL] at h
    obtain ⟨x, xs', o1, o2, rfl, rfl, h1, h2, h3⟩ := h
    obtain ⟨a1, a2, a3, a4, a5⟩ := Opn.facts h1
    obtain ⟨b1, b2, b3, b4, b5⟩ := OpnL.facts h2
    have hpl : ∀ (x y : List (Nat × OB)), plainOs x → plainOs y → plainOs (x ++ y) := fun x y hx hy => by
      induction x with
      | nil => exact hy
      | cons p r ih => exact ⟨hx.1, ih hx.2⟩
    refine ⟨by simp [AV.plains, a1, b1], by simp [AV.nofns, a2, b2], fun s hs => ?_, hpl _ _ a4 b4, fun p hp => ?_⟩
    · simp only [AV.refsL, Bool.or_eq_true] at hs
      rcases hs with hs | hs
      · obtain ⟨p, q1, q2⟩ := a3 s hs
        exact ⟨p, List.mem_append_left _ q1, q2⟩
      · obtain ⟨p, q1, q2⟩ := b3 s hs
        exact ⟨p, List.mem_append_right _ q1, q2⟩
    · rcases List.mem_append.1 hp with hp | hp
      · obtain ⟨e1, e2, e3, e4⟩ := a5 p hp
        exact ⟨e1, e2, e3, fun t ht => by obtain ⟨q, q1, q2⟩ := e4 t ht; exact ⟨q, List.mem_append_left _ q1, q2⟩⟩
      · obtain ⟨e1, e2, e3, e4⟩ := b5 p hp
        exact ⟨e1, e2, e3, fun t ht => by obtain ⟨q, q1, q2⟩ := e4 t ht; exact ⟨q, List.mem_append_right _ q1, q2⟩⟩
end

theorem VRs.among {ob ob1 : List (Nat × OB)} {ν1 : Loc} {xs : List AV} {ys : List Value} (h : VRs P w0 w ob1 ν1 xs ys) (hp : AV.plains xs) (hf : AV.nofns xs = true) (hr : ∀ s, AV.refsL s xs = true → ∀ o, lookO ob s = some o → lookO ob1 s = some o ∧ ν s = ν1 s) : VRs P w0 w ob ν xs ys :=
  VRs.back h hf (.inr hp) hr

theorem VR.among {ob ob1 : List (Nat × OB)} {ν1 : Loc} {x : AV} {y : Value} (h : VR P w0 w ob1 ν1 x y) (hp : x.plain) (hf : x.nofn = true) (hr : ∀ s, x.refs s = true → ∀ o, lookO ob s = some o → lookO ob1 s = some o ∧ ν s = ν1 s) : VR P w0 w ob ν x y :=
  VR.back h hf (.inr hp) hr

theorem Mem.side {o1 o2 : List (Nat × OB)} {ν1 ν2 ν : Loc} {b1 b2 : List Nat} (h1 : Mem P w0 w o1 ν1) (h2 : Mem P w0 w o2 ν2) (hd : ∀ p ∈ o1, ∀ q ∈ o2, p.1 ≠ q.1)
    (l1 : ∀ s x, ν1 s = some x → x.1 ∈ b1) (l2 : ∀ s x, ν2 s = some x → x.1 ∈ b2) (hb : ∀ x ∈ b1, ∀ y ∈ b2, x ≠ y) (n1 : ∀ p ∈ o1, ν p.1 = ν1 p.1) (n2 : ∀ p ∈ o2, ν p.1 = ν2 p.1)
    (f1 : ∀ p ∈ o1, AV.plains (obCells p.2) ∧ AV.nofns (obCells p.2) = true ∧ ∀ s, AV.refsL s (obCells p.2) = true → ∃ q ∈ o1, q.1 = s)
    (f2 : ∀ p ∈ o2, AV.plains (obCells p.2) ∧ AV.nofns (obCells p.2) = true ∧ ∀ s, AV.refsL s (obCells p.2) = true → ∃ q ∈ o2, q.1 = s) : Mem P w0 w (o1 ++ o2) ν := by
  have hlook : ∀ s o, lookO (o1 ++ o2) s = some o → (lookO o1 s = some o ∧ ν s = ν1 s) ∨ (lookO o2 s = some o ∧ ν s = ν2 s) := fun s o h => by
    rcases lookO_app h with h | ⟨_, h⟩
    · exact .inl ⟨h, n1 _ (lookO_mem h)⟩
    · exact .inr ⟨h, n2 _ (lookO_mem h)⟩
  refine ⟨fun s o h => ?_, fun s s' o o' x x' hne e1 e2 g1 g2 => ?_⟩
  · rcases lookO_app h with h | ⟨hn, h⟩
    · have hs := n1 _ (lookO_mem h)
      rcases h1.objs s o h with ⟨q1, q2⟩ | ⟨b, base, c, T, xs, q1, q2, q3, q4, q5, q6⟩
      · exact .inl ⟨hs.trans q1, q2⟩
      · obtain ⟨e1, e2, e3⟩ := f1 _ (lookO_mem h)
        refine .inr ⟨b, base, c, T, xs, hs.trans q1, q2, q3, q4, q5, q6.among e1 e2 (fun t ht o2 ho2 => ?_)⟩
        obtain ⟨q, hq, rfl⟩ := e3 t ht
        rcases lookO_app ho2 with e | ⟨e, _⟩
        · exact ⟨e, n1 q hq⟩
        · exact absurd rfl (e q hq)
    · have hs := n2 _ (lookO_mem h)
      rcases h2.objs s o h with ⟨q1, q2⟩ | ⟨b, base, c, T, xs, q1, q2, q3, q4, q5, q6⟩
      · exact .inl ⟨hs.trans q1, q2⟩
      · obtain ⟨e1, e2, e3⟩ := f2 _ (lookO_mem h)
        refine .inr ⟨b, base, c, T, xs, hs.trans q1, q2, q3, q4, q5, q6.among e1 e2 (fun t ht o2 ho2 => ?_)⟩
        obtain ⟨q, hq, rfl⟩ := e3 t ht
        rcases lookO_app ho2 with e | ⟨_, e⟩
        · exact absurd rfl (hd _ (lookO_mem e) q hq)
        · exact ⟨e, n2 q hq⟩
  · rcases hlook s o e1 with ⟨k1, v1⟩ | ⟨k1, v1⟩
    · rcases hlook s' o' e2 with ⟨k2, v2⟩ | ⟨k2, v2⟩
      · exact h1.inj s s' o o' x x' hne k1 k2 (v1 ▸ g1) (v2 ▸ g2)
      · exact hb _ (l1 s x (v1 ▸ g1)) _ (l2 s' x' (v2 ▸ g2))
    · rcases hlook s' o' e2 with ⟨k2, v2⟩ | ⟨k2, v2⟩
      · exact fun e => hb _ (l1 s' x' (v2 ▸ g2)) _ (l2 s x (v1 ▸ g1)) e.symm
      · exact h2.inj s s' o o' x x' hne k1 k2 (v1 ▸ g1) (v2 ▸ g2)

theorem mem_nil {ν : Loc} : Mem P w0 w [] ν := ⟨fun s o h => by simp [lookO] at h, fun s s' o o' x x' _ h => by simp [lookO] at h⟩

mutual
theorem Opn.sound : ∀ {d : D} {x : AV} {os : List (Nat × OB)} {v : Value} {bs : List Nat}, Opn d x os → RD w true d v bs → bs.Nodup → (∀ b ∈ bs, ¬ w0.S b ∧ w0.D b) →
    ∃ ν : Loc, (∀ s y, ν s = some y → y.1 ∈ bs) ∧ (∀ s, (∀ p ∈ os, p.1 ≠ s) → ν s = none) ∧ Mem P w0 w os ν ∧ VR P w0 w os ν x v
  | .v x, a, os, v, bs, h, hr, hn, hb => by
    simp only [Opn] at h
    obtain ⟨rfl, rfl⟩ := h
    simp only [RD] at hr
    obtain ⟨rfl, rfl⟩ := hr
    exact ⟨fun _ => none, by simp, by simp, mem_nil, VR.mk _⟩
  | .ag cs, a, os, v, bs, h, hr, hn, hb => by
    simp only [Opn] at h
    rcases h with ⟨h1, rfl, rfl⟩ | ⟨as, rfl, h1⟩
    · refine ⟨fun _ => none, by simp, by simp, mem_nil, ?_⟩
      simp only [VR]
      exact ⟨[], (RD.plain hr (by simpa only [D.plain] using h1)).2, by simp⟩
    · simp only [RD] at hr
      obtain ⟨xs, rfl, g1, g2⟩ := hr
      obtain ⟨ν, k1, k2, k3, k4⟩ := OpnL.sound h1 g2 hn hb
      refine ⟨ν, k1, k2, k3, ?_⟩
      simp only [VR]
      exact ⟨xs, rfl, g1, k4⟩
  | .tu cs, a, os, v, bs, h, hr, hn, hb => by
    simp only [Opn] at h
    rcases h with ⟨h1, rfl, rfl⟩ | ⟨as, rfl, h1⟩
    · refine ⟨fun _ => none, by simp, by simp, mem_nil, ?_⟩
      simp only [VR]
      exact ⟨[], (RD.plain hr (by simpa only [D.plain] using h1)).2, by simp⟩
    · simp only [RD] at hr
      obtain ⟨xs, rfl, g2⟩ := hr
      obtain ⟨ν, k1, k2, k3, k4⟩ := OpnL.sound h1 g2 hn hb
      refine ⟨ν, k1, k2, k3, ?_⟩
      simp only [VR]
      exact ⟨xs, rfl, k4⟩
  | .ls k m cs, a, os, v, bs, h, hr, hn, hb => by
    simp only [Opn] at h
    obtain ⟨s, rfl, h⟩ := h
    simp only [RD] at hr
    have hfin : ∀ (o : OB) (os' : List (Nat × OB)) (ν0 : Loc), os = (s, o) :: os' → o.row = true → (obCells o).length = cs.length → (∀ p ∈ os', p.1 ≠ s) →
        (∀ bs' xs, RDs w true cs xs bs' → bs'.Nodup → (∀ b ∈ bs', ¬ w0.S b ∧ w0.D b) → ∃ ν : Loc, (∀ s y, ν s = some y → y.1 ∈ bs') ∧ (∀ s, (∀ p ∈ os', p.1 ≠ s) → ν s = none) ∧ Mem P w0 w os' ν ∧ VRs P w0 w os' ν (obCells o) xs) →
        (AV.plains (obCells o) ∧ AV.nofns (obCells o) = true ∧ ∀ t, AV.refsL t (obCells o) = true → ∃ q ∈ os', q.1 = t) → (∀ p ∈ os', AV.plains (obCells p.2) ∧ AV.nofns (obCells p.2) = true ∧ ∀ t, AV.refsL t (obCells p.2) = true → ∃ q ∈ os', q.1 = t) →
        ∃ ν : Loc, (∀ s y, ν s = some y → y.1 ∈ bs) ∧ (∀ s, (∀ p ∈ os, p.1 ≠ s) → ν s = none) ∧ Mem P w0 w os ν ∧ VR P w0 w os ν (.bs s 0 m k) v := by
      intro o os' _ hos ho hlen hns hin hfo hfos
      subst hos
      have hone : o ≠ .dead := OB.row_ne ho
      have hlk : lookO ((s, o) :: os') s = some o := by
        simp only [lookO, if_true]
      rcases hr with ⟨a0, c0, rfl, h0, rfl, rfl, rfl⟩ | ⟨b, off, cap, xs, bs', rfl, rfl, g3, g4, g5, g6⟩
      · obtain ⟨rfl, rfl⟩ : a0 = none ∧ c0 = 0 := by simpa using h0
        obtain ⟨ν, k1, k2, k3, k4⟩ := hin [] [] (by simp [RDs]) (by simp) (by simp)
        have hs0 : ν s = none := k2 s hns
        have hc0 : obCells o = [] := List.eq_nil_of_length_eq_zero (by simpa using hlen)
        refine ⟨ν, k1, fun t ht => k2 t (fun p hp => ht p (by simp [hp])), ⟨fun t o' ht => ?_, fun t t' o1 o2 x x' hne e1 e2 q1 q2 => ?_⟩, ?_⟩
        · by_cases e : s = t
          · subst e
            rw [hlk] at ht
            cases ht
            exact .inl ⟨hs0, hc0⟩
          · simp only [lookO] at ht
            rw [if_neg e] at ht
            rcases k3.objs t o' ht with q | ⟨b, base, c, T, xs, q1, q2, q3, q4, q5, q6⟩
            · exact .inl q
            · have := k1 t _ q1
              simp at this
        · have := k1 t _ q1
          simp at this
        · simp only [VR]
          exact fun _ => ⟨fun o' _ => by simp, .inl ⟨hs0, by trivial, by trivial, by trivial⟩⟩
      · obtain ⟨q1, c, T, fz, q2, q3, q4⟩ := g5
        obtain ⟨rfl, q5⟩ := q4 rfl
        have hnd := (List.nodup_cons.1 hn)
        obtain ⟨ν1, k1, k2, k3, k4⟩ := hin bs' xs g6 hnd.2 (fun b hb' => hb b (by simp [hb']))
        let ν : Loc := fun t => if t = s then some (b, off) else ν1 t
        have hνs : ν s = some (b, off) := by simp [ν]
        have hνt : ∀ t, t ≠ s → ν t = ν1 t := fun t ht => by simp [ν, ht]
        have hsub : ∀ t o', lookO ((s, o) :: os') t = some o' → t ≠ s → lookO os' t = some o' := fun t o' ht hne => by
          simp only [lookO] at ht
          rw [if_neg (fun e => hne e.symm)] at ht
          exact ht
        have ham : ∀ t, (∃ q ∈ os', q.1 = t) → ∀ o', lookO ((s, o) :: os') t = some o' → lookO os' t = some o' ∧ ν t = ν1 t := fun t ht o' ho' => by
          obtain ⟨q, hq, rfl⟩ := ht
          exact ⟨hsub _ o' ho' (hns q hq), hνt _ (hns q hq)⟩
        refine ⟨ν, fun t y hy => ?_, fun t ht => ?_, ⟨fun t o' ht => ?_, fun t t' o1 o2 x x' hne e1 e2 p1 p2 => ?_⟩, ?_⟩
        · by_cases e : t = s
          · subst e
            rw [hνs] at hy
            cases hy
            simp
          · rw [hνt t e] at hy
            exact List.mem_cons_of_mem _ (k1 t y hy)
        · rw [hνt t (fun e => ht (s, o) (by simp) e.symm)]
          exact k2 t (fun p hp => ht p (by simp [hp]))
        · by_cases e : t = s
          · subst e
            rw [hlk] at ht
            cases ht
            exact .inr ⟨b, off, c, T, xs, hνs, hb b (by simp), q2.trans (by rw [objOf_row ho]), q3, q1, k4.among hfo.1 hfo.2.1 (fun t' ht' => ham t' (hfo.2.2 t' ht'))⟩
          · have ht' := hsub t o' ht e
            rcases k3.objs t o' ht' with ⟨p1, p2⟩ | ⟨b', base, c', T', xs', p1, p2, p3, p4, p5, p6⟩
            · exact .inl ⟨(hνt t e).trans p1, p2⟩
            · obtain ⟨f1, f2, f3⟩ := hfos _ (lookO_mem ht')
              exact .inr ⟨b', base, c', T', xs', (hνt t e).trans p1, p2, p3, p4, p5, p6.among f1 f2 (fun t' h' => ham t' (f3 t' h'))⟩
        · by_cases e : t = s
          · have e' : t' ≠ s := fun h => hne (e.trans h.symm)
            rw [e, hνs] at p1
            cases p1
            rw [hνt t' e'] at p2
            exact fun h => hnd.1 (by have := k1 t' x' p2; rw [← h] at this; exact this)
          · rw [hνt t e] at p1
            by_cases e' : t' = s
            · rw [e', hνs] at p2
              cases p2
              exact fun h => hnd.1 (by have := k1 t x p1; rw [h] at this; exact this)
            · rw [hνt t' e'] at p2
              exact k3.inj t t' o1 o2 x x' hne (hsub t o1 e1 e) (hsub t' o2 e2 e') p1 p2
        · simp only [VR]
          exact fun _ => ⟨fun o' ho' => by rw [hlk] at ho'; cases ho'; rw [hlen, ← g3]; omega, .inr ⟨b, off, cap, ⟨b, off, none⟩, c, T, hνs, rfl, g4, .inr (by simp), q2, by simpa using q5⟩⟩
    rcases h with ⟨h1, rfl⟩ | ⟨as, os', rfl, h1, h2⟩
    · refine hfin (.ds cs) [] (fun _ => none) rfl (by simp) (by simp [obCells]) (by simp) (fun bs' xs hx _ _ => ⟨fun _ => none, by simp, by simp, mem_nil, ?_⟩) ⟨plainsD h1, nofnsD cs, fun t ht => by simp only [obCells, refs_dmap] at ht; cases ht⟩ (by simp)
      exact VRs.of_rds (RDs.plain hx h1).2 (fun b hb => by cases hb)
    · have hf := OpnL.facts h1
      have hl : as.length = cs.length := by
        have : ∀ {ds : List D} {xs : List AV} {os : List (Nat × OB)}, OpnL ds xs os → xs.length = ds.length := fun {ds} => by
          induction ds with
          | nil => intro xs os h; simp only [OpnL] at h; simp [h.1]
          | cons d ds ih =>
            intro xs os h
            simp only [OpnL] at h
            obtain ⟨a, as', o1, o2, rfl, rfl, _, h, _⟩ := h
            simp [ih h]
        exact this h1
      exact hfin (.av as) os' (fun _ => none) rfl (by simp) hl h2 (fun bs' xs hx hn' hb' => OpnL.sound h1 hx hn' hb') ⟨hf.1, hf.2.1, hf.2.2.1⟩ (fun p hp => (hf.2.2.2.2 p hp).2)
  | .pt _, a, os, v, bs, h, _, _, _ => by simp only [Opn] at h
theorem OpnL.sound : ∀ {ds : List D} {xs : List AV} {os : List (Nat × OB)} {vs : List Value} {bs : List Nat}, OpnL ds xs os → RDs w true ds vs bs → bs.Nodup → (∀ b ∈ bs, ¬ w0.S b ∧ w0.D b) →
    ∃ ν : Loc, (∀ s y, ν s = some y → y.1 ∈ bs) ∧ (∀ s, (∀ p ∈ os, p.1 ≠ s) → ν s = none) ∧ Mem P w0 w os ν ∧ VRs P w0 w os ν xs vs
  | [], xs, os, vs, bs, h, hr, hn, hb => by
    simp only [OpnL] at h
    obtain ⟨rfl, rfl⟩ := h
    simp only [RDs] at hr
    obtain ⟨rfl, rfl⟩ := hr
    exact ⟨fun _ => none, by simp, by simp, mem_nil, by simp [VRs]⟩
  | d :: ds, xs, os, vs, bs, h, hr, hn, hb => by
    simp only [OpnL] at h
    obtain ⟨x, xs', o1, o2, rfl, rfl, h1, h2, h3⟩ := h
    simp only [RDs] at hr
    obtain ⟨y, ys', b1, b2, rfl, rfl, r1, r2⟩ := hr
    have hnd := List.nodup_append.1 hn
    obtain ⟨ν1, k1, k2, k3, k4⟩ := Opn.sound h1 r1 hnd.1 (fun b hb' => hb b (by simp [hb']))
    obtain ⟨ν2, l1, l2, l3, l4⟩ := OpnL.sound h2 r2 hnd.2.1 (fun b hb' => hb b (by simp [hb']))
    obtain ⟨a1, a2, a3, a4, a5⟩ := Opn.facts h1
    obtain ⟨c1, c2, c3, c4, c5⟩ := OpnL.facts h2
    let ν : Loc := fun s => match ν1 s with | some x => some x | none => ν2 s
    have n1 : ∀ p ∈ o1, ν p.1 = ν1 p.1 := fun p hp => by
      show (match ν1 p.1 with | some x => some x | none => ν2 p.1) = ν1 p.1
      cases hv : ν1 p.1 with
      | some x => rfl
      | none => exact l2 p.1 (fun q hq => (h3 p hp q hq).symm)
    have n2 : ∀ p ∈ o2, ν p.1 = ν2 p.1 := fun p hp => by
      show (match ν1 p.1 with | some x => some x | none => ν2 p.1) = ν2 p.1
      rw [k2 p.1 (fun q hq => h3 q hq p hp)]
    refine ⟨ν, fun s y hy => ?_, fun s hs => ?_, Mem.side k3 l3 h3 k1 l1 (fun x hx y hy => hnd.2.2 x hx y hy) n1 n2 (fun p hp => (a5 p hp).2) (fun p hp => (c5 p hp).2), ?_⟩
    · have hy' : (match ν1 s with | some x => some x | none => ν2 s) = some y := hy
      cases hv : ν1 s with
      | some x =>
        rw [hv] at hy'
        cases hy'
        exact List.mem_append_left _ (k1 s _ hv)
      | none =>
        rw [hv] at hy'
        exact List.mem_append_right _ (l1 s y hy')
    · show (match ν1 s with | some x => some x | none => ν2 s) = none
      rw [k2 s (fun p hp => hs p (by simp [hp]))]
      exact l2 s (fun p hp => hs p (by simp [hp]))
    · simp only [VRs]
      refine ⟨y, ys', rfl, k4.among a1 a2 (fun s hs o ho => ?_), l4.among c1 c2 (fun s hs o ho => ?_)⟩
      · obtain ⟨p, hp, rfl⟩ := a3 s hs
        rcases lookO_app ho with e | ⟨e, _⟩
        · exact ⟨e, n1 p hp⟩
        · exact absurd rfl (e p hp)
      · obtain ⟨p, hp, rfl⟩ := c3 s hs
        rcases lookO_app ho with e | ⟨_, e⟩
        · exact absurd rfl (h3 _ (lookO_mem e) p hp)
        · exact ⟨e, n2 p hp⟩
end
end

end Go.Proofs.Yteimddagjikcaaa
