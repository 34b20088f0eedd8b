/- All pure operations together. -/
import Derived.Test.YtdinkfmkhdnbpaaFlow11b
import Derived.WalkKit
import Derived.WalkSpells
namespace Go.Proofs.Ytdinkfmkhdnbpaa
open Go.RowKit
set_option linter.unusedVariables false
set_option linter.unusedSimpArgs false

section
variable {P : Program} {w0 : Env} {w : World} {σ : St} {ν : Loc} {a : Act}

theorem VRs.evs (h : Sim P w0 σ ν a w) : ∀ (l : List Operand), VRs P w0 w σ.ob ν (l.map σ.ev) (l.map a.eval)
  | [] => by simp [VRs]
  | x :: l => by
    simp only [List.map_cons, VRs]
    exact ⟨_, _, rfl, h.ev x, VRs.evs h l⟩

theorem run_len_slice {ts : Array TypeId} {ty t e : TypeId} (hu : P.underlying t = some (.slice e)) (hts : ts.toList = [t]) {ad : Option Addr} {n c : Nat} {args : Array Value} (ha : args = #[.slice ad n c]) :
    (Builtin.len_ ts ty args).run P w = .ok (.int .i64 n) w := by
  have : ts[0]? = some t := by rw [← Array.getElem?_toList, hts]; rfl
  subst ha
  simp [Builtin.len_, this, run_underlying hu, goInt]

theorem run_len_string {ts : Array TypeId} {ty t : TypeId} (hu : P.underlying t = some .string) (hts : ts.toList = [t]) {s : ByteArray} {args : Array Value} (ha : args = #[.string s]) :
    (Builtin.len_ ts ty args).run P w = .ok (.int .i64 s.size) w := by
  have : ts[0]? = some t := by rw [← Array.getElem?_toList, hts]; rfl
  subst ha
  simp [Builtin.len_, this, run_underlying hu, goInt]

theorem run_len_array {ts : Array TypeId} {ty t e : TypeId} {n : Nat} (hu : P.underlying t = some (.array n e)) (hts : ts.toList = [t]) {v : Value} {args : Array Value} (ha : args = #[v]) :
    (Builtin.len_ ts ty args).run P w = .ok (.int .i64 n) w := by
  have : ts[0]? = some t := by rw [← Array.getElem?_toList, hts]; rfl
  subst ha
  simp [Builtin.len_, this, run_underlying hu, goInt]

theorem exec_builtin {ρ : Operand → Value} {o : Oper} {b : Builtin} {args : Array Operand} {ts : Array TypeId} (ho : o.op = .call ⟨.builtin b, args, ts⟩) :
    (execOp ρ o).run P w = (builtin b ts o.type (args.map fun | .const _ => true | _ => false) (args.map ρ)).run P w := by
  simp only [execOp, ho, resolve]
  rfl

theorem lift_val {s : Sem Value} {v : Value} (h : s.run P w = .ok v w) : (do pure (Go.Next.value (← s)) : Sem Go.Next).run P w = .ok (.value v) w := by
  simp [h]

theorem lift_rt {s : Sem Value} {v : Value} (h : RT P w s v) : RT P w (do pure (Go.Next.value (← s)) : Sem Go.Next) (.value v) := fun w' hw' => lift_val (h w' hw')

/-- A PURE OPERATION YIELDS WHAT THE VIEW SAYS. -/
theorem pure_sound (h : Sim P w0 σ ν a w) {o : Oper} {p : Prop} {r : AV} (ho : pureOp P σ o.op = some (p, r)) (hp : p) :
    ∃ v, RT P w (execOp a.eval o) (.value v) ∧ VR P w0 w σ.ob ν r v := by
  generalize hop : o.op = op at ho
  cases op with
  | move x =>
    obtain ⟨rfl, rfl⟩ := Prod.mk.inj (Option.some.inj ho)
    exact ⟨_, fun w' _ => by simp [execOp, hop], h.ev x⟩
  | assign x =>
    obtain ⟨rfl, rfl⟩ := Prod.mk.inj (Option.some.inj ho)
    exact ⟨_, fun w' _ => by simp [execOp, hop], h.ev x⟩
  | pick c x y =>
    simp only [pureOp] at ho
    split at ho
    · rename_i b hc
      obtain ⟨rfl, rfl⟩ := Prod.mk.inj (Option.some.inj ho)
      have h1 := h.ev c
      rw [hc] at h1
      refine ⟨_, ?_, VR.pick (h.ev x) (h.ev y)⟩
      intro w' _
      simp only [execOp, hop, h1.val, asBool, Sem.run_bind, Sem.run_pure, Result.andThen_ok]
    · cases ho
  | load t x =>
    obtain ⟨v, h1, h2⟩ := load_sound h ho hp
    exact ⟨v, by simp only [execOp, hop]; exact lift_rt h1, h2⟩
  | fieldAddr t x f =>
    obtain ⟨v, h1, h2⟩ := fieldAddr_sound h ho hp
    exact ⟨v, by simp only [execOp, hop]; exact lift_rt h1, h2⟩
  | indexAddr t x y =>
    obtain ⟨v, h1, h2⟩ := indexAddr_sound h ho hp
    exact ⟨v, by simp only [execOp, hop]; exact lift_rt h1, h2⟩
  | index t x y =>
    obtain ⟨v, h1, h2⟩ := index_sound h ho hp
    exact ⟨v, by simp only [execOp, hop]; exact lift_rt h1, h2⟩
  | field t x f =>
    obtain ⟨v, h1, h2⟩ := field_sound h ho hp
    exact ⟨v, by simp only [execOp, hop]; exact lift_rt h1, h2⟩
  | build t parts =>
    obtain ⟨v, h1, h2⟩ := build_sound h ho hp
    exact ⟨v, by simp only [execOp, hop]; exact lift_rt h1, h2⟩
  | extract x i =>
    obtain ⟨v, h1, h2⟩ := extract_sound h ho
    exact ⟨v, by simp only [execOp, hop]; exact lift_rt h1, h2⟩
  | slice t x lo hi mx =>
    obtain ⟨v, h1, h2⟩ := slice_sound h ho hp
    exact ⟨v, by simp only [execOp, hop]; exact lift_rt h1, h2⟩
  | binOp op t x y u =>
    simp only [pureOp] at ho
    split at ho
    · rename_i d1 d2 h1 h2
      simp only [Option.map_eq_some_iff] at ho
      obtain ⟨⟨p', r'⟩, h3, h4⟩ := ho
      obtain ⟨rfl, rfl⟩ := Prod.mk.inj h4
      have hx := h.ev x
      have hy := h.ev y
      rw [h1] at hx
      rw [h2] at hy
      simp only [VR] at hx hy
      obtain ⟨bs, hx, _⟩ := hx
      obtain ⟨bs', hy, _⟩ := hy
      obtain ⟨z, h5, h6, h7⟩ := binD_sound h3 hp hx hy x y
      refine ⟨z, ?_, VR.of_rd h7⟩
      intro w' hw'
      simp only [execOp, hop, Sem.run_bind, h5 w' hw', Result.andThen_ok, h6 w' hw', Sem.run_pure]
    · cases ho
  | unOp op t x =>
    simp only [pureOp] at ho
    split at ho
    · rename_i d1 h1
      simp only [Option.map_eq_some_iff] at ho
      obtain ⟨r', h3, h4⟩ := ho
      obtain ⟨rfl, rfl⟩ := Prod.mk.inj h4
      have hx := h.ev x
      rw [h1] at hx
      simp only [VR] at hx
      obtain ⟨bs, hx, _⟩ := hx
      obtain ⟨z, h5, h6⟩ := unD_sound h3 hx
      exact ⟨z, by simp only [execOp, hop]; exact lift_rt h5, VR.of_rd h6⟩
    · cases ho
  | convert s t x =>
    simp only [pureOp] at ho
    split at ho
    · rename_i k1 k2 k3 n h1 h2 h3
      obtain ⟨rfl, rfl⟩ := Prod.mk.inj (Option.some.inj ho)
      have hx := h.ev x
      rw [h3] at hx
      refine ⟨_, ?_, VR.mk _⟩
      simp only [execOp, hop]
      intro w' _
      refine lift_val ?_
      rw [hx.val]
      simp only [convert, Sem.run_bind, run_underlying h1, run_underlying h2, Result.andThen_ok, Conv.intToInt, Sem.run_pure]
    · cases ho
  | makeFunc f first captured =>
    cases f with
    | func f =>
      obtain ⟨rfl, rfl⟩ := Prod.mk.inj (Option.some.inj ho)
      refine ⟨.func (.func f) (first.map a.eval) (captured.map a.eval), fun w' _ => by simp [execOp, hop, Instr.makeFunc], ?_⟩
      simp only [VR]
      exact ⟨first.toList.map a.eval, captured.toList.map a.eval, by congr <;> (apply Array.ext'; simp), VRs.evs h _, VRs.evs h _⟩
    | _ => simp [pureOp] at ho
  | nilCheck x =>
    have hx := h.ev x
    simp only [pureOp] at ho
    split at ho
    · rename_i dom k hsx
      obtain ⟨rfl, rfl⟩ := Prod.mk.inj (Option.some.inj ho)
      rw [hsx] at hx
      refine ⟨a.eval x, ?_, hx⟩
      simp only [VR, RF] at hx
      obtain ⟨g, first, cap, h1, _⟩ := hx
      intro w' _
      simp only [execOp, hop, h1, Sem.run_pure]
    · rename_i g l1 l2 hsx
      obtain ⟨rfl, rfl⟩ := Prod.mk.inj (Option.some.inj ho)
      rw [hsx] at hx
      refine ⟨a.eval x, ?_, hx⟩
      simp only [VR] at hx
      obtain ⟨xs, ys, h1, _⟩ := hx
      intro w' _
      simp only [execOp, hop, h1, Sem.run_pure]
    · rename_i s off hsx
      obtain ⟨rfl, rfl⟩ := Prod.mk.inj (Option.some.inj ho)
      rw [hsx] at hx
      refine ⟨a.eval x, ?_, hx⟩
      simp only [VR] at hx
      obtain ⟨b, base, _, h1⟩ := hx hp
      intro w' _
      simp only [execOp, hop, h1, Sem.run_pure]
    · rename_i cs hsx
      obtain ⟨rfl, rfl⟩ := Prod.mk.inj (Option.some.inj ho)
      rw [hsx] at hx
      refine ⟨a.eval x, ?_, hx⟩
      simp only [VR, RD] at hx
      obtain ⟨bs, ⟨b, off, xs, bs', h1, _⟩, _⟩ := hx
      intro w' _
      simp only [execOp, hop, h1, Sem.run_pure]
    · cases ho
  | call c =>
    obtain ⟨callee, args, ts⟩ := c
    cases callee with
    | builtin b =>
      cases b with
      | len =>
        simp only [pureOp] at ho
        split at ho
        · rename_i x t hargs hts
          have hx := h.ev x
          have ha : args = #[x] := by apply Array.ext'; simpa using hargs
          subst ha
          have hb : ∀ v, RT P w (Builtin.len_ ts o.type #[a.eval x]) v → RT P w (execOp a.eval o) (.value v) := fun v hv w' hw' => by
            rw [exec_builtin hop]
            simp only [builtin]
            exact lift_val (by simpa using hv w' hw')
          split at ho
          · rename_i e s off n k hu hsx
            obtain ⟨rfl, rfl⟩ := Prod.mk.inj (Option.some.inj ho)
            rw [hsx] at hx
            simp only [VR] at hx
            refine ⟨.int .i64 n, hb _ ?_, VR.mk _⟩
            rcases (hx hp).2 with ⟨_, h1, rfl, _⟩ | ⟨b, base, cap, ad, c, T, _, h1, _⟩
            · exact fun _ _ => run_len_slice hu hts (by rw [h1])
            · exact fun _ _ => run_len_slice hu hts (by rw [h1])
          · rename_i e k n cs hu hsx
            obtain ⟨rfl, rfl⟩ := Prod.mk.inj (Option.some.inj ho)
            rw [hsx] at hx
            simp only [VR, RD] at hx
            refine ⟨.int .i64 n, hb _ ?_, VR.mk _⟩
            obtain ⟨bs, hx, _⟩ := hx
            rcases hx with ⟨_, _, h1, _, rfl, _⟩ | ⟨b, off, cap, xs, bs', h1, _⟩
            · exact fun _ _ => run_len_slice hu hts (by rw [h1])
            · exact fun _ _ => run_len_slice hu hts (by rw [h1])
          · rename_i s hu hsx
            obtain ⟨rfl, rfl⟩ := Prod.mk.inj (Option.some.inj ho)
            rw [hsx] at hx
            exact ⟨.int .i64 s.size, hb _ (fun _ _ => run_len_string hu hts (by rw [hx.val])), VR.mk _⟩
          · rename_i n e hu
            obtain ⟨rfl, rfl⟩ := Prod.mk.inj (Option.some.inj ho)
            exact ⟨.int .i64 n, hb _ (fun _ _ => run_len_array hu hts rfl), VR.mk _⟩
          · cases ho
        · cases ho
      | min =>
        simp only [pureOp] at ho
        split at ho
        · rename_i x y hargs
          have ha : args = #[x, y] := by apply Array.ext'; simpa using hargs
          subst ha
          split at ho
          · rename_i k m k' n hsx hsy
            obtain ⟨rfl, rfl⟩ := Prod.mk.inj (Option.some.inj ho)
            have hx := h.ev x
            have hy := h.ev y
            rw [hsx] at hx
            rw [hsy] at hy
            refine ⟨_, ?_, VR.mk _⟩
            intro w' _
            rw [exec_builtin hop]
            simp only [builtin]
            refine lift_val ?_
            simp [Builtin.min_, Builtin.min2, hx.val, hy.val]
          · cases ho
        · cases ho
      | max =>
        simp only [pureOp] at ho
        split at ho
        · rename_i x y hargs
          have ha : args = #[x, y] := by apply Array.ext'; simpa using hargs
          subst ha
          split at ho
          · rename_i k m k' n hsx hsy
            obtain ⟨rfl, rfl⟩ := Prod.mk.inj (Option.some.inj ho)
            have hx := h.ev x
            have hy := h.ev y
            rw [hsx] at hx
            rw [hsy] at hy
            refine ⟨_, ?_, VR.mk _⟩
            intro w' _
            rw [exec_builtin hop]
            simp only [builtin]
            refine lift_val ?_
            simp [Builtin.max_, Builtin.max2, hx.val, hy.val]
          · cases ho
        · cases ho
      | _ => simp [pureOp] at ho
    | _ => simp [pureOp] at ho
  | _ => simp [pureOp] at ho
end

end Go.Proofs.Ytdinkfmkhdnbpaa
