/- Calls by contract, regions, code, loops, seen through the view. -/
import Derived.Test.YteimddagjikcaaaFlowC
import Derived.WalkKit
import Derived.WalkSpells
import Derived.OrdersHeld
import Derived.LoopN
namespace Go.Proofs.Yteimddagjikcaaa
open Go.RowKit
set_option linter.unusedVariables false
set_option linter.unusedSimpArgs false

section
variable {P : Program} {w0 : Env} {w w' : World} {σ : St} {ν : Loc} {a : Act}

theorem RF.later {y : Value} {dom : List D → Prop} {h : List D → D} (hr : RF P w0.S w0.w y dom h) (hb : Keep w0.S w0.w w) (hlt : ∀ b, w0.S b → b < w0.w.heap.size) : RF P (· < w.heap.size) w y dom h :=
  hr.sub (fun _ hw' => hb.trans (hw'.sub (fun k hk => Nat.lt_of_lt_of_le (hlt k hk) hb.size)))

theorem cell_lt {b : Nat} {v : Value} (h : w.cell? ⟨b, 0, none⟩ = some v) : b < w.heap.size := by
  by_cases hb : b < w.heap.size
  · exact hb
  · rw [World.cell?] at h
    simp [Array.getElem?_eq_none (Nat.le_of_not_lt hb)] at h

theorem Sim.globNow (h : Sim P w0 σ ν a w) : GlobW w := fun b hb => by
  obtain ⟨h1, m, h2⟩ := h.glob b hb
  refine ⟨m, ?_⟩
  rw [← h2]
  simp only [World.cell?, h.below.block b h1]

theorem refs_cells {o : OB} (ho : o ≠ .dead) {s : Nat} (h : o.refs s = false) : AV.refsL s (obCells o) = false := by
  cases o with
  | ds cs => simp only [obCells]; exact refs_dmap s cs
  | av cs => simpa [obCells, OB.refs] using h
  | mp _ => simp [obCells, AV.refsL]
  | it _ _ _ => simpa [obCells, OB.refs, AV.refsL, AV.refs] using h
  | dead => exact absurd rfl ho

theorem plain_map : ∀ {cs : List D}, plains cs → AV.plains (cs.map AV.d)
  | [], _ => by simp [AV.plains]
  | c :: cs, h => by
    simp only [Go.Proofs.Yteimddagjikcaaa.plains] at h
    simp only [List.map_cons, AV.plains, AV.plain]
    exact ⟨h.1, plain_map h.2⟩

theorem plain_cells {o : OB} (h : o.plain) : AV.plains (obCells o) := by
  cases o with
  | ds cs => exact plain_map h
  | av cs => exact h
  | mp _ => simp [obCells, AV.plains]
  | it _ _ _ => simp [obCells, AV.plains, AV.plain]
  | dead => simp [obCells, AV.plains]

theorem plainOs_mem {s : Nat} {o : OB} : ∀ {ob : List (Nat × OB)}, plainOs ob → (s, o) ∈ ob → o.plain
  | [], _, h => by simp at h
  | (t, x) :: r, hp, h => by
    simp only [plainOs] at hp
    rcases List.mem_cons.1 h with e | h
    · cases e; exact hp.1
    · exact plainOs_mem hp.2 h

theorem Sim.own (h : Sim P w0 σ ν a w) {s : Nat} {o : OB} (hs : lookO σ.ob s = some o) {p : Nat × Nat} (hp : ν s = some p) : (¬ w0.S p.1 ∧ w0.D p.1) ∧ p.1 < w.heap.size := by
  rcases h.objs s o hs with ⟨g, _⟩ | ⟨b, base, c, T, xs, g1, g2, g3, _⟩
  · rw [g] at hp; cases hp
  · rw [g1] at hp; cases hp
    exact ⟨g2, (Array.getElem?_eq_some_iff.1 g3).1⟩

theorem Sim.globAvoid (h : Sim P w0 σ ν a w) {ob : List (Nat × OB)} (hsub : ∀ s o, lookO ob s = some o → lookO σ.ob s = some o) : ∀ b ∈ globB, AvoidB ob ν b := fun b hb s o hs x hx e => (h.own (hsub s o hs) hx).1.1 (e ▸ (h.glob b hb).1)

theorem data_into (h : Sim P w0 σ ν a w) {E : Env} {ob : List (Nat × OB)} (hsub : ∀ s o, lookO ob s = some o → lookO σ.ob s = some o) (hβ : ∀ b, E.D b) :
    ∀ {xs : List AV} {ds : List D} {ys : List Value}, mapD (toD (dropO σ.ob ob) 4) xs = some ds → VRs P w0 w σ.ob ν xs ys → VRs P E w ob ν (ds.map AV.d) ys
  | [], ds, ys, ha, hv => by
    simp only [mapD, Option.some.injEq] at ha
    subst ha
    simp only [VRs, List.map_nil] at hv ⊢
    exact hv
  | x :: xs, ds, ys, ha, hv => by
    simp only [mapD] at ha
    split at ha
    · rename_i d hd
      simp only [Option.map_eq_some_iff] at ha
      obtain ⟨ds', h1, rfl⟩ := ha
      simp only [VRs, List.map_cons] at hv ⊢
      obtain ⟨y, ys', rfl, h3, h4⟩ := hv
      refine ⟨y, ys', rfl, ?_, data_into h hsub hβ h1 h4⟩
      obtain ⟨bs, g1, g2⟩ := toD_from h (fun s o hs => (lookO_dropO hs).2) 4 hd h3
      simp only [VR]
      refine ⟨bs, g1, fun b hbb => ⟨(g2 b hbb).1, fun t o ht p hp e => ?_, hβ b⟩⟩
      rcases (g2 b hbb).2 with g | ⟨s, o', base, q1, q2⟩
      · exact g t o (hsub t o ht) p hp e
      · obtain ⟨q3, q4⟩ := lookO_dropO q1
        exact h.inj t s o o' p _ (q3 _ (lookO_mem ht)) (hsub t o ht) q4 hp q2 e
    · cases ha

theorem args_into (h : Sim P w0 σ ν a w) {E : Env} {ob : List (Nat × OB)} {β : Bool} (hsub : ∀ s o, lookO ob s = some o → lookO σ.ob s = some o) (hd : ∀ b, b < w.heap.size → AvoidB σ.ob ν b → w0.D b → E.D b) (hk : ∀ w', Keep E.S E.w w' → Keep w0.S w0.w w') (hβ : β = true → ∀ b, E.D b) :
    ∀ {xs cs : List AV} {ys : List Value}, ArgsS σ ob β xs cs → VRs P w0 w σ.ob ν xs ys → VRs P E w ob ν cs ys
  | [], cs, ys, ha, hv => by
    simp only [ArgsS] at ha
    subst ha
    simp only [VRs] at hv ⊢
    exact hv
  | x :: xs, cs, ys, ha, hv => by
    simp only [ArgsS] at ha
    obtain ⟨c, cs', rfl, h1, h2⟩ := ha
    simp only [VRs] at hv ⊢
    obtain ⟨y, ys', rfl, h3, h4⟩ := hv
    refine ⟨y, ys', rfl, ?_, args_into h hsub hd hk hβ h2 h4⟩
    rcases h1 with rfl | ⟨hb, d, rfl, h1⟩ | ⟨hb, g, l, m, as, bs, rfl, rfl, k1, k2⟩
    rotate_left 2
    · simp only [VR] at h3 ⊢
      obtain ⟨us, vs, e1, e2, e3⟩ := h3
      exact ⟨us, vs, e1, data_into h hsub (hβ hb) k1 e2, data_into h hsub (hβ hb) k2 e3⟩
    · exact VR.into hsub hd hk h3
    · obtain ⟨bs, g1, g2⟩ := toD_from h (fun s o hs => (lookO_dropO hs).2) 4 h1 h3
      simp only [VR]
      refine ⟨bs, g1, fun b hbb => ⟨(g2 b hbb).1, fun t o ht p hp e => ?_, hβ hb b⟩⟩
      rcases (g2 b hbb).2 with g | ⟨s, o', base, q1, q2⟩
      · exact g t o (hsub t o ht) p hp e
      · obtain ⟨q3, q4⟩ := lookO_dropO q1
        exact h.inj t s o o' p _ (q3 _ (lookO_mem ht)) (hsub t o ht) q4 hp q2 e

def FnSR (P : Program) (R : World → World → Prop) (g : FuncId) (ob : List (Nat × OB)) (args : List AV) (ob' : List (Nat × OB)) (res : AV) : Prop :=
  FnOk P g ∧ ∀ (w : World) (ν : Loc) (Dt : Nat → Prop) (vs : List Value), ((∀ b, w.heap.size ≤ b → Dt b) ∧ GlobW w ∧ ∀ b ∈ globB, AvoidB ob ν b) →
    Mem P ⟨w, fun b => b < w.heap.size ∧ AvoidB ob ν b, Dt, ν, 0⟩ w ob ν → VRs P ⟨w, fun b => b < w.heap.size ∧ AvoidB ob ν b, Dt, ν, 0⟩ w ob ν args vs →
    Calls P g vs.toArray w fun e w' => R w w' ∧ ∃ r ν', e = .returned r ∧ Keep (fun b => b < w.heap.size ∧ AvoidB ob ν b) w w' ∧ Rows w w' ∧
      Mem P ⟨w, fun b => b < w.heap.size ∧ AvoidB ob ν b, Dt, ν, 0⟩ w' ob' ν' ∧ VR P ⟨w, fun b => b < w.heap.size ∧ AvoidB ob ν b, Dt, ν, 0⟩ w' ob' ν' res r ∧
      ∀ s o o', lookO ob s = some o → lookO ob' s = some o' → ν' s = ν s ∧ (obCells o').length = (obCells o).length

def FnXR (P : Program) (R : World → World → Prop) (g : FuncId) (ob : List (Nat × OB)) (args : List AV) (RR : List (Nat × OB) → AV → Prop) : Prop :=
  FnOk P g ∧ ∀ (w : World) (ν : Loc) (Dt : Nat → Prop) (vs : List Value), ((∀ b, w.heap.size ≤ b → Dt b) ∧ GlobW w ∧ ∀ b ∈ globB, AvoidB ob ν b) →
    Mem P ⟨w, fun b => b < w.heap.size ∧ AvoidB ob ν b, Dt, ν, 0⟩ w ob ν → VRs P ⟨w, fun b => b < w.heap.size ∧ AvoidB ob ν b, Dt, ν, 0⟩ w ob ν args vs →
    Calls P g vs.toArray w fun e w' => R w w' ∧ ∃ ob' res, RR ob' res ∧ ∃ r ν', e = .returned r ∧ Keep (fun b => b < w.heap.size ∧ AvoidB ob ν b) w w' ∧ Rows w w' ∧
      Mem P ⟨w, fun b => b < w.heap.size ∧ AvoidB ob ν b, Dt, ν, 0⟩ w' ob' ν' ∧ VR P ⟨w, fun b => b < w.heap.size ∧ AvoidB ob ν b, Dt, ν, 0⟩ w' ob' ν' res r ∧
      ∀ s o o', lookO ob s = some o → lookO ob' s = some o' → ν' s = ν s ∧ (obCells o').length = (obCells o).length

theorem callsX_sound {R : World → World → Prop} (h : Sim P w0 σ ν a w) {dst : Option Nat} (hd : ∀ t, dst = some t → t < σ.n) {g : FuncId} {as cas : List AV} {K : St → Prop} {ob : List (Nat × OB)} {RR : List (Nat × OB) → AV → Prop} {β : Bool}
    (hF : FnXR P R g ob cas RR) (hargs : ArgsS σ ob β as cas) (hso : SubO σ.ob ob) (hall : ∀ ob' res, RR ob' res → (β = true → plainOs ob' ∧ res.plain) ∧ ltAll σ.n (newN ob ob') = true ∧ apartO (dropO σ.ob ob) ob' res = true ∧ K (σ.after ob ob' dst res))
    {vs : List Value} (hv : VRs P w0 w σ.ob ν as vs) :
    FnOk P g ∧ Calls P g vs.toArray w fun e w' => ∃ r, e = .returned r ∧ R w w' ∧ ∃ σ' ν', K σ' ∧ Sim P w0 σ' ν' (a.put dst r) w' := by
  refine ⟨hF.1, ?_⟩
  let S : Nat → Prop := fun b => b < w.heap.size ∧ AvoidB ob ν b
  let Dt : Nat → Prop := fun b => β = true ∨ w.heap.size ≤ b ∨ (AvoidB (dropO σ.ob ob) ν b ∧ w0.D b)
  let E : Env := ⟨w, S, Dt, ν, 0⟩
  have hsub : ∀ s o, lookO ob s = some o → lookO σ.ob s = some o := subO_look hso
  have hS : ∀ b, w0.S b → S b := fun b hb => ⟨Nat.lt_of_lt_of_le (h.lt b hb) h.below.size, fun s o hs x hx e => (h.own (hsub s o hs) hx).1.1 (e ▸ hb)⟩
  have hk : ∀ w', Keep E.S E.w w' → Keep w0.S w0.w w' := fun w' hw' => h.below.trans (hw'.sub hS)
  have hdt : ∀ b, b < w.heap.size → AvoidB σ.ob ν b → w0.D b → E.D b := fun b _ h1 h2 => .inr (.inr ⟨fun s o hs => h1 s o (lookO_dropO hs).2, h2⟩)
  have hmem : Mem P E w ob ν := by
    refine ⟨fun s o hs => ?_, fun s s' o o' x x' hne h1 h2 => h.inj s s' o o' x x' hne (hsub s o h1) (hsub s' o' h2)⟩
    rcases h.objs s o (hsub s o hs) with g | ⟨b, base, c, T, xs, g1, g2, g3, g4, g5, g6⟩
    · exact .inl g
    · refine .inr ⟨b, base, c, T, xs, g1, ⟨fun hb => hb.2 s o hs _ g1 rfl, .inr (.inr ⟨fun t o' ht p hp e => ?_, g2.2⟩)⟩, g3, g4, g5, VRs.into hsub hdt hk g6⟩
      obtain ⟨q1, q2⟩ := lookO_dropO ht
      exact h.inj s t o o' _ p (q1 _ (lookO_mem hs)) (hsub s o hs) q2 g1 hp e.symm
  have hvs : VRs P E w ob ν cas vs := args_into h hsub hdt hk (fun e b => .inl e) hargs hv
  refine Calls.mono (hF.2 w ν Dt vs ⟨fun b hb => .inr (.inl hb), h.globNow, h.globAvoid hsub⟩ hmem hvs) (fun e w' he => ?_)
  obtain ⟨hR, ob', res, hRR, r, ν1, rfl, hkeep, hrows, hm1, hres, hst⟩ := he
  obtain ⟨hpl, hlt, hap, hK⟩ := hall ob' res hRR
  refine ⟨r, rfl, hR, ?_⟩
  let ob2 : List (Nat × OB) := ob' ++ killOs (newN ob ob') (dropO σ.ob ob)
  let ν2 : Loc := fun s => if (lookO ob' s).isSome then ν1 s else ν s
  obtain ⟨ap1, ap2, ap3⟩ := apartO_spec hap
  have hrest : ∀ t o, lookO (killOs (newN ob ob') (dropO σ.ob ob)) t = some o → (∀ p ∈ ob, p.1 ≠ t) ∧ lookO σ.ob t = some o ∧ lookO (dropO σ.ob ob) t = some o ∧ ∀ s ∈ newN ob ob', t ≠ s ∧ o.refs s = false := fun t o ht => by
    obtain ⟨h1, h2⟩ := lookO_killOs ht
    obtain ⟨h3, h4⟩ := lookO_dropO h2
    exact ⟨h3, h4, h2, h1⟩
  have hlook : ∀ t o, lookO ob2 t = some o → (lookO ob' t = some o ∧ ν2 t = ν1 t) ∨ (lookO (killOs (newN ob ob') (dropO σ.ob ob)) t = some o ∧ ν2 t = ν t) := fun t o ht => by
    rcases lookO_app ht with h1 | ⟨h1, h2⟩
    · exact .inl ⟨h1, by simp [ν2, h1]⟩
    · refine .inr ⟨h2, ?_⟩
      have : lookO ob' t = none := by
        cases hx : lookO ob' t with
        | none => rfl
        | some o' => exact absurd rfl (h1 _ (lookO_mem hx))
      simp [ν2, this]
  have hin : ∀ t o p, lookO ob' t = some o → ν1 t = some p → ¬ S p.1 ∧ w0.D p.1 := fun t o p ht hp => by
    rcases hm1.objs t o ht with ⟨g, _⟩ | ⟨b, base, c, T, xs, g1, g2, _⟩
    · rw [g] at hp; cases hp
    · rw [g1] at hp; cases hp
      refine ⟨g2.1, ?_⟩
      show w0.D b
      by_cases hb : w.heap.size ≤ b
      · exact (h.newB hb).2
      · have hna : ¬ AvoidB ob ν b := fun ha => g2.1 ⟨by omega, ha⟩
        unfold AvoidB at hna
        simp only [Classical.not_forall, ne_eq, Classical.not_not] at hna
        obtain ⟨s, o2, hs, x, hx, hxe⟩ := hna
        have hxe : x.1 = b := hxe
        subst hxe
        exact (h.own (hsub s o2 hs) hx).1.2
  have houtS : ∀ t o p, lookO (killOs (newN ob ob') (dropO σ.ob ob)) t = some o → ν t = some p → S p.1 := fun t o p ht hp => by
    obtain ⟨q1, q2, _⟩ := hrest t o ht
    exact ⟨(h.own q2 hp).2, fun s o2 hs x hx => h.inj s t o2 o x p (q1 _ (lookO_mem hs)) (hsub s o2 hs) q2 hx hp⟩
  have hav : ∀ b, b < w.heap.size → AvoidB σ.ob ν b → AvoidB ob2 ν2 b ∧ S b := fun b hb ha => by
    have hSb : S b := ⟨hb, fun s o hs => ha s o (hsub s o hs)⟩
    refine ⟨fun t o ht p hp e => ?_, hSb⟩
    rcases hlook t o ht with ⟨h1, h2⟩ | ⟨h1, h2⟩
    · rw [h2] at hp
      exact (hin t o p h1 hp).1 (e ▸ hSb)
    · rw [h2] at hp
      exact ha t o (hrest t o h1).2.1 p hp e
  have hl : Later σ.ob ν w ob2 ν2 w' := ⟨hkeep.size, fun b hb ha => ⟨(hav b hb ha).1, hkeep.block b (hav b hb ha).2⟩, hrows⟩
  have hfit : ∀ t, t ∉ newN ob ob' → Fits σ.ob ν ob2 ν2 t := fun t ht hsome => by
    obtain ⟨o', ho'⟩ := Option.isSome_iff_exists.1 hsome
    rcases hlook t o' ho' with ⟨h1, h2⟩ | ⟨h1, h2⟩
    · cases hx : lookO ob t with
      | none => exact absurd (newN_mem (lookO_mem h1) hx) ht
      | some o =>
        obtain ⟨e1, e2⟩ := hst t o o' hx h1
        exact ⟨by rw [hsub t o hx]; rfl, h2.trans e1, fun o1 o2 g1 g2 => by
          rw [hsub t o hx] at g1; rw [ho'] at g2; cases g1; cases g2; exact e2⟩
    · have q := (hrest t o' h1).2.1
      exact ⟨by rw [q]; rfl, h2, fun o1 o2 g1 g2 => by rw [q] at g1; rw [ho'] at g2; cases g1; cases g2; rfl⟩
  have hdat : ∀ x : AV, (β = true → x.plain) → ((∀ b, b < w'.heap.size → AvoidB ob' ν1 b → E.D b → AvoidB ob2 ν2 b ∧ w0.D b) ∨ x.plain) := fun x hx => by
    cases hβ : β with
    | true => exact .inr (hx hβ)
    | false =>
      refine .inl (fun b _ ha hD => ?_)
      rcases hD with e | e | ⟨e1, e2⟩
      · rw [hβ] at e; cases e
      · refine ⟨fun t o ht p hp eb => ?_, (h.newB e).2⟩
        rcases hlook t o ht with ⟨h1, h2⟩ | ⟨h1, h2⟩
        · rw [h2] at hp; exact ha t o h1 p hp eb
        · rw [h2] at hp
          have := (houtS t o p h1 hp).1
          omega
      · refine ⟨fun t o ht p hp eb => ?_, e2⟩
        rcases hlook t o ht with ⟨h1, h2⟩ | ⟨h1, h2⟩
        · rw [h2] at hp; exact ha t o h1 p hp eb
        · rw [h2] at hp
          exact e1 t o (hrest t o h1).2.2.1 p hp eb
  have hdats : ∀ xs : List AV, (β = true → AV.plains xs) → ((∀ b, b < w'.heap.size → AvoidB ob' ν1 b → E.D b → AvoidB ob2 ν2 b ∧ w0.D b) ∨ AV.plains xs) := fun xs hx => by
    rcases hdat (.ag xs) (fun e => by simpa only [AV.plain] using hx e) with h1 | h1
    · exact .inl h1
    · exact .inr (by simpa only [AV.plain] using h1)
  have href : ∀ s o, lookO ob2 s = some o → (lookO ob' s = some o ∧ ν2 s = ν1 s) ∨ (∀ p ∈ ob', AV.refsL s (obCells p.2) = false) ∧ res.refs s = false := fun s o hs => by
    rcases hlook s o hs with h1 | ⟨h1, _⟩
    · exact .inl h1
    · exact .inr (ap3 s o (lookO_mem (hrest s o h1).2.2.1))
  have hsim : Sim P w0 { n := σ.n, sl := killSs (newN ob ob') σ.sl, ob := ob2 } ν2 a w' := by
    refine ⟨⟨fun t o ht => ?_, fun t t' o o' x x' hne g1 g2 g3 g4 => ?_⟩, hk w' hkeep, h.rows.trans hrows, h.lt, h.fresh, h.le, h.glob, fun t ht htb => ?_, h.defers, h.size, fun t => ?_⟩
    · rcases hlook t o ht with ⟨h1, h2⟩ | ⟨h1, h2⟩
      · rcases hm1.objs t o h1 with ⟨g1, g2⟩ | ⟨b, base, c, T, xs, g1, g2, g3, g4, g5, g6⟩
        · exact .inl ⟨h2.trans g1, g2⟩
        · refine .inr ⟨b, base, c, T, xs, h2.trans g1, ⟨fun hb => g2.1 (hS b hb), (hin t o _ h1 g1).2⟩, g3, g4, g5, ?_⟩
          refine VRs.back g6 (ap1 _ (lookO_mem h1)) (hdats _ (fun e => plain_cells (plainOs_mem (hpl e).1 (lookO_mem h1)))) (fun s hs o2 ho2 => ?_)
          rcases href s o2 ho2 with e | ⟨e, _⟩
          · exact e
          · rw [e _ (lookO_mem h1)] at hs; cases hs
      · obtain ⟨q1, q2, q3, q4⟩ := hrest t o h1
        exact (h.objs t o q2).later (σ' := ⟨0, [], ob2⟩) hl h2 (fun s' hs' => hfit s' (fun e => by
          rw [refs_cells (lookO_ne q2) (q4 s' e).2] at hs'; cases hs')) (fun b base hb => hkeep.block b (houtS t o _ h1 hb))
    · rcases hlook t o g1 with ⟨h1, h2⟩ | ⟨h1, h2⟩
      · rcases hlook t' o' g2 with ⟨h3, h4⟩ | ⟨h3, h4⟩
        · exact hm1.inj t t' o o' x x' hne h1 h3 (h2 ▸ g3) (h4 ▸ g4)
        · rw [h2] at g3; rw [h4] at g4
          exact fun e => (hin t o x h1 g3).1 (e ▸ houtS t' o' x' h3 g4)
      · rcases hlook t' o' g2 with ⟨h3, h4⟩ | ⟨h3, h4⟩
        · rw [h2] at g3; rw [h4] at g4
          exact fun e => (hin t' o' x' h3 g4).1 (e ▸ houtS t o x h1 g3)
        · rw [h2] at g3; rw [h4] at g4
          exact h.inj t t' o o' x x' hne (hrest t o h1).2.1 (hrest t' o' h3).2.1 g3 g4
    · show ν2 t = w0.ν t
      have ht' : w0.n ≤ t := ht
      have hle := h.le
      have hnn : t ∉ newN ob ob' := fun e => by have := ltAll_spec hlt e; omega
      cases hx : lookO ob' t with
      | none =>
        have : ν2 t = ν t := by simp [ν2, hx]
        exact this.trans (h.stab t ht htb)
      | some o' =>
        have e1 : ν2 t = ν1 t := by simp [ν2, hx]
        cases hy : lookO ob t with
        | none => exact absurd (newN_mem (lookO_mem hx) hy) hnn
        | some o => exact (e1.trans (hst t o o' hy hx).1).trans (h.stab t ht htb)
    · rcases look_killSs (t := t) (nn := newN ob ob') (sl := σ.sl) with e | ⟨e1, e2⟩
      · show VR P w0 w' ob2 ν2 (look (killSs (newN ob ob') σ.sl) t) _
        rw [e]; simp only [VR]
      · show VR P w0 w' ob2 ν2 (look (killSs (newN ob ob') σ.sl) t) _
        rw [e1]
        exact VR.later hl (h.slots t) (fun s hs => hfit s (fun e => by rw [e2 s e] at hs; cases hs))
  have hr2 : VR P w0 w' ob2 ν2 res r := VR.back hres ap2 (hdat res (fun e => (hpl e).2)) (fun s hs o2 ho2 => by
    rcases href s o2 ho2 with e | ⟨_, e⟩
    · exact e
    · rw [e] at hs; cases hs)
  exact ⟨_, ν2, hK, hsim.puto hd hr2⟩

theorem callsR_sound {R : World → World → Prop} (h : Sim P w0 σ ν a w) {dst : Option Nat} (hd : ∀ t, dst = some t → t < σ.n) {g : FuncId} {as cas : List AV} {K : St → Prop} {ob ob' : List (Nat × OB)} {res : AV} {β : Bool}
    (hF : FnSR P R g ob cas ob' res) (hargs : ArgsS σ ob β as cas) (hpl : β = true → plainOs ob' ∧ res.plain) (hso : SubO σ.ob ob) (hlt : ltAll σ.n (newN ob ob') = true) (hap : apartO (dropO σ.ob ob) ob' res = true) (hK : K (σ.after ob ob' dst res))
    {vs : List Value} (hv : VRs P w0 w σ.ob ν as vs) :
    FnOk P g ∧ Calls P g vs.toArray w fun e w' => ∃ r, e = .returned r ∧ R w w' ∧ ∃ σ' ν', K σ' ∧ Sim P w0 σ' ν' (a.put dst r) w' :=
  callsX_sound (RR := fun o r => o = ob' ∧ r = res) h hd ⟨hF.1, fun w ν Dt vs h1 h2 h3 => (hF.2 w ν Dt vs h1 h2 h3).mono fun _ _ he => ⟨he.1, ob', res, ⟨rfl, rfl⟩, he.2⟩⟩ hargs hso
    (fun o r e => by obtain ⟨rfl, rfl⟩ := e; exact ⟨hpl, hlt, hap, hK⟩) hv

theorem calls_sound (h : Sim P w0 σ ν a w) {dst : Option Nat} (hd : ∀ t, dst = some t → t < σ.n) {g : FuncId} {as : List AV} {K : St → Prop} (hc : CallS P σ dst g as K) {vs : List Value} (hv : VRs P w0 w σ.ob ν as vs) :
    FnOk P g ∧ Calls P g vs.toArray w fun e w' => ∃ r, e = .returned r ∧ ∃ σ' ν', K σ' ∧ Sim P w0 σ' ν' (a.put dst r) w' := by
  obtain ⟨ob, cas, RR, β, hF, hargs, hso, _, hall⟩ := hc
  have hF' : FnXR P (fun _ _ => True) g ob cas RR := ⟨hF.1, fun w ν Dt vs h1 h2 h3 => (hF.2 w ν Dt vs h1 h2 h3).mono (fun e w' he => ⟨trivial, he⟩)⟩
  obtain ⟨q1, q2⟩ := callsX_sound h hd hF' hargs hso hall hv
  exact ⟨q1, q2.mono (fun e w' he => by
    obtain ⟨r, e1, _, e2⟩ := he
    exact ⟨r, e1, e2⟩)⟩

theorem fnsr_of_fnd {g : FuncId} {ds : List D} {r : D} {res : AV} {os : List (Nat × OB)} (h : FnD P g ds r) (ho : Opn r res os) : FnSR P (fun w w' => Below w.heap.size w w') g [] (ds.map AV.d) os res := by
  refine ⟨h.1, fun w ν Dt vs hDt hm hv => ?_⟩
  obtain ⟨hDt, hgw, _⟩ := hDt
  have ha : RCs P w (ds.map CV.d) vs := by
    have : ∀ {ds : List D} {vs : List Value}, VRs P ⟨w, fun b => b < w.heap.size ∧ AvoidB [] ν b, Dt, ν, 0⟩ w [] ν (ds.map AV.d) vs → RCs P w (ds.map CV.d) vs := fun {ds} => by
      induction ds with
      | nil => intro vs h; simpa only [List.map_nil, VRs, RCs] using h
      | cons d ds ih =>
        intro vs h
        simp only [List.map_cons, VRs, VR] at h
        obtain ⟨y, ys, rfl, ⟨bs, h1, h2⟩, h3⟩ := h
        simp only [List.map_cons, RCs]
        exact ⟨y, ys, rfl, ⟨bs, h1, fun b hb => (h2 b hb).1⟩, ih h3⟩
    exact this hv
  refine (h.2 w vs ⟨ha, hgw⟩).mono fun e w' hh => ?_
  obtain ⟨x, bs, he, hb, hr, hn, hlo⟩ := hh
  obtain ⟨ν', k1, k2, k3, k4⟩ := Opn.sound (P := P) (w0 := ⟨w, fun b => b < w.heap.size ∧ AvoidB [] ν b, Dt, ν, 0⟩) ho hr hn (fun b hb' => ⟨fun hs => by have := hlo b hb'; have := hs.1; omega, hDt b (hlo b hb')⟩)
  exact ⟨hb, x, ν', he, keep_below hb (fun k hk => hk.1), rows_below hb, k3, k4, fun s o o' e1 => by simp [lookO] at e1⟩

theorem argsS_data {ob : List (Nat × OB)} : ∀ {xs : List AV} {ds : List D}, mapD (toD (dropO σ.ob ob) 4) xs = some ds → ArgsS σ ob true xs (ds.map AV.d)
  | [], ds, h => by
    simp only [mapD, Option.some.injEq] at h
    subst h
    simp only [List.map_nil, ArgsS]
  | x :: xs, ds, h => by
    simp only [mapD] at h
    split at h
    · rename_i d hd
      simp only [Option.map_eq_some_iff] at h
      obtain ⟨ds', h1, rfl⟩ := h
      simp only [List.map_cons, ArgsS]
      exact ⟨_, _, rfl, .inr (.inl ⟨rfl, d, rfl, hd⟩), argsS_data h1⟩
    · cases h

theorem rcs_data : ∀ {ds : List D} {vs : List Value} {bs : List Nat}, RDs w false ds vs bs → (∀ b ∈ bs, b < w.heap.size) → RCs P w (ds.map CV.d) vs
  | [], vs, bs, h, _ => by
    simp only [RDs] at h
    simp only [List.map_nil, RCs]
    exact h.1
  | d :: ds, vs, bs, h, hb => by
    simp only [RDs] at h
    obtain ⟨x, xs', b1, b2, rfl, rfl, h1, h2⟩ := h
    simp only [List.map_cons, RCs]
    exact ⟨x, xs', rfl, ⟨b1, h1, fun b hbb => hb b (by simp [hbb])⟩, rcs_data h2 (fun b hbb => hb b (by simp [hbb]))⟩

theorem arg_sound (h : Sim P w0 σ ν a w) {x : AV} {c : CV} {y : Value} (ha : ArgIs P σ x c) (hv : VR P w0 w σ.ob ν x y) : RC P w c y := by
  unfold ArgIs at ha
  split at ha
  · obtain ⟨rfl, rfl⟩ := ha
    simp only [VR] at hv
    exact hv.later h.below h.lt
  · rename_i g first cap dom hh
    obtain ⟨hok, fs, cs, h1, h2, h3⟩ := ha
    simp only [VR] at hv
    obtain ⟨xs, ys, rfl, h4, h5⟩ := hv
    obtain ⟨b1, r1⟩ := mapD_sound h 4 h1 h4
    obtain ⟨b2, r2⟩ := mapD_sound h 4 h2 h5
    refine ⟨g, xs.toArray, ys.toArray, rfl, hok, fun w' ds vs bs hbg hd hr hlt => ?_⟩
    obtain ⟨hb, hgw⟩ := hbg
    have k1 := r1.keep (fun b hbb => hb.block b (r1.lt b hbb))
    have k2 := r2.keep (fun b hbb => hb.block b (r2.lt b hbb))
    have k := (k1.append hr).append k2
    have := (h3 ds hd).2 w' (xs ++ vs ++ ys) ⟨rcs_data k k.lt, hgw⟩
    simpa using this
  · rename_i d _ _
    obtain ⟨bs, hb⟩ := toD_sound h 4 ha hv
    exact ⟨bs, hb, hb.lt⟩
  · exact ha.elim

theorem args_sound (h : Sim P w0 σ ν a w) : ∀ {xs : List AV} {cs : List CV} {ys : List Value}, ArgsAre P σ xs cs → VRs P w0 w σ.ob ν xs ys → RCs P w cs ys
  | [], cs, ys, ha, hv => by
    simp only [ArgsAre] at ha
    subst ha
    simp only [VRs] at hv
    exact hv
  | x :: xs, cs, ys, ha, hv => by
    simp only [ArgsAre] at ha
    obtain ⟨c, cs', rfl, h1, h2⟩ := ha
    simp only [VRs] at hv
    obtain ⟨y, ys', rfl, h3, h4⟩ := hv
    simp only [RCs]
    exact ⟨y, ys', rfl, arg_sound h h1 h3, args_sound h h2 h4⟩

theorem exec_value {ρ : Operand → Value} {o : Oper} {f : Operand} {args : Array Operand} {ts : Array TypeId} (ho : o.op = .call ⟨.value f, args, ts⟩) {g : FuncId} {first cap : Array Value} (hf : ρ f = .func (.func g) first cap) (hg : FnOk P g) :
    (execOp ρ o).run P w = .ok (.enter g (first ++ args.map ρ ++ cap)) w := by
  obtain ⟨fn, h1, h2, h3⟩ := hg
  have h2' : fn.body ≠ none := by
    cases hb : fn.body <;> simp_all
  have h3' : fn.name ≠ "runtime.NumGoroutine" := by simpa using h3
  simp [execOp, ho, resolve, Deferred.ofValue, hf, invoke, callFunc, h1, h2', h3']

theorem call_sound (h : Sim P w0 σ ν a w) {o : Oper} {f : Operand} {args : Array Operand} {ts : Array TypeId} (ho : o.op = .call ⟨.value f, args, ts⟩) (hd : ∀ t, o.dst = some t → t < σ.n) {q : Bool} {K : St → Prop} (hc : CallOk P q σ o.dst (σ.ev f) (args.toList.map σ.ev) K) :
    ∃ g vs, (execOp a.eval o).run P w = .ok (.enter g vs) w ∧ Calls P g vs w fun e w' => ∃ r, e = .returned r ∧ (q = true → Below w.heap.size w w') ∧ ∃ σ' ν', K σ' ∧ Sim P w0 σ' ν' (a.put o.dst r) w' := by
  have hf := h.ev f
  have hargs := VRs.evs h args.toList
  unfold CallOk at hc
  split at hc
  · rename_i g first cap hfe
    rw [hfe] at hf
    simp only [VR] at hf
    obtain ⟨xs, ys, hf, h4, h5⟩ := hf
    have e : (xs ++ args.toList.map a.eval ++ ys).toArray = xs.toArray ++ args.map a.eval ++ ys.toArray := by
      apply Array.ext'
      simp
    have hall := (h4.append hargs).append h5
    rcases hc with ⟨cvs, r, h1, h2, h3⟩ | ⟨hq, hcs⟩ | ⟨ds, r, res, os, n1, n2, n3, n4, n5, n6⟩
    · refine ⟨g, _, exec_value ho hf h2.1, ?_⟩
      have h6 := args_sound h h1 hall
      have h7 := h2.2 w _ ⟨h6, h.globNow⟩
      rw [e] at h7
      refine Calls.mono h7 (fun e w'' he => ?_)
      obtain ⟨v, bs, rfl, q1, q2, q3, q4⟩ := he
      obtain ⟨ν', hh⟩ := h.adopt q1 hd q2 q3 q4
      exact ⟨v, rfl, fun _ => q1, _, ν', h3, hh⟩
    · obtain ⟨h1, h2⟩ := calls_sound h hd hcs hall
      refine ⟨g, _, exec_value ho hf h1, ?_⟩
      rw [e] at h2
      refine Calls.mono h2 (fun e w'' he => ?_)
      obtain ⟨v, rfl, σ', ν', q1, q2⟩ := he
      exact ⟨v, rfl, (fun e => by rw [hq] at e; cases e), σ', ν', q1, q2⟩
    · have hof := Opn.facts n3
      obtain ⟨h1, h2⟩ := callsR_sound h hd (fnsr_of_fnd n1 n3) (argsS_data n2) (fun _ => ⟨hof.2.2.2.1, hof.1⟩) trivial n4 n5 n6 hall
      refine ⟨g, _, exec_value ho hf h1, ?_⟩
      rw [e] at h2
      refine Calls.mono h2 (fun e w'' he => ?_)
      obtain ⟨v, rfl, hR, σ', ν', q1, q2⟩ := he
      exact ⟨v, rfl, fun _ => hR, σ', ν', q1, q2⟩
  · rename_i dom hh hfe
    obtain ⟨ds, h1, h2, h3⟩ := hc
    rw [hfe] at hf
    simp only [VR] at hf
    obtain ⟨g, first, cap, hf, hg, hcalls⟩ := hf
    refine ⟨g, _, exec_value ho hf hg, ?_⟩
    obtain ⟨bs, h4⟩ := mapD_sound h 4 h1 hargs
    have h7 := hcalls w ds _ bs ⟨h.below, h.globNow⟩ h2 h4 h4.lt
    have e : (args.toList.map a.eval).toArray = args.map a.eval := by
      apply Array.ext'
      simp
    rw [e] at h7
    refine Calls.mono h7 (fun e w'' he => ?_)
    obtain ⟨v, bs, rfl, q1, q2, q3, q4⟩ := he
    obtain ⟨ν', hh⟩ := h.adopt q1 hd q2 q3 q4
    exact ⟨v, rfl, fun _ => q1, _, ν', h3, hh⟩
  · exact hc.elim

end

def pureKind : Op → Bool
  | .move _ | .assign _ | .pick _ _ _ | .load _ _ | .fieldAddr _ _ _ | .indexAddr _ _ _ | .index _ _ _ | .field _ _ _ | .extract _ _ | .binOp _ _ _ _ _ | .unOp _ _ _ | .convert _ _ _ | .slice _ _ _ _ _ | .makeFunc _ _ _ | .nilCheck _ | .build _ _ | .lookup _ _ _ _ | .entry _ => true
  | .call ⟨.builtin .len, _, _⟩ | .call ⟨.builtin .min, _, _⟩ | .call ⟨.builtin .max, _, _⟩ => true
  | _ => false

def quietKind : Op → Bool
  | .call ⟨.value _, _, _⟩ => true
  | op => pureKind op || growKind op

def Step (P : Program) (q : Bool) (ops : List Oper) (o : Oper) (σ : St) (K : St → Prop) : Prop :=
  match o.guard with
  | none => opOk P q o σ K
  | some (j, want) => match guardOf ops σ j with
    | .d (.v (.bool c)) => if c = want then opOk P q o σ K else K (σ.puto o.dst (.d (.v undef)))
    | .d (.v (.tuple _)) => K (σ.puto o.dst (.d (.v undef)))
    | _ => False

section
variable {P : Program} {w0 : Env} {w w' : World} {σ : St} {ν : Loc} {a : Act} {q : Bool} {ops : List Oper}

theorem run_cons {o : Oper} {l : List Oper} {K : St → Prop} : Run P q ops (o :: l) σ K = Step P q ops o σ (fun σ' => Run P q ops l σ' K) := by
  unfold Step
  rw [Run]
  rfl

theorem act_not_pure {dst : Option Nat} {op : Op} {x : Prop × St} (h : actOp P σ dst op = some x) : pureKind op = false := by
  cases op with
  | call c =>
    obtain ⟨callee, args, ts⟩ := c
    cases callee with
    | builtin b => cases b <;> first | rfl | simp [actOp] at h
    | value f => simp [actOp] at h
    | invoke r n => rfl
  | _ => first | rfl | simp [actOp] at h

theorem pure_not_act {dst : Option Nat} {op : Op} (h : pureKind op = true) : actOp P σ dst op = none := by
  cases hx : actOp P σ dst op with
  | none => rfl
  | some x =>
    have := act_not_pure hx
    rw [h] at this
    cases this

theorem act_quiet {dst : Option Nat} {op : Op} {x : Prop × St} (h : actOp P σ dst op = some x) (hq : quietKind op = true) : growKind op = true := by
  have hp := act_not_pure h
  cases op with
  | call c =>
    obtain ⟨callee, args, ts⟩ := c
    cases callee with
    | value f => simp [actOp] at h
    | _ => simpa [quietKind, hp] using hq
  | _ => simpa [quietKind, hp] using hq

def asB : Value → Option Bool
  | .bool c => some c
  | _ => none

theorem guard_sound (h : Sim P w0 σ ν a w) {j : Nat} {x : Value} (hg : guardOf ops σ j = .d (.v x)) : yielded ops.toArray a.tmps j = asB x ∨ (∃ vs, x = .tuple vs ∧ yielded ops.toArray a.tmps j = none) := by
  unfold guardOf at hg
  split at hg
  · rename_i oj hoj
    split at hg
    · rename_i t ht
      have hs := h.slots t
      rw [hg] at hs
      have hv := hs.val
      unfold yielded
      have : (ops.toArray[j]?).bind (·.dst) = some t := by simp [hoj, ht]
      rw [this]
      simp only [Option.bind_some]
      by_cases hlt : t < a.tmps.size
      · left
        have e : a.tmps[t]? = some x := by
          rw [Array.getElem?_eq_getElem hlt]
          rw [← hv]
          simp [Array.getD, hlt]
        rw [e]
        cases x <;> rfl
      · have e : a.tmps[t]? = none := Array.getElem?_eq_none (Nat.le_of_not_lt hlt)
        rw [e]
        right
        have : x = undef := by
          rw [← hv]
          simp [Array.getD, hlt]
        exact ⟨_, this, rfl⟩
    · cases hg
  · cases hg

theorem put_size {dst : Option Nat} {v : Value} : (a.put dst v).tmps.size = a.tmps.size := by
  cases dst <;> simp [Act.put]

theorem next_sound (h : Sim P w0 σ ν a w) {o : Oper} {x : Operand} {str : Bool} (ho : o.op = .next x str) (hd : ∀ t, o.dst = some t → t < σ.n) {K : St → Prop} (hn : NextOk σ o.dst (σ.ev x) str K) :
    ∃ v w', (execOp a.eval o).run P w = .ok (.value v) w' ∧ ∃ σ' ν', K σ' ∧ Sim P w0 σ' ν' (a.put o.dst v) w' := by
  unfold NextOk at hn
  split at hn
  · rename_i s hx
    split at hn
    · rename_i t n seen hs
      split at hn
      · rename_i kvs ht
        obtain ⟨rfl, rfl, h1, h2⟩ := hn
        have e1 := h.ev x
        rw [hx] at e1
        obtain ⟨b, bm, c, T, g1, g2, g3, g4, g5, g6, g7⟩ := h.iterAt hs ht e1
        have hent : ∀ e ∈ entsV 0 kvs, ∃ i, i < kvs.length ∧ e.born = i := fun e he => by
          have : e.born ∈ (entsV 0 kvs).map (·.born) := List.mem_map.2 ⟨e, he, rfl⟩
          rw [entsV_born, List.mem_range'_1] at this
          exact ⟨e.born, by omega, rfl⟩
        have hcont : ∀ i, (seen.reverse.toArray.contains i) = true ↔ i ∈ seen := fun i => by simp
        rcases run_next_at (P := P) w o.type b bm kvs.length kvs.length seen.reverse.toArray (entsV 0 kvs).toArray kvs.length g3 g4 (fun e he => by obtain ⟨i, hi, rfl⟩ := hent e he; exact hi) (Nat.le_refl _) with ⟨q1, q2⟩ | ⟨e, he, w1, hw1, q2⟩
        · refine ⟨.tuple #[.bool false], w, by simp only [execOp, ho, g2, Sem.run_bind, q2, Result.andThen_ok, Sem.run_pure], _, ν, h2 (fun i hi => ?_), Sim.puto h hd ?_⟩
          · have := all_seen _ _ q1
            have hg : (entsV 0 kvs)[i]? = some { key := keyV kvs[i].1, val := kvs[i].2, born := i } := by
              rw [entsV_get, List.getElem?_eq_getElem hi]
              simp
            exact (hcont i).1 (this _ (List.mem_of_getElem? hg))
          · simp only [VR, RD, RDs]
            exact ⟨[], ⟨_, rfl, _, _, [], [], rfl, rfl, ⟨rfl, rfl⟩, rfl, rfl⟩, by simp⟩
        · obtain ⟨m1, m2⟩ := mem_left he
          obtain ⟨i, hi, hb⟩ := hent e m1
          have hni : i ∉ seen := fun hm => by
            rw [← hb] at hm
            have := (hcont e.born).2 hm
            rw [this] at m2
            cases m2
          have hheap : w1.heap = w.heap := by rcases hw1 with rfl | rfl <;> rfl
          obtain ⟨r1, r2⟩ := MapKept.heap_set (o' := Obj.mapIter (some bm) kvs.length (seen.reverse.toArray.push e.born) kvs.length) (hheap ▸ g3)
          have hsim : Sim P w0 { σ with ob := putO σ.ob s (.it t kvs.length (i :: seen)) } ν a (ChangeMaps.setBlock w1 b (.mapIter (some bm) kvs.length (seen.reverse.toArray.push e.born) kvs.length)) := by
            refine h.turn hs (o' := .it t kvs.length (i :: seen)) (by simp) g1 (by simp [ChangeMaps.setBlock, hheap]) (by rcases hw1 with rfl | rfl <;> rfl) (by rcases hw1 with rfl | rfl <;> rfl) (by rcases hw1 with rfl | rfl <;> rfl)
              (fun k hk => (r2 k hk).trans (by rw [hheap])) (fun c T e => by rw [g3] at e; cases e) rfl (fun hlat hf hB => .inr ⟨b, 0, c, T, [.map (some bm)], g1, hB, ?_, ?_, (fun x hx => by simp at hx; subst hx; rfl), VRs.later hlat g7 (fun t' _ => hf t')⟩)
            · refine r1.trans ?_
              simp only [objOf, g5, mapRef, List.reverse_cons, hb]
              simp
            · intro j hj
              simp only [List.length_cons, List.length_nil] at hj
              obtain rfl : j = 0 := by omega
              exact g5
          refine ⟨.tuple #[.bool true, e.key, e.val], _, by simp only [execOp, ho, g2, Sem.run_bind, q2, Result.andThen_ok, Sem.run_pure], _, ν, h1 i hi hni, Sim.puto hsim hd ?_⟩
          have hun : ∀ (w2 : World) (ob2 : List (Nat × OB)) (y : Value), VR P w0 w2 ob2 ν .un y := fun _ _ _ => by simp only [VR]
          rw [VR]
          refine ⟨[.bool true, e.key, e.val], rfl, ?_⟩
          rw [VRs]
          refine ⟨_, _, rfl, VR.mk _, ?_⟩
          rw [VRs]
          refine ⟨_, _, rfl, hun _ _ _, ?_⟩
          rw [VRs]
          refine ⟨_, _, rfl, hun _ _ _, ?_⟩
          rw [VRs]
      · exact hn.elim
    · exact hn.elim
  · exact hn.elim

theorem op_sound (h : Sim P w0 σ ν a w) {o : Oper} (hd : ∀ t, o.dst = some t → t < σ.n) {K : St → Prop} (hs : opOk P q o σ K) {Q : Exit → Act → World → Prop} :
    o.wp P a w (fun a' w' => a'.tmps.size = a.tmps.size ∧ (q = true → quietKind o.op = true → Below w.heap.size w w') ∧ ∃ σ' ν', K σ' ∧ Sim P w0 σ' ν' a' w') Q := by
  have hstep : (match stepOp P σ o.dst o.op with | some (p, σ') => p ∧ K σ' | none => False) → o.wp P a w (fun a' w' => a'.tmps.size = a.tmps.size ∧ (q = true → quietKind o.op = true → Below w.heap.size w w') ∧ ∃ σ' ν', K σ' ∧ Sim P w0 σ' ν' a' w') Q := fun hs => by
    unfold stepOp at hs
    cases hact : actOp P σ o.dst o.op with
    | some x =>
      obtain ⟨p, σ'⟩ := x
      rw [hact] at hs
      obtain ⟨hp, hK⟩ := hs
      obtain ⟨r, w', ν', h1, h2, hb⟩ := act_sound h hact hp hd
      have hq := fun e => hb (act_quiet hact e)
      unfold Oper.wp
      rw [h1]
      rcases h2 with ⟨v, rfl, h3⟩ | ⟨rfl, h3⟩
      · exact ⟨put_size, (fun _ e => hq e), σ', ν', hK, h3⟩
      · exact ⟨put_size, (fun _ e => hq e), σ', ν', hK, h3⟩
    | none =>
      rw [hact] at hs
      simp only at hs
      cases hpure : pureOp P σ o.op with
      | none => rw [hpure] at hs; exact hs.elim
      | some x =>
        obtain ⟨p, r⟩ := x
        rw [hpure] at hs
        obtain ⟨hp, hK⟩ := hs
        obtain ⟨v, h1, h2⟩ := pure_sound h hpure hp
        unfold Oper.wp
        rw [h1.here]
        exact ⟨put_size, fun _ _ => Below.refl _ _, _, ν, hK, Sim.puto h hd h2⟩
  unfold opOk at hs
  split at hs
  · rename_i f args ts hop
    obtain ⟨g, vs, h1, h2⟩ := call_sound h hop hd hs
    unfold Oper.wp
    rw [h1, Oper.upon_enter]
    refine Calls.mono h2 (fun e w'' he => ?_)
    obtain ⟨r, rfl, h3, σ', ν', h4, h5⟩ := he
    exact ⟨put_size, fun e _ => h3 e, σ', ν', h4, h5⟩
  · rename_i x str hop
    obtain ⟨v, w', h1, σ', ν', h2, h3⟩ := next_sound h hop hd hs
    unfold Oper.wp
    rw [h1]
    exact ⟨put_size, (fun _ e => by rw [hop] at e; cases e), σ', ν', h2, h3⟩
  · exact hstep hs

theorem step_sound (h : Sim P w0 σ ν a w) {o : Oper} (hd : ∀ t, o.dst = some t → t < σ.n) {K : St → Prop} (hs : Step P q ops o σ K) {Q : Exit → Act → World → Prop} :
    if Region.wanted o (yielded ops.toArray a.tmps) then o.wp P a w (fun a' w' => a'.tmps.size = a.tmps.size ∧ (q = true → quietKind o.op = true → Below w.heap.size w w') ∧ ∃ σ' ν', K σ' ∧ Sim P w0 σ' ν' a' w') Q
    else ∃ σ' ν', K σ' ∧ Sim P w0 σ' ν' (a.put o.dst undef) w := by
  have hskip : K (σ.puto o.dst (.d (.v undef))) → ∃ σ' ν', K σ' ∧ Sim P w0 σ' ν' (a.put o.dst undef) w := fun hK => ⟨_, ν, hK, Sim.puto h hd (VR.mk _)⟩
  unfold Step at hs
  split at hs
  · rename_i hg
    rw [if_pos (by simp [Region.wanted, hg])]
    exact op_sound h hd hs
  · rename_i j want hg
    split at hs
    · rename_i c hgo
      have hy := guard_sound h hgo
      have hy : yielded ops.toArray a.tmps j = some c := by
        rcases hy with hy | ⟨vs, hy, _⟩
        · exact hy
        · cases hy
      split at hs
      · rename_i hc
        subst hc
        rw [if_pos (by simp [Region.wanted, hg, hy])]
        exact op_sound h hd hs
      · rename_i hc
        rw [if_neg (by simp [Region.wanted, hg, hy, hc])]
        exact hskip hs
    · rename_i vs hgo
      have hy : yielded ops.toArray a.tmps j = none := by
        rcases guard_sound h hgo with hy | ⟨_, _, hy⟩
        · exact hy
        · exact hy
      rw [if_neg (by simp [Region.wanted, hg, hy])]
      exact hskip hs
    · exact hs.elim

theorem step_pure (h : Sim P w0 σ ν a w) {o : Oper} (hk : pureKind o.op = true) (hd : ∀ t, o.dst = some t → t < σ.n) {K : St → Prop} (hs : Step P q ops o σ K) :
    ∃ v σ', YieldsIf P ops.toArray (Below w.heap.size w) o v a ∧ K σ' ∧ Sim P w0 σ' ν (a.put o.dst v) w := by
  have hskip : K (σ.puto o.dst (.d (.v undef))) → Region.wanted o (yielded ops.toArray a.tmps) = false → ∃ v σ', YieldsIf P ops.toArray (Below w.heap.size w) o v a ∧ K σ' ∧ Sim P w0 σ' ν (a.put o.dst v) w := fun hK hw =>
    ⟨undef, _, .inr ⟨hw, rfl⟩, hK, Sim.puto h hd (VR.mk _)⟩
  have hgo : opOk P q o σ K → Region.wanted o (yielded ops.toArray a.tmps) = true → ∃ v σ', YieldsIf P ops.toArray (Below w.heap.size w) o v a ∧ K σ' ∧ Sim P w0 σ' ν (a.put o.dst v) w := fun hs hw => by
    have hs2 : (match stepOp P σ o.dst o.op with | some (p, σ') => p ∧ K σ' | none => False) := by
      unfold opOk at hs
      split at hs
      · rename_i f args ts hop
        rw [hop] at hk
        simp [pureKind] at hk
      · rename_i x str hop
        rw [hop] at hk
        simp [pureKind] at hk
      · exact hs
    unfold stepOp at hs2
    rw [pure_not_act hk] at hs2
    simp only at hs2
    cases hpure : pureOp P σ o.op with
    | none => rw [hpure] at hs2; exact hs2.elim
    | some x =>
      obtain ⟨p, r⟩ := x
      rw [hpure] at hs2
      obtain ⟨hp, hK⟩ := hs2
      obtain ⟨v, h1, h2⟩ := pure_sound h hpure hp
      exact ⟨v, _, .inl ⟨hw, fun w' hw' => h1 w' hw'⟩, hK, Sim.puto h hd h2⟩
  unfold Step at hs
  split at hs
  · rename_i hg
    exact hgo hs (by simp [Region.wanted, hg])
  · rename_i j want hg
    split at hs
    · rename_i c hgo2
      have hy := guard_sound h hgo2
      have hy : yielded ops.toArray a.tmps j = some c := by
        rcases hy with hy | ⟨vs, hy, _⟩
        · exact hy
        · cases hy
      split at hs
      · rename_i hc
        subst hc
        exact hgo hs (by simp [Region.wanted, hg, hy])
      · rename_i hc
        exact hskip hs (by simp [Region.wanted, hg, hy, hc])
    · rename_i vs hgo2
      have hy : yielded ops.toArray a.tmps j = none := by
        rcases guard_sound h hgo2 with hy | ⟨_, _, hy⟩
        · exact hy
        · exact hy
      exact hskip hs (by simp [Region.wanted, hg, hy])
    · exact hs.elim

theorem run_sound {Q : Exit → Act → World → Prop} {K : St → Prop} (hK : ∀ σ ν a w, K σ → Sim P w0 σ ν a w → Q .normal a w) (n : Nat) :
    ∀ (l : List Oper) (σ : St) (ν : Loc) (a : Act) (w : World), (∀ o ∈ l, ∀ t, o.dst = some t → t < n) → a.tmps.size = n → Sim P w0 σ ν a w → Run P q ops l σ K → wpList P ops.toArray Q l a w
  | [], σ, ν, a, w, _, _, h, hr => hK σ ν a w hr h
  | o :: l, σ, ν, a, w, hd, hn, h, hr => by
    rw [run_cons] at hr
    have hs := step_sound h (fun t ht => by rw [← h.size, hn]; exact hd o (by simp) t ht) hr (Q := Q)
    unfold wpList
    by_cases hw : Region.wanted o (yielded ops.toArray a.tmps) = true
    · rw [if_pos hw] at hs ⊢
      refine .inl (Oper.wp_mono (fun a' w' hh => ?_) hs)
      obtain ⟨hsz, _, σ', ν', h1, h2⟩ := hh
      exact run_sound hK n l σ' ν' a' w' (fun o ho => hd o (by simp [ho])) (hsz.trans hn) h2 h1
    · rw [if_neg hw] at hs ⊢
      obtain ⟨σ', ν', h1, h2⟩ := hs
      exact run_sound hK n l σ' ν' _ w (fun o ho => hd o (by simp [ho])) (by rw [← hn]; cases o.dst <;> simp [Act.put]) h2 h1

end

def dstsB (l : List Oper) (n : Nat) : Bool := l.all fun o => match o.dst with | some t => decide (t < n) | none => true

def Kx (K : St → Prop) (Q : Exit → St → Prop) : Exit → St → Prop
  | .normal, σ => K σ
  | e, σ => Q e σ

def inB (id : Nat) (Q : Exit → St → Prop) : Exit → St → Prop
  | .exit id', σ => if id' = id then Q .normal σ else Q (.exit id') σ
  | e, σ => Q e σ

def Less (σ τ : St) : Prop := σ.n = τ.n ∧ SubS σ.sl τ.sl ∧ SubO σ.ob τ.ob

section
variable {P : Program} {w0 : Env} {w w' : World} {σ : St} {ν : Loc} {a : Act} {Q : Exit → St → Prop}

theorem dsts_spec {l : List Oper} {n : Nat} (h : dstsB l n = true) : ∀ o ∈ l, ∀ t, o.dst = some t → t < n := fun o ho t ht => by
  have := List.all_eq_true.1 h o ho
  rw [ht] at this
  simpa using this

theorem Sim.less (h : Sim P w0 σ ν a w) {τ : St} (hl : Less σ τ) : Sim P w0 τ ν a w := by
  obtain ⟨h1, h2, h3⟩ := hl
  have ho := subO_look h3
  have hav : ∀ b, AvoidB σ.ob ν b → AvoidB τ.ob ν b := fun b hb s o hs => hb s o (ho s o hs)
  have hlat : Later σ.ob ν w τ.ob ν w := ⟨Nat.le_refl _, fun b _ hb => ⟨hav b hb, rfl⟩, fun b c T hb => ⟨c, T, hb, rfl⟩⟩
  have hfit : ∀ s, Fits σ.ob ν τ.ob ν s := fun s hs => by
    obtain ⟨o, hso⟩ := Option.isSome_iff_exists.1 hs
    have := ho s o hso
    exact ⟨by rw [this]; rfl, rfl, fun o1 o2 e1 e2 => by rw [ho s o2 e2] at e1; cases e1; rfl⟩
  refine ⟨⟨fun s o hs => ?_, fun s s' o o' x x' hne e1 e2 => h.inj s s' o o' x x' hne (ho s o e1) (ho s' o' e2)⟩, h.below, h.rows, h.lt, h.fresh, h1 ▸ h.le, h.glob, h.stab, h.defers, h.size.trans h1, fun t => ?_⟩
  rotate_left 1
  · rcases subS_look h2 t with e | e
    · rw [e]; simp only [VR]
    · rw [e]; exact VR.later hlat (h.slots t) (fun s _ => hfit s)
  · rcases h.objs s o (ho s o hs) with e | ⟨b, base, c, T, xs, e1, e2, e3, e4, e5, e6⟩
    · exact .inl e
    · exact .inr ⟨b, base, c, T, xs, e1, e2, e3, e4, e5, VRs.later hlat e6 (fun s _ => hfit s)⟩

theorem aw_mono {c : Code} {Q' : Exit → St → Prop} (hq : ∀ e σ, Q e σ → Q' e σ) (h : AW P c Q σ) : AW P c Q' σ := fun w0 ν a w hs =>
  Code.wp_mono (fun e _ _ ⟨σ', ν', q, s⟩ => ⟨σ', ν', hq e σ' q, s⟩) (h w0 ν a w hs)

theorem aw_skip (h : Q .normal σ) : AW P .skip Q σ := fun _ ν _ _ hs => wp_skip ⟨σ, ν, h, hs⟩

theorem aw_ret (h : Q .ret σ) : AW P .ret Q σ := fun _ ν _ _ hs => wp_ret ⟨σ, ν, h, hs⟩

theorem aw_exit {id : Nat} (h : Q (.exit id) σ) : AW P (.exit id) Q σ := fun _ ν _ _ hs => wp_exit ⟨σ, ν, h, hs⟩

theorem aw_seq {x y : Code} (h : ∀ K : St → Prop, (∀ σ', AW P y Q σ' → K σ') → AW P x (Kx K Q) σ) : AW P (.seq x y) Q σ := fun w0 ν a w hs => by
  refine wp_seq (Code.wp_mono (fun e a' w' hh => ?_) (h (AW P y Q) (fun _ h => h) w0 ν a w hs))
  obtain ⟨σ', ν', q, s⟩ := hh
  cases e with
  | normal => exact q w0 ν' a' w' s
  | _ => exact ⟨σ', ν', q, s⟩

theorem aw_block {id : Nat} {c : Code} (h : AW P c (inB id Q) σ) : AW P (.block id c) Q σ := fun w0 ν a w hs => by
  refine wp_block (Code.wp_mono (fun e a' w' hh => ?_) (h w0 ν a w hs))
  obtain ⟨σ', ν', q, s⟩ := hh
  cases e with
  | exit id' =>
    simp only [Exit.inBlock]
    simp only [inB] at q
    split
    · rename_i e; rw [if_pos e] at q; exact ⟨σ', ν', q, s⟩
    · rename_i e; rw [if_neg e] at q; exact ⟨σ', ν', q, s⟩
  | _ => exact ⟨σ', ν', q, s⟩

theorem aw_cond {c : Operand} {x y : Code} {t : Bool} (hc : σ.ev c = .d (.v (.bool t))) (ht : t = true → AW P x Q σ) (hf : t = false → AW P y Q σ) : AW P (.cond c x y) Q σ := fun w0 ν a w hs => by
  have h1 := hs.ev c
  rw [hc] at h1
  exact wp_cond_split h1.val (fun e => ht e w0 ν a w hs) (fun e => hf e w0 ν a w hs)

theorem aw_region {id : Nat} {l : List Oper} (hd : dstsB l σ.n = true) (h : Run P false l l σ (Q .normal)) : AW P (.region id l.toArray false) Q σ := fun _ ν a w hs =>
  wp_region_lit (run_sound (K := Q .normal) (fun σ' ν' _ _ hk hs' => ⟨σ', ν', hk, hs'⟩) σ.n l σ ν a w (dsts_spec hd) hs.size hs h)

end

def ownL (f : AV → Option (Prop × D × List Nat)) : List AV → Option (Prop × List D × List Nat)
  | [] => some (True, [], [])
  | x :: xs => match f x, ownL f xs with
    | some (p, d, ss), some (q, ds, ss') => some (p ∧ q, d :: ds, ss ++ ss')
    | _, _ => none

def own (ob : List (Nat × OB)) : Nat → AV → Option (Prop × D × List Nat)
  | _, .d x => some (x.plain, x, [])
  | n + 1, .bs s off m k => match lookO ob s with
    | some (.ds cs) => some (plains ((cs.drop off).take (m * k)), .ls k m ((cs.drop off).take (m * k)), [s])
    | some (.av cs) => match ownL (own ob n) ((cs.drop off).take (m * k)) with
      | some (p, ds, ss) => some (p, .ls k m ds, s :: ss)
      | none => none
    | _ => none
  | n + 1, .ag cs => match ownL (own ob n) cs with
    | some (p, ds, ss) => some (p, .ag ds, ss)
    | none => none
  | n + 1, .tu cs => match ownL (own ob n) cs with
    | some (p, ds, ss) => some (p, .tu ds, ss)
    | none => none
  | _, _ => none

def argAV : CV → AV
  | .d x => .d x
  | .fn dom h => .fn dom h

def slotsOf : Nat → List CV → List (Nat × AV)
  | _, [] => []
  | i, c :: cs => (i, argAV c) :: slotsOf (i + 1) cs

def resAV (P : Program) (σ : St) : ResultVar → Option (Prop × AV)
  | .tmp t => some (True, look σ.sl t)
  | .cell t ty => pureOp P σ (.load ty (.tmp t))

def joinR : List AV → AV
  | [x] => x
  | xs => .tu xs

def resAVs (P : Program) (σ : St) : List ResultVar → Option (Prop × List AV)
  | [] => some (True, [])
  | r :: rs => match resAV P σ r, resAVs P σ rs with
    | some (p, x), some (q, xs) => some (p ∧ q, x :: xs)
    | _, _ => none

def ResOk (P : Program) (rs : List ResultVar) (σ : St) (res : D) : Prop :=
  rs.length ≤ 4 ∧ match resAVs P σ rs with
    | some (p, xs) => p ∧ ∃ q ss, own σ.ob 20 (joinR xs) = some (q, res, ss) ∧ q ∧ ss.Nodup
    | none => False

section
variable {P : Program} {w0 : Env} {w w' : World} {σ : St} {ν : Loc} {a : Act}

def InObs (ob : List (Nat × OB)) (ν : Loc) (ss bs : List Nat) : Prop := bs.Nodup ∧ ∀ b ∈ bs, ∃ s ∈ ss, (lookO ob s).isSome = true ∧ ∃ base, ν s = some (b, base)

theorem InObs.nil {ob : List (Nat × OB)} {ss : List Nat} : InObs ob ν ss [] := ⟨List.nodup_nil, by simp⟩

theorem InObs.append (h : Sim P w0 σ ν a w) {s1 s2 b1 b2 : List Nat} (h1 : InObs σ.ob ν s1 b1) (h2 : InObs σ.ob ν s2 b2) (hn : (s1 ++ s2).Nodup) : InObs σ.ob ν (s1 ++ s2) (b1 ++ b2) := by
  refine ⟨List.nodup_append.2 ⟨h1.1, h2.1, fun x hx y hy e => ?_⟩, fun b hb => ?_⟩
  · subst e
    obtain ⟨s, e1, e2, base, e3⟩ := h1.2 x hx
    obtain ⟨s', f1, f2, base', f3⟩ := h2.2 x hy
    obtain ⟨o, e2⟩ := Option.isSome_iff_exists.1 e2
    obtain ⟨o', f2⟩ := Option.isSome_iff_exists.1 f2
    exact h.inj s s' o o' _ _ ((List.nodup_append.1 hn).2.2 s e1 s' f1) e2 f2 e3 f3 rfl
  · rcases List.mem_append.1 hb with hb | hb
    · obtain ⟨s, e1, e2⟩ := h1.2 b hb
      exact ⟨s, List.mem_append_left _ e1, e2⟩
    · obtain ⟨s, e1, e2⟩ := h2.2 b hb
      exact ⟨s, List.mem_append_right _ e1, e2⟩

theorem own_slice (h : Sim P w0 σ ν a w) {s off m k : Nat} {o : OB} {y : Value} {ds : List D} {ss : List Nat} (ho : lookO σ.ob s = some o) (hrow : o.row = true) (hv : VR P w0 w σ.ob ν (.bs s off m k) y) (hn : (s :: ss).Nodup)
    (hds : ∀ ys, VRs P w0 w σ.ob ν (((obCells o).drop off).take (m * k)) ys → ∃ bs, RDs w true ds ys bs ∧ InObs σ.ob ν ss bs) : ∃ bs, RD w true (.ls k m ds) y bs ∧ InObs σ.ob ν (s :: ss) bs := by
  simp only [VR] at hv
  obtain ⟨hle, hv⟩ := hv (by rw [ho]; rfl)
  have hle := hle o ho
  simp only [RD]
  rcases hv with ⟨g1, rfl, rfl, rfl⟩ | ⟨b, base, cap, ad, c, T, g1, rfl, g3, g4, g5, g6⟩
  · obtain ⟨bs, hb, _⟩ := hds [] (by simp [VRs])
    have := hb.length
    exact ⟨[], .inl ⟨none, 0, by trivial, (by first | trivial | rfl | simp), by trivial, List.eq_nil_of_length_eq_zero (by simpa using this.symm), rfl⟩, .nil⟩
  · obtain ⟨xs, r1, r2, r3⟩ := (h.objs s o ho).read hrow g1
    have hl := r3.length
    obtain ⟨bs, hb, hin⟩ := hds _ ((r3.drop off).take (m * k))
    have hbl := hb.length
    have hall : InObs σ.ob ν (s :: ss) (b :: bs) := InObs.append h (s1 := [s]) (b1 := [b]) ⟨by simp, fun b' hb' => by simp at hb'; exact ⟨s, by simp, by rw [ho]; rfl, base, by rw [hb', g1]⟩⟩ hin hn
    rcases g4 with ⟨g4, x0, hx0, rfl⟩ | rfl
    · have hm : m = 0 := by omega
      subst hm
      have hds0 : ds = [] := List.eq_nil_of_length_eq_zero (by simpa using hbl.symm)
      subst hds0
      simp only [List.length_nil, RDs] at hb hbl
      obtain ⟨_, rfl⟩ := hb
      exact ⟨[b], .inr ⟨b, x0, cap, [], [], rfl, rfl, by simp, by omega, ⟨(fun x hx => by cases hx), c, T, (0, 0), g5, (fun i hi => by simp at hi), fun _ => ⟨rfl, by subst g4; simpa using hx0⟩⟩, by simp [RDs]⟩, hall⟩
    · refine ⟨b :: bs, .inr ⟨b, base + off, cap, (xs.drop off).take (m * k), bs, rfl, rfl, by simp at hbl; omega, g3, ⟨(r2.drop _).take _, c, T, (0, 0), g5, fun i hi => ?_, fun _ => ⟨rfl, g6⟩⟩, hb⟩, hall⟩
      simp only [List.length_take, List.length_drop] at hi
      have := r1 (off + i) (by omega)
      rw [cell_row g5] at this
      rw [Nat.add_assoc, this, List.getElem?_take, if_pos (by omega), List.getElem?_drop]

theorem ownL_sound (h : Sim P w0 σ ν a w) {f : AV → Option (Prop × D × List Nat)} (hf : ∀ {x : AV} {p : Prop} {d : D} {ss : List Nat} {y : Value}, f x = some (p, d, ss) → p → ss.Nodup → VR P w0 w σ.ob ν x y → ∃ bs, RD w true d y bs ∧ InObs σ.ob ν ss bs) : ∀ {xs : List AV} {p : Prop} {ds : List D} {ss : List Nat} {ys : List Value}, ownL f xs = some (p, ds, ss) → p → ss.Nodup → VRs P w0 w σ.ob ν xs ys → ∃ bs, RDs w true ds ys bs ∧ InObs σ.ob ν ss bs
  | [], p, ds, ss, ys, ho, hp, hn, hv => by
    have : (True, ([] : List D), ([] : List Nat)) = (p, ds, ss) := by simpa [ownL] using ho
    cases this
    simp only [VRs] at hv
    exact ⟨[], by simp [RDs, hv], .nil⟩
  | x :: xs, p, ds, ss, ys, ho, hp, hn, hv => by
    simp only [ownL] at ho
    split at ho
    · rename_i p1 d1 s1 p2 d2 s2 h1 h2
      cases ho
      simp only [VRs] at hv
      obtain ⟨y, ys', rfl, h3, h4⟩ := hv
      have hn' := List.nodup_append.1 hn
      obtain ⟨b1, h5, h6⟩ := hf h1 hp.1 hn'.1 h3
      obtain ⟨b2, h7, h8⟩ := ownL_sound h hf h2 hp.2 hn'.2.1 h4
      exact ⟨b1 ++ b2, by simp only [RDs]; exact ⟨y, ys', b1, b2, rfl, rfl, h5, h7⟩, InObs.append h h6 h8 hn⟩
    · cases ho

theorem own_sound (h : Sim P w0 σ ν a w) : ∀ (n : Nat) {x : AV} {p : Prop} {d : D} {ss : List Nat} {y : Value}, own σ.ob n x = some (p, d, ss) → p → ss.Nodup → VR P w0 w σ.ob ν x y → ∃ bs, RD w true d y bs ∧ InObs σ.ob ν ss bs
  | n, .d x, p, d, ss, y, ho, hp, hn, hv => by
    have : (x.plain, x, ([] : List Nat)) = (p, d, ss) := by cases n <;> simpa [own] using ho
    cases this
    simp only [VR] at hv
    obtain ⟨bs, h1, _⟩ := hv
    exact ⟨[], (RD.plain h1 hp).2, .nil⟩
  | n + 1, .bs s off m k, p, d, ss, y, ho, hp, hn, hv => by
    simp only [own] at ho
    split at ho
    · rename_i cs hcs
      cases ho
      refine own_slice h hcs rfl hv (by simp) (fun ys hys => ?_)
      simp only [obCells, ← List.map_drop, ← List.map_take] at hys
      obtain ⟨bs, h1, _⟩ := hys.to_rds
      exact ⟨[], (RDs.plain h1 hp).2, .nil⟩
    · rename_i cs hcs
      split at ho
      · rename_i q ds ss' hds
        cases ho
        exact own_slice h hcs rfl hv hn (fun ys hys => ownL_sound h (fun a b c d => own_sound h n a b c d) hds hp (List.nodup_cons.1 hn).2 hys)
      · cases ho
    · cases ho
  | n + 1, .ag cs, p, d, ss, y, ho, hp, hn, hv => by
    simp only [own] at ho
    split at ho
    · rename_i q ds ss' hds
      cases ho
      simp only [VR] at hv
      obtain ⟨xs, rfl, h1, h2⟩ := hv
      obtain ⟨bs, h3, h4⟩ := ownL_sound h (fun a b c d => own_sound h n a b c d) hds hp hn h2
      exact ⟨bs, by simp only [RD]; exact ⟨xs, rfl, h1, h3⟩, h4⟩
    · cases ho
  | n + 1, .tu cs, p, d, ss, y, ho, hp, hn, hv => by
    simp only [own] at ho
    split at ho
    · rename_i q ds ss' hds
      cases ho
      simp only [VR] at hv
      obtain ⟨xs, rfl, h2⟩ := hv
      obtain ⟨bs, h3, h4⟩ := ownL_sound h (fun a b c d => own_sound h n a b c d) hds hp hn h2
      exact ⟨bs, by simp only [RD]; exact ⟨xs, rfl, h3⟩, h4⟩
    · cases ho
  | n + 1, .bp _ _, _, _, _, _, ho, _, _, _ => by simp [own] at ho
  | n + 1, .fn _ _, _, _, _, _, ho, _, _, _ => by simp [own] at ho
  | n + 1, .fc _ _ _, _, _, _, _, ho, _, _, _ => by simp [own] at ho
  | n + 1, .un, _, _, _, _, ho, _, _, _ => by simp [own] at ho
  | n + 1, .rf _ _, _, _, _, _, ho, _, _, _ => by simp [own] at ho
  | 0, .rf _ _, _, _, _, _, ho, _, _, _ => by simp [own] at ho
  | 0, .bs _ _ _ _, _, _, _, _, ho, _, _, _ => by simp [own] at ho
  | 0, .bp _ _, _, _, _, _, ho, _, _, _ => by simp [own] at ho
  | 0, .ag _, _, _, _, _, ho, _, _, _ => by simp [own] at ho
  | 0, .tu _, _, _, _, _, ho, _, _, _ => by simp [own] at ho
  | 0, .fn _ _, _, _, _, _, ho, _, _, _ => by simp [own] at ho
  | 0, .fc _ _ _, _, _, _, _, ho, _, _, _ => by simp [own] at ho
  | 0, .un, _, _, _, _, ho, _, _, _ => by simp [own] at ho
theorem InObs.own (h : Sim P w0 σ ν a w) {ss bs : List Nat} (hi : InObs σ.ob ν ss bs) : ∀ b ∈ bs, ¬ w0.S b ∧ w0.D b := fun b hb => by
  obtain ⟨s, _, h1, base, h2⟩ := hi.2 b hb
  obtain ⟨o, ho⟩ := Option.isSome_iff_exists.1 h1
  rcases h.objs s o ho with ⟨r1, _⟩ | ⟨b', base', c, T, xs, r1, r2, _⟩
  · rw [r1] at h2; cases h2
  · rw [r1] at h2; cases h2; exact r2

def resRun (tmps : Array Value) : ResultVar → Sem Value
  | .tmp t => pure (tmps.getD t undef)
  | .cell t ty => do loadVar ty (← asAddr (tmps.getD t undef))

theorem results_eq (fn : Func) (tmps : Array Value) : results fn tmps = (do
    let vs ← fn.results.mapM (resRun tmps)
    pure (if h : vs.size = 1 then vs[0] else .tuple vs)) := by
  unfold results
  congr 2

theorem res_one (h : Sim P w0 σ ν a w) {r : ResultVar} {p : Prop} {x : AV} (hr : resAV P σ r = some (p, x)) (hp : p) :
    ∃ v, (resRun a.tmps r).run P w = .ok v w ∧ VR P w0 w σ.ob ν x v := by
  cases r with
  | tmp t =>
    simp only [resAV, Option.some.injEq, Prod.mk.injEq] at hr
    obtain ⟨_, rfl⟩ := hr
    exact ⟨_, rfl, h.slots t⟩
  | cell t ty =>
    simp only [resAV] at hr
    obtain ⟨v, h1, h2⟩ := load_sound h hr hp
    refine ⟨v, ?_, h2⟩
    have := h1.here
    simp only [Act.eval] at this
    simp only [resRun]
    cases hx : a.tmps.getD t undef with
    | pointer ad =>
      rw [hx] at this
      cases ad with
      | none => simp [Instr.loadAt, Instr.sureAddr] at this
      | some ad => simpa [Instr.loadAt, Instr.sureAddr, asAddr] using this
    | _ => rw [hx] at this; simp [Instr.loadAt, Instr.sureAddr] at this

theorem res_vals (h : Sim P w0 σ ν a w) {fn : Func} {p : Prop} {xs : List AV} (hl : fn.results.toList.length ≤ 4) (hr : resAVs P σ fn.results.toList = some (p, xs)) (hp : p) : ∃ v, (results fn a.tmps).run P w = .ok v w ∧ VR P w0 w σ.ob ν (joinR xs) v := by
  generalize hrs : fn.results.toList = rs at hl hr
  match rs, hl, hr, hrs with
  | [], _, hr, hrs =>
    have hl' : fn.results = #[] := by apply Array.ext'; simpa using hrs
    simp only [resAVs, Option.some.injEq, Prod.mk.injEq] at hr
    obtain ⟨_, rfl⟩ := hr
    refine ⟨.tuple #[], by simp [results_eq, hl'], ?_⟩
    simp only [joinR, VR]
    exact ⟨[], rfl, by simp only [VRs]⟩
  | [r], _, hr, hrs =>
    have hl' : fn.results = #[r] := by apply Array.ext'; simpa using hrs
    simp only [resAVs] at hr
    split at hr
    · rename_i p1 x1 p2 x2 h1 h2
      cases h2
      cases hr
      obtain ⟨v, h4, h5⟩ := res_one h h1 hp.1
      exact ⟨v, by simp [results_eq, hl', h4], h5⟩
    · cases hr
  | [r1, r2], _, hr, hrs =>
    have hl' : fn.results = #[r1, r2] := by apply Array.ext'; simpa using hrs
    simp only [resAVs] at hr
    split at hr
    · rename_i p1 x1 p2 x2 h1 h2
      split at h2
      · rename_i q1 y1 q2 y2 h3 h4
        cases h4
        cases h2
        cases hr
        obtain ⟨v1, e1, e2⟩ := res_one h h1 hp.1
        obtain ⟨v2, e3, e4⟩ := res_one h h3 hp.2.1
        refine ⟨.tuple #[v1, v2], by simp [results_eq, hl', e1, e3], ?_⟩
        simp only [joinR, VR]
        exact ⟨[v1, v2], rfl, by simp only [VRs]; exact ⟨v1, [v2], rfl, e2, v2, [], rfl, e4, rfl⟩⟩
      · cases h2
    · cases hr
  | [r1, r2, r3], _, hr, hrs =>
    have hl' : fn.results = #[r1, r2, r3] := by apply Array.ext'; simpa using hrs
    simp only [resAVs] at hr
    split at hr
    · rename_i p1 x1 p2 x2 h1 h2
      split at h2
      · rename_i q1 y1 q2 y2 h3 h4
        split at h4
        · rename_i u1 z1 u2 z2 h5 h6
          cases h6
          cases h4
          cases h2
          cases hr
          obtain ⟨v1, e1, e2⟩ := res_one h h1 hp.1
          obtain ⟨v2, e3, e4⟩ := res_one h h3 hp.2.1
          obtain ⟨v3, e5, e6⟩ := res_one h h5 hp.2.2.1
          refine ⟨.tuple #[v1, v2, v3], by simp [results_eq, hl', e1, e3, e5], ?_⟩
          simp only [joinR, VR]
          exact ⟨[v1, v2, v3], rfl, by simp only [VRs]; exact ⟨v1, [v2, v3], rfl, e2, v2, [v3], rfl, e4, v3, [], rfl, e6, rfl⟩⟩
        · cases h4
      · cases h2
    · cases hr
  | [r1, r2, r3, r4], _, hr, hrs =>
    have hl' : fn.results = #[r1, r2, r3, r4] := by apply Array.ext'; simpa using hrs
    simp only [resAVs] at hr
    split at hr
    · rename_i p1 x1 p2 x2 h1 h2
      split at h2
      · rename_i q1 y1 q2 y2 h3 h4
        split at h4
        · rename_i u1 z1 u2 z2 h5 h6
          split at h6
          · rename_i s1 t1 s2 t2 h7 h8
            cases h8
            cases h6
            cases h4
            cases h2
            cases hr
            obtain ⟨v1, e1, e2⟩ := res_one h h1 hp.1
            obtain ⟨v2, e3, e4⟩ := res_one h h3 hp.2.1
            obtain ⟨v3, e5, e6⟩ := res_one h h5 hp.2.2.1
            obtain ⟨v4, e7, e8⟩ := res_one h h7 hp.2.2.2.1
            refine ⟨.tuple #[v1, v2, v3, v4], by simp [results_eq, hl', e1, e3, e5, e7], ?_⟩
            simp only [joinR, VR]
            exact ⟨[v1, v2, v3, v4], rfl, by simp only [VRs]; exact ⟨v1, [v2, v3, v4], rfl, e2, v2, [v3, v4], rfl, e4, v3, [v4], rfl, e6, v4, [], rfl, e8, rfl⟩⟩
          · cases h6
        · cases h4
      · cases h2
    · cases hr
  | _ :: _ :: _ :: _ :: _ :: _, hl, _, _ => simp at hl

theorem res_sound (h : Sim P w0 σ ν a w) {fn : Func} {res : D} (hr : ResOk P fn.results.toList σ res) : ∃ v bs, (results fn a.tmps).run P w = .ok v w ∧ RD w true res v bs ∧ bs.Nodup ∧ ∀ b ∈ bs, ¬ w0.S b ∧ w0.D b := by
  obtain ⟨hl, hr⟩ := hr
  split at hr
  · rename_i p xs hx
    obtain ⟨hp, q, ss, h1, h2, h3⟩ := hr
    obtain ⟨v, h4, h5⟩ := res_vals h hl hx hp
    obtain ⟨bs, h6, h7⟩ := own_sound h 20 h1 h2 h3 h5
    exact ⟨v, bs, h4, h6, h7.1, h7.own h⟩
  · exact hr.elim

theorem slots_sound {ν : Loc} {n : Nat} : ∀ {cs : List CV} {vs : List Value} (i t : Nat), RCs P w cs vs → VR P ⟨w, (· < w.heap.size), fun _ => True, fun _ => none, n⟩ w [] ν (look (slotsOf i cs) t) (if i ≤ t then vs.getD (t - i) undef else undef)
  | [], vs, i, t, _ => by simp only [slotsOf, look, VR]
  | c :: cs, vs, i, t, h => by
    simp only [RCs] at h
    obtain ⟨v, vs', rfl, h1, h2⟩ := h
    simp only [slotsOf, look]
    by_cases e : i = t
    · subst e
      rw [if_pos rfl, if_pos (Nat.le_refl _)]
      simp only [Nat.sub_self, List.getD_cons_zero]
      cases c with
      | d x =>
        simp only [argAV, VR]
        obtain ⟨bs, h3, h4⟩ := h1
        exact ⟨bs, h3, fun b hb => ⟨h4 b hb, fun s o ho => by simp [lookO] at ho, trivial⟩⟩
      | fn dom k =>
        simp only [argAV, VR]
        exact h1
    · rw [if_neg e]
      have := slots_sound (ν := ν) (n := n) (i + 1) t h2
      by_cases hle : i ≤ t
      · rw [if_pos hle]
        rw [if_pos (by omega)] at this
        have e2 : t - i = (t - (i + 1)) + 1 := by omega
        rw [e2, List.getD_cons_succ]
        exact this
      · rw [if_neg hle]
        rw [if_neg (by omega)] at this
        exact this

theorem RCs.length : ∀ {cs : List CV} {vs : List Value}, RCs P w cs vs → vs.length = cs.length
  | [], vs, h => by simp only [RCs] at h; simp [h]
  | c :: cs, vs, h => by
    simp only [RCs] at h
    obtain ⟨v, vs', rfl, _, h2⟩ := h
    simp [RCs.length h2]

theorem fn_of_aw {f : FuncId} {fn : Func} {c : Code} {args : List CV} {res : D} (hf : P.funcs[f]? = some fn) (hb : fn.body = some c) (hname : (fn.name == "runtime.NumGoroutine") = false) (hn : args.length ≤ fn.ntmps)
    (h : AW P c (fun e σ => (e = .ret ∨ e = .normal) ∧ ResOk P fn.results.toList σ res) ⟨fn.ntmps, slotsOf 0 args, []⟩) : Fn P f args res := by
  refine ⟨⟨fn, hf, by rw [hb]; rfl, hname⟩, fun w vs hv => ?_⟩
  obtain ⟨hv, hgw⟩ := hv
  have hlen := hv.length
  refine calls_of_wp hf hb (Code.wp_mono (fun e a' w' hh => ?_) (h ⟨w, (· < w.heap.size), fun _ => True, fun _ => none, fn.ntmps⟩ (fun _ => none) _ w ?_))
  · obtain ⟨σ', ν', ⟨he, hr⟩, hs⟩ := hh
    obtain ⟨v, bs, h1, h2, h3, h4⟩ := res_sound hs hr
    rcases he with rfl | rfl
    · exact ⟨hs.defers, v, h1, v, bs, rfl, hs.below.below, h2, h3, fun b hb => Nat.le_of_not_lt (h4 b hb).1⟩
    · exact ⟨hs.defers, v, h1, v, bs, rfl, hs.below.below, h2, h3, fun b hb => Nat.le_of_not_lt (h4 b hb).1⟩
  · refine ⟨⟨fun s o ho => by simp [lookO] at ho, fun s s' o o' x x' _ ho => by simp [lookO] at ho⟩, Keep.refl _ _, Rows.refl _, fun b hb => hb, fun _ _ => trivial, Nat.le_refl _, fun b hb => (hgw b hb).elim fun m hm => ⟨cell_lt hm, m, hm⟩, fun _ _ _ => rfl, rfl, by simp; omega, fun t => ?_⟩
    have := slots_sound (ν := fun _ => none) (n := fn.ntmps) 0 t hv
    rw [if_pos (Nat.zero_le _)] at this
    have e : (vs.toArray ++ Array.replicate (fn.ntmps - vs.toArray.size) undef).getD t undef = vs.getD (t - 0) undef := by
      simp only [Array.getD_eq_getD_getElem?, Nat.sub_zero, List.getD_eq_getElem?_getD, Array.getElem?_append, List.getElem?_toArray, List.size_toArray]
      by_cases hlt : t < vs.length
      · rw [if_pos hlt]
      · rw [if_neg hlt, List.getElem?_eq_none (by omega)]
        simp only [Array.getElem?_replicate]
        split <;> rfl
    rw [e]
    exact this

end

def wpAnyE (P : Program) (ops : Array Oper) (Q : Exit → Act → World → Prop) (T : List Nat) (m : Nat) : Nat → Array Bool → Act → World → Prop
  | 0, listed, a, w => (∀ j ∈ Region.ready .any ops listed, j ∈ T) ∧ wpAny P .any ops Q m listed a w
  | n + 1, listed, a, w => Region.ready .any ops listed ≠ [] ∧ ∀ i ∈ Region.ready .any ops listed, wpOp P ops Q i (fun a' w' => Below w.heap.size w w' ∧ wpAnyE P ops Q T m n (listed.setIfInBounds i true) a' w') a w

def RunI (P : Program) (ops : List Oper) : List (Nat × Bool) → St → (St → Prop) → Prop
  | [], σ, K => K σ
  | (i, q) :: l, σ, K => match ops[i]? with
    | some o => Step P q ops o σ (fun σ' => RunI P ops l σ' K)
    | none => False

def planT (ops : Array Oper) : List Nat → Array Bool → Bool
  | [], listed => (Region.ready .any ops listed).isEmpty
  | i :: r, listed => Region.ready .any ops listed == [i] && planT ops r (listed.setIfInBounds i true)

def boundAfter (ops : Array Oper) (i j : Nat) : Bool := match ops[j]? with
  | some o => o.after.any fun e => Region.binds .any e && e.on == i
  | none => false

def kindAt (k : Op → Bool) (ops : Array Oper) (i : Nat) : Bool := match ops[i]? with
  | some o => k o.op
  | none => false

inductive PT where
  | fin
  | pure (i : Nat) (t : PT)
  | one (i : Nat) (t : PT)
  | two (i : Nat) (t : PT) (j : Nat) (u : PT)

def PT.depth : PT → Nat
  | .fin => 0
  | .pure _ t => t.depth + 1
  | .one _ t => t.depth + 1
  | .two _ t _ _ => t.depth + 1

def planE (ops : Array Oper) (T : List Nat) : PT → Array Bool → Bool
  | .fin, listed => (Region.ready .any ops listed).all T.contains && planT ops T listed
  | .pure i r, listed => kindAt pureKind ops i && (Region.ready .any ops listed).contains i && Region.free .any ops listed i && T.all (boundAfter ops i) && planE ops T r (listed.setIfInBounds i true)
  | .one i r, listed => kindAt quietKind ops i && Region.ready .any ops listed == [i] && planE ops T r (listed.setIfInBounds i true)
  | .two i r j u, listed => kindAt quietKind ops i && kindAt quietKind ops j && Region.ready .any ops listed == [i, j] && r.depth == u.depth && planE ops T r (listed.setIfInBounds i true) && planE ops T u (listed.setIfInBounds j true)

def planB (l : List Oper) (E : PT) (T : List Nat) : Bool :=
  Region.noSelect l.toArray && E.depth + T.length == l.length && planE l.toArray T E (Array.replicate l.length false)

def listT : List Nat → List (Nat × Bool)
  | [] => []
  | i :: r => (i, false) :: listT r

def RunP (P : Program) (ops : List Oper) (T : List Nat) : PT → St → (St → Prop) → Prop
  | .fin, σ, K => RunI P ops (listT T) σ K
  | .pure i t, σ, K => match ops[i]? with
    | some o => Step P true ops o σ (fun σ' => RunP P ops T t σ' K)
    | none => False
  | .one i t, σ, K => match ops[i]? with
    | some o => Step P true ops o σ (fun σ' => RunP P ops T t σ' K)
    | none => False
  | .two i t j u, σ, K => (match ops[i]? with
    | some o => Step P true ops o σ (fun σ' => RunP P ops T t σ' K)
    | none => False) ∧ (match ops[j]? with
    | some o => Step P true ops o σ (fun σ' => RunP P ops T u σ' K)
    | none => False)

section
variable {P : Program} {ops : Array Oper} {Q : Exit → Act → World → Prop} {T : List Nat} {m : Nat}

theorem wpAnyE_any : ∀ (n : Nat) (listed : Array Bool) (a : Act) (w : World), wpAnyE P ops Q T m n listed a w → wpAny P .any ops Q (n + m) listed a w
  | 0, listed, a, w, h => by rw [Nat.zero_add]; exact h.2
  | n + 1, listed, a, w, h => by
    have e : n + 1 + m = (n + m) + 1 := by omega
    rw [e]
    refine ⟨fun h0 => absurd h0 h.1, fun i hi => wpOp_mono (fun a' w' hh => wpAnyE_any n _ a' w' hh.2) (h.2 i hi)⟩

theorem wpAnyE_first {i : Nat} {oi : Oper} {v : Value} (hi : ops[i]? = some oi) (hsel : ∀ (j : Nat) (o : Oper) cs b, ops[j]? = some o → o.op ≠ .select cs b)
    (hQ : ∀ c a w, Q (.panic c) (a.put oi.dst v) w → Q (.panic c) a w) (hT : ∀ j ∈ T, ∀ oj, ops[j]? = some oj → ∃ e ∈ oj.after, Region.binds .any e = true ∧ e.on = i) :
    ∀ (n : Nat) (listed : Array Bool) (a : Act) (w : World),
      (∀ j oj, ops[j]? = some oj → j ≠ i → listed.getD j true = false → (∀ e ∈ oj.after, Region.binds .any e = true → e.on ≠ i) → oi.apart ops oj = true) →
      i ∈ Region.ready .any ops listed → YieldsIf P ops (Below w.heap.size w) oi v a →
      wpAnyE P ops Q T m n (listed.setIfInBounds i true) (a.put oi.dst v) w → wpAnyE P ops Q T m (n + 1) listed a w := by
  have hnotb : ∀ (listed : Array Bool) (j : Nat) (oj : Oper), i ∈ Region.ready .any ops listed → j ∈ Region.ready .any ops listed → ops[j]? = some oj → ∀ e ∈ oj.after, Region.binds .any e = true → e.on ≠ i := by
    intro listed j oj hr hj hoj e he hb heq
    obtain ⟨hjun, oj', hoj', hall⟩ := mem_ready.1 hj
    rw [hoj] at hoj'
    cases hoj'
    have h1 := hall e he hb
    have h0 := (mem_ready.1 hr).1
    rw [heq] at h1
    rcases Nat.lt_or_ge i listed.size with h' | h'
    · simp [h'] at h0 h1; rw [h0] at h1; cases h1
    · simp [Array.getElem?_eq_none h'] at h1
  intro n
  induction n with
  | zero =>
    intro listed a w _ hr hy H
    refine ⟨fun h => (by rw [h] at hr; cases hr), fun j hj => ?_⟩
    by_cases hji : j = i
    · subst hji; exact hy.wpOp hi (Below.refl _ _) ⟨Below.refl _ _, H⟩
    · have hjT := H.1 j (ready_mono hj hji)
      obtain ⟨hjun, oj, hoj, hall⟩ := mem_ready.1 hj
      obtain ⟨e, he, hb, heq⟩ := hT j hjT oj hoj
      exact absurd heq (hnotb listed j oj hr hj hoj e he hb)
  | succ n ih =>
    intro listed a w hfree hr hy H
    refine ⟨fun h => (by rw [h] at hr; cases hr), fun j hj => ?_⟩
    by_cases hji : j = i
    · subst hji; exact hy.wpOp hi (Below.refl _ _) ⟨Below.refl _ _, H⟩
    · have h1 := H.2 j (ready_mono hj hji)
      obtain ⟨hjun, oj, hoj, hall⟩ := mem_ready.1 hj
      have hnot := hnotb listed j oj hr hj hoj
      have h2 := wpOp_putIf hoj (hfree j oj hoj hji hjun hnot) (fun cs b => hsel i oi cs b hi) (fun cs b => hsel j oj cs b hoj) hQ hy h1
      have hfree' : ∀ k ok, ops[k]? = some ok → k ≠ i → (listed.setIfInBounds j true).getD k true = false →
          (∀ e ∈ ok.after, Region.binds .any e = true → e.on ≠ i) → oi.apart ops ok = true := fun k ok hk hki hun hno => by
        refine hfree k ok hk hki ?_ hno
        by_cases hjk : j = k
        · subst hjk
          exact hjun
        · rw [getD_set_ne true hjk] at hun; exact hun
      refine wpOp_mono (fun a' w' h3 => ?_) h2
      obtain ⟨hy', hbel, h4⟩ := h3
      refine ⟨hbel, ih (listed.setIfInBounds j true) a' w' hfree' (ready_mono hr (Ne.symm hji)) ?_ ?_⟩
      · rcases hy' with ⟨hw, hv⟩ | hy'
        · exact .inl ⟨hw, fun w'' hw'' => hv w'' (hbel.trans (hw''.mono hbel.size))⟩
        · exact .inr hy'
      · rw [Array.setIfInBounds_comm _ _ hji]
        exact h4

end

section
variable {P : Program} {w0 : Env} {l : List Oper} {K : St → Prop} {Q : Exit → Act → World → Prop}

theorem planT_sound (hK : ∀ σ ν a w, K σ → Sim P w0 σ ν a w → Q .normal a w) (n : Nat) (hd : ∀ o ∈ l, ∀ t, o.dst = some t → t < n) :
    ∀ (T : List Nat) (listed : Array Bool) (σ : St) (ν : Loc) (a : Act) (w : World), planT l.toArray T listed = true → a.tmps.size = n → Sim P w0 σ ν a w → RunI P l (listT T) σ K → wpAny P .any l.toArray Q T.length listed a w
  | [], listed, σ, ν, a, w, hp, hn, hs, hr => by
    simp only [planT, List.isEmpty_iff] at hp
    exact ⟨hp, hK σ ν a w hr hs⟩
  | i :: T, listed, σ, ν, a, w, hp, hn, hs, hr => by
    simp only [planT, Bool.and_eq_true, beq_iff_eq] at hp
    obtain ⟨hp1, hp2⟩ := hp
    simp only [listT, RunI] at hr
    split at hr
    · rename_i o ho
      refine ⟨(fun h0 => by rw [h0] at hp1; cases hp1), fun j hj => ?_⟩
      rw [hp1] at hj
      simp only [List.mem_singleton] at hj
      subst hj
      have h1 := step_sound hs (fun t ht => by rw [← hs.size, hn]; exact hd o (List.mem_of_getElem? ho) t ht) hr (Q := Q)
      unfold wpOp
      simp only [List.getElem?_toArray, ho]
      by_cases hw : Region.wanted o (yielded l.toArray a.tmps) = true
      · rw [if_pos hw] at h1 ⊢
        refine .inl (Oper.wp_mono (fun a' w' hh => ?_) h1)
        obtain ⟨hsz, _, σ', ν', h2, h3⟩ := hh
        exact planT_sound hK n hd T _ σ' ν' a' w' hp2 (hsz.trans hn) h3 h2
      · rw [if_neg hw] at h1 ⊢
        obtain ⟨σ', ν', h2, h3⟩ := h1
        exact planT_sound hK n hd T _ σ' ν' _ w hp2 (put_size.trans hn) h3 h2
    · exact hr.elim

theorem step_alone (n : Nat) (hd : ∀ o ∈ l, ∀ t, o.dst = some t → t < n) {T : List Nat} {m k i : Nat} {o : Oper} (ho : l[i]? = some o) (hk : kindAt quietKind l.toArray i = true) {listed : Array Bool} {σ : St} {ν : Loc} {a : Act} {w : World} (hn : a.tmps.size = n) (hs : Sim P w0 σ ν a w) {K2 : St → Prop} (hr : Step P true l o σ K2)
    (hnext : ∀ σ' ν' a' w', K2 σ' → a'.tmps.size = n → Sim P w0 σ' ν' a' w' → wpAnyE P l.toArray Q T m k listed a' w') : wpOp P l.toArray Q i (fun a' w' => Below w.heap.size w w' ∧ wpAnyE P l.toArray Q T m k listed a' w') a w := by
  have hk : quietKind o.op = true := by simpa [kindAt, ho] using hk
  have h1 := step_sound hs (fun t ht => by rw [← hs.size, hn]; exact hd o (List.mem_of_getElem? ho) t ht) hr (Q := Q)
  unfold wpOp
  simp only [List.getElem?_toArray, ho]
  by_cases hw : Region.wanted o (yielded l.toArray a.tmps) = true
  · rw [if_pos hw] at h1 ⊢
    refine .inl (Oper.wp_mono (fun a' w' hh => ?_) h1)
    obtain ⟨hsz, hbel, σ', ν', h2, h3⟩ := hh
    exact ⟨hbel rfl hk, hnext σ' ν' a' w' h2 (hsz.trans hn) h3⟩
  · rw [if_neg hw] at h1 ⊢
    obtain ⟨σ', ν', h2, h3⟩ := h1
    exact ⟨Below.refl _ _, hnext σ' ν' _ w h2 (put_size.trans hn) h3⟩

theorem planE_sound (hsel : Region.noSelect l.toArray = true) (hpan : ∀ c a w, ¬ Q (.panic c) a w) (hK : ∀ σ ν a w, K σ → Sim P w0 σ ν a w → Q .normal a w) (n : Nat) (hd : ∀ o ∈ l, ∀ t, o.dst = some t → t < n) (T : List Nat) :
    ∀ (E : PT) (listed : Array Bool) (σ : St) (ν : Loc) (a : Act) (w : World), planE l.toArray T E listed = true → a.tmps.size = n → Sim P w0 σ ν a w → RunP P l T E σ K → wpAnyE P l.toArray Q T T.length E.depth listed a w
  | .fin, listed, σ, ν, a, w, hp, hn, hs, hr => by
    simp only [planE, Bool.and_eq_true, List.all_eq_true] at hp
    exact ⟨fun j hj => by simpa using hp.1 j hj, planT_sound hK n hd T listed σ ν a w hp.2 hn hs (by simpa only [RunP] using hr)⟩
  | .pure i E, listed, σ, ν, a, w, hp, hn, hs, hr => by
    simp only [planE, Bool.and_eq_true] at hp
    obtain ⟨⟨⟨⟨hp1, hp2⟩, hp3⟩, hp4⟩, hp5⟩ := hp
    simp only [RunP] at hr
    split at hr
    · rename_i o ho
      have ho' : l.toArray[i]? = some o := by simpa using ho
      have hk : pureKind o.op = true := by simpa [kindAt, ho] using hp1
      obtain ⟨v, σ', h1, h2, h3⟩ := step_pure hs hk (fun t ht => by rw [← hs.size, hn]; exact hd o (List.mem_of_getElem? ho) t ht) hr
      have h4 := planE_sound hsel hpan hK n hd T E _ σ' ν _ w hp5 (put_size.trans hn) h3 h2
      refine wpAnyE_first ho' (Region.noSelect_spec hsel) (fun c a w hq => absurd hq (hpan c _ w)) (fun j hj oj hoj => ?_) E.depth listed a w (Region.free_spec ho' hp3) (by simpa using hp2) h1 h4
      have := List.all_eq_true.1 hp4 j hj
      simp only [boundAfter, hoj] at this
      obtain ⟨e, he, hb⟩ := Array.any_eq_true'.1 this
      simp only [Bool.and_eq_true, beq_iff_eq] at hb
      exact ⟨e, he, hb.1, hb.2⟩
    · exact hr.elim
  | .one i E, listed, σ, ν, a, w, hp, hn, hs, hr => by
    simp only [planE, Bool.and_eq_true, beq_iff_eq] at hp
    obtain ⟨⟨hp1, hp2⟩, hp3⟩ := hp
    simp only [RunP] at hr
    split at hr
    · rename_i o ho
      refine ⟨(fun h0 => by rw [h0] at hp2; cases hp2), fun j hj => ?_⟩
      rw [hp2] at hj
      simp only [List.mem_singleton] at hj
      subst hj
      exact step_alone n hd ho hp1 hn hs hr (fun σ' ν' a' w' h2 h3 h4 => planE_sound hsel hpan hK n hd T E _ σ' ν' a' w' hp3 h3 h4 h2)
    · exact hr.elim
  | .two i E j F, listed, σ, ν, a, w, hp, hn, hs, hr => by
    simp only [planE, Bool.and_eq_true, beq_iff_eq] at hp
    obtain ⟨⟨⟨⟨⟨hp1, hp2⟩, hp3⟩, hp4⟩, hp5⟩, hp6⟩ := hp
    simp only [RunP] at hr
    obtain ⟨hr1, hr2⟩ := hr
    refine ⟨(fun h0 => by rw [h0] at hp3; cases hp3), fun k hk => ?_⟩
    rw [hp3] at hk
    simp only [List.mem_cons, List.not_mem_nil, or_false] at hk
    rcases hk with rfl | rfl
    · split at hr1
      · rename_i o ho
        exact step_alone n hd ho hp1 hn hs hr1 (fun σ' ν' a' w' h2 h3 h4 => planE_sound hsel hpan hK n hd T E _ σ' ν' a' w' hp5 h3 h4 h2)
      · exact hr1.elim
    · split at hr2
      · rename_i o ho
        exact step_alone n hd ho hp2 hn hs hr2 (fun σ' ν' a' w' h2 h3 h4 => by rw [hp4]; exact planE_sound hsel hpan hK n hd T F _ σ' ν' a' w' hp6 h3 h4 h2)
      · exact hr2.elim

end

theorem aw_draw {P : Program} (hm : P.follows .mixedOrders = true) {σ : St} {Q : Exit → St → Prop} {id : Nat} {l : List Oper} (E : PT) (T : List Nat) (hd : dstsB l σ.n = true) (hp : planB l E T = true)
    (h : RunP P l T E σ (Q .normal)) : AW P (.region id l.toArray true) Q σ := fun w0 ν a w hs => by
  simp only [planB, Bool.and_eq_true, beq_iff_eq] at hp
  obtain ⟨⟨hp1, hp2⟩, hp3⟩ := hp
  refine Code.wp_mono (Q := fun e a' w' => e = .normal ∧ ∃ σ' ν', Q .normal σ' ∧ Sim P w0 σ' ν' a' w') (fun e a' w' hh => ?_) ?_
  · obtain ⟨rfl, hh⟩ := hh
    exact hh
  · refine wp_region_any hm ?_
    have hs' : Sim P w0 σ ν a { w with drawn := w.drawn + 1 } := hs.grown (w' := { w with drawn := w.drawn + 1 }) (Below.refl w.heap.size w).drew
    have := wpAnyE_any _ _ _ _ (planE_sound (P := P) (w0 := w0) (l := l) (K := Q .normal) (Q := fun e a' w' => e = .normal ∧ ∃ σ' ν', Q .normal σ' ∧ Sim P w0 σ' ν' a' w') hp1 (fun c a w hq => by cases hq.1) (fun σ' ν' a' w' hk hs' => ⟨rfl, σ', ν', hk, hs'⟩) σ.n (dsts_spec hd) T E (Array.replicate l.length false) σ ν a _ hp3 hs.size hs' h)
    rw [hp2] at this
    simpa using this

section
variable {P : Program} {q : Bool} {σ : St} {K : St → Prop} {dst : Option Nat}

theorem args_of_data : ∀ {xs : List AV} {ds : List D}, mapD (toD σ.ob 4) xs = some ds → ArgsAre P σ xs (ds.map CV.d)
  | [], ds, h => by
    simp only [mapD, Option.some.injEq] at h
    subst h
    simp [ArgsAre]
  | x :: xs, ds, h => by
    simp only [mapD] at h
    split at h
    · rename_i d hd
      simp only [Option.map_eq_some_iff] at h
      obtain ⟨ds', h1, rfl⟩ := h
      simp only [ArgsAre, List.map_cons]
      refine ⟨CV.d d, ds'.map CV.d, rfl, ?_, args_of_data h1⟩
      unfold ArgIs
      cases x <;> exact hd
    · cases h

theorem call_fn {g : FuncId} {first cap args : List AV} {ds : List D} {r : D} (hc : FnD P g ds r) (ha : mapD (toD σ.ob 4) (first ++ args ++ cap) = some ds) (hk : K (σ.adopt dst r)) : CallOk P q σ dst (.fc g first cap) args K :=
  .inl ⟨ds.map CV.d, r, args_of_data ha, hc, hk⟩

theorem call_cv {g : FuncId} {first cap args : List AV} {cvs : List CV} {r : D} (hc : Fn P g cvs r) (ha : ArgsAre P σ (first ++ args ++ cap) cvs) (hk : K (σ.adopt dst r)) : CallOk P q σ dst (.fc g first cap) args K :=
  .inl ⟨cvs, r, ha, hc, hk⟩

theorem call_known {dom : List D → Prop} {h : List D → D} {args : List AV} {ds : List D} (ha : mapD (toD σ.ob 4) args = some ds) (hd : dom ds) (hk : K (σ.adopt dst (h ds))) : CallOk P q σ dst (.fn dom h) args K :=
  ⟨ds, ha, hd, hk⟩

theorem kx_n {Q : Exit → St → Prop} : Kx K Q .normal σ = K σ := rfl

def RunPK (P : Program) (ops : List Oper) (T : List Nat) (t : PT) (K : St → Prop) (σ : St) : Prop := RunP P ops T t σ K

def RunAtP (P : Program) (ops : List Oper) (T : List Nat) (o : Option Oper) (t : PT) (σ : St) (K : St → Prop) : Prop := match o with
  | some o => Run P true ops [o] σ (RunPK P ops T t K)
  | none => False

theorem rpk {ops : List Oper} {T : List Nat} {t : PT} : RunPK P ops T t K σ = RunP P ops T t σ K := Eq.trans rfl rfl

theorem rp_fin {ops : List Oper} {T : List Nat} : RunP P ops T .fin σ K = RunI P ops (listT T) σ K := Eq.trans rfl rfl

theorem rp_at {ops : List Oper} {T : List Nat} {t : PT} (x : Option Oper) : (match x with | some o => Step P true ops o σ (fun σ' => RunP P ops T t σ' K) | none => False) = RunAtP P ops T x t σ K := by
  cases x with
  | none => rfl
  | some o =>
    simp only [RunAtP, run_cons]
    rfl

theorem rp_pure {ops : List Oper} {T : List Nat} {i : Nat} {t : PT} : RunP P ops T (.pure i t) σ K = RunAtP P ops T ops[i]? t σ K := by
  rw [RunP]; exact rp_at _

theorem rp_one {ops : List Oper} {T : List Nat} {i : Nat} {t : PT} : RunP P ops T (.one i t) σ K = RunAtP P ops T ops[i]? t σ K := by
  rw [RunP]; exact rp_at _

theorem rp_two {ops : List Oper} {T : List Nat} {i j : Nat} {t u : PT} (h1 : RunAtP P ops T ops[i]? t σ K) (h2 : RunAtP P ops T ops[j]? u σ K) : RunP P ops T (.two i t j u) σ K := by
  rw [RunP]
  exact ⟨(rp_at _).mpr h1, (rp_at _).mpr h2⟩

theorem rap_some {ops : List Oper} {T : List Nat} {o : Oper} {t : PT} : RunAtP P ops T (some o) t σ K = Run P true ops [o] σ (RunPK P ops T t K) := Eq.trans rfl rfl

def RunIK (P : Program) (ops : List Oper) (l : List (Nat × Bool)) (K : St → Prop) (σ : St) : Prop := RunI P ops l σ K

theorem rik {ops : List Oper} {l : List (Nat × Bool)} : RunIK P ops l K σ = RunI P ops l σ K := Eq.trans rfl rfl

def RunAt (P : Program) (q : Bool) (ops : List Oper) (o : Option Oper) (l : List (Nat × Bool)) (σ : St) (K : St → Prop) : Prop := match o with
  | some o => Run P q ops [o] σ (RunIK P ops l K)
  | none => False

theorem ri_nil {ops : List Oper} : RunI P ops [] σ K = K σ := rfl

theorem ri_cons {ops : List Oper} {i : Nat} {l : List (Nat × Bool)} : RunI P ops ((i, q) :: l) σ K = RunAt P q ops ops[i]? l σ K := by
  unfold RunAt
  rw [RunI]
  split
  · rename_i o ho
    try rw [ho]
    simp only [run_cons]
    rfl
  · rename_i ho
    first | rw [ho] | rfl

theorem ra_some {ops : List Oper} {o : Oper} {l : List (Nat × Bool)} : RunAt P q ops (some o) l σ K = Run P q ops [o] σ (RunIK P ops l K) := Eq.trans rfl rfl

theorem k_run {ops l : List Oper} {σ' : St} (h : Run P q ops l σ' K) : RunK P q ops l K σ' := h

theorem kx_r {Q : Exit → St → Prop} : Kx K Q .ret σ = Q .ret σ := rfl

theorem kx_e {Q : Exit → St → Prop} {id : Nat} : Kx K Q (.exit id) σ = Q (.exit id) σ := rfl

theorem in_r {Q : Exit → St → Prop} {id : Nat} : inB id Q .ret σ = Q .ret σ := rfl

theorem in_n {Q : Exit → St → Prop} {id : Nat} : inB id Q .normal σ = Q .normal σ := rfl

theorem in_e {Q : Exit → St → Prop} {id id' : Nat} : inB id Q (.exit id') σ = if id' = id then Q .normal σ else Q (.exit id') σ := rfl

def Post (P : Program) (rs : List ResultVar) (res : D) : Exit → St → Prop
  | .ret, σ => ResOk P rs σ res
  | .normal, σ => ResOk P rs σ res
  | _, _ => False

theorem po_r {rs : List ResultVar} {res : D} : Post P rs res .ret σ = ResOk P rs σ res := rfl

theorem po_n {rs : List ResultVar} {res : D} : Post P rs res .normal σ = ResOk P rs σ res := rfl

theorem fn_go {f : FuncId} {fn : Func} {c : Code} {args : List CV} {res : D} {n : Nat} {sl : List (Nat × AV)} {rs : List ResultVar} (hf : P.funcs[f]? = some fn) (hb : fn.body = some c) (hname : (fn.name == "runtime.NumGoroutine") = false)
    (hn : fn.ntmps = n) (hr : fn.results = rs.toArray) (hsl : slotsOf 0 args = sl) (hle : args.length ≤ n) (h : AW P c (Post P rs res) ⟨n, sl, []⟩) : Fn P f args res := by
  subst hn hsl
  refine fn_of_aw hf hb hname hle (aw_mono (fun e σ q => ?_) h)
  rw [hr]
  cases e <;> first | exact ⟨.inl rfl, q⟩ | exact ⟨.inr rfl, q⟩ | exact q.elim

theorem res_tmp {t : Nat} {res d : D} {q : Prop} {ss : List Nat} (ho : own σ.ob 20 (look σ.sl t) = some (q, d, ss)) (hq : q) (hn : ss.Nodup) (hd : d = res) : ResOk P [.tmp t] σ res := by
  subst hd
  exact ⟨by simp, ⟨trivial, trivial⟩, q, ss, ho, hq, hn⟩

theorem res_two {t u : Nat} {res d : D} {q : Prop} {ss : List Nat} (ho : own σ.ob 20 (.tu [look σ.sl t, look σ.sl u]) = some (q, d, ss)) (hq : q) (hn : ss.Nodup) (hd : d = res) : ResOk P [.tmp t, .tmp u] σ res := by
  subst hd
  exact ⟨by simp, ⟨trivial, trivial, trivial⟩, q, ss, ho, hq, hn⟩

theorem res_three {t u v : Nat} {res d : D} {q : Prop} {ss : List Nat} (ho : own σ.ob 20 (.tu [look σ.sl t, look σ.sl u, look σ.sl v]) = some (q, d, ss)) (hq : q) (hn : ss.Nodup) (hd : d = res) : ResOk P [.tmp t, .tmp u, .tmp v] σ res := by
  subst hd
  exact ⟨by simp, ⟨trivial, trivial, trivial, trivial⟩, q, ss, ho, hq, hn⟩

theorem pick_t {a b : AV} : pickA true a b = a := by
  unfold pickA
  split <;> rfl

theorem pick_f {a b : AV} : pickA false a b = b := by
  unfold pickA
  split <;> rfl

theorem pick_b {c x y : Bool} : pickA c (.d (.v (.bool x))) (.d (.v (.bool y))) = .d (.v (.bool (bif c then x else y))) := rfl

theorem one_s {s : ByteArray} : (Value.string s).oneCell' = true := rfl

theorem one_i {k : IntKind} {n : Int} : (Value.int k n).oneCell' = true := rfl

theorem one_b {b : Bool} : (Value.bool b).oneCell' = true := rfl

theorem one_l {a : Option Addr} {n c : Nat} : (Value.slice a n c).oneCell' = true := rfl

theorem one_p {a : Option Addr} : (Value.pointer a).oneCell' = true := rfl

theorem wr {n : Int} (h1 : -9223372036854775808 ≤ n) (h2 : n ≤ 9223372036854775807) : IntKind.i64.wrap n = n := by
  rw [IntKind.wrap_i64]
  omega

def ResAt (σ : St) (x : AV) (res : D) : Prop := ∃ q ss, own σ.ob 20 x = some (q, res, ss) ∧ q ∧ ss.Nodup

def CellAt (σ : St) (res : D) : Option (Prop × AV) → Prop
  | some (p, x) => p ∧ ResAt σ x res
  | none => False

theorem rc_eq {t : Nat} {ty : TypeId} {res : D} : ResOk P [.cell t ty] σ res = CellAt σ res (pureOp P σ (.load ty (.tmp t))) := by
  unfold ResOk CellAt ResAt
  simp only [resAVs, resAV]
  cases pureOp P σ (.load ty (.tmp t)) with
  | none => simp
  | some x => simp [joinR]

theorem rc_some {p : Prop} {x : AV} {res : D} : CellAt σ res (some (p, x)) = (p ∧ ResAt σ x res) := rfl

theorem res_at {x : AV} {res d : D} {q : Prop} {ss : List Nat} (ho : own σ.ob 20 x = some (q, d, ss)) (hq : q) (hn : ss.Nodup) (hd : d = res) : ResAt σ x res := by
  subst hd
  exact ⟨q, ss, ho, hq, hn⟩

theorem guard_t {ops l : List Oper} {o : Oper} {c : Bool} (h1 : c = true → Run P q ops (o :: l) σ K) (h2 : c = false → Run P q ops l (σ.puto o.dst (.d (.v undef))) K) (ho : o.guard = none) : Guard P q ops o l σ K true (.d (.v (.bool c))) := by
  cases c
  · rw [guard_tf]; exact h2 rfl
  · rw [guard_tt ho]; exact h1 rfl

theorem guard_f {ops l : List Oper} {o : Oper} {c : Bool} (h1 : c = true → Run P q ops l (σ.puto o.dst (.d (.v undef))) K) (h2 : c = false → Run P q ops (o :: l) σ K) (ho : o.guard = none) : Guard P q ops o l σ K false (.d (.v (.bool c))) := by
  cases c
  · rw [guard_ff ho]; exact h2 rfl
  · rw [guard_ft]; exact h1 rfl

theorem guard_ud {ops l : List Oper} {o : Oper} {want : Bool} : Guard P q ops o l σ K want (.d (.v undef)) = Run P q ops l (σ.puto o.dst (.d (.v undef))) K := Eq.trans rfl rfl

theorem ev_aw {c : Code} {Q : Exit → St → Prop} (h : AW P c Q σ) : AW P c Q σ := h

theorem ev_call {f : AV} {args : List AV} (h : CallOk P q σ dst f args K) : CallOk P q σ dst f args K := h

theorem ev_guard {ops l : List Oper} {o : Oper} {want : Bool} {g : AV} (h : Guard P q ops o l σ K want g) : Guard P q ops o l σ K want g := h

def CondK (P : Program) (x y : Code) (Q : Exit → St → Prop) (σ : St) : AV → Prop
  | .d (.v (.bool c)) => (c = true → AW P x Q σ) ∧ (c = false → AW P y Q σ)
  | _ => False

theorem aw_condk {c : Operand} {x y : Code} {Q : Exit → St → Prop} (h : CondK P x y Q σ (σ.ev c)) : AW P (.cond c x y) Q σ := by
  unfold CondK at h
  split at h
  · rename_i b hb
    exact aw_cond hb h.1 h.2
  · exact h.elim

theorem ck_t {x y : Code} {Q : Exit → St → Prop} : CondK P x y Q σ (.d (.v (.bool true))) = AW P x Q σ := by
  simp [CondK]

theorem ck_f {x y : Code} {Q : Exit → St → Prop} : CondK P x y Q σ (.d (.v (.bool false))) = AW P y Q σ := by
  simp [CondK]

theorem ck_split {x y : Code} {Q : Exit → St → Prop} {c : Bool} (ht : c = true → AW P x Q σ) (hf : c = false → AW P y Q σ) : CondK P x y Q σ (.d (.v (.bool c))) := ⟨ht, hf⟩

end

end Go.Proofs.Yteimddagjikcaaa
