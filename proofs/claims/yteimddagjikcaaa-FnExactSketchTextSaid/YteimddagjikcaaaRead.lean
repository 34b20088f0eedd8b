/- From what a law's argument reads as to the data of the view. -/
import Derived.Test.YteimddagjikcaaaFlowD
import Derived.WalkKit
import Derived.ProofKit
import Derived.Deep.Slices
import Derived.ChangeArms
import Derived.WideShapes
namespace Go.Proofs.Yteimddagjikcaaa
open Go.RowKit Go.ChangeShapes Go.WideShapes
set_option linter.unusedVariables false
set_option linter.unusedSimpArgs false

inductive Sh where
  | int
  | bool
  | str
  | st (fs : List Sh)
  | sl (e : Sh)
  | u8

mutual
def Sh.cells : Sh → Nat
  | .st fs => Sh.cellsL fs
  | _ => 1
def Sh.cellsL : List Sh → Nat
  | [] => 0
  | s :: r => s.cells + Sh.cellsL r
end

mutual
def isSh (P : Program) : Sh → TypeId → Bool
  | .int, t => match P.underlying t with | some (.int .i64) => P.cellsOf t == 1 | _ => false
  | .bool, t => match P.underlying t with | some .bool => P.cellsOf t == 1 | _ => false
  | .u8, t => match P.underlying t with | some (.int .u8) => P.cellsOf t == 1 | _ => false
  | .str, t => match P.underlying t with | some .string => P.cellsOf t == 1 | _ => false
  | .st ss, t => match P.underlying t with | some (.struct fs) => isShL P ss fs.toList 0 (P.cellsOf t) | _ => false
  | .sl s, t => match P.underlying t with | some (.slice e) => isSh P s e && P.cellsOf e == s.cells && s.cells != 0 && P.cellsOf t == 1 | _ => false
def isShL (P : Program) : List Sh → List Field → Nat → Nat → Bool
  | [], [], o, n => o == n
  | s :: ss, f :: fs, o, n => f.offset == o && isSh P s f.type && P.cellsOf f.type == s.cells && isShL P ss fs (o + s.cells) n
  | _, _, _, _ => false
end

mutual
def HasSh : Sh → List D → Prop
  | .int, ds => ∃ n : Int, ds = [.int n] ∧ (-9223372036854775808 ≤ n ∧ n ≤ 9223372036854775807)
  | .bool, ds => ∃ b, ds = [.bool b]
  | .u8, ds => ∃ n : Int, ds = [.v (.int .u8 n)] ∧ (0 ≤ n ∧ n ≤ 255)
  | .str, ds => ∃ s : ByteArray, ds = [.str s] ∧ s.size ≤ 9223372036854775807
  | .st ss, ds => HasShL ss ds
  | .sl s, ds => ∃ es : List (List D), ds = [.ls s.cells es.length es.flatten] ∧ (∀ e ∈ es, HasSh s e) ∧ es.length ≤ 9223372036854775807
def HasShL : List Sh → List D → Prop
  | [], ds => ds = []
  | s :: ss, ds => ∃ a b, ds = a ++ b ∧ HasSh s a ∧ HasShL ss b
end

section
variable {H : Type} {enc : TypeId × Value → H} {P : Program} {W : World} {base : Nat} {spare : Nat → Bool} {held : Bool}

def Reads (W : World) (s : Sh) (cs : List Value) : Prop := ∃ ds bs, HasSh s ds ∧ RDs W false ds cs bs ∧ Ones cs ∧ cs.length = s.cells

theorem rds_one {o : Bool} (v : Value) : RDs W o [D.v v] [v] [] := by
  simp only [RDs, RD]
  exact ⟨v, [], [], [], rfl, rfl, ⟨rfl, rfl⟩, rfl, rfl⟩

theorem rows_read {s : Sh} {b off c : Nat} (hc : s.cells = c) (hc0 : c ≠ 0) : ∀ (len : Nat) (f : Nat → List Value), (∀ i, i < len → Reads W s (f i)) →
    ∃ (es : List (List D)) (xs : List Value) (bs : List Nat), es.length = len ∧ (∀ e ∈ es, HasSh s e) ∧ RDs W false es.flatten xs bs ∧ Ones xs ∧ xs.length = len * c ∧ ∀ i j, i < len → j < c → xs[i * c + j]? = (f i)[j]?
  | 0, f, _ => ⟨[], [], [], rfl, by simp, by simp [RDs], (fun x hx => by cases hx), by simp, (fun i j hi => by omega)⟩
  | len + 1, f, h => by
    obtain ⟨es, xs, bs, h1, h2, h3, h4, h5, h6⟩ := rows_read (b := b) (off := off) hc hc0 len f (fun i hi => h i (by omega))
    obtain ⟨ds, bs', g1, g2, g3, g4⟩ := h len (by omega)
    refine ⟨es ++ [ds], xs ++ f len, bs ++ bs', by simp [h1], fun e he => ?_, ?_, fun x hx => ?_, ?_, fun i j hi hj => ?_⟩
    · rcases List.mem_append.1 he with he | he
      · exact h2 e he
      · simp only [List.mem_singleton] at he; rw [he]; exact g1
    · rw [List.flatten_append]
      simpa using RDs.append h3 g2
    · rcases List.mem_append.1 hx with hx | hx
      · exact h4 x hx
      · exact g3 x hx
    · rw [List.length_append, h5, g4, hc, Nat.add_mul, Nat.one_mul]
    · by_cases e : i < len
      · have : i * c + j < len * c := by
          have : (i + 1) * c ≤ len * c := Nat.mul_le_mul_right c e
          rw [Nat.add_mul, Nat.one_mul] at this
          omega
        rw [List.getElem?_append_left (by omega)]
        exact h6 i j e hj
      · have e2 : i = len := by omega
        subst e2
        rw [List.getElem?_append_right (by omega), h5]
        congr 1
        omega

mutual
theorem read_sound : ∀ (s : Sh) {t : TypeId} {fuel : Nat} {cs : List Value} {x : DataW H × List MemPlace}, isSh P s t = true → DataW.trod enc P W base spare held fuel t cs = some x → Reads W s cs
  | .int, t, fuel, cs, x, hs, h => by
    unfold isSh at hs
    split at hs
    · rename_i hu
      obtain ⟨n, rfl, _, hw⟩ := DataW.trod_int hu h
      refine ⟨[.int n], [], ⟨n, rfl, ?_⟩, rds_one _, (fun x hx => by simp at hx; rw [hx]; rfl), rfl⟩
      simp [Lit.wf, IntKind.min, IntKind.max, IntKind.signed, IntKind.bits] at hw
      omega
    · cases hs
  | .u8, t, fuel, cs, x, hs, h => by
    unfold isSh at hs
    split at hs
    · rename_i hu
      obtain ⟨n, rfl, _, hw⟩ := DataW.trod_int hu h
      refine ⟨[.v (.int .u8 n)], [], ⟨n, rfl, ?_⟩, rds_one _, (fun x hx => by simp at hx; rw [hx]; rfl), rfl⟩
      simp [Lit.wf, IntKind.min, IntKind.max, IntKind.signed, IntKind.bits] at hw
      omega
    · cases hs
  | .bool, t, fuel, cs, x, hs, h => by
    unfold isSh at hs
    split at hs
    · rename_i hu
      obtain ⟨n, rfl, _⟩ := DataW.trod_bool hu h
      exact ⟨[.bool n], [], ⟨n, rfl⟩, rds_one _, (fun x hx => by simp at hx; rw [hx]; rfl), rfl⟩
    · cases hs
  | .str, t, fuel, cs, x, hs, h => by
    unfold isSh at hs
    split at hs
    · rename_i hu
      obtain ⟨s, rfl, _, hl⟩ := DataW.trod_string hu h
      exact ⟨[.str s], [], ⟨s, rfl, Nat.le_trans hl (by decide)⟩, rds_one _, (fun x hx => by simp at hx; rw [hx]; rfl), rfl⟩
    · cases hs
  | .st ss, t, fuel, cs, x, hs, h => by
    unfold isSh at hs
    split at hs
    · rename_i fs hu
      obtain ⟨xs, n, _, _, hl, hxl, hf⟩ := DataW.trod_struct hu h
      obtain ⟨ds, bs, h1, h2, h3, h4⟩ := readL_sound ss fs.toList 0 hs hl (fun i f hi => by
        have := hf i f (by simpa using hi)
        exact ⟨n, xs[i]'(by rw [hxl]; have := (List.getElem?_eq_some_iff.1 hi).1; simpa using this), by rw [this, List.getElem?_eq_getElem]⟩)
      exact ⟨ds, bs, h1, by simpa using h2, by simpa using h3, by simp only [Sh.cells]; simpa using h4⟩
    · cases hs
  | .sl s, t, fuel, cs, x, hs, h => by
    unfold isSh at hs
    split at hs
    · rename_i e hu
      simp only [Bool.and_eq_true, beq_iff_eq, bne_iff_ne, ne_eq] at hs
      obtain ⟨⟨⟨h1, h2⟩, h3⟩, h4⟩ := hs
      rcases Go.Deep.open_slice hu h with ⟨rfl, _⟩ | ⟨a, len, cap, m, n, Df, Pl, rfl, hb, hl, hcap, hm, _, hi⟩
      · refine ⟨[.ls s.cells 0 []], [], ⟨[], rfl, by simp, Nat.zero_le _⟩, ?_, (fun x hx => by simp at hx; rw [hx]; rfl), rfl⟩
        simp only [RDs, RD]
        exact ⟨_, [], [], [], rfl, rfl, .inl ⟨none, 0, rfl, (by first | trivial | rfl | simp), (by first | trivial | rfl | simp), (by first | trivial | rfl | simp), (by first | trivial | rfl | simp)⟩, rfl, rfl⟩
      · have hmax : len ≤ 9223372036854775807 := Nat.le_trans (Nat.le_trans hl hcap) (by decide)
        have hlm : len ≤ m := by rw [hm]; split <;> omega
        by_cases h0 : len = 0
        · subst h0
          refine ⟨[.ls s.cells 0 []], [], ⟨[], rfl, by simp, Nat.zero_le _⟩, ?_, (fun x hx => by simp at hx; rw [hx]; rfl), rfl⟩
          simp only [RDs, RD]
          exact ⟨_, [], [], [], rfl, rfl, .inl ⟨some a, cap, rfl, (by first | trivial | rfl | simp), (by first | trivial | rfl | simp), (by first | trivial | rfl | simp), (by first | trivial | rfl | simp)⟩, rfl, rfl⟩
        · let f : Nat → List Value := fun i => ((W.cells? base (a.add (i * P.cellsOf e)) (P.cellsOf e)).getD [])
          have hf : ∀ i, i < len → W.cells? base (a.add (i * P.cellsOf e)) (P.cellsOf e) = some (f i) ∧ Reads W s (f i) := fun i hil => by
            obtain ⟨cs', g1, g2⟩ := hi i (by omega)
            have : f i = cs' := by simp [f, g1]
            rw [this]
            exact ⟨g1, read_sound s h1 g2⟩
          have hc0 : P.cellsOf e ≠ 0 := by rw [h2]; exact h3
          obtain ⟨es, xs, bs, k1, k2, k3, k4, k5, k6⟩ := rows_read (W := W) (b := 0) (off := 0) h2.symm hc0 len f (fun i hil => (hf i hil).2)
          have hcell : ∀ i, i < xs.length → W.cell? (a.add i) = xs[i]? := fun i hil => by
            rw [k5] at hil
            have hd := Nat.div_add_mod i (P.cellsOf e)
            have hm0 : i % P.cellsOf e < P.cellsOf e := Nat.mod_lt _ (by omega)
            have hq : i / P.cellsOf e < len := Nat.div_lt_of_lt_mul (by rw [Nat.mul_comm]; exact hil)
            obtain ⟨g1, _⟩ := hf _ hq
            obtain ⟨_, hcl, hat⟩ := World.cells?_some g1
            have := k6 (i / P.cellsOf e) (i % P.cellsOf e) hq hm0
            rw [Nat.mul_comm, hd] at this
            rw [this, ← hat _ hm0, Addr.add_add, Nat.mul_comm, hd]
          have hspot : a.spot = none ∧ ∃ c T fz, W.heap[a.block]? = some (.cells c T fz) := by
            have hx := hcell 0 (by rw [k5]; exact Nat.mul_pos (by omega) (by omega))
            have hx0 : 0 < xs.length := by rw [k5]; exact Nat.mul_pos (by omega) (by omega)
            rw [List.getElem?_eq_getElem hx0] at hx
            simp only [Addr.add, if_pos, World.cell?] at hx
            split at hx
            · rename_i c T fz hh
              split at hx
              · cases hx
              · rename_i hsp
                exact ⟨by simpa using hsp, c, T, fz, hh⟩
            · cases hx
          obtain ⟨hsp, c, T, fz, hh⟩ := hspot
          have ha : a = ⟨a.block, a.off, none⟩ := by
            cases a; simp only at hsp; rw [hsp]
          refine ⟨[.ls s.cells es.length es.flatten], a.block :: bs, ⟨es, rfl, k2, by rw [k1]; exact hmax⟩, ?_, (fun x hx => by simp at hx; rw [hx]; rfl), rfl⟩
          simp only [RDs, RD]
          refine ⟨_, [], a.block :: bs, [], rfl, by simp, .inr ⟨a.block, a.off, cap, xs, bs, by rw [k1, ← ha], rfl, ?_, by rw [k1]; exact hl, ⟨k4, c, T, fz, hh, fun i hil => ?_, fun e => by cases e⟩, k3⟩, rfl, rfl⟩
          · rw [k1, ← h2, ← k5, k3.length]
          · have := hcell i hil
            rw [ha, addr_add, cell_row hh] at this
            exact this
    · cases hs
theorem readL_sound : ∀ (ss : List Sh) (fs : List Field) (o : Nat) {cs : List Value} {n : Nat}, isShL P ss fs o n = true → cs.length = n →
    (∀ (i : Nat) (f : Field), fs[i]? = some f → ∃ k x, DataW.trod (H := H) enc P W base spare held k f.type ((cs.drop f.offset).take (P.cellsOf f.type)) = some x) →
    ∃ ds bs, HasShL ss ds ∧ RDs W false ds (cs.drop o) bs ∧ Ones (cs.drop o) ∧ (cs.drop o).length = Sh.cellsL ss
  | [], [], o, cs, n, hs, hl, _ => by
    simp only [isShL, beq_iff_eq] at hs
    have : cs.drop o = [] := List.drop_eq_nil_of_le (by omega)
    rw [this]
    exact ⟨[], [], rfl, by simp [RDs], (fun x hx => by cases hx), rfl⟩
  | s :: ss, f :: fs, o, cs, n, hs, hl, hf => by
    simp only [isShL, Bool.and_eq_true, beq_iff_eq] at hs
    obtain ⟨⟨⟨h1, h2⟩, h3⟩, h4⟩ := hs
    obtain ⟨k, x, hx⟩ := hf 0 f rfl
    obtain ⟨ds, bs, g1, g2, g3, g4⟩ := read_sound s h2 hx
    obtain ⟨ds', bs', k1, k2, k3, k4⟩ := readL_sound ss fs (o + s.cells) h4 hl (fun i f hi => hf (i + 1) f (by simpa using hi))
    rw [h1, h3] at g2 g3 g4
    have e : cs.drop o = (cs.drop o).take s.cells ++ cs.drop (o + s.cells) := by
      rw [← List.drop_drop, List.take_append_drop]
    rw [e]
    refine ⟨ds ++ ds', bs ++ bs', ⟨ds, ds', rfl, g1, k1⟩, RDs.append g2 k2, fun x hx => ?_, ?_⟩
    · rcases List.mem_append.1 hx with hx | hx
      · exact g3 x hx
      · exact k3 x hx
    · rw [List.length_append, g4, k4]; rfl
  | [], _ :: _, _, _, _, hs, _, _ => by simp [isShL] at hs
  | _ :: _, [], _, _, _, hs, _, _ => by simp [isShL] at hs
end
end

end Go.Proofs.Yteimddagjikcaaa
