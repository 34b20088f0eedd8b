/- A group of charges read off its text; no program. -/
import Derived.Test.YteimddagjikcaaaDoorSplX
import Derived.Test.YteimddagjikcaaaDoorGroupText
import Derived.WalkKit
import Derived.WalkSpells
import Derived.KernelRfl
namespace Go.Proofs.YteimddagjikcaaaDoor
open Go.RowKit
set_option linter.unusedVariables false
set_option linter.unusedSimpArgs false

def spB : ByteArray := ⟨#[32]⟩

def ckC (n : Nat) : Int := ((n / 8 + 1 : Nat) : Int)

def ckK (n : Nat) : Int := ((n % 8 + 1 : Nat) : Int)

def gkF (w0 w1 : ByteArray) : Nat → Int × Int
  | 0 => (0, 0)
  | n + 1 => if w0 = numText (ckC n) (ckK n) ∧ w1 = kindText (ckK n) (ckC n) then (ckC n, ckK n) else gkF w0 w1 n

theorem gk_table : ∀ n, n < 48 → gkF (numText (ckC n) (ckK n)) (kindText (ckK n) (ckC n)) 48 = (ckC n, ckK n) := by decide +kernel

theorem ck_at {c k : Int} (hc : 1 ≤ c ∧ c ≤ 6) (hk : 1 ≤ k ∧ k ≤ 8) : ∃ n, n < 48 ∧ ckC n = c ∧ ckK n = k := by
  refine ⟨(8 * (c - 1) + (k - 1)).toNat, by omega, ?_, ?_⟩
  · unfold ckC
    omega
  · unfold ckK
    omega

theorem gk_at {c k : Int} (hc : 1 ≤ c ∧ c ≤ 6) (hk : 1 ≤ k ∧ k ≤ 8) : gkF (numText c k) (kindText k c) 48 = (c, k) := by
  obtain ⟨n, hn, rfl, rfl⟩ := ck_at hc hk
  exact gk_table n hn

theorem gk_in (w0 w1 : ByteArray) : ∀ n, n ≤ 48 → 0 ≤ (gkF w0 w1 n).1 ∧ (gkF w0 w1 n).1 ≤ 6 ∧ 0 ≤ (gkF w0 w1 n).2 ∧ (gkF w0 w1 n).2 ≤ 8
  | 0, _ => by simp [gkF]
  | n + 1, h => by
    rw [gkF]
    split
    · unfold ckC ckK
      simp only
      omega
    · exact gk_in w0 w1 n (by omega)

def gWords (c k a t : Int) : List ByteArray := if 0 < a then [numText c k, kindText k c, attName k a, tincWord t] else [numText c k, kindText k c, tincWord t]

theorem num_table : ∀ n, n < 48 → (32 : UInt8) ∉ (numText (ckC n) (ckK n)).data.toList ∧ (32 : UInt8) ∉ (kindText (ckK n) (ckC n)).data.toList := by decide +kernel

theorem tinc_table : ∀ n, n < 9 → (32 : UInt8) ∉ (tincWord ((n + 1 : Nat) : Int)).data.toList := by decide +kernel

theorem att_table : ∀ n, n < 3 → (32 : UInt8) ∉ (attName ((n + 1 : Nat) : Int) 1).data.toList ∧ (32 : UInt8) ∉ (attName ((n + 1 : Nat) : Int) 2).data.toList := by decide +kernel

theorem num_sp {c k : Int} (hc : 1 ≤ c ∧ c ≤ 6) (hk : 1 ≤ k ∧ k ≤ 8) : (32 : UInt8) ∉ (numText c k).data.toList ∧ (32 : UInt8) ∉ (kindText k c).data.toList := by
  obtain ⟨n, hn, rfl, rfl⟩ := ck_at hc hk
  exact num_table n hn

theorem tinc_sp {t : Int} (h : 1 ≤ t ∧ t ≤ 9) : (32 : UInt8) ∉ (tincWord t).data.toList := by
  have := tinc_table (t - 1).toNat (by omega)
  rwa [show (((t - 1).toNat + 1 : Nat) : Int) = t by omega] at this

theorem att_sp {k a : Int} (h : 1 ≤ k ∧ k ≤ 3) (ha : a = 1 ∨ a = 2) : (32 : UInt8) ∉ (attName k a).data.toList := by
  have := att_table (k - 1).toNat (by omega)
  rw [show (((k - 1).toNat + 1 : Nat) : Int) = k by omega] at this
  rcases ha with rfl | rfl
  · exact this.1
  · exact this.2

theorem spB_list : spB.data.toList = [32] := rfl

theorem splT_group {c k a t : Int} (h : okGroup c k a t = true) : splT (groupText c k a t) spB = gWords c k a t := by
  obtain ⟨h1, h2, h3, h4⟩ := ok_group h
  obtain ⟨n1, n2⟩ := num_sp h1 h2
  have n3 := tinc_sp h3
  rcases h4 with ⟨rfl, hk⟩ | ⟨ha, hk⟩
  · have e : (groupText c k 0 t).data.toList = (numText c k).data.toList ++ [32] ++ ((kindText k c).data.toList ++ [32] ++ (tincWord t).data.toList) := by
      simp only [groupText, bareText, Int.lt_irrefl, if_false, ba_app, List.append_assoc]
    rw [splT, e, spB_list, splL_word n1, splL_word n2, splL_last n3]
    simp [gWords, toB_of]
  · have n4 := att_sp (a := a) ⟨h2.1, hk⟩ ha
    have hpos : 0 < a := by omega
    have e : (groupText c k a t).data.toList = (numText c k).data.toList ++ [32] ++ ((kindText k c).data.toList ++ [32] ++ ((attName k a).data.toList ++ [32] ++ (tincWord t).data.toList)) := by
      simp only [groupText, bareText, hpos, if_true, ba_app, List.append_assoc]
    rw [splT, e, spB_list, splL_word n1, splL_word n2, splL_word n4, splL_last n3]
    simp [gWords, toB_of, hpos]

def gpC (ws : List ByteArray) : Int × Int × Int × Int :=
  ((gkF (ws.getD 0 ⟨#[]⟩) (ws.getD 1 ⟨#[]⟩) 48).1, (gkF (ws.getD 0 ⟨#[]⟩) (ws.getD 1 ⟨#[]⟩) 48).2,
    (if ws.length = 4 then idxB (ws.getD 2 ⟨#[]⟩) (attNames (gkF (ws.getD 0 ⟨#[]⟩) (ws.getD 1 ⟨#[]⟩) 48).2) + 1 else 0), idxB (ws.getD (ws.length - 1) ⟨#[]⟩) tincWords + 1)

theorem tinc_idx {t : Int} (h : 1 ≤ t ∧ t ≤ 9) : idxB (tincWord t) tincWords + 1 = t := by
  have key : ∀ n, n < 9 → idxB (tincWord ((n + 1 : Nat) : Int)) tincWords + 1 = ((n + 1 : Nat) : Int) := by decide +kernel
  have := key (t - 1).toNat (by omega)
  rwa [show (((t - 1).toNat + 1 : Nat) : Int) = t by omega] at this

theorem att_idx {k a : Int} (h : 1 ≤ k ∧ k ≤ 3) (ha : a = 1 ∨ a = 2) : idxB (attName k a) (attNames k) + 1 = a := by
  obtain rfl | rfl | rfl : k = 1 ∨ k = 2 ∨ k = 3 := by omega
  all_goals
    rcases ha with rfl | rfl
    all_goals decide +kernel

theorem gpC_at {c k a t : Int} (h : okGroup c k a t = true) : gpC (splT (groupText c k a t) spB) = (c, k, a, t) := by
  obtain ⟨h1, h2, h3, h4⟩ := ok_group h
  have hg := gk_at h1 h2
  have ht := tinc_idx h3
  rw [splT_group h]
  rcases h4 with ⟨rfl, hk⟩ | ⟨ha, hk⟩
  · simp [gWords, gpC, hg, ht]
  · have hpos : 0 < a := by omega
    have hi := att_idx (a := a) ⟨h2.1, hk⟩ ha
    simp [gWords, gpC, hpos, hg, ht, hi]

def okG (g : Int × Int × Int × Int) : Bool := okGroup g.1 g.2.1 g.2.2.1 g.2.2.2

def textG (g : Int × Int × Int × Int) : ByteArray := groupText g.1 g.2.1 g.2.2.1 g.2.2.2

def gpV (s : ByteArray) : (Int × Int × Int × Int) × Bool :=
  if 3 ≤ (splT s spB).length ∧ (splT s spB).length ≤ 4 ∧ okG (gpC (splT s spB)) = true ∧ textG (gpC (splT s spB)) = s then (gpC (splT s spB), true) else ((0, 0, 0, 0), false)

def gpR (s : ByteArray) : D := .tu [.ag [.int (gpV s).1.1, .int (gpV s).1.2.1, .int (gpV s).1.2.2.1, .int (gpV s).1.2.2.2], .bool (gpV s).2]

theorem gpV_text {g : Int × Int × Int × Int} (h : okG g = true) : gpV (textG g) = (g, true) := by
  obtain ⟨c, k, a, t⟩ := g
  have e := gpC_at (show okGroup c k a t = true from h)
  have hl : 3 ≤ (splT (groupText c k a t) spB).length ∧ (splT (groupText c k a t) spB).length ≤ 4 := by
    rw [splT_group (show okGroup c k a t = true from h), gWords]
    split <;> simp
  unfold gpV
  rw [show textG (c, k, a, t) = groupText c k a t from rfl, e, if_pos ⟨hl.1, hl.2, h, rfl⟩]

theorem gpV_no {s : ByteArray} (h : ∀ g, okG g = true → textG g ≠ s) : gpV s = ((0, 0, 0, 0), false) := by
  unfold gpV
  rw [if_neg]
  rintro ⟨_, _, h1, h2⟩
  exact h _ h1 h2

end Go.Proofs.YteimddagjikcaaaDoor
