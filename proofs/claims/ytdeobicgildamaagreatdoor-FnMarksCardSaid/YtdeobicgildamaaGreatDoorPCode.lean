/- Lists of different persons; results under other names. -/
/- Generations: the greatest number of steps to parents or to children. -/
/- A drawn family. -/
/- The library's contracts on texts, over data: Split, Cut, CutPrefix, TrimPrefix, TrimSuffix, Count. -/
/- Arguments of laws about draws: bytes. -/
import Derived.Test.YtdeobicgildamaaGreatDoorFam6
import Derived.WalkKit
import Derived.WalkSpells
import Derived.KernelRfl
import Derived.Test.YtdeobicgildamaaGreatDoorFam5
import Derived.Test.YtdeobicgildamaaGreatDoorCur
import Derived.Test.YtdeobicgildamaaGreatDoorFam2
import Derived.Test.YtdeobicgildamaaGreatDoorSplX
import Derived.Test.YtdeobicgildamaaGreatDoorFacts
import Derived.Deep.Draws
import Derived.Test.YtdeobicgildamaaGreatDoorShelfS
import Derived.Test.YtdeobicgildamaaGreatDoorLaw
import Derived.ProofKit
namespace Go.Proofs.YtdeobicgildamaaGreatDoor
open Go.RowKit
set_option linter.unusedVariables false
set_option linter.unusedSimpArgs false

theorem FnS.swr {P : Program} {g : FuncId} {ob ob' : List (Nat × OB)} {args : List AV} {res : AV} (m n : Nat) (h : FnS P g ob args ob' res) (hd : ∀ s o, lookO ob s = some o → lookO (swO m n ob') s = none) : FnS P g ob args (swO m n ob') (res.sw m n) :=
  ⟨h.1, fun w ν Dt vs hDt hm hv => (h.2 w ν Dt vs hDt hm hv).mono fun e w' hh => by
    obtain ⟨r, ν', he, hk, hr, hm3, hv3, hf⟩ := hh
    exact ⟨r, fun s => ν' (swp m n s), he, hk, hr, hm3.sw, VR.sw hv3, fun s o o' e1 e2 => by rw [hd s o e1] at e2; cases e2⟩⟩

theorem ress_ren {P : Program} {σ : St} {t a b : Nat} {ob ob' : List (Nat × OB)} {res : AV} (hl : lensO ob ob') (ho : offSw ob [(a, b)] = true) (hs : SubO (swsO [(a, b)] σ.ob) ob') (hr : swsA [(a, b)] (look σ.sl t) = res) : ResS P [.tmp t] σ ob ob' res := by
  refine ⟨by simp, hl, [(a, b)], ho, hs, ?_⟩
  simp only [resAVs, resAV, joinR]
  exact ⟨⟨trivial, trivial⟩, hr⟩

theorem nodup_le : ∀ (zs ids : List Int), zs.Nodup → (∀ a ∈ zs, a ∈ ids) → zs.length ≤ ids.length
  | [], ids, _, _ => by simp
  | a :: zs, ids, hn, hs => by
    rw [List.nodup_cons] at hn
    have ha := hs a (by simp)
    have := nodup_le zs (ids.erase a) hn.2 (fun b hb => (List.mem_erase_of_ne (fun (e : b = a) => hn.1 (by rw [← e]; exact hb))).2 (hs b (by simp [hb])))
    rw [List.length_erase_of_mem ha] at this
    have := List.length_pos_of_mem ha
    simp only [List.length_cons]
    omega

def okL (l : List PerV) (zs : List Int) : Prop := zs.Nodup ∧ ∀ a ∈ zs, 0 ≤ findP l a

theorem okL_len {l : List PerV} {zs : List Int} (h : okL l zs) : zs.length ≤ l.length := by
  have := nodup_le zs (l.map PerV.id) h.1 (fun a ha => by
    rw [List.mem_map]
    exact ⟨perOf l a, perOf_in (h.2 a ha), perOf_id (h.2 a ha)⟩)
  simpa using this

theorem okL_app {l : List PerV} {zs : List Int} {c : Int} (h : okL l zs) (hc : 0 ≤ findP l c) (hn : zs.contains c = false) : okL l (zs ++ [c]) := by
  have hm : c ∉ zs := fun hh => by
    rw [List.contains_iff_mem.2 hh] at hn
    cases hn
  refine ⟨?_, fun a ha => ?_⟩
  · rw [List.nodup_append]
    refine ⟨h.1, by simp, fun a ha b hb e => ?_⟩
    rw [List.mem_singleton] at hb
    subst hb
    subst e
    exact hm ha
  · rw [List.mem_append, List.mem_singleton] at ha
    rcases ha with ha | rfl
    · exact h.2 a ha
    · exact hc

def upG (l : List PerV) (n : Nat) (id : Int) : Prop := 0 ≤ findP l id ∧ (perOf l id).born ≤ n

end Go.Proofs.YtdeobicgildamaaGreatDoor

namespace Go.Proofs.YtdeobicgildamaaGreatDoor
open Go.RowKit
set_option linter.unusedVariables false
set_option linter.unusedSimpArgs false

attribute [local go_sem] PerV.d PerV.cs perL famD intL

attribute [local simp] perC_all perC_plains ints_plain ints_all ints_all1 ints_plain_take

def stepM (f : Int → Int) (m o : Int) : Int := if 1 + f o > m then 1 + f o else m

def farF (nx : Int → List Int) : Nat → Int → Int
  | 0, _ => 0
  | n + 1, id => (nx id).foldl (stepM (farF nx n)) 0

def hNx (nx : Int → List Int) : List D → D
  | [.v (.int .i64 id)] => intL (nx id)
  | _ => .bool false

def isG (g : Int → Prop) (ds : List D) : Prop := ∃ id : Int, ds = [.int id] ∧ g id

def dnG (l : List PerV) (n : Nat) (id : Int) : Prop := 0 ≤ findP l id ∧ 3000 - (perOf l id).born ≤ n

def genR (l : List PerV) (id : Int) : D := if askF l id then .tu [.int (farF (parI l) 3000 id), .int (farF (kidI l) 3000 id), .bool true] else .tu [.int 0, .int 0, .bool false]

end Go.Proofs.YtdeobicgildamaaGreatDoor

namespace Go.Proofs.YtdeobicgildamaaGreatDoor
open Go.RowKit
set_option linter.unusedVariables false
set_option linter.unusedSimpArgs false

attribute [local go_sem] PerV.d PerV.cs perL famD curO codL

attribute [local simp] refs_dmap perC_all perC_plains ints_plain ints_all ints_all1 ints_plain_take curO codL

def w15 (b : Int) : Int := IntKind.i64.wrap (b + 15)

def mayW (l : List PerV) (id : Int) (p : PerV) : Bool := mayG (parX w15) l id p

structure TryS where
  c : CurV
  p : PerV

def tryF (bs : List Int) (l : List PerV) (s : TryS) : TryS :=
  if 1 < l.length ∧ s.p.one = 0 then
    if (l.getD (pickV bs l.length s.c).toNat PerV.zero).id ≠ (l.getD (pickV bs l.length (pickC bs l.length s.c)).toNat PerV.zero).id ∧ mayW l (l.getD (pickV bs l.length s.c).toNat PerV.zero).id s.p = true ∧ mayW l (l.getD (pickV bs l.length (pickC bs l.length s.c)).toNat PerV.zero).id s.p = true then
      ⟨pickC bs l.length (pickC bs l.length s.c), { s.p with one := (l.getD (pickV bs l.length s.c).toNat PerV.zero).id, two := (l.getD (pickV bs l.length (pickC bs l.length s.c)).toNat PerV.zero).id }⟩
    else ⟨pickC bs l.length (pickC bs l.length s.c), s.p⟩
  else s

def tryN (bs : List Int) (l : List PerV) : Nat → TryS → TryS
  | 0, s => s
  | n + 1, s => tryN bs l n (tryF bs l s)

theorem tryN_id {bs : List Int} {l : List PerV} {s : TryS} (h : ¬ (1 < l.length ∧ s.p.one = 0)) : ∀ n, tryN bs l n s = s
  | 0 => rfl
  | n + 1 => by
    rw [tryN, tryF, if_neg h]
    exact tryN_id h n

theorem tryF_ok {bs : List Int} {l : List PerV} {s : TryS} {m : Nat} (h : okCur m s.c) : okCur (m + 4) (tryF bs l s).c ∧ (tryF bs l s).p.born = s.p.born ∧ (tryF bs l s).p.id = s.p.id := by
  unfold tryF
  split
  · split
    · exact ⟨okCur_pick (okCur_pick h), rfl, rfl⟩
    · exact ⟨okCur_pick (okCur_pick h), rfl, rfl⟩
  · exact ⟨okCur_mono h (by omega), rfl, rfl⟩

theorem tryN_ok {bs : List Int} {l : List PerV} : ∀ (n : Nat) {s : TryS} {m : Nat}, okCur m s.c → okCur (m + 4 * n) (tryN bs l n s).c ∧ (tryN bs l n s).p.born = s.p.born ∧ (tryN bs l n s).p.id = s.p.id
  | 0, s, m, h => ⟨h, rfl, rfl⟩
  | n + 1, s, m, h => by
    obtain ⟨h1, h2, h3⟩ := tryF_ok (bs := bs) (l := l) h
    obtain ⟨k1, k2, k3⟩ := tryN_ok n (bs := bs) (l := l) h1
    exact ⟨okCur_mono k1 (by omega), k2.trans h2, k3.trans h3⟩

structure FamS where
  c : CurV
  l : List PerV
  id : Int

def famA (bs : List Int) (s : FamS) : TryS :=
  let c1 := pickC bs 3 s.c
  let c2 := pickC bs 20 c1
  let c3 := pickC bs 2 c2
  let born := 1500 + 8 * s.l.length + pickV bs 20 c1
  if oneV bs 2 c2 = true then ⟨pickC bs 5 c3, ⟨s.id + 1 + pickV bs 3 s.c, born, born + amV bs [0, 20, 40, 60, 80] 5 c3, 0, 0⟩⟩
  else ⟨c3, ⟨s.id + 1 + pickV bs 3 s.c, born, 0, 0, 0⟩⟩

def famF (bs : List Int) (s : FamS) : FamS := ⟨(tryN bs s.l 3 (famA bs s)).c, s.l ++ [(tryN bs s.l 3 (famA bs s)).p], s.id + 1 + pickV bs 3 s.c⟩

def famN (bs : List Int) : Nat → FamS → FamS
  | 0, s => s
  | n + 1, s => famN bs n (famF bs s)

theorem famA_ok {bs : List Int} (hb : okCod bs) {s : FamS} {m : Nat} (h : okCur m s.c) : okCur (m + 8) (famA bs s).c ∧ 1500 ≤ (famA bs s).p.born ∧ (famA bs s).p.born ≤ 1520 + 8 * s.l.length ∧ s.id + 1 ≤ (famA bs s).p.id ∧ (famA bs s).p.id ≤ s.id + 4 := by
  have h1 := pickV_le hb (n := 3) h.1
  have h2 := pickV_le hb (n := 20) (c := pickC bs 3 s.c) (okCur_pick h).1
  have k1 := okCur_pick (bs := bs) (n := 2) (okCur_pick (bs := bs) (n := 20) (okCur_pick (bs := bs) (n := 3) h))
  have h3 := h1.2 (by decide)
  have h4 := h2.2 (by decide)
  unfold famA
  simp only
  split
  · exact ⟨okCur_pick k1, by simp only; omega, by simp only; omega, by simp only; omega, by simp only; omega⟩
  · exact ⟨okCur_mono k1 (by omega), by simp only; omega, by simp only; omega, by simp only; omega, by simp only; omega⟩

theorem famN_len {bs : List Int} : ∀ (n : Nat) (s : FamS), (famN bs n s).l.length = s.l.length + n
  | 0, s => rfl
  | n + 1, s => by
    rw [famN, famN_len n, famF]
    simp only [List.length_append, List.length_singleton]
    omega

theorem famN_cur {bs : List Int} (hb : okCod bs) : ∀ (n : Nat) (s : FamS) (m : Nat), okCur m s.c → okCur (m + 20 * n) (famN bs n s).c
  | 0, s, m, h => h
  | n + 1, s, m, h => by
    have h1 := (tryN_ok 3 (bs := bs) (l := s.l) (famA_ok hb h).1).1
    have := famN_cur hb n (famF bs s) (m + 20) (by rw [famF]; exact okCur_mono h1 (by omega))
    exact okCur_mono this (by omega)

def famZ (bs : List Int) (c : CurV) : FamS := famN bs (pickV bs 12 c).toNat ⟨pickC bs 12 c, [], 0⟩

end Go.Proofs.YtdeobicgildamaaGreatDoor

namespace Go.Proofs.YtdeobicgildamaaGreatDoor
open Go.RowKit
set_option linter.unusedVariables false
set_option linter.unusedSimpArgs false

theorem rds_of_vals {w : World} {o : Bool} : ∀ xs : List Value, RDs w o (xs.map D.v) xs []
  | [] => by simp [RDs]
  | x :: xs => by
    simp only [List.map_cons, RDs, RD]
    exact ⟨x, xs, [], [], rfl, rfl, ⟨rfl, rfl⟩, rds_of_vals xs⟩

theorem splitOk : FnOk Tryz.prog 22 := ⟨_, Tryz.func22, by kernel_rfl, by kernel_rfl⟩

theorem split_fn (s sep : ByteArray) (hs : s.size < 4294967281) (h1 : 1 ≤ sep.size) : FnD Tryz.prog 22 [.str s, .str sep] (strs (splT s sep)) := by
  refine ⟨splitOk, fun w vs hv => ?_⟩
  obtain ⟨hv, hg⟩ := hv
  simp only [List.map_cons, List.map_nil, RCs, RC] at hv
  obtain ⟨v1, _, rfl, ⟨bs1, h1', _⟩, v2, _, rfl, ⟨bs2, h2, _⟩, rfl⟩ := hv
  simp only [RD] at h1' h2
  obtain ⟨rfl, _⟩ := h1'
  obtain ⟨rfl, _⟩ := h2
  obtain ⟨m, hm⟩ := hg _ (List.mem_singleton.2 rfl)
  refine (Tryz.strings_Split s sep m w hs hm h1).mono fun e w' hh => ?_
  obtain ⟨rfl, rfl⟩ := hh
  have hl2 : (splT s sep).length = Lib.countB s sep + 1 := splT_len h1
  rw [splB_eq]
  refine ⟨_, [w.heap.size], rfl, (Below.refl _ _).alloc (Nat.le_refl _) _, ?_, by simp, by simp⟩
  simp only [strs, RD]
  refine .inr ⟨w.heap.size, 0, Lib.countB s sep + 1, (splT s sep).map Value.string, [], by rw [hl2], rfl, by simp, by rw [hl2]; exact Nat.le_refl _, ⟨?_, ((splT s sep).map Value.string).toArray, _, (0, 0), push_at w _, fun i hi => by simp, fun _ => ⟨rfl, by simp [hl2]⟩⟩, ?_⟩
  · intro x hx
    obtain ⟨y, _, rfl⟩ := List.mem_map.1 hx
    rfl
  · have := rds_of_vals (w := w.alloc (.cells ((splT s sep).map Value.string).toArray 9)) (o := true) ((splT s sep).map Value.string)
    rw [List.map_map] at this
    exact this

def cutR (s sep : ByteArray) : D := .tu [.str (toB (Lib.cut s.data.toList sep.data.toList).1), .str (toB (Lib.cut s.data.toList sep.data.toList).2.1), .bool (Lib.cut s.data.toList sep.data.toList).2.2]

theorem trimPreOk : FnOk Tryz.prog 24 := ⟨_, Tryz.func24, by kernel_rfl, by kernel_rfl⟩

theorem trimPre_fn (s p : ByteArray) : FnD Tryz.prog 24 [.str s, .str p] (.str (toB (Lib.trimPrefix s.data.toList p.data.toList))) := by
  refine ⟨trimPreOk, fun w vs hv => ?_⟩
  obtain ⟨hv, _⟩ := hv
  simp only [List.map_cons, List.map_nil, RCs, RC] at hv
  obtain ⟨v1, _, rfl, ⟨bs1, h1', _⟩, v2, _, rfl, ⟨bs2, h2, _⟩, rfl⟩ := hv
  simp only [RD] at h1' h2
  obtain ⟨rfl, _⟩ := h1'
  obtain ⟨rfl, _⟩ := h2
  refine (Tryz.strings_TrimPrefix s p w).mono fun e w' hh => ?_
  obtain ⟨rfl, rfl⟩ := hh
  exact ⟨_, [], rfl, Below.refl _ _, by simp [RD, toB], List.nodup_nil, by simp⟩

end Go.Proofs.YtdeobicgildamaaGreatDoor

namespace Go.Proofs.YtdeobicgildamaaGreatDoor
open Go.ChangeShapes Go.WideShapes Go.ChangeAt Go.RowKit
set_option linter.unusedVariables false
set_option linter.unusedSimpArgs false

theorem bytes_es : ∀ es : List (List D), (∀ e ∈ es, HasSh .u8 e) → ∃ bs : List Int, bs.length = es.length ∧ bs.map byD = es.flatten ∧ ∀ x ∈ bs, 0 ≤ x ∧ x ≤ 255
  | [], _ => ⟨[], rfl, rfl, fun x hx => by cases hx⟩
  | e :: es, h => by
    have h0 := h e (by simp)
    rw [HasSh.eq_def] at h0
    obtain ⟨n, hn, hn2⟩ := h0
    obtain ⟨bs, h1, h2, h3⟩ := bytes_es es fun e he => h e (by simp [he])
    refine ⟨n :: bs, by simp [h1], ?_, ?_⟩
    · rw [List.map_cons, List.flatten_cons, h2, hn]
      rfl
    · intro x hx
      rcases List.mem_cons.1 hx with rfl | hx
      · exact hn2
      · exact h3 x hx

theorem bytes_of {d : D} (h : ArgSh (.sl .u8) d) : ∃ bs : List Int, d = codL bs ∧ (∀ x ∈ bs, 0 ≤ x ∧ x ≤ 255) ∧ bs.length ≤ 9223372036854775807 := by
  simp only [ArgSh] at h
  rw [HasSh.eq_def] at h
  obtain ⟨es, h1, h2, h3⟩ := h
  obtain ⟨bs, k1, k2, k3⟩ := bytes_es es h2
  refine ⟨bs, ?_, k3, by omega⟩
  rw [(List.cons.inj h1).1, codL, k1, k2]
  rfl

end Go.Proofs.YtdeobicgildamaaGreatDoor
