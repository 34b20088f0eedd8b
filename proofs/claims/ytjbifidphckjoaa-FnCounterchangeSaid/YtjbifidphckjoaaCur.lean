/- The draws' cursor: choices read from bytes. -/
import Derived.Test.YtjbifidphckjoaaRecs
import Derived.Test.YtjbifidphckjoaaBase
import Derived.Test.YtjbifidphckjoaaFacts
import Derived.Test.YtjbifidphckjoaaWords
import Derived.Test.YtjbifidphckjoaaBox
import Derived.WalkKit
import Derived.WalkSpells
import Derived.KernelRfl
namespace Go.Proofs.Ytjbifidphckjoaa
open Go.RowKit
set_option maxRecDepth 100000
set_option maxHeartbeats 4000000
set_option linter.unusedVariables false
set_option linter.unusedSimpArgs false

attribute [local simp] refs_dmap ints_plain ints_all ints_all1 ints_plain_take

def byD (n : Int) : D := .v (.int .u8 n)

def codL (bs : List Int) : D := .ls 1 bs.length (bs.map byD)

structure CurV where
 at' : Int
 seed : Int

def curO (bs : List Int) (c : CurV) : OB := .av [.d (codL bs), .d (.int c.at'), .d (.v (.int .u64 c.seed))]

theorem by_at {l : List Int} {i : Nat} {d : D} (h : i < l.length) : (l.map byD).getD i d = .v (.int .u8 (l.getD i 0)) := map_at l byD i d _ h

def sdF (seed b : Int) : Int := IntKind.u64.wrap (IntKind.u64.wrap (IntKind.u64.wrap (seed * 6364136223846793005) + IntKind.u64.wrap b) + 884884)

attribute [local go_sem] curO codL

attribute [local simp] curO codL

def nxB (bs : List Int) (c : CurV) : Int := if c.at' < bs.length then bs.getD c.at'.toNat 0 else 0

def nxC (bs : List Int) (c : CurV) : CurV := ⟨c.at' + 1, sdF c.seed (nxB bs c)⟩

def hiF (seed : Int) : Int := bits .and .u64 (seed.fdiv (2 ^ min 40 64)) 255

def nxV (bs : List Int) (c : CurV) : Int := if c.at' + 1 <= bs.length then nxB bs c else hiF (sdF c.seed (nxB bs c))

def okCod (bs : List Int) : Prop := (∀ x ∈ bs, 0 <= x /\ x <= 255) /\ bs.length <= 65536

def okCur (n : Nat) (c : CurV) : Prop := 0 <= c.at' /\ c.at' <= n

theorem hiF_le (s : Int) : 0 <= hiF s /\ hiF s <= 255 := by
 unfold hiF bits
 simp only [IntKind.wrap_u64]
 have h1 : ((BitVec.ofInt IntKind.u64.bits (s.fdiv (2 ^ min 40 64)) &&& BitVec.ofInt IntKind.u64.bits 255).toNat) <= 255 := by
  rw [BitVec.toNat_and]
  exact Nat.le_trans Nat.and_le_right (by decide)
 omega

theorem nxB_le {bs : List Int} (h : okCod bs) {c : CurV} (h0 : 0 <= c.at') : 0 <= nxB bs c /\ nxB bs c <= 255 := by
 unfold nxB
 split
 · exact h.1 _ (getD_mem 0 (by omega))
 · omega

theorem nxV_le {bs : List Int} (h : okCod bs) {c : CurV} (h0 : 0 <= c.at') : 0 <= nxV bs c /\ nxV bs c <= 255 := by
 unfold nxV
 split
 · exact nxB_le h h0
 · exact hiF_le _

set_option maxRecDepth 100000 in
theorem pl_Cur_91_2 (l : List Oper) (h : l = opsOf Try.f91 2) : planB l (.pure 0 (.pure 1 (.pure 2 (.pure 3 (.pure 4 (.pure 5 (.pure 6 (.pure 7 (.pure 8 (.pure 9 PT.fin)))))))))) [] = true := by
 subst h
 kernel_rfl

set_option maxRecDepth 100000 in
theorem pl_Cur_91_3 (l : List Oper) (h : l = opsOf Try.f91 3) : planB l (.pure 0 (.pure 1 (.pure 2 (.pure 3 (.pure 4 (.pure 5 (.pure 6 (.pure 7 (.pure 8 (.pure 9 (.pure 10 (.pure 11 PT.fin)))))))))))) [] = true := by
 subst h
 kernel_rfl

set_option maxRecDepth 100000 in
theorem pl_Cur_91_6 (l : List Oper) (h : l = opsOf Try.f91 6) : planB l (.pure 0 (.pure 1 (.pure 2 (.pure 3 (.pure 4 (.pure 5 (.pure 6 (.pure 7 (.pure 8 (.pure 9 PT.fin)))))))))) [] = true := by
 subst h
 kernel_rfl

theorem next_hi (bs : List Int) (c : CurV) (hb : okCod bs) (h0 : okCur 1000000 c) : FnS Try.prog 91 [(5000, curO bs c)] [.bp 5000 0] [(5000, curO bs (nxC bs c))] (.d (.int (nxV bs c))) := by
 obtain ⟨h0, h1⟩ := h0
 have hl := hb.2
 have hle := nxB_le hb h0
 have hB : nxB bs c = if c.at' < bs.length then bs.getD c.at'.toNat 0 else 0 := rfl
 have hV : nxV bs c = if c.at' + 1 <= bs.length then nxB bs c else hiF (sdF c.seed (nxB bs c)) := rfl
 have hh := hiF_le (sdF c.seed (nxB bs c))
 have hS : IntKind.u64.wrap (IntKind.u64.wrap (IntKind.u64.wrap (c.seed * 6364136223846793005) + IntKind.u64.wrap (nxB bs c)) + 884884) = sdF c.seed (nxB bs c) := rfl
 have hH : bits .and .u64 ((sdF c.seed (nxB bs c)).fdiv (2 ^ min 40 64)) 255 = hiF (sdF c.seed (nxB bs c)) := rfl
 have hC : nxC bs c = ⟨c.at' + 1, sdF c.seed (nxB bs c)⟩ := rfl
 rw [hC]
 generalize nxV bs c = v at *
 generalize nxB bs c = b at *
 generalize sdF c.seed b = sd at *
 generalize hiF sd = hv at *
 by_cases hlt : c.at' < bs.length
 ·
  rw [if_pos hlt] at hB
  have hle1 : c.at' + 1 <= bs.length := by omega
  rw [if_pos hle1] at hV
  subst hV
  have hw := wr (n := v) (by omega) (by omega)
  refine fns_go Try.func91 rfl rfl Try.ntmps91 Try.results91 (by simp only [slotsA, Nat.reduceAdd]; rfl) (by simp) rfl ?_
  repeat' (first | (with_reducible first | refine aw_seq fun K hK => ?_ | refine aw_region (by kernel_rfl) ?_ | refine aw_condk ?_) | ((with_reducible refine ev_aw ?_); first | (refine aw_draw (id := 2) (by kernel_rfl) _ _ (by kernel_rfl) (pl_Cur_91_2 _ (by kernel_rfl)) ?_) | (refine aw_draw (id := 3) (by kernel_rfl) _ _ (by kernel_rfl) (pl_Cur_91_3 _ (by kernel_rfl)) ?_) | (refine aw_draw (id := 6) (by kernel_rfl) _ _ (by kernel_rfl) (pl_Cur_91_6 _ (by kernel_rfl)) ?_)) | (with_reducible first | refine ru_four ?_ ?_ ?_ ?_ | refine ru_three ?_ ?_ ?_ | refine ru_two ?_ ?_ | refine rv_split ?_ ?_ | refine rv_two ?_ ?_ | refine rp_two ?_ ?_) | ((with_reducible refine evg ?_); simp only [go_sem, St.clean, cleanO, ↓reduceIte, Nat.reduceEqDiff, Nat.reduceBEq, Nat.reduceAdd, Nat.reduceMul, Nat.reduceSub, Nat.reduceLT, Nat.reduceLeDiff]) | (simp (disch := omega) only [dsq, Int.reduceSub, Int.reduceAdd, Int.reduceToNat, by_at, ← hB, hw, hS, hH]) | ((with_reducible refine ck_split (fun h => ?_) (fun h => ?_)) <;> (try simp only [nrm] at h) <;> (try ((with_reducible exfalso); omega))) | ((with_reducible refine And.intro ?_ ?_); (focus first | omega | (simp; done) | (simp; omega) | ((repeat' (with_reducible refine And.intro ?_ ?_)) <;> first | omega | rfl | (simp only [go_sem, refsL_app, refs_dmap] <;> fail) | (simp [refsL_app, refs_dmap, AV.refsL, AV.refs] <;> omega)))) | (with_reducible refine hJ _ (fun K hK => ?_) ?_ <;> clear hJ KJ) | ((with_reducible refine ev_less ?_); (refine ⟨rfl, ?_, ?_⟩ <;> simp only [go_sem, St.clean, cleanO, SubS, SubO, beq_self_eq_true, ↓reduceIte, Nat.reduceEqDiff, Nat.reduceBEq, Nat.reduceAdd, Nat.reduceMul, Nat.reduceSub, Nat.reduceLT, Nat.reduceLeDiff])) | ((with_reducible first | apply hK | (clear hK K; first | apply hK | (clear hK K; apply hK))); clear hK K) | fail)
  all_goals exact ress_tmp (by simp [lensO, lookO, obCells]) ⟨rfl, trivial⟩ rfl
 ·
  rw [if_neg hlt] at hB
  have hle1 : ¬ c.at' + 1 <= bs.length := by omega
  rw [if_neg hle1] at hV
  subst hV
  subst hB
  have hw := wr (n := v) (by omega) (by omega)
  refine fns_go Try.func91 rfl rfl Try.ntmps91 Try.results91 (by simp only [slotsA, Nat.reduceAdd]; rfl) (by simp) rfl ?_
  repeat' (first | (with_reducible first | refine aw_seq fun K hK => ?_ | refine aw_region (by kernel_rfl) ?_ | refine aw_condk ?_) | ((with_reducible refine ev_aw ?_); first | (refine aw_draw (id := 2) (by kernel_rfl) _ _ (by kernel_rfl) (pl_Cur_91_2 _ (by kernel_rfl)) ?_) | (refine aw_draw (id := 3) (by kernel_rfl) _ _ (by kernel_rfl) (pl_Cur_91_3 _ (by kernel_rfl)) ?_) | (refine aw_draw (id := 6) (by kernel_rfl) _ _ (by kernel_rfl) (pl_Cur_91_6 _ (by kernel_rfl)) ?_)) | (with_reducible first | refine ru_four ?_ ?_ ?_ ?_ | refine ru_three ?_ ?_ ?_ | refine ru_two ?_ ?_ | refine rv_split ?_ ?_ | refine rv_two ?_ ?_ | refine rp_two ?_ ?_) | ((with_reducible refine evg ?_); simp only [go_sem, St.clean, cleanO, ↓reduceIte, Nat.reduceEqDiff, Nat.reduceBEq, Nat.reduceAdd, Nat.reduceMul, Nat.reduceSub, Nat.reduceLT, Nat.reduceLeDiff]) | (simp (disch := omega) only [dsq, Int.reduceSub, Int.reduceAdd, Int.reduceToNat, hS, hH, hw]) | ((with_reducible refine ck_split (fun h => ?_) (fun h => ?_)) <;> (try simp only [nrm] at h) <;> (try ((with_reducible exfalso); omega))) | ((with_reducible refine And.intro ?_ ?_); (focus first | omega | (simp; done) | (simp; omega) | ((repeat' (with_reducible refine And.intro ?_ ?_)) <;> first | omega | rfl | (simp only [go_sem, refsL_app, refs_dmap] <;> fail) | (simp [refsL_app, refs_dmap, AV.refsL, AV.refs] <;> omega)))) | (with_reducible refine hJ _ (fun K hK => ?_) ?_ <;> clear hJ KJ) | ((with_reducible refine ev_less ?_); (refine ⟨rfl, ?_, ?_⟩ <;> simp only [go_sem, St.clean, cleanO, SubS, SubO, beq_self_eq_true, ↓reduceIte, Nat.reduceEqDiff, Nat.reduceBEq, Nat.reduceAdd, Nat.reduceMul, Nat.reduceSub, Nat.reduceLT, Nat.reduceLeDiff])) | ((with_reducible first | apply hK | (clear hK K; first | apply hK | (clear hK K; apply hK))); clear hK K) | fail)
  all_goals exact ress_tmp (by simp [lensO, lookO, obCells]) ⟨rfl, trivial⟩ rfl

theorem next_at (s : Nat) (bs : List Int) (c : CurV) (hb : okCod bs) (h0 : okCur 1000000 c) : FnS Try.prog 91 [(s, curO bs c)] [.bp s 0] [(s, curO bs (nxC bs c))] (.d (.int (nxV bs c))) := by
 have h := (next_hi bs c hb h0).sw 5000 s
 simpa only [curO, swO, AV.swL, AV.sw, OB.sw, swp, if_true] using h

theorem okCur_nx {n : Nat} {bs : List Int} {c : CurV} (h : okCur n c) : okCur (n + 1) (nxC bs c) := ⟨by have := h.1; simp only [nxC]; omega, by have := h.2; simp only [nxC]; omega⟩

theorem okCur_mono {m n : Nat} {c : CurV} (h : okCur m c) (hmn : m <= n) : okCur n c := ⟨h.1, by have := h.2; omega⟩

def pickV (bs : List Int) (n : Int) (c : CurV) : Int := if n <= 1 then 0 else if 200 < n then (nxV bs c * 256 + nxV bs (nxC bs c)).tmod n else (nxV bs c).tmod n

def pickC (bs : List Int) (n : Int) (c : CurV) : CurV := if n <= 1 then c else if 200 < n then nxC bs (nxC bs c) else nxC bs c

theorem okCur_pick {m : Nat} {bs : List Int} {n : Int} {c : CurV} (h : okCur m c) : okCur (m + 2) (pickC bs n c) := by
 unfold pickC
 split
 · exact okCur_mono h (by omega)
 ·
  split
  · exact okCur_nx (okCur_nx h)
  · exact okCur_mono (okCur_nx h) (by omega)

theorem pickV_le {bs : List Int} (hb : okCod bs) {n : Int} {c : CurV} (h : 0 <= c.at') : 0 <= pickV bs n c /\ (1 <= n -> pickV bs n c < n) := by
 have h1 := nxV_le hb h
 have h2 := nxV_le hb (c := nxC bs c) (by simp only [nxC]; omega)
 unfold pickV
 split
 · omega
 ·
  split
  · exact ⟨Int.tmod_nonneg _ (by omega), fun _ => Int.tmod_lt_of_pos _ (by omega)⟩
  · exact ⟨Int.tmod_nonneg _ (by omega), fun _ => Int.tmod_lt_of_pos _ (by omega)⟩

theorem pick_at (s : Nat) (bs : List Int) (n : Int) (c : CurV) (hb : okCod bs) (h0 : okCur 900000 c) : FnS Try.prog 67 [(s, curO bs c)] [.bp s 0, .d (.int n)] [(s, curO bs (pickC bs n c))] (.d (.int (pickV bs n c))) := by
 have hi : FnS Try.prog 67 [(5000, curO bs c)] [.bp 5000 0, .d (.int n)] [(5000, curO bs (pickC bs n c))] (.d (.int (pickV bs n c))) := by
  have e1 := next_at 5000 bs c hb (okCur_mono h0 (by omega))
  have e2 := next_at 5000 bs (nxC bs c) hb (okCur_mono (okCur_nx h0) (by omega))
  have b1 := nxV_le hb h0.1
  have b2 := nxV_le hb (c := nxC bs c) (by have := h0.1; simp only [nxC]; omega)
  have hpv : pickV bs n c = if n <= 1 then 0 else if 200 < n then (nxV bs c * 256 + nxV bs (nxC bs c)).tmod n else (nxV bs c).tmod n := rfl
  have hpc : pickC bs n c = if n <= 1 then c else if 200 < n then nxC bs (nxC bs c) else nxC bs c := rfl
  generalize pickV bs n c = v at *
  generalize pickC bs n c = c' at *
  generalize nxV bs (nxC bs c) = v2 at *
  generalize nxC bs (nxC bs c) = c2 at *
  generalize nxV bs c = v1 at *
  generalize nxC bs c = c1 at *
  by_cases g1 : n <= 1
  ·
   rw [if_pos g1] at hpv hpc
   subst hpv
   subst hpc
   refine fns_go Try.func67 rfl rfl Try.ntmps67 Try.results67 (by simp only [slotsA, Nat.reduceAdd]; rfl) (by simp) rfl ?_
   repeat' (first | (with_reducible first | refine aw_seq fun K hK => ?_ | refine aw_region (by kernel_rfl) ?_ | refine aw_condk ?_) | ((with_reducible refine evg ?_); simp only [go_sem, ↓reduceIte, Nat.reduceEqDiff, Nat.reduceBEq, Nat.reduceAdd, Nat.reduceMul, Nat.reduceSub, Nat.reduceLT, Nat.reduceLeDiff]) | (simp (disch := omega) only [dsq, Int.reduceSub, Int.reduceAdd, Int.reduceToNat]) | ((with_reducible refine ev_call ?_); (first | (refine call_s e1 ?_ ?_ ?_ ?_ ?_; (focus rfl); (focus first | exact trivial | exact And.intro rfl trivial | exact ⟨rfl, rfl, trivial⟩ | exact ⟨rfl, rfl, rfl, trivial⟩); (focus rfl); (focus (simp [-List.map_map, apartO, dropO, killN, obCells, refs_dmap, nofnsD, AV.refs, AV.refsL, AV.nofn, AV.nofns] <;> fail))) | (refine call_s e2 ?_ ?_ ?_ ?_ ?_; (focus rfl); (focus first | exact trivial | exact And.intro rfl trivial | exact ⟨rfl, rfl, trivial⟩ | exact ⟨rfl, rfl, rfl, trivial⟩); (focus rfl); (focus (simp [-List.map_map, apartO, dropO, killN, obCells, refs_dmap, nofnsD, AV.refs, AV.refsL, AV.nofn, AV.nofns] <;> fail)))); refine k_run ?_) | ((with_reducible refine ck_split (fun h => ?_) (fun h => ?_)) <;> (try simp only [nrm] at h) <;> (try ((with_reducible exfalso); omega))) | ((with_reducible refine And.intro ?_ ?_); (focus first | omega | (simp; done) | (simp; omega) | ((repeat' (with_reducible refine And.intro ?_ ?_)) <;> first | omega | rfl | (simp only [go_sem, refsL_app, refs_dmap] <;> fail) | (simp [refsL_app, refs_dmap, AV.refsL, AV.refs] <;> omega)))) | ((with_reducible first | apply hK | (clear hK K; first | apply hK | (clear hK K; apply hK))); clear hK K) | fail)
   all_goals exact ress_tmp (by simp [lensO, lookO, obCells]) ⟨rfl, trivial⟩ rfl
  ·
   rw [if_neg g1] at hpv hpc
   by_cases g2 : 200 < n
   ·
    rw [if_pos g2] at hpv hpc
    subst hpv
    subst hpc
    refine fns_go Try.func67 rfl rfl Try.ntmps67 Try.results67 (by simp only [slotsA, Nat.reduceAdd]; rfl) (by simp) rfl ?_
    repeat' (first | (with_reducible first | refine aw_seq fun K hK => ?_ | refine aw_region (by kernel_rfl) ?_ | refine aw_condk ?_) | ((with_reducible refine evg ?_); simp only [go_sem, ↓reduceIte, Nat.reduceEqDiff, Nat.reduceBEq, Nat.reduceAdd, Nat.reduceMul, Nat.reduceSub, Nat.reduceLT, Nat.reduceLeDiff]) | (simp (disch := omega) only [dsq, Int.reduceSub, Int.reduceAdd, Int.reduceToNat]) | ((with_reducible refine ev_call ?_); (first | (refine call_s e1 ?_ ?_ ?_ ?_ ?_; (focus rfl); (focus first | exact trivial | exact And.intro rfl trivial | exact ⟨rfl, rfl, trivial⟩ | exact ⟨rfl, rfl, rfl, trivial⟩); (focus rfl); (focus (simp [-List.map_map, apartO, dropO, killN, obCells, refs_dmap, nofnsD, AV.refs, AV.refsL, AV.nofn, AV.nofns] <;> fail))) | (refine call_s e2 ?_ ?_ ?_ ?_ ?_; (focus rfl); (focus first | exact trivial | exact And.intro rfl trivial | exact ⟨rfl, rfl, trivial⟩ | exact ⟨rfl, rfl, rfl, trivial⟩); (focus rfl); (focus (simp [-List.map_map, apartO, dropO, killN, obCells, refs_dmap, nofnsD, AV.refs, AV.refsL, AV.nofn, AV.nofns] <;> fail)))); refine k_run ?_) | ((with_reducible refine ck_split (fun h => ?_) (fun h => ?_)) <;> (try simp only [nrm] at h) <;> (try ((with_reducible exfalso); omega))) | ((with_reducible refine And.intro ?_ ?_); (focus first | omega | (simp; done) | (simp; omega) | ((repeat' (with_reducible refine And.intro ?_ ?_)) <;> first | omega | rfl | (simp only [go_sem, refsL_app, refs_dmap] <;> fail) | (simp [refsL_app, refs_dmap, AV.refsL, AV.refs] <;> omega)))) | ((with_reducible first | apply hK | (clear hK K; first | apply hK | (clear hK K; apply hK))); clear hK K) | fail)
    all_goals exact ress_tmp (by simp [lensO, lookO, obCells]) ⟨rfl, trivial⟩ rfl
   ·
    rw [if_neg g2] at hpv hpc
    subst hpv
    subst hpc
    refine fns_go Try.func67 rfl rfl Try.ntmps67 Try.results67 (by simp only [slotsA, Nat.reduceAdd]; rfl) (by simp) rfl ?_
    repeat' (first | (with_reducible first | refine aw_seq fun K hK => ?_ | refine aw_region (by kernel_rfl) ?_ | refine aw_condk ?_) | ((with_reducible refine evg ?_); simp only [go_sem, ↓reduceIte, Nat.reduceEqDiff, Nat.reduceBEq, Nat.reduceAdd, Nat.reduceMul, Nat.reduceSub, Nat.reduceLT, Nat.reduceLeDiff]) | (simp (disch := omega) only [dsq, Int.reduceSub, Int.reduceAdd, Int.reduceToNat]) | ((with_reducible refine ev_call ?_); (first | (refine call_s e1 ?_ ?_ ?_ ?_ ?_; (focus rfl); (focus first | exact trivial | exact And.intro rfl trivial | exact ⟨rfl, rfl, trivial⟩ | exact ⟨rfl, rfl, rfl, trivial⟩); (focus rfl); (focus (simp [-List.map_map, apartO, dropO, killN, obCells, refs_dmap, nofnsD, AV.refs, AV.refsL, AV.nofn, AV.nofns] <;> fail))) | (refine call_s e2 ?_ ?_ ?_ ?_ ?_; (focus rfl); (focus first | exact trivial | exact And.intro rfl trivial | exact ⟨rfl, rfl, trivial⟩ | exact ⟨rfl, rfl, rfl, trivial⟩); (focus rfl); (focus (simp [-List.map_map, apartO, dropO, killN, obCells, refs_dmap, nofnsD, AV.refs, AV.refsL, AV.nofn, AV.nofns] <;> fail)))); refine k_run ?_) | ((with_reducible refine ck_split (fun h => ?_) (fun h => ?_)) <;> (try simp only [nrm] at h) <;> (try ((with_reducible exfalso); omega))) | ((with_reducible refine And.intro ?_ ?_); (focus first | omega | (simp; done) | (simp; omega) | ((repeat' (with_reducible refine And.intro ?_ ?_)) <;> first | omega | rfl | (simp only [go_sem, refsL_app, refs_dmap] <;> fail) | (simp [refsL_app, refs_dmap, AV.refsL, AV.refs] <;> omega)))) | ((with_reducible first | apply hK | (clear hK K; first | apply hK | (clear hK K; apply hK))); clear hK K) | fail)
    all_goals exact ress_tmp (by simp [lensO, lookO, obCells]) ⟨rfl, trivial⟩ rfl
 have h := hi.sw 5000 s
 simpa only [curO, swO, AV.swL, AV.sw, OB.sw, swp, if_true] using h

def oneV (bs : List Int) (n : Int) (c : CurV) : Bool := pickV bs n c == 0

theorem one_at (s : Nat) (bs : List Int) (n : Int) (c : CurV) (hb : okCod bs) (h0 : okCur 900000 c) : FnS Try.prog 57 [(s, curO bs c)] [.bp s 0, .d (.int n)] [(s, curO bs (pickC bs n c))] (.d (.bool (oneV bs n c))) := by
 have hi : FnS Try.prog 57 [(5000, curO bs c)] [.bp 5000 0, .d (.int n)] [(5000, curO bs (pickC bs n c))] (.d (.bool (oneV bs n c))) := by
  have e1 := pick_at 5000 bs n c hb h0
  unfold oneV
  generalize pickV bs n c = v at *
  generalize pickC bs n c = c' at *
  refine fns_go Try.func57 rfl rfl Try.ntmps57 Try.results57 (by simp only [slotsA, Nat.reduceAdd]; rfl) (by simp) rfl ?_
  repeat' (first | (with_reducible first | refine aw_seq fun K hK => ?_ | refine aw_region (by kernel_rfl) ?_) | ((with_reducible refine evg ?_); simp only [go_sem, ↓reduceIte, Nat.reduceEqDiff, Nat.reduceBEq, Nat.reduceAdd, Nat.reduceMul, Nat.reduceSub, Nat.reduceLT, Nat.reduceLeDiff]) | (simp (disch := omega) only [dsq, Int.reduceSub, Int.reduceAdd, Int.reduceToNat]) | ((with_reducible refine ev_call ?_); (first | (refine call_s e1 ?_ ?_ ?_ ?_ ?_; (focus rfl); (focus first | exact trivial | exact And.intro rfl trivial | exact ⟨rfl, rfl, trivial⟩ | exact ⟨rfl, rfl, rfl, trivial⟩); (focus rfl); (focus (simp [-List.map_map, apartO, dropO, killN, obCells, refs_dmap, nofnsD, AV.refs, AV.refsL, AV.nofn, AV.nofns] <;> fail)))); refine k_run ?_) | ((with_reducible refine And.intro ?_ ?_); (focus first | omega | (simp; done) | (simp; omega) | ((repeat' (with_reducible refine And.intro ?_ ?_)) <;> first | omega | rfl | (simp only [go_sem, refsL_app, refs_dmap] <;> fail) | (simp [refsL_app, refs_dmap, AV.refsL, AV.refs] <;> omega)))) | ((with_reducible first | apply hK | (clear hK K; first | apply hK | (clear hK K; apply hK))); clear hK K) | fail)
  all_goals exact ress_tmp (by simp [lensO, lookO, obCells]) ⟨rfl, trivial⟩ rfl
 have h := hi.sw 5000 s
 simpa only [curO, swO, AV.swL, AV.sw, OB.sw, swp, if_true] using h

def amV (bs : List Int) (zs : List Int) (m : Nat) (c : CurV) : Int := zs.getD (pickV bs m c).toNat 0

theorem among_at (s t : Nat) (bs zs : List Int) (m : Nat) (c : CurV) (hb : okCod bs) (h0 : okCur 900000 c) (hm : 1 <= m) (hmz : m <= zs.length) (hz : zs.length <= 1000) (hs : s <= 5000) (ht : t < 5000) (hst : s ≠ t) : FnS Try.prog 53 [(s, curO bs c), (t, .ds (zs.map D.int))] [.bp s 0, .bs t 0 m 1] [(s, curO bs (pickC bs m c)), (t, .ds (zs.map D.int))] (.d (.int (amV bs zs m c))) := by
 have hi : FnS Try.prog 53 [(5000, curO bs c), (5001, .ds (zs.map D.int))] [.bp 5000 0, .bs 5001 0 m 1] [(5000, curO bs (pickC bs m c)), (5001, .ds (zs.map D.int))] (.d (.int (amV bs zs m c))) := by
  have e1 := pick_at 5000 bs m c hb h0
  have b1 := pickV_le hb (n := m) h0.1
  have b2 := b1.2 (by omega)
  have hV : amV bs zs m c = zs.getD (pickV bs m c).toNat 0 := rfl
  generalize amV bs zs m c = z at *
  generalize pickV bs m c = v at *
  generalize pickC bs m c = c' at *
  obtain ⟨k, rfl⟩ := Int.eq_ofNat_of_zero_le b1.1
  rw [Int.toNat_natCast] at hV
  refine fns_go Try.func53 rfl rfl Try.ntmps53 Try.results53 (by simp only [slotsA, Nat.reduceAdd]; rfl) (by simp) rfl ?_
  repeat' (first | (with_reducible first | refine aw_seq fun K hK => ?_ | refine aw_region (by kernel_rfl) ?_) | ((with_reducible refine evg ?_); simp only [go_sem, ↓reduceIte, Nat.reduceEqDiff, Nat.reduceBEq, Nat.reduceAdd, Nat.reduceMul, Nat.reduceSub, Nat.reduceLT, Nat.reduceLeDiff]) | (simp (disch := omega) only [dsq, Int.reduceSub, Int.reduceAdd, Int.reduceToNat, int_at, ← hV]) | ((with_reducible refine ev_call ?_); (first | (refine call_s e1 ?_ ?_ ?_ ?_ ?_; (focus rfl); (focus first | exact trivial | exact And.intro rfl trivial | exact ⟨rfl, rfl, trivial⟩ | exact ⟨rfl, rfl, rfl, trivial⟩); (focus rfl); (focus (simp [-List.map_map, apartO, dropO, killN, obCells, refs_dmap, nofnsD, AV.refs, AV.refsL, AV.nofn, AV.nofns] <;> fail)))); refine k_run ?_) | ((with_reducible refine And.intro ?_ ?_); (focus first | omega | (simp; done) | (simp; omega) | ((repeat' (with_reducible refine And.intro ?_ ?_)) <;> first | omega | rfl | (simp only [go_sem, refsL_app, refs_dmap] <;> fail) | (simp [refsL_app, refs_dmap, AV.refsL, AV.refs] <;> omega)))) | ((with_reducible first | apply hK | (clear hK K; first | apply hK | (clear hK K; apply hK))); clear hK K) | fail)
  all_goals exact ress_tmp (by simp [lensO, lookO, obCells]) ⟨rfl, rfl, trivial⟩ rfl
 have h := (hi.sw 5000 s).sw 5001 t
 have e1 : swp 5000 s 5001 = 5001 := by
  have : 5001 ≠ s := by omega
  simp [swp, this]
 have e2 : swp 5001 t s = s := by
  have h1 : s ≠ 5001 := by omega
  simp [swp, h1, hst]
 simpa only [curO, swO, AV.swL, AV.sw, OB.sw, sw_self, e1, e2] using h

end Go.Proofs.Ytjbifidphckjoaa
