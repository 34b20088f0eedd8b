/- Regions that are drawn. -/
import Derived.Test.YtjbifidphckjoaaRgP
import Derived.Test.YtjbifidphckjoaaCur
import Derived.WalkKit
import Derived.WalkSpells
import Derived.KernelRfl
namespace Go.Proofs.Ytjbifidphckjoaa
open Go.RowKit
set_option maxRecDepth 100000
set_option maxHeartbeats 4000000
set_option linter.unusedVariables false
set_option linter.unusedSimpArgs false

attribute [local go_sem] intL curO codL

attribute [local simp] refs_dmap ints_plain ints_all ints_all1 ints_plain_take curO codL

theorem regQ_good (p : Int -> Int -> Bool) : okReg (regZ p) = true := by
 simp only [okReg, Bool.and_eq_true, decide_eq_true_eq, List.all_eq_true, List.mem_range]
 refine ⟨regZ_len p, fun y hy => ?_⟩
 rw [regZ_at hy, okRow, rowI, Bool.and_eq_true, decide_eq_true_eq, beq_iff_eq, Int.toNat_natCast]
 refine ⟨Int.natCast_nonneg _, ?_⟩
 apply Nat.eq_of_testBit_eq
 intro x
 simp only [Nat.testBit_and, rowN_bit, cellP, Bool.and_true]
 cases decide (x < 20) <;> cases inSh x y <;> cases p x y <;> rfl

theorem ressQ_step {P : Program} {σ : St} {rs : List ResultVar} {ob ob' : List (Nat × OB)} {res : AV} (ps : List (Nat × Nat)) (hlen : rs.length <= 4) (hl : lensO ob ob') (ho : offSw ob ps = true) (hs : SubO (swsO ps σ.ob) ob') (h : resStep P σ rs (fun xs => swsA ps (joinR xs) = res)) : ResS P rs σ ob ob' res := by
 obtain ⟨p, xs, h1, h2, h3⟩ := resStep_sound h
 exact ⟨hlen, hl, ps, ho, hs, by rw [h1]; exact ⟨h2, h3⟩⟩

structure RegS where
 c : CurV
 z : List Int

def rgAddN (bs : List Int) : Nat -> RegS -> RegS
 | 0, s => s
 | n + 1, s => rgAddN bs n ⟨pickC bs 24 (pickC bs 20 s.c), addZ s.z (pickV bs 20 s.c).toNat (pickV bs 24 (pickC bs 20 s.c)).toNat⟩

def rgA (bs : List Int) (c : CurV) : RegS :=
 ⟨pickC bs 3 (pickC bs 8 (pickC bs 2 (pickC bs 8 c))), combZ (regZ (prtP (pickV bs 8 c) (pickV bs 2 (pickC bs 8 c)))) (regZ (odP (pickV bs 8 (pickC bs 2 (pickC bs 8 c))))) (1 + pickV bs 3 (pickC bs 8 (pickC bs 2 (pickC bs 8 c))))⟩

def rgB (bs : List Int) (s : RegS) : RegS := rgAddN bs (pickV bs 6 s.c).toNat ⟨pickC bs 6 s.c, s.z⟩

def rgC (bs : List Int) (s : RegS) : RegS := ⟨pickC bs 12 s.c, if pickV bs 12 s.c = 0 then rg0 else if pickV bs 12 s.c = 1 then shZ else s.z⟩

def rgS (bs : List Int) (c : CurV) : RegS := rgC bs (rgB bs (rgA bs c))

def alI (zs : List Int) : Prop := ∀ x ∈ zs, -9223372036854775808 <= x /\ x <= 9223372036854775807

theorem alI_in {zs : List Int} (h : alI zs) : inI zs := fun i => by
 by_cases hi : i < zs.length
 · exact h _ (getD_mem 0 hi)
 ·
  rw [List.getD_eq_getElem?_getD, List.getElem?_eq_none (by omega)]
  simp

theorem bits_in (op : BinOp) (a b : Int) : -9223372036854775808 <= bits op .i64 a b /\ bits op .i64 a b <= 9223372036854775807 := by
 cases op
 all_goals
  unfold bits
  simp only [IntKind.wrap_i64]
  omega

theorem alI_set {zs : List Int} (h : alI zs) (i : Nat) {v : Int} (hv : -9223372036854775808 <= v /\ v <= 9223372036854775807) : alI (zs.set i v) := fun x hx => by
 rcases List.mem_or_eq_of_mem_set hx with h1 | h1
 · exact h x h1
 ·
  subst h1
  exact hv

theorem alI_add {zs : List Int} (h : alI zs) (x y : Nat) : alI (addZ zs x y) := by
 unfold addZ
 split
 · exact alI_set h _ (bits_in _ _ _)
 · exact h

theorem alI_comb (a b : List Int) (how : Int) : alI (combZ a b how) := fun x hx => by
 simp only [combZ, tab, List.mem_map] at hx
 obtain ⟨y, _, rfl⟩ := hx
 unfold cmbI
 split
 · exact bits_in _ _ _
 ·
  split
  · exact bits_in _ _ _
  · exact bits_in _ _ _

theorem alI_reg (p : Int -> Int -> Bool) : alI (regZ p) := fun x hx => by
 simp only [regZ, tab, List.mem_map] at hx
 obtain ⟨y, _, rfl⟩ := hx
 have := rowN_lt (cellP p y) 20
 simp only [rowI]
 omega

theorem alI_rg0 : alI rg0 := fun x hx => by
 have := List.eq_of_mem_replicate hx
 omega

def okRS (n : Nat) (s : RegS) : Prop := okCur n s.c /\ s.z.length = 24 /\ alI s.z

theorem rgAddN_ok {bs : List Int} : ∀ (k n : Nat) (s : RegS), okRS n s -> okRS (n + 4 * k) (rgAddN bs k s)
 | 0, _, _, h => h
 | k + 1, n, s, h => by
  have h1 := okCur_pick (bs := bs) (n := 20) h.1
  have h2 := okCur_pick (bs := bs) (n := 24) h1
  have := rgAddN_ok k (n + 4) ⟨pickC bs 24 (pickC bs 20 s.c), addZ s.z (pickV bs 20 s.c).toNat (pickV bs 24 (pickC bs 20 s.c)).toNat⟩ (bs := bs) ⟨okCur_mono h2 (by omega), by simpa using h.2.1, alI_add h.2.2 _ _⟩
  rw [rgAddN]
  exact ⟨okCur_mono this.1 (by omega), this.2⟩

theorem rgA_ok {bs : List Int} {n : Nat} {c : CurV} (h : okCur n c) : okRS (n + 8) (rgA bs c) := by
 have h1 := okCur_pick (bs := bs) (n := 8) h
 have h2 := okCur_pick (bs := bs) (n := 2) h1
 have h3 := okCur_pick (bs := bs) (n := 8) h2
 have h4 := okCur_pick (bs := bs) (n := 3) h3
 exact ⟨okCur_mono h4 (by omega), combZ_len _ _ _, alI_comb _ _ _⟩

theorem rgB_ok {bs : List Int} (hb : okCod bs) {n : Nat} {s : RegS} (h : okRS n s) : okRS (n + 30) (rgB bs s) := by
 have h1 := okCur_pick (bs := bs) (n := 6) h.1
 have p1 := pickV_le hb (n := 6) h.1.1
 have p2 := p1.2 (by decide)
 have := rgAddN_ok (bs := bs) (pickV bs 6 s.c).toNat (n + 2) ⟨pickC bs 6 s.c, s.z⟩ ⟨h1, h.2⟩
 exact ⟨okCur_mono this.1 (by omega), this.2⟩

theorem rgC_ok {bs : List Int} {n : Nat} {s : RegS} (h : okRS n s) : okRS (n + 2) (rgC bs s) := by
 have h1 := okCur_pick (bs := bs) (n := 12) h.1
 refine ⟨h1, ?_⟩
 simp only [rgC]
 split
 · exact ⟨rfl, alI_rg0⟩
 ·
  split
  · exact ⟨regZ_len _, alI_reg _⟩
  · exact h.2

theorem rgS_ok {bs : List Int} (hb : okCod bs) {n : Nat} {c : CurV} (h : okCur n c) : okRS (n + 40) (rgS bs c) :=
 rgC_ok (rgB_ok hb (rgA_ok h))

theorem cmbt_opn (s : Nat) (a b : List Int) (how : Int) : Opn (.tu [.ag [.ls 1 24 ((combZ a b how).map D.int)], .bool true]) (.tu [.ag [.bs s 0 24 1], .d (.bool true)]) [(s, .ds ((combZ a b how).map D.int))] := by
 have := rglt_opn s (combZ a b how) true
 simpa only [intL, combZ_len] using this

theorem shq_opn (s : Nat) : Opn (.ag [intL shZ]) (.ag [.bs s 0 24 1]) [(s, .ds (shZ.map D.int))] := rgl_opn s shZ

set_option maxRecDepth 100000 in
theorem pl_RgR_56_3U (l : List Oper) (h : l = opsOf Try.f56 3) : planUB l (.pure 2 (.four true 0 (.three true 1 (.two false 3 (.calc 4 (.two true 5 (.still 6 (.still 7 (.still 8 (.one true 9 (.one false 10 (.still 11 PU.fin)))))) true 9 (.one true 5 (.still 6 (.still 7 (.still 8 (.one false 10 (.still 11 PU.fin)))))))) true 9 (.one false 3 (.calc 4 (.one true 5 (.still 6 (.still 7 (.still 8 (.one false 10 (.still 11 PU.fin))))))))) false 3 (.calc 4 (.two true 1 (.two true 5 (.still 6 (.still 7 (.still 8 (.one true 9 (.one false 10 (.still 11 PU.fin)))))) true 9 (.one true 5 (.still 6 (.still 7 (.still 8 (.one false 10 (.still 11 PU.fin))))))) true 9 (.one true 1 (.one true 5 (.still 6 (.still 7 (.still 8 (.one false 10 (.still 11 PU.fin))))))))) true 9 (.two true 1 (.one false 3 (.calc 4 (.one true 5 (.still 6 (.still 7 (.still 8 (.one false 10 (.still 11 PU.fin)))))))) false 3 (.calc 4 (.one true 1 (.one true 5 (.still 6 (.still 7 (.still 8 (.one false 10 (.still 11 PU.fin)))))))))) true 1 (.three true 0 (.two false 3 (.calc 4 (.two true 5 (.still 6 (.still 7 (.still 8 (.one true 9 (.one false 10 (.still 11 PU.fin)))))) true 9 (.one true 5 (.still 6 (.still 7 (.still 8 (.one false 10 (.still 11 PU.fin)))))))) true 9 (.one false 3 (.calc 4 (.one true 5 (.still 6 (.still 7 (.still 8 (.one false 10 (.still 11 PU.fin))))))))) false 3 (.calc 4 (.two true 0 (.two true 5 (.still 6 (.still 7 (.still 8 (.one true 9 (.one false 10 (.still 11 PU.fin)))))) true 9 (.one true 5 (.still 6 (.still 7 (.still 8 (.one false 10 (.still 11 PU.fin))))))) true 9 (.one true 0 (.one true 5 (.still 6 (.still 7 (.still 8 (.one false 10 (.still 11 PU.fin))))))))) true 9 (.two true 0 (.one false 3 (.calc 4 (.one true 5 (.still 6 (.still 7 (.still 8 (.one false 10 (.still 11 PU.fin)))))))) false 3 (.calc 4 (.one true 0 (.one true 5 (.still 6 (.still 7 (.still 8 (.one false 10 (.still 11 PU.fin)))))))))) false 3 (.calc 4 (.three true 0 (.two true 1 (.two true 5 (.still 6 (.still 7 (.still 8 (.one true 9 (.one false 10 (.still 11 PU.fin)))))) true 9 (.one true 5 (.still 6 (.still 7 (.still 8 (.one false 10 (.still 11 PU.fin))))))) true 9 (.one true 1 (.one true 5 (.still 6 (.still 7 (.still 8 (.one false 10 (.still 11 PU.fin)))))))) true 1 (.two true 0 (.two true 5 (.still 6 (.still 7 (.still 8 (.one true 9 (.one false 10 (.still 11 PU.fin)))))) true 9 (.one true 5 (.still 6 (.still 7 (.still 8 (.one false 10 (.still 11 PU.fin))))))) true 9 (.one true 0 (.one true 5 (.still 6 (.still 7 (.still 8 (.one false 10 (.still 11 PU.fin)))))))) true 9 (.two true 0 (.one true 1 (.one true 5 (.still 6 (.still 7 (.still 8 (.one false 10 (.still 11 PU.fin))))))) true 1 (.one true 0 (.one true 5 (.still 6 (.still 7 (.still 8 (.one false 10 (.still 11 PU.fin)))))))))) true 9 (.three true 0 (.two true 1 (.one false 3 (.calc 4 (.one true 5 (.still 6 (.still 7 (.still 8 (.one false 10 (.still 11 PU.fin)))))))) false 3 (.calc 4 (.one true 1 (.one true 5 (.still 6 (.still 7 (.still 8 (.one false 10 (.still 11 PU.fin))))))))) true 1 (.two true 0 (.one false 3 (.calc 4 (.one true 5 (.still 6 (.still 7 (.still 8 (.one false 10 (.still 11 PU.fin)))))))) false 3 (.calc 4 (.one true 0 (.one true 5 (.still 6 (.still 7 (.still 8 (.one false 10 (.still 11 PU.fin))))))))) false 3 (.calc 4 (.two true 0 (.one true 1 (.one true 5 (.still 6 (.still 7 (.still 8 (.one false 10 (.still 11 PU.fin))))))) true 1 (.one true 0 (.one true 5 (.still 6 (.still 7 (.still 8 (.one false 10 (.still 11 PU.fin)))))))))))) [3, 10] = true := by
 subst h
 kernel_rfl

set_option maxRecDepth 100000 in
theorem pl_RgR_56_7U (l : List Oper) (h : l = opsOf Try.f56 7) : planUB l (.still 1 (.still 3 (.two true 0 (.one false 2 (.one false 4 (.one false 5 PU.fin))) false 2 (.two true 0 (.one false 4 (.one false 5 PU.fin)) false 4 (.one true 0 (.one false 5 PU.fin)))))) [2, 4, 5] = true := by
 subst h
 kernel_rfl

theorem region_hi (bs : List Int) (c : CurV) (hb : okCod bs) (h0 : okCur 50000 c) : FnS Try.prog 56 [(5000, curO bs c)] [.bp 5000 0] [(5000, curO bs (rgS bs c).c), (5001, .ds ((rgS bs c).z.map D.int))] (.ag [.bs 5001 0 24 1]) := by
 have k1 := rgA_ok (bs := bs) h0
 have q1 := okCur_pick (bs := bs) (n := 8) h0
 have q2 := okCur_pick (bs := bs) (n := 2) q1
 have q3 := okCur_pick (bs := bs) (n := 8) q2
 have a1 := pick_at 5000 bs 8 c hb (okCur_mono h0 (by omega))
 have a2 := pick_at 5000 bs 2 (pickC bs 8 c) hb (okCur_mono q1 (by omega))
 have a3 := pick_at 5000 bs 8 (pickC bs 2 (pickC bs 8 c)) hb (okCur_mono q2 (by omega))
 have a4 := pick_at 5000 bs 3 (pickC bs 8 (pickC bs 2 (pickC bs 8 c))) hb (okCur_mono q3 (by omega))
 have p1 := pickV_le hb (n := 8) h0.1
 have p2 := pickV_le hb (n := 2) q1.1
 have p3 := pickV_le hb (n := 8) q2.1
 have p4 := pickV_le hb (n := 3) q3.1
 have t1 := p1.2 (by decide)
 have t2 := p2.2 (by decide)
 have t3 := p3.2 (by decide)
 have t4 := p4.2 (by decide)
 have hA : rgA bs c = ⟨pickC bs 3 (pickC bs 8 (pickC bs 2 (pickC bs 8 c))), combZ (regZ (prtP (pickV bs 8 c) (pickV bs 2 (pickC bs 8 c)))) (regZ (odP (pickV bs 8 (pickC bs 2 (pickC bs 8 c))))) (1 + pickV bs 3 (pickC bs 8 (pickC bs 2 (pickC bs 8 c))))⟩ := rfl
 have hZ : rgS bs c = rgC bs (rgB bs (rgA bs c)) := rfl
 rw [hZ]
 clear hZ
 rw [hA] at k1 ⊢
 clear hA
 generalize pickV bs 3 (pickC bs 8 (pickC bs 2 (pickC bs 8 c))) = h' at *
 generalize pickC bs 3 (pickC bs 8 (pickC bs 2 (pickC bs 8 c))) = c4 at *
 generalize pickV bs 8 (pickC bs 2 (pickC bs 8 c)) = o at *
 generalize pickC bs 8 (pickC bs 2 (pickC bs 8 c)) = c3 at *
 generalize pickV bs 2 (pickC bs 8 c) = d at *
 generalize pickC bs 2 (pickC bs 8 c) = c2 at *
 generalize pickV bs 8 c = p at *
 generalize pickC bs 8 c = c1 at *
 have e1 := partReg_fn p d (by omega) (by omega)
 have e2 := ordCells_fn o (by omega)
 have e3 := specComb_fn (regZ (prtP p d)) (regZ (odP o)) (1 + h') (by simp) (by simp)
 rw [combR, regQ_good, regQ_good, inR_iff.2 (by omega), Bool.and_self, Bool.and_self, if_pos rfl] at e3
 simp only [intL, regZ_len, combZ_len] at e3
 have o3 := fun s => cmbt_opn s (regZ (prtP p d)) (regZ (odP o)) (1 + h')
 generalize combZ (regZ (prtP p d)) (regZ (odP o)) (1 + h') = Z at *
 have k2 := rgB_ok hb k1
 have a5 := pick_at 5000 bs 6 c4 hb (okCur_mono k1.1 (by omega))
 have p5 := pickV_le hb (n := 6) k1.1.1
 have t5 := p5.2 (by decide)
 have q5 := okCur_pick (bs := bs) (n := 6) k1.1
 have hB : rgB bs ⟨c4, Z⟩ = rgAddN bs (pickV bs 6 c4).toNat ⟨pickC bs 6 c4, Z⟩ := rfl
 obtain ⟨kz1, kz2⟩ := k1.2
 simp only at a5 p5 t5 q5 kz1 kz2
 generalize rgB bs ⟨c4, Z⟩ = B at *
 generalize pickV bs 6 c4 = n0 at *
 generalize pickC bs 6 c4 = c5 at *
 obtain ⟨n, hn⟩ := Int.eq_ofNat_of_zero_le p5.1
 subst hn
 rw [Int.toNat_natCast] at hB
 have a6 := pick_at 5000 bs 12 B.c hb (okCur_mono k2.1 (by omega))
 have p6 := pickV_le hb (n := 12) k2.1.1
 have hC : rgC bs B = ⟨pickC bs 12 B.c, if pickV bs 12 B.c = 0 then rg0 else if pickV bs 12 B.c = 1 then shZ else B.z⟩ := rfl
 generalize rgC bs B = C at *
 generalize pickV bs 12 B.c = kk at *
 generalize pickC bs 12 B.c = c6 at *
 have f1 := rgEmpty_fn
 have f2 := specShield_fn
 refine fns_go Try.func56 rfl rfl Try.ntmps56 Try.results56 (by simp only [slotsA, Nat.reduceAdd]; rfl) (by simp) rfl ?_
 repeat' (first | (with_reducible first | refine aw_seq fun K hK => ?_ | refine aw_region (by kernel_rfl) ?_ | refine aw_condk ?_ | refine aw_block ?_) | ((with_reducible refine ev_aw ?_); first | (refine aw_drawJ (by kernel_rfl) (id := 3) _ _ (by kernel_rfl) (pl_RgR_56_3U _ (by kernel_rfl)) (fun KJ hJ => ?_)) | (refine aw_drawJ (by kernel_rfl) (id := 7) _ _ (by kernel_rfl) (pl_RgR_56_7U _ (by kernel_rfl)) (fun KJ hJ => ?_))) | (with_reducible first | refine ru_four ?_ ?_ ?_ ?_ | refine ru_three ?_ ?_ ?_ | refine ru_two ?_ ?_ | refine rv_split ?_ ?_ | refine rv_two ?_ ?_ | refine rp_two ?_ ?_) | ((with_reducible refine evg ?_); simp only [go_sem, St.clean, cleanO, ↓reduceIte, Nat.reduceEqDiff, Nat.reduceBEq, Nat.reduceAdd, Nat.reduceMul, Nat.reduceSub, Nat.reduceLT, Nat.reduceLeDiff]) | (simp (disch := omega) only [dsq, Int.reduceSub, Int.reduceAdd, Int.reduceToNat]) | ((with_reducible refine ev_call ?_); (first | (refine call_s a1 ?_ ?_ ?_ ?_ ?_; (focus rfl); (focus first | exact trivial | exact And.intro rfl trivial | exact ⟨rfl, rfl, trivial⟩ | exact ⟨rfl, rfl, rfl, trivial⟩); (focus rfl); (focus (simp [-List.map_map, apartO, dropO, killN, obCells, refs_dmap, nofnsD, AV.refs, AV.refsL, AV.nofn, AV.nofns] <;> fail))) | (refine call_s a2 ?_ ?_ ?_ ?_ ?_; (focus rfl); (focus first | exact trivial | exact And.intro rfl trivial | exact ⟨rfl, rfl, trivial⟩ | exact ⟨rfl, rfl, rfl, trivial⟩); (focus rfl); (focus (simp [-List.map_map, apartO, dropO, killN, obCells, refs_dmap, nofnsD, AV.refs, AV.refsL, AV.nofn, AV.nofns] <;> fail))) | (refine call_s a3 ?_ ?_ ?_ ?_ ?_; (focus rfl); (focus first | exact trivial | exact And.intro rfl trivial | exact ⟨rfl, rfl, trivial⟩ | exact ⟨rfl, rfl, rfl, trivial⟩); (focus rfl); (focus (simp [-List.map_map, apartO, dropO, killN, obCells, refs_dmap, nofnsD, AV.refs, AV.refsL, AV.nofn, AV.nofns] <;> fail))) | (refine call_s a4 ?_ ?_ ?_ ?_ ?_; (focus rfl); (focus first | exact trivial | exact And.intro rfl trivial | exact ⟨rfl, rfl, trivial⟩ | exact ⟨rfl, rfl, rfl, trivial⟩); (focus rfl); (focus (simp [-List.map_map, apartO, dropO, killN, obCells, refs_dmap, nofnsD, AV.refs, AV.refsL, AV.nofn, AV.nofns] <;> fail))) | (refine call_s a5 ?_ ?_ ?_ ?_ ?_; (focus rfl); (focus first | exact trivial | exact And.intro rfl trivial | exact ⟨rfl, rfl, trivial⟩ | exact ⟨rfl, rfl, rfl, trivial⟩); (focus rfl); (focus (simp [-List.map_map, apartO, dropO, killN, obCells, refs_dmap, nofnsD, AV.refs, AV.refsL, AV.nofn, AV.nofns] <;> fail))) | (refine call_fn e1 rfl ?_) | (refine call_fn e2 rfl ?_) | (refine call_new e3 (o3 30) ?_ ?_ ?_ ?_; (focus rfl); (focus rfl); (focus (simp [-List.map_map, apartO, dropO, killN, obCells, refs_dmap, nofnsD, AV.refs, AV.refsL, AV.nofn, AV.nofns] <;> fail)))); refine k_run ?_) | ((with_reducible refine ck_split (fun h => ?_) (fun h => ?_)) <;> (try simp only [nrm] at h) <;> (try ((with_reducible exfalso); omega))) | ((with_reducible refine And.intro ?_ ?_); (focus first | omega | (simp; done) | (simp; omega) | ((repeat' (with_reducible refine And.intro ?_ ?_)) <;> first | omega | rfl | (simp only [go_sem, refsL_app, refs_dmap] <;> fail) | (simp [refsL_app, refs_dmap, AV.refsL, AV.refs] <;> omega)))) | (with_reducible refine hJ _ (fun K hK => ?_) ?_ <;> clear hJ KJ) | ((with_reducible refine ev_less ?_); (refine ⟨rfl, ?_, ?_⟩ <;> simp only [go_sem, St.clean, cleanO, SubS, SubO, beq_self_eq_true, ↓reduceIte, Nat.reduceEqDiff, Nat.reduceBEq, Nat.reduceAdd, Nat.reduceMul, Nat.reduceSub, Nat.reduceLT, Nat.reduceLeDiff])) | ((with_reducible first | apply hK | (clear hK K; first | apply hK | (clear hK K; apply hK))); clear hK K) | fail)
 refine aw_loopU [9, 35, 36, 37, 38, 39, 40, 41, 42, 43, 44] [30, 41, 43, 44, 5000] (fun s : Nat × RegS => [(9, .d (.int s.1))]) (fun s => [(30, .ds (s.2.z.map D.int)), (5000, curO bs s.2.c)]) (fun s => rgAddN bs s.1 s.2 = B /\ s.1 <= 5 /\ s.2.z.length = 24 /\ okCur (60000 + 10 * (5 - s.1)) s.2.c) (fun s => s.1) (n, ⟨c5, Z⟩) ⟨hB.symm, by simp only; omega, kz1, okCur_mono q5 (by simp only; omega)⟩ ?_ ?_
 ·
  (refine lessW_of [] rfl ?_ <;> simp only [lsq, lookO, List.elem, List.cons_append, List.nil_append, cond_true, cond_false, and_true, true_and, beq_self_eq_true, ↓reduceIte, Nat.reduceEqDiff, Nat.reduceBEq, Nat.reduceAdd, Nat.reduceMul, Nat.reduceSub, Nat.reduceLT, Nat.reduceLeDiff] <;> try simp)
  all_goals (first | rfl | omega | (simp; done) | (refine ⟨?_, ?_⟩ <;> first | rfl | omega))
 ·
  rintro ⟨k, ⟨c, l⟩⟩ ⟨g1, g2, g3, g4⟩
  simp only at g1 g2 g3 g4
  simp only [St.upd, dropS, dropOs, List.elem, List.cons_append, List.nil_append, cond_true, cond_false, beq_self_eq_true, ↓reduceIte, Nat.reduceEqDiff, Nat.reduceBEq, Nat.reduceAdd, Nat.reduceMul, Nat.reduceSub, Nat.reduceLT, Nat.reduceLeDiff]
  cases k with
  | zero =>
   rw [rgAddN] at g1
   subst g1
   simp only at a6 hC
   by_cases x0 : kk = 0
   ·
    rw [if_pos x0] at hC
    subst hC
    repeat' (first | (with_reducible first | refine aw_seq fun K hK => ?_ | refine aw_region (by kernel_rfl) ?_ | refine aw_condk ?_ | refine aw_block ?_) | ((with_reducible refine ev_aw ?_); first | (refine aw_drawJ (by kernel_rfl) (id := 3) _ _ (by kernel_rfl) (pl_RgR_56_3U _ (by kernel_rfl)) (fun KJ hJ => ?_)) | (refine aw_drawJ (by kernel_rfl) (id := 7) _ _ (by kernel_rfl) (pl_RgR_56_7U _ (by kernel_rfl)) (fun KJ hJ => ?_))) | (with_reducible first | refine ru_four ?_ ?_ ?_ ?_ | refine ru_three ?_ ?_ ?_ | refine ru_two ?_ ?_ | refine rv_split ?_ ?_ | refine rv_two ?_ ?_ | refine rp_two ?_ ?_) | ((with_reducible refine evg ?_); simp only [go_sem, St.clean, cleanO, ↓reduceIte, Nat.reduceEqDiff, Nat.reduceBEq, Nat.reduceAdd, Nat.reduceMul, Nat.reduceSub, Nat.reduceLT, Nat.reduceLeDiff]) | (simp (disch := omega) only [dsq, Int.reduceSub, Int.reduceAdd, Int.reduceToNat]) | ((with_reducible refine ev_call ?_); (first | (refine call_s a6 ?_ ?_ ?_ ?_ ?_; (focus rfl); (focus first | exact trivial | exact And.intro rfl trivial | exact ⟨rfl, rfl, trivial⟩ | exact ⟨rfl, rfl, rfl, trivial⟩); (focus rfl); (focus (simp [-List.map_map, apartO, dropO, killN, obCells, refs_dmap, nofnsD, AV.refs, AV.refsL, AV.nofn, AV.nofns] <;> fail))) | (refine call_new f1 (rg0_opn 49) ?_ ?_ ?_ ?_; (focus rfl); (focus rfl); (focus (simp [-List.map_map, apartO, dropO, killN, obCells, refs_dmap, nofnsD, AV.refs, AV.refsL, AV.nofn, AV.nofns] <;> fail)))); refine k_run ?_) | ((with_reducible refine ck_split (fun h => ?_) (fun h => ?_)) <;> (try simp only [nrm] at h) <;> (try ((with_reducible exfalso); omega))) | ((with_reducible refine And.intro ?_ ?_); (focus first | omega | (simp; done) | (simp; omega) | ((repeat' (with_reducible refine And.intro ?_ ?_)) <;> first | omega | rfl | (simp only [go_sem, refsL_app, refs_dmap] <;> fail) | (simp [refsL_app, refs_dmap, AV.refsL, AV.refs] <;> omega)))) | (with_reducible refine hJ _ (fun K hK => ?_) ?_ <;> clear hJ KJ) | ((with_reducible refine ev_less ?_); (refine ⟨rfl, ?_, ?_⟩ <;> simp only [go_sem, St.clean, cleanO, SubS, SubO, beq_self_eq_true, ↓reduceIte, Nat.reduceEqDiff, Nat.reduceBEq, Nat.reduceAdd, Nat.reduceMul, Nat.reduceSub, Nat.reduceLT, Nat.reduceLeDiff])) | ((with_reducible first | apply hK | (clear hK K; first | apply hK | (clear hK K; apply hK))); clear hK K) | fail)
    all_goals (try omega)
    refine ressQ_step [(49, 5001)] (by simp) (by simp [lensO, lookO, obCells]) rfl ⟨rfl, rfl, trivial⟩ ?_
    simp only [go_sem, ↓reduceIte, Nat.reduceEqDiff, Nat.reduceBEq, Nat.reduceAdd, Nat.reduceMul, Nat.reduceSub, Nat.reduceLT, Nat.reduceLeDiff]
    rfl
   ·
    rw [if_neg x0] at hC
    by_cases x1 : kk = 1
    ·
     rw [if_pos x1] at hC
     subst hC
     repeat' (first | (with_reducible first | refine aw_seq fun K hK => ?_ | refine aw_region (by kernel_rfl) ?_ | refine aw_condk ?_ | refine aw_block ?_) | ((with_reducible refine ev_aw ?_); first | (refine aw_drawJ (by kernel_rfl) (id := 3) _ _ (by kernel_rfl) (pl_RgR_56_3U _ (by kernel_rfl)) (fun KJ hJ => ?_)) | (refine aw_drawJ (by kernel_rfl) (id := 7) _ _ (by kernel_rfl) (pl_RgR_56_7U _ (by kernel_rfl)) (fun KJ hJ => ?_))) | (with_reducible first | refine ru_four ?_ ?_ ?_ ?_ | refine ru_three ?_ ?_ ?_ | refine ru_two ?_ ?_ | refine rv_split ?_ ?_ | refine rv_two ?_ ?_ | refine rp_two ?_ ?_) | ((with_reducible refine evg ?_); simp only [go_sem, St.clean, cleanO, ↓reduceIte, Nat.reduceEqDiff, Nat.reduceBEq, Nat.reduceAdd, Nat.reduceMul, Nat.reduceSub, Nat.reduceLT, Nat.reduceLeDiff]) | (simp (disch := omega) only [dsq, Int.reduceSub, Int.reduceAdd, Int.reduceToNat]) | ((with_reducible refine ev_call ?_); (first | (refine call_s a6 ?_ ?_ ?_ ?_ ?_; (focus rfl); (focus first | exact trivial | exact And.intro rfl trivial | exact ⟨rfl, rfl, trivial⟩ | exact ⟨rfl, rfl, rfl, trivial⟩); (focus rfl); (focus (simp [-List.map_map, apartO, dropO, killN, obCells, refs_dmap, nofnsD, AV.refs, AV.refsL, AV.nofn, AV.nofns] <;> fail))) | (refine call_new f2 (shq_opn 52) ?_ ?_ ?_ ?_; (focus rfl); (focus rfl); (focus (simp [-List.map_map, apartO, dropO, killN, obCells, refs_dmap, nofnsD, AV.refs, AV.refsL, AV.nofn, AV.nofns] <;> fail)))); refine k_run ?_) | ((with_reducible refine ck_split (fun h => ?_) (fun h => ?_)) <;> (try simp only [nrm] at h) <;> (try ((with_reducible exfalso); omega))) | ((with_reducible refine And.intro ?_ ?_); (focus first | omega | (simp; done) | (simp; omega) | ((repeat' (with_reducible refine And.intro ?_ ?_)) <;> first | omega | rfl | (simp only [go_sem, refsL_app, refs_dmap] <;> fail) | (simp [refsL_app, refs_dmap, AV.refsL, AV.refs] <;> omega)))) | (with_reducible refine hJ _ (fun K hK => ?_) ?_ <;> clear hJ KJ) | ((with_reducible refine ev_less ?_); (refine ⟨rfl, ?_, ?_⟩ <;> simp only [go_sem, St.clean, cleanO, SubS, SubO, beq_self_eq_true, ↓reduceIte, Nat.reduceEqDiff, Nat.reduceBEq, Nat.reduceAdd, Nat.reduceMul, Nat.reduceSub, Nat.reduceLT, Nat.reduceLeDiff])) | ((with_reducible first | apply hK | (clear hK K; first | apply hK | (clear hK K; apply hK))); clear hK K) | fail)
     all_goals (try omega)
     refine ressQ_step [(52, 5001)] (by simp) (by simp [lensO, lookO, obCells]) rfl ⟨rfl, rfl, trivial⟩ ?_
     simp only [go_sem, ↓reduceIte, Nat.reduceEqDiff, Nat.reduceBEq, Nat.reduceAdd, Nat.reduceMul, Nat.reduceSub, Nat.reduceLT, Nat.reduceLeDiff]
     rfl
    ·
     rw [if_neg x1] at hC
     subst hC
     repeat' (first | (with_reducible first | refine aw_seq fun K hK => ?_ | refine aw_region (by kernel_rfl) ?_ | refine aw_condk ?_ | refine aw_block ?_) | ((with_reducible refine ev_aw ?_); first | (refine aw_drawJ (by kernel_rfl) (id := 3) _ _ (by kernel_rfl) (pl_RgR_56_3U _ (by kernel_rfl)) (fun KJ hJ => ?_)) | (refine aw_drawJ (by kernel_rfl) (id := 7) _ _ (by kernel_rfl) (pl_RgR_56_7U _ (by kernel_rfl)) (fun KJ hJ => ?_))) | (with_reducible first | refine ru_four ?_ ?_ ?_ ?_ | refine ru_three ?_ ?_ ?_ | refine ru_two ?_ ?_ | refine rv_split ?_ ?_ | refine rv_two ?_ ?_ | refine rp_two ?_ ?_) | ((with_reducible refine evg ?_); simp only [go_sem, St.clean, cleanO, ↓reduceIte, Nat.reduceEqDiff, Nat.reduceBEq, Nat.reduceAdd, Nat.reduceMul, Nat.reduceSub, Nat.reduceLT, Nat.reduceLeDiff]) | (simp (disch := omega) only [dsq, Int.reduceSub, Int.reduceAdd, Int.reduceToNat]) | ((with_reducible refine ev_call ?_); (first | (refine call_s a6 ?_ ?_ ?_ ?_ ?_; (focus rfl); (focus first | exact trivial | exact And.intro rfl trivial | exact ⟨rfl, rfl, trivial⟩ | exact ⟨rfl, rfl, rfl, trivial⟩); (focus rfl); (focus (simp [-List.map_map, apartO, dropO, killN, obCells, refs_dmap, nofnsD, AV.refs, AV.refsL, AV.nofn, AV.nofns] <;> fail)))); refine k_run ?_) | ((with_reducible refine ck_split (fun h => ?_) (fun h => ?_)) <;> (try simp only [nrm] at h) <;> (try ((with_reducible exfalso); omega))) | ((with_reducible refine And.intro ?_ ?_); (focus first | omega | (simp; done) | (simp; omega) | ((repeat' (with_reducible refine And.intro ?_ ?_)) <;> first | omega | rfl | (simp only [go_sem, refsL_app, refs_dmap] <;> fail) | (simp [refsL_app, refs_dmap, AV.refsL, AV.refs] <;> omega)))) | (with_reducible refine hJ _ (fun K hK => ?_) ?_ <;> clear hJ KJ) | ((with_reducible refine ev_less ?_); (refine ⟨rfl, ?_, ?_⟩ <;> simp only [go_sem, St.clean, cleanO, SubS, SubO, beq_self_eq_true, ↓reduceIte, Nat.reduceEqDiff, Nat.reduceBEq, Nat.reduceAdd, Nat.reduceMul, Nat.reduceSub, Nat.reduceLT, Nat.reduceLeDiff])) | ((with_reducible first | apply hK | (clear hK K; first | apply hK | (clear hK K; apply hK))); clear hK K) | fail)
     all_goals (try omega)
     refine ressQ_step [(30, 5001)] (by simp) (by simp [lensO, lookO, obCells]) rfl ⟨rfl, rfl, trivial⟩ ?_
     simp only [go_sem, ↓reduceIte, Nat.reduceEqDiff, Nat.reduceBEq, Nat.reduceAdd, Nat.reduceMul, Nat.reduceSub, Nat.reduceLT, Nat.reduceLeDiff]
     rfl
  | succ k =>
   rw [rgAddN] at g1
   have u1 := pickV_le hb (n := 20) g4.1
   have u2 := u1.2 (by decide)
   have w1 := okCur_pick (bs := bs) (n := 20) g4
   have b1 := pick_at 5000 bs 20 c hb (okCur_mono g4 (by omega))
   have v1 := pickV_le hb (n := 24) w1.1
   have v2 := v1.2 (by decide)
   have w2 := okCur_pick (bs := bs) (n := 24) w1
   have b2 := pick_at 5000 bs 24 (pickC bs 20 c) hb (okCur_mono w1 (by omega))
   simp only at g1
   generalize pickV bs 24 (pickC bs 20 c) = y at *
   generalize pickC bs 24 (pickC bs 20 c) = cb at *
   generalize pickV bs 20 c = x at *
   generalize pickC bs 20 c = ca at *
   obtain ⟨x, hx⟩ := Int.eq_ofNat_of_zero_le u1.1
   subst hx
   obtain ⟨y, hy⟩ := Int.eq_ofNat_of_zero_le v1.1
   subst hy
   simp only [Int.toNat_natCast] at g1
   have b3 := rgAdd_s 30 l x y (by omega) (by omega) g3
   repeat' (first | (with_reducible first | refine aw_seq fun K hK => ?_ | refine aw_region (by kernel_rfl) ?_ | refine aw_condk ?_ | refine aw_block ?_) | ((with_reducible refine ev_aw ?_); first | (refine aw_drawJ (by kernel_rfl) (id := 3) _ _ (by kernel_rfl) (pl_RgR_56_3U _ (by kernel_rfl)) (fun KJ hJ => ?_)) | (refine aw_drawJ (by kernel_rfl) (id := 7) _ _ (by kernel_rfl) (pl_RgR_56_7U _ (by kernel_rfl)) (fun KJ hJ => ?_))) | (with_reducible first | refine ru_four ?_ ?_ ?_ ?_ | refine ru_three ?_ ?_ ?_ | refine ru_two ?_ ?_ | refine rv_split ?_ ?_ | refine rv_two ?_ ?_ | refine rp_two ?_ ?_) | ((with_reducible refine evg ?_); simp only [go_sem, St.clean, cleanO, ↓reduceIte, Nat.reduceEqDiff, Nat.reduceBEq, Nat.reduceAdd, Nat.reduceMul, Nat.reduceSub, Nat.reduceLT, Nat.reduceLeDiff]) | (simp (disch := omega) only [dsq, Int.reduceSub, Int.reduceAdd, Int.reduceToNat]) | ((with_reducible refine ev_call ?_); (first | (refine call_s b1 ?_ ?_ ?_ ?_ ?_; (focus rfl); (focus first | exact trivial | exact And.intro rfl trivial | exact ⟨rfl, rfl, trivial⟩ | exact ⟨rfl, rfl, rfl, trivial⟩); (focus rfl); (focus (simp [-List.map_map, apartO, dropO, killN, obCells, refs_dmap, nofnsD, AV.refs, AV.refsL, AV.nofn, AV.nofns] <;> fail))) | (refine call_s b2 ?_ ?_ ?_ ?_ ?_; (focus rfl); (focus first | exact trivial | exact And.intro rfl trivial | exact ⟨rfl, rfl, trivial⟩ | exact ⟨rfl, rfl, rfl, trivial⟩); (focus rfl); (focus (simp [-List.map_map, apartO, dropO, killN, obCells, refs_dmap, nofnsD, AV.refs, AV.refsL, AV.nofn, AV.nofns] <;> fail))) | (refine call_s b3 ?_ ?_ ?_ ?_ ?_; (focus rfl); (focus first | exact trivial | exact And.intro rfl trivial | exact ⟨rfl, rfl, trivial⟩ | exact ⟨rfl, rfl, rfl, trivial⟩); (focus rfl); (focus (simp [-List.map_map, apartO, dropO, killN, obCells, refs_dmap, nofnsD, AV.refs, AV.refsL, AV.nofn, AV.nofns] <;> fail)))); refine k_run ?_) | ((with_reducible refine ck_split (fun h => ?_) (fun h => ?_)) <;> (try simp only [nrm] at h) <;> (try ((with_reducible exfalso); omega))) | ((with_reducible refine And.intro ?_ ?_); (focus first | omega | (simp; done) | (simp; omega) | ((repeat' (with_reducible refine And.intro ?_ ?_)) <;> first | omega | rfl | (simp only [go_sem, refsL_app, refs_dmap] <;> fail) | (simp [refsL_app, refs_dmap, AV.refsL, AV.refs] <;> omega)))) | (with_reducible refine hJ _ (fun K hK => ?_) ?_ <;> clear hJ KJ) | ((with_reducible refine ev_less ?_); (refine ⟨rfl, ?_, ?_⟩ <;> simp only [go_sem, St.clean, cleanO, SubS, SubO, beq_self_eq_true, ↓reduceIte, Nat.reduceEqDiff, Nat.reduceBEq, Nat.reduceAdd, Nat.reduceMul, Nat.reduceSub, Nat.reduceLT, Nat.reduceLeDiff])) | ((with_reducible first | apply hK | (clear hK K; first | apply hK | (clear hK K; apply hK))); clear hK K) | fail)
   all_goals
    refine ⟨(k, ⟨cb, addZ l x y⟩), ⟨g1, by simp only; omega, by simpa using g3, okCur_mono w2 (by simp only; omega)⟩, by simp only; omega, ?_⟩
    (refine lessW_of [] rfl ?_ <;> simp only [lsq, lookO, List.elem, List.cons_append, List.nil_append, cond_true, cond_false, and_true, true_and, beq_self_eq_true, ↓reduceIte, Nat.reduceEqDiff, Nat.reduceBEq, Nat.reduceAdd, Nat.reduceMul, Nat.reduceSub, Nat.reduceLT, Nat.reduceLeDiff] <;> try simp)
    all_goals (first | rfl | omega | (simp; done) | (refine ⟨?_, ?_⟩ <;> first | rfl | omega))

theorem swpQ_1 {s : Nat} (hs : s < 5000) : swp 5000 s 5001 = 5001 := by
 have : 5001 ≠ s := by omega
 simp [swp, this]

theorem swpQ_2 {s t : Nat} (hs : s < 5000) (hst : s ≠ t) : swp 5001 t s = s := by
 have h1 : s ≠ 5001 := by omega
 simp [swp, h1, hst]

theorem region_at (t : Nat) (bs : List Int) (c : CurV) (hb : okCod bs) (h0 : okCur 50000 c) (ht : t < 5000) : FnS Try.prog 56 [(5000, curO bs c)] [.bp 5000 0] [(5000, curO bs (rgS bs c).c), (t, .ds ((rgS bs c).z.map D.int))] (.ag [.bs t 0 24 1]) := by
 have h := (region_hi bs c hb h0).sw 5001 t
 have e2 : swp 5001 t 5000 = 5000 := by
  have h1 : 5000 ≠ t := by omega
  simp [swp, h1]
 simpa only [curO, swO, AV.swL, AV.sw, OB.sw, sw_self, e2] using h

structure AnyS where
 c : CurV
 z : List Int
 o : Nat
 n : Nat

def ar4 : List Int := [1, 1048576, -1, 1024]

def arC (bs : List Int) (s : RegS) (k : Int) (c : CurV) : AnyS :=
 if k = 0 then ⟨c, s.z ++ [0], 0, 25⟩ else if k = 1 then ⟨pickC bs 4 c, s.z.set 23 (amV bs ar4 4 c), 0, 24⟩ else if k = 2 then ⟨c, s.z, 1, 23⟩ else ⟨c, s.z, 0, 24⟩

def arS (bs : List Int) (c : CurV) : AnyS := arC bs (rgS bs c) (pickV bs 30 (rgS bs c).c) (pickC bs 30 (rgS bs c).c)

def arL (a : AnyS) : List Int := (a.z.drop a.o).take a.n

def okAS (n : Nat) (a : AnyS) : Prop := okCur n a.c /\ a.o + a.n <= a.z.length /\ a.n <= 25 /\ a.z.length <= 25 /\ alI a.z

theorem arS_ok {bs : List Int} (hb : okCod bs) {n : Nat} {c : CurV} (h : okCur n c) : okAS (n + 50) (arS bs c) := by
 obtain ⟨h1, h2, h3⟩ := rgS_ok hb h
 have q1 := okCur_pick (bs := bs) (n := 30) h1
 have q2 := okCur_pick (bs := bs) (n := 4) q1
 unfold arS arC
 generalize rgS bs c = s at *
 split
 ·
  refine ⟨okCur_mono q1 (by omega), by simp; omega, by simp, by simp; omega, fun x hx => ?_⟩
  rcases List.mem_append.1 hx with g | g
  · exact h3 x g
  ·
   have : x = 0 := by simpa using g
   omega
 split
 ·
  have p1 := pickV_le hb (n := 4) q1.1
  have p2 := p1.2 (by decide)
  refine ⟨okCur_mono q2 (by omega), by simp; omega, by simp, by simp; omega, alI_set h3 _ ?_⟩
  have hm : amV bs ar4 4 (pickC bs 30 s.c) ∈ ar4 := by
   have hV : amV bs ar4 4 (pickC bs 30 s.c) = ar4.getD (pickV bs 4 (pickC bs 30 s.c)).toNat 0 := rfl
   rw [hV]
   exact getD_mem 0 (by simp [ar4]; omega)
  have hall : ∀ x ∈ ar4, -9223372036854775808 <= x /\ x <= 9223372036854775807 := by decide
  exact hall _ hm
 split
 · exact ⟨okCur_mono q1 (by omega), by simp only; omega, by simp, by simp only; omega, h3⟩
 · exact ⟨okCur_mono q1 (by omega), by simp only; omega, by simp, by simp only; omega, h3⟩

theorem arL_len {n : Nat} {a : AnyS} (h : okAS n a) : (arL a).length = a.n := by
 have := h.2.1
 simp [arL]
 omega

theorem arL_in {n : Nat} {a : AnyS} (h : okAS n a) : alI (arL a) := fun x hx => h.2.2.2.2 x (List.mem_of_mem_drop (List.mem_of_mem_take hx))

set_option maxRecDepth 100000 in
theorem pl_RgR_33_6U (l : List Oper) (h : l = opsOf Try.f33 6) : planUB l (.pure 2 (.calc 0 (.two true 1 (.one true 3 (.one false 4 (.still 5 (.one false 6 PU.fin)))) true 3 (.two true 1 (.one false 4 (.still 5 (.one false 6 PU.fin))) false 4 (.one true 1 (.still 5 (.one false 6 PU.fin))))))) [4, 6] = true := by
 subst h
 kernel_rfl

theorem any_region (bs : List Int) (c : CurV) (hb : okCod bs) (h0 : okCur 50000 c) : FnS Try.prog 33 [(5000, curO bs c)] [.bp 5000 0] [(5000, curO bs (arS bs c).c), (5001, .ds ((arS bs c).z.map D.int))] (.ag [.bs 5001 (arS bs c).o (arS bs c).n 1]) := by
 obtain ⟨h1, h2, _⟩ := rgS_ok hb h0
 have e1 := region_at 5 bs c hb h0 (by decide)
 have q1 := okCur_pick (bs := bs) (n := 30) h1
 have a1 := pick_at 5000 bs 30 (rgS bs c).c hb (okCur_mono h1 (by omega))
 have p1 := pickV_le hb (n := 30) h1.1
 have a2 := among_at 5000 20 bs ar4 4 (pickC bs 30 (rgS bs c).c) hb (okCur_mono q1 (by omega)) (by decide) (by decide) (by decide) (by decide) (by decide) (by decide)
 have hA : arS bs c = arC bs (rgS bs c) (pickV bs 30 (rgS bs c).c) (pickC bs 30 (rgS bs c).c) := rfl
 have hC : ∀ s k c, arC bs s k c = if k = 0 then ⟨c, s.z ++ [0], 0, 25⟩ else if k = 1 then ⟨pickC bs 4 c, s.z.set 23 (amV bs ar4 4 c), 0, 24⟩ else if k = 2 then ⟨c, s.z, 1, 23⟩ else ⟨c, s.z, 0, 24⟩ := fun _ _ _ => rfl
 rw [hC] at hA
 clear hC
 generalize arS bs c = A at *
 generalize pickV bs 30 (rgS bs c).c = k at *
 generalize amV bs ar4 4 (pickC bs 30 (rgS bs c).c) = v at *
 generalize pickC bs 4 (pickC bs 30 (rgS bs c).c) = c3 at *
 generalize pickC bs 30 (rgS bs c).c = c2 at *
 generalize rgS bs c = S at *
 obtain ⟨c1, zs⟩ := S
 simp only at e1 a1 hA h2
 simp only [ar4, List.map] at a2
 have hm : (zs.map D.int).length = 24 := by rw [List.length_map, h2]
 by_cases x0 : k = 0
 ·
  rw [if_pos x0] at hA
  subst hA
  have hT : (zs.map D.int).take 24 ++ [D.int 0] = (zs ++ [0]).map D.int := by
   rw [List.take_of_length_le (by omega)]
   simp
  refine fns_go Try.func33 rfl rfl Try.ntmps33 Try.results33 (by simp only [slotsA, Nat.reduceAdd]; rfl) (by simp) rfl ?_
  repeat' (first | (with_reducible first | refine aw_seq fun K hK => ?_ | refine aw_region (by kernel_rfl) ?_ | refine aw_condk ?_ | refine aw_block ?_) | ((with_reducible refine ev_aw ?_); first | (refine aw_drawJ (by kernel_rfl) (id := 6) _ _ (by kernel_rfl) (pl_RgR_33_6U _ (by kernel_rfl)) (fun KJ hJ => ?_))) | (with_reducible first | refine ru_four ?_ ?_ ?_ ?_ | refine ru_three ?_ ?_ ?_ | refine ru_two ?_ ?_ | refine rv_split ?_ ?_ | refine rv_two ?_ ?_ | refine rp_two ?_ ?_) | ((with_reducible refine evg ?_); simp only [go_sem, St.clean, cleanO, ↓reduceIte, Nat.reduceEqDiff, Nat.reduceBEq, Nat.reduceAdd, Nat.reduceMul, Nat.reduceSub, Nat.reduceLT, Nat.reduceLeDiff]) | (simp (disch := omega) only [dsq, Int.reduceSub, Int.reduceAdd, Int.reduceToNat, hT]) | ((with_reducible refine ev_call ?_); (first | (refine call_s e1 ?_ ?_ ?_ ?_ ?_; (focus rfl); (focus first | exact trivial | exact And.intro rfl trivial | exact ⟨rfl, rfl, trivial⟩ | exact ⟨rfl, rfl, rfl, trivial⟩); (focus rfl); (focus (simp [-List.map_map, apartO, dropO, killN, obCells, refs_dmap, nofnsD, AV.refs, AV.refsL, AV.nofn, AV.nofns] <;> fail))) | (refine call_s a1 ?_ ?_ ?_ ?_ ?_; (focus rfl); (focus first | exact trivial | exact And.intro rfl trivial | exact ⟨rfl, rfl, trivial⟩ | exact ⟨rfl, rfl, rfl, trivial⟩); (focus rfl); (focus (simp [-List.map_map, apartO, dropO, killN, obCells, refs_dmap, nofnsD, AV.refs, AV.refsL, AV.nofn, AV.nofns] <;> fail)))); refine k_run ?_) | ((with_reducible refine ck_split (fun h => ?_) (fun h => ?_)) <;> (try simp only [nrm] at h) <;> (try ((with_reducible exfalso); omega))) | ((with_reducible refine And.intro ?_ ?_); (focus first | omega | (simp; done) | (simp; omega) | ((repeat' (with_reducible refine And.intro ?_ ?_)) <;> first | omega | rfl | (simp only [go_sem, refsL_app, refs_dmap] <;> fail) | (simp [refsL_app, refs_dmap, AV.refsL, AV.refs] <;> omega)))) | (with_reducible refine hJ _ (fun K hK => ?_) ?_ <;> clear hJ KJ) | ((with_reducible refine ev_less ?_); (refine ⟨rfl, ?_, ?_⟩ <;> simp only [go_sem, St.clean, cleanO, SubS, SubO, beq_self_eq_true, ↓reduceIte, Nat.reduceEqDiff, Nat.reduceBEq, Nat.reduceAdd, Nat.reduceMul, Nat.reduceSub, Nat.reduceLT, Nat.reduceLeDiff])) | ((with_reducible first | apply hK | (clear hK K; first | apply hK | (clear hK K; apply hK))); clear hK K) | fail)
  all_goals (try omega)
  refine ressQ_step [(13, 5001)] (by simp) (by simp [lensO, lookO, obCells]) rfl ⟨rfl, rfl, trivial⟩ ?_
  simp only [go_sem, ↓reduceIte, Nat.reduceEqDiff, Nat.reduceBEq, Nat.reduceAdd, Nat.reduceMul, Nat.reduceSub, Nat.reduceLT, Nat.reduceLeDiff]
  rfl
 rw [if_neg x0] at hA
 by_cases x1 : k = 1
 ·
  rw [if_pos x1] at hA
  subst hA
  have hT : (zs.map D.int).set 23 (D.int v) = (zs.set 23 v).map D.int := map_set _ _ _ _
  refine fns_go Try.func33 rfl rfl Try.ntmps33 Try.results33 (by simp only [slotsA, Nat.reduceAdd]; rfl) (by simp) rfl ?_
  repeat' (first | (with_reducible first | refine aw_seq fun K hK => ?_ | refine aw_region (by kernel_rfl) ?_ | refine aw_condk ?_ | refine aw_block ?_) | ((with_reducible refine ev_aw ?_); first | (refine aw_drawJ (by kernel_rfl) (id := 6) _ _ (by kernel_rfl) (pl_RgR_33_6U _ (by kernel_rfl)) (fun KJ hJ => ?_))) | (with_reducible first | refine ru_four ?_ ?_ ?_ ?_ | refine ru_three ?_ ?_ ?_ | refine ru_two ?_ ?_ | refine rv_split ?_ ?_ | refine rv_two ?_ ?_ | refine rp_two ?_ ?_) | ((with_reducible refine evg ?_); simp only [go_sem, St.clean, cleanO, ↓reduceIte, Nat.reduceEqDiff, Nat.reduceBEq, Nat.reduceAdd, Nat.reduceMul, Nat.reduceSub, Nat.reduceLT, Nat.reduceLeDiff]) | (simp (disch := omega) only [dsq, Int.reduceSub, Int.reduceAdd, Int.reduceToNat, hT]) | ((with_reducible refine ev_call ?_); (first | (refine call_s e1 ?_ ?_ ?_ ?_ ?_; (focus rfl); (focus first | exact trivial | exact And.intro rfl trivial | exact ⟨rfl, rfl, trivial⟩ | exact ⟨rfl, rfl, rfl, trivial⟩); (focus rfl); (focus (simp [-List.map_map, apartO, dropO, killN, obCells, refs_dmap, nofnsD, AV.refs, AV.refsL, AV.nofn, AV.nofns] <;> fail))) | (refine call_s a1 ?_ ?_ ?_ ?_ ?_; (focus rfl); (focus first | exact trivial | exact And.intro rfl trivial | exact ⟨rfl, rfl, trivial⟩ | exact ⟨rfl, rfl, rfl, trivial⟩); (focus rfl); (focus (simp [-List.map_map, apartO, dropO, killN, obCells, refs_dmap, nofnsD, AV.refs, AV.refsL, AV.nofn, AV.nofns] <;> fail))) | (refine call_s a2 ?_ ?_ ?_ ?_ ?_; (focus rfl); (focus first | exact trivial | exact And.intro rfl trivial | exact ⟨rfl, rfl, trivial⟩ | exact ⟨rfl, rfl, rfl, trivial⟩); (focus rfl); (focus (simp [-List.map_map, apartO, dropO, killN, obCells, refs_dmap, nofnsD, AV.refs, AV.refsL, AV.nofn, AV.nofns] <;> fail)))); refine k_run ?_) | ((with_reducible refine ck_split (fun h => ?_) (fun h => ?_)) <;> (try simp only [nrm] at h) <;> (try ((with_reducible exfalso); omega))) | ((with_reducible refine And.intro ?_ ?_); (focus first | omega | (simp; done) | (simp; omega) | ((repeat' (with_reducible refine And.intro ?_ ?_)) <;> first | omega | rfl | (simp only [go_sem, refsL_app, refs_dmap] <;> fail) | (simp [refsL_app, refs_dmap, AV.refsL, AV.refs] <;> omega)))) | (with_reducible refine hJ _ (fun K hK => ?_) ?_ <;> clear hJ KJ) | ((with_reducible refine ev_less ?_); (refine ⟨rfl, ?_, ?_⟩ <;> simp only [go_sem, St.clean, cleanO, SubS, SubO, beq_self_eq_true, ↓reduceIte, Nat.reduceEqDiff, Nat.reduceBEq, Nat.reduceAdd, Nat.reduceMul, Nat.reduceSub, Nat.reduceLT, Nat.reduceLeDiff])) | ((with_reducible first | apply hK | (clear hK K; first | apply hK | (clear hK K; apply hK))); clear hK K) | fail)
  all_goals (try omega)
  refine ressQ_step [(5, 5001)] (by simp) (by simp [lensO, lookO, obCells]) rfl ⟨rfl, rfl, trivial⟩ ?_
  simp only [go_sem, ↓reduceIte, Nat.reduceEqDiff, Nat.reduceBEq, Nat.reduceAdd, Nat.reduceMul, Nat.reduceSub, Nat.reduceLT, Nat.reduceLeDiff]
  rfl
 rw [if_neg x1] at hA
 by_cases x2 : k = 2
 ·
  rw [if_pos x2] at hA
  subst hA
  refine fns_go Try.func33 rfl rfl Try.ntmps33 Try.results33 (by simp only [slotsA, Nat.reduceAdd]; rfl) (by simp) rfl ?_
  repeat' (first | (with_reducible first | refine aw_seq fun K hK => ?_ | refine aw_region (by kernel_rfl) ?_ | refine aw_condk ?_ | refine aw_block ?_) | ((with_reducible refine ev_aw ?_); first | (refine aw_drawJ (by kernel_rfl) (id := 6) _ _ (by kernel_rfl) (pl_RgR_33_6U _ (by kernel_rfl)) (fun KJ hJ => ?_))) | (with_reducible first | refine ru_four ?_ ?_ ?_ ?_ | refine ru_three ?_ ?_ ?_ | refine ru_two ?_ ?_ | refine rv_split ?_ ?_ | refine rv_two ?_ ?_ | refine rp_two ?_ ?_) | ((with_reducible refine evg ?_); simp only [go_sem, St.clean, cleanO, ↓reduceIte, Nat.reduceEqDiff, Nat.reduceBEq, Nat.reduceAdd, Nat.reduceMul, Nat.reduceSub, Nat.reduceLT, Nat.reduceLeDiff]) | (simp (disch := omega) only [dsq, Int.reduceSub, Int.reduceAdd, Int.reduceToNat]) | ((with_reducible refine ev_call ?_); (first | (refine call_s e1 ?_ ?_ ?_ ?_ ?_; (focus rfl); (focus first | exact trivial | exact And.intro rfl trivial | exact ⟨rfl, rfl, trivial⟩ | exact ⟨rfl, rfl, rfl, trivial⟩); (focus rfl); (focus (simp [-List.map_map, apartO, dropO, killN, obCells, refs_dmap, nofnsD, AV.refs, AV.refsL, AV.nofn, AV.nofns] <;> fail))) | (refine call_s a1 ?_ ?_ ?_ ?_ ?_; (focus rfl); (focus first | exact trivial | exact And.intro rfl trivial | exact ⟨rfl, rfl, trivial⟩ | exact ⟨rfl, rfl, rfl, trivial⟩); (focus rfl); (focus (simp [-List.map_map, apartO, dropO, killN, obCells, refs_dmap, nofnsD, AV.refs, AV.refsL, AV.nofn, AV.nofns] <;> fail)))); refine k_run ?_) | ((with_reducible refine ck_split (fun h => ?_) (fun h => ?_)) <;> (try simp only [nrm] at h) <;> (try ((with_reducible exfalso); omega))) | ((with_reducible refine And.intro ?_ ?_); (focus first | omega | (simp; done) | (simp; omega) | ((repeat' (with_reducible refine And.intro ?_ ?_)) <;> first | omega | rfl | (simp only [go_sem, refsL_app, refs_dmap] <;> fail) | (simp [refsL_app, refs_dmap, AV.refsL, AV.refs] <;> omega)))) | (with_reducible refine hJ _ (fun K hK => ?_) ?_ <;> clear hJ KJ) | ((with_reducible refine ev_less ?_); (refine ⟨rfl, ?_, ?_⟩ <;> simp only [go_sem, St.clean, cleanO, SubS, SubO, beq_self_eq_true, ↓reduceIte, Nat.reduceEqDiff, Nat.reduceBEq, Nat.reduceAdd, Nat.reduceMul, Nat.reduceSub, Nat.reduceLT, Nat.reduceLeDiff])) | ((with_reducible first | apply hK | (clear hK K; first | apply hK | (clear hK K; apply hK))); clear hK K) | fail)
  all_goals (try omega)
  refine ressQ_step [(5, 5001)] (by simp) (by simp [lensO, lookO, obCells]) rfl ⟨rfl, rfl, trivial⟩ ?_
  simp only [go_sem, ↓reduceIte, Nat.reduceEqDiff, Nat.reduceBEq, Nat.reduceAdd, Nat.reduceMul, Nat.reduceSub, Nat.reduceLT, Nat.reduceLeDiff]
  rfl
 ·
  rw [if_neg x2] at hA
  subst hA
  refine fns_go Try.func33 rfl rfl Try.ntmps33 Try.results33 (by simp only [slotsA, Nat.reduceAdd]; rfl) (by simp) rfl ?_
  repeat' (first | (with_reducible first | refine aw_seq fun K hK => ?_ | refine aw_region (by kernel_rfl) ?_ | refine aw_condk ?_ | refine aw_block ?_) | ((with_reducible refine ev_aw ?_); first | (refine aw_drawJ (by kernel_rfl) (id := 6) _ _ (by kernel_rfl) (pl_RgR_33_6U _ (by kernel_rfl)) (fun KJ hJ => ?_))) | (with_reducible first | refine ru_four ?_ ?_ ?_ ?_ | refine ru_three ?_ ?_ ?_ | refine ru_two ?_ ?_ | refine rv_split ?_ ?_ | refine rv_two ?_ ?_ | refine rp_two ?_ ?_) | ((with_reducible refine evg ?_); simp only [go_sem, St.clean, cleanO, ↓reduceIte, Nat.reduceEqDiff, Nat.reduceBEq, Nat.reduceAdd, Nat.reduceMul, Nat.reduceSub, Nat.reduceLT, Nat.reduceLeDiff]) | (simp (disch := omega) only [dsq, Int.reduceSub, Int.reduceAdd, Int.reduceToNat]) | ((with_reducible refine ev_call ?_); (first | (refine call_s e1 ?_ ?_ ?_ ?_ ?_; (focus rfl); (focus first | exact trivial | exact And.intro rfl trivial | exact ⟨rfl, rfl, trivial⟩ | exact ⟨rfl, rfl, rfl, trivial⟩); (focus rfl); (focus (simp [-List.map_map, apartO, dropO, killN, obCells, refs_dmap, nofnsD, AV.refs, AV.refsL, AV.nofn, AV.nofns] <;> fail))) | (refine call_s a1 ?_ ?_ ?_ ?_ ?_; (focus rfl); (focus first | exact trivial | exact And.intro rfl trivial | exact ⟨rfl, rfl, trivial⟩ | exact ⟨rfl, rfl, rfl, trivial⟩); (focus rfl); (focus (simp [-List.map_map, apartO, dropO, killN, obCells, refs_dmap, nofnsD, AV.refs, AV.refsL, AV.nofn, AV.nofns] <;> fail)))); refine k_run ?_) | ((with_reducible refine ck_split (fun h => ?_) (fun h => ?_)) <;> (try simp only [nrm] at h) <;> (try ((with_reducible exfalso); omega))) | ((with_reducible refine And.intro ?_ ?_); (focus first | omega | (simp; done) | (simp; omega) | ((repeat' (with_reducible refine And.intro ?_ ?_)) <;> first | omega | rfl | (simp only [go_sem, refsL_app, refs_dmap] <;> fail) | (simp [refsL_app, refs_dmap, AV.refsL, AV.refs] <;> omega)))) | (with_reducible refine hJ _ (fun K hK => ?_) ?_ <;> clear hJ KJ) | ((with_reducible refine ev_less ?_); (refine ⟨rfl, ?_, ?_⟩ <;> simp only [go_sem, St.clean, cleanO, SubS, SubO, beq_self_eq_true, ↓reduceIte, Nat.reduceEqDiff, Nat.reduceBEq, Nat.reduceAdd, Nat.reduceMul, Nat.reduceSub, Nat.reduceLT, Nat.reduceLeDiff])) | ((with_reducible first | apply hK | (clear hK K; first | apply hK | (clear hK K; apply hK))); clear hK K) | fail)
  all_goals (try omega)
  refine ressQ_step [(5, 5001)] (by simp) (by simp [lensO, lookO, obCells]) rfl ⟨rfl, rfl, trivial⟩ ?_
  simp only [go_sem, ↓reduceIte, Nat.reduceEqDiff, Nat.reduceBEq, Nat.reduceAdd, Nat.reduceMul, Nat.reduceSub, Nat.reduceLT, Nat.reduceLeDiff]
  rfl

end Go.Proofs.Ytjbifidphckjoaa
