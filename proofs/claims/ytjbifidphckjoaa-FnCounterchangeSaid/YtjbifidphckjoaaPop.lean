/- How many bits a small number has: the library's count is at most 24, and 0 exactly for 0. -/
import Derived.Test.YtjbifidphckjoaaRegion2
import Derived.WalkKit
import Derived.WalkSpells
import Derived.KernelRfl
namespace Go.Proofs.Ytjbifidphckjoaa
open Go.RowKit
set_option maxRecDepth 100000
set_option maxHeartbeats 4000000
set_option linter.unusedVariables false
set_option linter.unusedSimpArgs false

attribute [local go_sem] intL

attribute [local simp] ints_plain ints_all ints_all1 ints_plain_take

/-- One step of counting bits: neighbours are added. -/

def pcA (x : Nat) : Nat := ((x >>> 1) &&& 6148914691236517205) + (x &&& 6148914691236517205)

def pcB (x : Nat) : Nat := ((x >>> 2) &&& 3689348814741910323) + (x &&& 3689348814741910323)

def pcC (x : Nat) : Nat := ((x >>> 4) + x) &&& 1085102592571150095

def pcS (x : Nat) : Nat := let a := x + (x >>> 8); let b := a + (a >>> 16); (b + (b >>> 32)) &&& 127

def pc (x : Nat) : Nat := pcS (pcC (pcB (pcA x)))

theorem and_split {k a b m n : Nat} (ha : a < 2 ^ k) (hm : m < 2 ^ k) : (a + 2 ^ k * b) &&& (m + 2 ^ k * n) = (a &&& m) + 2 ^ k * (b &&& n) := by
 apply Nat.eq_of_testBit_eq
 intro i
 have h1 : (a &&& m) < 2 ^ k := Nat.and_lt_two_pow _ hm
 rw [Nat.testBit_and, Nat.add_comm a, Nat.add_comm m, Nat.add_comm (a &&& m), Nat.testBit_two_pow_mul_add _ ha, Nat.testBit_two_pow_mul_add _ hm, Nat.testBit_two_pow_mul_add _ h1]
 split
 · rw [Nat.testBit_and]
 · rw [Nat.testBit_and]

def am (m x : Nat) : Nat := ((x >>> 1) &&& m) + (x &&& m)

def bm (m x : Nat) : Nat := ((x >>> 2) &&& m) + (x &&& m)

def cm (m x : Nat) : Nat := ((x >>> 4) + x) &&& m

theorem shr_split {k a y : Nat} (hk : k = 1 ∨ k = 2 ∨ k = 4) (ha : a < 256) : (a + 256 * y) >>> k = (a >>> k + 2 ^ (8 - k) * (y % 2 ^ k)) + 256 * (y >>> k) := by
 simp only [Nat.shiftRight_eq_div_pow]
 rcases hk with rfl | rfl | rfl <;> simp only [Nat.reducePow, Nat.reduceSub] <;> omega

theorem am_low : ∀ a, a < 256 -> ∀ r, r < 2 -> (a >>> 1 + 128 * r) &&& 85 = (a >>> 1) &&& 85 := by decide +kernel

theorem bm_low : ∀ a, a < 256 -> ∀ r, r < 4 -> (a >>> 2 + 64 * r) &&& 51 = (a >>> 2) &&& 51 := by decide +kernel

theorem am_split {a y m : Nat} (ha : a < 256) : am (85 + 256 * m) (a + 256 * y) = am 85 a + 256 * am m y := by
 have h1 : a >>> 1 + 128 * (y % 2) < 256 := by
  rw [Nat.shiftRight_eq_div_pow]
  omega
 unfold am
 rw [shr_split (.inl rfl) ha, show (256 : Nat) = 2 ^ 8 from rfl, and_split (by simpa using h1) (by decide), and_split (by simpa using ha) (by decide)]
 have := am_low a ha (y % 2) (Nat.mod_lt _ (by decide))
 simp only [Nat.reducePow, Nat.reduceSub] at this ⊢
 rw [this]
 omega

theorem bm_split {a y m : Nat} (ha : a < 256) : bm (51 + 256 * m) (a + 256 * y) = bm 51 a + 256 * bm m y := by
 have h1 : a >>> 2 + 64 * (y % 4) < 256 := by
  rw [Nat.shiftRight_eq_div_pow]
  omega
 unfold bm
 rw [shr_split (.inr (.inl rfl)) ha, show (256 : Nat) = 2 ^ 8 from rfl, and_split (by simpa using h1) (by decide), and_split (by simpa using ha) (by decide)]
 have := bm_low a ha (y % 4) (Nat.mod_lt _ (by decide))
 simp only [Nat.reducePow, Nat.reduceSub] at this ⊢
 rw [this]
 omega

theorem cm_low : ∀ a, a < 69 -> ∀ r, r < 5 -> (a >>> 4 + 16 * r + a) &&& 15 = (a >>> 4 + a) &&& 15 /\ a >>> 4 + 16 * r + a < 256 := by decide +kernel

theorem cm_split {a y m : Nat} (ha : a < 69) (hy : y % 16 < 5) : cm (15 + 256 * m) (a + 256 * y) = cm 15 a + 256 * cm m y := by
 obtain ⟨h1, h2⟩ := cm_low a ha (y % 16) hy
 unfold cm
 rw [shr_split (.inr (.inr rfl)) (by omega)]
 simp only [Nat.reducePow, Nat.reduceSub]
 rw [show a >>> 4 + 16 * (y % 16) + 256 * (y >>> 4) + (a + 256 * y) = (a >>> 4 + 16 * (y % 16) + a) + 2 ^ 8 * (y >>> 4 + y) by simp only [Nat.reducePow]; omega, show (15 + 256 * m) = 15 + 2 ^ 8 * m from rfl, and_split (by simpa using h2) (by decide), h1]

theorem byte1 : ∀ a, a < 256 -> am 85 a < 256 /\ bm 51 (am 85 a) < 69 /\ bm 51 (am 85 a) % 16 < 5 /\ cm 15 (bm 51 (am 85 a)) <= 8 /\ (cm 15 (bm 51 (am 85 a)) = 0 ↔ a = 0) := by decide +kernel

theorem am_one {a m : Nat} (ha : a < 256) : am (85 + 256 * m) a = am 85 a := by
 have := am_split (m := m) (y := 0) ha
 have h0 : am m 0 = 0 := by simp [am]
 rw [h0] at this
 simpa using this

theorem bm_one {a m : Nat} (ha : a < 256) : bm (51 + 256 * m) a = bm 51 a := by
 have := bm_split (m := m) (y := 0) ha
 have h0 : bm m 0 = 0 := by simp [bm]
 rw [h0] at this
 simpa using this

theorem cm_one {a m : Nat} (ha : a < 69) : cm (15 + 256 * m) a = cm 15 a := by
 have := cm_split (m := m) (y := 0) ha (by decide)
 have h0 : cm m 0 = 0 := by simp [cm]
 rw [h0] at this
 simpa using this

theorem pc_bytes {a b c : Nat} (ha : a < 256) (hb : b < 256) (hc : c < 256) : cm 1085102592571150095 (bm 3689348814741910323 (am 6148914691236517205 (a + 256 * (b + 256 * c)))) = cm 15 (bm 51 (am 85 a)) + 256 * (cm 15 (bm 51 (am 85 b)) + 256 * cm 15 (bm 51 (am 85 c))) := by
 obtain ⟨a1, a2, a3, a4, a5⟩ := byte1 a ha
 obtain ⟨b1, b2, b3, b4, b5⟩ := byte1 b hb
 obtain ⟨c1, c2, c3, c4, c5⟩ := byte1 c hc
 rw [show (6148914691236517205 : Nat) = 85 + 256 * (85 + 256 * (85 + 256 * (6148914691236517205 / 16777216))) from rfl, am_split ha, am_split hb, am_one hc]
 rw [show (3689348814741910323 : Nat) = 51 + 256 * (51 + 256 * (51 + 256 * (3689348814741910323 / 16777216))) from rfl, bm_split a1, bm_split b1, bm_one c1]
 rw [show (1085102592571150095 : Nat) = 15 + 256 * (15 + 256 * (15 + 256 * (1085102592571150095 / 16777216))) from rfl, cm_split a2 (by omega), cm_split b2 (by omega), cm_one c2]

theorem pc_ok (x : Nat) (hx : x < 16777216) : pc x <= 24 /\ (pc x = 0 ↔ x = 0) := by
 have e : x = x % 256 + 256 * (x / 256 % 256 + 256 * (x / 65536)) := by omega
 have hc : x / 65536 < 256 := by omega
 have ha : x % 256 < 256 := by omega
 have hb : x / 256 % 256 < 256 := by omega
 have h := pc_bytes ha hb hc
 rw [← e] at h
 obtain ⟨-, -, -, a4, a5⟩ := byte1 _ ha
 obtain ⟨-, -, -, b4, b5⟩ := byte1 _ hb
 obtain ⟨-, -, -, c4, c5⟩ := byte1 _ hc
 have h2 : pc x = pcS (cm 1085102592571150095 (bm 3689348814741910323 (am 6148914691236517205 x))) := rfl
 rw [h2, h]
 generalize cm 15 (bm 51 (am 85 (x % 256))) = A at *
 generalize cm 15 (bm 51 (am 85 (x / 256 % 256))) = B at *
 generalize cm 15 (bm 51 (am 85 (x / 65536))) = C at *
 have h3 : pcS (A + 256 * (B + 256 * C)) = A + B + C := by
  have s1 : (A + 256 * (B + 256 * C)) / 256 = B + 256 * C := by omega
  have s2 : (A + 256 * (B + 256 * C) + (B + 256 * C)) / 65536 = C := by omega
  have s3 : (A + 256 * (B + 256 * C) + (B + 256 * C) + C) / 4294967296 = 0 := by omega
  have s4 : (A + 256 * (B + 256 * C) + (B + 256 * C) + C) % 128 = A + B + C := by omega
  unfold pcS
  simp only [Nat.shiftRight_eq_div_pow, Nat.reducePow, s1, s2, s3, Nat.add_zero]
  rw [show (127 : Nat) = 2 ^ 7 - 1 from rfl, Nat.and_two_pow_sub_one_eq_mod]
  exact s4
 rw [h3]
 omega

theorem and_natU (a b : Nat) (ha : a < 2 ^ 63) (hb : b < 2 ^ 63) : bits .and .u64 (a : Int) (b : Int) = ((a &&& b : Nat) : Int) := (bits_nat .u64 63 (by decide) (fun n h0 h1 => wru h0 (by omega)) a b ha hb).1

theorem am_le (m n : Nat) : am m n <= 2 * n := by
 have h1 : (n >>> 1) &&& m <= n >>> 1 := Nat.and_le_left
 have h2 : n &&& m <= n := Nat.and_le_left
 rw [Nat.shiftRight_eq_div_pow] at h1
 unfold am
 rw [Nat.shiftRight_eq_div_pow]
 omega

theorem bm_le (m n : Nat) : bm m n <= 2 * n := by
 have h1 : (n >>> 2) &&& m <= n >>> 2 := Nat.and_le_left
 have h2 : n &&& m <= n := Nat.and_le_left
 rw [Nat.shiftRight_eq_div_pow] at h1
 unfold bm
 rw [Nat.shiftRight_eq_div_pow]
 omega

theorem cm_le (m n : Nat) : cm m n <= 2 * n := by
 have h1 : ((n >>> 4) + n) &&& m <= (n >>> 4) + n := Nat.and_le_left
 rw [Nat.shiftRight_eq_div_pow] at h1
 unfold cm
 rw [Nat.shiftRight_eq_div_pow]
 omega

theorem stA (n : Nat) (h : n < 1099511627776) : IntKind.u64.wrap (bits .and .u64 ((n : Int).fdiv (2 ^ min 1 64)) 6148914691236517205 + bits .and .u64 (n : Int) 6148914691236517205) = ((am 6148914691236517205 n : Nat) : Int) := by
 have m : (6148914691236517205 : Int) = ((6148914691236517205 : Nat) : Int) := rfl
 have h1 := am_le 6148914691236517205 n
 have e : ((am 6148914691236517205 n : Nat) : Int) = ((n / 2 ^ 1 &&& 6148914691236517205 : Nat) : Int) + ((n &&& 6148914691236517205 : Nat) : Int) := by
  unfold am
  rw [Nat.shiftRight_eq_div_pow]
  omega
 rw [show min 1 64 = 1 from rfl, fdiv_nat, m, and_natU _ _ (by omega) (by decide), and_natU _ _ (by omega) (by decide), ← e, wru (by omega) (by omega)]

theorem stB (n : Nat) (h : n < 1099511627776) : IntKind.u64.wrap (bits .and .u64 ((n : Int).fdiv (2 ^ min 2 64)) 3689348814741910323 + bits .and .u64 (n : Int) 3689348814741910323) = ((bm 3689348814741910323 n : Nat) : Int) := by
 have m : (3689348814741910323 : Int) = ((3689348814741910323 : Nat) : Int) := rfl
 have h1 := bm_le 3689348814741910323 n
 have e : ((bm 3689348814741910323 n : Nat) : Int) = ((n / 2 ^ 2 &&& 3689348814741910323 : Nat) : Int) + ((n &&& 3689348814741910323 : Nat) : Int) := by
  unfold bm
  rw [Nat.shiftRight_eq_div_pow]
  omega
 rw [show min 2 64 = 2 from rfl, fdiv_nat, m, and_natU _ _ (by omega) (by decide), and_natU _ _ (by omega) (by decide), ← e, wru (by omega) (by omega)]

theorem stC (n : Nat) (h : n < 1099511627776) : bits .and .u64 (IntKind.u64.wrap ((n : Int).fdiv (2 ^ min 4 64) + (n : Int))) 1085102592571150095 = ((cm 1085102592571150095 n : Nat) : Int) := by
 have m : (1085102592571150095 : Int) = ((1085102592571150095 : Nat) : Int) := rfl
 have e : ((n / 2 ^ 4 : Nat) : Int) + (n : Int) = ((n / 2 ^ 4 + n : Nat) : Int) := by omega
 rw [show min 4 64 = 4 from rfl, fdiv_nat, e, wru (by omega) (by omega), m, and_natU _ _ (by omega) (by decide)]
 unfold cm
 rw [Nat.shiftRight_eq_div_pow]

theorem stS {k : Nat} (n : Nat) (hk : k <= 64) (h : n < 1099511627776) : IntKind.u64.wrap ((n : Int) + (n : Int).fdiv (2 ^ min k 64)) = ((n + n >>> k : Nat) : Int) := by
 have h1 : n / 2 ^ k <= n := Nat.div_le_self _ _
 rw [Nat.min_eq_left hk, fdiv_nat, Nat.shiftRight_eq_div_pow]
 generalize n / 2 ^ k = q at *
 rw [wru (by omega) (by omega)]
 omega

theorem onesCount64_fn (n : Nat) (hn : n < 1048576) : FnD Try.prog 102 [.v (.int .u64 (n : Int))] (.int (pc n : Nat)) := by
 have hA := am_le 6148914691236517205 n
 have h1 := stA n (by omega)
 obtain ⟨a, ea⟩ : ∃ a, am 6148914691236517205 n = a := ⟨_, rfl⟩
 rw [ea] at hA h1
 have hB := bm_le 3689348814741910323 a
 have h2 := stB a (by omega)
 obtain ⟨b, eb⟩ : ∃ b, bm 3689348814741910323 a = b := ⟨_, rfl⟩
 rw [eb] at hB h2
 have hC := cm_le 1085102592571150095 b
 have h3 := stC b (by omega)
 obtain ⟨c, ec⟩ : ∃ c, cm 1085102592571150095 b = c := ⟨_, rfl⟩
 rw [ec] at hC h3
 have h4 := stS (k := 8) c (by omega) (by omega)
 have k4 : c + c >>> 8 <= 2 * c := by rw [Nat.shiftRight_eq_div_pow]; omega
 obtain ⟨d, ed⟩ : ∃ d, c + c >>> 8 = d := ⟨_, rfl⟩
 rw [ed] at h4 k4
 have h5 := stS (k := 16) d (by omega) (by omega)
 have k5 : d + d >>> 16 <= 2 * d := by rw [Nat.shiftRight_eq_div_pow]; omega
 obtain ⟨e, ee⟩ : ∃ e, d + d >>> 16 = e := ⟨_, rfl⟩
 rw [ee] at h5 k5
 have h6 := stS (k := 32) e (by omega) (by omega)
 have k6 : e + e >>> 32 <= 2 * e := by rw [Nat.shiftRight_eq_div_pow]; omega
 have hp : pc n = (e + e >>> 32) &&& 127 := by
  rw [← ee, ← ed, ← ec, ← eb, ← ea]
  rfl
 rw [hp]
 obtain ⟨f, ef⟩ : ∃ f, e + e >>> 32 = f := ⟨_, rfl⟩
 rw [ef] at h6 k6 ⊢
 have h7 : bits .and .i64 (IntKind.i64.wrap (f : Int)) 127 = ((f &&& 127 : Nat) : Int) := by
  rw [wr (by omega) (by omega), show (127 : Int) = ((127 : Nat) : Int) from rfl, and_nat _ _ (by omega) (by decide)]
 refine fn_go Try.func102 rfl rfl Try.ntmps102 Try.results102 (by simp only [slo, Nat.reduceAdd]; rfl) (by simp) ?_
 repeat' (first | (with_reducible first | refine aw_seq fun K hK => ?_ | refine aw_region (by kernel_rfl) ?_) | ((with_reducible refine evg ?_); simp only [go_sem, ↓reduceIte, Nat.reduceEqDiff, Nat.reduceBEq, Nat.reduceAdd, Nat.reduceMul, Nat.reduceSub, Nat.reduceLT, Nat.reduceLeDiff]) | ((with_reducible refine And.intro ?_ ?_); (focus first | omega | (simp; done) | (simp; omega) | ((repeat' (with_reducible refine And.intro ?_ ?_)) <;> first | omega | rfl | (simp only [go_sem, refsL_app, refs_dmap] <;> fail) | (simp [refsL_app, refs_dmap, AV.refsL, AV.refs] <;> omega)))) | ((with_reducible first | apply hK | (clear hK K; first | apply hK | (clear hK K; apply hK))); clear hK K) | (simp (disch := omega) only [dsq, Int.reduceSub, Int.reduceAdd, Int.reduceToNat]) | fail)
 rw [h1, h2, h3, h4, h5, h6, h7]
 refine res_tmp rfl (by simp [D.plain, plains]) (by simp) ?_
 rfl

theorem onesCount_fn (n : Nat) (hn : n < 1048576) : FnD Try.prog 83 [.v (.int .u64 (n : Int))] (.int (pc n : Nat)) := by
 have e := onesCount64_fn n hn
 refine fn_go Try.func83 rfl rfl Try.ntmps83 Try.results83 (by simp only [slo, Nat.reduceAdd]; rfl) (by simp) ?_
 repeat' (first | (with_reducible first | refine aw_seq fun K hK => ?_ | refine aw_region (by kernel_rfl) ?_ | refine aw_condk ?_) | ((with_reducible refine evg ?_); simp only [go_sem, ↓reduceIte, Nat.reduceEqDiff, Nat.reduceBEq, Nat.reduceAdd, Nat.reduceMul, Nat.reduceSub, Nat.reduceLT, Nat.reduceLeDiff]) | ((with_reducible refine ev_call ?_); (first | (refine call_fn e rfl ?_)); refine k_run ?_) | ((with_reducible refine ck_split (fun h => ?_) (fun h => ?_)) <;> (try simp only [nrm] at h)) | ((with_reducible refine And.intro ?_ ?_); (focus first | omega | (simp; done) | (simp; omega) | ((repeat' (with_reducible refine And.intro ?_ ?_)) <;> first | omega | rfl | (simp only [go_sem, refsL_app, refs_dmap] <;> fail) | (simp [refsL_app, refs_dmap, AV.refsL, AV.refs] <;> omega)))) | ((with_reducible first | apply hK | (clear hK K; first | apply hK | (clear hK K; apply hK))); clear hK K) | (simp (disch := omega) only [dsq, Int.reduceSub, Int.reduceAdd, Int.reduceToNat]) | fail)
 refine res_tmp rfl (by simp [D.plain, plains]) (by simp) ?_
 rfl

def areaN (zs : List Int) (i : Nat) : Nat := ((zs.take i).map fun z => pc z.toNat).sum

theorem areaN_next {zs : List Int} {i : Nat} (h : i < zs.length) : areaN zs (i + 1) = areaN zs i + pc (zs.getD i 0).toNat := by
 rw [areaN, take_next 0 h, List.map_append, List.sum_append]
 simp [areaN]

theorem area_fn (zs : List Int) (hz : okReg zs = true) : FnD Try.prog 49 [.ag [intL zs]] (.int (areaN zs 24 : Nat)) := by
 have hl := okReg_len hz
 refine fn_go Try.func49 rfl rfl Try.ntmps49 Try.results49 (by simp only [slo, Nat.reduceAdd]; rfl) (by simp) ?_
 repeat' (first | (with_reducible first | refine aw_seq fun K hK => ?_ | refine aw_region (by kernel_rfl) ?_ | refine aw_condk ?_ | refine aw_block ?_) | ((with_reducible refine evg ?_); simp only [go_sem, ↓reduceIte, Nat.reduceEqDiff, Nat.reduceBEq, Nat.reduceAdd, Nat.reduceMul, Nat.reduceSub, Nat.reduceLT, Nat.reduceLeDiff]) | ((with_reducible refine ck_split (fun h => ?_) (fun h => ?_)) <;> (try simp only [nrm] at h)) | ((with_reducible refine And.intro ?_ ?_); (focus first | omega | (simp; done) | (simp; omega) | ((repeat' (with_reducible refine And.intro ?_ ?_)) <;> first | omega | rfl | (simp only [go_sem, refsL_app, refs_dmap] <;> fail) | (simp [refsL_app, refs_dmap, AV.refsL, AV.refs] <;> omega)))) | ((with_reducible first | apply hK | (clear hK K; first | apply hK | (clear hK K; apply hK))); clear hK K) | (simp (disch := omega) only [dsq, Int.reduceSub, Int.reduceAdd, Int.reduceToNat]) | fail)
 refine aw_loopU [3, 5, 9, 10, 11, 12, 13, 14, 15, 16, 17, 18] [16] (fun i : Nat => [(9, .d (.int i)), (3, .d (.int (areaN zs i : Nat)))]) (fun _ => []) (fun i => i <= 24 /\ areaN zs i <= 24 * i) (fun i => 24 - i) 0 ⟨by omega, by simp [areaN]⟩ ?_ ?_
 ·
  (refine lessW_of [] rfl ?_ <;> simp only [lsq, lookO, List.elem, List.cons_append, List.nil_append, cond_true, cond_false, and_true, true_and, beq_self_eq_true, ↓reduceIte, Nat.reduceEqDiff, Nat.reduceBEq, Nat.reduceAdd, Nat.reduceMul, Nat.reduceSub, Nat.reduceLT, Nat.reduceLeDiff] <;> try simp)
  simp [areaN]
 ·
  rintro i ⟨g1, g2⟩
  simp only [St.upd, dropS, dropOs, List.elem, List.cons_append, List.nil_append, cond_true, cond_false, beq_self_eq_true, ↓reduceIte, Nat.reduceEqDiff, Nat.reduceBEq, Nat.reduceAdd, Nat.reduceMul, Nat.reduceSub, Nat.reduceLT, Nat.reduceLeDiff]
  by_cases hi : i < 24
  ·
   have hr := okRow_lt (okReg_row hz hi)
   have hn := areaN_next (zs := zs) (i := i) (by omega)
   obtain ⟨z, ez⟩ : ∃ z, zs.getD i 0 = z := ⟨_, rfl⟩
   rw [ez] at hr hn
   obtain ⟨m, rfl⟩ := Int.eq_ofNat_of_zero_le hr.1
   have e := onesCount_fn m (by omega)
   have hp := (pc_ok m (by omega)).1
   rw [Int.toNat_natCast] at hn
   repeat' (first | (with_reducible first | refine aw_seq fun K hK => ?_ | refine aw_region (by kernel_rfl) ?_ | refine aw_condk ?_ | refine aw_block ?_) | ((with_reducible refine evg ?_); simp only [go_sem, ↓reduceIte, Nat.reduceEqDiff, Nat.reduceBEq, Nat.reduceAdd, Nat.reduceMul, Nat.reduceSub, Nat.reduceLT, Nat.reduceLeDiff]) | (simp (disch := omega) only [dsq, Int.reduceSub, Int.reduceAdd, Int.reduceToNat, int_at, ez, wru]) | ((with_reducible refine ev_call ?_); (first | (refine call_fn e rfl ?_)); refine k_run ?_) | ((with_reducible refine ck_split (fun h => ?_) (fun h => ?_)) <;> (try simp only [nrm] at h) <;> (try ((with_reducible exfalso); omega))) | ((with_reducible refine And.intro ?_ ?_); (focus first | omega | (simp; done) | (simp; omega) | ((repeat' (with_reducible refine And.intro ?_ ?_)) <;> first | omega | rfl | (simp only [go_sem, refsL_app, refs_dmap] <;> fail) | (simp [refsL_app, refs_dmap, AV.refsL, AV.refs] <;> omega)))) | ((with_reducible first | apply hK | (clear hK K; first | apply hK | (clear hK K; apply hK))); clear hK K) | fail)
   refine ⟨i + 1, ⟨by omega, by omega⟩, by omega, ?_⟩
   (refine lessW_of [] rfl ?_ <;> simp only [lsq, lookO, List.elem, List.cons_append, List.nil_append, cond_true, cond_false, and_true, true_and, beq_self_eq_true, ↓reduceIte, Nat.reduceEqDiff, Nat.reduceBEq, Nat.reduceAdd, Nat.reduceMul, Nat.reduceSub, Nat.reduceLT, Nat.reduceLeDiff] <;> try simp)
   omega
  ·
   repeat' (first | (with_reducible first | refine aw_seq fun K hK => ?_ | refine aw_region (by kernel_rfl) ?_ | refine aw_condk ?_ | refine aw_block ?_) | ((with_reducible refine evg ?_); simp only [go_sem, ↓reduceIte, Nat.reduceEqDiff, Nat.reduceBEq, Nat.reduceAdd, Nat.reduceMul, Nat.reduceSub, Nat.reduceLT, Nat.reduceLeDiff]) | (simp (disch := omega) only [dsq, Int.reduceSub, Int.reduceAdd, Int.reduceToNat]) | ((with_reducible refine ck_split (fun h => ?_) (fun h => ?_)) <;> (try simp only [nrm] at h) <;> (try ((with_reducible exfalso); omega))) | ((with_reducible refine And.intro ?_ ?_); (focus first | omega | (simp; done) | (simp; omega) | ((repeat' (with_reducible refine And.intro ?_ ?_)) <;> first | omega | rfl | (simp only [go_sem, refsL_app, refs_dmap] <;> fail) | (simp [refsL_app, refs_dmap, AV.refsL, AV.refs] <;> omega)))) | ((with_reducible first | apply hK | (clear hK K; first | apply hK | (clear hK K; apply hK))); clear hK K) | fail)
   have e : i = 24 := by omega
   subst e
   refine res_tmp rfl (by simp [D.plain, plains]) (by simp) ?_
   rfl

end Go.Proofs.Ytjbifidphckjoaa
