/- The pure texts of this claim, its functions behind all rounds among them, and small steps. Conditions stand in each theorem. -/
import Derived.Test.YtjbgnlhgjgnclaaPureNoiseKeepsA
section
namespace Go.Proofs.Ytjbgnlhgjgnclaa.DistPure
set_option linter.unusedVariables false
set_option linter.unusedSimpArgs false
open Go.RowKit Go.Proofs.Ytjbgnlhgjgnclaa.PB Go.Proofs.YtjbgnlhgjgnclaaW.PrintWords Go.Proofs.YtjbgnlhgjgnclaaW.PrintLast Go.Proofs.YtjbgnlhgjgnclaaW.PrintMore Go.Proofs.YtjbgnlhgjgnclaaW.EvKit
theorem kpow_loop (p q n : Nat) (hp1 : 1 ≤ p) (hq1 : 1 ≤ q) (hn : n ≤ 4096) (bp : p ^ n ≤ 1073741824) (bq : q ^ n ≤ 1073741824) : ∀ (m i : Nat), i + m = n →
  hushref1_Power.L0 (n : Int) ((p ^ i : Nat) : Int) ((q ^ i : Nat) : Int) (i : Int) (p : Int) (q : Int) = some (((p ^ n : Nat) : Int), ((q ^ n : Nat) : Int), 0) := by
 intro m
 induction m with
 | zero =>
  intro i hi
  obtain rfl : i = n := by omega
  have : 1 ≤ p ^ i := Nat.pow_pos (by omega)
  rw [hushref1_Power.L0_eq, if_neg (by omega), if_neg (by omega)]
 | succ m ih =>
  intro i hi
  have b1 : p ^ (i + 1) ≤ p ^ n := Nat.pow_le_pow_right hp1 (by omega)
  have b2 : q ^ (i + 1) ≤ q ^ n := Nat.pow_le_pow_right hq1 (by omega)
  have k0 : (i : Int) < (n : Int) := by omega
  have kw : wrap64 ((i : Int) + 1) = ((i + 1 : Nat) : Int) := w1 (by omega)
  have k1 : ¬ ((p ^ (i + 1) : Nat) : Int) > 1073741824 := by omega
  have k2 : ¬ ((q ^ (i + 1) : Nat) : Int) > 1073741824 := by omega
  have e1 : wrap64 (((p ^ i : Nat) : Int) * (p : Int)) = ((p ^ (i + 1) : Nat) : Int) := by rw [← Int.natCast_mul, show p ^ i * p = p ^ (i + 1) from rfl, wrap64_of (by omega) (by omega)]
  have e2 : wrap64 (((q ^ i : Nat) : Int) * (q : Int)) = ((q ^ (i + 1) : Nat) : Int) := by rw [← Int.natCast_mul, show q ^ i * q = q ^ (i + 1) from rfl, wrap64_of (by omega) (by omega)]
  rw [hushref1_Power.L0_eq, if_pos k0, e1, e2, if_neg k1, if_neg k2, kw]
  exact ih (i + 1) (by omega)
theorem kpowF {p q n : Nat} (hq1 : 1 ≤ q) (hqp : q ≤ p) (hp : p ≤ 1073741824) (hco : Nat.gcd p q = 1) (hn : n ≤ 4096) (bp : p ^ n ≤ 1073741824) :
  hushref1_Power.F (p : Int) (q : Int) (n : Int) = some (((p ^ n : Nat) : Int), ((q ^ n : Nat) : Int), 0) := by
 have hr : hushref1_Right.F (p : Int) (q : Int) = some true := by
  have h := (hushref1_Right.F_is (p : Int) (q : Int)).of_ev (RatioSpec.rright_ev (u := (p : Int)) (d := (q : Int)) ⟨by omega, by omega⟩ ⟨by omega, by omega⟩)
  rw [h, RatioSpec.rightS_iff.2 ⟨by omega, by omega, by omega, by omega, (show Int.gcd (p : Int) (q : Int) = 1 from hco)⟩]
 have b2 : q ^ n ≤ p ^ n := Nat.pow_le_pow_left hqp n
 have h0 := kpow_loop p q n (by omega) hq1 hn bp (by omega) n 0 (by omega)
 rw [Nat.pow_zero, Nat.pow_zero] at h0
 rw [hushref1_Power.F_eq, hr, Option.bind_some, if_pos rfl, if_neg (by omega), decide_eq_false (by omega), hushref1_Power.J0_eq, if_neg (by decide)]
 exact h0
theorem wgt_left {u d R t z : Nat} (h : z ≤ t) : wgt u d R t z = d ^ (t - z) * u ^ (R - (t - z)) * (if z = 0 ∨ z = R then u else u - d) := by
 unfold wgt dst
 rw [show z - t + (t - z) = t - z by omega]
theorem wgt_right {u d R t z : Nat} (h : t ≤ z) : wgt u d R t z = d ^ (z - t) * u ^ (R - (z - t)) * (if z = 0 ∨ z = R then u else u - d) := by
 unfold wgt dst
 rw [show z - t + (t - z) = z - t by omega]
theorem mul_step {x y u d : Nat} (hd : d ≤ u) : x * d * y + x * y * (u - d) = x * (y * u) := by
 obtain ⟨e, rfl⟩ := Nat.exists_eq_add_of_le hd
 rw [Nat.add_sub_cancel_left]
 grind
theorem sum_left {u d R t : Nat} (hd : d ≤ u) (ht : t ≤ R) : ∀ i, i + 1 ≤ t → sumN (wgt u d R t) (i + 1) = d ^ (t - i) * u ^ (R - t + i + 1)
 | 0, h => by
  rw [sumN, sumN, wgt_left (by omega), if_pos (.inl rfl), Nat.zero_add, Nat.mul_assoc, ← Nat.pow_succ]
  congr 2
 | i + 1, h => by
  rw [sumN, sum_left hd ht i (by omega), wgt_left (by omega), if_neg (by omega)]
  have e1 : t - i = (t - (i + 1)) + 1 := by omega
  have e2 : R - (t - (i + 1)) = R - t + i + 1 := by omega
  have e3 : R - t + (i + 1) + 1 = (R - t + i + 1) + 1 := by omega
  rw [e1, e2, e3, Nat.pow_succ, Nat.pow_succ u (R - t + i + 1)]
  exact mul_step hd
theorem sum_mid {u d R t : Nat} (hd : d ≤ u) (ht : t < R) : sumN (wgt u d R t) (t + 1) = u ^ (R + 1) := by
 rw [sumN, wgt_left (Nat.le_refl t), Nat.sub_self, Nat.pow_zero, Nat.sub_zero, Nat.one_mul]
 rcases Nat.eq_zero_or_pos t with h | h
 ·
  subst h
  rw [if_pos (.inl rfl), sumN, Nat.zero_add, Nat.pow_succ]
 ·
  obtain ⟨i, rfl⟩ : ∃ i, t = i + 1 := ⟨t - 1, by omega⟩
  rw [sum_left hd (by omega) i (Nat.le_refl _), if_neg (by omega)]
  have e1 : i + 1 - i = 1 := by omega
  have e2 : R - (i + 1) + i + 1 = R := by omega
  rw [e1, e2, Nat.pow_one, Nat.pow_succ, Nat.mul_comm d, ← Nat.mul_add]
  congr 1
  omega
theorem sum_right {u d R t : Nat} (hd : d ≤ u) (ht : t < R) : ∀ i, t + 1 + i ≤ R → sumN (wgt u d R t) (t + 1 + i) + d ^ (i + 1) * u ^ (R - i) = u ^ R * (u + d)
 | 0, h => by
  rw [Nat.add_zero, sum_mid hd ht, Nat.zero_add, Nat.pow_one, Nat.sub_zero, Nat.pow_succ, Nat.mul_comm d, ← Nat.mul_add]
 | i + 1, h => by
  have ih := sum_right hd ht i (by omega)
  rw [← ih, ← Nat.add_assoc, sumN, wgt_right (by omega), if_neg (by omega)]
  have e1 : t + 1 + i - t = i + 1 := by omega
  have e2 : R - i = (R - (i + 1)) + 1 := by omega
  rw [e1, e2, Nat.pow_succ u (R - (i + 1)), Nat.pow_succ d (i + 1)]
  have := mul_step (x := d ^ (i + 1)) (y := u ^ (R - (i + 1))) hd
  omega
theorem sum_all {u d R t : Nat} (hd : d ≤ u) (ht : t ≤ R) (hR : 1 ≤ R) : sumN (wgt u d R t) (R + 1) = u ^ R * (u + d) := by
 rcases Nat.lt_or_ge t R with h | h
 ·
  have hs := sum_right hd h (R - t - 1) (by omega)
  have e0 : t + 1 + (R - t - 1) = R := by omega
  rw [e0] at hs
  rw [sumN, wgt_right (by omega), if_pos (.inr rfl), ← hs]
  have e1 : R - t - 1 + 1 = R - t := by omega
  have e2 : R - (R - t) = t := by omega
  have e3 : R - (R - t - 1) = t + 1 := by omega
  rw [e1, e2, e3, Nat.pow_succ u t, Nat.mul_assoc]
 ·
  obtain rfl : t = R := by omega
  obtain ⟨i, rfl⟩ : ∃ i, t = i + 1 := ⟨t - 1, by omega⟩
  rw [sumN, sum_left hd (Nat.le_refl _) i (Nat.le_refl _), wgt_left (Nat.le_refl _), if_pos (.inr rfl)]
  have e1 : i + 1 - i = 1 := by omega
  have e2 : i + 1 - (i + 1) + i + 1 = i + 1 := by omega
  rw [e1, e2, Nat.sub_self, Nat.pow_zero, Nat.pow_one, Nat.one_mul, Nat.sub_zero, Nat.mul_add, Nat.mul_comm d, Nat.add_comm]
theorem wgt_far {u d R k1 k2 K : Nat} (hd : d ≤ u) (h1 : k1 ≤ R) (h2 : k2 ≤ R) (h3 : k2 ≤ k1 + K) (f : Nat) : d ^ k1 * u ^ (R - k1) * f * d ^ K ≤ d ^ k2 * u ^ (R - k2) * f * u ^ K := by
 obtain ⟨m, hm⟩ := Nat.exists_eq_add_of_le h3
 have e1 : d ^ k1 * u ^ (R - k1) * f * d ^ K = d ^ k2 * u ^ (R - k1) * f * d ^ m := by
  have : d ^ k1 * d ^ K = d ^ k2 * d ^ m := by rw [← Nat.pow_add, ← Nat.pow_add, hm]
  calc d ^ k1 * u ^ (R - k1) * f * d ^ K = (d ^ k1 * d ^ K) * (u ^ (R - k1) * f) := by ac_rfl
   _ = (d ^ k2 * d ^ m) * (u ^ (R - k1) * f) := by rw [this]
   _ = _ := by ac_rfl
 have e2 : d ^ k2 * u ^ (R - k2) * f * u ^ K = d ^ k2 * u ^ (R - k1) * f * u ^ m := by
  have : u ^ (R - k2) * u ^ K = u ^ (R - k1) * u ^ m := by
   rw [← Nat.pow_add, ← Nat.pow_add]
   congr 1
   omega
  calc d ^ k2 * u ^ (R - k2) * f * u ^ K = (u ^ (R - k2) * u ^ K) * (d ^ k2 * f) := by ac_rfl
   _ = (u ^ (R - k1) * u ^ m) * (d ^ k2 * f) := by rw [this]
   _ = _ := by ac_rfl
 rw [e1, e2]
 exact Nat.mul_le_mul_left _ (Nat.pow_le_pow_left hd m)
theorem keep_far {low : Int} {u d R s t : Nat} (hok : Ok u d R) (hR : 1 ≤ R) (hco : Nat.gcd u d = 1) (hne : d < u) (h0 : -1073741824 ≤ low) (h1 : low + (R : Int) ≤ 1073741824) (hs : s ≤ R) (ht : t ≤ R) :
  Ord (numL low (wgt u d R s) (R + 1)) ∧ farP (divG (numL low (wgt u d R s) (R + 1))) (divG (numL low (wgt u d R t) (R + 1))) = (((u ^ dst s t : Nat) : Int), ((d ^ dst s t : Nat) : Int), 0) := by
 have hd1 := hok.d1
 have hr := hok.r
 have fp : ∀ t, t ≤ R → ∀ z, z < R + 1 → 1 ≤ wgt u d R t z ∧ wgt u d R t z ≤ 1073741824 := fun t ht z hz => by
  have hk := dst_le (z := z) (t := t) (reach := R) (by omega) ht
  unfold wgt
  refine ⟨Nat.mul_pos (Nat.mul_pos (Nat.pow_pos hd1) (Nat.pow_pos (by omega))) (by split <;> omega), hok.wb hk (by split <;> omega)⟩
 have ord : ∀ t, t ≤ R → Ord (numL low (wgt u d R t) (R + 1)) := fun t ht =>
  numL_ord h0 (by omega) (by omega) (by omega) (fp t ht) (by rw [sum_all hok.du ht hR]; exact hok.q)
 have hK := dst_le (z := s) (t := t) hs ht
 have hp : u ^ dst s t ≤ u ^ R := Nat.pow_le_pow_right (by omega) hK
 have hpos : 0 < u ^ R * (u + d) := Nat.mul_pos (Nat.pow_pos (by omega)) (by omega)
 refine ⟨ord s hs, numL_far (ord s hs) (ord t ht) (by omega) (by rw [sum_all hok.du hs hR, sum_all hok.du ht hR]) (by rw [sum_all hok.du hs hR]; exact hpos) (by have := hok.p; omega) (Nat.pow_le_pow_left hok.du _) (Nat.pow_pos hd1) (Nat.Coprime.pow _ _ hco) (fun z hz => ?_) ⟨s, by omega, ?_⟩ (fun z hz => ⟨(fp s hs z hz).1, (fp t ht z hz).1⟩)⟩
 ·
  have a1 := dst_le (z := z) (t := s) (reach := R) (by omega) hs
  have a2 := dst_le (z := z) (t := t) (reach := R) (by omega) ht
  have a3 : dst z t ≤ dst z s + dst s t := by unfold dst; omega
  have a4 : dst z s ≤ dst z t + dst s t := by unfold dst; omega
  unfold wgt
  exact ⟨wgt_far hok.du a1 a2 a3 _, wgt_far hok.du a2 a1 a4 _⟩
 ·
  have e0 : dst s s = 0 := by unfold dst; omega
  unfold wgt
  rw [e0, Nat.pow_zero, Nat.one_mul, Nat.sub_zero]
  have e1 : u ^ R = u ^ (R - dst s t) * u ^ dst s t := by rw [← Nat.pow_add]; congr 1; omega
  rw [e1]
  ac_rfl
theorem keep_clamp (low high m : Int) (R : Nat) (hh : high = low + (R : Int)) : ∃ t : Nat, t ≤ R ∧ mn (mx m low) high = low + (t : Int) ∧ (low ≤ m → m ≤ high → m = low + (t : Int)) := by
 unfold mn mx
 by_cases c1 : m < low
 ·
  exact ⟨0, by omega, by rw [if_pos c1, if_neg (by omega)]; omega, fun h => by omega⟩
 ·
  by_cases c2 : m > high
  ·
   exact ⟨R, by omega, by rw [if_neg c1, if_pos (by omega)]; omega, fun _ h => by omega⟩
  ·
   exact ⟨(m - low).toNat, by omega, by rw [if_neg c1, if_neg (by omega)]; omega, fun _ _ => by omega⟩
theorem same_self {a : List S64} (h : Bd a) : hushref2_Same.F a a = some true := by rw [rsameF _ _ h h, decide_eq_true rfl]
theorem keep_j1 {low m n : Int} {u d R : Nat} (hok : Ok u d R) (hco : Nat.gcd u d = 1) {a b : List S64} (ha : Bd a) (hb : Bd b) {s t : Nat} (hs : s ≤ R) (ht : t ≤ R) (hf : farP a b = (((u ^ dst s t : Nat) : Int), ((d ^ dst s t : Nat) : Int), 0)) (em : m = low + (s : Int)) (en : n = low + (t : Int)) (h0 : -1073741824 ≤ low) (h1 : low + (R : Int) ≤ 1073741824) :
  hushlaw6_NoiseKeeps.J1 m n a b false (u : Int) (d : Int) = some true := by
 have hK := dst_le (z := s) (t := t) hs ht
 have hr := hok.r
 have ew : wrap64 (m - n) = (s : Int) - (t : Int) := by rw [wrap64_of (by omega) (by omega)]; omega
 have hu : u ^ dst s t ≤ u ^ R := Nat.pow_le_pow_right (by have := hok.d1; have := hok.du; omega) hK
 have hp := kpowF (p := u) (q := d) (n := dst s t) hok.d1 hok.du hok.u2 hco (by omega) (by have := hok.p; omega)
 rw [hushlaw6_NoiseKeeps.J1_eq, if_neg (by decide), ew]
 by_cases c : (s : Int) - (t : Int) < 0
 ·
  have e2 : wrap64 (-((s : Int) - (t : Int))) = ((dst s t : Nat) : Int) := by rw [wrap64_of (by omega) (by omega)]; unfold dst; omega
  rw [if_pos c, e2, hp, Option.bind_some, farF _ _ ha hb, Option.bind_some, hf, if_pos rfl]
  simp
 ·
  have e2 : (s : Int) - (t : Int) = ((dst s t : Nat) : Int) := by unfold dst; omega
  rw [if_neg c, e2, hp, Option.bind_some, farF _ _ ha hb, Option.bind_some, hf, if_pos rfl]
  simp
end Go.Proofs.Ytjbgnlhgjgnclaa.DistPure
namespace Go.Proofs.Ytjbgnlhgjgnclaa.Pure
open Go.RowKit Go.Proofs.Ytjbgnlhgjgnclaa.PB Go.Proofs.YtjbgnlhgjgnclaaW.PrintWords Go.Proofs.YtjbgnlhgjgnclaaW.PrintLast Go.Proofs.YtjbgnlhgjgnclaaW.PrintMore Go.Proofs.YtjbgnlhgjgnclaaW.EvKit Go.Proofs.Ytjbgnlhgjgnclaa.DistPure
theorem NoiseKeeps : hushlaw6_NoiseKeeps.Pure := by
 intro p0 low high m n h0 h1 h2 h3 h4
 refine (hushlaw6_NoiseKeeps.F_is p0.f0 p0.f1 low high m n).rounds ?_
 rw [hushlaw6_NoiseKeeps.F_eq, alive_yes, Option.bind_some, if_pos rfl]
 have hl : I64 low := wf64 h1
 have hh : I64 high := wf64 h2
 cases hide_form p0.f0 p0.f1 low high hl hh with
 | bad e he h => rw [h, Option.bind_some, if_neg he]
 | sure he k0 k1 h =>
  have hs : Bd [(⟨[low], 1⟩ : S64)] := one_sure_bd _ _ (by simp)
  rw [h, h, Option.bind_some]
  by_cases c : (makeP [(⟨[low], 1⟩ : S64)]).2 = 0
  ·
   rw [if_pos c, Option.bind_some, if_pos c, show (low == high) = true from beq_iff_eq.2 he]
   split
   ·
    rw [hushlaw6_NoiseKeeps.J0_eq, if_pos rfl, same_self (makeP_bd hs), Option.bind_some]
   ·
    rw [hushlaw6_NoiseKeeps.J0_eq, if_pos rfl, same_self (makeP_bd hs), Option.bind_some]
  ·
   rw [if_neg c]
 | many a c R hu hd hok hco hR hhi k0 k1 h =>
  obtain ⟨s, hs, es, es'⟩ := keep_clamp low high m R hhi
  obtain ⟨t, ht, et, et'⟩ := keep_clamp low high n R hhi
  have hr := hok.r
  rw [h m s hs es, h n t ht et, Option.bind_some]
  by_cases cc : a = c
  ·
   have ec : c = 1 := by rw [cc, Nat.gcd_self] at hco; exact hco
   have ea : a = 1 := by omega
   have eq : hidL low a c R s (R + 1) = hidL low a c R t (R + 1) := by
    unfold hidL wgt
    rw [ea, ec]
    simp
   have hb := hidL_bd low a c R t (R + 1) (by omega)
   rw [eq]
   by_cases c2 : (makeP (hidL low a c R t (R + 1))).2 = 0
   ·
    rw [if_pos c2, Option.bind_some, if_pos c2, if_pos (by rw [hu, hd, cc]), hushlaw6_NoiseKeeps.J0_eq, if_pos rfl, same_self (makeP_bd hb), Option.bind_some]
   ·
    rw [if_neg c2]
  ·
   have hne : c < a := by have := hok.du; omega
   obtain ⟨oS, hf⟩ := keep_far hok hR hco hne k0 (by omega) hs ht
   obtain ⟨oT, _⟩ := keep_far hok hR hco hne k0 (by omega) ht hs
   have bS := oS.bd (numL_bd low _ (R + 1) (by omega))
   have bT := oT.bd (numL_bd low _ (R + 1) (by omega))
   rw [show hidL low a c R s (R + 1) = numL low (wgt a c R s) (R + 1) from rfl, show hidL low a c R t (R + 1) = numL low (wgt a c R t) (R + 1) from rfl, oS.make, oT.make, if_pos rfl, Option.bind_some, if_pos rfl, if_neg (by omega), show (low == high) = false from beq_eq_false_iff_ne.2 (by omega), hushlaw6_NoiseKeeps.J0_eq, if_neg (by decide)]
   have yes : ∀ (a b : List S64) (u d : Int), hushlaw6_NoiseKeeps.J1 m n a b true u d = some true := fun a b u d => by rw [hushlaw6_NoiseKeeps.J1_eq, if_pos rfl]
   by_cases d1 : m < low
   ·
    rw [if_pos d1, yes]
   by_cases d2 : n < low
   ·
    rw [if_neg d1, if_pos d2, yes]
   by_cases d3 : m > high
   ·
    rw [if_neg d1, if_neg d2, if_pos d3, yes]
   by_cases d4 : n > high
   ·
    rw [if_neg d1, if_neg d2, if_neg d3, decide_eq_true d4, yes]
   rw [if_neg d1, if_neg d2, if_neg d3, decide_eq_false d4, hu, hd]
   exact keep_j1 hok hco bS bT hs ht hf (es' (by omega) (by omega)) (et' (by omega) (by omega)) k0 (by omega)
end Go.Proofs.Ytjbgnlhgjgnclaa.Pure
end
