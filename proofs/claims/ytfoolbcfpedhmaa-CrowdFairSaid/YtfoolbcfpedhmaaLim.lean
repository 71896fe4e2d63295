/- The pure texts of this claim, its functions behind all rounds among them, and small steps. Conditions stand in each theorem. -/
import Derived.Test.YtfoolbcfpedhmaaEvKit
namespace Go.Proofs.YtfoolbcfpedhmaaW.EvKit
open Go.Proofs.YtfoolbcfpedhmaaW.PrintWords Go.Proofs.YtfoolbcfpedhmaaW.PrintMore
variable {α β : Type}
def MonoK (g : Nat → Option α) : Prop := ∀ k, LeO (g k) (g (k + 1))
open Classical in
noncomputable def lim (g : Nat → Option α) : Option α := if h : ∃ r, ∃ k, g k = some r then some (Classical.choose h) else none
theorem lim_iff {g : Nat → Option α} (m : MonoK g) (r : α) : lim g = some r ↔ ∃ k, g k = some r := by
  unfold lim
  constructor
  · intro h
    split at h
    · next hx =>
      obtain ⟨k, hk⟩ := Classical.choose_spec hx
      exact ⟨k, hk.trans (congrArg some (Option.some.inj h))⟩
    · cases h
  · rintro ⟨k, hk⟩
    rw [dif_pos ⟨r, k, hk⟩]
    have hx : ∃ r, ∃ k, g k = some r := ⟨r, k, hk⟩
    obtain ⟨j, hj⟩ := Classical.choose_spec hx
    have h1 := at_rounds m (Nat.le_max_left k j) hk
    have h2 := at_rounds m (Nat.le_max_right k j) hj
    exact (h2.symm.trans h1)
def LimIs (g : Nat → Option α) (o : Option α) : Prop := MonoK g ∧ lim g = o
theorem LimIs.mk {g : Nat → Option α} {o : Option α} (m : MonoK g) (h : ∀ r, o = some r ↔ ∃ k, g k = some r) : LimIs g o := by
  refine ⟨m, ?_⟩
  cases ho : o with
  | some r => exact (lim_iff m r).2 ((h r).1 ho)
  | none =>
    cases hg : lim g with
    | none => rfl
    | some r => rw [(h r).2 ((lim_iff m r).1 hg)] at ho; cases ho
theorem LimIs.iff {g : Nat → Option α} {o : Option α} (h : LimIs g o) (r : α) : o = some r ↔ ∃ k, g k = some r := by
  rw [← h.2]; exact lim_iff h.1 r
theorem LimIs.const (o : Option α) : LimIs (fun _ => o) o := LimIs.mk (fun _ => LeO.refl _) (fun _ => ⟨fun h => ⟨0, h⟩, fun ⟨_, h⟩ => h⟩)
theorem LimIs.ite {c : Prop} [Decidable c] {a b : Nat → Option α} {x y : Option α} (h : LimIs a x) (k : LimIs b y) : LimIs (fun n => if c then a n else b n) (if c then x else y) := by
  by_cases hc : c
  · simp only [if_pos hc]; exact h
  · simp only [if_neg hc]; exact k
theorem LimIs.bind {g : Nat → Option α} {x : Option α} {f : Nat → α → Option β} {y : α → Option β} (h : LimIs g x) (k : ∀ a, LimIs (fun n => f n a) (y a)) : LimIs (fun n => (g n).bind (f n)) (x.bind y) := by
  refine LimIs.mk (fun n => LeO.bind (h.1 n) (fun a => (k a).1 n)) (fun r => ?_)
  rw [Option.bind_eq_some_iff]
  constructor
  · rintro ⟨a, ha, hr⟩
    obtain ⟨n, hn⟩ := (h.iff a).1 ha
    obtain ⟨m, hm⟩ := ((k a).iff r).1 hr
    exact ⟨max n m, by rw [at_rounds h.1 (Nat.le_max_left n m) hn]; exact at_rounds (k a).1 (Nat.le_max_right n m) hm⟩
  · rintro ⟨n, hn⟩
    obtain ⟨a, ha, hr⟩ := Option.bind_eq_some_iff.mp hn
    exact ⟨a, (h.iff a).2 ⟨n, ha⟩, ((k a).iff r).2 ⟨n, hr⟩⟩
theorem LimIs.step {g : Nat → Option α} {o : Option α} (m : MonoK g) (h : LimIs (fun n => g (n + 1)) o) : lim g = o := by
  refine (LimIs.mk m (fun r => ?_)).2
  rw [h.iff r]
  exact ⟨fun ⟨k, hk⟩ => ⟨k + 1, hk⟩, fun ⟨k, hk⟩ => ⟨k, m k r hk⟩⟩
theorem LimIs.step' {g b : Nat → Option α} {o : Option α} (m : MonoK g) (e : ∀ n, g (n + 1) = b n) (h : LimIs b o) : lim g = o := by
  refine LimIs.step m ?_
  rw [funext e]
  exact h
theorem LimIs.out {g : Nat → Option α} {o : Option α} (h : LimIs g o) : lim g = o := h.2
theorem LimIs.rounds {g : Nat → Option α} {o : Option α} (h : LimIs g o) {r : α} (e : o = some r) : ∃ k, g k = some r := (h.iff r).1 e
theorem LimIs.ev {g : Nat → Option α} {o : Option α} (h : LimIs g o) {r : α} (e : o = some r) : Ev g r := by
  obtain ⟨k, hk⟩ := h.rounds e
  exact Ev.of h.1 hk
theorem LimIs.of_ev {g : Nat → Option α} {o : Option α} (h : LimIs g o) {r : α} (e : Ev g r) : o = some r := by
  obtain ⟨k, hk⟩ := e
  exact (h.iff r).2 ⟨k, hk k (Nat.le_refl k)⟩
end Go.Proofs.YtfoolbcfpedhmaaW.EvKit
