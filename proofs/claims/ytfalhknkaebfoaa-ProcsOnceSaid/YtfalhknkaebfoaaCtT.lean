/- Is there no store? Of none at once. No condition. -/
import Derived.Test.YtfalhknkaebfoaaKS
set_option linter.unusedVariables false
set_option linter.unusedSimpArgs false
namespace Go.Proofs.Ytfalhknkaebfoaa
open Go.Sx
theorem ct_alt {P : Program} {f : Nat} {g g' : Ct} (h : CtOK P f g) (ha : ∀ res nid args q x new, g' res nid args = some (q, x, new) → ∃ x0, g res nid args = some (q, x0, new) ∧ (∀ ρ, den ρ x = den ρ x0) ∧ ∀ K, ok K x0 → ok K x) : CtOK P f g' := by
  intro ρ fps res K w0 F0 w nid args q x new hH hargs hg hq hfr
  obtain ⟨x0, h1, h2, h3⟩ := ha res nid args q x new hg
  obtain ⟨c1, c2⟩ := h ρ fps res K w0 F0 w nid args q x0 new hH hargs h1 hq hfr
  refine ⟨c1.mono fun e w' ⟨v, he, hv⟩ => ⟨v, he, ?_⟩, c2⟩
  obtain ⟨ρ', hgr, hv, hx⟩ := hv
  exact ⟨ρ', hgr, by rw [h2]; exact hv, h3 _ hx⟩
theorem ct_none2 : CtOK Try.prog 75 g_none2 := by
  refine ct_alt ct_none fun res nid args q x new h => ?_
  unfold g_none2 at h
  split at h
  · rename_i a
    split at h
    · rename_i o L hr
      split at h
      · simp only [Option.some.injEq, Prod.mk.injEq] at h
        obtain ⟨rfl, rfl, rfl⟩ := h
        have hL : L = [] := by
          rcases rS_spec hr with ⟨_, rfl, _⟩ | ⟨k, h, _⟩
          · rfl
          · simp at h
        subst hL
        exact ⟨.bo (q_snone []), by unfold g_none mkS; simp only [hr], fun ρ => by simp [den, snone_nil], fun _ _ => trivial⟩
      · simp only [Option.some.injEq, Prod.mk.injEq] at h
        obtain ⟨rfl, rfl, rfl⟩ := h
        exact ⟨.bo (q_snone L), by unfold g_none mkS; simp only [hr], fun ρ => rfl, fun _ h => h⟩
    · simp at h
  · simp at h
end Go.Proofs.Ytfalhknkaebfoaa
