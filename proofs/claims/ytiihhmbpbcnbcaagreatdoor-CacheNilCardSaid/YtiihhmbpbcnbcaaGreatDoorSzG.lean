/- A LIBRARY FOR RUNNING A PROGRAM IN THE KERNEL: arguments that are not looked at, more of it. No condition. -/
import Derived.Test.YtiihhmbpbcnbcaaGreatDoorSzE
set_option linter.unusedVariables false
set_option linter.unusedSimpArgs false
namespace Go.Sy
def symsAt (o n : Nat) : List AV := (List.range n).map fun i => .sym (o + i)
/-- A struct's cells, each unknown, from a number on. -/
theorem agg_symsAt {W : World} {σ : Nat → Value} {o n : Nat} {cs : Array Value} (hn : cs.size = n) (h1 : ∀ c ∈ cs.toList, c.oneCell' = true) (hσ : ∀ (i : Nat) c, cs[i]? = some c → σ (o + i) = c) : VR (Env.still W σ) W (.agg (symsAt o n)) (.agg cs) := by
  refine VR.mk_agg ⟨by simp [symsAt, hn], fun i x u hx hu => ?_⟩ h1
  have hi : i < n := by have := (List.getElem?_eq_some_iff.1 hu).1; rw [← hn]; simpa using this
  unfold symsAt at hx
  rw [List.getElem?_map, List.getElem?_range hi] at hx
  cases hx
  have e : cs[i]? = some u := by simpa using hu
  exact .sym _ u (hσ i u e).symm (h1 u (List.mem_of_getElem? hu))
theorem cell_sym {W : World} {σ : Nat → Value} {o : Nat} {v : Value} (h1 : v.oneCell' = true) (hσ : σ o = v) : VR (Env.still W σ) W (.sym o) v := .sym _ v hσ.symm h1
theorem okWide_one {P : Program} {w : World} {r : Reach} {b : Nat} {t : TypeId} {v : Value} (h : Value.okWide P w r b t v) (hs : ∀ fs, P.underlying t ≠ some (.struct fs)) (ha : ∀ n e, P.underlying t ≠ some (.array n e)) : v.oneCell' = true := by
  unfold Value.okWide at h
  split at h
  · rename_i fs e; exact absurd e (hs fs)
  · rename_i n x e; exact absurd e (ha n x)
  · exact okWideCell_one h

end Go.Sy
