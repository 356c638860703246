/- The bytes of a batch are no other one's. No program here. -/
import Derived.Test.YtohpgipgfmkflaaGreatDoorMf
import Derived.Test.YtohpgipgfmkflaaGreatDoorMd
namespace Go.Proofs.YtohpgipgfmkflaaGreatDoor
set_option linter.unusedSectionVars false
variable [Base]
set_option linter.unusedVariables false
set_option linter.unusedSimpArgs false

theorem bytesR_ok {n : Int} {r : List (List UInt8)} {x : List UInt8} (h : bytesR n r = (x, 0)) : x = batchB n.toNat r ∧ 1 ≤ n ∧ n ≤ 1152921504606846976 ∧ 1 ≤ r.length ∧ r.length ≤ 1000 ∧ x.length ≤ 1048576 := by
  unfold bytesR at h
  split at h
  · simp at h
  · split at h
    · simp at h
    · rename_i h1 h2
      simp only [Prod.mk.injEq, and_true] at h
      subst h
      exact ⟨rfl, by omega, by omega, by omega, by omega, by omega⟩
theorem batch_same {n m : Int} {r s : List (List UInt8)} {x y : List UInt8} (hx : bytesR n r = (x, 0)) (hy : bytesR m s = (y, 0)) : (x == y) = sameBt [(n, r)] [(m, s)] := by
  obtain ⟨e1, a1, a2, a3, a4, a5⟩ := bytesR_ok hx
  obtain ⟨e2, b1, b2, b3, b4, b5⟩ := bytesR_ok hy
  have p1 := parse_batch n.toNat r (by omega) (by omega) a3 a4 (by rw [← e1]; exact a5)
  have p2 := parse_batch m.toNat s (by omega) (by omega) b3 b4 (by rw [← e2]; exact b5)
  rw [← e1] at p1
  rw [← e2] at p2
  rw [Bool.eq_iff_iff, sameBt_eq]
  constructor
  · intro h
    have h : x = y := by simpa using h
    rw [h, p2] at p1
    simp only [Option.some.injEq, Prod.mk.injEq] at p1
    rw [List.cons.injEq, Prod.mk.injEq]
    exact ⟨⟨by omega, p1.2.symm⟩, rfl⟩
  · intro h
    simp only [List.cons.injEq, Prod.mk.injEq, and_true] at h
    obtain ⟨rfl, rfl⟩ := h
    rw [e1, e2]
    simp
theorem bytesR_head {n : Int} {r : List (List UInt8)} {x : List UInt8} (hx : bytesR n r = (x, 0)) : ∃ b t, x = b :: t ∧ b ≠ 0 := by
  obtain ⟨e1, a1, _⟩ := bytesR_ok hx
  obtain ⟨b, t, h1, h2⟩ := batch_head n.toNat r (by omega)
  exact ⟨b, t, by rw [e1, h1], h2⟩
theorem bytesR_parse {l : List UInt8} {n : Nat} {r : List (List UInt8)} (h : parseR l = some (n, r)) : bytesR (n : Int) r = (l, 0) ∧ ∀ x ∈ r, x.length ≤ 1073741824 := by
  obtain ⟨e, h1, h2, h3, h4, h5⟩ := parse_inv h
  refine ⟨?_, fun x hx => ?_⟩
  · unfold bytesR
    rw [if_neg (by omega), Int.toNat_natCast, if_neg (by rw [← e]; omega), ← e]
  · have := batch_len n r x hx
    rw [← e] at this
    omega
end Go.Proofs.YtohpgipgfmkflaaGreatDoor
