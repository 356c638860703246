/- What statements hold against one another: bytes, texts. What the statements of layer 4 share: small. What statements hold against one another: lists of bytes, batches. Numbers, strings, batches are read as they were written. No program here. A disk's files as a table: what is said of a name behind each deed. No program here. Numerals, names and what they tell. No program here. A log on a disk that is lit: what is written stands in the segments. No program here. Sync and Trim of such a log; the batches of segments. No program here. A log's own answers: an error and its end are one. No program here. Contracts of bytes: GetUint. Contracts of bytes: GetBlob. Contracts of the log's forms: Parse. -/
import Derived.Test.YtohpgipgfmkflaaGreatDoorMe
import Derived.Laws.IdiomStrings
import Derived.Laws.BytesArg
import Derived.Test.YtohpgipgfmkflaaGreatDoorMa
import Derived.Test.YtohpgipgfmkflaaGreatDoorMc
import Derived.Test.YtohpgipgfmkflaaGreatDoorMd
import Derived.Lib.AtoiAll
namespace Go.Proofs.YtohpgipgfmkflaaGreatDoor
set_option linter.unusedSectionVars false
variable [Base]
open Go.RowKit
set_option maxRecDepth 100000
set_option linter.unusedVariables false
set_option linter.unusedSimpArgs false
attribute [local go_sem ↓] Go.wp_at_zero Go.wp_at_succ

theorem conv_bytes (w : World) (S : Nat → Prop) (v : Value) (l : List UInt8) (h : RdB w S v l) : (convert 53 9 v).run Tryz.prog w = .ok (.string ⟨l.toArray⟩) w := by
  obtain ⟨A, c, rfl, h1, h2, hc⟩ := h
  cases A with
  | none =>
    have hl : l = [] := by
      cases l with
      | nil => rfl
      | cons b l => obtain ⟨g, o, e, _⟩ := hc 0 (by simp); cases e
    subst hl
    exact run_convert_bytes_nil (P := Tryz.prog) w 53 5 Tryz.underlying53 (by kernel_rfl) _ _ 9 (by kernel_rfl)
  | some ad =>
    refine run_convert_bytes_back (P := Tryz.prog) w 53 9 5 ad c l Tryz.underlying53 (by kernel_rfl) (by kernel_rfl) ?_
    intro j hj
    obtain ⟨g, o, e, _, hcell⟩ := hc j hj
    injection e with e
    subst e
    rw [addr_add, hcell]
    simp [List.getD_eq_getElem?_getD, List.getElem?_eq_getElem hj]
theorem sameBytes_any (w : World) (S S2 : Nat → Prop) (v u : Value) (l m : List UInt8) (h : RdB w S v l) (k : RdB w S2 u m) :
    Calls Tryz.prog 35 #[v, u] w fun e w' => e = .returned (.bool (l == m)) ∧ w = w' := by
  obtain ⟨A, c, rfl, _⟩ := id h
  obtain ⟨A2, c2, rfl, _⟩ := id k
  have h1 := conv_bytes w S _ l h
  have h2 := conv_bytes w S2 _ m k
  clear h k
  go_enter Tryz.func35, Tryz.ntmps35
  go_wp2
  go_ret
  exact ⟨rfl, rfl⟩
/-- Do two lists of texts agree at each place, and end together? -/
def sameT : List ByteArray → List ByteArray → Bool
  | [], [] => true
  | a :: l, b :: m => a.toList == b.toList && sameT l m
  | _, _ => false
theorem sameT_step (l m : List ByteArray) (k : Nat) (hk : k < l.length) : sameT (l.drop k) (m.drop k) = if h : k < m.length then (l[k].toList == m[k].toList && sameT (l.drop (k + 1)) (m.drop (k + 1))) else false := by
  rw [List.drop_eq_getElem_cons hk]
  split
  · rename_i h
    rw [List.drop_eq_getElem_cons h]
    rfl
  · rename_i h
    rw [List.drop_eq_nil_of_le (by omega : m.length ≤ k)]
    rfl
set_option maxHeartbeats 2000000 in
theorem sameTexts_any (w : World) (v u : Value) (l m : List ByteArray) (h : RdT w v l) (k : RdT w u m) :
    Calls Tryz.prog 33 #[v, u] w fun e w' => e = .returned (.bool (sameT l m)) ∧ Below w.heap.size w w' := by
  obtain ⟨A, c, rfl, h1, h2, h3⟩ := id h
  obtain ⟨A2, c2, rfl, k1, k2, k3⟩ := id k
  have H3 := Lib.hid h3
  have K3 := Lib.hid k3
  have hl : l.length ≤ 9223372036854775807 := by omega
  have hm : m.length ≤ 9223372036854775807 := by omega
  clear h k h3 k3 h1 k1
  go_enter Tryz.func33, Tryz.ntmps33
  go_wp2
  go_loopw [5, 8] (fun x i wr => ∃ k : Nat, k ≤ l.length ∧ k ≤ m.length ∧ i = .int .i64 k ∧ Below w.heap.size w wr ∧ Hid (sameT (l.drop k) (m.drop k) = sameT l m)) (fun x i wr => l.length - (intOf i).toNat)
  case atStart => exact ⟨0, Nat.zero_le _, Nat.zero_le _, rfl, Below.refl _ _, Lib.hid rfl⟩
  case round =>
    obtain ⟨k, hk, hkm, rfl, hbel, HS⟩ := hrel
    by_cases hlt : k < l.length
    · have hx1 : (k : Int) < (l.length : Int) := by omega
      have HSt := Lib.hid (sameT_step l m k hlt)
      by_cases hmt : k < m.length
      · obtain ⟨g, o, e1, hc1⟩ := H3.out k hlt
        obtain ⟨g2, o2, e2, hc2⟩ := K3.out k hmt
        subst e1
        subst e2
        have hq1 := (hbel.cell (p := ⟨g, o + k, none⟩) (World.block_lt_of_cell? w _ hc1)).trans hc1
        have hq2 := (hbel.cell (p := ⟨g2, o2 + k, none⟩) (World.block_lt_of_cell? w _ hc2)).trans hc2
        have hx2 : (k : Int) < (m.length : Int) := by omega
        have hx0 : (0 : Int) ≤ (k : Int) := by omega
        have hne : ((k : Int) == (m.length : Int)) = false := by simp; omega
        obtain ⟨x, hx⟩ : ∃ x, l[k] = x := ⟨_, rfl⟩
        obtain ⟨y, hy⟩ : ∃ y, m[k] = y := ⟨_, rfl⟩
        rw [hx] at hq1
        rw [hy] at hq2
        have HX := Lib.hid hx
        have HY := Lib.hid hy
        have HB := Lib.hid hbel
        clear hc1 hc2 hx hy hbel
        by_cases hxy : (x.toList == y.toList) = true
        · have hnn : (x.toList != y.toList) = false := by unfold bne; rw [hxy]; rfl
          have HXY := Lib.hid hxy
          have hn2 : (!(x.toList == y.toList)) = false := by rw [hxy]; rfl
          go_wp2
          refine wp_region_noPanic ?_
          refine wp_region_held_drew (S := (fun w' => w'.cell? ⟨g, o + k, none⟩ = some (.string x) ∧ w'.cell? ⟨g2, o2 + k, none⟩ = some (.string y))) (by kernel_rfl) ?_ (fun hHeld => ?_)
          · exact ⟨hq1, hq2⟩
          refine wpAnyH_take (i := 0) (oi := _) (v := ?_) rfl (by kernel_rfl) (by kernel_rfl) (by kernel_rfl) (fun _ _ _ h => h) (Or.inl ⟨by rfl, ?_⟩) (by assumption) ?_
          rotate_left
          · intro w hSw
            try dsimp only at hSw
            go_simp
            try with_reducible rfl
          try simp only [Act.put, List.setIfInBounds_toArray, List.set_cons_zero, List.set_cons_succ, List.getElem_toArray, List.getElem_cons_zero, List.getElem_cons_succ]
          refine wpAnyH_take (i := 1) (oi := _) (v := ?_) rfl (by kernel_rfl) (by kernel_rfl) (by kernel_rfl) (fun _ _ _ h => h) (Or.inl ⟨by rfl, ?_⟩) (by assumption) ?_
          rotate_left
          · intro w hSw
            try dsimp only at hSw
            go_simp
            try with_reducible rfl
          try simp only [Act.put, List.setIfInBounds_toArray, List.set_cons_zero, List.set_cons_succ, List.getElem_toArray, List.getElem_cons_zero, List.getElem_cons_succ]
          refine wpAnyH_take (i := 2) (oi := _) (v := ?_) rfl (by kernel_rfl) (by kernel_rfl) (by kernel_rfl) (fun _ _ _ h => h) (Or.inl ⟨by rfl, ?_⟩) (by assumption) ?_
          rotate_left
          · intro w hSw
            try dsimp only at hSw
            go_simp
            try with_reducible rfl
          try simp only [Act.put, List.setIfInBounds_toArray, List.set_cons_zero, List.set_cons_succ, List.getElem_toArray, List.getElem_cons_zero, List.getElem_cons_succ]
          refine wpAnyH_take (i := 3) (oi := _) (v := ?_) rfl (by kernel_rfl) (by kernel_rfl) (by kernel_rfl) (fun _ _ _ h => h) (Or.inl ⟨by rfl, ?_⟩) (by assumption) ?_
          rotate_left
          · intro w hSw
            try dsimp only at hSw
            go_simp
            try with_reducible rfl
          try simp only [Act.put, List.setIfInBounds_toArray, List.set_cons_zero, List.set_cons_succ, List.getElem_toArray, List.getElem_cons_zero, List.getElem_cons_succ]
          refine wpAnyH_take (i := 4) (oi := _) (v := ?_) rfl (by kernel_rfl) (by kernel_rfl) (by kernel_rfl) (fun _ _ _ h => h) (Or.inl ⟨by rfl, ?_⟩) (by assumption) ?_
          rotate_left
          · intro w hSw
            try dsimp only at hSw
            go_simp
            try with_reducible rfl
          try simp only [Act.put, List.setIfInBounds_toArray, List.set_cons_zero, List.set_cons_succ, List.getElem_toArray, List.getElem_cons_zero, List.getElem_cons_succ]
          refine wpAnyH_take (i := 5) (oi := _) (v := ?_) rfl (by kernel_rfl) (by kernel_rfl) (by kernel_rfl) (fun _ _ _ h => h) (Or.inl ⟨by rfl, ?_⟩) (by assumption) ?_
          rotate_left
          · intro w hSw
            try dsimp only at hSw
            go_simp
            try with_reducible rfl
          try simp only [Act.put, List.setIfInBounds_toArray, List.set_cons_zero, List.set_cons_succ, List.getElem_toArray, List.getElem_cons_zero, List.getElem_cons_succ]
          refine wpAnyH_take (i := 6) (oi := _) (v := ?_) rfl (by kernel_rfl) (by kernel_rfl) (by kernel_rfl) (fun _ _ _ h => h) (Or.inl ⟨by rfl, ?_⟩) (by assumption) ?_
          rotate_left
          · intro w hSw
            try dsimp only at hSw
            go_simp
            try with_reducible rfl
          try simp only [Act.put, List.setIfInBounds_toArray, List.set_cons_zero, List.set_cons_succ, List.getElem_toArray, List.getElem_cons_zero, List.getElem_cons_succ]
          refine wpAnyH_take (i := 7) (oi := _) (v := ?_) rfl (by kernel_rfl) (by kernel_rfl) (by kernel_rfl) (fun _ _ _ h => h) (Or.inl ⟨by rfl, ?_⟩) (by assumption) ?_
          rotate_left
          · intro w hSw
            try dsimp only at hSw
            go_simp
            try with_reducible rfl
          try simp only [Act.put, List.setIfInBounds_toArray, List.set_cons_zero, List.set_cons_succ, List.getElem_toArray, List.getElem_cons_zero, List.getElem_cons_succ]
          refine wpAnyH_take (i := 8) (oi := _) (v := ?_) rfl (by kernel_rfl) (by kernel_rfl) (by kernel_rfl) (fun _ _ _ h => h) (Or.inl ⟨by rfl, ?_⟩) (by assumption) ?_
          rotate_left
          · intro w hSw
            try dsimp only at hSw
            go_simp
            try with_reducible rfl
          try simp only [Act.put, List.setIfInBounds_toArray, List.set_cons_zero, List.set_cons_succ, List.getElem_toArray, List.getElem_cons_zero, List.getElem_cons_succ]
          refine wpAnyH_take (i := 9) (oi := _) (v := ?_) rfl (by kernel_rfl) (by kernel_rfl) (by kernel_rfl) (fun _ _ _ h => h) (Or.inl ⟨by rfl, ?_⟩) (by assumption) ?_
          rotate_left
          · intro w hSw
            try dsimp only at hSw
            go_simp
            try with_reducible rfl
          try simp only [Act.put, List.setIfInBounds_toArray, List.set_cons_zero, List.set_cons_succ, List.getElem_toArray, List.getElem_cons_zero, List.getElem_cons_succ]
          refine wpAnyH_take (i := 10) (oi := _) (v := ?_) rfl (by kernel_rfl) (by kernel_rfl) (by kernel_rfl) (fun _ _ _ h => h) (Or.inl ⟨by rfl, ?_⟩) (by assumption) ?_
          rotate_left
          · intro w hSw
            try dsimp only at hSw
            go_simp
            try with_reducible rfl
          try simp only [Act.put, List.setIfInBounds_toArray, List.set_cons_zero, List.set_cons_succ, List.getElem_toArray, List.getElem_cons_zero, List.getElem_cons_succ]
          refine wpAnyH_take (i := 11) (oi := _) (v := ?_) rfl (by kernel_rfl) (by kernel_rfl) (by kernel_rfl) (fun _ _ _ h => h) (Or.inl ⟨by rfl, ?_⟩) (by assumption) ?_
          rotate_left
          · intro w hSw
            try dsimp only at hSw
            go_simp
            try with_reducible rfl
          try simp only [Act.put, List.setIfInBounds_toArray, List.set_cons_zero, List.set_cons_succ, List.getElem_toArray, List.getElem_cons_zero, List.getElem_cons_succ]
          refine wpAnyH_take (i := 12) (oi := _) (v := ?_) rfl (by kernel_rfl) (by kernel_rfl) (by kernel_rfl) (fun _ _ _ h => h) (Or.inl ⟨by rfl, ?_⟩) (by assumption) ?_
          rotate_left
          · intro w hSw
            try dsimp only at hSw
            go_simp
            try with_reducible rfl
          try simp only [Act.put, List.setIfInBounds_toArray, List.set_cons_zero, List.set_cons_succ, List.getElem_toArray, List.getElem_cons_zero, List.getElem_cons_succ]
          refine wpAnyH_take (i := 13) (oi := _) (v := ?_) rfl (by kernel_rfl) (by kernel_rfl) (by kernel_rfl) (fun _ _ _ h => h) (Or.inl ⟨by rfl, ?_⟩) (by assumption) ?_
          rotate_left
          · intro w hSw
            try dsimp only at hSw
            go_simp
            try with_reducible rfl
          try simp only [Act.put, List.setIfInBounds_toArray, List.set_cons_zero, List.set_cons_succ, List.getElem_toArray, List.getElem_cons_zero, List.getElem_cons_succ]
          refine wpAnyH_take (i := 14) (oi := _) (v := ?_) rfl (by kernel_rfl) (by kernel_rfl) (by kernel_rfl) (fun _ _ _ h => h) (Or.inl ⟨by rfl, ?_⟩) (by assumption) ?_
          rotate_left
          · intro w hSw
            try dsimp only at hSw
            go_simp
            try with_reducible rfl
          try simp only [Act.put, List.setIfInBounds_toArray, List.set_cons_zero, List.set_cons_succ, List.getElem_toArray, List.getElem_cons_zero, List.getElem_cons_succ]
          refine wpAnyH_done (by kernel_rfl) ?_ _
          refine NoPanic.normal ?_
          go_wp2
          refine ⟨⟨k + 1, by omega, by omega, by go_num, HB.out.drew, Lib.hid ?_⟩, by simp [intOf]; omega⟩
          have h9 := HSt.out
          rw [dif_pos hmt, HX.out, HY.out, HXY.out, Bool.true_and] at h9
          exact h9.symm.trans HS.out
        · have hnn : (x.toList != y.toList) = true := by unfold bne; rw [show (x.toList == y.toList) = false by simpa using hxy]; rfl
          have hxz : (x.toList == y.toList) = false := by simpa using hxy
          have HXY := Lib.hid hxz
          have hn2 : (!(x.toList == y.toList)) = true := by rw [hxz]; rfl
          clear hxy
          go_wp2
          refine wp_region_noPanic ?_
          refine wp_region_held_drew (S := (fun w' => w'.cell? ⟨g, o + k, none⟩ = some (.string x) ∧ w'.cell? ⟨g2, o2 + k, none⟩ = some (.string y))) (by kernel_rfl) ?_ (fun hHeld => ?_)
          · exact ⟨hq1, hq2⟩
          refine wpAnyH_take (i := 0) (oi := _) (v := ?_) rfl (by kernel_rfl) (by kernel_rfl) (by kernel_rfl) (fun _ _ _ h => h) (Or.inl ⟨by rfl, ?_⟩) (by assumption) ?_
          rotate_left
          · intro w hSw
            try dsimp only at hSw
            go_simp
            try with_reducible rfl
          try simp only [Act.put, List.setIfInBounds_toArray, List.set_cons_zero, List.set_cons_succ, List.getElem_toArray, List.getElem_cons_zero, List.getElem_cons_succ]
          refine wpAnyH_take (i := 1) (oi := _) (v := ?_) rfl (by kernel_rfl) (by kernel_rfl) (by kernel_rfl) (fun _ _ _ h => h) (Or.inl ⟨by rfl, ?_⟩) (by assumption) ?_
          rotate_left
          · intro w hSw
            try dsimp only at hSw
            go_simp
            try with_reducible rfl
          try simp only [Act.put, List.setIfInBounds_toArray, List.set_cons_zero, List.set_cons_succ, List.getElem_toArray, List.getElem_cons_zero, List.getElem_cons_succ]
          refine wpAnyH_take (i := 2) (oi := _) (v := ?_) rfl (by kernel_rfl) (by kernel_rfl) (by kernel_rfl) (fun _ _ _ h => h) (Or.inl ⟨by rfl, ?_⟩) (by assumption) ?_
          rotate_left
          · intro w hSw
            try dsimp only at hSw
            go_simp
            try with_reducible rfl
          try simp only [Act.put, List.setIfInBounds_toArray, List.set_cons_zero, List.set_cons_succ, List.getElem_toArray, List.getElem_cons_zero, List.getElem_cons_succ]
          refine wpAnyH_take (i := 3) (oi := _) (v := ?_) rfl (by kernel_rfl) (by kernel_rfl) (by kernel_rfl) (fun _ _ _ h => h) (Or.inl ⟨by rfl, ?_⟩) (by assumption) ?_
          rotate_left
          · intro w hSw
            try dsimp only at hSw
            go_simp
            try with_reducible rfl
          try simp only [Act.put, List.setIfInBounds_toArray, List.set_cons_zero, List.set_cons_succ, List.getElem_toArray, List.getElem_cons_zero, List.getElem_cons_succ]
          refine wpAnyH_take (i := 4) (oi := _) (v := ?_) rfl (by kernel_rfl) (by kernel_rfl) (by kernel_rfl) (fun _ _ _ h => h) (Or.inl ⟨by rfl, ?_⟩) (by assumption) ?_
          rotate_left
          · intro w hSw
            try dsimp only at hSw
            go_simp
            try with_reducible rfl
          try simp only [Act.put, List.setIfInBounds_toArray, List.set_cons_zero, List.set_cons_succ, List.getElem_toArray, List.getElem_cons_zero, List.getElem_cons_succ]
          refine wpAnyH_take (i := 5) (oi := _) (v := ?_) rfl (by kernel_rfl) (by kernel_rfl) (by kernel_rfl) (fun _ _ _ h => h) (Or.inl ⟨by rfl, ?_⟩) (by assumption) ?_
          rotate_left
          · intro w hSw
            try dsimp only at hSw
            go_simp
            try with_reducible rfl
          try simp only [Act.put, List.setIfInBounds_toArray, List.set_cons_zero, List.set_cons_succ, List.getElem_toArray, List.getElem_cons_zero, List.getElem_cons_succ]
          refine wpAnyH_take (i := 6) (oi := _) (v := ?_) rfl (by kernel_rfl) (by kernel_rfl) (by kernel_rfl) (fun _ _ _ h => h) (Or.inl ⟨by rfl, ?_⟩) (by assumption) ?_
          rotate_left
          · intro w hSw
            try dsimp only at hSw
            go_simp
            try with_reducible rfl
          try simp only [Act.put, List.setIfInBounds_toArray, List.set_cons_zero, List.set_cons_succ, List.getElem_toArray, List.getElem_cons_zero, List.getElem_cons_succ]
          refine wpAnyH_take (i := 7) (oi := _) (v := ?_) rfl (by kernel_rfl) (by kernel_rfl) (by kernel_rfl) (fun _ _ _ h => h) (Or.inl ⟨by rfl, ?_⟩) (by assumption) ?_
          rotate_left
          · intro w hSw
            try dsimp only at hSw
            go_simp
            try with_reducible rfl
          try simp only [Act.put, List.setIfInBounds_toArray, List.set_cons_zero, List.set_cons_succ, List.getElem_toArray, List.getElem_cons_zero, List.getElem_cons_succ]
          refine wpAnyH_take (i := 8) (oi := _) (v := ?_) rfl (by kernel_rfl) (by kernel_rfl) (by kernel_rfl) (fun _ _ _ h => h) (Or.inl ⟨by rfl, ?_⟩) (by assumption) ?_
          rotate_left
          · intro w hSw
            try dsimp only at hSw
            go_simp
            try with_reducible rfl
          try simp only [Act.put, List.setIfInBounds_toArray, List.set_cons_zero, List.set_cons_succ, List.getElem_toArray, List.getElem_cons_zero, List.getElem_cons_succ]
          refine wpAnyH_take (i := 9) (oi := _) (v := ?_) rfl (by kernel_rfl) (by kernel_rfl) (by kernel_rfl) (fun _ _ _ h => h) (Or.inl ⟨by rfl, ?_⟩) (by assumption) ?_
          rotate_left
          · intro w hSw
            try dsimp only at hSw
            go_simp
            try with_reducible rfl
          try simp only [Act.put, List.setIfInBounds_toArray, List.set_cons_zero, List.set_cons_succ, List.getElem_toArray, List.getElem_cons_zero, List.getElem_cons_succ]
          refine wpAnyH_take (i := 10) (oi := _) (v := ?_) rfl (by kernel_rfl) (by kernel_rfl) (by kernel_rfl) (fun _ _ _ h => h) (Or.inl ⟨by rfl, ?_⟩) (by assumption) ?_
          rotate_left
          · intro w hSw
            try dsimp only at hSw
            go_simp
            try with_reducible rfl
          try simp only [Act.put, List.setIfInBounds_toArray, List.set_cons_zero, List.set_cons_succ, List.getElem_toArray, List.getElem_cons_zero, List.getElem_cons_succ]
          refine wpAnyH_take (i := 11) (oi := _) (v := ?_) rfl (by kernel_rfl) (by kernel_rfl) (by kernel_rfl) (fun _ _ _ h => h) (Or.inl ⟨by rfl, ?_⟩) (by assumption) ?_
          rotate_left
          · intro w hSw
            try dsimp only at hSw
            go_simp
            try with_reducible rfl
          try simp only [Act.put, List.setIfInBounds_toArray, List.set_cons_zero, List.set_cons_succ, List.getElem_toArray, List.getElem_cons_zero, List.getElem_cons_succ]
          refine wpAnyH_take (i := 12) (oi := _) (v := ?_) rfl (by kernel_rfl) (by kernel_rfl) (by kernel_rfl) (fun _ _ _ h => h) (Or.inl ⟨by rfl, ?_⟩) (by assumption) ?_
          rotate_left
          · intro w hSw
            try dsimp only at hSw
            go_simp
            try with_reducible rfl
          try simp only [Act.put, List.setIfInBounds_toArray, List.set_cons_zero, List.set_cons_succ, List.getElem_toArray, List.getElem_cons_zero, List.getElem_cons_succ]
          refine wpAnyH_take (i := 13) (oi := _) (v := ?_) rfl (by kernel_rfl) (by kernel_rfl) (by kernel_rfl) (fun _ _ _ h => h) (Or.inl ⟨by rfl, ?_⟩) (by assumption) ?_
          rotate_left
          · intro w hSw
            try dsimp only at hSw
            go_simp
            try with_reducible rfl
          try simp only [Act.put, List.setIfInBounds_toArray, List.set_cons_zero, List.set_cons_succ, List.getElem_toArray, List.getElem_cons_zero, List.getElem_cons_succ]
          refine wpAnyH_take (i := 14) (oi := _) (v := ?_) rfl (by kernel_rfl) (by kernel_rfl) (by kernel_rfl) (fun _ _ _ h => h) (Or.inl ⟨by rfl, ?_⟩) (by assumption) ?_
          rotate_left
          · intro w hSw
            try dsimp only at hSw
            go_simp
            try with_reducible rfl
          try simp only [Act.put, List.setIfInBounds_toArray, List.set_cons_zero, List.set_cons_succ, List.getElem_toArray, List.getElem_cons_zero, List.getElem_cons_succ]
          refine wpAnyH_done (by kernel_rfl) ?_ _
          refine NoPanic.normal ?_
          go_wp2
          go_ret
          have h9 := HSt.out
          rw [dif_pos hmt, HX.out, HY.out, HXY.out, Bool.false_and] at h9
          rw [← HS.out, h9]
          exact ⟨rfl, HB.out.drew⟩
      · have hne : ((k : Int) == (m.length : Int)) = true := by simp; omega
        have hkm2 : k = m.length := by omega
        have HB := Lib.hid hbel
        have HK := Lib.hid hmt
        clear hbel hkm2 hmt
        go_wp2
        refine wp_region_noPanic ?_
        refine wp_region_held_drew (S := (fun w' => True)) (by kernel_rfl) ?_ (fun hHeld => ?_)
        · trivial
        refine wpAnyH_take (i := 0) (oi := _) (v := ?_) rfl (by kernel_rfl) (by kernel_rfl) (by kernel_rfl) (fun _ _ _ h => h) (Or.inl ⟨by rfl, ?_⟩) (by assumption) ?_
        rotate_left
        · intro w hSw
          try dsimp only at hSw
          go_simp
          try with_reducible rfl
        try simp only [Act.put, List.setIfInBounds_toArray, List.set_cons_zero, List.set_cons_succ, List.getElem_toArray, List.getElem_cons_zero, List.getElem_cons_succ]
        refine wpAnyH_take (i := 1) (oi := _) (v := ?_) rfl (by kernel_rfl) (by kernel_rfl) (by kernel_rfl) (fun _ _ _ h => h) (Or.inl ⟨by rfl, ?_⟩) (by assumption) ?_
        rotate_left
        · intro w hSw
          try dsimp only at hSw
          go_simp
          try with_reducible rfl
        try simp only [Act.put, List.setIfInBounds_toArray, List.set_cons_zero, List.set_cons_succ, List.getElem_toArray, List.getElem_cons_zero, List.getElem_cons_succ]
        refine wpAnyH_take (i := 2) (oi := _) (v := ?_) rfl (by kernel_rfl) (by kernel_rfl) (by kernel_rfl) (fun _ _ _ h => h) (Or.inl ⟨by rfl, ?_⟩) (by assumption) ?_
        rotate_left
        · intro w hSw
          try dsimp only at hSw
          go_simp
          try with_reducible rfl
        try simp only [Act.put, List.setIfInBounds_toArray, List.set_cons_zero, List.set_cons_succ, List.getElem_toArray, List.getElem_cons_zero, List.getElem_cons_succ]
        refine wpAnyH_take (i := 3) (oi := _) (v := ?_) rfl (by kernel_rfl) (by kernel_rfl) (by kernel_rfl) (fun _ _ _ h => h) (Or.inl ⟨by rfl, ?_⟩) (by assumption) ?_
        rotate_left
        · intro w hSw
          try dsimp only at hSw
          go_simp
          try with_reducible rfl
        try simp only [Act.put, List.setIfInBounds_toArray, List.set_cons_zero, List.set_cons_succ, List.getElem_toArray, List.getElem_cons_zero, List.getElem_cons_succ]
        refine wpAnyH_take (i := 4) (oi := _) (v := ?_) rfl (by kernel_rfl) (by kernel_rfl) (by kernel_rfl) (fun _ _ _ h => h) (Or.inl ⟨by rfl, ?_⟩) (by assumption) ?_
        rotate_left
        · intro w hSw
          try dsimp only at hSw
          go_simp
          try with_reducible rfl
        try simp only [Act.put, List.setIfInBounds_toArray, List.set_cons_zero, List.set_cons_succ, List.getElem_toArray, List.getElem_cons_zero, List.getElem_cons_succ]
        refine wpAnyH_take (i := 5) (oi := _) (v := undef) rfl (by kernel_rfl) (by kernel_rfl) (by kernel_rfl) (fun _ _ _ h => h) (Or.inr ⟨by kernel_rfl, rfl⟩) (by assumption) ?_
        try simp only [Act.put, List.setIfInBounds_toArray, List.set_cons_zero, List.set_cons_succ, List.getElem_toArray, List.getElem_cons_zero, List.getElem_cons_succ]
        refine wpAnyH_take (i := 6) (oi := _) (v := undef) rfl (by kernel_rfl) (by kernel_rfl) (by kernel_rfl) (fun _ _ _ h => h) (Or.inr ⟨by kernel_rfl, rfl⟩) (by assumption) ?_
        try simp only [Act.put, List.setIfInBounds_toArray, List.set_cons_zero, List.set_cons_succ, List.getElem_toArray, List.getElem_cons_zero, List.getElem_cons_succ]
        refine wpAnyH_take (i := 7) (oi := _) (v := undef) rfl (by kernel_rfl) (by kernel_rfl) (by kernel_rfl) (fun _ _ _ h => h) (Or.inr ⟨by kernel_rfl, rfl⟩) (by assumption) ?_
        try simp only [Act.put, List.setIfInBounds_toArray, List.set_cons_zero, List.set_cons_succ, List.getElem_toArray, List.getElem_cons_zero, List.getElem_cons_succ]
        refine wpAnyH_take (i := 8) (oi := _) (v := undef) rfl (by kernel_rfl) (by kernel_rfl) (by kernel_rfl) (fun _ _ _ h => h) (Or.inr ⟨by kernel_rfl, rfl⟩) (by assumption) ?_
        try simp only [Act.put, List.setIfInBounds_toArray, List.set_cons_zero, List.set_cons_succ, List.getElem_toArray, List.getElem_cons_zero, List.getElem_cons_succ]
        refine wpAnyH_take (i := 9) (oi := _) (v := undef) rfl (by kernel_rfl) (by kernel_rfl) (by kernel_rfl) (fun _ _ _ h => h) (Or.inr ⟨by kernel_rfl, rfl⟩) (by assumption) ?_
        try simp only [Act.put, List.setIfInBounds_toArray, List.set_cons_zero, List.set_cons_succ, List.getElem_toArray, List.getElem_cons_zero, List.getElem_cons_succ]
        refine wpAnyH_take (i := 10) (oi := _) (v := undef) rfl (by kernel_rfl) (by kernel_rfl) (by kernel_rfl) (fun _ _ _ h => h) (Or.inr ⟨by kernel_rfl, rfl⟩) (by assumption) ?_
        try simp only [Act.put, List.setIfInBounds_toArray, List.set_cons_zero, List.set_cons_succ, List.getElem_toArray, List.getElem_cons_zero, List.getElem_cons_succ]
        refine wpAnyH_take (i := 11) (oi := _) (v := undef) rfl (by kernel_rfl) (by kernel_rfl) (by kernel_rfl) (fun _ _ _ h => h) (Or.inr ⟨by kernel_rfl, rfl⟩) (by assumption) ?_
        try simp only [Act.put, List.setIfInBounds_toArray, List.set_cons_zero, List.set_cons_succ, List.getElem_toArray, List.getElem_cons_zero, List.getElem_cons_succ]
        refine wpAnyH_take (i := 12) (oi := _) (v := undef) rfl (by kernel_rfl) (by kernel_rfl) (by kernel_rfl) (fun _ _ _ h => h) (Or.inr ⟨by kernel_rfl, rfl⟩) (by assumption) ?_
        try simp only [Act.put, List.setIfInBounds_toArray, List.set_cons_zero, List.set_cons_succ, List.getElem_toArray, List.getElem_cons_zero, List.getElem_cons_succ]
        refine wpAnyH_take (i := 13) (oi := _) (v := undef) rfl (by kernel_rfl) (by kernel_rfl) (by kernel_rfl) (fun _ _ _ h => h) (Or.inr ⟨by kernel_rfl, rfl⟩) (by assumption) ?_
        try simp only [Act.put, List.setIfInBounds_toArray, List.set_cons_zero, List.set_cons_succ, List.getElem_toArray, List.getElem_cons_zero, List.getElem_cons_succ]
        refine wpAnyH_take (i := 14) (oi := _) (v := ?_) rfl (by kernel_rfl) (by kernel_rfl) (by kernel_rfl) (fun _ _ _ h => h) (Or.inl ⟨by rfl, ?_⟩) (by assumption) ?_
        rotate_left
        · intro w hSw
          try dsimp only at hSw
          go_simp
          try with_reducible rfl
        try simp only [Act.put, List.setIfInBounds_toArray, List.set_cons_zero, List.set_cons_succ, List.getElem_toArray, List.getElem_cons_zero, List.getElem_cons_succ]
        refine wpAnyH_done (by kernel_rfl) ?_ _
        refine NoPanic.normal ?_
        go_wp2
        go_ret
        have h9 := HSt.out
        rw [dif_neg HK.out] at h9
        rw [← HS.out, h9]
        exact ⟨rfl, HB.out.drew⟩
    · obtain rfl : k = l.length := by omega
      have h9 : sameT (l.drop l.length) (m.drop l.length) = ((l.length : Int) == (m.length : Int)) := by
        rw [List.drop_length]
        rcases Nat.lt_or_ge l.length m.length with h | h
        · rw [List.drop_eq_getElem_cons h]
          simp [sameT]; omega
        · rw [List.drop_eq_nil_of_le h]
          simp [sameT]; omega
      have H9 := Lib.hid h9
      clear h9
      go_wp2
      go_ret
      rw [← HS.out, H9.out]
      exact ⟨rfl, hbel⟩
end Go.Proofs.YtohpgipgfmkflaaGreatDoor
namespace Go.Proofs.YtohpgipgfmkflaaGreatDoor
set_option linter.unusedSectionVars false
variable [Base]
open Go.RowKit
set_option maxRecDepth 100000
set_option linter.unusedVariables false
set_option linter.unusedSimpArgs false
attribute [local go_sem ↓] Go.wp_at_zero Go.wp_at_succ

def smallB (ls : List (List UInt8)) : Bool := decide (ls.length ≤ 20) && ls.all fun r => decide (r.length ≤ 60)
theorem small_any (w : World) (S : Nat → Prop) (v : Value) (ls : List (List UInt8)) (h : RdL w S v ls) :
    Calls Tryz.prog 28 #[v] w fun e w' => e = .returned (.bool (smallB ls)) ∧ w = w' := by
  obtain ⟨A, c, vs, rfl, h1, h2, h3, h4⟩ := id h
  have HN := Lib.hid h
  by_cases hbig : 20 < ls.length
  · have hR := Lib.hid (show smallB ls = false by unfold smallB; rw [decide_eq_false (by omega)]; rfl)
    have hd : decide ((20 : Int) < (ls.length : Int)) = true := decide_eq_true (by omega)
    clear h h1 h3 h4 hbig
    go_enter Tryz.func28, Tryz.ntmps28
    go_wp2
    go_ret
    rw [hR.out]
    exact ⟨rfl, rfl⟩
  · have hd : decide ((20 : Int) < (ls.length : Int)) = false := decide_eq_false (by omega)
    have hle : ls.length ≤ 20 := by omega
    have H3 := Lib.hid h3
    have H4 := Lib.hid h4
    clear h h1 h3 h4 hbig
    go_enter Tryz.func28, Tryz.ntmps28
    go_wp2
    go_loop [3] (fun i => ∃ k : Nat, k ≤ ls.length ∧ i = .int .i64 k ∧ Hid (∀ j (hj : j < ls.length), j < k → ls[j].length ≤ 60)) (fun i => ls.length - (intOf i).toNat)
    case atStart => exact ⟨0, Nat.zero_le _, rfl, Lib.hid (fun j _ h => absurd h (by omega))⟩
    case round =>
      obtain ⟨k, hk, rfl, HI⟩ := hrel
      by_cases hlt : k < ls.length
      · have hkv : k < vs.length := by have := H3.out.1; omega
        obtain ⟨g, o, rfl, _, hcell⟩ := H4.out k hkv
        obtain ⟨A2, c2, e2, _⟩ := H3.out.get k hkv hlt
        rw [e2] at hcell
        have hx1 : (k : Int) < (ls.length : Int) := by omega
        obtain ⟨m, hm⟩ : ∃ m, ls[k].length = m := ⟨_, rfl⟩
        rw [hm] at hcell
        have HM := Lib.hid hm
        clear e2 hm
        by_cases hb : 60 < m
        · have hd2 : decide ((60 : Int) < (m : Int)) = true := decide_eq_true (by omega)
          go_wp2
          go_ret
          have e : smallB ls = false := by
            unfold smallB
            rw [Bool.and_eq_false_iff]
            right
            rw [List.all_eq_false]
            exact ⟨ls[k], List.getElem_mem hlt, by rw [HM.out]; simp; omega⟩
          rw [e]
          exact ⟨rfl, rfl⟩
        · have hd2 : decide ((60 : Int) < (m : Int)) = false := decide_eq_false (by omega)
          go_wp2
          go_round
          case rel =>
            refine ⟨k + 1, by omega, by go_num, Lib.hid fun j hj hjk => ?_⟩
            rcases Nat.lt_or_ge j k with h | h
            · exact HI.out j hj h
            · obtain rfl : j = k := by omega
              rw [HM.out]; omega
          case measure => simp [intOf]; omega
      · obtain rfl : k = ls.length := by omega
        go_wp2
        go_ret
        have e : smallB ls = true := by
          unfold smallB
          rw [Bool.and_eq_true]
          refine ⟨by simp; omega, List.all_eq_true.2 fun r hr => ?_⟩
          obtain ⟨j, hj, rfl⟩ := List.getElem_of_mem hr
          have := HI.out j hj hj
          simp; omega
        rw [e]
        exact ⟨rfl, rfl⟩
end Go.Proofs.YtohpgipgfmkflaaGreatDoor
namespace Go.Proofs.YtohpgipgfmkflaaGreatDoor
set_option linter.unusedSectionVars false
variable [Base]
open Go.RowKit
set_option maxRecDepth 100000
set_option linter.unusedVariables false
set_option linter.unusedSimpArgs false
attribute [local go_sem ↓] Go.wp_at_zero Go.wp_at_succ

/-- Do two lists agree at each place, and end together? -/
def sameG {α : Type} (R : α → α → Bool) : List α → List α → Bool
  | [], [] => true
  | a :: l, b :: m => R a b && sameG R l m
  | _, _ => false
theorem sameG_step {α : Type} (R : α → α → Bool) (l m : List α) (k : Nat) (hk : k < l.length) : sameG R (l.drop k) (m.drop k) = if h : k < m.length then (R l[k] m[k] && sameG R (l.drop (k + 1)) (m.drop (k + 1))) else false := by
  rw [List.drop_eq_getElem_cons hk]
  split
  · rename_i h
    rw [List.drop_eq_getElem_cons h]
    rfl
  · rename_i h
    rw [List.drop_eq_nil_of_le (by omega : m.length ≤ k)]
    rfl
theorem sameG_len {α : Type} (R : α → α → Bool) : ∀ (l m : List α), l.length ≠ m.length → sameG R l m = false
  | [], [], h => absurd rfl h
  | [], b :: m, _ => rfl
  | a :: l, [], _ => rfl
  | a :: l, b :: m, h => by
    simp only [sameG]
    rw [sameG_len R l m (by simpa using h), Bool.and_false]
theorem sameG_eq {α : Type} (R : α → α → Bool) (hR : ∀ a b, R a b = true ↔ a = b) : ∀ (l m : List α), sameG R l m = true ↔ l = m
  | [], [] => by simp [sameG]
  | [], b :: m => by simp [sameG]
  | a :: l, [] => by simp [sameG]
  | a :: l, b :: m => by simp [sameG, hR, sameG_eq R hR l m]
def sameLs : List (List UInt8) → List (List UInt8) → Bool := sameG (· == ·)
def sameBt : List (Int × List (List UInt8)) → List (Int × List (List UInt8)) → Bool := sameG fun a b => a.1 == b.1 && sameLs a.2 b.2
theorem sameLs_eq (l m : List (List UInt8)) : sameLs l m = true ↔ l = m := sameG_eq _ (fun a b => by simp) l m
theorem sameBt_eq (l m : List (Int × List (List UInt8))) : sameBt l m = true ↔ l = m :=
  sameG_eq _ (fun a b => by rw [Bool.and_eq_true, sameLs_eq]; obtain ⟨a1, a2⟩ := a; obtain ⟨b1, b2⟩ := b; simp) l m
set_option maxHeartbeats 2000000 in
theorem sameLists_any (w : World) (S S2 : Nat → Prop) (v u : Value) (l m : List (List UInt8)) (h : RdL w S v l) (k : RdL w S2 u m) :
    Calls Tryz.prog 82 #[v, u] w fun e w' => e = .returned (.bool (sameLs l m)) ∧ Below w.heap.size w w' := by
  obtain ⟨A, c, vs, rfl, h1, h2, h3, h4⟩ := id h
  obtain ⟨A2, c2, us, rfl, k1, k2, k3, k4⟩ := id k
  have H3 := Lib.hid h3
  have K3 := Lib.hid k3
  have H4 := Lib.hid h4
  have K4 := Lib.hid k4
  have hl : l.length ≤ 9223372036854775807 := by omega
  have hm : m.length ≤ 9223372036854775807 := by omega
  clear h k h3 k3 h4 k4 h1 k1
  go_enter Tryz.func82, Tryz.ntmps82
  go_wp2
  go_loopw [5, 8] (fun x i wr => ∃ k : Nat, k ≤ l.length ∧ k ≤ m.length ∧ i = .int .i64 k ∧ Below w.heap.size w wr ∧ Hid (sameLs (l.drop k) (m.drop k) = sameLs l m)) (fun x i wr => l.length - (intOf i).toNat)
  case atStart => exact ⟨0, Nat.zero_le _, Nat.zero_le _, rfl, Below.refl _ _, Lib.hid rfl⟩
  case round =>
    obtain ⟨k, hk, hkm, rfl, hbel, HS⟩ := hrel
    by_cases hlt : k < l.length
    · have hx1 : (k : Int) < (l.length : Int) := by omega
      have HSt := Lib.hid (sameG_step (· == ·) l m k hlt)
      by_cases hmt : k < m.length
      · have hkv : k < vs.length := by have := H3.out.1; omega
        have hku : k < us.length := by have := K3.out.1; omega
        obtain ⟨g, o, e1, _, hc1⟩ := H4.out k hkv
        obtain ⟨g2, o2, e2, _, hc2⟩ := K4.out k hku
        subst e1
        subst e2
        have hr1 := H3.out.get k hkv hlt
        have hr2 := K3.out.get k hku hmt
        have hsb := fun (wx : World) (hx : Below w.heap.size w wx) => sameBytes_any wx S S2 _ _ _ _ (hr1.below hx (fun _ h => .inl h)) (hr2.below hx (fun _ h => .inl h))
        obtain ⟨B1, n1, e1, _⟩ := id hr1
        obtain ⟨B2, n2, e2, _⟩ := id hr2
        rw [e1] at hc1 hsb
        rw [e2] at hc2 hsb
        have hq1 := (hbel.cell (p := ⟨g, o + k, none⟩) (World.block_lt_of_cell? w _ hc1)).trans hc1
        have hq2 := (hbel.cell (p := ⟨g2, o2 + k, none⟩) (World.block_lt_of_cell? w _ hc2)).trans hc2
        have hx2 : (k : Int) < (m.length : Int) := by omega
        have hx0 : (0 : Int) ≤ (k : Int) := by omega
        have hne : ((k : Int) == (m.length : Int)) = false := by simp; omega
        obtain ⟨x, hx⟩ : ∃ x, l[k] = x := ⟨_, rfl⟩
        obtain ⟨y, hy⟩ : ∃ y, m[k] = y := ⟨_, rfl⟩
        rw [hx] at hq1 hsb
        rw [hy] at hq2 hsb
        have HX := Lib.hid hx
        have HY := Lib.hid hy
        have HB := Lib.hid hbel
        have HC := Lib.hid (hsb wr.drew hbel.drew)
        clear hc1 hc2 hx hy hbel hsb hr1 hr2 e1 e2
        by_cases hxy : (x == y) = true
        · have HXY := Lib.hid hxy
          have hn2 : (!(x == y)) = false := by rw [hxy]; rfl
          clear hxy
          go_wp2
          refine wp_region_noPanic ?_
          refine wp_region_held_drew (S := (fun w' => w'.cell? ⟨g, o + k, none⟩ = some (.slice B1 x.length n1) ∧ w'.cell? ⟨g2, o2 + k, none⟩ = some (.slice B2 y.length n2))) (by kernel_rfl) ?_ (fun hHeld => ?_)
          · exact ⟨hq1, hq2⟩
          refine wpAnyH_take (i := 0) (oi := _) (v := ?_) rfl (by kernel_rfl) (by kernel_rfl) (by kernel_rfl) (fun _ _ _ h => h) (Or.inl ⟨by rfl, ?_⟩) (by assumption) ?_
          rotate_left
          · intro w hSw
            try dsimp only at hSw
            go_simp
            try with_reducible rfl
          try simp only [Act.put, List.setIfInBounds_toArray, List.set_cons_zero, List.set_cons_succ, List.getElem_toArray, List.getElem_cons_zero, List.getElem_cons_succ]
          refine wpAnyH_take (i := 1) (oi := _) (v := ?_) rfl (by kernel_rfl) (by kernel_rfl) (by kernel_rfl) (fun _ _ _ h => h) (Or.inl ⟨by rfl, ?_⟩) (by assumption) ?_
          rotate_left
          · intro w hSw
            try dsimp only at hSw
            go_simp
            try with_reducible rfl
          try simp only [Act.put, List.setIfInBounds_toArray, List.set_cons_zero, List.set_cons_succ, List.getElem_toArray, List.getElem_cons_zero, List.getElem_cons_succ]
          refine wpAnyH_take (i := 2) (oi := _) (v := ?_) rfl (by kernel_rfl) (by kernel_rfl) (by kernel_rfl) (fun _ _ _ h => h) (Or.inl ⟨by rfl, ?_⟩) (by assumption) ?_
          rotate_left
          · intro w hSw
            try dsimp only at hSw
            go_simp
            try with_reducible rfl
          try simp only [Act.put, List.setIfInBounds_toArray, List.set_cons_zero, List.set_cons_succ, List.getElem_toArray, List.getElem_cons_zero, List.getElem_cons_succ]
          refine wpAnyH_take (i := 3) (oi := _) (v := ?_) rfl (by kernel_rfl) (by kernel_rfl) (by kernel_rfl) (fun _ _ _ h => h) (Or.inl ⟨by rfl, ?_⟩) (by assumption) ?_
          rotate_left
          · intro w hSw
            try dsimp only at hSw
            go_simp
            try with_reducible rfl
          try simp only [Act.put, List.setIfInBounds_toArray, List.set_cons_zero, List.set_cons_succ, List.getElem_toArray, List.getElem_cons_zero, List.getElem_cons_succ]
          refine wpAnyH_take (i := 4) (oi := _) (v := ?_) rfl (by kernel_rfl) (by kernel_rfl) (by kernel_rfl) (fun _ _ _ h => h) (Or.inl ⟨by rfl, ?_⟩) (by assumption) ?_
          rotate_left
          · intro w hSw
            try dsimp only at hSw
            go_simp
            try with_reducible rfl
          try simp only [Act.put, List.setIfInBounds_toArray, List.set_cons_zero, List.set_cons_succ, List.getElem_toArray, List.getElem_cons_zero, List.getElem_cons_succ]
          refine wpAnyH_take (i := 5) (oi := _) (v := ?_) rfl (by kernel_rfl) (by kernel_rfl) (by kernel_rfl) (fun _ _ _ h => h) (Or.inl ⟨by rfl, ?_⟩) (by assumption) ?_
          rotate_left
          · intro w hSw
            try dsimp only at hSw
            go_simp
            try with_reducible rfl
          try simp only [Act.put, List.setIfInBounds_toArray, List.set_cons_zero, List.set_cons_succ, List.getElem_toArray, List.getElem_cons_zero, List.getElem_cons_succ]
          refine wpAnyH_take (i := 6) (oi := _) (v := ?_) rfl (by kernel_rfl) (by kernel_rfl) (by kernel_rfl) (fun _ _ _ h => h) (Or.inl ⟨by rfl, ?_⟩) (by assumption) ?_
          rotate_left
          · intro w hSw
            try dsimp only at hSw
            go_simp
            try with_reducible rfl
          try simp only [Act.put, List.setIfInBounds_toArray, List.set_cons_zero, List.set_cons_succ, List.getElem_toArray, List.getElem_cons_zero, List.getElem_cons_succ]
          refine wpAnyH_take (i := 7) (oi := _) (v := ?_) rfl (by kernel_rfl) (by kernel_rfl) (by kernel_rfl) (fun _ _ _ h => h) (Or.inl ⟨by rfl, ?_⟩) (by assumption) ?_
          rotate_left
          · intro w hSw
            try dsimp only at hSw
            go_simp
            try with_reducible rfl
          try simp only [Act.put, List.setIfInBounds_toArray, List.set_cons_zero, List.set_cons_succ, List.getElem_toArray, List.getElem_cons_zero, List.getElem_cons_succ]
          refine wpAnyH_take (i := 8) (oi := _) (v := ?_) rfl (by kernel_rfl) (by kernel_rfl) (by kernel_rfl) (fun _ _ _ h => h) (Or.inl ⟨by rfl, ?_⟩) (by assumption) ?_
          rotate_left
          · intro w hSw
            try dsimp only at hSw
            go_simp
            try with_reducible rfl
          try simp only [Act.put, List.setIfInBounds_toArray, List.set_cons_zero, List.set_cons_succ, List.getElem_toArray, List.getElem_cons_zero, List.getElem_cons_succ]
          refine wpAnyH_take (i := 9) (oi := _) (v := ?_) rfl (by kernel_rfl) (by kernel_rfl) (by kernel_rfl) (fun _ _ _ h => h) (Or.inl ⟨by rfl, ?_⟩) (by assumption) ?_
          rotate_left
          · intro w hSw
            try dsimp only at hSw
            go_simp
            try with_reducible rfl
          try simp only [Act.put, List.setIfInBounds_toArray, List.set_cons_zero, List.set_cons_succ, List.getElem_toArray, List.getElem_cons_zero, List.getElem_cons_succ]
          refine wpAnyH_take (i := 10) (oi := _) (v := ?_) rfl (by kernel_rfl) (by kernel_rfl) (by kernel_rfl) (fun _ _ _ h => h) (Or.inl ⟨by rfl, ?_⟩) (by assumption) ?_
          rotate_left
          · intro w hSw
            try dsimp only at hSw
            go_simp
            try with_reducible rfl
          try simp only [Act.put, List.setIfInBounds_toArray, List.set_cons_zero, List.set_cons_succ, List.getElem_toArray, List.getElem_cons_zero, List.getElem_cons_succ]
          refine wpAnyH_take (i := 11) (oi := _) (v := ?_) rfl (by kernel_rfl) (by kernel_rfl) (by kernel_rfl) (fun _ _ _ h => h) (Or.inl ⟨by rfl, ?_⟩) (by assumption) ?_
          rotate_left
          · intro w hSw
            try dsimp only at hSw
            go_simp
            try with_reducible rfl
          try simp only [Act.put, List.setIfInBounds_toArray, List.set_cons_zero, List.set_cons_succ, List.getElem_toArray, List.getElem_cons_zero, List.getElem_cons_succ]
          refine wpAnyH_take (i := 12) (oi := _) (v := ?_) rfl (by kernel_rfl) (by kernel_rfl) (by kernel_rfl) (fun _ _ _ h => h) (Or.inl ⟨by rfl, ?_⟩) (by assumption) ?_
          rotate_left
          · intro w hSw
            try dsimp only at hSw
            go_simp
            try with_reducible rfl
          try simp only [Act.put, List.setIfInBounds_toArray, List.set_cons_zero, List.set_cons_succ, List.getElem_toArray, List.getElem_cons_zero, List.getElem_cons_succ]
          refine wpAnyH_ready (rs := [13]) (by kernel_rfl) (by simp) ?_
          refine AllReadyH.cons (o := _) rfl (fun K hK => ?_) AllReadyH.nil
          go_simp
          go_at_call 35
          refine HC.out.mono ?_
          rintro e w' ⟨rfl, hw⟩
          subst hw
          go_wp2
          refine hK.out _ _ ?_ (fun hHeld => ?_)
          · exact ⟨hq1, hq2⟩
          clear hK K
          try simp only [Act.put, List.setIfInBounds_toArray, List.set_cons_zero, List.set_cons_succ, List.getElem_toArray, List.getElem_cons_zero, List.getElem_cons_succ]
          refine wpAnyH_take (i := 14) (oi := _) (v := ?_) rfl (by kernel_rfl) (by kernel_rfl) (by kernel_rfl) (fun _ _ _ h => h) (Or.inl ⟨by rfl, ?_⟩) (by assumption) ?_
          rotate_left
          · intro w hSw
            try dsimp only at hSw
            go_simp
            try with_reducible rfl
          try simp only [Act.put, List.setIfInBounds_toArray, List.set_cons_zero, List.set_cons_succ, List.getElem_toArray, List.getElem_cons_zero, List.getElem_cons_succ]
          refine wpAnyH_take (i := 15) (oi := _) (v := ?_) rfl (by kernel_rfl) (by kernel_rfl) (by kernel_rfl) (fun _ _ _ h => h) (Or.inl ⟨by rfl, ?_⟩) (by assumption) ?_
          rotate_left
          · intro w hSw
            try dsimp only at hSw
            go_simp
            try with_reducible rfl
          try simp only [Act.put, List.setIfInBounds_toArray, List.set_cons_zero, List.set_cons_succ, List.getElem_toArray, List.getElem_cons_zero, List.getElem_cons_succ]
          refine wpAnyH_done (by kernel_rfl) ?_ _
          refine NoPanic.normal ?_
          go_wp2
          refine ⟨⟨k + 1, by omega, by omega, by go_num, HB.out.drew, Lib.hid ?_⟩, by simp [intOf]; omega⟩
          have h9 := HSt.out
          rw [dif_pos hmt, HX.out, HY.out, HXY.out, Bool.true_and] at h9
          exact h9.symm.trans HS.out
        · have hxz : (x == y) = false := by simpa using hxy
          have HXY := Lib.hid hxz
          have hn2 : (!(x == y)) = true := by rw [hxz]; rfl
          clear hxy
          go_wp2
          refine wp_region_noPanic ?_
          refine wp_region_held_drew (S := (fun w' => w'.cell? ⟨g, o + k, none⟩ = some (.slice B1 x.length n1) ∧ w'.cell? ⟨g2, o2 + k, none⟩ = some (.slice B2 y.length n2))) (by kernel_rfl) ?_ (fun hHeld => ?_)
          · exact ⟨hq1, hq2⟩
          refine wpAnyH_take (i := 0) (oi := _) (v := ?_) rfl (by kernel_rfl) (by kernel_rfl) (by kernel_rfl) (fun _ _ _ h => h) (Or.inl ⟨by rfl, ?_⟩) (by assumption) ?_
          rotate_left
          · intro w hSw
            try dsimp only at hSw
            go_simp
            try with_reducible rfl
          try simp only [Act.put, List.setIfInBounds_toArray, List.set_cons_zero, List.set_cons_succ, List.getElem_toArray, List.getElem_cons_zero, List.getElem_cons_succ]
          refine wpAnyH_take (i := 1) (oi := _) (v := ?_) rfl (by kernel_rfl) (by kernel_rfl) (by kernel_rfl) (fun _ _ _ h => h) (Or.inl ⟨by rfl, ?_⟩) (by assumption) ?_
          rotate_left
          · intro w hSw
            try dsimp only at hSw
            go_simp
            try with_reducible rfl
          try simp only [Act.put, List.setIfInBounds_toArray, List.set_cons_zero, List.set_cons_succ, List.getElem_toArray, List.getElem_cons_zero, List.getElem_cons_succ]
          refine wpAnyH_take (i := 2) (oi := _) (v := ?_) rfl (by kernel_rfl) (by kernel_rfl) (by kernel_rfl) (fun _ _ _ h => h) (Or.inl ⟨by rfl, ?_⟩) (by assumption) ?_
          rotate_left
          · intro w hSw
            try dsimp only at hSw
            go_simp
            try with_reducible rfl
          try simp only [Act.put, List.setIfInBounds_toArray, List.set_cons_zero, List.set_cons_succ, List.getElem_toArray, List.getElem_cons_zero, List.getElem_cons_succ]
          refine wpAnyH_take (i := 3) (oi := _) (v := ?_) rfl (by kernel_rfl) (by kernel_rfl) (by kernel_rfl) (fun _ _ _ h => h) (Or.inl ⟨by rfl, ?_⟩) (by assumption) ?_
          rotate_left
          · intro w hSw
            try dsimp only at hSw
            go_simp
            try with_reducible rfl
          try simp only [Act.put, List.setIfInBounds_toArray, List.set_cons_zero, List.set_cons_succ, List.getElem_toArray, List.getElem_cons_zero, List.getElem_cons_succ]
          refine wpAnyH_take (i := 4) (oi := _) (v := ?_) rfl (by kernel_rfl) (by kernel_rfl) (by kernel_rfl) (fun _ _ _ h => h) (Or.inl ⟨by rfl, ?_⟩) (by assumption) ?_
          rotate_left
          · intro w hSw
            try dsimp only at hSw
            go_simp
            try with_reducible rfl
          try simp only [Act.put, List.setIfInBounds_toArray, List.set_cons_zero, List.set_cons_succ, List.getElem_toArray, List.getElem_cons_zero, List.getElem_cons_succ]
          refine wpAnyH_take (i := 5) (oi := _) (v := ?_) rfl (by kernel_rfl) (by kernel_rfl) (by kernel_rfl) (fun _ _ _ h => h) (Or.inl ⟨by rfl, ?_⟩) (by assumption) ?_
          rotate_left
          · intro w hSw
            try dsimp only at hSw
            go_simp
            try with_reducible rfl
          try simp only [Act.put, List.setIfInBounds_toArray, List.set_cons_zero, List.set_cons_succ, List.getElem_toArray, List.getElem_cons_zero, List.getElem_cons_succ]
          refine wpAnyH_take (i := 6) (oi := _) (v := ?_) rfl (by kernel_rfl) (by kernel_rfl) (by kernel_rfl) (fun _ _ _ h => h) (Or.inl ⟨by rfl, ?_⟩) (by assumption) ?_
          rotate_left
          · intro w hSw
            try dsimp only at hSw
            go_simp
            try with_reducible rfl
          try simp only [Act.put, List.setIfInBounds_toArray, List.set_cons_zero, List.set_cons_succ, List.getElem_toArray, List.getElem_cons_zero, List.getElem_cons_succ]
          refine wpAnyH_take (i := 7) (oi := _) (v := ?_) rfl (by kernel_rfl) (by kernel_rfl) (by kernel_rfl) (fun _ _ _ h => h) (Or.inl ⟨by rfl, ?_⟩) (by assumption) ?_
          rotate_left
          · intro w hSw
            try dsimp only at hSw
            go_simp
            try with_reducible rfl
          try simp only [Act.put, List.setIfInBounds_toArray, List.set_cons_zero, List.set_cons_succ, List.getElem_toArray, List.getElem_cons_zero, List.getElem_cons_succ]
          refine wpAnyH_take (i := 8) (oi := _) (v := ?_) rfl (by kernel_rfl) (by kernel_rfl) (by kernel_rfl) (fun _ _ _ h => h) (Or.inl ⟨by rfl, ?_⟩) (by assumption) ?_
          rotate_left
          · intro w hSw
            try dsimp only at hSw
            go_simp
            try with_reducible rfl
          try simp only [Act.put, List.setIfInBounds_toArray, List.set_cons_zero, List.set_cons_succ, List.getElem_toArray, List.getElem_cons_zero, List.getElem_cons_succ]
          refine wpAnyH_take (i := 9) (oi := _) (v := ?_) rfl (by kernel_rfl) (by kernel_rfl) (by kernel_rfl) (fun _ _ _ h => h) (Or.inl ⟨by rfl, ?_⟩) (by assumption) ?_
          rotate_left
          · intro w hSw
            try dsimp only at hSw
            go_simp
            try with_reducible rfl
          try simp only [Act.put, List.setIfInBounds_toArray, List.set_cons_zero, List.set_cons_succ, List.getElem_toArray, List.getElem_cons_zero, List.getElem_cons_succ]
          refine wpAnyH_take (i := 10) (oi := _) (v := ?_) rfl (by kernel_rfl) (by kernel_rfl) (by kernel_rfl) (fun _ _ _ h => h) (Or.inl ⟨by rfl, ?_⟩) (by assumption) ?_
          rotate_left
          · intro w hSw
            try dsimp only at hSw
            go_simp
            try with_reducible rfl
          try simp only [Act.put, List.setIfInBounds_toArray, List.set_cons_zero, List.set_cons_succ, List.getElem_toArray, List.getElem_cons_zero, List.getElem_cons_succ]
          refine wpAnyH_take (i := 11) (oi := _) (v := ?_) rfl (by kernel_rfl) (by kernel_rfl) (by kernel_rfl) (fun _ _ _ h => h) (Or.inl ⟨by rfl, ?_⟩) (by assumption) ?_
          rotate_left
          · intro w hSw
            try dsimp only at hSw
            go_simp
            try with_reducible rfl
          try simp only [Act.put, List.setIfInBounds_toArray, List.set_cons_zero, List.set_cons_succ, List.getElem_toArray, List.getElem_cons_zero, List.getElem_cons_succ]
          refine wpAnyH_take (i := 12) (oi := _) (v := ?_) rfl (by kernel_rfl) (by kernel_rfl) (by kernel_rfl) (fun _ _ _ h => h) (Or.inl ⟨by rfl, ?_⟩) (by assumption) ?_
          rotate_left
          · intro w hSw
            try dsimp only at hSw
            go_simp
            try with_reducible rfl
          try simp only [Act.put, List.setIfInBounds_toArray, List.set_cons_zero, List.set_cons_succ, List.getElem_toArray, List.getElem_cons_zero, List.getElem_cons_succ]
          refine wpAnyH_ready (rs := [13]) (by kernel_rfl) (by simp) ?_
          refine AllReadyH.cons (o := _) rfl (fun K hK => ?_) AllReadyH.nil
          go_simp
          go_at_call 35
          refine HC.out.mono ?_
          rintro e w' ⟨rfl, hw⟩
          subst hw
          go_wp2
          refine hK.out _ _ ?_ (fun hHeld => ?_)
          · exact ⟨hq1, hq2⟩
          clear hK K
          try simp only [Act.put, List.setIfInBounds_toArray, List.set_cons_zero, List.set_cons_succ, List.getElem_toArray, List.getElem_cons_zero, List.getElem_cons_succ]
          refine wpAnyH_take (i := 14) (oi := _) (v := ?_) rfl (by kernel_rfl) (by kernel_rfl) (by kernel_rfl) (fun _ _ _ h => h) (Or.inl ⟨by rfl, ?_⟩) (by assumption) ?_
          rotate_left
          · intro w hSw
            try dsimp only at hSw
            go_simp
            try with_reducible rfl
          try simp only [Act.put, List.setIfInBounds_toArray, List.set_cons_zero, List.set_cons_succ, List.getElem_toArray, List.getElem_cons_zero, List.getElem_cons_succ]
          refine wpAnyH_take (i := 15) (oi := _) (v := ?_) rfl (by kernel_rfl) (by kernel_rfl) (by kernel_rfl) (fun _ _ _ h => h) (Or.inl ⟨by rfl, ?_⟩) (by assumption) ?_
          rotate_left
          · intro w hSw
            try dsimp only at hSw
            go_simp
            try with_reducible rfl
          try simp only [Act.put, List.setIfInBounds_toArray, List.set_cons_zero, List.set_cons_succ, List.getElem_toArray, List.getElem_cons_zero, List.getElem_cons_succ]
          refine wpAnyH_done (by kernel_rfl) ?_ _
          refine NoPanic.normal ?_
          go_wp2
          go_ret
          have h9 := HSt.out
          rw [dif_pos hmt, HX.out, HY.out, HXY.out, Bool.false_and] at h9
          have h8 : sameLs l m = false := by rw [← HS.out]; exact h9
          rw [h8]
          exact ⟨rfl, HB.out.drew⟩
      · have hne : ((k : Int) == (m.length : Int)) = true := by simp; omega
        have hkm2 : k = m.length := by omega
        have HB := Lib.hid hbel
        have HK := Lib.hid hmt
        clear hbel hkm2 hmt
        go_wp2
        refine wp_region_noPanic ?_
        refine wp_region_held_drew (S := (fun w' => True)) (by kernel_rfl) ?_ (fun hHeld => ?_)
        · trivial
        refine wpAnyH_take (i := 0) (oi := _) (v := ?_) rfl (by kernel_rfl) (by kernel_rfl) (by kernel_rfl) (fun _ _ _ h => h) (Or.inl ⟨by rfl, ?_⟩) (by assumption) ?_
        rotate_left
        · intro w hSw
          try dsimp only at hSw
          go_simp
          try with_reducible rfl
        try simp only [Act.put, List.setIfInBounds_toArray, List.set_cons_zero, List.set_cons_succ, List.getElem_toArray, List.getElem_cons_zero, List.getElem_cons_succ]
        refine wpAnyH_take (i := 1) (oi := _) (v := ?_) rfl (by kernel_rfl) (by kernel_rfl) (by kernel_rfl) (fun _ _ _ h => h) (Or.inl ⟨by rfl, ?_⟩) (by assumption) ?_
        rotate_left
        · intro w hSw
          try dsimp only at hSw
          go_simp
          try with_reducible rfl
        try simp only [Act.put, List.setIfInBounds_toArray, List.set_cons_zero, List.set_cons_succ, List.getElem_toArray, List.getElem_cons_zero, List.getElem_cons_succ]
        refine wpAnyH_take (i := 2) (oi := _) (v := ?_) rfl (by kernel_rfl) (by kernel_rfl) (by kernel_rfl) (fun _ _ _ h => h) (Or.inl ⟨by rfl, ?_⟩) (by assumption) ?_
        rotate_left
        · intro w hSw
          try dsimp only at hSw
          go_simp
          try with_reducible rfl
        try simp only [Act.put, List.setIfInBounds_toArray, List.set_cons_zero, List.set_cons_succ, List.getElem_toArray, List.getElem_cons_zero, List.getElem_cons_succ]
        refine wpAnyH_take (i := 3) (oi := _) (v := ?_) rfl (by kernel_rfl) (by kernel_rfl) (by kernel_rfl) (fun _ _ _ h => h) (Or.inl ⟨by rfl, ?_⟩) (by assumption) ?_
        rotate_left
        · intro w hSw
          try dsimp only at hSw
          go_simp
          try with_reducible rfl
        try simp only [Act.put, List.setIfInBounds_toArray, List.set_cons_zero, List.set_cons_succ, List.getElem_toArray, List.getElem_cons_zero, List.getElem_cons_succ]
        refine wpAnyH_take (i := 4) (oi := _) (v := ?_) rfl (by kernel_rfl) (by kernel_rfl) (by kernel_rfl) (fun _ _ _ h => h) (Or.inl ⟨by rfl, ?_⟩) (by assumption) ?_
        rotate_left
        · intro w hSw
          try dsimp only at hSw
          go_simp
          try with_reducible rfl
        try simp only [Act.put, List.setIfInBounds_toArray, List.set_cons_zero, List.set_cons_succ, List.getElem_toArray, List.getElem_cons_zero, List.getElem_cons_succ]
        refine wpAnyH_take (i := 5) (oi := _) (v := undef) rfl (by kernel_rfl) (by kernel_rfl) (by kernel_rfl) (fun _ _ _ h => h) (Or.inr ⟨by kernel_rfl, rfl⟩) (by assumption) ?_
        try simp only [Act.put, List.setIfInBounds_toArray, List.set_cons_zero, List.set_cons_succ, List.getElem_toArray, List.getElem_cons_zero, List.getElem_cons_succ]
        refine wpAnyH_take (i := 6) (oi := _) (v := undef) rfl (by kernel_rfl) (by kernel_rfl) (by kernel_rfl) (fun _ _ _ h => h) (Or.inr ⟨by kernel_rfl, rfl⟩) (by assumption) ?_
        try simp only [Act.put, List.setIfInBounds_toArray, List.set_cons_zero, List.set_cons_succ, List.getElem_toArray, List.getElem_cons_zero, List.getElem_cons_succ]
        refine wpAnyH_take (i := 7) (oi := _) (v := undef) rfl (by kernel_rfl) (by kernel_rfl) (by kernel_rfl) (fun _ _ _ h => h) (Or.inr ⟨by kernel_rfl, rfl⟩) (by assumption) ?_
        try simp only [Act.put, List.setIfInBounds_toArray, List.set_cons_zero, List.set_cons_succ, List.getElem_toArray, List.getElem_cons_zero, List.getElem_cons_succ]
        refine wpAnyH_take (i := 8) (oi := _) (v := undef) rfl (by kernel_rfl) (by kernel_rfl) (by kernel_rfl) (fun _ _ _ h => h) (Or.inr ⟨by kernel_rfl, rfl⟩) (by assumption) ?_
        try simp only [Act.put, List.setIfInBounds_toArray, List.set_cons_zero, List.set_cons_succ, List.getElem_toArray, List.getElem_cons_zero, List.getElem_cons_succ]
        refine wpAnyH_take (i := 9) (oi := _) (v := undef) rfl (by kernel_rfl) (by kernel_rfl) (by kernel_rfl) (fun _ _ _ h => h) (Or.inr ⟨by kernel_rfl, rfl⟩) (by assumption) ?_
        try simp only [Act.put, List.setIfInBounds_toArray, List.set_cons_zero, List.set_cons_succ, List.getElem_toArray, List.getElem_cons_zero, List.getElem_cons_succ]
        refine wpAnyH_take (i := 10) (oi := _) (v := undef) rfl (by kernel_rfl) (by kernel_rfl) (by kernel_rfl) (fun _ _ _ h => h) (Or.inr ⟨by kernel_rfl, rfl⟩) (by assumption) ?_
        try simp only [Act.put, List.setIfInBounds_toArray, List.set_cons_zero, List.set_cons_succ, List.getElem_toArray, List.getElem_cons_zero, List.getElem_cons_succ]
        refine wpAnyH_take (i := 11) (oi := _) (v := undef) rfl (by kernel_rfl) (by kernel_rfl) (by kernel_rfl) (fun _ _ _ h => h) (Or.inr ⟨by kernel_rfl, rfl⟩) (by assumption) ?_
        try simp only [Act.put, List.setIfInBounds_toArray, List.set_cons_zero, List.set_cons_succ, List.getElem_toArray, List.getElem_cons_zero, List.getElem_cons_succ]
        refine wpAnyH_take (i := 12) (oi := _) (v := undef) rfl (by kernel_rfl) (by kernel_rfl) (by kernel_rfl) (fun _ _ _ h => h) (Or.inr ⟨by kernel_rfl, rfl⟩) (by assumption) ?_
        try simp only [Act.put, List.setIfInBounds_toArray, List.set_cons_zero, List.set_cons_succ, List.getElem_toArray, List.getElem_cons_zero, List.getElem_cons_succ]
        refine wpAnyH_take (i := 13) (oi := _) (v := undef) rfl (by kernel_rfl) (by kernel_rfl) (by kernel_rfl) (fun _ _ _ h => h) (Or.inr ⟨by kernel_rfl, rfl⟩) (by assumption) ?_
        try simp only [Act.put, List.setIfInBounds_toArray, List.set_cons_zero, List.set_cons_succ, List.getElem_toArray, List.getElem_cons_zero, List.getElem_cons_succ]
        refine wpAnyH_take (i := 14) (oi := _) (v := undef) rfl (by kernel_rfl) (by kernel_rfl) (by kernel_rfl) (fun _ _ _ h => h) (Or.inr ⟨by kernel_rfl, rfl⟩) (by assumption) ?_
        try simp only [Act.put, List.setIfInBounds_toArray, List.set_cons_zero, List.set_cons_succ, List.getElem_toArray, List.getElem_cons_zero, List.getElem_cons_succ]
        refine wpAnyH_take (i := 15) (oi := _) (v := ?_) rfl (by kernel_rfl) (by kernel_rfl) (by kernel_rfl) (fun _ _ _ h => h) (Or.inl ⟨by rfl, ?_⟩) (by assumption) ?_
        rotate_left
        · intro w hSw
          try dsimp only at hSw
          go_simp
          try with_reducible rfl
        try simp only [Act.put, List.setIfInBounds_toArray, List.set_cons_zero, List.set_cons_succ, List.getElem_toArray, List.getElem_cons_zero, List.getElem_cons_succ]
        refine wpAnyH_done (by kernel_rfl) ?_ _
        refine NoPanic.normal ?_
        go_wp2
        go_ret
        have h9 := HSt.out
        rw [dif_neg HK.out] at h9
        have h8 : sameLs l m = false := by rw [← HS.out]; exact h9
        rw [h8]
        exact ⟨rfl, HB.out.drew⟩
    · obtain rfl : k = l.length := by omega
      go_wp2
      go_ret
      refine ⟨?_, hbel⟩
      rw [← HS.out, List.drop_length]
      by_cases he : l.length = m.length
      · rw [he, List.drop_length]
        simp [sameLs, sameG]
      · have : m.drop l.length ≠ [] := by simp; omega
        obtain ⟨b, t, hbt⟩ := List.exists_cons_of_ne_nil this
        rw [hbt]
        simp [sameLs, sameG]
        omega
end Go.Proofs.YtohpgipgfmkflaaGreatDoor
namespace Go.Proofs.YtohpgipgfmkflaaGreatDoor
set_option linter.unusedVariables false
set_option linter.unusedSimpArgs false

/-- A number is read: its value, how many bytes, the error. -/
def guR : Nat → Nat → List UInt8 → Nat × Nat × Int
  | _, _, [] => (0, 0, 11)
  | k, n, x :: r =>
    if (k = 9 ∧ 1 < x.toNat) ∨ (x.toNat = 0 ∧ 0 < k) then (0, 0, 10)
    else if x.toNat < 128 then (n + x.toNat * 128 ^ k, k + 1, 0)
    else guR (k + 1) (n + (x.toNat - 128) * 128 ^ k) r
theorem ofNat_toNat (m : Nat) (h : m < 256) : (UInt8.ofNat m).toNat = m := by
  simp; omega
/-- n needs just j + 1 bytes. -/
def Canon (j n : Nat) : Prop := n < 128 ^ (j + 1) ∧ (0 < j → 128 ^ j ≤ n)
theorem guR_uintR (j : Nat) : ∀ (k n acc : Nat) (rest : List UInt8), Canon j n → (0 < k → 0 < n) → k + j ≤ 9 → n * 128 ^ k < 18446744073709551616 →
    guR k acc (uintR j n ++ rest) = (acc + n * 128 ^ k, k + j + 1, 0) := by
  induction j with
  | zero =>
    intro k n acc rest hc hk hj hn
    have h1 : n < 128 := by simpa using hc.1
    have e : (UInt8.ofNat n).toNat = n := ofNat_toNat n (by omega)
    simp only [uintR, List.singleton_append, guR, e]
    rw [if_neg, if_pos h1]
    · rintro (⟨h, h2⟩ | ⟨h, h2⟩)
      · subst h
        have : 2 * 128 ^ 9 ≤ n * 128 ^ 9 := Nat.mul_le_mul_right _ (by omega)
        omega
      · have := hk h2; omega
  | succ j ih =>
    intro k n acc rest hc hk hj hn
    have e : (UInt8.ofNat (128 + n % 128)).toNat = 128 + n % 128 := ofNat_toNat _ (by omega)
    have hge : 128 ^ (j + 1) ≤ n := hc.2 (by omega)
    have hlt := hc.1
    have hp : 0 < 128 ^ j := Nat.pow_pos (by omega)
    simp only [uintR, List.cons_append, guR, e]
    rw [if_neg (by omega), if_neg (by omega), ih (k + 1) (n / 128)]
    · rw [show 128 + n % 128 - 128 = n % 128 by omega, Nat.pow_succ, show k + 1 + j + 1 = k + (j + 1) + 1 by omega]
      congr 1
      have := Nat.div_add_mod n 128
      calc acc + n % 128 * 128 ^ k + n / 128 * (128 ^ k * 128) = acc + (128 * (n / 128) + n % 128) * 128 ^ k := by rw [Nat.add_mul]; rw [show n / 128 * (128 ^ k * 128) = 128 * (n / 128) * 128 ^ k by rw [Nat.mul_comm (128 ^ k) 128, ← Nat.mul_assoc, Nat.mul_comm (n / 128) 128]]; omega
        _ = _ := by rw [this]
    · refine ⟨?_, fun h => ?_⟩
      · rw [Nat.div_lt_iff_lt_mul (by omega)]; rw [Nat.pow_succ] at hlt; exact hlt
      · rw [Nat.le_div_iff_mul_le (by omega)]; rw [Nat.pow_succ] at hge; exact hge
    · intro _
      have : 128 ^ 1 ≤ n := Nat.le_trans (Nat.pow_le_pow_right (by omega) (by omega)) hge
      omega
    · omega
    · refine Nat.lt_of_le_of_lt ?_ hn
      rw [Nat.pow_succ, Nat.mul_comm (128 ^ k) 128, ← Nat.mul_assoc]
      exact Nat.mul_le_mul_right _ (Nat.div_mul_le_self n 128)
theorem pow7 (j : Nat) : 128 ^ j = 2 ^ (7 * j) := by rw [Nat.pow_mul]
theorem canon_log2 (n : Nat) : Canon (Nat.log2 n / 7) n := by
  refine ⟨?_, fun h => ?_⟩
  · rw [pow7]
    rcases Nat.eq_zero_or_pos n with h0 | h0
    · subst h0; exact Nat.pow_pos (by omega)
    · exact (Nat.log2_lt (by omega)).1 (by omega)
  · rw [pow7]
    have h0 : n ≠ 0 := by rintro rfl; simp [Nat.log2_zero] at h
    exact (Nat.le_log2 h0).1 (by omega)
theorem log2_canon {j n : Nat} (h : Canon j n) : Nat.log2 n / 7 = j := by
  rcases Nat.eq_zero_or_pos j with hj | hj
  · subst hj
    rcases Nat.eq_zero_or_pos n with h0 | h0
    · subst h0; simp [Nat.log2_zero]
    · have := h.1
      have : Nat.log2 n < 7 := (Nat.log2_lt (by omega)).2 (by simpa using this)
      omega
  · have h1 := h.1
    have h2 := h.2 hj
    rw [pow7] at h1 h2
    have h0 : n ≠ 0 := by
      have : 0 < 2 ^ (7 * j) := Nat.pow_pos (by omega)
      omega
    have := (Nat.log2_lt h0).2 h1
    have := (Nat.le_log2 h0).2 h2
    omega
theorem uintB_canon {j n : Nat} (h : Canon j n) : uintB n = uintR j n := by unfold uintB; rw [log2_canon h]
theorem log2_small (n : Nat) (h : n < 18446744073709551616) : Nat.log2 n / 7 ≤ 9 := by
  rcases Nat.eq_zero_or_pos n with h0 | h0
  · subst h0; simp [Nat.log2_zero]
  · have : Nat.log2 n < 64 := (Nat.log2_lt (by omega)).2 h
    omega
/-- What was written is read. -/
theorem guR_uintB (n : Nat) (h : n < 18446744073709551616) (rest : List UInt8) : guR 0 0 (uintB n ++ rest) = (n, (uintB n).length, 0) := by
  unfold uintB
  rw [uintR_length]
  have := guR_uintR (Nat.log2 n / 7) 0 n 0 rest (canon_log2 n) (by omega) (by have := log2_small n h; omega) (by simpa using h)
  simpa using this
theorem guR_inv : ∀ (l : List UInt8) (k acc m c : Nat), k ≤ 9 → guR k acc l = (m, c, 0) → ∃ j n, Canon j n ∧ (0 < k → 0 < n) ∧ k + j ≤ 9 ∧ n * 128 ^ k < 18446744073709551616 ∧ m = acc + n * 128 ^ k ∧ c = k + j + 1 ∧ ∃ rest, l = uintR j n ++ rest := by
  intro l
  induction l with
  | nil => intro k acc m c _ h; simp [guR] at h
  | cons x l ih =>
    intro k acc m c hk h
    simp only [guR] at h
    by_cases h1 : (k = 9 ∧ 1 < x.toNat) ∨ (x.toNat = 0 ∧ 0 < k)
    · rw [if_pos h1] at h; simp at h
    · rw [if_neg h1] at h
      by_cases h2 : x.toNat < 128
      · rw [if_pos h2] at h
        simp only [Prod.mk.injEq, and_true] at h
        obtain ⟨rfl, rfl⟩ := h
        refine ⟨0, x.toNat, ⟨by simpa using h2, fun h => absurd h (by omega)⟩, fun hk => by omega, by omega, ?_, rfl, rfl, l, ?_⟩
        · rcases Nat.lt_or_ge k 9 with h9 | h9
          · have h3 : x.toNat * 128 ^ k < 128 * 128 ^ k := Nat.mul_lt_mul_of_pos_right h2 (Nat.pow_pos (by omega))
            have h4 : 128 ^ k ≤ 128 ^ 8 := Nat.pow_le_pow_right (by omega) (by omega)
            omega
          · obtain rfl : k = 9 := by omega
            have : x.toNat ≤ 1 := by omega
            have : x.toNat * 128 ^ 9 ≤ 1 * 128 ^ 9 := Nat.mul_le_mul_right _ this
            omega
        · simp [uintR]
      · rw [if_neg h2] at h
        have hk9 : k ≠ 9 := by omega
        obtain ⟨j, n, hc, hp, hj, hn, rfl, rfl, rest, rfl⟩ := ih (k + 1) _ m c (by omega) h
        have hn0 := hp (by omega)
        have hx := x.toNat_lt
        have hp1 : (0 : Nat) < 128 ^ k := Nat.pow_pos (by omega)
        have hval : (x.toNat - 128 + 128 * n) * 128 ^ k = (x.toNat - 128) * 128 ^ k + n * 128 ^ (k + 1) := by
          rw [Nat.add_mul, Nat.pow_succ, Nat.mul_comm 128 n, Nat.mul_assoc, Nat.mul_comm 128 (128 ^ k)]
        refine ⟨j + 1, x.toNat - 128 + 128 * n, ⟨?_, fun _ => ?_⟩, fun _ => by omega, by omega, ?_, ?_, by omega, rest, ?_⟩
        · have := hc.1
          have e : 128 ^ (j + 1 + 1) = 128 ^ (j + 1) * 128 := Nat.pow_succ ..
          omega
        · rcases Nat.eq_zero_or_pos j with h0 | h0
          · subst h0; simp; omega
          · have := hc.2 h0
            have e : 128 ^ (j + 1) = 128 ^ j * 128 := Nat.pow_succ ..
            omega
        · rw [hval]
          have hk8 : k ≤ 8 := by omega
          have e : (128 : Nat) ^ (k + 1) = 128 ^ k * 128 := Nat.pow_succ ..
          have h5 : (x.toNat - 128) * 128 ^ k < 128 ^ (k + 1) := by rw [e, Nat.mul_comm]; exact Nat.mul_lt_mul_of_pos_left (by omega) hp1
          have h6 : (128 : Nat) ^ (k + 1) ∣ 18446744073709551616 := by
            rw [pow7]
            rw [show 18446744073709551616 = 2 ^ 64 by decide]
            exact Nat.pow_dvd_pow 2 (by omega)
          obtain ⟨q, hq⟩ := h6
          rw [hq] at hn ⊢
          have h7 : n < q := by rw [Nat.mul_comm] at hn; exact Nat.lt_of_mul_lt_mul_left hn
          calc (x.toNat - 128) * 128 ^ k + n * 128 ^ (k + 1) < 128 ^ (k + 1) + n * 128 ^ (k + 1) := by omega
            _ = 128 ^ (k + 1) * (n + 1) := by rw [Nat.mul_add, Nat.mul_comm]; omega
            _ ≤ 128 ^ (k + 1) * q := Nat.mul_le_mul_left _ h7
        · rw [hval]; omega
        · simp only [uintR, List.cons_append]
          congr 1
          · apply UInt8.toNat_inj.1
            rw [ofNat_toNat _ (by omega)]
            omega
          · rw [show (x.toNat - 128 + 128 * n) / 128 = n by omega]
/-- What is read was written so. -/
theorem guR_canon {l : List UInt8} {m c : Nat} (h : guR 0 0 l = (m, c, 0)) : m < 18446744073709551616 ∧ c = (uintB m).length ∧ ∃ rest, l = uintB m ++ rest := by
  obtain ⟨j, n, hc, _, _, hn, rfl, rfl, rest, rfl⟩ := guR_inv l 0 0 m c (by omega) h
  have e : 0 + n * 128 ^ 0 = n := by simp
  rw [e, uintB_canon hc, uintR_length]
  exact ⟨by simpa using hn, by omega, rest, rfl⟩
theorem guR_err : ∀ (l : List UInt8) (k acc : Nat), (guR k acc l).2.2 = 0 ∨ (guR k acc l) = (0, 0, 10) ∨ (guR k acc l) = (0, 0, 11) := by
  intro l
  induction l with
  | nil => intro k acc; simp [guR]
  | cons x l ih =>
    intro k acc
    simp only [guR]
    split
    · simp
    · split
      · simp
      · exact ih _ _
/-- Strings, one behind the other. -/
def recsR : Nat → List UInt8 → Option (List (List UInt8) × List UInt8)
  | 0, l => some ([], l)
  | m + 1, l =>
    if (guR 0 0 l).2.2 = 0 ∧ (guR 0 0 l).1 ≤ 1048576 ∧ (guR 0 0 l).1 ≤ (l.drop (guR 0 0 l).2.1).length then
      (recsR m (l.drop ((guR 0 0 l).2.1 + (guR 0 0 l).1))).map fun r => ((l.drop (guR 0 0 l).2.1).take (guR 0 0 l).1 :: r.1, r.2)
    else none
/-- What bytes tell: a batch, or none. -/
def parseR (l : List UInt8) : Option (Nat × List (List UInt8)) :=
  if (guR 0 0 l).2.2 = 0 ∧ 1 ≤ (guR 0 0 l).1 ∧ (guR 0 0 l).1 ≤ 1152921504606846976 ∧ l.length ≤ 1048576 then
    if (guR 0 0 (l.drop (guR 0 0 l).2.1)).2.2 = 0 ∧ 1 ≤ (guR 0 0 (l.drop (guR 0 0 l).2.1)).1 ∧ (guR 0 0 (l.drop (guR 0 0 l).2.1)).1 ≤ 1000 then
      match recsR (guR 0 0 (l.drop (guR 0 0 l).2.1)).1 (l.drop ((guR 0 0 l).2.1 + (guR 0 0 (l.drop (guR 0 0 l).2.1)).2.1)) with
      | some (rs, []) => some ((guR 0 0 l).1, rs)
      | _ => none
    else none
  else none
theorem drop_app (a b : List UInt8) : (a ++ b).drop a.length = b := by simp
theorem recsR_blobs (recs : List (List UInt8)) (rest : List UInt8) (h : ∀ r ∈ recs, r.length ≤ 1048576) : recsR recs.length (recs.flatMap blobB ++ rest) = some (recs, rest) := by
  induction recs with
  | nil => rfl
  | cons r recs ih =>
    have hr : r.length ≤ 1048576 := h r (by simp)
    have e : (r :: recs).flatMap blobB ++ rest = uintB r.length ++ (r ++ (recs.flatMap blobB ++ rest)) := by simp [blobB]
    have hg := guR_uintB r.length (by omega) (r ++ (recs.flatMap blobB ++ rest))
    rw [e, List.length_cons]
    unfold recsR
    rw [hg]
    simp only [drop_app]
    rw [if_pos ⟨trivial, hr, by simp⟩, List.take_left, ← List.drop_drop, drop_app, drop_app, ih (fun x hx => h x (by simp [hx]))]
    rfl
theorem recsR_inv : ∀ (m : Nat) (l : List UInt8) (rs : List (List UInt8)) (rest : List UInt8), recsR m l = some (rs, rest) → rs.length = m ∧ l = rs.flatMap blobB ++ rest ∧ ∀ r ∈ rs, r.length ≤ 1048576 := by
  intro m
  induction m with
  | zero => intro l rs rest h; simp [recsR] at h; obtain ⟨rfl, rfl⟩ := h; simp
  | succ m ih =>
    intro l rs rest h
    unfold recsR at h
    obtain ⟨⟨n, c, e⟩, hg⟩ : ∃ g, guR 0 0 l = g := ⟨_, rfl⟩
    rw [hg] at h
    simp only at h
    split at h
    · rename_i hc
      obtain ⟨h0, h1, h2⟩ := hc
      subst h0
      obtain ⟨hn, rfl, t, rfl⟩ := guR_canon hg
      rw [Option.map_eq_some_iff] at h
      obtain ⟨⟨a, b⟩, hr, hab⟩ := h
      simp only [Prod.mk.injEq] at hab
      obtain ⟨rfl, rfl⟩ := hab
      rw [← List.drop_drop, drop_app] at hr
      rw [drop_app] at h2 ⊢
      obtain ⟨h3, h4, h5⟩ := ih _ _ _ hr
      refine ⟨by simp [h3], ?_, ?_⟩
      · have e2 : (t.take n).length = n := by simp; omega
        simp only [List.flatMap_cons, blobB, e2, List.append_assoc]
        rw [← h4, List.take_append_drop]
      · intro r hr
        rcases List.mem_cons.1 hr with rfl | hr
        · simp; omega
        · exact h5 r hr
    · cases h

theorem batch_len (n : Nat) (recs : List (List UInt8)) : ∀ r ∈ recs, r.length ≤ (batchB n recs).length := by
  intro r hr
  unfold batchB
  have : ∀ l : List (List UInt8), r ∈ l → r.length ≤ (l.flatMap blobB).length := by
    intro l
    induction l with
    | nil => intro h; cases h
    | cons a l ih =>
      intro h
      simp only [List.flatMap_cons, List.length_append, blobB]
      rcases List.mem_cons.1 h with rfl | h
      · omega
      · have := ih h; omega
  have := this recs hr
  simp only [List.length_append]
  omega
/-- A batch is read as it was written. -/
theorem parse_batch (n : Nat) (recs : List (List UInt8)) (h1 : 1 ≤ n) (h2 : n ≤ 1152921504606846976) (h3 : 1 ≤ recs.length) (h4 : recs.length ≤ 1000) (h5 : (batchB n recs).length ≤ 1048576) : parseR (batchB n recs) = some (n, recs) := by
  have e : batchB n recs = uintB n ++ (uintB recs.length ++ (recs.flatMap blobB ++ [])) := by simp [batchB]
  have g1 := guR_uintB n (by omega) (uintB recs.length ++ (recs.flatMap blobB ++ []))
  have g2 := guR_uintB recs.length (by omega) (recs.flatMap blobB ++ [])
  have g3 := recsR_blobs recs [] (fun r hr => Nat.le_trans (batch_len n recs r hr) h5)
  have h5' := h5
  rw [e] at h5' ⊢
  unfold parseR
  rw [g1]
  simp only [drop_app]
  rw [g2]
  simp only
  rw [if_pos ⟨trivial, h1, h2, h5'⟩, if_pos ⟨trivial, h3, h4⟩, ← List.drop_drop, drop_app, drop_app, g3]
/-- What tells a batch is what is written of it. -/
theorem parse_inv {l : List UInt8} {n : Nat} {recs : List (List UInt8)} (h : parseR l = some (n, recs)) : l = batchB n recs ∧ 1 ≤ n ∧ n ≤ 1152921504606846976 ∧ 1 ≤ recs.length ∧ recs.length ≤ 1000 ∧ l.length ≤ 1048576 := by
  unfold parseR at h
  obtain ⟨⟨m, c, e⟩, hg⟩ : ∃ g, guR 0 0 l = g := ⟨_, rfl⟩
  rw [hg] at h
  simp only at h
  split at h
  · rename_i hc
    obtain ⟨h0, h1, h2, h3⟩ := hc
    subst h0
    obtain ⟨hn, rfl, t, rfl⟩ := guR_canon hg
    rw [drop_app, ← List.drop_drop, drop_app] at h
    obtain ⟨⟨m2, c2, e2⟩, hg2⟩ : ∃ g, guR 0 0 t = g := ⟨_, rfl⟩
    rw [hg2] at h
    simp only at h
    split at h
    · rename_i hc
      obtain ⟨h0, h4, h5⟩ := hc
      subst h0
      obtain ⟨hn2, rfl, t2, rfl⟩ := guR_canon hg2
      rw [drop_app] at h
      split at h
      · rename_i rs hr
        simp only [Option.some.injEq, Prod.mk.injEq] at h
        obtain ⟨rfl, rfl⟩ := h
        obtain ⟨h6, h7, _⟩ := recsR_inv _ _ _ _ hr
        subst h6
        refine ⟨?_, h1, h2, h4, h5, h3⟩
        rw [h7]; simp [batchB]
      · cases h
    · cases h
  · cases h
theorem batch_head (n : Nat) (recs : List (List UInt8)) (h : 1 ≤ n) : ∃ x r, batchB n recs = x :: r ∧ x ≠ 0 := by
  have hz : ∀ j n, 1 ≤ n → Canon j n → ∃ x r, uintR j n = x :: r ∧ x ≠ 0 := by
    intro j n hn hc
    cases j with
    | zero =>
      have := hc.1
      refine ⟨_, _, rfl, fun h0 => ?_⟩
      have h1 := congrArg UInt8.toNat h0
      rw [ofNat_toNat _ (by omega)] at h1
      simp at h1; omega
    | succ j =>
      refine ⟨_, _, rfl, fun h0 => ?_⟩
      have h1 := congrArg UInt8.toNat h0
      rw [ofNat_toNat _ (by omega)] at h1
      simp at h1
  obtain ⟨x, r, e, hx⟩ := hz _ n h (canon_log2 n)
  refine ⟨x, r ++ (uintB recs.length ++ recs.flatMap blobB), ?_, hx⟩
  unfold batchB uintB
  rw [e]; simp [uintB]
end Go.Proofs.YtohpgipgfmkflaaGreatDoor
namespace Go.Proofs.YtohpgipgfmkflaaGreatDoor
set_option linter.unusedSectionVars false
variable [Base]
set_option linter.unusedVariables false
set_option linter.unusedSimpArgs false

/-! A disk's files as a table. -/
theorem eqB_iff (a b : ByteArray) : eqB a b = true ↔ a = b := by
  unfold eqB
  rw [beq_iff_eq, ByteArray.toList_eq, ByteArray.toList_eq]
  exact ⟨fun h => ByteArray.ext (Array.toList_inj.1 h), fun h => by rw [h]⟩
/-- The file of a name, if there is one. -/
def fileOf (fs : List File) (nm : ByteArray) : Option File := if hasF fs nm then fs[fidx fs nm]? else none
abbrev SortedF (fs : List File) : Prop := fs.Pairwise fun f g => ltB f.name g.name = true
theorem fileOf_none {fs : List File} {nm : ByteArray} : fileOf fs nm = none ↔ hasF fs nm = false := by
  unfold fileOf
  cases h : hasF fs nm with
  | false => simp
  | true => simp [hasF_lt h]
theorem fileOf_some {fs : List File} {nm : ByteArray} {f : File} (h : fileOf fs nm = some f) : hasF fs nm = true ∧ fs[fidx fs nm]? = some f ∧ f.name = nm := by
  unfold fileOf at h
  split at h
  · rename_i hh
    refine ⟨hh, h, ?_⟩
    unfold hasF at hh
    rw [h] at hh
    exact (eqB_iff _ _).1 hh
  · cases h
theorem fileOf_mem {fs : List File} {nm : ByteArray} {f : File} (h : fileOf fs nm = some f) : f ∈ fs := List.mem_of_getElem? (fileOf_some h).2.1
theorem fidx_at {fs : List File} (hs : SortedF fs) {i : Nat} {f : File} (h : fs[i]? = some f) : fidx fs f.name = i := by
  unfold fidx
  refine takeWhile_stop _ _ _ (fun j x hj hx => ?_) (fun x hx => ?_) (by have := (List.getElem?_eq_some_iff.1 h).1; omega)
  · have hi := (List.getElem?_eq_some_iff.1 h)
    have hjl := (List.getElem?_eq_some_iff.1 hx)
    have := List.pairwise_iff_getElem.1 hs j i hjl.1 hi.1 hj
    rw [hi.2, hjl.2] at this
    exact this
  · rw [h] at hx; injection hx with hx; subst hx; exact ltB_irrefl _
theorem fileOf_at {fs : List File} (hs : SortedF fs) {i : Nat} {f : File} (h : fs[i]? = some f) : fileOf fs f.name = some f := by
  have hi := fidx_at hs h
  unfold fileOf hasF
  rw [hi, h]
  simp [(eqB_iff f.name f.name).2 rfl]
/-- In a sorted list each file is told by its name. -/
theorem fileOf_iff {fs : List File} (hs : SortedF fs) {nm : ByteArray} {f : File} : fileOf fs nm = some f ↔ f ∈ fs ∧ f.name = nm := by
  refine ⟨fun h => ⟨fileOf_mem h, (fileOf_some h).2.2⟩, fun ⟨hm, hn⟩ => ?_⟩
  obtain ⟨i, hi⟩ := List.getElem?_of_mem hm
  subst hn
  exact fileOf_at hs hi
theorem fileOf_ext {fs gs : List File} (hs : SortedF fs) (hg : SortedF gs) {nm nm' : ByteArray} (h : ∀ f, (f ∈ fs ∧ f.name = nm) ↔ (f ∈ gs ∧ f.name = nm')) : fileOf fs nm = fileOf gs nm' := by
  cases h1 : fileOf fs nm with
  | none =>
    cases h2 : fileOf gs nm' with
    | none => rfl
    | some g =>
      have := (fileOf_iff hs).2 ((h g).2 ((fileOf_iff hg).1 h2))
      rw [h1] at this; cases this
  | some f => exact ((fileOf_iff hg).2 ((h f).1 ((fileOf_iff hs).1 h1))).symm
theorem fileOf_modify {fs : List File} (hs : SortedF fs) (nm nm' : ByteArray) (F : File → File) (hF : ∀ f, (F f).name = f.name) (hh : hasF fs nm = true) :
    SortedF (fs.modify (fidx fs nm) F) ∧ fileOf (fs.modify (fidx fs nm) F) nm' = if nm' = nm then (fileOf fs nm).map F else fileOf fs nm' := by
  have hlt := hasF_lt hh
  have hsm := set_modify hlt F
  have hs2 : SortedF (fs.modify (fidx fs nm) F) := by rw [hsm]; exact sorted_set hs _ _ hlt (hF _)
  refine ⟨hs2, ?_⟩
  obtain ⟨f0, hf0⟩ : ∃ f0, fileOf fs nm = some f0 := by
    cases h : fileOf fs nm with
    | none => rw [fileOf_none.1 h] at hh; cases hh
    | some f => exact ⟨f, rfl⟩
  have h0 := (fileOf_some hf0).2
  split
  · rename_i e
    subst e
    rw [hf0, Option.map_some]
    have := fileOf_at hs2 (i := fidx fs nm') (f := F f0) (by rw [List.getElem?_modify_eq, h0.1]; rfl)
    rw [hF, h0.2] at this
    exact this
  · rename_i hne
    apply fileOf_ext hs2 hs
    intro f
    refine and_congr_left fun hfn => ⟨fun hm => ?_, fun hm => ?_⟩
    · obtain ⟨i, hi⟩ := List.getElem?_of_mem hm
      rw [List.getElem?_modify] at hi
      split at hi
      · rename_i e
        subst e
        rw [h0.1] at hi
        simp at hi
        subst hi
        exact absurd (hfn.symm.trans ((hF _).trans h0.2)) hne
      · simp at hi; exact List.mem_of_getElem? hi
    · obtain ⟨i, hi⟩ := List.getElem?_of_mem hm
      refine List.mem_of_getElem? (i := i) ?_
      rw [List.getElem?_modify]
      split
      · rename_i e
        subst e
        rw [h0.1] at hi
        injection hi with hi
        subst hi
        exact absurd (hfn.symm.trans h0.2) hne
      · simpa using hi
theorem fileOf_insert {fs : List File} (hs : SortedF fs) (x : File) (nm' : ByteArray) (hh : hasF fs x.name = false) :
    SortedF (fs.insertIdx (fidx fs x.name) x) ∧ fileOf (fs.insertIdx (fidx fs x.name) x) nm' = if nm' = x.name then some x else fileOf fs nm' := by
  have hs2 := sorted_insert hs x hh
  have hle := fidx_le fs x.name
  refine ⟨hs2, ?_⟩
  split
  · rename_i e
    subst e
    exact (fileOf_iff hs2).2 ⟨(List.mem_insertIdx hle).2 (.inl rfl), rfl⟩
  · rename_i hne
    apply fileOf_ext hs2 hs
    intro f
    refine and_congr_left fun hfn => ?_
    rw [List.mem_insertIdx hle]
    refine ⟨fun h => h.elim (fun e => absurd (hfn.symm.trans (by rw [e])) hne) id, .inr⟩
theorem fileOf_erase {fs : List File} (hs : SortedF fs) (nm nm' : ByteArray) (hh : hasF fs nm = true) :
    SortedF (fs.eraseIdx (fidx fs nm)) ∧ fileOf (fs.eraseIdx (fidx fs nm)) nm' = if nm' = nm then none else fileOf fs nm' := by
  have hs2 : SortedF (fs.eraseIdx (fidx fs nm)) := hs.sublist (List.eraseIdx_sublist _ _)
  refine ⟨hs2, ?_⟩
  obtain ⟨f0, hf0⟩ : ∃ f0, fileOf fs nm = some f0 := by
    cases h : fileOf fs nm with
    | none => rw [fileOf_none.1 h] at hh; cases hh
    | some f => exact ⟨f, rfl⟩
  have h0 := (fileOf_some hf0).2
  have hin : ∀ f, f ∈ fs.eraseIdx (fidx fs nm) → f ∈ fs ∧ f.name ≠ nm := by
    intro f hm
    refine ⟨(List.eraseIdx_sublist _ _).subset hm, fun e => ?_⟩
    obtain ⟨i, hi⟩ := List.getElem?_of_mem hm
    rw [List.getElem?_eraseIdx] at hi
    split at hi
    · rename_i h; have := fidx_at hs hi; rw [e] at this; omega
    · rename_i h; have := fidx_at hs hi; rw [e] at this; omega
  split
  · rename_i e
    subst e
    cases h : fileOf (fs.eraseIdx (fidx fs nm')) nm' with
    | none => rfl
    | some f => have := (fileOf_iff hs2).1 h; exact absurd this.2 (hin f this.1).2
  · rename_i hne
    apply fileOf_ext hs2 hs
    intro f
    refine and_congr_left fun hfn => ⟨fun hm => (hin f hm).1, fun hm => ?_⟩
    obtain ⟨i, hi⟩ := List.getElem?_of_mem hm
    have hi2 := fidx_at hs hi
    have hne2 : i ≠ fidx fs nm := by
      intro e
      rw [e, h0.1] at hi
      injection hi with hi
      subst hi
      exact hne (hfn.symm.trans h0.2)
    rcases Nat.lt_or_ge i (fidx fs nm) with h | h
    · exact List.mem_of_getElem? (i := i) (by rw [List.getElem?_eraseIdx, if_pos h]; exact hi)
    · exact List.mem_of_getElem? (i := i - 1) (by rw [List.getElem?_eraseIdx, if_neg (by omega), show i - 1 + 1 = i by omega]; exact hi)
theorem getF_fileOf (fs : List File) (nm : ByteArray) : getF fs nm = (fileOf fs nm).getD ⟨⟨#[]⟩, [], 0⟩ := by
  unfold getF fileOf
  split
  · rw [List.getD_eq_getElem?_getD]
  · rfl
theorem hasF_fileOf (fs : List File) (nm : ByteArray) : hasF fs nm = (fileOf fs nm).isSome := by
  cases h : fileOf fs nm with
  | none => exact fileOf_none.1 h
  | some f => exact (fileOf_some h).1
end Go.Proofs.YtohpgipgfmkflaaGreatDoor
namespace Go.Proofs.YtohpgipgfmkflaaGreatDoor
set_option linter.unusedSectionVars false
variable [Base]
set_option linter.unusedVariables false
set_option linter.unusedSimpArgs false

theorem parseU_app (l : List UInt8) (c : UInt8) : ∀ acc a, Lib.parseUint10 acc l = .ok a → Lib.parseUint10 acc (l ++ [c]) = Lib.parseUint10 a [c] := by
  induction l with
  | nil => intro acc a h; simp only [Lib.parseUint10, Lib.NumEnd.ok.injEq] at h; subst h; rfl
  | cons x l ih =>
    intro acc a h
    simp only [List.cons_append, Lib.parseUint10] at h ⊢
    split at h
    · rename_i h1
      rw [if_pos h1]
      split at h
      · cases h
      · rename_i h2
        rw [if_neg h2]
        split at h
        · cases h
        · rename_i h3
          rw [if_neg h3]
          exact ih _ _ h
    · cases h
theorem parseU_dec (u : Nat) (h : u < 18446744073709551616) : Lib.parseUint10 0 (Lib.decDigits u) = .ok u := by
  induction u using Nat.strongRecOn with
  | _ u ih =>
    have hd : ∀ d, d < 10 → (UInt8.ofNat (48 + d)).toNat = 48 + d := fun d hd => ofNat_toNat _ (by omega)
    rw [Lib.decDigits]
    split
    · rename_i h1
      have e := hd u h1
      simp only [Lib.parseUint10, e]
      rw [if_pos (by omega), if_neg (by omega), if_neg (by omega)]
      congr 1
      omega
    · rename_i h1
      have e := hd (u % 10) (by omega)
      rw [parseU_app _ _ _ _ (ih (u / 10) (by omega) (by omega))]
      simp only [Lib.parseUint10, e]
      rw [if_pos (by omega), if_neg (by omega), if_neg (by omega)]
      congr 1
      omega
theorem dec_digit (u : Nat) : ∀ c ∈ Lib.decDigits u, 48 ≤ c.toNat ∧ c.toNat ≤ 57 := by
  induction u using Nat.strongRecOn with
  | _ u ih =>
    have hd : ∀ d, d < 10 → (UInt8.ofNat (48 + d)).toNat = 48 + d := fun d hd => ofNat_toNat _ (by omega)
    rw [Lib.decDigits]
    split
    · rename_i h1
      intro c hc
      rw [List.mem_singleton.1 hc, hd u h1]; omega
    · rename_i h1
      intro c hc
      rcases List.mem_append.1 hc with hc | hc
      · exact ih _ (by omega) c hc
      · rw [List.mem_singleton.1 hc, hd _ (by omega)]; omega
theorem dec_ne (u : Nat) : Lib.decDigits u ≠ [] := by
  rw [Lib.decDigits]
  split <;> simp
theorem atoi_dec (u : Nat) (h : u < 9223372036854775808) : Lib.atoiAll (Lib.decDigits u) = .ok (u : Int) := by
  have h1 := parseU_dec u (by omega)
  have h2 := dec_digit u
  have h3 := dec_ne u
  obtain ⟨l, hl⟩ : ∃ l, Lib.decDigits u = l := ⟨_, rfl⟩
  rw [hl] at h1 h2 h3 ⊢
  cases l with
  | nil => exact absurd rfl h3
  | cons c r =>
    have hc := h2 c (by simp)
    unfold Lib.atoiAll
    simp only
    rw [if_neg (by omega)]
    unfold Lib.parseMag
    rw [if_neg h3, h1]
    simp only
    rw [if_neg (by omega), if_neg (by omega), if_neg (by omega)]
theorem atoi_itoa (n : Int) (h0 : 0 ≤ n) (h : n ≤ 9223372036854775807) : Lib.atoiAll (Lib.itoa n) = .ok n := by
  obtain ⟨u, rfl⟩ := Int.eq_ofNat_of_zero_le h0
  unfold Lib.itoa
  rw [if_neg (by omega), Int.toNat_natCast]
  exact atoi_dec u (by omega)
/-- What a name tells. -/
def firstR (l : List UInt8) : Int × Bool :=
  if l.head? = some 119 then match Lib.atoiAll l.tail with
    | .ok v => if nameL v = l then (v, true) else (0, false)
    | _ => (0, false)
  else (0, false)
theorem nameL_pos {n : Int} (h1 : 1 ≤ n) (h2 : n ≤ 1152921504606846976) : nameL n = 119 :: Lib.itoa n := by unfold nameL; rw [if_neg (by omega)]
theorem first_name {n : Int} (h1 : 1 ≤ n) (h2 : n ≤ 1152921504606846976) : firstR (nameL n) = (n, true) := by
  unfold firstR
  have e := nameL_pos h1 h2
  rw [e]
  simp only [List.head?_cons, if_true, List.tail_cons]
  rw [atoi_itoa n (by omega) (by omega)]
  simp only
  rw [if_pos e]
theorem first_inv {l : List UInt8} {v : Int} (h : firstR l = (v, true)) : 1 ≤ v ∧ v ≤ 1152921504606846976 ∧ l = nameL v := by
  unfold firstR at h
  split at h
  · rename_i hh
    split at h
    · rename_i u _
      split at h
      · rename_i e
        simp only [Prod.mk.injEq, and_true] at h
        subst h
        refine ⟨?_, ?_, e.symm⟩
        · rw [← e] at hh
          unfold nameL at hh
          split at hh
          · cases hh
          · omega
        · rw [← e] at hh
          unfold nameL at hh
          split at hh
          · cases hh
          · omega
      · cases h
    · cases h
  · cases h
theorem first_no {l : List UInt8} (h : (firstR l).2 = false) : firstR l = (0, false) := by
  unfold firstR at h ⊢
  split
  · rename_i h1
    rw [if_pos h1] at h
    split
    · rename_i u e
      rw [e] at h
      simp only at h
      split
      · rename_i h2; rw [if_pos h2] at h; cases h
      · rfl
    · rfl
  · rfl
theorem nameL_inj {n m : Int} (h1 : 1 ≤ n) (h2 : n ≤ 1152921504606846976) (h3 : 1 ≤ m) (h4 : m ≤ 1152921504606846976) (h : nameL n = nameL m) : n = m := by
  have a := first_name h1 h2
  have b := first_name h3 h4
  rw [h, b] at a
  injection a with a _
  exact a.symm
end Go.Proofs.YtohpgipgfmkflaaGreatDoor
namespace Go.Proofs.YtohpgipgfmkflaaGreatDoor
set_option linter.unusedSectionVars false
variable [Base]
set_option linter.unusedVariables false
set_option linter.unusedSimpArgs false

theorem nameB_inj {n m : Nat} (h1 : 1 ≤ n) (h2 : n ≤ 1152921504606846976) (h3 : 1 ≤ m) (h4 : m ≤ 1152921504606846976) (h : nameB (n : Int) = nameB (m : Int)) : n = m := by
  unfold nameB at h
  injection h with h
  have h := congrArg Array.toList h
  have := nameL_inj (n := (n : Int)) (m := (m : Int)) (by omega) (by omega) (by omega) (by omega) (by simpa using h)
  omega
theorem nameB_named {n : Nat} (h1 : 1 ≤ n) (h2 : n ≤ 1152921504606846976) : namedB (nameB (n : Int)) = true := by
  have e := nameL_pos (n := (n : Int)) (by omega) (by omega)
  have hl := Lib.itoa_length_le (n : Int) (by omega) (by omega)
  have hd : Lib.itoa (n : Int) = Lib.decDigits n := by unfold Lib.itoa; rw [if_neg (by omega), Int.toNat_natCast]
  unfold namedB nameB
  rw [e]
  simp only [Bool.and_eq_true, decide_eq_true_eq]
  refine ⟨⟨?_, ?_⟩, ?_⟩
  · rw [List.all_eq_true]
    intro c hc
    simp only [List.mem_cons] at hc
    rcases hc with rfl | hc
    · decide
    · rw [hd] at hc
      have := dec_digit n c hc
      unfold dirB
      simp only [Bool.or_eq_true, Bool.and_eq_true, decide_eq_true_eq]
      exact .inl (.inl (.inr this))
  · show 0 < (119 :: Lib.itoa (n : Int)).toArray.size
    simp
  · show (119 :: Lib.itoa (n : Int)).toArray.size ≤ 60
    simp; omega
theorem namedB_nil : namedB ⟨#[]⟩ = false := by decide

/-! Deeds on a disk that is lit and has no fuse. -/
structure Lit (D : DState) : Prop where
  dark : D.dark = false
  fuse : D.fuse = -1
  sorted : SortedF D.files
def DState.withF (D : DState) (fs : List File) : DState := { D with files := fs }
theorem deed_lit {D : DState} (h : Lit D) (F : List File → List File) : D.deed F = (D.withF (F D.files), 0) := by
  unfold DState.deed DState.withF
  rw [h.fuse, if_neg (by omega), if_neg (by omega)]
theorem Lit.withF {D : DState} (h : Lit D) {fs : List File} (hs : SortedF fs) : Lit (D.withF fs) := ⟨h.dark, h.fuse, hs⟩
theorem addF_table {fs : List File} (hs : SortedF fs) (nm : ByteArray) (l : List UInt8) : SortedF (addF nm l fs) ∧
    (∀ nm', fileOf (addF nm l fs) nm' = if nm' = nm then some { name := nm, b := (getF fs nm).b ++ l, safe := (getF fs nm).safe } else fileOf fs nm') ∧
    (addF nm l fs).length = (if hasF fs nm then fs.length else fs.length + 1) ∧ usedF (addF nm l fs) = usedF fs + l.length := by
  unfold addF
  cases h : hasF fs nm with
  | true =>
    simp only [if_true]
    have hlt := hasF_lt h
    obtain ⟨f0, hf0⟩ : ∃ f0, fileOf fs nm = some f0 := by
      cases h2 : fileOf fs nm with
      | none => rw [fileOf_none.1 h2] at h; cases h
      | some f => exact ⟨f, rfl⟩
    have hm := fun nm' => fileOf_modify hs nm nm' (fun f => { f with b := f.b ++ l }) (fun _ => rfl) h
    refine ⟨(hm nm).1, fun nm' => ?_, by simp, ?_⟩
    · rw [(hm nm').2, hf0, getF_fileOf, hf0]
      split
      · have := (fileOf_some hf0).2.2
        subst this
        rfl
      · rfl
    · rw [set_modify hlt]
      have := usedF_set fs (fidx fs nm) { fs[fidx fs nm] with b := fs[fidx fs nm].b ++ l } hlt
      simp only [List.length_append] at this
      omega
  | false =>
    simp only [Bool.false_eq_true, if_false]
    have hle := fidx_le fs nm
    have hm := fun nm' => fileOf_insert hs ⟨nm, l, 0⟩ nm' h
    have hg : getF fs nm = ⟨⟨#[]⟩, [], 0⟩ := by rw [getF_fileOf, fileOf_none.2 h]; rfl
    refine ⟨(hm nm).1, fun nm' => ?_, by rw [List.length_insertIdx]; simp [hle], ?_⟩
    · rw [(hm nm').2, hg]; rfl
    · rw [usedF_insert fs _ _ hle]
theorem append_lit {D : DState} (h : Lit D) {nm : ByteArray} {l : List UInt8} (hn : namedB nm = true) (hr : usedF D.files + l.length ≤ D.room) (hf : hasF D.files nm = true ∨ D.files.length < 200) :
    D.append nm l = (D.withF (addF nm l D.files), 0) := by
  unfold DState.append
  rw [h.dark, hn, if_neg (by simp), if_neg (by simp), if_neg, deed_lit h]
  rintro (h1 | ⟨h1, h2⟩)
  · omega
  · rcases hf with hf | hf
    · rw [hf] at h1; cases h1
    · omega
theorem syncF_table {fs : List File} (hs : SortedF fs) (nm : ByteArray) (h : hasF fs nm = true) : SortedF (syncF nm fs) ∧
    (∀ nm', fileOf (syncF nm fs) nm' = if nm' = nm then some { name := nm, b := (getF fs nm).b, safe := (getF fs nm).b.length } else fileOf fs nm') ∧
    (syncF nm fs).length = fs.length ∧ usedF (syncF nm fs) = usedF fs := by
  unfold syncF
  have hlt := hasF_lt h
  obtain ⟨f0, hf0⟩ : ∃ f0, fileOf fs nm = some f0 := by
    cases h2 : fileOf fs nm with
    | none => rw [fileOf_none.1 h2] at h; cases h
    | some f => exact ⟨f, rfl⟩
  have hm := fun nm' => fileOf_modify hs nm nm' (fun f => { f with safe := f.b.length }) (fun _ => rfl) h
  refine ⟨(hm nm).1, fun nm' => ?_, by simp, ?_⟩
  · rw [(hm nm').2, hf0, getF_fileOf, hf0]
    split
    · have := (fileOf_some hf0).2.2
      subst this
      rfl
    · rfl
  · rw [set_modify hlt]
    have := usedF_set fs (fidx fs nm) { fs[fidx fs nm] with safe := fs[fidx fs nm].b.length } hlt
    simp only at this
    omega
theorem sync_lit {D : DState} (h : Lit D) {nm : ByteArray} (hf : hasF D.files nm = true) : D.sync nm = (D.withF (syncF nm D.files), 0) := by
  unfold DState.sync
  rw [h.dark, hf, if_neg (by simp), if_neg (by simp), deed_lit h]
theorem remF_table {fs : List File} (hs : SortedF fs) (nm : ByteArray) (h : hasF fs nm = true) : SortedF (remF nm fs) ∧
    (∀ nm', fileOf (remF nm fs) nm' = if nm' = nm then none else fileOf fs nm') ∧ (remF nm fs).length + 1 = fs.length ∧ usedF (remF nm fs) ≤ usedF fs := by
  unfold remF
  have hlt := hasF_lt h
  refine ⟨(fileOf_erase hs nm nm h).1, fun nm' => (fileOf_erase hs nm nm' h).2, ?_, usedF_erase_le _ _⟩
  rw [List.length_eraseIdx, if_pos hlt]
  omega
theorem remove_lit {D : DState} (h : Lit D) {nm : ByteArray} (hf : hasF D.files nm = true) : D.remove nm = (D.withF (remF nm D.files), 0) := by
  unfold DState.remove
  rw [h.dark, hf, if_neg (by simp), if_neg (by simp), deed_lit h]

/-! Segments -/
/-- A segment: its number, its batches' records. -/
structure Seg where
  first : Nat
  recs : List (List (List UInt8))
def framesB : Nat → List (List (List UInt8)) → List UInt8
  | _, [] => []
  | n, r :: rs => frameB (batchB n r) ++ framesB (n + 1) rs
def Seg.bytes (s : Seg) : List UInt8 := headB s.first ++ framesB s.first s.recs
theorem framesB_snoc (n : Nat) (rs : List (List (List UInt8))) (r : List (List UInt8)) : framesB n (rs ++ [r]) = framesB n rs ++ frameB (batchB (n + rs.length) r) := by
  induction rs generalizing n with
  | nil => simp [framesB]
  | cons a rs ih =>
    simp only [List.cons_append, framesB, List.length_cons]
    rw [ih, List.append_assoc, show n + 1 + rs.length = n + (rs.length + 1) by omega]
/-- Segments that go on, one behind the other. -/
def Chain : Nat → List Seg → Nat → Prop
  | a, [], b => a = b
  | a, s :: ss, b => s.first = a ∧ s.recs ≠ [] ∧ Chain (a + s.recs.length) ss b
theorem Chain.snoc {a b : Nat} {pre : List Seg} {s : Seg} : Chain a (pre ++ [s]) b ↔ Chain a pre s.first ∧ s.recs ≠ [] ∧ s.first + s.recs.length = b := by
  induction pre generalizing a with
  | nil =>
    simp only [List.nil_append, Chain]
    constructor
    · rintro ⟨h1, h2, h3⟩; exact ⟨h1.symm, h2, by omega⟩
    · rintro ⟨h1, h2, h3⟩; exact ⟨h1.symm, h2, by omega⟩
  | cons p pre ih =>
    simp only [List.cons_append, Chain]
    rw [ih]
    constructor
    · rintro ⟨h1, h2, h3, h4, h5⟩; exact ⟨⟨h1, h2, h3⟩, h4, h5⟩
    · rintro ⟨⟨h1, h2, h3⟩, h4, h5⟩; exact ⟨h1, h2, h3, h4, h5⟩
theorem Chain.le {a b : Nat} {segs : List Seg} (h : Chain a segs b) : a ≤ b := by
  induction segs generalizing a with
  | nil => exact Nat.le_of_eq h
  | cons s ss ih => have := ih h.2.2; omega
theorem Chain.lt {a b : Nat} {segs : List Seg} (h : Chain a segs b) : ∀ s ∈ segs, a ≤ s.first ∧ s.first + s.recs.length ≤ b ∧ s.first < b := by
  induction segs generalizing a with
  | nil => intro s hs; cases hs
  | cons t ss ih =>
    obtain ⟨h1, h2, h3⟩ := h
    have hp := List.length_pos_iff.2 h2
    intro s hs
    rcases List.mem_cons.1 hs with rfl | hs
    · have := h3.le; omega
    · have := ih h3 s hs; omega
structure SmallR (r : List (List UInt8)) : Prop where
  pos : 1 ≤ r.length
  len : r.length ≤ 20
  each : ∀ x ∈ r, x.length ≤ 60
theorem blobs_len (r : List (List UInt8)) (h : ∀ x ∈ r, x.length ≤ 60) : (r.flatMap blobB).length ≤ r.length * 70 := by
  induction r with
  | nil => simp
  | cons a r ih =>
    have h1 := ih (fun x hx => h x (by simp [hx]))
    have h2 := h a (by simp)
    have h3 := uintB_le a.length (by omega)
    simp only [List.flatMap_cons, List.length_append, List.length_cons, blobB]
    omega
theorem batch_small {n : Nat} {r : List (List UInt8)} (h : SmallR r) (hn : n ≤ 1152921504606846976) : (batchB n r).length ≤ 1420 ∧ 1 ≤ (batchB n r).length := by
  have h1 := uintB_le n (by omega)
  have h2 := uintB_le r.length (by have := h.len; omega)
  have h3 := blobs_len r h.each
  have h4 := uintB_pos n
  have := h.len
  unfold batchB
  simp only [List.length_append]
  omega
theorem frame_small {n : Nat} {r : List (List UInt8)} (h : SmallR r) (hn : n ≤ 1152921504606846976) : (frameB (batchB n r)).length ≤ 1435 := by
  have h1 := batch_small h hn
  obtain ⟨b, hb⟩ : ∃ b, batchB n r = b := ⟨_, rfl⟩
  rw [hb] at h1 ⊢
  have h2 := uintB_le b.length (by omega)
  unfold frameB
  simp only [List.length_append, sumB_length, List.length_cons, List.length_nil]
  omega
theorem head_small {n : Nat} (hn : n ≤ 1152921504606846976) : (headB n).length ≤ 26 ∧ 8 ≤ (headB n).length := by
  have h1 := uintB_le n (by omega)
  have h0 := uintB_pos n
  obtain ⟨b, hb⟩ : ∃ b, uintB n = b := ⟨_, rfl⟩
  rw [hb] at h1 h0
  have h2 := uintB_le (0 :: b).length (by simp; omega)
  have h3 := uintB_pos (0 :: b).length
  unfold headB frameB
  rw [hb]
  simp only [List.length_append, sumB_length, List.length_cons, List.length_nil] at h2 h3 ⊢
  omega
theorem bytesR_small {n : Nat} {r : List (List UInt8)} (h : SmallR r) (h1 : 1 ≤ n) (hn : n ≤ 1152921504606846976) : bytesR (n : Int) r = (batchB n r, 0) := by
  have := batch_small h hn
  have h3 := h.pos
  have h4 := h.len
  unfold bytesR
  rw [if_neg (by omega), Int.toNat_natCast, if_neg (by omega)]
theorem putR_small {n : Nat} {r : List (List UInt8)} (h : SmallR r) (hn : n ≤ 1152921504606846976) : putR (batchB n r) = (frameB (batchB n r), 0) := by
  have := batch_small h hn
  unfold putR
  rw [if_neg (by omega), if_neg (by omega)]

/-- The last segment. -/
def fileName (s : Seg) : ByteArray := nameB (s.first : Int)
structure LInv (a : Nat) (L : LState) (D : DState) (segs : List Seg) (k : Nat) : Prop where
  lit : Lit D
  live : L.over = false
  firsts : L.firsts = segs.map (·.first)
  chain : Chain a segs (L.last + 1)
  pos : 1 ≤ a
  top : L.last ≤ 1152921504606846976
  small : ∀ s ∈ segs, ∀ r ∈ s.recs, SmallR r
  files : ∀ s ∈ segs, ∃ f, fileOf D.files (fileName s) = some f ∧ f.b = s.bytes
  synced : ∀ s ∈ segs.dropLast, (getF D.files (fileName s)).safe = s.bytes.length
  acks : L.acked = L.last → ∀ s ∈ segs, (getF D.files (fileName s)).safe = s.bytes.length
  acked : L.acked ≤ L.last
  only : ∀ f ∈ D.files, ∃ s ∈ segs, f.name = fileName s
  count : D.files.length = segs.length
  few : segs.length ≤ k
  used : usedF D.files ≤ k * 1500
  room : D.room = 1048576
section
variable {a k : Nat} {L : LState} {D : DState} {segs : List Seg}
theorem LInv.first_le (h : LInv a L D segs k) : ∀ s ∈ segs, 1 ≤ s.first ∧ s.first ≤ 1152921504606846976 := by
  intro s hs
  have h1 := h.chain.lt s hs
  have := h.pos
  have := h.top
  omega
theorem LInv.has (h : LInv a L D segs k) {s : Seg} (hs : s ∈ segs) : hasF D.files (fileName s) = true := by
  obtain ⟨f, hf, _⟩ := h.files s hs
  exact (fileOf_some hf).1
theorem LInv.getb (h : LInv a L D segs k) {s : Seg} (hs : s ∈ segs) : (getF D.files (fileName s)).b = s.bytes := by
  obtain ⟨f, hf, hb⟩ := h.files s hs
  rw [getF_fileOf, hf]
  exact hb
theorem fileName_ne {s t : Seg} (h : s.first ≠ t.first) (hs : 1 ≤ s.first ∧ s.first ≤ 1152921504606846976) (ht : 1 ≤ t.first ∧ t.first ≤ 1152921504606846976) : fileName s ≠ fileName t :=
  fun e => h (nameB_inj hs.1 hs.2 ht.1 ht.2 e)
theorem fileN_last (pre : List Seg) (s : Seg) : fileN ((pre ++ [s]).map (·.first)) = fileName s := by
  unfold fileN fileName
  simp [List.getLastD_eq_getLast?]
/-- No file there of a number beyond. -/
theorem LInv.fresh (h : LInv a L D segs k) (hl : L.last + 1 ≤ 1152921504606846976) : hasF D.files (nameB ((L.last + 1 : Nat) : Int)) = false := by
  rw [← fileOf_none]
  cases hf : fileOf D.files (nameB ((L.last + 1 : Nat) : Int)) with
  | none => rfl
  | some f =>
    obtain ⟨s, hs, hn⟩ := h.only f (fileOf_mem hf)
    have h1 := (fileOf_some hf).2.2
    have h2 := h.first_le s hs
    have h3 := nameB_inj (by omega) hl h2.1 h2.2 (h1.symm.trans hn)
    have := h.chain.lt s hs
    omega

theorem newfile_table {fs : List File} (hs : SortedF fs) (nm : ByteArray) (hd f : List UInt8) (hn : hasF fs nm = false) : SortedF (addF nm f (addF nm hd fs)) ∧
    (∀ nm', fileOf (addF nm f (addF nm hd fs)) nm' = if nm' = nm then some ⟨nm, hd ++ f, 0⟩ else fileOf fs nm') ∧ hasF (addF nm hd fs) nm = true ∧ (addF nm hd fs).length = fs.length + 1 ∧
    (addF nm f (addF nm hd fs)).length = fs.length + 1 ∧ usedF (addF nm hd fs) = usedF fs + hd.length ∧ usedF (addF nm f (addF nm hd fs)) = usedF fs + hd.length + f.length := by
  obtain ⟨h1, h2, h3, h4⟩ := addF_table hs nm hd
  obtain ⟨g1, g2, g3, g4⟩ := addF_table h1 nm f
  have hg : getF fs nm = ⟨⟨#[]⟩, [], 0⟩ := by rw [getF_fileOf, fileOf_none.2 hn]; rfl
  have hf1 : fileOf (addF nm hd fs) nm = some ⟨nm, hd, 0⟩ := by rw [h2, if_pos rfl, hg]; rfl
  have hh : hasF (addF nm hd fs) nm = true := (fileOf_some hf1).1
  have hg1 : getF (addF nm hd fs) nm = ⟨nm, hd, 0⟩ := by rw [getF_fileOf, hf1]; rfl
  rw [hn] at h3
  rw [hh] at g3
  refine ⟨g1, fun nm' => ?_, hh, h3, g3.trans h3, h4, by rw [g4, h4]⟩
  rw [g2, hg1]
  split
  · rfl
  · rename_i hne
    rw [h2, if_neg hne]
theorem only_of {fs gs : List File} (hg : SortedF gs) (hs : SortedF fs) {x : File} {nm : ByteArray} (hx : x ∈ gs) (hne : x.name ≠ nm) (ht : fileOf gs x.name = fileOf fs x.name) : x ∈ fs := by
  have := (fileOf_iff hg).2 ⟨hx, rfl⟩
  rw [ht] at this
  exact fileOf_mem this
/-- A new segment, its first batch. -/
theorem LInv.grow (h : LInv a L D segs k) {r : List (List UInt8)} (hr : SmallR r) (ht : L.last + 1 ≤ 1152921504606846976) {L' : LState} {D' : DState} {fs : List File}
    (hs1 : SortedF fs) (hfs : ∀ s ∈ segs, fileOf fs (fileName s) = some { name := fileName s, b := s.bytes, safe := s.bytes.length }) (honly : ∀ f ∈ fs, ∃ s ∈ segs, f.name = fileName s) (hlen : fs.length = segs.length) (hus : usedF fs = usedF D.files)
    (hD : D' = D.withF (addF (nameB ((L.last + 1 : Nat) : Int)) (frameB (batchB (L.last + 1) r)) (addF (nameB ((L.last + 1 : Nat) : Int)) (headB (L.last + 1)) fs)))
    (hL : L' = { L with acked := L.last, firsts := L.firsts ++ [L.last + 1], last := L.last + 1 }) : LInv a L' D' (segs ++ [⟨L.last + 1, [r]⟩]) (k + 1) := by
  have hfl := h.first_le
  have hnew : hasF fs (nameB ((L.last + 1 : Nat) : Int)) = false := by
    rw [← fileOf_none]
    cases hf : fileOf fs (nameB ((L.last + 1 : Nat) : Int)) with
    | none => rfl
    | some f =>
      obtain ⟨s, hs, hn⟩ := honly f (fileOf_mem hf)
      have h1 := (fileOf_some hf).2.2
      have h2 := hfl s hs
      have h3 := nameB_inj (by omega) ht h2.1 h2.2 (h1.symm.trans hn)
      have := h.chain.lt s hs
      omega
  have hneq : ∀ s ∈ segs, fileName s ≠ nameB ((L.last + 1 : Nat) : Int) := by
    intro s hs e
    have h2 := hfl s hs
    have h3 := nameB_inj h2.1 h2.2 (by omega) ht e
    have := h.chain.lt s hs
    omega
  obtain ⟨t1, t2, t3, t4, t5, t6, t7⟩ := newfile_table hs1 (nameB ((L.last + 1 : Nat) : Int)) (headB (L.last + 1)) (frameB (batchB (L.last + 1) r)) hnew
  have hbytes : (Seg.mk (L.last + 1) [r]).bytes = headB (L.last + 1) ++ frameB (batchB (L.last + 1) r) := by simp [Seg.bytes, framesB]
  have hold : ∀ s ∈ segs, fileOf D'.files (fileName s) = some { name := fileName s, b := s.bytes, safe := s.bytes.length } := by
    intro s hs
    rw [hD]
    show fileOf (addF _ _ (addF _ _ fs)) (fileName s) = _
    rw [t2, if_neg (hneq s hs), hfs s hs]
  have hl1 := head_small (n := L.last + 1) ht
  have hl2 := frame_small hr ht
  subst hL
  refine ⟨by rw [hD]; exact h.lit.withF t1, h.live, ?_, ?_, h.pos, ht, ?_, ?_, ?_, ?_, by simp, ?_, ?_, by simp; exact h.few, ?_, by rw [hD]; exact h.room⟩
  · simp [h.firsts]
  · rw [Chain.snoc]
    exact ⟨h.chain, by simp, by simp⟩
  · intro s hs
    rcases List.mem_append.1 hs with hs | hs
    · exact h.small s hs
    · rw [List.mem_singleton.1 hs]; intro x hx; rw [List.mem_singleton.1 hx]; exact hr
  · intro s hs
    rcases List.mem_append.1 hs with hs | hs
    · exact ⟨_, hold s hs, rfl⟩
    · rw [List.mem_singleton.1 hs, hD]
      refine ⟨⟨nameB ((L.last + 1 : Nat) : Int), headB (L.last + 1) ++ frameB (batchB (L.last + 1) r), 0⟩, ?_, hbytes.symm⟩
      show fileOf (addF _ _ (addF _ _ fs)) (nameB ((L.last + 1 : Nat) : Int)) = _
      rw [t2, if_pos rfl]
  · intro s hs
    rw [List.dropLast_concat] at hs
    rw [getF_fileOf, hold s hs]
    rfl
  · intro e
    exact absurd e (by simp)
  · intro f hf
    rw [hD] at hf
    by_cases hn : f.name = nameB ((L.last + 1 : Nat) : Int)
    · exact ⟨_, List.mem_append_right _ (List.mem_singleton.2 rfl), hn⟩
    · have := only_of t1 hs1 hf hn (by rw [t2, if_neg hn])
      obtain ⟨s, hs, e⟩ := honly f this
      exact ⟨s, List.mem_append_left _ hs, e⟩
  · rw [hD]
    show (addF _ _ (addF _ _ fs)).length = _
    rw [t5, hlen]; simp
  · rw [hD]
    show usedF (addF _ _ (addF _ _ fs)) ≤ _
    rw [t7, hus]
    have := h.used
    omega
def fullS (size : Int) (segs : List Seg) : Bool := match segs.getLast? with
  | none => true
  | some s => decide (size ≤ (s.bytes.length : Int))
def segsPut (size : Int) (segs : List Seg) (n : Nat) (r : List (List UInt8)) : List Seg :=
  if fullS size segs then segs ++ [⟨n, [r]⟩] else match segs.getLast? with
    | none => segs ++ [⟨n, [r]⟩]
    | some s => segs.dropLast ++ [⟨s.first, s.recs ++ [r]⟩]
theorem LInv.full (h : LInv a L D segs k) : L.full D = fullS L.size segs := by
  unfold LState.full fullS
  rcases List.eq_nil_or_concat segs with e | ⟨pre, s, e⟩
  · subst e
    simp [h.firsts]
  · subst e
    rw [h.firsts, List.concat_eq_append, fileN_last, h.getb (by simp)]
    simp
structure PutOk (a : Nat) (L : LState) (D : DState) (segs : List Seg) (k : Nat) (r : List (List UInt8)) (x : WR) : Prop where
  inv : LInv a x.L x.D (segsPut L.size segs (L.last + 1) r) (k + 1)
  n : x.n = (L.last : Int) + 1
  e : x.e = 0
  last : x.L.last = L.last + 1
  size : x.L.size = L.size
  acked : L.acked ≤ x.L.acked
/-- A batch is written. -/
theorem LInv.writes (h : LInv a L D segs k) {r : List (List UInt8)} (hr : SmallR r) (hk : k < 60) (ht : L.last + 1 ≤ 1152921504606846976) : PutOk a L D segs k r (L.writes D r) := by
  have hB := bytesR_small (n := L.last + 1) hr (by omega) ht
  have hP := putR_small (n := L.last + 1) hr ht
  have hhd : headR ((L.last + 1 : Nat) : Int) = (headB (L.last + 1), 0) := by unfold headR; rw [if_neg (by omega), Int.toNat_natCast]
  have hl1 := head_small (n := L.last + 1) ht
  have hl2 := frame_small hr ht
  have hu := h.used
  have hfew := h.few
  have hcount := h.count
  have hroom := h.room
  have hnm := nameB_named (n := L.last + 1) (by omega) ht
  unfold LState.writes
  have hc : ((L.last : Int) + 1) = ((L.last + 1 : Nat) : Int) := by omega
  rw [h.live, if_neg (by simp), hc, hB, if_neg (by simp), h.full]
  simp only [hP]
  cases hfull : fullS L.size segs with
  | true =>
    simp only [if_true]
    -- a new segment
    have key : ∀ D1 fs, nx1 L D = (D1, 0) → D1 = D.withF fs → SortedF fs → (∀ s ∈ segs, fileOf fs (fileName s) = some { name := fileName s, b := s.bytes, safe := s.bytes.length }) → (∀ f ∈ fs, ∃ s ∈ segs, f.name = fileName s) → fs.length = segs.length → usedF fs = usedF D.files →
        PutOk a L D segs k r (if (L.nexts D (L.last + 1)).2.2 ≠ 0 then ⟨(L.nexts D (L.last + 1)).1, (L.nexts D (L.last + 1)).2.1, 0, (L.nexts D (L.last + 1)).2.2⟩
          else if ((L.nexts D (L.last + 1)).1.puts (L.nexts D (L.last + 1)).2.1 (frameB (batchB (L.last + 1) r))).2.2 ≠ 0 then
            ⟨((L.nexts D (L.last + 1)).1.puts (L.nexts D (L.last + 1)).2.1 (frameB (batchB (L.last + 1) r))).1, ((L.nexts D (L.last + 1)).1.puts (L.nexts D (L.last + 1)).2.1 (frameB (batchB (L.last + 1) r))).2.1, 0, ((L.nexts D (L.last + 1)).1.puts (L.nexts D (L.last + 1)).2.1 (frameB (batchB (L.last + 1) r))).2.2⟩
          else ⟨{ ((L.nexts D (L.last + 1)).1.puts (L.nexts D (L.last + 1)).2.1 (frameB (batchB (L.last + 1) r))).1 with last := L.last + 1 }, ((L.nexts D (L.last + 1)).1.puts (L.nexts D (L.last + 1)).2.1 (frameB (batchB (L.last + 1) r))).2.1, ((L.last + 1 : Nat) : Int), 0⟩) := by
      intro D1 fs hx1 hD1 hs1 hfs honly hlen hus
      have hlit : Lit D1 := by rw [hD1]; exact h.lit.withF hs1
      have hnew : hasF fs (nameB ((L.last + 1 : Nat) : Int)) = false := by
        rw [← fileOf_none]
        cases hf : fileOf fs (nameB ((L.last + 1 : Nat) : Int)) with
        | none => rfl
        | some f =>
          obtain ⟨s, hs, hn⟩ := honly f (fileOf_mem hf)
          have h1 := (fileOf_some hf).2.2
          have h2 := h.first_le s hs
          have h3 := nameB_inj (by omega) ht h2.1 h2.2 (h1.symm.trans hn)
          have := h.chain.lt s hs
          omega
      obtain ⟨t1, t2, t3, t4, t5, t6, t7⟩ := newfile_table hs1 (nameB ((L.last + 1 : Nat) : Int)) (headB (L.last + 1)) (frameB (batchB (L.last + 1) r)) hnew
      have hs2 := (addF_table hs1 (nameB ((L.last + 1 : Nat) : Int)) (headB (L.last + 1))).1
      have hx2 : nx2 D1 (L.last + 1) = (D.withF (addF (nameB ((L.last + 1 : Nat) : Int)) (headB (L.last + 1)) fs), 0) := by
        unfold nx2
        rw [hhd, append_lit hlit hnm (by rw [hD1]; show usedF fs + (headB (L.last + 1)).length ≤ D.room; rw [hus, hroom]; omega) (.inr (by rw [hD1]; show fs.length < 200; omega)), hD1]
        rfl
      have hnx : L.nexts D (L.last + 1) = ({ L with acked := L.last, firsts := L.firsts ++ [L.last + 1] }, D.withF (addF (nameB ((L.last + 1 : Nat) : Int)) (headB (L.last + 1)) fs), 0) := by
        unfold LState.nexts
        rw [hx1]
        simp only
        rw [if_neg (by simp), hx2, if_neg (by simp)]
      rw [hnx]
      simp only
      rw [if_neg (by simp)]
      have hfn : fileN (L.firsts ++ [L.last + 1]) = nameB ((L.last + 1 : Nat) : Int) := by unfold fileN; simp [List.getLastD_eq_getLast?]
      have hput : LState.puts { L with acked := L.last, firsts := L.firsts ++ [L.last + 1] } (D.withF (addF (nameB ((L.last + 1 : Nat) : Int)) (headB (L.last + 1)) fs)) (frameB (batchB (L.last + 1) r)) =
          ({ L with acked := L.last, firsts := L.firsts ++ [L.last + 1] }, D.withF (addF (nameB ((L.last + 1 : Nat) : Int)) (frameB (batchB (L.last + 1) r)) (addF (nameB ((L.last + 1 : Nat) : Int)) (headB (L.last + 1)) fs)), 0) := by
        unfold LState.puts
        simp only
        rw [hfn, append_lit (h.lit.withF hs2) hnm (by show usedF (addF _ _ fs) + _ ≤ D.room; rw [t6, hus, hroom]; omega) (.inl t3), if_neg (by simp)]
        rfl
      rw [hput]
      simp only
      rw [if_neg (by simp)]
      refine ⟨?_, by simp, rfl, rfl, rfl, h.acked⟩
      have := h.grow hr ht hs1 hfs honly hlen hus rfl rfl
      unfold segsPut
      rw [hfull, if_pos rfl]
      exact this
    rcases List.eq_nil_or_concat segs with e | ⟨pre, s, e⟩
    · have hnil : L.firsts = [] := by rw [h.firsts, e]; rfl
      exact key D D.files (by unfold nx1; rw [if_pos hnil]) rfl h.lit.sorted (by rw [e]; simp) h.only h.count rfl
    · rw [List.concat_eq_append] at e
      have hne : L.firsts ≠ [] := by rw [h.firsts, e]; simp
      have hmem : s ∈ segs := by rw [e]; simp
      have hfn : fileN L.firsts = fileName s := by rw [h.firsts, e, fileN_last]
      have hhas := h.has hmem
      obtain ⟨t1, t2, t3, t4⟩ := syncF_table h.lit.sorted (fileName s) hhas
      refine key (D.withF (syncF (fileName s) D.files)) (syncF (fileName s) D.files) ?_ rfl t1 ?_ ?_ (t3.trans h.count) t4
      · unfold nx1
        rw [if_neg hne, hfn, sync_lit h.lit hhas]
      · intro x hx
        rw [t2, h.getb hmem]
        split
        · rename_i en
          have : x = s := by
            rw [e] at hx
            rcases List.mem_append.1 hx with hx | hx
            · exfalso
              have h1 := h.first_le x (by rw [e]; simp [hx])
              have h2 := h.first_le s hmem
              have h3 := nameB_inj h1.1 h1.2 h2.1 h2.2 en
              have hch := h.chain
              rw [e, Chain.snoc] at hch
              have := hch.1.lt x hx
              omega
            · exact List.mem_singleton.1 hx
          subst this
          rfl
        · rename_i hne2
          obtain ⟨f, hf, hb⟩ := h.files x hx
          have hxp : x ∈ segs.dropLast := by
            rw [e] at hx ⊢
            rw [List.dropLast_concat]
            rcases List.mem_append.1 hx with hx | hx
            · exact hx
            · rw [List.mem_singleton.1 hx] at hne2; exact absurd rfl hne2
          have hsy := h.synced x hxp
          rw [getF_fileOf, hf] at hsy
          have hn := (fileOf_some hf).2.2
          rw [hf]
          obtain ⟨fn, fb, fsf⟩ := f
          simp only [Option.getD_some] at hsy hb hn
          subst hb; subst hn; rw [hsy]
      · intro f hf
        by_cases hn : f.name = fileName s
        · exact ⟨s, hmem, hn⟩
        · exact h.only f (only_of t1 h.lit.sorted hf hn (by rw [t2, if_neg hn]))
  | false =>
    simp only [Bool.false_eq_true, if_false]
    rw [if_neg (by simp)]
    rcases List.eq_nil_or_concat segs with e | ⟨pre, s, e⟩
    · subst e; simp [fullS] at hfull
    · rw [List.concat_eq_append] at e
      have hmem : s ∈ segs := by rw [e]; simp
      have hfn : fileN L.firsts = fileName s := by rw [h.firsts, e, fileN_last]
      have hhas := h.has hmem
      have hfl := h.first_le s hmem
      obtain ⟨t1, t2, t3, t4⟩ := addF_table h.lit.sorted (fileName s) (frameB (batchB (L.last + 1) r))
      rw [hhas] at t3
      have hput : L.puts D (frameB (batchB (L.last + 1) r)) = (L, D.withF (addF (fileName s) (frameB (batchB (L.last + 1) r)) D.files), 0) := by
        unfold LState.puts
        rw [hfn, append_lit h.lit (nm := fileName s) (nameB_named hfl.1 hfl.2) (by rw [hroom]; omega) (.inl hhas), if_neg (by simp)]
      rw [hput]
      simp only
      rw [if_neg (by simp)]
      refine ⟨?_, by simp, rfl, rfl, rfl, Nat.le_refl _⟩
      have hsp : segsPut L.size segs (L.last + 1) r = pre ++ [⟨s.first, s.recs ++ [r]⟩] := by
        unfold segsPut
        rw [hfull, e]
        simp
      have hch := h.chain
      rw [e, Chain.snoc] at hch
      have hbytes : (Seg.mk s.first (s.recs ++ [r])).bytes = s.bytes ++ frameB (batchB (L.last + 1) r) := by
        simp only [Seg.bytes]
        rw [framesB_snoc, List.append_assoc, hch.2.2]
      have hne2 : ∀ x ∈ pre, fileName x ≠ fileName s := by
        intro x hx en
        have h1 := h.first_le x (by rw [e]; simp [hx])
        have h3 := nameB_inj h1.1 h1.2 hfl.1 hfl.2 en
        have := hch.1.lt x hx
        omega
      have hold : ∀ x ∈ pre, fileOf (addF (fileName s) (frameB (batchB (L.last + 1) r)) D.files) (fileName x) = fileOf D.files (fileName x) := by
        intro x hx
        rw [t2, if_neg (hne2 x hx)]
      rw [hsp]
      refine ⟨h.lit.withF t1, h.live, ?_, ?_, h.pos, ht, ?_, ?_, ?_, ?_, by have := h.acked; show L.acked ≤ L.last + 1; omega, ?_, ?_, ?_, ?_, h.room⟩
      · show L.firsts = _
        rw [h.firsts, e]; simp
      · show Chain a _ (L.last + 1 + 1)
        rw [Chain.snoc]
        refine ⟨hch.1, by simp, ?_⟩
        have := hch.2.2
        simp only [List.length_append, List.length_cons, List.length_nil]
        omega
      · intro x hx
        rcases List.mem_append.1 hx with hx | hx
        · exact h.small x (by rw [e]; simp [hx])
        · rw [List.mem_singleton.1 hx]
          intro y hy
          rcases List.mem_append.1 hy with hy | hy
          · exact h.small s hmem y hy
          · rw [List.mem_singleton.1 hy]; exact hr
      · intro x hx
        rcases List.mem_append.1 hx with hx | hx
        · obtain ⟨f, hf, hb⟩ := h.files x (by rw [e]; simp [hx])
          exact ⟨f, (hold x hx).trans hf, hb⟩
        · rw [List.mem_singleton.1 hx]
          refine ⟨_, by show fileOf (addF _ _ D.files) (fileName s) = _; rw [t2, if_pos rfl], ?_⟩
          rw [hbytes, h.getb hmem]
      · intro x hx
        rw [List.dropLast_concat] at hx
        show (getF (addF _ _ D.files) _).safe = _
        rw [getF_fileOf, hold x hx, ← getF_fileOf]
        exact h.synced x (by rw [e, List.dropLast_concat]; exact hx)
      · intro en
        have := h.acked
        exact absurd en (by show ¬ L.acked = L.last + 1; omega)
      · intro f hf
        by_cases hn : f.name = fileName s
        · exact ⟨_, List.mem_append_right _ (List.mem_singleton.2 rfl), hn⟩
        · obtain ⟨x, hx, en⟩ := h.only f (only_of t1 h.lit.sorted hf hn (by rw [t2, if_neg hn]))
          rw [e] at hx
          rcases List.mem_append.1 hx with hx | hx
          · exact ⟨x, List.mem_append_left _ hx, en⟩
          · rw [List.mem_singleton.1 hx] at en; exact absurd en hn
      · show (addF _ _ D.files).length = _
        rw [t3, if_pos rfl, h.count, e]; simp
      · have := h.few
        rw [e] at this
        simp at this ⊢; omega
      · show usedF (addF _ _ D.files) ≤ _
        rw [t4]; omega
end
end Go.Proofs.YtohpgipgfmkflaaGreatDoor
namespace Go.Proofs.YtohpgipgfmkflaaGreatDoor
set_option linter.unusedSectionVars false
variable [Base]
set_option linter.unusedVariables false
set_option linter.unusedSimpArgs false

section
variable {a k : Nat} {L : LState} {D : DState} {segs : List Seg}
theorem LInv.fresh0 (m last : Nat) (size : Int) (h : last < 1152921504606846976) (hm : m = 1048576) : LInv (last + 1) (LState.new size last) (DState.fresh m) [] 0 := by
  subst hm
  refine ⟨⟨rfl, rfl, List.Pairwise.nil⟩, rfl, rfl, rfl, by omega, by simp [LState.new]; omega, by simp, by simp, by simp, by simp, by simp [LState.new], by simp [DState.fresh], rfl, by simp, by simp [DState.fresh, usedF], rfl⟩
structure SyncOk (a : Nat) (L : LState) (D : DState) (segs : List Seg) (k : Nat) (x : LState × DState × Int) : Prop where
  inv : LInv a x.1 x.2.1 segs k
  e : x.2.2 = 0
  last : x.1.last = L.last
  size : x.1.size = L.size
  acked : x.1.acked = L.last
theorem LInv.syncs (h : LInv a L D segs k) : SyncOk a L D segs k (L.syncs D) := by
  unfold LState.syncs
  rw [h.live, if_neg (by simp)]
  rcases List.eq_nil_or_concat segs with e | ⟨pre, s, e⟩
  · have hnil : L.firsts = [] := by rw [h.firsts, e]; rfl
    rw [if_pos hnil]
    refine ⟨⟨h.lit, rfl, h.firsts, h.chain, h.pos, h.top, h.small, h.files, h.synced, ?_, Nat.le_refl _, h.only, h.count, h.few, h.used, h.room⟩, rfl, rfl, rfl, rfl⟩
    rw [e]; simp
  · rw [List.concat_eq_append] at e
    have hne : L.firsts ≠ [] := by rw [h.firsts, e]; simp
    have hmem : s ∈ segs := by rw [e]; simp
    have hfn : fileN L.firsts = fileName s := by rw [h.firsts, e, fileN_last]
    have hhas := h.has hmem
    obtain ⟨t1, t2, t3, t4⟩ := syncF_table h.lit.sorted (fileName s) hhas
    rw [if_neg hne, hfn, sync_lit h.lit hhas, if_neg (by simp)]
    have hg : ∀ x, getF (syncF (fileName s) D.files) (fileName x) = if fileName x = fileName s then { name := fileName s, b := (getF D.files (fileName s)).b, safe := (getF D.files (fileName s)).b.length } else getF D.files (fileName x) := by
      intro x
      rw [getF_fileOf, t2]
      split
      · rfl
      · rw [getF_fileOf]
    have hnel : ∀ x ∈ segs.dropLast, fileName x ≠ fileName s := by
      intro x hx en
      rw [e, List.dropLast_concat] at hx
      have h1 := h.first_le x (by rw [e]; simp [hx])
      have h2 := h.first_le s hmem
      have h3 := nameB_inj h1.1 h1.2 h2.1 h2.2 en
      have hch := h.chain
      rw [e, Chain.snoc] at hch
      have := hch.1.lt x hx
      omega
    refine ⟨⟨h.lit.withF t1, rfl, h.firsts, h.chain, h.pos, h.top, h.small, ?_, ?_, ?_, Nat.le_refl _, ?_, t3.trans h.count, h.few, by show usedF (syncF _ _) ≤ _; rw [t4]; exact h.used, h.room⟩, rfl, rfl, rfl, rfl⟩
    · intro x hx
      show ∃ f, fileOf (syncF _ _) _ = some f ∧ _
      rw [t2]
      split
      · rename_i en
        refine ⟨_, rfl, ?_⟩
        show (getF D.files (fileName s)).b = _
        rw [← en, h.getb hx]
      · exact h.files x hx
    · intro x hx
      show (getF (syncF _ _) _).safe = _
      rw [hg, if_neg (hnel x hx)]
      exact h.synced x hx
    · intro _ x hx
      show (getF (syncF _ _) _).safe = _
      rw [hg]
      split
      · rename_i en
        show (getF D.files (fileName s)).b.length = _
        rw [← en, h.getb hx]
      · rename_i en
        refine h.synced x ?_
        rw [e] at hx ⊢
        rw [List.dropLast_concat]
        rcases List.mem_append.1 hx with hx | hx
        · exact hx
        · rw [List.mem_singleton.1 hx] at en; exact absurd rfl en
    · intro f hf
      by_cases hn : f.name = fileName s
      · exact ⟨s, hmem, hn⟩
      · exact h.only f (only_of t1 h.lit.sorted hf hn (by rw [t2, if_neg hn]))
end
structure TrimOk (L : LState) (D : DState) (segs : List Seg) (k : Nat) (below : Int) (gone : List ByteArray) (x : LState × DState × List ByteArray × Int) (j a' : Nat) : Prop where
  inv : LInv a' x.1 x.2.1 (segs.drop j) k
  e : x.2.2.2 = 0
  gone : x.2.2.1 = gone ++ (segs.take j).map fileName
  lt : j < segs.length ∨ (j = 0 ∧ segs = [])
  last : x.1.last = L.last
  size : x.1.size = L.size
  low : 0 < j → ∃ s, segs[j]? = some s ∧ (s.first : Int) ≤ below
  stop : ∀ s, segs[j + 1]? = some s → below < (s.first : Int)
theorem LInv.trimR {k : Nat} (below : Int) (segs : List Seg) : ∀ (a : Nat) (L : LState) (D : DState) (gone : List ByteArray), LInv a { L with firsts := segs.map (·.first) } D segs k → ∃ j a', TrimOk L D segs k below gone (trimR below L D gone (segs.map (·.first))) j a' := by
  induction segs with
  | nil => intro a L D gone h; exact ⟨0, a, h, rfl, by simp [Go.Proofs.YtohpgipgfmkflaaGreatDoor.trimR], .inr ⟨rfl, rfl⟩, rfl, rfl, by simp, by simp⟩
  | cons s ss ih =>
    intro a L D gone h
    cases ss with
    | nil => exact ⟨0, a, h, rfl, by simp [Go.Proofs.YtohpgipgfmkflaaGreatDoor.trimR], .inl (by simp), rfl, rfl, by simp, by simp⟩
    | cons t ss =>
      simp only [List.map_cons, Go.Proofs.YtohpgipgfmkflaaGreatDoor.trimR]
      by_cases hb : (t.first : Int) ≤ below
      · rw [if_pos hb]
        have hmem : s ∈ s :: t :: ss := by simp
        have hhas : hasF D.files (nameB (s.first : Int)) = true := h.has hmem
        rw [remove_lit h.lit hhas, if_neg (by simp)]
        obtain ⟨t1, t2, t3, t4⟩ := remF_table h.lit.sorted (nameB (s.first : Int)) hhas
        have hch := h.chain
        obtain ⟨c1, c2, c3⟩ := hch
        have hp := List.length_pos_iff.2 c2
        have hne : ∀ x ∈ t :: ss, fileName x ≠ nameB (s.first : Int) := by
          intro x hx en
          have h1 := h.first_le x (by simp [List.mem_cons.1 hx])
          have h2 := h.first_le s hmem
          have h3 := nameB_inj h1.1 h1.2 h2.1 h2.2 en
          have := c3.lt x hx
          omega
        have hold : ∀ x ∈ t :: ss, fileOf (remF (nameB (s.first : Int)) D.files) (fileName x) = fileOf D.files (fileName x) := fun x hx => by rw [t2, if_neg (hne x hx)]
        have hinv : LInv (a + s.recs.length) { L with firsts := (t :: ss).map (·.first) } (D.withF (remF (nameB (s.first : Int)) D.files)) (t :: ss) k := by
          refine ⟨h.lit.withF t1, h.live, rfl, c3, by have := h.pos; omega, h.top, fun x hx => h.small x (List.mem_cons_of_mem _ hx), ?_, ?_, ?_, h.acked, ?_, ?_, ?_, ?_, h.room⟩
          · intro x hx
            obtain ⟨f, hf, hb⟩ := h.files x (List.mem_cons_of_mem _ hx)
            exact ⟨f, (hold x hx).trans hf, hb⟩
          · intro x hx
            have hxm : x ∈ t :: ss := List.dropLast_subset _ hx
            show (getF (remF _ _) _).safe = _
            rw [getF_fileOf, hold x hxm, ← getF_fileOf]
            exact h.synced x (by simp only [List.dropLast]; exact List.mem_cons_of_mem _ hx)
          · intro e x hx
            show (getF (remF _ _) _).safe = _
            rw [getF_fileOf, hold x hx, ← getF_fileOf]
            exact h.acks e x (List.mem_cons_of_mem _ hx)
          · intro f hf
            have hin : f ∈ D.files := (List.eraseIdx_sublist _ _).subset hf
            obtain ⟨x, hx, en⟩ := h.only f hin
            rcases List.mem_cons.1 hx with rfl | hx
            · exfalso
              have := (fileOf_iff t1).2 ⟨hf, rfl⟩
              rw [t2, if_pos (show f.name = nameB _ from en)] at this
              cases this
            · exact ⟨x, hx, en⟩
          · have := h.count
            show (remF _ _).length = _
            simp only [List.length_cons] at this ⊢
            omega
          · have := h.few
            simp only [List.length_cons] at this ⊢
            omega
          · show usedF (remF _ _) ≤ _
            have := h.used
            omega
        obtain ⟨j, a', hj⟩ := ih (a + s.recs.length) L (D.withF (remF (nameB (s.first : Int)) D.files)) (gone ++ [nameB (s.first : Int)]) hinv
        refine ⟨j + 1, a', hj.inv, hj.e, ?_, ?_, hj.last, hj.size, ?_, ?_⟩
        · have := hj.gone
          simp only [List.map_cons] at this
          rw [this]
          simp [fileName]
        · rcases hj.lt with h1 | ⟨_, h1⟩
          · exact .inl (by simp at h1 ⊢; omega)
          · cases h1
        · intro _
          rcases Nat.eq_zero_or_pos j with h0 | h0
          · subst h0; exact ⟨t, by simp, hb⟩
          · obtain ⟨x, hx, hl⟩ := hj.low h0
            exact ⟨x, by simpa using hx, hl⟩
        · intro x hx
          exact hj.stop x (by simpa using hx)
      · rw [if_neg hb]
        exact ⟨0, a, h, rfl, by simp, .inl (by simp), rfl, rfl, by simp, fun x hx => by simp at hx; subst hx; omega⟩
theorem LInv.trims {a k : Nat} {L : LState} {D : DState} {segs : List Seg} (h : LInv a L D segs k) (below : Int) : ∃ j a', TrimOk L D segs k below [] (L.trims D below) j a' := by
  unfold LState.trims
  rw [h.live, if_neg (by simp), h.firsts]
  exact LInv.trimR below segs a L D [] (by rw [← h.firsts]; exact h)
/-! The batches of segments. -/
def batchesN : Nat → List (List (List UInt8)) → List (Nat × List (List UInt8))
  | _, [] => []
  | n, r :: rs => (n, r) :: batchesN (n + 1) rs
theorem batchesN_append (n : Nat) (rs ss : List (List (List UInt8))) : batchesN n (rs ++ ss) = batchesN n rs ++ batchesN (n + rs.length) ss := by
  induction rs generalizing n with
  | nil => simp [batchesN]
  | cons r rs ih => simp only [List.cons_append, batchesN, List.length_cons]; rw [ih, show n + 1 + rs.length = n + (rs.length + 1) by omega]
theorem batchesN_length (n : Nat) (rs : List (List (List UInt8))) : (batchesN n rs).length = rs.length := by
  induction rs generalizing n with
  | nil => rfl
  | cons r rs ih => simp [batchesN, ih]
def recsOf (segs : List Seg) : List (List (List UInt8)) := segs.flatMap (·.recs)
def batchesOf (segs : List Seg) : List (Nat × List (List UInt8)) := segs.flatMap fun s => batchesN s.first s.recs
theorem Chain.batches {a b : Nat} {segs : List Seg} (h : Chain a segs b) : batchesOf segs = batchesN a (recsOf segs) ∧ b = a + (recsOf segs).length := by
  induction segs generalizing a with
  | nil => exact ⟨rfl, h.symm⟩
  | cons s ss ih =>
    obtain ⟨h1, h2, h3⟩ := h
    obtain ⟨i1, i2⟩ := ih h3
    unfold batchesOf recsOf at *
    simp only [List.flatMap_cons, List.length_append]
    rw [batchesN_append, i1, h1]
    exact ⟨rfl, by omega⟩
theorem recsOf_put (size : Int) (segs : List Seg) (n : Nat) (r : List (List UInt8)) : recsOf (segsPut size segs n r) = recsOf segs ++ [r] := by
  unfold segsPut
  split
  · simp [recsOf]
  · rcases List.eq_nil_or_concat segs with e | ⟨pre, s, e⟩
    · subst e; simp [recsOf]
    · subst e; simp [recsOf]
end Go.Proofs.YtohpgipgfmkflaaGreatDoor
namespace Go.Proofs.YtohpgipgfmkflaaGreatDoor
set_option linter.unusedSectionVars false
variable [Base]
set_option linter.unusedVariables false
set_option linter.unusedSimpArgs false

section
variable {L : LState} {D : DState}
theorem syncs_over (h : L.over = false) : ((L.syncs D).2.2 ≠ 0 ↔ (L.syncs D).1.over = true) ∧ (L.syncs D).1.firsts = L.firsts ∧ (L.syncs D).1.last = L.last := by
  unfold LState.syncs
  rw [h]
  simp only [Bool.false_eq_true, if_false]
  split
  · exact ⟨by simp [h], rfl, rfl⟩
  · split
    · rename_i h1; exact ⟨by simp [LState.ended, h1], rfl, rfl⟩
    · exact ⟨by simp [h], rfl, rfl⟩
theorem nexts_over (f : Nat) (h : L.over = false) : ((L.nexts D f).2.2 ≠ 0 ↔ (L.nexts D f).1.over = true) ∧ (L.nexts D f).1.firsts.length ≤ L.firsts.length + 1 ∧ (L.nexts D f).1.last = L.last := by
  unfold LState.nexts
  split
  · rename_i h1; exact ⟨by simp [LState.ended, h1], by simp [LState.ended], rfl⟩
  · split
    · rename_i h1; exact ⟨by simp [LState.ended, h1], by simp [LState.ended], rfl⟩
    · exact ⟨by simp [h], by simp, rfl⟩
theorem puts_over (f : List UInt8) (h : L.over = false) : ((L.puts D f).2.2 ≠ 0 ↔ (L.puts D f).1.over = true) ∧ (L.puts D f).1.firsts = L.firsts ∧ (L.puts D f).1.last = L.last := by
  unfold LState.puts
  split
  · rename_i h1; exact ⟨by simp [LState.ended, h1], rfl, rfl⟩
  · exact ⟨by simp [h], rfl, rfl⟩
theorem writes_over {r : List (List UInt8)} (h : L.over = false) (hr : SmallR r) (hl : L.last + 1 ≤ 1152921504606846976) :
    ((L.writes D r).e ≠ 0 ↔ (L.writes D r).L.over = true) ∧ (L.writes D r).L.firsts.length ≤ L.firsts.length + 1 ∧ (L.writes D r).L.last ≤ L.last + 1 := by
  have hb := bytesR_small (n := L.last + 1) hr (by omega) hl
  have hc : ((L.last : Int) + 1) = ((L.last + 1 : Nat) : Int) := by omega
  unfold LState.writes
  rw [h, hc, hb]
  simp only [Bool.false_eq_true, if_false, ne_eq, not_true_eq_false]
  have key : ∀ r : LState × DState × Int, ((r.2.2 ≠ 0 ↔ r.1.over = true) ∧ r.1.firsts.length ≤ L.firsts.length + 1 ∧ r.1.last = L.last) →
      ∀ x : WR, x = (if r.2.2 ≠ 0 then (⟨r.1, r.2.1, 0, r.2.2⟩ : WR) else
        if (r.1.puts r.2.1 (putR (batchB (L.last + 1) ‹_›)).1).2.2 ≠ 0 then ⟨(r.1.puts r.2.1 (putR (batchB (L.last + 1) ‹_›)).1).1, (r.1.puts r.2.1 (putR (batchB (L.last + 1) ‹_›)).1).2.1, 0, (r.1.puts r.2.1 (putR (batchB (L.last + 1) ‹_›)).1).2.2⟩
        else ⟨{ (r.1.puts r.2.1 (putR (batchB (L.last + 1) ‹_›)).1).1 with last := L.last + 1 }, (r.1.puts r.2.1 (putR (batchB (L.last + 1) ‹_›)).1).2.1, ((L.last + 1 : Nat) : Int), 0⟩) →
      (x.e ≠ 0 ↔ x.L.over = true) ∧ x.L.firsts.length ≤ L.firsts.length + 1 ∧ x.L.last ≤ L.last + 1 := by
    rintro ⟨L1, D1, e1⟩ ⟨h1, h2, h3⟩ x rfl
    simp only at h1 h2 h3 ⊢
    split
    · rename_i he; exact ⟨⟨fun _ => h1.1 he, fun _ => he⟩, h2, Nat.le_trans (Nat.le_of_eq h3) (Nat.le_succ _)⟩
    · rename_i he
      have hov : L1.over = false := by
        cases ho : L1.over with
        | false => rfl
        | true => exact absurd (h1.2 ho) he
      obtain ⟨p1, p2, p3⟩ := puts_over (D := D1) (putR (batchB (L.last + 1) ‹_›)).1 hov
      split
      · rename_i hp; exact ⟨⟨fun _ => p1.1 hp, fun _ => hp⟩, by rw [p2]; exact h2, Nat.le_trans (Nat.le_of_eq (p3.trans h3)) (Nat.le_succ _)⟩
      · rename_i hp
        refine ⟨⟨fun hx => absurd rfl hx, fun hx => absurd (p1.2 hx) hp⟩, ?_, Nat.le_refl _⟩
        show (L1.puts D1 _).1.firsts.length ≤ _
        rw [p2]; exact h2
  refine key (if L.full D then L.nexts D (L.last + 1) else (L, D, 0)) ?_ _ rfl
  split
  · exact nexts_over _ h
  · exact ⟨by simp [h], by simp, rfl⟩
theorem writes_ended {r : List (List UInt8)} (h : L.over = true) : L.writes D r = ⟨L, D, 0, 17⟩ := by unfold LState.writes; rw [h]; rfl
theorem syncs_ended (h : L.over = true) : L.syncs D = (L, D, 17) := by unfold LState.syncs; rw [h]; rfl
theorem trims_ended (b : Int) (h : L.over = true) : L.trims D b = (L, D, [], 17) := by unfold LState.trims; rw [h]; rfl
end
end Go.Proofs.YtohpgipgfmkflaaGreatDoor
namespace Go.Proofs.YtohpgipgfmkflaaGreatDoor
set_option linter.unusedSectionVars false
variable [Base]
open Go.RowKit
set_option maxRecDepth 100000
set_option linter.unusedVariables false
set_option linter.unusedSimpArgs false
attribute [local go_sem ↓] Go.wp_at_zero Go.wp_at_succ

/-- A number that is read at a place: its value, the place behind it, the error. -/
def getU (l : List UInt8) (at_ : Int) : Nat × Nat × Int :=
  if at_ < 0 ∨ (l.length : Int) < at_ then (0, 0, 2) else if (guR 0 0 (l.drop at_.toNat)).2.2 = 0 then ((guR 0 0 (l.drop at_.toNat)).1, at_.toNat + (guR 0 0 (l.drop at_.toNat)).2.1, 0) else (0, 0, (guR 0 0 (l.drop at_.toNat)).2.2)
def getUV (r : Nat × Nat × Int) : Value := .tuple #[.int .u64 (r.1 : Int), .int .i64 (r.2.1 : Int), .int .i64 r.2.2]
theorem getUint_bad (w : World) (A : Option Addr) (n c : Nat) (at_ : Int) (hn : n ≤ 9223372036854775807) (h : at_ < 0 ∨ (n : Int) < at_) (h2 : at_ ≤ 9223372036854775807) :
    Calls Tryz.prog 97 #[.slice A n c, .int .i64 at_] w fun e w' => e = .returned (.tuple #[.int .u64 0, .int .i64 0, .int .i64 2]) ∧ w = w' := by
  by_cases h1 : at_ < 0
  · have hd1 : decide (at_ < 0) = true := decide_eq_true h1
    go_enter Tryz.func97, Tryz.ntmps97
    go_wp2
    go_ret3
    exact ⟨rfl, rfl⟩
  · have hd1 : decide (at_ < 0) = false := decide_eq_false h1
    have hd2 : decide ((n : Int) < at_) = true := decide_eq_true (by omega)
    clear h h1
    go_enter Tryz.func97, Tryz.ntmps97
    go_wp2
    go_ret3
    exact ⟨rfl, rfl⟩
theorem andNot128 : ∀ y : Fin 256, bits .andNot .u8 (y.val : Int) 128 = ((y.val % 128 : Nat) : Int) := by decide +kernel
theorem or_step {m y k : Nat} (hm : m < 128 ^ k) (hy : y < 256) (hk : k ≤ 9) (h9 : k = 9 → y ≤ 1) :
    bits .or .u64 (m : Int) (IntKind.u64.wrap (IntKind.u64.wrap (bits .andNot .u8 (y : Int) 128) * 2 ^ (7 * k))) = ((m + y % 128 * 128 ^ k : Nat) : Int) := by
  have h1 : bits .andNot .u8 (y : Int) 128 = ((y % 128 : Nat) : Int) := andNot128 ⟨y, hy⟩
  have hp : (128 : Nat) ^ k = 2 ^ (7 * k) := pow7 k
  have hb : y % 128 * 2 ^ (7 * k) < 18446744073709551616 := by
    rcases Nat.lt_or_ge k 9 with h | h
    · have h3 : y % 128 * 2 ^ (7 * k) ≤ 127 * 2 ^ (7 * k) := Nat.mul_le_mul_right _ (by omega)
      have h4 : 2 ^ (7 * k) ≤ 2 ^ 56 := Nat.pow_le_pow_right (by omega) (by omega)
      omega
    · obtain rfl : k = 9 := by omega
      have := h9 rfl
      have h3 : y % 128 * 2 ^ (7 * 9) ≤ 1 * 2 ^ (7 * 9) := Nat.mul_le_mul_right _ (by omega)
      omega
  have hm2 : m < 18446744073709551616 := by
    have : (128 : Nat) ^ k ≤ 128 ^ 9 := Nat.pow_le_pow_right (by omega) hk
    omega
  have e1 : IntKind.u64.wrap ((y % 128 : Nat) : Int) = ((y % 128 : Nat) : Int) := by rw [IntKind.wrap_u64]; omega
  have e2 : ((y % 128 : Nat) : Int) * 2 ^ (7 * k) = ((y % 128 * 2 ^ (7 * k) : Nat) : Int) := by
    rw [Int.natCast_mul, Int.natCast_pow]; rfl
  rw [h1, e1, e2]
  obtain ⟨q, hq⟩ : ∃ q, y % 128 * 2 ^ (7 * k) = q := ⟨_, rfl⟩
  rw [hq] at hb ⊢
  have e3 : IntKind.u64.wrap (q : Int) = (q : Int) := by rw [IntKind.wrap_u64]; omega
  rw [e3, u64_or_nat m q hm2 hb, hp, hq]
  have h5 := Nat.two_pow_add_eq_or_of_lt (i := 7 * k) (b := m) (by rw [← hp]; exact hm) (y % 128)
  rw [Nat.mul_comm, hq] at h5
  rw [Nat.or_comm, ← h5, Nat.add_comm]
theorem getU_at {l : List UInt8} {p : Nat} (h : p ≤ l.length) : getU l (p : Int) = if (guR 0 0 (l.drop p)).2.2 = 0 then ((guR 0 0 (l.drop p)).1, p + (guR 0 0 (l.drop p)).2.1, 0) else (0, 0, (guR 0 0 (l.drop p)).2.2) := by
  unfold getU
  rw [if_neg (by omega), Int.toNat_natCast]
theorem getU_err {l : List UInt8} {p : Nat} (h : p ≤ l.length) {e : Int} (he : e ≠ 0) (hg : guR 0 0 (l.drop p) = (0, 0, e)) : getU l (p : Int) = (0, 0, e) := by
  rw [getU_at h, hg]; simp [he]
theorem getU_ok {l : List UInt8} {p n c : Nat} (h : p ≤ l.length) (hg : guR 0 0 (l.drop p) = (n, c, 0)) : getU l (p : Int) = (n, p + c, 0) := by
  rw [getU_at h, hg]; simp
theorem tup3 {a a' b b' c c' : Value} (h1 : a = a') (h2 : b = b') (h3 : c = c') : Ending.returned (.tuple #[a, b, c]) = .returned (.tuple #[a', b', c']) := by rw [h1, h2, h3]
set_option maxHeartbeats 2000000 in
theorem getUint_some (w : World) (g o c : Nat) (l : List UInt8) (p : Nat) (hp : p < l.length) (hlc : l.length ≤ c) (hc : c ≤ 9223372036854775807) (hcell : ∀ j, j < l.length → w.cell? ⟨g, o + j, none⟩ = some (.int .u8 ((l.getD j 0).toNat : Int))) :
    Calls Tryz.prog 97 #[.slice (some ⟨g, o, none⟩) l.length c, .int .i64 (p : Int)] w fun e w' => e = .returned (getUV (getU l (p : Int))) ∧ w = w' := by
  have HC := Lib.hid hcell
  have hd1 : decide ((p : Int) < 0) = false := decide_eq_false (by omega)
  have hd2 : decide ((l.length : Int) < (p : Int)) = false := decide_eq_false (by omega)
  have hpc : ¬ c = p := by omega
  clear hcell
  go_enter Tryz.func97, Tryz.ntmps97
  go_wp2
  go_loop [7, 23] (fun n i => ∃ k m : Nat, k ≤ 9 ∧ k ≤ l.length - p ∧ i = .int .i64 k ∧ n = .int .u64 (m : Int) ∧ m < 128 ^ k ∧ Hid (guR k m (l.drop (p + k)) = guR 0 0 (l.drop p))) (fun _ i => 10 - (intOf i).toNat)
  case atStart => exact ⟨0, 0, by omega, by omega, rfl, rfl, by simp, Lib.hid rfl⟩
  case round =>
    obtain ⟨k, m, hk9, hk, rfl, rfl, hm, HI⟩ := hrel
    have HM := Lib.hid hm
    clear hm
    by_cases hlt : k < l.length - p
    · have hcel := HC.out (p + k) (by omega)
      have hx1 : (k : Int) < (l.length : Int) - (p : Int) := by omega
      obtain ⟨x, hx⟩ : ∃ x, l.getD (p + k) 0 = x := ⟨_, rfl⟩
      rw [hx] at hcel
      obtain ⟨y, hy⟩ : ∃ y, x.toNat = y := ⟨_, rfl⟩
      have hy2 : y < 256 := by have := x.toNat_lt; omega
      rw [hy] at hcel
      have hdr : l.drop (p + k) = x :: l.drop (p + (k + 1)) := by
        rw [List.drop_eq_getElem_cons (show p + k < l.length by omega), ← hx, Nat.add_assoc]
        simp [List.getD_eq_getElem?_getD, List.getElem?_eq_getElem (show p + k < l.length by omega)]
      have hco : w.cell? ⟨g, o + (p + k), none⟩ = some (.int .u8 (y : Int)) := hcel
      have hcp : w.cell? ⟨g, o + p + k, none⟩ = some (.int .u8 (y : Int)) := by rw [Nat.add_assoc]; exact hcel
      have HY := Lib.hid hy
      have HD := Lib.hid hdr
      clear hx hy hdr hcel
      go_wp2
      all_goals have hI := HI.out
      all_goals rw [HD.out] at hI
      all_goals simp only [guR, HY.out] at hI
      · go_ret3
        have hk : k = 9 := by omega
        rw [if_pos (by omega)] at hI
        rw [getU_err (by omega) (by decide) hI.symm]
        exact ⟨rfl, rfl⟩
      · go_ret3
        have hk : k = 9 := by omega
        subst hk
        rw [if_neg (by omega), if_pos (by omega)] at hI
        rw [getU_ok (by omega) hI.symm]
        refine ⟨tup3 ?_ ?_ rfl, rfl⟩
        · refine congrArg (Value.int .u64) ((or_step HM.out hy2 (Nat.le_refl _) (fun _ => by omega)).trans ?_)
          rw [Nat.mod_eq_of_lt (by omega)]
        · exact congrArg (Value.int .i64) (by dsimp only; omega)
      · go_ret3
        rw [if_pos (by omega)] at hI
        rw [getU_err (by omega) (by decide) hI.symm]
        exact ⟨rfl, rfl⟩
      · go_ret3
        rw [if_pos (by omega)] at hI
        rw [getU_err (by omega) (by decide) hI.symm]
        exact ⟨rfl, rfl⟩
      · go_ret3
        rw [if_neg (by omega), if_pos (by omega)] at hI
        rw [getU_ok (by omega) hI.symm]
        have hk0 : k = 0 := by omega
        subst hk0
        refine ⟨tup3 ?_ ?_ rfl, rfl⟩
        · refine congrArg (Value.int .u64) ((or_step HM.out (show 0 < 256 by omega) (by omega) (fun h => by omega)).trans ?_)
          simp; omega
        · exact congrArg (Value.int .i64) (by dsimp only; omega)
      · go_ret3
        rw [if_neg (by omega), if_pos (by omega)] at hI
        rw [getU_ok (by omega) hI.symm]
        refine ⟨tup3 ?_ ?_ rfl, rfl⟩
        · refine congrArg (Value.int .u64) ((or_step HM.out hy2 (by omega) (fun h => by omega)).trans ?_)
          rw [Nat.mod_eq_of_lt (by omega)]
        · exact congrArg (Value.int .i64) (by dsimp only; omega)
      · go_round
        case rel =>
          rw [if_neg (by omega), if_neg (by omega)] at hI
          have hst := or_step HM.out hy2 (show k ≤ 9 by omega) (fun h => by omega)
          have e1 : y % 128 = y - 128 := by omega
          rw [e1] at hst
          refine ⟨_, _, _, _, _, _, _, _, ⟨k + 1, by omega, by omega, by go_num, m + (y - 128) * 128 ^ k, congrArg (Value.int .u64) hst, ?_, Lib.hid hI⟩, rfl, rfl, rfl, rfl, rfl, rfl, rfl, rfl⟩
          have h1 := HM.out
          have h2 : (y - 128) * 128 ^ k ≤ 127 * 128 ^ k := Nat.mul_le_mul_right _ (by omega)
          rw [Nat.pow_succ]
          omega
        case measure => simp [intOf]; omega
    · have hke : k = l.length - p := by omega
      go_wp2
      go_ret3
      have hI := HI.out
      rw [List.drop_eq_nil_of_le (by omega)] at hI
      simp only [guR] at hI
      rw [getU_err (by omega) (by decide) hI.symm]
      exact ⟨rfl, rfl⟩
theorem getU_end (l : List UInt8) : getU l (l.length : Int) = (0, 0, 11) := getU_err (Nat.le_refl _) (by decide) (by rw [List.drop_length]; rfl)
theorem getUint_end (w : World) (a : Addr) (c n : Nat) (hlc : n ≤ c) (hc : c ≤ 9223372036854775807) :
    Calls Tryz.prog 97 #[.slice (some a) n c, .int .i64 (n : Int)] w fun e w' => e = .returned (.tuple #[.int .u64 0, .int .i64 0, .int .i64 11]) ∧ w = w' := by
  have hd1 : decide ((n : Int) < 0) = false := decide_eq_false (by omega)
  have hd2 : decide ((n : Int) < (n : Int)) = false := decide_eq_false (by omega)
  by_cases hcn : c = n
  · subst hcn
    go_enter Tryz.func97, Tryz.ntmps97
    go_wp2
    refine wp_loop_rounds 1 ?_
    rw [rounds_succ]
    go_wp2
    go_ret3
    exact ⟨rfl, rfl⟩
  · go_enter Tryz.func97, Tryz.ntmps97
    go_wp2
    refine wp_loop_rounds 1 ?_
    rw [rounds_succ]
    go_wp2
    go_ret3
    exact ⟨rfl, rfl⟩
theorem getUint_nil (w : World) :
    Calls Tryz.prog 97 #[.slice none 0 0, .int .i64 0] w fun e w' => e = .returned (.tuple #[.int .u64 0, .int .i64 0, .int .i64 11]) ∧ w = w' := by
  go_enter Tryz.func97, Tryz.ntmps97
  go_wp2
  refine wp_loop_rounds 1 ?_
  rw [rounds_succ]
  go_wp2
  go_ret3
  exact ⟨rfl, rfl⟩
theorem getUint_any (w : World) (S : Nat → Prop) (v : Value) (l : List UInt8) (h : RdB w S v l) (at_ : Int) (h2 : at_ ≤ 9223372036854775807) :
    Calls Tryz.prog 97 #[v, .int .i64 at_] w fun e w' => e = .returned (getUV (getU l at_)) ∧ w = w' := by
  obtain ⟨A, c, rfl, h1, hc, hcell⟩ := h
  by_cases hb : at_ < 0 ∨ (l.length : Int) < at_
  · have e : getU l at_ = (0, 0, 2) := by unfold getU; rw [if_pos hb]
    rw [e]
    exact getUint_bad w A l.length c at_ (by omega) hb h2
  · obtain ⟨p, rfl⟩ := Int.eq_ofNat_of_zero_le (show 0 ≤ at_ by omega)
    by_cases hp : p < l.length
    · obtain ⟨g, o, rfl, _⟩ := hcell 0 (by omega)
      refine getUint_some w g o c l p hp h1.1 hc fun j hj => ?_
      obtain ⟨g', o', e, _, hq⟩ := hcell j hj
      injection e with e
      injection e with e1 e2
      subst e1
      subst e2
      exact hq
    · obtain rfl : p = l.length := by omega
      rw [getU_end]
      cases A with
      | none =>
        have h0 := h1.2 rfl
        have hl : l.length = 0 := by omega
        rw [hl, h0]
        exact getUint_nil w
      | some a => exact getUint_end w a c l.length h1.1 hc
end Go.Proofs.YtohpgipgfmkflaaGreatDoor
namespace Go.Proofs.YtohpgipgfmkflaaGreatDoor
set_option linter.unusedSectionVars false
variable [Base]
open Go.RowKit
set_option maxRecDepth 100000
set_option linter.unusedVariables false
set_option linter.unusedSimpArgs false
attribute [local go_sem ↓] Go.wp_at_zero Go.wp_at_succ

/-- A string that is read at a place: its bytes, the place behind it, the error. -/
def getB (l : List UInt8) (at_ : Int) (most : Nat) : List UInt8 × Nat × Int :=
  if (getU l at_).2.2 ≠ 0 then ([], 0, (getU l at_).2.2)
  else if most < (getU l at_).1 then ([], 0, 3)
  else if l.length - (getU l at_).2.1 < (getU l at_).1 then ([], 0, 11)
  else ((l.drop (getU l at_).2.1).take (getU l at_).1, (getU l at_).2.1 + (getU l at_).1, 0)
theorem run_copy_b (w w0 : World) (ty : TypeId) (B g n : Nat) (sp : Option Addr) (sLen sCap : Nat) (m : List UInt8) (xs : List Value)
    (hown : w.ownsRow B 5 1 (.slice (some ⟨g, 0, none⟩) n n) n xs) (hb : Below B w0 w) (hm : m.length = n) (hle : n ≤ sLen)
    (hc : ∀ j, j < n → ∃ gg oo, sp = some ⟨gg, oo, none⟩ ∧ w.cell? ⟨gg, oo + j, none⟩ = some (.int .u8 ((m.getD j 0).toNat : Int))) :
    ∃ w', (Builtin.copy_ #[53, 53] ty #[.slice (some ⟨g, 0, none⟩) n n, .slice sp sLen sCap]).run Tryz.prog w = .ok (.int .i64 (n : Int)) w' ∧
      w'.ownsRow B 5 1 (.slice (some ⟨g, 0, none⟩) n n) n (bv m) ∧ Below B w0 w' := by
  have hl : (bv m).length = n := by rw [bv_length, hm]
  by_cases hn : n = 0
  · subst hn
    have hm0 : m = [] := List.eq_nil_of_length_eq_zero hm
    subst hm0
    refine ⟨w, ?_, ?_, hb⟩
    · exact run_copy_none (P := Tryz.prog) w 53 53 ty 5 (some ⟨g, 0, none⟩) sp 0 0 sLen sCap Tryz.underlying53 (by kernel_rfl) (by simp [Nat.min_def])
    · have hx : xs = [] := List.eq_nil_of_length_eq_zero (by simpa using hown.1)
      subst hx
      exact hown
  · rcases hown.2 with ⟨e, _⟩ | ⟨g', cap, cur, e, hBg, hg, h1, h2, h3, h4⟩
    · cases e
    injection e with e1 _ e2
    injection e1 with e1
    injection e1 with e1 _
    subst e1
    subst e2
    obtain ⟨gg, oo, esp, _⟩ := hc 0 (by omega)
    subst esp
    have hmin : (bv m).length = Nat.min sLen n := by rw [hl]; simp [Nat.min_def]; omega
    have hrun := run_copy_row (P := Tryz.prog) w 53 53 ty 5 g 0 n n ⟨gg, oo, none⟩ sLen sCap cur 5 (bv m) Tryz.underlying53 (by kernel_rfl) hg hmin (fun j u hj => by
      have hjl : j < n := by have := (List.getElem?_eq_some_iff.1 hj).1; omega
      obtain ⟨gg', oo', esp', hq⟩ := hc j hjl
      injection esp' with esp'
      injection esp' with e1 e2
      subst e1
      subst e2
      rw [addr_add, hq, ← hj]
      simp [bv, List.getD_eq_getElem?_getD, List.getElem?_eq_getElem (show j < m.length by omega)]) (by rw [hl, h3]; omega) (bv_one m)
    rw [hl] at hrun
    refine ⟨_, hrun, ⟨by rw [hl]; omega, .inr ⟨g, n, _, rfl, hBg, setRow_heap w g cur _ 5 _ hg, Nat.le_refl _, h2, ?_, ?_⟩⟩, below_setRow hb hBg _⟩
    · have hcl : cur.toList.length = n := by rw [Array.length_toList, h3]; omega
      rw [List.size_toArray, List.take_zero, List.nil_append, List.length_append, hl, List.length_drop, hcl]; omega
    · simp only [List.take_zero, List.nil_append, Nat.zero_add, Nat.mul_one]
      rw [List.take_append_of_le_length (by omega), List.take_of_length_le (by omega)]
def GetBP (w : World) (r : List UInt8 × Nat × Int) (e : Ending) (w' : World) : Prop :=
  ∃ v', e = .returned (.tuple #[v', .int .i64 (r.2.1 : Int), .int .i64 r.2.2]) ∧ w'.ownsRow w.heap.size 5 1 v' r.1.length (bv r.1) ∧ Below w.heap.size w w'
theorem getU_le {l : List UInt8} {at_ : Int} {n f : Nat} (h : getU l at_ = (n, f, 0)) : f ≤ l.length ∧ n < 18446744073709551616 := by
  unfold getU at h
  split at h
  · simp at h
  · rename_i hb
    split at h
    · rename_i he
      obtain ⟨⟨a, b, e⟩, hg⟩ : ∃ g, guR 0 0 (l.drop at_.toNat) = g := ⟨_, rfl⟩
      rw [hg] at h he
      simp only at h he
      subst he
      obtain ⟨h1, h2, t, h3⟩ := guR_canon hg
      simp only [Prod.mk.injEq, and_true] at h
      obtain ⟨rfl, rfl⟩ := h
      have := congrArg List.length h3
      rw [List.length_drop, List.length_append] at this
      omega
    · rename_i he
      simp only [Prod.mk.injEq] at h
      exact absurd h.2.2 he
theorem madeB (n : Nat) : (madeCells (Value.int .u8 0).cells (n * 1)).toList = List.replicate n (.int .u8 0) := by rw [Nat.mul_one]; exact toList_madeCells_one _ n
set_option maxHeartbeats 2000000 in
theorem getBlob_any (w : World) (S : Nat → Prop) (v : Value) (l : List UInt8) (at_ : Int) (most : Nat) (h : RdB w S v l) (hl : l.length ≤ 140737488355328) (hat : at_ ≤ 9223372036854775807) (hmo : most ≤ 1073741824) :
    Calls Tryz.prog 98 #[v, .int .i64 at_, .int .i64 (most : Int)] w (GetBP w (getB l at_ most)) := by
  obtain ⟨i0, hi, hz0, hz1, hz2⟩ := info_parts infoB
  have hz0' : i0.zero = some (.int .u8 0) := hz0
  have HU := getUint_any w S v l h at_ hat
  obtain ⟨A, c, rfl, h1, h2, h3⟩ := h
  obtain ⟨⟨n, f, e⟩, hg⟩ : ∃ r, getU l at_ = r := ⟨_, rfl⟩
  rw [hg] at HU
  simp only [getUV] at HU
  have HU := Lib.hid HU
  have hm0 : decide ((most : Int) < 0) = false := decide_eq_false (by omega)
  have hmw : IntKind.u64.wrap (most : Int) = (most : Int) := by rw [IntKind.wrap_u64]; omega
  by_cases he : e = 0
  · subst he
    have hfl := getU_le hg
    by_cases hbig : most < n
    · have hR := Lib.hid (show getB l at_ most = ([], 0, 3) by unfold getB; rw [hg]; simp only; rw [if_neg (by simp), if_pos hbig])
      have hd : decide ((most : Int) < (n : Int)) = true := decide_eq_true (by omega)
      clear hg
      go_enter Tryz.func98, Tryz.ntmps98
      go_wp2_with (go_at_call 97; refine HU.out.mono ?_; rintro e w' ⟨rfl, rfl⟩)
      go_ret3
      rw [GetBP, hR.out]
      exact ⟨_, rfl, World.ownsRow_nil _ _ _ _, Below.refl _ _⟩
    · have hd : decide ((most : Int) < (n : Int)) = false := decide_eq_false (by omega)
      have hlw : IntKind.u64.wrap ((l.length : Int) - (f : Int)) = (l.length : Int) - (f : Int) := by rw [IntKind.wrap_u64]; omega
      by_cases hsh : l.length - f < n
      · have hR := Lib.hid (show getB l at_ most = ([], 0, 11) by unfold getB; rw [hg]; simp only; rw [if_neg (by simp), if_neg hbig, if_pos hsh])
        have hd2 : decide ((l.length : Int) - (f : Int) < (n : Int)) = true := decide_eq_true (by omega)
        clear hg
        go_enter Tryz.func98, Tryz.ntmps98
        go_wp2_with (go_at_call 97; refine HU.out.mono ?_; rintro e w' ⟨rfl, rfl⟩)
        go_ret3
        rw [GetBP, hR.out]
        exact ⟨_, rfl, World.ownsRow_nil _ _ _ _, Below.refl _ _⟩
      · have hR := Lib.hid (show getB l at_ most = ((l.drop f).take n, f + n, 0) by unfold getB; rw [hg]; simp only; rw [if_neg (by simp), if_neg hbig, if_neg hsh])
        have hd2 : decide ((l.length : Int) - (f : Int) < (n : Int)) = false := decide_eq_false (by omega)
        have H3 := Lib.hid h3
        have hfl1 := hfl.1
        clear hg h3
        go_enter Tryz.func98, Tryz.ntmps98
        go_wp2_with (first | (go_at_call 97; refine HU.out.mono ?_; rintro e w' ⟨rfl, rfl⟩) | (at_make; refine wpList_make_full _ rfl _ _ 53 rfl w.heap.size 5 i0 (.int .u8 0) 1 Tryz.underlying53 hi hz0' hz1 .u64 .u64 _ _ n rfl rfl rfl rfl (by rw [hz2]; omega) (by unfold maxLen; omega) (Nat.le_refl _) ?_; intro wm hm hgm; have hbm : Below w.heap.size w wm := (Below.refl _ _).grown hgm (Nat.le_refl _) (by simp)))
        · rename_i hcf
          have hn0 : n = 0 := by omega
          have hr : ∀ sp sl sc, (Builtin.copy_ #[53, 53] 3 #[.slice (some ⟨w.heap.size, 0, none⟩) n n, .slice sp sl sc]).run Tryz.prog wm = .ok (.int .i64 0) wm := fun sp sl sc => run_copy_none (P := Tryz.prog) wm 53 53 3 5 (some ⟨w.heap.size, 0, none⟩) sp n n sl sc Tryz.underlying53 (by kernel_rfl) (by rw [hn0]; simp [Nat.min_def])
          simp only [hr]
          go_wp2
          go_ret3
          rw [GetBP, hR.out]
          subst hn0
          refine ⟨_, tup3 rfl (congrArg (Value.int .i64) (by dsimp only; omega)) rfl, ?_, hbm⟩
          rw [madeB] at hm
          simpa [bv] using hm
        · have hsrc : ∀ j, j < n → ∃ gg oo, Option.map (fun x => x.add f) A = some ⟨gg, oo, none⟩ ∧ wm.cell? ⟨gg, oo + j, none⟩ = some (.int .u8 ((((l.drop f).take n).getD j 0).toNat : Int)) := by
            intro j hj
            obtain ⟨g, o, rfl, _, hq⟩ := H3.out (f + j) (by omega)
            refine ⟨g, o + f, by simp [addr_add], ?_⟩
            rw [Nat.add_assoc]
            refine ((hbm.cell (p := ⟨g, o + (f + j), none⟩) (World.block_lt_of_cell? w _ hq)).trans hq).trans ?_
            simp [List.getD_eq_getElem?_getD, List.getElem?_take, hj, List.getElem?_drop]
          obtain ⟨w2, hr, ho2, hb2⟩ := run_copy_b wm w 3 w.heap.size w.heap.size n (Option.map (fun x => x.add f) A) (l.length - f) (c - f) ((l.drop f).take n) _ hm hbm (by simp; omega) (by omega) hsrc
          simp only [hr]
          go_wp2
          go_ret3
          rw [GetBP, hR.out]
          refine ⟨_, tup3 rfl (congrArg (Value.int .i64) (by dsimp only; omega)) rfl, ?_, hb2⟩
          have hln : ((l.drop f).take n).length = n := by simp; omega
          rw [hln]
          exact ho2
  · have hR := Lib.hid (show getB l at_ most = ([], 0, e) by unfold getB; rw [hg]; simp only; rw [if_pos he])
    have he1 : (e == 0) = false := by simpa using he
    have he2 : (e != 0) = true := by simpa using he
    clear hg he
    go_enter Tryz.func98, Tryz.ntmps98
    go_wp2_with (go_at_call 97; refine HU.out.mono ?_; rintro e w' ⟨rfl, rfl⟩)
    go_ret3
    rw [GetBP, hR.out]
    exact ⟨_, rfl, World.ownsRow_nil _ _ _ _, Below.refl _ _⟩
end Go.Proofs.YtohpgipgfmkflaaGreatDoor
namespace Go.Proofs.YtohpgipgfmkflaaGreatDoor
set_option linter.unusedSectionVars false
variable [Base]
open Go.RowKit
set_option maxRecDepth 100000
set_option linter.unusedVariables false
set_option linter.unusedSimpArgs false
attribute [local go_sem ↓] Go.wp_at_zero Go.wp_at_succ

theorem infoL : (Tryz.prog.info? 53).map (fun i => (i.zero, i.size, i.bytes)) = some (some (.slice none 0 0), 1, 24) := by kernel_rfl
section
variable {S O : Nat → Prop} {w w1 : World} {v : Value} {l : List UInt8} {ls : List (List UInt8)}
/-- Other blocks turn, none of bytes. -/
theorem RdB.out (h : RdB w S v l) (k : Kp O w w1) (hO : ∀ b, O b → b < w.heap.size → ¬ U8 w b) : RdB w1 S v l := by
  obtain ⟨A, c, rfl, h1, h2, hc⟩ := h
  refine ⟨A, c, rfl, h1, h2, fun j hj => ?_⟩
  obtain ⟨g, o, e, ⟨hn, hu⟩, hcell⟩ := hc j hj
  have hno : ¬ O g := fun hb => hO g hb (World.block_lt_of_cell? w _ hcell) hu
  exact ⟨g, o, e, ⟨hn, hu.kp fun _ _ hu => k.blk hu hno⟩, k.cell hcell hno⟩
/-- A row of strings of the call's own. -/
theorem RdL.ofOwn {base n : Nat} {vs : List Value} (h : w.ownsRow base 53 1 v n vs) (hr : All2 (RdB w S) vs ls) (hS : ∀ b, S b → b < base) : RdL w S v ls := by
  have hl : ls.length = n := by have := h.1; have := hr.1; omega
  subst hl
  rcases h.2 with ⟨rfl, h0⟩ | ⟨g, cap, cur, rfl, hb, hg, h1, h2, h3, h4⟩
  · exact ⟨none, 0, vs, by rw [h0], ⟨by omega, fun _ => rfl⟩, by omega, hr, fun i hi => by have := hr.1; omega⟩
  · refine ⟨_, cap, vs, rfl, ⟨h1, fun h => by cases h⟩, h2, hr, fun i hi => ⟨g, 0, rfl, fun hs => by have := hS g hs; omega, ?_⟩⟩
    rw [Nat.zero_add, cell_row hg]
    have := congrArg (fun l => l[i]?) h4
    simp only [List.getElem?_take] at this
    rw [if_pos (by have := hr.1; omega), Array.getElem?_toList] at this
    rw [this, List.getElem?_eq_getElem hi]
theorem own_notU8 {base n size : Nat} {e : TypeId} {xs : List Value} (h : w.ownsRow base e size v n xs) (he : e ≠ 5) (hB : Base.b ≤ base) : ∀ b, v.ownBlock = some b → ¬ U8 w b := by
  rintro b hb (⟨cur', fz, hu⟩ | hlt)
  rotate_left
  · have := (h.lt b hb).1; omega
  rcases h.2 with ⟨rfl, _⟩ | ⟨g, cap, cur, rfl, _, hg, _⟩
  · cases hb
  · have : g = b := by simpa [Value.ownBlock] using hb
    rw [← this, hg] at hu
    injection hu with hu
    injection hu with _ ht
    exact he ht
end
theorem wpList_append_sl {w : World} {ops : Array Oper} {rest : List Oper} {o : Oper} {a : Act} {Q : Exit → Act → World → Prop} (hgd : o.guard = none) (s x : Operand)
    (ho : o.op = .call { callee := .builtin .append, args := #[s, x], argTypes := #[22, 22] }) (base : Nat) (v : Value) (n : Nat) (vs : List Value) (u : Value) (ad : Addr) (c : Nat)
    (hs : a.eval s = v) (hx : a.eval x = .slice (some ad) 1 c) (hown : w.ownsRow base 53 1 v n vs) (hc : ∀ j u', [u][j]? = some u' → w.cell? (ad.add j) = some u') (hu : u.oneCell' = true) (hlen : n ≤ 1000000000) (hbase : base ≤ w.heap.size)
    (h : ∀ v' w', w'.ownsRow base 53 1 v' (n + 1) (vs ++ [u]) → w.grownBy w' v.ownBlock → (v'.ownBlock = v.ownBlock ∨ v'.ownBlock = some w.heap.size) → wpList Tryz.prog ops Q rest (a.put o.dst v') w') :
    wpList Tryz.prog ops Q (o :: rest) a w := by
  obtain ⟨i0, hi, hz0, hz1, hz2⟩ := info_parts infoL
  refine wpList_append_own_at w hgd s x 22 ho base 53 i0 (.slice none 0 0) 1 24 Tryz.underlying22 hi hz0 hz1 hz2 rfl (by decide) v n vs hs hown ad 1 c [u] hx rfl hc (by intro u' hu'; simp at hu'; subst hu'; exact hu) (by simp only [maxLen]; omega) (by omega) hbase ?_
  intro v' w' h4 h5 _ h6
  exact h v' w' h4 h5 h6

/-! What Parse computes. -/
theorem recsR_succ (m : Nat) (l : List UInt8) : recsR (m + 1) l = if (guR 0 0 l).2.2 = 0 ∧ (guR 0 0 l).1 ≤ 1048576 ∧ (guR 0 0 l).1 ≤ (l.drop (guR 0 0 l).2.1).length then (recsR m (l.drop ((guR 0 0 l).2.1 + (guR 0 0 l).1))).map fun r => ((l.drop (guR 0 0 l).2.1).take (guR 0 0 l).1 :: r.1, r.2) else none := rfl
theorem getB_recs {l : List UInt8} {p m : Nat} (hp : p ≤ l.length) : recsR (m + 1) (l.drop p) = if (getB l (p : Int) 1048576).2.2 = 0 then (recsR m (l.drop (getB l (p : Int) 1048576).2.1)).map (fun r => ((getB l (p : Int) 1048576).1 :: r.1, r.2)) else none := by
  obtain ⟨⟨n, c, e⟩, hg⟩ : ∃ g, guR 0 0 (l.drop p) = g := ⟨_, rfl⟩
  rw [recsR_succ, hg]
  simp only
  by_cases he : e = 0
  · subst he
    have hu := getU_ok hp hg
    by_cases h1 : n ≤ 1048576
    · by_cases h2 : n ≤ ((l.drop p).drop c).length
      · have hb : getB l (p : Int) 1048576 = ((l.drop (p + c)).take n, p + c + n, 0) := by
          rw [List.length_drop, List.length_drop] at h2
          unfold getB
          rw [hu]
          simp only
          rw [if_neg (by simp), if_neg (by omega), if_neg (by omega)]
        rw [if_pos ⟨rfl, h1, h2⟩, hb, if_pos rfl, List.drop_drop, List.drop_drop, Nat.add_assoc]
      · have hb : getB l (p : Int) 1048576 = ([], 0, 11) := by
          rw [List.length_drop, List.length_drop] at h2
          unfold getB
          rw [hu]
          simp only
          rw [if_neg (by simp), if_neg (by omega), if_pos (by omega)]
        rw [if_neg (fun h => h2 h.2.2), hb, if_neg (by decide)]
    · have hb : getB l (p : Int) 1048576 = ([], 0, 3) := by
        unfold getB
        rw [hu]
        simp only
        rw [if_neg (by simp), if_pos (by omega)]
      rw [if_neg (fun h => h1 h.2.1), hb, if_neg (by decide)]
  · have hne : (guR 0 0 (l.drop p)).2.2 ≠ 0 := by rw [hg]; exact he
    have hu : (getU l (p : Int)).2.2 = e := by rw [getU_at hp, if_neg hne, hg]
    rw [if_neg (fun h => he h.1)]
    unfold getB
    rw [hu, if_pos he, if_neg he]
theorem getB_le {l : List UInt8} {at_ : Int} {most : Nat} (h : (getB l at_ most).2.2 = 0) : (getB l at_ most).2.1 ≤ l.length ∧ (getB l at_ most).1.length ≤ most := by
  obtain ⟨⟨n, f, e⟩, hg⟩ : ∃ g, getU l at_ = g := ⟨_, rfl⟩
  unfold getB at h ⊢
  rw [hg] at h ⊢
  simp only at h ⊢
  by_cases he : e = 0
  · subst he
    have := getU_le hg
    rw [if_neg (by simp)] at h ⊢
    split at h
    · simp at h
    · rename_i h1
      rw [if_neg h1]
      split at h
      · simp at h
      · rename_i h2
        rw [if_neg h2]
        simp
        omega
  · rw [if_pos he] at h
    exact absurd h he
def ParseP (w : World) (r : Option (Nat × List (List UInt8))) (e : Ending) (w' : World) : Prop :=
  ∃ v, e = .returned (.tuple #[.agg #[.int .i64 (match r with | some x => (x.1 : Int) | none => 0), v], .int .i64 (match r with | some _ => 0 | none => 10)]) ∧
    RdL w' (fun b => b < w.heap.size) v (match r with | some x => x.2 | none => []) ∧ Below w.heap.size w w'
theorem RdL.nil (w : World) (S : Nat → Prop) : RdL w S (.slice none 0 0) [] := ⟨none, 0, [], rfl, ⟨Nat.le_refl _, fun _ => rfl⟩, by omega, All2.nil, fun i hi => by simp at hi⟩
theorem getU_zero (l : List UInt8) : getU l 0 = if (guR 0 0 l).2.2 = 0 then ((guR 0 0 l).1, (guR 0 0 l).2.1, 0) else (0, 0, (guR 0 0 l).2.2) := by
  have := getU_at (l := l) (p := 0) (by omega)
  simpa using this
theorem parse_bad (w : World) (S : Nat → Prop) (v : Value) (l : List UInt8) (h : RdB w S v l) (hl : l.length ≤ 140737488355328)
    (hbad : (getU l 0).2.2 ≠ 0 ∨ (getU l 0).1 < 1 ∨ 1152921504606846976 < (getU l 0).1 ∨ 1048576 < l.length) :
    Calls Tryz.prog 37 #[v] w (ParseP w none) := by
  have HU : ∀ wx, Below w.heap.size w wx → Calls Tryz.prog 97 #[v, .int .i64 0] wx fun e w' => e = .returned (getUV (getU l 0)) ∧ wx = w' := fun wx hx => getUint_any wx S v l (h.below hx (fun _ h => .inl h)) 0 (by omega)
  obtain ⟨A, c, rfl, h1, h2, h3⟩ := h
  obtain ⟨⟨n, f, e⟩, hg⟩ : ∃ r, getU l 0 = r := ⟨_, rfl⟩
  simp only [hg, getUV] at HU hbad
  have hB := (Below.refl w.heap.size w).alloc (Nat.le_refl _) (.cells #[.int .i64 0, .slice none 0 0] 52)
  have HC := Lib.hid (HU _ hB)
  have HBB := Lib.hid hB
  have fin : ∀ w', Below w.heap.size w w' → ParseP w none (.returned (.tuple #[.agg #[.int .i64 0, .slice none 0 0], .int .i64 10])) w' := fun w' hb => ⟨_, rfl, RdL.nil _ _, hb⟩
  have FIN := Lib.hid fin
  clear h3 hg HU hB fin
  by_cases he : e = 0
  · subst he
    by_cases hn1 : n < 1
    · have hd1 : decide ((n : Int) < 1) = true := decide_eq_true (by omega)
      clear hn1 hbad
      clear h1 h2 hl
      go_enter Tryz.func37, Tryz.ntmps37
      go_wp2_with (go_at_call 97; refine HC.out.mono ?_; rintro e w' ⟨rfl, hw⟩; have hw := hw.symm; subst hw)
      exact bodyPost_ret (v := .tuple #[.agg #[.int .i64 0, .slice none 0 0], .int .i64 10]) (by simp [results, Tryz.results37, go_sem]) rfl (FIN.out _ HBB.out)
    · have hd1 : decide ((n : Int) < 1) = false := decide_eq_false (by omega)
      by_cases hn2 : 1152921504606846976 < n
      · have hd2 : decide ((1152921504606846976 : Int) < (n : Int)) = true := decide_eq_true (by omega)
        clear hn1 hn2 hbad
        clear h1 h2 hl
        go_enter Tryz.func37, Tryz.ntmps37
        go_wp2_with (go_at_call 97; refine HC.out.mono ?_; rintro e w' ⟨rfl, hw⟩; have hw := hw.symm; subst hw)
        exact bodyPost_ret (v := .tuple #[.agg #[.int .i64 0, .slice none 0 0], .int .i64 10]) (by simp [results, Tryz.results37, go_sem]) rfl (FIN.out _ HBB.out)
      · have hd2 : decide ((1152921504606846976 : Int) < (n : Int)) = false := decide_eq_false (by omega)
        have hd3 : decide ((1048576 : Int) < (l.length : Int)) = true := decide_eq_true (by simp only [ne_eq, not_true_eq_false, false_or] at hbad; omega)
        clear hn1 hn2 hbad
        clear h1 h2 hl
        go_enter Tryz.func37, Tryz.ntmps37
        go_wp2_with (go_at_call 97; refine HC.out.mono ?_; rintro e w' ⟨rfl, hw⟩; have hw := hw.symm; subst hw)
        exact bodyPost_ret (v := .tuple #[.agg #[.int .i64 0, .slice none 0 0], .int .i64 10]) (by simp [results, Tryz.results37, go_sem]) rfl (FIN.out _ HBB.out)
  · have he2 : (e != 0) = true := by simpa using he
    clear he hbad
    clear h1 h2 hl
    go_enter Tryz.func37, Tryz.ntmps37
    go_wp2_with (go_at_call 97; refine HC.out.mono ?_; rintro e w' ⟨rfl, hw⟩; have hw := hw.symm; subst hw)
    exact bodyPost_ret (v := .tuple #[.agg #[.int .i64 0, .slice none 0 0], .int .i64 10]) (by simp [results, Tryz.results37, go_sem]) rfl (FIN.out _ HBB.out)
theorem parse_bad2 (w : World) (S : Nat → Prop) (v : Value) (l : List UInt8) (n f : Nat) (h : RdB w S v l) (hl : l.length ≤ 1048576) (hg1 : getU l 0 = (n, f, 0)) (hn1 : 1 ≤ n) (hn2 : n ≤ 1152921504606846976)
    (hbad : (getU l (f : Int)).2.2 ≠ 0 ∨ (getU l (f : Int)).1 < 1 ∨ 1000 < (getU l (f : Int)).1) :
    Calls Tryz.prog 37 #[v] w (ParseP w none) := by
  have hf := (getU_le hg1).1
  have HU : ∀ wx, Below w.heap.size w wx → Calls Tryz.prog 97 #[v, .int .i64 0] wx fun e w' => e = .returned (getUV (getU l 0)) ∧ wx = w' := fun wx hx => getUint_any wx S v l (h.below hx (fun _ h => .inl h)) 0 (by omega)
  have HU2 : ∀ wx, Below w.heap.size w wx → Calls Tryz.prog 97 #[v, .int .i64 (f : Int)] wx fun e w' => e = .returned (getUV (getU l (f : Int))) ∧ wx = w' := fun wx hx => getUint_any wx S v l (h.below hx (fun _ h => .inl h)) (f : Int) (by omega)
  obtain ⟨A, c, rfl, h1, h2, h3⟩ := h
  obtain ⟨⟨m, f2, e⟩, hg⟩ : ∃ r, getU l (f : Int) = r := ⟨_, rfl⟩
  simp only [hg, hg1, getUV] at HU HU2 hbad
  have hB := (Below.refl w.heap.size w).alloc (Nat.le_refl _) (.cells #[.int .i64 0, .slice none 0 0] 52)
  have HC := Lib.hid (HU _ hB)
  have HC2 := Lib.hid (HU2 _ hB)
  have HBB := Lib.hid hB
  have fin : ∀ w', Below w.heap.size w w' → ParseP w none (.returned (.tuple #[.agg #[.int .i64 0, .slice none 0 0], .int .i64 10])) w' := fun w' hb => ⟨_, rfl, RdL.nil _ _, hb⟩
  have FIN := Lib.hid fin
  have hd1 : decide ((n : Int) < 1) = false := decide_eq_false (by omega)
  have hd2 : decide ((1152921504606846976 : Int) < (n : Int)) = false := decide_eq_false (by omega)
  have hd3 : decide ((1048576 : Int) < (l.length : Int)) = false := decide_eq_false (by omega)
  clear h3 hg HU HU2 hB fin hn1 hn2
  by_cases he : e = 0
  · subst he
    by_cases hn1 : m < 1
    · have hd4 : decide ((m : Int) < 1) = true := decide_eq_true (by omega)
      clear hn1 hbad
      clear hg1 h1 h2 hl
      go_enter Tryz.func37, Tryz.ntmps37
      go_wp2_with (first | (go_at_call 97; with_reducible refine HC.out.mono ?_; rintro e w' ⟨rfl, hw⟩; have hw := hw.symm; subst hw) | (go_at_call 97; with_reducible refine HC2.out.mono ?_; rintro e w' ⟨rfl, hw⟩; have hw := hw.symm; subst hw))
      exact bodyPost_ret (v := .tuple #[.agg #[.int .i64 0, .slice none 0 0], .int .i64 10]) (by simp [results, Tryz.results37, go_sem]) rfl (FIN.out _ HBB.out)
    · have hd4 : decide ((m : Int) < 1) = false := decide_eq_false (by omega)
      have hd5 : decide ((1000 : Int) < (m : Int)) = true := decide_eq_true (by simp only [ne_eq, not_true_eq_false, false_or] at hbad; omega)
      clear hn1 hbad
      clear hg1 h1 h2 hl
      go_enter Tryz.func37, Tryz.ntmps37
      go_wp2_with (first | (go_at_call 97; with_reducible refine HC.out.mono ?_; rintro e w' ⟨rfl, hw⟩; have hw := hw.symm; subst hw) | (go_at_call 97; with_reducible refine HC2.out.mono ?_; rintro e w' ⟨rfl, hw⟩; have hw := hw.symm; subst hw))
      exact bodyPost_ret (v := .tuple #[.agg #[.int .i64 0, .slice none 0 0], .int .i64 10]) (by simp [results, Tryz.results37, go_sem]) rfl (FIN.out _ HBB.out)
  · have he2 : (e != 0) = true := by simpa using he
    clear he hbad
    clear hg1 h1 h2 hl
    go_enter Tryz.func37, Tryz.ntmps37
    go_wp2_with (first | (go_at_call 97; with_reducible refine HC.out.mono ?_; rintro e w' ⟨rfl, hw⟩; have hw := hw.symm; subst hw) | (go_at_call 97; with_reducible refine HC2.out.mono ?_; rintro e w' ⟨rfl, hw⟩; have hw := hw.symm; subst hw))
    exact bodyPost_ret (v := .tuple #[.agg #[.int .i64 0, .slice none 0 0], .int .i64 10]) (by simp [results, Tryz.results37, go_sem]) rfl (FIN.out _ HBB.out)
end Go.Proofs.YtohpgipgfmkflaaGreatDoor
