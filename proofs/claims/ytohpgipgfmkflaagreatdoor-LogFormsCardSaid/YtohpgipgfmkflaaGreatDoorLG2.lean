/- A log that neither Begin nor Resume made answers nothing and ErrNil: the walk. -/
import Derived.Test.YtohpgipgfmkflaaGreatDoorMg
namespace Go.Proofs.YtohpgipgfmkflaaGreatDoor
set_option linter.unusedSectionVars false
variable [Base]
open Go.RowKit
set_option maxRecDepth 100000
set_option linter.unusedVariables false
set_option linter.unusedSimpArgs false
attribute [local go_sem ↓] Go.wp_at_zero Go.wp_at_succ

def nolog0 (w : World) : World := (w.alloc (.cells #[.pointer none, .int .i64 0, .slice none 0 0, .int .i64 0, .int .i64 0, .bool false] 27)).alloc (.cells #[.pointer none, .pointer (some ⟨w.heap.size, 0, none⟩)] 23)
theorem nolog_cell (w wr : World) (hb : Below (w.heap.size + 2) (nolog0 w) wr) (k : Nat) (hk : k < 2) : ∃ v, wr.cell? ⟨w.heap.size + 1, k, none⟩ = some v ∧ NoLog wr v := by
  have h1 : (nolog0 w).heap[w.heap.size]? = some (.cells #[.pointer none, .int .i64 0, .slice none 0 0, .int .i64 0, .int .i64 0, .bool false] 27 (0, 0)) := by
    unfold nolog0
    rw [Below.heap_alloc _ _ _ (by simp)]
    exact heap_alloc_new w _
  have h2 : (nolog0 w).heap[w.heap.size + 1]? = some (.cells #[.pointer none, .pointer (some ⟨w.heap.size, 0, none⟩)] 23 (0, 0)) := by
    have := heap_alloc_new (w.alloc (.cells #[.pointer none, .int .i64 0, .slice none 0 0, .int .i64 0, .int .i64 0, .bool false] 27)) (.cells #[.pointer none, .pointer (some ⟨w.heap.size, 0, none⟩)] 23)
    rw [show (w.alloc (.cells #[.pointer none, .int .i64 0, .slice none 0 0, .int .i64 0, .int .i64 0, .bool false] 27)).heap.size = w.heap.size + 1 by simp] at this
    exact this
  have h3 := (hb.block w.heap.size (by omega)).trans h1
  have h4 := (hb.block (w.heap.size + 1) (by omega)).trans h2
  match k, hk with
  | 0, _ => exact ⟨_, cell_row h4 0, .inl rfl⟩
  | 1, _ => exact ⟨_, cell_row h4 1, .inr ⟨_, rfl, h3⟩⟩
set_option maxHeartbeats 4000000 in
theorem logNone_any (w : World) (vr : Value) (n : Int) (hl : Laid w) :
    Calls Tryz.prog 3 #[vr, .int .i64 n] w fun e w' => e = .returned (.bool true) ∧ Below w.heap.size w w' := by
  have HL := Lib.hid hl
  have hB0 : Below w.heap.size w (nolog0 w) := ((Below.refl _ _).alloc (Nat.le_refl _) _).alloc (by simp) _
  have hz0 : (nolog0 w).heap.size = w.heap.size + 2 := by unfold nolog0; simp
  have HB0 := Lib.hid hB0
  have HZ0 := Lib.hid hz0
  clear hl hB0 hz0
  go_enter Tryz.func3, Tryz.ntmps3
  go_wp2
  go_loopw [17] (fun i wr => ∃ k : Nat, k ≤ 2 ∧ i = .int .i64 (k : Int) ∧ Hid (Below (w.heap.size + 2) (nolog0 w) wr)) (fun i wr => 2 - (intOf i).toNat)
  case atStart => exact ⟨0, by omega, rfl, Lib.hid (Below.refl _ _)⟩
  case round =>
    obtain ⟨k, hk, rfl, HB⟩ := hrel
    have hsz : w.heap.size + 2 ≤ wr.heap.size := by have := HB.out.size; have := HZ0.out; omega
    by_cases hlt : k < 2
    · obtain ⟨v, hc, hv⟩ := nolog_cell w wr HB.out k hlt
      have hx1 : (k : Int) < 2 := by omega
      have HV := Lib.hid hv
      clear hv
      go_wp2_with (go_at_call 18; refine (write_no wr v vr HV.out).mono ?_; rintro e w1 ⟨rfl, hb⟩; have HV1 := Lib.hid (HV.out.below hb); have HB1 := Lib.hid (HB.out.trans (hb.mono hsz)); have hs1 := hb.size; clear hb)
      go_wp2_with (go_at_call 19; refine (trim_no w1 v n HV1.out).mono ?_; rintro e w2 ⟨rfl, hb⟩; have HV2 := Lib.hid (HV1.out.below hb); have HB2 := Lib.hid (HB1.out.trans (hb.mono (by omega))); have hs2 := hb.size; clear hb)
      go_wp2_with (go_at_call 20; refine (lsync_no w2 v HV2.out).mono ?_; rintro e w3 ⟨rfl, hb⟩; have HV3 := Lib.hid (HV2.out.below hb); have HB3 := Lib.hid (HB2.out.trans (hb.mono (by omega))); have hs3 := hb.size; clear hb)
      go_wp2_with (first | (go_at_call 21; refine (last_no w3 v HV3.out).mono ?_; rintro e w' ⟨rfl, rfl⟩) | (go_at_call 22; refine (acked_no _ v HV3.out).mono ?_; rintro e w' ⟨rfl, rfl⟩) | (go_at_call 23; refine (files_no _ v HV3.out).mono ?_; rintro e w' ⟨rfl, rfl⟩) | (go_at_call 24; refine (over_no _ v HV3.out).mono ?_; rintro e w' ⟨rfl, rfl⟩))
      go_roundw
      case rel => exact ⟨k + 1, by omega, by go_num, HB3⟩
      case measure => simp [intOf]; omega
    · obtain rfl : k = 2 := by omega
      have HA := Lib.hid (awake_any wr (HL.out.below (HB0.out.trans (HB.out.mono (by omega)))))
      go_wp2_with (go_at_call 25; refine HA.out.mono ?_; rintro e w1 ⟨rfl, hb⟩)
      go_ret
      exact ⟨rfl, (HB0.out.trans (HB.out.mono (by omega))).trans (hb.mono (by omega))⟩
end Go.Proofs.YtohpgipgfmkflaaGreatDoor
