/- Contracts of the log: next. Contracts of the log: Sync. Contracts of the log: Sync, whole. Contracts of the log: Write. Contracts of the log: may, Begin, Last, Acked, Over. Contracts of the log: Begin. Contracts of the log: Files. Contracts of the log: a log that neither Begin nor Resume made. Contracts of the log: Trim. -/
import Derived.Test.YtohpgipgfmkflaaGreatDoorMd
namespace Go.Proofs.YtohpgipgfmkflaaGreatDoor
set_option linter.unusedSectionVars false
variable [Base]
open Go.RowKit
set_option maxRecDepth 100000
set_option linter.unusedVariables false
set_option linter.unusedSimpArgs false
attribute [local go_sem ↓] Go.wp_at_zero Go.wp_at_succ

theorem LStep.notd {Sd Sl Sd' Sl' : Nat → Prop} {w w' : World} (h : LStep Sd Sl Sd' Sl' w w') {a : Nat} (ha : a < w.heap.size) (hn : ¬ Sd a ∧ ¬ Sl a) : ¬ Sd' a ∧ ¬ Sl' a :=
  ⟨fun hs => (h.fd a hs).elim hn.1 (fun h2 => by omega), fun hs => (h.fl a hs).elim hn.2 (fun h2 => by omega)⟩
theorem LStep.cell {Sd Sl Sd' Sl' : Nat → Prop} {w w' : World} (h : LStep Sd Sl Sd' Sl' w w') {a : Nat} {u : Value} (hc : w.cell? ⟨a, 0, none⟩ = some u) (hn : ¬ Sd a ∧ ¬ Sl a) : w'.cell? ⟨a, 0, none⟩ = some u := h.kp.cell hc (fun hb => hb.elim hn.1 hn.2)
def NextR (w : World) (Sd : Nat → Prop) (q p : Nat) (v : Value) (L : LState) (D : DState) (first : Nat) (er : Int) (w' : World) : Prop :=
  er = (L.nexts D first).2.2 ∧ LPost w Sd q p v (L.nexts D first).1 (L.nexts D first).2.1 w'
theorem next_W (w : World) (Sd : Nat → Prop) (q p : Nat) (L : LState) (D : DState) (v : Value) (al af h : Nat) (first : Nat) (hl : LogW w Sd q p L D v) (hal : w.cell? ⟨al, 0, none⟩ = some (.pointer (some ⟨q, 0, none⟩))) (hal2 : ¬ Sd al ∧ ¬ Ow q v al)
    (haf : w.cell? ⟨af, 0, none⟩ = some (.int .i64 (first : Int))) (haf2 : ¬ Sd af ∧ ¬ Ow q v af) (hh : h < w.heap.size) (hh2 : ¬ Sd h ∧ ¬ Ow q v h) (hfi : first ≤ 1152921504606846976) (hm : L.firsts.length < 1000000) :
    AllW q h (NextR w Sd q p v L D first) [(146, #[.pointer (some ⟨al, 0, none⟩)]), (147, #[.pointer (some ⟨al, 0, none⟩), .pointer (some ⟨af, 0, none⟩)]), (148, #[.pointer (some ⟨al, 0, none⟩), .pointer (some ⟨af, 0, none⟩)])] w := by
  have hwa := World.block_lt_of_cell? w _ hal
  have hwf := World.block_lt_of_cell? w _ haf
  refine ⟨eg_nx1, (nx1_any w Sd q p L D v al hl hal hal2).mono fun e w1 hc => hc.all hh2 hh (fun hne w2 hp => ?_) (fun he Sd1 v1 hl1 hs1 => ?_)⟩
  · have : L.nexts D first = (L.ended, (nx1 L D).1, (nx1 L D).2) := by unfold LState.nexts; rw [if_pos hne]
    rw [NextR, this]
    exact ⟨rfl, hp⟩
  · have hal1 := hs1.cell hal hal2
    have haf1 := hs1.cell haf haf2
    have hal21 := hs1.notd hwa hal2
    have haf21 := hs1.notd hwf haf2
    have hh21 := hs1.notd hh hh2
    have hh1 : h < w1.heap.size := Nat.lt_of_lt_of_le hh hs1.kp.size
    refine ⟨eg_nx2, (nx2_any w1 Sd1 q p L (nx1 L D).1 v1 al af first hl1 hal1 hal21 haf1 haf21 (by omega)).mono fun e w2 hc => hc.all hh21 hh1 (fun hne w3 hp => ?_) (fun he2 Sd2 v2 hl2 hs2 => ?_)⟩
    · have : L.nexts D first = ({ L with acked := L.last }.ended, (nx2 (nx1 L D).1 first).1, (nx2 (nx1 L D).1 first).2) := by unfold LState.nexts; rw [if_neg (by simpa using he), if_pos hne]
      rw [NextR, this]
      exact ⟨rfl, LPost.trans hs1 hp⟩
    · have hs12 := hs1.trans hs2
      refine ⟨eg_nx3, (nx3_any w2 Sd2 q p { L with acked := L.last } (nx2 (nx1 L D).1 first).1 v2 al af first hl2 (hs2.cell hal1 hal21) (hs2.notd (Nat.lt_of_lt_of_le hwa hs1.kp.size) hal21) (hs2.cell haf1 haf21) (hs2.notd (Nat.lt_of_lt_of_le hwf hs1.kp.size) haf21) hfi hm).mono fun e w3 hc => hc.all (hs2.notd hh1 hh21) (Nat.lt_of_lt_of_le hh1 hs2.kp.size) (fun hne => absurd rfl hne) (fun _ Sd3 v3 hl3 hs3 => ?_)⟩
      have : L.nexts D first = ({ L with acked := L.last, firsts := L.firsts ++ [first] }, (nx2 (nx1 L D).1 first).1, 0) := by unfold LState.nexts; rw [if_neg (by simpa using he), if_neg (by simpa using he2)]
      show NextR w Sd q p v L D first 0 w3
      rw [NextR, this]
      exact ⟨rfl, Sd3, v3, hl3, hs12.trans hs3⟩
/-- What a call on the log that tells an error does. -/
def EPost (w : World) (Sd : Nat → Prop) (q p : Nat) (v : Value) (r : LState × DState × Int) (e : Ending) (w' : World) : Prop :=
  e = .returned (.int .i64 r.2.2) ∧ LPost w Sd q p v r.1 r.2.1 w'
theorem LPost.from {w w1 w2 : World} {Sd : Nat → Prop} {q p : Nat} {v : Value} {L : LState} {D : DState} (h : LPost w1 Sd q p v L D w2) (hB : Below w.heap.size w w1) : LPost w Sd q p v L D w2 := LPost.trans (LStep.below Sd (Ow q v) hB) h
set_option maxHeartbeats 2000000 in
theorem next_any (w : World) (Sd : Nat → Prop) (q p : Nat) (L : LState) (D : DState) (v : Value) (first : Nat) (h : LogW w Sd q p L D v) (hfi : first ≤ 1152921504606846976) (hm : L.firsts.length < 1000000) :
    Calls Tryz.prog 85 #[.pointer (some ⟨q, 0, none⟩), .int .i64 (first : Int)] w (EPost w Sd q p v (L.nexts D first)) := by
  have hB := alloc3 w (.cells #[.pointer (some ⟨q, 0, none⟩)] 23) (.cells #[.int .i64 (first : Int)] 3) (.cells #[.func (.func 146) #[] #[.pointer (some ⟨w.heap.size, 0, none⟩)], .func (.func 147) #[] #[.pointer (some ⟨w.heap.size, 0, none⟩), .pointer (some ⟨w.heap.size + 1, 0, none⟩)], .func (.func 148) #[] #[.pointer (some ⟨w.heap.size, 0, none⟩), .pointer (some ⟨w.heap.size + 1, 0, none⟩)]] 35)
  have hal := cell_alloc (cell_alloc (cell_new w (.pointer (some ⟨q, 0, none⟩)) 23) (.cells #[.int .i64 (first : Int)] 3)) (.cells #[.func (.func 146) #[] #[.pointer (some ⟨w.heap.size, 0, none⟩)], .func (.func 147) #[] #[.pointer (some ⟨w.heap.size, 0, none⟩), .pointer (some ⟨w.heap.size + 1, 0, none⟩)], .func (.func 148) #[] #[.pointer (some ⟨w.heap.size, 0, none⟩), .pointer (some ⟨w.heap.size + 1, 0, none⟩)]] 35)
  have haf := cell_alloc (cell_new (w.alloc (.cells #[.pointer (some ⟨q, 0, none⟩)] 23)) (.int .i64 (first : Int)) 3) (.cells #[.func (.func 146) #[] #[.pointer (some ⟨w.heap.size, 0, none⟩)], .func (.func 147) #[] #[.pointer (some ⟨w.heap.size, 0, none⟩), .pointer (some ⟨w.heap.size + 1, 0, none⟩)], .func (.func 148) #[] #[.pointer (some ⟨w.heap.size, 0, none⟩), .pointer (some ⟨w.heap.size + 1, 0, none⟩)]] 35)
  have hro := heap_alloc_new ((w.alloc (.cells #[.pointer (some ⟨q, 0, none⟩)] 23)).alloc (.cells #[.int .i64 (first : Int)] 3)) (.cells #[.func (.func 146) #[] #[.pointer (some ⟨w.heap.size, 0, none⟩)], .func (.func 147) #[] #[.pointer (some ⟨w.heap.size, 0, none⟩), .pointer (some ⟨w.heap.size + 1, 0, none⟩)], .func (.func 148) #[] #[.pointer (some ⟨w.heap.size, 0, none⟩), .pointer (some ⟨w.heap.size + 1, 0, none⟩)]] 35)
  simp only [World.size_alloc] at haf hro
  have hn : ∀ a, w.heap.size ≤ a → ¬ Sd a ∧ ¬ Ow q v a := fun a ha => ⟨fun hs => by have := h.disk.foot a hs; omega, fun hs => by have := h.log.foot a hs; omega⟩
  have hW := next_W _ Sd q p L D v w.heap.size (w.heap.size + 1) (w.heap.size + 1 + 1) first (h.below hB) hal (hn _ (Nat.le_refl _)) haf (hn _ (by omega)) (by simp) (hn _ (by omega)) hfi hm
  have HC := Lib.hid (all_any _ q (w.heap.size + 1 + 1) 3 _ _ (by simp) (fun i hi => (cell_row hro i).trans (by
    match i, hi with
    | 0, _ => rfl
    | 1, _ => rfl
    | 2, _ => rfl
    | n + 3, hi => exact absurd hi (by simp))) hW)
  have HB := Lib.hid hB
  clear hB hal haf hro hn hW h
  go_enter Tryz.func85, Tryz.ntmps85
  go_wp2_with (go_at_call 87; refine HC.out.mono ?_; rintro e w' ⟨er, rfl, hr⟩)
  go_ret
  exact ⟨by rw [hr.1]; rfl, hr.2.from HB.out⟩
end Go.Proofs.YtohpgipgfmkflaaGreatDoor
namespace Go.Proofs.YtohpgipgfmkflaaGreatDoor
set_option linter.unusedSectionVars false
variable [Base]
open Go.RowKit
set_option maxRecDepth 100000
set_option linter.unusedVariables false
set_option linter.unusedSimpArgs false
attribute [local go_sem ↓] Go.wp_at_zero Go.wp_at_succ

theorem eg_ls1 (args : Array Value) (w : World) : (callFunc 90 args).run Tryz.prog w = .ok (.enter 90 args) w := by kernel_rfl
theorem eg_lw1 (args : Array Value) (w : World) : (callFunc 88 args).run Tryz.prog w = .ok (.enter 88 args) w := by kernel_rfl
set_option maxHeartbeats 2000000 in
theorem ls1_any (w : World) (Sd : Nat → Prop) (q p : Nat) (L : LState) (D : DState) (v : Value) (al : Nat) (h : LogW w Sd q p L D v) (hne : L.firsts ≠ []) (hal : w.cell? ⟨al, 0, none⟩ = some (.pointer (some ⟨q, 0, none⟩))) (hal2 : ¬ Sd al ∧ ¬ Ow q v al) :
    Calls Tryz.prog 90 #[.pointer (some ⟨al, 0, none⟩)] w (CPost w Sd q p v L (D.sync (fileN L.firsts)).1 (D.sync (fileN L.firsts)).2) := by
  have hc0 := h.log.lc.c0
  have HF := Lib.hid (fun wx (hb : Below w.heap.size w wx) => file_any wx q p L v (h.log.below hb) h.wf hne (h.laid.below hb))
  have HH := Lib.hid h
  have hqp := World.block_lt_of_cell? w _ hc0
  have hap := World.block_lt_of_cell? w _ hal
  clear h hne
  go_enter Tryz.func90, Tryz.ntmps90
  go_wp2
  refine wp_region_noPanic ?_
  refine wp_region_held_drew (S := (fun w' => w'.cell? ⟨al, 0, none⟩ = some (.pointer (some ⟨q, 0, none⟩)) ∧ w'.cell? ⟨q, 0, none⟩ = some (.pointer (some ⟨p, 0, none⟩)))) (by kernel_rfl) ?_ (fun hHeld => ?_)
  · exact ⟨hal, hc0⟩
  refine wpAnyH_take (i := 0) (oi := _) (v := ?_) rfl (by kernel_rfl) (by kernel_rfl) (by kernel_rfl) (fun _ _ _ h => h) (Or.inl ⟨by rfl, ?_⟩) (by assumption) ?_
  rotate_left
  · intro w hSw
    try dsimp only at hSw
    go_simp
    try with_reducible rfl
  try simp only [Act.put, List.setIfInBounds_toArray, List.set_cons_zero, List.set_cons_succ, List.getElem_toArray, List.getElem_cons_zero, List.getElem_cons_succ]
  refine wpAnyH_take (i := 1) (oi := _) (v := ?_) rfl (by kernel_rfl) (by kernel_rfl) (by kernel_rfl) (fun _ _ _ h => h) (Or.inl ⟨by rfl, ?_⟩) (by assumption) ?_
  rotate_left
  · intro w hSw
    try dsimp only at hSw
    go_simp
    try with_reducible rfl
  try simp only [Act.put, List.setIfInBounds_toArray, List.set_cons_zero, List.set_cons_succ, List.getElem_toArray, List.getElem_cons_zero, List.getElem_cons_succ]
  refine wpAnyH_take (i := 2) (oi := _) (v := ?_) rfl (by kernel_rfl) (by kernel_rfl) (by kernel_rfl) (fun _ _ _ h => h) (Or.inl ⟨by rfl, ?_⟩) (by assumption) ?_
  rotate_left
  · intro w hSw
    try dsimp only at hSw
    go_simp
    try with_reducible rfl
  try simp only [Act.put, List.setIfInBounds_toArray, List.set_cons_zero, List.set_cons_succ, List.getElem_toArray, List.getElem_cons_zero, List.getElem_cons_succ]
  refine wpAnyH_take (i := 3) (oi := _) (v := ?_) rfl (by kernel_rfl) (by kernel_rfl) (by kernel_rfl) (fun _ _ _ h => h) (Or.inl ⟨by rfl, ?_⟩) (by assumption) ?_
  rotate_left
  · intro w hSw
    try dsimp only at hSw
    go_simp
    try with_reducible rfl
  try simp only [Act.put, List.setIfInBounds_toArray, List.set_cons_zero, List.set_cons_succ, List.getElem_toArray, List.getElem_cons_zero, List.getElem_cons_succ]
  refine wpAnyH_take (i := 4) (oi := _) (v := ?_) rfl (by kernel_rfl) (by kernel_rfl) (by kernel_rfl) (fun _ _ _ h => h) (Or.inl ⟨by rfl, ?_⟩) (by assumption) ?_
  rotate_left
  · intro w hSw
    try dsimp only at hSw
    go_simp
    try with_reducible rfl
  try simp only [Act.put, List.setIfInBounds_toArray, List.set_cons_zero, List.set_cons_succ, List.getElem_toArray, List.getElem_cons_zero, List.getElem_cons_succ]
  refine wpAnyH_ready (rs := [5]) (by kernel_rfl) (by simp) ?_
  refine AllReadyH.cons (o := _) rfl (fun K hK => ?_) AllReadyH.nil
  go_simp
  go_at_call 84
  refine (HF.out _ (Below.refl _ _).drew).mono ?_
  rintro e w2 ⟨rfl, hb2⟩
  have hBz : Below w.heap.size w w2 := ⟨hb2.os, hb2.tape, hb2.output, hb2.size, hb2.block⟩
  have HS := Lib.hid (sync_any w2 Sd p D (fileN L.firsts) (HH.out.disk.below hBz))
  go_wp2
  refine hK.out _ _ ?_ (fun hHeld => ?_)
  · exact ⟨(hBz.cell (p := ⟨al, 0, none⟩) hap).trans hal, (hBz.cell (p := ⟨q, 0, none⟩) hqp).trans hc0⟩
  clear hK K
  try simp only [Act.put, List.setIfInBounds_toArray, List.set_cons_zero, List.set_cons_succ, List.getElem_toArray, List.getElem_cons_zero, List.getElem_cons_succ]
  refine wpAnyH_ready (rs := [6]) (by kernel_rfl) (by simp) ?_
  refine AllReadyH.cons (o := _) rfl (fun K hK => ?_) AllReadyH.nil
  go_simp
  go_at_call 68
  refine HS.out.mono ?_
  rintro e w3 hp
  have HP := Lib.hid (HH.out.deed hBz hp)
  obtain ⟨S', rfl, hd, hs⟩ := hp
  have hq1 := hs.kp.cell ((hBz.cell (p := ⟨al, 0, none⟩) hap).trans hal) hal2.1
  have hq2 := hs.kp.cell ((hBz.cell (p := ⟨q, 0, none⟩) hqp).trans hc0) (HH.out.apart q (.inl rfl))
  clear hd hs
  go_wp2
  refine hK.out _ _ ?_ (fun hHeld => ?_)
  · exact ⟨hq1, hq2⟩
  clear hK K
  try simp only [Act.put, List.setIfInBounds_toArray, List.set_cons_zero, List.set_cons_succ, List.getElem_toArray, List.getElem_cons_zero, List.getElem_cons_succ]
  refine wpAnyH_take (i := 7) (oi := _) (v := ?_) rfl (by kernel_rfl) (by kernel_rfl) (by kernel_rfl) (fun _ _ _ h => h) (Or.inl ⟨by rfl, ?_⟩) (by assumption) ?_
  rotate_left
  · intro w hSw
    try dsimp only at hSw
    go_simp
    try with_reducible rfl
  try simp only [Act.put, List.setIfInBounds_toArray, List.set_cons_zero, List.set_cons_succ, List.getElem_toArray, List.getElem_cons_zero, List.getElem_cons_succ]
  refine wpAnyH_done (by kernel_rfl) ?_ _
  refine NoPanic.normal ?_
  go_wp2
  go_ret
  exact HP.out
set_option maxHeartbeats 2000000 in
theorem lw1_any (w : World) (Sd : Nat → Prop) (q p : Nat) (L : LState) (D : DState) (v vb : Value) (lb : List UInt8) (al ab : Nat) (h : LogW w Sd q p L D v) (hne : L.firsts ≠ []) (hal : w.cell? ⟨al, 0, none⟩ = some (.pointer (some ⟨q, 0, none⟩))) (hal2 : ¬ Sd al ∧ ¬ Ow q v al)
    (hab : w.cell? ⟨ab, 0, none⟩ = some vb) (hab2 : ¬ Sd ab ∧ ¬ Ow q v ab) (hb : RdB w Sd vb lb) (hl : lb.length ≤ 140737488355328) :
    Calls Tryz.prog 88 #[.pointer (some ⟨al, 0, none⟩), .pointer (some ⟨ab, 0, none⟩)] w (CPost w Sd q p v L (D.append (fileN L.firsts) lb).1 (D.append (fileN L.firsts) lb).2) := by
  have hc0 := h.log.lc.c0
  have HF := Lib.hid (fun wx (hb : Below w.heap.size w wx) => file_any wx q p L v (h.log.below hb) h.wf hne (h.laid.below hb))
  have HH := Lib.hid h
  have HB := Lib.hid hb
  obtain ⟨A, c, rfl, _⟩ := id hb
  have hqp := World.block_lt_of_cell? w _ hc0
  have hap := World.block_lt_of_cell? w _ hal
  have hbp := World.block_lt_of_cell? w _ hab
  have hfs := nameB_size ((L.firsts.getLastD 0 : Nat) : Int) (by omega) (by
    rcases hk : L.firsts.length with _ | k
    · exact absurd (List.eq_nil_of_length_eq_zero hk) hne
    · have := h.wf.firsts _ (List.getElem_mem (show k < L.firsts.length by omega))
      rw [getLastD_eq _ k hk]; omega)
  have HFS := Lib.hid hfs
  clear h hne hb hfs
  go_enter Tryz.func88, Tryz.ntmps88
  go_wp2
  refine wp_region_noPanic ?_
  refine wp_region_held_drew (S := (fun w' => w'.cell? ⟨al, 0, none⟩ = some (.pointer (some ⟨q, 0, none⟩)) ∧ w'.cell? ⟨q, 0, none⟩ = some (.pointer (some ⟨p, 0, none⟩)) ∧ w'.cell? ⟨ab, 0, none⟩ = some (.slice A lb.length c))) (by kernel_rfl) ?_ (fun hHeld => ?_)
  · exact ⟨hal, hc0, hab⟩
  refine wpAnyH_take (i := 0) (oi := _) (v := ?_) rfl (by kernel_rfl) (by kernel_rfl) (by kernel_rfl) (fun _ _ _ h => h) (Or.inl ⟨by rfl, ?_⟩) (by assumption) ?_
  rotate_left
  · intro w hSw
    try dsimp only at hSw
    go_simp
    try with_reducible rfl
  try simp only [Act.put, List.setIfInBounds_toArray, List.set_cons_zero, List.set_cons_succ, List.getElem_toArray, List.getElem_cons_zero, List.getElem_cons_succ]
  refine wpAnyH_take (i := 1) (oi := _) (v := ?_) rfl (by kernel_rfl) (by kernel_rfl) (by kernel_rfl) (fun _ _ _ h => h) (Or.inl ⟨by rfl, ?_⟩) (by assumption) ?_
  rotate_left
  · intro w hSw
    try dsimp only at hSw
    go_simp
    try with_reducible rfl
  try simp only [Act.put, List.setIfInBounds_toArray, List.set_cons_zero, List.set_cons_succ, List.getElem_toArray, List.getElem_cons_zero, List.getElem_cons_succ]
  refine wpAnyH_take (i := 2) (oi := _) (v := ?_) rfl (by kernel_rfl) (by kernel_rfl) (by kernel_rfl) (fun _ _ _ h => h) (Or.inl ⟨by rfl, ?_⟩) (by assumption) ?_
  rotate_left
  · intro w hSw
    try dsimp only at hSw
    go_simp
    try with_reducible rfl
  try simp only [Act.put, List.setIfInBounds_toArray, List.set_cons_zero, List.set_cons_succ, List.getElem_toArray, List.getElem_cons_zero, List.getElem_cons_succ]
  refine wpAnyH_take (i := 3) (oi := _) (v := ?_) rfl (by kernel_rfl) (by kernel_rfl) (by kernel_rfl) (fun _ _ _ h => h) (Or.inl ⟨by rfl, ?_⟩) (by assumption) ?_
  rotate_left
  · intro w hSw
    try dsimp only at hSw
    go_simp
    try with_reducible rfl
  try simp only [Act.put, List.setIfInBounds_toArray, List.set_cons_zero, List.set_cons_succ, List.getElem_toArray, List.getElem_cons_zero, List.getElem_cons_succ]
  refine wpAnyH_take (i := 4) (oi := _) (v := ?_) rfl (by kernel_rfl) (by kernel_rfl) (by kernel_rfl) (fun _ _ _ h => h) (Or.inl ⟨by rfl, ?_⟩) (by assumption) ?_
  rotate_left
  · intro w hSw
    try dsimp only at hSw
    go_simp
    try with_reducible rfl
  try simp only [Act.put, List.setIfInBounds_toArray, List.set_cons_zero, List.set_cons_succ, List.getElem_toArray, List.getElem_cons_zero, List.getElem_cons_succ]
  refine wpAnyH_take (i := 6) (oi := _) (v := ?_) rfl (by kernel_rfl) (by kernel_rfl) (by kernel_rfl) (fun _ _ _ h => h) (Or.inl ⟨by rfl, ?_⟩) (by assumption) ?_
  rotate_left
  · intro w hSw
    try dsimp only at hSw
    go_simp
    try with_reducible rfl
  try simp only [Act.put, List.setIfInBounds_toArray, List.set_cons_zero, List.set_cons_succ, List.getElem_toArray, List.getElem_cons_zero, List.getElem_cons_succ]
  refine wpAnyH_ready (rs := [5]) (by kernel_rfl) (by simp) ?_
  refine AllReadyH.cons (o := _) rfl (fun K hK => ?_) AllReadyH.nil
  go_simp
  go_at_call 84
  refine (HF.out _ (Below.refl _ _).drew).mono ?_
  rintro e w2 ⟨rfl, hb2⟩
  have hBz : Below w.heap.size w w2 := ⟨hb2.os, hb2.tape, hb2.output, hb2.size, hb2.block⟩
  have HS := Lib.hid (append_any w2 Sd Sd p D (fileN L.firsts) _ lb (HH.out.disk.below hBz) (HB.out.below hBz (fun _ h => .inl h)) HFS.out hl)
  go_wp2
  refine hK.out _ _ ?_ (fun hHeld => ?_)
  · exact ⟨(hBz.cell (p := ⟨al, 0, none⟩) hap).trans hal, (hBz.cell (p := ⟨q, 0, none⟩) hqp).trans hc0, (hBz.cell (p := ⟨ab, 0, none⟩) hbp).trans hab⟩
  clear hK K
  try simp only [Act.put, List.setIfInBounds_toArray, List.set_cons_zero, List.set_cons_succ, List.getElem_toArray, List.getElem_cons_zero, List.getElem_cons_succ]
  refine wpAnyH_ready (rs := [7]) (by kernel_rfl) (by simp) ?_
  refine AllReadyH.cons (o := _) rfl (fun K hK => ?_) AllReadyH.nil
  go_simp
  go_at_call 63
  refine HS.out.mono ?_
  rintro e w3 hp
  have HP := Lib.hid (HH.out.deed hBz hp)
  obtain ⟨S', rfl, hd, hs⟩ := hp
  have hq1 := hs.kp.cell ((hBz.cell (p := ⟨al, 0, none⟩) hap).trans hal) hal2.1
  have hq2 := hs.kp.cell ((hBz.cell (p := ⟨q, 0, none⟩) hqp).trans hc0) (HH.out.apart q (.inl rfl))
  have hq3 := hs.kp.cell ((hBz.cell (p := ⟨ab, 0, none⟩) hbp).trans hab) hab2.1
  clear hd hs
  go_wp2
  refine hK.out _ _ ?_ (fun hHeld => ?_)
  · exact ⟨hq1, hq2, hq3⟩
  clear hK K
  try simp only [Act.put, List.setIfInBounds_toArray, List.set_cons_zero, List.set_cons_succ, List.getElem_toArray, List.getElem_cons_zero, List.getElem_cons_succ]
  refine wpAnyH_take (i := 8) (oi := _) (v := ?_) rfl (by kernel_rfl) (by kernel_rfl) (by kernel_rfl) (fun _ _ _ h => h) (Or.inl ⟨by rfl, ?_⟩) (by assumption) ?_
  rotate_left
  · intro w hSw
    try dsimp only at hSw
    go_simp
    try with_reducible rfl
  try simp only [Act.put, List.setIfInBounds_toArray, List.set_cons_zero, List.set_cons_succ, List.getElem_toArray, List.getElem_cons_zero, List.getElem_cons_succ]
  refine wpAnyH_done (by kernel_rfl) ?_ _
  refine NoPanic.normal ?_
  go_wp2
  go_ret
  exact HP.out
/-- Sync. -/
def LState.syncs (L : LState) (D : DState) : LState × DState × Int :=
  if L.over then (L, D, 17)
  else if L.firsts = [] then ({ L with acked := L.last }, D, 0)
  else if (D.sync (fileN L.firsts)).2 ≠ 0 then (L.ended, (D.sync (fileN L.firsts)).1, (D.sync (fileN L.firsts)).2)
  else ({ L with acked := L.last }, (D.sync (fileN L.firsts)).1, 0)
def SyncR (w : World) (Sd : Nat → Prop) (q p : Nat) (v : Value) (L : LState) (D : DState) (er : Int) (w' : World) : Prop :=
  er = (D.sync (fileN L.firsts)).2 ∧ LPost w Sd q p v (if er ≠ 0 then L.ended else L) (D.sync (fileN L.firsts)).1 w'
theorem sync_W (w : World) (Sd : Nat → Prop) (q p : Nat) (L : LState) (D : DState) (v : Value) (al h : Nat) (hl : LogW w Sd q p L D v) (hne : L.firsts ≠ []) (hal : w.cell? ⟨al, 0, none⟩ = some (.pointer (some ⟨q, 0, none⟩))) (hal2 : ¬ Sd al ∧ ¬ Ow q v al)
    (hh : h < w.heap.size) (hh2 : ¬ Sd h ∧ ¬ Ow q v h) : AllW q h (SyncR w Sd q p v L D) [(90, #[.pointer (some ⟨al, 0, none⟩)])] w := by
  refine ⟨eg_ls1, (ls1_any w Sd q p L D v al hl hne hal hal2).mono fun e w1 hc => hc.all hh2 hh (fun hne w2 hp => ?_) (fun he Sd1 v1 hl1 hs1 => ?_)⟩
  · refine ⟨rfl, ?_⟩
    rw [if_pos hne]
    exact hp
  · show SyncR w Sd q p v L D 0 w1
    refine ⟨he.symm, ?_⟩
    rw [if_neg (by simp)]
    exact ⟨Sd1, v1, hl1, hs1⟩
end Go.Proofs.YtohpgipgfmkflaaGreatDoor
namespace Go.Proofs.YtohpgipgfmkflaaGreatDoor
set_option linter.unusedSectionVars false
variable [Base]
open Go.RowKit
set_option maxRecDepth 100000
set_option linter.unusedVariables false
set_option linter.unusedSimpArgs false
attribute [local go_sem ↓] Go.wp_at_zero Go.wp_at_succ

set_option maxHeartbeats 2000000 in
theorem lsync_any (w : World) (Sd : Nat → Prop) (q p : Nat) (L : LState) (D : DState) (v : Value) (h : LogW w Sd q p L D v) :
    Calls Tryz.prog 20 #[.pointer (some ⟨q, 0, none⟩)] w (EPost w Sd q p v (L.syncs D)) := by
  have hB := (Below.refl w.heap.size w).alloc (Nat.le_refl _) (.cells #[.pointer (some ⟨q, 0, none⟩)] 23)
  have hal := cell_new w (.pointer (some ⟨q, 0, none⟩)) 23
  have hn : ∀ a, w.heap.size ≤ a → ¬ Sd a ∧ ¬ Ow q v a := fun a ha => ⟨fun hs => by have := h.disk.foot a hs; omega, fun hs => by have := h.log.foot a hs; omega⟩
  have hX := h.below hB
  obtain ⟨X, hXe⟩ : ∃ X, w.alloc (.cells #[.pointer (some ⟨q, 0, none⟩)] 23) = X := ⟨_, rfl⟩
  have hXs : X.heap.size = w.heap.size + 1 := by rw [← hXe]; simp
  rw [hXe] at hB hal hX
  have hal2 := hn _ (Nat.le_refl _)
  have HXs := Lib.hid hXs
  have HXe := Lib.hid hXe
  have HH := Lib.hid hX
  have HB := Lib.hid hB
  have HN := Lib.hid hn
  have HU := Lib.hid (up_any X q p L v hX.log)
  have hc2 := hX.log.lc.c2
  have hc3 := hX.log.lc.c3
  have hc4 := hX.log.lc.c4
  have hfz := hX.log.lc.fz 4
  have hHq : w.heap.size ≠ q := fun e => hal2.2 (.inl e)
  obtain ⟨A, c, ev⟩ := hX.log.row.slice
  cases ho : L.over with
  | true =>
    have hU : Hid (upE L = 17) := Lib.hid (by unfold upE; rw [ho]; rfl)
    have hR := Lib.hid (show L.syncs D = (L, D, 17) by unfold LState.syncs; rw [ho]; rfl)
    rw [hU.out] at HU
    clear hB hX hXs hXe hn ev ho h hc2 hc3 hc4
    go_enter Tryz.func20, Tryz.ntmps20
    go_wp2_with (go_at_call 83; simp only [HXe.out]; refine HU.out.mono ?_; rintro e w' ⟨rfl, rfl⟩)
    go_ret
    rw [EPost, hR.out]
    exact ⟨rfl, Sd, v, HH.out, LStep.below _ _ HB.out⟩
  | false =>
    have hU : Hid (upE L = 0) := Lib.hid (by unfold upE; rw [ho]; rfl)
    rw [hU.out] at HU
    have hwa := LState.WF.ack hX.wf
    by_cases hne : L.firsts = []
    · have hR := Lib.hid (show L.syncs D = ({ L with acked := L.last }, D, 0) by unfold LState.syncs; rw [ho, if_neg (by simp), if_pos hne])
      have hlen : L.firsts.length = 0 := by rw [hne]; rfl
      rw [hlen] at ev
      rw [ev] at hc2
      have hset := Lib.hid (hX.set (L' := { L with acked := L.last }) 4 (.int .i64 (L.last : Int)) hwa rfl rfl)
      have hc31 : (X.setCell ⟨q, 4, none⟩ (.int .i64 (L.last : Int))).cell? ⟨q, 3, none⟩ = some (.int .i64 (L.last : Int)) := (World.cell?_setCell_other _ _ _ _ (by simp)).trans hc3
      clear hB hX hXs hXe hn ev ho h hne hlen hwa
      go_enter Tryz.func20, Tryz.ntmps20
      go_wp2_with (go_at_call 83; simp only [HXe.out]; refine HU.out.mono ?_; rintro e w' ⟨rfl, rfl⟩)
      refine wp_region_noPanic ?_
      refine wp_region_held_drew (S := (fun w' => w'.cell? ⟨w.heap.size, 0, none⟩ = some (.pointer (some ⟨q, 0, none⟩)) ∧ w'.cell? ⟨q, 3, none⟩ = some (.int .i64 (L.last : Int)))) (by kernel_rfl) ?_ (fun hHeld => ?_)
      · exact ⟨hal, hc3⟩
      refine wpAnyH_take (i := 0) (oi := _) (v := ?_) rfl (by kernel_rfl) (by kernel_rfl) (by kernel_rfl) (fun _ _ _ h => h) (Or.inl ⟨by rfl, ?_⟩) (by assumption) ?_
      rotate_left
      · intro w hSw
        try dsimp only at hSw
        go_simp
        try with_reducible rfl
      try simp only [Act.put, List.setIfInBounds_toArray, List.set_cons_zero, List.set_cons_succ, List.getElem_toArray, List.getElem_cons_zero, List.getElem_cons_succ]
      refine wpAnyH_take (i := 1) (oi := _) (v := ?_) rfl (by kernel_rfl) (by kernel_rfl) (by kernel_rfl) (fun _ _ _ h => h) (Or.inl ⟨by rfl, ?_⟩) (by assumption) ?_
      rotate_left
      · intro w hSw
        try dsimp only at hSw
        go_simp
        try with_reducible rfl
      try simp only [Act.put, List.setIfInBounds_toArray, List.set_cons_zero, List.set_cons_succ, List.getElem_toArray, List.getElem_cons_zero, List.getElem_cons_succ]
      refine wpAnyH_take (i := 2) (oi := _) (v := ?_) rfl (by kernel_rfl) (by kernel_rfl) (by kernel_rfl) (fun _ _ _ h => h) (Or.inl ⟨by rfl, ?_⟩) (by assumption) ?_
      rotate_left
      · intro w hSw
        try dsimp only at hSw
        go_simp
        try with_reducible rfl
      try simp only [Act.put, List.setIfInBounds_toArray, List.set_cons_zero, List.set_cons_succ, List.getElem_toArray, List.getElem_cons_zero, List.getElem_cons_succ]
      refine wpAnyH_take (i := 3) (oi := _) (v := ?_) rfl (by kernel_rfl) (by kernel_rfl) (by kernel_rfl) (fun _ _ _ h => h) (Or.inl ⟨by rfl, ?_⟩) (by assumption) ?_
      rotate_left
      · intro w hSw
        try dsimp only at hSw
        go_simp
        try with_reducible rfl
      try simp only [Act.put, List.setIfInBounds_toArray, List.set_cons_zero, List.set_cons_succ, List.getElem_toArray, List.getElem_cons_zero, List.getElem_cons_succ]
      refine wpAnyH_take (i := 4) (oi := _) (v := ?_) rfl (by kernel_rfl) (by kernel_rfl) (by kernel_rfl) (fun _ _ _ h => h) (Or.inl ⟨by rfl, ?_⟩) (by assumption) ?_
      rotate_left
      · intro w hSw
        try dsimp only at hSw
        go_simp
        try with_reducible rfl
      try simp only [Act.put, List.setIfInBounds_toArray, List.set_cons_zero, List.set_cons_succ, List.getElem_toArray, List.getElem_cons_zero, List.getElem_cons_succ]
      refine wpAnyH_take (i := 5) (oi := _) (v := ?_) rfl (by kernel_rfl) (by kernel_rfl) (by kernel_rfl) (fun _ _ _ h => h) (Or.inl ⟨by rfl, ?_⟩) (by assumption) ?_
      rotate_left
      · intro w hSw
        try dsimp only at hSw
        go_simp
        try with_reducible rfl
      try simp only [Act.put, List.setIfInBounds_toArray, List.set_cons_zero, List.set_cons_succ, List.getElem_toArray, List.getElem_cons_zero, List.getElem_cons_succ]
      refine wpAnyH_take (i := 6) (oi := _) (v := ?_) rfl (by kernel_rfl) (by kernel_rfl) (by kernel_rfl) (fun _ _ _ h => h) (Or.inl ⟨by rfl, ?_⟩) (by assumption) ?_
      rotate_left
      · intro w hSw
        try dsimp only at hSw
        go_simp
        try with_reducible rfl
      try simp only [Act.put, List.setIfInBounds_toArray, List.set_cons_zero, List.set_cons_succ, List.getElem_toArray, List.getElem_cons_zero, List.getElem_cons_succ]
      refine wpAnyH_ready (rs := [7]) (by kernel_rfl) (by simp) ?_
      refine AllReadyH.cons (o := _) rfl (fun K hK => ?_) AllReadyH.nil
      go_simp
      refine hK.out _ _ ?_ (fun hHeld => ?_)
      · exact ⟨cell_set1 hal hHq, hc31⟩
      clear hK K
      try simp only [Act.put, List.setIfInBounds_toArray, List.set_cons_zero, List.set_cons_succ, List.getElem_toArray, List.getElem_cons_zero, List.getElem_cons_succ]
      refine wpAnyH_done (by kernel_rfl) ?_ _
      refine NoPanic.normal ?_
      go_wp2
      go_ret
      rw [EPost, hR.out]
      have hset := hset.out
      exact ⟨rfl, Sd, v, hset.1.below (Below.refl _ _).drew, ((LStep.below Sd (Ow q v) HB.out).trans hset.2).trans (LStep.below _ _ (Below.refl _ _).drew)⟩
    · have hgt : decide ((0 : Int) < (L.firsts.length : Int)) = true := decide_eq_true (by have := List.length_pos_iff.2 hne; omega)
      have hgt2 : 0 < L.firsts.length := List.length_pos_iff.2 hne
      have hgt3 : decide (0 < L.firsts.length) = true := decide_eq_true hgt2
      rw [ev] at hc2
      have hB2 := (Below.refl X.heap.size X).alloc (Nat.le_refl _) (.cells #[.func (.func 90) #[] #[.pointer (some ⟨w.heap.size, 0, none⟩)]] 35)
      have hwX : w.heap.size < X.heap.size := by omega
      have hW := sync_W _ Sd q p L D v w.heap.size X.heap.size (hX.below hB2) hne (cell_alloc hal _) hal2 (by simp) (hn _ (by omega))
      have HC := Lib.hid (all_any _ q X.heap.size 1 _ _ (by simp) (fun i hi => (cell_row (heap_alloc_new X (.cells #[.func (.func 90) #[] #[.pointer (some ⟨w.heap.size, 0, none⟩)]] 35)) i).trans (by
        match i, hi with
        | 0, _ => rfl
        | n + 1, hi => exact absurd hi (by simp))) hW)
      have HB2 := Lib.hid hB2
      have HNE := Lib.hid hne
      have HO := Lib.hid ho
      clear hB hX hXs hXe hn ev ho h hne hc3 hc4 hfz hW hB2
      go_enter Tryz.func20, Tryz.ntmps20
      go_wp2_with (first | (go_at_call 83; simp only [HXe.out]; refine HU.out.mono ?_; rintro e w' ⟨rfl, rfl⟩) | (go_at_call 87; refine HC.out.mono ?_; rintro e w1 ⟨er, rfl, hr⟩; have HR1 := Lib.hid hr; clear hr))
      · have hne1' : er ≠ 0 := by simpa using (by assumption : (er != 0) = true)
        go_ret
        obtain ⟨he, hp⟩ := HR1.out
        rw [if_pos hne1'] at hp
        have hR : L.syncs D = (L.ended, (D.sync (fileN L.firsts)).1, er) := by
          unfold LState.syncs
          rw [HO.out, if_neg (by simp), if_neg HNE.out, if_pos (by rw [← he]; exact hne1'), ← he]
        rw [EPost, hR]
        exact ⟨rfl, (hp.from HB2.out).from HB.out⟩
      · have her : er = 0 := by simpa using (by assumption : (er != 0) = false)
        obtain ⟨he, hp⟩ := HR1.out
        rw [if_neg (by simpa using her)] at hp
        obtain ⟨Sd1, v1, hl1, hs1⟩ := hp
        have hR := Lib.hid (show L.syncs D = ({ L with acked := L.last }, (D.sync (fileN L.firsts)).1, 0) by
          unfold LState.syncs
          rw [HO.out, if_neg (by simp), if_neg HNE.out, if_neg (by rw [← he]; simpa using her)])
        have hwX : w.heap.size < X.heap.size := World.block_lt_of_cell? X _ hal
        have hal1 := hs1.cell (cell_alloc hal (.cells #[.func (.func 90) #[] #[.pointer (some ⟨w.heap.size, 0, none⟩)]] 35)) hal2
        have hal21 := hs1.notd (a := w.heap.size) (by simp; omega) hal2
        have hHq1 : w.heap.size ≠ q := fun e => hal21.2 (.inl e)
        have hc31 := hl1.log.lc.c3
        have hc41 := hl1.log.lc.c4
        have hfz1 := hl1.log.lc.fz 4
        have hset := Lib.hid (hl1.set (L' := { L with acked := L.last }) 4 (.int .i64 (L.last : Int)) hwa rfl rfl)
        have hc32 : (w1.setCell ⟨q, 4, none⟩ (.int .i64 (L.last : Int))).cell? ⟨q, 3, none⟩ = some (.int .i64 (L.last : Int)) := (World.cell?_setCell_other _ _ _ _ (by simp)).trans hc31
        have HS1 := Lib.hid hs1
        clear hl1 hs1 he her hal hc2
        refine wp_region_noPanic ?_
        refine wp_region_held_drew (S := (fun w' => w'.cell? ⟨w.heap.size, 0, none⟩ = some (.pointer (some ⟨q, 0, none⟩)) ∧ w'.cell? ⟨q, 3, none⟩ = some (.int .i64 (L.last : Int)))) (by kernel_rfl) ?_ (fun hHeld => ?_)
        · exact ⟨hal1, hc31⟩
        refine wpAnyH_take (i := 0) (oi := _) (v := ?_) rfl (by kernel_rfl) (by kernel_rfl) (by kernel_rfl) (fun _ _ _ h => h) (Or.inl ⟨by rfl, ?_⟩) (by assumption) ?_
        rotate_left
        · intro w hSw
          try dsimp only at hSw
          go_simp
          try with_reducible rfl
        try simp only [Act.put, List.setIfInBounds_toArray, List.set_cons_zero, List.set_cons_succ, List.getElem_toArray, List.getElem_cons_zero, List.getElem_cons_succ]
        refine wpAnyH_take (i := 1) (oi := _) (v := ?_) rfl (by kernel_rfl) (by kernel_rfl) (by kernel_rfl) (fun _ _ _ h => h) (Or.inl ⟨by rfl, ?_⟩) (by assumption) ?_
        rotate_left
        · intro w hSw
          try dsimp only at hSw
          go_simp
          try with_reducible rfl
        try simp only [Act.put, List.setIfInBounds_toArray, List.set_cons_zero, List.set_cons_succ, List.getElem_toArray, List.getElem_cons_zero, List.getElem_cons_succ]
        refine wpAnyH_take (i := 2) (oi := _) (v := ?_) rfl (by kernel_rfl) (by kernel_rfl) (by kernel_rfl) (fun _ _ _ h => h) (Or.inl ⟨by rfl, ?_⟩) (by assumption) ?_
        rotate_left
        · intro w hSw
          try dsimp only at hSw
          go_simp
          try with_reducible rfl
        try simp only [Act.put, List.setIfInBounds_toArray, List.set_cons_zero, List.set_cons_succ, List.getElem_toArray, List.getElem_cons_zero, List.getElem_cons_succ]
        refine wpAnyH_take (i := 3) (oi := _) (v := ?_) rfl (by kernel_rfl) (by kernel_rfl) (by kernel_rfl) (fun _ _ _ h => h) (Or.inl ⟨by rfl, ?_⟩) (by assumption) ?_
        rotate_left
        · intro w hSw
          try dsimp only at hSw
          go_simp
          try with_reducible rfl
        try simp only [Act.put, List.setIfInBounds_toArray, List.set_cons_zero, List.set_cons_succ, List.getElem_toArray, List.getElem_cons_zero, List.getElem_cons_succ]
        refine wpAnyH_take (i := 4) (oi := _) (v := ?_) rfl (by kernel_rfl) (by kernel_rfl) (by kernel_rfl) (fun _ _ _ h => h) (Or.inl ⟨by rfl, ?_⟩) (by assumption) ?_
        rotate_left
        · intro w hSw
          try dsimp only at hSw
          go_simp
          try with_reducible rfl
        try simp only [Act.put, List.setIfInBounds_toArray, List.set_cons_zero, List.set_cons_succ, List.getElem_toArray, List.getElem_cons_zero, List.getElem_cons_succ]
        refine wpAnyH_take (i := 5) (oi := _) (v := ?_) rfl (by kernel_rfl) (by kernel_rfl) (by kernel_rfl) (fun _ _ _ h => h) (Or.inl ⟨by rfl, ?_⟩) (by assumption) ?_
        rotate_left
        · intro w hSw
          try dsimp only at hSw
          go_simp
          try with_reducible rfl
        try simp only [Act.put, List.setIfInBounds_toArray, List.set_cons_zero, List.set_cons_succ, List.getElem_toArray, List.getElem_cons_zero, List.getElem_cons_succ]
        refine wpAnyH_take (i := 6) (oi := _) (v := ?_) rfl (by kernel_rfl) (by kernel_rfl) (by kernel_rfl) (fun _ _ _ h => h) (Or.inl ⟨by rfl, ?_⟩) (by assumption) ?_
        rotate_left
        · intro w hSw
          try dsimp only at hSw
          go_simp
          try with_reducible rfl
        try simp only [Act.put, List.setIfInBounds_toArray, List.set_cons_zero, List.set_cons_succ, List.getElem_toArray, List.getElem_cons_zero, List.getElem_cons_succ]
        refine wpAnyH_ready (rs := [7]) (by kernel_rfl) (by simp) ?_
        refine AllReadyH.cons (o := _) rfl (fun K hK => ?_) AllReadyH.nil
        go_simp
        refine hK.out _ _ ?_ (fun hHeld => ?_)
        · exact ⟨cell_set1 hal1 hHq1, hc32⟩
        clear hK K
        try simp only [Act.put, List.setIfInBounds_toArray, List.set_cons_zero, List.set_cons_succ, List.getElem_toArray, List.getElem_cons_zero, List.getElem_cons_succ]
        refine wpAnyH_done (by kernel_rfl) ?_ _
        refine NoPanic.normal ?_
        go_wp2
        go_ret
        rw [EPost, hR.out]
        have hset := hset.out
        exact ⟨rfl, Sd1, v1, hset.1.below (Below.refl _ _).drew, (((LStep.below Sd (Ow q v) HB.out).trans (LStep.below Sd (Ow q v) HB2.out)).trans (HS1.out.trans hset.2)).trans (LStep.below _ _ (Below.refl _ _).drew)⟩
end Go.Proofs.YtohpgipgfmkflaaGreatDoor
namespace Go.Proofs.YtohpgipgfmkflaaGreatDoor
set_option linter.unusedSectionVars false
variable [Base]
open Go.RowKit
set_option maxRecDepth 100000
set_option linter.unusedVariables false
set_option linter.unusedSimpArgs false
attribute [local go_sem ↓] Go.wp_at_zero Go.wp_at_succ

def PutsR (w : World) (Sd : Nat → Prop) (q p : Nat) (v : Value) (L : LState) (D : DState) (f : List UInt8) (er : Int) (w' : World) : Prop :=
  er = (L.puts D f).2.2 ∧ LPost w Sd q p v (L.puts D f).1 (L.puts D f).2.1 w'
theorem puts_W (w : World) (Sd : Nat → Prop) (q p : Nat) (L : LState) (D : DState) (v vb : Value) (f : List UInt8) (al ab h : Nat) (hl : LogW w Sd q p L D v) (hne : L.firsts ≠ []) (hal : w.cell? ⟨al, 0, none⟩ = some (.pointer (some ⟨q, 0, none⟩))) (hal2 : ¬ Sd al ∧ ¬ Ow q v al)
    (hab : w.cell? ⟨ab, 0, none⟩ = some vb) (hab2 : ¬ Sd ab ∧ ¬ Ow q v ab) (hb : RdB w Sd vb f) (hlf : f.length ≤ 140737488355328)
    (hh : h < w.heap.size) (hh2 : ¬ Sd h ∧ ¬ Ow q v h) : AllW q h (PutsR w Sd q p v L D f) [(88, #[.pointer (some ⟨al, 0, none⟩), .pointer (some ⟨ab, 0, none⟩)])] w := by
  refine ⟨eg_lw1, (lw1_any w Sd q p L D v vb f al ab hl hne hal hal2 hab hab2 hb hlf).mono fun e w1 hc => hc.all hh2 hh (fun hne w2 hp => ?_) (fun he Sd1 v1 hl1 hs1 => ?_)⟩
  · have : L.puts D f = (L.ended, (D.append (fileN L.firsts) f).1, (D.append (fileN L.firsts) f).2) := by unfold LState.puts; rw [if_pos hne]
    rw [PutsR, this]
    exact ⟨rfl, hp⟩
  · have : L.puts D f = (L, (D.append (fileN L.firsts) f).1, 0) := by unfold LState.puts; rw [if_neg (by simpa using he)]
    show PutsR w Sd q p v L D f 0 w1
    rw [PutsR, this]
    exact ⟨rfl, Sd1, v1, hl1, hs1⟩
theorem puts_all (w : World) (Sd : Nat → Prop) (q p : Nat) (L : LState) (D : DState) (v : Value) (al : Nat) (A : Option Addr) (c : Nat) (f : List UInt8) (hl : LogW w Sd q p L D v) (hne : L.firsts ≠ []) (hal : w.cell? ⟨al, 0, none⟩ = some (.pointer (some ⟨q, 0, none⟩))) (hal2 : ¬ Sd al ∧ ¬ Ow q v al)
    (hb : RdB w Sd (.slice A f.length c) f) (hlf : f.length ≤ 140737488355328) :
    Calls Tryz.prog 87 #[.pointer (some ⟨q, 0, none⟩), .slice (some ⟨w.heap.size + 1, 0, none⟩) 1 1] ((w.alloc (.cells #[.slice A f.length c] 53)).alloc (.cells #[.func (.func 88) #[] #[.pointer (some ⟨al, 0, none⟩), .pointer (some ⟨w.heap.size, 0, none⟩)]] 35))
      fun e w' => ∃ er : Int, e = .returned (.int .i64 er) ∧ er = (L.puts D f).2.2 ∧ LPost w Sd q p v (L.puts D f).1 (L.puts D f).2.1 w' := by
  have hB : Below w.heap.size w ((w.alloc (.cells #[.slice A f.length c] 53)).alloc (.cells #[.func (.func 88) #[] #[.pointer (some ⟨al, 0, none⟩), .pointer (some ⟨w.heap.size, 0, none⟩)]] 35)) := ((Below.refl _ _).alloc (Nat.le_refl _) _).alloc (by simp) _
  have hn : ∀ a, w.heap.size ≤ a → ¬ Sd a ∧ ¬ Ow q v a := fun a ha => ⟨fun hs => by have := hl.disk.foot a hs; omega, fun hs => by have := hl.log.foot a hs; omega⟩
  have hro := heap_alloc_new (w.alloc (.cells #[.slice A f.length c] 53)) (.cells #[.func (.func 88) #[] #[.pointer (some ⟨al, 0, none⟩), .pointer (some ⟨w.heap.size, 0, none⟩)]] 35)
  simp only [World.size_alloc] at hro
  have hW := puts_W _ Sd q p L D v (.slice A f.length c) f al w.heap.size (w.heap.size + 1) (hl.below hB) hne (cell_alloc (cell_alloc hal _) _) hal2 (cell_alloc (cell_new w _ _) _) (hn _ (Nat.le_refl _)) (hb.below hB (fun _ h => .inl h)) hlf (by simp) (hn _ (by omega))
  refine (all_any _ q (w.heap.size + 1) 1 _ _ (by simp) (fun i hi => (cell_row hro i).trans (by
    match i, hi with
    | 0, _ => rfl
    | n + 1, hi => exact absurd hi (by simp))) hW).mono ?_
  rintro e w' ⟨er, rfl, h1, h2⟩
  exact ⟨er, rfl, h1, h2.from hB⟩
theorem write_ne (L : LState) (D : DState) (h : (if L.full D then L.nexts D (L.last + 1) else (L, D, 0)).2.2 = 0) : (if L.full D then L.nexts D (L.last + 1) else (L, D, 0)).1.firsts ≠ [] := by
  cases hf : L.full D with
  | true =>
    rw [hf, if_pos rfl] at h
    rw [if_pos rfl]
    unfold LState.nexts at h ⊢
    split
    · rename_i h1
      rw [if_pos h1] at h
      exact absurd h h1
    · rename_i h1
      rw [if_neg h1] at h
      split
      · rename_i h2
        rw [if_pos h2] at h
        exact absurd h h2
      · simp
  | false =>
    rw [if_neg (by simp)]
    intro he
    have he : L.firsts = [] := he
    simp [LState.full] at hf
    exact hf.1 he
/-- Write's answer. -/
def WPost (w : World) (Sd : Nat → Prop) (q p : Nat) (v : Value) (r : WR) (e : Ending) (w' : World) : Prop :=
  e = .returned (.tuple #[.int .i64 r.n, .int .i64 r.e]) ∧ LPost w Sd q p v r.L r.D w'
set_option maxHeartbeats 4000000 in
theorem write_any (w : World) (Sd S : Nat → Prop) (q p : Nat) (L : LState) (D : DState) (v vr : Value) (recs : List (List UInt8)) (h : LogW w Sd q p L D v) (hr : RdL w S vr recs) (hrl : ∀ r ∈ recs, r.length ≤ 1073741824) (hm : L.firsts.length < 1000000) :
    Calls Tryz.prog 18 #[.pointer (some ⟨q, 0, none⟩), vr] w (WPost w Sd q p v (L.writes D recs)) := by
  have hB := (Below.refl w.heap.size w).alloc (Nat.le_refl _) (.cells #[.pointer (some ⟨q, 0, none⟩)] 23)
  have hal := cell_new w (.pointer (some ⟨q, 0, none⟩)) 23
  have hn : ∀ a, w.heap.size ≤ a → ¬ Sd a ∧ ¬ Ow q v a := fun a ha => ⟨fun hs => by have := h.disk.foot a hs; omega, fun hs => by have := h.log.foot a hs; omega⟩
  have hX := h.below hB
  have hrX := hr.below hB (fun _ h => .inl h)
  obtain ⟨A0, c0, vs0, e0, _⟩ := id hr
  subst e0
  obtain ⟨X, hXe⟩ : ∃ X, w.alloc (.cells #[.pointer (some ⟨q, 0, none⟩)] 23) = X := ⟨_, rfl⟩
  have hXs : X.heap.size = w.heap.size + 1 := by rw [← hXe]; simp
  rw [hXe] at hB hal hX hrX
  have hal2 := hn _ (Nat.le_refl _)
  have HXs := Lib.hid hXs
  have HXe := Lib.hid hXe
  have HH := Lib.hid hX
  have HB := Lib.hid hB
  have HN := Lib.hid hn
  have HU := Lib.hid (up_any X q p L v hX.log)
  have hc3 := hX.log.lc.c3
  have hlast := hX.wf.last
  have hHq : w.heap.size ≠ q := fun e => hal2.2 (.inl e)
  cases ho : L.over with
  | true =>
    have hU : Hid (upE L = 17) := Lib.hid (by unfold upE; rw [ho]; rfl)
    have hR := Lib.hid (show L.writes D recs = ⟨L, D, 0, 17⟩ by unfold LState.writes; rw [ho]; rfl)
    rw [hU.out] at HU
    clear hB hX hXs hXe hn ho h hc3 hr hrX
    go_enter Tryz.func18, Tryz.ntmps18
    go_wp2_with (go_at_call 83; simp only [HXe.out]; refine HU.out.mono ?_; rintro e w' ⟨rfl, rfl⟩)
    go_ret2
    rw [WPost, hR.out]
    exact ⟨rfl, Sd, v, HH.out, LStep.below _ _ HB.out⟩
  | false =>
    have hU : Hid (upE L = 0) := Lib.hid (by unfold upE; rw [ho]; rfl)
    rw [hU.out] at HU
    have HBy := Lib.hid (bytes_any X S ((L.last : Int) + 1) _ recs hrX hrl (by omega) (by omega))
    have hw1 : IntKind.i64.wrap ((L.last : Int) + 1) = (L.last : Int) + 1 := by rw [IntKind.wrap_i64]; omega
    have HO := Lib.hid ho
    clear hB hX hXs hXe hn ho h hr hrX
    by_cases hbe : (bytesR ((L.last : Int) + 1) recs).2 ≠ 0
    · have hR := Lib.hid (show L.writes D recs = ⟨L, D, 0, (bytesR ((L.last : Int) + 1) recs).2⟩ by unfold LState.writes; rw [HO.out, if_neg (by simp), if_pos hbe])
      obtain ⟨be, hbe1⟩ : ∃ be, bytesR ((L.last : Int) + 1) recs = be := ⟨_, rfl⟩
      rw [hbe1] at hbe HBy hR
      have hbn : (be.2 != 0) = true := by simpa using hbe
      clear hbe1 hbe
      go_enter Tryz.func18, Tryz.ntmps18
      go_wp2_with (first | (go_at_call 83; simp only [HXe.out]; refine HU.out.mono ?_; rintro e w' ⟨rfl, rfl⟩) | (go_at_call 34; refine HBy.out.mono ?_; rintro e w2 ⟨vb, rfl, hob, hbb⟩))
      go_ret2
      rw [WPost, hR.out]
      exact ⟨rfl, Sd, v, HH.out.below hbb, (LStep.below Sd (Ow q v) HB.out).trans (LStep.below _ _ hbb)⟩
    · obtain ⟨body, hbd⟩ : ∃ body, (bytesR ((L.last : Int) + 1) recs).1 = body := ⟨_, rfl⟩
      have hbe0 : (bytesR ((L.last : Int) + 1) recs).2 = 0 := by simpa using hbe
      have hbr : bytesR ((L.last : Int) + 1) recs = (body, 0) := by rw [← hbd, ← hbe0]
      have hR := Lib.hid (show L.writes D recs =
        (if (if L.full D then L.nexts D (L.last + 1) else (L, D, 0)).2.2 ≠ 0 then ⟨(if L.full D then L.nexts D (L.last + 1) else (L, D, 0)).1, (if L.full D then L.nexts D (L.last + 1) else (L, D, 0)).2.1, 0, (if L.full D then L.nexts D (L.last + 1) else (L, D, 0)).2.2⟩
         else if ((if L.full D then L.nexts D (L.last + 1) else (L, D, 0)).1.puts (if L.full D then L.nexts D (L.last + 1) else (L, D, 0)).2.1 (putR body).1).2.2 ≠ 0
           then ⟨((if L.full D then L.nexts D (L.last + 1) else (L, D, 0)).1.puts (if L.full D then L.nexts D (L.last + 1) else (L, D, 0)).2.1 (putR body).1).1, ((if L.full D then L.nexts D (L.last + 1) else (L, D, 0)).1.puts (if L.full D then L.nexts D (L.last + 1) else (L, D, 0)).2.1 (putR body).1).2.1, 0, ((if L.full D then L.nexts D (L.last + 1) else (L, D, 0)).1.puts (if L.full D then L.nexts D (L.last + 1) else (L, D, 0)).2.1 (putR body).1).2.2⟩
           else ⟨{ ((if L.full D then L.nexts D (L.last + 1) else (L, D, 0)).1.puts (if L.full D then L.nexts D (L.last + 1) else (L, D, 0)).2.1 (putR body).1).1 with last := L.last + 1 }, ((if L.full D then L.nexts D (L.last + 1) else (L, D, 0)).1.puts (if L.full D then L.nexts D (L.last + 1) else (L, D, 0)).2.1 (putR body).1).2.1, (L.last : Int) + 1, 0⟩) from by
        unfold LState.writes
        rw [HO.out, if_neg (by simp), if_neg (by rw [hbr]; simp), hbd])
      have hbl : body.length ≤ 1048576 ∧ body.length ≠ 0 ∧ (L.last : Int) + 1 ≤ 1152921504606846976 := by
        unfold bytesR at hbr
        split at hbr
        · simp at hbr
        · split at hbr
          · simp at hbr
          · rename_i h1 h2
            injection hbr with h3
            rw [← h3]
            refine ⟨by omega, ?_, by omega⟩
            unfold batchB
            have := uintB_pos ((L.last : Int) + 1).toNat
            intro h0
            simp only [List.length_append] at h0
            omega
      have hpr : putR body = (frameB body, 0) := by
        unfold putR; rw [if_neg hbl.2.1, if_neg (by omega)]
      have HPR := Lib.hid hpr
      have HBL := Lib.hid hbl
      rw [hbr] at HBy
      clear hbe hbe0 hbr hpr hbd hbl
      go_enter Tryz.func18, Tryz.ntmps18
      go_upto_region 8 with (first | (go_at_call 83; simp only [HXe.out]; refine HU.out.mono ?_; rintro e w' ⟨rfl, rfl⟩) | (go_at_call 34; refine HBy.out.mono ?_; rintro e w2 ⟨vb, rfl, hob, hbb⟩; have HOB := Lib.hid hob; have HBB := Lib.hid hbb; clear hob hbb))
      have HW2 := Lib.hid (HH.out.below HBB.out)
      have hal := (HBB.out.cell (p := ⟨w.heap.size, 0, none⟩) (World.block_lt_of_cell? X _ hal)).trans hal
      have hc0 := HW2.out.log.lc.c0
      have hc1 := HW2.out.log.lc.c1
      have hc2 := HW2.out.log.lc.c2
      obtain ⟨Av, cv, ev⟩ := HW2.out.log.row.slice
      rw [ev] at hc2
      have hwp := World.block_lt_of_cell? w2 _ hal
      have hqp := World.block_lt_of_cell? w2 _ hc0
      have HS := Lib.hid (show ∀ wx, Below w2.heap.size w2 wx → wx.cell? ⟨w.heap.size, 0, none⟩ = some (.pointer (some ⟨q, 0, none⟩)) ∧ wx.cell? ⟨q, 0, none⟩ = some (.pointer (some ⟨p, 0, none⟩)) ∧ wx.cell? ⟨q, 1, none⟩ = some (.int .i64 L.size) ∧ wx.cell? ⟨q, 2, none⟩ = some (.slice Av L.firsts.length cv) from
        fun wx hx => ⟨(hx.cell (p := ⟨w.heap.size, 0, none⟩) hwp).trans hal, (hx.cell (p := ⟨q, 0, none⟩) hqp).trans hc0, (hx.cell (p := ⟨q, 1, none⟩) hqp).trans hc1, (hx.cell (p := ⟨q, 2, none⟩) hqp).trans hc2⟩)
      have HEV := Lib.hid ev
      clear hc3 ev
      go_cut [53] (fun c wx => c = .bool (L.full D) ∧ Below w2.heap.size w2 wx)
      case first =>
        by_cases hne : L.firsts = []
        · have hfull := Lib.hid (show L.full D = true by unfold LState.full; simp [hne])
          have hlen : ((L.firsts.length : Int) == 0) = true := by rw [hne]; rfl
          clear hne
          refine wp_region_noPanic ?_
          refine wp_region_held_drew (S := (fun w' => w'.cell? ⟨w.heap.size, 0, none⟩ = some (.pointer (some ⟨q, 0, none⟩)) ∧ w'.cell? ⟨q, 0, none⟩ = some (.pointer (some ⟨p, 0, none⟩)) ∧ w'.cell? ⟨q, 1, none⟩ = some (.int .i64 L.size) ∧ w'.cell? ⟨q, 2, none⟩ = some (.slice Av L.firsts.length cv))) (by kernel_rfl) ?_ (fun hHeld => ?_)
          · exact HS.out _ (Below.refl _ _).drew
          refine wpAnyH_take (i := 0) (oi := _) (v := ?_) rfl (by kernel_rfl) (by kernel_rfl) (by kernel_rfl) (fun _ _ _ h => h) (Or.inl ⟨by rfl, ?_⟩) (by assumption) ?_
          rotate_left
          · intro w hSw
            try dsimp only at hSw
            go_simp
            try with_reducible rfl
          try simp only [Act.put, List.setIfInBounds_toArray, List.set_cons_zero, List.set_cons_succ, List.getElem_toArray, List.getElem_cons_zero, List.getElem_cons_succ]
          refine wpAnyH_take (i := 1) (oi := _) (v := ?_) rfl (by kernel_rfl) (by kernel_rfl) (by kernel_rfl) (fun _ _ _ h => h) (Or.inl ⟨by rfl, ?_⟩) (by assumption) ?_
          rotate_left
          · intro w hSw
            try dsimp only at hSw
            go_simp
            try with_reducible rfl
          try simp only [Act.put, List.setIfInBounds_toArray, List.set_cons_zero, List.set_cons_succ, List.getElem_toArray, List.getElem_cons_zero, List.getElem_cons_succ]
          refine wpAnyH_take (i := 2) (oi := _) (v := ?_) rfl (by kernel_rfl) (by kernel_rfl) (by kernel_rfl) (fun _ _ _ h => h) (Or.inl ⟨by rfl, ?_⟩) (by assumption) ?_
          rotate_left
          · intro w hSw
            try dsimp only at hSw
            go_simp
            try with_reducible rfl
          try simp only [Act.put, List.setIfInBounds_toArray, List.set_cons_zero, List.set_cons_succ, List.getElem_toArray, List.getElem_cons_zero, List.getElem_cons_succ]
          refine wpAnyH_take (i := 3) (oi := _) (v := ?_) rfl (by kernel_rfl) (by kernel_rfl) (by kernel_rfl) (fun _ _ _ h => h) (Or.inl ⟨by rfl, ?_⟩) (by assumption) ?_
          rotate_left
          · intro w hSw
            try dsimp only at hSw
            go_simp
            try with_reducible rfl
          try simp only [Act.put, List.setIfInBounds_toArray, List.set_cons_zero, List.set_cons_succ, List.getElem_toArray, List.getElem_cons_zero, List.getElem_cons_succ]
          refine wpAnyH_take (i := 4) (oi := _) (v := ?_) rfl (by kernel_rfl) (by kernel_rfl) (by kernel_rfl) (fun _ _ _ h => h) (Or.inl ⟨by rfl, ?_⟩) (by assumption) ?_
          rotate_left
          · intro w hSw
            try dsimp only at hSw
            go_simp
            try with_reducible rfl
          try simp only [Act.put, List.setIfInBounds_toArray, List.set_cons_zero, List.set_cons_succ, List.getElem_toArray, List.getElem_cons_zero, List.getElem_cons_succ]
          refine wpAnyH_take (i := 5) (oi := _) (v := ?_) rfl (by kernel_rfl) (by kernel_rfl) (by kernel_rfl) (fun _ _ _ h => h) (Or.inl ⟨by rfl, ?_⟩) (by assumption) ?_
          rotate_left
          · intro w hSw
            try dsimp only at hSw
            go_simp
            try with_reducible rfl
          try simp only [Act.put, List.setIfInBounds_toArray, List.set_cons_zero, List.set_cons_succ, List.getElem_toArray, List.getElem_cons_zero, List.getElem_cons_succ]
          refine wpAnyH_take (i := 6) (oi := _) (v := ?_) rfl (by kernel_rfl) (by kernel_rfl) (by kernel_rfl) (fun _ _ _ h => h) (Or.inl ⟨by rfl, ?_⟩) (by assumption) ?_
          rotate_left
          · intro w hSw
            try dsimp only at hSw
            go_simp
            try with_reducible rfl
          try simp only [Act.put, List.setIfInBounds_toArray, List.set_cons_zero, List.set_cons_succ, List.getElem_toArray, List.getElem_cons_zero, List.getElem_cons_succ]
          refine wpAnyH_take (i := 7) (oi := _) (v := undef) rfl (by kernel_rfl) (by kernel_rfl) (by kernel_rfl) (fun _ _ _ h => h) (Or.inr ⟨by kernel_rfl, rfl⟩) (by assumption) ?_
          try simp only [Act.put, List.setIfInBounds_toArray, List.set_cons_zero, List.set_cons_succ, List.getElem_toArray, List.getElem_cons_zero, List.getElem_cons_succ]
          refine wpAnyH_take (i := 8) (oi := _) (v := undef) rfl (by kernel_rfl) (by kernel_rfl) (by kernel_rfl) (fun _ _ _ h => h) (Or.inr ⟨by kernel_rfl, rfl⟩) (by assumption) ?_
          try simp only [Act.put, List.setIfInBounds_toArray, List.set_cons_zero, List.set_cons_succ, List.getElem_toArray, List.getElem_cons_zero, List.getElem_cons_succ]
          refine wpAnyH_take (i := 9) (oi := _) (v := undef) rfl (by kernel_rfl) (by kernel_rfl) (by kernel_rfl) (fun _ _ _ h => h) (Or.inr ⟨by kernel_rfl, rfl⟩) (by assumption) ?_
          try simp only [Act.put, List.setIfInBounds_toArray, List.set_cons_zero, List.set_cons_succ, List.getElem_toArray, List.getElem_cons_zero, List.getElem_cons_succ]
          refine wpAnyH_take (i := 10) (oi := _) (v := undef) rfl (by kernel_rfl) (by kernel_rfl) (by kernel_rfl) (fun _ _ _ h => h) (Or.inr ⟨by kernel_rfl, rfl⟩) (by assumption) ?_
          try simp only [Act.put, List.setIfInBounds_toArray, List.set_cons_zero, List.set_cons_succ, List.getElem_toArray, List.getElem_cons_zero, List.getElem_cons_succ]
          refine wpAnyH_take (i := 11) (oi := _) (v := undef) rfl (by kernel_rfl) (by kernel_rfl) (by kernel_rfl) (fun _ _ _ h => h) (Or.inr ⟨by kernel_rfl, rfl⟩) (by assumption) ?_
          try simp only [Act.put, List.setIfInBounds_toArray, List.set_cons_zero, List.set_cons_succ, List.getElem_toArray, List.getElem_cons_zero, List.getElem_cons_succ]
          refine wpAnyH_take (i := 12) (oi := _) (v := undef) rfl (by kernel_rfl) (by kernel_rfl) (by kernel_rfl) (fun _ _ _ h => h) (Or.inr ⟨by kernel_rfl, rfl⟩) (by assumption) ?_
          try simp only [Act.put, List.setIfInBounds_toArray, List.set_cons_zero, List.set_cons_succ, List.getElem_toArray, List.getElem_cons_zero, List.getElem_cons_succ]
          refine wpAnyH_take (i := 13) (oi := _) (v := undef) rfl (by kernel_rfl) (by kernel_rfl) (by kernel_rfl) (fun _ _ _ h => h) (Or.inr ⟨by kernel_rfl, rfl⟩) (by assumption) ?_
          try simp only [Act.put, List.setIfInBounds_toArray, List.set_cons_zero, List.set_cons_succ, List.getElem_toArray, List.getElem_cons_zero, List.getElem_cons_succ]
          refine wpAnyH_take (i := 14) (oi := _) (v := undef) rfl (by kernel_rfl) (by kernel_rfl) (by kernel_rfl) (fun _ _ _ h => h) (Or.inr ⟨by kernel_rfl, rfl⟩) (by assumption) ?_
          try simp only [Act.put, List.setIfInBounds_toArray, List.set_cons_zero, List.set_cons_succ, List.getElem_toArray, List.getElem_cons_zero, List.getElem_cons_succ]
          refine wpAnyH_take (i := 15) (oi := _) (v := undef) rfl (by kernel_rfl) (by kernel_rfl) (by kernel_rfl) (fun _ _ _ h => h) (Or.inr ⟨by kernel_rfl, rfl⟩) (by assumption) ?_
          try simp only [Act.put, List.setIfInBounds_toArray, List.set_cons_zero, List.set_cons_succ, List.getElem_toArray, List.getElem_cons_zero, List.getElem_cons_succ]
          refine wpAnyH_take (i := 16) (oi := _) (v := undef) rfl (by kernel_rfl) (by kernel_rfl) (by kernel_rfl) (fun _ _ _ h => h) (Or.inr ⟨by kernel_rfl, rfl⟩) (by assumption) ?_
          try simp only [Act.put, List.setIfInBounds_toArray, List.set_cons_zero, List.set_cons_succ, List.getElem_toArray, List.getElem_cons_zero, List.getElem_cons_succ]
          refine wpAnyH_take (i := 17) (oi := _) (v := undef) rfl (by kernel_rfl) (by kernel_rfl) (by kernel_rfl) (fun _ _ _ h => h) (Or.inr ⟨by kernel_rfl, rfl⟩) (by assumption) ?_
          try simp only [Act.put, List.setIfInBounds_toArray, List.set_cons_zero, List.set_cons_succ, List.getElem_toArray, List.getElem_cons_zero, List.getElem_cons_succ]
          refine wpAnyH_take (i := 18) (oi := _) (v := undef) rfl (by kernel_rfl) (by kernel_rfl) (by kernel_rfl) (fun _ _ _ h => h) (Or.inr ⟨by kernel_rfl, rfl⟩) (by assumption) ?_
          try simp only [Act.put, List.setIfInBounds_toArray, List.set_cons_zero, List.set_cons_succ, List.getElem_toArray, List.getElem_cons_zero, List.getElem_cons_succ]
          refine wpAnyH_take (i := 19) (oi := _) (v := ?_) rfl (by kernel_rfl) (by kernel_rfl) (by kernel_rfl) (fun _ _ _ h => h) (Or.inl ⟨by rfl, ?_⟩) (by assumption) ?_
          rotate_left
          · intro w hSw
            try dsimp only at hSw
            go_simp
            try with_reducible rfl
          try simp only [Act.put, List.setIfInBounds_toArray, List.set_cons_zero, List.set_cons_succ, List.getElem_toArray, List.getElem_cons_zero, List.getElem_cons_succ]
          refine wpAnyH_done (by kernel_rfl) ?_ _
          refine NoPanic.normal ?_
          go_wp2_with fail
          go_meet
          rw [hfull.out]
          exact ⟨rfl, (Below.refl _ _).drew⟩
        · have hlen : ((L.firsts.length : Int) == 0) = false := by
            have := List.length_pos_iff.2 hne
            simp; omega
          have HF := Lib.hid (fun wx (hb : Below w2.heap.size w2 wx) => file_any wx q p L v (HW2.out.log.below hb) HW2.out.wf hne (HW2.out.laid.below hb))
          have HZ := Lib.hid (fun wx (hb : Below w2.heap.size w2 wx) => size_any wx Sd p D (fileN L.firsts) (HW2.out.disk.below hb))
          obtain ⟨z, hz⟩ : ∃ z, (getF D.files (fileN L.firsts)).b.length = z := ⟨_, rfl⟩
          have hfull := Lib.hid (show L.full D = decide (L.size ≤ (z : Int)) by unfold LState.full; rw [hz]; simp [hne])
          simp only [hz] at HZ
          clear hne hz
          refine wp_region_noPanic ?_
          refine wp_region_held_drew (S := (fun w' => w'.cell? ⟨w.heap.size, 0, none⟩ = some (.pointer (some ⟨q, 0, none⟩)) ∧ w'.cell? ⟨q, 0, none⟩ = some (.pointer (some ⟨p, 0, none⟩)) ∧ w'.cell? ⟨q, 1, none⟩ = some (.int .i64 L.size) ∧ w'.cell? ⟨q, 2, none⟩ = some (.slice Av L.firsts.length cv))) (by kernel_rfl) ?_ (fun hHeld => ?_)
          · exact HS.out _ (Below.refl _ _).drew
          refine wpAnyH_take (i := 0) (oi := _) (v := ?_) rfl (by kernel_rfl) (by kernel_rfl) (by kernel_rfl) (fun _ _ _ h => h) (Or.inl ⟨by rfl, ?_⟩) (by assumption) ?_
          rotate_left
          · intro w hSw
            try dsimp only at hSw
            go_simp
            try with_reducible rfl
          try simp only [Act.put, List.setIfInBounds_toArray, List.set_cons_zero, List.set_cons_succ, List.getElem_toArray, List.getElem_cons_zero, List.getElem_cons_succ]
          refine wpAnyH_take (i := 1) (oi := _) (v := ?_) rfl (by kernel_rfl) (by kernel_rfl) (by kernel_rfl) (fun _ _ _ h => h) (Or.inl ⟨by rfl, ?_⟩) (by assumption) ?_
          rotate_left
          · intro w hSw
            try dsimp only at hSw
            go_simp
            try with_reducible rfl
          try simp only [Act.put, List.setIfInBounds_toArray, List.set_cons_zero, List.set_cons_succ, List.getElem_toArray, List.getElem_cons_zero, List.getElem_cons_succ]
          refine wpAnyH_take (i := 2) (oi := _) (v := ?_) rfl (by kernel_rfl) (by kernel_rfl) (by kernel_rfl) (fun _ _ _ h => h) (Or.inl ⟨by rfl, ?_⟩) (by assumption) ?_
          rotate_left
          · intro w hSw
            try dsimp only at hSw
            go_simp
            try with_reducible rfl
          try simp only [Act.put, List.setIfInBounds_toArray, List.set_cons_zero, List.set_cons_succ, List.getElem_toArray, List.getElem_cons_zero, List.getElem_cons_succ]
          refine wpAnyH_take (i := 3) (oi := _) (v := ?_) rfl (by kernel_rfl) (by kernel_rfl) (by kernel_rfl) (fun _ _ _ h => h) (Or.inl ⟨by rfl, ?_⟩) (by assumption) ?_
          rotate_left
          · intro w hSw
            try dsimp only at hSw
            go_simp
            try with_reducible rfl
          try simp only [Act.put, List.setIfInBounds_toArray, List.set_cons_zero, List.set_cons_succ, List.getElem_toArray, List.getElem_cons_zero, List.getElem_cons_succ]
          refine wpAnyH_take (i := 4) (oi := _) (v := ?_) rfl (by kernel_rfl) (by kernel_rfl) (by kernel_rfl) (fun _ _ _ h => h) (Or.inl ⟨by rfl, ?_⟩) (by assumption) ?_
          rotate_left
          · intro w hSw
            try dsimp only at hSw
            go_simp
            try with_reducible rfl
          try simp only [Act.put, List.setIfInBounds_toArray, List.set_cons_zero, List.set_cons_succ, List.getElem_toArray, List.getElem_cons_zero, List.getElem_cons_succ]
          refine wpAnyH_take (i := 5) (oi := _) (v := ?_) rfl (by kernel_rfl) (by kernel_rfl) (by kernel_rfl) (fun _ _ _ h => h) (Or.inl ⟨by rfl, ?_⟩) (by assumption) ?_
          rotate_left
          · intro w hSw
            try dsimp only at hSw
            go_simp
            try with_reducible rfl
          try simp only [Act.put, List.setIfInBounds_toArray, List.set_cons_zero, List.set_cons_succ, List.getElem_toArray, List.getElem_cons_zero, List.getElem_cons_succ]
          refine wpAnyH_take (i := 6) (oi := _) (v := ?_) rfl (by kernel_rfl) (by kernel_rfl) (by kernel_rfl) (fun _ _ _ h => h) (Or.inl ⟨by rfl, ?_⟩) (by assumption) ?_
          rotate_left
          · intro w hSw
            try dsimp only at hSw
            go_simp
            try with_reducible rfl
          try simp only [Act.put, List.setIfInBounds_toArray, List.set_cons_zero, List.set_cons_succ, List.getElem_toArray, List.getElem_cons_zero, List.getElem_cons_succ]
          refine wpAnyH_take (i := 7) (oi := _) (v := ?_) rfl (by kernel_rfl) (by kernel_rfl) (by kernel_rfl) (fun _ _ _ h => h) (Or.inl ⟨by rfl, ?_⟩) (by assumption) ?_
          rotate_left
          · intro w hSw
            try dsimp only at hSw
            go_simp
            try with_reducible rfl
          try simp only [Act.put, List.setIfInBounds_toArray, List.set_cons_zero, List.set_cons_succ, List.getElem_toArray, List.getElem_cons_zero, List.getElem_cons_succ]
          refine wpAnyH_take (i := 8) (oi := _) (v := ?_) rfl (by kernel_rfl) (by kernel_rfl) (by kernel_rfl) (fun _ _ _ h => h) (Or.inl ⟨by rfl, ?_⟩) (by assumption) ?_
          rotate_left
          · intro w hSw
            try dsimp only at hSw
            go_simp
            try with_reducible rfl
          try simp only [Act.put, List.setIfInBounds_toArray, List.set_cons_zero, List.set_cons_succ, List.getElem_toArray, List.getElem_cons_zero, List.getElem_cons_succ]
          refine wpAnyH_take (i := 9) (oi := _) (v := ?_) rfl (by kernel_rfl) (by kernel_rfl) (by kernel_rfl) (fun _ _ _ h => h) (Or.inl ⟨by rfl, ?_⟩) (by assumption) ?_
          rotate_left
          · intro w hSw
            try dsimp only at hSw
            go_simp
            try with_reducible rfl
          try simp only [Act.put, List.setIfInBounds_toArray, List.set_cons_zero, List.set_cons_succ, List.getElem_toArray, List.getElem_cons_zero, List.getElem_cons_succ]
          refine wpAnyH_take (i := 10) (oi := _) (v := ?_) rfl (by kernel_rfl) (by kernel_rfl) (by kernel_rfl) (fun _ _ _ h => h) (Or.inl ⟨by rfl, ?_⟩) (by assumption) ?_
          rotate_left
          · intro w hSw
            try dsimp only at hSw
            go_simp
            try with_reducible rfl
          try simp only [Act.put, List.setIfInBounds_toArray, List.set_cons_zero, List.set_cons_succ, List.getElem_toArray, List.getElem_cons_zero, List.getElem_cons_succ]
          refine wpAnyH_take (i := 11) (oi := _) (v := ?_) rfl (by kernel_rfl) (by kernel_rfl) (by kernel_rfl) (fun _ _ _ h => h) (Or.inl ⟨by rfl, ?_⟩) (by assumption) ?_
          rotate_left
          · intro w hSw
            try dsimp only at hSw
            go_simp
            try with_reducible rfl
          try simp only [Act.put, List.setIfInBounds_toArray, List.set_cons_zero, List.set_cons_succ, List.getElem_toArray, List.getElem_cons_zero, List.getElem_cons_succ]
          refine wpAnyH_take (i := 14) (oi := _) (v := ?_) rfl (by kernel_rfl) (by kernel_rfl) (by kernel_rfl) (fun _ _ _ h => h) (Or.inl ⟨by rfl, ?_⟩) (by assumption) ?_
          rotate_left
          · intro w hSw
            try dsimp only at hSw
            go_simp
            try with_reducible rfl
          try simp only [Act.put, List.setIfInBounds_toArray, List.set_cons_zero, List.set_cons_succ, List.getElem_toArray, List.getElem_cons_zero, List.getElem_cons_succ]
          refine wpAnyH_take (i := 15) (oi := _) (v := ?_) rfl (by kernel_rfl) (by kernel_rfl) (by kernel_rfl) (fun _ _ _ h => h) (Or.inl ⟨by rfl, ?_⟩) (by assumption) ?_
          rotate_left
          · intro w hSw
            try dsimp only at hSw
            go_simp
            try with_reducible rfl
          try simp only [Act.put, List.setIfInBounds_toArray, List.set_cons_zero, List.set_cons_succ, List.getElem_toArray, List.getElem_cons_zero, List.getElem_cons_succ]
          refine wpAnyH_take (i := 16) (oi := _) (v := ?_) rfl (by kernel_rfl) (by kernel_rfl) (by kernel_rfl) (fun _ _ _ h => h) (Or.inl ⟨by rfl, ?_⟩) (by assumption) ?_
          rotate_left
          · intro w hSw
            try dsimp only at hSw
            go_simp
            try with_reducible rfl
          try simp only [Act.put, List.setIfInBounds_toArray, List.set_cons_zero, List.set_cons_succ, List.getElem_toArray, List.getElem_cons_zero, List.getElem_cons_succ]
          refine wpAnyH_take (i := 17) (oi := _) (v := ?_) rfl (by kernel_rfl) (by kernel_rfl) (by kernel_rfl) (fun _ _ _ h => h) (Or.inl ⟨by rfl, ?_⟩) (by assumption) ?_
          rotate_left
          · intro w hSw
            try dsimp only at hSw
            go_simp
            try with_reducible rfl
          try simp only [Act.put, List.setIfInBounds_toArray, List.set_cons_zero, List.set_cons_succ, List.getElem_toArray, List.getElem_cons_zero, List.getElem_cons_succ]
          refine wpAnyH_ready (rs := [12]) (by kernel_rfl) (by simp) ?_
          refine AllReadyH.cons (o := _) rfl (fun K hK => ?_) AllReadyH.nil
          go_simp
          go_at_call 84
          refine (HF.out _ (Below.refl _ _).drew).mono ?_
          rintro e w3 ⟨rfl, hb3⟩
          have hBz : Below w2.heap.size w2 w3 := ⟨hb3.os, hb3.tape, hb3.output, hb3.size, hb3.block⟩
          go_wp2
          refine hK.out _ _ ?_ (fun hHeld => ?_)
          · exact HS.out _ hBz
          clear hK K
          try simp only [Act.put, List.setIfInBounds_toArray, List.set_cons_zero, List.set_cons_succ, List.getElem_toArray, List.getElem_cons_zero, List.getElem_cons_succ]
          refine wpAnyH_ready (rs := [13]) (by kernel_rfl) (by simp) ?_
          refine AllReadyH.cons (o := _) rfl (fun K hK => ?_) AllReadyH.nil
          go_simp
          go_at_call 52
          refine (HZ.out _ hBz).mono ?_
          rintro e w4 ⟨rfl, hb4⟩
          have hBy : Below w2.heap.size w2 w4 := hBz.trans (hb4.mono hBz.size)
          go_wp2
          refine hK.out _ _ ?_ (fun hHeld => ?_)
          · exact HS.out _ hBy
          clear hK K
          try simp only [Act.put, List.setIfInBounds_toArray, List.set_cons_zero, List.set_cons_succ, List.getElem_toArray, List.getElem_cons_zero, List.getElem_cons_succ]
          refine wpAnyH_take (i := 18) (oi := _) (v := ?_) rfl (by kernel_rfl) (by kernel_rfl) (by kernel_rfl) (fun _ _ _ h => h) (Or.inl ⟨by rfl, ?_⟩) (by assumption) ?_
          rotate_left
          · intro w hSw
            try dsimp only at hSw
            go_simp
            try with_reducible rfl
          try simp only [Act.put, List.setIfInBounds_toArray, List.set_cons_zero, List.set_cons_succ, List.getElem_toArray, List.getElem_cons_zero, List.getElem_cons_succ]
          refine wpAnyH_take (i := 19) (oi := _) (v := ?_) rfl (by kernel_rfl) (by kernel_rfl) (by kernel_rfl) (fun _ _ _ h => h) (Or.inl ⟨by rfl, ?_⟩) (by assumption) ?_
          rotate_left
          · intro w hSw
            try dsimp only at hSw
            go_simp
            try with_reducible rfl
          try simp only [Act.put, List.setIfInBounds_toArray, List.set_cons_zero, List.set_cons_succ, List.getElem_toArray, List.getElem_cons_zero, List.getElem_cons_succ]
          refine wpAnyH_done (by kernel_rfl) ?_ _
          refine NoPanic.normal ?_
          go_wp2_with fail
          go_meet
          rw [hfull.out]
          exact ⟨rfl, hBy⟩
      case rest =>
        obtain ⟨rfl, hbx⟩ := hcut
        have hal := (hbx.cell (p := ⟨w.heap.size, 0, none⟩) hwp).trans hal
        have HWc := Lib.hid (HW2.out.below hbx)
        have HBX := Lib.hid (show Below X.heap.size X wc from HBB.out.trans (hbx.mono HBB.out.size))
        have hsd : ∀ b, Sd b ∨ Ow q v b → b < X.heap.size := fun b hb => hb.elim (HH.out.disk.foot b) (HH.out.log.foot b)
        have HVB := Lib.hid ((RdB.ofOwn HOB.out hsd).below hbx (fun _ h => .inl h) : RdB wc (fun b => Sd b ∨ Ow q v b) vb body)
        have HNx0 := next_any wc Sd q p L D v (L.last + 1) HWc.out (by have := HBL.out.2.2; omega) hm
        have ecast : (((L.last + 1 : Nat)) : Int) = (L.last : Int) + 1 := by omega
        rw [ecast] at HNx0
        have HNx := Lib.hid HNx0
        have hwpc := World.block_lt_of_cell? wc _ hal
        have HSD := Lib.hid hsd
        clear hbx HNx0 ecast hc0 hc1 hc2 HS hsd
        obtain ⟨r, hr⟩ : ∃ r, (if L.full D then L.nexts D (L.last + 1) else (L, D, 0)) = r := ⟨_, rfl⟩
        rw [hr] at hR
        have HRr := Lib.hid hr
        clear hr
        obtain ⟨W5, hW5⟩ : ∃ W5, W5 = wc := ⟨_, rfl⟩
        subst hW5
        go_upto_if 53 with fail
        go_cut [10] (fun c wx => Hid (r.2.2 = 0) ∧ ∃ Sd1 v1, LogW wx Sd1 q p r.1 r.2.1 v1 ∧ LStep Sd (Ow q v) Sd1 (Ow q v1) W5 wx)
        case first =>
          cases hf : L.full D with
          | true =>
            have hrr := HRr.out
            rw [hf, if_pos rfl] at hrr
            rw [hrr] at HNx
            clear hf hrr
            go_wp2_with (go_at_call 85; refine HNx.out.mono ?_; rintro e w3 hp; have HP := Lib.hid hp; obtain ⟨rfl, hp2⟩ := hp; clear hp2)
            · have hne : r.2.2 ≠ 0 := by simpa using (by assumption : (r.2.2 != 0) = true)
              go_ret2
              rw [WPost, hR.out, if_pos hne]
              exact ⟨rfl, LPost.trans (LStep.below Sd (Ow q v) HB.out) (HP.out.2.from HBX.out)⟩
            · have hne : r.2.2 = 0 := by simpa using (by assumption : (r.2.2 != 0) = false)
              go_meet
              obtain ⟨Sd1, v1, h1, h2⟩ := HP.out.2
              exact ⟨Lib.hid hne, Sd1, v1, h1, h2⟩
          | false =>
            have hrr := HRr.out
            rw [hf, if_neg (by simp)] at hrr
            have HRR := Lib.hid hrr
            clear hf hrr
            go_wp2_with fail
            go_meet
            rw [← HRR.out]
            exact ⟨Lib.hid rfl, Sd, v, HWc.out, LStep.refl _ _ _⟩
        case rest =>
          obtain ⟨hr0, Sd1, v1, hl1, hs1⟩ := hcut
          have hne1 : r.1.firsts ≠ [] := by
            have h9 := write_ne L D
            rw [HRr.out] at h9
            exact h9 hr0.out
          have hal1 := hs1.cell hal hal2
          have hal21 := hs1.notd hwpc hal2
          have hvb := HVB.out.kp (S' := fun b => Sd1 b ∨ Ow q v1 b) hs1.kp (fun b hb => hb.elim (fun h => (hs1.fd b h).imp .inl id) (fun h => (hs1.fl b h).imp .inr id))
          have hft : ∀ b, (Sd1 b ∨ Ow q v1 b) → b < wc.heap.size := fun b hb => hb.elim (hl1.disk.foot b) (hl1.log.foot b)
          have HPt := put_any wc (fun b => Sd1 b ∨ Ow q v1 b) vb body hvb hft
          rw [HPR.out] at HPt
          have HPT := Lib.hid HPt
          have HNE1 := Lib.hid hne1
          have HL1 := Lib.hid hl1
          have HS1 := Lib.hid hs1
          have HFT := Lib.hid hft
          have hfl : (frameB body).length ≤ 140737488355328 := by
            have := uintB_le body.length (by have := HBL.out.1; omega)
            have := HBL.out.1
            simp [frameB, sumB_length]; omega
          have HFL := Lib.hid hfl
          have hwpc1 := World.block_lt_of_cell? wc _ hal1
          clear HPt hvb hft hne1 hl1 hs1 hal hal2 hfl HNx hwpc
          go_wp2_with (first | (go_at_call 86; refine HPT.out.mono ?_; rintro e w7 ⟨vf, rfl, hof, hbf⟩; obtain ⟨Af, cf, ef⟩ := own_slice hof; subst ef; have HOF := Lib.hid hof; have HBF := Lib.hid hbf; have hal7 := (HBF.out.cell (p := ⟨w.heap.size, 0, none⟩) hwpc1).trans hal1; have hal8 := (fun o => cell_alloc hal7 o); clear hof hbf) | (go_at_call 87; refine (puts_all w7 Sd1 q p r.1 r.2.1 v1 w.heap.size Af cf (frameB body) (HL1.out.below HBF.out) HNE1.out ((HBF.out.cell (p := ⟨w.heap.size, 0, none⟩) hwpc1).trans hal1) hal21 (RdB.ofOwn HOF.out (fun b hb => HFT.out b (.inl hb))) HFL.out).mono ?_; rintro e w8 ⟨er, rfl, her, hp8⟩; have HER := Lib.hid her; obtain ⟨Sd8, v8, hl8, hs8⟩ := hp8; have hal9 := hs8.cell hal7 hal21; have hc39 := hl8.log.lc.c3; have hfz9 := hl8.log.lc.fz 3; have HL8 := Lib.hid hl8; have HS8 := Lib.hid hs8; clear her hl8 hs8))
          · have hne : er ≠ 0 := by simpa using (by assumption : (er != 0) = true)
            go_ret2
            rw [WPost, hR.out, if_neg (by simpa using hr0.out), HPR.out, if_pos (by rw [← HER.out]; exact hne)]
            refine ⟨by rw [← HER.out]; rfl, Sd8, v8, HL8.out, ?_⟩
            exact (((LStep.below Sd (Ow q v) HB.out).trans (LStep.below Sd (Ow q v) HBX.out)).trans (HS1.out.trans (LStep.below _ _ HBF.out))).trans HS8.out
          · have hne : er = 0 := by simpa using (by assumption : (er != 0) = false)
            go_ret2
            rw [WPost, hR.out, if_neg (by simpa using hr0.out), HPR.out, if_neg (by rw [← HER.out]; simpa using hne)]
            have hset := HL8.out.set (L' := { (r.1.puts r.2.1 (frameB body)).1 with last := L.last + 1 }) 3 (.int .i64 ((L.last : Int) + 1)) ⟨by have := HBL.out.2.2; simp; omega, HL8.out.wf.acked, HL8.out.wf.firsts, HL8.out.wf.many, HL8.out.wf.size⟩ rfl rfl
            refine ⟨rfl, Sd8, v8, hset.1, ?_⟩
            exact ((((LStep.below Sd (Ow q v) HB.out).trans (LStep.below Sd (Ow q v) HBX.out)).trans (HS1.out.trans (LStep.below _ _ HBF.out))).trans HS8.out).trans hset.2
end Go.Proofs.YtohpgipgfmkflaaGreatDoor
namespace Go.Proofs.YtohpgipgfmkflaaGreatDoor
set_option linter.unusedSectionVars false
variable [Base]
open Go.RowKit
set_option maxRecDepth 100000
set_option linter.unusedVariables false
set_option linter.unusedSimpArgs false
attribute [local go_sem ↓] Go.wp_at_zero Go.wp_at_succ

theorem last_any (w : World) (q p : Nat) (L : LState) (v : Value) (h : LogM w q p L v) : Calls Tryz.prog 21 #[.pointer (some ⟨q, 0, none⟩)] w fun e w' => e = .returned (.int .i64 (L.last : Int)) ∧ w = w' := by
  have hc := h.lc.c3
  clear h
  go_enter Tryz.func21, Tryz.ntmps21
  go_wp2
  go_ret
  exact ⟨rfl, rfl⟩
theorem acked_any (w : World) (q p : Nat) (L : LState) (v : Value) (h : LogM w q p L v) : Calls Tryz.prog 22 #[.pointer (some ⟨q, 0, none⟩)] w fun e w' => e = .returned (.int .i64 (L.acked : Int)) ∧ w = w' := by
  have hc := h.lc.c4
  clear h
  go_enter Tryz.func22, Tryz.ntmps22
  go_wp2
  go_ret
  exact ⟨rfl, rfl⟩
theorem over_any (w : World) (q p : Nat) (L : LState) (v : Value) (h : LogM w q p L v) : Calls Tryz.prog 24 #[.pointer (some ⟨q, 0, none⟩)] w fun e w' => e = .returned (.bool L.over) ∧ w = w' := by
  have hc := h.lc.c5
  clear h
  go_enter Tryz.func24, Tryz.ntmps24
  go_wp2
  go_ret
  exact ⟨rfl, rfl⟩
def mayE (size last : Int) : Int := if size < 64 ∨ 16777216 < size ∨ last < 0 ∨ 576460752303423488 < last then 2 else 0
theorem append_nameless (D : DState) : D.append ⟨#[]⟩ [] = (D, if D.dark then 15 else 16) := by
  unfold DState.append
  have : namedB ⟨#[]⟩ = false := by decide
  rw [this]
  cases D.dark <;> simp
set_option maxHeartbeats 2000000 in
theorem may_any (w : World) (S : Nat → Prop) (p : Nat) (D : DState) (size last : Int) (h : Disk w S p D) (hs : -9223372036854775808 ≤ size ∧ size ≤ 9223372036854775807) (hl : -9223372036854775808 ≤ last ∧ last ≤ 9223372036854775807) :
    Calls Tryz.prog 92 #[.pointer (some ⟨p, 0, none⟩), .int .i64 size, .int .i64 last] w (DeedPost w S p D (mayE size last)) := by
  have hap := append_any w S S p D ⟨#[]⟩ (.slice none 0 0) [] h (RdB.nil _ _) (by decide) (by simp)
  rw [append_nameless] at hap
  obtain ⟨k, hk⟩ : ∃ k : Int, (if D.dark then (15 : Int) else 16) = k := ⟨_, rfl⟩
  have hk1 : (k == 1) = false := by rw [← hk]; split <;> rfl
  rw [hk] at hap
  have HA := Lib.hid hap
  clear hap h hk
  by_cases h1 : size < 64
  · have hR := Lib.hid (show mayE size last = 2 by unfold mayE; rw [if_pos (by omega)])
    have hd1 : decide (size < 64) = true := decide_eq_true h1
    go_enter Tryz.func92, Tryz.ntmps92
    go_wp2_with (go_at_call 63; refine HA.out.mono ?_; rintro e w' ⟨S', rfl, hd, hs⟩)
    go_ret
    rw [hR.out]
    exact ⟨S', rfl, hd, hs⟩
  · have hd1 : decide (size < 64) = false := decide_eq_false h1
    by_cases h2 : 16777216 < size
    · have hR := Lib.hid (show mayE size last = 2 by unfold mayE; rw [if_pos (by omega)])
      have hd2 : decide (16777216 < size) = true := decide_eq_true h2
      clear h1
      go_enter Tryz.func92, Tryz.ntmps92
      go_wp2_with (go_at_call 63; refine HA.out.mono ?_; rintro e w' ⟨S', rfl, hd, hs⟩)
      go_ret
      rw [hR.out]
      exact ⟨S', rfl, hd, hs⟩
    · have hd2 : decide (16777216 < size) = false := decide_eq_false h2
      by_cases h3 : last < 0
      · have hR := Lib.hid (show mayE size last = 2 by unfold mayE; rw [if_pos (by omega)])
        have hd3 : decide (last < 0) = true := decide_eq_true h3
        clear h1 h2
        go_enter Tryz.func92, Tryz.ntmps92
        go_wp2_with (go_at_call 63; refine HA.out.mono ?_; rintro e w' ⟨S', rfl, hd, hs⟩)
        go_ret
        rw [hR.out]
        exact ⟨S', rfl, hd, hs⟩
      · have hd3 : decide (last < 0) = false := decide_eq_false h3
        by_cases h4 : 576460752303423488 < last
        · have hR := Lib.hid (show mayE size last = 2 by unfold mayE; rw [if_pos (by omega)])
          have hd4 : decide (576460752303423488 < last) = true := decide_eq_true h4
          clear h1 h2 h3
          go_enter Tryz.func92, Tryz.ntmps92
          go_wp2_with (go_at_call 63; refine HA.out.mono ?_; rintro e w' ⟨S', rfl, hd, hs⟩)
          go_ret
          rw [hR.out]
          exact ⟨S', rfl, hd, hs⟩
        · have hR := Lib.hid (show mayE size last = 0 by unfold mayE; rw [if_neg (by omega)])
          have hd4 : decide (576460752303423488 < last) = false := decide_eq_false h4
          clear h1 h2 h3 h4
          go_enter Tryz.func92, Tryz.ntmps92
          go_wp2_with (go_at_call 63; refine HA.out.mono ?_; rintro e w' ⟨S', rfl, hd, hs⟩)
          go_ret
          rw [hR.out]
          exact ⟨S', rfl, hd, hs⟩
end Go.Proofs.YtohpgipgfmkflaaGreatDoor
namespace Go.Proofs.YtohpgipgfmkflaaGreatDoor
set_option linter.unusedSectionVars false
variable [Base]
open Go.RowKit
set_option maxRecDepth 100000
set_option linter.unusedVariables false
set_option linter.unusedSimpArgs false
attribute [local go_sem ↓] Go.wp_at_zero Go.wp_at_succ

def LState.new (size : Int) (last : Nat) : LState := { size := size, firsts := [], last := last, acked := last, over := false }
def BeginP (w : World) (S : Nat → Prop) (p : Nat) (D : DState) (size : Int) (last : Nat) (e : Ending) (w' : World) : Prop :=
  ∃ S' q, e = .returned (.tuple #[.pointer (some ⟨q, 0, none⟩), .int .i64 0]) ∧ w.heap.size ≤ q ∧ LogW w' S' q p (LState.new size last) D (.slice none 0 0) ∧ Step S S' w w'
def BeginN (w : World) (S : Nat → Prop) (p : Nat) (D : DState) (e : Ending) (w' : World) : Prop :=
  ∃ S', e = .returned (.tuple #[.pointer none, .int .i64 2]) ∧ Disk w' S' p D ∧ Step S S' w w'
theorem LogW.fresh (w : World) (S : Nat → Prop) (p : Nat) (D : DState) (size : Int) (last : Nat) (h : Disk w S p D) (hl : Laid w) (hS : ∀ b, S b → Base.b ≤ b) (hs : 64 ≤ size ∧ size ≤ 16777216) (hla : last ≤ 576460752303423488) :
    LogW (w.alloc (.cells #[.pointer (some ⟨p, 0, none⟩), .int .i64 size, .slice none 0 0, .int .i64 (last : Int), .int .i64 (last : Int), .bool false] 27)) S w.heap.size p (LState.new size last) D (.slice none 0 0) := by
  have hB := (Below.refl w.heap.size w).alloc (Nat.le_refl _) (.cells #[.pointer (some ⟨p, 0, none⟩), .int .i64 size, .slice none 0 0, .int .i64 (last : Int), .int .i64 (last : Int), .bool false] 27)
  have h5 := hl.size
  refine ⟨h.below hB, ⟨heap_alloc_new w _, RowI.nil _⟩, ⟨by simp [LState.new]; omega, by simp [LState.new]; omega, by simp [LState.new], by simp [LState.new], hs⟩, ?_, ?_, hl.below hB⟩
  · rintro b (rfl | hb) hs
    · have := h.foot _ hs; omega
    · cases hb
  · rintro b (hb | rfl | hb)
    · exact hS b hb
    · exact h5
    · cases hb
set_option maxHeartbeats 2000000 in
theorem begin_ok (w : World) (S : Nat → Prop) (p : Nat) (D : DState) (size : Int) (last : Nat) (h : Disk w S p D) (hl : Laid w) (hS : ∀ b, S b → Base.b ≤ b) (hs : 64 ≤ size ∧ size ≤ 16777216) (hla : last ≤ 576460752303423488) :
    Calls Tryz.prog 27 #[.pointer (some ⟨p, 0, none⟩), .int .i64 size, .int .i64 (last : Int)] w (BeginP w S p D size last) := by
  have hm := may_any w S p D size (last : Int) h (by omega) (by omega)
  have h0 : mayE size (last : Int) = 0 := by unfold mayE; rw [if_neg (by omega)]
  rw [h0] at hm
  have HM := Lib.hid hm
  have HL := Lib.hid hl
  have HS := Lib.hid hS
  have h5 := hl.size
  clear hm h0 h hl hS
  go_enter Tryz.func27, Tryz.ntmps27
  go_wp2_with (go_at_call 92; refine HM.out.mono ?_; rintro e w1 ⟨S', rfl, hd, hst⟩; have HD := Lib.hid hd; have HST := Lib.hid hst; clear hd hst)
  go_ret2
  have hB := (Below.refl w1.heap.size w1).alloc (Nat.le_refl _) (.cells #[.pointer (some ⟨p, 0, none⟩), .int .i64 size, .slice none 0 0, .int .i64 (last : Int), .int .i64 (last : Int), .bool false] 27)
  refine ⟨S', w1.heap.size, rfl, HST.out.kp.size, LogW.fresh w1 S' p D size last HD.out (HL.out.kp HST.out.kp HS.out) (fun b hb => (HST.out.fresh b hb).elim (HS.out b) (fun h2 => by omega)) hs hla, ?_⟩
  exact ⟨HST.out.kp.below hB, HST.out.fresh⟩
theorem begin_no (w : World) (S : Nat → Prop) (p : Nat) (D : DState) (size last : Int) (h : Disk w S p D) (hs : -9223372036854775808 ≤ size ∧ size ≤ 9223372036854775807) (hl : -9223372036854775808 ≤ last ∧ last ≤ 9223372036854775807) (hb : mayE size last = 2) :
    Calls Tryz.prog 27 #[.pointer (some ⟨p, 0, none⟩), .int .i64 size, .int .i64 last] w (BeginN w S p D) := by
  have hm := may_any w S p D size last h hs hl
  rw [hb] at hm
  have HM := Lib.hid hm
  clear hm h hb
  go_enter Tryz.func27, Tryz.ntmps27
  go_wp2_with (go_at_call 92; refine HM.out.mono ?_; rintro e w1 ⟨S', rfl, hd, hst⟩)
  go_ret2
  exact ⟨S', rfl, hd, hst⟩
end Go.Proofs.YtohpgipgfmkflaaGreatDoor
namespace Go.Proofs.YtohpgipgfmkflaaGreatDoor
set_option linter.unusedSectionVars false
variable [Base]
open Go.RowKit
set_option maxRecDepth 100000
set_option linter.unusedVariables false
set_option linter.unusedSimpArgs false
attribute [local go_sem ↓] Go.wp_at_zero Go.wp_at_succ

theorem own_below {w w1 : World} {base : Nat} {e : TypeId} {size : Nat} {v : Value} {n : Nat} {xs : List Value} (h : w.ownsRow base e size v n xs) (k : Below w.heap.size w w1) : w1.ownsRow base e size v n xs :=
  ownsRow_kp (S := fun _ => False) h (Kp.ofBelow k _) (fun _ _ h => h)
def filesN (l : List Nat) : List ByteArray := l.map fun (n : Nat) => nameB (n : Int)
theorem wpList_append_text {w : World} {ops : Array Oper} {rest : List Oper} {o : Oper} {a : Act} {Q : Exit → Act → World → Prop} (hgd : o.guard = none) (s x : Operand)
    (ho : o.op = .call { callee := .builtin .append, args := #[s, x], argTypes := #[32, 32] }) (base : Nat) (v : Value) (l : List ByteArray) (t : ByteArray) (ad : Addr) (c : Nat)
    (hs : a.eval s = v) (hx : a.eval x = .slice (some ad) 1 c) (hown : w.ownsRow base 9 1 v l.length (sv l)) (hc : ∀ j u, [Value.string t][j]? = some u → w.cell? (ad.add j) = some u) (hlen : l.length ≤ 1000000000) (hbase : base ≤ w.heap.size)
    (h : ∀ v' w', w'.ownsRow base 9 1 v' (l ++ [t]).length (sv (l ++ [t])) → w.grownBy w' v.ownBlock → (v'.ownBlock = v.ownBlock ∨ v'.ownBlock = some w.heap.size) → wpList Tryz.prog ops Q rest (a.put o.dst v') w') :
    wpList Tryz.prog ops Q (o :: rest) a w := by
  obtain ⟨i0, hi, hz0, hz1, hz2⟩ := info_parts infoS
  refine wpList_append_own_at w hgd s x 32 ho base 9 i0 (.string ⟨#[]⟩) 1 16 Tryz.underlying32 hi hz0 hz1 hz2 rfl (by decide) v l.length (sv l) hs hown ad 1 c [.string t] hx rfl hc (by intro u hu; simp at hu; subst hu; rfl) (by simp only [maxLen]; omega) (by omega) hbase ?_
  intro v' w' h4 h5 _ h6
  exact h v' w' (by rw [sv_append, List.length_append]; exact h4) h5 h6
set_option maxHeartbeats 2000000 in
theorem files_any (w : World) (q p : Nat) (L : LState) (v : Value) (h : LogM w q p L v) (hw : L.WF) (hl : Laid w) :
    Calls Tryz.prog 23 #[.pointer (some ⟨q, 0, none⟩)] w (OwnT w (filesN L.firsts)) := by
  have hc2 := h.lc.c2
  have hrow := h.row
  obtain ⟨A, c, ev⟩ := h.row.slice
  have hmany := hw.many
  subst ev
  have HW := Lib.hid hw
  have HR := Lib.hid hrow
  have HL := Lib.hid hl
  obtain ⟨n, hn⟩ : ∃ n, n = L.firsts.length := ⟨_, rfl⟩
  rw [← hn] at hc2 hmany
  have HN := Lib.hid hn
  clear h hw hl hrow hn
  go_enter Tryz.func23, Tryz.ntmps23
  go_wp2
  go_loopw [3, 5, 13] (fun out x i wr => ∃ k : Nat, k ≤ n ∧ i = .int .i64 k ∧ Below w.heap.size w wr ∧ wr.ownsRow w.heap.size 9 1 out (filesN (L.firsts.take k)).length (sv (filesN (L.firsts.take k)))) (fun out x i wr => n - (intOf i).toNat)
  case atStart => exact ⟨0, Nat.zero_le _, rfl, Below.refl _ _, World.ownsRow_nil _ _ _ _⟩
  case round =>
    obtain ⟨k, hk, rfl, hbel, how⟩ := hrel
    have HOW := Lib.hid how
    have HBE := Lib.hid hbel
    have hsz := hbel.size
    clear how hbel
    by_cases hlt : k < n
    · have hkl : k < L.firsts.length := by have := HN.out; omega
      have hrow := HR.out
      rcases hrow with ⟨_, h0⟩ | ⟨g, o, cap, cur, e, hg, _, _, _, h4⟩
      · rw [h0] at hkl; simp at hkl
      injection e with e1 _ e2
      subst e1
      subst e2
      have hq := (cell_row hg (o + k)).trans (h4 k hkl)
      have hq := (HBE.out.cell (p := ⟨g, o + k, none⟩) (World.block_lt_of_cell? w _ hq)).trans hq
      clear hg h4
      have hmx := HW.out.firsts _ (List.getElem_mem hkl)
      have hst : (filesN (L.firsts.take (k + 1))) = filesN (L.firsts.take k) ++ [nameB ((L.firsts[k] : Nat) : Int)] := by
        unfold filesN
        rw [List.take_succ_eq_append_getElem hkl, List.map_append]; rfl
      obtain ⟨x, hx⟩ : ∃ x, L.firsts[k] = x := ⟨_, rfl⟩
      rw [hx] at hq hmx hst
      have HST := Lib.hid hst
      have HNm := Lib.hid (name_any wr (x : Int) (HL.out.below HBE.out) (by omega) (by omega))
      have HLE := Lib.hid (show (filesN (L.firsts.take k)).length ≤ 1000000000 by simp [filesN]; omega)
      have hx1 : (k : Int) < (n : Int) := by omega
      clear hx hst hmx
      go_wp2_with (first | (go_at_call 39; refine HNm.out.mono ?_; rintro e w2 ⟨rfl, hb2⟩; have HO2 := Lib.hid (own_below HOW.out hb2); have HB2 := Lib.hid hb2; have hs2 := hb2.size; clear hb2) | (at_builtin; refine wpList_append_text rfl _ _ rfl w.heap.size _ (filesN (L.firsts.take k)) (nameB (x : Int)) _ _ rfl rfl (HO2.out.alloc _) (cell_one_new w2 _ _) HLE.out (by simp; omega) ?_; intro v' w3 ho3 hg3 hf3; have HO3 := Lib.hid ho3; have HG3 := Lib.hid hg3; clear ho3 hg3 hf3))
      go_roundw
      case rel =>
        refine ⟨k + 1, by omega, by go_num, ?_, by rw [HST.out]; exact HO3.out⟩
        have hB2 := HBE.out.trans (HB2.out.mono HBE.out.size)
        exact (hB2.alloc hB2.size _).grown HG3.out (by have := hB2.size; simp; omega) (fun k hk => (HO2.out.lt k hk).1)
      case measure => simp [intOf]; omega
    · obtain rfl : k = n := by omega
      go_wp2
      go_ret
      have ho := HOW.out
      rw [HN.out, List.take_length] at ho
      exact ⟨_, rfl, ho, HBE.out⟩
end Go.Proofs.YtohpgipgfmkflaaGreatDoor
namespace Go.Proofs.YtohpgipgfmkflaaGreatDoor
set_option linter.unusedSectionVars false
variable [Base]
open Go.RowKit
set_option maxRecDepth 100000
set_option linter.unusedVariables false
set_option linter.unusedSimpArgs false
attribute [local go_sem ↓] Go.wp_at_zero Go.wp_at_succ

/-- v is no log: nil, or the zero Log. -/
def NoLog (w : World) (v : Value) : Prop :=
  v = .pointer none ∨ ∃ q, v = .pointer (some ⟨q, 0, none⟩) ∧ w.heap[q]? = some (.cells #[.pointer none, .int .i64 0, .slice none 0 0, .int .i64 0, .int .i64 0, .bool false] 27 (0, 0))
theorem NoLog.below {w w1 : World} {v : Value} (h : NoLog w v) (k : Below w.heap.size w w1) : NoLog w1 v := by
  rcases h with h | ⟨q, h, hb⟩
  · exact .inl h
  · exact .inr ⟨q, h, (k.block q (Array.getElem?_eq_some_iff.1 hb).1).trans hb⟩
theorem up_no (w : World) (v : Value) (h : NoLog w v) : Calls Tryz.prog 83 #[v] w fun e w' => e = .returned (.int .i64 1) ∧ w = w' := by
  rcases h with rfl | ⟨q, rfl, hb⟩
  · go_enter Tryz.func83, Tryz.ntmps83
    go_wp2
    go_ret
    exact ⟨rfl, rfl⟩
  · have hc0 := cell_row hb 0
    have hc0 : w.cell? ⟨q, 0, none⟩ = some (.pointer none) := hc0
    clear hb
    go_enter Tryz.func83, Tryz.ntmps83
    go_wp2
    go_ret
    exact ⟨rfl, rfl⟩
theorem write_no (w : World) (v vr : Value) (h : NoLog w v) : Calls Tryz.prog 18 #[v, vr] w fun e w' => e = .returned (.tuple #[.int .i64 0, .int .i64 1]) ∧ Below w.heap.size w w' := by
  have hv : v.oneCell' = true := by rcases h with rfl | ⟨q, rfl, _⟩ <;> rfl
  rcases h with rfl | ⟨q, rfl, hb⟩
  · have HU := Lib.hid (up_no (w.alloc (.cells #[.pointer none] 23)) (.pointer none) (.inl rfl))
    go_enter Tryz.func18, Tryz.ntmps18
    go_wp2_with (go_at_call 83; refine HU.out.mono ?_; rintro e w' ⟨rfl, rfl⟩)
    go_ret2
    exact ⟨rfl, (Below.refl _ _).alloc (Nat.le_refl _) _⟩
  · have HU := Lib.hid (up_no (w.alloc (.cells #[.pointer (some ⟨q, 0, none⟩)] 23)) _ (NoLog.below (.inr ⟨q, rfl, hb⟩) ((Below.refl _ _).alloc (Nat.le_refl _) _)))
    clear hb
    go_enter Tryz.func18, Tryz.ntmps18
    go_wp2_with (go_at_call 83; refine HU.out.mono ?_; rintro e w' ⟨rfl, rfl⟩)
    go_ret2
    exact ⟨rfl, (Below.refl _ _).alloc (Nat.le_refl _) _⟩
theorem lsync_no (w : World) (v : Value) (h : NoLog w v) : Calls Tryz.prog 20 #[v] w fun e w' => e = .returned (.int .i64 1) ∧ Below w.heap.size w w' := by
  rcases h with rfl | ⟨q, rfl, hb⟩
  · have HU := Lib.hid (up_no (w.alloc (.cells #[.pointer none] 23)) (.pointer none) (.inl rfl))
    go_enter Tryz.func20, Tryz.ntmps20
    go_wp2_with (go_at_call 83; refine HU.out.mono ?_; rintro e w' ⟨rfl, rfl⟩)
    go_ret
    exact ⟨rfl, (Below.refl _ _).alloc (Nat.le_refl _) _⟩
  · have HU := Lib.hid (up_no (w.alloc (.cells #[.pointer (some ⟨q, 0, none⟩)] 23)) _ (NoLog.below (.inr ⟨q, rfl, hb⟩) ((Below.refl _ _).alloc (Nat.le_refl _) _)))
    clear hb
    go_enter Tryz.func20, Tryz.ntmps20
    go_wp2_with (go_at_call 83; refine HU.out.mono ?_; rintro e w' ⟨rfl, rfl⟩)
    go_ret
    exact ⟨rfl, (Below.refl _ _).alloc (Nat.le_refl _) _⟩
theorem trim_no (w : World) (v : Value) (n : Int) (h : NoLog w v) : Calls Tryz.prog 19 #[v, .int .i64 n] w fun e w' => e = .returned (.tuple #[.slice none 0 0, .int .i64 1]) ∧ Below w.heap.size w w' := by
  rcases h with rfl | ⟨q, rfl, hb⟩
  · have HU := Lib.hid (up_no (w.alloc (.cells #[.pointer none] 23)) (.pointer none) (.inl rfl))
    go_enter Tryz.func19, Tryz.ntmps19
    go_wp2_with (go_at_call 83; refine HU.out.mono ?_; rintro e w' ⟨rfl, rfl⟩)
    go_ret2
    exact ⟨rfl, (Below.refl _ _).alloc (Nat.le_refl _) _⟩
  · have HU := Lib.hid (up_no (w.alloc (.cells #[.pointer (some ⟨q, 0, none⟩)] 23)) _ (NoLog.below (.inr ⟨q, rfl, hb⟩) ((Below.refl _ _).alloc (Nat.le_refl _) _)))
    clear hb
    go_enter Tryz.func19, Tryz.ntmps19
    go_wp2_with (go_at_call 83; refine HU.out.mono ?_; rintro e w' ⟨rfl, rfl⟩)
    go_ret2
    exact ⟨rfl, (Below.refl _ _).alloc (Nat.le_refl _) _⟩
theorem last_no (w : World) (v : Value) (h : NoLog w v) : Calls Tryz.prog 21 #[v] w fun e w' => e = .returned (.int .i64 0) ∧ w = w' := by
  rcases h with rfl | ⟨q, rfl, hb⟩
  · go_enter Tryz.func21, Tryz.ntmps21
    go_wp2
    go_ret
    exact ⟨rfl, rfl⟩
  · have hc : w.cell? ⟨q, 3, none⟩ = some (.int .i64 0) := cell_row hb 3
    clear hb
    go_enter Tryz.func21, Tryz.ntmps21
    go_wp2
    go_ret
    exact ⟨rfl, rfl⟩
theorem acked_no (w : World) (v : Value) (h : NoLog w v) : Calls Tryz.prog 22 #[v] w fun e w' => e = .returned (.int .i64 0) ∧ w = w' := by
  rcases h with rfl | ⟨q, rfl, hb⟩
  · go_enter Tryz.func22, Tryz.ntmps22
    go_wp2
    go_ret
    exact ⟨rfl, rfl⟩
  · have hc : w.cell? ⟨q, 4, none⟩ = some (.int .i64 0) := cell_row hb 4
    clear hb
    go_enter Tryz.func22, Tryz.ntmps22
    go_wp2
    go_ret
    exact ⟨rfl, rfl⟩
theorem over_no (w : World) (v : Value) (h : NoLog w v) : Calls Tryz.prog 24 #[v] w fun e w' => e = .returned (.bool false) ∧ w = w' := by
  rcases h with rfl | ⟨q, rfl, hb⟩
  · go_enter Tryz.func24, Tryz.ntmps24
    go_wp2
    go_ret
    exact ⟨rfl, rfl⟩
  · have hc : w.cell? ⟨q, 5, none⟩ = some (.bool false) := cell_row hb 5
    clear hb
    go_enter Tryz.func24, Tryz.ntmps24
    go_wp2
    go_ret
    exact ⟨rfl, rfl⟩
theorem files_no (w : World) (v : Value) (h : NoLog w v) : Calls Tryz.prog 23 #[v] w fun e w' => e = .returned (.slice none 0 0) ∧ w = w' := by
  rcases h with rfl | ⟨q, rfl, hb⟩
  · go_enter Tryz.func23, Tryz.ntmps23
    go_wp2
    go_ret
    exact ⟨rfl, rfl⟩
  · have hc : w.cell? ⟨q, 2, none⟩ = some (.slice none 0 0) := cell_row hb 2
    clear hb
    go_enter Tryz.func23, Tryz.ntmps23
    go_wp2
    refine wp_loop_rounds 1 ?_
    rw [rounds_succ]
    go_wp2
    go_ret
    exact ⟨rfl, rfl⟩
end Go.Proofs.YtohpgipgfmkflaaGreatDoor
namespace Go.Proofs.YtohpgipgfmkflaaGreatDoor
set_option linter.unusedSectionVars false
variable [Base]
open Go.RowKit
set_option maxRecDepth 100000
set_option linter.unusedVariables false
set_option linter.unusedSimpArgs false
attribute [local go_sem ↓] Go.wp_at_zero Go.wp_at_succ

/-- Trim: whole segments go, the first one first. -/
def trimR (below : Int) (L : LState) : DState → List ByteArray → List Nat → LState × DState × List ByteArray × Int
  | D, gone, x :: y :: r =>
    if (y : Int) ≤ below then
      if (D.remove (nameB (x : Int))).2 ≠ 0 then ({ L with firsts := x :: y :: r, over := true }, (D.remove (nameB (x : Int))).1, gone, (D.remove (nameB (x : Int))).2)
      else trimR below L (D.remove (nameB (x : Int))).1 (gone ++ [nameB (x : Int)]) (y :: r)
    else ({ L with firsts := x :: y :: r }, D, gone, 0)
  | D, gone, l => ({ L with firsts := l }, D, gone, 0)
def LState.trims (L : LState) (D : DState) (below : Int) : LState × DState × List ByteArray × Int :=
  if L.over then (L, D, [], 17) else trimR below L D [] L.firsts
theorem eg_lt1 (args : Array Value) (w : World) : (callFunc 89 args).run Tryz.prog w = .ok (.enter 89 args) w := by kernel_rfl
set_option maxHeartbeats 2000000 in
theorem lt1_any (w : World) (Sd : Nat → Prop) (q p : Nat) (L : LState) (D : DState) (v : Value) (al an : Nat) (nm : ByteArray) (h : LogW w Sd q p L D v) (hal : w.cell? ⟨al, 0, none⟩ = some (.pointer (some ⟨q, 0, none⟩))) (hal2 : ¬ Sd al ∧ ¬ Ow q v al)
    (han : w.cell? ⟨an, 0, none⟩ = some (.string nm)) (han2 : ¬ Sd an ∧ ¬ Ow q v an) :
    Calls Tryz.prog 89 #[.pointer (some ⟨al, 0, none⟩), .pointer (some ⟨an, 0, none⟩)] w (CPost w Sd q p v L (D.remove nm).1 (D.remove nm).2) := by
  have hc0 := h.log.lc.c0
  have HH := Lib.hid h
  have hD := (Below.refl w.heap.size w).drew
  have HS := Lib.hid (remove_any w.drew Sd p D nm (h.disk.below hD))
  have HD := Lib.hid hD
  clear h hD
  go_enter Tryz.func89, Tryz.ntmps89
  go_wp2
  refine wp_region_noPanic ?_
  refine wp_region_held_drew (S := (fun w' => w'.cell? ⟨al, 0, none⟩ = some (.pointer (some ⟨q, 0, none⟩)) ∧ w'.cell? ⟨q, 0, none⟩ = some (.pointer (some ⟨p, 0, none⟩)) ∧ w'.cell? ⟨an, 0, none⟩ = some (.string nm))) (by kernel_rfl) ?_ (fun hHeld => ?_)
  · exact ⟨hal, hc0, han⟩
  refine wpAnyH_take (i := 0) (oi := _) (v := ?_) rfl (by kernel_rfl) (by kernel_rfl) (by kernel_rfl) (fun _ _ _ h => h) (Or.inl ⟨by rfl, ?_⟩) (by assumption) ?_
  rotate_left
  · intro w hSw
    try dsimp only at hSw
    go_simp
    try with_reducible rfl
  try simp only [Act.put, List.setIfInBounds_toArray, List.set_cons_zero, List.set_cons_succ, List.getElem_toArray, List.getElem_cons_zero, List.getElem_cons_succ]
  refine wpAnyH_take (i := 1) (oi := _) (v := ?_) rfl (by kernel_rfl) (by kernel_rfl) (by kernel_rfl) (fun _ _ _ h => h) (Or.inl ⟨by rfl, ?_⟩) (by assumption) ?_
  rotate_left
  · intro w hSw
    try dsimp only at hSw
    go_simp
    try with_reducible rfl
  try simp only [Act.put, List.setIfInBounds_toArray, List.set_cons_zero, List.set_cons_succ, List.getElem_toArray, List.getElem_cons_zero, List.getElem_cons_succ]
  refine wpAnyH_take (i := 2) (oi := _) (v := ?_) rfl (by kernel_rfl) (by kernel_rfl) (by kernel_rfl) (fun _ _ _ h => h) (Or.inl ⟨by rfl, ?_⟩) (by assumption) ?_
  rotate_left
  · intro w hSw
    try dsimp only at hSw
    go_simp
    try with_reducible rfl
  try simp only [Act.put, List.setIfInBounds_toArray, List.set_cons_zero, List.set_cons_succ, List.getElem_toArray, List.getElem_cons_zero, List.getElem_cons_succ]
  refine wpAnyH_take (i := 3) (oi := _) (v := ?_) rfl (by kernel_rfl) (by kernel_rfl) (by kernel_rfl) (fun _ _ _ h => h) (Or.inl ⟨by rfl, ?_⟩) (by assumption) ?_
  rotate_left
  · intro w hSw
    try dsimp only at hSw
    go_simp
    try with_reducible rfl
  try simp only [Act.put, List.setIfInBounds_toArray, List.set_cons_zero, List.set_cons_succ, List.getElem_toArray, List.getElem_cons_zero, List.getElem_cons_succ]
  refine wpAnyH_take (i := 4) (oi := _) (v := ?_) rfl (by kernel_rfl) (by kernel_rfl) (by kernel_rfl) (fun _ _ _ h => h) (Or.inl ⟨by rfl, ?_⟩) (by assumption) ?_
  rotate_left
  · intro w hSw
    try dsimp only at hSw
    go_simp
    try with_reducible rfl
  try simp only [Act.put, List.setIfInBounds_toArray, List.set_cons_zero, List.set_cons_succ, List.getElem_toArray, List.getElem_cons_zero, List.getElem_cons_succ]
  refine wpAnyH_ready (rs := [5]) (by kernel_rfl) (by simp) ?_
  refine AllReadyH.cons (o := _) rfl (fun K hK => ?_) AllReadyH.nil
  go_simp
  go_at_call 66
  refine HS.out.mono ?_
  rintro e w3 hp
  have HP := Lib.hid (HH.out.deed HD.out hp)
  obtain ⟨S', rfl, hd, hs⟩ := hp
  have hq1 := hs.kp.cell (w := w.drew) hal hal2.1
  have hq2 := hs.kp.cell (w := w.drew) hc0 (HH.out.apart q (.inl rfl))
  have hq3 := hs.kp.cell (w := w.drew) han han2.1
  clear hd hs
  go_wp2
  refine hK.out _ _ ?_ (fun hHeld => ?_)
  · exact ⟨hq1, hq2, hq3⟩
  clear hK K
  try simp only [Act.put, List.setIfInBounds_toArray, List.set_cons_zero, List.set_cons_succ, List.getElem_toArray, List.getElem_cons_zero, List.getElem_cons_succ]
  refine wpAnyH_take (i := 6) (oi := _) (v := ?_) rfl (by kernel_rfl) (by kernel_rfl) (by kernel_rfl) (fun _ _ _ h => h) (Or.inl ⟨by rfl, ?_⟩) (by assumption) ?_
  rotate_left
  · intro w hSw
    try dsimp only at hSw
    go_simp
    try with_reducible rfl
  try simp only [Act.put, List.setIfInBounds_toArray, List.set_cons_zero, List.set_cons_succ, List.getElem_toArray, List.getElem_cons_zero, List.getElem_cons_succ]
  refine wpAnyH_done (by kernel_rfl) ?_ _
  refine NoPanic.normal ?_
  go_wp2
  go_ret
  exact HP.out
def RemR (w : World) (Sd : Nat → Prop) (q p : Nat) (v : Value) (L : LState) (D : DState) (nm : ByteArray) (er : Int) (w' : World) : Prop :=
  er = (D.remove nm).2 ∧ LPost w Sd q p v (if er ≠ 0 then L.ended else L) (D.remove nm).1 w'
theorem trim_W (w : World) (Sd : Nat → Prop) (q p : Nat) (L : LState) (D : DState) (v : Value) (al an h : Nat) (nm : ByteArray) (hl : LogW w Sd q p L D v) (hal : w.cell? ⟨al, 0, none⟩ = some (.pointer (some ⟨q, 0, none⟩))) (hal2 : ¬ Sd al ∧ ¬ Ow q v al)
    (han : w.cell? ⟨an, 0, none⟩ = some (.string nm)) (han2 : ¬ Sd an ∧ ¬ Ow q v an) (hh : h < w.heap.size) (hh2 : ¬ Sd h ∧ ¬ Ow q v h) :
    AllW q h (RemR w Sd q p v L D nm) [(89, #[.pointer (some ⟨al, 0, none⟩), .pointer (some ⟨an, 0, none⟩)])] w := by
  refine ⟨eg_lt1, (lt1_any w Sd q p L D v al an nm hl hal hal2 han han2).mono fun e w1 hc => hc.all hh2 hh (fun hne w2 hp => ?_) (fun he Sd1 v1 hl1 hs1 => ?_)⟩
  · refine ⟨rfl, ?_⟩
    rw [if_pos hne]
    exact hp
  · show RemR w Sd q p v L D nm 0 w1
    refine ⟨he.symm, ?_⟩
    rw [if_neg (by simp)]
    exact ⟨Sd1, v1, hl1, hs1⟩
/-- Other blocks turn, none of bytes. -/
theorem LogW.out {w w1 : World} {Sd O : Nat → Prop} {q p : Nat} {L : LState} {D : DState} {v : Value} (h : LogW w Sd q p L D v) (k : Kp O w w1) (hO : ∀ b, O b → ¬ Sd b ∧ ¬ Ow q v b ∧ Base.b ≤ b) (hu : ∀ b, O b → b < w.heap.size → ¬ U8 w b) : LogW w1 Sd q p L D v :=
  ⟨h.disk.kpOut k (fun b hb => (hO b hb).1) hu, h.log.kp k (fun b hb ho => (hO b ho).2.1 hb), h.wf, h.apart, h.low, h.laid.kp k (fun b hb => (hO b hb).2.2)⟩
theorem LStep.later {Sd Sl Sd2 Sl2 O : Nat → Prop} {w w3 w5 : World} (h : LStep Sd Sl Sd2 Sl2 w w3) (k : Kp O w3 w5) (hO : ∀ b, O b → w.heap.size ≤ b) : LStep Sd Sl Sd2 Sl2 w w5 :=
  ⟨h.kp.trans k (fun b hb => .inr (hO b hb)), h.fd, h.fl⟩
/-- The first segment has gone. -/
theorem LogW.tail {w : World} {Sd : Nat → Prop} {q p : Nat} {L : LState} {D : DState} {g o c x y : Nat} {r : List Nat} (h : LogW w Sd q p { L with firsts := x :: y :: r } D (.slice (some ⟨g, o, none⟩) (r.length + 2) c)) :
    LogW (w.setCell ⟨q, 2, none⟩ (.slice (some ⟨g, o + 1, none⟩) (r.length + 1) (c - 1))) Sd q p { L with firsts := y :: r } D (.slice (some ⟨g, o + 1, none⟩) (r.length + 1) (c - 1)) ∧
    LStep Sd (Ow q (.slice (some ⟨g, o, none⟩) (r.length + 2) c)) Sd (Ow q (.slice (some ⟨g, o + 1, none⟩) (r.length + 1) (c - 1))) w (w.setCell ⟨q, 2, none⟩ (.slice (some ⟨g, o + 1, none⟩) (r.length + 1) (c - 1))) := by
  refine h.own ⟨?_, ?_⟩ ⟨h.wf.last, h.wf.acked, fun n hn => h.wf.firsts n (List.mem_cons_of_mem _ hn), by have := h.wf.many; simp only [List.length_cons] at this ⊢; omega, h.wf.size⟩ ((Kp.refl _ w).setCell (.inl (.inl rfl)) _) (fun b hb => .inl (.inr hb))
  · rw [heap_setCell_cells w q 2 _ _ _ h.log.blk]
    rfl
  · have hg : g ≠ q := fun e => h.log.ne (by rw [e]; rfl)
    rcases h.log.row with ⟨e, _⟩ | ⟨g', o', c', cur, e, hb, h1, h2, h3, h4⟩
    · cases e
    · injection e with e1 e2 e3
      injection e1 with e1
      injection e1 with e1 e4
      subst e1
      subst e3
      subst e4
      simp only [List.length_cons] at h1 h4
      refine .inr ⟨g, o + 1, c - 1, cur, by simp, ?_, by simp; omega, by omega, by omega, fun j hj => ?_⟩
      · rw [Below.heap_setCell w _ _ g hg]; exact hb
      · have := h4 (j + 1) (by simp only [List.length_cons] at hj; omega)
        rw [show o + 1 + j = o + (j + 1) by omega, this]
        simp
/-- The call of all, behind the name and the deed. -/
theorem trim_call (w : World) (Sd : Nat → Prop) (q p : Nat) (L : LState) (D : DState) (v : Value) (al : Nat) (nm : ByteArray) (hl : LogW w Sd q p L D v) (hal : w.cell? ⟨al, 0, none⟩ = some (.pointer (some ⟨q, 0, none⟩))) (hal2 : ¬ Sd al ∧ ¬ Ow q v al) :
    Calls Tryz.prog 87 #[.pointer (some ⟨q, 0, none⟩), .slice (some ⟨w.heap.size + 1, 0, none⟩) 1 1] ((w.alloc (.cells #[.string nm] 9)).alloc (.cells #[.func (.func 89) #[] #[.pointer (some ⟨al, 0, none⟩), .pointer (some ⟨w.heap.size, 0, none⟩)]] 35))
      fun e w' => ∃ er : Int, e = .returned (.int .i64 er) ∧ RemR w Sd q p v L D nm er w' ∧ w'.cell? ⟨w.heap.size, 0, none⟩ = some (.string nm) := by
  have hB1 := (Below.refl w.heap.size w).alloc (Nat.le_refl _) (.cells #[.string nm] 9)
  have hB2 := hB1.alloc (by simp) (.cells #[.func (.func 89) #[] #[.pointer (some ⟨al, 0, none⟩), .pointer (some ⟨w.heap.size, 0, none⟩)]] 35)
  have hn : ∀ a, w.heap.size ≤ a → ¬ Sd a ∧ ¬ Ow q v a := fun a ha => ⟨fun hs => by have := hl.disk.foot a hs; omega, fun hs => by have := hl.log.foot a hs; omega⟩
  have hW := trim_W _ Sd q p L D v al w.heap.size (w.heap.size + 1) nm (hl.below hB2) (cell_alloc (cell_alloc hal _) _) hal2 (cell_alloc (cell_new w _ _) _) (hn _ (Nat.le_refl _)) (by simp) (hn _ (by omega))
  have hc := heap_alloc_new (w.alloc (.cells #[.string nm] 9)) (.cells #[.func (.func 89) #[] #[.pointer (some ⟨al, 0, none⟩), .pointer (some ⟨w.heap.size, 0, none⟩)]] 35)
  rw [show (w.alloc (.cells #[.string nm] 9)).heap.size = w.heap.size + 1 by simp] at hc
  refine (all_any _ q (w.heap.size + 1) 1 _ [(89, #[.pointer (some ⟨al, 0, none⟩), .pointer (some ⟨w.heap.size, 0, none⟩)])] (by simp) (fun i hi => (cell_row hc i).trans (by
        match i, hi with
        | 0, _ => rfl
        | n + 1, hi => exact absurd hi (by simp))) hW).mono ?_
  rintro e w' ⟨er, rfl, he, hp⟩
  refine ⟨er, rfl, ⟨he, hp.from hB2⟩, ?_⟩
  obtain ⟨Sd', v', _, hs⟩ := hp
  exact hs.cell (cell_alloc (cell_new w _ _) _) (hn _ (Nat.le_refl _))
/-- One name more of what has gone. -/
theorem append_gone (w : World) (base : Nat) (g : Value) (gone : List ByteArray) (nm : ByteArray) (ty : TypeId) (ho : w.ownsRow base 9 1 g gone.length (sv gone)) (hb : base ≤ w.heap.size) (hl : gone.length ≤ 1000000000) :
    ∃ A c w', (Builtin.append_ #[32, 32] ty #[g, .slice (some ⟨w.heap.size, 0, none⟩) 1 1]).run Tryz.prog (w.alloc (.cells #[.string nm] 9)).drew = .ok (.slice A (gone.length + 1) c) w' ∧
      w'.ownsRow base 9 1 (.slice A (gone.length + 1) c) (gone.length + 1) (sv (gone ++ [nm])) ∧ Kp (fun b => g.ownBlock = some b) w w' ∧ ((Value.slice A (gone.length + 1) c).ownBlock = g.ownBlock ∨ ∃ b, (Value.slice A (gone.length + 1) c).ownBlock = some b ∧ w.heap.size ≤ b) := by
  obtain ⟨i0, hi, hz0, hz1, hz2⟩ := info_parts infoS
  have hB : Below w.heap.size w (w.alloc (.cells #[.string nm] 9)).drew := ((Below.refl _ _).alloc (Nat.le_refl _) _).drew
  obtain ⟨v', w', hr, ho2, hg, _, hf⟩ := run_append_own_at (P := Tryz.prog) (w.alloc (.cells #[.string nm] 9)).drew base 32 ty 9 i0 (.string ⟨#[]⟩) 1 16 Tryz.underlying32 hi hz0 hz1 hz2 rfl (by decide) g gone.length (sv gone) (own_below ho hB) ⟨w.heap.size, 0, none⟩ 1 1 [.string nm] rfl
    (cell_one_new w _ _) (by intro u hu; simp at hu; subst hu; rfl) (by simp only [maxLen]; omega) (by omega) (by simp; omega)
  obtain ⟨A, c, rfl⟩ := own_slice ho2
  refine ⟨A, c, w', hr, by rw [sv_append]; exact ho2, (Kp.ofBelow hB _).grown hg (fun k hk => .inl hk), hf.imp id (fun h => ⟨_, h, by simp⟩)⟩
/-- A round of Trim: what has gone, what there is. -/
structure TrimI (X wr : World) (Sd : Nat → Prop) (q p : Nat) (L : LState) (v : Value) (below : Int) (goal : LState × DState × List ByteArray × Int) (g : Value) (rest : List Nat) (D1 : DState) (gone : List ByteArray) (Sd1 : Nat → Prop) (v1 : Value) : Prop where
  eq : trimR below L D1 gone rest = goal
  len : gone.length + rest.length = L.firsts.length
  log : LogW wr Sd1 q p { L with firsts := rest } D1 v1
  step : LStep Sd (Ow q v) Sd1 (Ow q v1) X wr
  own : wr.ownsRow X.heap.size 9 1 g gone.length (sv gone)
  apart : ∀ b, g.ownBlock = some b → ¬ Sd1 b ∧ ¬ Ow q v1 b
def TrimP (w : World) (Sd : Nat → Prop) (q p : Nat) (v : Value) (r : LState × DState × List ByteArray × Int) (e : Ending) (w' : World) : Prop :=
  ∃ g, e = .returned (.tuple #[g, .int .i64 r.2.2.2]) ∧ w'.ownsRow w.heap.size 9 1 g r.2.2.1.length (sv r.2.2.1) ∧ ∃ Sd1 v1, LogW w' Sd1 q p r.1 r.2.1 v1 ∧ LStep Sd (Ow q v) Sd1 (Ow q v1) w w' ∧ ∀ b, g.ownBlock = some b → ¬ Sd1 b ∧ ¬ Ow q v1 b
set_option maxHeartbeats 4000000 in
theorem trim_any (w : World) (Sd : Nat → Prop) (q p : Nat) (L : LState) (D : DState) (v : Value) (below : Int) (h : LogW w Sd q p L D v) :
    Calls Tryz.prog 19 #[.pointer (some ⟨q, 0, none⟩), .int .i64 below] w (TrimP w Sd q p v (L.trims D below)) := by
  have hB := (Below.refl w.heap.size w).alloc (Nat.le_refl _) (.cells #[.pointer (some ⟨q, 0, none⟩)] 23)
  have hal := cell_new w (.pointer (some ⟨q, 0, none⟩)) 23
  have hn : ∀ a, w.heap.size ≤ a → ¬ Sd a ∧ ¬ Ow q v a := fun a ha => ⟨fun hs => by have := h.disk.foot a hs; omega, fun hs => by have := h.log.foot a hs; omega⟩
  have hX := h.below hB
  obtain ⟨X, hXe⟩ : ∃ X, w.alloc (.cells #[.pointer (some ⟨q, 0, none⟩)] 23) = X := ⟨_, rfl⟩
  have hXs : X.heap.size = w.heap.size + 1 := by rw [← hXe]; simp
  rw [hXe] at hB hal hX
  have hal2 := hn _ (Nat.le_refl _)
  have HXs := Lib.hid hXs
  have HXe := Lib.hid hXe
  have HH := Lib.hid hX
  have HB := Lib.hid hB
  have HN := Lib.hid hn
  have HU := Lib.hid (up_any X q p L v hX.log)
  cases ho : L.over with
  | true =>
    have hU : Hid (upE L = 17) := Lib.hid (by unfold upE; rw [ho]; rfl)
    have hR := Lib.hid (show L.trims D below = (L, D, [], 17) by unfold LState.trims; rw [ho]; rfl)
    rw [hU.out] at HU
    clear hB hX hXs hXe hn ho h
    go_enter Tryz.func19, Tryz.ntmps19
    go_wp2_with (go_at_call 83; simp only [HXe.out]; refine HU.out.mono ?_; rintro e w' ⟨rfl, rfl⟩)
    go_ret2
    rw [TrimP, hR.out]
    exact ⟨_, rfl, World.ownsRow_nil _ _ _ _, Sd, v, HH.out, LStep.below _ _ HB.out, fun b hb => by cases hb⟩
  | false =>
    have hU : Hid (upE L = 0) := Lib.hid (by unfold upE; rw [ho]; rfl)
    rw [hU.out] at HU
    have hR := Lib.hid (show L.trims D below = trimR below L D [] L.firsts by unfold LState.trims; rw [ho]; rfl)
    have hmany := h.wf.many
    have hLn : Hid (L.firsts.length ≤ 1000000) := Lib.hid hmany
    clear hB hX hXs hXe hn ho h hmany
    go_enter Tryz.func19, Tryz.ntmps19
    go_wp2_with (go_at_call 83; simp only [HXe.out]; refine HU.out.mono ?_; rintro e w' ⟨rfl, rfl⟩)
    go_loopw [7] (fun g wr => ∃ rest D1 gone Sd1 v1, TrimI X wr Sd q p L v below (L.trims D below) g rest D1 gone Sd1 v1) (fun g wr => L.firsts.length - (match g with | .slice _ n _ => n | _ => 0))
    case atStart => exact ⟨L.firsts, D, [], Sd, v, ⟨hR.out.symm, by simp, HH.out, LStep.refl _ _ _, World.ownsRow_nil _ _ _ _, fun b hb => by cases hb⟩⟩
    case round =>
      obtain ⟨rest, D1, gone, Sd1, v1, hI⟩ := hrel
      obtain ⟨Ag, cg, rfl⟩ := own_slice hI.own
      have hal1 := hI.step.cell hal hal2
      have hal12 := hI.step.notd (World.block_lt_of_cell? X _ hal) hal2
      have hc2 := hI.log.log.lc.c2
      have hrow := hI.log.log.row
      have HI := Lib.hid hI
      have hbz := Lib.hid (HB.out.size)
      have hlen := Lib.hid hI.len
      rcases rest with _ | ⟨x, _ | ⟨y, r⟩⟩
      · obtain ⟨A2, c2, e2⟩ := hrow.slice
        have HE := Lib.hid (show L.trims D below = ({ L with firsts := [] }, D1, gone, 0) by rw [← hI.eq]; rfl)
        subst e2
        clear hI hrow
        go_wp2
        go_ret2
        rw [TrimP, HE.out]
        exact ⟨_, rfl, own_mono HI.out.own hbz.out, Sd1, _, HI.out.log, (LStep.below Sd (Ow q v) HB.out).trans HI.out.step, HI.out.apart⟩
      · obtain ⟨A2, c2, e2⟩ := hrow.slice
        have HE := Lib.hid (show L.trims D below = ({ L with firsts := [x] }, D1, gone, 0) by rw [← hI.eq]; rfl)
        subst e2
        clear hI hrow
        go_wp2
        go_ret2
        rw [TrimP, HE.out]
        exact ⟨_, rfl, own_mono HI.out.own hbz.out, Sd1, _, HI.out.log, (LStep.below Sd (Ow q v) HB.out).trans HI.out.step, HI.out.apart⟩
      · rcases hrow with ⟨_, h0⟩ | ⟨g, o, c, cur, rfl, hg, h1, h2, h3, h4⟩
        · cases h0
        simp only [List.length_cons] at h1 h4 hc2
        have hx0 := (cell_row hg (o + 0)).trans (h4 0 (by omega))
        have hx1 := (cell_row hg (o + 1)).trans (h4 1 (by omega))
        simp only [List.getElem_cons_zero, List.getElem_cons_succ, Nat.add_zero] at hx0 hx1
        have hxm : x ≤ 1152921504606846976 := hI.log.wf.firsts x (by simp)
        obtain ⟨n, hrn⟩ : ∃ n, r.length = n := ⟨_, rfl⟩
        have hnm : n ≤ 1000000 := by have := hI.log.wf.many; simp only [List.length_cons] at this; omega
        have hnc : n + 2 ≤ c := by omega
        rw [hrn] at hc2
        have HRN := Lib.hid hrn
        have hd1 : decide ((1 : Int) < (n : Int) + 1 + 1) = true := decide_eq_true (by omega)
        have HG := Lib.hid hg
        clear hI hg h1 h3 h4 hrn
        by_cases hle : (y : Int) ≤ below
        · have hd : decide ((y : Int) ≤ below) = true := decide_eq_true hle
          have HNm := Lib.hid (name_any wr (x : Int) HI.out.log.laid (by omega) (by omega))
          obtain ⟨nm, hnme⟩ : ∃ nm, nameB (x : Int) = nm := ⟨_, rfl⟩
          rw [hnme] at HNm
          have HNe := Lib.hid hnme
          have hwz := Lib.hid (HI.out.step.kp.size)
          clear hnme
          go_wp2_with (first | (go_at_call 39; refine HNm.out.mono ?_; rintro e w2 ⟨rfl, hb2⟩; have HB2 := Lib.hid hb2; have hal3 := (hb2.cell (World.block_lt_of_cell? wr _ hal1)).trans hal1; have hal4 := fun ob => cell_alloc hal3 ob; have HC := Lib.hid (trim_call w2 Sd1 q p { L with firsts := x :: y :: r } D1 _ w.heap.size nm (HI.out.log.below hb2) hal3 hal12); clear hb2) | (go_at_call 87; refine HC.out.mono ?_; rintro e w3 ⟨er, rfl, hr, han5⟩; have HR1 := Lib.hid hr; have HAN := Lib.hid han5; clear hr han5))
          · have hne1 : er ≠ 0 := by simpa using (by assumption : (er != 0) = true)
            go_ret2
            obtain ⟨he, hp⟩ := HR1.out
            rw [if_pos hne1] at hp
            obtain ⟨Sd2, v2, hl2, hs2⟩ := (hp.from HB2.out)
            have e : L.trims D below = ({ L with firsts := x :: y :: r, over := true }, (D1.remove nm).1, gone, er) := by
              rw [← HI.out.eq]
              unfold trimR
              rw [if_pos hle, HNe.out, ← he, if_pos hne1]
            rw [TrimP, e]
            refine ⟨_, rfl, ?_, Sd2, v2, hl2, (LStep.below Sd (Ow q v) HB.out).trans (HI.out.step.trans hs2), fun b hb => ?_⟩
            · exact own_mono (ownsRow_kp HI.out.own hs2.kp (fun b hb h => h.elim (HI.out.apart b hb).1 (HI.out.apart b hb).2)) hbz.out
            · exact hs2.notd (HI.out.own.lt b hb).2 (HI.out.apart b hb)
          · have her : er = 0 := by simpa using (by assumption : (er != 0) = false)
            obtain ⟨he, hp⟩ := HR1.out
            rw [if_neg (by simpa using her)] at hp
            obtain ⟨Sd2, v2, hl2, hs2⟩ := (hp.from HB2.out)
            have hown2 := ownsRow_kp HI.out.own hs2.kp (fun b hb h => h.elim (HI.out.apart b hb).1 (HI.out.apart b hb).2)
            have hap2 : ∀ b, (Value.slice Ag gone.length cg).ownBlock = some b → ¬ Sd2 b ∧ ¬ Ow q v2 b := fun b hb => hs2.notd (HI.out.own.lt b hb).2 (HI.out.apart b hb)
            have hal5 := hs2.cell hal1 hal12
            have hal6 := hs2.notd (World.block_lt_of_cell? wr _ hal1) hal12
            have han5 := HAN.out
            have hrow2 := hl2.log.row
            rcases hrow2 with ⟨_, h0⟩ | ⟨g2, o2, c2, cur2, rfl, hg2, k1, k2, k3, k4⟩
            · cases h0
            have hgl : gone.length ≤ 1000000000 := by have := hlen.out; have := hLn.out; omega
            have hX3 : X.heap.size ≤ w3.heap.size := Nat.le_trans hwz.out hs2.kp.size
            obtain ⟨A5, c5, w5, hrun, ho5, hk5, hf5⟩ := append_gone w3 X.heap.size (.slice Ag gone.length cg) gone nm 32 hown2 hX3 hgl
            have hc25 := hl2.log.lc.c2
            simp only [List.length_cons] at hc25 k1
            rw [HRN.out] at hc25 k1
            have h5X : Base.b ≤ X.heap.size := HH.out.laid.size
            have hrcn : n + 2 ≤ c2 := by omega
            have hle1 : (1 : Int) ≤ (n : Int) + 1 + 1 := by omega
            have hcne : ¬ c2 = 1 := by omega
            have hgb : ∀ b, (Value.slice Ag gone.length cg).ownBlock = some b → X.heap.size ≤ b ∧ b < wr.heap.size := fun b hb => HI.out.own.lt b hb
            have hl5 : LogW w5 Sd2 q p { L with firsts := x :: y :: r } (D1.remove nm).1 (.slice (some ⟨g2, o2, none⟩) (x :: y :: r).length c2) := hl2.out hk5 (fun b hb => ⟨(hap2 b hb).1, (hap2 b hb).2, by have := (hgb b hb).1; omega⟩) (fun b hb hlt hu => by
              rcases hu with ⟨cur', fz', hu⟩ | hlo
              rotate_left
              · have := (hgb b hb).1; omega
              rcases hown2.2 with ⟨e, _⟩ | ⟨gg, cap, cur, e, _, hg', _⟩
              · rw [e] at hb; cases hb
              · have : gg = b := by rw [e] at hb; simpa [Value.ownBlock] using hb
                rw [← this, hg'] at hu; injection hu with hu; injection hu with _ ht; exact absurd ht (by decide))
            have hq5 := hk5.cell hal5 (fun hb => by have h1 := (hgb _ hb).1; have h2 := HXs.out; dsimp only at h1; omega)
            have hq6 := hk5.cell han5 (fun hb => by have h1 := (hgb _ hb).2; have h2 := HB2.out.size; dsimp only at h1; omega)
            have hq7 := hl5.log.lc.c2
            have hq8 := hl5.log.lc.fz 2
            simp only [List.length_cons] at hq7
            rw [HRN.out] at hq7
            have HRUN := Lib.hid hrun
            have hl5b : LogW w5 Sd2 q p { L with firsts := x :: y :: r } (D1.remove nm).1 (.slice (some ⟨g2, o2, none⟩) (r.length + 2) c2) := hl5
            have HT := Lib.hid hl5b.tail
            have HO5 := Lib.hid ho5
            have HK5 := Lib.hid hk5
            have HF5 := Lib.hid hf5
            have HHe := Lib.hid he
            have HEr := Lib.hid her
            have HAP2 := Lib.hid hap2
            have HO6 : Hid (∀ b, (Value.slice A5 (gone.length + 1) c5).ownBlock = some b → ¬ Sd2 b ∧ ¬ Ow q (.slice (some ⟨g2, o2 + 1, none⟩) (n + 1) (c2 - 1)) b) := Lib.hid (fun b hb => by
              rcases hf5 with hf | ⟨b', hf, hlt⟩
              · exact hap2 b (by rw [← hf]; exact hb)
              · have : b' = b := by rw [hf] at hb; injection hb
                subst this
                exact ⟨fun h => by have := hl2.disk.foot b' h; omega, fun h => by have := hl2.log.foot b' h; omega⟩)
            have HK := Lib.hid (LStep.later (HI.out.step.trans hs2) hk5 (fun b hb => (hgb b hb).1))
            have HS2 := Lib.hid hs2
            have hanq : w2.heap.size ≠ q := fun e => by have := HI.out.log.log.foot q (.inl rfl); have := HB2.out.size; omega
            have halq : w.heap.size ≠ q := fun e => hal6.2 (.inl e)
            clear hrun hl5 hl5b ho5 hk5 hf5 hap2 hs2 hl2 hg2 k1 k3 k4 hown2 hgb hal hal1 hal2 hal3 hal4 hal6 hal12 he her hx0 hx1 hc2
            have hc26 := cell_alloc hc25 (.cells #[.string nm] 9)
            refine wp_region_noPanic ?_
            refine wp_region_held_drew (S := (fun w' => w'.cell? ⟨w.heap.size, 0, none⟩ = some (.pointer (some ⟨q, 0, none⟩)) ∧ w'.cell? ⟨w2.heap.size, 0, none⟩ = some (.string nm))) (by kernel_rfl) ?_ (fun hHeld => ?_)
            · exact ⟨hal5, han5⟩
            refine wpAnyH_take (i := 0) (oi := _) (v := ?_) rfl (by kernel_rfl) (by kernel_rfl) (by kernel_rfl) (fun _ _ _ h => h) (Or.inl ⟨by rfl, ?_⟩) (by assumption) ?_
            rotate_left
            · intro w hSw
              try dsimp only at hSw
              go_simp
              try with_reducible rfl
            try simp only [Act.put, List.setIfInBounds_toArray, List.set_cons_zero, List.set_cons_succ, List.getElem_toArray, List.getElem_cons_zero, List.getElem_cons_succ]
            refine wpAnyH_take (i := 1) (oi := _) (v := ?_) rfl (by kernel_rfl) (by kernel_rfl) (by kernel_rfl) (fun _ _ _ h => h) (Or.inl ⟨by rfl, ?_⟩) (by assumption) ?_
            rotate_left
            · intro w hSw
              try dsimp only at hSw
              go_simp
              try with_reducible rfl
            try simp only [Act.put, List.setIfInBounds_toArray, List.set_cons_zero, List.set_cons_succ, List.getElem_toArray, List.getElem_cons_zero, List.getElem_cons_succ]
            refine wpAnyH_take (i := 2) (oi := _) (v := ?_) rfl (by kernel_rfl) (by kernel_rfl) (by kernel_rfl) (fun _ _ _ h => h) (Or.inl ⟨by rfl, ?_⟩) (by assumption) ?_
            rotate_left
            · intro w hSw
              try dsimp only at hSw
              go_simp
              try with_reducible rfl
            try simp only [Act.put, List.setIfInBounds_toArray, List.set_cons_zero, List.set_cons_succ, List.getElem_toArray, List.getElem_cons_zero, List.getElem_cons_succ]
            refine wpAnyH_take (i := 5) (oi := _) (v := ?_) rfl (by kernel_rfl) (by kernel_rfl) (by kernel_rfl) (fun _ _ _ h => h) (Or.inl ⟨by rfl, ?_⟩) (by assumption) ?_
            rotate_left
            · intro w hSw
              try dsimp only at hSw
              go_simp
              try with_reducible rfl
            try simp only [Act.put, List.setIfInBounds_toArray, List.set_cons_zero, List.set_cons_succ, List.getElem_toArray, List.getElem_cons_zero, List.getElem_cons_succ]
            refine wpAnyH_take (i := 6) (oi := _) (v := ?_) rfl (by kernel_rfl) (by kernel_rfl) (by kernel_rfl) (fun _ _ _ h => h) (Or.inl ⟨by rfl, ?_⟩) (by assumption) ?_
            rotate_left
            · intro w hSw
              try dsimp only at hSw
              go_simp
              try with_reducible rfl
            try simp only [Act.put, List.setIfInBounds_toArray, List.set_cons_zero, List.set_cons_succ, List.getElem_toArray, List.getElem_cons_zero, List.getElem_cons_succ]
            refine wpAnyH_take (i := 7) (oi := _) (v := ?_) rfl (by kernel_rfl) (by kernel_rfl) (by kernel_rfl) (fun _ _ _ h => h) (Or.inl ⟨by rfl, ?_⟩) (by assumption) ?_
            rotate_left
            · intro w hSw
              try dsimp only at hSw
              go_simp
              try with_reducible rfl
            try simp only [Act.put, List.setIfInBounds_toArray, List.set_cons_zero, List.set_cons_succ, List.getElem_toArray, List.getElem_cons_zero, List.getElem_cons_succ]
            refine wpAnyH_ready (rs := [3, 8]) (by kernel_rfl) (by simp) ?_
            refine AllReadyH.cons (o := _) rfl (fun K hK => ?_) (AllReadyH.cons (o := _) rfl (fun K hK => ?_) AllReadyH.nil)
            · go_simp
              refine hK.out _ _ ?_ (fun hHeld => ?_)
              · exact ⟨cell_alloc hal5 _, cell_alloc han5 _⟩
              clear hK K
              try simp only [Act.put, List.setIfInBounds_toArray, List.set_cons_zero, List.set_cons_succ, List.getElem_toArray, List.getElem_cons_zero, List.getElem_cons_succ]
              refine wpAnyH_ready (rs := [4, 8]) (by kernel_rfl) (by simp) ?_
              refine AllReadyH.cons (o := _) rfl (fun K hK => ?_) (AllReadyH.cons (o := _) rfl (fun K hK => ?_) AllReadyH.nil)
              · skip
                refine step_append_run rfl (.tmp 47) (.tmp 49) 32 32 rfl _ _ (by rfl) (by rfl) HRUN.out ?_
                refine hK.out _ _ ?_ (fun hHeld => ?_)
                · exact ⟨hq5, hq6⟩
                clear hK K
                try simp only [Act.put, List.setIfInBounds_toArray, List.set_cons_zero, List.set_cons_succ, List.getElem_toArray, List.getElem_cons_zero, List.getElem_cons_succ]
                refine wpAnyH_take (i := 10) (oi := _) (v := ?_) rfl (by kernel_rfl) (by kernel_rfl) (by kernel_rfl) (fun _ _ _ h => h) (Or.inl ⟨by rfl, ?_⟩) (by assumption) ?_
                rotate_left
                · intro w hSw
                  try dsimp only at hSw
                  go_simp
                  try with_reducible rfl
                try simp only [Act.put, List.setIfInBounds_toArray, List.set_cons_zero, List.set_cons_succ, List.getElem_toArray, List.getElem_cons_zero, List.getElem_cons_succ]
                refine wpAnyH_ready (rs := [8]) (by kernel_rfl) (by simp) ?_
                refine AllReadyH.cons (o := _) rfl (fun K hK => ?_) AllReadyH.nil
                go_simp
                refine hK.out _ _ ?_ (fun hHeld => ?_)
                · exact ⟨hq5, hq6⟩
                clear hK K
                try simp only [Act.put, List.setIfInBounds_toArray, List.set_cons_zero, List.set_cons_succ, List.getElem_toArray, List.getElem_cons_zero, List.getElem_cons_succ]
                refine wpAnyH_take (i := 9) (oi := _) (v := ?_) rfl (by kernel_rfl) (by kernel_rfl) (by kernel_rfl) (fun _ _ _ h => h) (Or.inl ⟨by rfl, ?_⟩) (by assumption) ?_
                rotate_left
                · intro w hSw
                  try dsimp only at hSw
                  go_simp
                  try with_reducible rfl
                try simp only [Act.put, List.setIfInBounds_toArray, List.set_cons_zero, List.set_cons_succ, List.getElem_toArray, List.getElem_cons_zero, List.getElem_cons_succ]
                refine wpAnyH_take (i := 11) (oi := _) (v := ?_) rfl (by kernel_rfl) (by kernel_rfl) (by kernel_rfl) (fun _ _ _ h => h) (Or.inl ⟨by rfl, ?_⟩) (by assumption) ?_
                rotate_left
                · intro w hSw
                  try dsimp only at hSw
                  go_simp
                  try with_reducible rfl
                try simp only [Act.put, List.setIfInBounds_toArray, List.set_cons_zero, List.set_cons_succ, List.getElem_toArray, List.getElem_cons_zero, List.getElem_cons_succ]
                refine wpAnyH_take (i := 12) (oi := _) (v := ?_) rfl (by kernel_rfl) (by kernel_rfl) (by kernel_rfl) (fun _ _ _ h => h) (Or.inl ⟨by rfl, ?_⟩) (by assumption) ?_
                rotate_left
                · intro w hSw
                  try dsimp only at hSw
                  go_simp
                  try with_reducible rfl
                try simp only [Act.put, List.setIfInBounds_toArray, List.set_cons_zero, List.set_cons_succ, List.getElem_toArray, List.getElem_cons_zero, List.getElem_cons_succ]
                refine wpAnyH_ready (rs := [13]) (by kernel_rfl) (by simp) ?_
                refine AllReadyH.cons (o := _) rfl (fun K hK => ?_) AllReadyH.nil
                go_simp
                refine hK.out _ _ ?_ (fun hHeld => ?_)
                · exact ⟨cell_set1 hq5 halq, cell_set1 hq6 hanq⟩
                clear hK K
                try simp only [Act.put, List.setIfInBounds_toArray, List.set_cons_zero, List.set_cons_succ, List.getElem_toArray, List.getElem_cons_zero, List.getElem_cons_succ]
                refine wpAnyH_done (by kernel_rfl) ?_ _
                refine NoPanic.normal ?_
                go_wp2
                refine ⟨⟨y :: r, (D1.remove nm).1, gone ++ [nm], Sd2, .slice (some ⟨g2, o2 + 1, none⟩) (n + 1) (c2 - 1), ?_⟩, ?_⟩
                · have hT := HT.out
                  have hT1 := hT.1
                  rw [HRN.out] at hT1
                  refine ⟨?_, by have := hlen.out; simp at this ⊢; omega, hT1, ?_, ?_, ?_⟩
                  · rw [← HI.out.eq]
                    conv => rhs; unfold trimR
                    rw [if_pos hle, HNe.out, ← HHe.out, if_neg (by rw [HEr.out]; simp)]
                  · have h9 := HK.out
                    have h8 := HT.out.2
                    rw [HRN.out] at h8
                    rw [List.length_cons, List.length_cons, HRN.out] at h9
                    exact h9.trans h8
                  · have := HO5.out
                    rw [List.length_append]
                    exact ownsRow_kp this ((Kp.refl (fun b => b = q) w5).setCell (p := ⟨q, 2, none⟩) (.inl rfl) _) (fun b hb e => (HO6.out b hb).2 (.inl e))
                  · exact fun b hb => HO6.out b hb
                · have := hlen.out
                  simp only [List.length_cons] at this
                  simp only []
                  omega
              · go_simp
                refine hK.out _ _ ?_ (fun hHeld => ?_)
                · exact ⟨cell_alloc hal5 _, cell_alloc han5 _⟩
                clear hK K
                try simp only [Act.put, List.setIfInBounds_toArray, List.set_cons_zero, List.set_cons_succ, List.getElem_toArray, List.getElem_cons_zero, List.getElem_cons_succ]
                refine wpAnyH_take (i := 9) (oi := _) (v := ?_) rfl (by kernel_rfl) (by kernel_rfl) (by kernel_rfl) (fun _ _ _ h => h) (Or.inl ⟨by rfl, ?_⟩) (by assumption) ?_
                rotate_left
                · intro w hSw
                  try dsimp only at hSw
                  go_simp
                  try with_reducible rfl
                try simp only [Act.put, List.setIfInBounds_toArray, List.set_cons_zero, List.set_cons_succ, List.getElem_toArray, List.getElem_cons_zero, List.getElem_cons_succ]
                refine wpAnyH_ready (rs := [4]) (by kernel_rfl) (by simp) ?_
                refine AllReadyH.cons (o := _) rfl (fun K hK => ?_) AllReadyH.nil
                refine step_append_run rfl (.tmp 47) (.tmp 49) 32 32 rfl _ _ (by rfl) (by rfl) HRUN.out ?_
                refine hK.out _ _ ?_ (fun hHeld => ?_)
                · exact ⟨hq5, hq6⟩
                clear hK K
                try simp only [Act.put, List.setIfInBounds_toArray, List.set_cons_zero, List.set_cons_succ, List.getElem_toArray, List.getElem_cons_zero, List.getElem_cons_succ]
                refine wpAnyH_take (i := 10) (oi := _) (v := ?_) rfl (by kernel_rfl) (by kernel_rfl) (by kernel_rfl) (fun _ _ _ h => h) (Or.inl ⟨by rfl, ?_⟩) (by assumption) ?_
                rotate_left
                · intro w hSw
                  try dsimp only at hSw
                  go_simp
                  try with_reducible rfl
                try simp only [Act.put, List.setIfInBounds_toArray, List.set_cons_zero, List.set_cons_succ, List.getElem_toArray, List.getElem_cons_zero, List.getElem_cons_succ]
                refine wpAnyH_take (i := 11) (oi := _) (v := ?_) rfl (by kernel_rfl) (by kernel_rfl) (by kernel_rfl) (fun _ _ _ h => h) (Or.inl ⟨by rfl, ?_⟩) (by assumption) ?_
                rotate_left
                · intro w hSw
                  try dsimp only at hSw
                  go_simp
                  try with_reducible rfl
                try simp only [Act.put, List.setIfInBounds_toArray, List.set_cons_zero, List.set_cons_succ, List.getElem_toArray, List.getElem_cons_zero, List.getElem_cons_succ]
                refine wpAnyH_take (i := 12) (oi := _) (v := ?_) rfl (by kernel_rfl) (by kernel_rfl) (by kernel_rfl) (fun _ _ _ h => h) (Or.inl ⟨by rfl, ?_⟩) (by assumption) ?_
                rotate_left
                · intro w hSw
                  try dsimp only at hSw
                  go_simp
                  try with_reducible rfl
                try simp only [Act.put, List.setIfInBounds_toArray, List.set_cons_zero, List.set_cons_succ, List.getElem_toArray, List.getElem_cons_zero, List.getElem_cons_succ]
                refine wpAnyH_ready (rs := [13]) (by kernel_rfl) (by simp) ?_
                refine AllReadyH.cons (o := _) rfl (fun K hK => ?_) AllReadyH.nil
                go_simp
                refine hK.out _ _ ?_ (fun hHeld => ?_)
                · exact ⟨cell_set1 hq5 halq, cell_set1 hq6 hanq⟩
                clear hK K
                try simp only [Act.put, List.setIfInBounds_toArray, List.set_cons_zero, List.set_cons_succ, List.getElem_toArray, List.getElem_cons_zero, List.getElem_cons_succ]
                refine wpAnyH_done (by kernel_rfl) ?_ _
                refine NoPanic.normal ?_
                go_wp2
                refine ⟨⟨y :: r, (D1.remove nm).1, gone ++ [nm], Sd2, .slice (some ⟨g2, o2 + 1, none⟩) (n + 1) (c2 - 1), ?_⟩, ?_⟩
                · have hT := HT.out
                  have hT1 := hT.1
                  rw [HRN.out] at hT1
                  refine ⟨?_, by have := hlen.out; simp at this ⊢; omega, hT1, ?_, ?_, ?_⟩
                  · rw [← HI.out.eq]
                    conv => rhs; unfold trimR
                    rw [if_pos hle, HNe.out, ← HHe.out, if_neg (by rw [HEr.out]; simp)]
                  · have h9 := HK.out
                    have h8 := HT.out.2
                    rw [HRN.out] at h8
                    rw [List.length_cons, List.length_cons, HRN.out] at h9
                    exact h9.trans h8
                  · have := HO5.out
                    rw [List.length_append]
                    exact ownsRow_kp this ((Kp.refl (fun b => b = q) w5).setCell (p := ⟨q, 2, none⟩) (.inl rfl) _) (fun b hb e => (HO6.out b hb).2 (.inl e))
                  · exact fun b hb => HO6.out b hb
                · have := hlen.out
                  simp only [List.length_cons] at this
                  simp only []
                  omega
            · go_simp
              refine hK.out _ _ ?_ (fun hHeld => ?_)
              · exact ⟨hal5, han5⟩
              clear hK K
              try simp only [Act.put, List.setIfInBounds_toArray, List.set_cons_zero, List.set_cons_succ, List.getElem_toArray, List.getElem_cons_zero, List.getElem_cons_succ]
              refine wpAnyH_take (i := 9) (oi := _) (v := ?_) rfl (by kernel_rfl) (by kernel_rfl) (by kernel_rfl) (fun _ _ _ h => h) (Or.inl ⟨by rfl, ?_⟩) (by assumption) ?_
              rotate_left
              · intro w hSw
                try dsimp only at hSw
                go_simp
                try with_reducible rfl
              try simp only [Act.put, List.setIfInBounds_toArray, List.set_cons_zero, List.set_cons_succ, List.getElem_toArray, List.getElem_cons_zero, List.getElem_cons_succ]
              refine wpAnyH_ready (rs := [3]) (by kernel_rfl) (by simp) ?_
              refine AllReadyH.cons (o := _) rfl (fun K hK => ?_) AllReadyH.nil
              go_simp
              refine hK.out _ _ ?_ (fun hHeld => ?_)
              · exact ⟨cell_alloc hal5 _, cell_alloc han5 _⟩
              clear hK K
              try simp only [Act.put, List.setIfInBounds_toArray, List.set_cons_zero, List.set_cons_succ, List.getElem_toArray, List.getElem_cons_zero, List.getElem_cons_succ]
              refine wpAnyH_ready (rs := [4]) (by kernel_rfl) (by simp) ?_
              refine AllReadyH.cons (o := _) rfl (fun K hK => ?_) AllReadyH.nil
              refine step_append_run rfl (.tmp 47) (.tmp 49) 32 32 rfl _ _ (by rfl) (by rfl) HRUN.out ?_
              refine hK.out _ _ ?_ (fun hHeld => ?_)
              · exact ⟨hq5, hq6⟩
              clear hK K
              try simp only [Act.put, List.setIfInBounds_toArray, List.set_cons_zero, List.set_cons_succ, List.getElem_toArray, List.getElem_cons_zero, List.getElem_cons_succ]
              refine wpAnyH_take (i := 10) (oi := _) (v := ?_) rfl (by kernel_rfl) (by kernel_rfl) (by kernel_rfl) (fun _ _ _ h => h) (Or.inl ⟨by rfl, ?_⟩) (by assumption) ?_
              rotate_left
              · intro w hSw
                try dsimp only at hSw
                go_simp
                try with_reducible rfl
              try simp only [Act.put, List.setIfInBounds_toArray, List.set_cons_zero, List.set_cons_succ, List.getElem_toArray, List.getElem_cons_zero, List.getElem_cons_succ]
              refine wpAnyH_take (i := 11) (oi := _) (v := ?_) rfl (by kernel_rfl) (by kernel_rfl) (by kernel_rfl) (fun _ _ _ h => h) (Or.inl ⟨by rfl, ?_⟩) (by assumption) ?_
              rotate_left
              · intro w hSw
                try dsimp only at hSw
                go_simp
                try with_reducible rfl
              try simp only [Act.put, List.setIfInBounds_toArray, List.set_cons_zero, List.set_cons_succ, List.getElem_toArray, List.getElem_cons_zero, List.getElem_cons_succ]
              refine wpAnyH_take (i := 12) (oi := _) (v := ?_) rfl (by kernel_rfl) (by kernel_rfl) (by kernel_rfl) (fun _ _ _ h => h) (Or.inl ⟨by rfl, ?_⟩) (by assumption) ?_
              rotate_left
              · intro w hSw
                try dsimp only at hSw
                go_simp
                try with_reducible rfl
              try simp only [Act.put, List.setIfInBounds_toArray, List.set_cons_zero, List.set_cons_succ, List.getElem_toArray, List.getElem_cons_zero, List.getElem_cons_succ]
              refine wpAnyH_ready (rs := [13]) (by kernel_rfl) (by simp) ?_
              refine AllReadyH.cons (o := _) rfl (fun K hK => ?_) AllReadyH.nil
              go_simp
              refine hK.out _ _ ?_ (fun hHeld => ?_)
              · exact ⟨cell_set1 hq5 halq, cell_set1 hq6 hanq⟩
              clear hK K
              try simp only [Act.put, List.setIfInBounds_toArray, List.set_cons_zero, List.set_cons_succ, List.getElem_toArray, List.getElem_cons_zero, List.getElem_cons_succ]
              refine wpAnyH_done (by kernel_rfl) ?_ _
              refine NoPanic.normal ?_
              go_wp2
              refine ⟨⟨y :: r, (D1.remove nm).1, gone ++ [nm], Sd2, .slice (some ⟨g2, o2 + 1, none⟩) (n + 1) (c2 - 1), ?_⟩, ?_⟩
              · have hT := HT.out
                have hT1 := hT.1
                rw [HRN.out] at hT1
                refine ⟨?_, by have := hlen.out; simp at this ⊢; omega, hT1, ?_, ?_, ?_⟩
                · rw [← HI.out.eq]
                  conv => rhs; unfold trimR
                  rw [if_pos hle, HNe.out, ← HHe.out, if_neg (by rw [HEr.out]; simp)]
                · have h9 := HK.out
                  have h8 := HT.out.2
                  rw [HRN.out] at h8
                  rw [List.length_cons, List.length_cons, HRN.out] at h9
                  exact h9.trans h8
                · have := HO5.out
                  rw [List.length_append]
                  exact ownsRow_kp this ((Kp.refl (fun b => b = q) w5).setCell (p := ⟨q, 2, none⟩) (.inl rfl) _) (fun b hb e => (HO6.out b hb).2 (.inl e))
                · exact fun b hb => HO6.out b hb
              · have := hlen.out
                simp only [List.length_cons] at this
                simp only []
                omega
        · have hd : decide ((y : Int) ≤ below) = false := decide_eq_false hle
          have e : L.trims D below = ({ L with firsts := x :: y :: r }, D1, gone, 0) := by
            rw [← HI.out.eq]
            unfold trimR
            rw [if_neg hle]
          have HE := Lib.hid e
          clear e
          go_wp2
          go_ret2
          rw [TrimP, HE.out]
          exact ⟨_, rfl, own_mono HI.out.own hbz.out, Sd1, _, HI.out.log, (LStep.below Sd (Ow q v) HB.out).trans HI.out.step, HI.out.apart⟩
end Go.Proofs.YtohpgipgfmkflaaGreatDoor
