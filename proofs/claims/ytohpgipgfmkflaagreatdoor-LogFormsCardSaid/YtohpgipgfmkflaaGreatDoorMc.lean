/- Contracts of the disk: Append. Contracts of the disk: of. Contracts of the disk: Sync, Remove. Contracts of the disk: List, Arm; rows of texts. Contracts of bytes: push, Crc, sum. -/
import Derived.Test.YtohpgipgfmkflaaGreatDoorMb
import Derived.Deep.CutRange
import Derived.Test.YtohpgipgfmkflaaGreatDoorMa
import Derived.Laws.BitsAllLaws
namespace Go.Proofs.YtohpgipgfmkflaaGreatDoor
set_option linter.unusedSectionVars false
variable [Base]
open Go.RowKit
set_option maxRecDepth 100000
set_option linter.unusedVariables false
set_option linter.unusedSimpArgs false
attribute [local go_sem ↓] Go.wp_at_zero Go.wp_at_succ

theorem eg_append1 (args : Array Value) (w : World) : (callFunc 124 args).run Tryz.prog w = .ok (.enter 124 args) w := by kernel_rfl
theorem alloc3 (w : World) (a b c : Obj) : Below w.heap.size w (((w.alloc a).alloc b).alloc c) := (((Below.refl w.heap.size w).alloc (Nat.le_refl _) _).alloc (by simp) _).alloc (by simp; omega) _
theorem alloc3_cells (w : World) (a b c : Obj) {g : Addr} {v : Value} (h : w.cell? g = some v) : (((w.alloc a).alloc b).alloc c).cell? g = some v := cell_alloc (cell_alloc (cell_alloc h _) _) _
theorem cell_new (w : World) (v : Value) (t : TypeId) : (w.alloc (.cells #[v] t)).cell? ⟨w.heap.size, 0, none⟩ = some v := cell_row (heap_alloc_new w _) 0
theorem frz_alloc {w : World} {a : Addr} (o : Obj) (hlt : a.block < w.heap.size) : (w.alloc o).frozen? a = w.frozen? a := World.frozen?_of_block (Below.heap_alloc w o a.block hlt)
theorem new_one {W w2 : World} {n : Nat} (v : Value) (t : TypeId) (h : Below n (W.alloc (.cells #[v] t)).drew w2) (hn : W.heap.size < n) : w2.cell? ⟨W.heap.size, 0, none⟩ = some v ∧ w2.frozen? ⟨W.heap.size, 0, none⟩ = false := by
  have hh := heap_alloc_new W (.cells #[v] t)
  have h : Below n (W.alloc (.cells #[v] t)) w2 := ⟨h.os, h.tape, h.output, h.size, h.block⟩
  refine ⟨(h.cell (p := ⟨W.heap.size, 0, none⟩) hn).trans (cell_row hh 0), (h.frozen (p := ⟨W.heap.size, 0, none⟩) hn).trans (frozen_of_row _ _ _ _ _ hh)⟩
theorem new_two {W w2 : World} {n : Nat} (v v' : Value) (t t' : TypeId) (h : Below n ((W.alloc (.cells #[v] t)).alloc (.cells #[v'] t')).drew w2) (hn : W.heap.size + 1 < n) : (w2.cell? ⟨W.heap.size, 0, none⟩ = some v ∧ w2.frozen? ⟨W.heap.size, 0, none⟩ = false) ∧ (w2.cell? ⟨W.heap.size + 1, 0, none⟩ = some v' ∧ w2.frozen? ⟨W.heap.size + 1, 0, none⟩ = false) := by
  have hb : Below (W.heap.size + 1) (W.alloc (.cells #[v] t)) ((W.alloc (.cells #[v] t)).alloc (.cells #[v'] t')) := (Below.refl _ _).alloc (by simp) _
  have h' : Below n ((W.alloc (.cells #[v] t)).alloc (.cells #[v'] t')) w2 := ⟨h.os, h.tape, h.output, h.size, h.block⟩
  have h1 := new_one v t (n := W.heap.size + 1) ⟨(hb.trans (h'.mono (by omega))).os, (hb.trans (h'.mono (by omega))).tape, (hb.trans (h'.mono (by omega))).output, (hb.trans (h'.mono (by omega))).size, (hb.trans (h'.mono (by omega))).block⟩ (by omega)
  have h2 := new_one (W := W.alloc (.cells #[v] t)) v' t' h (by simp; omega)
  simp only [World.size_alloc] at h2
  exact ⟨h1, h2⟩
set_option maxHeartbeats 2000000 in
theorem append_any (w : World) (S Sb : Nat → Prop) (p : Nat) (D : DState) (nm : ByteArray) (vb : Value) (lb : List UInt8) (h : Disk w S p D) (hb : RdB w S vb lb) (hs : nm.size ≤ 140737488355328) (hl : lb.length ≤ 140737488355328) :
    Calls Tryz.prog 63 #[.pointer (some ⟨p, 0, none⟩), .string nm, vb] w (DeedPost w S p (D.append nm lb).1 (D.append nm lb).2) := by
  obtain ⟨v, xs, hd⟩ := h.dr
  have hc3 := hd.dcells.c3
  have hc4 := hd.dcells.c4
  obtain ⟨A2, c2, e2, _⟩ := id hb
  subst e2
  cases hdk : D.dark with
  | true =>
    have HR := Lib.hid (show D.append nm lb = (D, 15) by simp [DState.append, hdk])
    rw [hdk] at hc3
    have HH := Lib.hid h
    clear h hd hb hdk
    go_enter Tryz.func63, Tryz.ntmps63
    go_wp2_with (go_at_call 93; refine (lit_yes _ true _ (cell_alloc (cell_alloc (cell_alloc hc4 _) _) _) (cell_alloc (cell_alloc (cell_alloc hc3 _) _) _)).mono ?_; rintro e w' ⟨rfl, rfl⟩)
    go_ret
    rw [HR.out]
    have hB := alloc3 w (.cells #[.pointer (some ⟨p, 0, none⟩)] 24) (.cells #[.string nm] 9) (.cells #[.slice A2 lb.length c2] 53)
    exact ⟨S, rfl, HH.out.below hB, ⟨Kp.ofBelow hB S, fun _ h => .inl h⟩⟩
  | false =>
    rw [hdk] at hc3
    cases hnm : namedB nm with
    | false =>
      have HR := Lib.hid (show D.append nm lb = (D, 16) by simp [DState.append, hdk, hnm])
      have HH := Lib.hid h
      have HN := Lib.hid hnm
      clear h hd hb hdk hnm
      go_enter Tryz.func63, Tryz.ntmps63
      go_wp2_with (first | (go_at_call 93; refine (lit_yes _ false _ (cell_alloc (cell_alloc (cell_alloc hc4 _) _) _) (cell_alloc (cell_alloc (cell_alloc hc3 _) _) _)).mono ?_; rintro e w' ⟨rfl, rfl⟩) | (go_at_call 122; refine (named_any nm _ hs).mono ?_; rintro e w' ⟨rfl, rfl⟩; rw [HN.out]))
      go_ret
      rw [HR.out]
      have hB := alloc3 w (.cells #[.pointer (some ⟨p, 0, none⟩)] 24) (.cells #[.string nm] 9) (.cells #[.slice A2 lb.length c2] 53)
      exact ⟨S, rfl, HH.out.below hB, ⟨Kp.ofBelow hB S, fun _ h => .inl h⟩⟩
    | true =>
      have HN := Lib.hid hnm
      have HH := Lib.hid h
      have HB := Lib.hid hb
      clear hd h hb hnm
      go_enter Tryz.func63, Tryz.ntmps63
      go_upto_region 6 with (first | (go_at_call 93; refine (lit_yes _ false _ (cell_alloc (cell_alloc (cell_alloc hc4 _) _) _) (cell_alloc (cell_alloc (cell_alloc hc3 _) _) _)).mono ?_; rintro e w' ⟨rfl, rfl⟩) | (go_at_call 122; refine (named_any nm _ hs).mono ?_; rintro e w' ⟨rfl, rfl⟩; rw [HN.out]))
      have hB := alloc3 w (.cells #[.pointer (some ⟨p, 0, none⟩)] 24) (.cells #[.string nm] 9) (.cells #[.slice A2 lb.length c2] 53)
      have hd1 : (((w.alloc (.cells #[.pointer (some ⟨p, 0, none⟩)] 24)).alloc (.cells #[.string nm] 9)).alloc (.cells #[.slice A2 lb.length c2] 53)).cell? ⟨w.heap.size, 0, none⟩ = some (.pointer (some ⟨p, 0, none⟩)) := cell_alloc (cell_alloc (cell_new w _ _) _) _
      have hn1 : (((w.alloc (.cells #[.pointer (some ⟨p, 0, none⟩)] 24)).alloc (.cells #[.string nm] 9)).alloc (.cells #[.slice A2 lb.length c2] 53)).cell? ⟨w.heap.size + 1, 0, none⟩ = some (.string nm) := by
        have := cell_new (w.alloc (.cells #[.pointer (some ⟨p, 0, none⟩)] 24)) (.string nm) 9
        simp only [World.size_alloc] at this
        exact cell_alloc this _
      have hb1 : (((w.alloc (.cells #[.pointer (some ⟨p, 0, none⟩)] 24)).alloc (.cells #[.string nm] 9)).alloc (.cells #[.slice A2 lb.length c2] 53)).cell? ⟨w.heap.size + 1 + 1, 0, none⟩ = some (.slice A2 lb.length c2) := by
        have := cell_new ((w.alloc (.cells #[.pointer (some ⟨p, 0, none⟩)] 24)).alloc (.cells #[.string nm] 9)) (.slice A2 lb.length c2) 53
        simp only [World.size_alloc] at this
        exact this
      have HD := Lib.hid (HH.out.below hB)
      have HRB := Lib.hid (HB.out.below hB (fun _ h => .inl h))
      have HBw := Lib.hid hB
      have hadS : ¬ S w.heap.size := fun hs => Nat.lt_irrefl _ (HH.out.foot _ hs)
      have hanS : ¬ S (w.heap.size + 1) := fun hs => absurd (HH.out.foot _ hs) (by omega)
      have habS : ¬ S (w.heap.size + 1 + 1) := fun hs => absurd (HH.out.foot _ hs) (by omega)
      obtain ⟨H, hH⟩ : ∃ H, H = w.heap.size := ⟨_, rfl⟩
      rw [← hH] at hd1 hn1 hb1 hadS hanS habS
      simp only [← hH]
      have HHe := Lib.hid hH
      clear HH HB hB hH
      generalize hW : ((w.alloc (.cells #[.pointer (some ⟨p, 0, none⟩)] 24)).alloc (.cells #[.string nm] 9)).alloc (.cells #[.slice A2 lb.length c2] 53) = W at hd1 hn1 hb1 HD HRB HBw ⊢
      have HWe := Lib.hid hW
      clear hW hc3 hc4
      obtain ⟨v, xs, hd⟩ := HD.out.dr
      obtain ⟨A1, c1, ev⟩ : ∃ A c, v = .slice A xs.length c := by
        rcases hd.own.2 with ⟨e, h0⟩ | ⟨g, cap, cur, e, _⟩
        · exact ⟨none, 0, by rw [e, h0]⟩
        · exact ⟨_, cap, e⟩
      subst ev
      have hc0 := hd.dcells.c0
      have hc1 := hd.dcells.c1
      have hc4 := hd.dcells.c4
      have hpp := hd.lt
      have hnp : H + 1 < W.heap.size := World.block_lt_of_cell? W _ hn1
      have hdp : H < W.heap.size := World.block_lt_of_cell? W _ hd1
      have hbp : H + 1 + 1 < W.heap.size := World.block_lt_of_cell? W _ hb1
      have HC := Lib.hid (HD.out.placeC hd.dv nm)
      have HDR := Lib.hid hd
      have hi0 : ((fidx D.files nm : Nat) : Int) ≤ 9223372036854775807 := by have := fidx_le D.files nm; have := HD.out.wf.few; omega
      have HS := Lib.hid (show ∀ wx, Below W.heap.size W wx → wx.cell? ⟨p, 0, none⟩ = some (.slice A1 xs.length c1) ∧ wx.cell? ⟨p, 4, none⟩ = some (.func (.func 91) #[] #[]) ∧ wx.cell? ⟨H, 0, none⟩ = some (.pointer (some ⟨p, 0, none⟩)) ∧ wx.cell? ⟨H + 1, 0, none⟩ = some (.string nm) from
        fun wx hx => ⟨(hx.cell hpp).trans hc0, (hx.cell hpp).trans hc4, (hx.cell hdp).trans hd1, (hx.cell hnp).trans hn1⟩)
      clear hd
      obtain ⟨i, hi⟩ : ∃ i, fidx D.files nm = i := ⟨_, rfl⟩
      obtain ⟨ok, hok⟩ : ∃ ok, hasF D.files nm = ok := ⟨_, rfl⟩
      simp only [hi, hok] at HC
      simp only [hi] at hi0
      have HI := Lib.hid hi
      have HO := Lib.hid hok
      clear hi hok
      go_cut [8, 9] (fun c8 c9 wx => ∃ ai ao : Nat, c8 = .pointer (some ⟨ai, 0, none⟩) ∧ c9 = .pointer (some ⟨ao, 0, none⟩) ∧ wx.cell? ⟨ai, 0, none⟩ = some (.int .i64 (i : Int)) ∧ wx.cell? ⟨ao, 0, none⟩ = some (.bool ok) ∧ W.heap.size ≤ ai ∧ W.heap.size ≤ ao ∧ Below W.heap.size W wx)
      case first =>
        go_region_held3 (fun w' => w'.cell? ⟨p, 0, none⟩ = some (.slice A1 xs.length c1) ∧ w'.cell? ⟨p, 4, none⟩ = some (.func (.func 91) #[] #[]) ∧ w'.cell? ⟨H, 0, none⟩ = some (.pointer (some ⟨p, 0, none⟩)) ∧ w'.cell? ⟨H + 1, 0, none⟩ = some (.string nm))
          (exact HS.out _ (by ((repeat' (first | exact hBz | exact Below.refl _ _ | refine Below.drew ?_ | refine Below.alloc ?_ ?_ _ | refine Below.setCell ?_ ?_ _)) <;> (first | exact Nat.le_refl _ | exact hsz | omega | (simp; done) | (simp; omega)))))
          ((go_at_call 91; refine (HC.out _ (by ((repeat' (first | exact Below.refl _ _ | refine Below.drew ?_ | refine Below.alloc ?_ ?_ _)) <;> (first | omega | (simp; omega) | simp)))).mono ?_; rintro e w2 ⟨rfl, hb2⟩; have hBz : Below W.heap.size W w2 := Below.trans (by ((repeat' (first | exact Below.refl _ _ | refine Below.drew ?_ | refine Below.alloc ?_ ?_ _)) <;> (first | omega | (simp; omega) | simp))) (hb2.mono (by (first | exact Nat.le_refl _ | omega | (simp; omega) | simp))); have hsz : W.heap.size ≤ w2.heap.size := hBz.size; (try (obtain ⟨hr1, hr2⟩ := new_one (W := W) _ _ hb2 (by first | (simp; done) | (simp; omega)); have hnn : w2.heap.size ≠ W.heap.size := World.new_ne w2 _ hr1; have hnn' : W.heap.size ≠ w2.heap.size := (fun e => hnn e.symm); have hA1 := (fun o => cell_alloc hr1 o); have hA2 := (fun o => (frz_alloc (a := ⟨W.heap.size, 0, none⟩) o (World.block_lt_of_cell? w2 _ hr1)).trans hr2))); (try (obtain ⟨⟨hr1, hr2⟩, hr3, hr4⟩ := new_two (W := W) _ _ _ _ hb2 (by first | (simp; done) | (simp; omega)); have hnn : w2.heap.size ≠ W.heap.size := World.new_ne w2 _ hr1; have hnn' : W.heap.size ≠ w2.heap.size := fun e => hnn e.symm; have hnn2 : w2.heap.size ≠ W.heap.size + 1 := World.new_ne w2 _ hr3; have hnn3 : W.heap.size + 1 ≠ w2.heap.size := fun e => hnn2 e.symm))))
        all_goals (go_wp2_with fail; go_meet)
        all_goals (refine ⟨_, _, rfl, rfl, ?_, ?_, ?_, ?_, ?_⟩)
        all_goals (first
          | omega
          | (go_simp; done)
          | (exact cell_set1 (by go_simp; done) (by first | omega | (simp; omega)))
          | (((repeat' (first | exact hBz | refine Below.alloc ?_ ?_ _ | refine Below.setCell ?_ ?_ _)) <;> (first | exact Nat.le_refl _ | exact hsz | omega | (simp; done) | (simp; omega))); done))
      case rest =>
        obtain ⟨ai, ao, rfl, rfl, hci, hco, hai, hao, hbx⟩ := hcut
        have hc0 := (hbx.cell (p := ⟨p, 0, none⟩) hpp).trans hc0
        have hc1 := (hbx.cell (p := ⟨p, 1, none⟩) hpp).trans hc1
        have hd1 := (hbx.cell (p := ⟨H, 0, none⟩) hdp).trans hd1
        have hn1 := (hbx.cell (p := ⟨H + 1, 0, none⟩) hnp).trans hn1
        have hb1 := (hbx.cell (p := ⟨H + 1 + 1, 0, none⟩) hbp).trans hb1
        have HD := Lib.hid (HD.out.below hbx)
        have HRB := Lib.hid (HRB.out.below hbx (fun _ h => .inl h))
        have hxl : xs.length = D.files.length := HDR.out.rep.1
        have HBx := Lib.hid (show Below w.heap.size w wc from HBw.out.trans (hbx.mono (by have := HBw.out.size; omega)))
        have hbxs := hbx.size
        have haiS : ¬ S ai := fun hs => by have := HDR.out.foot _ hs; omega
        have haoS : ¬ S ao := fun hs => by have := HDR.out.foot _ hs; omega
        have hip := World.block_lt_of_cell? wc _ hci
        have hop := World.block_lt_of_cell? wc _ hco
        have hpp : p < wc.heap.size := by omega
        have hdp : H < wc.heap.size := by omega
        have hbp : H + 1 + 1 < wc.heap.size := by omega
        have hnp : H + 1 < wc.heap.size := by omega
        obtain ⟨U, hU⟩ : ∃ U, usedF D.files = U := ⟨_, rfl⟩
        have hUr : U ≤ D.room := hU ▸ HD.out.wf.used
        have hrm := HD.out.wf.room
        have hC := used_any wc S p D HD.out
        have HCU := Lib.hid (show ∀ wx, Below wc.heap.size wc wx → Calls Tryz.prog 30 #[.pointer (some ⟨p, 0, none⟩)] wx fun e w' => e = .returned (.int .i64 (U : Nat)) ∧ Below wx.heap.size wx w' from fun wx hx => hU ▸ used_any wx S p D (HD.out.below hx))
        have HUe := Lib.hid hU
        have HS2 := Lib.hid (show ∀ wx, Below wc.heap.size wc wx → wx.cell? ⟨p, 0, none⟩ = some (.slice A1 xs.length c1) ∧ wx.cell? ⟨p, 1, none⟩ = some (.int .i64 (D.room : Int)) ∧ wx.cell? ⟨H, 0, none⟩ = some (.pointer (some ⟨p, 0, none⟩)) ∧ wx.cell? ⟨H + 1 + 1, 0, none⟩ = some (.slice A2 lb.length c2) ∧ wx.cell? ⟨ao, 0, none⟩ = some (.bool ok) from
          fun wx hx => ⟨(hx.cell hpp).trans hc0, (hx.cell hpp).trans hc1, (hx.cell hdp).trans hd1, (hx.cell hbp).trans hb1, (hx.cell hop).trans hco⟩)
        have hw1 : IntKind.i64.wrap ((U : Int) + (lb.length : Int)) = (U : Int) + (lb.length : Int) := by rw [IntKind.wrap_i64]; omega
        have HXL := Lib.hid hxl
        have HBX := Lib.hid hbx
        clear hC HC HS hU hxl hai hao hbx
        by_cases hfull : D.room < U + lb.length
        · have hdf : decide ((D.room : Int) < (U : Int) + (lb.length : Int)) = true := decide_eq_true (by omega)
          have HR := Lib.hid (show D.append nm lb = (D, 5) by simp [DState.append, hdk, HN.out, HUe.out, hfull])
          have HFU := Lib.hid hfull
          clear hfull hdk
          go_wp2_with fail
          refine wp_region_noPanic ?_
          refine wp_region_held_drew (S := (fun w' => w'.cell? ⟨p, 0, none⟩ = some (.slice A1 xs.length c1) ∧ w'.cell? ⟨p, 1, none⟩ = some (.int .i64 (D.room : Int)) ∧ w'.cell? ⟨H, 0, none⟩ = some (.pointer (some ⟨p, 0, none⟩)) ∧ w'.cell? ⟨H + 1 + 1, 0, none⟩ = some (.slice A2 lb.length c2) ∧ w'.cell? ⟨ao, 0, none⟩ = some (.bool ok))) (by kernel_rfl) ?_ (fun hHeld => ?_)
          · exact HS2.out _ (Below.refl _ _).drew
          refine wpAnyH_take (i := 0) (oi := _) (v := ?_) rfl (by kernel_rfl) (by kernel_rfl) (by kernel_rfl) (fun _ _ _ h => h) (Or.inl ⟨by rfl, ?_⟩) (by assumption) ?_
          rotate_left
          · intro w hSw
            try dsimp only at hSw
            go_simp
            try with_reducible rfl
          try simp only [Act.put, List.setIfInBounds_toArray, List.set_cons_zero, List.set_cons_succ, List.getElem_toArray, List.getElem_cons_zero, List.getElem_cons_succ]
          refine wpAnyH_take (i := 2) (oi := _) (v := ?_) rfl (by kernel_rfl) (by kernel_rfl) (by kernel_rfl) (fun _ _ _ h => h) (Or.inl ⟨by rfl, ?_⟩) (by assumption) ?_
          rotate_left
          · intro w hSw
            try dsimp only at hSw
            go_simp
            try with_reducible rfl
          try simp only [Act.put, List.setIfInBounds_toArray, List.set_cons_zero, List.set_cons_succ, List.getElem_toArray, List.getElem_cons_zero, List.getElem_cons_succ]
          refine wpAnyH_take (i := 3) (oi := _) (v := ?_) rfl (by kernel_rfl) (by kernel_rfl) (by kernel_rfl) (fun _ _ _ h => h) (Or.inl ⟨by rfl, ?_⟩) (by assumption) ?_
          rotate_left
          · intro w hSw
            try dsimp only at hSw
            go_simp
            try with_reducible rfl
          try simp only [Act.put, List.setIfInBounds_toArray, List.set_cons_zero, List.set_cons_succ, List.getElem_toArray, List.getElem_cons_zero, List.getElem_cons_succ]
          refine wpAnyH_take (i := 5) (oi := _) (v := ?_) rfl (by kernel_rfl) (by kernel_rfl) (by kernel_rfl) (fun _ _ _ h => h) (Or.inl ⟨by rfl, ?_⟩) (by assumption) ?_
          rotate_left
          · intro w hSw
            try dsimp only at hSw
            go_simp
            try with_reducible rfl
          try simp only [Act.put, List.setIfInBounds_toArray, List.set_cons_zero, List.set_cons_succ, List.getElem_toArray, List.getElem_cons_zero, List.getElem_cons_succ]
          refine wpAnyH_take (i := 6) (oi := _) (v := ?_) rfl (by kernel_rfl) (by kernel_rfl) (by kernel_rfl) (fun _ _ _ h => h) (Or.inl ⟨by rfl, ?_⟩) (by assumption) ?_
          rotate_left
          · intro w hSw
            try dsimp only at hSw
            go_simp
            try with_reducible rfl
          try simp only [Act.put, List.setIfInBounds_toArray, List.set_cons_zero, List.set_cons_succ, List.getElem_toArray, List.getElem_cons_zero, List.getElem_cons_succ]
          refine wpAnyH_take (i := 7) (oi := _) (v := ?_) rfl (by kernel_rfl) (by kernel_rfl) (by kernel_rfl) (fun _ _ _ h => h) (Or.inl ⟨by rfl, ?_⟩) (by assumption) ?_
          rotate_left
          · intro w hSw
            try dsimp only at hSw
            go_simp
            try with_reducible rfl
          try simp only [Act.put, List.setIfInBounds_toArray, List.set_cons_zero, List.set_cons_succ, List.getElem_toArray, List.getElem_cons_zero, List.getElem_cons_succ]
          refine wpAnyH_take (i := 8) (oi := _) (v := ?_) rfl (by kernel_rfl) (by kernel_rfl) (by kernel_rfl) (fun _ _ _ h => h) (Or.inl ⟨by rfl, ?_⟩) (by assumption) ?_
          rotate_left
          · intro w hSw
            try dsimp only at hSw
            go_simp
            try with_reducible rfl
          try simp only [Act.put, List.setIfInBounds_toArray, List.set_cons_zero, List.set_cons_succ, List.getElem_toArray, List.getElem_cons_zero, List.getElem_cons_succ]
          refine wpAnyH_ready (rs := [1]) (by kernel_rfl) (by simp) ?_
          refine AllReadyH.cons (o := _) rfl (fun K hK => ?_) AllReadyH.nil
          go_simp
          go_at_call 30
          refine (HCU.out _ (Below.refl _ _).drew).mono ?_
          rintro e w2 ⟨rfl, hb2⟩
          have hBz : Below wc.heap.size wc w2 := ⟨hb2.os, hb2.tape, hb2.output, hb2.size, hb2.block⟩
          go_wp2
          refine hK.out _ _ ?_ (fun hHeld => ?_)
          · exact HS2.out _ hBz
          clear hK K
          try simp only [Act.put, List.setIfInBounds_toArray, List.set_cons_zero, List.set_cons_succ, List.getElem_toArray, List.getElem_cons_zero, List.getElem_cons_succ]
          refine wpAnyH_take (i := 4) (oi := _) (v := ?_) rfl (by kernel_rfl) (by kernel_rfl) (by kernel_rfl) (fun _ _ _ h => h) (Or.inl ⟨by rfl, ?_⟩) (by assumption) ?_
          rotate_left
          · intro w hSw
            try dsimp only at hSw
            go_simp
            try with_reducible rfl
          try simp only [Act.put, List.setIfInBounds_toArray, List.set_cons_zero, List.set_cons_succ, List.getElem_toArray, List.getElem_cons_zero, List.getElem_cons_succ]
          refine wpAnyH_take (i := 9) (oi := _) (v := ?_) rfl (by kernel_rfl) (by kernel_rfl) (by kernel_rfl) (fun _ _ _ h => h) (Or.inl ⟨by rfl, ?_⟩) (by assumption) ?_
          rotate_left
          · intro w hSw
            try dsimp only at hSw
            go_simp
            try with_reducible rfl
          try simp only [Act.put, List.setIfInBounds_toArray, List.set_cons_zero, List.set_cons_succ, List.getElem_toArray, List.getElem_cons_zero, List.getElem_cons_succ]
          refine wpAnyH_take (i := 10) (oi := _) (v := ?_) rfl (by kernel_rfl) (by kernel_rfl) (by kernel_rfl) (fun _ _ _ h => h) (Or.inl ⟨by rfl, ?_⟩) (by assumption) ?_
          rotate_left
          · intro w hSw
            try dsimp only at hSw
            go_simp
            try with_reducible rfl
          try simp only [Act.put, List.setIfInBounds_toArray, List.set_cons_zero, List.set_cons_succ, List.getElem_toArray, List.getElem_cons_zero, List.getElem_cons_succ]
          refine wpAnyH_take (i := 11) (oi := _) (v := undef) rfl (by kernel_rfl) (by kernel_rfl) (by kernel_rfl) (fun _ _ _ h => h) (Or.inr ⟨by kernel_rfl, rfl⟩) (by assumption) ?_
          try simp only [Act.put, List.setIfInBounds_toArray, List.set_cons_zero, List.set_cons_succ, List.getElem_toArray, List.getElem_cons_zero, List.getElem_cons_succ]
          refine wpAnyH_take (i := 12) (oi := _) (v := undef) rfl (by kernel_rfl) (by kernel_rfl) (by kernel_rfl) (fun _ _ _ h => h) (Or.inr ⟨by kernel_rfl, rfl⟩) (by assumption) ?_
          try simp only [Act.put, List.setIfInBounds_toArray, List.set_cons_zero, List.set_cons_succ, List.getElem_toArray, List.getElem_cons_zero, List.getElem_cons_succ]
          refine wpAnyH_take (i := 13) (oi := _) (v := undef) rfl (by kernel_rfl) (by kernel_rfl) (by kernel_rfl) (fun _ _ _ h => h) (Or.inr ⟨by kernel_rfl, rfl⟩) (by assumption) ?_
          try simp only [Act.put, List.setIfInBounds_toArray, List.set_cons_zero, List.set_cons_succ, List.getElem_toArray, List.getElem_cons_zero, List.getElem_cons_succ]
          refine wpAnyH_take (i := 14) (oi := _) (v := undef) rfl (by kernel_rfl) (by kernel_rfl) (by kernel_rfl) (fun _ _ _ h => h) (Or.inr ⟨by kernel_rfl, rfl⟩) (by assumption) ?_
          try simp only [Act.put, List.setIfInBounds_toArray, List.set_cons_zero, List.set_cons_succ, List.getElem_toArray, List.getElem_cons_zero, List.getElem_cons_succ]
          refine wpAnyH_take (i := 15) (oi := _) (v := undef) rfl (by kernel_rfl) (by kernel_rfl) (by kernel_rfl) (fun _ _ _ h => h) (Or.inr ⟨by kernel_rfl, rfl⟩) (by assumption) ?_
          try simp only [Act.put, List.setIfInBounds_toArray, List.set_cons_zero, List.set_cons_succ, List.getElem_toArray, List.getElem_cons_zero, List.getElem_cons_succ]
          refine wpAnyH_take (i := 16) (oi := _) (v := undef) rfl (by kernel_rfl) (by kernel_rfl) (by kernel_rfl) (fun _ _ _ h => h) (Or.inr ⟨by kernel_rfl, rfl⟩) (by assumption) ?_
          try simp only [Act.put, List.setIfInBounds_toArray, List.set_cons_zero, List.set_cons_succ, List.getElem_toArray, List.getElem_cons_zero, List.getElem_cons_succ]
          refine wpAnyH_take (i := 17) (oi := _) (v := undef) rfl (by kernel_rfl) (by kernel_rfl) (by kernel_rfl) (fun _ _ _ h => h) (Or.inr ⟨by kernel_rfl, rfl⟩) (by assumption) ?_
          try simp only [Act.put, List.setIfInBounds_toArray, List.set_cons_zero, List.set_cons_succ, List.getElem_toArray, List.getElem_cons_zero, List.getElem_cons_succ]
          refine wpAnyH_take (i := 18) (oi := _) (v := undef) rfl (by kernel_rfl) (by kernel_rfl) (by kernel_rfl) (fun _ _ _ h => h) (Or.inr ⟨by kernel_rfl, rfl⟩) (by assumption) ?_
          try simp only [Act.put, List.setIfInBounds_toArray, List.set_cons_zero, List.set_cons_succ, List.getElem_toArray, List.getElem_cons_zero, List.getElem_cons_succ]
          refine wpAnyH_take (i := 19) (oi := _) (v := undef) rfl (by kernel_rfl) (by kernel_rfl) (by kernel_rfl) (fun _ _ _ h => h) (Or.inr ⟨by kernel_rfl, rfl⟩) (by assumption) ?_
          try simp only [Act.put, List.setIfInBounds_toArray, List.set_cons_zero, List.set_cons_succ, List.getElem_toArray, List.getElem_cons_zero, List.getElem_cons_succ]
          refine wpAnyH_take (i := 20) (oi := _) (v := undef) rfl (by kernel_rfl) (by kernel_rfl) (by kernel_rfl) (fun _ _ _ h => h) (Or.inr ⟨by kernel_rfl, rfl⟩) (by assumption) ?_
          try simp only [Act.put, List.setIfInBounds_toArray, List.set_cons_zero, List.set_cons_succ, List.getElem_toArray, List.getElem_cons_zero, List.getElem_cons_succ]
          refine wpAnyH_take (i := 21) (oi := _) (v := ?_) rfl (by kernel_rfl) (by kernel_rfl) (by kernel_rfl) (fun _ _ _ h => h) (Or.inl ⟨by rfl, ?_⟩) (by assumption) ?_
          rotate_left
          · intro w hSw
            try dsimp only at hSw
            go_simp
            try with_reducible rfl
          try simp only [Act.put, List.setIfInBounds_toArray, List.set_cons_zero, List.set_cons_succ, List.getElem_toArray, List.getElem_cons_zero, List.getElem_cons_succ]
          refine wpAnyH_done (by kernel_rfl) ?_ _
          refine NoPanic.normal ?_
          go_wp2
          go_ret
          rw [HR.out]
          have hB2 : Below w.heap.size w w2 := HBx.out.trans (hBz.mono HBx.out.size)
          exact ⟨S, rfl, HD.out.below hBz, ⟨Kp.ofBelow hB2 S, fun _ h => .inl h⟩⟩
        · have hdf : decide ((D.room : Int) < (U : Int) + (lb.length : Int)) = false := decide_eq_false (by omega)
          have HFU := Lib.hid hfull
          clear hfull
          cases ok with
          | true =>
            have HR := Lib.hid (show D.append nm lb = D.deed (addF nm lb) by
              have h1 := HFU.out
              have h2 := HN.out
              have h3 := HO.out
              simp [DState.append, hdk, h2, HUe.out, h1, h3])
            clear hdk
            have HDEED := Lib.hid (show ∀ wx, Below wc.heap.size wc wx → Calls Tryz.prog 123 #[.pointer (some ⟨p, 0, none⟩), .func (.func 124) #[] #[.pointer (some ⟨ao, 0, none⟩), .pointer (some ⟨H, 0, none⟩), .pointer (some ⟨ai, 0, none⟩), .pointer (some ⟨H + 1, 0, none⟩), .pointer (some ⟨H + 1 + 1, 0, none⟩)]] wx (DeedPost wx S p (D.append nm lb).1 (D.append nm lb).2) from by
              intro wx hx
              rw [HR.out]
              refine deed_any wx S p D 124 _ (addF nm lb) (HD.out.below hx) eg_append1 ?_
              intro w1 D1 hf hrm1 hd1' hk
              have hfi : fidx D1.files nm = i := by rw [hf]; exact HI.out
              have hho : hasF D1.files nm = true := by rw [hf]; exact HO.out
              have hut : usedF D1.files + lb.length ≤ D1.room := by
                rw [hf, hrm1, HUe.out]
                have := HFU.out
                omega
              rw [← hf]
              have hcap : AppCaps w1 S p nm (fidx D1.files nm) true (.slice A2 lb.length c2) lb ao H ai (H + 1) (H + 1 + 1) := by
                rw [hfi]
                exact ⟨⟨hk.cell ((hx.cell hop).trans hco) haoS, haoS⟩, ⟨hk.cell ((hx.cell hdp).trans hd1) hadS, hadS⟩, ⟨hk.cell ((hx.cell hip).trans hci) haiS, haiS⟩, ⟨hk.cell ((hx.cell hnp).trans hn1) hanS, hanS⟩, ⟨hk.cell ((hx.cell hbp).trans hb1) habS, habS⟩, (HRB.out.below hx (fun _ h => .inl h)).kp hk (fun _ h => .inl h)⟩
              exact append1_yes w1 S p D1 nm _ lb ao H ai (H + 1) (H + 1 + 1) hd1' hcap hho hut)
            go_wp2_with fail
            refine wp_region_noPanic ?_
            refine wp_region_held_drew (S := (fun w' => w'.cell? ⟨p, 0, none⟩ = some (.slice A1 xs.length c1) ∧ w'.cell? ⟨p, 1, none⟩ = some (.int .i64 (D.room : Int)) ∧ w'.cell? ⟨H, 0, none⟩ = some (.pointer (some ⟨p, 0, none⟩)) ∧ w'.cell? ⟨H + 1 + 1, 0, none⟩ = some (.slice A2 lb.length c2) ∧ w'.cell? ⟨ao, 0, none⟩ = some (.bool true))) (by kernel_rfl) ?_ (fun hHeld => ?_)
            · exact HS2.out _ (Below.refl _ _).drew
            refine wpAnyH_take (i := 0) (oi := _) (v := ?_) rfl (by kernel_rfl) (by kernel_rfl) (by kernel_rfl) (fun _ _ _ h => h) (Or.inl ⟨by rfl, ?_⟩) (by assumption) ?_
            rotate_left
            · intro w hSw
              try dsimp only at hSw
              go_simp
              try with_reducible rfl
            try simp only [Act.put, List.setIfInBounds_toArray, List.set_cons_zero, List.set_cons_succ, List.getElem_toArray, List.getElem_cons_zero, List.getElem_cons_succ]
            refine wpAnyH_take (i := 2) (oi := _) (v := ?_) rfl (by kernel_rfl) (by kernel_rfl) (by kernel_rfl) (fun _ _ _ h => h) (Or.inl ⟨by rfl, ?_⟩) (by assumption) ?_
            rotate_left
            · intro w hSw
              try dsimp only at hSw
              go_simp
              try with_reducible rfl
            try simp only [Act.put, List.setIfInBounds_toArray, List.set_cons_zero, List.set_cons_succ, List.getElem_toArray, List.getElem_cons_zero, List.getElem_cons_succ]
            refine wpAnyH_take (i := 3) (oi := _) (v := ?_) rfl (by kernel_rfl) (by kernel_rfl) (by kernel_rfl) (fun _ _ _ h => h) (Or.inl ⟨by rfl, ?_⟩) (by assumption) ?_
            rotate_left
            · intro w hSw
              try dsimp only at hSw
              go_simp
              try with_reducible rfl
            try simp only [Act.put, List.setIfInBounds_toArray, List.set_cons_zero, List.set_cons_succ, List.getElem_toArray, List.getElem_cons_zero, List.getElem_cons_succ]
            refine wpAnyH_take (i := 5) (oi := _) (v := ?_) rfl (by kernel_rfl) (by kernel_rfl) (by kernel_rfl) (fun _ _ _ h => h) (Or.inl ⟨by rfl, ?_⟩) (by assumption) ?_
            rotate_left
            · intro w hSw
              try dsimp only at hSw
              go_simp
              try with_reducible rfl
            try simp only [Act.put, List.setIfInBounds_toArray, List.set_cons_zero, List.set_cons_succ, List.getElem_toArray, List.getElem_cons_zero, List.getElem_cons_succ]
            refine wpAnyH_take (i := 6) (oi := _) (v := ?_) rfl (by kernel_rfl) (by kernel_rfl) (by kernel_rfl) (fun _ _ _ h => h) (Or.inl ⟨by rfl, ?_⟩) (by assumption) ?_
            rotate_left
            · intro w hSw
              try dsimp only at hSw
              go_simp
              try with_reducible rfl
            try simp only [Act.put, List.setIfInBounds_toArray, List.set_cons_zero, List.set_cons_succ, List.getElem_toArray, List.getElem_cons_zero, List.getElem_cons_succ]
            refine wpAnyH_take (i := 7) (oi := _) (v := ?_) rfl (by kernel_rfl) (by kernel_rfl) (by kernel_rfl) (fun _ _ _ h => h) (Or.inl ⟨by rfl, ?_⟩) (by assumption) ?_
            rotate_left
            · intro w hSw
              try dsimp only at hSw
              go_simp
              try with_reducible rfl
            try simp only [Act.put, List.setIfInBounds_toArray, List.set_cons_zero, List.set_cons_succ, List.getElem_toArray, List.getElem_cons_zero, List.getElem_cons_succ]
            refine wpAnyH_take (i := 8) (oi := _) (v := ?_) rfl (by kernel_rfl) (by kernel_rfl) (by kernel_rfl) (fun _ _ _ h => h) (Or.inl ⟨by rfl, ?_⟩) (by assumption) ?_
            rotate_left
            · intro w hSw
              try dsimp only at hSw
              go_simp
              try with_reducible rfl
            try simp only [Act.put, List.setIfInBounds_toArray, List.set_cons_zero, List.set_cons_succ, List.getElem_toArray, List.getElem_cons_zero, List.getElem_cons_succ]
            refine wpAnyH_ready (rs := [1]) (by kernel_rfl) (by simp) ?_
            refine AllReadyH.cons (o := _) rfl (fun K hK => ?_) AllReadyH.nil
            go_simp
            go_at_call 30
            refine (HCU.out _ (Below.refl _ _).drew).mono ?_
            rintro e w2 ⟨rfl, hb2⟩
            have hBz : Below wc.heap.size wc w2 := ⟨hb2.os, hb2.tape, hb2.output, hb2.size, hb2.block⟩
            go_wp2
            refine hK.out _ _ ?_ (fun hHeld => ?_)
            · exact HS2.out _ hBz
            clear hK K
            try simp only [Act.put, List.setIfInBounds_toArray, List.set_cons_zero, List.set_cons_succ, List.getElem_toArray, List.getElem_cons_zero, List.getElem_cons_succ]
            refine wpAnyH_take (i := 4) (oi := _) (v := ?_) rfl (by kernel_rfl) (by kernel_rfl) (by kernel_rfl) (fun _ _ _ h => h) (Or.inl ⟨by rfl, ?_⟩) (by assumption) ?_
            rotate_left
            · intro w hSw
              try dsimp only at hSw
              go_simp
              try with_reducible rfl
            try simp only [Act.put, List.setIfInBounds_toArray, List.set_cons_zero, List.set_cons_succ, List.getElem_toArray, List.getElem_cons_zero, List.getElem_cons_succ]
            refine wpAnyH_take (i := 9) (oi := _) (v := ?_) rfl (by kernel_rfl) (by kernel_rfl) (by kernel_rfl) (fun _ _ _ h => h) (Or.inl ⟨by rfl, ?_⟩) (by assumption) ?_
            rotate_left
            · intro w hSw
              try dsimp only at hSw
              go_simp
              try with_reducible rfl
            try simp only [Act.put, List.setIfInBounds_toArray, List.set_cons_zero, List.set_cons_succ, List.getElem_toArray, List.getElem_cons_zero, List.getElem_cons_succ]
            refine wpAnyH_take (i := 10) (oi := _) (v := ?_) rfl (by kernel_rfl) (by kernel_rfl) (by kernel_rfl) (fun _ _ _ h => h) (Or.inl ⟨by rfl, ?_⟩) (by assumption) ?_
            rotate_left
            · intro w hSw
              try dsimp only at hSw
              go_simp
              try with_reducible rfl
            try simp only [Act.put, List.setIfInBounds_toArray, List.set_cons_zero, List.set_cons_succ, List.getElem_toArray, List.getElem_cons_zero, List.getElem_cons_succ]
            refine wpAnyH_take (i := 11) (oi := _) (v := ?_) rfl (by kernel_rfl) (by kernel_rfl) (by kernel_rfl) (fun _ _ _ h => h) (Or.inl ⟨by rfl, ?_⟩) (by assumption) ?_
            rotate_left
            · intro w hSw
              try dsimp only at hSw
              go_simp
              try with_reducible rfl
            try simp only [Act.put, List.setIfInBounds_toArray, List.set_cons_zero, List.set_cons_succ, List.getElem_toArray, List.getElem_cons_zero, List.getElem_cons_succ]
            refine wpAnyH_take (i := 12) (oi := _) (v := ?_) rfl (by kernel_rfl) (by kernel_rfl) (by kernel_rfl) (fun _ _ _ h => h) (Or.inl ⟨by rfl, ?_⟩) (by assumption) ?_
            rotate_left
            · intro w hSw
              try dsimp only at hSw
              go_simp
              try with_reducible rfl
            try simp only [Act.put, List.setIfInBounds_toArray, List.set_cons_zero, List.set_cons_succ, List.getElem_toArray, List.getElem_cons_zero, List.getElem_cons_succ]
            refine wpAnyH_take (i := 13) (oi := _) (v := ?_) rfl (by kernel_rfl) (by kernel_rfl) (by kernel_rfl) (fun _ _ _ h => h) (Or.inl ⟨by rfl, ?_⟩) (by assumption) ?_
            rotate_left
            · intro w hSw
              try dsimp only at hSw
              go_simp
              try with_reducible rfl
            try simp only [Act.put, List.setIfInBounds_toArray, List.set_cons_zero, List.set_cons_succ, List.getElem_toArray, List.getElem_cons_zero, List.getElem_cons_succ]
            refine wpAnyH_take (i := 14) (oi := _) (v := undef) rfl (by kernel_rfl) (by kernel_rfl) (by kernel_rfl) (fun _ _ _ h => h) (Or.inr ⟨by kernel_rfl, rfl⟩) (by assumption) ?_
            try simp only [Act.put, List.setIfInBounds_toArray, List.set_cons_zero, List.set_cons_succ, List.getElem_toArray, List.getElem_cons_zero, List.getElem_cons_succ]
            refine wpAnyH_take (i := 15) (oi := _) (v := undef) rfl (by kernel_rfl) (by kernel_rfl) (by kernel_rfl) (fun _ _ _ h => h) (Or.inr ⟨by kernel_rfl, rfl⟩) (by assumption) ?_
            try simp only [Act.put, List.setIfInBounds_toArray, List.set_cons_zero, List.set_cons_succ, List.getElem_toArray, List.getElem_cons_zero, List.getElem_cons_succ]
            refine wpAnyH_take (i := 16) (oi := _) (v := undef) rfl (by kernel_rfl) (by kernel_rfl) (by kernel_rfl) (fun _ _ _ h => h) (Or.inr ⟨by kernel_rfl, rfl⟩) (by assumption) ?_
            try simp only [Act.put, List.setIfInBounds_toArray, List.set_cons_zero, List.set_cons_succ, List.getElem_toArray, List.getElem_cons_zero, List.getElem_cons_succ]
            refine wpAnyH_take (i := 17) (oi := _) (v := undef) rfl (by kernel_rfl) (by kernel_rfl) (by kernel_rfl) (fun _ _ _ h => h) (Or.inr ⟨by kernel_rfl, rfl⟩) (by assumption) ?_
            try simp only [Act.put, List.setIfInBounds_toArray, List.set_cons_zero, List.set_cons_succ, List.getElem_toArray, List.getElem_cons_zero, List.getElem_cons_succ]
            refine wpAnyH_take (i := 18) (oi := _) (v := undef) rfl (by kernel_rfl) (by kernel_rfl) (by kernel_rfl) (fun _ _ _ h => h) (Or.inr ⟨by kernel_rfl, rfl⟩) (by assumption) ?_
            try simp only [Act.put, List.setIfInBounds_toArray, List.set_cons_zero, List.set_cons_succ, List.getElem_toArray, List.getElem_cons_zero, List.getElem_cons_succ]
            refine wpAnyH_take (i := 19) (oi := _) (v := undef) rfl (by kernel_rfl) (by kernel_rfl) (by kernel_rfl) (fun _ _ _ h => h) (Or.inr ⟨by kernel_rfl, rfl⟩) (by assumption) ?_
            try simp only [Act.put, List.setIfInBounds_toArray, List.set_cons_zero, List.set_cons_succ, List.getElem_toArray, List.getElem_cons_zero, List.getElem_cons_succ]
            refine wpAnyH_take (i := 20) (oi := _) (v := ?_) rfl (by kernel_rfl) (by kernel_rfl) (by kernel_rfl) (fun _ _ _ h => h) (Or.inl ⟨by rfl, ?_⟩) (by assumption) ?_
            rotate_left
            · intro w hSw
              try dsimp only at hSw
              go_simp
              try with_reducible rfl
            try simp only [Act.put, List.setIfInBounds_toArray, List.set_cons_zero, List.set_cons_succ, List.getElem_toArray, List.getElem_cons_zero, List.getElem_cons_succ]
            refine wpAnyH_take (i := 21) (oi := _) (v := ?_) rfl (by kernel_rfl) (by kernel_rfl) (by kernel_rfl) (fun _ _ _ h => h) (Or.inl ⟨by rfl, ?_⟩) (by assumption) ?_
            rotate_left
            · intro w hSw
              try dsimp only at hSw
              go_simp
              try with_reducible rfl
            try simp only [Act.put, List.setIfInBounds_toArray, List.set_cons_zero, List.set_cons_succ, List.getElem_toArray, List.getElem_cons_zero, List.getElem_cons_succ]
            refine wpAnyH_done (by kernel_rfl) ?_ _
            refine NoPanic.normal ?_
            have hd1 := (hBz.cell (p := ⟨H, 0, none⟩) hdp).trans hd1
            have hB2 : Below w.heap.size w w2 := HBx.out.trans (hBz.mono HBx.out.size)
            have hCC := HDEED.out w2 hBz
            have HCC := Lib.hid hCC
            clear hCC hc0 hc1 hci hco hn1 hb1
            go_wp2_with (go_at_call 123; refine HCC.out.mono ?_; rintro e w3 ⟨S', rfl, hd, hs⟩)
            go_ret
            exact ⟨S', rfl, hd, ⟨(Kp.ofBelow hB2 S).trans hs.kp (fun _ h => .inl h), fun b hb => (hs.fresh b hb).imp id (fun h2 => Nat.le_trans hB2.size h2)⟩⟩

          | false =>
            have hlx : D.files.length ≤ 200 := HD.out.wf.few
            by_cases h200 : D.files.length = 200
            · have HR := Lib.hid (show D.append nm lb = (D, 5) by
                have h2 := HN.out
                have h3 := HO.out
                simp [DState.append, hdk, h2, h3, h200])
              have hx2 : (((xs.length : Nat) : Int) == 200) = true := by rw [HXL.out, h200]; rfl
              have hx5 : decide (((xs.length : Nat) : Int) = 200) = true := decide_eq_true (by rw [HXL.out, h200]; rfl)
              clear hdk h200 hlx
              go_wp2_with fail
              refine wp_region_noPanic ?_
              refine wp_region_held_drew (S := (fun w' => w'.cell? ⟨p, 0, none⟩ = some (.slice A1 xs.length c1) ∧ w'.cell? ⟨p, 1, none⟩ = some (.int .i64 (D.room : Int)) ∧ w'.cell? ⟨H, 0, none⟩ = some (.pointer (some ⟨p, 0, none⟩)) ∧ w'.cell? ⟨H + 1 + 1, 0, none⟩ = some (.slice A2 lb.length c2) ∧ w'.cell? ⟨ao, 0, none⟩ = some (.bool false))) (by kernel_rfl) ?_ (fun hHeld => ?_)
              · exact HS2.out _ (Below.refl _ _).drew
              refine wpAnyH_take (i := 0) (oi := _) (v := ?_) rfl (by kernel_rfl) (by kernel_rfl) (by kernel_rfl) (fun _ _ _ h => h) (Or.inl ⟨by rfl, ?_⟩) (by assumption) ?_
              rotate_left
              · intro w hSw
                try dsimp only at hSw
                go_simp
                try with_reducible rfl
              try simp only [Act.put, List.setIfInBounds_toArray, List.set_cons_zero, List.set_cons_succ, List.getElem_toArray, List.getElem_cons_zero, List.getElem_cons_succ]
              refine wpAnyH_take (i := 2) (oi := _) (v := ?_) rfl (by kernel_rfl) (by kernel_rfl) (by kernel_rfl) (fun _ _ _ h => h) (Or.inl ⟨by rfl, ?_⟩) (by assumption) ?_
              rotate_left
              · intro w hSw
                try dsimp only at hSw
                go_simp
                try with_reducible rfl
              try simp only [Act.put, List.setIfInBounds_toArray, List.set_cons_zero, List.set_cons_succ, List.getElem_toArray, List.getElem_cons_zero, List.getElem_cons_succ]
              refine wpAnyH_take (i := 3) (oi := _) (v := ?_) rfl (by kernel_rfl) (by kernel_rfl) (by kernel_rfl) (fun _ _ _ h => h) (Or.inl ⟨by rfl, ?_⟩) (by assumption) ?_
              rotate_left
              · intro w hSw
                try dsimp only at hSw
                go_simp
                try with_reducible rfl
              try simp only [Act.put, List.setIfInBounds_toArray, List.set_cons_zero, List.set_cons_succ, List.getElem_toArray, List.getElem_cons_zero, List.getElem_cons_succ]
              refine wpAnyH_take (i := 5) (oi := _) (v := ?_) rfl (by kernel_rfl) (by kernel_rfl) (by kernel_rfl) (fun _ _ _ h => h) (Or.inl ⟨by rfl, ?_⟩) (by assumption) ?_
              rotate_left
              · intro w hSw
                try dsimp only at hSw
                go_simp
                try with_reducible rfl
              try simp only [Act.put, List.setIfInBounds_toArray, List.set_cons_zero, List.set_cons_succ, List.getElem_toArray, List.getElem_cons_zero, List.getElem_cons_succ]
              refine wpAnyH_take (i := 6) (oi := _) (v := ?_) rfl (by kernel_rfl) (by kernel_rfl) (by kernel_rfl) (fun _ _ _ h => h) (Or.inl ⟨by rfl, ?_⟩) (by assumption) ?_
              rotate_left
              · intro w hSw
                try dsimp only at hSw
                go_simp
                try with_reducible rfl
              try simp only [Act.put, List.setIfInBounds_toArray, List.set_cons_zero, List.set_cons_succ, List.getElem_toArray, List.getElem_cons_zero, List.getElem_cons_succ]
              refine wpAnyH_take (i := 7) (oi := _) (v := ?_) rfl (by kernel_rfl) (by kernel_rfl) (by kernel_rfl) (fun _ _ _ h => h) (Or.inl ⟨by rfl, ?_⟩) (by assumption) ?_
              rotate_left
              · intro w hSw
                try dsimp only at hSw
                go_simp
                try with_reducible rfl
              try simp only [Act.put, List.setIfInBounds_toArray, List.set_cons_zero, List.set_cons_succ, List.getElem_toArray, List.getElem_cons_zero, List.getElem_cons_succ]
              refine wpAnyH_take (i := 8) (oi := _) (v := ?_) rfl (by kernel_rfl) (by kernel_rfl) (by kernel_rfl) (fun _ _ _ h => h) (Or.inl ⟨by rfl, ?_⟩) (by assumption) ?_
              rotate_left
              · intro w hSw
                try dsimp only at hSw
                go_simp
                try with_reducible rfl
              try simp only [Act.put, List.setIfInBounds_toArray, List.set_cons_zero, List.set_cons_succ, List.getElem_toArray, List.getElem_cons_zero, List.getElem_cons_succ]
              refine wpAnyH_ready (rs := [1]) (by kernel_rfl) (by simp) ?_
              refine AllReadyH.cons (o := _) rfl (fun K hK => ?_) AllReadyH.nil
              go_simp
              go_at_call 30
              refine (HCU.out _ (Below.refl _ _).drew).mono ?_
              rintro e w2 ⟨rfl, hb2⟩
              have hBz : Below wc.heap.size wc w2 := ⟨hb2.os, hb2.tape, hb2.output, hb2.size, hb2.block⟩
              go_wp2
              refine hK.out _ _ ?_ (fun hHeld => ?_)
              · exact HS2.out _ hBz
              clear hK K
              try simp only [Act.put, List.setIfInBounds_toArray, List.set_cons_zero, List.set_cons_succ, List.getElem_toArray, List.getElem_cons_zero, List.getElem_cons_succ]
              refine wpAnyH_take (i := 4) (oi := _) (v := ?_) rfl (by kernel_rfl) (by kernel_rfl) (by kernel_rfl) (fun _ _ _ h => h) (Or.inl ⟨by rfl, ?_⟩) (by assumption) ?_
              rotate_left
              · intro w hSw
                try dsimp only at hSw
                go_simp
                try with_reducible rfl
              try simp only [Act.put, List.setIfInBounds_toArray, List.set_cons_zero, List.set_cons_succ, List.getElem_toArray, List.getElem_cons_zero, List.getElem_cons_succ]
              refine wpAnyH_take (i := 9) (oi := _) (v := ?_) rfl (by kernel_rfl) (by kernel_rfl) (by kernel_rfl) (fun _ _ _ h => h) (Or.inl ⟨by rfl, ?_⟩) (by assumption) ?_
              rotate_left
              · intro w hSw
                try dsimp only at hSw
                go_simp
                try with_reducible rfl
              try simp only [Act.put, List.setIfInBounds_toArray, List.set_cons_zero, List.set_cons_succ, List.getElem_toArray, List.getElem_cons_zero, List.getElem_cons_succ]
              refine wpAnyH_take (i := 10) (oi := _) (v := ?_) rfl (by kernel_rfl) (by kernel_rfl) (by kernel_rfl) (fun _ _ _ h => h) (Or.inl ⟨by rfl, ?_⟩) (by assumption) ?_
              rotate_left
              · intro w hSw
                try dsimp only at hSw
                go_simp
                try with_reducible rfl
              try simp only [Act.put, List.setIfInBounds_toArray, List.set_cons_zero, List.set_cons_succ, List.getElem_toArray, List.getElem_cons_zero, List.getElem_cons_succ]
              refine wpAnyH_take (i := 11) (oi := _) (v := ?_) rfl (by kernel_rfl) (by kernel_rfl) (by kernel_rfl) (fun _ _ _ h => h) (Or.inl ⟨by rfl, ?_⟩) (by assumption) ?_
              rotate_left
              · intro w hSw
                try dsimp only at hSw
                go_simp
                try with_reducible rfl
              try simp only [Act.put, List.setIfInBounds_toArray, List.set_cons_zero, List.set_cons_succ, List.getElem_toArray, List.getElem_cons_zero, List.getElem_cons_succ]
              refine wpAnyH_take (i := 12) (oi := _) (v := ?_) rfl (by kernel_rfl) (by kernel_rfl) (by kernel_rfl) (fun _ _ _ h => h) (Or.inl ⟨by rfl, ?_⟩) (by assumption) ?_
              rotate_left
              · intro w hSw
                try dsimp only at hSw
                go_simp
                try with_reducible rfl
              try simp only [Act.put, List.setIfInBounds_toArray, List.set_cons_zero, List.set_cons_succ, List.getElem_toArray, List.getElem_cons_zero, List.getElem_cons_succ]
              refine wpAnyH_take (i := 13) (oi := _) (v := ?_) rfl (by kernel_rfl) (by kernel_rfl) (by kernel_rfl) (fun _ _ _ h => h) (Or.inl ⟨by rfl, ?_⟩) (by assumption) ?_
              rotate_left
              · intro w hSw
                try dsimp only at hSw
                go_simp
                try with_reducible rfl
              try simp only [Act.put, List.setIfInBounds_toArray, List.set_cons_zero, List.set_cons_succ, List.getElem_toArray, List.getElem_cons_zero, List.getElem_cons_succ]
              refine wpAnyH_take (i := 14) (oi := _) (v := ?_) rfl (by kernel_rfl) (by kernel_rfl) (by kernel_rfl) (fun _ _ _ h => h) (Or.inl ⟨by rfl, ?_⟩) (by assumption) ?_
              rotate_left
              · intro w hSw
                try dsimp only at hSw
                go_simp
                try with_reducible rfl
              try simp only [Act.put, List.setIfInBounds_toArray, List.set_cons_zero, List.set_cons_succ, List.getElem_toArray, List.getElem_cons_zero, List.getElem_cons_succ]
              refine wpAnyH_take (i := 15) (oi := _) (v := ?_) rfl (by kernel_rfl) (by kernel_rfl) (by kernel_rfl) (fun _ _ _ h => h) (Or.inl ⟨by rfl, ?_⟩) (by assumption) ?_
              rotate_left
              · intro w hSw
                try dsimp only at hSw
                go_simp
                try with_reducible rfl
              try simp only [Act.put, List.setIfInBounds_toArray, List.set_cons_zero, List.set_cons_succ, List.getElem_toArray, List.getElem_cons_zero, List.getElem_cons_succ]
              refine wpAnyH_take (i := 16) (oi := _) (v := ?_) rfl (by kernel_rfl) (by kernel_rfl) (by kernel_rfl) (fun _ _ _ h => h) (Or.inl ⟨by rfl, ?_⟩) (by assumption) ?_
              rotate_left
              · intro w hSw
                try dsimp only at hSw
                go_simp
                try with_reducible rfl
              try simp only [Act.put, List.setIfInBounds_toArray, List.set_cons_zero, List.set_cons_succ, List.getElem_toArray, List.getElem_cons_zero, List.getElem_cons_succ]
              refine wpAnyH_take (i := 17) (oi := _) (v := ?_) rfl (by kernel_rfl) (by kernel_rfl) (by kernel_rfl) (fun _ _ _ h => h) (Or.inl ⟨by rfl, ?_⟩) (by assumption) ?_
              rotate_left
              · intro w hSw
                try dsimp only at hSw
                go_simp
                try with_reducible rfl
              try simp only [Act.put, List.setIfInBounds_toArray, List.set_cons_zero, List.set_cons_succ, List.getElem_toArray, List.getElem_cons_zero, List.getElem_cons_succ]
              refine wpAnyH_take (i := 18) (oi := _) (v := ?_) rfl (by kernel_rfl) (by kernel_rfl) (by kernel_rfl) (fun _ _ _ h => h) (Or.inl ⟨by rfl, ?_⟩) (by assumption) ?_
              rotate_left
              · intro w hSw
                try dsimp only at hSw
                go_simp
                try with_reducible rfl
              try simp only [Act.put, List.setIfInBounds_toArray, List.set_cons_zero, List.set_cons_succ, List.getElem_toArray, List.getElem_cons_zero, List.getElem_cons_succ]
              refine wpAnyH_take (i := 19) (oi := _) (v := ?_) rfl (by kernel_rfl) (by kernel_rfl) (by kernel_rfl) (fun _ _ _ h => h) (Or.inl ⟨by rfl, ?_⟩) (by assumption) ?_
              rotate_left
              · intro w hSw
                try dsimp only at hSw
                go_simp
                try with_reducible rfl
              try simp only [Act.put, List.setIfInBounds_toArray, List.set_cons_zero, List.set_cons_succ, List.getElem_toArray, List.getElem_cons_zero, List.getElem_cons_succ]
              refine wpAnyH_take (i := 20) (oi := _) (v := ?_) rfl (by kernel_rfl) (by kernel_rfl) (by kernel_rfl) (fun _ _ _ h => h) (Or.inl ⟨by rfl, ?_⟩) (by assumption) ?_
              rotate_left
              · intro w hSw
                try dsimp only at hSw
                go_simp
                try with_reducible rfl
              try simp only [Act.put, List.setIfInBounds_toArray, List.set_cons_zero, List.set_cons_succ, List.getElem_toArray, List.getElem_cons_zero, List.getElem_cons_succ]
              refine wpAnyH_take (i := 21) (oi := _) (v := ?_) rfl (by kernel_rfl) (by kernel_rfl) (by kernel_rfl) (fun _ _ _ h => h) (Or.inl ⟨by rfl, ?_⟩) (by assumption) ?_
              rotate_left
              · intro w hSw
                try dsimp only at hSw
                go_simp
                try with_reducible rfl
              try simp only [Act.put, List.setIfInBounds_toArray, List.set_cons_zero, List.set_cons_succ, List.getElem_toArray, List.getElem_cons_zero, List.getElem_cons_succ]
              refine wpAnyH_done (by kernel_rfl) ?_ _
              refine NoPanic.normal ?_
              go_wp2
              go_ret
              rw [HR.out]
              have hB2 : Below w.heap.size w w2 := HBx.out.trans (hBz.mono HBx.out.size)
              exact ⟨S, rfl, HD.out.below hBz, ⟨Kp.ofBelow hB2 S, fun _ h => .inl h⟩⟩
            · have hnop : True := trivial
              have HR := Lib.hid (show D.append nm lb = D.deed (addF nm lb) by
                have h1 := HFU.out
                have h2 := HN.out
                have h3 := HO.out
                simp [DState.append, hdk, h2, HUe.out, h1, h3, h200])
              have HLX := Lib.hid (show D.files.length < 200 by omega)
              have hx2 : (((xs.length : Nat) : Int) == 200) = false := by rw [HXL.out]; simp; omega
              have hx5 : decide (((xs.length : Nat) : Int) = 200) = false := decide_eq_false (by rw [HXL.out]; omega)
              clear hdk h200 hlx
              have HDEED := Lib.hid (show ∀ wx, Below wc.heap.size wc wx → Calls Tryz.prog 123 #[.pointer (some ⟨p, 0, none⟩), .func (.func 124) #[] #[.pointer (some ⟨ao, 0, none⟩), .pointer (some ⟨H, 0, none⟩), .pointer (some ⟨ai, 0, none⟩), .pointer (some ⟨H + 1, 0, none⟩), .pointer (some ⟨H + 1 + 1, 0, none⟩)]] wx (DeedPost wx S p (D.append nm lb).1 (D.append nm lb).2) from by
                intro wx hx
                rw [HR.out]
                refine deed_any wx S p D 124 _ (addF nm lb) (HD.out.below hx) eg_append1 ?_
                intro w1 D1 hf hrm1 hd1' hk
                have hfi : fidx D1.files nm = i := by rw [hf]; exact HI.out
                have hho : hasF D1.files nm = false := by rw [hf]; exact HO.out
                have hut : usedF D1.files + lb.length ≤ D1.room := by
                  rw [hf, hrm1, HUe.out]
                  have := HFU.out
                  omega
                rw [← hf]
                have hcap : AppCaps w1 S p nm (fidx D1.files nm) false (.slice A2 lb.length c2) lb ao H ai (H + 1) (H + 1 + 1) := by
                  rw [hfi]
                  exact ⟨⟨hk.cell ((hx.cell hop).trans hco) haoS, haoS⟩, ⟨hk.cell ((hx.cell hdp).trans hd1) hadS, hadS⟩, ⟨hk.cell ((hx.cell hip).trans hci) haiS, haiS⟩, ⟨hk.cell ((hx.cell hnp).trans hn1) hanS, hanS⟩, ⟨hk.cell ((hx.cell hbp).trans hb1) habS, habS⟩, (HRB.out.below hx (fun _ h => .inl h)).kp hk (fun _ h => .inl h)⟩
                exact append1_no w1 S p D1 nm _ lb ao H ai (H + 1) (H + 1 + 1) hd1' hcap hho hut (by rw [hf]; have := HLX.out; omega))
              go_wp2_with fail
              refine wp_region_noPanic ?_
              refine wp_region_held_drew (S := (fun w' => w'.cell? ⟨p, 0, none⟩ = some (.slice A1 xs.length c1) ∧ w'.cell? ⟨p, 1, none⟩ = some (.int .i64 (D.room : Int)) ∧ w'.cell? ⟨H, 0, none⟩ = some (.pointer (some ⟨p, 0, none⟩)) ∧ w'.cell? ⟨H + 1 + 1, 0, none⟩ = some (.slice A2 lb.length c2) ∧ w'.cell? ⟨ao, 0, none⟩ = some (.bool false))) (by kernel_rfl) ?_ (fun hHeld => ?_)
              · exact HS2.out _ (Below.refl _ _).drew
              refine wpAnyH_take (i := 0) (oi := _) (v := ?_) rfl (by kernel_rfl) (by kernel_rfl) (by kernel_rfl) (fun _ _ _ h => h) (Or.inl ⟨by rfl, ?_⟩) (by assumption) ?_
              rotate_left
              · intro w hSw
                try dsimp only at hSw
                go_simp
                try with_reducible rfl
              try simp only [Act.put, List.setIfInBounds_toArray, List.set_cons_zero, List.set_cons_succ, List.getElem_toArray, List.getElem_cons_zero, List.getElem_cons_succ]
              refine wpAnyH_take (i := 2) (oi := _) (v := ?_) rfl (by kernel_rfl) (by kernel_rfl) (by kernel_rfl) (fun _ _ _ h => h) (Or.inl ⟨by rfl, ?_⟩) (by assumption) ?_
              rotate_left
              · intro w hSw
                try dsimp only at hSw
                go_simp
                try with_reducible rfl
              try simp only [Act.put, List.setIfInBounds_toArray, List.set_cons_zero, List.set_cons_succ, List.getElem_toArray, List.getElem_cons_zero, List.getElem_cons_succ]
              refine wpAnyH_take (i := 3) (oi := _) (v := ?_) rfl (by kernel_rfl) (by kernel_rfl) (by kernel_rfl) (fun _ _ _ h => h) (Or.inl ⟨by rfl, ?_⟩) (by assumption) ?_
              rotate_left
              · intro w hSw
                try dsimp only at hSw
                go_simp
                try with_reducible rfl
              try simp only [Act.put, List.setIfInBounds_toArray, List.set_cons_zero, List.set_cons_succ, List.getElem_toArray, List.getElem_cons_zero, List.getElem_cons_succ]
              refine wpAnyH_take (i := 5) (oi := _) (v := ?_) rfl (by kernel_rfl) (by kernel_rfl) (by kernel_rfl) (fun _ _ _ h => h) (Or.inl ⟨by rfl, ?_⟩) (by assumption) ?_
              rotate_left
              · intro w hSw
                try dsimp only at hSw
                go_simp
                try with_reducible rfl
              try simp only [Act.put, List.setIfInBounds_toArray, List.set_cons_zero, List.set_cons_succ, List.getElem_toArray, List.getElem_cons_zero, List.getElem_cons_succ]
              refine wpAnyH_take (i := 6) (oi := _) (v := ?_) rfl (by kernel_rfl) (by kernel_rfl) (by kernel_rfl) (fun _ _ _ h => h) (Or.inl ⟨by rfl, ?_⟩) (by assumption) ?_
              rotate_left
              · intro w hSw
                try dsimp only at hSw
                go_simp
                try with_reducible rfl
              try simp only [Act.put, List.setIfInBounds_toArray, List.set_cons_zero, List.set_cons_succ, List.getElem_toArray, List.getElem_cons_zero, List.getElem_cons_succ]
              refine wpAnyH_take (i := 7) (oi := _) (v := ?_) rfl (by kernel_rfl) (by kernel_rfl) (by kernel_rfl) (fun _ _ _ h => h) (Or.inl ⟨by rfl, ?_⟩) (by assumption) ?_
              rotate_left
              · intro w hSw
                try dsimp only at hSw
                go_simp
                try with_reducible rfl
              try simp only [Act.put, List.setIfInBounds_toArray, List.set_cons_zero, List.set_cons_succ, List.getElem_toArray, List.getElem_cons_zero, List.getElem_cons_succ]
              refine wpAnyH_take (i := 8) (oi := _) (v := ?_) rfl (by kernel_rfl) (by kernel_rfl) (by kernel_rfl) (fun _ _ _ h => h) (Or.inl ⟨by rfl, ?_⟩) (by assumption) ?_
              rotate_left
              · intro w hSw
                try dsimp only at hSw
                go_simp
                try with_reducible rfl
              try simp only [Act.put, List.setIfInBounds_toArray, List.set_cons_zero, List.set_cons_succ, List.getElem_toArray, List.getElem_cons_zero, List.getElem_cons_succ]
              refine wpAnyH_ready (rs := [1]) (by kernel_rfl) (by simp) ?_
              refine AllReadyH.cons (o := _) rfl (fun K hK => ?_) AllReadyH.nil
              go_simp
              go_at_call 30
              refine (HCU.out _ (Below.refl _ _).drew).mono ?_
              rintro e w2 ⟨rfl, hb2⟩
              have hBz : Below wc.heap.size wc w2 := ⟨hb2.os, hb2.tape, hb2.output, hb2.size, hb2.block⟩
              go_wp2
              refine hK.out _ _ ?_ (fun hHeld => ?_)
              · exact HS2.out _ hBz
              clear hK K
              try simp only [Act.put, List.setIfInBounds_toArray, List.set_cons_zero, List.set_cons_succ, List.getElem_toArray, List.getElem_cons_zero, List.getElem_cons_succ]
              refine wpAnyH_take (i := 4) (oi := _) (v := ?_) rfl (by kernel_rfl) (by kernel_rfl) (by kernel_rfl) (fun _ _ _ h => h) (Or.inl ⟨by rfl, ?_⟩) (by assumption) ?_
              rotate_left
              · intro w hSw
                try dsimp only at hSw
                go_simp
                try with_reducible rfl
              try simp only [Act.put, List.setIfInBounds_toArray, List.set_cons_zero, List.set_cons_succ, List.getElem_toArray, List.getElem_cons_zero, List.getElem_cons_succ]
              refine wpAnyH_take (i := 9) (oi := _) (v := ?_) rfl (by kernel_rfl) (by kernel_rfl) (by kernel_rfl) (fun _ _ _ h => h) (Or.inl ⟨by rfl, ?_⟩) (by assumption) ?_
              rotate_left
              · intro w hSw
                try dsimp only at hSw
                go_simp
                try with_reducible rfl
              try simp only [Act.put, List.setIfInBounds_toArray, List.set_cons_zero, List.set_cons_succ, List.getElem_toArray, List.getElem_cons_zero, List.getElem_cons_succ]
              refine wpAnyH_take (i := 10) (oi := _) (v := ?_) rfl (by kernel_rfl) (by kernel_rfl) (by kernel_rfl) (fun _ _ _ h => h) (Or.inl ⟨by rfl, ?_⟩) (by assumption) ?_
              rotate_left
              · intro w hSw
                try dsimp only at hSw
                go_simp
                try with_reducible rfl
              try simp only [Act.put, List.setIfInBounds_toArray, List.set_cons_zero, List.set_cons_succ, List.getElem_toArray, List.getElem_cons_zero, List.getElem_cons_succ]
              refine wpAnyH_take (i := 11) (oi := _) (v := ?_) rfl (by kernel_rfl) (by kernel_rfl) (by kernel_rfl) (fun _ _ _ h => h) (Or.inl ⟨by rfl, ?_⟩) (by assumption) ?_
              rotate_left
              · intro w hSw
                try dsimp only at hSw
                go_simp
                try with_reducible rfl
              try simp only [Act.put, List.setIfInBounds_toArray, List.set_cons_zero, List.set_cons_succ, List.getElem_toArray, List.getElem_cons_zero, List.getElem_cons_succ]
              refine wpAnyH_take (i := 12) (oi := _) (v := ?_) rfl (by kernel_rfl) (by kernel_rfl) (by kernel_rfl) (fun _ _ _ h => h) (Or.inl ⟨by rfl, ?_⟩) (by assumption) ?_
              rotate_left
              · intro w hSw
                try dsimp only at hSw
                go_simp
                try with_reducible rfl
              try simp only [Act.put, List.setIfInBounds_toArray, List.set_cons_zero, List.set_cons_succ, List.getElem_toArray, List.getElem_cons_zero, List.getElem_cons_succ]
              refine wpAnyH_take (i := 13) (oi := _) (v := ?_) rfl (by kernel_rfl) (by kernel_rfl) (by kernel_rfl) (fun _ _ _ h => h) (Or.inl ⟨by rfl, ?_⟩) (by assumption) ?_
              rotate_left
              · intro w hSw
                try dsimp only at hSw
                go_simp
                try with_reducible rfl
              try simp only [Act.put, List.setIfInBounds_toArray, List.set_cons_zero, List.set_cons_succ, List.getElem_toArray, List.getElem_cons_zero, List.getElem_cons_succ]
              refine wpAnyH_take (i := 14) (oi := _) (v := ?_) rfl (by kernel_rfl) (by kernel_rfl) (by kernel_rfl) (fun _ _ _ h => h) (Or.inl ⟨by rfl, ?_⟩) (by assumption) ?_
              rotate_left
              · intro w hSw
                try dsimp only at hSw
                go_simp
                try with_reducible rfl
              try simp only [Act.put, List.setIfInBounds_toArray, List.set_cons_zero, List.set_cons_succ, List.getElem_toArray, List.getElem_cons_zero, List.getElem_cons_succ]
              refine wpAnyH_take (i := 15) (oi := _) (v := ?_) rfl (by kernel_rfl) (by kernel_rfl) (by kernel_rfl) (fun _ _ _ h => h) (Or.inl ⟨by rfl, ?_⟩) (by assumption) ?_
              rotate_left
              · intro w hSw
                try dsimp only at hSw
                go_simp
                try with_reducible rfl
              try simp only [Act.put, List.setIfInBounds_toArray, List.set_cons_zero, List.set_cons_succ, List.getElem_toArray, List.getElem_cons_zero, List.getElem_cons_succ]
              refine wpAnyH_take (i := 16) (oi := _) (v := ?_) rfl (by kernel_rfl) (by kernel_rfl) (by kernel_rfl) (fun _ _ _ h => h) (Or.inl ⟨by rfl, ?_⟩) (by assumption) ?_
              rotate_left
              · intro w hSw
                try dsimp only at hSw
                go_simp
                try with_reducible rfl
              try simp only [Act.put, List.setIfInBounds_toArray, List.set_cons_zero, List.set_cons_succ, List.getElem_toArray, List.getElem_cons_zero, List.getElem_cons_succ]
              refine wpAnyH_take (i := 17) (oi := _) (v := ?_) rfl (by kernel_rfl) (by kernel_rfl) (by kernel_rfl) (fun _ _ _ h => h) (Or.inl ⟨by rfl, ?_⟩) (by assumption) ?_
              rotate_left
              · intro w hSw
                try dsimp only at hSw
                go_simp
                try with_reducible rfl
              try simp only [Act.put, List.setIfInBounds_toArray, List.set_cons_zero, List.set_cons_succ, List.getElem_toArray, List.getElem_cons_zero, List.getElem_cons_succ]
              refine wpAnyH_take (i := 18) (oi := _) (v := ?_) rfl (by kernel_rfl) (by kernel_rfl) (by kernel_rfl) (fun _ _ _ h => h) (Or.inl ⟨by rfl, ?_⟩) (by assumption) ?_
              rotate_left
              · intro w hSw
                try dsimp only at hSw
                go_simp
                try with_reducible rfl
              try simp only [Act.put, List.setIfInBounds_toArray, List.set_cons_zero, List.set_cons_succ, List.getElem_toArray, List.getElem_cons_zero, List.getElem_cons_succ]
              refine wpAnyH_take (i := 19) (oi := _) (v := ?_) rfl (by kernel_rfl) (by kernel_rfl) (by kernel_rfl) (fun _ _ _ h => h) (Or.inl ⟨by rfl, ?_⟩) (by assumption) ?_
              rotate_left
              · intro w hSw
                try dsimp only at hSw
                go_simp
                try with_reducible rfl
              try simp only [Act.put, List.setIfInBounds_toArray, List.set_cons_zero, List.set_cons_succ, List.getElem_toArray, List.getElem_cons_zero, List.getElem_cons_succ]
              refine wpAnyH_take (i := 20) (oi := _) (v := ?_) rfl (by kernel_rfl) (by kernel_rfl) (by kernel_rfl) (fun _ _ _ h => h) (Or.inl ⟨by rfl, ?_⟩) (by assumption) ?_
              rotate_left
              · intro w hSw
                try dsimp only at hSw
                go_simp
                try with_reducible rfl
              try simp only [Act.put, List.setIfInBounds_toArray, List.set_cons_zero, List.set_cons_succ, List.getElem_toArray, List.getElem_cons_zero, List.getElem_cons_succ]
              refine wpAnyH_take (i := 21) (oi := _) (v := ?_) rfl (by kernel_rfl) (by kernel_rfl) (by kernel_rfl) (fun _ _ _ h => h) (Or.inl ⟨by rfl, ?_⟩) (by assumption) ?_
              rotate_left
              · intro w hSw
                try dsimp only at hSw
                go_simp
                try with_reducible rfl
              try simp only [Act.put, List.setIfInBounds_toArray, List.set_cons_zero, List.set_cons_succ, List.getElem_toArray, List.getElem_cons_zero, List.getElem_cons_succ]
              refine wpAnyH_done (by kernel_rfl) ?_ _
              refine NoPanic.normal ?_
              have hd1 := (hBz.cell (p := ⟨H, 0, none⟩) hdp).trans hd1
              have hB2 : Below w.heap.size w w2 := HBx.out.trans (hBz.mono HBx.out.size)
              have hCC := HDEED.out w2 hBz
              have HCC := Lib.hid hCC
              clear hCC hc0 hc1 hci hco hn1 hb1
              go_wp2_with (go_at_call 123; refine HCC.out.mono ?_; rintro e w3 ⟨S', rfl, hd, hs⟩)
              go_ret
              exact ⟨S', rfl, hd, ⟨(Kp.ofBelow hB2 S).trans hs.kp (fun _ h => .inl h), fun b hb => (hs.fresh b hb).imp id (fun h2 => Nat.le_trans hB2.size h2)⟩⟩
end Go.Proofs.YtohpgipgfmkflaaGreatDoor
namespace Go.Proofs.YtohpgipgfmkflaaGreatDoor
set_option linter.unusedSectionVars false
variable [Base]
open Go.RowKit
set_option maxRecDepth 100000
set_option linter.unusedVariables false
set_option linter.unusedSimpArgs false
attribute [local go_sem ↓] Go.wp_at_zero Go.wp_at_succ

theorem eg_of1 (args : Array Value) (w : World) : (callFunc 167 args).run Tryz.prog w = .ok (.enter 167 args) w := by kernel_rfl
theorem of1_any (w : World) (S : Nat → Prop) (p : Nat) (D' : DState) (kd : Nat) (capd : Array Value) (i : Nat) (b1 b2 : Nat) (h1 : w.cell? ⟨b1, 0, none⟩ = some (.func (.func kd) #[] capd)) (h2 : w.cell? ⟨b2, 0, none⟩ = some (.int .i64 (i : Int)))
    (eg : ∀ args w, (callFunc kd args).run Tryz.prog w = .ok (.enter kd args) w) (C : Calls Tryz.prog kd (#[.int .i64 (i : Int)] ++ capd) w (DoPost w S p D')) :
    Calls Tryz.prog 167 #[.pointer (some ⟨b1, 0, none⟩), .pointer (some ⟨b2, 0, none⟩)] w (DoPost w S p D') := by
  have HC := Lib.hid C
  clear C
  go_enter Tryz.func167, Tryz.ntmps167
  go_wp2_with (refine HC.out.mono ?_; rintro e w' ⟨S', rfl, hd, hs⟩)
  refine bodyPost_ret (v := .tuple #[]) (by simp [results, Tryz.results167, go_sem]) rfl ?_
  exact ⟨S', rfl, hd, hs⟩
def DState.ofD (D : DState) (nm : ByteArray) (er : Int) (F : List File → List File) : DState × Int :=
  if D.dark then (D, 15) else if hasF D.files nm = false then (D, 16) else if er = 0 then D.deed F else (D, er)
/-- What of's callees say. -/
structure OfHyps (w : World) (S : Nat → Prop) (p : Nat) (D : DState) (nm : ByteArray) (km : Nat) (capm : Array Value) (kd : Nat) (capd : Array Value) (er : Int) (F : List File → List File) : Prop where
  egm : ∀ args w, (callFunc km args).run Tryz.prog w = .ok (.enter km args) w
  egd : ∀ args w, (callFunc kd args).run Tryz.prog w = .ok (.enter kd args) w
  may : ∀ (wx : World) (A : Option Addr) (c : Nat), Below w.heap.size w wx → Calls Tryz.prog km (#[.agg #[.string (getF D.files nm).name, .slice A (getF D.files nm).b.length c, .int .i64 ((getF D.files nm).safe : Int)]] ++ capm) wx fun e w' => e = .returned (.int .i64 er) ∧ Below wx.heap.size wx w'
  do_ : ∀ w1 D1, D1.files = D.files → D1.room = D.room → Disk w1 S p D1 → Kp S w w1 → hasF D.files nm = true → er = 0 → Calls Tryz.prog kd (#[.int .i64 (fidx D.files nm : Nat)] ++ capd) w1 (DoPost w1 S p { D1 with files := F D1.files })
set_option maxHeartbeats 2000000 in
theorem of_any (w : World) (S : Nat → Prop) (p : Nat) (D : DState) (nm : ByteArray) (km : Nat) (capm : Array Value) (kd : Nat) (capd : Array Value) (er : Int) (F : List File → List File) (h : Disk w S p D) (hy : OfHyps w S p D nm km capm kd capd er F) (her : -9223372036854775808 ≤ er ∧ er ≤ 9223372036854775807) :
    Calls Tryz.prog 119 #[.pointer (some ⟨p, 0, none⟩), .string nm, .func (.func km) #[] capm, .func (.func kd) #[] capd] w (DeedPost w S p (D.ofD nm er F).1 (D.ofD nm er F).2) := by
  obtain ⟨v, xs, hd⟩ := h.dr
  have hc3 := hd.dcells.c3
  have hc4 := hd.dcells.c4
  have hB := (Below.refl w.heap.size w).alloc (Nat.le_refl _) (.cells #[.func (.func kd) #[] capd] 47)
  have HBw := Lib.hid hB
  cases hdk : D.dark with
  | true =>
    have HR := Lib.hid (show D.ofD nm er F = (D, 15) by simp [DState.ofD, hdk])
    rw [hdk] at hc3
    have HH := Lib.hid h
    clear h hd hdk hy hB
    go_enter Tryz.func119, Tryz.ntmps119
    go_wp2_with (go_at_call 93; refine (lit_yes _ true _ (cell_alloc hc4 _) (cell_alloc hc3 _)).mono ?_; rintro e w' ⟨rfl, rfl⟩)
    go_ret
    rw [HR.out]
    exact ⟨S, rfl, HH.out.below HBw.out, ⟨Kp.ofBelow HBw.out S, fun _ h => .inl h⟩⟩
  | false =>
    rw [hdk] at hc3
    have HY := Lib.hid hy
    have HH := Lib.hid h
    obtain ⟨A1, c1, ev⟩ : ∃ A c, v = .slice A xs.length c := by
      rcases hd.own.2 with ⟨e, h0⟩ | ⟨g, cap, cur, e, _⟩
      · exact ⟨none, 0, by rw [e, h0]⟩
      · exact ⟨_, cap, e⟩
    subst ev
    have hct : (w.alloc (.cells #[.func (.func kd) #[] capd] 47)).cell? ⟨w.heap.size, 0, none⟩ = some (.func (.func kd) #[] capd) := cell_new w _ _
    have HE := Lib.hid hd
    have HDK := Lib.hid hdk
    clear h hd hy hdk
    go_enter Tryz.func119, Tryz.ntmps119
    go_upto_region 4 with (go_at_call 93; refine (lit_yes _ false _ (cell_alloc hc4 _) (cell_alloc hc3 _)).mono ?_; rintro e w' ⟨rfl, rfl⟩)
    have HD := Lib.hid (HH.out.below hB)
    have HDR := Lib.hid (HE.out.below hB)
    have htS : ¬ S w.heap.size := fun hs => Nat.lt_irrefl _ (HH.out.foot _ hs)
    obtain ⟨H, hH⟩ : ∃ H, H = w.heap.size := ⟨_, rfl⟩
    rw [← hH] at hct htS
    simp only [← hH]
    have HHe := Lib.hid hH
    clear HH HE hB hH
    generalize hW : w.alloc (.cells #[.func (.func kd) #[] capd] 47) = W at hct HD HDR HBw ⊢
    have HWe := Lib.hid hW
    clear hW hc3 hc4
    have hc0 := HDR.out.dcells.c0
    have hc4 := HDR.out.dcells.c4
    have hpp := HDR.out.lt
    have htp : H < W.heap.size := World.block_lt_of_cell? W _ hct
    have HC := Lib.hid (HD.out.placeC HDR.out.dv nm)
    have HS := Lib.hid (show ∀ wx, Below W.heap.size W wx → wx.cell? ⟨p, 0, none⟩ = some (.slice A1 xs.length c1) ∧ wx.cell? ⟨p, 4, none⟩ = some (.func (.func 91) #[] #[]) from fun wx hx => ⟨(hx.cell hpp).trans hc0, (hx.cell hpp).trans hc4⟩)
    have hi0 : ((fidx D.files nm : Nat) : Int) ≤ 9223372036854775807 := by have := fidx_le D.files nm; have := HD.out.wf.few; omega
    obtain ⟨i, hi⟩ : ∃ i, fidx D.files nm = i := ⟨_, rfl⟩
    obtain ⟨ok, hok⟩ : ∃ ok, hasF D.files nm = ok := ⟨_, rfl⟩
    simp only [hi, hok] at HC
    simp only [hi] at hi0
    have HI := Lib.hid hi
    have HO := Lib.hid hok
    clear hi hok
    go_cut [10, 11] (fun c10 c11 wx => ∃ ai : Nat, c10 = .pointer (some ⟨ai, 0, none⟩) ∧ c11 = .bool ok ∧ wx.cell? ⟨ai, 0, none⟩ = some (.int .i64 (i : Int)) ∧ W.heap.size ≤ ai ∧ Below W.heap.size W wx)
    case first =>
      go_region_held3 (fun w' => w'.cell? ⟨p, 0, none⟩ = some (.slice A1 xs.length c1) ∧ w'.cell? ⟨p, 4, none⟩ = some (.func (.func 91) #[] #[]))
        (exact HS.out _ (by ((repeat' (first | exact hBz | exact Below.refl _ _ | refine Below.drew ?_ | refine Below.alloc ?_ ?_ _ | refine Below.setCell ?_ ?_ _)) <;> (first | exact Nat.le_refl _ | exact hsz | omega | (simp; done) | (simp; omega)))))
        ((go_at_call 91; refine (HC.out _ (by ((repeat' (first | exact Below.refl _ _ | refine Below.drew ?_ | refine Below.alloc ?_ ?_ _)) <;> (first | omega | (simp; omega) | simp)))).mono ?_; rintro e w2 ⟨rfl, hb2⟩; have hBz : Below W.heap.size W w2 := Below.trans (by ((repeat' (first | exact Below.refl _ _ | refine Below.drew ?_ | refine Below.alloc ?_ ?_ _)) <;> (first | omega | (simp; omega) | simp))) (hb2.mono (by (first | exact Nat.le_refl _ | omega | (simp; omega) | simp))); have hsz : W.heap.size ≤ w2.heap.size := hBz.size; (try (obtain ⟨hr1, hr2⟩ := new_one (W := W) _ _ hb2 (by first | (simp; done) | (simp; omega))))))
      all_goals (go_wp2_with fail; go_meet)
      all_goals (refine ⟨_, rfl, rfl, ?_, ?_, ?_⟩)
      all_goals (first
        | omega
        | (go_simp; done)
        | (((repeat' (first | exact hBz | refine Below.alloc ?_ ?_ _ | refine Below.setCell ?_ ?_ _)) <;> (first | exact Nat.le_refl _ | exact hsz | omega | (simp; done) | (simp; omega))); done))
    case rest =>
      obtain ⟨ai, rfl, rfl, hci, hai, hbx⟩ := hcut
      have haiS : ¬ S ai := fun hs => by have := HDR.out.foot _ hs; omega
      have hc0 := (hbx.cell (p := ⟨p, 0, none⟩) hpp).trans hc0
      have hct := (hbx.cell (p := ⟨H, 0, none⟩) htp).trans hct
      have HD := Lib.hid (HD.out.below hbx)
      have HDR := Lib.hid (HDR.out.below hbx)
      have HBx := Lib.hid (show Below w.heap.size w wc from HBw.out.trans (hbx.mono (by have := HBw.out.size; omega)))
      have hbxs := hbx.size
      clear hbx HC HS
      cases ok with
      | false =>
        have HR := Lib.hid (show D.ofD nm er F = (D, 16) by simp [DState.ofD, HDK.out, HO.out])
        go_wp2
        go_ret
        rw [HR.out]
        exact ⟨S, rfl, HD.out, ⟨Kp.ofBelow HBx.out S, fun _ h => .inl h⟩⟩
      | true =>
        have hi := HI.out
        have hh := HO.out
        have hlt := hasF_lt hh
        obtain ⟨_, hG⟩ := getF_of hh
        rcases HDR.out.dv.shape with ⟨_, _, hf⟩ | ⟨g, c, ev, h1, h2, hn, hgS⟩
        · rw [hf] at hlt; simp at hlt
        injection ev with ev1 _ ev2
        subst ev1
        subst ev2
        have hltx : fidx D.files nm < xs.length := HDR.out.rep.1 ▸ hlt
        have hr := HDR.out.rep.get _ hltx hlt
        obtain ⟨A, cc, ev, hjunk⟩ := id hr.2.2
        have hcs := hn _ hltx
        rw [ev, hr.1, hr.2.1] at hcs
        rw [← hG] at hcs
        obtain ⟨f, hf⟩ : ∃ f, f = getF D.files nm := ⟨_, rfl⟩
        rw [← hf] at hcs
        simp only [hi] at hcs hltx
        have hq0 := hcs.1
        have hq1 := hcs.2.1
        have hq2 := hcs.2.2
        have HF := Lib.hid hf
        clear hjunk hcs ev hr hG hn hf hlt hh hi
        have hx0 : (0 : Int) ≤ (i : Int) := Int.natCast_nonneg _
        have hx1 : (i : Int) < (xs.length : Int) := by omega
        have hgp : g < wc.heap.size := World.block_lt_of_cell? wc _ hq0
        have hpp : p < wc.heap.size := by omega
        have hip : ai < wc.heap.size := World.block_lt_of_cell? wc _ hci
        have htp : H < wc.heap.size := by omega
        have HBWc := Lib.hid HBx.out
        have egm := HY.out.egm
        have HM := Lib.hid (show ∀ wx, Below wc.heap.size wc wx → Calls Tryz.prog km (#[.agg #[.string f.name, .slice A f.b.length cc, .int .i64 (f.safe : Int)]] ++ capm) wx fun e w' => e = .returned (.int .i64 er) ∧ Below wx.heap.size wx w' from fun wx hx => by
          rw [HF.out]
          exact HY.out.may wx A cc (HBx.out.trans (hx.mono HBx.out.size)))
        clear HBWc
        go_wp2_with fail
        refine wp_region_noPanic ?_
        refine wp_region_held_drew (S := (fun w' => w'.cell? ⟨p, 0, none⟩ = some (.slice (some ⟨g, 0, none⟩) xs.length c1) ∧ w'.cell? ⟨ai, 0, none⟩ = some (.int .i64 (i : Int)) ∧ w'.cell? ⟨g, i * 3, none⟩ = some (.string f.name) ∧ w'.cell? ⟨g, i * 3 + 1, none⟩ = some (.slice A f.b.length cc) ∧ w'.cell? ⟨g, i * 3 + 2, none⟩ = some (.int .i64 (f.safe : Int)))) (by kernel_rfl) ?_ (fun hHeld => ?_)
        · exact ⟨hc0, hci, hq0, hq1, hq2⟩
        refine wpAnyH_take (i := 0) (oi := _) (v := ?_) rfl (by kernel_rfl) (by kernel_rfl) (by kernel_rfl) (fun _ _ _ h => h) (Or.inl ⟨by rfl, ?_⟩) (by assumption) ?_
        rotate_left
        · intro w hSw
          try dsimp only at hSw
          go_simp
          try with_reducible rfl
        try simp only [Act.put, List.setIfInBounds_toArray, List.set_cons_zero, List.set_cons_succ, List.getElem_toArray, List.getElem_cons_zero, List.getElem_cons_succ]
        refine wpAnyH_take (i := 1) (oi := _) (v := ?_) rfl (by kernel_rfl) (by kernel_rfl) (by kernel_rfl) (fun _ _ _ h => h) (Or.inl ⟨by rfl, ?_⟩) (by assumption) ?_
        rotate_left
        · intro w hSw
          try dsimp only at hSw
          go_simp
          try with_reducible rfl
        try simp only [Act.put, List.setIfInBounds_toArray, List.set_cons_zero, List.set_cons_succ, List.getElem_toArray, List.getElem_cons_zero, List.getElem_cons_succ]
        refine wpAnyH_take (i := 2) (oi := _) (v := ?_) rfl (by kernel_rfl) (by kernel_rfl) (by kernel_rfl) (fun _ _ _ h => h) (Or.inl ⟨by rfl, ?_⟩) (by assumption) ?_
        rotate_left
        · intro w hSw
          try dsimp only at hSw
          go_simp
          try with_reducible rfl
        try simp only [Act.put, List.setIfInBounds_toArray, List.set_cons_zero, List.set_cons_succ, List.getElem_toArray, List.getElem_cons_zero, List.getElem_cons_succ]
        refine wpAnyH_take (i := 3) (oi := _) (v := ?_) rfl (by kernel_rfl) (by kernel_rfl) (by kernel_rfl) (fun _ _ _ h => h) (Or.inl ⟨by rfl, ?_⟩) (by assumption) ?_
        rotate_left
        · intro w hSw
          try dsimp only at hSw
          go_simp
          try with_reducible rfl
        try simp only [Act.put, List.setIfInBounds_toArray, List.set_cons_zero, List.set_cons_succ, List.getElem_toArray, List.getElem_cons_zero, List.getElem_cons_succ]
        refine wpAnyH_take (i := 4) (oi := _) (v := ?_) rfl (by kernel_rfl) (by kernel_rfl) (by kernel_rfl) (fun _ _ _ h => h) (Or.inl ⟨by rfl, ?_⟩) (by assumption) ?_
        rotate_left
        · intro w hSw
          try dsimp only at hSw
          go_simp
          try with_reducible rfl
        try simp only [Act.put, List.setIfInBounds_toArray, List.set_cons_zero, List.set_cons_succ, List.getElem_toArray, List.getElem_cons_zero, List.getElem_cons_succ]
        refine wpAnyH_take (i := 5) (oi := _) (v := ?_) rfl (by kernel_rfl) (by kernel_rfl) (by kernel_rfl) (fun _ _ _ h => h) (Or.inl ⟨by rfl, ?_⟩) (by assumption) ?_
        rotate_left
        · intro w hSw
          try dsimp only at hSw
          go_simp
          try with_reducible rfl
        try simp only [Act.put, List.setIfInBounds_toArray, List.set_cons_zero, List.set_cons_succ, List.getElem_toArray, List.getElem_cons_zero, List.getElem_cons_succ]
        refine wpAnyH_take (i := 6) (oi := _) (v := ?_) rfl (by kernel_rfl) (by kernel_rfl) (by kernel_rfl) (fun _ _ _ h => h) (Or.inl ⟨by rfl, ?_⟩) (by assumption) ?_
        rotate_left
        · intro w hSw
          try dsimp only at hSw
          go_simp
          try with_reducible rfl
        try simp only [Act.put, List.setIfInBounds_toArray, List.set_cons_zero, List.set_cons_succ, List.getElem_toArray, List.getElem_cons_zero, List.getElem_cons_succ]
        refine wpAnyH_take (i := 7) (oi := _) (v := ?_) rfl (by kernel_rfl) (by kernel_rfl) (by kernel_rfl) (fun _ _ _ h => h) (Or.inl ⟨by rfl, ?_⟩) (by assumption) ?_
        rotate_left
        · intro w hSw
          try dsimp only at hSw
          go_simp
          try with_reducible rfl
        try simp only [Act.put, List.setIfInBounds_toArray, List.set_cons_zero, List.set_cons_succ, List.getElem_toArray, List.getElem_cons_zero, List.getElem_cons_succ]
        refine wpAnyH_ready (rs := [8]) (by kernel_rfl) (by simp) ?_
        refine AllReadyH.cons (o := _) rfl (fun K hK => ?_) AllReadyH.nil
        go_simp
        refine (HM.out _ (Below.refl _ _).drew).mono ?_
        rintro e w2 ⟨rfl, hb2⟩
        have hBz : Below wc.heap.size wc w2 := ⟨hb2.os, hb2.tape, hb2.output, hb2.size, hb2.block⟩
        go_wp2
        refine hK.out _ _ ?_ (fun hHeld => ?_)
        · exact ⟨(hBz.cell (p := ⟨p, 0, none⟩) hpp).trans hc0, (hBz.cell (p := ⟨ai, 0, none⟩) hip).trans hci, (hBz.cell (p := ⟨g, i * 3, none⟩) hgp).trans hq0, (hBz.cell (p := ⟨g, i * 3 + 1, none⟩) hgp).trans hq1, (hBz.cell (p := ⟨g, i * 3 + 2, none⟩) hgp).trans hq2⟩
        clear hK K
        try simp only [Act.put, List.setIfInBounds_toArray, List.set_cons_zero, List.set_cons_succ, List.getElem_toArray, List.getElem_cons_zero, List.getElem_cons_succ]
        refine wpAnyH_take (i := 9) (oi := _) (v := ?_) rfl (by kernel_rfl) (by kernel_rfl) (by kernel_rfl) (fun _ _ _ h => h) (Or.inl ⟨by rfl, ?_⟩) (by assumption) ?_
        rotate_left
        · intro w hSw
          try dsimp only at hSw
          go_simp
          try with_reducible rfl
        try simp only [Act.put, List.setIfInBounds_toArray, List.set_cons_zero, List.set_cons_succ, List.getElem_toArray, List.getElem_cons_zero, List.getElem_cons_succ]
        refine wpAnyH_done (by kernel_rfl) ?_ _
        refine NoPanic.normal ?_
        have hB2 : Below w.heap.size w w2 := HBx.out.trans (hBz.mono HBx.out.size)
        by_cases her0 : er = 0
        · have HR := Lib.hid (show D.ofD nm er F = D.deed F by simp [DState.ofD, HDK.out, HO.out, her0])
          have HDEED := Lib.hid (show Calls Tryz.prog 123 #[.pointer (some ⟨p, 0, none⟩), .func (.func 167) #[] #[.pointer (some ⟨H, 0, none⟩), .pointer (some ⟨ai, 0, none⟩)]] w2 (DeedPost w2 S p (D.ofD nm er F).1 (D.ofD nm er F).2) from by
            rw [HR.out]
            refine deed_any w2 S p D 167 _ F (HD.out.below hBz) eg_of1 ?_
            intro w1 D1 hf hrm hd1 hk
            rw [← hf]
            have hcc := hk.cell ((hBz.cell (p := ⟨H, 0, none⟩) htp).trans hct) htS
            have hii := hk.cell ((hBz.cell (p := ⟨ai, 0, none⟩) hip).trans hci) haiS
            refine of1_any w1 S p _ kd capd i H ai hcc hii HY.out.egd ?_
            have := HY.out.do_ w1 D1 hf hrm hd1 ((Kp.ofBelow hB2 S).trans hk (fun _ h => .inl h)) HO.out her0
            rw [HI.out] at this
            exact this)
          clear hc0 hci hq0 hq1 hq2 hct
          subst her0
          go_wp2_with (go_at_call 123; refine HDEED.out.mono ?_; rintro e w3 ⟨S', rfl, hd, hs⟩)
          go_ret
          exact ⟨S', rfl, hd, ⟨(Kp.ofBelow hB2 S).trans hs.kp (fun _ h => .inl h), fun b hb => (hs.fresh b hb).imp id (fun h2 => Nat.le_trans hB2.size h2)⟩⟩
        · have HR := Lib.hid (show D.ofD nm er F = (D, er) by simp [DState.ofD, HDK.out, HO.out, her0])
          have hne : (er != 0) = true := by simpa using her0
          have hne2 : (er == 0) = false := by simpa using her0
          clear her0
          go_wp2
          go_ret
          rw [HR.out]
          exact ⟨S, rfl, HD.out.below hBz, ⟨Kp.ofBelow hB2 S, fun _ h => .inl h⟩⟩
end Go.Proofs.YtohpgipgfmkflaaGreatDoor
namespace Go.Proofs.YtohpgipgfmkflaaGreatDoor
set_option linter.unusedSectionVars false
variable [Base]
open Go.RowKit
set_option maxRecDepth 100000
set_option linter.unusedVariables false
set_option linter.unusedSimpArgs false
attribute [local go_sem ↓] Go.wp_at_zero Go.wp_at_succ

theorem eg_sync1 (args : Array Value) (w : World) : (callFunc 130 args).run Tryz.prog w = .ok (.enter 130 args) w := by kernel_rfl
theorem eg_rem1 (args : Array Value) (w : World) : (callFunc 128 args).run Tryz.prog w = .ok (.enter 128 args) w := by kernel_rfl
theorem eg_always (args : Array Value) (w : World) : (callFunc 127 args).run Tryz.prog w = .ok (.enter 127 args) w := by kernel_rfl
theorem always_any (w : World) (nm : ByteArray) (A : Option Addr) (n c : Nat) (sf : Int) : Calls Tryz.prog 127 #[.agg #[.string nm, .slice A n c, .int .i64 sf]] w fun e w' => e = .returned (.int .i64 0) ∧ Below w.heap.size w w' := by
  go_enter Tryz.func127, Tryz.ntmps127
  go_wp2
  go_ret
  exact ⟨rfl, (Below.refl _ _).alloc (Nat.le_refl _) _⟩
set_option maxHeartbeats 2000000 in
theorem sync1_any (w : World) (S : Nat → Prop) (p : Nat) (D : DState) (nm : ByteArray) (ad : Nat) (h : Disk w S p D) (hd1 : w.cell? ⟨ad, 0, none⟩ = some (.pointer (some ⟨p, 0, none⟩))) (hd2 : ¬ S ad) (hh : hasF D.files nm = true) :
    Calls Tryz.prog 130 #[.int .i64 (fidx D.files nm : Nat), .pointer (some ⟨ad, 0, none⟩)] w (DoPost w S p { D with files := syncF nm D.files }) := by
  obtain ⟨v, xs, hd⟩ := h.dr
  have hlt := hasF_lt hh
  have hG : syncF nm D.files = D.files.set (fidx D.files nm) { D.files[fidx D.files nm] with safe := D.files[fidx D.files nm].b.length } := by
    unfold syncF; rw [set_modify hlt]
  rw [hG]
  have hwf := h.wf.set (fidx D.files nm) { D.files[fidx D.files nm] with safe := D.files[fidx D.files nm].b.length } hlt rfl (Nat.le_refl _) (by have := h.wf.used; simp; omega)
  have hltx : fidx D.files nm < xs.length := hd.rep.1 ▸ hlt
  have hr := hd.rep.get _ hltx hlt
  rcases hd.dv.shape with ⟨_, _, hf⟩ | ⟨g, c, rfl, h1, h2, hn, hgS⟩
  · rw [hf] at hlt; simp at hlt
  have hcs := (hn _ hltx).2.1
  have hcs2 := (hn _ hltx).2.2
  have hfl := hd.field rfl (Below.refl _ _) (fidx D.files nm) 2 (by omega) hltx hlt (.int .i64 (D.files[fidx D.files nm].b.length : Int)) { xs[fidx D.files nm] with safe := D.files[fidx D.files nm].b.length } { D.files[fidx D.files nm] with safe := D.files[fidx D.files nm].b.length } rfl ⟨hr.1, rfl, hr.2.2⟩
  obtain ⟨i, hi⟩ : ∃ i, fidx D.files nm = i := ⟨_, rfl⟩
  have hrd := hr.2.2
  have hc0 := hd.dcells.c0
  have hfz0 := hd.own.frozenAt (fidx D.files nm * 3 + 2)
  simp only [hi] at *
  obtain ⟨A1, c1, e1, hj⟩ := id hrd
  rw [e1] at hcs
  have HFL := Lib.hid hfl
  have HW := Lib.hid hwf
  have hgn1 : p ≠ g := fun e => hd.ne (by rw [e]; rfl)
  have hgn2 : ad ≠ g := fun e => hd2 (e ▸ hgS)
  clear hj e1 hrd hfl hwf hd hr hn hG h hh hi hgS
  have hx0 : (0 : Int) ≤ (i : Int) := Int.natCast_nonneg _
  have hx1 : (i : Int) < (xs.length : Int) := by omega
  go_enter Tryz.func130, Tryz.ntmps130
  go_wp2
  refine wp_region_noPanic ?_
  refine wp_region_held_drew (S := (fun w' => w'.cell? ⟨p, 0, none⟩ = some (.slice (some ⟨g, 0, none⟩) xs.length c) ∧ w'.cell? ⟨ad, 0, none⟩ = some (.pointer (some ⟨p, 0, none⟩)) ∧ w'.cell? ⟨g, i * 3 + 1, none⟩ = some (.slice A1 D.files[i].b.length c1))) (by kernel_rfl) ?_ (fun hHeld => ?_)
  · exact ⟨hc0, hd1, hcs⟩
  refine wpAnyH_take (i := 0) (oi := _) (v := ?_) rfl (by kernel_rfl) (by kernel_rfl) (by kernel_rfl) (fun _ _ _ h => h) (Or.inl ⟨by rfl, ?_⟩) (by assumption) ?_
  rotate_left
  · intro w hSw
    try dsimp only at hSw
    go_simp
    try with_reducible rfl
  try simp only [Act.put, List.setIfInBounds_toArray, List.set_cons_zero, List.set_cons_succ, List.getElem_toArray, List.getElem_cons_zero, List.getElem_cons_succ]
  refine wpAnyH_take (i := 1) (oi := _) (v := ?_) rfl (by kernel_rfl) (by kernel_rfl) (by kernel_rfl) (fun _ _ _ h => h) (Or.inl ⟨by rfl, ?_⟩) (by assumption) ?_
  rotate_left
  · intro w hSw
    try dsimp only at hSw
    go_simp
    try with_reducible rfl
  try simp only [Act.put, List.setIfInBounds_toArray, List.set_cons_zero, List.set_cons_succ, List.getElem_toArray, List.getElem_cons_zero, List.getElem_cons_succ]
  refine wpAnyH_take (i := 2) (oi := _) (v := ?_) rfl (by kernel_rfl) (by kernel_rfl) (by kernel_rfl) (fun _ _ _ h => h) (Or.inl ⟨by rfl, ?_⟩) (by assumption) ?_
  rotate_left
  · intro w hSw
    try dsimp only at hSw
    go_simp
    try with_reducible rfl
  try simp only [Act.put, List.setIfInBounds_toArray, List.set_cons_zero, List.set_cons_succ, List.getElem_toArray, List.getElem_cons_zero, List.getElem_cons_succ]
  refine wpAnyH_take (i := 3) (oi := _) (v := ?_) rfl (by kernel_rfl) (by kernel_rfl) (by kernel_rfl) (fun _ _ _ h => h) (Or.inl ⟨by rfl, ?_⟩) (by assumption) ?_
  rotate_left
  · intro w hSw
    try dsimp only at hSw
    go_simp
    try with_reducible rfl
  try simp only [Act.put, List.setIfInBounds_toArray, List.set_cons_zero, List.set_cons_succ, List.getElem_toArray, List.getElem_cons_zero, List.getElem_cons_succ]
  refine wpAnyH_take (i := 4) (oi := _) (v := ?_) rfl (by kernel_rfl) (by kernel_rfl) (by kernel_rfl) (fun _ _ _ h => h) (Or.inl ⟨by rfl, ?_⟩) (by assumption) ?_
  rotate_left
  · intro w hSw
    try dsimp only at hSw
    go_simp
    try with_reducible rfl
  try simp only [Act.put, List.setIfInBounds_toArray, List.set_cons_zero, List.set_cons_succ, List.getElem_toArray, List.getElem_cons_zero, List.getElem_cons_succ]
  refine wpAnyH_take (i := 5) (oi := _) (v := ?_) rfl (by kernel_rfl) (by kernel_rfl) (by kernel_rfl) (fun _ _ _ h => h) (Or.inl ⟨by rfl, ?_⟩) (by assumption) ?_
  rotate_left
  · intro w hSw
    try dsimp only at hSw
    go_simp
    try with_reducible rfl
  try simp only [Act.put, List.setIfInBounds_toArray, List.set_cons_zero, List.set_cons_succ, List.getElem_toArray, List.getElem_cons_zero, List.getElem_cons_succ]
  refine wpAnyH_take (i := 6) (oi := _) (v := ?_) rfl (by kernel_rfl) (by kernel_rfl) (by kernel_rfl) (fun _ _ _ h => h) (Or.inl ⟨by rfl, ?_⟩) (by assumption) ?_
  rotate_left
  · intro w hSw
    try dsimp only at hSw
    go_simp
    try with_reducible rfl
  try simp only [Act.put, List.setIfInBounds_toArray, List.set_cons_zero, List.set_cons_succ, List.getElem_toArray, List.getElem_cons_zero, List.getElem_cons_succ]
  refine wpAnyH_take (i := 7) (oi := _) (v := ?_) rfl (by kernel_rfl) (by kernel_rfl) (by kernel_rfl) (fun _ _ _ h => h) (Or.inl ⟨by rfl, ?_⟩) (by assumption) ?_
  rotate_left
  · intro w hSw
    try dsimp only at hSw
    go_simp
    try with_reducible rfl
  try simp only [Act.put, List.setIfInBounds_toArray, List.set_cons_zero, List.set_cons_succ, List.getElem_toArray, List.getElem_cons_zero, List.getElem_cons_succ]
  refine wpAnyH_take (i := 8) (oi := _) (v := ?_) rfl (by kernel_rfl) (by kernel_rfl) (by kernel_rfl) (fun _ _ _ h => h) (Or.inl ⟨by rfl, ?_⟩) (by assumption) ?_
  rotate_left
  · intro w hSw
    try dsimp only at hSw
    go_simp
    try with_reducible rfl
  try simp only [Act.put, List.setIfInBounds_toArray, List.set_cons_zero, List.set_cons_succ, List.getElem_toArray, List.getElem_cons_zero, List.getElem_cons_succ]
  refine wpAnyH_take (i := 9) (oi := _) (v := ?_) rfl (by kernel_rfl) (by kernel_rfl) (by kernel_rfl) (fun _ _ _ h => h) (Or.inl ⟨by rfl, ?_⟩) (by assumption) ?_
  rotate_left
  · intro w hSw
    try dsimp only at hSw
    go_simp
    try with_reducible rfl
  try simp only [Act.put, List.setIfInBounds_toArray, List.set_cons_zero, List.set_cons_succ, List.getElem_toArray, List.getElem_cons_zero, List.getElem_cons_succ]
  refine wpAnyH_take (i := 10) (oi := _) (v := ?_) rfl (by kernel_rfl) (by kernel_rfl) (by kernel_rfl) (fun _ _ _ h => h) (Or.inl ⟨by rfl, ?_⟩) (by assumption) ?_
  rotate_left
  · intro w hSw
    try dsimp only at hSw
    go_simp
    try with_reducible rfl
  try simp only [Act.put, List.setIfInBounds_toArray, List.set_cons_zero, List.set_cons_succ, List.getElem_toArray, List.getElem_cons_zero, List.getElem_cons_succ]
  refine wpAnyH_take (i := 11) (oi := _) (v := ?_) rfl (by kernel_rfl) (by kernel_rfl) (by kernel_rfl) (fun _ _ _ h => h) (Or.inl ⟨by rfl, ?_⟩) (by assumption) ?_
  rotate_left
  · intro w hSw
    try dsimp only at hSw
    go_simp
    try with_reducible rfl
  try simp only [Act.put, List.setIfInBounds_toArray, List.set_cons_zero, List.set_cons_succ, List.getElem_toArray, List.getElem_cons_zero, List.getElem_cons_succ]
  refine wpAnyH_take (i := 12) (oi := _) (v := ?_) rfl (by kernel_rfl) (by kernel_rfl) (by kernel_rfl) (fun _ _ _ h => h) (Or.inl ⟨by rfl, ?_⟩) (by assumption) ?_
  rotate_left
  · intro w hSw
    try dsimp only at hSw
    go_simp
    try with_reducible rfl
  try simp only [Act.put, List.setIfInBounds_toArray, List.set_cons_zero, List.set_cons_succ, List.getElem_toArray, List.getElem_cons_zero, List.getElem_cons_succ]
  refine wpAnyH_take (i := 13) (oi := _) (v := ?_) rfl (by kernel_rfl) (by kernel_rfl) (by kernel_rfl) (fun _ _ _ h => h) (Or.inl ⟨by rfl, ?_⟩) (by assumption) ?_
  rotate_left
  · intro w hSw
    try dsimp only at hSw
    go_simp
    try with_reducible rfl
  try simp only [Act.put, List.setIfInBounds_toArray, List.set_cons_zero, List.set_cons_succ, List.getElem_toArray, List.getElem_cons_zero, List.getElem_cons_succ]
  refine wpAnyH_take (i := 14) (oi := _) (v := ?_) rfl (by kernel_rfl) (by kernel_rfl) (by kernel_rfl) (fun _ _ _ h => h) (Or.inl ⟨by rfl, ?_⟩) (by assumption) ?_
  rotate_left
  · intro w hSw
    try dsimp only at hSw
    go_simp
    try with_reducible rfl
  try simp only [Act.put, List.setIfInBounds_toArray, List.set_cons_zero, List.set_cons_succ, List.getElem_toArray, List.getElem_cons_zero, List.getElem_cons_succ]
  refine wpAnyH_take (i := 15) (oi := _) (v := ?_) rfl (by kernel_rfl) (by kernel_rfl) (by kernel_rfl) (fun _ _ _ h => h) (Or.inl ⟨by rfl, ?_⟩) (by assumption) ?_
  rotate_left
  · intro w hSw
    try dsimp only at hSw
    go_simp
    try with_reducible rfl
  try simp only [Act.put, List.setIfInBounds_toArray, List.set_cons_zero, List.set_cons_succ, List.getElem_toArray, List.getElem_cons_zero, List.getElem_cons_succ]
  refine wpAnyH_ready (rs := [16]) (by kernel_rfl) (by simp) ?_
  refine AllReadyH.cons (o := _) rfl (fun K hK => ?_) AllReadyH.nil
  go_simp
  refine hK.out _ _ ?_ (fun hHeld => ?_)
  · exact ⟨cell_set1 hc0 hgn1, cell_set1 hd1 hgn2, (World.cell?_setCell_other _ _ _ _ (by simp)).trans hcs⟩
  clear hK K
  try simp only [Act.put, List.setIfInBounds_toArray, List.set_cons_zero, List.set_cons_succ, List.getElem_toArray, List.getElem_cons_zero, List.getElem_cons_succ]
  refine wpAnyH_done (by kernel_rfl) ?_ _
  refine NoPanic.normal ?_
  go_wp2
  refine bodyPost_ret (v := .tuple #[]) (by simp [results, Tryz.results130, go_sem]) rfl ?_
  exact ⟨S, rfl, (HFL.out.1.below (Below.refl _ _).drew).disk HW.out, HFL.out.2.drew, fun b hb => .inl hb⟩
theorem All2.eraseIdx {α β : Type} {R : α → β → Prop} {xs : List α} {ys : List β} (h : All2 R xs ys) (i : Nat) : All2 R (xs.eraseIdx i) (ys.eraseIdx i) := by
  rw [List.eraseIdx_eq_take_drop_succ, List.eraseIdx_eq_take_drop_succ]
  exact (h.take i).append (h.drop (i + 1))
theorem flat_erase (xs : List FV) (i : Nat) (h : i < xs.length) : (flat xs).take (i * 3) ++ (flat xs).drop ((i + 1) * 3) = flat (xs.eraseIdx i) := by
  have e : xs = xs.take (i + 1) ++ xs.drop (i + 1) := (List.take_append_drop _ _).symm
  have e2 : xs.take (i + 1) = xs.take i ++ [xs[i]] := List.take_succ_eq_append_getElem h
  have l1 : (flat (xs.take i)).length = i * 3 := by rw [flat_length, List.length_take]; omega
  have l2 : (flat (xs.take (i + 1))).length = (i + 1) * 3 := by rw [flat_length, List.length_take]; omega
  rw [List.eraseIdx_eq_take_drop_succ, flat_append]
  congr 1
  · conv => lhs; rw [e, e2, flat_append, flat_append]
    rw [List.take_append_of_le_length (by rw [List.length_append]; omega), List.take_append_of_le_length (by omega), List.take_of_length_le (by omega)]
  · conv => lhs; rw [e, flat_append]
    rw [List.drop_append_of_le_length (by omega), List.drop_eq_nil_of_le (by omega), List.nil_append]
structure DelFacts (w : World) (S : Nat → Prop) (p : Nat) (D : DState) (g c n : Nat) (i : Nat) (w1 : World) : Prop where
  cell : w1.cell? ⟨p, 0, none⟩ = some (.slice (some ⟨g, 0, none⟩) (n + 1) c)
  frz : w1.frozen? ⟨p, 0, none⟩ = false
  kp : Kp S w w1
  disk : Disk (w1.setCell ⟨p, 0, none⟩ (.slice (some ⟨g, 0, none⟩) n c)) S p { D with files := D.files.eraseIdx i }
  step : Kp S w (w1.setCell ⟨p, 0, none⟩ (.slice (some ⟨g, 0, none⟩) n c))
theorem delete_here (w : World) (S : Nat → Prop) (p : Nat) (D : DState) (g c n : Nat) (xs : List FV) (i : Nat) (hd : DR w S p D (.slice (some ⟨g, 0, none⟩) (n + 1) c) xs) (hw : D.WF) (hx : xs.length = n + 1) (hi : i ≤ n) :
    Calls Tryz.prog 129 #[.slice (some ⟨g, 0, none⟩) (n + 1) c, .int .i64 (i : Int), .int .i64 ((i : Int) + 1)] w.drew fun e w1 => e = .returned (.slice (some ⟨g, 0, none⟩) n c) ∧ DelFacts w S p D g c n i w1 := by
  have h1c : ∀ u ∈ flat xs, u.oneCell' = true := by
    intro u hu
    simp only [flat, List.mem_flatMap] at hu
    obtain ⟨x, hx, hu⟩ := hu
    obtain ⟨k, hk⟩ := List.getElem?_of_mem hx
    have hkx := (List.getElem?_eq_some_iff.1 hk).1
    have hr := hd.rep.get k hkx (hd.rep.1 ▸ hkx)
    rw [(List.getElem?_eq_some_iff.1 hk).2] at hr
    simp only [FV.cells, List.mem_cons, List.mem_nil_iff, or_false] at hu
    rcases hu with rfl | rfl | rfl
    · rfl
    · exact hr.2.2.one
    · rfl
  have ho := hd.own
  rw [hx] at ho
  have hq := hw.few
  have hq2 := hd.rep.1
  refine (delete_one w.drew g c n i (flat xs) hi ho h1c (by omega)).mono ?_
  rintro e w1 ⟨rfl, ho1, hg⟩
  have hg' : w.grownBy w1 (some g) := ⟨hg.os, hg.tape, hg.output, hg.size, hg.block⟩
  rw [flat_erase xs i (by omega)] at ho1
  have hxl : (xs.eraseIdx i).length = n := by rw [List.length_eraseIdx, if_pos (by omega)]; omega
  have hK : Kp S w w1 := (Kp.refl S w).grown hg' (fun k hk => .inl (hd.row k hk))
  have hne : p ≠ g := fun e => hd.ne (by rw [e]; rfl)
  have hS' : ∀ b, (S b ∨ some g = some b) → S b := by
    rintro b (hb | hb)
    · exact hb
    · exact hd.row b hb
  have hr : All2 (FRep w1 (fun b => S b ∨ some g = some b)) (xs.eraseIdx i) (D.files.eraseIdx i) :=
    (hd.rep.imp fun x f ⟨a, b, c⟩ => ⟨a, b, c.kp hK (fun b hb => .inl (hS' b hb))⟩ : All2 (FRep w1 (fun b => S b ∨ some g = some b)) xs D.files).eraseIdx i
  have hp := hd.put (v' := .slice (some ⟨g, 0, none⟩) n c) hg' (by rw [hxl]; exact ho1) (.inl rfl) hr
  have hSS : (fun b => S b ∨ (Value.slice (some ⟨g, 0, none⟩) n c).ownBlock = some b) = S := by
    funext b; exact propext ⟨hS' b, .inl⟩
  rw [hSS] at hp
  refine ⟨rfl, ?_, ?_, hK, hp.1.disk (hw.erase i), hp.2.kp⟩
  · exact (World.cell?_of_block (hg'.block p hd.lt (fun e => hne (Option.some.inj e)))).trans hd.dcells.c0
  · exact (World.frozen?_of_block (hg'.block p hd.lt (fun e => hne (Option.some.inj e)))).trans (hd.dcells.fz 0)
set_option maxHeartbeats 2000000 in
theorem rem1_any (w : World) (S : Nat → Prop) (p : Nat) (D : DState) (nm : ByteArray) (ad : Nat) (h : Disk w S p D) (hd1 : w.cell? ⟨ad, 0, none⟩ = some (.pointer (some ⟨p, 0, none⟩))) (hd2 : ¬ S ad) (hh : hasF D.files nm = true) :
    Calls Tryz.prog 128 #[.int .i64 (fidx D.files nm : Nat), .pointer (some ⟨ad, 0, none⟩)] w (DoPost w S p { D with files := remF nm D.files }) := by
  obtain ⟨v, xs, hd⟩ := h.dr
  have hlt := hasF_lt hh
  have hltx : fidx D.files nm < xs.length := hd.rep.1 ▸ hlt
  rcases hd.dv.shape with ⟨_, _, hf⟩ | ⟨g, c, rfl, h1, h2, hn, hgS⟩
  · rw [hf] at hlt; simp at hlt
  obtain ⟨n, hx⟩ : ∃ n, xs.length = n + 1 := ⟨xs.length - 1, by omega⟩
  rw [hx] at hd
  have HDel := Lib.hid (delete_here w S p D g c n xs (fidx D.files nm) hd h.wf hx (by omega))
  have hc0 := hd.dcells.c0
  have hds : ad ≠ p := fun e => hd2 (e ▸ hd.mine)
  unfold remF
  obtain ⟨i, hi⟩ : ∃ i, fidx D.files nm = i := ⟨_, rfl⟩
  have hi0 : (i : Int) + 1 ≤ 9223372036854775807 := by have := h.wf.few; have := hd.rep.1; omega
  simp only [hi] at *
  have hw1 : IntKind.i64.wrap ((i : Int) + 1) = (i : Int) + 1 := by rw [IntKind.wrap_i64]; omega
  clear hi hx hltx hlt hh h hd hn hgS h1 h2
  go_enter Tryz.func128, Tryz.ntmps128
  go_wp2
  refine wp_region_noPanic ?_
  refine wp_region_held_drew (S := (fun w' => w'.cell? ⟨ad, 0, none⟩ = some (.pointer (some ⟨p, 0, none⟩)))) (by kernel_rfl) ?_ (fun hHeld => ?_)
  · exact hd1
  refine wpAnyH_take (i := 0) (oi := _) (v := ?_) rfl (by kernel_rfl) (by kernel_rfl) (by kernel_rfl) (fun _ _ _ h => h) (Or.inl ⟨by rfl, ?_⟩) (by assumption) ?_
  rotate_left
  · intro w hSw
    try dsimp only at hSw
    go_simp
    try with_reducible rfl
  try simp only [Act.put, List.setIfInBounds_toArray, List.set_cons_zero, List.set_cons_succ, List.getElem_toArray, List.getElem_cons_zero, List.getElem_cons_succ]
  refine wpAnyH_take (i := 1) (oi := _) (v := ?_) rfl (by kernel_rfl) (by kernel_rfl) (by kernel_rfl) (fun _ _ _ h => h) (Or.inl ⟨by rfl, ?_⟩) (by assumption) ?_
  rotate_left
  · intro w hSw
    try dsimp only at hSw
    go_simp
    try with_reducible rfl
  try simp only [Act.put, List.setIfInBounds_toArray, List.set_cons_zero, List.set_cons_succ, List.getElem_toArray, List.getElem_cons_zero, List.getElem_cons_succ]
  refine wpAnyH_take (i := 2) (oi := _) (v := ?_) rfl (by kernel_rfl) (by kernel_rfl) (by kernel_rfl) (fun _ _ _ h => h) (Or.inl ⟨by rfl, ?_⟩) (by assumption) ?_
  rotate_left
  · intro w hSw
    try dsimp only at hSw
    go_simp
    try with_reducible rfl
  try simp only [Act.put, List.setIfInBounds_toArray, List.set_cons_zero, List.set_cons_succ, List.getElem_toArray, List.getElem_cons_zero, List.getElem_cons_succ]
  refine wpAnyH_take (i := 3) (oi := _) (v := ?_) rfl (by kernel_rfl) (by kernel_rfl) (by kernel_rfl) (fun _ _ _ h => h) (Or.inl ⟨by rfl, ?_⟩) (by assumption) ?_
  rotate_left
  · intro w hSw
    try dsimp only at hSw
    go_simp
    try with_reducible rfl
  try simp only [Act.put, List.setIfInBounds_toArray, List.set_cons_zero, List.set_cons_succ, List.getElem_toArray, List.getElem_cons_zero, List.getElem_cons_succ]
  refine wpAnyH_take (i := 5) (oi := _) (v := ?_) rfl (by kernel_rfl) (by kernel_rfl) (by kernel_rfl) (fun _ _ _ h => h) (Or.inl ⟨by rfl, ?_⟩) (by assumption) ?_
  rotate_left
  · intro w hSw
    try dsimp only at hSw
    go_simp
    try with_reducible rfl
  try simp only [Act.put, List.setIfInBounds_toArray, List.set_cons_zero, List.set_cons_succ, List.getElem_toArray, List.getElem_cons_zero, List.getElem_cons_succ]
  refine wpAnyH_take (i := 6) (oi := _) (v := ?_) rfl (by kernel_rfl) (by kernel_rfl) (by kernel_rfl) (fun _ _ _ h => h) (Or.inl ⟨by rfl, ?_⟩) (by assumption) ?_
  rotate_left
  · intro w hSw
    try dsimp only at hSw
    go_simp
    try with_reducible rfl
  try simp only [Act.put, List.setIfInBounds_toArray, List.set_cons_zero, List.set_cons_succ, List.getElem_toArray, List.getElem_cons_zero, List.getElem_cons_succ]
  refine wpAnyH_take (i := 7) (oi := _) (v := ?_) rfl (by kernel_rfl) (by kernel_rfl) (by kernel_rfl) (fun _ _ _ h => h) (Or.inl ⟨by rfl, ?_⟩) (by assumption) ?_
  rotate_left
  · intro w hSw
    try dsimp only at hSw
    go_simp
    try with_reducible rfl
  try simp only [Act.put, List.setIfInBounds_toArray, List.set_cons_zero, List.set_cons_succ, List.getElem_toArray, List.getElem_cons_zero, List.getElem_cons_succ]
  refine wpAnyH_ready (rs := [4]) (by kernel_rfl) (by simp) ?_
  refine AllReadyH.cons (o := _) rfl (fun K hK => ?_) AllReadyH.nil
  go_simp
  refine hK.out _ _ ?_ (fun hHeld => ?_)
  · exact hd1
  clear hK K
  try simp only [Act.put, List.setIfInBounds_toArray, List.set_cons_zero, List.set_cons_succ, List.getElem_toArray, List.getElem_cons_zero, List.getElem_cons_succ]
  refine wpAnyH_ready (rs := [8]) (by kernel_rfl) (by simp) ?_
  refine AllReadyH.cons (o := _) rfl (fun K hK => ?_) AllReadyH.nil
  go_simp
  go_at_call 129
  refine HDel.out.mono ?_
  rintro e w1 ⟨rfl, hf⟩
  have hq0 := hf.cell
  have hq1 := hf.frz
  have hq2 := hf.kp.cell hd1 hd2
  have HF := Lib.hid hf
  clear hf
  go_wp2
  refine hK.out _ _ ?_ (fun hHeld => ?_)
  · exact hq2
  clear hK K
  try simp only [Act.put, List.setIfInBounds_toArray, List.set_cons_zero, List.set_cons_succ, List.getElem_toArray, List.getElem_cons_zero, List.getElem_cons_succ]
  refine wpAnyH_take (i := 9) (oi := _) (v := ?_) rfl (by kernel_rfl) (by kernel_rfl) (by kernel_rfl) (fun _ _ _ h => h) (Or.inl ⟨by rfl, ?_⟩) (by assumption) ?_
  rotate_left
  · intro w hSw
    try dsimp only at hSw
    go_simp
    try with_reducible rfl
  try simp only [Act.put, List.setIfInBounds_toArray, List.set_cons_zero, List.set_cons_succ, List.getElem_toArray, List.getElem_cons_zero, List.getElem_cons_succ]
  refine wpAnyH_take (i := 10) (oi := _) (v := ?_) rfl (by kernel_rfl) (by kernel_rfl) (by kernel_rfl) (fun _ _ _ h => h) (Or.inl ⟨by rfl, ?_⟩) (by assumption) ?_
  rotate_left
  · intro w hSw
    try dsimp only at hSw
    go_simp
    try with_reducible rfl
  try simp only [Act.put, List.setIfInBounds_toArray, List.set_cons_zero, List.set_cons_succ, List.getElem_toArray, List.getElem_cons_zero, List.getElem_cons_succ]
  refine wpAnyH_ready (rs := [11]) (by kernel_rfl) (by simp) ?_
  refine AllReadyH.cons (o := _) rfl (fun K hK => ?_) AllReadyH.nil
  go_simp
  refine hK.out _ _ ?_ (fun hHeld => ?_)
  · exact cell_set1 hq2 hds
  clear hK K
  try simp only [Act.put, List.setIfInBounds_toArray, List.set_cons_zero, List.set_cons_succ, List.getElem_toArray, List.getElem_cons_zero, List.getElem_cons_succ]
  refine wpAnyH_done (by kernel_rfl) ?_ _
  refine NoPanic.normal ?_
  go_wp2
  refine bodyPost_ret (v := .tuple #[]) (by simp [results, Tryz.results128, go_sem]) rfl ?_
  exact ⟨S, rfl, HF.out.disk, HF.out.step, fun b hb => .inl hb⟩
theorem DState.ofD_sync (D : DState) (nm : ByteArray) : D.ofD nm 0 (syncF nm) = D.sync nm := by simp [DState.ofD, DState.sync]
theorem DState.ofD_rem (D : DState) (nm : ByteArray) : D.ofD nm 0 (remF nm) = D.remove nm := by simp [DState.ofD, DState.remove]
theorem DeedPost.from {w w1 : World} {S : Nat → Prop} {p : Nat} {D : DState} {er : Int} {e : Ending} {w' : World} (h : DeedPost w1 S p D er e w') (hB : Below w.heap.size w w1) : DeedPost w S p D er e w' := by
  obtain ⟨S', rfl, hd, hs⟩ := h
  exact ⟨S', rfl, hd, ⟨(Kp.ofBelow hB S).trans hs.kp (fun _ h => .inl h), fun b hb => (hs.fresh b hb).imp id (fun h2 => Nat.le_trans hB.size h2)⟩⟩
theorem sync_any (w : World) (S : Nat → Prop) (p : Nat) (D : DState) (nm : ByteArray) (h : Disk w S p D) :
    Calls Tryz.prog 68 #[.pointer (some ⟨p, 0, none⟩), .string nm] w (DeedPost w S p (D.sync nm).1 (D.sync nm).2) := by
  have hB := (Below.refl w.heap.size w).alloc (Nat.le_refl _) (.cells #[.pointer (some ⟨p, 0, none⟩)] 24)
  have hS : ¬ S w.heap.size := fun hs => Nat.lt_irrefl _ (h.foot _ hs)
  have hc := cell_new w (.pointer (some ⟨p, 0, none⟩)) 24
  have hd := h.below hB
  have C := of_any (w.alloc (.cells #[.pointer (some ⟨p, 0, none⟩)] 24)) S p D nm 127 #[] 130 #[.pointer (some ⟨w.heap.size, 0, none⟩)] 0 (syncF nm) hd
    ⟨eg_always, eg_sync1, fun wx A c _ => always_any wx _ A _ c _, fun w1 D1 hf hr h1 hk hh _ => by
      have := sync1_any w1 S p D1 nm w.heap.size h1 (hk.cell hc hS) hS (by rw [hf]; exact hh)
      rw [hf] at this ⊢
      exact this⟩ (by omega)
  rw [DState.ofD_sync] at C
  have HC := Lib.hid C
  have HB := Lib.hid hB
  clear C hB h hd hS hc
  go_enter Tryz.func68, Tryz.ntmps68
  go_wp2_with (go_at_call 119; refine HC.out.mono ?_; rintro e w' hp; have HP := hp.from HB.out; obtain ⟨S', rfl, hq⟩ := hp)
  go_ret
  exact HP
theorem remove_any (w : World) (S : Nat → Prop) (p : Nat) (D : DState) (nm : ByteArray) (h : Disk w S p D) :
    Calls Tryz.prog 66 #[.pointer (some ⟨p, 0, none⟩), .string nm] w (DeedPost w S p (D.remove nm).1 (D.remove nm).2) := by
  have hB := (Below.refl w.heap.size w).alloc (Nat.le_refl _) (.cells #[.pointer (some ⟨p, 0, none⟩)] 24)
  have hS : ¬ S w.heap.size := fun hs => Nat.lt_irrefl _ (h.foot _ hs)
  have hc := cell_new w (.pointer (some ⟨p, 0, none⟩)) 24
  have hd := h.below hB
  have C := of_any (w.alloc (.cells #[.pointer (some ⟨p, 0, none⟩)] 24)) S p D nm 127 #[] 128 #[.pointer (some ⟨w.heap.size, 0, none⟩)] 0 (remF nm) hd
    ⟨eg_always, eg_rem1, fun wx A c _ => always_any wx _ A _ c _, fun w1 D1 hf hr h1 hk hh _ => by
      have := rem1_any w1 S p D1 nm w.heap.size h1 (hk.cell hc hS) hS (by rw [hf]; exact hh)
      rw [hf] at this ⊢
      exact this⟩ (by omega)
  rw [DState.ofD_rem] at C
  have HC := Lib.hid C
  have HB := Lib.hid hB
  clear C hB h hd hS hc
  go_enter Tryz.func66, Tryz.ntmps66
  go_wp2_with (go_at_call 119; refine HC.out.mono ?_; rintro e w' hp; have HP := hp.from HB.out; obtain ⟨S', rfl, hq⟩ := hp)
  go_ret
  exact HP
end Go.Proofs.YtohpgipgfmkflaaGreatDoor
namespace Go.Proofs.YtohpgipgfmkflaaGreatDoor
set_option linter.unusedSectionVars false
variable [Base]
open Go.RowKit
set_option maxRecDepth 100000
set_option linter.unusedVariables false
set_option linter.unusedSimpArgs false
attribute [local go_sem ↓] Go.wp_at_zero Go.wp_at_succ

theorem infoS : (Tryz.prog.info? 9).map (fun i => (i.zero, i.size, i.bytes)) = some (some (.string ⟨#[]⟩), 1, 16) := by kernel_rfl
/-- Texts as cells. -/
def sv (l : List ByteArray) : List Value := l.map .string
theorem sv_length (l : List ByteArray) : (sv l).length = l.length := by simp [sv]
theorem sv_append (l m : List ByteArray) : sv (l ++ m) = sv l ++ sv m := by simp [sv]
theorem sv_one (l : List ByteArray) : ∀ u ∈ sv l, u.oneCell' = true := by
  intro u hu; simp only [sv, List.mem_map] at hu; obtain ⟨b, _, rfl⟩ := hu; rfl
/-- v is a []string that reads l. -/
def RdT (w : World) (v : Value) (l : List ByteArray) : Prop :=
  ∃ A c, v = .slice A l.length c ∧ l.length ≤ c ∧ c ≤ 9223372036854775807 ∧ ∀ j (hj : j < l.length), ∃ g o, A = some ⟨g, o, none⟩ ∧ w.cell? ⟨g, o + j, none⟩ = some (.string l[j])
theorem RdT.below {w w1 : World} {v : Value} {l : List ByteArray} (h : RdT w v l) (k : Below w.heap.size w w1) : RdT w1 v l := by
  obtain ⟨A, c, rfl, h1, h2, hc⟩ := h
  refine ⟨A, c, rfl, h1, h2, fun j hj => ?_⟩
  obtain ⟨g, o, e, hcell⟩ := hc j hj
  exact ⟨g, o, e, (k.cell (p := ⟨g, o + j, none⟩) (World.block_lt_of_cell? w _ hcell)).trans hcell⟩
theorem RdT.ofOwn {w : World} {base n : Nat} {v : Value} {l : List ByteArray} (h : w.ownsRow base 9 1 v n (sv l)) : RdT w v l := by
  have hl : l.length = n := by have := h.1; simp [sv_length] at this; exact this
  subst hl
  rcases h.2 with ⟨rfl, h0⟩ | ⟨g, cap, cur, rfl, hb, hh, h1, h2, h3, h4⟩
  · exact ⟨none, 0, by rw [h0], by omega, by omega, fun j hj => by omega⟩
  · refine ⟨_, cap, rfl, h1, h2, fun j hj => ⟨g, 0, rfl, ?_⟩⟩
    have := h.cells (g := g) rfl j (.string l[j]) (by simp [sv, List.getElem?_eq_getElem hj])
    rw [Nat.zero_add]
    rwa [addr_add, Nat.zero_add] at this
def OwnT (w : World) (l : List ByteArray) (e : Ending) (w' : World) : Prop :=
  ∃ v', e = .returned v' ∧ w'.ownsRow w.heap.size 9 1 v' l.length (sv l) ∧ Below w.heap.size w w'
theorem madeS (n : Nat) : (madeCells (Value.string ⟨#[]⟩).cells (n * 1)).toList = List.replicate n (.string ⟨#[]⟩) := by rw [Nat.mul_one]; exact toList_madeCells_one _ n
set_option maxHeartbeats 2000000 in
theorem list_any (w : World) (S : Nat → Prop) (p : Nat) (D : DState) (h : Disk w S p D) :
    Calls Tryz.prog 31 #[.pointer (some ⟨p, 0, none⟩)] w (OwnT w D.names) := by
  obtain ⟨v, xs, hv⟩ := h.open_
  obtain ⟨i0, hi, hz0, hz1, hz2⟩ := info_parts infoS
  have hz0' : i0.zero = some (.string ⟨#[]⟩) := hz0
  have hc0 := hv.cells.c0
  have hc4 := hv.cells.c4
  have hp : p < w.heap.size := h.foot p h.mine
  have hfew := h.wf.few
  have hlen : xs.length = D.files.length := hv.rep.1
  have hnl : xs.length ≤ 200 := by omega
  have HN := Lib.hid (show D.names = xs.map (·.name) from by
    unfold DState.names
    apply List.ext_getElem?
    intro j
    rw [List.getElem?_map, List.getElem?_map]
    rcases Nat.lt_or_ge j xs.length with hj | hj
    · have := hv.rep.get j hj (by omega)
      rw [List.getElem?_eq_getElem hj, List.getElem?_eq_getElem (by omega)]
      simp [this.1]
    · rw [List.getElem?_eq_none hj, List.getElem?_eq_none (by omega)]
      rfl)
  obtain ⟨A1, c1, ev, hsh⟩ : ∃ A c, v = .slice A xs.length c ∧ (xs.length = 0 ∨ ∃ g, A = some ⟨g, 0, none⟩ ∧ NamesAt w g xs) := by
    rcases hv.shape with ⟨e, h0, _⟩ | ⟨g, c, e, _, _, hn, _⟩
    · exact ⟨none, 0, by rw [e, h0]; rfl, .inl (by rw [h0]; rfl)⟩
    · exact ⟨_, c, e, .inr ⟨g, rfl, hn⟩⟩
  subst ev
  have HR := Lib.hid hv.rep
  have HSh := Lib.hid hsh
  obtain ⟨n, hn⟩ : ∃ n, n = xs.length := ⟨_, rfl⟩
  rw [← hn] at hc0 hnl
  have HNn := Lib.hid hn
  clear hv h hfew hlen hz0 hsh hn
  go_enter Tryz.func31, Tryz.ntmps31
  go_wp2_with (first | (go_at_call 94; refine (made_yes _ _ hc4).mono ?_; rintro e w' ⟨rfl, rfl⟩) | (at_make; refine wpList_make_full _ rfl _ _ 32 rfl w.heap.size 9 i0 (.string ⟨#[]⟩) 1 Tryz.underlying32 hi hz0' hz1 .i64 .i64 _ _ n rfl rfl rfl rfl (by rw [hz2]; omega) (by unfold maxLen; omega) (Nat.le_refl _) ?_; intro wm hm hg; have hbm : Below w.heap.size w wm := (Below.refl _ _).grown hg (Nat.le_refl _) (by simp); have hcm := (hbm.cell (p := ⟨p, 0, none⟩) hp).trans hc0))
  rw [madeS] at hm
  obtain ⟨G, hG⟩ : ∃ G, G = w.heap.size := ⟨_, rfl⟩
  have HGe := Lib.hid hG
  rw [← hG] at hm hbm hp
  simp only [← hG]
  clear hG hg
  go_loopw [4, 5, 20] (fun j f i wr => ∃ k : Nat, k ≤ n ∧ i = .int .i64 k ∧ Below G w wr ∧ G < wr.heap.size ∧ wr.ownsRow G 9 1 (.slice (some ⟨G, 0, none⟩) n n) n (sv ((xs.map (·.name)).take k) ++ List.replicate (n - k) (.string ⟨#[]⟩))) (fun j f i wr => n - (intOf i).toNat)
  case atStart => exact ⟨0, Nat.zero_le _, rfl, hbm, (hm.lt G rfl).2, by simpa [sv] using hm⟩
  case round =>
    obtain ⟨k, hk, rfl, hbel, hgs, how⟩ := hrel
    by_cases hlt : k < n
    · have hkx : k < xs.length := by have := HNn.out; omega
      rcases HSh.out with h0 | ⟨g, rfl, hns⟩
      · omega
      have hgp : g < w.heap.size := World.block_lt_of_cell? w _ (hns k hkx).1
      have hcs := hns.below (HGe.out ▸ hbel) k hkx
      have hr := HR.out.get k hkx (by have := HR.out.1; omega)
      obtain ⟨A, cc, ev, hjunk⟩ := hr.2.2
      rw [ev] at hcs
      have hq0 := hcs.1
      have hq1 := hcs.2.1
      have hq2 := hcs.2.2
      have hcl : (sv ((xs.map (·.name)).take k) ++ List.replicate (n - k) (.string ⟨#[]⟩))[k]? = some (.string ⟨#[]⟩) := by
        have hl : (sv ((xs.map (·.name)).take k)).length = k := by simp [sv]; omega
        rw [List.getElem?_append_right (by omega), hl, Nat.sub_self, show n - k = (n - (k + 1)) + 1 by omega, List.replicate_succ]
        rfl
      have hco := (how.cellAt k (by omega)).trans hcl
      have hfo := how.frozenAt k
      have hx1 : (k : Int) < (n : Int) := by omega
      have hst := fun o : Obj => ((how.stored k (.string xs[k].name)).1).alloc o
      have hset : (sv ((xs.map (·.name)).take k) ++ List.replicate (n - k) (Value.string ⟨#[]⟩)).set k (.string xs[k].name) = sv ((xs.map (·.name)).take (k + 1)) ++ List.replicate (n - (k + 1)) (.string ⟨#[]⟩) := by
        have hl : (sv ((xs.map (·.name)).take k)).length = k := by simp [sv]; omega
        rw [List.set_append_right _ _ (by omega), hl, Nat.sub_self, show n - k = (n - (k + 1)) + 1 by omega, List.replicate_succ, List.set_cons_zero, List.take_succ_eq_append_getElem (by simpa using hkx), sv_append, List.append_assoc]
        simp [sv]
      rw [hset] at hst
      have HST := Lib.hid hst
      have hA1 := (fun o => cell_alloc hco o)
      have hA2 := (fun o => (frz_alloc (a := ⟨G, k, none⟩) o hgs).trans hfo)
      clear hjunk ev hr hcs hns hset hst hco hfo hcl how
      go_wp2
      go_roundw
      case rel =>
        exact ⟨k + 1, by omega, by go_num, (hbel.setCell (Nat.le_refl _) _).alloc (by simp [World.setCell]; omega) _, by simp [World.setCell]; omega, HST.out _⟩
      case measure => simp [intOf]; omega
    · obtain rfl : k = n := by omega
      go_wp2
      go_ret
      have hnn := HNn.out
      refine ⟨_, rfl, ?_, HGe.out ▸ hbel⟩
      rw [HN.out, ← HGe.out]
      rw [Nat.sub_self, List.replicate_zero, List.append_nil, List.take_of_length_le (by simp; omega)] at how
      rw [List.length_map, ← hnn]
      exact how
theorem arm_any (w : World) (S : Nat → Prop) (p : Nat) (D : DState) (n : Int) (hn : n ≤ 9223372036854775807) (h : Disk w S p D) :
    Calls Tryz.prog 29 #[.pointer (some ⟨p, 0, none⟩), .int .i64 n] w (DoPost w S p (D.arm n)) := by
  obtain ⟨v, xs, hv⟩ := h.open_
  have hc2 := hv.cells.c2
  have hc3 := hv.cells.c3
  have hc4 := hv.cells.c4
  have hfz := hv.cells.fz
  cases hd : D.dark with
  | true =>
    have HR := Lib.hid (show D.arm n = D by simp [DState.arm, hd])
    have HH := Lib.hid h
    rw [hd] at hc3
    clear h hv hd
    go_enter Tryz.func29, Tryz.ntmps29
    go_wp2_with (go_at_call 93; refine (lit_yes _ true _ hc4 hc3).mono ?_; rintro e w' ⟨rfl, rfl⟩)
    refine bodyPost_ret (v := .tuple #[]) (by simp [results, Tryz.results29, go_sem]) rfl ?_
    rw [HR.out]
    exact ⟨S, rfl, HH.out, Step.refl S w⟩
  | false =>
    have HR := Lib.hid (show D.arm n = { D with fuse := max 0 n } by simp [DState.arm, hd])
    have HS := Lib.hid (h.store (D' := { D with fuse := max 0 n }) 2 (.int .i64 (max 0 n)) ⟨h.wf.sorted, h.wf.few, h.wf.used, h.wf.room, h.wf.safe, by simp only []; omega⟩ rfl (fun v => rfl))
    rw [hd] at hc3
    clear h hv hd
    go_enter Tryz.func29, Tryz.ntmps29
    go_wp2_with (go_at_call 93; refine (lit_yes _ false _ hc4 hc3).mono ?_; rintro e w' ⟨rfl, rfl⟩)
    refine bodyPost_ret (v := .tuple #[]) (by simp [results, Tryz.results29, go_sem]) rfl ?_
    rw [HR.out]
    exact ⟨S, rfl, HS.out.1, ⟨HS.out.2, fun _ h => .inl h⟩⟩
end Go.Proofs.YtohpgipgfmkflaaGreatDoor
namespace Go.Proofs.YtohpgipgfmkflaaGreatDoor
set_option linter.unusedSectionVars false
variable [Base]
open Go.RowKit
set_option maxRecDepth 100000
set_option linter.unusedVariables false
set_option linter.unusedSimpArgs false
attribute [local go_sem ↓] Go.wp_at_zero Go.wp_at_succ

theorem push_any (w : World) (r : Nat) (x : UInt8) (hr : r < 4294967296) :
    Calls Tryz.prog 190 #[.int .u32 (r : Int), .int .u8 (x.toNat : Int)] w fun e w' => e = .returned (.int .u32 (pushN r x : Nat)) ∧ w = w' := by
  have hx := x.toNat_lt
  have hb0 : bits .xor .u32 (r : Int) (x.toNat : Int) = ((r ^^^ x.toNat : Nat) : Int) := u32_xor_nat r x.toNat hr (by omega)
  have hlt0 : r ^^^ x.toNat < 4294967296 := Nat.xor_lt_two_pow (n := 32) (by omega) (by omega)
  have HP := Lib.hid (show pushN r x = iterN 8 (r ^^^ x.toNat) from rfl)
  obtain ⟨q, hq⟩ : ∃ q, r ^^^ x.toNat = q := ⟨_, rfl⟩
  rw [hq] at hb0 hlt0 HP
  have HL := Lib.hid hlt0
  clear hq hlt0
  go_enter Tryz.func190, Tryz.ntmps190
  go_wp2
  go_loop [0, 5, 10] (fun a b i => ∃ k r' : Nat, k ≤ 8 ∧ i = .int .i64 k ∧ a = .int .u32 (r' : Int) ∧ r' < 4294967296 ∧ Hid (iterN (8 - k) r' = iterN 8 q)) (fun a b i => 8 - (intOf i).toNat)
  case atStart => exact ⟨0, q, by omega, rfl, rfl, HL.out, Lib.hid rfl⟩
  case round =>
    obtain ⟨k, r', hk, rfl, rfl, hr', HI⟩ := hrel
    by_cases hlt : k < 8
    · have ha : bits .and .u32 (r' : Int) 1 = ((r' % 2 : Nat) : Int) := by rw [← Nat.and_one_is_mod]; exact u32_and_nat r' 1 hr' (by omega)
      have hn : Hid (iterN (8 - k) r' = iterN (8 - (k + 1)) (stepN r')) := Lib.hid (by rw [show 8 - k = (8 - (k + 1)) + 1 by omega]; rfl)
      have hsl := Lib.hid (stepN_lt hr')
      have HR := Lib.hid hr'
      by_cases h2 : r' % 2 = 1
      · have hs : Hid (stepN r' = (r' / 2) ^^^ 3988292384) := Lib.hid (by unfold stepN; rw [if_pos h2])
        have hx2 : bits .xor .u32 ((r' : Int) / 2) 3988292384 = (((r' / 2) ^^^ 3988292384 : Nat) : Int) := by
          have := u32_xor_nat (r' / 2) 3988292384 (by omega) (by omega)
          simpa using this
        have ht : (((r' % 2 : Nat) : Int) == 1) = true := by rw [h2]; rfl
        clear h2 hr'
        go_wp2
        refine ⟨⟨k + 1, stepN r', by omega, by go_num, ?_, hsl.out, Lib.hid (hn.out.symm.trans HI.out)⟩, by simp [intOf]; omega⟩
        rw [hs.out]
      · have hs : Hid (stepN r' = r' / 2) := Lib.hid (by unfold stepN; rw [if_neg h2])
        have ht : (((r' % 2 : Nat) : Int) == 1) = false := by simp; omega
        clear h2 hr'
        go_wp2
        refine ⟨⟨k + 1, stepN r', by omega, by go_num, ?_, hsl.out, Lib.hid (hn.out.symm.trans HI.out)⟩, by simp [intOf]; omega⟩
        rw [hs.out]
        simp
    · obtain rfl : k = 8 := by omega
      go_wp2
      go_ret
      have h1 := HI.out
      have h2 := HP.out
      rw [h2, ← h1]
      exact ⟨rfl, rfl⟩
set_option maxHeartbeats 2000000 in
theorem crc_any (w : World) (S : Nat → Prop) (v : Value) (l : List UInt8) (h : RdB w S v l) :
    Calls Tryz.prog 174 #[v] w fun e w' => e = .returned (.int .u32 (crcN l : Nat)) ∧ w = w' := by
  obtain ⟨A, c, rfl, h1, h2, hc⟩ := id h
  have HC := Lib.hid hc
  have hn : l.length ≤ 9223372036854775807 := Nat.le_trans h1.1 h2
  clear hc h h1
  go_enter Tryz.func174, Tryz.ntmps174
  go_wp2
  go_loop [3, 5, 8] (fun r x i => ∃ k q : Nat, k ≤ l.length ∧ i = .int .i64 k ∧ r = .int .u32 (q : Int) ∧ q < 4294967296 ∧ Hid (q = (l.take k).foldl pushN 4294967295)) (fun r x i => l.length - (intOf i).toNat)
  case atStart => exact ⟨0, 4294967295, by omega, rfl, rfl, by omega, Lib.hid rfl⟩
  case round =>
    obtain ⟨k, q, hk, rfl, rfl, hq, HQ⟩ := hrel
    by_cases hlt : k < l.length
    · obtain ⟨g, o, rfl, _, hcell⟩ := HC.out k hlt
      have hx1 : (k : Int) < (l.length : Int) := by omega
      obtain ⟨x, hx⟩ : ∃ x, l.getD k 0 = x := ⟨_, rfl⟩
      rw [hx] at hcell
      have HX := Lib.hid hx
      have HL := Lib.hid (pushN_lt x hq)
      have HP := Lib.hid (push_any w q x hq)
      clear hx hq
      go_wp2_with (go_at_call 190; refine HP.out.mono ?_; rintro e w' ⟨rfl, rfl⟩)
      refine ⟨⟨k + 1, pushN q x, by omega, by go_num, rfl, HL.out, Lib.hid ?_⟩, by simp [intOf]; omega⟩
      have h1 := HX.out
      rw [List.getD_eq_getElem?_getD, List.getElem?_eq_getElem hlt] at h1
      simp only [Option.getD_some] at h1
      rw [List.take_succ_eq_append_getElem hlt, List.foldl_append, ← HQ.out, h1]
      rfl
    · obtain rfl : k = l.length := by omega
      have hcr : Hid (crcN l = 4294967295 ^^^ q) := Lib.hid (by have := HQ.out; rw [List.take_of_length_le (Nat.le_refl _)] at this; rw [this]; rfl)
      go_wp2
      go_ret
      rw [hcr.out]
      have hm := u32_xor_nat 4294967295 q (by omega) hq
      exact ⟨congrArg (fun z : Int => Ending.returned (.int .u32 z)) hm, rfl⟩
theorem byte_eq (a : Nat) : ((UInt8.ofNat a).toNat : Int) = (a : Int) % 256 := by
  simp [UInt8.toNat_ofNat']
set_option maxHeartbeats 2000000 in
theorem sum_any (w : World) (S : Nat → Prop) (v : Value) (l : List UInt8) (h : RdB w S v l) :
    Calls Tryz.prog 150 #[v] w fun e w' => e = .returned (.slice (some ⟨w.heap.size, 0, none⟩) 4 4) ∧ w' = w.alloc (.cells (bv (sumB l)).toArray 5) := by
  obtain ⟨A, c, rfl, _⟩ := id h
  have HC := Lib.hid (crc_any w S _ l h)
  have hq := crcN_lt l
  have HS := Lib.hid (show sumB l = [UInt8.ofNat (crcN l / 16777216), UInt8.ofNat (crcN l / 65536), UInt8.ofNat (crcN l / 256), UInt8.ofNat (crcN l)] from rfl)
  obtain ⟨q, hqe⟩ : ∃ q, crcN l = q := ⟨_, rfl⟩
  rw [hqe] at HC hq HS
  clear h hqe
  go_enter Tryz.func150, Tryz.ntmps150
  go_wp2_with (go_at_call 174; refine HC.out.mono ?_; rintro e w' ⟨rfl, rfl⟩)
  go_ret
  refine ⟨rfl, ?_⟩
  rw [HS.out]
  simp only [bv, List.map_cons, List.map_nil, byte_eq]
  rw [show ((q / 16777216 : Nat) : Int) % 256 = (q : Int) / 16777216 by omega, show ((q / 65536 : Nat) : Int) = (q : Int) / 65536 by omega, show ((q / 256 : Nat) : Int) = (q : Int) / 256 by omega]
end Go.Proofs.YtohpgipgfmkflaaGreatDoor
