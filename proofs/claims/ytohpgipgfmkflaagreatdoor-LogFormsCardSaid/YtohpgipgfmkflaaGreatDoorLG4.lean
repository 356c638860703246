/- The bytes of a batch are no other one's, and never begin as a head does: the walk. -/
import Derived.Test.YtohpgipgfmkflaaGreatDoorLG2
import Derived.Test.YtohpgipgfmkflaaGreatDoorMg
import Derived.Test.YtohpgipgfmkflaaGreatDoorLE4
import Derived.Test.YtohpgipgfmkflaaGreatDoorLS8
namespace Go.Proofs.YtohpgipgfmkflaaGreatDoor
set_option linter.unusedSectionVars false
variable [Base]
open Go.RowKit
set_option maxRecDepth 100000
set_option linter.unusedVariables false
set_option linter.unusedSimpArgs false
attribute [local go_sem ↓] Go.wp_at_zero Go.wp_at_succ

theorem smallB_len' {ls : List (List UInt8)} (h : smallB ls = true) : ∀ x ∈ ls, x.length ≤ 1073741824 := by
  unfold smallB at h
  rw [Bool.and_eq_true, List.all_eq_true] at h
  intro x hx
  have := h.2 x hx
  simp at this
  omega
/-- Two batches in blocks of their own. -/
theorem rdBt_one {w : World} {b : Nat} {n : Int} {r : Value} {l : List (List UInt8)} {T : TypeId} (h : w.heap[b]? = some (.cells #[.int .i64 n, r] T (0, 0))) (hr : RdL w (fun _ => False) r l) : RdBt w (.slice (some ⟨b, 0, none⟩) 1 1) [(n, l)] := by
  refine ⟨_, 1, rfl, by omega, Nat.le_refl _, fun j hj => ?_⟩
  obtain rfl : j = 0 := by simpa using hj
  exact ⟨b, 0, r, rfl, cell_row h 0, cell_row h 1, hr⟩
theorem RdB.at0 {w : World} {S : Nat → Prop} {A : Option Addr} {n c : Nat} {l : List UInt8} (h : RdB w S (.slice A n c) l) (h0 : 0 < l.length) : ∃ g o, A = some ⟨g, o, none⟩ ∧ w.cell? ⟨g, o, none⟩ = some (.int .u8 ((l.getD 0 0).toNat : Int)) := by
  obtain ⟨A', c', e, _, _, hc⟩ := h
  obtain ⟨g, o, e2, _, hcell⟩ := hc 0 h0
  injection e with e1
  exact ⟨g, o, e1.trans e2, hcell⟩
theorem forms_ab (w : World) (n1 n2 : Int) (r1 r2 : Value) (la lb : List (List UInt8)) {S S2 : Nat → Prop} (ha : RdL w S r1 la) (hb : RdL w S2 r2 lb) :
    Calls Tryz.prog 36 #[.slice (some ⟨w.heap.size, 0, none⟩) 1 1, .slice (some ⟨w.heap.size + 1, 0, none⟩) 1 1] ((w.drew.alloc (.cells #[.int .i64 n1, r1] 52)).alloc (.cells #[.int .i64 n2, r2] 52))
      fun e w' => e = .returned (.bool (sameBt [(n1, la)] [(n2, lb)])) ∧ Below w.heap.size w w' := by
  have hB : Below w.heap.size w ((w.drew.alloc (.cells #[.int .i64 n1, r1] 52)).alloc (.cells #[.int .i64 n2, r2] 52)) := (((Below.refl _ _).drew).alloc (Nat.le_refl _) _).alloc (by simp) _
  have e1 : ((w.drew.alloc (.cells #[.int .i64 n1, r1] 52)).alloc (.cells #[.int .i64 n2, r2] 52)).heap[w.heap.size]? = some (.cells #[.int .i64 n1, r1] 52 (0, 0)) := by
    rw [Below.heap_alloc _ _ _ (by simp)]; exact heap_alloc_new w.drew _
  have e2 : ((w.drew.alloc (.cells #[.int .i64 n1, r1] 52)).alloc (.cells #[.int .i64 n2, r2] 52)).heap[w.heap.size + 1]? = some (.cells #[.int .i64 n2, r2] 52 (0, 0)) := by
    have := heap_alloc_new (w.drew.alloc (.cells #[.int .i64 n1, r1] 52)) (.cells #[.int .i64 n2, r2] 52)
    rw [show (w.drew.alloc (.cells #[.int .i64 n1, r1] 52)).heap.size = w.heap.size + 1 by simp] at this
    exact this
  have hF : ∀ {S : Nat → Prop} {v : Value} {l : List (List UInt8)}, RdL w S v l → RdL w (fun _ => False) v l := fun h => h.below (Below.refl _ _) (fun _ h => h.elim)
  refine (sameBatches_any _ _ _ _ _ (rdBt_one e1 ((hF ha).below hB (fun _ h => h.elim))) (rdBt_one e2 ((hF hb).below hB (fun _ h => h.elim)))).mono ?_
  rintro e w' ⟨rfl, hb2⟩
  exact ⟨rfl, hB.trans (hb2.mono hB.size)⟩
theorem forms_ba (w : World) (n1 n2 : Int) (r1 r2 : Value) (la lb : List (List UInt8)) {S S2 : Nat → Prop} (ha : RdL w S r1 la) (hb : RdL w S2 r2 lb) :
    Calls Tryz.prog 36 #[.slice (some ⟨w.heap.size + 1, 0, none⟩) 1 1, .slice (some ⟨w.heap.size, 0, none⟩) 1 1] ((w.drew.alloc (.cells #[.int .i64 n2, r2] 52)).alloc (.cells #[.int .i64 n1, r1] 52))
      fun e w' => e = .returned (.bool (sameBt [(n1, la)] [(n2, lb)])) ∧ Below w.heap.size w w' := by
  have hB : Below w.heap.size w ((w.drew.alloc (.cells #[.int .i64 n2, r2] 52)).alloc (.cells #[.int .i64 n1, r1] 52)) := (((Below.refl _ _).drew).alloc (Nat.le_refl _) _).alloc (by simp) _
  have e1 : ((w.drew.alloc (.cells #[.int .i64 n2, r2] 52)).alloc (.cells #[.int .i64 n1, r1] 52)).heap[w.heap.size]? = some (.cells #[.int .i64 n2, r2] 52 (0, 0)) := by
    rw [Below.heap_alloc _ _ _ (by simp)]; exact heap_alloc_new w.drew _
  have e2 : ((w.drew.alloc (.cells #[.int .i64 n2, r2] 52)).alloc (.cells #[.int .i64 n1, r1] 52)).heap[w.heap.size + 1]? = some (.cells #[.int .i64 n1, r1] 52 (0, 0)) := by
    have := heap_alloc_new (w.drew.alloc (.cells #[.int .i64 n2, r2] 52)) (.cells #[.int .i64 n1, r1] 52)
    rw [show (w.drew.alloc (.cells #[.int .i64 n2, r2] 52)).heap.size = w.heap.size + 1 by simp] at this
    exact this
  have hF : ∀ {S : Nat → Prop} {v : Value} {l : List (List UInt8)}, RdL w S v l → RdL w (fun _ => False) v l := fun h => h.below (Below.refl _ _) (fun _ h => h.elim)
  refine (sameBatches_any _ _ _ _ _ (rdBt_one e2 ((hF ha).below hB (fun _ h => h.elim))) (rdBt_one e1 ((hF hb).below hB (fun _ h => h.elim)))).mono ?_
  rintro e w' ⟨rfl, hb2⟩
  exact ⟨rfl, hB.trans (hb2.mono hB.size)⟩
theorem forms_ab' (w : World) (n1 n2 : Int) (r1 r2 : Value) (la lb : List (List UInt8)) {S S2 : Nat → Prop} (ha : RdL w S r1 la) (hb : RdL w S2 r2 lb) :
    Calls Tryz.prog 36 #[.slice (some ⟨w.heap.size, 0, none⟩) 1 1, .slice (some ⟨w.heap.size + 1, 0, none⟩) 1 1] ((w.alloc (.cells #[.int .i64 n1, r1] 52)).alloc (.cells #[.int .i64 n2, r2] 52)).drew
      fun e w' => e = .returned (.bool (sameBt [(n1, la)] [(n2, lb)])) ∧ Below w.heap.size w w' := forms_ab w n1 n2 r1 r2 la lb ha hb
theorem forms_ba' (w : World) (n1 n2 : Int) (r1 r2 : Value) (la lb : List (List UInt8)) {S S2 : Nat → Prop} (ha : RdL w S r1 la) (hb : RdL w S2 r2 lb) :
    Calls Tryz.prog 36 #[.slice (some ⟨w.heap.size + 1, 0, none⟩) 1 1, .slice (some ⟨w.heap.size, 0, none⟩) 1 1] ((w.alloc (.cells #[.int .i64 n2, r2] 52)).alloc (.cells #[.int .i64 n1, r1] 52)).drew
      fun e w' => e = .returned (.bool (sameBt [(n1, la)] [(n2, lb)])) ∧ Below w.heap.size w w' := forms_ba w n1 n2 r1 r2 la lb ha hb
set_option maxHeartbeats 40000000 in
theorem logForms_any (w : World) (S : Nat → Prop) (n1 n2 : Int) (ra rb vb : Value) (la lb : List (List UInt8)) (body : List UInt8) (first : Int) (hl : Laid w) (ha : RdL w S ra la) (hb : RdL w S rb lb) (hbo : RdB w S vb body)
    (h1 : -9223372036854775808 ≤ n1 ∧ n1 ≤ 9223372036854775807) (h2 : -9223372036854775808 ≤ n2 ∧ n2 ≤ 9223372036854775807) (h3 : -9223372036854775808 ≤ first ∧ first ≤ 9223372036854775807) :
    Calls Tryz.prog 5 #[.agg #[.int .i64 n1, ra], .agg #[.int .i64 n2, rb], vb, .int .i64 first] w fun e w' => e = .returned (.bool true) ∧ Below w.heap.size w w' := by
  have HL := Lib.hid hl
  have HRA := Lib.hid ha
  have HRB := Lib.hid hb
  have HBO := Lib.hid hbo
  obtain ⟨A, c, vs, rfl, _⟩ := id ha
  obtain ⟨A2, c2, vs2, rfl, _⟩ := id hb
  obtain ⟨A3, c3, rfl, hbl⟩ := id hbo
  have hbm : body.length ≤ 9223372036854775807 := by omega
  have hX : Below w.heap.size w ((w.alloc (.cells #[.int .i64 n1, .slice A la.length c] 52)).alloc (.cells #[.int .i64 n2, .slice A2 lb.length c2] 52)) := ((Below.refl _ _).alloc (Nat.le_refl _) _).alloc (by simp) _
  have hc1 : ((w.alloc (.cells #[.int .i64 n1, .slice A la.length c] 52)).alloc (.cells #[.int .i64 n2, .slice A2 lb.length c2] 52)).heap[w.heap.size]? = some (.cells #[.int .i64 n1, .slice A la.length c] 52 (0, 0)) := by
    rw [Below.heap_alloc _ _ _ (by simp)]; exact heap_alloc_new w _
  have hc2 : ((w.alloc (.cells #[.int .i64 n1, .slice A la.length c] 52)).alloc (.cells #[.int .i64 n2, .slice A2 lb.length c2] 52)).heap[w.heap.size + 1]? = some (.cells #[.int .i64 n2, .slice A2 lb.length c2] 52 (0, 0)) := by
    have := heap_alloc_new (w.alloc (.cells #[.int .i64 n1, .slice A la.length c] 52)) (.cells #[.int .i64 n2, .slice A2 lb.length c2] 52)
    rw [show (w.alloc (.cells #[.int .i64 n1, .slice A la.length c] 52)).heap.size = w.heap.size + 1 by simp] at this
    exact this
  obtain ⟨X, hXe⟩ : ∃ X, (w.alloc (.cells #[.int .i64 n1, .slice A la.length c] 52)).alloc (.cells #[.int .i64 n2, .slice A2 lb.length c2] 52) = X := ⟨_, rfl⟩
  rw [hXe] at hX hc1 hc2
  have HX := Lib.hid hX
  have HC1 := Lib.hid hc1
  have HC2 := Lib.hid hc2
  have HXE := Lib.hid hXe
  clear hl ha hb hbo hX hc1 hc2 hXe
  go_enter Tryz.func5, Tryz.ntmps5
  go_wp2_with (go_at_call 28; fail)
  rw [HXE.out]
  have hz : X.heap.size = w.heap.size + 2 := by rw [← HXE.out]; simp
  obtain ⟨P, hP⟩ : ∃ P, P = w.heap.size := ⟨_, rfl⟩
  have hPX : P + 1 < X.heap.size := by omega
  simp only [← hP]
  rw [← hP] at HC1 HC2
  have HPE := Lib.hid hP
  have HZ := Lib.hid hz
  clear HXE hP hz
  have hx0 := cell_row HC1.out 0
  have hx1 := cell_row HC1.out 1
  have hy0 := cell_row HC2.out 0
  have hy1 := cell_row HC2.out 1
  simp only [List.getElem?_toArray, List.getElem?_cons_zero, List.getElem?_cons_succ] at hx0 hx1 hy0 hy1
  have HRX := Lib.hid (HRA.out.below HX.out (fun _ h => .inl h))
  have HRY := Lib.hid (HRB.out.below HX.out (fun _ h => .inl h))
  have HSA := Lib.hid (small_any X S _ la HRX.out)
  have HSB := Lib.hid (small_any X S _ lb HRY.out)
  have HAW := Lib.hid (awake_any X (HL.out.below HX.out))
  cases hsa : smallB la with
  | false =>
    have h := HSA.out
    rw [hsa] at h
    have HSA2 := Lib.hid h
    clear h hsa HSA HSB
    go_wp2_with (first | (go_at_call 28; (with_reducible refine HSA2.out.mono ?_); rintro e w' ⟨rfl, hw⟩; subst hw) | (go_at_call 25; refine HAW.out.mono ?_; rintro e w3 ⟨rfl, hb⟩))
    go_ret
    exact ⟨rfl, HX.out.trans (hb.mono HX.out.size)⟩
  | true =>
    have h := HSA.out
    rw [hsa] at h
    have HSA2 := Lib.hid h
    have HLA := Lib.hid (smallB_len' hsa)
    clear h hsa HSA
    cases hsb : smallB lb with
    | false =>
      have h := HSB.out
      rw [hsb] at h
      have HSB2 := Lib.hid h
      clear h hsb HSB
      go_wp2_with (first | (go_at_call 28; (with_reducible refine HSA2.out.mono ?_); rintro e w' ⟨rfl, hw⟩; subst hw) | (go_at_call 28; (with_reducible refine HSB2.out.mono ?_); rintro e w' ⟨rfl, hw⟩; subst hw) | (go_at_call 25; refine HAW.out.mono ?_; rintro e w3 ⟨rfl, hb⟩))
      go_ret
      exact ⟨rfl, HX.out.trans (hb.mono HX.out.size)⟩
    | true =>
      have h := HSB.out
      rw [hsb] at h
      have HSB2 := Lib.hid h
      have HLB := Lib.hid (smallB_len' hsb)
      clear h hsb HSB
      by_cases hlong : 1000 < body.length
      · have hd : decide ((1000 : Int) < (body.length : Int)) = true := decide_eq_true (by omega)
        clear hlong
        go_wp2_with (first | (go_at_call 28; (with_reducible refine HSA2.out.mono ?_); rintro e w' ⟨rfl, hw⟩; subst hw) | (go_at_call 28; (with_reducible refine HSB2.out.mono ?_); rintro e w' ⟨rfl, hw⟩; subst hw) | (go_at_call 25; refine HAW.out.mono ?_; rintro e w3 ⟨rfl, hb⟩))
        go_ret
        exact ⟨rfl, HX.out.trans (hb.mono HX.out.size)⟩
      · have hd : decide ((1000 : Int) < (body.length : Int)) = false := decide_eq_false (by omega)
        have HBL := Lib.hid (show body.length ≤ 1000 by omega)
        have HBA := Lib.hid (bytes_any X S n1 _ la HRX.out HLA.out h1.1 h1.2)
        have HBB := Lib.hid (fun (wx : World) (hx : Below X.heap.size X wx) => bytes_any wx S n2 _ lb (HRY.out.below hx (fun _ h => .inl h)) HLB.out h2.1 h2.2)
        obtain ⟨⟨x, ex⟩, hRx⟩ : ∃ R, bytesR n1 la = R := ⟨_, rfl⟩
        obtain ⟨⟨y, ey⟩, hRy⟩ : ∃ R, bytesR n2 lb = R := ⟨_, rfl⟩
        rw [hRx] at HBA
        rw [hRy] at HBB
        have HEX := Lib.hid hRx
        have HEY := Lib.hid hRy
        clear hlong hRx hRy HAW
        go_wp2_with (first | (go_at_call 28; (with_reducible refine HSA2.out.mono ?_); rintro e w' ⟨rfl, hw⟩; subst hw) | (go_at_call 28; (with_reducible refine HSB2.out.mono ?_); rintro e w' ⟨rfl, hw⟩; subst hw) | (go_at_call 34; (with_reducible refine HBA.out.mono ?_); rintro e w3 ⟨va, rfl, hoa, hb3⟩; obtain ⟨Aa, ca, ea⟩ := own_slice hoa; subst ea; have HOA := Lib.hid hoa; have HB3 := Lib.hid hb3; have hu0 := (hb3.cell (World.block_lt_of_cell? X _ hx0)).trans hx0; have hu1 := (hb3.cell (World.block_lt_of_cell? X _ hx1)).trans hx1; have hv0 := (hb3.cell (World.block_lt_of_cell? X _ hy0)).trans hy0; have hv1 := (hb3.cell (World.block_lt_of_cell? X _ hy1)).trans hy1; clear hoa hb3))
        have HBB3 := Lib.hid (HBB.out w3 HB3.out)
        clear HBB hx0 hx1 hy0 hy1 HBA
        go_wp2_with (go_at_call 34; (with_reducible refine HBB3.out.mono ?_); rintro e w4 ⟨vz, rfl, hoa, hb4⟩; obtain ⟨Ab, cb, ea⟩ := own_slice hoa; subst ea; have HOB := Lib.hid hoa; have HB4 := Lib.hid hb4; have hp0 := (hb4.cell (World.block_lt_of_cell? w3 _ hu0)).trans hu0; have hp1 := (hb4.cell (World.block_lt_of_cell? w3 _ hu1)).trans hu1; have hq0 := (hb4.cell (World.block_lt_of_cell? w3 _ hv0)).trans hv0; have hq1 := (hb4.cell (World.block_lt_of_cell? w3 _ hv1)).trans hv1; clear hoa hb4)
        clear hu0 hu1 hv0 hv1 HBB3
        have HXA : Hid (RdB w4 (fun _ => False) (.slice Aa x.length ca) x) := Lib.hid ((RdB.ofOwn HOA.out (S := fun _ => False) (fun _ h => h.elim)).below HB4.out (fun _ h => h.elim))
        have HXB : Hid (RdB w4 (fun _ => False) (.slice Ab y.length cb) y) := Lib.hid (RdB.ofOwn HOB.out (S := fun _ => False) (fun _ h => h.elim))
        have HBX : Hid (Below w.heap.size w w4) := Lib.hid ((HX.out.trans (HB3.out.mono HX.out.size)).trans (HB4.out.mono (Nat.le_trans HX.out.size HB3.out.size)))
        have HRX4 := Lib.hid ((HRA.out.below HBX.out (fun _ h => .inl h)))
        have HRY4 := Lib.hid ((HRB.out.below HBX.out (fun _ h => .inl h)))
        have hP4 : P + 1 < w4.heap.size := by have := HB3.out.size; have := HB4.out.size; omega
        go_cut [9, 72] (fun cx ct wx => cx = .slice Aa x.length ca ∧ ct = .bool false ∧ Below w4.heap.size w4 wx)
        case first =>
          by_cases hex : ex = 0
          · subst hex
            by_cases hey : ey = 0
            · subst hey
              obtain ⟨b, t, hxt, hb0⟩ := bytesR_head HEX.out
              have hsame := batch_same HEX.out HEY.out
              obtain ⟨gx, ox, e9, hcb⟩ := HXA.out.at0 (by rw [hxt]; simp)
              subst e9
              have hxl0 : 0 < x.length := by rw [hxt]; simp
              have hcb : w4.cell? ⟨gx, ox, none⟩ = some (.int .u8 (b.toNat : Int)) := by rw [hxt] at hcb; exact hcb
              have hbn : ((b.toNat : Int) == 0) = false := by
                rw [beq_eq_false_iff_ne]
                intro h
                exact hb0 (UInt8.toNat_inj.1 (by simpa using h))
              have hxl : ((x.length : Int) == 0) = false := by rw [beq_eq_false_iff_ne]; omega
              have hxl1 : (0 : Int) < (x.length : Int) := by omega
              have HF := Lib.hid (show ∀ wx, Below w4.heap.size w4 wx → wx.cell? ⟨P, 0, none⟩ = some (.int .i64 n1) ∧ wx.cell? ⟨P, 1, none⟩ = some (.slice A la.length c) ∧ wx.cell? ⟨P + 1, 0, none⟩ = some (.int .i64 n2) ∧ wx.cell? ⟨P + 1, 1, none⟩ = some (.slice A2 lb.length c2) ∧ wx.cell? ⟨gx, ox, none⟩ = some (.int .u8 (b.toNat : Int)) from
                fun wx hx => ⟨(hx.cell (World.block_lt_of_cell? w4 _ hp0)).trans hp0, (hx.cell (World.block_lt_of_cell? w4 _ hp1)).trans hp1, (hx.cell (World.block_lt_of_cell? w4 _ hq0)).trans hq0, (hx.cell (World.block_lt_of_cell? w4 _ hq1)).trans hq1, (hx.cell (World.block_lt_of_cell? w4 _ hcb)).trans hcb⟩)
              have hsb := fun (wx : World) (hx : Below w4.heap.size w4 wx) => sameBytes_any wx (fun _ => False) (fun _ => False) _ _ x y (HXA.out.below hx (fun _ h => .inl h)) (HXB.out.below hx (fun _ h => .inl h))
              have hl1 := forms_ab' w4 n1 n2 _ _ la lb HRX4.out HRY4.out
              have hl2 := forms_ba' w4 n1 n2 _ _ la lb HRX4.out HRY4.out
              rw [← hsame] at hl1 hl2
              obtain ⟨B, hB⟩ : ∃ B, (x == y) = B := ⟨_, rfl⟩
              rw [hB] at hl1 hl2
              simp only [hB] at hsb
              have hBB : (B != B) = false := by cases B <;> rfl
              have HSBY := Lib.hid hsb
              have HL1 := Lib.hid hl1
              have HL2 := Lib.hid hl2
              clear hB hl1 hl2 hsb hsame hxt hb0
              refine wp_region_noPanic ?_
              refine wp_region_held_drew (S := (fun w' => w'.cell? ⟨P, 0, none⟩ = some (.int .i64 n1) ∧ w'.cell? ⟨P, 1, none⟩ = some (.slice A la.length c) ∧ w'.cell? ⟨P + 1, 0, none⟩ = some (.int .i64 n2) ∧ w'.cell? ⟨P + 1, 1, none⟩ = some (.slice A2 lb.length c2) ∧ w'.cell? ⟨gx, ox, none⟩ = some (.int .u8 (b.toNat : Int)))) (by kernel_rfl) ?_ (fun hHeld => ?_)
              ·
                exact HF.out _ (by ((repeat' (first | exact Below.refl _ _ | exact hbz | refine Below.drew ?_ | refine Below.alloc ?_ ?_ _)) <;> (first | exact Nat.le_refl _ | omega | (simp; done) | (simp; omega))))
              refine wpAnyH_take (i := 0) (oi := _) (v := ?_) rfl (by kernel_rfl) (by kernel_rfl) (by kernel_rfl) (fun _ _ _ h => h) (Or.inl ⟨by rfl, ?_⟩) (by assumption) ?_
              rotate_left
              · intro w hSw
                try dsimp only at hSw
                go_simp
                try with_reducible rfl
              try simp only [Act.put, List.setIfInBounds_toArray, List.set_cons_zero, List.set_cons_succ, List.getElem_toArray, List.getElem_cons_zero, List.getElem_cons_succ]
              refine wpAnyH_take (i := 1) (oi := _) (v := ?_) rfl (by kernel_rfl) (by kernel_rfl) (by kernel_rfl) (fun _ _ _ h => h) (Or.inl ⟨by rfl, ?_⟩) (by assumption) ?_
              rotate_left
              · intro w hSw
                try dsimp only at hSw
                go_simp
                try with_reducible rfl
              try simp only [Act.put, List.setIfInBounds_toArray, List.set_cons_zero, List.set_cons_succ, List.getElem_toArray, List.getElem_cons_zero, List.getElem_cons_succ]
              refine wpAnyH_take (i := 2) (oi := _) (v := ?_) rfl (by kernel_rfl) (by kernel_rfl) (by kernel_rfl) (fun _ _ _ h => h) (Or.inl ⟨by rfl, ?_⟩) (by assumption) ?_
              rotate_left
              · intro w hSw
                try dsimp only at hSw
                go_simp
                try with_reducible rfl
              try simp only [Act.put, List.setIfInBounds_toArray, List.set_cons_zero, List.set_cons_succ, List.getElem_toArray, List.getElem_cons_zero, List.getElem_cons_succ]
              refine wpAnyH_take (i := 3) (oi := _) (v := ?_) rfl (by kernel_rfl) (by kernel_rfl) (by kernel_rfl) (fun _ _ _ h => h) (Or.inl ⟨by rfl, ?_⟩) (by assumption) ?_
              rotate_left
              · intro w hSw
                try dsimp only at hSw
                go_simp
                try with_reducible rfl
              try simp only [Act.put, List.setIfInBounds_toArray, List.set_cons_zero, List.set_cons_succ, List.getElem_toArray, List.getElem_cons_zero, List.getElem_cons_succ]
              refine wpAnyH_take (i := 4) (oi := _) (v := ?_) rfl (by kernel_rfl) (by kernel_rfl) (by kernel_rfl) (fun _ _ _ h => h) (Or.inl ⟨by rfl, ?_⟩) (by assumption) ?_
              rotate_left
              · intro w hSw
                try dsimp only at hSw
                go_simp
                try with_reducible rfl
              try simp only [Act.put, List.setIfInBounds_toArray, List.set_cons_zero, List.set_cons_succ, List.getElem_toArray, List.getElem_cons_zero, List.getElem_cons_succ]
              refine wpAnyH_take (i := 5) (oi := _) (v := ?_) rfl (by kernel_rfl) (by kernel_rfl) (by kernel_rfl) (fun _ _ _ h => h) (Or.inl ⟨by rfl, ?_⟩) (by assumption) ?_
              rotate_left
              · intro w hSw
                try dsimp only at hSw
                go_simp
                try with_reducible rfl
              try simp only [Act.put, List.setIfInBounds_toArray, List.set_cons_zero, List.set_cons_succ, List.getElem_toArray, List.getElem_cons_zero, List.getElem_cons_succ]
              refine wpAnyH_take (i := 6) (oi := _) (v := ?_) rfl (by kernel_rfl) (by kernel_rfl) (by kernel_rfl) (fun _ _ _ h => h) (Or.inl ⟨by rfl, ?_⟩) (by assumption) ?_
              rotate_left
              · intro w hSw
                try dsimp only at hSw
                go_simp
                try with_reducible rfl
              try simp only [Act.put, List.setIfInBounds_toArray, List.set_cons_zero, List.set_cons_succ, List.getElem_toArray, List.getElem_cons_zero, List.getElem_cons_succ]
              refine wpAnyH_take (i := 7) (oi := _) (v := ?_) rfl (by kernel_rfl) (by kernel_rfl) (by kernel_rfl) (fun _ _ _ h => h) (Or.inl ⟨by rfl, ?_⟩) (by assumption) ?_
              rotate_left
              · intro w hSw
                try dsimp only at hSw
                go_simp
                try with_reducible rfl
              try simp only [Act.put, List.setIfInBounds_toArray, List.set_cons_zero, List.set_cons_succ, List.getElem_toArray, List.getElem_cons_zero, List.getElem_cons_succ]
              refine wpAnyH_take (i := 8) (oi := _) (v := ?_) rfl (by kernel_rfl) (by kernel_rfl) (by kernel_rfl) (fun _ _ _ h => h) (Or.inl ⟨by rfl, ?_⟩) (by assumption) ?_
              rotate_left
              · intro w hSw
                try dsimp only at hSw
                go_simp
                try with_reducible rfl
              try simp only [Act.put, List.setIfInBounds_toArray, List.set_cons_zero, List.set_cons_succ, List.getElem_toArray, List.getElem_cons_zero, List.getElem_cons_succ]
              refine wpAnyH_take (i := 10) (oi := _) (v := ?_) rfl (by kernel_rfl) (by kernel_rfl) (by kernel_rfl) (fun _ _ _ h => h) (Or.inl ⟨by rfl, ?_⟩) (by assumption) ?_
              rotate_left
              · intro w hSw
                try dsimp only at hSw
                go_simp
                try with_reducible rfl
              try simp only [Act.put, List.setIfInBounds_toArray, List.set_cons_zero, List.set_cons_succ, List.getElem_toArray, List.getElem_cons_zero, List.getElem_cons_succ]
              refine wpAnyH_take (i := 12) (oi := _) (v := ?_) rfl (by kernel_rfl) (by kernel_rfl) (by kernel_rfl) (fun _ _ _ h => h) (Or.inl ⟨by rfl, ?_⟩) (by assumption) ?_
              rotate_left
              · intro w hSw
                try dsimp only at hSw
                go_simp
                try with_reducible rfl
              try simp only [Act.put, List.setIfInBounds_toArray, List.set_cons_zero, List.set_cons_succ, List.getElem_toArray, List.getElem_cons_zero, List.getElem_cons_succ]
              refine wpAnyH_ready (rs := [9, 11, 13]) (by kernel_rfl) (by simp) ?_
              refine AllReadyH.cons (o := _) rfl (fun K hK => ?_) (AllReadyH.cons (o := _) rfl (fun K hK => ?_) (AllReadyH.cons (o := _) rfl (fun K hK => ?_) AllReadyH.nil))
              ·
                try go_simp
                go_at_call 35
                refine (HSBY.out _ (by ((repeat' (first | exact Below.refl _ _ | refine Below.drew ?_ | refine Below.alloc ?_ ?_ _)) <;> (first | exact Nat.le_refl _ | omega | (simp; done) | (simp; omega))))).mono ?_
                rintro e w' ⟨rfl, hw⟩
                subst hw
                go_wp2
                refine hK.out _ _ ?_ (fun hHeld => ?_)
                ·
                  exact HF.out _ (by ((repeat' (first | exact Below.refl _ _ | exact hbz | refine Below.drew ?_ | refine Below.alloc ?_ ?_ _)) <;> (first | exact Nat.le_refl _ | omega | (simp; done) | (simp; omega))))
                clear hK K
                try simp only [Act.put, List.setIfInBounds_toArray, List.set_cons_zero, List.set_cons_succ, List.getElem_toArray, List.getElem_cons_zero, List.getElem_cons_succ]
                refine wpAnyH_ready (rs := [11, 13]) (by kernel_rfl) (by simp) ?_
                refine AllReadyH.cons (o := _) rfl (fun K hK => ?_) (AllReadyH.cons (o := _) rfl (fun K hK => ?_) AllReadyH.nil)
                ·
                  go_simp
                  refine hK.out _ _ ?_ (fun hHeld => ?_)
                  ·
                    exact HF.out _ (by ((repeat' (first | exact Below.refl _ _ | exact hbz | refine Below.drew ?_ | refine Below.alloc ?_ ?_ _)) <;> (first | exact Nat.le_refl _ | omega | (simp; done) | (simp; omega))))
                  clear hK K
                  try simp only [Act.put, List.setIfInBounds_toArray, List.set_cons_zero, List.set_cons_succ, List.getElem_toArray, List.getElem_cons_zero, List.getElem_cons_succ]
                  refine wpAnyH_ready (rs := [13]) (by kernel_rfl) (by simp) ?_
                  refine AllReadyH.cons (o := _) rfl (fun K hK => ?_) AllReadyH.nil
                  go_simp
                  refine hK.out _ _ ?_ (fun hHeld => ?_)
                  ·
                    exact HF.out _ (by ((repeat' (first | exact Below.refl _ _ | exact hbz | refine Below.drew ?_ | refine Below.alloc ?_ ?_ _)) <;> (first | exact Nat.le_refl _ | omega | (simp; done) | (simp; omega))))
                  clear hK K
                  try simp only [Act.put, List.setIfInBounds_toArray, List.set_cons_zero, List.set_cons_succ, List.getElem_toArray, List.getElem_cons_zero, List.getElem_cons_succ]
                  refine wpAnyH_ready (rs := [14]) (by kernel_rfl) (by simp) ?_
                  refine AllReadyH.cons (o := _) rfl (fun K hK => ?_) AllReadyH.nil
                  go_simp
                  go_at_call 36
                  first | (with_reducible refine HL1.out.mono ?_) | (with_reducible refine HL2.out.mono ?_)
                  rintro e w9 ⟨rfl, hb9⟩
                  have hbz : Below w4.heap.size w4 w9 := hb9
                  go_wp2
                  refine hK.out _ _ ?_ (fun hHeld => ?_)
                  ·
                    exact HF.out _ (by ((repeat' (first | exact Below.refl _ _ | exact hbz | refine Below.drew ?_ | refine Below.alloc ?_ ?_ _)) <;> (first | exact Nat.le_refl _ | omega | (simp; done) | (simp; omega))))
                  clear hK K
                  try simp only [Act.put, List.setIfInBounds_toArray, List.set_cons_zero, List.set_cons_succ, List.getElem_toArray, List.getElem_cons_zero, List.getElem_cons_succ]
                  refine wpAnyH_take (i := 15) (oi := _) (v := ?_) rfl (by kernel_rfl) (by kernel_rfl) (by kernel_rfl) (fun _ _ _ h => h) (Or.inl ⟨by rfl, ?_⟩) (by assumption) ?_
                  rotate_left
                  · intro w hSw
                    try dsimp only at hSw
                    go_simp
                    try with_reducible rfl
                  try simp only [Act.put, List.setIfInBounds_toArray, List.set_cons_zero, List.set_cons_succ, List.getElem_toArray, List.getElem_cons_zero, List.getElem_cons_succ]
                  refine wpAnyH_take (i := 16) (oi := _) (v := ?_) rfl (by kernel_rfl) (by kernel_rfl) (by kernel_rfl) (fun _ _ _ h => h) (Or.inl ⟨by rfl, ?_⟩) (by assumption) ?_
                  rotate_left
                  · intro w hSw
                    try dsimp only at hSw
                    go_simp
                    try with_reducible rfl
                  try simp only [Act.put, List.setIfInBounds_toArray, List.set_cons_zero, List.set_cons_succ, List.getElem_toArray, List.getElem_cons_zero, List.getElem_cons_succ]
                  refine wpAnyH_take (i := 17) (oi := _) (v := ?_) rfl (by kernel_rfl) (by kernel_rfl) (by kernel_rfl) (fun _ _ _ h => h) (Or.inl ⟨by rfl, ?_⟩) (by assumption) ?_
                  rotate_left
                  · intro w hSw
                    try dsimp only at hSw
                    go_simp
                    try with_reducible rfl
                  try simp only [Act.put, List.setIfInBounds_toArray, List.set_cons_zero, List.set_cons_succ, List.getElem_toArray, List.getElem_cons_zero, List.getElem_cons_succ]
                  refine wpAnyH_take (i := 18) (oi := _) (v := ?_) rfl (by kernel_rfl) (by kernel_rfl) (by kernel_rfl) (fun _ _ _ h => h) (Or.inl ⟨by rfl, ?_⟩) (by assumption) ?_
                  rotate_left
                  · intro w hSw
                    try dsimp only at hSw
                    go_simp
                    try with_reducible rfl
                  try simp only [Act.put, List.setIfInBounds_toArray, List.set_cons_zero, List.set_cons_succ, List.getElem_toArray, List.getElem_cons_zero, List.getElem_cons_succ]
                  refine wpAnyH_take (i := 19) (oi := _) (v := ?_) rfl (by kernel_rfl) (by kernel_rfl) (by kernel_rfl) (fun _ _ _ h => h) (Or.inl ⟨by rfl, ?_⟩) (by assumption) ?_
                  rotate_left
                  · intro w hSw
                    try dsimp only at hSw
                    go_simp
                    try with_reducible rfl
                  try simp only [Act.put, List.setIfInBounds_toArray, List.set_cons_zero, List.set_cons_succ, List.getElem_toArray, List.getElem_cons_zero, List.getElem_cons_succ]
                  refine wpAnyH_take (i := 20) (oi := _) (v := ?_) rfl (by kernel_rfl) (by kernel_rfl) (by kernel_rfl) (fun _ _ _ h => h) (Or.inl ⟨by rfl, ?_⟩) (by assumption) ?_
                  rotate_left
                  · intro w hSw
                    try dsimp only at hSw
                    go_simp
                    try with_reducible rfl
                  try simp only [Act.put, List.setIfInBounds_toArray, List.set_cons_zero, List.set_cons_succ, List.getElem_toArray, List.getElem_cons_zero, List.getElem_cons_succ]
                  refine wpAnyH_take (i := 21) (oi := _) (v := ?_) rfl (by kernel_rfl) (by kernel_rfl) (by kernel_rfl) (fun _ _ _ h => h) (Or.inl ⟨by rfl, ?_⟩) (by assumption) ?_
                  rotate_left
                  · intro w hSw
                    try dsimp only at hSw
                    go_simp
                    try with_reducible rfl
                  try simp only [Act.put, List.setIfInBounds_toArray, List.set_cons_zero, List.set_cons_succ, List.getElem_toArray, List.getElem_cons_zero, List.getElem_cons_succ]
                  refine wpAnyH_take (i := 22) (oi := _) (v := ?_) rfl (by kernel_rfl) (by kernel_rfl) (by kernel_rfl) (fun _ _ _ h => h) (Or.inl ⟨by rfl, ?_⟩) (by assumption) ?_
                  rotate_left
                  · intro w hSw
                    try dsimp only at hSw
                    go_simp
                    try with_reducible rfl
                  try simp only [Act.put, List.setIfInBounds_toArray, List.set_cons_zero, List.set_cons_succ, List.getElem_toArray, List.getElem_cons_zero, List.getElem_cons_succ]
                  refine wpAnyH_take (i := 23) (oi := _) (v := ?_) rfl (by kernel_rfl) (by kernel_rfl) (by kernel_rfl) (fun _ _ _ h => h) (Or.inl ⟨by rfl, ?_⟩) (by assumption) ?_
                  rotate_left
                  · intro w hSw
                    try dsimp only at hSw
                    go_simp
                    try with_reducible rfl
                  try simp only [Act.put, List.setIfInBounds_toArray, List.set_cons_zero, List.set_cons_succ, List.getElem_toArray, List.getElem_cons_zero, List.getElem_cons_succ]
                  refine wpAnyH_take (i := 24) (oi := _) (v := ?_) rfl (by kernel_rfl) (by kernel_rfl) (by kernel_rfl) (fun _ _ _ h => h) (Or.inl ⟨by rfl, ?_⟩) (by assumption) ?_
                  rotate_left
                  · intro w hSw
                    try dsimp only at hSw
                    go_simp
                    try with_reducible rfl
                  try simp only [Act.put, List.setIfInBounds_toArray, List.set_cons_zero, List.set_cons_succ, List.getElem_toArray, List.getElem_cons_zero, List.getElem_cons_succ]
                  refine wpAnyH_take (i := 25) (oi := _) (v := ?_) rfl (by kernel_rfl) (by kernel_rfl) (by kernel_rfl) (fun _ _ _ h => h) (Or.inl ⟨by rfl, ?_⟩) (by assumption) ?_
                  rotate_left
                  · intro w hSw
                    try dsimp only at hSw
                    go_simp
                    try with_reducible rfl
                  try simp only [Act.put, List.setIfInBounds_toArray, List.set_cons_zero, List.set_cons_succ, List.getElem_toArray, List.getElem_cons_zero, List.getElem_cons_succ]
                  refine wpAnyH_take (i := 26) (oi := _) (v := ?_) rfl (by kernel_rfl) (by kernel_rfl) (by kernel_rfl) (fun _ _ _ h => h) (Or.inl ⟨by rfl, ?_⟩) (by assumption) ?_
                  rotate_left
                  · intro w hSw
                    try dsimp only at hSw
                    go_simp
                    try with_reducible rfl
                  try simp only [Act.put, List.setIfInBounds_toArray, List.set_cons_zero, List.set_cons_succ, List.getElem_toArray, List.getElem_cons_zero, List.getElem_cons_succ]
                  refine wpAnyH_take (i := 27) (oi := _) (v := ?_) rfl (by kernel_rfl) (by kernel_rfl) (by kernel_rfl) (fun _ _ _ h => h) (Or.inl ⟨by rfl, ?_⟩) (by assumption) ?_
                  rotate_left
                  · intro w hSw
                    try dsimp only at hSw
                    go_simp
                    try with_reducible rfl
                  try simp only [Act.put, List.setIfInBounds_toArray, List.set_cons_zero, List.set_cons_succ, List.getElem_toArray, List.getElem_cons_zero, List.getElem_cons_succ]
                  refine wpAnyH_done (by kernel_rfl) ?_ _
                  refine NoPanic.normal ?_
                  go_wp2_with fail
                  go_meet
                  exact ⟨rfl, rfl, hbz⟩
                ·
                  go_simp
                  refine hK.out _ _ ?_ (fun hHeld => ?_)
                  ·
                    exact HF.out _ (by ((repeat' (first | exact Below.refl _ _ | exact hbz | refine Below.drew ?_ | refine Below.alloc ?_ ?_ _)) <;> (first | exact Nat.le_refl _ | omega | (simp; done) | (simp; omega))))
                  clear hK K
                  try simp only [Act.put, List.setIfInBounds_toArray, List.set_cons_zero, List.set_cons_succ, List.getElem_toArray, List.getElem_cons_zero, List.getElem_cons_succ]
                  refine wpAnyH_ready (rs := [11]) (by kernel_rfl) (by simp) ?_
                  refine AllReadyH.cons (o := _) rfl (fun K hK => ?_) AllReadyH.nil
                  go_simp
                  refine hK.out _ _ ?_ (fun hHeld => ?_)
                  ·
                    exact HF.out _ (by ((repeat' (first | exact Below.refl _ _ | exact hbz | refine Below.drew ?_ | refine Below.alloc ?_ ?_ _)) <;> (first | exact Nat.le_refl _ | omega | (simp; done) | (simp; omega))))
                  clear hK K
                  try simp only [Act.put, List.setIfInBounds_toArray, List.set_cons_zero, List.set_cons_succ, List.getElem_toArray, List.getElem_cons_zero, List.getElem_cons_succ]
                  refine wpAnyH_ready (rs := [14]) (by kernel_rfl) (by simp) ?_
                  refine AllReadyH.cons (o := _) rfl (fun K hK => ?_) AllReadyH.nil
                  go_simp
                  go_at_call 36
                  first | (with_reducible refine HL1.out.mono ?_) | (with_reducible refine HL2.out.mono ?_)
                  rintro e w9 ⟨rfl, hb9⟩
                  have hbz : Below w4.heap.size w4 w9 := hb9
                  go_wp2
                  refine hK.out _ _ ?_ (fun hHeld => ?_)
                  ·
                    exact HF.out _ (by ((repeat' (first | exact Below.refl _ _ | exact hbz | refine Below.drew ?_ | refine Below.alloc ?_ ?_ _)) <;> (first | exact Nat.le_refl _ | omega | (simp; done) | (simp; omega))))
                  clear hK K
                  try simp only [Act.put, List.setIfInBounds_toArray, List.set_cons_zero, List.set_cons_succ, List.getElem_toArray, List.getElem_cons_zero, List.getElem_cons_succ]
                  refine wpAnyH_take (i := 15) (oi := _) (v := ?_) rfl (by kernel_rfl) (by kernel_rfl) (by kernel_rfl) (fun _ _ _ h => h) (Or.inl ⟨by rfl, ?_⟩) (by assumption) ?_
                  rotate_left
                  · intro w hSw
                    try dsimp only at hSw
                    go_simp
                    try with_reducible rfl
                  try simp only [Act.put, List.setIfInBounds_toArray, List.set_cons_zero, List.set_cons_succ, List.getElem_toArray, List.getElem_cons_zero, List.getElem_cons_succ]
                  refine wpAnyH_take (i := 16) (oi := _) (v := ?_) rfl (by kernel_rfl) (by kernel_rfl) (by kernel_rfl) (fun _ _ _ h => h) (Or.inl ⟨by rfl, ?_⟩) (by assumption) ?_
                  rotate_left
                  · intro w hSw
                    try dsimp only at hSw
                    go_simp
                    try with_reducible rfl
                  try simp only [Act.put, List.setIfInBounds_toArray, List.set_cons_zero, List.set_cons_succ, List.getElem_toArray, List.getElem_cons_zero, List.getElem_cons_succ]
                  refine wpAnyH_take (i := 17) (oi := _) (v := ?_) rfl (by kernel_rfl) (by kernel_rfl) (by kernel_rfl) (fun _ _ _ h => h) (Or.inl ⟨by rfl, ?_⟩) (by assumption) ?_
                  rotate_left
                  · intro w hSw
                    try dsimp only at hSw
                    go_simp
                    try with_reducible rfl
                  try simp only [Act.put, List.setIfInBounds_toArray, List.set_cons_zero, List.set_cons_succ, List.getElem_toArray, List.getElem_cons_zero, List.getElem_cons_succ]
                  refine wpAnyH_take (i := 18) (oi := _) (v := ?_) rfl (by kernel_rfl) (by kernel_rfl) (by kernel_rfl) (fun _ _ _ h => h) (Or.inl ⟨by rfl, ?_⟩) (by assumption) ?_
                  rotate_left
                  · intro w hSw
                    try dsimp only at hSw
                    go_simp
                    try with_reducible rfl
                  try simp only [Act.put, List.setIfInBounds_toArray, List.set_cons_zero, List.set_cons_succ, List.getElem_toArray, List.getElem_cons_zero, List.getElem_cons_succ]
                  refine wpAnyH_take (i := 19) (oi := _) (v := ?_) rfl (by kernel_rfl) (by kernel_rfl) (by kernel_rfl) (fun _ _ _ h => h) (Or.inl ⟨by rfl, ?_⟩) (by assumption) ?_
                  rotate_left
                  · intro w hSw
                    try dsimp only at hSw
                    go_simp
                    try with_reducible rfl
                  try simp only [Act.put, List.setIfInBounds_toArray, List.set_cons_zero, List.set_cons_succ, List.getElem_toArray, List.getElem_cons_zero, List.getElem_cons_succ]
                  refine wpAnyH_take (i := 20) (oi := _) (v := ?_) rfl (by kernel_rfl) (by kernel_rfl) (by kernel_rfl) (fun _ _ _ h => h) (Or.inl ⟨by rfl, ?_⟩) (by assumption) ?_
                  rotate_left
                  · intro w hSw
                    try dsimp only at hSw
                    go_simp
                    try with_reducible rfl
                  try simp only [Act.put, List.setIfInBounds_toArray, List.set_cons_zero, List.set_cons_succ, List.getElem_toArray, List.getElem_cons_zero, List.getElem_cons_succ]
                  refine wpAnyH_take (i := 21) (oi := _) (v := ?_) rfl (by kernel_rfl) (by kernel_rfl) (by kernel_rfl) (fun _ _ _ h => h) (Or.inl ⟨by rfl, ?_⟩) (by assumption) ?_
                  rotate_left
                  · intro w hSw
                    try dsimp only at hSw
                    go_simp
                    try with_reducible rfl
                  try simp only [Act.put, List.setIfInBounds_toArray, List.set_cons_zero, List.set_cons_succ, List.getElem_toArray, List.getElem_cons_zero, List.getElem_cons_succ]
                  refine wpAnyH_take (i := 22) (oi := _) (v := ?_) rfl (by kernel_rfl) (by kernel_rfl) (by kernel_rfl) (fun _ _ _ h => h) (Or.inl ⟨by rfl, ?_⟩) (by assumption) ?_
                  rotate_left
                  · intro w hSw
                    try dsimp only at hSw
                    go_simp
                    try with_reducible rfl
                  try simp only [Act.put, List.setIfInBounds_toArray, List.set_cons_zero, List.set_cons_succ, List.getElem_toArray, List.getElem_cons_zero, List.getElem_cons_succ]
                  refine wpAnyH_take (i := 23) (oi := _) (v := ?_) rfl (by kernel_rfl) (by kernel_rfl) (by kernel_rfl) (fun _ _ _ h => h) (Or.inl ⟨by rfl, ?_⟩) (by assumption) ?_
                  rotate_left
                  · intro w hSw
                    try dsimp only at hSw
                    go_simp
                    try with_reducible rfl
                  try simp only [Act.put, List.setIfInBounds_toArray, List.set_cons_zero, List.set_cons_succ, List.getElem_toArray, List.getElem_cons_zero, List.getElem_cons_succ]
                  refine wpAnyH_take (i := 24) (oi := _) (v := ?_) rfl (by kernel_rfl) (by kernel_rfl) (by kernel_rfl) (fun _ _ _ h => h) (Or.inl ⟨by rfl, ?_⟩) (by assumption) ?_
                  rotate_left
                  · intro w hSw
                    try dsimp only at hSw
                    go_simp
                    try with_reducible rfl
                  try simp only [Act.put, List.setIfInBounds_toArray, List.set_cons_zero, List.set_cons_succ, List.getElem_toArray, List.getElem_cons_zero, List.getElem_cons_succ]
                  refine wpAnyH_take (i := 25) (oi := _) (v := ?_) rfl (by kernel_rfl) (by kernel_rfl) (by kernel_rfl) (fun _ _ _ h => h) (Or.inl ⟨by rfl, ?_⟩) (by assumption) ?_
                  rotate_left
                  · intro w hSw
                    try dsimp only at hSw
                    go_simp
                    try with_reducible rfl
                  try simp only [Act.put, List.setIfInBounds_toArray, List.set_cons_zero, List.set_cons_succ, List.getElem_toArray, List.getElem_cons_zero, List.getElem_cons_succ]
                  refine wpAnyH_take (i := 26) (oi := _) (v := ?_) rfl (by kernel_rfl) (by kernel_rfl) (by kernel_rfl) (fun _ _ _ h => h) (Or.inl ⟨by rfl, ?_⟩) (by assumption) ?_
                  rotate_left
                  · intro w hSw
                    try dsimp only at hSw
                    go_simp
                    try with_reducible rfl
                  try simp only [Act.put, List.setIfInBounds_toArray, List.set_cons_zero, List.set_cons_succ, List.getElem_toArray, List.getElem_cons_zero, List.getElem_cons_succ]
                  refine wpAnyH_take (i := 27) (oi := _) (v := ?_) rfl (by kernel_rfl) (by kernel_rfl) (by kernel_rfl) (fun _ _ _ h => h) (Or.inl ⟨by rfl, ?_⟩) (by assumption) ?_
                  rotate_left
                  · intro w hSw
                    try dsimp only at hSw
                    go_simp
                    try with_reducible rfl
                  try simp only [Act.put, List.setIfInBounds_toArray, List.set_cons_zero, List.set_cons_succ, List.getElem_toArray, List.getElem_cons_zero, List.getElem_cons_succ]
                  refine wpAnyH_done (by kernel_rfl) ?_ _
                  refine NoPanic.normal ?_
                  go_wp2_with fail
                  go_meet
                  exact ⟨rfl, rfl, hbz⟩
              ·
                go_simp
                refine hK.out _ _ ?_ (fun hHeld => ?_)
                ·
                  exact HF.out _ (by ((repeat' (first | exact Below.refl _ _ | exact hbz | refine Below.drew ?_ | refine Below.alloc ?_ ?_ _)) <;> (first | exact Nat.le_refl _ | omega | (simp; done) | (simp; omega))))
                clear hK K
                try simp only [Act.put, List.setIfInBounds_toArray, List.set_cons_zero, List.set_cons_succ, List.getElem_toArray, List.getElem_cons_zero, List.getElem_cons_succ]
                refine wpAnyH_ready (rs := [9, 13]) (by kernel_rfl) (by simp) ?_
                refine AllReadyH.cons (o := _) rfl (fun K hK => ?_) (AllReadyH.cons (o := _) rfl (fun K hK => ?_) AllReadyH.nil)
                ·
                  try go_simp
                  go_at_call 35
                  refine (HSBY.out _ (by ((repeat' (first | exact Below.refl _ _ | refine Below.drew ?_ | refine Below.alloc ?_ ?_ _)) <;> (first | exact Nat.le_refl _ | omega | (simp; done) | (simp; omega))))).mono ?_
                  rintro e w' ⟨rfl, hw⟩
                  subst hw
                  go_wp2
                  refine hK.out _ _ ?_ (fun hHeld => ?_)
                  ·
                    exact HF.out _ (by ((repeat' (first | exact Below.refl _ _ | exact hbz | refine Below.drew ?_ | refine Below.alloc ?_ ?_ _)) <;> (first | exact Nat.le_refl _ | omega | (simp; done) | (simp; omega))))
                  clear hK K
                  try simp only [Act.put, List.setIfInBounds_toArray, List.set_cons_zero, List.set_cons_succ, List.getElem_toArray, List.getElem_cons_zero, List.getElem_cons_succ]
                  refine wpAnyH_ready (rs := [13]) (by kernel_rfl) (by simp) ?_
                  refine AllReadyH.cons (o := _) rfl (fun K hK => ?_) AllReadyH.nil
                  go_simp
                  refine hK.out _ _ ?_ (fun hHeld => ?_)
                  ·
                    exact HF.out _ (by ((repeat' (first | exact Below.refl _ _ | exact hbz | refine Below.drew ?_ | refine Below.alloc ?_ ?_ _)) <;> (first | exact Nat.le_refl _ | omega | (simp; done) | (simp; omega))))
                  clear hK K
                  try simp only [Act.put, List.setIfInBounds_toArray, List.set_cons_zero, List.set_cons_succ, List.getElem_toArray, List.getElem_cons_zero, List.getElem_cons_succ]
                  refine wpAnyH_ready (rs := [14]) (by kernel_rfl) (by simp) ?_
                  refine AllReadyH.cons (o := _) rfl (fun K hK => ?_) AllReadyH.nil
                  go_simp
                  go_at_call 36
                  first | (with_reducible refine HL1.out.mono ?_) | (with_reducible refine HL2.out.mono ?_)
                  rintro e w9 ⟨rfl, hb9⟩
                  have hbz : Below w4.heap.size w4 w9 := hb9
                  go_wp2
                  refine hK.out _ _ ?_ (fun hHeld => ?_)
                  ·
                    exact HF.out _ (by ((repeat' (first | exact Below.refl _ _ | exact hbz | refine Below.drew ?_ | refine Below.alloc ?_ ?_ _)) <;> (first | exact Nat.le_refl _ | omega | (simp; done) | (simp; omega))))
                  clear hK K
                  try simp only [Act.put, List.setIfInBounds_toArray, List.set_cons_zero, List.set_cons_succ, List.getElem_toArray, List.getElem_cons_zero, List.getElem_cons_succ]
                  refine wpAnyH_take (i := 15) (oi := _) (v := ?_) rfl (by kernel_rfl) (by kernel_rfl) (by kernel_rfl) (fun _ _ _ h => h) (Or.inl ⟨by rfl, ?_⟩) (by assumption) ?_
                  rotate_left
                  · intro w hSw
                    try dsimp only at hSw
                    go_simp
                    try with_reducible rfl
                  try simp only [Act.put, List.setIfInBounds_toArray, List.set_cons_zero, List.set_cons_succ, List.getElem_toArray, List.getElem_cons_zero, List.getElem_cons_succ]
                  refine wpAnyH_take (i := 16) (oi := _) (v := ?_) rfl (by kernel_rfl) (by kernel_rfl) (by kernel_rfl) (fun _ _ _ h => h) (Or.inl ⟨by rfl, ?_⟩) (by assumption) ?_
                  rotate_left
                  · intro w hSw
                    try dsimp only at hSw
                    go_simp
                    try with_reducible rfl
                  try simp only [Act.put, List.setIfInBounds_toArray, List.set_cons_zero, List.set_cons_succ, List.getElem_toArray, List.getElem_cons_zero, List.getElem_cons_succ]
                  refine wpAnyH_take (i := 17) (oi := _) (v := ?_) rfl (by kernel_rfl) (by kernel_rfl) (by kernel_rfl) (fun _ _ _ h => h) (Or.inl ⟨by rfl, ?_⟩) (by assumption) ?_
                  rotate_left
                  · intro w hSw
                    try dsimp only at hSw
                    go_simp
                    try with_reducible rfl
                  try simp only [Act.put, List.setIfInBounds_toArray, List.set_cons_zero, List.set_cons_succ, List.getElem_toArray, List.getElem_cons_zero, List.getElem_cons_succ]
                  refine wpAnyH_take (i := 18) (oi := _) (v := ?_) rfl (by kernel_rfl) (by kernel_rfl) (by kernel_rfl) (fun _ _ _ h => h) (Or.inl ⟨by rfl, ?_⟩) (by assumption) ?_
                  rotate_left
                  · intro w hSw
                    try dsimp only at hSw
                    go_simp
                    try with_reducible rfl
                  try simp only [Act.put, List.setIfInBounds_toArray, List.set_cons_zero, List.set_cons_succ, List.getElem_toArray, List.getElem_cons_zero, List.getElem_cons_succ]
                  refine wpAnyH_take (i := 19) (oi := _) (v := ?_) rfl (by kernel_rfl) (by kernel_rfl) (by kernel_rfl) (fun _ _ _ h => h) (Or.inl ⟨by rfl, ?_⟩) (by assumption) ?_
                  rotate_left
                  · intro w hSw
                    try dsimp only at hSw
                    go_simp
                    try with_reducible rfl
                  try simp only [Act.put, List.setIfInBounds_toArray, List.set_cons_zero, List.set_cons_succ, List.getElem_toArray, List.getElem_cons_zero, List.getElem_cons_succ]
                  refine wpAnyH_take (i := 20) (oi := _) (v := ?_) rfl (by kernel_rfl) (by kernel_rfl) (by kernel_rfl) (fun _ _ _ h => h) (Or.inl ⟨by rfl, ?_⟩) (by assumption) ?_
                  rotate_left
                  · intro w hSw
                    try dsimp only at hSw
                    go_simp
                    try with_reducible rfl
                  try simp only [Act.put, List.setIfInBounds_toArray, List.set_cons_zero, List.set_cons_succ, List.getElem_toArray, List.getElem_cons_zero, List.getElem_cons_succ]
                  refine wpAnyH_take (i := 21) (oi := _) (v := ?_) rfl (by kernel_rfl) (by kernel_rfl) (by kernel_rfl) (fun _ _ _ h => h) (Or.inl ⟨by rfl, ?_⟩) (by assumption) ?_
                  rotate_left
                  · intro w hSw
                    try dsimp only at hSw
                    go_simp
                    try with_reducible rfl
                  try simp only [Act.put, List.setIfInBounds_toArray, List.set_cons_zero, List.set_cons_succ, List.getElem_toArray, List.getElem_cons_zero, List.getElem_cons_succ]
                  refine wpAnyH_take (i := 22) (oi := _) (v := ?_) rfl (by kernel_rfl) (by kernel_rfl) (by kernel_rfl) (fun _ _ _ h => h) (Or.inl ⟨by rfl, ?_⟩) (by assumption) ?_
                  rotate_left
                  · intro w hSw
                    try dsimp only at hSw
                    go_simp
                    try with_reducible rfl
                  try simp only [Act.put, List.setIfInBounds_toArray, List.set_cons_zero, List.set_cons_succ, List.getElem_toArray, List.getElem_cons_zero, List.getElem_cons_succ]
                  refine wpAnyH_take (i := 23) (oi := _) (v := ?_) rfl (by kernel_rfl) (by kernel_rfl) (by kernel_rfl) (fun _ _ _ h => h) (Or.inl ⟨by rfl, ?_⟩) (by assumption) ?_
                  rotate_left
                  · intro w hSw
                    try dsimp only at hSw
                    go_simp
                    try with_reducible rfl
                  try simp only [Act.put, List.setIfInBounds_toArray, List.set_cons_zero, List.set_cons_succ, List.getElem_toArray, List.getElem_cons_zero, List.getElem_cons_succ]
                  refine wpAnyH_take (i := 24) (oi := _) (v := ?_) rfl (by kernel_rfl) (by kernel_rfl) (by kernel_rfl) (fun _ _ _ h => h) (Or.inl ⟨by rfl, ?_⟩) (by assumption) ?_
                  rotate_left
                  · intro w hSw
                    try dsimp only at hSw
                    go_simp
                    try with_reducible rfl
                  try simp only [Act.put, List.setIfInBounds_toArray, List.set_cons_zero, List.set_cons_succ, List.getElem_toArray, List.getElem_cons_zero, List.getElem_cons_succ]
                  refine wpAnyH_take (i := 25) (oi := _) (v := ?_) rfl (by kernel_rfl) (by kernel_rfl) (by kernel_rfl) (fun _ _ _ h => h) (Or.inl ⟨by rfl, ?_⟩) (by assumption) ?_
                  rotate_left
                  · intro w hSw
                    try dsimp only at hSw
                    go_simp
                    try with_reducible rfl
                  try simp only [Act.put, List.setIfInBounds_toArray, List.set_cons_zero, List.set_cons_succ, List.getElem_toArray, List.getElem_cons_zero, List.getElem_cons_succ]
                  refine wpAnyH_take (i := 26) (oi := _) (v := ?_) rfl (by kernel_rfl) (by kernel_rfl) (by kernel_rfl) (fun _ _ _ h => h) (Or.inl ⟨by rfl, ?_⟩) (by assumption) ?_
                  rotate_left
                  · intro w hSw
                    try dsimp only at hSw
                    go_simp
                    try with_reducible rfl
                  try simp only [Act.put, List.setIfInBounds_toArray, List.set_cons_zero, List.set_cons_succ, List.getElem_toArray, List.getElem_cons_zero, List.getElem_cons_succ]
                  refine wpAnyH_take (i := 27) (oi := _) (v := ?_) rfl (by kernel_rfl) (by kernel_rfl) (by kernel_rfl) (fun _ _ _ h => h) (Or.inl ⟨by rfl, ?_⟩) (by assumption) ?_
                  rotate_left
                  · intro w hSw
                    try dsimp only at hSw
                    go_simp
                    try with_reducible rfl
                  try simp only [Act.put, List.setIfInBounds_toArray, List.set_cons_zero, List.set_cons_succ, List.getElem_toArray, List.getElem_cons_zero, List.getElem_cons_succ]
                  refine wpAnyH_done (by kernel_rfl) ?_ _
                  refine NoPanic.normal ?_
                  go_wp2_with fail
                  go_meet
                  exact ⟨rfl, rfl, hbz⟩
                ·
                  go_simp
                  refine hK.out _ _ ?_ (fun hHeld => ?_)
                  ·
                    exact HF.out _ (by ((repeat' (first | exact Below.refl _ _ | exact hbz | refine Below.drew ?_ | refine Below.alloc ?_ ?_ _)) <;> (first | exact Nat.le_refl _ | omega | (simp; done) | (simp; omega))))
                  clear hK K
                  try simp only [Act.put, List.setIfInBounds_toArray, List.set_cons_zero, List.set_cons_succ, List.getElem_toArray, List.getElem_cons_zero, List.getElem_cons_succ]
                  refine wpAnyH_ready (rs := [9]) (by kernel_rfl) (by simp) ?_
                  refine AllReadyH.cons (o := _) rfl (fun K hK => ?_) AllReadyH.nil
                  go_simp
                  try go_simp
                  go_at_call 35
                  refine (HSBY.out _ (by ((repeat' (first | exact Below.refl _ _ | refine Below.drew ?_ | refine Below.alloc ?_ ?_ _)) <;> (first | exact Nat.le_refl _ | omega | (simp; done) | (simp; omega))))).mono ?_
                  rintro e w' ⟨rfl, hw⟩
                  subst hw
                  go_wp2
                  refine hK.out _ _ ?_ (fun hHeld => ?_)
                  ·
                    exact HF.out _ (by ((repeat' (first | exact Below.refl _ _ | exact hbz | refine Below.drew ?_ | refine Below.alloc ?_ ?_ _)) <;> (first | exact Nat.le_refl _ | omega | (simp; done) | (simp; omega))))
                  clear hK K
                  try simp only [Act.put, List.setIfInBounds_toArray, List.set_cons_zero, List.set_cons_succ, List.getElem_toArray, List.getElem_cons_zero, List.getElem_cons_succ]
                  refine wpAnyH_ready (rs := [14]) (by kernel_rfl) (by simp) ?_
                  refine AllReadyH.cons (o := _) rfl (fun K hK => ?_) AllReadyH.nil
                  go_simp
                  go_at_call 36
                  first | (with_reducible refine HL1.out.mono ?_) | (with_reducible refine HL2.out.mono ?_)
                  rintro e w9 ⟨rfl, hb9⟩
                  have hbz : Below w4.heap.size w4 w9 := hb9
                  go_wp2
                  refine hK.out _ _ ?_ (fun hHeld => ?_)
                  ·
                    exact HF.out _ (by ((repeat' (first | exact Below.refl _ _ | exact hbz | refine Below.drew ?_ | refine Below.alloc ?_ ?_ _)) <;> (first | exact Nat.le_refl _ | omega | (simp; done) | (simp; omega))))
                  clear hK K
                  try simp only [Act.put, List.setIfInBounds_toArray, List.set_cons_zero, List.set_cons_succ, List.getElem_toArray, List.getElem_cons_zero, List.getElem_cons_succ]
                  refine wpAnyH_take (i := 15) (oi := _) (v := ?_) rfl (by kernel_rfl) (by kernel_rfl) (by kernel_rfl) (fun _ _ _ h => h) (Or.inl ⟨by rfl, ?_⟩) (by assumption) ?_
                  rotate_left
                  · intro w hSw
                    try dsimp only at hSw
                    go_simp
                    try with_reducible rfl
                  try simp only [Act.put, List.setIfInBounds_toArray, List.set_cons_zero, List.set_cons_succ, List.getElem_toArray, List.getElem_cons_zero, List.getElem_cons_succ]
                  refine wpAnyH_take (i := 16) (oi := _) (v := ?_) rfl (by kernel_rfl) (by kernel_rfl) (by kernel_rfl) (fun _ _ _ h => h) (Or.inl ⟨by rfl, ?_⟩) (by assumption) ?_
                  rotate_left
                  · intro w hSw
                    try dsimp only at hSw
                    go_simp
                    try with_reducible rfl
                  try simp only [Act.put, List.setIfInBounds_toArray, List.set_cons_zero, List.set_cons_succ, List.getElem_toArray, List.getElem_cons_zero, List.getElem_cons_succ]
                  refine wpAnyH_take (i := 17) (oi := _) (v := ?_) rfl (by kernel_rfl) (by kernel_rfl) (by kernel_rfl) (fun _ _ _ h => h) (Or.inl ⟨by rfl, ?_⟩) (by assumption) ?_
                  rotate_left
                  · intro w hSw
                    try dsimp only at hSw
                    go_simp
                    try with_reducible rfl
                  try simp only [Act.put, List.setIfInBounds_toArray, List.set_cons_zero, List.set_cons_succ, List.getElem_toArray, List.getElem_cons_zero, List.getElem_cons_succ]
                  refine wpAnyH_take (i := 18) (oi := _) (v := ?_) rfl (by kernel_rfl) (by kernel_rfl) (by kernel_rfl) (fun _ _ _ h => h) (Or.inl ⟨by rfl, ?_⟩) (by assumption) ?_
                  rotate_left
                  · intro w hSw
                    try dsimp only at hSw
                    go_simp
                    try with_reducible rfl
                  try simp only [Act.put, List.setIfInBounds_toArray, List.set_cons_zero, List.set_cons_succ, List.getElem_toArray, List.getElem_cons_zero, List.getElem_cons_succ]
                  refine wpAnyH_take (i := 19) (oi := _) (v := ?_) rfl (by kernel_rfl) (by kernel_rfl) (by kernel_rfl) (fun _ _ _ h => h) (Or.inl ⟨by rfl, ?_⟩) (by assumption) ?_
                  rotate_left
                  · intro w hSw
                    try dsimp only at hSw
                    go_simp
                    try with_reducible rfl
                  try simp only [Act.put, List.setIfInBounds_toArray, List.set_cons_zero, List.set_cons_succ, List.getElem_toArray, List.getElem_cons_zero, List.getElem_cons_succ]
                  refine wpAnyH_take (i := 20) (oi := _) (v := ?_) rfl (by kernel_rfl) (by kernel_rfl) (by kernel_rfl) (fun _ _ _ h => h) (Or.inl ⟨by rfl, ?_⟩) (by assumption) ?_
                  rotate_left
                  · intro w hSw
                    try dsimp only at hSw
                    go_simp
                    try with_reducible rfl
                  try simp only [Act.put, List.setIfInBounds_toArray, List.set_cons_zero, List.set_cons_succ, List.getElem_toArray, List.getElem_cons_zero, List.getElem_cons_succ]
                  refine wpAnyH_take (i := 21) (oi := _) (v := ?_) rfl (by kernel_rfl) (by kernel_rfl) (by kernel_rfl) (fun _ _ _ h => h) (Or.inl ⟨by rfl, ?_⟩) (by assumption) ?_
                  rotate_left
                  · intro w hSw
                    try dsimp only at hSw
                    go_simp
                    try with_reducible rfl
                  try simp only [Act.put, List.setIfInBounds_toArray, List.set_cons_zero, List.set_cons_succ, List.getElem_toArray, List.getElem_cons_zero, List.getElem_cons_succ]
                  refine wpAnyH_take (i := 22) (oi := _) (v := ?_) rfl (by kernel_rfl) (by kernel_rfl) (by kernel_rfl) (fun _ _ _ h => h) (Or.inl ⟨by rfl, ?_⟩) (by assumption) ?_
                  rotate_left
                  · intro w hSw
                    try dsimp only at hSw
                    go_simp
                    try with_reducible rfl
                  try simp only [Act.put, List.setIfInBounds_toArray, List.set_cons_zero, List.set_cons_succ, List.getElem_toArray, List.getElem_cons_zero, List.getElem_cons_succ]
                  refine wpAnyH_take (i := 23) (oi := _) (v := ?_) rfl (by kernel_rfl) (by kernel_rfl) (by kernel_rfl) (fun _ _ _ h => h) (Or.inl ⟨by rfl, ?_⟩) (by assumption) ?_
                  rotate_left
                  · intro w hSw
                    try dsimp only at hSw
                    go_simp
                    try with_reducible rfl
                  try simp only [Act.put, List.setIfInBounds_toArray, List.set_cons_zero, List.set_cons_succ, List.getElem_toArray, List.getElem_cons_zero, List.getElem_cons_succ]
                  refine wpAnyH_take (i := 24) (oi := _) (v := ?_) rfl (by kernel_rfl) (by kernel_rfl) (by kernel_rfl) (fun _ _ _ h => h) (Or.inl ⟨by rfl, ?_⟩) (by assumption) ?_
                  rotate_left
                  · intro w hSw
                    try dsimp only at hSw
                    go_simp
                    try with_reducible rfl
                  try simp only [Act.put, List.setIfInBounds_toArray, List.set_cons_zero, List.set_cons_succ, List.getElem_toArray, List.getElem_cons_zero, List.getElem_cons_succ]
                  refine wpAnyH_take (i := 25) (oi := _) (v := ?_) rfl (by kernel_rfl) (by kernel_rfl) (by kernel_rfl) (fun _ _ _ h => h) (Or.inl ⟨by rfl, ?_⟩) (by assumption) ?_
                  rotate_left
                  · intro w hSw
                    try dsimp only at hSw
                    go_simp
                    try with_reducible rfl
                  try simp only [Act.put, List.setIfInBounds_toArray, List.set_cons_zero, List.set_cons_succ, List.getElem_toArray, List.getElem_cons_zero, List.getElem_cons_succ]
                  refine wpAnyH_take (i := 26) (oi := _) (v := ?_) rfl (by kernel_rfl) (by kernel_rfl) (by kernel_rfl) (fun _ _ _ h => h) (Or.inl ⟨by rfl, ?_⟩) (by assumption) ?_
                  rotate_left
                  · intro w hSw
                    try dsimp only at hSw
                    go_simp
                    try with_reducible rfl
                  try simp only [Act.put, List.setIfInBounds_toArray, List.set_cons_zero, List.set_cons_succ, List.getElem_toArray, List.getElem_cons_zero, List.getElem_cons_succ]
                  refine wpAnyH_take (i := 27) (oi := _) (v := ?_) rfl (by kernel_rfl) (by kernel_rfl) (by kernel_rfl) (fun _ _ _ h => h) (Or.inl ⟨by rfl, ?_⟩) (by assumption) ?_
                  rotate_left
                  · intro w hSw
                    try dsimp only at hSw
                    go_simp
                    try with_reducible rfl
                  try simp only [Act.put, List.setIfInBounds_toArray, List.set_cons_zero, List.set_cons_succ, List.getElem_toArray, List.getElem_cons_zero, List.getElem_cons_succ]
                  refine wpAnyH_done (by kernel_rfl) ?_ _
                  refine NoPanic.normal ?_
                  go_wp2_with fail
                  go_meet
                  exact ⟨rfl, rfl, hbz⟩
              ·
                go_simp
                refine hK.out _ _ ?_ (fun hHeld => ?_)
                ·
                  exact HF.out _ (by ((repeat' (first | exact Below.refl _ _ | exact hbz | refine Below.drew ?_ | refine Below.alloc ?_ ?_ _)) <;> (first | exact Nat.le_refl _ | omega | (simp; done) | (simp; omega))))
                clear hK K
                try simp only [Act.put, List.setIfInBounds_toArray, List.set_cons_zero, List.set_cons_succ, List.getElem_toArray, List.getElem_cons_zero, List.getElem_cons_succ]
                refine wpAnyH_ready (rs := [9, 11]) (by kernel_rfl) (by simp) ?_
                refine AllReadyH.cons (o := _) rfl (fun K hK => ?_) (AllReadyH.cons (o := _) rfl (fun K hK => ?_) AllReadyH.nil)
                ·
                  try go_simp
                  go_at_call 35
                  refine (HSBY.out _ (by ((repeat' (first | exact Below.refl _ _ | refine Below.drew ?_ | refine Below.alloc ?_ ?_ _)) <;> (first | exact Nat.le_refl _ | omega | (simp; done) | (simp; omega))))).mono ?_
                  rintro e w' ⟨rfl, hw⟩
                  subst hw
                  go_wp2
                  refine hK.out _ _ ?_ (fun hHeld => ?_)
                  ·
                    exact HF.out _ (by ((repeat' (first | exact Below.refl _ _ | exact hbz | refine Below.drew ?_ | refine Below.alloc ?_ ?_ _)) <;> (first | exact Nat.le_refl _ | omega | (simp; done) | (simp; omega))))
                  clear hK K
                  try simp only [Act.put, List.setIfInBounds_toArray, List.set_cons_zero, List.set_cons_succ, List.getElem_toArray, List.getElem_cons_zero, List.getElem_cons_succ]
                  refine wpAnyH_ready (rs := [11]) (by kernel_rfl) (by simp) ?_
                  refine AllReadyH.cons (o := _) rfl (fun K hK => ?_) AllReadyH.nil
                  go_simp
                  refine hK.out _ _ ?_ (fun hHeld => ?_)
                  ·
                    exact HF.out _ (by ((repeat' (first | exact Below.refl _ _ | exact hbz | refine Below.drew ?_ | refine Below.alloc ?_ ?_ _)) <;> (first | exact Nat.le_refl _ | omega | (simp; done) | (simp; omega))))
                  clear hK K
                  try simp only [Act.put, List.setIfInBounds_toArray, List.set_cons_zero, List.set_cons_succ, List.getElem_toArray, List.getElem_cons_zero, List.getElem_cons_succ]
                  refine wpAnyH_ready (rs := [14]) (by kernel_rfl) (by simp) ?_
                  refine AllReadyH.cons (o := _) rfl (fun K hK => ?_) AllReadyH.nil
                  go_simp
                  go_at_call 36
                  first | (with_reducible refine HL1.out.mono ?_) | (with_reducible refine HL2.out.mono ?_)
                  rintro e w9 ⟨rfl, hb9⟩
                  have hbz : Below w4.heap.size w4 w9 := hb9
                  go_wp2
                  refine hK.out _ _ ?_ (fun hHeld => ?_)
                  ·
                    exact HF.out _ (by ((repeat' (first | exact Below.refl _ _ | exact hbz | refine Below.drew ?_ | refine Below.alloc ?_ ?_ _)) <;> (first | exact Nat.le_refl _ | omega | (simp; done) | (simp; omega))))
                  clear hK K
                  try simp only [Act.put, List.setIfInBounds_toArray, List.set_cons_zero, List.set_cons_succ, List.getElem_toArray, List.getElem_cons_zero, List.getElem_cons_succ]
                  refine wpAnyH_take (i := 15) (oi := _) (v := ?_) rfl (by kernel_rfl) (by kernel_rfl) (by kernel_rfl) (fun _ _ _ h => h) (Or.inl ⟨by rfl, ?_⟩) (by assumption) ?_
                  rotate_left
                  · intro w hSw
                    try dsimp only at hSw
                    go_simp
                    try with_reducible rfl
                  try simp only [Act.put, List.setIfInBounds_toArray, List.set_cons_zero, List.set_cons_succ, List.getElem_toArray, List.getElem_cons_zero, List.getElem_cons_succ]
                  refine wpAnyH_take (i := 16) (oi := _) (v := ?_) rfl (by kernel_rfl) (by kernel_rfl) (by kernel_rfl) (fun _ _ _ h => h) (Or.inl ⟨by rfl, ?_⟩) (by assumption) ?_
                  rotate_left
                  · intro w hSw
                    try dsimp only at hSw
                    go_simp
                    try with_reducible rfl
                  try simp only [Act.put, List.setIfInBounds_toArray, List.set_cons_zero, List.set_cons_succ, List.getElem_toArray, List.getElem_cons_zero, List.getElem_cons_succ]
                  refine wpAnyH_take (i := 17) (oi := _) (v := ?_) rfl (by kernel_rfl) (by kernel_rfl) (by kernel_rfl) (fun _ _ _ h => h) (Or.inl ⟨by rfl, ?_⟩) (by assumption) ?_
                  rotate_left
                  · intro w hSw
                    try dsimp only at hSw
                    go_simp
                    try with_reducible rfl
                  try simp only [Act.put, List.setIfInBounds_toArray, List.set_cons_zero, List.set_cons_succ, List.getElem_toArray, List.getElem_cons_zero, List.getElem_cons_succ]
                  refine wpAnyH_take (i := 18) (oi := _) (v := ?_) rfl (by kernel_rfl) (by kernel_rfl) (by kernel_rfl) (fun _ _ _ h => h) (Or.inl ⟨by rfl, ?_⟩) (by assumption) ?_
                  rotate_left
                  · intro w hSw
                    try dsimp only at hSw
                    go_simp
                    try with_reducible rfl
                  try simp only [Act.put, List.setIfInBounds_toArray, List.set_cons_zero, List.set_cons_succ, List.getElem_toArray, List.getElem_cons_zero, List.getElem_cons_succ]
                  refine wpAnyH_take (i := 19) (oi := _) (v := ?_) rfl (by kernel_rfl) (by kernel_rfl) (by kernel_rfl) (fun _ _ _ h => h) (Or.inl ⟨by rfl, ?_⟩) (by assumption) ?_
                  rotate_left
                  · intro w hSw
                    try dsimp only at hSw
                    go_simp
                    try with_reducible rfl
                  try simp only [Act.put, List.setIfInBounds_toArray, List.set_cons_zero, List.set_cons_succ, List.getElem_toArray, List.getElem_cons_zero, List.getElem_cons_succ]
                  refine wpAnyH_take (i := 20) (oi := _) (v := ?_) rfl (by kernel_rfl) (by kernel_rfl) (by kernel_rfl) (fun _ _ _ h => h) (Or.inl ⟨by rfl, ?_⟩) (by assumption) ?_
                  rotate_left
                  · intro w hSw
                    try dsimp only at hSw
                    go_simp
                    try with_reducible rfl
                  try simp only [Act.put, List.setIfInBounds_toArray, List.set_cons_zero, List.set_cons_succ, List.getElem_toArray, List.getElem_cons_zero, List.getElem_cons_succ]
                  refine wpAnyH_take (i := 21) (oi := _) (v := ?_) rfl (by kernel_rfl) (by kernel_rfl) (by kernel_rfl) (fun _ _ _ h => h) (Or.inl ⟨by rfl, ?_⟩) (by assumption) ?_
                  rotate_left
                  · intro w hSw
                    try dsimp only at hSw
                    go_simp
                    try with_reducible rfl
                  try simp only [Act.put, List.setIfInBounds_toArray, List.set_cons_zero, List.set_cons_succ, List.getElem_toArray, List.getElem_cons_zero, List.getElem_cons_succ]
                  refine wpAnyH_take (i := 22) (oi := _) (v := ?_) rfl (by kernel_rfl) (by kernel_rfl) (by kernel_rfl) (fun _ _ _ h => h) (Or.inl ⟨by rfl, ?_⟩) (by assumption) ?_
                  rotate_left
                  · intro w hSw
                    try dsimp only at hSw
                    go_simp
                    try with_reducible rfl
                  try simp only [Act.put, List.setIfInBounds_toArray, List.set_cons_zero, List.set_cons_succ, List.getElem_toArray, List.getElem_cons_zero, List.getElem_cons_succ]
                  refine wpAnyH_take (i := 23) (oi := _) (v := ?_) rfl (by kernel_rfl) (by kernel_rfl) (by kernel_rfl) (fun _ _ _ h => h) (Or.inl ⟨by rfl, ?_⟩) (by assumption) ?_
                  rotate_left
                  · intro w hSw
                    try dsimp only at hSw
                    go_simp
                    try with_reducible rfl
                  try simp only [Act.put, List.setIfInBounds_toArray, List.set_cons_zero, List.set_cons_succ, List.getElem_toArray, List.getElem_cons_zero, List.getElem_cons_succ]
                  refine wpAnyH_take (i := 24) (oi := _) (v := ?_) rfl (by kernel_rfl) (by kernel_rfl) (by kernel_rfl) (fun _ _ _ h => h) (Or.inl ⟨by rfl, ?_⟩) (by assumption) ?_
                  rotate_left
                  · intro w hSw
                    try dsimp only at hSw
                    go_simp
                    try with_reducible rfl
                  try simp only [Act.put, List.setIfInBounds_toArray, List.set_cons_zero, List.set_cons_succ, List.getElem_toArray, List.getElem_cons_zero, List.getElem_cons_succ]
                  refine wpAnyH_take (i := 25) (oi := _) (v := ?_) rfl (by kernel_rfl) (by kernel_rfl) (by kernel_rfl) (fun _ _ _ h => h) (Or.inl ⟨by rfl, ?_⟩) (by assumption) ?_
                  rotate_left
                  · intro w hSw
                    try dsimp only at hSw
                    go_simp
                    try with_reducible rfl
                  try simp only [Act.put, List.setIfInBounds_toArray, List.set_cons_zero, List.set_cons_succ, List.getElem_toArray, List.getElem_cons_zero, List.getElem_cons_succ]
                  refine wpAnyH_take (i := 26) (oi := _) (v := ?_) rfl (by kernel_rfl) (by kernel_rfl) (by kernel_rfl) (fun _ _ _ h => h) (Or.inl ⟨by rfl, ?_⟩) (by assumption) ?_
                  rotate_left
                  · intro w hSw
                    try dsimp only at hSw
                    go_simp
                    try with_reducible rfl
                  try simp only [Act.put, List.setIfInBounds_toArray, List.set_cons_zero, List.set_cons_succ, List.getElem_toArray, List.getElem_cons_zero, List.getElem_cons_succ]
                  refine wpAnyH_take (i := 27) (oi := _) (v := ?_) rfl (by kernel_rfl) (by kernel_rfl) (by kernel_rfl) (fun _ _ _ h => h) (Or.inl ⟨by rfl, ?_⟩) (by assumption) ?_
                  rotate_left
                  · intro w hSw
                    try dsimp only at hSw
                    go_simp
                    try with_reducible rfl
                  try simp only [Act.put, List.setIfInBounds_toArray, List.set_cons_zero, List.set_cons_succ, List.getElem_toArray, List.getElem_cons_zero, List.getElem_cons_succ]
                  refine wpAnyH_done (by kernel_rfl) ?_ _
                  refine NoPanic.normal ?_
                  go_wp2_with fail
                  go_meet
                  exact ⟨rfl, rfl, hbz⟩
                ·
                  go_simp
                  refine hK.out _ _ ?_ (fun hHeld => ?_)
                  ·
                    exact HF.out _ (by ((repeat' (first | exact Below.refl _ _ | exact hbz | refine Below.drew ?_ | refine Below.alloc ?_ ?_ _)) <;> (first | exact Nat.le_refl _ | omega | (simp; done) | (simp; omega))))
                  clear hK K
                  try simp only [Act.put, List.setIfInBounds_toArray, List.set_cons_zero, List.set_cons_succ, List.getElem_toArray, List.getElem_cons_zero, List.getElem_cons_succ]
                  refine wpAnyH_ready (rs := [9]) (by kernel_rfl) (by simp) ?_
                  refine AllReadyH.cons (o := _) rfl (fun K hK => ?_) AllReadyH.nil
                  go_simp
                  try go_simp
                  go_at_call 35
                  refine (HSBY.out _ (by ((repeat' (first | exact Below.refl _ _ | refine Below.drew ?_ | refine Below.alloc ?_ ?_ _)) <;> (first | exact Nat.le_refl _ | omega | (simp; done) | (simp; omega))))).mono ?_
                  rintro e w' ⟨rfl, hw⟩
                  subst hw
                  go_wp2
                  refine hK.out _ _ ?_ (fun hHeld => ?_)
                  ·
                    exact HF.out _ (by ((repeat' (first | exact Below.refl _ _ | exact hbz | refine Below.drew ?_ | refine Below.alloc ?_ ?_ _)) <;> (first | exact Nat.le_refl _ | omega | (simp; done) | (simp; omega))))
                  clear hK K
                  try simp only [Act.put, List.setIfInBounds_toArray, List.set_cons_zero, List.set_cons_succ, List.getElem_toArray, List.getElem_cons_zero, List.getElem_cons_succ]
                  refine wpAnyH_ready (rs := [14]) (by kernel_rfl) (by simp) ?_
                  refine AllReadyH.cons (o := _) rfl (fun K hK => ?_) AllReadyH.nil
                  go_simp
                  go_at_call 36
                  first | (with_reducible refine HL1.out.mono ?_) | (with_reducible refine HL2.out.mono ?_)
                  rintro e w9 ⟨rfl, hb9⟩
                  have hbz : Below w4.heap.size w4 w9 := hb9
                  go_wp2
                  refine hK.out _ _ ?_ (fun hHeld => ?_)
                  ·
                    exact HF.out _ (by ((repeat' (first | exact Below.refl _ _ | exact hbz | refine Below.drew ?_ | refine Below.alloc ?_ ?_ _)) <;> (first | exact Nat.le_refl _ | omega | (simp; done) | (simp; omega))))
                  clear hK K
                  try simp only [Act.put, List.setIfInBounds_toArray, List.set_cons_zero, List.set_cons_succ, List.getElem_toArray, List.getElem_cons_zero, List.getElem_cons_succ]
                  refine wpAnyH_take (i := 15) (oi := _) (v := ?_) rfl (by kernel_rfl) (by kernel_rfl) (by kernel_rfl) (fun _ _ _ h => h) (Or.inl ⟨by rfl, ?_⟩) (by assumption) ?_
                  rotate_left
                  · intro w hSw
                    try dsimp only at hSw
                    go_simp
                    try with_reducible rfl
                  try simp only [Act.put, List.setIfInBounds_toArray, List.set_cons_zero, List.set_cons_succ, List.getElem_toArray, List.getElem_cons_zero, List.getElem_cons_succ]
                  refine wpAnyH_take (i := 16) (oi := _) (v := ?_) rfl (by kernel_rfl) (by kernel_rfl) (by kernel_rfl) (fun _ _ _ h => h) (Or.inl ⟨by rfl, ?_⟩) (by assumption) ?_
                  rotate_left
                  · intro w hSw
                    try dsimp only at hSw
                    go_simp
                    try with_reducible rfl
                  try simp only [Act.put, List.setIfInBounds_toArray, List.set_cons_zero, List.set_cons_succ, List.getElem_toArray, List.getElem_cons_zero, List.getElem_cons_succ]
                  refine wpAnyH_take (i := 17) (oi := _) (v := ?_) rfl (by kernel_rfl) (by kernel_rfl) (by kernel_rfl) (fun _ _ _ h => h) (Or.inl ⟨by rfl, ?_⟩) (by assumption) ?_
                  rotate_left
                  · intro w hSw
                    try dsimp only at hSw
                    go_simp
                    try with_reducible rfl
                  try simp only [Act.put, List.setIfInBounds_toArray, List.set_cons_zero, List.set_cons_succ, List.getElem_toArray, List.getElem_cons_zero, List.getElem_cons_succ]
                  refine wpAnyH_take (i := 18) (oi := _) (v := ?_) rfl (by kernel_rfl) (by kernel_rfl) (by kernel_rfl) (fun _ _ _ h => h) (Or.inl ⟨by rfl, ?_⟩) (by assumption) ?_
                  rotate_left
                  · intro w hSw
                    try dsimp only at hSw
                    go_simp
                    try with_reducible rfl
                  try simp only [Act.put, List.setIfInBounds_toArray, List.set_cons_zero, List.set_cons_succ, List.getElem_toArray, List.getElem_cons_zero, List.getElem_cons_succ]
                  refine wpAnyH_take (i := 19) (oi := _) (v := ?_) rfl (by kernel_rfl) (by kernel_rfl) (by kernel_rfl) (fun _ _ _ h => h) (Or.inl ⟨by rfl, ?_⟩) (by assumption) ?_
                  rotate_left
                  · intro w hSw
                    try dsimp only at hSw
                    go_simp
                    try with_reducible rfl
                  try simp only [Act.put, List.setIfInBounds_toArray, List.set_cons_zero, List.set_cons_succ, List.getElem_toArray, List.getElem_cons_zero, List.getElem_cons_succ]
                  refine wpAnyH_take (i := 20) (oi := _) (v := ?_) rfl (by kernel_rfl) (by kernel_rfl) (by kernel_rfl) (fun _ _ _ h => h) (Or.inl ⟨by rfl, ?_⟩) (by assumption) ?_
                  rotate_left
                  · intro w hSw
                    try dsimp only at hSw
                    go_simp
                    try with_reducible rfl
                  try simp only [Act.put, List.setIfInBounds_toArray, List.set_cons_zero, List.set_cons_succ, List.getElem_toArray, List.getElem_cons_zero, List.getElem_cons_succ]
                  refine wpAnyH_take (i := 21) (oi := _) (v := ?_) rfl (by kernel_rfl) (by kernel_rfl) (by kernel_rfl) (fun _ _ _ h => h) (Or.inl ⟨by rfl, ?_⟩) (by assumption) ?_
                  rotate_left
                  · intro w hSw
                    try dsimp only at hSw
                    go_simp
                    try with_reducible rfl
                  try simp only [Act.put, List.setIfInBounds_toArray, List.set_cons_zero, List.set_cons_succ, List.getElem_toArray, List.getElem_cons_zero, List.getElem_cons_succ]
                  refine wpAnyH_take (i := 22) (oi := _) (v := ?_) rfl (by kernel_rfl) (by kernel_rfl) (by kernel_rfl) (fun _ _ _ h => h) (Or.inl ⟨by rfl, ?_⟩) (by assumption) ?_
                  rotate_left
                  · intro w hSw
                    try dsimp only at hSw
                    go_simp
                    try with_reducible rfl
                  try simp only [Act.put, List.setIfInBounds_toArray, List.set_cons_zero, List.set_cons_succ, List.getElem_toArray, List.getElem_cons_zero, List.getElem_cons_succ]
                  refine wpAnyH_take (i := 23) (oi := _) (v := ?_) rfl (by kernel_rfl) (by kernel_rfl) (by kernel_rfl) (fun _ _ _ h => h) (Or.inl ⟨by rfl, ?_⟩) (by assumption) ?_
                  rotate_left
                  · intro w hSw
                    try dsimp only at hSw
                    go_simp
                    try with_reducible rfl
                  try simp only [Act.put, List.setIfInBounds_toArray, List.set_cons_zero, List.set_cons_succ, List.getElem_toArray, List.getElem_cons_zero, List.getElem_cons_succ]
                  refine wpAnyH_take (i := 24) (oi := _) (v := ?_) rfl (by kernel_rfl) (by kernel_rfl) (by kernel_rfl) (fun _ _ _ h => h) (Or.inl ⟨by rfl, ?_⟩) (by assumption) ?_
                  rotate_left
                  · intro w hSw
                    try dsimp only at hSw
                    go_simp
                    try with_reducible rfl
                  try simp only [Act.put, List.setIfInBounds_toArray, List.set_cons_zero, List.set_cons_succ, List.getElem_toArray, List.getElem_cons_zero, List.getElem_cons_succ]
                  refine wpAnyH_take (i := 25) (oi := _) (v := ?_) rfl (by kernel_rfl) (by kernel_rfl) (by kernel_rfl) (fun _ _ _ h => h) (Or.inl ⟨by rfl, ?_⟩) (by assumption) ?_
                  rotate_left
                  · intro w hSw
                    try dsimp only at hSw
                    go_simp
                    try with_reducible rfl
                  try simp only [Act.put, List.setIfInBounds_toArray, List.set_cons_zero, List.set_cons_succ, List.getElem_toArray, List.getElem_cons_zero, List.getElem_cons_succ]
                  refine wpAnyH_take (i := 26) (oi := _) (v := ?_) rfl (by kernel_rfl) (by kernel_rfl) (by kernel_rfl) (fun _ _ _ h => h) (Or.inl ⟨by rfl, ?_⟩) (by assumption) ?_
                  rotate_left
                  · intro w hSw
                    try dsimp only at hSw
                    go_simp
                    try with_reducible rfl
                  try simp only [Act.put, List.setIfInBounds_toArray, List.set_cons_zero, List.set_cons_succ, List.getElem_toArray, List.getElem_cons_zero, List.getElem_cons_succ]
                  refine wpAnyH_take (i := 27) (oi := _) (v := ?_) rfl (by kernel_rfl) (by kernel_rfl) (by kernel_rfl) (fun _ _ _ h => h) (Or.inl ⟨by rfl, ?_⟩) (by assumption) ?_
                  rotate_left
                  · intro w hSw
                    try dsimp only at hSw
                    go_simp
                    try with_reducible rfl
                  try simp only [Act.put, List.setIfInBounds_toArray, List.set_cons_zero, List.set_cons_succ, List.getElem_toArray, List.getElem_cons_zero, List.getElem_cons_succ]
                  refine wpAnyH_done (by kernel_rfl) ?_ _
                  refine NoPanic.normal ?_
                  go_wp2_with fail
                  go_meet
                  exact ⟨rfl, rfl, hbz⟩
            · have he2 : (ey == 0) = false := by simpa using hey
              clear hey
              refine wp_region_noPanic ?_
              refine wp_region_held_drew (S := (fun w' => True)) (by kernel_rfl) ?_ (fun hHeld => ?_)
              · trivial
              refine wpAnyH_take (i := 0) (oi := _) (v := ?_) rfl (by kernel_rfl) (by kernel_rfl) (by kernel_rfl) (fun _ _ _ h => h) (Or.inl ⟨by rfl, ?_⟩) (by assumption) ?_
              rotate_left
              · intro w hSw
                try dsimp only at hSw
                go_simp
                try with_reducible rfl
              try simp only [Act.put, List.setIfInBounds_toArray, List.set_cons_zero, List.set_cons_succ, List.getElem_toArray, List.getElem_cons_zero, List.getElem_cons_succ]
              refine wpAnyH_take (i := 1) (oi := _) (v := ?_) rfl (by kernel_rfl) (by kernel_rfl) (by kernel_rfl) (fun _ _ _ h => h) (Or.inl ⟨by rfl, ?_⟩) (by assumption) ?_
              rotate_left
              · intro w hSw
                try dsimp only at hSw
                go_simp
                try with_reducible rfl
              try simp only [Act.put, List.setIfInBounds_toArray, List.set_cons_zero, List.set_cons_succ, List.getElem_toArray, List.getElem_cons_zero, List.getElem_cons_succ]
              refine wpAnyH_take (i := 2) (oi := _) (v := ?_) rfl (by kernel_rfl) (by kernel_rfl) (by kernel_rfl) (fun _ _ _ h => h) (Or.inl ⟨by rfl, ?_⟩) (by assumption) ?_
              rotate_left
              · intro w hSw
                try dsimp only at hSw
                go_simp
                try with_reducible rfl
              try simp only [Act.put, List.setIfInBounds_toArray, List.set_cons_zero, List.set_cons_succ, List.getElem_toArray, List.getElem_cons_zero, List.getElem_cons_succ]
              refine wpAnyH_take (i := 3) (oi := _) (v := ?_) rfl (by kernel_rfl) (by kernel_rfl) (by kernel_rfl) (fun _ _ _ h => h) (Or.inl ⟨by rfl, ?_⟩) (by assumption) ?_
              rotate_left
              · intro w hSw
                try dsimp only at hSw
                go_simp
                try with_reducible rfl
              try simp only [Act.put, List.setIfInBounds_toArray, List.set_cons_zero, List.set_cons_succ, List.getElem_toArray, List.getElem_cons_zero, List.getElem_cons_succ]
              refine wpAnyH_take (i := 4) (oi := _) (v := ?_) rfl (by kernel_rfl) (by kernel_rfl) (by kernel_rfl) (fun _ _ _ h => h) (Or.inl ⟨by rfl, ?_⟩) (by assumption) ?_
              rotate_left
              · intro w hSw
                try dsimp only at hSw
                go_simp
                try with_reducible rfl
              try simp only [Act.put, List.setIfInBounds_toArray, List.set_cons_zero, List.set_cons_succ, List.getElem_toArray, List.getElem_cons_zero, List.getElem_cons_succ]
              refine wpAnyH_take (i := 5) (oi := _) (v := ?_) rfl (by kernel_rfl) (by kernel_rfl) (by kernel_rfl) (fun _ _ _ h => h) (Or.inl ⟨by rfl, ?_⟩) (by assumption) ?_
              rotate_left
              · intro w hSw
                try dsimp only at hSw
                go_simp
                try with_reducible rfl
              try simp only [Act.put, List.setIfInBounds_toArray, List.set_cons_zero, List.set_cons_succ, List.getElem_toArray, List.getElem_cons_zero, List.getElem_cons_succ]
              refine wpAnyH_take (i := 6) (oi := _) (v := ?_) rfl (by kernel_rfl) (by kernel_rfl) (by kernel_rfl) (fun _ _ _ h => h) (Or.inl ⟨by rfl, ?_⟩) (by assumption) ?_
              rotate_left
              · intro w hSw
                try dsimp only at hSw
                go_simp
                try with_reducible rfl
              try simp only [Act.put, List.setIfInBounds_toArray, List.set_cons_zero, List.set_cons_succ, List.getElem_toArray, List.getElem_cons_zero, List.getElem_cons_succ]
              refine wpAnyH_take (i := 7) (oi := _) (v := undef) rfl (by kernel_rfl) (by kernel_rfl) (by kernel_rfl) (fun _ _ _ h => h) (Or.inr ⟨by kernel_rfl, rfl⟩) (by assumption) ?_
              try simp only [Act.put, List.setIfInBounds_toArray, List.set_cons_zero, List.set_cons_succ, List.getElem_toArray, List.getElem_cons_zero, List.getElem_cons_succ]
              refine wpAnyH_take (i := 8) (oi := _) (v := undef) rfl (by kernel_rfl) (by kernel_rfl) (by kernel_rfl) (fun _ _ _ h => h) (Or.inr ⟨by kernel_rfl, rfl⟩) (by assumption) ?_
              try simp only [Act.put, List.setIfInBounds_toArray, List.set_cons_zero, List.set_cons_succ, List.getElem_toArray, List.getElem_cons_zero, List.getElem_cons_succ]
              refine wpAnyH_take (i := 9) (oi := _) (v := undef) rfl (by kernel_rfl) (by kernel_rfl) (by kernel_rfl) (fun _ _ _ h => h) (Or.inr ⟨by kernel_rfl, rfl⟩) (by assumption) ?_
              try simp only [Act.put, List.setIfInBounds_toArray, List.set_cons_zero, List.set_cons_succ, List.getElem_toArray, List.getElem_cons_zero, List.getElem_cons_succ]
              refine wpAnyH_take (i := 10) (oi := _) (v := undef) rfl (by kernel_rfl) (by kernel_rfl) (by kernel_rfl) (fun _ _ _ h => h) (Or.inr ⟨by kernel_rfl, rfl⟩) (by assumption) ?_
              try simp only [Act.put, List.setIfInBounds_toArray, List.set_cons_zero, List.set_cons_succ, List.getElem_toArray, List.getElem_cons_zero, List.getElem_cons_succ]
              refine wpAnyH_take (i := 11) (oi := _) (v := undef) rfl (by kernel_rfl) (by kernel_rfl) (by kernel_rfl) (fun _ _ _ h => h) (Or.inr ⟨by kernel_rfl, rfl⟩) (by assumption) ?_
              try simp only [Act.put, List.setIfInBounds_toArray, List.set_cons_zero, List.set_cons_succ, List.getElem_toArray, List.getElem_cons_zero, List.getElem_cons_succ]
              refine wpAnyH_take (i := 12) (oi := _) (v := undef) rfl (by kernel_rfl) (by kernel_rfl) (by kernel_rfl) (fun _ _ _ h => h) (Or.inr ⟨by kernel_rfl, rfl⟩) (by assumption) ?_
              try simp only [Act.put, List.setIfInBounds_toArray, List.set_cons_zero, List.set_cons_succ, List.getElem_toArray, List.getElem_cons_zero, List.getElem_cons_succ]
              refine wpAnyH_take (i := 13) (oi := _) (v := undef) rfl (by kernel_rfl) (by kernel_rfl) (by kernel_rfl) (fun _ _ _ h => h) (Or.inr ⟨by kernel_rfl, rfl⟩) (by assumption) ?_
              try simp only [Act.put, List.setIfInBounds_toArray, List.set_cons_zero, List.set_cons_succ, List.getElem_toArray, List.getElem_cons_zero, List.getElem_cons_succ]
              refine wpAnyH_take (i := 14) (oi := _) (v := undef) rfl (by kernel_rfl) (by kernel_rfl) (by kernel_rfl) (fun _ _ _ h => h) (Or.inr ⟨by kernel_rfl, rfl⟩) (by assumption) ?_
              try simp only [Act.put, List.setIfInBounds_toArray, List.set_cons_zero, List.set_cons_succ, List.getElem_toArray, List.getElem_cons_zero, List.getElem_cons_succ]
              refine wpAnyH_take (i := 15) (oi := _) (v := undef) rfl (by kernel_rfl) (by kernel_rfl) (by kernel_rfl) (fun _ _ _ h => h) (Or.inr ⟨by kernel_rfl, rfl⟩) (by assumption) ?_
              try simp only [Act.put, List.setIfInBounds_toArray, List.set_cons_zero, List.set_cons_succ, List.getElem_toArray, List.getElem_cons_zero, List.getElem_cons_succ]
              refine wpAnyH_take (i := 16) (oi := _) (v := undef) rfl (by kernel_rfl) (by kernel_rfl) (by kernel_rfl) (fun _ _ _ h => h) (Or.inr ⟨by kernel_rfl, rfl⟩) (by assumption) ?_
              try simp only [Act.put, List.setIfInBounds_toArray, List.set_cons_zero, List.set_cons_succ, List.getElem_toArray, List.getElem_cons_zero, List.getElem_cons_succ]
              refine wpAnyH_take (i := 17) (oi := _) (v := undef) rfl (by kernel_rfl) (by kernel_rfl) (by kernel_rfl) (fun _ _ _ h => h) (Or.inr ⟨by kernel_rfl, rfl⟩) (by assumption) ?_
              try simp only [Act.put, List.setIfInBounds_toArray, List.set_cons_zero, List.set_cons_succ, List.getElem_toArray, List.getElem_cons_zero, List.getElem_cons_succ]
              refine wpAnyH_take (i := 18) (oi := _) (v := undef) rfl (by kernel_rfl) (by kernel_rfl) (by kernel_rfl) (fun _ _ _ h => h) (Or.inr ⟨by kernel_rfl, rfl⟩) (by assumption) ?_
              try simp only [Act.put, List.setIfInBounds_toArray, List.set_cons_zero, List.set_cons_succ, List.getElem_toArray, List.getElem_cons_zero, List.getElem_cons_succ]
              refine wpAnyH_take (i := 19) (oi := _) (v := undef) rfl (by kernel_rfl) (by kernel_rfl) (by kernel_rfl) (fun _ _ _ h => h) (Or.inr ⟨by kernel_rfl, rfl⟩) (by assumption) ?_
              try simp only [Act.put, List.setIfInBounds_toArray, List.set_cons_zero, List.set_cons_succ, List.getElem_toArray, List.getElem_cons_zero, List.getElem_cons_succ]
              refine wpAnyH_take (i := 20) (oi := _) (v := undef) rfl (by kernel_rfl) (by kernel_rfl) (by kernel_rfl) (fun _ _ _ h => h) (Or.inr ⟨by kernel_rfl, rfl⟩) (by assumption) ?_
              try simp only [Act.put, List.setIfInBounds_toArray, List.set_cons_zero, List.set_cons_succ, List.getElem_toArray, List.getElem_cons_zero, List.getElem_cons_succ]
              refine wpAnyH_take (i := 21) (oi := _) (v := undef) rfl (by kernel_rfl) (by kernel_rfl) (by kernel_rfl) (fun _ _ _ h => h) (Or.inr ⟨by kernel_rfl, rfl⟩) (by assumption) ?_
              try simp only [Act.put, List.setIfInBounds_toArray, List.set_cons_zero, List.set_cons_succ, List.getElem_toArray, List.getElem_cons_zero, List.getElem_cons_succ]
              refine wpAnyH_take (i := 22) (oi := _) (v := undef) rfl (by kernel_rfl) (by kernel_rfl) (by kernel_rfl) (fun _ _ _ h => h) (Or.inr ⟨by kernel_rfl, rfl⟩) (by assumption) ?_
              try simp only [Act.put, List.setIfInBounds_toArray, List.set_cons_zero, List.set_cons_succ, List.getElem_toArray, List.getElem_cons_zero, List.getElem_cons_succ]
              refine wpAnyH_take (i := 23) (oi := _) (v := undef) rfl (by kernel_rfl) (by kernel_rfl) (by kernel_rfl) (fun _ _ _ h => h) (Or.inr ⟨by kernel_rfl, rfl⟩) (by assumption) ?_
              try simp only [Act.put, List.setIfInBounds_toArray, List.set_cons_zero, List.set_cons_succ, List.getElem_toArray, List.getElem_cons_zero, List.getElem_cons_succ]
              refine wpAnyH_take (i := 24) (oi := _) (v := undef) rfl (by kernel_rfl) (by kernel_rfl) (by kernel_rfl) (fun _ _ _ h => h) (Or.inr ⟨by kernel_rfl, rfl⟩) (by assumption) ?_
              try simp only [Act.put, List.setIfInBounds_toArray, List.set_cons_zero, List.set_cons_succ, List.getElem_toArray, List.getElem_cons_zero, List.getElem_cons_succ]
              refine wpAnyH_take (i := 25) (oi := _) (v := undef) rfl (by kernel_rfl) (by kernel_rfl) (by kernel_rfl) (fun _ _ _ h => h) (Or.inr ⟨by kernel_rfl, rfl⟩) (by assumption) ?_
              try simp only [Act.put, List.setIfInBounds_toArray, List.set_cons_zero, List.set_cons_succ, List.getElem_toArray, List.getElem_cons_zero, List.getElem_cons_succ]
              refine wpAnyH_take (i := 26) (oi := _) (v := undef) rfl (by kernel_rfl) (by kernel_rfl) (by kernel_rfl) (fun _ _ _ h => h) (Or.inr ⟨by kernel_rfl, rfl⟩) (by assumption) ?_
              try simp only [Act.put, List.setIfInBounds_toArray, List.set_cons_zero, List.set_cons_succ, List.getElem_toArray, List.getElem_cons_zero, List.getElem_cons_succ]
              refine wpAnyH_take (i := 27) (oi := _) (v := ?_) rfl (by kernel_rfl) (by kernel_rfl) (by kernel_rfl) (fun _ _ _ h => h) (Or.inl ⟨by rfl, ?_⟩) (by assumption) ?_
              rotate_left
              · intro w hSw
                try dsimp only at hSw
                go_simp
                try with_reducible rfl
              try simp only [Act.put, List.setIfInBounds_toArray, List.set_cons_zero, List.set_cons_succ, List.getElem_toArray, List.getElem_cons_zero, List.getElem_cons_succ]
              refine wpAnyH_done (by kernel_rfl) ?_ _
              refine NoPanic.normal ?_
              go_wp2_with fail
              go_meet
              exact ⟨rfl, rfl, (Below.refl _ _).drew⟩
          · have he2 : (ex == 0) = false := by simpa using hex
            clear hex
            refine wp_region_noPanic ?_
            refine wp_region_held_drew (S := (fun w' => True)) (by kernel_rfl) ?_ (fun hHeld => ?_)
            · trivial
            refine wpAnyH_take (i := 0) (oi := _) (v := ?_) rfl (by kernel_rfl) (by kernel_rfl) (by kernel_rfl) (fun _ _ _ h => h) (Or.inl ⟨by rfl, ?_⟩) (by assumption) ?_
            rotate_left
            · intro w hSw
              try dsimp only at hSw
              go_simp
              try with_reducible rfl
            try simp only [Act.put, List.setIfInBounds_toArray, List.set_cons_zero, List.set_cons_succ, List.getElem_toArray, List.getElem_cons_zero, List.getElem_cons_succ]
            refine wpAnyH_take (i := 1) (oi := _) (v := ?_) rfl (by kernel_rfl) (by kernel_rfl) (by kernel_rfl) (fun _ _ _ h => h) (Or.inl ⟨by rfl, ?_⟩) (by assumption) ?_
            rotate_left
            · intro w hSw
              try dsimp only at hSw
              go_simp
              try with_reducible rfl
            try simp only [Act.put, List.setIfInBounds_toArray, List.set_cons_zero, List.set_cons_succ, List.getElem_toArray, List.getElem_cons_zero, List.getElem_cons_succ]
            refine wpAnyH_take (i := 2) (oi := _) (v := ?_) rfl (by kernel_rfl) (by kernel_rfl) (by kernel_rfl) (fun _ _ _ h => h) (Or.inl ⟨by rfl, ?_⟩) (by assumption) ?_
            rotate_left
            · intro w hSw
              try dsimp only at hSw
              go_simp
              try with_reducible rfl
            try simp only [Act.put, List.setIfInBounds_toArray, List.set_cons_zero, List.set_cons_succ, List.getElem_toArray, List.getElem_cons_zero, List.getElem_cons_succ]
            refine wpAnyH_take (i := 3) (oi := _) (v := undef) rfl (by kernel_rfl) (by kernel_rfl) (by kernel_rfl) (fun _ _ _ h => h) (Or.inr ⟨by kernel_rfl, rfl⟩) (by assumption) ?_
            try simp only [Act.put, List.setIfInBounds_toArray, List.set_cons_zero, List.set_cons_succ, List.getElem_toArray, List.getElem_cons_zero, List.getElem_cons_succ]
            refine wpAnyH_take (i := 4) (oi := _) (v := undef) rfl (by kernel_rfl) (by kernel_rfl) (by kernel_rfl) (fun _ _ _ h => h) (Or.inr ⟨by kernel_rfl, rfl⟩) (by assumption) ?_
            try simp only [Act.put, List.setIfInBounds_toArray, List.set_cons_zero, List.set_cons_succ, List.getElem_toArray, List.getElem_cons_zero, List.getElem_cons_succ]
            refine wpAnyH_take (i := 5) (oi := _) (v := ?_) rfl (by kernel_rfl) (by kernel_rfl) (by kernel_rfl) (fun _ _ _ h => h) (Or.inl ⟨by rfl, ?_⟩) (by assumption) ?_
            rotate_left
            · intro w hSw
              try dsimp only at hSw
              go_simp
              try with_reducible rfl
            try simp only [Act.put, List.setIfInBounds_toArray, List.set_cons_zero, List.set_cons_succ, List.getElem_toArray, List.getElem_cons_zero, List.getElem_cons_succ]
            refine wpAnyH_take (i := 6) (oi := _) (v := ?_) rfl (by kernel_rfl) (by kernel_rfl) (by kernel_rfl) (fun _ _ _ h => h) (Or.inl ⟨by rfl, ?_⟩) (by assumption) ?_
            rotate_left
            · intro w hSw
              try dsimp only at hSw
              go_simp
              try with_reducible rfl
            try simp only [Act.put, List.setIfInBounds_toArray, List.set_cons_zero, List.set_cons_succ, List.getElem_toArray, List.getElem_cons_zero, List.getElem_cons_succ]
            refine wpAnyH_take (i := 7) (oi := _) (v := undef) rfl (by kernel_rfl) (by kernel_rfl) (by kernel_rfl) (fun _ _ _ h => h) (Or.inr ⟨by kernel_rfl, rfl⟩) (by assumption) ?_
            try simp only [Act.put, List.setIfInBounds_toArray, List.set_cons_zero, List.set_cons_succ, List.getElem_toArray, List.getElem_cons_zero, List.getElem_cons_succ]
            refine wpAnyH_take (i := 8) (oi := _) (v := undef) rfl (by kernel_rfl) (by kernel_rfl) (by kernel_rfl) (fun _ _ _ h => h) (Or.inr ⟨by kernel_rfl, rfl⟩) (by assumption) ?_
            try simp only [Act.put, List.setIfInBounds_toArray, List.set_cons_zero, List.set_cons_succ, List.getElem_toArray, List.getElem_cons_zero, List.getElem_cons_succ]
            refine wpAnyH_take (i := 9) (oi := _) (v := undef) rfl (by kernel_rfl) (by kernel_rfl) (by kernel_rfl) (fun _ _ _ h => h) (Or.inr ⟨by kernel_rfl, rfl⟩) (by assumption) ?_
            try simp only [Act.put, List.setIfInBounds_toArray, List.set_cons_zero, List.set_cons_succ, List.getElem_toArray, List.getElem_cons_zero, List.getElem_cons_succ]
            refine wpAnyH_take (i := 10) (oi := _) (v := undef) rfl (by kernel_rfl) (by kernel_rfl) (by kernel_rfl) (fun _ _ _ h => h) (Or.inr ⟨by kernel_rfl, rfl⟩) (by assumption) ?_
            try simp only [Act.put, List.setIfInBounds_toArray, List.set_cons_zero, List.set_cons_succ, List.getElem_toArray, List.getElem_cons_zero, List.getElem_cons_succ]
            refine wpAnyH_take (i := 11) (oi := _) (v := undef) rfl (by kernel_rfl) (by kernel_rfl) (by kernel_rfl) (fun _ _ _ h => h) (Or.inr ⟨by kernel_rfl, rfl⟩) (by assumption) ?_
            try simp only [Act.put, List.setIfInBounds_toArray, List.set_cons_zero, List.set_cons_succ, List.getElem_toArray, List.getElem_cons_zero, List.getElem_cons_succ]
            refine wpAnyH_take (i := 12) (oi := _) (v := undef) rfl (by kernel_rfl) (by kernel_rfl) (by kernel_rfl) (fun _ _ _ h => h) (Or.inr ⟨by kernel_rfl, rfl⟩) (by assumption) ?_
            try simp only [Act.put, List.setIfInBounds_toArray, List.set_cons_zero, List.set_cons_succ, List.getElem_toArray, List.getElem_cons_zero, List.getElem_cons_succ]
            refine wpAnyH_take (i := 13) (oi := _) (v := undef) rfl (by kernel_rfl) (by kernel_rfl) (by kernel_rfl) (fun _ _ _ h => h) (Or.inr ⟨by kernel_rfl, rfl⟩) (by assumption) ?_
            try simp only [Act.put, List.setIfInBounds_toArray, List.set_cons_zero, List.set_cons_succ, List.getElem_toArray, List.getElem_cons_zero, List.getElem_cons_succ]
            refine wpAnyH_take (i := 14) (oi := _) (v := undef) rfl (by kernel_rfl) (by kernel_rfl) (by kernel_rfl) (fun _ _ _ h => h) (Or.inr ⟨by kernel_rfl, rfl⟩) (by assumption) ?_
            try simp only [Act.put, List.setIfInBounds_toArray, List.set_cons_zero, List.set_cons_succ, List.getElem_toArray, List.getElem_cons_zero, List.getElem_cons_succ]
            refine wpAnyH_take (i := 15) (oi := _) (v := undef) rfl (by kernel_rfl) (by kernel_rfl) (by kernel_rfl) (fun _ _ _ h => h) (Or.inr ⟨by kernel_rfl, rfl⟩) (by assumption) ?_
            try simp only [Act.put, List.setIfInBounds_toArray, List.set_cons_zero, List.set_cons_succ, List.getElem_toArray, List.getElem_cons_zero, List.getElem_cons_succ]
            refine wpAnyH_take (i := 16) (oi := _) (v := undef) rfl (by kernel_rfl) (by kernel_rfl) (by kernel_rfl) (fun _ _ _ h => h) (Or.inr ⟨by kernel_rfl, rfl⟩) (by assumption) ?_
            try simp only [Act.put, List.setIfInBounds_toArray, List.set_cons_zero, List.set_cons_succ, List.getElem_toArray, List.getElem_cons_zero, List.getElem_cons_succ]
            refine wpAnyH_take (i := 17) (oi := _) (v := undef) rfl (by kernel_rfl) (by kernel_rfl) (by kernel_rfl) (fun _ _ _ h => h) (Or.inr ⟨by kernel_rfl, rfl⟩) (by assumption) ?_
            try simp only [Act.put, List.setIfInBounds_toArray, List.set_cons_zero, List.set_cons_succ, List.getElem_toArray, List.getElem_cons_zero, List.getElem_cons_succ]
            refine wpAnyH_take (i := 18) (oi := _) (v := undef) rfl (by kernel_rfl) (by kernel_rfl) (by kernel_rfl) (fun _ _ _ h => h) (Or.inr ⟨by kernel_rfl, rfl⟩) (by assumption) ?_
            try simp only [Act.put, List.setIfInBounds_toArray, List.set_cons_zero, List.set_cons_succ, List.getElem_toArray, List.getElem_cons_zero, List.getElem_cons_succ]
            refine wpAnyH_take (i := 19) (oi := _) (v := undef) rfl (by kernel_rfl) (by kernel_rfl) (by kernel_rfl) (fun _ _ _ h => h) (Or.inr ⟨by kernel_rfl, rfl⟩) (by assumption) ?_
            try simp only [Act.put, List.setIfInBounds_toArray, List.set_cons_zero, List.set_cons_succ, List.getElem_toArray, List.getElem_cons_zero, List.getElem_cons_succ]
            refine wpAnyH_take (i := 20) (oi := _) (v := undef) rfl (by kernel_rfl) (by kernel_rfl) (by kernel_rfl) (fun _ _ _ h => h) (Or.inr ⟨by kernel_rfl, rfl⟩) (by assumption) ?_
            try simp only [Act.put, List.setIfInBounds_toArray, List.set_cons_zero, List.set_cons_succ, List.getElem_toArray, List.getElem_cons_zero, List.getElem_cons_succ]
            refine wpAnyH_take (i := 21) (oi := _) (v := undef) rfl (by kernel_rfl) (by kernel_rfl) (by kernel_rfl) (fun _ _ _ h => h) (Or.inr ⟨by kernel_rfl, rfl⟩) (by assumption) ?_
            try simp only [Act.put, List.setIfInBounds_toArray, List.set_cons_zero, List.set_cons_succ, List.getElem_toArray, List.getElem_cons_zero, List.getElem_cons_succ]
            refine wpAnyH_take (i := 22) (oi := _) (v := undef) rfl (by kernel_rfl) (by kernel_rfl) (by kernel_rfl) (fun _ _ _ h => h) (Or.inr ⟨by kernel_rfl, rfl⟩) (by assumption) ?_
            try simp only [Act.put, List.setIfInBounds_toArray, List.set_cons_zero, List.set_cons_succ, List.getElem_toArray, List.getElem_cons_zero, List.getElem_cons_succ]
            refine wpAnyH_take (i := 23) (oi := _) (v := undef) rfl (by kernel_rfl) (by kernel_rfl) (by kernel_rfl) (fun _ _ _ h => h) (Or.inr ⟨by kernel_rfl, rfl⟩) (by assumption) ?_
            try simp only [Act.put, List.setIfInBounds_toArray, List.set_cons_zero, List.set_cons_succ, List.getElem_toArray, List.getElem_cons_zero, List.getElem_cons_succ]
            refine wpAnyH_take (i := 24) (oi := _) (v := undef) rfl (by kernel_rfl) (by kernel_rfl) (by kernel_rfl) (fun _ _ _ h => h) (Or.inr ⟨by kernel_rfl, rfl⟩) (by assumption) ?_
            try simp only [Act.put, List.setIfInBounds_toArray, List.set_cons_zero, List.set_cons_succ, List.getElem_toArray, List.getElem_cons_zero, List.getElem_cons_succ]
            refine wpAnyH_take (i := 25) (oi := _) (v := undef) rfl (by kernel_rfl) (by kernel_rfl) (by kernel_rfl) (fun _ _ _ h => h) (Or.inr ⟨by kernel_rfl, rfl⟩) (by assumption) ?_
            try simp only [Act.put, List.setIfInBounds_toArray, List.set_cons_zero, List.set_cons_succ, List.getElem_toArray, List.getElem_cons_zero, List.getElem_cons_succ]
            refine wpAnyH_take (i := 26) (oi := _) (v := undef) rfl (by kernel_rfl) (by kernel_rfl) (by kernel_rfl) (fun _ _ _ h => h) (Or.inr ⟨by kernel_rfl, rfl⟩) (by assumption) ?_
            try simp only [Act.put, List.setIfInBounds_toArray, List.set_cons_zero, List.set_cons_succ, List.getElem_toArray, List.getElem_cons_zero, List.getElem_cons_succ]
            refine wpAnyH_take (i := 27) (oi := _) (v := ?_) rfl (by kernel_rfl) (by kernel_rfl) (by kernel_rfl) (fun _ _ _ h => h) (Or.inl ⟨by rfl, ?_⟩) (by assumption) ?_
            rotate_left
            · intro w hSw
              try dsimp only at hSw
              go_simp
              try with_reducible rfl
            try simp only [Act.put, List.setIfInBounds_toArray, List.set_cons_zero, List.set_cons_succ, List.getElem_toArray, List.getElem_cons_zero, List.getElem_cons_succ]
            refine wpAnyH_done (by kernel_rfl) ?_ _
            refine NoPanic.normal ?_
            go_wp2_with fail
            go_meet
            exact ⟨rfl, rfl, (Below.refl _ _).drew⟩
        case rest =>
          obtain ⟨e9, e72, hbc⟩ := hcut
          subst e9
          subst e72
          have HBC : Hid (Below w.heap.size w wc) := Lib.hid (HBX.out.trans (hbc.mono HBX.out.size))
          have HPA := Lib.hid (parse_any wc S _ body (HL.out.below HBC.out).size (HBO.out.below HBC.out (fun _ h => .inl h)) (by have := HBL.out; omega))
          have HNM := Lib.hid (fun (wx : World) (hx : Below w.heap.size w wx) => name_any wx first (HL.out.below hx) h3.1 h3.2)
          have hfr0 := fun (wx : World) (hx : Below w.heap.size w wx) => first_any wx (nameB first) (nameB_size _ h3.1 h3.2) (HL.out.below hx)
          clear hbc HXA HXB HOA HOB HB4 HB3 hp0 hp1 hq0 hq1 HRX4 HRY4 hP4 HSA2 HSB2
          by_cases hf1 : first < 1
          · have hR : firstR (nameB first).data.toList = (0, false) := by
              unfold nameB nameL
              rw [if_pos (.inl hf1)]
              rfl
            simp only [hR] at hfr0
            have HFR := Lib.hid hfr0
            have hd1 : decide (1 ≤ first) = false := decide_eq_false (by omega)
            clear hR hfr0 hf1
            go_upto_region 7 with fail
            obtain ⟨pr, hpr⟩ : ∃ pr, parseR body = pr := ⟨_, rfl⟩
            rw [hpr] at HPA
            cases pr with
            | none =>
              clear hpr
              go_wp2_with (go_at_call 37; refine HPA.out.mono ?_; rintro e w5 ⟨vp, rfl, hrp, hb5⟩; obtain ⟨Ap, cp, vsp, ep, _⟩ := id hrp; subst ep; have HBQ : Hid (Below w.heap.size w w5) := Lib.hid (HBC.out.trans (hb5.mono HBC.out.size)); have hsz5 := HBQ.out.size; clear hrp hb5)
              go_wp2_with (go_at_call 39; refine (HNM.out _ (by ((repeat' (first | exact HBQ.out | exact Below.refl _ _ | refine Below.setCell ?_ ?_ _ | refine Below.alloc ?_ ?_ _)) <;> (first | exact Nat.le_refl _ | omega | (simp; done) | (simp; omega))))).mono ?_; rintro e w7 ⟨rfl, hb7⟩; have HB7 : Hid (Below w.heap.size w w7) := Lib.hid (Below.trans (by ((repeat' (first | exact HBQ.out | exact Below.refl _ _ | refine Below.setCell ?_ ?_ _ | refine Below.alloc ?_ ?_ _)) <;> (first | exact Nat.le_refl _ | omega | (simp; done) | (simp; omega)))) (hb7.mono (by first | omega | (simp; omega)))); clear hb7)
              go_wp2_with (go_at_call 38; refine (HFR.out w7 HB7.out).mono ?_; rintro e w8 ⟨rfl, hb8⟩; have HB8 : Hid (Below w.heap.size w w8) := Lib.hid (HB7.out.trans (hb8.mono HB7.out.size)); clear hb8)
              go_wp2_with (go_at_call 25; refine (awake_any w8 (HL.out.below HB8.out)).mono ?_; rintro e w9 ⟨rfl, hb9⟩)
              go_ret
              exact ⟨rfl, HB8.out.trans (hb9.mono HB8.out.size)⟩
            | some pr =>
              obtain ⟨n, r⟩ := pr
              obtain ⟨hby, hrl⟩ := bytesR_parse hpr
              have hn1 := (parse_inv hpr).2.2.1
              have HBY := Lib.hid hby
              have HRL := Lib.hid hrl
              clear hpr hby hrl
              go_wp2_with (go_at_call 37; refine HPA.out.mono ?_; rintro e w5 ⟨vp, rfl, hrp, hb5⟩; have HRP := Lib.hid hrp; obtain ⟨Ap, cp, vsp, ep, _⟩ := id hrp; subst ep; have HBQ5 : Hid (Below w.heap.size w w5) := Lib.hid (HBC.out.trans (hb5.mono HBC.out.size)); have hsz5 := HBQ5.out.size; clear hrp hb5)
              have hbb := fun (wx : World) (hx : Below w5.heap.size w5 wx) => bytes_any wx (fun _ => False) (n : Int) _ r (HRP.out.below hx (fun _ h => h.elim)) HRL.out (by omega) (by omega)
              rw [HBY.out] at hbb
              have HBB := Lib.hid hbb
              clear hbb
              go_wp2_with (go_at_call 34; refine (HBB.out _ ((Below.refl _ _).alloc (Nat.le_refl _) _)).mono ?_; rintro e w6 ⟨vz, rfl, hoz, hb6⟩; obtain ⟨Az, cz, ez⟩ : ∃ A c, vz = .slice A body.length c := own_slice hoz; subst ez; have HBQ : Hid (Below w.heap.size w w6) := Lib.hid ((HBQ5.out.alloc hsz5 _).trans (hb6.mono (by simp; omega))); have hsb6 := sameBytes_any w6 (fun _ => False) S _ _ body body (RdB.ofOwn hoz (fun _ h => h.elim)) (HBO.out.below HBQ.out (fun _ h => .inl h)); rw [beq_self_eq_true] at hsb6; have HSB6 := Lib.hid hsb6; have hsz6 := HBQ.out.size; clear hoz hb6 hsb6)
              go_wp2_with (go_at_call 35; refine HSB6.out.mono ?_; rintro e w' ⟨rfl, hw⟩; subst hw)
              go_wp2_with (go_at_call 39; refine (HNM.out _ (by ((repeat' (first | exact HBQ.out | exact Below.refl _ _ | refine Below.setCell ?_ ?_ _ | refine Below.alloc ?_ ?_ _)) <;> (first | exact Nat.le_refl _ | omega | (simp; done) | (simp; omega))))).mono ?_; rintro e w7 ⟨rfl, hb7⟩; have HB7 : Hid (Below w.heap.size w w7) := Lib.hid (Below.trans (by ((repeat' (first | exact HBQ.out | exact Below.refl _ _ | refine Below.setCell ?_ ?_ _ | refine Below.alloc ?_ ?_ _)) <;> (first | exact Nat.le_refl _ | omega | (simp; done) | (simp; omega)))) (hb7.mono (by first | omega | (simp; omega)))); clear hb7)
              go_wp2_with (go_at_call 38; refine (HFR.out w7 HB7.out).mono ?_; rintro e w8 ⟨rfl, hb8⟩; have HB8 : Hid (Below w.heap.size w w8) := Lib.hid (HB7.out.trans (hb8.mono HB7.out.size)); clear hb8)
              go_wp2_with (go_at_call 25; refine (awake_any w8 (HL.out.below HB8.out)).mono ?_; rintro e w9 ⟨rfl, hb9⟩)
              go_ret
              exact ⟨rfl, HB8.out.trans (hb9.mono HB8.out.size)⟩
          · by_cases hf2 : 1152921504606846976 < first
            · have hR : firstR (nameB first).data.toList = (0, false) := by
                unfold nameB nameL
                rw [if_pos (.inr hf2)]
                rfl
              simp only [hR] at hfr0
              have HFR := Lib.hid hfr0
              have hd1 : decide (1 ≤ first) = true := decide_eq_true (by omega)
              have hd2 : decide (first ≤ 1152921504606846976) = false := decide_eq_false (by omega)
              clear hR hfr0 hf1 hf2
              go_upto_region 7 with fail
              obtain ⟨pr, hpr⟩ : ∃ pr, parseR body = pr := ⟨_, rfl⟩
              rw [hpr] at HPA
              cases pr with
              | none =>
                clear hpr
                go_wp2_with (go_at_call 37; refine HPA.out.mono ?_; rintro e w5 ⟨vp, rfl, hrp, hb5⟩; obtain ⟨Ap, cp, vsp, ep, _⟩ := id hrp; subst ep; have HBQ : Hid (Below w.heap.size w w5) := Lib.hid (HBC.out.trans (hb5.mono HBC.out.size)); have hsz5 := HBQ.out.size; clear hrp hb5)
                go_wp2_with (go_at_call 39; refine (HNM.out _ (by ((repeat' (first | exact HBQ.out | exact Below.refl _ _ | refine Below.setCell ?_ ?_ _ | refine Below.alloc ?_ ?_ _)) <;> (first | exact Nat.le_refl _ | omega | (simp; done) | (simp; omega))))).mono ?_; rintro e w7 ⟨rfl, hb7⟩; have HB7 : Hid (Below w.heap.size w w7) := Lib.hid (Below.trans (by ((repeat' (first | exact HBQ.out | exact Below.refl _ _ | refine Below.setCell ?_ ?_ _ | refine Below.alloc ?_ ?_ _)) <;> (first | exact Nat.le_refl _ | omega | (simp; done) | (simp; omega)))) (hb7.mono (by first | omega | (simp; omega)))); clear hb7)
                go_wp2_with (go_at_call 38; refine (HFR.out w7 HB7.out).mono ?_; rintro e w8 ⟨rfl, hb8⟩; have HB8 : Hid (Below w.heap.size w w8) := Lib.hid (HB7.out.trans (hb8.mono HB7.out.size)); clear hb8)
                go_wp2_with (go_at_call 25; refine (awake_any w8 (HL.out.below HB8.out)).mono ?_; rintro e w9 ⟨rfl, hb9⟩)
                go_ret
                exact ⟨rfl, HB8.out.trans (hb9.mono HB8.out.size)⟩
              | some pr =>
                obtain ⟨n, r⟩ := pr
                obtain ⟨hby, hrl⟩ := bytesR_parse hpr
                have hn1 := (parse_inv hpr).2.2.1
                have HBY := Lib.hid hby
                have HRL := Lib.hid hrl
                clear hpr hby hrl
                go_wp2_with (go_at_call 37; refine HPA.out.mono ?_; rintro e w5 ⟨vp, rfl, hrp, hb5⟩; have HRP := Lib.hid hrp; obtain ⟨Ap, cp, vsp, ep, _⟩ := id hrp; subst ep; have HBQ5 : Hid (Below w.heap.size w w5) := Lib.hid (HBC.out.trans (hb5.mono HBC.out.size)); have hsz5 := HBQ5.out.size; clear hrp hb5)
                have hbb := fun (wx : World) (hx : Below w5.heap.size w5 wx) => bytes_any wx (fun _ => False) (n : Int) _ r (HRP.out.below hx (fun _ h => h.elim)) HRL.out (by omega) (by omega)
                rw [HBY.out] at hbb
                have HBB := Lib.hid hbb
                clear hbb
                go_wp2_with (go_at_call 34; refine (HBB.out _ ((Below.refl _ _).alloc (Nat.le_refl _) _)).mono ?_; rintro e w6 ⟨vz, rfl, hoz, hb6⟩; obtain ⟨Az, cz, ez⟩ : ∃ A c, vz = .slice A body.length c := own_slice hoz; subst ez; have HBQ : Hid (Below w.heap.size w w6) := Lib.hid ((HBQ5.out.alloc hsz5 _).trans (hb6.mono (by simp; omega))); have hsb6 := sameBytes_any w6 (fun _ => False) S _ _ body body (RdB.ofOwn hoz (fun _ h => h.elim)) (HBO.out.below HBQ.out (fun _ h => .inl h)); rw [beq_self_eq_true] at hsb6; have HSB6 := Lib.hid hsb6; have hsz6 := HBQ.out.size; clear hoz hb6 hsb6)
                go_wp2_with (go_at_call 35; refine HSB6.out.mono ?_; rintro e w' ⟨rfl, hw⟩; subst hw)
                go_wp2_with (go_at_call 39; refine (HNM.out _ (by ((repeat' (first | exact HBQ.out | exact Below.refl _ _ | refine Below.setCell ?_ ?_ _ | refine Below.alloc ?_ ?_ _)) <;> (first | exact Nat.le_refl _ | omega | (simp; done) | (simp; omega))))).mono ?_; rintro e w7 ⟨rfl, hb7⟩; have HB7 : Hid (Below w.heap.size w w7) := Lib.hid (Below.trans (by ((repeat' (first | exact HBQ.out | exact Below.refl _ _ | refine Below.setCell ?_ ?_ _ | refine Below.alloc ?_ ?_ _)) <;> (first | exact Nat.le_refl _ | omega | (simp; done) | (simp; omega)))) (hb7.mono (by first | omega | (simp; omega)))); clear hb7)
                go_wp2_with (go_at_call 38; refine (HFR.out w7 HB7.out).mono ?_; rintro e w8 ⟨rfl, hb8⟩; have HB8 : Hid (Below w.heap.size w w8) := Lib.hid (HB7.out.trans (hb8.mono HB7.out.size)); clear hb8)
                go_wp2_with (go_at_call 25; refine (awake_any w8 (HL.out.below HB8.out)).mono ?_; rintro e w9 ⟨rfl, hb9⟩)
                go_ret
                exact ⟨rfl, HB8.out.trans (hb9.mono HB8.out.size)⟩
            · have hR : firstR (nameB first).data.toList = (first, true) := by
                have : (nameB first).data.toList = nameL first := by unfold nameB; simp
                rw [this]
                exact first_name (by omega) (by omega)
              simp only [hR] at hfr0
              have HFR := Lib.hid hfr0
              have hd1 : decide (1 ≤ first) = true := decide_eq_true (by omega)
              have hd2 : decide (first ≤ 1152921504606846976) = true := decide_eq_true (by omega)
              clear hR hfr0 hf1 hf2
              go_upto_region 7 with fail
              obtain ⟨pr, hpr⟩ : ∃ pr, parseR body = pr := ⟨_, rfl⟩
              rw [hpr] at HPA
              cases pr with
              | none =>
                clear hpr
                go_wp2_with (go_at_call 37; refine HPA.out.mono ?_; rintro e w5 ⟨vp, rfl, hrp, hb5⟩; obtain ⟨Ap, cp, vsp, ep, _⟩ := id hrp; subst ep; have HBQ : Hid (Below w.heap.size w w5) := Lib.hid (HBC.out.trans (hb5.mono HBC.out.size)); have hsz5 := HBQ.out.size; clear hrp hb5)
                go_wp2_with (go_at_call 39; refine (HNM.out _ (by ((repeat' (first | exact HBQ.out | exact Below.refl _ _ | refine Below.setCell ?_ ?_ _ | refine Below.alloc ?_ ?_ _)) <;> (first | exact Nat.le_refl _ | omega | (simp; done) | (simp; omega))))).mono ?_; rintro e w7 ⟨rfl, hb7⟩; have HB7 : Hid (Below w.heap.size w w7) := Lib.hid (Below.trans (by ((repeat' (first | exact HBQ.out | exact Below.refl _ _ | refine Below.setCell ?_ ?_ _ | refine Below.alloc ?_ ?_ _)) <;> (first | exact Nat.le_refl _ | omega | (simp; done) | (simp; omega)))) (hb7.mono (by first | omega | (simp; omega)))); clear hb7)
                go_wp2_with (go_at_call 38; refine (HFR.out w7 HB7.out).mono ?_; rintro e w8 ⟨rfl, hb8⟩; have HB8 : Hid (Below w.heap.size w w8) := Lib.hid (HB7.out.trans (hb8.mono HB7.out.size)); clear hb8)
                go_wp2_with (go_at_call 25; refine (awake_any w8 (HL.out.below HB8.out)).mono ?_; rintro e w9 ⟨rfl, hb9⟩)
                go_ret
                exact ⟨rfl, HB8.out.trans (hb9.mono HB8.out.size)⟩
              | some pr =>
                obtain ⟨n, r⟩ := pr
                obtain ⟨hby, hrl⟩ := bytesR_parse hpr
                have hn1 := (parse_inv hpr).2.2.1
                have HBY := Lib.hid hby
                have HRL := Lib.hid hrl
                clear hpr hby hrl
                go_wp2_with (go_at_call 37; refine HPA.out.mono ?_; rintro e w5 ⟨vp, rfl, hrp, hb5⟩; have HRP := Lib.hid hrp; obtain ⟨Ap, cp, vsp, ep, _⟩ := id hrp; subst ep; have HBQ5 : Hid (Below w.heap.size w w5) := Lib.hid (HBC.out.trans (hb5.mono HBC.out.size)); have hsz5 := HBQ5.out.size; clear hrp hb5)
                have hbb := fun (wx : World) (hx : Below w5.heap.size w5 wx) => bytes_any wx (fun _ => False) (n : Int) _ r (HRP.out.below hx (fun _ h => h.elim)) HRL.out (by omega) (by omega)
                rw [HBY.out] at hbb
                have HBB := Lib.hid hbb
                clear hbb
                go_wp2_with (go_at_call 34; refine (HBB.out _ ((Below.refl _ _).alloc (Nat.le_refl _) _)).mono ?_; rintro e w6 ⟨vz, rfl, hoz, hb6⟩; obtain ⟨Az, cz, ez⟩ : ∃ A c, vz = .slice A body.length c := own_slice hoz; subst ez; have HBQ : Hid (Below w.heap.size w w6) := Lib.hid ((HBQ5.out.alloc hsz5 _).trans (hb6.mono (by simp; omega))); have hsb6 := sameBytes_any w6 (fun _ => False) S _ _ body body (RdB.ofOwn hoz (fun _ h => h.elim)) (HBO.out.below HBQ.out (fun _ h => .inl h)); rw [beq_self_eq_true] at hsb6; have HSB6 := Lib.hid hsb6; have hsz6 := HBQ.out.size; clear hoz hb6 hsb6)
                go_wp2_with (go_at_call 35; refine HSB6.out.mono ?_; rintro e w' ⟨rfl, hw⟩; subst hw)
                go_wp2_with (go_at_call 39; refine (HNM.out _ (by ((repeat' (first | exact HBQ.out | exact Below.refl _ _ | refine Below.setCell ?_ ?_ _ | refine Below.alloc ?_ ?_ _)) <;> (first | exact Nat.le_refl _ | omega | (simp; done) | (simp; omega))))).mono ?_; rintro e w7 ⟨rfl, hb7⟩; have HB7 : Hid (Below w.heap.size w w7) := Lib.hid (Below.trans (by ((repeat' (first | exact HBQ.out | exact Below.refl _ _ | refine Below.setCell ?_ ?_ _ | refine Below.alloc ?_ ?_ _)) <;> (first | exact Nat.le_refl _ | omega | (simp; done) | (simp; omega)))) (hb7.mono (by first | omega | (simp; omega)))); clear hb7)
                go_wp2_with (go_at_call 38; refine (HFR.out w7 HB7.out).mono ?_; rintro e w8 ⟨rfl, hb8⟩; have HB8 : Hid (Below w.heap.size w w8) := Lib.hid (HB7.out.trans (hb8.mono HB7.out.size)); clear hb8)
                go_wp2_with (go_at_call 25; refine (awake_any w8 (HL.out.below HB8.out)).mono ?_; rintro e w9 ⟨rfl, hb9⟩)
                go_ret
                exact ⟨rfl, HB8.out.trans (hb9.mono HB8.out.size)⟩
end Go.Proofs.YtohpgipgfmkflaaGreatDoor
