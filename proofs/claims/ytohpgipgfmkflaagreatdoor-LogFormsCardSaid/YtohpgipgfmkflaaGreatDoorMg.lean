/- Contracts of the log's forms: Parse, whole. Contracts of the log's forms: First. What the statements of layer 4 share: recs. The chapter's examples of layer 4, computed. No program here. A log of the call's own: the contracts of its methods, as the statements meet them. The chapter's examples of layer 4: they come out. Arguments as the caller's memory holds them: bytes, lists of bytes, lists of these. -/
import Derived.Test.YtohpgipgfmkflaaGreatDoorMf
import Derived.Test.YtohpgipgfmkflaaGreatDoorMe
import Derived.BigFrame
import Derived.Deep.Matrix
import Derived.ChangeSame
namespace Go.Proofs.YtohpgipgfmkflaaGreatDoor
set_option linter.unusedSectionVars false
variable [Base]
open Go.RowKit
set_option maxRecDepth 100000
set_option linter.unusedVariables false
set_option linter.unusedSimpArgs false
attribute [local go_sem ↓] Go.wp_at_zero Go.wp_at_succ

structure ParI (w wr : World) (l : List UInt8) (n : Int) (many k p p0 : Nat) (rs : List (List UInt8)) (vs : List Value) (v : Value) : Prop where
  base : Base.b ≤ w.heap.size
  below : Below w.heap.size w wr
  blk0 : wr.heap[w.heap.size]? = some (.cells #[.int .i64 0, .slice none 0 0] 52 (0, 0))
  blk : wr.heap[w.heap.size + 1]? = some (.cells #[.int .i64 n, v] 52 (0, 0))
  own : wr.ownsRow w.heap.size 53 1 v k vs
  rep : All2 (RdB wr (fun b => b < w.heap.size)) vs rs
  pos : p ≤ l.length
  eq : (recsR (many - k) (l.drop p)).map (fun r => (rs ++ r.1, r.2)) = recsR many (l.drop p0)
theorem own_ne_batch {w : World} {base n b : Nat} {v : Value} {vs : List Value} {cs : Array Value} (h : w.ownsRow base 53 1 v n vs) (hb : w.heap[b]? = some (.cells cs 52 (0, 0))) : v.ownBlock ≠ some b := by
  intro e
  rcases h.2 with ⟨rfl, _⟩ | ⟨g, cap, cur, rfl, _, hg, _⟩
  · cases e
  · have : g = b := by simpa [Value.ownBlock] using e
    rw [this, hb] at hg
    injection hg with hg
    injection hg with _ ht
    exact absurd ht (by decide)
theorem batch_notU8 {w : World} {b : Nat} {cs : Array Value} (h : w.heap[b]? = some (.cells cs 52 (0, 0))) (hB : Base.b ≤ b) : ¬ U8 w b := by
  rintro (⟨cur, fz, hu⟩ | hlt)
  rotate_left
  · omega
  rw [h] at hu
  injection hu with hu
  injection hu with _ ht
  exact absurd ht (by decide)
/-- One string more. -/
theorem ParI.step {w wr w2 w4 : World} {l : List UInt8} {n : Int} {many k p p0 : Nat} {rs : List (List UInt8)} {vs : List Value} {v u v' : Value} {T : TypeId} (h : ParI w wr l n many k p p0 rs vs v) (hk : k < many)
    (hg : (getB l (p : Int) 1048576).2.2 = 0) (hu : w2.ownsRow wr.heap.size 5 1 u (getB l (p : Int) 1048576).1.length (bv (getB l (p : Int) 1048576).1)) (hb2 : Below wr.heap.size wr w2)
    (ho4 : w4.ownsRow w.heap.size 53 1 v' (k + 1) (vs ++ [u])) (hg4 : (w2.alloc (.cells #[u] T)).grownBy w4 v.ownBlock) :
    ParI w (w4.setCell ⟨w.heap.size + 1, 1, none⟩ v') l n many (k + 1) (getB l (p : Int) 1048576).2.1 p0 (rs ++ [(getB l (p : Int) 1048576).1]) (vs ++ [u]) v' := by
  have hb3 : Below wr.heap.size wr (w2.alloc (.cells #[u] T)) := hb2.alloc hb2.size _
  have hwr := h.below.size
  have hk4 : Kp (fun b => v.ownBlock = some b) wr w4 := (Kp.ofBelow hb3 _).grown hg4 (fun b hb => .inl hb)
  have hBb : w.heap.size + 1 < wr.heap.size := (Array.getElem?_eq_some_iff.1 h.blk).1
  have hb40 := hk4.blk h.blk0 (own_ne_batch h.own h.blk0)
  have hb4 := hk4.blk h.blk (own_ne_batch h.own h.blk)
  have hkz : Kp (fun b => v.ownBlock = some b ∨ b = w.heap.size + 1) wr (w4.setCell ⟨w.heap.size + 1, 1, none⟩ v') := (hk4.mono (fun _ h => .inl h)).setCell (.inl (.inr rfl)) _
  have hkz2 : Kp (fun b => v.ownBlock = some b ∨ b = w.heap.size + 1) w2 (w4.setCell ⟨w.heap.size + 1, 1, none⟩ v') :=
    (((Kp.refl _ w2).alloc _).grown hg4 (fun b hb => .inl (.inl hb))).setCell (.inl (.inr rfl)) _
  have hno : ∀ b, (v.ownBlock = some b ∨ b = w.heap.size + 1) → b < wr.heap.size → ¬ U8 wr b := by
    rintro b (hb | rfl) _
    · exact own_notU8 h.own (by decide) h.base b hb
    · exact batch_notU8 h.blk (by have := h.base; omega)
  have hno2 : ∀ b, (v.ownBlock = some b ∨ b = w.heap.size + 1) → b < w2.heap.size → ¬ U8 w2 b := by
    rintro b (hb | rfl) _
    · have := hno b (.inl hb) (h.own.lt b hb).2
      exact fun hu => this (hu.kp fun _ _ hu => (hb2.block b (h.own.lt b hb).2).symm.trans hu)
    · exact fun hu => batch_notU8 h.blk (by have := h.base; omega) (hu.kp fun _ _ hu => (hb2.block _ hBb).symm.trans hu)
  refine ⟨h.base, ?_, ?_, ?_, ?_, ?_, (getB_le hg).1, ?_⟩
  · have h1 := h.below.trans (hb3.mono hwr)
    exact (h1.grown hg4 h1.size (fun b hb => (h.own.lt b hb).1)).setCell (by simp) _
  · rw [Below.heap_setCell w4 _ _ _ (by simp)]
    exact hb40
  · rw [heap_setCell_cells w4 _ 1 _ _ _ hb4]
    rfl
  · exact ownsRow_kp ho4 ((Kp.refl (fun b => b = w.heap.size + 1) w4).setCell (p := ⟨w.heap.size + 1, 1, none⟩) (.inl rfl) _) (fun b hb e => own_ne_batch ho4 hb4 (by rw [hb, e]))
  · refine (h.rep.imp fun x y hxy => hxy.out hkz hno).append (All2.one ?_)
    exact (RdB.ofOwn hu (fun b hb => by omega)).out hkz2 hno2
  · rw [← h.eq, show many - k = (many - (k + 1)) + 1 by omega, getB_recs h.pos, if_pos hg]
    cases recsR (many - (k + 1)) (l.drop (getB l (p : Int) 1048576).2.1) with
    | none => rfl
    | some r => simp
theorem ParI.blk4 {w wr w2 w4 : World} {l : List UInt8} {n : Int} {many k p p0 : Nat} {rs : List (List UInt8)} {vs : List Value} {v u : Value} {T : TypeId} (h : ParI w wr l n many k p p0 rs vs v) (hb2 : Below wr.heap.size wr w2)
    (hg4 : (w2.alloc (.cells #[u] T)).grownBy w4 v.ownBlock) : w4.cell? ⟨w.heap.size + 1, 1, none⟩ = some v ∧ w4.frozen? ⟨w.heap.size + 1, 1, none⟩ = false := by
  have hk4 : Kp (fun b => v.ownBlock = some b) wr w4 := (Kp.ofBelow (hb2.alloc hb2.size _) _).grown hg4 (fun b hb => .inl hb)
  have hb4 := hk4.blk h.blk (own_ne_batch h.own h.blk)
  exact ⟨cell_row hb4 1, by simp [World.frozen?, hb4]⟩
theorem ParI.end_ {w wr w' : World} {l : List UInt8} {n : Int} {many k p p0 : Nat} {rs : List (List UInt8)} {vs : List Value} {v : Value} (h : ParI w wr l n many k p p0 rs vs v) (hk : Kp (fun b => b = w.heap.size) wr w') : Below w.heap.size w w' ∧ RdL w' (fun b => b < w.heap.size) v rs := by
  refine ⟨?_, ?_⟩
  · exact (Kp.trans (S := fun _ => False) (Kp.ofBelow h.below _) hk (fun b hb => .inr (by rw [hb]; exact Nat.le_refl _))).toBelow (fun _ h => h.elim)
  · refine RdL.ofOwn (base := w.heap.size) (n := k) (vs := vs) (ownsRow_kp h.own hk (fun b hb e => own_ne_batch h.own h.blk0 (by rw [hb, e]))) (h.rep.imp fun x y hxy => hxy.out hk ?_) (fun b hb => hb)
    rintro b rfl _
    exact batch_notU8 h.blk0 h.base
set_option maxHeartbeats 2000000 in
theorem parse_main (w : World) (S : Nat → Prop) (v : Value) (l : List UInt8) (n f many f2 : Nat) (hBa : Base.b ≤ w.heap.size) (h : RdB w S v l) (hl : l.length ≤ 1048576) (hg1 : getU l 0 = (n, f, 0)) (hn1 : 1 ≤ n) (hn2 : n ≤ 1152921504606846976)
    (hg2 : getU l (f : Int) = (many, f2, 0)) (hm1 : 1 ≤ many) (hm2 : many ≤ 1000) (R : Option (Nat × List (List UInt8)))
    (hR : R = match recsR many (l.drop f2) with | some (rs, []) => some (n, rs) | _ => none) :
    Calls Tryz.prog 37 #[v] w (ParseP w R) := by
  have hf := (getU_le hg1).1
  have hf2 := (getU_le hg2).1
  have HU : ∀ wx, Below w.heap.size w wx → Calls Tryz.prog 97 #[v, .int .i64 0] wx fun e w' => e = .returned (getUV (getU l 0)) ∧ wx = w' := fun wx hx => getUint_any wx S v l (h.below hx (fun _ h => .inl h)) 0 (by omega)
  have HU2 : ∀ wx, Below w.heap.size w wx → Calls Tryz.prog 97 #[v, .int .i64 (f : Int)] wx fun e w' => e = .returned (getUV (getU l (f : Int))) ∧ wx = w' := fun wx hx => getUint_any wx S v l (h.below hx (fun _ h => .inl h)) (f : Int) (by omega)
  have HGB := Lib.hid (fun (wx : World) (p : Nat) (hp : p ≤ 1048576) (hx : Below w.heap.size w wx) => getBlob_any wx S v l (p : Int) 1048576 (h.below hx (fun _ h => .inl h)) (by omega) (by omega) (by omega))
  obtain ⟨A, c, rfl, h1, h2, h3⟩ := h
  simp only [hg1, hg2, getUV] at HU HU2
  have hB := (Below.refl w.heap.size w).alloc (Nat.le_refl _) (.cells #[.int .i64 0, .slice none 0 0] 52)
  have HC := Lib.hid (HU _ hB)
  have HC2 := Lib.hid (HU2 _ hB)
  have hB2 := hB.alloc (by simp) (.cells #[.int .i64 (n : Int), .slice none 0 0] 52)
  have HB2 := Lib.hid hB2
  have hd1 : decide ((n : Int) < 1) = false := decide_eq_false (by omega)
  have hd2 : decide ((1152921504606846976 : Int) < (n : Int)) = false := decide_eq_false (by omega)
  have hd3 : decide ((1048576 : Int) < (l.length : Int)) = false := decide_eq_false (by omega)
  have hd4 : decide ((many : Int) < 1) = false := decide_eq_false (by omega)
  have hd5 : decide ((1000 : Int) < (many : Int)) = false := decide_eq_false (by omega)
  have hw : IntKind.i64.wrap (n : Int) = (n : Int) := by rw [IntKind.wrap_i64]; omega
  have hstart : ParI w ((w.alloc (.cells #[.int .i64 0, .slice none 0 0] 52)).alloc (.cells #[.int .i64 (n : Int), .slice none 0 0] 52)) l n many 0 f2 f2 [] [] (.slice none 0 0) := by
    refine ⟨hBa, hB2, ?_, ?_, World.ownsRow_nil _ _ _ _, All2.nil, hf2, ?_⟩
    · rw [Below.heap_alloc _ _ _ (by simp)]; exact heap_alloc_new w _
    · have := heap_alloc_new (w.alloc (.cells #[.int .i64 0, .slice none 0 0] 52)) (.cells #[.int .i64 (n : Int), .slice none 0 0] 52)
      rw [show (w.alloc (.cells #[.int .i64 0, .slice none 0 0] 52)).heap.size = w.heap.size + 1 by simp] at this
      exact this
    · simp
  have HS := Lib.hid hstart
  have HRR := Lib.hid hR
  clear h3 hg1 hg2 HU HU2 hB hB2 hstart hR h1
  go_enter Tryz.func37, Tryz.ntmps37
  go_wp2_with (first | (go_at_call 97; with_reducible refine HC.out.mono ?_; rintro e w' ⟨rfl, hw⟩; have hw := hw.symm; subst hw) | (go_at_call 97; with_reducible refine HC2.out.mono ?_; rintro e w' ⟨rfl, hw⟩; have hw := hw.symm; subst hw))
  go_loopw [5, 56] (fun at_ i wr => ∃ (k p : Nat) (rs : List (List UInt8)) (vs : List Value) (v : Value), k ≤ many ∧ i = .int .u64 (k : Int) ∧ at_ = .int .i64 (p : Int) ∧ p ≤ 1048576 ∧ Hid (ParI w wr l n many k p f2 rs vs v)) (fun at_ i wr => many - (intOf i).toNat)
  case atStart => exact ⟨0, f2, [], [], _, by omega, rfl, rfl, by omega, HS⟩
  case round =>
    obtain ⟨k, p, rs, vs, vr, hk, rfl, rfl, hp, HI⟩ := hrel
    have hI := HI.out
    have hc1 := cell_row hI.blk 1
    have hc0 := cell_row hI.blk 0
    have hz0 := cell_row hI.blk0 0
    have hz1 := cell_row hI.blk0 1
    have hf0 : ∀ j, wr.frozen? ⟨w.heap.size, j, none⟩ = false := fun j => by simp [World.frozen?, hI.blk0]
    have hf1 : ∀ j, wr.frozen? ⟨w.heap.size + 1, j, none⟩ = false := fun j => by simp [World.frozen?, hI.blk]
    simp only [List.getElem?_toArray, List.getElem?_cons_zero, List.getElem?_cons_succ] at hc0 hc1 hz0 hz1
    obtain ⟨Av, cv, rfl⟩ := own_slice hI.own
    have hw0lt : w.heap.size < wr.heap.size := (Array.getElem?_eq_some_iff.1 hI.blk0).1
    clear hI
    by_cases hlt : k < many
    · have hx1 : (k : Int) < (many : Int) := by omega
      have HG := Lib.hid (HGB.out wr p hp HI.out.below)
      obtain ⟨⟨b, q, e⟩, hg⟩ : ∃ r, getB l (p : Int) 1048576 = r := ⟨_, rfl⟩
      rw [hg] at HG
      have HGe := Lib.hid hg
      clear hg
      by_cases he : e = 0
      · subst he
        have hwr := HI.out.below.size
        go_wp2_with (first | (go_at_call 98; refine HG.out.mono ?_; rintro e w2 ⟨u, rfl, hu, hb2⟩; have hq1 := (hb2.cell (World.block_lt_of_cell? wr _ hc1)).trans hc1; obtain ⟨Au, cu, eu⟩ := own_slice hu; have HU := Lib.hid hu; have HB := Lib.hid hb2; have hu1 : u.oneCell' = true := (by rw [eu]; rfl); subst eu; clear hu hb2) | (at_builtin; refine wpList_append_sl rfl _ _ rfl w.heap.size _ k vs _ _ _ rfl rfl ((own_below (own_below HI.out.own HB.out) ((Below.refl w2.heap.size w2).alloc (Nat.le_refl _) _))) (cell_one_new w2 _ _) hu1 (by omega) (by have := HB.out.size; simp; omega) ?_; intro v' w4 ho4 hg4 hf4; obtain ⟨hq2, hq3⟩ := HI.out.blk4 HB.out hg4; obtain ⟨Av4, cv4, ev4⟩ := own_slice ho4; subst ev4; have HO4 := Lib.hid ho4; have HG4 := Lib.hid hg4; clear ho4 hg4 hf4))
        go_roundw
        case rel =>
          have hge := HGe.out
          have hs := HI.out.step (T := 53) hlt (by rw [hge]) (by rw [hge]; exact HU.out) HB.out HO4.out HG4.out
          rw [hge] at hs
          have hq := (getB_le (l := l) (at_ := (p : Int)) (most := 1048576) (by rw [hge])).1
          rw [hge] at hq
          exact ⟨k + 1, q, rs ++ [b], vs ++ [_], _, by omega, by go_num, rfl, by simp at hq; omega, Lib.hid hs⟩
        case measure => simp [intOf]; omega
      · have he2 : (e != 0) = true := by simpa using he
        have HE := Lib.hid he
        clear he
        go_wp2_with (go_at_call 98; refine HG.out.mono ?_; rintro e w2 ⟨u, rfl, hu, hb2⟩; have hz01 := (hb2.cell (World.block_lt_of_cell? wr _ hz0)).trans hz0; have hz11 := (hb2.cell (World.block_lt_of_cell? wr _ hz1)).trans hz1; have hf01 : ∀ j, w2.frozen? ⟨w.heap.size, j, none⟩ = false := (fun j => (hb2.frozen (p := ⟨w.heap.size, j, none⟩) hw0lt).trans (hf0 j)); have HB := Lib.hid hb2; clear hu hb2)
        have hn : R = none := by
          rw [HRR.out, ← HI.out.eq, show many - k = (many - (k + 1)) + 1 by omega, getB_recs HI.out.pos, HGe.out, if_neg HE.out]
          rfl
        rw [hn]
        refine bodyPost_ret (v := .tuple #[.agg #[.int .i64 0, .slice none 0 0], .int .i64 10]) (by simp [results, Tryz.results37, go_sem, hz01, hz11]) rfl ⟨_, rfl, RdL.nil _ _, ?_⟩
        have h1 := HI.out.below.trans (HB.out.mono HI.out.below.size)
        exact (h1.setCell (Nat.le_refl _) _).setCell (Nat.le_refl _) _
    · obtain rfl : k = many := by omega
      by_cases hpl : p < l.length
      · have hd9 : decide ((p : Int) < (l.length : Int)) = true := decide_eq_true (by omega)
        go_wp2
        have hn : R = none := by
          rw [HRR.out, ← HI.out.eq, Nat.sub_self]
          have : l.drop p ≠ [] := by simp; omega
          simp only [recsR, Option.map_some, List.append_nil]
          split
          · rename_i h
            simp only [Option.some.injEq, Prod.mk.injEq] at h
            exact absurd h.2 this
          · rfl
        rw [hn]
        refine bodyPost_ret (v := .tuple #[.agg #[.int .i64 0, .slice none 0 0], .int .i64 10]) (by simp [results, Tryz.results37, go_sem, hz0, hz1]) rfl ⟨_, rfl, RdL.nil _ _, ?_⟩
        exact (HI.out.below.setCell (Nat.le_refl _) _).setCell (Nat.le_refl _) _
      · have hd9 : decide ((p : Int) < (l.length : Int)) = false := decide_eq_false (by omega)
        go_wp2
        have hn : R = some (n, rs) := by
          rw [HRR.out, ← HI.out.eq, Nat.sub_self, List.drop_eq_nil_of_le (by omega)]
          simp [recsR]
        rw [hn]
        have hend := HI.out.end_ (((Kp.refl (fun b => b = w.heap.size) wr).setCell (p := ⟨w.heap.size, 0, none⟩) (.inl rfl) (.int .i64 (n : Int))).setCell (p := ⟨w.heap.size, 1, none⟩) (.inl rfl) (.slice Av k cv))
        refine bodyPost_ret (v := .tuple #[.agg #[.int .i64 (n : Int), .slice Av k cv], .int .i64 0]) (by simp [results, Tryz.results37, go_sem, hz0, hz1]) rfl ⟨_, rfl, ?_, ?_⟩
        · exact hend.2
        · exact hend.1
/-- Parse. -/
theorem parse_any (w : World) (S : Nat → Prop) (v : Value) (l : List UInt8) (hBa : Base.b ≤ w.heap.size) (h : RdB w S v l) (hl : l.length ≤ 140737488355328) :
    Calls Tryz.prog 37 #[v] w (ParseP w (parseR l)) := by
  obtain ⟨⟨n, f, e⟩, hg⟩ : ∃ r, guR 0 0 l = r := ⟨_, rfl⟩
  have hu := getU_zero l
  rw [hg] at hu
  simp only at hu
  unfold parseR
  rw [hg]
  simp only
  by_cases h1 : e = 0 ∧ 1 ≤ n ∧ n ≤ 1152921504606846976 ∧ l.length ≤ 1048576
  · rw [if_pos h1]
    obtain ⟨rfl, h2, h3, h4⟩ := h1
    rw [if_pos rfl] at hu
    have hf := (getU_le hu).1
    obtain ⟨⟨m, f2, e2⟩, hg2⟩ : ∃ r, guR 0 0 (l.drop f) = r := ⟨_, rfl⟩
    rw [hg2]
    simp only
    have hu2 := getU_at hf
    rw [hg2] at hu2
    simp only at hu2
    by_cases h5 : e2 = 0 ∧ 1 ≤ m ∧ m ≤ 1000
    · rw [if_pos h5]
      obtain ⟨rfl, h6, h7⟩ := h5
      rw [if_pos rfl] at hu2
      exact parse_main w S v l n f m (f + f2) hBa h h4 hu h2 h3 hu2 h6 h7 _ rfl
    · rw [if_neg h5]
      refine parse_bad2 w S v l n f h h4 hu h2 h3 ?_
      rw [hu2]
      split
      · simp only; omega
      · rename_i hne
        exact .inl hne
  · rw [if_neg h1]
    refine parse_bad w S v l h hl ?_
    rw [hu]
    split
    · simp only; omega
    · rename_i hne
      exact .inl hne
end Go.Proofs.YtohpgipgfmkflaaGreatDoor
namespace Go.Proofs.YtohpgipgfmkflaaGreatDoor
set_option linter.unusedSectionVars false
variable [Base]
open Go.RowKit
set_option maxRecDepth 100000
set_option linter.unusedVariables false
set_option linter.unusedSimpArgs false
attribute [local go_sem ↓] Go.wp_at_zero Go.wp_at_succ

def AtoiP (w : World) (l : List UInt8) (e : Ending) (w' : World) : Prop :=
  (∃ v, Lib.atoiAll l = .ok v ∧ -9223372036854775808 ≤ v ∧ v ≤ 9223372036854775807 ∧ e = .returned (.tuple #[.int .i64 v, .nilIface]) ∧ Below w.heap.size w w') ∨
  ((∀ v, Lib.atoiAll l ≠ .ok v) ∧ ∃ n N, e = .returned (.tuple #[.int .i64 n, .iface 219 (.pointer (some ⟨N, 0, none⟩))]) ∧ Below w.heap.size w w')
theorem atoi_call (w : World) (s : ByteArray) (hs : s.size ≤ 140737488355328) (hl : Laid w) : Calls Tryz.prog 100 #[.string s] w (AtoiP w s.data.toList) := by
  cases h : Lib.atoiAll s.data.toList
  · rename_i v
    have hb := Lib.atoiAll_bounds h
    refine (Tryz.strconv_Atoi_ok s (by omega) v h w).mono ?_
    rintro e w' ⟨rfl, hw⟩
    refine .inl ⟨v, h, by omega, by omega, rfl, ?_⟩
    rcases hw with rfl | ⟨t, rfl⟩
    · exact Below.refl _ _
    · exact ⟨rfl, rfl, rfl, by rw [Lib.bytesWorld_size]; omega, fun k hk => Lib.bytesWorld_at_old w _ _ k hk⟩
  · obtain ⟨tp, p, hc⟩ := hl.syn
    refine (Any.strconv_Atoi_syntax Tryz.laysC172 s (by omega) h _ w hc (.inr ⟨_, _, rfl⟩)).mono ?_
    rintro e w' ⟨N, rfl, _, _, hb⟩
    exact .inr ⟨fun v => by rw [h]; simp, 0, N, rfl, hb⟩
  · obtain ⟨tp, p, hc⟩ := hl.rng
    refine (Tryz.strconv_Atoi_range s (by omega) h _ w hc (.inr ⟨_, _, rfl⟩)).mono ?_
    rintro e w' ⟨N, rfl, _, _, hb⟩
    exact .inr ⟨fun v => by rw [h]; simp, _, N, rfl, hb⟩
theorem hasP (l : List UInt8) : Lib.hasPrefix l [119] = decide (l.head? = some 119) := by
  unfold Lib.hasPrefix
  cases l with
  | nil => rfl
  | cons a l =>
    simp only [List.isPrefixOf, Bool.and_true, List.head?_cons, Option.some.injEq]
    by_cases h : a = 119
    · subst h; rfl
    · rw [decide_eq_false h]; simpa using fun e => h e.symm
set_option maxHeartbeats 2000000 in
theorem first_any (w : World) (s : ByteArray) (hs : s.size ≤ 140737488355328) (hl : Laid w) :
    Calls Tryz.prog 38 #[.string s] w fun e w' => e = .returned (.tuple #[.int .i64 (firstR s.data.toList).1, .bool (firstR s.data.toList).2]) ∧ Below w.heap.size w w' := by
  have HC := Lib.hid (Tryz.strings_CutPrefix s ⟨#[119]⟩ w)
  obtain ⟨l, hl'⟩ : ∃ l, s.data.toList = l := ⟨_, rfl⟩
  have hsz : s.size = l.length := by rw [← hl']; simp
  have hst : s.toList = l := by rw [ByteArray.toList_eq, hl']
  rw [hl'] at HC ⊢
  have hpl : (⟨#[119]⟩ : ByteArray).data.toList = [119] := rfl
  rw [hpl, hasP] at HC
  by_cases hh : l.head? = some 119
  · obtain ⟨r, rfl⟩ : ∃ r, l = 119 :: r := by
      cases l with
      | nil => cases hh
      | cons a l => simp at hh; subst hh; exact ⟨l, rfl⟩
    have ht : Lib.trimPrefix (119 :: r) [119] = r := by unfold Lib.trimPrefix; rw [hasP, decide_eq_true hh]; rfl
    rw [ht, decide_eq_true hh] at HC
    have HA := Lib.hid (atoi_call w ⟨r.toArray⟩ (by show r.toArray.size ≤ _; simp at hsz ⊢; omega) hl)
    have hda : (⟨r.toArray⟩ : ByteArray).data.toList = r := by simp
    rw [hda] at HA
    have HL := Lib.hid hl
    have HST := Lib.hid hst
    clear hl hl' hsz hst hpl hh ht hs hda
    by_cases hok : ∃ v, Lib.atoiAll r = .ok v
    · obtain ⟨v, hv⟩ := hok
      have hb := Lib.atoiAll_bounds hv
      by_cases hn : nameL v = 119 :: r
      · have hR := Lib.hid (show firstR (119 :: r) = (v, true) by unfold firstR; simp only [List.head?_cons, if_true, List.tail_cons]; rw [hv]; simp only; rw [if_pos hn])
        have hc1 : ((nameB v).toList == s.toList) = true := by rw [HST.out]; unfold nameB; rw [ByteArray.toList_mk, hn]; simp
        have hc2 : ((nameB v).toList != s.toList) = false := by unfold bne; rw [hc1]; rfl
        have HV := Lib.hid hv
        clear hv hn
        go_enter Tryz.func38, Tryz.ntmps38
        go_wp2_with (first | (go_at_call 99; refine HC.out.mono ?_; rintro e w' ⟨rfl, hw⟩; have hw := hw.symm; subst hw) | (go_at_call 100; refine HA.out.mono ?_; rintro e w1 hp; obtain ⟨rfl, hb1⟩ : e = .returned (.tuple #[.int .i64 v, .nilIface]) ∧ Below w.heap.size w w1 := (by rcases hp with ⟨v', h1, _, _, rfl, h2⟩ | ⟨h1, _⟩; (rw [HV.out] at h1; injection h1 with h1; subst h1; exact ⟨rfl, h2⟩); exact absurd HV.out (h1 v)); have HB1 := Lib.hid hb1; clear hb1 hp) | (go_at_call 39; refine (name_any w1 v (HL.out.below HB1.out) (by omega) (by omega)).mono ?_; rintro e w2 ⟨rfl, hb2⟩))
        go_ret2
        rw [hR.out]
        exact ⟨rfl, HB1.out.trans (hb2.mono HB1.out.size)⟩
      · have hR := Lib.hid (show firstR (119 :: r) = (0, false) by unfold firstR; simp only [List.head?_cons, if_true, List.tail_cons]; rw [hv]; simp only; rw [if_neg hn])
        have hc1 : ((nameB v).toList == s.toList) = false := by rw [HST.out]; unfold nameB; rw [ByteArray.toList_mk]; simpa using hn
        have hc2 : ((nameB v).toList != s.toList) = true := by unfold bne; rw [hc1]; rfl
        have HV := Lib.hid hv
        clear hv hn
        go_enter Tryz.func38, Tryz.ntmps38
        go_wp2_with (first | (go_at_call 99; refine HC.out.mono ?_; rintro e w' ⟨rfl, hw⟩; have hw := hw.symm; subst hw) | (go_at_call 100; refine HA.out.mono ?_; rintro e w1 hp; obtain ⟨rfl, hb1⟩ : e = .returned (.tuple #[.int .i64 v, .nilIface]) ∧ Below w.heap.size w w1 := (by rcases hp with ⟨v', h1, _, _, rfl, h2⟩ | ⟨h1, _⟩; (rw [HV.out] at h1; injection h1 with h1; subst h1; exact ⟨rfl, h2⟩); exact absurd HV.out (h1 v)); have HB1 := Lib.hid hb1; clear hb1 hp) | (go_at_call 39; refine (name_any w1 v (HL.out.below HB1.out) (by omega) (by omega)).mono ?_; rintro e w2 ⟨rfl, hb2⟩))
        go_ret2
        rw [hR.out]
        exact ⟨rfl, HB1.out.trans (hb2.mono HB1.out.size)⟩
    · have hR := Lib.hid (show firstR (119 :: r) = (0, false) by
        unfold firstR
        simp only [List.head?_cons, if_true, List.tail_cons]
        cases h : Lib.atoiAll r
        · rename_i v; exact absurd ⟨v, h⟩ hok
        · rfl
        · rfl)
      have HO := Lib.hid hok
      clear hok
      go_enter Tryz.func38, Tryz.ntmps38
      go_wp2_with (first | (go_at_call 99; refine HC.out.mono ?_; rintro e w' ⟨rfl, hw⟩; have hw := hw.symm; subst hw) | (go_at_call 100; refine HA.out.mono ?_; rintro e w1 hp; obtain ⟨n, N, rfl, hb1⟩ : ∃ n N, e = .returned (.tuple #[.int .i64 n, .iface 219 (.pointer (some ⟨N, 0, none⟩))]) ∧ Below w.heap.size w w1 := (by rcases hp with ⟨v', h1, _⟩ | ⟨_, h2⟩; (exact absurd ⟨v', h1⟩ HO.out); exact h2)))
      go_ret2
      rw [hR.out]
      exact ⟨rfl, hb1⟩
  · have hR := Lib.hid (show firstR l = (0, false) by unfold firstR; rw [if_neg hh])
    have ht : Lib.trimPrefix l [119] = l := by unfold Lib.trimPrefix; rw [hasP, decide_eq_false hh]; rfl
    rw [ht, decide_eq_false hh] at HC
    have HA := Lib.hid (atoi_call w ⟨l.toArray⟩ (by show l.toArray.size ≤ _; simp; omega) hl)
    clear hl hl' hsz hst hpl hh ht hs
    go_enter Tryz.func38, Tryz.ntmps38
    go_wp2_with (first | (go_at_call 99; refine HC.out.mono ?_; rintro e w' ⟨rfl, hw⟩; have hw := hw.symm; subst hw) | (go_at_call 100; refine HA.out.mono ?_; rintro e w1 hp; obtain ⟨n, er, rfl, hb1⟩ : ∃ n er, e = .returned (.tuple #[.int .i64 n, er]) ∧ Below w.heap.size w w1 := (by rcases hp with ⟨v', _, _, _, rfl, h2⟩ | ⟨_, n, N, rfl, h2⟩; exact ⟨_, _, rfl, h2⟩; exact ⟨_, _, rfl, h2⟩)))
    go_ret2
    rw [hR.out]
    exact ⟨rfl, hb1⟩
end Go.Proofs.YtohpgipgfmkflaaGreatDoor
namespace Go.Proofs.YtohpgipgfmkflaaGreatDoor
set_option linter.unusedSectionVars false
variable [Base]
open Go.RowKit
set_option maxRecDepth 100000
set_option linter.unusedVariables false
set_option linter.unusedSimpArgs false
attribute [local go_sem ↓] Go.wp_at_zero Go.wp_at_succ

/-- A row of strings of the call's own. -/
structure RowL (w : World) (base : Nat) (v : Value) (vs : List Value) (ls : List (List UInt8)) : Prop where
  lo : Base.b ≤ base
  own : w.ownsRow base 53 1 v ls.length vs
  rep : All2 (RdB w (fun b => b < base)) vs ls
section
variable {w w2 w4 : World} {base : Nat} {v v' u : Value} {vs : List Value} {ls : List (List UInt8)} {l : List UInt8} {T : TypeId}
theorem RowL.nil (w : World) (base : Nat) (hB : Base.b ≤ base) : RowL w base (.slice none 0 0) [] [] := ⟨hB, World.ownsRow_nil _ _ _ _, All2.nil⟩
theorem RowL.below (h : RowL w base v vs ls) (k : Below w.heap.size w w2) (hb : base ≤ w.heap.size) : RowL w2 base v vs ls :=
  ⟨h.lo, own_below h.own k, h.rep.imp fun x y hxy => hxy.below k (fun b hb => .inl hb)⟩
theorem RowL.rd (h : RowL w base v vs ls) {S : Nat → Prop} (hS : ∀ b, S b → b < base) : RdL w S v ls :=
  RdL.ofOwn h.own (h.rep.imp fun x y hxy => hxy.mono hS) hS
theorem RowL.snoc (h : RowL w base v vs ls) (hb : Below w.heap.size w w2) (hu : RdB w2 (fun b => b < base) u l)
    (ho4 : w4.ownsRow base 53 1 v' (ls.length + 1) (vs ++ [u])) (hg4 : (w2.alloc (.cells #[u] T)).grownBy w4 v.ownBlock) : RowL w4 base v' (vs ++ [u]) (ls ++ [l]) := by
  have hk : Kp (fun b => v.ownBlock = some b) w w4 := (Kp.ofBelow (hb.alloc hb.size _) _).grown hg4 (fun b hb => .inl hb)
  have hk2 : Kp (fun b => v.ownBlock = some b) w2 w4 := ((Kp.refl _ w2).alloc _).grown hg4 (fun b hb => .inl hb)
  have hn := own_notU8 h.own (by decide) h.lo
  refine ⟨h.lo, by rw [List.length_append]; exact ho4, (h.rep.imp fun x y hxy => hxy.out hk (fun b hb _ => hn b hb)).append (All2.one (hu.out hk2 fun b hb' _ => ?_))⟩
  exact fun hu => hn b hb' (hu.kp fun _ _ he => (hb.block b (h.own.lt b hb').2).symm.trans he)
end
def bytesOf (l : List ByteArray) : List (List UInt8) := l.map fun s => s.data.toList
theorem bytes_of_string (w : World) (s : ByteArray) (S : Nat → Prop) (hS : ∀ b, S b → b < w.heap.size) (hs : s.size ≤ 140737488355328) :
    ∃ c w2, (convert 9 53 (.string s)).run Tryz.prog w = .ok (.slice (some ⟨w.heap.size, 0, none⟩) s.size c) w2 ∧ RdB w2 S (.slice (some ⟨w.heap.size, 0, none⟩) s.size c) s.data.toList ∧ Below w.heap.size w w2 ∧ w2.heap.size = w.heap.size + 1 := by
  refine ⟨_, _, Lib.run_convert_string_bytes (P := Tryz.prog) w 9 53 5 s Tryz.underlying9 Tryz.underlying53 Tryz.underlying5, ?_, ⟨rfl, rfl, rfl, by rw [Lib.bytesWorld_size]; omega, fun k hk => Lib.bytesWorld_at_old w _ _ k hk⟩, Lib.bytesWorld_size _ _ _⟩
  have hge := grownCap_ge w s.size 0 5
  have hle := grownCap_le_maxLen w s.size 0 5 (by unfold maxLen; omega)
  have hsl : s.data.toList.length = s.size := by simp
  refine ⟨_, _, by rw [hsl], ⟨by rw [hsl]; exact hge, fun h => by cases h⟩, hle, fun j hj => ⟨w.heap.size, 0, rfl, ⟨fun hs => Nat.lt_irrefl _ (hS _ hs), .inl ⟨_, _, Lib.bytesWorld_at_new w _ s⟩⟩, ?_⟩⟩
  rw [Nat.zero_add]
  exact Lib.bytesWorld_cell w _ s j (by rw [← hsl]; exact hj)
def RecsP (w : World) (ls : List (List UInt8)) (e : Ending) (w' : World) : Prop :=
  ∃ v vs, e = .returned v ∧ RowL w' w.heap.size v vs ls ∧ Below w.heap.size w w'
set_option maxHeartbeats 2000000 in
theorem recs_any (w : World) (v : Value) (l : List ByteArray) (hBa : Base.b ≤ w.heap.size) (h : RdT w v l) (hn : l.length ≤ 1000000) (hs : ∀ s ∈ l, s.size ≤ 1000000) :
    Calls Tryz.prog 32 #[v] w (RecsP w (bytesOf l)) := by
  obtain ⟨A, c, rfl, h1, h2, h3⟩ := id h
  have H3 := Lib.hid h3
  have HS := Lib.hid hs
  have HBA := Lib.hid hBa
  clear h h3 hs hBa
  go_enter Tryz.func32, Tryz.ntmps32
  go_wp2
  go_loopw [3, 4] (fun out i wr => ∃ (k : Nat) (vs : List Value), k ≤ l.length ∧ i = .int .i64 (k : Int) ∧ Below w.heap.size w wr ∧ Hid (RowL wr w.heap.size out vs (bytesOf (l.take k)))) (fun out i wr => l.length - (intOf i).toNat)
  case atStart => exact ⟨0, [], by omega, rfl, Below.refl _ _, Lib.hid (by simpa [bytesOf] using RowL.nil w w.heap.size HBA.out)⟩
  case round =>
    obtain ⟨k, vs, hk, rfl, hbel, HI⟩ := hrel
    have HB := Lib.hid hbel
    have hsz := hbel.size
    clear hbel
    by_cases hlt : k < l.length
    · obtain ⟨g, o, e1, hc⟩ := H3.out k hlt
      subst e1
      have hq := (HB.out.cell (p := ⟨g, o + k, none⟩) (World.block_lt_of_cell? w _ hc)).trans hc
      have hsz2 := HS.out _ (List.getElem_mem hlt)
      obtain ⟨x, hx⟩ : ∃ x, l[k] = x := ⟨_, rfl⟩
      rw [hx] at hq hsz2
      obtain ⟨cc, w2, hcv, hrd, hb2, hz2⟩ := bytes_of_string wr x (fun b => b < w.heap.size) (fun b hb => by omega) (by omega)
      have HRD := Lib.hid hrd
      have HB2 := Lib.hid hb2
      have HX := Lib.hid hx
      have hz3 := hb2.size
      have hlk : (bytesOf (l.take k)).length = k := by simp [bytesOf]; omega
      have HLK := Lib.hid hlk
      have hx1 : (k : Int) < (l.length : Int) := by omega
      clear hc hx hrd hb2 hz2 hlk
      go_wp2_with (at_builtin; refine wpList_append_sl rfl _ _ rfl w.heap.size _ k vs _ _ _ rfl rfl (by have h9 := (HI.out.below HB2.out hsz).own; rw [HLK.out] at h9; exact own_below h9 ((Below.refl w2.heap.size w2).alloc (Nat.le_refl _) _)) (cell_one_new w2 _ _) rfl (by omega) (by simp; omega) ?_; intro v' w4 ho4 hg4 hf4; have HO4 := Lib.hid ho4; have HG4 := Lib.hid hg4; clear ho4 hg4 hf4)
      go_roundw
      case rel =>
        have hst : bytesOf (l.take (k + 1)) = bytesOf (l.take k) ++ [x.data.toList] := by
          unfold bytesOf
          rw [List.take_succ_eq_append_getElem hlt, List.map_append, HX.out]; rfl
        refine ⟨k + 1, vs ++ [.slice (some ⟨wr.heap.size, 0, none⟩) x.size cc], by omega, by go_num, ?_, Lib.hid ?_⟩
        · have h9 := HB.out.trans (HB2.out.mono hsz)
          exact (h9.alloc h9.size _).grown HG4.out (by have := h9.size; simp; omega) (fun b hb => (HI.out.own.lt b hb).1)
        · rw [hst]
          exact HI.out.snoc (T := 53) HB2.out HRD.out (by rw [HLK.out]; exact HO4.out) HG4.out
      case measure => simp [intOf]; omega
    · obtain rfl : k = l.length := by omega
      go_wp2
      go_ret
      have h9 := HI.out
      rw [List.take_length] at h9
      exact ⟨_, vs, rfl, h9, HB.out⟩
end Go.Proofs.YtohpgipgfmkflaaGreatDoor
namespace Go.Proofs.YtohpgipgfmkflaaGreatDoor
set_option linter.unusedSectionVars false
variable [Base]
set_option linter.unusedVariables false
set_option linter.unusedSimpArgs false

def awR1 : List (List UInt8) := [[97], []]
def awR3 : List (List UInt8) := [[48, 49, 50, 51, 52, 53, 54, 55, 56, 57, 48, 49, 50, 51, 52, 53, 54, 55, 56, 57, 48, 49, 50, 51, 52, 53, 54, 55, 56, 57, 48, 49, 50, 51, 52, 53, 54, 55, 56, 57, 48, 49, 50, 51, 52, 53]]
def aw1 : WR := (LState.new 64 0).writes (DState.fresh 1000) awR1
def aw2 : LState × DState × Int := aw1.L.syncs aw1.D
def aw3 : WR := aw2.1.writes aw2.2.1 awR3
def aw4 : WR := aw3.L.writes aw3.D [[99]]
def aw5 : WR := aw4.L.writes aw4.D []
set_option maxRecDepth 100000
theorem aw1_n : aw1.n = 1 := by decide +kernel
theorem aw1_e : aw1.e = 0 := by decide +kernel
theorem aw1_acked : aw1.L.acked = 0 := by decide +kernel
theorem aw1_last : aw1.L.last = 1 := by decide +kernel
theorem aw1_size : (getF aw1.D.files ⟨#[119, 49]⟩).b.length = 19 := by decide +kernel
theorem aw2_e : aw2.2.2 = 0 := by decide +kernel
theorem aw2_acked : aw2.1.acked = 1 := by decide +kernel
theorem aw2_synced : (getF aw2.2.1.files ⟨#[119, 49]⟩).safe = 19 := by decide +kernel
theorem aw3_n : aw3.n = 2 := by decide +kernel
theorem aw3_e : aw3.e = 0 := by decide +kernel
theorem aw4_n : aw4.n = 3 := by decide +kernel
theorem aw4_e : aw4.e = 0 := by decide +kernel
theorem aw5_e : aw5.e = 2 := by decide +kernel
theorem aw5_acked : aw5.L.acked = 2 := by decide +kernel
theorem aw5_files : sameT (filesN aw5.L.firsts) [⟨#[119, 49]⟩, ⟨#[119, 51]⟩] = true := by decide +kernel
theorem aw_bytes : bytesR 1 awR1 = ([1, 2, 1, 97, 0], 0) := by decide +kernel
theorem aw_first : firstR [119, 48, 55] = (0, false) := by decide +kernel
theorem aw_name : nameB 7 = ⟨#[119, 55]⟩ := by decide +kernel
theorem aw_lens : aw1.L.firsts.length ≤ 3 ∧ aw2.1.firsts.length ≤ 3 ∧ aw3.L.firsts.length ≤ 3 ∧ aw4.L.firsts.length ≤ 3 := by decide +kernel
theorem awR1_len : ∀ r ∈ awR1, r.length ≤ 1073741824 := by decide
theorem awR3_len : ∀ r ∈ awR3, r.length ≤ 1073741824 := by decide
end Go.Proofs.YtohpgipgfmkflaaGreatDoor
namespace Go.Proofs.YtohpgipgfmkflaaGreatDoor
set_option linter.unusedSectionVars false
variable [Base]
open Go.RowKit
set_option maxRecDepth 100000
set_option linter.unusedVariables false
set_option linter.unusedSimpArgs false
attribute [local go_sem ↓] Go.wp_at_zero Go.wp_at_succ

/-- A log and its disk, both made since w0. -/
structure Lg (w0 wi : World) (Sd : Nat → Prop) (q p : Nat) (L : LState) (D : DState) (v : Value) : Prop where
  log : LogW wi Sd q p L D v
  below : Below w0.heap.size w0 wi
  far : ∀ b, Sd b ∨ Ow q v b → w0.heap.size ≤ b
def LgP (w0 wi : World) (Sd : Nat → Prop) (q p : Nat) (v : Value) (L' : LState) (D' : DState) (w' : World) : Prop :=
  ∃ Sd' v', Lg w0 w' Sd' q p L' D' v' ∧ LStep Sd (Ow q v) Sd' (Ow q v') wi w'
section
variable {w0 wi w' : World} {Sd : Nat → Prop} {q p : Nat} {L L' : LState} {D D' : DState} {v : Value}
theorem Lg.below' (h : Lg w0 wi Sd q p L D v) (k : Below wi.heap.size wi w') : Lg w0 w' Sd q p L D v :=
  ⟨h.log.below k, h.below.trans (k.mono h.below.size), h.far⟩
theorem Lg.step (h : Lg w0 wi Sd q p L D v) (hp : LPost wi Sd q p v L' D' w') : LgP w0 wi Sd q p v L' D' w' := by
  obtain ⟨Sd', v', hl, hs⟩ := hp
  have hz := h.below.size
  refine ⟨Sd', v', ⟨hl, ?_, fun b hb => ?_⟩, hs⟩
  · exact (Kp.trans (S := fun _ => False) (Kp.ofBelow h.below _) hs.kp (fun b hb => .inr (h.far b hb))).toBelow (fun _ h => h.elim)
  · rcases hb with hb | hb
    · rcases hs.fd b hb with h1 | h1
      · exact h.far b (.inl h1)
      · omega
    · rcases hs.fl b hb with h1 | h1
      · exact h.far b (.inr h1)
      · omega
end
/-- What is read of memory stays so through a step of the log. -/
theorem LStep.rdB {Sd Sl Sd' Sl' : Nat → Prop} {w w' : World} {v : Value} {l : List UInt8} (h : LStep Sd Sl Sd' Sl' w w') (hr : RdB w (fun b => Sd b ∨ Sl b) v l) : RdB w' (fun b => Sd' b ∨ Sl' b) v l :=
  hr.kp h.kp (fun b hb => hb.elim (fun h1 => (h.fd b h1).imp .inl id) (fun h1 => (h.fl b h1).imp .inr id))
theorem LStep.rdL {Sd Sl Sd' Sl' : Nat → Prop} {w w' : World} {v : Value} {l : List (List UInt8)} (h : LStep Sd Sl Sd' Sl' w w') (hr : RdL w (fun b => Sd b ∨ Sl b) v l) : RdL w' (fun b => Sd' b ∨ Sl' b) v l :=
  hr.kp h.kp (fun b hb => hb.elim (fun h1 => (h.fd b h1).imp .inl id) (fun h1 => (h.fl b h1).imp .inr id))
section
variable {w0 wi : World} {Sd : Nat → Prop} {q p : Nat} {L : LState} {D : DState} {v : Value}
def LgW (w0 wi : World) (Sd : Nat → Prop) (q p : Nat) (v : Value) (r : WR) (e : Ending) (w' : World) : Prop :=
  e = .returned (.tuple #[.int .i64 r.n, .int .i64 r.e]) ∧ LgP w0 wi Sd q p v r.L r.D w'
theorem Lg.write (h : Lg w0 wi Sd q p L D v) {S : Nat → Prop} {vr : Value} {recs : List (List UInt8)} (hr : RdL wi S vr recs) (hrl : ∀ r ∈ recs, r.length ≤ 1073741824) (hm : L.firsts.length < 1000000) :
    Calls Tryz.prog 18 #[.pointer (some ⟨q, 0, none⟩), vr] wi (LgW w0 wi Sd q p v (L.writes D recs)) :=
  (write_any wi Sd S q p L D v vr recs h.log hr hrl hm).mono fun e w' hp => ⟨hp.1, h.step hp.2⟩
def LgE (w0 wi : World) (Sd : Nat → Prop) (q p : Nat) (v : Value) (r : LState × DState × Int) (e : Ending) (w' : World) : Prop :=
  e = .returned (.int .i64 r.2.2) ∧ LgP w0 wi Sd q p v r.1 r.2.1 w'
theorem Lg.sync (h : Lg w0 wi Sd q p L D v) : Calls Tryz.prog 20 #[.pointer (some ⟨q, 0, none⟩)] wi (LgE w0 wi Sd q p v (L.syncs D)) :=
  (lsync_any wi Sd q p L D v h.log).mono fun e w' hp => ⟨hp.1, h.step hp.2⟩
def LgT (w0 wi : World) (Sd : Nat → Prop) (q p : Nat) (v : Value) (r : LState × DState × List ByteArray × Int) (e : Ending) (w' : World) : Prop :=
  ∃ g, e = .returned (.tuple #[g, .int .i64 r.2.2.2]) ∧ w'.ownsRow wi.heap.size 9 1 g r.2.2.1.length (sv r.2.2.1) ∧ ∃ Sd' v', Lg w0 w' Sd' q p r.1 r.2.1 v' ∧ LStep Sd (Ow q v) Sd' (Ow q v') wi w' ∧ ∀ b, g.ownBlock = some b → ¬ Sd' b ∧ ¬ Ow q v' b
theorem Lg.trim (h : Lg w0 wi Sd q p L D v) (below : Int) : Calls Tryz.prog 19 #[.pointer (some ⟨q, 0, none⟩), .int .i64 below] wi (LgT w0 wi Sd q p v (L.trims D below)) :=
  (trim_any wi Sd q p L D v below h.log).mono fun e w' hp => by
    obtain ⟨g, he, ho, Sd1, v1, hl, hs, ha⟩ := hp
    have hz := h.below.size
    refine ⟨g, he, ho, Sd1, v1, ⟨hl, ?_, fun b hb => ?_⟩, hs, ha⟩
    · exact (Kp.trans (S := fun _ => False) (Kp.ofBelow h.below _) hs.kp (fun b hb => .inr (h.far b hb))).toBelow (fun _ h => h.elim)
    · rcases hb with hb | hb
      · rcases hs.fd b hb with h1 | h1
        · exact h.far b (.inl h1)
        · omega
      · rcases hs.fl b hb with h1 | h1
        · exact h.far b (.inr h1)
        · omega
theorem Lg.acked (h : Lg w0 wi Sd q p L D v) : Calls Tryz.prog 22 #[.pointer (some ⟨q, 0, none⟩)] wi fun e w' => e = .returned (.int .i64 (L.acked : Int)) ∧ wi = w' := acked_any wi q p L v h.log.log
theorem Lg.last (h : Lg w0 wi Sd q p L D v) : Calls Tryz.prog 21 #[.pointer (some ⟨q, 0, none⟩)] wi fun e w' => e = .returned (.int .i64 (L.last : Int)) ∧ wi = w' := last_any wi q p L v h.log.log
theorem Lg.over (h : Lg w0 wi Sd q p L D v) : Calls Tryz.prog 24 #[.pointer (some ⟨q, 0, none⟩)] wi fun e w' => e = .returned (.bool L.over) ∧ wi = w' := over_any wi q p L v h.log.log
theorem Lg.files (h : Lg w0 wi Sd q p L D v) : Calls Tryz.prog 23 #[.pointer (some ⟨q, 0, none⟩)] wi (OwnT wi (filesN L.firsts)) := files_any wi q p L v h.log.log h.log.wf h.log.laid
theorem Lg.dsize (h : Lg w0 wi Sd q p L D v) (nm : ByteArray) : Calls Tryz.prog 52 #[.pointer (some ⟨p, 0, none⟩), .string nm] wi fun e w' => e = .returned (.int .i64 ((getF D.files nm).b.length : Nat)) ∧ Below wi.heap.size wi w' := size_any wi Sd p D nm h.log.disk
theorem Lg.dsynced (h : Lg w0 wi Sd q p L D v) (nm : ByteArray) : Calls Tryz.prog 51 #[.pointer (some ⟨p, 0, none⟩), .string nm] wi fun e w' => e = .returned (.int .i64 ((getF D.files nm).safe : Nat)) ∧ Below wi.heap.size wi w' := synced_any wi Sd p D nm h.log.disk
end
/-- New, and Begin on it. -/
theorem begin_new (w : World) (m : Nat) (size : Int) (last : Nat) (hl : Laid w) (hm : m ≤ 16777216) (hs : 64 ≤ size ∧ size ≤ 16777216) (hla : last ≤ 576460752303423488) :
    Calls Tryz.prog 27 #[.pointer (some ⟨w.heap.size, 0, none⟩), .int .i64 size, .int .i64 (last : Int)] (w.alloc (.cells #[.slice none 0 0, .int .i64 (m : Int), .int .i64 (-1), .bool false, .func (.func 91) #[] #[]] 85))
      fun e w' => ∃ q Sd, e = .returned (.tuple #[.pointer (some ⟨q, 0, none⟩), .int .i64 0]) ∧ Lg w w' Sd q w.heap.size (LState.new size last) (DState.fresh m) (.slice none 0 0) := by
  have hB := (Below.refl w.heap.size w).alloc (Nat.le_refl _) (.cells #[.slice none 0 0, .int .i64 (m : Int), .int .i64 (-1), .bool false, .func (.func 91) #[] #[]] 85)
  have h5 := hl.size
  refine (begin_ok _ _ _ _ size last (Disk.fresh w m hm) (hl.below hB) (fun b hb => by rw [hb]; exact h5) hs hla).mono ?_
  rintro e w' ⟨S', q, rfl, hq, hlg, hst⟩
  have hz : (w.alloc (.cells #[.slice none 0 0, .int .i64 (m : Int), .int .i64 (-1), .bool false, .func (.func 91) #[] #[]] 85)).heap.size = w.heap.size + 1 := by simp
  rw [hz] at hq
  refine ⟨q, S', rfl, hlg, ?_, ?_⟩
  · exact (Kp.trans (S := fun _ => False) (Kp.ofBelow hB _) hst.kp (fun b hb => .inr (by rw [hb]; exact Nat.le_refl _))).toBelow (fun _ h => h.elim)
  · rintro b (hb | rfl | hb)
    · rcases hst.fresh b hb with h1 | h1
      · rw [h1]; exact Nat.le_refl _
      · omega
    · omega
    · cases hb
theorem rdT_lit (w : World) (l : List ByteArray) (cs : Array Value) (T : TypeId) (n : Nat) (hn : n = l.length) (hcs : cs.toList = l.map .string) (hle : l.length ≤ 1000) : RdT (w.alloc (.cells cs T)) (.slice (some ⟨w.heap.size, 0, none⟩) n n) l := by
  subst hn
  refine ⟨_, _, rfl, Nat.le_refl _, by omega, fun j hj => ⟨w.heap.size, 0, rfl, ?_⟩⟩
  rw [Nat.zero_add, cell_row (heap_alloc_new w _), ← Array.getElem?_toList, hcs]
  simp [List.getElem?_eq_getElem hj]
/-- recs of texts that are written out. -/
theorem recs_lit (w : World) (hB : Base.b ≤ w.heap.size) (l : List ByteArray) (cs : Array Value) (T : TypeId) (n : Nat) (hn : n = l.length) (hcs : cs.toList = l.map .string) (hle : l.length ≤ 1000) (hs : ∀ s ∈ l, s.size ≤ 1000000) :
    Calls Tryz.prog 32 #[.slice (some ⟨w.heap.size, 0, none⟩) n n] (w.alloc (.cells cs T)) (RecsP w (bytesOf l)) := by
  refine (recs_any _ _ l (by simp; omega) (rdT_lit w l cs T n hn hcs hle) (by omega) hs).mono ?_
  rintro e w' ⟨v, vs, rfl, hr, hb⟩
  refine ⟨v, vs, rfl, ?_, ((Below.refl w.heap.size w).alloc (Nat.le_refl _) _).trans (hb.mono (by simp))⟩
  have hz : w.heap.size ≤ (w.alloc (.cells cs T)).heap.size := by simp
  exact ⟨hB, own_mono hr.own hz, hr.rep.imp fun x y hxy => hxy.mono (fun b hb => by omega)⟩
end Go.Proofs.YtohpgipgfmkflaaGreatDoor
namespace Go.Proofs.YtohpgipgfmkflaaGreatDoor
set_option linter.unusedSectionVars false
variable [Base]
open Go.RowKit
set_option maxRecDepth 100000
set_option linter.unusedVariables false
set_option linter.unusedSimpArgs false
attribute [local go_sem ↓] Go.wp_at_zero Go.wp_at_succ

section
variable {w0 wi : World} {Sd : Nat → Prop} {q p base : Nat} {v vr : Value} {vs : List Value}
theorem aw_w1 (h : Lg w0 wi Sd q p (LState.new 64 0) (DState.fresh 1000) v) (hr : RowL wi base vr vs (bytesOf [⟨#[97]⟩, ⟨#[]⟩])) :
    Calls Tryz.prog 18 #[.pointer (some ⟨q, 0, none⟩), vr] wi fun e w' => e = .returned (.tuple #[.int .i64 1, .int .i64 0]) ∧ LgP w0 wi Sd q p v aw1.L aw1.D w' := by
  have h1 := h.write (S := fun _ => False) (recs := awR1) (hr.rd (fun _ h => h.elim)) awR1_len (by simp [LState.new])
  refine h1.mono fun e w' hp => ⟨?_, hp.2⟩
  rw [hp.1, show (LState.new 64 0).writes (DState.fresh 1000) awR1 = aw1 from rfl, aw1_n, aw1_e]
theorem aw_s2 (h : Lg w0 wi Sd q p aw1.L aw1.D v) :
    Calls Tryz.prog 20 #[.pointer (some ⟨q, 0, none⟩)] wi fun e w' => e = .returned (.int .i64 0) ∧ LgP w0 wi Sd q p v aw2.1 aw2.2.1 w' := by
  refine h.sync.mono fun e w' hp => ⟨?_, hp.2⟩
  rw [hp.1, show aw1.L.syncs aw1.D = aw2 from rfl, aw2_e]
theorem aw_w3 (h : Lg w0 wi Sd q p aw2.1 aw2.2.1 v) (hr : RowL wi base vr vs awR3) :
    Calls Tryz.prog 18 #[.pointer (some ⟨q, 0, none⟩), vr] wi fun e w' => e = .returned (.tuple #[.int .i64 2, .int .i64 0]) ∧ LgP w0 wi Sd q p v aw3.L aw3.D w' := by
  have h1 := h.write (S := fun _ => False) (recs := awR3) (hr.rd (fun _ h => h.elim)) awR3_len (by have := aw_lens; omega)
  refine h1.mono fun e w' hp => ⟨?_, hp.2⟩
  rw [hp.1, show aw2.1.writes aw2.2.1 awR3 = aw3 from rfl, aw3_n, aw3_e]
theorem aw_w4 (h : Lg w0 wi Sd q p aw3.L aw3.D v) (hr : RowL wi base vr vs [[99]]) :
    Calls Tryz.prog 18 #[.pointer (some ⟨q, 0, none⟩), vr] wi fun e w' => e = .returned (.tuple #[.int .i64 3, .int .i64 0]) ∧ LgP w0 wi Sd q p v aw4.L aw4.D w' := by
  have h1 := h.write (S := fun _ => False) (recs := [[99]]) (hr.rd (fun _ h => h.elim)) (by decide) (by have := aw_lens; omega)
  refine h1.mono fun e w' hp => ⟨?_, hp.2⟩
  rw [hp.1, show aw3.L.writes aw3.D [[99]] = aw4 from rfl, aw4_n, aw4_e]
theorem aw_w5 (h : Lg w0 wi Sd q p aw4.L aw4.D v) :
    Calls Tryz.prog 18 #[.pointer (some ⟨q, 0, none⟩), .slice none 0 0] wi fun e w' => (∃ n, e = .returned (.tuple #[.int .i64 n, .int .i64 2])) ∧ LgP w0 wi Sd q p v aw5.L aw5.D w' := by
  have h1 := h.write (S := fun _ => False) (recs := []) (RdL.nil _ _) (by simp) (by have := aw_lens; omega)
  refine h1.mono fun e w' hp => ⟨⟨aw5.n, ?_⟩, hp.2⟩
  rw [hp.1, show aw4.L.writes aw4.D [] = aw5 from rfl, aw5_e]
theorem aw_by {A : Option Addr} {c : Nat} (hr : RowL wi base (.slice A 2 c) vs awR1) :
    Calls Tryz.prog 34 #[.agg #[.int .i64 1, .slice A 2 c]] wi (OwnE wi ([1, 2, 1, 97, 0], 0)) := by
  have h1 := bytes_any wi (fun _ => False) 1 _ awR1 (hr.rd (fun _ h => h.elim)) awR1_len (by omega) (by omega)
  rw [aw_bytes] at h1
  exact h1
end
theorem own_rdB {w : World} {Sd : Nat → Prop} {q p : Nat} {L : LState} {D : DState} {v u : Value} {l : List UInt8} (h : LogW w Sd q p L D v) {w1 : World} {n : Nat} (ho : w1.ownsRow w.heap.size 5 1 u n (bv l)) : RdB w1 (fun b => Sd b ∨ Ow q v b) u l :=
  RdB.ofOwn ho (fun b hb => hb.elim (h.disk.foot b) (h.log.foot b))
theorem rdB_lit (w : World) (l : List UInt8) (cs : Array Value) (n : Nat) (hn : n = l.length) (hcs : cs.toList = bv l) (hle : l.length ≤ 1000) : RdB (w.alloc (.cells cs 5)) (fun _ => False) (.slice (some ⟨w.heap.size, 0, none⟩) n n) l := by
  subst hn
  refine ⟨_, _, rfl, ⟨Nat.le_refl _, fun h => by cases h⟩, by omega, fun j hj => ⟨w.heap.size, 0, rfl, ⟨fun h => h, .inl ⟨_, _, heap_alloc_new w _⟩⟩, ?_⟩⟩
  rw [Nat.zero_add, cell_row (heap_alloc_new w _), ← Array.getElem?_toList, hcs]
  simp [bv, List.getD_eq_getElem?_getD, List.getElem?_eq_getElem hj]
set_option maxHeartbeats 4000000 in
theorem awake_any (w : World) (hl : Laid w) : Calls Tryz.prog 25 #[] w fun e w' => e = .returned (.bool true) ∧ Below w.heap.size w w' := by
  have HN := Lib.hid (new_ok w 1000 (by omega))
  have HB := Lib.hid (begin_new w 1000 64 0 hl (by omega) (by omega) (by omega))
  have HL := Lib.hid hl
  clear hl
  go_enter Tryz.func25, Tryz.ntmps25
  go_wp2_with (first | (go_at_call 26; refine HN.out.mono ?_; rintro e w1 ⟨rfl, hw1⟩; subst hw1) | (go_at_call 27; refine HB.out.mono ?_; rintro e w2 ⟨q, Sd, rfl, hg⟩; have HG := Lib.hid hg; clear hg))
  obtain ⟨P, hP⟩ : ∃ P, P = w.heap.size := ⟨_, rfl⟩
  simp only [← hP]
  have HP := Lib.hid hP
  rw [← hP] at HG
  clear hP HN HB
  go_wp2_with (go_at_call 32; refine (recs_lit w2 HG.out.log.laid.size [⟨#[97]⟩, ⟨#[]⟩] #[.string ⟨#[97]⟩, .string ⟨#[]⟩] 9 2 rfl rfl (by decide) (by decide)).mono ?_; rintro e w3 ⟨vr, vs, rfl, hr, hb⟩; have HR := Lib.hid hr; have HG3 := Lib.hid (HG.out.below' hb); clear hr hb)
  go_wp2_with (go_at_call 18; (with_reducible refine (aw_w1 HG3.out HR.out).mono ?_); rintro e w4 ⟨rfl, Sd4, v4, hg, _⟩; have HG4 := Lib.hid hg; clear hg)
  clear HG HR HG3
  have HA4 := Lib.hid HG4.out.acked
  have HB4 := Lib.hid HG4.out.last
  have HC4 := Lib.hid (HG4.out.dsize ⟨#[119, 49]⟩)
  have e1 := aw1_acked
  have e2 := aw1_last
  have e3 := aw1_size
  rw [e1] at HA4
  rw [e2] at HB4
  rw [e3] at HC4
  clear e1 e2 e3
  go_wp2_with (first | (go_at_call 22; refine HA4.out.mono ?_; rintro e w' ⟨rfl, rfl⟩) | (go_at_call 21; refine HB4.out.mono ?_; rintro e w' ⟨rfl, rfl⟩) | (go_at_call 52; refine HC4.out.mono ?_; rintro e w5 ⟨rfl, hb⟩; have HG5 := Lib.hid (HG4.out.below' hb); clear hb))
  clear HA4 HB4 HC4
  go_wp2_with (go_at_call 20; refine (aw_s2 HG5.out).mono ?_; rintro e w6 ⟨rfl, Sd6, v6, hg, _⟩; have HG6 := Lib.hid hg; clear hg)
  clear HG4 HG5
  have HA6 := Lib.hid HG6.out.acked
  have HC6 := Lib.hid (HG6.out.dsynced ⟨#[119, 49]⟩)
  have e1 := aw2_acked
  have e3 := aw2_synced
  rw [e1] at HA6
  rw [e3] at HC6
  clear e1 e3
  go_wp2_with (first | (go_at_call 22; refine HA6.out.mono ?_; rintro e w' ⟨rfl, rfl⟩) | (go_at_call 51; refine HC6.out.mono ?_; rintro e w7 ⟨rfl, hb⟩; have HG7 := Lib.hid (HG6.out.below' hb); clear hb))
  clear HA6 HC6
  go_wp2_with (go_at_call 32; refine (recs_lit w7 HG7.out.log.laid.size [⟨#[97]⟩, ⟨#[]⟩] #[.string ⟨#[97]⟩, .string ⟨#[]⟩] 9 2 rfl rfl (by decide) (by decide)).mono ?_; rintro e w8 ⟨vr, vs, rfl, hr, hb⟩; obtain ⟨Av, cv, ev⟩ : ∃ A c, vr = .slice A 2 c := own_slice hr.own; subst ev; have HR := Lib.hid (aw_by (wi := w8) (vs := vs) hr); have HG8 := Lib.hid (HG7.out.below' hb); clear hr hb)
  go_wp2_with (go_at_call 34; refine HR.out.mono ?_; rintro e w9 ⟨vb, rfl, ho, hb⟩; obtain ⟨Ab, cb, eb⟩ : ∃ A c, vb = .slice A 5 c := own_slice ho; subst eb; have HBB := Lib.hid (own_rdB (l := [1, 2, 1, 97, 0]) HG8.out.log ho); have HG9 := Lib.hid (HG8.out.below' hb); clear ho hb)
  clear HR HG6 HG7 HG8
  go_wp2_with (go_at_call 32; refine (recs_lit w9 HG9.out.log.laid.size [⟨#[48, 49, 50, 51, 52, 53, 54, 55, 56, 57, 48, 49, 50, 51, 52, 53, 54, 55, 56, 57, 48, 49, 50, 51, 52, 53, 54, 55, 56, 57, 48, 49, 50, 51, 52, 53, 54, 55, 56, 57, 48, 49, 50, 51, 52, 53]⟩] #[.string ⟨#[48, 49, 50, 51, 52, 53, 54, 55, 56, 57, 48, 49, 50, 51, 52, 53, 54, 55, 56, 57, 48, 49, 50, 51, 52, 53, 54, 55, 56, 57, 48, 49, 50, 51, 52, 53, 54, 55, 56, 57, 48, 49, 50, 51, 52, 53]⟩] 9 1 rfl rfl (by decide) (by decide)).mono ?_; rintro e w10 ⟨vr, vs, rfl, hr, hb⟩; have HR3 : Hid (RowL w10 w9.heap.size vr vs awR3) := Lib.hid hr; have HBC := Lib.hid (HBB.out.below hb (fun _ h => .inl h)); have HG10 := Lib.hid (HG9.out.below' hb); clear hr hb)
  go_wp2_with (go_at_call 18; (with_reducible refine (aw_w3 HG10.out HR3.out).mono ?_); rintro e w11 ⟨rfl, Sd11, v11, hg, hs⟩; have HBD := Lib.hid (hs.rdB HBC.out); have HG11 := Lib.hid hg; clear hg hs)
  clear HR3 HG9 HG10 HBB HBC
  go_wp2_with (go_at_call 32; refine (recs_lit w11 HG11.out.log.laid.size [⟨#[99]⟩] #[.string ⟨#[99]⟩] 9 1 rfl rfl (by decide) (by decide)).mono ?_; rintro e w12 ⟨vr, vs, rfl, hr, hb⟩; have HR4 : Hid (RowL w12 w11.heap.size vr vs [[99]]) := Lib.hid hr; have HBE := Lib.hid (HBD.out.below hb (fun _ h => .inl h)); have HG12 := Lib.hid (HG11.out.below' hb); clear hr hb)
  go_wp2_with (go_at_call 18; (with_reducible refine (aw_w4 HG12.out HR4.out).mono ?_); rintro e w13 ⟨rfl, Sd13, v13, hg, hs⟩; have HBF := Lib.hid (hs.rdB HBE.out); have HG13 := Lib.hid hg; clear hg hs)
  clear HR4 HG11 HG12 HBD HBE
  go_wp2_with (go_at_call 18; (with_reducible refine (aw_w5 HG13.out).mono ?_); rintro e w14 ⟨⟨n5, rfl⟩, Sd14, v14, hg, hs⟩; have HBG := Lib.hid (hs.rdB HBF.out); have HG14 := Lib.hid hg; clear hg hs)
  clear HG13 HBF
  go_wp2_with (go_at_call 38; refine (first_any w14 ⟨#[119, 48, 55]⟩ (by decide) HG14.out.log.laid).mono ?_; rintro e w15 ⟨he, hb⟩; rw [aw_first] at he; subst he; have HBH := Lib.hid (HBG.out.below hb (fun _ h => .inl h)); have HG15 := Lib.hid (HG14.out.below' hb); clear hb)
  clear HG14 HBG
  have hlit := rdB_lit w15 [1, 2, 1, 97, 0] #[.int .u8 1, .int .u8 2, .int .u8 1, .int .u8 97, .int .u8 0] 5 rfl rfl (by decide)
  have hblit := (Below.refl w15.heap.size w15).alloc (Nat.le_refl _) (.cells #[.int .u8 1, .int .u8 2, .int .u8 1, .int .u8 97, .int .u8 0] 5)
  have HSB := Lib.hid (sameBytes_any _ _ _ _ _ _ _ (HBH.out.below hblit (fun _ h => .inl h)) hlit)
  have HG16 := Lib.hid (HG15.out.below' hblit)
  clear hlit hblit HBH HG15
  go_wp2_with (go_at_call 35; refine HSB.out.mono ?_; rintro e w' ⟨rfl, hw⟩; have hw := hw.symm; subst hw)
  clear HSB
  generalize hW : w15.alloc (.cells #[.int .u8 1, .int .u8 2, .int .u8 1, .int .u8 97, .int .u8 0] 5) = w16 at HG16 ⊢
  clear hW
  go_wp2_with (go_at_call 23; refine HG16.out.files.mono ?_; rintro e w17 ⟨vf, rfl, ho, hb⟩; have HF := Lib.hid (RdT.ofOwn ho); have HG17 := Lib.hid (HG16.out.below' hb); clear ho hb)
  have hlit := rdT_lit w17 [⟨#[119, 49]⟩, ⟨#[119, 51]⟩] #[.string ⟨#[119, 49]⟩, .string ⟨#[119, 51]⟩] 9 2 rfl rfl (by decide)
  have hblit := (Below.refl w17.heap.size w17).alloc (Nat.le_refl _) (.cells #[.string ⟨#[119, 49]⟩, .string ⟨#[119, 51]⟩] 9)
  have hst := sameTexts_any _ _ _ _ _ (HF.out.below hblit) hlit
  rw [aw5_files] at hst
  have HST := Lib.hid hst
  have HG18 := Lib.hid (HG17.out.below' hblit)
  clear hlit hblit HF HG16 HG17 hst
  go_wp2_with (go_at_call 33; refine HST.out.mono ?_; rintro e w19 ⟨rfl, hb⟩; have HG19 := Lib.hid (HG18.out.below' hb); have HA := Lib.hid (HG18.out.below' hb).acked; clear hb)
  have ha := HA.out
  rw [aw5_acked] at ha
  have HA2 := Lib.hid ha
  have hnm := name_any w19 7 HG19.out.log.laid (by omega) (by omega)
  rw [aw_name] at hnm
  have HNM := Lib.hid hnm
  clear HA ha hnm HST HG18
  go_wp2_with (first | (go_at_call 22; refine HA2.out.mono ?_; rintro e w' ⟨rfl, rfl⟩) | (go_at_call 39; refine HNM.out.mono ?_; rintro e w20 ⟨rfl, hb⟩; have HG20 := Lib.hid (HG19.out.below' hb); clear hb))
  go_ret
  exact ⟨rfl, HG20.out.below⟩
end Go.Proofs.YtohpgipgfmkflaaGreatDoor
namespace Go.Proofs.YtohpgipgfmkflaaGreatDoor
set_option linter.unusedSectionVars false
variable [Base]
open Go.RowKit Go.ChangeShapes Go.WideShapes Go.Deep
set_option maxRecDepth 100000
set_option linter.unusedVariables false
set_option linter.unusedSimpArgs false

def byZ (L : Nat) (zs : List Int) : List UInt8 := (zs.take L).map fun n => UInt8.ofNat n.toNat
theorem addr_plain {W : World} {a : Addr} {v : Value} (h : W.cell? (a.add 0) = some v) : a = ⟨a.block, a.off, none⟩ := by
  obtain ⟨b, off, spot⟩ := a
  have hspot : spot = none := by simpa [Addr.add] using World.cell?_spot h
  rw [hspot]
theorem rdB_arg {W : World} {A : Option Addr} {L C : Nat} {zs : List Int} (hB : W.heap.size ≤ Base.b) (h1 : L ≤ C) (h2 : C ≤ maxLen) (h3 : zs.length = C) (h4 : ∀ n ∈ zs, (Lit.int .u8 n).wf = true) (h5 : A = none → C = 0)
    (h6 : ∀ a', A = some a' → ∀ c, c < C → W.cell? (a'.add c) = some (.int .u8 (zs.getD c 0))) : RdB W (fun b => Base.b ≤ b) (.slice A L C) (byZ L zs) := by
  have hlen : (byZ L zs).length = L := by simp [byZ]; omega
  refine ⟨A, C, by rw [hlen], ⟨by omega, h5⟩, by unfold maxLen at h2; omega, fun j hj => ?_⟩
  rw [hlen] at hj
  cases A with
  | none => have := h5 rfl; omega
  | some a =>
    have ha := addr_plain (h6 a rfl 0 (by omega))
    obtain ⟨g, o, s⟩ := a
    simp only [Addr.mk.injEq, true_and] at ha
    subst ha
    have hc := h6 _ rfl j (by omega)
    rw [addr_add] at hc
    have hlt : g < W.heap.size := World.block_lt_of_cell? W _ hc
    refine ⟨g, o, rfl, ⟨by omega, .inr (by omega)⟩, ?_⟩
    rw [hc]
    have hjz : j < zs.length := by omega
    have hz := h4 zs[j] (List.getElem_mem hjz)
    have e1 : IntKind.u8.min = 0 := rfl
    have e2 : IntKind.u8.max = 255 := rfl
    have hz2 : 0 ≤ zs[j] ∧ zs[j] ≤ 255 := by simpa [Lit.wf, e1, e2] using hz
    have e3 : (byZ L zs).getD j 0 = UInt8.ofNat zs[j].toNat := by simp [byZ, List.getD_eq_getElem?_getD, List.getElem?_take, hj, List.getElem?_eq_getElem hjz]
    rw [e3, ofNat_toNat _ (by omega)]
    simp only [List.getD_eq_getElem?_getD, List.getElem?_eq_getElem hjz, Option.getD_some]
    congr 2
    omega
section
variable {H : Type} {enc : TypeId × Value → H} {W : World} {base : Nat} {held : Bool}
theorem open_bytes {fuel : Nat} {cs : List Value} {x : DataW H × List MemPlace} (hB : W.heap.size ≤ Base.b) (h : DataW.trod enc Tryz.prog W base (fun _ => true) held fuel 53 cs = some x) :
    ∃ v l, cs = [v] ∧ RdB W (fun b => Base.b ≤ b) v l := by
  rcases open_ints Tryz.underlying53 Tryz.underlying5 (by kernel_rfl) h with ⟨hcs, _⟩ | ⟨a, len, cap, zs, hcs, _, hl, hm, hz, _, hcell, hwz⟩
  · exact ⟨_, [], hcs, RdB.nil _ _⟩
  · simp only [if_true] at hz
    exact ⟨_, byZ len zs, hcs, rdB_arg hB hl hm hz hwz (fun h => by cases h) (fun a' ha c hc => by cases ha; exact hcell c (by omega))⟩
theorem open_lists {fuel : Nat} {cs : List Value} {x : DataW H × List MemPlace} (hB : W.heap.size ≤ Base.b) (h : DataW.trod enc Tryz.prog W base (fun _ => true) held fuel 22 cs = some x) :
    ∃ v ls, cs = [v] ∧ RdL W (fun b => Base.b ≤ b) v ls := by
  rcases open_int_rows Tryz.underlying22 Tryz.underlying53 Tryz.underlying5 (by kernel_rfl) (by kernel_rfl) h with ⟨hcs, _⟩ | ⟨a, len, cap, A, L, C, Z, hcs, _, hl, hm, _, hx⟩
  · exact ⟨_, [], hcs, ⟨none, 0, [], rfl, ⟨Nat.le_refl _, fun _ => rfl⟩, by omega, All2.nil, fun i hi => by simp at hi⟩⟩
  · refine ⟨_, (List.range len).map fun r => byZ (L r) (Z r), hcs, some a, cap, (List.range len).map fun r => .slice (A r) (L r) (C r), by simp, ⟨by simpa using hl, fun h => by cases h⟩, by unfold maxLen at hm; omega, ⟨by simp, fun i x y hxi hyi => ?_⟩, fun i hi => ?_⟩
    · have hi : i < len := by have := (List.getElem?_eq_some_iff.1 hxi).1; simpa using this
      simp only [List.getElem?_map, List.getElem?_range hi, Option.map_some, Option.some.injEq] at hxi hyi
      subst hxi
      subst hyi
      obtain ⟨_, r1, r2, r3, r4, r5, r6⟩ := hx i (by omega)
      exact rdB_arg hB r1 r2 r3 r4 r5 (fun a' ha c hc => (r6 a' ha).2 c hc)
    · have hi : i < len := by simpa using hi
      have h0 := (hx 0 (by omega)).1
      have ha := addr_plain h0
      obtain ⟨g, o, s⟩ := a
      simp only [Addr.mk.injEq, true_and] at ha
      subst ha
      have hc := (hx i (by omega)).1
      rw [addr_add] at hc
      have hlt : g < W.heap.size := World.block_lt_of_cell? W _ hc
      exact ⟨g, o, rfl, by omega, by rw [hc]; simp⟩
end
/-- A []( [][]byte ) as memory holds it. -/
def RdLL (w : World) (S : Nat → Prop) (v : Value) (bs : List (List (List UInt8))) : Prop :=
  ∃ A c, v = .slice A bs.length c ∧ c ≤ 9223372036854775807 ∧ bs.length ≤ c ∧ ∀ j (hj : j < bs.length), ∃ g o u, A = some ⟨g, o, none⟩ ∧ w.cell? ⟨g, o + j, none⟩ = some u ∧ RdL w S u bs[j]
section
variable {H : Type} {enc : TypeId × Value → H} {W : World} {base : Nat} {held : Bool}
theorem open_batches {fuel : Nat} {cs : List Value} {x : DataW H × List MemPlace} (hB : W.heap.size ≤ Base.b) (h : DataW.trod enc Tryz.prog W base (fun _ => true) held fuel 40 cs = some x) :
    ∃ v bs, cs = [v] ∧ RdLL W (fun b => Base.b ≤ b) v bs := by
  rcases open_slice1 Tryz.underlying40 (by kernel_rfl) h with ⟨hcs, _⟩ | ⟨a, len, cap, m, n, V, D, Pl, hcs, _, hl, hm, hmm, _, hx⟩
  · exact ⟨_, [], hcs, none, 0, rfl, by omega, Nat.le_refl _, fun j hj => by simp at hj⟩
  · simp only [if_true] at hmm
    subst hmm
    obtain ⟨bs, hbs⟩ := choose_lt (α := List (List UInt8)) (n := m) (p := fun i l => RdL W (fun b => Base.b ≤ b) (V i) l) (fun i hi => by
      obtain ⟨v, ls, hv, hr⟩ := open_lists hB (hx i hi).2
      injection hv with hv
      exact ⟨ls, by rw [hv]; exact hr⟩)
    refine ⟨_, (List.range len).map bs, hcs, some a, m, by simp, by unfold maxLen at hm; omega, by simpa using hl, fun j hj => ?_⟩
    have hj : j < len := by simpa using hj
    have ha := addr_plain (hx 0 (by omega)).1
    obtain ⟨g, o, s⟩ := a
    simp only [Addr.mk.injEq, true_and] at ha
    subst ha
    have hc := (hx j (by omega)).1
    rw [addr_add] at hc
    exact ⟨g, o, V j, rfl, hc, by simpa using hbs j (by omega)⟩
theorem open_batch {b0 : Nat} {v : Value} {d : DataW H} {ps : List MemPlace} (hB : W.heap.size ≤ Base.b) (hval : Value.okWide Tryz.prog W .any b0 52 v) (h : DataW.Trod enc Tryz.prog W base (fun _ => true) held 52 v d ps) :
    ∃ n r ls, v = .agg #[.int .i64 n, r] ∧ (-9223372036854775808 ≤ n ∧ n ≤ 9223372036854775807) ∧ RdL W (fun b => Base.b ≤ b) r ls := by
  obtain ⟨fuel, h⟩ := h
  obtain ⟨cs, rfl⟩ : ∃ cs, v = .agg cs := by
    unfold Value.okWide at hval
    rw [show Tryz.prog.underlying 52 = _ from Tryz.underlying52] at hval
    obtain ⟨cs, hv, _⟩ := hval
    exact ⟨cs, hv⟩
  obtain ⟨y0, y1, n, _, hlen, h0, h1⟩ := trod_struct2 Tryz.underlying52 h
  have hl2 : cs.toList.length = 2 := hlen
  obtain ⟨c0, c1, hcs⟩ : ∃ c0 c1, cs.toList = [c0, c1] := by
    match cs.toList, hl2 with
    | [a, b], _ => exact ⟨a, b, rfl⟩
  have e : (Value.agg cs).cells.toList = [c0, c1] := hcs
  rw [e] at h0 h1
  obtain ⟨k, hk, _, hw⟩ := DataW.trod_int (k := .i64) Tryz.underlying3 h0
  obtain ⟨r, ls, hr, hrd⟩ := open_lists hB h1
  have hk2 : c0 = .int .i64 k := by
    have : [c0] = [Value.int .i64 k] := hk
    injection this
  have hr2 : c1 = r := by
    have : [c1] = [r] := hr
    injection this
  refine ⟨k, r, ls, ?_, ?_, hrd⟩
  · rw [← hk2, ← hr2]
    cases cs
    simp_all
  · have e1 : IntKind.i64.min = -9223372036854775808 := rfl
    have e2 : IntKind.i64.max = 9223372036854775807 := rfl
    simpa [Lit.wf, e1, e2] using hw
theorem arg_bytes {b0 : Nat} {v : Value} {d : DataW H} {ps : List MemPlace} (hB : W.heap.size ≤ Base.b) (hval : Value.okWide Tryz.prog W .any b0 53 v) (h : DataW.Trod enc Tryz.prog W base (fun _ => true) held 53 v d ps) : ∃ l, RdB W (fun b => Base.b ≤ b) v l := by
  obtain ⟨fuel, h⟩ := h
  obtain ⟨a, len, cap, rfl⟩ := okWide_slice Tryz.underlying53 hval
  obtain ⟨v, l, e, hr⟩ := open_bytes hB h
  have e : [Value.slice a len cap] = [v] := e
  injection e with e
  exact ⟨l, e ▸ hr⟩
theorem arg_lists {b0 : Nat} {v : Value} {d : DataW H} {ps : List MemPlace} (hB : W.heap.size ≤ Base.b) (hval : Value.okWide Tryz.prog W .any b0 22 v) (h : DataW.Trod enc Tryz.prog W base (fun _ => true) held 22 v d ps) : ∃ l, RdL W (fun b => Base.b ≤ b) v l := by
  obtain ⟨fuel, h⟩ := h
  obtain ⟨a, len, cap, rfl⟩ := okWide_slice Tryz.underlying22 hval
  obtain ⟨v, l, e, hr⟩ := open_lists hB h
  have e : [Value.slice a len cap] = [v] := e
  injection e with e
  exact ⟨l, e ▸ hr⟩
theorem arg_batches {b0 : Nat} {v : Value} {d : DataW H} {ps : List MemPlace} (hB : W.heap.size ≤ Base.b) (hval : Value.okWide Tryz.prog W .any b0 40 v) (h : DataW.Trod enc Tryz.prog W base (fun _ => true) held 40 v d ps) : ∃ l, RdLL W (fun b => Base.b ≤ b) v l := by
  obtain ⟨fuel, h⟩ := h
  obtain ⟨a, len, cap, rfl⟩ := okWide_slice Tryz.underlying40 hval
  obtain ⟨v, l, e, hr⟩ := open_batches hB h
  have e : [Value.slice a len cap] = [v] := e
  injection e with e
  exact ⟨l, e ▸ hr⟩
theorem arg_u16 {b0 : Nat} {v : Value} {d : DataW H} {ps : List MemPlace} (hval : Value.okWide Tryz.prog W .any b0 41 v) (h : DataW.Trod enc Tryz.prog W base (fun _ => true) held 41 v d ps) : ∃ n : Nat, v = .int .u16 (n : Int) ∧ n < 65536 := by
  obtain ⟨n, rfl, _, _, hw⟩ := open_int Tryz.underlying41 hval h
  have e1 : IntKind.u16.min = 0 := rfl
  have e2 : IntKind.u16.max = 65535 := rfl
  have hz : 0 ≤ n ∧ n ≤ 65535 := by simpa [Lit.wf, e1, e2] using hw
  exact ⟨n.toNat, by congr 1; omega, by omega⟩
theorem arg_int {b0 : Nat} {v : Value} {d : DataW H} {ps : List MemPlace} (hval : Value.okWide Tryz.prog W .any b0 3 v) (h : DataW.Trod enc Tryz.prog W base (fun _ => true) held 3 v d ps) : ∃ n : Int, v = .int .i64 n ∧ -9223372036854775808 ≤ n ∧ n ≤ 9223372036854775807 := by
  obtain ⟨n, rfl, _, _, hw⟩ := open_int Tryz.underlying3 hval h
  have e1 : IntKind.i64.min = -9223372036854775808 := rfl
  have e2 : IntKind.i64.max = 9223372036854775807 := rfl
  have hz : -9223372036854775808 ≤ n ∧ n ≤ 9223372036854775807 := by simpa [Lit.wf, e1, e2] using hw
  exact ⟨n, rfl, hz.1, hz.2⟩
end
end Go.Proofs.YtohpgipgfmkflaaGreatDoor
