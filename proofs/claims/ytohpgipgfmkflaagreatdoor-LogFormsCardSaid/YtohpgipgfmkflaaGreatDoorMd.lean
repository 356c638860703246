/- Contracts of bytes: Uint, Blob. Contracts of frames: joined, Put. Contracts of the log's forms: Name, Head. Contracts of the log's forms: Bytes. The log: its memory; deeds one behind the other. The log as a value; its memory. Contracts of the log: file, up, the deeds of next. Contracts of the log: the third deed of next; next. -/
import Derived.Test.YtohpgipgfmkflaaGreatDoorMc
import Derived.Test.YtohpgipgfmkflaaGreatDoorShelf
import Derived.Lib.LaidTab
import Derived.Lib.ItoaLen
namespace Go.Proofs.YtohpgipgfmkflaaGreatDoor
set_option linter.unusedSectionVars false
variable [Base]
open Go.RowKit
set_option maxRecDepth 100000
set_option linter.unusedVariables false
set_option linter.unusedSimpArgs false
attribute [local go_sem ↓] Go.wp_at_zero Go.wp_at_succ

theorem bitLen_log2 (n : Nat) (h : n < 18446744073709551616) (h0 : n ≠ 0) : Lib.bitLen n = Nat.log2 n + 1 := by
  have hb := Lib.bitLenAux_bounds 64 n h h0
  have e : Lib.bitLen n = Lib.bitLenAux 64 n := rfl
  rw [e]
  have h1 : Nat.log2 n < Lib.bitLenAux 64 n := (Nat.log2_lt h0).2 hb.2.2
  have h2 : Lib.bitLenAux 64 n - 1 ≤ Nat.log2 n := (Nat.le_log2 h0).2 hb.2.1
  omega
theorem or_one (n : Nat) : n ||| 1 = if n % 2 = 1 then n else n + 1 := by
  split
  · rename_i h
    apply Nat.eq_of_testBit_eq
    intro i
    rw [Nat.testBit_or]
    cases i with
    | zero => simp [h]
    | succ i => rw [show Nat.testBit 1 (i + 1) = false by rw [Nat.testBit_succ]; simp, Bool.or_false]
  · rename_i h
    apply Nat.eq_of_testBit_eq
    intro i
    rw [Nat.testBit_or]
    cases i with
    | zero => simp; omega
    | succ i => 
      simp only [Nat.testBit_succ]
      rw [show (n + 1) / 2 = n / 2 by omega]
      simp
theorem log2_or (n : Nat) : Nat.log2 (n ||| 1) = Nat.log2 n := by
  rw [or_one]
  split
  · rfl
  · rename_i h
    rcases Nat.eq_zero_or_pos n with h0 | h0
    · subst h0; decide
    · have h1 : Nat.log2 n = Nat.log2 (n / 2) + 1 := by rw [Nat.log2_def, if_pos (by omega)]
      have h2 : Nat.log2 (n + 1) = Nat.log2 ((n + 1) / 2) + 1 := by rw [Nat.log2_def (n + 1), if_pos (by omega)]
      rw [h1, h2, show (n + 1) / 2 = n / 2 by omega]
theorem rounds_of (n : Nat) (h : n < 18446744073709551616) : Lib.bitLen (n ||| 1) = Nat.log2 n + 1 := by
  have h0 : n ||| 1 ≠ 0 := by rw [or_one]; split <;> omega
  have h1 : n ||| 1 < 18446744073709551616 := by rw [or_one]; split <;> omega
  rw [bitLen_log2 _ h1 h0, log2_or]
/-- A row of bytes that is the call's own has grown. -/
def AppP (w : World) (B : Nat) (v : Value) (l : List UInt8) (e : Ending) (w' : World) : Prop :=
  ∃ v', e = .returned v' ∧ w'.ownsRow B 5 1 v' l.length (bv l) ∧ w.grownBy w' v.ownBlock ∧ (v'.ownBlock = v.ownBlock ∨ ∃ b, v'.ownBlock = some b ∧ w.heap.size ≤ b)
theorem grown_step {w wr w2 : World} {v v1 : Value} (h : w.grownBy wr v.ownBlock) (hf : v1.ownBlock = v.ownBlock ∨ ∃ b, v1.ownBlock = some b ∧ w.heap.size ≤ b) (h2 : wr.grownBy w2 v1.ownBlock) : w.grownBy w2 v.ownBlock :=
  ⟨h2.os.trans h.os, h2.tape.trans h.tape, h2.output.trans h.output, Nat.le_trans h.size h2.size, fun k hk hn => by
    refine (h2.block k (Nat.lt_of_lt_of_le hk h.size) (fun e => ?_)).trans (h.block k hk hn)
    rcases hf with hf | ⟨b, hf, hb⟩
    · exact hn (e.trans hf)
    · rw [hf] at e; injection e with e; omega⟩
theorem grown_alloc (w : World) (o : Obj) (row : Option Nat) : w.grownBy (w.alloc o) row :=
  ⟨rfl, rfl, rfl, by simp, fun k hk _ => Below.heap_alloc w o k hk⟩
theorem or128 : ∀ x : Fin 256, 128 ||| x.val = 128 + x.val % 128 := by decide
theorem u8_or128 (m : Nat) : bits .or .u8 128 ((m : Int) % 256) = ((128 + m % 128 : Nat) : Int) := by
  have h1 := u8_or_nat 128 (m % 256) (by omega) (by omega)
  rw [or128 ⟨m % 256, by omega⟩] at h1
  simp only [] at h1
  rw [show m % 256 % 128 = m % 128 by omega] at h1
  rw [← h1]
  simp
theorem RdB.lit (w : World) (S : Nat → Prop) (b : UInt8) (hS : ∀ b, S b → b < w.heap.size) : RdB (w.alloc (.cells #[.int .u8 (b.toNat : Int)] 5)) S (.slice (some ⟨w.heap.size, 0, none⟩) 1 1) [b] :=
  ⟨_, 1, rfl, ⟨Nat.le_refl _, fun h => by cases h⟩, by omega, fun j hj => by
    obtain rfl : j = 0 := by simpa using hj
    exact ⟨w.heap.size, 0, rfl, ⟨fun h => Nat.lt_irrefl _ (hS _ h), .inl ⟨_, _, heap_alloc_new w _⟩⟩, cell_new w _ _⟩⟩
set_option maxHeartbeats 2000000 in
theorem uint_any (w : World) (B : Nat) (v : Value) (l : List UInt8) (n : Nat) (ho : w.ownsRow B 5 1 v l.length (bv l)) (hB : B ≤ w.heap.size) (hn : n < 18446744073709551616) (hl : l.length ≤ 1099511627776) :
    Calls Tryz.prog 95 #[v, .int .u64 (n : Int)] w (AppP w B v (l ++ uintB n)) := by
  have hor : bits .or .u64 (n : Int) 1 = ((n ||| 1 : Nat) : Int) := u64_or_nat n 1 hn (by omega)
  have h1 : n ||| 1 < 18446744073709551616 := by rw [or_one]; split <;> omega
  have C := Tryz.bits_Len64 ((n ||| 1 : Nat) : Int) w (by omega) (by omega)
  rw [Int.toNat_natCast, rounds_of n hn] at C
  have hlog : Nat.log2 n < 64 := by
    rcases Nat.eq_zero_or_pos n with h0 | h0
    · subst h0; decide
    · exact (Nat.log2_lt (by omega)).2 (by omega)
  have HR := Lib.hid (show uintB n = uintR (Nat.log2 n / 7) n from rfl)
  obtain ⟨L, hL⟩ : ∃ L, Nat.log2 n = L := ⟨_, rfl⟩
  rw [hL] at C hlog HR
  have HC := Lib.hid C
  have HO := Lib.hid ho
  obtain ⟨r, hr⟩ : ∃ r, L / 7 = r := ⟨_, rfl⟩
  rw [hr] at HR
  have hr9 : r ≤ 9 := by omega
  have hri : (L : Int) / 7 = (r : Int) := by omega
  have hri2 : (L : Int).tdiv 7 = (r : Int) := by rw [Int.tdiv_eq_ediv_of_nonneg (by omega)]; exact hri
  have hsub : IntKind.i64.wrap (((L + 1 : Nat) : Int) - 1) = (L : Int) := by rw [IntKind.wrap_i64]; omega
  clear C h1 hL ho hr
  go_enter Tryz.func95, Tryz.ntmps95
  go_wp2_with (go_at_call 154; refine HC.out.mono ?_; rintro e w' ⟨rfl, hw⟩; have hw := hw.symm; subst hw)
  go_loopw [0, 1, 10] (fun out x i wr => ∃ (k m : Nat) (d : List UInt8), k ≤ r ∧ i = .int .i64 k ∧ x = .int .u64 (m : Int) ∧ m < 18446744073709551616 ∧ d.length = k ∧ wr.ownsRow B 5 1 out (l ++ d).length (bv (l ++ d)) ∧ w.grownBy wr v.ownBlock ∧ (out.ownBlock = v.ownBlock ∨ ∃ b, out.ownBlock = some b ∧ w.heap.size ≤ b) ∧ Hid (d ++ uintR (r - k) m = uintR r n)) (fun out x i wr => r - (intOf i).toNat)
  case atStart => exact ⟨0, n, [], Nat.zero_le _, rfl, rfl, hn, rfl, by simpa using HO.out, World.grownBy.refl _ _, .inl rfl, Lib.hid rfl⟩
  case round =>
    obtain ⟨k, m, d, hk, rfl, rfl, hm, hd, how, hg, hf, HI⟩ := hrel
    have HG := Lib.hid hg
    have HF := Lib.hid hf
    have hgs := hg.size
    have hld : (l ++ d).length = l.length + k := by rw [List.length_append, hd]
    have HD := Lib.hid hd
    clear hg hf hd
    by_cases hlt : k < r
    · have hb := u8_or128 m
      obtain ⟨x, hx⟩ : ∃ x, UInt8.ofNat (128 + m % 128) = x := ⟨_, rfl⟩
      have hxe : ((128 + m % 128 : Nat) : Int) = (x.toNat : Int) := by rw [← hx, byte_eq]; omega
      rw [hxe] at hb
      have HX := Lib.hid hx
      have HOW := Lib.hid how
      have HM := Lib.hid hm
      clear hx hxe how hm
      have hlit := Lib.hid (RdB.lit wr (fun _ => False) x (fun _ h => h.elim))
      have hle := Lib.hid (show (l ++ d).length + [x].length ≤ 140737488355328 by rw [hld]; simp; omega)
      have HLD := Lib.hid hld
      clear hld
      go_wp2_with (at_builtin; refine wpList_append_rd rfl _ _ rfl B _ _ (fun _ => False) (l ++ d) [x] rfl rfl (HOW.out.alloc _) hlit.out hle.out (by simp; omega) ?_; intro v' w2 ho2 hg2 hf2)
      go_roundw
      case rel =>
        refine ⟨k + 1, m / 128, d ++ [x], by omega, by go_num, by simp, by have := HM.out; omega, by rw [List.length_append, HD.out]; rfl, by rw [← List.append_assoc]; exact ho2, grown_step HG.out HF.out (grown_step (grown_alloc wr _ _) (.inl rfl) hg2), ?_, Lib.hid ?_⟩
        · rcases hf2 with hf2 | hf2
          · rw [hf2]; exact HF.out
          · exact .inr ⟨_, hf2, by simp; omega⟩
        · rw [← HI.out, ← HX.out, List.append_assoc, show r - k = (r - (k + 1)) + 1 by omega]
          rfl
      case measure => simp [intOf]; omega
    · obtain rfl : k = r := by omega
      obtain ⟨x, hx⟩ : ∃ x, UInt8.ofNat m = x := ⟨_, rfl⟩
      have hb : (m : Int) % 256 = (x.toNat : Int) := by rw [← hx, byte_eq]
      have HX := Lib.hid hx
      have HOW := Lib.hid how
      have hlit := Lib.hid (RdB.lit wr (fun _ => False) x (fun _ h => h.elim))
      have hle := Lib.hid (show (l ++ d).length + [x].length ≤ 140737488355328 by rw [hld]; simp; omega)
      clear hx how hm hld
      go_wp2_with (at_builtin; refine wpList_append_rd rfl _ _ rfl B _ _ (fun _ => False) (l ++ d) [x] rfl rfl (HOW.out.alloc _) hlit.out hle.out (by simp; omega) ?_; intro v' w2 ho2 hg2 hf2)
      go_ret
      have he : l ++ uintB n = l ++ d ++ [x] := by
        rw [HR.out, ← HI.out, Nat.sub_self, List.append_assoc, ← HX.out]
        rfl
      rw [he]
      refine ⟨v', rfl, ho2, grown_step HG.out HF.out (grown_step (grown_alloc wr _ _) (.inl rfl) hg2), ?_⟩
      rcases hf2 with hf2 | hf2
      · rw [hf2]; exact HF.out
      · exact .inr ⟨_, hf2, by simp; omega⟩
theorem Kp.ofGrown {w w1 : World} {v : Value} (h : w.grownBy w1 v.ownBlock) : Kp (fun k => v.ownBlock = some k) w w1 := (Kp.refl _ w).grown h (fun k hk => .inl hk)
set_option maxHeartbeats 2000000 in
theorem blob_any (w : World) (B : Nat) (v vb : Value) (l m : List UInt8) (ho : w.ownsRow B 5 1 v l.length (bv l)) (hB : B ≤ w.heap.size) (hm : RdB w (fun k => v.ownBlock = some k) vb m) (hl : l.length ≤ 1099511627776) (hml : m.length ≤ 1099511627776) :
    Calls Tryz.prog 96 #[v, vb] w (AppP w B v (l ++ blobB m)) := by
  obtain ⟨A, c, rfl, _⟩ := id hm
  have HC := Lib.hid (uint_any w B v l m.length ho hB (by omega) hl)
  have HM := Lib.hid hm
  have hw : IntKind.u64.wrap (m.length : Int) = (m.length : Int) := by rw [IntKind.wrap_u64]; omega
  clear ho hm
  go_enter Tryz.func96, Tryz.ntmps96
  go_wp2_with (first | (go_at_call 95; refine HC.out.mono ?_; rintro e w1 ⟨v1, rfl, ho1, hg1, hf1⟩; have HO1 := Lib.hid ho1; have HG1 := Lib.hid hg1; have HF1 := Lib.hid hf1; have hsz := hg1.size; clear ho1 hg1 hf1) | (at_builtin; refine wpList_append_rd rfl _ _ rfl B _ _ (fun k => v.ownBlock = some k) (l ++ uintB m.length) m rfl rfl HO1.out (HM.out.kp (Kp.ofGrown HG1.out) (fun _ h => .inl h)) (by have := uintB_le m.length (by omega); rw [List.length_append]; omega) (by omega) ?_; intro v' w2 ho2 hg2 hf2))
  go_ret
  have he : l ++ blobB m = l ++ uintB m.length ++ m := by unfold blobB; rw [List.append_assoc]
  rw [he]
  refine ⟨v', rfl, ho2, grown_step HG1.out HF1.out hg2, ?_⟩
  rcases hf2 with hf2 | hf2
  · rw [hf2]; exact HF1.out
  · exact .inr ⟨_, hf2, hsz⟩
end Go.Proofs.YtohpgipgfmkflaaGreatDoor
namespace Go.Proofs.YtohpgipgfmkflaaGreatDoor
set_option linter.unusedSectionVars false
variable [Base]
open Go.RowKit
set_option maxRecDepth 100000
set_option linter.unusedVariables false
set_option linter.unusedSimpArgs false
attribute [local go_sem ↓] Go.wp_at_zero Go.wp_at_succ

set_option maxHeartbeats 2000000 in
theorem joined_any (w : World) (B : Nat) (v : Value) (l : List UInt8) (h c : Nat) (vs : List Value) (ms : List (List UInt8)) (ho : w.ownsRow B 5 1 v l.length (bv l)) (hB : B ≤ w.heap.size)
    (hvs : ∀ i (hi : i < vs.length), w.cell? ⟨h, i, none⟩ = some vs[i]) (hh : v.ownBlock ≠ some h) (hn : vs.length ≤ 100) (hm : All2 (RdB w (fun k => v.ownBlock = some k)) vs ms) (hl : l.length + ms.flatten.length ≤ 1099511627776) :
    Calls Tryz.prog 149 #[v, .slice (some ⟨h, 0, none⟩) vs.length c] w (AppP w B v (l ++ ms.flatten)) := by
  have HV := Lib.hid hvs
  have HM := Lib.hid hm
  have HO := Lib.hid ho
  have HH := Lib.hid hh
  have HLn := Lib.hid hm.1
  clear hvs hm ho hh
  go_enter Tryz.func149, Tryz.ntmps149
  go_wp2
  go_loopw [0, 6, 9] (fun out x i wr => ∃ k : Nat, k ≤ vs.length ∧ i = .int .i64 k ∧ wr.ownsRow B 5 1 out (l ++ (ms.take k).flatten).length (bv (l ++ (ms.take k).flatten)) ∧ w.grownBy wr v.ownBlock ∧ (out.ownBlock = v.ownBlock ∨ ∃ b, out.ownBlock = some b ∧ w.heap.size ≤ b)) (fun out x i wr => vs.length - (intOf i).toNat)
  case atStart => exact ⟨0, Nat.zero_le _, rfl, by simpa using HO.out, World.grownBy.refl _ _, .inl rfl⟩
  case round =>
    obtain ⟨k, hk, rfl, how, hg, hf⟩ := hrel
    have HG := Lib.hid hg
    have HF := Lib.hid hf
    have hgs := hg.size
    have HOW := Lib.hid how
    clear hg hf how
    by_cases hlt : k < vs.length
    · have hcell := (World.cell?_of_block (HG.out.block h (World.block_lt_of_cell? w _ (HV.out k hlt)) (fun e => HH.out e.symm))).trans (HV.out k hlt)
      have hkm : k < ms.length := by have := HLn.out; omega
      have hrd := (HM.out.get k hlt hkm).kp (Kp.ofGrown HG.out) (fun _ h => .inl h)
      have HRD := Lib.hid hrd
      have hx1 : (k : Int) < (vs.length : Int) := by omega
      have hfl : (ms.take (k + 1)).flatten = (ms.take k).flatten ++ ms[k] := by rw [List.take_succ_eq_append_getElem hkm, List.flatten_append]; simp
      have hle : ((ms.take k).flatten).length + ms[k].length ≤ ms.flatten.length := by
        rw [← List.length_append, ← hfl]
        conv => rhs; rw [← List.take_append_drop (k + 1) ms, List.flatten_append, List.length_append]
        omega
      have HFL := Lib.hid hfl
      have HLE := Lib.hid (show (l ++ (ms.take k).flatten).length + ms[k].length ≤ 140737488355328 by rw [List.length_append]; omega)
      clear hrd hfl hle
      go_wp2_with (at_builtin; refine wpList_append_rd rfl _ _ rfl B _ _ (fun k => v.ownBlock = some k) (l ++ (ms.take k).flatten) ms[k] rfl rfl HOW.out HRD.out HLE.out (by omega) ?_; intro v' w2 ho2 hg2 hf2)
      go_roundw
      case rel =>
        refine ⟨k + 1, by omega, by go_num, ?_, grown_step HG.out HF.out hg2, ?_⟩
        · rw [HFL.out, ← List.append_assoc]; exact ho2
        · rcases hf2 with hf2 | hf2
          · rw [hf2]; exact HF.out
          · exact .inr ⟨_, hf2, hgs⟩
      case measure => simp [intOf]; omega
    · obtain rfl : k = vs.length := by omega
      go_wp2
      go_ret
      have := HLn.out
      have he : ms.take vs.length = ms := List.take_of_length_le (by omega)
      have ho := HOW.out
      rw [he] at ho
      exact ⟨_, rfl, ho, HG.out, HF.out⟩
def putR (m : List UInt8) : List UInt8 × Int := if m.length = 0 then ([], 2) else if 1048576 < m.length then ([], 3) else (frameB m, 0)
/-- Bytes and an error: the bytes are the call's own. -/
def OwnE (w : World) (r : List UInt8 × Int) (e : Ending) (w' : World) : Prop :=
  ∃ v', e = .returned (.tuple #[v', .int .i64 r.2]) ∧ w'.ownsRow w.heap.size 5 1 v' r.1.length (bv r.1) ∧ Below w.heap.size w w'
theorem put_join (w1 : World) (B : Nat) (v1 : Value) (l m : List UInt8) (A : Option Addr) (c : Nat) (ho : w1.ownsRow B 5 1 v1 l.length (bv l)) (hB : B ≤ w1.heap.size) (hm : RdB w1 (fun k => v1.ownBlock = some k) (.slice A m.length c) m) (hl : l.length ≤ 1099511627775 - 5 - 1048576) (hml : m.length ≤ 1048576) :
    Calls Tryz.prog 149 #[v1, .slice (some ⟨w1.heap.size + 1 + 1, 0, none⟩) 3 3] (((w1.alloc (.cells (bv (sumB m)).toArray 5)).alloc (.cells #[.int .u8 165] 5)).alloc (.cells #[.slice A m.length c, .slice (some ⟨w1.heap.size, 0, none⟩) 4 4, .slice (some ⟨w1.heap.size + 1, 0, none⟩) 1 1] 53))
      (AppP (((w1.alloc (.cells (bv (sumB m)).toArray 5)).alloc (.cells #[.int .u8 165] 5)).alloc (.cells #[.slice A m.length c, .slice (some ⟨w1.heap.size, 0, none⟩) 4 4, .slice (some ⟨w1.heap.size + 1, 0, none⟩) 1 1] 53)) B v1 (l ++ m ++ sumB m ++ [165])) := by
  have hB1 : Below w1.heap.size w1 (((w1.alloc (.cells (bv (sumB m)).toArray 5)).alloc (.cells #[.int .u8 165] 5)).alloc (.cells #[.slice A m.length c, .slice (some ⟨w1.heap.size, 0, none⟩) 4 4, .slice (some ⟨w1.heap.size + 1, 0, none⟩) 1 1] 53)) := (((Below.refl _ _).alloc (Nat.le_refl _) _).alloc (by simp) _).alloc (by simp; omega) _
  have hv1 : ∀ b, v1.ownBlock = some b → b < w1.heap.size := fun b hb => (ho.lt b hb).2
  have ho3 := ((ho.alloc (.cells (bv (sumB m)).toArray 5)).alloc (.cells #[.int .u8 165] 5)).alloc (.cells #[.slice A m.length c, .slice (some ⟨w1.heap.size, 0, none⟩) 4 4, .slice (some ⟨w1.heap.size + 1, 0, none⟩) 1 1] 53)
  have hh := heap_alloc_new ((w1.alloc (.cells (bv (sumB m)).toArray 5)).alloc (.cells #[.int .u8 165] 5)) (.cells #[.slice A m.length c, .slice (some ⟨w1.heap.size, 0, none⟩) 4 4, .slice (some ⟨w1.heap.size + 1, 0, none⟩) 1 1] 53)
  simp only [World.size_alloc] at hh
  have hsum : RdB (w1.alloc (.cells (bv (sumB m)).toArray 5)) (fun k => v1.ownBlock = some k) (.slice (some ⟨w1.heap.size, 0, none⟩) 4 4) (sumB m) :=
    RdB.ofOwn (base := w1.heap.size) (n := 4) (by have := World.ownsRow_lit (base := w1.heap.size) (e := 5) (size := 1) w1 (bv (sumB m)).toArray 4 (Nat.le_refl _) (by unfold maxLen; omega) (by simp [bv_length, sumB_length]); simpa using this) hv1
  have hend := RdB.lit (w1.alloc (.cells (bv (sumB m)).toArray 5)) (fun k => v1.ownBlock = some k) 165 (fun b hb => by have := hv1 b hb; simp; omega)
  simp only [World.size_alloc] at hend
  have hS2 := hsum.below (((Below.refl _ _).alloc (Nat.le_refl _) (.cells #[.int .u8 165] 5)).alloc (by simp) (.cells #[.slice A m.length c, .slice (some ⟨w1.heap.size, 0, none⟩) 4 4, .slice (some ⟨w1.heap.size + 1, 0, none⟩) 1 1] 53)) (fun _ h => .inl h)
  have hE2 := hend.below ((Below.refl _ _).alloc (Nat.le_refl _) (.cells #[.slice A m.length c, .slice (some ⟨w1.heap.size, 0, none⟩) 4 4, .slice (some ⟨w1.heap.size + 1, 0, none⟩) 1 1] 53)) (fun _ h => .inl h)
  have C := joined_any _ B v1 l (w1.heap.size + 1 + 1) 3 [.slice A m.length c, .slice (some ⟨w1.heap.size, 0, none⟩) 4 4, .slice (some ⟨w1.heap.size + 1, 0, none⟩) 1 1] [m, sumB m, [165]] ho3 (by simp; omega)
    (fun i hi => (cell_row hh i).trans (by simp at hi ⊢)) (fun e => by have := hv1 _ e; omega) (by simp)
    ⟨rfl, fun i x y hx hy => by
      match i, hx, hy with
      | 0, hx, hy => simp at hx hy; subst hx; subst hy; exact hm.below hB1 (fun _ h => .inl h)
      | 1, hx, hy => simp at hx hy; subst hx; subst hy; exact hS2
      | 2, hx, hy => simp at hx hy; subst hx; subst hy; exact hE2
      | n + 3, hx, hy => simp at hx⟩ (by simp [sumB_length]; omega)
  have he : l ++ [m, sumB m, [165]].flatten = l ++ m ++ sumB m ++ [165] := by simp
  rw [he] at C
  exact C
set_option maxHeartbeats 2000000 in
theorem put_any (w : World) (S : Nat → Prop) (vb : Value) (m : List UInt8) (h : RdB w S vb m) (hS : ∀ b, S b → b < w.heap.size) :
    Calls Tryz.prog 86 #[.slice none 0 0, vb] w (OwnE w (putR m)) := by
  obtain ⟨A, c, rfl, _⟩ := id h
  by_cases h0 : m.length = 0
  · have hR := Lib.hid (show putR m = ([], 2) by unfold putR; rw [if_pos h0])
    have ht : ((m.length : Int) == 0) = true := by rw [h0]; rfl
    clear h h0
    go_enter Tryz.func86, Tryz.ntmps86
    go_wp2
    go_ret2
    rw [OwnE, hR.out]
    exact ⟨_, rfl, World.ownsRow_nil _ _ _ _, Below.refl _ _⟩
  · by_cases h1 : 1048576 < m.length
    · have hR := Lib.hid (show putR m = ([], 3) by unfold putR; rw [if_neg h0, if_pos h1])
      have ht : ((m.length : Int) == 0) = false := by simpa using h0
      have ht1 : decide ((1048576 : Int) < (m.length : Int)) = true := decide_eq_true (by omega)
      clear h h0 h1
      go_enter Tryz.func86, Tryz.ntmps86
      go_wp2
      go_ret2
      rw [OwnE, hR.out]
      exact ⟨_, rfl, World.ownsRow_nil _ _ _ _, Below.refl _ _⟩
    · have hR := Lib.hid (show putR m = (frameB m, 0) by unfold putR; rw [if_neg h0, if_neg h1])
      have ht : ((m.length : Int) == 0) = false := by simpa using h0
      have ht1 : decide ((1048576 : Int) < (m.length : Int)) = false := decide_eq_false (by omega)
      have HU := Lib.hid (uint_any w w.heap.size (.slice none 0 0) [] m.length (World.ownsRow_nil _ _ _ _) (Nat.le_refl _) (by omega) (by simp))
      have HRD := Lib.hid h
      have HL := Lib.hid h1
      have hw : IntKind.u64.wrap (m.length : Int) = (m.length : Int) := by rw [IntKind.wrap_u64]; omega
      clear h h0 h1
      go_enter Tryz.func86, Tryz.ntmps86
      go_wp2_with (first | (go_at_call 95; refine HU.out.mono ?_; rintro e w1 ⟨v1, rfl, ho1, hg1, hf1⟩; have hb1 : Below w.heap.size w w1 := (Below.refl _ _).grown hg1 (Nat.le_refl _) (fun k hk => by cases hk); have HO1 := Lib.hid ho1; have HB1 := Lib.hid hb1; have hrd1 := Lib.hid (HRD.out.below hb1 (fun _ h => .inl h)); have hrv := Lib.hid (HRD.out.kp (Kp.ofBelow hb1 S) (fun b hb => .inr ((ho1.lt b hb).1)) : RdB w1 (fun k => v1.ownBlock = some k) _ m); have HSZ := Lib.hid hb1.size; clear ho1 hg1 hf1 hb1) | (go_at_call 150; refine (sum_any _ S _ m hrd1.out).mono ?_; rintro e w2 ⟨rfl, rfl⟩) | (go_at_call 149; refine (put_join w1 w.heap.size v1 (uintB m.length) m A c (by simpa using HO1.out) HSZ.out hrv.out (by have := uintB_le m.length (by have := HL.out; omega); omega) (by have := HL.out; omega)).mono ?_; rintro e w2 ⟨v2, rfl, ho2, hg2, hf2⟩))
      go_ret2
      rw [OwnE, hR.out]
      have hB3 : Below w1.heap.size w1 (((w1.alloc (.cells (bv (sumB m)).toArray 5)).alloc (.cells #[.int .u8 165] 5)).alloc (.cells #[.slice A m.length c, .slice (some ⟨w1.heap.size, 0, none⟩) 4 4, .slice (some ⟨w1.heap.size + 1, 0, none⟩) 1 1] 53)) := (((Below.refl _ _).alloc (Nat.le_refl _) _).alloc (by simp) _).alloc (by simp; omega) _
      refine ⟨v2, rfl, ho2, (HB1.out.trans (hB3.mono HSZ.out)).grown hg2 (by have := HSZ.out; simp; omega) (fun k hk => (HO1.out.lt k hk).1)⟩
end Go.Proofs.YtohpgipgfmkflaaGreatDoor
namespace Go.Proofs.YtohpgipgfmkflaaGreatDoor
set_option linter.unusedSectionVars false
variable [Base]
open Go.RowKit
set_option maxRecDepth 100000
set_option linter.unusedVariables false
set_option linter.unusedSimpArgs false
attribute [local go_sem ↓] Go.wp_at_zero Go.wp_at_succ

/-- What the laid variables hold. -/
structure Laid (w : World) : Prop where
  pow : Lib.TabIs Tryz.prog w "internal/strconv.uint64pow10" .u64 Lib.pow10Tab
  syn : ∃ tp p, w.cell? ⟨0, 0, none⟩ = some (.iface tp p)
  rng : ∃ tp p, w.cell? ⟨1, 0, none⟩ = some (.iface tp p)
  size : Base.b ≤ w.heap.size
theorem Laid.kp {w w1 : World} {S : Nat → Prop} (h : Laid w) (k : Kp S w w1) (hS : ∀ b, S b → Base.b ≤ b) : Laid w1 := by
  have hb : ∀ b, b < 5 → w1.heap[b]? = w.heap[b]? := fun b hb => k.block b (by have := h.size; have := Base.h5; omega) (fun hs => by have := hS b hs; have := Base.h5; omega)
  refine ⟨?_, ?_, ?_, Nat.le_trans h.size k.size⟩
  · have hgn : Tryz.prog.globalNamed "internal/strconv.uint64pow10" = some 2 := by kernel_rfl
    have hp := h.pow
    unfold Lib.TabIs World.var? at hp ⊢
    rw [hgn] at hp ⊢
    simp only [Option.bind_some] at hp ⊢
    rw [hb _ (by omega)]
    exact hp
  · obtain ⟨tp, p, hc⟩ := h.syn
    exact ⟨tp, p, (World.cell?_of_block (hb _ (by decide))).trans hc⟩
  · obtain ⟨tp, p, hc⟩ := h.rng
    exact ⟨tp, p, (World.cell?_of_block (hb _ (by decide))).trans hc⟩
theorem Laid.below {w w1 : World} (h : Laid w) (k : Below w.heap.size w w1) : Laid w1 := h.kp (S := fun _ => False) (Kp.ofBelow k _) (fun _ h => h.elim)
theorem below_grow (w : World) (k : Nat) (os : Array Obj) : Below w.heap.size w (Go.Sort.grow (w.drewN k) os) :=
  ⟨rfl, rfl, rfl, by simp [Go.Sort.grow], fun i hi => Go.Sort.heap_grow_old (w.drewN k) os hi⟩
def nameL (n : Int) : List UInt8 := if n < 1 ∨ 1152921504606846976 < n then [] else 119 :: Lib.itoa n
def nameB (n : Int) : ByteArray := ⟨(nameL n).toArray⟩
theorem own_mono {w : World} {base base' : Nat} {e : TypeId} {size : Nat} {v : Value} {n : Nat} {xs : List Value} (h : w.ownsRow base e size v n xs) (hb : base' ≤ base) : w.ownsRow base' e size v n xs :=
  ⟨h.1, h.2.imp id (fun ⟨g, cap, cur, a, b, r⟩ => ⟨g, cap, cur, a, Nat.le_trans hb b, r⟩)⟩
theorem cat_w (t : List UInt8) : (⟨#[119]⟩ : ByteArray) ++ ⟨t.toArray⟩ = ⟨(119 :: t).toArray⟩ := by
  apply ByteArray.ext
  simp
theorem name_any (w : World) (n : Int) (hl : Laid w) (h0 : -9223372036854775808 ≤ n) (h1 : n ≤ 9223372036854775807) :
    Calls Tryz.prog 39 #[.int .i64 n] w fun e w' => e = .returned (.string (nameB n)) ∧ Below w.heap.size w w' := by
  by_cases hlo : n < 1
  · have hR := Lib.hid (show nameB n = ⟨#[]⟩ by unfold nameB nameL; rw [if_pos (.inl hlo)])
    have hd1 : decide (n < 1) = true := decide_eq_true hlo
    clear hl
    go_enter Tryz.func39, Tryz.ntmps39
    go_wp2
    go_ret
    rw [hR.out]
    exact ⟨rfl, Below.refl _ _⟩
  · have hd1 : decide (n < 1) = false := decide_eq_false hlo
    by_cases hhi : 1152921504606846976 < n
    · have hR := Lib.hid (show nameB n = ⟨#[]⟩ by unfold nameB nameL; rw [if_pos (.inr hhi)])
      have hd2 : decide (1152921504606846976 < n) = true := decide_eq_true hhi
      clear hl hlo
      go_enter Tryz.func39, Tryz.ntmps39
      go_wp2
      go_ret
      rw [hR.out]
      exact ⟨rfl, Below.refl _ _⟩
    · have hR := Lib.hid (show nameB n = ⟨(119 :: Lib.itoa n).toArray⟩ by unfold nameB nameL; rw [if_neg (by omega)])
      have hd2 : decide (1152921504606846976 < n) = false := decide_eq_false hhi
      have HC := Lib.hid (Tryz.strconv_Itoa n h0 h1 w hl.pow)
      obtain ⟨t, ht⟩ : ∃ t, Lib.itoa n = t := ⟨_, rfl⟩
      have htl : t.length ≤ 21 := ht ▸ Lib.itoa_length_le n h0 h1
      rw [ht] at HC
      have HT := Lib.hid ht
      clear hl hlo hhi ht
      go_enter Tryz.func39, Tryz.ntmps39
      go_wp2_with (go_at_call 101; refine HC.out.mono ?_; rintro e w1 ⟨rfl, k, os, hw⟩; have hb := hw ▸ below_grow w k os; clear hw)
      go_ret
      rw [hR.out, HT.out]
      exact ⟨congrArg (fun z => Ending.returned (.string z)) (cat_w t), hb⟩
def headR (n : Int) : List UInt8 × Int := if n < 1 ∨ 1152921504606846976 < n then ([], 2) else (headB n.toNat, 0)
theorem putR_head (n : Nat) (h : n < 18446744073709551616) : putR (0 :: uintB n) = (headB n, 0) := by
  have := uintB_le n h
  unfold putR headB
  rw [if_neg (by simp), if_neg (by simp; omega)]
set_option maxHeartbeats 2000000 in
theorem head_any (w : World) (n : Int) (h0 : -9223372036854775808 ≤ n) (h1 : n ≤ 9223372036854775807) :
    Calls Tryz.prog 43 #[.int .i64 n] w (OwnE w (headR n)) := by
  by_cases hlo : n < 1
  · have hR := Lib.hid (show headR n = ([], 2) by unfold headR; rw [if_pos (.inl hlo)])
    have hd1 : decide (n < 1) = true := decide_eq_true hlo
    go_enter Tryz.func43, Tryz.ntmps43
    go_wp2
    go_ret2
    rw [OwnE, hR.out]
    exact ⟨_, rfl, World.ownsRow_nil _ _ _ _, Below.refl _ _⟩
  · have hd1 : decide (n < 1) = false := decide_eq_false hlo
    by_cases hhi : 1152921504606846976 < n
    · have hR := Lib.hid (show headR n = ([], 2) by unfold headR; rw [if_pos (.inr hhi)])
      have hd2 : decide (1152921504606846976 < n) = true := decide_eq_true hhi
      clear hlo
      go_enter Tryz.func43, Tryz.ntmps43
      go_wp2
      go_ret2
      rw [OwnE, hR.out]
      exact ⟨_, rfl, World.ownsRow_nil _ _ _ _, Below.refl _ _⟩
    · have hR := Lib.hid (show headR n = (headB n.toNat, 0) by unfold headR; rw [if_neg (by omega)])
      have hd2 : decide (1152921504606846976 < n) = false := decide_eq_false hhi
      obtain ⟨m, rfl⟩ := Int.eq_ofNat_of_zero_le (show 0 ≤ n by omega)
      rw [Int.toNat_natCast] at hR
      have hm : m < 18446744073709551616 := by omega
      have ho : (w.alloc (.cells #[.int .u8 0] 5)).ownsRow w.heap.size 5 1 (.slice (some ⟨w.heap.size, 0, none⟩) 1 1) ([0] : List UInt8).length (bv [0]) := by
        have := World.ownsRow_lit (base := w.heap.size) (e := 5) (size := 1) w #[.int .u8 0] 1 (Nat.le_refl _) (by unfold maxLen; omega) rfl
        exact this
      have HU := Lib.hid (uint_any (w.alloc (.cells #[.int .u8 0] 5)) w.heap.size (.slice (some ⟨w.heap.size, 0, none⟩) 1 1) [0] m ho (by simp) hm (by simp))
      have HP := Lib.hid (putR_head m hm)
      have hw : IntKind.u64.wrap (m : Int) = (m : Int) := by rw [IntKind.wrap_u64]; omega
      clear hlo hhi ho
      go_enter Tryz.func43, Tryz.ntmps43
      go_wp2_with (first | (go_at_call 95; refine HU.out.mono ?_; rintro e w1 ⟨v1, rfl, ho1, hg1, hf1⟩; have hb1 : Below w.heap.size w w1 := ((Below.refl _ _).alloc (Nat.le_refl _) _).grown hg1 (by simp) (fun k hk => by cases hk; exact Nat.le_refl _); have HO1 := Lib.hid ho1; have HB1 := Lib.hid hb1; clear ho1 hg1 hf1 hb1) | (go_at_call 86; refine (put_any _ (fun _ => False) _ _ (RdB.ofOwn HO1.out (fun _ h => h.elim)) (fun _ h => h.elim)).mono ?_; rintro e w2 hp; obtain ⟨v2, rfl, ho2, hb2⟩ : OwnE w1 (headB m, 0) e w2 := by (rw [← HP.out]; exact hp)))
      go_ret2
      rw [OwnE, hR.out]
      exact ⟨v2, rfl, own_mono ho2 HB1.out.size, HB1.out.trans (hb2.mono HB1.out.size)⟩
end Go.Proofs.YtohpgipgfmkflaaGreatDoor
namespace Go.Proofs.YtohpgipgfmkflaaGreatDoor
set_option linter.unusedSectionVars false
variable [Base]
open Go.RowKit
set_option maxRecDepth 100000
set_option linter.unusedVariables false
set_option linter.unusedSimpArgs false
attribute [local go_sem ↓] Go.wp_at_zero Go.wp_at_succ

/-- v is a [][]byte that reads ls; neither its block nor theirs is one of S. -/
def RdL (w : World) (S : Nat → Prop) (v : Value) (ls : List (List UInt8)) : Prop :=
  ∃ A c vs, v = .slice A ls.length c ∧ (ls.length ≤ c ∧ (A = none → c = 0)) ∧ c ≤ 9223372036854775807 ∧ All2 (RdB w S) vs ls ∧ ∀ i (hi : i < vs.length), ∃ g o, A = some ⟨g, o, none⟩ ∧ ¬ S g ∧ w.cell? ⟨g, o + i, none⟩ = some vs[i]
section
variable {S S' : Nat → Prop} {w w1 : World} {v : Value} {ls : List (List UInt8)}
theorem RdL.kp (h : RdL w S v ls) (k : Kp S w w1) (hs : ∀ b, S' b → S b ∨ w.heap.size ≤ b) : RdL w1 S' v ls := by
  obtain ⟨A, c, vs, rfl, h1, h2, h3, hc⟩ := h
  refine ⟨A, c, vs, rfl, h1, h2, h3.imp fun x y hxy => hxy.kp k hs, fun i hi => ?_⟩
  obtain ⟨g, o, e, hn, hcell⟩ := hc i hi
  have hlt : g < w.heap.size := World.block_lt_of_cell? w _ hcell
  exact ⟨g, o, e, fun hb => (hs g hb).elim hn (fun h => by omega), k.cell hcell hn⟩
theorem RdL.below (h : RdL w S v ls) (k : Below w.heap.size w w1) (hs : ∀ b, S' b → S b ∨ w.heap.size ≤ b) : RdL w1 S' v ls := h.kp (Kp.ofBelow k S) hs
end
def bytesR (n : Int) (recs : List (List UInt8)) : List UInt8 × Int :=
  if n < 1 ∨ 1152921504606846976 < n ∨ recs.length < 1 ∨ 1000 < recs.length then ([], 2)
  else if 1048576 < (batchB n.toNat recs).length then ([], 3) else (batchB n.toNat recs, 0)
theorem bytes_bad (w : World) (A : Option Addr) (c m : Nat) (n : Int) (hb : n < 1 ∨ 1152921504606846976 < n ∨ m < 1 ∨ 1000 < m) (hm : m ≤ 9223372036854775807) :
    Calls Tryz.prog 34 #[.agg #[.int .i64 n, .slice A m c]] w (OwnE w ([], 2)) := by
  by_cases h1 : n < 1
  · have hd1 : decide (n < 1) = true := decide_eq_true h1
    go_enter Tryz.func34, Tryz.ntmps34
    go_wp2
    go_ret2
    exact ⟨_, rfl, World.ownsRow_nil _ _ _ _, (Below.refl _ _).alloc (Nat.le_refl _) _⟩
  · have hd1 : decide (n < 1) = false := decide_eq_false h1
    by_cases h2 : 1152921504606846976 < n
    · have hd2 : decide (1152921504606846976 < n) = true := decide_eq_true h2
      clear h1
      go_enter Tryz.func34, Tryz.ntmps34
      go_wp2
      go_ret2
      exact ⟨_, rfl, World.ownsRow_nil _ _ _ _, (Below.refl _ _).alloc (Nat.le_refl _) _⟩
    · have hd2 : decide (1152921504606846976 < n) = false := decide_eq_false h2
      by_cases h3 : m < 1
      · have hd3 : decide ((m : Int) < 1) = true := decide_eq_true (by omega)
        clear h1 h2 hb
        go_enter Tryz.func34, Tryz.ntmps34
        go_wp2
        go_ret2
        exact ⟨_, rfl, World.ownsRow_nil _ _ _ _, (Below.refl _ _).alloc (Nat.le_refl _) _⟩
      · have hd3 : decide ((m : Int) < 1) = false := decide_eq_false (by omega)
        have hd4 : decide ((1000 : Int) < (m : Int)) = true := decide_eq_true (by omega)
        clear h1 h2 hb h3
        go_enter Tryz.func34, Tryz.ntmps34
        go_wp2
        go_ret2
        exact ⟨_, rfl, World.ownsRow_nil _ _ _ _, (Below.refl _ _).alloc (Nat.le_refl _) _⟩
theorem own_slice {w : World} {base : Nat} {e : TypeId} {size : Nat} {v : Value} {n : Nat} {xs : List Value} (h : w.ownsRow base e size v n xs) : ∃ A c, v = .slice A n c := by
  rcases h.2 with ⟨rfl, h0⟩ | ⟨g, cap, cur, rfl, _⟩
  · exact ⟨none, 0, by rw [h0]⟩
  · exact ⟨_, cap, rfl⟩
def accB (n : Nat) (recs : List (List UInt8)) (k : Nat) : List UInt8 := uintB n ++ uintB recs.length ++ (recs.take k).flatMap blobB
theorem accB_succ (n : Nat) (recs : List (List UInt8)) (k : Nat) (h : k < recs.length) : accB n recs (k + 1) = accB n recs k ++ blobB recs[k] := by
  unfold accB
  rw [List.take_succ_eq_append_getElem h, List.flatMap_append, List.append_assoc, List.append_assoc, List.append_assoc]
  simp
theorem accB_le (n : Nat) (recs : List (List UInt8)) (k : Nat) : (accB n recs k).length ≤ (batchB n recs).length := by
  unfold accB batchB
  conv => rhs; rw [← List.take_append_drop k recs, List.flatMap_append]
  simp
theorem accB_all (n : Nat) (recs : List (List UInt8)) : accB n recs recs.length = batchB n recs := by unfold accB batchB; rw [List.take_length]
set_option maxHeartbeats 2000000 in
theorem bytes_any (w : World) (S : Nat → Prop) (n : Int) (v : Value) (recs : List (List UInt8)) (h : RdL w S v recs) (hr : ∀ r ∈ recs, r.length ≤ 1073741824) (h0 : -9223372036854775808 ≤ n) (h1 : n ≤ 9223372036854775807) :
    Calls Tryz.prog 34 #[.agg #[.int .i64 n, v]] w (OwnE w (bytesR n recs)) := by
  obtain ⟨A, c, vs, rfl, g1, g2, g3, g4⟩ := id h
  by_cases hbad : n < 1 ∨ 1152921504606846976 < n ∨ recs.length < 1 ∨ 1000 < recs.length
  · have hR : bytesR n recs = ([], 2) := by unfold bytesR; rw [if_pos hbad]
    rw [hR]
    exact bytes_bad w A c recs.length n hbad (by omega)
  · have hR := Lib.hid (show bytesR n recs = if 1048576 < (batchB n.toNat recs).length then ([], 3) else (batchB n.toNat recs, 0) by unfold bytesR; rw [if_neg hbad])
    have hd1 : decide (n < 1) = false := decide_eq_false (by omega)
    have hd2 : decide (1152921504606846976 < n) = false := decide_eq_false (by omega)
    have hd3 : decide ((recs.length : Int) < 1) = false := decide_eq_false (by omega)
    have hd4 : decide ((1000 : Int) < (recs.length : Int)) = false := decide_eq_false (by omega)
    obtain ⟨m, rfl⟩ := Int.eq_ofNat_of_zero_le (show 0 ≤ n by omega)
    rw [Int.toNat_natCast] at hR
    have hm : m < 18446744073709551616 := by omega
    have hw1 : IntKind.u64.wrap (m : Int) = (m : Int) := by rw [IntKind.wrap_u64]; omega
    have hw2 : IntKind.u64.wrap (recs.length : Int) = (recs.length : Int) := by rw [IntKind.wrap_u64]; omega
    have hn : recs.length ≤ 1000 := by omega
    have hB := (Below.refl w.heap.size w).alloc (Nat.le_refl _) (.cells #[.int .i64 (m : Int), .slice A recs.length c] 52)
    have hh := heap_alloc_new w (.cells #[.int .i64 (m : Int), .slice A recs.length c] 52)
    have hx0 : (w.alloc (.cells #[.int .i64 (m : Int), .slice A recs.length c] 52)).cell? ⟨w.heap.size, 0, none⟩ = some (.int .i64 (m : Int)) := cell_row hh 0
    have hx1 : (w.alloc (.cells #[.int .i64 (m : Int), .slice A recs.length c] 52)).cell? ⟨w.heap.size, 1, none⟩ = some (.slice A recs.length c) := cell_row hh 1
    obtain ⟨X, hX⟩ : ∃ X, w.alloc (.cells #[.int .i64 (m : Int), .slice A recs.length c] 52) = X := ⟨_, rfl⟩
    have hXs : X.heap.size = w.heap.size + 1 := by rw [← hX]; simp
    rw [hX] at hx0 hx1 hB
    have HU := Lib.hid (uint_any X X.heap.size (.slice none 0 0) [] m (World.ownsRow_nil _ _ _ _) (Nat.le_refl _) hm (by simp))
    have HL := Lib.hid (h.below hB (fun _ h => .inl h))
    have HBX := Lib.hid hB
    have HXe := Lib.hid hX
    have HXs := Lib.hid hXs
    have HRr := Lib.hid hr
    clear h hbad g1 g3 g4 hB hh hX hXs hr
    go_enter Tryz.func34, Tryz.ntmps34
    go_upto_region 3 with (fail)
    rw [HXe.out]
    have hHX : w.heap.size < X.heap.size := by have := HXs.out; omega
    obtain ⟨H, hH⟩ : ∃ H, H = w.heap.size := ⟨_, rfl⟩
    rw [← hH] at hx0 hx1 hHX
    simp only [← hH]
    have HHe := Lib.hid hH
    clear hH
    refine wp_region_noPanic ?_
    refine wp_region_held_drew (S := (fun w' => w'.cell? ⟨H, 0, none⟩ = some (.int .i64 (m : Int)) ∧ w'.cell? ⟨H, 1, none⟩ = some (.slice A recs.length c))) (by kernel_rfl) ?_ (fun hHeld => ?_)
    · exact ⟨hx0, hx1⟩
    refine wpAnyH_take (i := 0) (oi := _) (v := ?_) rfl (by kernel_rfl) (by kernel_rfl) (by kernel_rfl) (fun _ _ _ h => h) (Or.inl ⟨by rfl, ?_⟩) (by assumption) ?_
    rotate_left
    · intro w hSw
      try dsimp only at hSw
      go_simp
      try with_reducible rfl
    try simp only [Act.put, List.setIfInBounds_toArray, List.set_cons_zero, List.set_cons_succ, List.getElem_toArray, List.getElem_cons_zero, List.getElem_cons_succ]
    refine wpAnyH_take (i := 1) (oi := _) (v := ?_) rfl (by kernel_rfl) (by kernel_rfl) (by kernel_rfl) (fun _ _ _ h => h) (Or.inl ⟨by rfl, ?_⟩) (by assumption) ?_
    rotate_left
    · intro w hSw
      try dsimp only at hSw
      go_simp
      try with_reducible rfl
    try simp only [Act.put, List.setIfInBounds_toArray, List.set_cons_zero, List.set_cons_succ, List.getElem_toArray, List.getElem_cons_zero, List.getElem_cons_succ]
    refine wpAnyH_take (i := 2) (oi := _) (v := ?_) rfl (by kernel_rfl) (by kernel_rfl) (by kernel_rfl) (fun _ _ _ h => h) (Or.inl ⟨by rfl, ?_⟩) (by assumption) ?_
    rotate_left
    · intro w hSw
      try dsimp only at hSw
      go_simp
      try with_reducible rfl
    try simp only [Act.put, List.setIfInBounds_toArray, List.set_cons_zero, List.set_cons_succ, List.getElem_toArray, List.getElem_cons_zero, List.getElem_cons_succ]
    refine wpAnyH_take (i := 4) (oi := _) (v := ?_) rfl (by kernel_rfl) (by kernel_rfl) (by kernel_rfl) (fun _ _ _ h => h) (Or.inl ⟨by rfl, ?_⟩) (by assumption) ?_
    rotate_left
    · intro w hSw
      try dsimp only at hSw
      go_simp
      try with_reducible rfl
    try simp only [Act.put, List.setIfInBounds_toArray, List.set_cons_zero, List.set_cons_succ, List.getElem_toArray, List.getElem_cons_zero, List.getElem_cons_succ]
    refine wpAnyH_take (i := 5) (oi := _) (v := ?_) rfl (by kernel_rfl) (by kernel_rfl) (by kernel_rfl) (fun _ _ _ h => h) (Or.inl ⟨by rfl, ?_⟩) (by assumption) ?_
    rotate_left
    · intro w hSw
      try dsimp only at hSw
      go_simp
      try with_reducible rfl
    try simp only [Act.put, List.setIfInBounds_toArray, List.set_cons_zero, List.set_cons_succ, List.getElem_toArray, List.getElem_cons_zero, List.getElem_cons_succ]
    refine wpAnyH_take (i := 6) (oi := _) (v := ?_) rfl (by kernel_rfl) (by kernel_rfl) (by kernel_rfl) (fun _ _ _ h => h) (Or.inl ⟨by rfl, ?_⟩) (by assumption) ?_
    rotate_left
    · intro w hSw
      try dsimp only at hSw
      go_simp
      try with_reducible rfl
    try simp only [Act.put, List.setIfInBounds_toArray, List.set_cons_zero, List.set_cons_succ, List.getElem_toArray, List.getElem_cons_zero, List.getElem_cons_succ]
    refine wpAnyH_take (i := 7) (oi := _) (v := ?_) rfl (by kernel_rfl) (by kernel_rfl) (by kernel_rfl) (fun _ _ _ h => h) (Or.inl ⟨by rfl, ?_⟩) (by assumption) ?_
    rotate_left
    · intro w hSw
      try dsimp only at hSw
      go_simp
      try with_reducible rfl
    try simp only [Act.put, List.setIfInBounds_toArray, List.set_cons_zero, List.set_cons_succ, List.getElem_toArray, List.getElem_cons_zero, List.getElem_cons_succ]
    refine wpAnyH_ready (rs := [3]) (by kernel_rfl) (by simp) ?_
    refine AllReadyH.cons (o := _) rfl (fun K hK => ?_) AllReadyH.nil
    go_simp
    go_at_call 95
    refine (uint_any X.drew X.heap.size (.slice none 0 0) [] m (World.ownsRow_nil _ _ _ _) (Nat.le_refl _) hm (by simp)).mono ?_
    rintro e w1 ⟨v1, rfl, ho1, hg1, hf1⟩
    have hb1 : Below X.heap.size X w1 := (Below.refl _ _).drew.grown hg1 (Nat.le_refl _) (fun k hk => by cases hk)
    have HO1 := Lib.hid ho1
    have HB1 := Lib.hid hb1
    have hq0 := (hb1.cell (p := ⟨H, 0, none⟩) hHX).trans hx0
    have hq1 := (hb1.cell (p := ⟨H, 1, none⟩) hHX).trans hx1
    clear ho1 hg1 hf1 hb1
    go_wp2
    refine hK.out _ _ ?_ (fun hHeld => ?_)
    · exact ⟨hq0, hq1⟩
    clear hK K
    try simp only [Act.put, List.setIfInBounds_toArray, List.set_cons_zero, List.set_cons_succ, List.getElem_toArray, List.getElem_cons_zero, List.getElem_cons_succ]
    refine wpAnyH_ready (rs := [8]) (by kernel_rfl) (by simp) ?_
    refine AllReadyH.cons (o := _) rfl (fun K hK => ?_) AllReadyH.nil
    go_simp
    go_at_call 95
    refine (uint_any w1 X.heap.size v1 (uintB m) recs.length HO1.out HB1.out.size (by omega) (by have := uintB_le m hm; omega)).mono ?_
    rintro e w2 ⟨v2, rfl, ho2, hg2, hf2⟩
    have hb2 : Below X.heap.size X w2 := HB1.out.grown hg2 HB1.out.size (fun k hk => (HO1.out.lt k hk).1)
    have HO2 := Lib.hid ho2
    have HB2 := Lib.hid hb2
    have hr0 := (hb2.cell (p := ⟨H, 0, none⟩) hHX).trans hx0
    have hr1 := (hb2.cell (p := ⟨H, 1, none⟩) hHX).trans hx1
    clear ho2 hg2 hf2 hb2
    go_wp2
    refine hK.out _ _ ?_ (fun hHeld => ?_)
    · exact ⟨hr0, hr1⟩
    clear hK K
    try simp only [Act.put, List.setIfInBounds_toArray, List.set_cons_zero, List.set_cons_succ, List.getElem_toArray, List.getElem_cons_zero, List.getElem_cons_succ]
    refine wpAnyH_take (i := 9) (oi := _) (v := ?_) rfl (by kernel_rfl) (by kernel_rfl) (by kernel_rfl) (fun _ _ _ h => h) (Or.inl ⟨by rfl, ?_⟩) (by assumption) ?_
    rotate_left
    · intro w hSw
      try dsimp only at hSw
      go_simp
      try with_reducible rfl
    try simp only [Act.put, List.setIfInBounds_toArray, List.set_cons_zero, List.set_cons_succ, List.getElem_toArray, List.getElem_cons_zero, List.getElem_cons_succ]
    refine wpAnyH_done (by kernel_rfl) ?_ _
    refine NoPanic.normal ?_
    clear hq0 hq1 hr0 hx0 hx1
    go_wp2
    go_loopw [4, 6, 39] (fun out r i wr => ∃ k : Nat, k ≤ recs.length ∧ i = .int .i64 k ∧ wr.ownsRow X.heap.size 5 1 out (accB m recs k).length (bv (accB m recs k)) ∧ Below X.heap.size X wr ∧ (accB m recs k).length ≤ 1048576) (fun out r i wr => recs.length - (intOf i).toNat)
    case atStart =>
      have e0 : accB m recs 0 = uintB m ++ uintB recs.length := by unfold accB; simp
      refine ⟨0, Nat.zero_le _, rfl, by rw [e0]; exact HO2.out, HB2.out, ?_⟩
      rw [e0, List.length_append]
      have := uintB_le m hm
      have := uintB_le recs.length (by omega)
      omega
    case round =>
      obtain ⟨k, hk, rfl, how, hbel, hle⟩ := hrel
      have HOW := Lib.hid how
      have HBE := Lib.hid hbel
      have HLE := Lib.hid hle
      clear how hbel hle
      by_cases hlt : k < recs.length
      · obtain ⟨A', c', vs', e', _, _, g3, g4⟩ := HL.out
        injection e' with e1 _ e3
        subst e1
        subst e3
        have hkv : k < vs'.length := by rw [g3.1]; exact hlt
        obtain ⟨g, o, rfl, _, hcell⟩ := g4 k hkv
        have hgX : g < X.heap.size := World.block_lt_of_cell? X _ hcell
        have hcell := (HBE.out.cell (p := ⟨g, o + k, none⟩) hgX).trans hcell
        have hrd := (g3.get k hkv hlt)
        have HRD := Lib.hid (show ∀ out : Value, (∀ b, out.ownBlock = some b → X.heap.size ≤ b) → RdB wr (fun b => out.ownBlock = some b) vs'[k] recs[k] from fun out ho => hrd.kp (Kp.ofBelow HBE.out S) (fun b hb => .inr (ho b hb)))
        have hx9 : (k : Int) < (recs.length : Int) := by omega
        have hsz := HBE.out.size
        have hrl : recs[k].length ≤ 1073741824 := HRr.out _ (List.getElem_mem hlt)
        have HRL := Lib.hid hrl
        have HAC := Lib.hid (accB_succ m recs k hlt)
        clear g3 g4 hrd hrl
        go_wp2_with (go_at_call 96; refine (blob_any wr X.heap.size _ _ (accB m recs k) recs[k] HOW.out hsz (HRD.out _ (fun b hb => (HOW.out.lt b hb).1)) (by have := HLE.out; omega) (by have := HRL.out; omega)).mono ?_; rintro e w3 ⟨v3, rfl, ho3, hg3, hf3⟩; have hB3 := Lib.hid (HBE.out.grown hg3 hsz (fun b hb => (HOW.out.lt b hb).1)); obtain ⟨A3, c3, e3⟩ := own_slice ho3; subst e3; have HO3 := Lib.hid ho3; clear ho3 hg3 hf3)
        · rename_i hbig
          go_ret2
          rw [OwnE, hR.out]
          have hq := accB_le m recs (k + 1)
          rw [HAC.out, List.length_append] at hq
          rw [if_pos (by omega)]
          exact ⟨_, rfl, World.ownsRow_nil _ _ _ _, HBX.out.trans (hB3.out.mono (by have := HXs.out; omega))⟩
        · rename_i hsm
          refine ⟨⟨k + 1, by omega, by go_num, ?_, hB3.out, ?_⟩, by simp [intOf]; omega⟩
          · have ho := HO3.out
            rw [← HAC.out] at ho
            have hz : (accB m recs (k + 1)).length = (accB m recs k).length + (blobB recs[k]).length := by rw [HAC.out, List.length_append]
            rw [← hz]
            exact ho
          · rw [HAC.out, List.length_append]; omega
      · obtain rfl : k = recs.length := by omega
        go_wp2
        go_ret2
        rw [OwnE, hR.out]
        have ho := HOW.out
        have hl := HLE.out
        rw [accB_all] at ho hl
        rw [if_neg (by omega)]
        exact ⟨_, rfl, own_mono ho (by have := HXs.out; omega), HBX.out.trans (HBE.out.mono (by have := HXs.out; omega))⟩
end Go.Proofs.YtohpgipgfmkflaaGreatDoor
namespace Go.Proofs.YtohpgipgfmkflaaGreatDoor
set_option linter.unusedSectionVars false
variable [Base]
open Go.RowKit
set_option maxRecDepth 100000
set_option linter.unusedVariables false
set_option linter.unusedSimpArgs false
attribute [local go_sem ↓] Go.wp_at_zero Go.wp_at_succ

/-- Deeds, one behind the other, up to the first error; R: what holds then. -/
def AllW (q h : Nat) (R : Int → World → Prop) : List (Nat × Array Value) → World → Prop
  | [], w => R 0 w
  | (k, caps) :: ks, w => (∀ args w, (callFunc k args).run Tryz.prog w = .ok (.enter k args) w) ∧ Calls Tryz.prog k caps w fun e w1 => ∃ er : Int, e = .returned (.int .i64 er) ∧ w1.heap[h]? = w.heap[h]? ∧
      (∃ b, w1.cell? ⟨q, 5, none⟩ = some (.bool b)) ∧ w1.frozen? ⟨q, 5, none⟩ = false ∧ (er ≠ 0 → R er (w1.setCell ⟨q, 5, none⟩ (.bool true))) ∧ (er = 0 → AllW q h R ks w1)
set_option maxHeartbeats 2000000 in
theorem all_any (w : World) (q h c : Nat) (R : Int → World → Prop) (ks : List (Nat × Array Value)) (hk : ks.length ≤ 100) (hc : ∀ i (hi : i < ks.length), w.cell? ⟨h, i, none⟩ = some (.func (.func ks[i].1) #[] ks[i].2)) (H : AllW q h R ks w) :
    Calls Tryz.prog 87 #[.pointer (some ⟨q, 0, none⟩), .slice (some ⟨h, 0, none⟩) ks.length c] w fun e w' => ∃ er : Int, e = .returned (.int .i64 er) ∧ R er w' := by
  have HC := Lib.hid hc
  have HH := Lib.hid H
  clear hc H
  obtain ⟨n, hn⟩ : ∃ n, n = ks.length := ⟨_, rfl⟩
  have HN := Lib.hid hn
  rw [← hn] at hk ⊢
  clear hn
  go_enter Tryz.func87, Tryz.ntmps87
  go_wp2
  go_loopw [6, 7, 10] (fun f x i wr => ∃ k : Nat, k ≤ n ∧ i = .int .i64 k ∧ Hid (AllW q h R (ks.drop k) wr) ∧ Hid (wr.heap[h]? = w.heap[h]?)) (fun f x i wr => n - (intOf i).toNat)
  case atStart => exact ⟨0, Nat.zero_le _, rfl, HH, Lib.hid rfl⟩
  case round =>
    obtain ⟨k, hkn, rfl, HA, HB⟩ := hrel
    by_cases hlt : k < n
    · have hkl : k < ks.length := by have := HN.out; omega
      have hcell := (World.cell?_of_block (a := ⟨h, k, none⟩) HB.out).trans (HC.out k hkl)
      have hA := HA.out
      rw [List.drop_eq_getElem_cons hkl] at hA
      obtain ⟨kk, hkk⟩ : ∃ kk, ks[k] = kk := ⟨_, rfl⟩
      rw [hkk] at hA hcell
      obtain ⟨f, caps⟩ := kk
      obtain ⟨eg, hcall⟩ := hA
      have HCL := Lib.hid hcall
      have hx1 : (k : Int) < (n : Int) := by omega
      clear hcall hkk
      go_wp2_with (refine HCL.out.mono ?_; rintro e w1 ⟨er, rfl, hb, ⟨bo, hbo⟩, hfz, hno, hyes⟩; have HNO := Lib.hid hno; have HYES := Lib.hid hyes; have HB1 := Lib.hid hb; clear hno hyes hb)
      · rename_i hne
        go_ret
        exact ⟨er, rfl, HNO.out (by simpa using hne)⟩
      · rename_i hne
        exact ⟨⟨k + 1, by omega, by go_num, Lib.hid (HYES.out (by simpa using hne)), Lib.hid (HB1.out.trans HB.out)⟩, by simp [intOf]; omega⟩
    · obtain rfl : k = n := by omega
      go_wp2
      go_ret
      have hA := HA.out
      rw [List.drop_eq_nil_of_le (by have := HN.out; omega)] at hA
      exact ⟨0, rfl, hA⟩
end Go.Proofs.YtohpgipgfmkflaaGreatDoor
namespace Go.Proofs.YtohpgipgfmkflaaGreatDoor
set_option linter.unusedSectionVars false
variable [Base]
open Go.RowKit
set_option maxRecDepth 100000
set_option linter.unusedVariables false
set_option linter.unusedSimpArgs false
attribute [local go_sem ↓] Go.wp_at_zero Go.wp_at_succ

structure LState where
  size : Int
  firsts : List Nat
  last : Nat
  acked : Nat
  over : Bool
def fileN (fs : List Nat) : ByteArray := nameB ((fs.getLastD 0 : Nat) : Int)
def nx1 (L : LState) (D : DState) : DState × Int := if L.firsts = [] then (D, 0) else D.sync (fileN L.firsts)
def nx2 (D : DState) (first : Nat) : DState × Int := D.append (nameB (first : Int)) (headR (first : Int)).1
def LState.ended (L : LState) : LState := { L with over := true }
def LState.nexts (L : LState) (D : DState) (first : Nat) : LState × DState × Int :=
  if (nx1 L D).2 ≠ 0 then (L.ended, (nx1 L D).1, (nx1 L D).2)
  else if (nx2 (nx1 L D).1 first).2 ≠ 0 then ({ L with acked := L.last }.ended, (nx2 (nx1 L D).1 first).1, (nx2 (nx1 L D).1 first).2)
  else ({ L with acked := L.last, firsts := L.firsts ++ [first] }, (nx2 (nx1 L D).1 first).1, 0)
def LState.puts (L : LState) (D : DState) (f : List UInt8) : LState × DState × Int :=
  if (D.append (fileN L.firsts) f).2 ≠ 0 then (L.ended, (D.append (fileN L.firsts) f).1, (D.append (fileN L.firsts) f).2) else (L, (D.append (fileN L.firsts) f).1, 0)
/-- The log, the disk, the batch's number, the error. -/
structure WR where
  L : LState
  D : DState
  n : Int
  e : Int
def LState.full (L : LState) (D : DState) : Bool := decide (L.firsts = []) || decide (L.size ≤ ((getF D.files (fileN L.firsts)).b.length : Int))
def LState.writes (L : LState) (D : DState) (recs : List (List UInt8)) : WR :=
  if L.over then ⟨L, D, 0, 17⟩
  else if (bytesR ((L.last : Int) + 1) recs).2 ≠ 0 then ⟨L, D, 0, (bytesR ((L.last : Int) + 1) recs).2⟩
  else
    let r := if L.full D then L.nexts D (L.last + 1) else (L, D, 0)
    if r.2.2 ≠ 0 then ⟨r.1, r.2.1, 0, r.2.2⟩
    else
      let s := r.1.puts r.2.1 (putR (bytesR ((L.last : Int) + 1) recs).1).1
      if s.2.2 ≠ 0 then ⟨s.1, s.2.1, 0, s.2.2⟩ else ⟨{ s.1 with last := L.last + 1 }, s.2.1, (L.last : Int) + 1, 0⟩
/-- What holds of every log. -/
structure LState.WF (L : LState) : Prop where
  last : L.last ≤ 1152921504606846976
  acked : L.acked ≤ 1152921504606846976
  firsts : ∀ n ∈ L.firsts, n ≤ 1152921504606846976
  many : L.firsts.length ≤ 1000000
  size : 64 ≤ L.size ∧ L.size ≤ 16777216
def iv (l : List Nat) : List Value := l.map fun (n : Nat) => .int .i64 (n : Int)
theorem iv_length (l : List Nat) : (iv l).length = l.length := by simp [iv]
theorem iv_append (l m : List Nat) : iv (l ++ m) = iv l ++ iv m := by simp [iv]
theorem iv_one (l : List Nat) : ∀ u ∈ iv l, u.oneCell' = true := by
  intro u hu; simp only [iv, List.mem_map] at hu; obtain ⟨b, _, rfl⟩ := hu; rfl
/-- What a log owns. -/
def Ow (q : Nat) (v : Value) : Nat → Prop := fun b => b = q ∨ v.ownBlock = some b
/-- v is a row of numbers, at an offset perhaps, with room behind. -/
def RowI (w : World) (v : Value) (l : List Nat) : Prop :=
  (v = .slice none 0 0 ∧ l = []) ∨ ∃ g o c cur, v = .slice (some ⟨g, o, none⟩) l.length c ∧ w.heap[g]? = some (.cells cur 3 (0, 0)) ∧ l.length ≤ c ∧ c ≤ 9223372036854775807 ∧ o + c ≤ cur.size ∧ ∀ j (h : j < l.length), cur[o + j]? = some (.int .i64 (l[j] : Int))
theorem RowI.nil (w : World) : RowI w (.slice none 0 0) [] := .inl ⟨rfl, rfl⟩
theorem RowI.slice {w : World} {v : Value} {l : List Nat} (h : RowI w v l) : ∃ A c, v = .slice A l.length c := by
  rcases h with ⟨rfl, rfl⟩ | ⟨g, o, c, cur, rfl, _⟩
  · exact ⟨none, 0, rfl⟩
  · exact ⟨_, c, rfl⟩
theorem iv_get (l : List Nat) (k : Nat) (h : k < l.length) : (iv l)[k]? = some (.int .i64 (l[k] : Int)) := by simp [iv, List.getElem?_eq_getElem h]
theorem RowI.ofOwn {w : World} {base n : Nat} {v : Value} {l : List Nat} (h : w.ownsRow base 3 1 v n (iv l)) : RowI w v l := by
  have hl : l.length = n := by have := h.1; simp [iv_length] at this; exact this
  subst hl
  rcases h.2 with ⟨rfl, h0⟩ | ⟨g, c, cur, rfl, _, hg, h1, h2, h3, h4⟩
  · exact .inl ⟨rfl, List.length_eq_zero_iff.1 h0⟩
  · refine .inr ⟨g, 0, c, cur, rfl, hg, h1, h2, by omega, fun j hj => ?_⟩
    have := iv_get l j hj
    rw [← h4, List.getElem?_take, if_pos (by omega)] at this
    rw [Nat.zero_add, ← Array.getElem?_toList]
    exact this
theorem RowI.kp {w w1 : World} {S : Nat → Prop} {v : Value} {l : List Nat} (h : RowI w v l) (k : Kp S w w1) (hs : ∀ b, v.ownBlock = some b → ¬ S b) : RowI w1 v l := by
  rcases h with h | ⟨g, o, c, cur, rfl, hg, r⟩
  · exact .inl h
  · exact .inr ⟨g, o, c, cur, rfl, k.blk hg (hs g rfl), r⟩
theorem RowI.lt {w : World} {v : Value} {l : List Nat} (h : RowI w v l) (b : Nat) (hb : v.ownBlock = some b) : b < w.heap.size := by
  rcases h with ⟨rfl, _⟩ | ⟨g, o, c, cur, rfl, hg, r⟩
  · cases hb
  · have : g = b := by simpa [Value.ownBlock] using hb
    exact this ▸ (Array.getElem?_eq_some_iff.1 hg).1
structure LogM (w : World) (q p : Nat) (L : LState) (v : Value) : Prop where
  blk : w.heap[q]? = some (.cells #[.pointer (some ⟨p, 0, none⟩), .int .i64 L.size, v, .int .i64 (L.last : Int), .int .i64 (L.acked : Int), .bool L.over] 27 (0, 0))
  row : RowI w v L.firsts
section
variable {w w1 : World} {S Sd Sl : Nat → Prop} {q p : Nat} {L L' : LState} {D D' : DState} {v : Value}
theorem LogM.foot (h : LogM w q p L v) : ∀ b, Ow q v b → b < w.heap.size := by
  rintro b (rfl | hb)
  · exact (Array.getElem?_eq_some_iff.1 h.blk).1
  · exact h.row.lt b hb
theorem LogM.notU8 (h : LogM w q p L v) (hlow : ∀ b, Ow q v b → Base.b ≤ b) : ∀ b, Ow q v b → ¬ U8 w b := by
  rintro b hb0 (⟨cur, fz, hu⟩ | hlt)
  rotate_left
  · have := hlow b hb0; omega
  rcases hb0 with rfl | hb
  · rw [h.blk] at hu; injection hu with hu; injection hu with _ ht; exact absurd ht (by decide)
  · rcases h.row with ⟨rfl, _⟩ | ⟨g, o, c, cur', rfl, hg, _⟩
    · cases hb
    · have : g = b := by simpa [Value.ownBlock] using hb
      rw [← this, hg] at hu; injection hu with hu; injection hu with _ ht; exact absurd ht (by decide)
theorem LogM.ne (h : LogM w q p L v) : v.ownBlock ≠ some q := by
  intro e
  rcases h.row with ⟨rfl, _⟩ | ⟨g, o, c, cur, rfl, hg, _⟩
  · cases e
  · have : g = q := by simpa [Value.ownBlock] using e
    rw [this, h.blk] at hg
    injection hg with hg
    injection hg with _ ht
    exact absurd ht (by decide)
theorem ownsRow_kp {w w1 : World} {S : Nat → Prop} {base : Nat} {e : TypeId} {size : Nat} {v : Value} {n : Nat} {xs : List Value} (h : w.ownsRow base e size v n xs) (k : Kp S w w1) (hs : ∀ b, v.ownBlock = some b → ¬ S b) : w1.ownsRow base e size v n xs := by
  refine ⟨h.1, h.2.imp id ?_⟩
  rintro ⟨g, cap, cur, rfl, h0, hg, r⟩
  exact ⟨g, cap, cur, rfl, h0, k.blk hg (hs g rfl), r⟩
theorem LogM.kp (h : LogM w q p L v) (k : Kp S w w1) (hs : ∀ b, Ow q v b → ¬ S b) : LogM w1 q p L v :=
  ⟨k.blk h.blk (hs q (.inl rfl)), h.row.kp k (fun b hb => hs b (.inr hb))⟩
theorem LogM.below (h : LogM w q p L v) (k : Below w.heap.size w w1) : LogM w1 q p L v := h.kp (S := fun _ => False) (Kp.ofBelow k _) (fun _ _ h => h)
/-- The log's cells, for a walk. -/
structure LC (w : World) (q p : Nat) (L : LState) (v : Value) : Prop where
  c0 : w.cell? ⟨q, 0, none⟩ = some (.pointer (some ⟨p, 0, none⟩))
  c1 : w.cell? ⟨q, 1, none⟩ = some (.int .i64 L.size)
  c2 : w.cell? ⟨q, 2, none⟩ = some v
  c3 : w.cell? ⟨q, 3, none⟩ = some (.int .i64 (L.last : Int))
  c4 : w.cell? ⟨q, 4, none⟩ = some (.int .i64 (L.acked : Int))
  c5 : w.cell? ⟨q, 5, none⟩ = some (.bool L.over)
  fz : ∀ j, w.frozen? ⟨q, j, none⟩ = false
theorem LogM.lc (h : LogM w q p L v) : LC w q p L v :=
  ⟨cell_row h.blk 0, cell_row h.blk 1, cell_row h.blk 2, cell_row h.blk 3, cell_row h.blk 4, cell_row h.blk 5, fun j => by simp [World.frozen?, h.blk]⟩
/-- One cell of the log's block, other than the row's. -/
theorem LogM.store (h : LogM w q p L v) (o : Nat) (u : Value) (hf : L'.firsts = L.firsts)
    (hc : (#[.pointer (some ⟨p, 0, none⟩), .int .i64 L.size, v, .int .i64 (L.last : Int), .int .i64 (L.acked : Int), .bool L.over] : Array Value).setIfInBounds o u = #[.pointer (some ⟨p, 0, none⟩), .int .i64 L'.size, v, .int .i64 (L'.last : Int), .int .i64 (L'.acked : Int), .bool L'.over]) :
    LogM (w.setCell ⟨q, o, none⟩ u) q p L' v := by
  refine ⟨?_, ?_⟩
  · rw [heap_setCell_cells w q o _ _ u h.blk, hc]
  · rw [hf]
    exact h.row.kp (S := fun b => b = q) ((Kp.refl (fun b => b = q) w).setCell (p := ⟨q, o, none⟩) (.inl rfl) u) (fun b hb e => h.ne (by rw [hb, e]))
/-- A log, its disk. -/
structure LogW (w : World) (Sd : Nat → Prop) (q p : Nat) (L : LState) (D : DState) (v : Value) : Prop where
  disk : Disk w Sd p D
  log : LogM w q p L v
  wf : L.WF
  apart : ∀ b, Ow q v b → ¬ Sd b
  low : ∀ b, Sd b ∨ Ow q v b → Base.b ≤ b
  laid : Laid w
/-- A step of both. -/
structure LStep (Sd Sl Sd' Sl' : Nat → Prop) (w w' : World) : Prop where
  kp : Kp (fun b => Sd b ∨ Sl b) w w'
  fd : ∀ b, Sd' b → Sd b ∨ w.heap.size ≤ b
  fl : ∀ b, Sl' b → Sl b ∨ w.heap.size ≤ b
theorem LStep.refl (Sd Sl : Nat → Prop) (w : World) : LStep Sd Sl Sd Sl w w := ⟨Kp.refl _ w, fun _ h => .inl h, fun _ h => .inl h⟩
theorem LStep.below (Sd Sl : Nat → Prop) {w w' : World} (k : Below w.heap.size w w') : LStep Sd Sl Sd Sl w w' := ⟨Kp.ofBelow k _, fun _ h => .inl h, fun _ h => .inl h⟩
theorem LStep.trans {Sd Sl Sd1 Sl1 Sd2 Sl2 : Nat → Prop} {w w1 w2 : World} (h : LStep Sd Sl Sd1 Sl1 w w1) (k : LStep Sd1 Sl1 Sd2 Sl2 w1 w2) : LStep Sd Sl Sd2 Sl2 w w2 :=
  ⟨h.kp.trans k.kp (fun b hb => hb.elim (fun h1 => (h.fd b h1).imp .inl id) (fun h1 => (h.fl b h1).imp .inr id)),
   fun b hb => (k.fd b hb).elim (h.fd b) (fun h2 => .inr (Nat.le_trans h.kp.size h2)), fun b hb => (k.fl b hb).elim (h.fl b) (fun h2 => .inr (Nat.le_trans h.kp.size h2))⟩
theorem LogW.below (h : LogW w Sd q p L D v) (k : Below w.heap.size w w1) : LogW w1 Sd q p L D v := ⟨h.disk.below k, h.log.below k, h.wf, h.apart, h.low, h.laid.below k⟩
/-- The disk has taken a step. -/
theorem LogW.step (h : LogW w Sd q p L D v) {Sd' : Nat → Prop} (hd : Disk w1 Sd' p D') (hs : Step Sd Sd' w w1) : LogW w1 Sd' q p L D' v ∧ LStep Sd (Ow q v) Sd' (Ow q v) w w1 := by
  have h5 := h.laid.size
  refine ⟨⟨hd, h.log.kp hs.kp h.apart, h.wf, fun b hb hd' => ?_, fun b hb => ?_, h.laid.kp hs.kp (fun b hb => h.low b (.inl hb))⟩, ⟨hs.kp.mono (fun _ h => .inl h), hs.fresh, fun _ h => .inl h⟩⟩
  · rcases hs.fresh b hd' with h1 | h1
    · exact h.apart b hb h1
    · have := h.log.foot b hb; omega
  · rcases hb with hb | hb
    · rcases hs.fresh b hb with h1 | h1
      · exact h.low b (.inl h1)
      · omega
    · exact h.low b (.inr hb)
/-- The disk is as it was where other blocks turn, none of bytes. -/
theorem Disk.kpOut {O : Nat → Prop} (h : Disk w Sd p D) (k : Kp O w w1) (ha : ∀ b, O b → ¬ Sd b) (hb : ∀ b, O b → b < w.heap.size → ¬ U8 w b) : Disk w1 Sd p D := by
  obtain ⟨v, xs, hb1, ho, hk, hr⟩ := h.mem
  refine ⟨fun b hb => Nat.lt_of_lt_of_le (h.foot b hb) k.size, h.mine, h.wf, v, xs, k.blk hb1 (fun hs => ha p hs h.mine), ownsRow_kp ho k (fun b hb hs => ha b hs (hk b hb)), hk, hr.imp fun x f ⟨a, b, c⟩ => ⟨a, b, ?_⟩⟩
  obtain ⟨A, cc, e, h1, h2, hc⟩ := c
  refine ⟨A, cc, e, h1, h2, fun j hj => ?_⟩
  obtain ⟨g, o, e1, ⟨hn, hu⟩, hcell⟩ := hc j hj
  have hg : ¬ O g := fun hO => hb g hO (World.block_lt_of_cell? w _ hcell) hu
  exact ⟨g, o, e1, ⟨hn, hu.kp fun _ _ hu => k.blk hu hg⟩, k.cell hcell hg⟩
/-- The log's own blocks have turned. -/
theorem LogW.own (h : LogW w Sd q p L D v) {v' : Value} (hl : LogM w1 q p L' v') (hw : L'.WF) (k : Kp (Ow q v) w w1) (hv : ∀ b, v'.ownBlock = some b → Ow q v b ∨ w.heap.size ≤ b) : LogW w1 Sd q p L' D v' ∧ LStep Sd (Ow q v) Sd (Ow q v') w w1 := by
  have h5 := h.laid.size
  have hf : ∀ b, Ow q v' b → Ow q v b ∨ w.heap.size ≤ b := by
    rintro b (hb | hb)
    · exact .inl (.inl hb)
    · exact hv b hb
  refine ⟨⟨h.disk.kpOut k h.apart (fun b hb _ => h.log.notU8 (fun b hb => h.low b (.inr hb)) b hb), hl, hw, fun b hb hs => ?_, fun b hb => ?_, h.laid.kp k (fun b hb => h.low b (.inr hb))⟩, ⟨k.mono (fun _ h => .inr h), fun _ h => .inl h, hf⟩⟩
  · rcases hf b hb with h1 | h1
    · exact h.apart b h1 hs
    · have := h.disk.foot b hs; omega
  · rcases hb with hb | hb
    · exact h.low b (.inl hb)
    · rcases hf b hb with h1 | h1
      · exact h.low b (.inr h1)
      · omega
/-- One cell of the log's. -/
theorem LogW.set (h : LogW w Sd q p L D v) (o : Nat) (u : Value) (hw : L'.WF) (hf : L'.firsts = L.firsts)
    (hc : (#[.pointer (some ⟨p, 0, none⟩), .int .i64 L.size, v, .int .i64 (L.last : Int), .int .i64 (L.acked : Int), .bool L.over] : Array Value).setIfInBounds o u = #[.pointer (some ⟨p, 0, none⟩), .int .i64 L'.size, v, .int .i64 (L'.last : Int), .int .i64 (L'.acked : Int), .bool L'.over]) :
    LogW (w.setCell ⟨q, o, none⟩ u) Sd q p L' D v ∧ LStep Sd (Ow q v) Sd (Ow q v) w (w.setCell ⟨q, o, none⟩ u) :=
  h.own (h.log.store o u hf hc) hw ((Kp.refl _ w).setCell (.inl (.inl rfl)) u) (fun b hb => .inl (.inr hb))
end
theorem LState.WF.ended {L : LState} (h : L.WF) : L.ended.WF := ⟨h.last, h.acked, h.firsts, h.many, h.size⟩
/-- What a deed of the log says. -/
def LPost (w : World) (Sd : Nat → Prop) (q p : Nat) (v : Value) (L' : LState) (D' : DState) (w' : World) : Prop :=
  ∃ Sd' v', LogW w' Sd' q p L' D' v' ∧ LStep Sd (Ow q v) Sd' (Ow q v') w w'
theorem LPost.trans {w w1 w2 : World} {Sd : Nat → Prop} {q p : Nat} {v : Value} {L2 : LState} {D2 : DState} {Sd1 : Nat → Prop} {v1 : Value} (h : LStep Sd (Ow q v) Sd1 (Ow q v1) w w1) (k : LPost w1 Sd1 q p v1 L2 D2 w2) : LPost w Sd q p v L2 D2 w2 := by
  obtain ⟨Sd', v', h1, h2⟩ := k
  exact ⟨Sd', v', h1, h.trans h2⟩
end Go.Proofs.YtohpgipgfmkflaaGreatDoor
namespace Go.Proofs.YtohpgipgfmkflaaGreatDoor
set_option linter.unusedSectionVars false
variable [Base]
open Go.RowKit
set_option maxRecDepth 100000
set_option linter.unusedVariables false
set_option linter.unusedSimpArgs false
attribute [local go_sem ↓] Go.wp_at_zero Go.wp_at_succ

theorem getLastD_eq (l : List Nat) (k : Nat) (h : l.length = k + 1) : l.getLastD 0 = l[k] := by
  rw [List.getLastD_eq_getLast?, List.getLast?_eq_getElem?, show l.length - 1 = k by omega]
  simp [List.getElem?_eq_getElem (show k < l.length by omega)]
theorem iv_at (l : List Nat) (k : Nat) (h : k < l.length) : (iv l)[k]? = some (.int .i64 (l[k] : Int)) := iv_get l k h
set_option maxHeartbeats 2000000 in
theorem file_any (w : World) (q p : Nat) (L : LState) (v : Value) (h : LogM w q p L v) (hw : L.WF) (hne : L.firsts ≠ []) (hl : Laid w) :
    Calls Tryz.prog 84 #[.pointer (some ⟨q, 0, none⟩)] w fun e w' => e = .returned (.string (fileN L.firsts)) ∧ Below w.heap.size w w' := by
  obtain ⟨k, hk⟩ : ∃ k, L.firsts.length = k + 1 := ⟨L.firsts.length - 1, by have := List.length_pos_iff.2 hne; omega⟩
  have hrow := h.row
  have hF := Lib.hid (show fileN L.firsts = nameB ((L.firsts[k] : Nat) : Int) by unfold fileN; rw [getLastD_eq _ k hk])
  have hmax := hw.firsts _ (List.getElem_mem (show k < L.firsts.length by omega))
  have hmany := hw.many
  have hc2 := h.lc.c2
  obtain ⟨x, hx⟩ : ∃ x, L.firsts[k] = x := ⟨_, rfl⟩
  rcases hrow with ⟨_, h0⟩ | ⟨g, o, c, cur, rfl, hg, h1, h2, h3, h4⟩
  · exact absurd h0 hne
  have hq := (cell_row hg (o + k)).trans (h4 k (by omega))
  rw [hx] at hF hmax hq
  rw [hk] at hc2
  have HN := Lib.hid (fun (wx : World) (hb : Below w.heap.size w wx) => name_any wx (x : Int) (hl.below hb) (by omega) (by omega))
  have hk1 : k ≤ 1000000 := by omega
  have hx0 : (0 : Int) ≤ (k : Int) := by omega
  have hx1 : (k : Int) < (k : Int) + 1 := by omega
  have hw1 : IntKind.i64.wrap ((k : Int) + 1 - 1) = (k : Int) := by rw [IntKind.wrap_i64]; omega
  have hw2 : IntKind.i64.wrap (((k + 1 : Nat) : Int) - 1) = (k : Int) := by rw [IntKind.wrap_i64]; omega
  have hw3 : IntKind.i64.wrap (k : Int) = (k : Int) := by rw [IntKind.wrap_i64]; omega
  clear h hw hne hl hk hx h1 hg h3 h4
  go_enter Tryz.func84, Tryz.ntmps84
  go_wp2
  refine wp_region_noPanic ?_
  refine wp_region_held_drew (S := (fun w' => w'.cell? ⟨q, 2, none⟩ = some (.slice (some ⟨g, o, none⟩) (k + 1) c) ∧ w'.cell? ⟨g, o + k, none⟩ = some (.int .i64 (x : Int)))) (by kernel_rfl) ?_ (fun hHeld => ?_)
  · exact ⟨hc2, hq⟩
  refine wpAnyH_take (i := 0) (oi := _) (v := ?_) rfl (by kernel_rfl) (by kernel_rfl) (by kernel_rfl) (fun _ _ _ h => h) (Or.inl ⟨by rfl, ?_⟩) (by assumption) ?_
  rotate_left
  · intro w hSw
    try dsimp only at hSw
    go_simp
    try with_reducible rfl
  try simp only [Act.put, List.setIfInBounds_toArray, List.set_cons_zero, List.set_cons_succ, List.getElem_toArray, List.getElem_cons_zero, List.getElem_cons_succ]
  refine wpAnyH_take (i := 1) (oi := _) (v := ?_) rfl (by kernel_rfl) (by kernel_rfl) (by kernel_rfl) (fun _ _ _ h => h) (Or.inl ⟨by rfl, ?_⟩) (by assumption) ?_
  rotate_left
  · intro w hSw
    try dsimp only at hSw
    go_simp
    try with_reducible rfl
  try simp only [Act.put, List.setIfInBounds_toArray, List.set_cons_zero, List.set_cons_succ, List.getElem_toArray, List.getElem_cons_zero, List.getElem_cons_succ]
  refine wpAnyH_take (i := 2) (oi := _) (v := ?_) rfl (by kernel_rfl) (by kernel_rfl) (by kernel_rfl) (fun _ _ _ h => h) (Or.inl ⟨by rfl, ?_⟩) (by assumption) ?_
  rotate_left
  · intro w hSw
    try dsimp only at hSw
    go_simp
    try with_reducible rfl
  try simp only [Act.put, List.setIfInBounds_toArray, List.set_cons_zero, List.set_cons_succ, List.getElem_toArray, List.getElem_cons_zero, List.getElem_cons_succ]
  refine wpAnyH_take (i := 3) (oi := _) (v := ?_) rfl (by kernel_rfl) (by kernel_rfl) (by kernel_rfl) (fun _ _ _ h => h) (Or.inl ⟨by rfl, ?_⟩) (by assumption) ?_
  rotate_left
  · intro w hSw
    try dsimp only at hSw
    go_simp
    try with_reducible rfl
  try simp only [Act.put, List.setIfInBounds_toArray, List.set_cons_zero, List.set_cons_succ, List.getElem_toArray, List.getElem_cons_zero, List.getElem_cons_succ]
  refine wpAnyH_take (i := 4) (oi := _) (v := ?_) rfl (by kernel_rfl) (by kernel_rfl) (by kernel_rfl) (fun _ _ _ h => h) (Or.inl ⟨by rfl, ?_⟩) (by assumption) ?_
  rotate_left
  · intro w hSw
    try dsimp only at hSw
    go_simp
    try with_reducible rfl
  try simp only [Act.put, List.setIfInBounds_toArray, List.set_cons_zero, List.set_cons_succ, List.getElem_toArray, List.getElem_cons_zero, List.getElem_cons_succ]
  refine wpAnyH_take (i := 5) (oi := _) (v := ?_) rfl (by kernel_rfl) (by kernel_rfl) (by kernel_rfl) (fun _ _ _ h => h) (Or.inl ⟨by rfl, ?_⟩) (by assumption) ?_
  rotate_left
  · intro w hSw
    try dsimp only at hSw
    go_simp
    try with_reducible rfl
  try simp only [Act.put, List.setIfInBounds_toArray, List.set_cons_zero, List.set_cons_succ, List.getElem_toArray, List.getElem_cons_zero, List.getElem_cons_succ]
  refine wpAnyH_take (i := 6) (oi := _) (v := ?_) rfl (by kernel_rfl) (by kernel_rfl) (by kernel_rfl) (fun _ _ _ h => h) (Or.inl ⟨by rfl, ?_⟩) (by assumption) ?_
  rotate_left
  · intro w hSw
    try dsimp only at hSw
    go_simp
    try with_reducible rfl
  try simp only [Act.put, List.setIfInBounds_toArray, List.set_cons_zero, List.set_cons_succ, List.getElem_toArray, List.getElem_cons_zero, List.getElem_cons_succ]
  refine wpAnyH_take (i := 7) (oi := _) (v := ?_) rfl (by kernel_rfl) (by kernel_rfl) (by kernel_rfl) (fun _ _ _ h => h) (Or.inl ⟨by rfl, ?_⟩) (by assumption) ?_
  rotate_left
  · intro w hSw
    try dsimp only at hSw
    go_simp
    try with_reducible rfl
  try simp only [Act.put, List.setIfInBounds_toArray, List.set_cons_zero, List.set_cons_succ, List.getElem_toArray, List.getElem_cons_zero, List.getElem_cons_succ]
  refine wpAnyH_take (i := 8) (oi := _) (v := ?_) rfl (by kernel_rfl) (by kernel_rfl) (by kernel_rfl) (fun _ _ _ h => h) (Or.inl ⟨by rfl, ?_⟩) (by assumption) ?_
  rotate_left
  · intro w hSw
    try dsimp only at hSw
    go_simp
    try with_reducible rfl
  try simp only [Act.put, List.setIfInBounds_toArray, List.set_cons_zero, List.set_cons_succ, List.getElem_toArray, List.getElem_cons_zero, List.getElem_cons_succ]
  refine wpAnyH_take (i := 9) (oi := _) (v := ?_) rfl (by kernel_rfl) (by kernel_rfl) (by kernel_rfl) (fun _ _ _ h => h) (Or.inl ⟨by rfl, ?_⟩) (by assumption) ?_
  rotate_left
  · intro w hSw
    try dsimp only at hSw
    go_simp
    try with_reducible rfl
  try simp only [Act.put, List.setIfInBounds_toArray, List.set_cons_zero, List.set_cons_succ, List.getElem_toArray, List.getElem_cons_zero, List.getElem_cons_succ]
  refine wpAnyH_take (i := 10) (oi := _) (v := ?_) rfl (by kernel_rfl) (by kernel_rfl) (by kernel_rfl) (fun _ _ _ h => h) (Or.inl ⟨by rfl, ?_⟩) (by assumption) ?_
  rotate_left
  · intro w hSw
    try dsimp only at hSw
    go_simp
    try with_reducible rfl
  try simp only [Act.put, List.setIfInBounds_toArray, List.set_cons_zero, List.set_cons_succ, List.getElem_toArray, List.getElem_cons_zero, List.getElem_cons_succ]
  refine wpAnyH_take (i := 11) (oi := _) (v := ?_) rfl (by kernel_rfl) (by kernel_rfl) (by kernel_rfl) (fun _ _ _ h => h) (Or.inl ⟨by rfl, ?_⟩) (by assumption) ?_
  rotate_left
  · intro w hSw
    try dsimp only at hSw
    go_simp
    try with_reducible rfl
  try simp only [Act.put, List.setIfInBounds_toArray, List.set_cons_zero, List.set_cons_succ, List.getElem_toArray, List.getElem_cons_zero, List.getElem_cons_succ]
  refine wpAnyH_ready (rs := [12]) (by kernel_rfl) (by simp) ?_
  refine AllReadyH.cons (o := _) rfl (fun K hK => ?_) AllReadyH.nil
  go_simp
  go_at_call 39
  refine (HN.out _ (Below.refl _ _).drew).mono ?_
  rintro e w2 ⟨rfl, hb2⟩
  have hBz : Below w.heap.size w w2 := ⟨hb2.os, hb2.tape, hb2.output, hb2.size, hb2.block⟩
  go_wp2
  refine hK.out _ _ ?_ (fun hHeld => ?_)
  · exact ⟨(hBz.cell (p := ⟨q, 2, none⟩) (World.block_lt_of_cell? w _ hc2)).trans hc2, (hBz.cell (p := ⟨g, o + k, none⟩) (World.block_lt_of_cell? w _ hq)).trans hq⟩
  clear hK K
  try simp only [Act.put, List.setIfInBounds_toArray, List.set_cons_zero, List.set_cons_succ, List.getElem_toArray, List.getElem_cons_zero, List.getElem_cons_succ]
  refine wpAnyH_take (i := 13) (oi := _) (v := ?_) rfl (by kernel_rfl) (by kernel_rfl) (by kernel_rfl) (fun _ _ _ h => h) (Or.inl ⟨by rfl, ?_⟩) (by assumption) ?_
  rotate_left
  · intro w hSw
    try dsimp only at hSw
    go_simp
    try with_reducible rfl
  try simp only [Act.put, List.setIfInBounds_toArray, List.set_cons_zero, List.set_cons_succ, List.getElem_toArray, List.getElem_cons_zero, List.getElem_cons_succ]
  refine wpAnyH_done (by kernel_rfl) ?_ _
  refine NoPanic.normal ?_
  go_wp2
  go_ret
  rw [hF.out]
  exact ⟨rfl, hBz⟩
/-- up. -/
def upE (L : LState) : Int := if L.over then 17 else 0
theorem up_any (w : World) (q p : Nat) (L : LState) (v : Value) (h : LogM w q p L v) :
    Calls Tryz.prog 83 #[.pointer (some ⟨q, 0, none⟩)] w fun e w' => e = .returned (.int .i64 (upE L)) ∧ w = w' := by
  have hc0 := h.lc.c0
  have hc5 := h.lc.c5
  cases ho : L.over with
  | true =>
    have hU := Lib.hid (show upE L = 17 by unfold upE; rw [ho]; rfl)
    rw [ho] at hc5
    clear h ho
    go_enter Tryz.func83, Tryz.ntmps83
    go_wp2
    go_ret
    rw [hU.out]
    exact ⟨rfl, rfl⟩
  | false =>
    have hU := Lib.hid (show upE L = 0 by unfold upE; rw [ho]; rfl)
    rw [ho] at hc5
    clear h ho
    go_enter Tryz.func83, Tryz.ntmps83
    go_wp2
    go_ret
    rw [hU.out]
    exact ⟨rfl, rfl⟩
/-- A deed of the log: its error, and what it leaves. -/
def CPost (w : World) (Sd : Nat → Prop) (q p : Nat) (v : Value) (L' : LState) (D' : DState) (er : Int) (e : Ending) (w' : World) : Prop :=
  e = .returned (.int .i64 er) ∧ LPost w Sd q p v L' D' w'
theorem nameB_size (n : Int) (h0 : -9223372036854775808 ≤ n) (h1 : n ≤ 9223372036854775807) : (nameB n).size ≤ 140737488355328 := by
  have : (nameL n).length ≤ 22 := by
    unfold nameL
    split
    · simp
    · have := Lib.itoa_length_le n h0 h1; simp; omega
  show (nameL n).toArray.size ≤ _
  simp; omega
theorem LogW.deed {w w1 w2 : World} {Sd : Nat → Prop} {q p : Nat} {L : LState} {D D' : DState} {v : Value} {er : Int} {e : Ending} (h : LogW w Sd q p L D v) (hB : Below w.heap.size w w1) (hp : DeedPost w1 Sd p D' er e w2) : CPost w Sd q p v L D' er e w2 := by
  obtain ⟨S', rfl, hd, hs⟩ := hp
  have h1 := (h.below hB).step hd hs
  exact ⟨rfl, S', v, h1.1, (LStep.below Sd (Ow q v) hB).trans h1.2⟩
theorem eg_nx1 (args : Array Value) (w : World) : (callFunc 146 args).run Tryz.prog w = .ok (.enter 146 args) w := by kernel_rfl
theorem eg_nx2 (args : Array Value) (w : World) : (callFunc 147 args).run Tryz.prog w = .ok (.enter 147 args) w := by kernel_rfl
theorem eg_nx3 (args : Array Value) (w : World) : (callFunc 148 args).run Tryz.prog w = .ok (.enter 148 args) w := by kernel_rfl
set_option maxHeartbeats 2000000 in
theorem nx1_any (w : World) (Sd : Nat → Prop) (q p : Nat) (L : LState) (D : DState) (v : Value) (al : Nat) (h : LogW w Sd q p L D v) (hal : w.cell? ⟨al, 0, none⟩ = some (.pointer (some ⟨q, 0, none⟩))) (hal2 : ¬ Sd al ∧ ¬ Ow q v al) :
    Calls Tryz.prog 146 #[.pointer (some ⟨al, 0, none⟩)] w (CPost w Sd q p v L (nx1 L D).1 (nx1 L D).2) := by
  have hc0 := h.log.lc.c0
  have hc2 := h.log.lc.c2
  obtain ⟨A, c, ev⟩ := h.log.row.slice
  by_cases hne : L.firsts = []
  · have hR := Lib.hid (show nx1 L D = (D, 0) by unfold nx1; rw [if_pos hne])
    have hlen : L.firsts.length = 0 := by rw [hne]; rfl
    rw [hlen] at ev
    rw [ev] at hc2
    have HH := Lib.hid h
    clear h hne hlen ev
    go_enter Tryz.func146, Tryz.ntmps146
    go_wp2
    go_ret
    rw [hR.out]
    exact ⟨rfl, Sd, v, HH.out, LStep.refl _ _ _⟩
  · have hR := Lib.hid (show nx1 L D = D.sync (fileN L.firsts) by unfold nx1; rw [if_neg hne])
    have hlt : ((L.firsts.length : Int) == 0) = false := by
      have := List.length_pos_iff.2 hne
      simp; omega
    rw [ev] at hc2
    have HF := Lib.hid (fun wx (hb : Below w.heap.size w wx) => file_any wx q p L v (h.log.below hb) h.wf hne (h.laid.below hb))
    have HH := Lib.hid h
    have hqp := World.block_lt_of_cell? w _ hc0
    have hap := World.block_lt_of_cell? w _ hal
    clear h hne ev
    go_enter Tryz.func146, Tryz.ntmps146
    go_wp2
    refine wp_region_noPanic ?_
    refine wp_region_held_drew (S := (fun w' => w'.cell? ⟨al, 0, none⟩ = some (.pointer (some ⟨q, 0, none⟩)) ∧ w'.cell? ⟨q, 0, none⟩ = some (.pointer (some ⟨p, 0, none⟩)))) (by kernel_rfl) ?_ (fun hHeld => ?_)
    · exact ⟨hal, hc0⟩
    refine wpAnyH_take (i := 0) (oi := _) (v := ?_) rfl (by kernel_rfl) (by kernel_rfl) (by kernel_rfl) (fun _ _ _ h => h) (Or.inl ⟨by rfl, ?_⟩) (by assumption) ?_
    rotate_left
    · intro w hSw
      try dsimp only at hSw
      go_simp
      try with_reducible rfl
    try simp only [Act.put, List.setIfInBounds_toArray, List.set_cons_zero, List.set_cons_succ, List.getElem_toArray, List.getElem_cons_zero, List.getElem_cons_succ]
    refine wpAnyH_take (i := 1) (oi := _) (v := ?_) rfl (by kernel_rfl) (by kernel_rfl) (by kernel_rfl) (fun _ _ _ h => h) (Or.inl ⟨by rfl, ?_⟩) (by assumption) ?_
    rotate_left
    · intro w hSw
      try dsimp only at hSw
      go_simp
      try with_reducible rfl
    try simp only [Act.put, List.setIfInBounds_toArray, List.set_cons_zero, List.set_cons_succ, List.getElem_toArray, List.getElem_cons_zero, List.getElem_cons_succ]
    refine wpAnyH_take (i := 2) (oi := _) (v := ?_) rfl (by kernel_rfl) (by kernel_rfl) (by kernel_rfl) (fun _ _ _ h => h) (Or.inl ⟨by rfl, ?_⟩) (by assumption) ?_
    rotate_left
    · intro w hSw
      try dsimp only at hSw
      go_simp
      try with_reducible rfl
    try simp only [Act.put, List.setIfInBounds_toArray, List.set_cons_zero, List.set_cons_succ, List.getElem_toArray, List.getElem_cons_zero, List.getElem_cons_succ]
    refine wpAnyH_take (i := 3) (oi := _) (v := ?_) rfl (by kernel_rfl) (by kernel_rfl) (by kernel_rfl) (fun _ _ _ h => h) (Or.inl ⟨by rfl, ?_⟩) (by assumption) ?_
    rotate_left
    · intro w hSw
      try dsimp only at hSw
      go_simp
      try with_reducible rfl
    try simp only [Act.put, List.setIfInBounds_toArray, List.set_cons_zero, List.set_cons_succ, List.getElem_toArray, List.getElem_cons_zero, List.getElem_cons_succ]
    refine wpAnyH_take (i := 4) (oi := _) (v := ?_) rfl (by kernel_rfl) (by kernel_rfl) (by kernel_rfl) (fun _ _ _ h => h) (Or.inl ⟨by rfl, ?_⟩) (by assumption) ?_
    rotate_left
    · intro w hSw
      try dsimp only at hSw
      go_simp
      try with_reducible rfl
    try simp only [Act.put, List.setIfInBounds_toArray, List.set_cons_zero, List.set_cons_succ, List.getElem_toArray, List.getElem_cons_zero, List.getElem_cons_succ]
    refine wpAnyH_ready (rs := [5]) (by kernel_rfl) (by simp) ?_
    refine AllReadyH.cons (o := _) rfl (fun K hK => ?_) AllReadyH.nil
    go_simp
    go_at_call 84
    refine (HF.out _ (Below.refl _ _).drew).mono ?_
    rintro e w2 ⟨rfl, hb2⟩
    have hBz : Below w.heap.size w w2 := ⟨hb2.os, hb2.tape, hb2.output, hb2.size, hb2.block⟩
    have HS := Lib.hid (sync_any w2 Sd p D (fileN L.firsts) (HH.out.disk.below hBz))
    go_wp2
    refine hK.out _ _ ?_ (fun hHeld => ?_)
    · exact ⟨(hBz.cell (p := ⟨al, 0, none⟩) hap).trans hal, (hBz.cell (p := ⟨q, 0, none⟩) hqp).trans hc0⟩
    clear hK K
    try simp only [Act.put, List.setIfInBounds_toArray, List.set_cons_zero, List.set_cons_succ, List.getElem_toArray, List.getElem_cons_zero, List.getElem_cons_succ]
    refine wpAnyH_ready (rs := [6]) (by kernel_rfl) (by simp) ?_
    refine AllReadyH.cons (o := _) rfl (fun K hK => ?_) AllReadyH.nil
    go_simp
    go_at_call 68
    refine HS.out.mono ?_
    rintro e w3 hp
    have HP := Lib.hid (HH.out.deed hBz hp)
    obtain ⟨S', rfl, hd, hs⟩ := hp
    have hq1 := hs.kp.cell ((hBz.cell (p := ⟨al, 0, none⟩) hap).trans hal) hal2.1
    have hq2 := hs.kp.cell ((hBz.cell (p := ⟨q, 0, none⟩) hqp).trans hc0) (HH.out.apart q (.inl rfl))
    clear hd hs
    go_wp2
    refine hK.out _ _ ?_ (fun hHeld => ?_)
    · exact ⟨hq1, hq2⟩
    clear hK K
    try simp only [Act.put, List.setIfInBounds_toArray, List.set_cons_zero, List.set_cons_succ, List.getElem_toArray, List.getElem_cons_zero, List.getElem_cons_succ]
    refine wpAnyH_take (i := 7) (oi := _) (v := ?_) rfl (by kernel_rfl) (by kernel_rfl) (by kernel_rfl) (fun _ _ _ h => h) (Or.inl ⟨by rfl, ?_⟩) (by assumption) ?_
    rotate_left
    · intro w hSw
      try dsimp only at hSw
      go_simp
      try with_reducible rfl
    try simp only [Act.put, List.setIfInBounds_toArray, List.set_cons_zero, List.set_cons_succ, List.getElem_toArray, List.getElem_cons_zero, List.getElem_cons_succ]
    refine wpAnyH_done (by kernel_rfl) ?_ _
    refine NoPanic.normal ?_
    go_wp2
    go_ret
    rw [hR.out]
    exact HP.out
theorem headR_len (n : Int) (h : n ≤ 9223372036854775807) : (headR n).1.length ≤ 140737488355328 := by
  unfold headR
  split
  · simp
  · have h1 := uintB_le n.toNat (by omega)
    obtain ⟨u, hu⟩ : ∃ u, uintB n.toNat = u := ⟨_, rfl⟩
    rw [hu] at h1
    have h2 := uintB_le (0 :: u).length (by simp; omega)
    simp only [headB, frameB, hu, List.length_append, sumB_length, List.length_cons, List.length_nil] at *
    omega
theorem LState.WF.ack {L : LState} (h : L.WF) : LState.WF { L with acked := L.last } := ⟨h.last, h.last, h.firsts, h.many, h.size⟩
set_option maxHeartbeats 2000000 in
theorem nx2_any (w : World) (Sd : Nat → Prop) (q p : Nat) (L : LState) (D : DState) (v : Value) (al af : Nat) (first : Nat) (h : LogW w Sd q p L D v) (hal : w.cell? ⟨al, 0, none⟩ = some (.pointer (some ⟨q, 0, none⟩))) (hal2 : ¬ Sd al ∧ ¬ Ow q v al)
    (haf : w.cell? ⟨af, 0, none⟩ = some (.int .i64 (first : Int))) (haf2 : ¬ Sd af ∧ ¬ Ow q v af) (hfi : first ≤ 1152921504606846977) :
    Calls Tryz.prog 147 #[.pointer (some ⟨al, 0, none⟩), .pointer (some ⟨af, 0, none⟩)] w (CPost w Sd q p v { L with acked := L.last } (nx2 D first).1 (nx2 D first).2) := by
  have hc3 := h.log.lc.c3
  have hc4 := h.log.lc.c4
  have hfz := h.log.lc.fz 4
  have hset := h.set (L' := { L with acked := L.last }) 4 (.int .i64 (L.last : Int)) h.wf.ack rfl rfl
  have halq : al ≠ q := fun e => hal2.2 (.inl e)
  have hafq : af ≠ q := fun e => haf2.2 (.inl e)
  obtain ⟨W, hW⟩ : ∃ W, w.setCell ⟨q, 4, none⟩ (.int .i64 (L.last : Int)) = W := ⟨_, rfl⟩
  have hal1 := cell_set1 (u := .int .i64 (L.last : Int)) (j := 4) hal halq
  have haf1 := cell_set1 (u := .int .i64 (L.last : Int)) (j := 4) haf hafq
  have hc31 : (w.setCell ⟨q, 4, none⟩ (.int .i64 (L.last : Int))).cell? ⟨q, 3, none⟩ = some (.int .i64 (L.last : Int)) := (World.cell?_setCell_other _ _ _ _ (by simp)).trans hc3
  rw [hW] at hset hal1 haf1 hc31
  have HL := Lib.hid hset.1
  have HS := Lib.hid hset.2
  have hc0 := hset.1.log.lc.c0
  have HWe := Lib.hid hW
  have hqW := World.block_lt_of_cell? W _ hc0
  have haW := World.block_lt_of_cell? W _ hal1
  have hfW := World.block_lt_of_cell? W _ haf1
  have HAp := Lib.hid (hset.1.apart q (.inl rfl))
  clear h hset hW
  go_enter Tryz.func147, Tryz.ntmps147
  go_wp2
  refine wp_region_noPanic ?_
  refine wp_region_held_drew (S := (fun w' => w'.cell? ⟨al, 0, none⟩ = some (.pointer (some ⟨q, 0, none⟩)) ∧ w'.cell? ⟨q, 3, none⟩ = some (.int .i64 (L.last : Int)))) (by kernel_rfl) ?_ (fun hHeld => ?_)
  · exact ⟨hal, hc3⟩
  refine wpAnyH_take (i := 0) (oi := _) (v := ?_) rfl (by kernel_rfl) (by kernel_rfl) (by kernel_rfl) (fun _ _ _ h => h) (Or.inl ⟨by rfl, ?_⟩) (by assumption) ?_
  rotate_left
  · intro w hSw
    try dsimp only at hSw
    go_simp
    try with_reducible rfl
  try simp only [Act.put, List.setIfInBounds_toArray, List.set_cons_zero, List.set_cons_succ, List.getElem_toArray, List.getElem_cons_zero, List.getElem_cons_succ]
  refine wpAnyH_take (i := 1) (oi := _) (v := ?_) rfl (by kernel_rfl) (by kernel_rfl) (by kernel_rfl) (fun _ _ _ h => h) (Or.inl ⟨by rfl, ?_⟩) (by assumption) ?_
  rotate_left
  · intro w hSw
    try dsimp only at hSw
    go_simp
    try with_reducible rfl
  try simp only [Act.put, List.setIfInBounds_toArray, List.set_cons_zero, List.set_cons_succ, List.getElem_toArray, List.getElem_cons_zero, List.getElem_cons_succ]
  refine wpAnyH_take (i := 2) (oi := _) (v := ?_) rfl (by kernel_rfl) (by kernel_rfl) (by kernel_rfl) (fun _ _ _ h => h) (Or.inl ⟨by rfl, ?_⟩) (by assumption) ?_
  rotate_left
  · intro w hSw
    try dsimp only at hSw
    go_simp
    try with_reducible rfl
  try simp only [Act.put, List.setIfInBounds_toArray, List.set_cons_zero, List.set_cons_succ, List.getElem_toArray, List.getElem_cons_zero, List.getElem_cons_succ]
  refine wpAnyH_take (i := 3) (oi := _) (v := ?_) rfl (by kernel_rfl) (by kernel_rfl) (by kernel_rfl) (fun _ _ _ h => h) (Or.inl ⟨by rfl, ?_⟩) (by assumption) ?_
  rotate_left
  · intro w hSw
    try dsimp only at hSw
    go_simp
    try with_reducible rfl
  try simp only [Act.put, List.setIfInBounds_toArray, List.set_cons_zero, List.set_cons_succ, List.getElem_toArray, List.getElem_cons_zero, List.getElem_cons_succ]
  refine wpAnyH_take (i := 4) (oi := _) (v := ?_) rfl (by kernel_rfl) (by kernel_rfl) (by kernel_rfl) (fun _ _ _ h => h) (Or.inl ⟨by rfl, ?_⟩) (by assumption) ?_
  rotate_left
  · intro w hSw
    try dsimp only at hSw
    go_simp
    try with_reducible rfl
  try simp only [Act.put, List.setIfInBounds_toArray, List.set_cons_zero, List.set_cons_succ, List.getElem_toArray, List.getElem_cons_zero, List.getElem_cons_succ]
  refine wpAnyH_take (i := 5) (oi := _) (v := ?_) rfl (by kernel_rfl) (by kernel_rfl) (by kernel_rfl) (fun _ _ _ h => h) (Or.inl ⟨by rfl, ?_⟩) (by assumption) ?_
  rotate_left
  · intro w hSw
    try dsimp only at hSw
    go_simp
    try with_reducible rfl
  try simp only [Act.put, List.setIfInBounds_toArray, List.set_cons_zero, List.set_cons_succ, List.getElem_toArray, List.getElem_cons_zero, List.getElem_cons_succ]
  refine wpAnyH_take (i := 6) (oi := _) (v := ?_) rfl (by kernel_rfl) (by kernel_rfl) (by kernel_rfl) (fun _ _ _ h => h) (Or.inl ⟨by rfl, ?_⟩) (by assumption) ?_
  rotate_left
  · intro w hSw
    try dsimp only at hSw
    go_simp
    try with_reducible rfl
  try simp only [Act.put, List.setIfInBounds_toArray, List.set_cons_zero, List.set_cons_succ, List.getElem_toArray, List.getElem_cons_zero, List.getElem_cons_succ]
  refine wpAnyH_ready (rs := [7]) (by kernel_rfl) (by simp) ?_
  refine AllReadyH.cons (o := _) rfl (fun K hK => ?_) AllReadyH.nil
  go_simp
  refine hK.out _ _ ?_ (fun hHeld => ?_)
  · rw [HWe.out]
    exact ⟨hal1, hc31⟩
  clear hK K
  try simp only [Act.put, List.setIfInBounds_toArray, List.set_cons_zero, List.set_cons_succ, List.getElem_toArray, List.getElem_cons_zero, List.getElem_cons_succ]
  refine wpAnyH_done (by kernel_rfl) ?_ _
  refine NoPanic.normal ?_
  have HD : Below W.heap.size W W.drew := (Below.refl _ _).drew
  rw [HWe.out]
  clear hal haf hc3 hc4 hfz hc31 hHeld
  generalize hWd : W.drew = Wd at HD ⊢
  have hal := (HD.cell (p := ⟨al, 0, none⟩) haW).trans hal1
  have haf := (HD.cell (p := ⟨af, 0, none⟩) hfW).trans haf1
  have hcq := (HD.cell (p := ⟨q, 0, none⟩) hqW).trans hc0
  have HDd := Lib.hid HD
  clear hWd hal1 haf1 hc0 HD
  have HH := Lib.hid (head_any Wd (first : Int) (by omega) (by omega))
  go_upto_region 3 with (go_at_call 43; refine HH.out.mono ?_; rintro e w2 ⟨vh, rfl, hoh, hbh⟩; have HO := Lib.hid hoh; have HB := Lib.hid hbh; clear hoh)
  have hB2 : Below W.heap.size W w2 := HDd.out.trans (HB.out.mono HDd.out.size)
  have haD := World.block_lt_of_cell? Wd _ hal
  have hfD := World.block_lt_of_cell? Wd _ haf
  have hqD := World.block_lt_of_cell? Wd _ hcq
  have hal := (HB.out.cell (p := ⟨al, 0, none⟩) haD).trans hal
  have haf := (HB.out.cell (p := ⟨af, 0, none⟩) hfD).trans haf
  have hcq := (HB.out.cell (p := ⟨q, 0, none⟩) hqD).trans hcq
  have HN := Lib.hid (fun (wx : World) (hb : Below w2.heap.size w2 wx) => name_any wx (first : Int) ((HL.out.laid.below hB2).below hb) (by omega) (by omega))
  have hdW := Lib.hid HDd.out.size
  have ha2 := World.block_lt_of_cell? w2 _ hal
  have hf2 := World.block_lt_of_cell? w2 _ haf
  have hq2 := World.block_lt_of_cell? w2 _ hcq
  have HSd := Lib.hid (HL.out.disk.foot)
  have HB2 := Lib.hid hB2
  clear hbh hB2 haW hfW hqW haD hfD hqD
  refine wp_region_noPanic ?_
  refine wp_region_held_drew (S := (fun w' => w'.cell? ⟨al, 0, none⟩ = some (.pointer (some ⟨q, 0, none⟩)) ∧ w'.cell? ⟨af, 0, none⟩ = some (.int .i64 (first : Int)) ∧ w'.cell? ⟨q, 0, none⟩ = some (.pointer (some ⟨p, 0, none⟩)))) (by kernel_rfl) ?_ (fun hHeld => ?_)
  · exact ⟨hal, haf, hcq⟩
  refine wpAnyH_take (i := 0) (oi := _) (v := ?_) rfl (by kernel_rfl) (by kernel_rfl) (by kernel_rfl) (fun _ _ _ h => h) (Or.inl ⟨by rfl, ?_⟩) (by assumption) ?_
  rotate_left
  · intro w hSw
    try dsimp only at hSw
    go_simp
    try with_reducible rfl
  try simp only [Act.put, List.setIfInBounds_toArray, List.set_cons_zero, List.set_cons_succ, List.getElem_toArray, List.getElem_cons_zero, List.getElem_cons_succ]
  refine wpAnyH_take (i := 1) (oi := _) (v := ?_) rfl (by kernel_rfl) (by kernel_rfl) (by kernel_rfl) (fun _ _ _ h => h) (Or.inl ⟨by rfl, ?_⟩) (by assumption) ?_
  rotate_left
  · intro w hSw
    try dsimp only at hSw
    go_simp
    try with_reducible rfl
  try simp only [Act.put, List.setIfInBounds_toArray, List.set_cons_zero, List.set_cons_succ, List.getElem_toArray, List.getElem_cons_zero, List.getElem_cons_succ]
  refine wpAnyH_take (i := 2) (oi := _) (v := ?_) rfl (by kernel_rfl) (by kernel_rfl) (by kernel_rfl) (fun _ _ _ h => h) (Or.inl ⟨by rfl, ?_⟩) (by assumption) ?_
  rotate_left
  · intro w hSw
    try dsimp only at hSw
    go_simp
    try with_reducible rfl
  try simp only [Act.put, List.setIfInBounds_toArray, List.set_cons_zero, List.set_cons_succ, List.getElem_toArray, List.getElem_cons_zero, List.getElem_cons_succ]
  refine wpAnyH_take (i := 3) (oi := _) (v := ?_) rfl (by kernel_rfl) (by kernel_rfl) (by kernel_rfl) (fun _ _ _ h => h) (Or.inl ⟨by rfl, ?_⟩) (by assumption) ?_
  rotate_left
  · intro w hSw
    try dsimp only at hSw
    go_simp
    try with_reducible rfl
  try simp only [Act.put, List.setIfInBounds_toArray, List.set_cons_zero, List.set_cons_succ, List.getElem_toArray, List.getElem_cons_zero, List.getElem_cons_succ]
  refine wpAnyH_take (i := 4) (oi := _) (v := ?_) rfl (by kernel_rfl) (by kernel_rfl) (by kernel_rfl) (fun _ _ _ h => h) (Or.inl ⟨by rfl, ?_⟩) (by assumption) ?_
  rotate_left
  · intro w hSw
    try dsimp only at hSw
    go_simp
    try with_reducible rfl
  try simp only [Act.put, List.setIfInBounds_toArray, List.set_cons_zero, List.set_cons_succ, List.getElem_toArray, List.getElem_cons_zero, List.getElem_cons_succ]
  refine wpAnyH_take (i := 6) (oi := _) (v := ?_) rfl (by kernel_rfl) (by kernel_rfl) (by kernel_rfl) (fun _ _ _ h => h) (Or.inl ⟨by rfl, ?_⟩) (by assumption) ?_
  rotate_left
  · intro w hSw
    try dsimp only at hSw
    go_simp
    try with_reducible rfl
  try simp only [Act.put, List.setIfInBounds_toArray, List.set_cons_zero, List.set_cons_succ, List.getElem_toArray, List.getElem_cons_zero, List.getElem_cons_succ]
  refine wpAnyH_ready (rs := [5]) (by kernel_rfl) (by simp) ?_
  refine AllReadyH.cons (o := _) rfl (fun K hK => ?_) AllReadyH.nil
  go_simp
  go_at_call 39
  refine (HN.out _ (Below.refl _ _).drew).mono ?_
  rintro e w3 ⟨rfl, hb3⟩
  have hBz : Below w2.heap.size w2 w3 := ⟨hb3.os, hb3.tape, hb3.output, hb3.size, hb3.block⟩
  have hB3 : Below W.heap.size W w3 := HB2.out.trans (hBz.mono HB2.out.size)
  have HA := Lib.hid (append_any w3 Sd Sd p D (nameB (first : Int)) vh (headR (first : Int)).1 (HL.out.disk.below hB3) ((RdB.ofOwn HO.out (fun b hb => by have := HSd.out b hb; have := hdW.out; omega)).below hBz (fun _ h => .inl h)) (nameB_size _ (by omega) (by omega)) (headR_len _ (by omega)))
  have HB3 := Lib.hid hB3
  have hq3 := (hBz.cell (p := ⟨al, 0, none⟩) ha2).trans hal
  have hq4 := (hBz.cell (p := ⟨af, 0, none⟩) hf2).trans haf
  have hq5 := (hBz.cell (p := ⟨q, 0, none⟩) hq2).trans hcq
  clear hB3 hb3
  go_wp2
  refine hK.out _ _ ?_ (fun hHeld => ?_)
  · exact ⟨hq3, hq4, hq5⟩
  clear hK K
  try simp only [Act.put, List.setIfInBounds_toArray, List.set_cons_zero, List.set_cons_succ, List.getElem_toArray, List.getElem_cons_zero, List.getElem_cons_succ]
  refine wpAnyH_ready (rs := [7]) (by kernel_rfl) (by simp) ?_
  refine AllReadyH.cons (o := _) rfl (fun K hK => ?_) AllReadyH.nil
  go_simp
  go_at_call 63
  refine HA.out.mono ?_
  rintro e w4 hp
  have HP := Lib.hid (HL.out.deed HB3.out hp)
  obtain ⟨S', rfl, hd, hs⟩ := hp
  have hq6 := hs.kp.cell hq3 hal2.1
  have hq7 := hs.kp.cell hq4 haf2.1
  have hq8 := hs.kp.cell hq5 HAp.out
  clear hd hs
  go_wp2
  refine hK.out _ _ ?_ (fun hHeld => ?_)
  · exact ⟨hq6, hq7, hq8⟩
  clear hK K
  try simp only [Act.put, List.setIfInBounds_toArray, List.set_cons_zero, List.set_cons_succ, List.getElem_toArray, List.getElem_cons_zero, List.getElem_cons_succ]
  refine wpAnyH_take (i := 8) (oi := _) (v := ?_) rfl (by kernel_rfl) (by kernel_rfl) (by kernel_rfl) (fun _ _ _ h => h) (Or.inl ⟨by rfl, ?_⟩) (by assumption) ?_
  rotate_left
  · intro w hSw
    try dsimp only at hSw
    go_simp
    try with_reducible rfl
  try simp only [Act.put, List.setIfInBounds_toArray, List.set_cons_zero, List.set_cons_succ, List.getElem_toArray, List.getElem_cons_zero, List.getElem_cons_succ]
  refine wpAnyH_done (by kernel_rfl) ?_ _
  refine NoPanic.normal ?_
  go_wp2
  go_ret
  exact ⟨HP.out.1, LPost.trans HS.out HP.out.2⟩
end Go.Proofs.YtohpgipgfmkflaaGreatDoor
namespace Go.Proofs.YtohpgipgfmkflaaGreatDoor
set_option linter.unusedSectionVars false
variable [Base]
open Go.RowKit
set_option maxRecDepth 100000
set_option linter.unusedVariables false
set_option linter.unusedSimpArgs false
attribute [local go_sem ↓] Go.wp_at_zero Go.wp_at_succ

structure AppF (w : World) (q p : Nat) (L : LState) (v : Value) (first : Nat) (v' : Value) (w' : World) : Prop where
  cell : w'.cell? ⟨q, 2, none⟩ = some v
  frz : w'.frozen? ⟨q, 2, none⟩ = false
  kp : Kp (fun b => v.ownBlock = some b) w w'
  log : LogM (w'.setCell ⟨q, 2, none⟩ v') q p { L with firsts := L.firsts ++ [first] } v'
  own : ∀ b, v'.ownBlock = some b → Ow q v b ∨ w.heap.size ≤ b
theorem setCells_one (w : World) (b k : Nat) (v : Value) : w.setCells b k [v] = w.setCell ⟨b, k, none⟩ v := by simp [World.setCells]
theorem append_row (w : World) (v : Value) (l : List Nat) (ty : TypeId) (first : Nat) (ad : Addr) (h : RowI w v l) (hm : l.length < 1000000) (hn1 : ∀ (j : Nat) (u : Value), [Value.int .i64 (first : Int)][j]? = some u → w.cell? (ad.add j) = some u) :
    ∃ A c w', (Builtin.append_ #[25, 25] ty #[v, .slice (some ad) 1 1]).run Tryz.prog w = .ok (.slice A (l.length + 1) c) w' ∧ RowI w' (.slice A (l.length + 1) c) (l ++ [first]) ∧ w.grownBy w' v.ownBlock ∧ ((Value.slice A (l.length + 1) c).ownBlock = v.ownBlock ∨ ∃ b, (Value.slice A (l.length + 1) c).ownBlock = some b ∧ w.heap.size ≤ b) := by
  obtain ⟨i0, hi, hz0, hz1, hz2⟩ := info_parts infoI
  have h1 : ∀ u ∈ [Value.int .i64 (first : Int)], u.oneCell' = true := by intro u hu; simp at hu; subst hu; rfl
  rcases h with ⟨rfl, rfl⟩ | ⟨g, o, c, cur, rfl, hg, h2, h3, h4, h5⟩
  · obtain ⟨v', w', hr, ho, hgr, _, hf⟩ := run_append_own_at (P := Tryz.prog) w w.heap.size 25 ty 3 i0 (.int .i64 0) 1 8 Tryz.underlying25 hi hz0 hz1 hz2 rfl (by decide) (.slice none 0 0) 0 [] (World.ownsRow_nil _ _ _ _) ad 1 1 [.int .i64 (first : Int)] rfl hn1 h1 (by simp only [maxLen]; omega) (by omega) (Nat.le_refl _)
    obtain ⟨A, c, rfl⟩ := own_slice ho
    refine ⟨A, c, w', hr, ?_, hgr, hf.imp id (fun h => ⟨_, h, Nat.le_refl _⟩)⟩
    exact RowI.ofOwn (n := 1) (l := [first]) ho
  · by_cases hroom : l.length + 1 ≤ c
    · have hcell : w.cell? ⟨g, o + l.length * i0.size, none⟩ = some (cur[o + l.length]'(by omega)) := by
        rw [hz1, Nat.mul_one, cell_row hg, Array.getElem?_eq_getElem (by omega)]
      have hr := run_append_room_cells (P := Tryz.prog) w 25 ty 3 i0 Tryz.underlying25 hi g o l.length c ad 1 1 [.int .i64 (first : Int)] (by rw [hz1]; rfl) hn1 h1 hroom
        (by intro j hj; obtain rfl : j = 0 := by simpa using hj
            rw [Nat.add_zero, hcell]; rfl)
        (by intro j hj; simp [World.frozen?, hg])
      refine ⟨_, c, _, hr, ?_, ?_, .inl rfl⟩
      · rw [hz1, Nat.mul_one, setCells_one]
        refine .inr ⟨g, o, c, cur.setIfInBounds (o + l.length) (.int .i64 (first : Int)), by simp, heap_setCell_cells w g _ cur _ _ hg, by simp; omega, h3, by simp; omega, fun j hj => ?_⟩
        rw [Array.getElem?_setIfInBounds]
        by_cases hj2 : j < l.length
        · rw [if_neg (by omega), h5 j hj2, List.getElem_append_left hj2]
        · have : j = l.length := by simp at hj; omega
          subst this
          rw [if_pos rfl, if_pos (by omega)]
          simp
      · rw [hz1, Nat.mul_one, setCells_one]
        exact ⟨rfl, rfl, rfl, by simp [World.setCell], fun k hk hn => Below.heap_setCell w _ _ k (fun e => hn (by rw [e]; rfl))⟩
    · obtain ⟨v', w', hr, ho, hgr⟩ := run_append_arg_grows (P := Tryz.prog) w 25 ty 3 i0 (.int .i64 0) 1 8 Tryz.underlying25 hi hz0 hz1 hz2 rfl (by decide) ⟨g, o, none⟩ l.length c (iv l) (by simp [iv_length])
        (by intro j u hj
            have hjl : j < l.length := by have := (List.getElem?_eq_some_iff.1 hj).1; simpa [iv_length] using this
            rw [addr_add, cell_row hg, h5 j hjl, ← hj, iv_get l j hjl])
        ad 1 1 [.int .i64 (first : Int)] rfl hn1 (by omega) (by simp only [maxLen]; omega) (by omega)
      obtain ⟨A, c', rfl⟩ := own_slice ho
      have ho2 : w'.ownsRow w.heap.size 3 1 (.slice A (l.length + 1) c') (l.length + 1) (iv (l ++ [first])) := by rw [iv_append]; exact ho
      refine ⟨A, c', w', hr, RowI.ofOwn ho2, ⟨hgr.os, hgr.tape, hgr.output, hgr.size, fun k hk _ => hgr.block k hk (by simp)⟩, .inr ?_⟩
      rcases ho.2 with ⟨_, h0⟩ | ⟨g', cap, cur', e, hb, _⟩
      · omega
      · exact ⟨g', by rw [e]; rfl, hb⟩
theorem append_first (w : World) (q p : Nat) (L : LState) (v : Value) (first : Nat) (ty : TypeId) (h : LogM w q p L v) (hm : L.firsts.length < 1000000) :
    ∃ A c w', (Builtin.append_ #[25, 25] ty #[v, .slice (some ⟨w.heap.size, 0, none⟩) 1 1]).run Tryz.prog (w.alloc (.cells #[.int .i64 (first : Int)] 3)).drew = .ok (.slice A (L.firsts.length + 1) c) w' ∧ AppF w q p L v first (.slice A (L.firsts.length + 1) c) w' := by
  have hB : Below w.heap.size w (w.alloc (.cells #[.int .i64 (first : Int)] 3)).drew := ((Below.refl _ _).alloc (Nat.le_refl _) _).drew
  have hl := h.below hB
  obtain ⟨A, c, w', hr, ho, hg, hf⟩ := append_row (w.alloc (.cells #[.int .i64 (first : Int)] 3)).drew v L.firsts ty first ⟨w.heap.size, 0, none⟩ hl.row hm (cell_one_new w _ _)
  refine ⟨A, c, w', hr, ?_⟩
  have hK : Kp (fun b => v.ownBlock = some b) w w' := (Kp.ofBelow hB _).grown hg (fun k hk => .inl hk)
  have hown : ∀ b, (Value.slice A (L.firsts.length + 1) c).ownBlock = some b → Ow q v b ∨ w.heap.size ≤ b := by
    intro b hb
    rcases hf with hf | hf
    · exact .inl (.inr (hf ▸ hb))
    · obtain ⟨b', hf, hle⟩ := hf
      rw [hf] at hb
      injection hb with hb
      exact .inr (by rw [← hb]; simp at hle; omega)
  have hqn : v.ownBlock ≠ some q := h.ne
  have hqv : (Value.slice A (L.firsts.length + 1) c).ownBlock ≠ some q := by
    intro e
    rcases hf with hf | hf
    · exact hqn (hf ▸ e)
    · obtain ⟨b', hf, hle⟩ := hf
      rw [hf] at e
      injection e with e
      have := h.foot q (.inl rfl)
      simp at hle
      omega
  have hb := hK.blk h.blk (fun e => hqn e)
  refine ⟨cell_row hb 2, frozen_of_row _ _ _ _ _ hb, hK, ⟨?_, ?_⟩, hown⟩
  · rw [heap_setCell_cells w' q 2 _ _ _ hb]
    rfl
  · exact ho.kp (S := fun b => b = q) ((Kp.refl (fun b => b = q) w').setCell (p := ⟨q, 2, none⟩) (.inl rfl) _) (fun b hb e => hqv (by rw [hb, e]))
theorem LState.WF.grow {L : LState} (h : L.WF) (first : Nat) (hf : first ≤ 1152921504606846976) (hm : L.firsts.length < 1000000) : LState.WF { L with firsts := L.firsts ++ [first] } :=
  ⟨h.last, h.acked, fun n hn => (List.mem_append.1 (show n ∈ L.firsts ++ [first] from hn)).elim (h.firsts n) (fun h1 => (List.mem_singleton.1 h1).symm ▸ hf), by simp; omega, h.size⟩
set_option maxHeartbeats 2000000 in
theorem nx3_any (w : World) (Sd : Nat → Prop) (q p : Nat) (L : LState) (D : DState) (v : Value) (al af : Nat) (first : Nat) (h : LogW w Sd q p L D v) (hal : w.cell? ⟨al, 0, none⟩ = some (.pointer (some ⟨q, 0, none⟩))) (hal2 : ¬ Sd al ∧ ¬ Ow q v al)
    (haf : w.cell? ⟨af, 0, none⟩ = some (.int .i64 (first : Int))) (haf2 : ¬ Sd af ∧ ¬ Ow q v af) (hfi : first ≤ 1152921504606846976) (hm : L.firsts.length < 1000000) :
    Calls Tryz.prog 148 #[.pointer (some ⟨al, 0, none⟩), .pointer (some ⟨af, 0, none⟩)] w (CPost w Sd q p v { L with firsts := L.firsts ++ [first] } D 0) := by
  have hc2 := h.log.lc.c2
  obtain ⟨A, c, w1, hrun, hF⟩ := append_first w q p L v first 25 h.log hm
  have HF := Lib.hid hF
  have HH := Lib.hid h
  have HM := Lib.hid hm
  have halq : al ≠ q := fun e => hal2.2 (.inl e)
  have hafq : af ≠ q := fun e => haf2.2 (.inl e)
  have hq1 := hF.cell
  have hq2 := hF.frz
  have hq3 := hF.kp.cell hal (fun e => hal2.2 (.inr e))
  have hq4 := hF.kp.cell haf (fun e => haf2.2 (.inr e))
  have HR := Lib.hid hrun
  clear h hrun hF hm
  go_enter Tryz.func148, Tryz.ntmps148
  go_wp2
  refine wp_region_noPanic ?_
  refine wp_region_held_drew (S := (fun w' => w'.cell? ⟨al, 0, none⟩ = some (.pointer (some ⟨q, 0, none⟩)) ∧ w'.cell? ⟨af, 0, none⟩ = some (.int .i64 (first : Int)))) (by kernel_rfl) ?_ (fun hHeld => ?_)
  · exact ⟨hal, haf⟩
  refine wpAnyH_take (i := 0) (oi := _) (v := ?_) rfl (by kernel_rfl) (by kernel_rfl) (by kernel_rfl) (fun _ _ _ h => h) (Or.inl ⟨by rfl, ?_⟩) (by assumption) ?_
  rotate_left
  · intro w hSw
    try dsimp only at hSw
    go_simp
    try with_reducible rfl
  try simp only [Act.put, List.setIfInBounds_toArray, List.set_cons_zero, List.set_cons_succ, List.getElem_toArray, List.getElem_cons_zero, List.getElem_cons_succ]
  refine wpAnyH_take (i := 1) (oi := _) (v := ?_) rfl (by kernel_rfl) (by kernel_rfl) (by kernel_rfl) (fun _ _ _ h => h) (Or.inl ⟨by rfl, ?_⟩) (by assumption) ?_
  rotate_left
  · intro w hSw
    try dsimp only at hSw
    go_simp
    try with_reducible rfl
  try simp only [Act.put, List.setIfInBounds_toArray, List.set_cons_zero, List.set_cons_succ, List.getElem_toArray, List.getElem_cons_zero, List.getElem_cons_succ]
  refine wpAnyH_take (i := 2) (oi := _) (v := ?_) rfl (by kernel_rfl) (by kernel_rfl) (by kernel_rfl) (fun _ _ _ h => h) (Or.inl ⟨by rfl, ?_⟩) (by assumption) ?_
  rotate_left
  · intro w hSw
    try dsimp only at hSw
    go_simp
    try with_reducible rfl
  try simp only [Act.put, List.setIfInBounds_toArray, List.set_cons_zero, List.set_cons_succ, List.getElem_toArray, List.getElem_cons_zero, List.getElem_cons_succ]
  refine wpAnyH_take (i := 3) (oi := _) (v := ?_) rfl (by kernel_rfl) (by kernel_rfl) (by kernel_rfl) (fun _ _ _ h => h) (Or.inl ⟨by rfl, ?_⟩) (by assumption) ?_
  rotate_left
  · intro w hSw
    try dsimp only at hSw
    go_simp
    try with_reducible rfl
  try simp only [Act.put, List.setIfInBounds_toArray, List.set_cons_zero, List.set_cons_succ, List.getElem_toArray, List.getElem_cons_zero, List.getElem_cons_succ]
  refine wpAnyH_take (i := 5) (oi := _) (v := ?_) rfl (by kernel_rfl) (by kernel_rfl) (by kernel_rfl) (fun _ _ _ h => h) (Or.inl ⟨by rfl, ?_⟩) (by assumption) ?_
  rotate_left
  · intro w hSw
    try dsimp only at hSw
    go_simp
    try with_reducible rfl
  try simp only [Act.put, List.setIfInBounds_toArray, List.set_cons_zero, List.set_cons_succ, List.getElem_toArray, List.getElem_cons_zero, List.getElem_cons_succ]
  refine wpAnyH_ready (rs := [4, 6]) (by kernel_rfl) (by simp) ?_
  refine AllReadyH.cons (o := _) rfl (fun K hK => ?_) (AllReadyH.cons (o := _) rfl (fun K hK => ?_) AllReadyH.nil)
  · go_simp
    refine hK.out _ _ ?_ (fun hHeld => ?_)
    · exact ⟨hal, haf⟩
    clear hK K
    try simp only [Act.put, List.setIfInBounds_toArray, List.set_cons_zero, List.set_cons_succ, List.getElem_toArray, List.getElem_cons_zero, List.getElem_cons_succ]
    refine wpAnyH_ready (rs := [6]) (by kernel_rfl) (by simp) ?_
    refine AllReadyH.cons (o := _) rfl (fun K hK => ?_) AllReadyH.nil
    go_simp
    refine hK.out _ _ ?_ (fun hHeld => ?_)
    · exact ⟨cell_alloc hal _, cell_alloc haf _⟩
    clear hK K
    try simp only [Act.put, List.setIfInBounds_toArray, List.set_cons_zero, List.set_cons_succ, List.getElem_toArray, List.getElem_cons_zero, List.getElem_cons_succ]
    refine wpAnyH_ready (rs := [7]) (by kernel_rfl) (by simp) ?_
    refine AllReadyH.cons (o := _) rfl (fun K hK => ?_) AllReadyH.nil
    refine step_append_run rfl (.tmp 7) (.tmp 9) 25 25 rfl _ _ (by rfl) (by rfl) HR.out ?_
    refine hK.out _ _ ?_ (fun hHeld => ?_)
    · exact ⟨hq3, hq4⟩
    clear hK K
    try simp only [Act.put, List.setIfInBounds_toArray, List.set_cons_zero, List.set_cons_succ, List.getElem_toArray, List.getElem_cons_zero, List.getElem_cons_succ]
    refine wpAnyH_take (i := 8) (oi := _) (v := ?_) rfl (by kernel_rfl) (by kernel_rfl) (by kernel_rfl) (fun _ _ _ h => h) (Or.inl ⟨by rfl, ?_⟩) (by assumption) ?_
    rotate_left
    · intro w hSw
      try dsimp only at hSw
      go_simp
      try with_reducible rfl
    try simp only [Act.put, List.setIfInBounds_toArray, List.set_cons_zero, List.set_cons_succ, List.getElem_toArray, List.getElem_cons_zero, List.getElem_cons_succ]
    refine wpAnyH_take (i := 9) (oi := _) (v := ?_) rfl (by kernel_rfl) (by kernel_rfl) (by kernel_rfl) (fun _ _ _ h => h) (Or.inl ⟨by rfl, ?_⟩) (by assumption) ?_
    rotate_left
    · intro w hSw
      try dsimp only at hSw
      go_simp
      try with_reducible rfl
    try simp only [Act.put, List.setIfInBounds_toArray, List.set_cons_zero, List.set_cons_succ, List.getElem_toArray, List.getElem_cons_zero, List.getElem_cons_succ]
    refine wpAnyH_ready (rs := [10]) (by kernel_rfl) (by simp) ?_
    refine AllReadyH.cons (o := _) rfl (fun K hK => ?_) AllReadyH.nil
    go_simp
    refine hK.out _ _ ?_ (fun hHeld => ?_)
    · exact ⟨cell_set1 hq3 halq, cell_set1 hq4 hafq⟩
    clear hK K
    try simp only [Act.put, List.setIfInBounds_toArray, List.set_cons_zero, List.set_cons_succ, List.getElem_toArray, List.getElem_cons_zero, List.getElem_cons_succ]
    refine wpAnyH_done (by kernel_rfl) ?_ _
    refine NoPanic.normal ?_
    go_wp2
    go_ret
    have hwo := HH.out.own HF.out.log (HH.out.wf.grow first hfi HM.out) ((HF.out.kp.mono (fun _ h => .inr h)).setCell (.inl (.inl rfl)) _) HF.out.own
    exact ⟨rfl, Sd, _, hwo.1, hwo.2⟩
  · go_simp
    refine hK.out _ _ ?_ (fun hHeld => ?_)
    · exact ⟨cell_alloc hal _, cell_alloc haf _⟩
    clear hK K
    try simp only [Act.put, List.setIfInBounds_toArray, List.set_cons_zero, List.set_cons_succ, List.getElem_toArray, List.getElem_cons_zero, List.getElem_cons_succ]
    have hc2a := cell_alloc hc2 (.cells #[.int .i64 (first : Int)] 3)
    refine wpAnyH_ready (rs := [4]) (by kernel_rfl) (by simp) ?_
    refine AllReadyH.cons (o := _) rfl (fun K hK => ?_) AllReadyH.nil
    go_simp
    refine hK.out _ _ ?_ (fun hHeld => ?_)
    · exact ⟨cell_alloc hal _, cell_alloc haf _⟩
    clear hK K
    try simp only [Act.put, List.setIfInBounds_toArray, List.set_cons_zero, List.set_cons_succ, List.getElem_toArray, List.getElem_cons_zero, List.getElem_cons_succ]
    refine wpAnyH_ready (rs := [7]) (by kernel_rfl) (by simp) ?_
    refine AllReadyH.cons (o := _) rfl (fun K hK => ?_) AllReadyH.nil
    refine step_append_run rfl (.tmp 7) (.tmp 9) 25 25 rfl _ _ (by rfl) (by rfl) HR.out ?_
    refine hK.out _ _ ?_ (fun hHeld => ?_)
    · exact ⟨hq3, hq4⟩
    clear hK K
    try simp only [Act.put, List.setIfInBounds_toArray, List.set_cons_zero, List.set_cons_succ, List.getElem_toArray, List.getElem_cons_zero, List.getElem_cons_succ]
    refine wpAnyH_take (i := 8) (oi := _) (v := ?_) rfl (by kernel_rfl) (by kernel_rfl) (by kernel_rfl) (fun _ _ _ h => h) (Or.inl ⟨by rfl, ?_⟩) (by assumption) ?_
    rotate_left
    · intro w hSw
      try dsimp only at hSw
      go_simp
      try with_reducible rfl
    try simp only [Act.put, List.setIfInBounds_toArray, List.set_cons_zero, List.set_cons_succ, List.getElem_toArray, List.getElem_cons_zero, List.getElem_cons_succ]
    refine wpAnyH_take (i := 9) (oi := _) (v := ?_) rfl (by kernel_rfl) (by kernel_rfl) (by kernel_rfl) (fun _ _ _ h => h) (Or.inl ⟨by rfl, ?_⟩) (by assumption) ?_
    rotate_left
    · intro w hSw
      try dsimp only at hSw
      go_simp
      try with_reducible rfl
    try simp only [Act.put, List.setIfInBounds_toArray, List.set_cons_zero, List.set_cons_succ, List.getElem_toArray, List.getElem_cons_zero, List.getElem_cons_succ]
    refine wpAnyH_ready (rs := [10]) (by kernel_rfl) (by simp) ?_
    refine AllReadyH.cons (o := _) rfl (fun K hK => ?_) AllReadyH.nil
    go_simp
    refine hK.out _ _ ?_ (fun hHeld => ?_)
    · exact ⟨cell_set1 hq3 halq, cell_set1 hq4 hafq⟩
    clear hK K
    try simp only [Act.put, List.setIfInBounds_toArray, List.set_cons_zero, List.set_cons_succ, List.getElem_toArray, List.getElem_cons_zero, List.getElem_cons_succ]
    refine wpAnyH_done (by kernel_rfl) ?_ _
    refine NoPanic.normal ?_
    go_wp2
    go_ret
    have hwo := HH.out.own HF.out.log (HH.out.wf.grow first hfi HM.out) ((HF.out.kp.mono (fun _ h => .inr h)).setCell (.inl (.inl rfl)) _) HF.out.own
    exact ⟨rfl, Sd, _, hwo.1, hwo.2⟩
theorem LState.WF.nexts1 {L : LState} (h : L.WF) : LState.WF { L with acked := L.last } := h.ack
/-- The deed's post as all asks it. -/
theorem CPost.all {w : World} {Sd : Nat → Prop} {q p h : Nat} {v : Value} {L' : LState} {D' : DState} {er : Int} {e : Ending} {w1 : World} {R : Int → World → Prop} {ks : List (Nat × Array Value)} (hc : CPost w Sd q p v L' D' er e w1) (hh : ¬ Sd h ∧ ¬ Ow q v h) (hw : h < w.heap.size)
    (hno : er ≠ 0 → ∀ w2, LPost w Sd q p v L'.ended D' w2 → R er w2) (hyes : er = 0 → ∀ Sd' v', LogW w1 Sd' q p L' D' v' → LStep Sd (Ow q v) Sd' (Ow q v') w w1 → AllW q h R ks w1) :
    ∃ er : Int, e = .returned (.int .i64 er) ∧ w1.heap[h]? = w.heap[h]? ∧ (∃ b, w1.cell? ⟨q, 5, none⟩ = some (.bool b)) ∧ w1.frozen? ⟨q, 5, none⟩ = false ∧ (er ≠ 0 → R er (w1.setCell ⟨q, 5, none⟩ (.bool true))) ∧ (er = 0 → AllW q h R ks w1) := by
  obtain ⟨rfl, Sd', v', hl, hs⟩ := hc
  refine ⟨er, rfl, hs.kp.block h hw (fun hb => hb.elim hh.1 hh.2), ⟨_, hl.log.lc.c5⟩, hl.log.lc.fz 5, fun hne => hno hne _ ?_, fun he => hyes he Sd' v' hl hs⟩
  have h2 := hl.set (L' := L'.ended) 5 (.bool true) hl.wf.ended rfl rfl
  exact ⟨Sd', v', h2.1, hs.trans h2.2⟩
end Go.Proofs.YtohpgipgfmkflaaGreatDoor
