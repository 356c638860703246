/- Contracts of the disk: named, New, Used, look, Size, Synced. Contracts of the disk: New, Used, look, Size, Synced, Read, List. Contracts of the disk: deed, Read. The disk's row of files turned: by a new row, in one field; what the deeds keep. Contracts of the disk: Append. Contracts of the disk: Append's deed on a new file. -/
import Derived.Test.YtohpgipgfmkflaaGreatDoorMa
namespace Go.Proofs.YtohpgipgfmkflaaGreatDoor
set_option linter.unusedSectionVars false
variable [Base]
open Go.RowKit
set_option maxRecDepth 100000
set_option linter.unusedVariables false
set_option linter.unusedSimpArgs false
attribute [local go_sem ↓] Go.wp_at_zero Go.wp_at_succ

def NamedI (s : ByteArray) (k : Nat) : Prop := ∀ j, (h : j < s.size) → j < k → dirB s[j] = true
theorem NamedI.step {s : ByteArray} {k : Nat} (h : NamedI s k) (hk : k < s.size) (hd : dirB s[k] = true) : NamedI s (k + 1) := by
  intro j hj hjk
  rcases Nat.lt_or_ge j k with h1 | h1
  · exact h j hj h1
  · obtain rfl : j = k := by omega
    exact hd
theorem namedB_eq {s : ByteArray} (h : NamedI s s.size) : namedB s = (decide (0 < s.size) && decide (s.size ≤ 60)) := by
  unfold namedB
  have : s.data.toList.all dirB = true := by
    rw [List.all_eq_true]
    intro x hx
    obtain ⟨i, hi, rfl⟩ := List.mem_iff_getElem.1 hx
    have hi' : i < s.size := by simpa using hi
    exact h i hi' hi'
  rw [this]; simp
theorem namedB_no {s : ByteArray} {k : Nat} (hk : k < s.size) (hd : dirB s[k] = false) : namedB s = false := by
  unfold namedB
  have : s.data.toList.all dirB = false := by
    rw [List.all_eq_false]
    exact ⟨s[k], by simp [ByteArray.getElem_eq_getElem_data], by simp [hd]⟩
  rw [this]; simp
set_option maxHeartbeats 4000000 in
theorem named_any (s : ByteArray) (w : World) (hs : s.size ≤ 140737488355328) : Calls Tryz.prog 122 #[.string s] w fun e w' => e = .returned (.bool (namedB s)) ∧ w = w' := by
  go_enter Tryz.func122, Tryz.ntmps122
  go_wp2
  go_loop [3, 4, 5, 6, 9] (fun a b c d i => ∃ k : Nat, k ≤ s.size ∧ i = .int .i64 k ∧ NamedI s k) (fun a b c d i => s.size - (intOf i).toNat)
  case atStart => exact ⟨0, Nat.zero_le _, rfl, fun j _ h => absurd h (by omega)⟩
  case round =>
    obtain ⟨k, hk, rfl, hI⟩ := hrel
    have HI := Lib.hid hI
    clear hI
    by_cases hlt : k < s.size
    · have hb : s[k].toNat < 256 := UInt8.toNat_lt _
      by_cases hd : dirB s[k] = true
      · have HD := Lib.hid hd
        have hcase : (97 ≤ (s[k].toNat : Int) ∧ (s[k].toNat : Int) ≤ 122) ∨ (48 ≤ (s[k].toNat : Int) ∧ (s[k].toNat : Int) ≤ 57) ∨ ((s[k].toNat : Int) < 48 ∧ ((s[k].toNat : Int) != 46) = false) ∨ ((s[k].toNat : Int) < 48 ∧ ((s[k].toNat : Int) != 46) = true ∧ ((s[k].toNat : Int) != 45) = false) := by
          simp only [dirB, Bool.or_eq_true, Bool.and_eq_true, decide_eq_true_eq, beq_iff_eq] at hd
          rcases hd with ((h | h) | h) | h
          · left; omega
          · right; left; omega
          · right; right; left; simp; omega
          · right; right; right; simp; omega
        clear hd
        rcases hcase with ⟨h1, h2⟩ | ⟨h1, h2⟩ | ⟨h1, h2⟩ | ⟨h1, h2, h3⟩
        all_goals
          go_wp2
          all_goals
            go_round
            case rel => exact ⟨k + 1, by omega, by go_num, HI.out.step hlt HD.out⟩
            case measure => simp [intOf]; omega
      · have hd' : dirB s[k] = false := by simpa using hd
        have HE := Lib.hid (namedB_no hlt hd')
        clear hd
        have hcase : ((122 < (s[k].toNat : Int)) ∨ (57 < (s[k].toNat : Int) ∧ (s[k].toNat : Int) < 97) ∨ (s[k].toNat : Int) < 48) ∧ ((s[k].toNat : Int) != 46) = true ∧ ((s[k].toNat : Int) != 45) = true := by
          simp only [dirB, Bool.or_eq_false_iff, Bool.and_eq_false_iff, decide_eq_false_iff_not, beq_eq_false_iff_ne] at hd'
          simp
          omega
        clear hd'
        obtain ⟨h1, h2, h3⟩ := hcase
        rcases h1 with h1 | ⟨h1, h4⟩ | h1
        · have d1 : decide ((s[k].toNat : Int) ≤ 122) = false := decide_eq_false (by omega)
          have d2 : decide ((s[k].toNat : Int) ≤ 57) = false := decide_eq_false (by omega)
          go_wp2
          go_ret
          exact ⟨by rw [HE.out]; rfl, rfl⟩
        · have d2 : decide ((s[k].toNat : Int) ≤ 57) = false := decide_eq_false (by omega)
          go_wp2
          go_ret
          exact ⟨by rw [HE.out]; rfl, rfl⟩
        · go_wp2
          go_ret
          exact ⟨by rw [HE.out]; rfl, rfl⟩
    · obtain rfl : k = s.size := by omega
      have HE := Lib.hid (namedB_eq HI.out)
      by_cases h1 : (0 : Int) < (s.size : Int)
      · go_wp2
        go_ret
        refine ⟨?_, rfl⟩
        rw [HE.out]
        have e1 : decide (0 < s.size) = true := decide_eq_true (by omega)
        rw [e1]
        simp
        try omega
      · have h2 : ¬ (0 < (s.size : Int)) := h1
        go_wp2
        go_ret
        refine ⟨?_, rfl⟩
        rw [HE.out]
        have e1 : decide (0 < s.size) = false := decide_eq_false (by omega)
        rw [e1]
        simp
end Go.Proofs.YtohpgipgfmkflaaGreatDoor
namespace Go.Proofs.YtohpgipgfmkflaaGreatDoor
set_option linter.unusedSectionVars false
variable [Base]
open Go.RowKit
set_option maxRecDepth 100000
set_option linter.unusedVariables false
set_option linter.unusedSimpArgs false
attribute [local go_sem ↓] Go.wp_at_zero Go.wp_at_succ

theorem usedF_append (a b : List File) : usedF (a ++ b) = usedF a + usedF b := by simp [usedF]
theorem usedF_take_le (fs : List File) (k : Nat) : usedF (fs.take k) ≤ usedF fs := by
  conv => rhs; rw [← List.take_append_drop k fs, usedF_append]
  omega
theorem usedF_step (fs : List File) (k : Nat) (h : k < fs.length) : usedF (fs.take (k + 1)) = usedF (fs.take k) + fs[k].b.length := by
  rw [List.take_succ_eq_append_getElem h, usedF_append]; simp [usedF]
/-- A disk's parts, for a walk. -/
structure DV (w : World) (S : Nat → Prop) (p : Nat) (D : DState) (v : Value) (xs : List FV) : Prop where
  cells : DCells w p v D
  own : w.ownsRow 0 146 3 v xs.length (flat xs)
  mine : ∀ k, v.ownBlock = some k → S k
  rep : All2 (FRep w S) xs D.files
theorem Disk.open_ {w : World} {S : Nat → Prop} {p : Nat} {D : DState} (h : Disk w S p D) : ∃ v xs, DV w S p D v xs := by
  obtain ⟨v, xs, hb, ho, hk, hf⟩ := h.mem
  exact ⟨v, xs, DCells.ofBlk hb, ho, hk, hf⟩
theorem DV.shape {w : World} {S : Nat → Prop} {p : Nat} {D : DState} {v : Value} {xs : List FV} (h : DV w S p D v xs) :
    (v = .slice none 0 0 ∧ xs = [] ∧ D.files = []) ∨ ∃ g c, v = .slice (some ⟨g, 0, none⟩) xs.length c ∧ xs.length ≤ c ∧ c ≤ 9223372036854775807 ∧ NamesAt w g xs ∧ S g := by
  rcases h.own.2 with ⟨rfl, h0⟩ | ⟨g, c, cur, rfl, _, _, h1, h2, _⟩
  · have hx : xs = [] := List.eq_nil_of_length_eq_zero h0
    subst hx
    exact .inl ⟨rfl, rfl, List.eq_nil_of_length_eq_zero h.rep.1.symm⟩
  · exact .inr ⟨g, c, rfl, h1, h2, NamesAt.ofOwn h.own, h.mine g rfl⟩
set_option maxHeartbeats 2000000 in
theorem used_any (w : World) (S : Nat → Prop) (p : Nat) (D : DState) (h : Disk w S p D) :
    Calls Tryz.prog 30 #[.pointer (some ⟨p, 0, none⟩)] w fun e w' => e = .returned (.int .i64 (usedF D.files : Nat)) ∧ Below w.heap.size w w' := by
  obtain ⟨v, xs, hv⟩ := h.open_
  have hb1 := h.wf.used
  have hb2 := h.wf.room
  have hc0 := hv.cells.c0
  have hc4 := hv.cells.c4
  have hfew := h.wf.few
  rcases hv.shape with ⟨rfl, rfl, hf⟩ | ⟨g, c, rfl, h1, h2, hn, hg⟩
  · rw [hf]
    clear hv h hf hb1 hb2 hfew
    go_enter Tryz.func30, Tryz.ntmps30
    go_wp2_with (go_at_call 94; refine (made_yes _ _ hc4).mono ?_; rintro e w' ⟨rfl, rfl⟩)
    refine wp_loop_rounds 1 ?_
    rw [rounds_succ]
    go_wp2
    go_ret
    exact ⟨rfl, Below.refl _ _⟩
  · have HR := Lib.hid hv.rep
    have HN := Lib.hid hn
    have hlen : xs.length ≤ 200 := by rw [hv.rep.1]; exact hfew
    clear hv h hn hg
    go_enter Tryz.func30, Tryz.ntmps30
    go_wp2_with (go_at_call 94; refine (made_yes _ _ hc4).mono ?_; rintro e w' ⟨rfl, rfl⟩)
    go_loopw [3, 5, 13] (fun a f i wr => ∃ k : Nat, k ≤ xs.length ∧ i = .int .i64 k ∧ a = .int .i64 (usedF (D.files.take k) : Nat) ∧ Below w.heap.size w wr) (fun a f i wr => xs.length - (intOf i).toNat)
    case atStart => exact ⟨0, Nat.zero_le _, rfl, rfl, Below.refl _ _⟩
    case round =>
      obtain ⟨k, hk, rfl, rfl, hbel⟩ := hrel
      have hu := usedF_take_le D.files k
      by_cases hlt : k < xs.length
      · have hlf : k < D.files.length := HR.out.1 ▸ hlt
        have hr := HR.out.get k hlt hlf
        have hcs := HN.out.below hbel k hlt
        obtain ⟨A, cc, ev, _⟩ := hr.2.2
        rw [ev] at hcs
        have hc1 := hcs.1
        have hc2 := hcs.2.1
        have hc3 := hcs.2.2
        have hu2 := usedF_take_le D.files (k + 1)
        have hu3 := usedF_step D.files k hlf
        have HU := Lib.hid hu3
        have hlb : D.files[k].b.length ≤ 16777216 := by omega
        have hlb2 : usedF (D.files.take k) + D.files[k].b.length ≤ 16777216 := by omega
        clear hr hcs ev hu3 hu2
        go_wp2
        go_roundw
        case rel => exact ⟨k + 1, by omega, by go_num, by rw [HU.out]; go_num, hbel.alloc hbel.size _⟩
        case measure => simp [intOf]; omega
      · obtain rfl : k = xs.length := by omega
        go_wp2
        go_ret
        refine ⟨?_, hbel⟩
        have := HR.out.1
        rw [this, List.take_of_length_le (Nat.le_refl _)]
        rfl

/-- New. -/
def NewPost (w : World) (m : Nat) (e : Ending) (w' : World) : Prop :=
  e = .returned (.tuple #[.pointer (some ⟨w.heap.size, 0, none⟩), .int .i64 0]) ∧ w' = w.alloc (.cells #[.slice none 0 0, .int .i64 (m : Int), .int .i64 (-1), .bool false, .func (.func 91) #[] #[]] 85)
theorem new_ok (w : World) (m : Nat) (hm : m ≤ 16777216) : Calls Tryz.prog 26 #[.int .i64 (m : Int)] w (NewPost w m) := by
  go_enter Tryz.func26, Tryz.ntmps26
  go_wp2
  go_ret2
  exact ⟨rfl, rfl⟩
theorem new_no (w : World) (m : Int) (hm : m < 0 ∨ 16777216 < m) : Calls Tryz.prog 26 #[.int .i64 m] w fun e w' => e = .returned (.tuple #[.pointer none, .int .i64 2]) ∧ w = w' := by
  rcases hm with h | h
  · go_enter Tryz.func26, Tryz.ntmps26
    go_wp2
    go_ret2
    exact ⟨rfl, rfl⟩
  · have h' : ¬ m < 0 := by omega
    go_enter Tryz.func26, Tryz.ntmps26
    go_wp2
    go_ret2
    exact ⟨rfl, rfl⟩
def DState.fresh (m : Nat) : DState := { files := [], room := m, fuse := -1, dark := false }
theorem DState.fresh_wf (m : Nat) (hm : m ≤ 16777216) : (DState.fresh m).WF :=
  ⟨List.Pairwise.nil, by simp [DState.fresh], by simp [DState.fresh, usedF], hm, by simp [DState.fresh], by simp [DState.fresh]⟩
theorem Disk.fresh (w : World) (m : Nat) (hm : m ≤ 16777216) : Disk (w.alloc (.cells #[.slice none 0 0, .int .i64 (m : Int), .int .i64 (-1), .bool false, .func (.func 91) #[] #[]] 85)) (fun b => b = w.heap.size) w.heap.size (DState.fresh m) :=
  ⟨fun b hb => by rw [hb]; simp, rfl, DState.fresh_wf m hm, .slice none 0 0, [], heap_alloc_new w _, World.ownsRow_nil _ _ _ _, fun k hk => by simp [Value.ownBlock] at hk, All2.nil⟩

theorem getF_of {fs : List File} {nm : ByteArray} (h : hasF fs nm = true) : ∃ hlt : fidx fs nm < fs.length, getF fs nm = fs[fidx fs nm] := by
  refine ⟨hasF_lt h, ?_⟩
  unfold getF
  rw [if_pos h]
  simp [List.getD_eq_getElem?_getD, List.getElem?_eq_getElem (hasF_lt h)]
theorem getF_no {fs : List File} {nm : ByteArray} (h : hasF fs nm = false) : getF fs nm = ⟨⟨#[]⟩, [], 0⟩ := by
  unfold getF; rw [if_neg (by rw [h]; simp)]
theorem bcell {W w1 : World} (hb : Below W.heap.size W w1) : (∀ b o, b < W.heap.size → w1.cell? ⟨b, o, none⟩ = W.cell? ⟨b, o, none⟩) ∧ (∀ b o, b < W.heap.size → w1.frozen? ⟨b, o, none⟩ = W.frozen? ⟨b, o, none⟩) :=
  ⟨fun b o h => hb.cell (p := ⟨b, o, none⟩) h, fun b o h => hb.frozen (p := ⟨b, o, none⟩) h⟩
/-- look: a file's value. -/
def LookPost (w : World) (S : Nat → Prop) (f : File) (e : Ending) (w' : World) : Prop :=
  ∃ A c, e = .returned (.agg #[.string f.name, .slice A f.b.length c, .int .i64 (f.safe : Int)]) ∧ RdB w' S (.slice A f.b.length c) f.b ∧ Below w.heap.size w w'
set_option maxHeartbeats 2000000 in
theorem look_any (w : World) (S : Nat → Prop) (p : Nat) (D : DState) (nm : ByteArray) (h : Disk w S p D) :
    Calls Tryz.prog 113 #[.pointer (some ⟨p, 0, none⟩), .string nm] w (LookPost w S (getF D.files nm)) := by
  obtain ⟨v, xs, hv⟩ := h.open_
  have hc0 := hv.cells.c0
  have hc4 := hv.cells.c4
  have C := fun (wx : World) (hx : Below w.heap.size w wx) => place_any wx S v xs D.files nm (hv.own.kept (row := none) ⟨hx.os, hx.tape, hx.output, hx.size, fun i hi _ => hx.block i hi⟩ (by cases v.ownBlock <;> simp)) (hv.rep.imp fun x f ⟨a, b, c⟩ => ⟨a, b, c.below hx (fun _ hb => .inl hb)⟩) h.wf.sorted h.wf.few
  have HC := Lib.hid C
  have hp : p < w.heap.size := h.foot p h.mine
  clear C
  have HV := Lib.hid hv
  clear hv
  cases hh : hasF D.files nm with
  | false =>
    have HG := Lib.hid (getF_no hh)
    have HH := Lib.hid hh
    clear hh h
    go_enter Tryz.func113, Tryz.ntmps113
    go_wp2_with (go_at_call 94; refine (made_yes _ _ (cell_alloc hc4 _)).mono ?_; rintro e w' ⟨rfl, rfl⟩)
    have hd0 := cell_alloc hc0 (Obj.cells #[Value.string { data := #[] }, Value.slice none 0 0, Value.int IntKind.i64 0] 146)
    have hd4 := cell_alloc hc4 (Obj.cells #[Value.string { data := #[] }, Value.slice none 0 0, Value.int IntKind.i64 0] 146)
    go_region_held3 (fun w' => w'.cell? ⟨p, 0, none⟩ = some v ∧ w'.cell? ⟨p, 4, none⟩ = some (.func (.func 91) #[] #[])) (first | go_keep | exact ⟨(hb2.cell (by simp; omega)).trans hd0, (hb2.cell (by simp; omega)).trans hd4⟩)
      ((go_at_call 91; refine (HC.out _ (((Below.refl _ _).alloc (Nat.le_refl _) _).drew)).mono ?_; rintro e w2 ⟨rfl, hb2⟩))
    rw [HH.out]
    obtain ⟨hcc, hcf⟩ := bcell hb2
    have hz : w.heap.size < (w.alloc (.cells #[.string ⟨#[]⟩, .slice none 0 0, .int .i64 0] 146)).drew.heap.size := by simp
    go_wp2
    refine bodyPost_ret (v := .agg #[.string ⟨#[]⟩, .slice none 0 0, .int .i64 0]) (by simp [results, Tryz.results113, go_sem, hcc, hz]) rfl ?_
    rw [HG.out]
    exact ⟨none, 0, rfl, RdB.nil _ _, ((((((Below.refl _ _).alloc (Nat.le_refl _) _).drew).trans (hb2.mono (by simp))).setCell (Nat.le_refl _) _).setCell (Nat.le_refl _) _).setCell (Nat.le_refl _) _⟩
  | true =>
    obtain ⟨hlt, hG⟩ := getF_of hh
    have HG := Lib.hid hG
    have HH := Lib.hid hh
    rcases HV.out.shape with ⟨_, _, hf⟩ | ⟨g, c, rfl, h1, h2, hn, hg⟩
    · rw [hf] at hlt; simp at hlt
    have HN := Lib.hid hn
    have hltx : fidx D.files nm < xs.length := HV.out.rep.1 ▸ hlt
    have hr := HV.out.rep.get _ hltx hlt
    obtain ⟨A, cc, ev, he⟩ := hr.2.2
    have HE := Lib.hid ev
    have HRd := Lib.hid hr
    obtain ⟨i, hi⟩ : ∃ i, i = fidx D.files nm := ⟨_, rfl⟩
    have HI := Lib.hid hi
    have hix : i < xs.length := by rw [hi]; exact hltx
    clear hh h hn hG hr ev he hi
    go_enter Tryz.func113, Tryz.ntmps113
    go_wp2_with (go_at_call 94; refine (made_yes _ _ (cell_alloc hc4 _)).mono ?_; rintro e w' ⟨rfl, rfl⟩)
    have hd0 := cell_alloc hc0 (Obj.cells #[Value.string { data := #[] }, Value.slice none 0 0, Value.int IntKind.i64 0] 146)
    have hd4 := cell_alloc hc4 (Obj.cells #[Value.string { data := #[] }, Value.slice none 0 0, Value.int IntKind.i64 0] 146)
    go_region_held3 (fun w' => w'.cell? ⟨p, 0, none⟩ = some (.slice (some ⟨g, 0, none⟩) xs.length c) ∧ w'.cell? ⟨p, 4, none⟩ = some (.func (.func 91) #[] #[])) (first | go_keep | exact ⟨(hb2.cell (by simp; omega)).trans hd0, (hb2.cell (by simp; omega)).trans hd4⟩)
      ((go_at_call 91; refine (HC.out _ (((Below.refl _ _).alloc (Nat.le_refl _) _).drew)).mono ?_; rintro e w2 ⟨rfl, hb2⟩))
    rw [HH.out, ← HI.out]
    obtain ⟨hcc, hcf⟩ := bcell hb2
    have hz : w.heap.size < (w.alloc (.cells #[.string ⟨#[]⟩, .slice none 0 0, .int .i64 0] 146)).drew.heap.size := by simp
    have hB : Below w.heap.size w w2 := (((Below.refl _ _).alloc (Nat.le_refl _) _).drew).trans (hb2.mono (by simp))
    have hcs := HN.out.below hB i hix
    have hq1 := hcs.1
    have hq2 := hcs.2.1
    have hq3 := hcs.2.2
    clear hcs
    have hv9 : xs[i].v = Value.slice A D.files[fidx D.files nm].b.length cc := by have h9 := HI.out; subst h9; exact HE.out
    have hn9 : xs[i].name = D.files[fidx D.files nm].name := by have h9 := HI.out; subst h9; exact HRd.out.1
    have hs9 : xs[i].safe = D.files[fidx D.files nm].safe := by have h9 := HI.out; subst h9; exact HRd.out.2.1
    rw [hn9] at hq1
    rw [hv9] at hq2
    rw [hs9] at hq3
    have hrd : RdB w S (.slice A D.files[fidx D.files nm].b.length cc) D.files[fidx D.files nm].b := by have := HRd.out.2.2; rw [HE.out] at this; exact this
    have HRD := Lib.hid hrd
    clear hv9 hn9 hs9 hrd
    obtain ⟨f, hf⟩ : ∃ f, f = D.files[fidx D.files nm] := ⟨_, rfl⟩
    rw [← hf] at HG HRD hq1 hq2 hq3
    clear hf
    go_wp2
    refine bodyPost_ret (v := .agg #[.string f.name, .slice A f.b.length cc, .int .i64 (f.safe : Int)]) (by simp [results, Tryz.results113, go_sem, hcc, hz]) rfl ?_
    rw [HG.out]
    have hK : Below w.heap.size w (((w2.setCell ⟨w.heap.size, 0, none⟩ (.string f.name)).setCell ⟨w.heap.size, 1, none⟩ (.slice A f.b.length cc)).setCell ⟨w.heap.size, 2, none⟩ (.int .i64 (f.safe : Int))) := ((hB.setCell (Nat.le_refl _) _).setCell (Nat.le_refl _) _).setCell (Nat.le_refl _) _
    exact ⟨A, cc, rfl, HRD.out.below hK (fun _ h => .inl h), hK⟩
theorem field_b (w : World) (a b c : Value) : (Instr.field 146 (.agg #[a, b, c]) 1).run Tryz.prog w = .ok b w := by kernel_rfl
theorem field_safe (w : World) (a b c : Value) : (Instr.field 146 (.agg #[a, b, c]) 2).run Tryz.prog w = .ok c w := by kernel_rfl
theorem size_any (w : World) (S : Nat → Prop) (p : Nat) (D : DState) (nm : ByteArray) (h : Disk w S p D) :
    Calls Tryz.prog 52 #[.pointer (some ⟨p, 0, none⟩), .string nm] w fun e w' => e = .returned (.int .i64 ((getF D.files nm).b.length : Nat)) ∧ Below w.heap.size w w' := by
  have HL := Lib.hid (look_any w S p D nm h)
  have hu := field_b
  clear h
  go_enter Tryz.func52, Tryz.ntmps52
  go_wp2_with (go_at_call 113; refine HL.out.mono ?_; rintro e w' ⟨A, c, rfl, hr, hb⟩)
  go_ret
  exact ⟨rfl, hb⟩
theorem synced_any (w : World) (S : Nat → Prop) (p : Nat) (D : DState) (nm : ByteArray) (h : Disk w S p D) :
    Calls Tryz.prog 51 #[.pointer (some ⟨p, 0, none⟩), .string nm] w fun e w' => e = .returned (.int .i64 ((getF D.files nm).safe : Nat)) ∧ Below w.heap.size w w' := by
  have HL := Lib.hid (look_any w S p D nm h)
  have hu := field_safe
  clear h
  go_enter Tryz.func51, Tryz.ntmps51
  go_wp2_with (go_at_call 113; refine HL.out.mono ?_; rintro e w' ⟨A, c, rfl, hr, hb⟩)
  go_ret
  exact ⟨rfl, hb⟩
end Go.Proofs.YtohpgipgfmkflaaGreatDoor
namespace Go.Proofs.YtohpgipgfmkflaaGreatDoor
set_option linter.unusedSectionVars false
variable [Base]
open Go.RowKit
set_option maxRecDepth 100000
set_option linter.unusedVariables false
set_option linter.unusedSimpArgs false
attribute [local go_sem ↓] Go.wp_at_zero Go.wp_at_succ

theorem heap_setCell_cells (w : World) (g o : Nat) (cur : Array Value) (t : TypeId) (u : Value) (h : w.heap[g]? = some (.cells cur t (0, 0))) : (w.setCell ⟨g, o, none⟩ u).heap[g]? = some (.cells (cur.setIfInBounds o u) t (0, 0)) := by
  simp only [World.setCell, Array.getElem?_modify]
  rw [if_pos trivial, h]
  simp
/-- One cell of the disk's own block is written. -/
theorem Disk.store {w : World} {S : Nat → Prop} {p : Nat} {D D' : DState} (h : Disk w S p D) (o : Nat) (u : Value) (hwf : D'.WF) (hf : D'.files = D.files)
    (hc : ∀ v, (#[v, .int .i64 (D.room : Int), .int .i64 D.fuse, .bool D.dark, .func (.func 91) #[] #[]] : Array Value).setIfInBounds o u = #[v, .int .i64 (D'.room : Int), .int .i64 D'.fuse, .bool D'.dark, .func (.func 91) #[] #[]]) :
    Disk (w.setCell ⟨p, o, none⟩ u) S p D' ∧ Kp S w (w.setCell ⟨p, o, none⟩ u) := by
  obtain ⟨v, xs, hb, ho, hk, hr⟩ := h.mem
  have hK : Kp S w (w.setCell ⟨p, o, none⟩ u) := (Kp.refl S w).setCell (.inl h.mine) u
  refine ⟨⟨fun b hb => Nat.lt_of_lt_of_le (h.foot b hb) hK.size, h.mine, hwf, v, xs, ?_, ?_, hk, ?_⟩, hK⟩
  · rw [heap_setCell_cells w p o _ _ u hb, hc]
  · refine ho.kept (row := some p) ⟨rfl, rfl, rfl, by simp [World.setCell], fun k hk hn => Below.heap_setCell w _ u k (fun e => hn (by rw [e]))⟩ ?_
    rcases ho.2 with ⟨rfl, _⟩ | ⟨g, cap, cur, rfl, _, hg, _⟩
    · exact .inl rfl
    · refine .inr (fun e => ?_)
      have : g = p := by simpa [Value.ownBlock] using e
      rw [this, hb] at hg
      injection hg with hg
      injection hg with _ ht
      exact absurd ht (by decide)
  · rw [hf]
    exact hr.imp fun x f ⟨h1, h2, h3⟩ => ⟨h1, h2, h3.kp hK (fun _ hb => .inl hb)⟩
def DState.burn (D : DState) : DState := { D with fuse := if 0 < D.fuse then D.fuse - 1 else D.fuse }
def DState.dead (D : DState) : DState := { D with fuse := -1, dark := true }
theorem DState.burn_wf {D : DState} (h : D.WF) (h0 : D.fuse ≠ 0) : D.burn.WF :=
  ⟨h.sorted, h.few, h.used, h.room, h.safe, by have := h.fuse; unfold DState.burn; simp only []; split <;> omega⟩
theorem DState.dead_wf {D : DState} (h : D.WF) : D.dead.WF := ⟨h.sorted, h.few, h.used, h.room, h.safe, by simp [DState.dead]⟩
theorem DState.deed_zero {D : DState} (F : List File → List File) (h : D.fuse = 0) : D.deed F = (D.dead, 15) := by simp [DState.deed, DState.dead, h]
theorem DState.deed_burn {D : DState} (F : List File → List File) (h : D.fuse ≠ 0) : D.deed F = ({ D.burn with files := F D.files }, 0) := by simp [DState.deed, DState.burn, h]
def DeedPost (w : World) (S : Nat → Prop) (p : Nat) (D' : DState) (er : Int) (e : Ending) (w' : World) : Prop :=
  ∃ S', e = .returned (.int .i64 er) ∧ Disk w' S' p D' ∧ Step S S' w w'
def DoPost (w : World) (S : Nat → Prop) (p : Nat) (D' : DState) (e : Ending) (w' : World) : Prop :=
  ∃ S', e = .returned (.tuple #[]) ∧ Disk w' S' p D' ∧ Step S S' w w'
set_option maxHeartbeats 2000000 in
theorem deed_any (w : World) (S : Nat → Prop) (p : Nat) (D : DState) (K : Nat) (caps : Array Value) (F : List File → List File) (h : Disk w S p D)
    (eg : ∀ args w, (callFunc K args).run Tryz.prog w = .ok (.enter K args) w)
    (hdo : ∀ w1 D1, D1.files = D.files → D1.room = D.room → Disk w1 S p D1 → Kp S w w1 → Calls Tryz.prog K caps w1 (DoPost w1 S p { D1 with files := F D.files })) :
    Calls Tryz.prog 123 #[.pointer (some ⟨p, 0, none⟩), .func (.func K) #[] caps] w (DeedPost w S p (D.deed F).1 (D.deed F).2) := by
  obtain ⟨v, xs, hv⟩ := h.open_
  have hc0 := hv.cells.c0
  have hc2 := hv.cells.c2
  have hc3 := hv.cells.c3
  have hfz := hv.cells.fz
  have hfu := h.wf.fuse
  clear hv
  by_cases h0 : D.fuse = 0
  · have H1 := h.store (D' := { D with fuse := -1 }) 2 (.int .i64 (-1)) ⟨h.wf.sorted, h.wf.few, h.wf.used, h.wf.room, h.wf.safe, by simp⟩ rfl (fun v => rfl)
    have H2 := H1.1.store (D' := D.dead) 3 (.bool true) (DState.dead_wf h.wf) rfl (fun v => rfl)
    have HF := Lib.hid (DState.deed_zero F h0)
    have HH := Lib.hid H2
    have HH1 := Lib.hid H1
    rw [h0] at hc2
    clear H1 H2 h h0 hfu hdo
    go_enter Tryz.func123, Tryz.ntmps123
    go_wp2
    go_ret
    rw [HF.out]
    exact ⟨S, rfl, HH.out.1, ⟨HH1.out.2.trans HH.out.2 (fun _ h => .inl h), fun _ h => .inl h⟩⟩
  · have HF := Lib.hid (DState.deed_burn F h0)
    have hwf := DState.burn_wf h.wf h0
    by_cases h1 : 0 < D.fuse
    · have H1 := h.store (D' := D.burn) 2 (.int .i64 (D.fuse - 1)) hwf rfl (fun v => by unfold DState.burn; rw [if_pos h1]; rfl)
      have C := hdo _ D.burn rfl rfl H1.1 H1.2
      have HC := Lib.hid C
      have HH1 := Lib.hid H1
      have h0' : ((D.fuse : Int) == 0) = false := by simpa using h0
      clear H1 h h0 C hdo hwf
      go_enter Tryz.func123, Tryz.ntmps123
      go_wp2_with (refine HC.out.mono ?_; rintro e w' ⟨S', rfl, hd, hs⟩)
      go_ret
      rw [HF.out]
      exact ⟨S', rfl, hd, ⟨HH1.out.2.trans hs.kp (fun _ h => .inl h), fun b hb => (hs.fresh b hb).imp id (fun h2 => Nat.le_trans HH1.out.2.size h2)⟩⟩
    · have hbe : D.burn = D := by unfold DState.burn; rw [if_neg h1]
      have C := hdo w D rfl rfl h (Kp.refl S w)
      rw [hbe] at HF
      have HC := Lib.hid C
      have h0' : ((D.fuse : Int) == 0) = false := by simpa using h0
      have h1' : ¬ (0 < D.fuse) := h1
      clear h h0 C hdo hwf hbe h1
      go_enter Tryz.func123, Tryz.ntmps123
      go_wp2_with (refine HC.out.mono ?_; rintro e w' ⟨S', rfl, hd, hs⟩)
      go_ret
      rw [HF.out]
      exact ⟨S', rfl, hd, hs⟩

/-- Read. -/
def ReadPost (w : World) (l : List UInt8) (er : Int) (e : Ending) (w' : World) : Prop :=
  ∃ v', e = .returned (.tuple #[v', .int .i64 er]) ∧ w'.ownsRow w.heap.size 5 1 v' l.length (bv l) ∧ Below w.heap.size w w'
theorem Disk.placeC {w : World} {S : Nat → Prop} {p : Nat} {D : DState} {v : Value} {xs : List FV} (h : Disk w S p D) (hv : DV w S p D v xs) (nm : ByteArray) : ∀ wx, Below w.heap.size w wx →
    Calls Tryz.prog 91 #[v, .string nm] wx fun e w' => e = .returned (.tuple #[.int .i64 (fidx D.files nm : Nat), .bool (hasF D.files nm)]) ∧ Below wx.heap.size wx w' := fun wx hx =>
  place_any wx S v xs D.files nm (hv.own.kept (row := none) ⟨hx.os, hx.tape, hx.output, hx.size, fun i hi _ => hx.block i hi⟩ (by cases v.ownBlock <;> simp)) (hv.rep.imp fun x f ⟨a, b, c⟩ => ⟨a, b, c.below hx (fun _ hb => .inl hb)⟩) h.wf.sorted h.wf.few
theorem usedF_ge {fs : List File} {f : File} (h : f ∈ fs) : f.b.length ≤ usedF fs := by
  induction fs with
  | nil => cases h
  | cons a fs ih =>
    simp only [usedF, List.map_cons, List.sum_cons] at ih ⊢
    rcases List.mem_cons.1 h with rfl | h
    · omega
    · have := ih h; omega
set_option maxHeartbeats 2000000 in
theorem read_any (w : World) (S : Nat → Prop) (p : Nat) (D : DState) (nm : ByteArray) (h : Disk w S p D) :
    Calls Tryz.prog 62 #[.pointer (some ⟨p, 0, none⟩), .string nm] w (ReadPost w (D.read nm).1 (D.read nm).2) := by
  obtain ⟨v, xs, hv⟩ := h.open_
  have hc0 := hv.cells.c0
  have hc3 := hv.cells.c3
  have hc4 := hv.cells.c4
  have HC := Lib.hid (h.placeC hv nm)
  have hp : p < w.heap.size := h.foot p h.mine
  cases hd : D.dark with
  | true =>
    have HR := Lib.hid (show D.read nm = ([], 15) by simp [DState.read, hd])
    rw [hd] at hc3
    clear hv h hd
    go_enter Tryz.func62, Tryz.ntmps62
    go_wp2_with (go_at_call 93; refine (lit_yes _ true _ hc4 hc3).mono ?_; rintro e w' ⟨rfl, rfl⟩)
    go_ret2
    rw [HR.out]
    exact ⟨_, rfl, World.ownsRow_nil _ _ _ _, Below.refl _ _⟩
  | false =>
    rw [hd] at hc3
    cases hh : hasF D.files nm with
    | false =>
      have HR := Lib.hid (show D.read nm = ([], 16) by simp [DState.read, hd, hh])
      have HH := Lib.hid hh
      clear hv h hd hh
      go_enter Tryz.func62, Tryz.ntmps62
      go_wp2_with (go_at_call 93; refine (lit_yes _ false _ hc4 hc3).mono ?_; rintro e w' ⟨rfl, rfl⟩)
      go_region_held3 (fun w' => w'.cell? ⟨p, 0, none⟩ = some v ∧ w'.cell? ⟨p, 4, none⟩ = some (.func (.func 91) #[] #[])) (first | go_keep | exact ⟨(hb2.cell hp).trans hc0, (hb2.cell hp).trans hc4⟩)
        ((go_at_call 91; refine (HC.out _ ((Below.refl _ _).drew)).mono ?_; rintro e w2 ⟨rfl, hb2⟩))
      rw [HH.out]
      go_wp2
      go_ret2
      rw [HR.out]
      exact ⟨_, rfl, World.ownsRow_nil _ _ _ _, ⟨hb2.os, hb2.tape, hb2.output, hb2.size, hb2.block⟩⟩
    | true =>
      have HR := Lib.hid (show D.read nm = ((getF D.files nm).b, 0) by simp [DState.read, hd, hh])
      obtain ⟨hlt, hG⟩ := getF_of hh
      have HG := Lib.hid hG
      have HH := Lib.hid hh
      rcases hv.shape with ⟨_, _, hf⟩ | ⟨g, c, rfl, h1, h2, hn, hg⟩
      · rw [hf] at hlt; simp at hlt
      have hltx : fidx D.files nm < xs.length := hv.rep.1 ▸ hlt
      have hr := hv.rep.get _ hltx hlt
      have hcs := hn _ hltx
      have hlb : D.files[fidx D.files nm].b.length ≤ 16777216 := by have := usedF_ge (List.getElem_mem hlt); have := h.wf.used; have := h.wf.room; omega
      have hq0 := hcs.2.1
      obtain ⟨A, cc, ev, he⟩ := id hr.2.2
      have hrd := hr.2.2
      rw [ev] at hq0 hrd
      obtain ⟨i, hi⟩ : ∃ i, i = fidx D.files nm := ⟨_, rfl⟩
      obtain ⟨l, hl⟩ : ∃ l, l = D.files[fidx D.files nm].b := ⟨_, rfl⟩
      have hix : i < xs.length := by rw [hi]; exact hltx
      rw [← hl] at hq0 hrd hlb
      rw [← hi] at hq0
      have HI := Lib.hid hi
      have HL := Lib.hid hl
      have HRD := Lib.hid hrd
      have hgp : g < w.heap.size := World.block_lt_of_cell? w _ hq0
      clear hv h hd hh hn hcs hr hrd ev he hi hl hG
      go_enter Tryz.func62, Tryz.ntmps62
      go_wp2_with (go_at_call 93; refine (lit_yes _ false _ hc4 hc3).mono ?_; rintro e w' ⟨rfl, rfl⟩)
      go_region_held3 (fun w' => w'.cell? ⟨p, 0, none⟩ = some (.slice (some ⟨g, 0, none⟩) xs.length c) ∧ w'.cell? ⟨p, 4, none⟩ = some (.func (.func 91) #[] #[])) (first | go_keep | exact ⟨(hb2.cell hp).trans hc0, (hb2.cell hp).trans hc4⟩)
        ((go_at_call 91; refine (HC.out _ ((Below.refl _ _).drew)).mono ?_; rintro e w2 ⟨rfl, hb2⟩))
      rw [HH.out, ← HI.out]
      have hB : Below w.heap.size w w2 := ⟨hb2.os, hb2.tape, hb2.output, hb2.size, hb2.block⟩
      have hq1 := (hB.cell (p := ⟨g, i * 3 + 1, none⟩) hgp).trans hq0
      go_wp2_with (go_at_call 121; refine (clone_any _ S _ l (HRD.out.below hB (fun _ h => .inl h)) (by omega)).mono ?_; rintro e w3 ⟨v', rfl, hown, hb3⟩)
      go_ret2
      rw [HR.out, HG.out]
      have HL2 := HL.out
      rw [← HL2]
      refine ⟨v', rfl, ?_, hB.trans (hb3.mono hB.size)⟩
      exact ⟨hown.1, hown.2.imp id (fun ⟨g, cap, cur, a, b, r⟩ => ⟨g, cap, cur, a, Nat.le_trans hB.size b, r⟩)⟩
end Go.Proofs.YtohpgipgfmkflaaGreatDoor
namespace Go.Proofs.YtohpgipgfmkflaaGreatDoor
set_option linter.unusedSectionVars false
variable [Base]
open Go.RowKit
set_option maxRecDepth 100000
set_option linter.unusedVariables false
set_option linter.unusedSimpArgs false

/-- A disk but for what holds of every disk. -/
structure DR (w : World) (S : Nat → Prop) (p : Nat) (D : DState) (v : Value) (xs : List FV) : Prop where
  foot : ∀ b, S b → b < w.heap.size
  mine : S p
  blk : w.heap[p]? = some (.cells #[v, .int .i64 (D.room : Int), .int .i64 D.fuse, .bool D.dark, .func (.func 91) #[] #[]] 85 (0, 0))
  own : w.ownsRow 0 146 3 v xs.length (flat xs)
  row : ∀ k, v.ownBlock = some k → S k
  rep : All2 (FRep w S) xs D.files
theorem Disk.dr {w : World} {S : Nat → Prop} {p : Nat} {D : DState} (h : Disk w S p D) : ∃ v xs, DR w S p D v xs := by
  obtain ⟨v, xs, hb, ho, hk, hr⟩ := h.mem
  exact ⟨v, xs, h.foot, h.mine, hb, ho, hk, hr⟩
section
variable {w w1 : World} {S S' : Nat → Prop} {p : Nat} {D : DState} {v : Value} {xs : List FV}
theorem DR.disk (h : DR w S p D v xs) (hw : D.WF) : Disk w S p D := ⟨h.foot, h.mine, hw, v, xs, h.blk, h.own, h.row, h.rep⟩
theorem DR.dcells (h : DR w S p D v xs) : DCells w p v D := DCells.ofBlk h.blk
theorem DR.lt (h : DR w S p D v xs) : p < w.heap.size := h.foot p h.mine
theorem DR.dv (h : DR w S p D v xs) : DV w S p D v xs := ⟨h.dcells, h.own, h.row, h.rep⟩
theorem DR.below (h : DR w S p D v xs) (k : Below w.heap.size w w1) : DR w1 S p D v xs :=
  ⟨fun b hb => Nat.lt_of_lt_of_le (h.foot b hb) k.size, h.mine, (k.block p h.lt).trans h.blk,
   h.own.kept (row := none) ⟨k.os, k.tape, k.output, k.size, fun i hi _ => k.block i hi⟩ (by cases v.ownBlock <;> simp), h.row, h.rep.imp fun x f ⟨h1, h2, h3⟩ => ⟨h1, h2, h3.below k (fun _ hb => .inl hb)⟩⟩
theorem DR.ne (h : DR w S p D v xs) : v.ownBlock ≠ some p := by
  intro e
  rcases h.own.2 with ⟨rfl, _⟩ | ⟨g, cap, cur, rfl, _, hg, _⟩
  · cases e
  · have : g = p := by simpa [Value.ownBlock] using e
    rw [this, h.blk] at hg
    injection hg with hg
    injection hg with _ ht
    exact absurd ht (by decide)
/-- A new row in slot 0. -/
theorem DR.put (h : DR w S p D v xs) {v' : Value} {xs' : List FV} {fs' : List File} (hg : w.grownBy w1 v.ownBlock)
    (ho : w1.ownsRow 0 146 3 v' xs'.length (flat xs')) (hv : v'.ownBlock = v.ownBlock ∨ ∃ b, v'.ownBlock = some b ∧ w.heap.size ≤ b)
    (hr : All2 (FRep w1 (fun b => S b ∨ v'.ownBlock = some b)) xs' fs') :
    DR (w1.setCell ⟨p, 0, none⟩ v') (fun b => S b ∨ v'.ownBlock = some b) p { D with files := fs' } v' xs' ∧ Step S (fun b => S b ∨ v'.ownBlock = some b) w (w1.setCell ⟨p, 0, none⟩ v') := by
  have hne := h.ne
  have hpv : v'.ownBlock ≠ some p := by
    rcases hv with hv | ⟨b, hv, hb⟩
    · rw [hv]; exact hne
    · rw [hv]; intro e; injection e with e; have := h.lt; omega
  have hb1 : w1.heap[p]? = _ := (hg.block p h.lt (fun e => hne e.symm)).trans h.blk
  have hsz : (w1.setCell ⟨p, 0, none⟩ v').heap.size = w1.heap.size := by simp [World.setCell]
  have hK1 : Kp (fun b => S b ∨ v'.ownBlock = some b) w1 (w1.setCell ⟨p, 0, none⟩ v') := (Kp.refl _ w1).setCell (.inl (.inl h.mine)) v'
  refine ⟨⟨fun b hb => ?_, .inl h.mine, ?_, ?_, fun k hk => .inr hk, hr.imp fun x f ⟨a, b, c⟩ => ⟨a, b, c.kp hK1 (fun _ h => .inl h)⟩⟩, ⟨?_, fun b hb => ?_⟩⟩
  · rw [hsz]
    rcases hb with hb | hb
    · exact Nat.lt_of_lt_of_le (h.foot b hb) hg.size
    · exact (ho.lt b hb).2
  · rw [heap_setCell_cells w1 p 0 _ _ v' hb1]; rfl
  · exact ho.kept (row := some p) ⟨rfl, rfl, rfl, by simp [World.setCell], fun k hk hn => Below.heap_setCell w1 _ v' k (fun e => hn (by rw [e]))⟩ (.inr hpv)
  · exact (((Kp.refl S w).grown hg (fun k hk => .inl (h.row k hk)))).setCell (.inl h.mine) v'
  · rcases hb with hb | hb
    · exact .inl hb
    · rcases hv with hv | ⟨c, hv, hc⟩
      · exact .inl (h.row b (hv ▸ hb))
      · rw [hv] at hb; injection hb with hb; exact .inr (hb ▸ hc)
/-- One field of one file. -/
theorem DR.field (h : DR w S p D v xs) {g c : Nat} (hv : v = .slice (some ⟨g, 0, none⟩) xs.length c) (hbel : Below w.heap.size w w1) (i : Nat) (j : Nat) (hj : j < 3) (hi : i < xs.length) (hif : i < D.files.length)
    (u : Value) (x' : FV) (f' : File) (hx : x'.cells = xs[i].cells.set j u) (hr : FRep w1 S x' f') :
    DR (w1.setCell ⟨g, i * 3 + j, none⟩ u) S p { D with files := D.files.set i f' } v (xs.set i x') ∧ Kp S w (w1.setCell ⟨g, i * 3 + j, none⟩ u) := by
  subst hv
  have h1 := h.below hbel
  have hst := h1.own.stored (i * 3 + j) u
  have hgS : S g := h.row g rfl
  have hgp : g ≠ p := fun e => h.ne (by rw [← e]; rfl)
  have hK : Kp S w1 (w1.setCell ⟨g, i * 3 + j, none⟩ u) := (Kp.refl S w1).setCell (.inl hgS) u
  have hfl : (flat xs).set (i * 3 + j) u = flat (xs.set i x') := by
    clear hst hK h1 hr h hbel hgS hgp hif
    induction xs generalizing i with
    | nil => simp at hi
    | cons x xs ih =>
      cases i with
      | zero =>
        simp only [List.getElem_cons_zero] at hx
        simp only [flat, List.flatMap_cons, List.set_cons_zero]
        rw [hx, Nat.zero_mul, Nat.zero_add, List.set_append_left _ _ (by simp [FV.cells]; omega)]
      | succ i =>
        have := ih i (by simpa using hi) (by simpa using hx)
        simp only [flat, List.flatMap_cons, List.set_cons_succ] at this ⊢
        rw [List.set_append_right _ _ (by simp [FV.cells]; omega), ← this]
        congr 2
        simp [FV.cells]; omega
  refine ⟨⟨fun b hb => Nat.lt_of_lt_of_le (h1.foot b hb) hK.size, h.mine, ?_, ?_, h.row, ?_⟩, (Kp.ofBelow hbel S).trans hK (fun _ h => .inl h)⟩
  · rw [Below.heap_setCell w1 _ u p (fun e => hgp e.symm)]; exact h1.blk
  · have := hst.1
    rw [hfl] at this
    simpa using this
  · exact (h1.rep.imp fun x f ⟨a, b, c⟩ => ⟨a, b, c.kp hK (fun _ h => .inl h)⟩ : All2 (FRep (w1.setCell ⟨g, i * 3 + j, none⟩ u) S) xs D.files).set i (let ⟨a, b, c⟩ := hr; ⟨a, b, c.kp hK (fun _ h => .inl h)⟩)
end

/-! What the deeds keep. -/
theorem fidx_cons (a : File) (fs : List File) (nm : ByteArray) : fidx (a :: fs) nm = if ltB a.name nm then fidx fs nm + 1 else 0 := by
  unfold fidx; rw [List.takeWhile_cons]; split <;> simp
theorem fidx_lt_ltB {fs : List File} {nm : ByteArray} {i : Nat} {f : File} (hi : i < fidx fs nm) (hf : fs[i]? = some f) : ltB f.name nm = true := by
  induction fs generalizing i with
  | nil => simp at hf
  | cons a fs ih =>
    rw [fidx_cons] at hi
    split at hi
    · rename_i ha
      cases i with
      | zero => simp at hf; rw [← hf]; exact ha
      | succ i => exact ih (i := i) (by omega) (by simpa using hf)
    · omega
theorem usedF_set (fs : List File) (i : Nat) (f' : File) (h : i < fs.length) : usedF (fs.set i f') + fs[i].b.length = usedF fs + f'.b.length := by
  induction fs generalizing i with
  | nil => simp at h
  | cons a fs ih =>
    cases i with
    | zero => simp [usedF]; omega
    | succ i => have := ih i (by simpa using h); simp only [usedF, List.set_cons_succ, List.map_cons, List.sum_cons, List.getElem_cons_succ] at this ⊢; omega
theorem usedF_insert (fs : List File) (i : Nat) (f' : File) (h : i ≤ fs.length) : usedF (fs.insertIdx i f') = usedF fs + f'.b.length := by
  induction fs generalizing i with
  | nil => obtain rfl : i = 0 := by simpa using h
           simp [usedF]
  | cons a fs ih =>
    cases i with
    | zero => simp [usedF]; omega
    | succ i => have := ih i (by simpa using h); simp only [usedF, List.insertIdx_succ_cons, List.map_cons, List.sum_cons] at this ⊢; omega
theorem usedF_erase_le (fs : List File) (i : Nat) : usedF (fs.eraseIdx i) ≤ usedF fs := by
  induction fs generalizing i with
  | nil => simp [usedF]
  | cons a fs ih =>
    cases i with
    | zero => simp [usedF]
    | succ i => have := ih i; simp only [usedF, List.eraseIdx_cons_succ, List.map_cons, List.sum_cons] at this ⊢; omega
theorem insertIdx_td {α : Type} (l : List α) (i : Nat) (x : α) (h : i ≤ l.length) : l.insertIdx i x = l.take i ++ x :: l.drop i := by
  induction l generalizing i with
  | nil => obtain rfl : i = 0 := by simpa using h
           simp
  | cons a l ih =>
    cases i with
    | zero => simp
    | succ i => simp [List.insertIdx_succ_cons, ih i (by simpa using h)]
/-- One file set, under the same name. -/
theorem sorted_set {fs : List File} (h : fs.Pairwise fun f g => ltB f.name g.name = true) (i : Nat) (f' : File) (hi : i < fs.length) (hn : f'.name = fs[i].name) : (fs.set i f').Pairwise fun f g => ltB f.name g.name = true := by
  rw [List.pairwise_iff_getElem] at h ⊢
  intro a b ha hb hab
  have := h a b (by simpa using ha) (by simpa using hb) hab
  rw [List.getElem_set, List.getElem_set]
  split
  · rename_i e; subst e
    split
    · omega
    · rw [hn]; exact this
  · split
    · rename_i e; subst e; rw [hn]; exact this
    · exact this
theorem sorted_insert {fs : List File} (h : fs.Pairwise fun f g => ltB f.name g.name = true) (x : File) (hx : hasF fs x.name = false) : (fs.insertIdx (fidx fs x.name) x).Pairwise fun f g => ltB f.name g.name = true := by
  rw [insertIdx_td _ _ _ (fidx_le _ _), List.pairwise_append]
  refine ⟨h.sublist (List.take_sublist _ _), ?_, ?_⟩
  · rw [List.pairwise_cons]
    refine ⟨fun a ha => ?_, h.sublist (List.drop_sublist _ _)⟩
    obtain ⟨k, hk⟩ := List.getElem?_of_mem ha
    rw [List.getElem?_drop] at hk
    obtain ⟨f, hf⟩ : ∃ f, fs[fidx fs x.name]? = some f := ⟨fs[fidx fs x.name]'(by have := (List.getElem?_eq_some_iff.1 hk).1; omega), List.getElem?_eq_getElem _⟩
    have h1 := fidx_ge h (Nat.le_refl _) hf
    have h2 : eqB f.name x.name = false := by unfold hasF at hx; rw [hf] at hx; exact hx
    have h3 := ltB_total h1 h2
    cases k with
    | zero => rw [Nat.add_zero, hf] at hk; injection hk with hk; rw [← hk]; exact h3
    | succ k =>
      have hk2 := (List.getElem?_eq_some_iff.1 hk)
      have hf2 := (List.getElem?_eq_some_iff.1 hf)
      have := (List.pairwise_iff_getElem.1 h) (fidx fs x.name) (fidx fs x.name + (k + 1)) hf2.1 hk2.1 (by omega)
      rw [hf2.2, hk2.2] at this
      exact ltB_trans h3 this
  · intro a ha b hb
    obtain ⟨k, hk⟩ := List.getElem?_of_mem ha
    rw [List.getElem?_take] at hk
    split at hk
    · rename_i hkf
      have h1 := fidx_lt_ltB hkf hk
      rcases List.mem_cons.1 hb with rfl | hb
      · exact h1
      · obtain ⟨m, hm⟩ := List.getElem?_of_mem hb
        rw [List.getElem?_drop] at hm
        have hk2 := (List.getElem?_eq_some_iff.1 hk)
        have hm2 := (List.getElem?_eq_some_iff.1 hm)
        have := (List.pairwise_iff_getElem.1 h) k _ hk2.1 hm2.1 (by omega)
        rw [hk2.2, hm2.2] at this
        exact this
    · cases hk
theorem DState.WF.set {D : DState} (h : D.WF) (i : Nat) (f' : File) (hi : i < D.files.length) (hn : f'.name = D.files[i].name) (hs : f'.safe ≤ f'.b.length) (hu : usedF D.files + f'.b.length ≤ D.room + D.files[i].b.length) :
    DState.WF { D with files := D.files.set i f' } :=
  ⟨sorted_set h.sorted i f' hi hn, by simpa using h.few, by have := usedF_set D.files i f' hi; show usedF (D.files.set i f') ≤ D.room; omega, h.room,
   fun f hf => (List.mem_or_eq_of_mem_set hf).elim (h.safe f) (fun e => e ▸ hs), h.fuse⟩
theorem DState.WF.insert {D : DState} (h : D.WF) (x : File) (hx : hasF D.files x.name = false) (hs : x.safe ≤ x.b.length) (hf : D.files.length < 200) (hu : usedF D.files + x.b.length ≤ D.room) :
    DState.WF { D with files := D.files.insertIdx (fidx D.files x.name) x } :=
  ⟨sorted_insert h.sorted x hx, by show (D.files.insertIdx _ x).length ≤ 200; rw [List.length_insertIdx]; split <;> omega, by show usedF (D.files.insertIdx _ x) ≤ D.room; rw [usedF_insert _ _ _ (fidx_le _ _)]; exact hu, h.room,
   fun f hf => by
     have hf : f ∈ D.files.insertIdx _ x := hf
     rw [insertIdx_td _ _ _ (fidx_le _ _)] at hf
     rcases List.mem_append.1 hf with h1 | h1
     · exact h.safe f (List.mem_of_mem_take h1)
     · rcases List.mem_cons.1 h1 with rfl | h1
       · exact hs
       · exact h.safe f (List.mem_of_mem_drop h1), h.fuse⟩
theorem DState.WF.erase {D : DState} (h : D.WF) (i : Nat) : DState.WF { D with files := D.files.eraseIdx i } :=
  ⟨h.sorted.sublist (List.eraseIdx_sublist _ _), by have := List.length_eraseIdx_le D.files i; have := h.few; show (D.files.eraseIdx i).length ≤ 200; omega, by have := usedF_erase_le D.files i; have := h.used; show usedF (D.files.eraseIdx i) ≤ D.room; omega, h.room,
   fun f hf => h.safe f (List.mem_of_mem_eraseIdx hf), h.fuse⟩
end Go.Proofs.YtohpgipgfmkflaaGreatDoor
namespace Go.Proofs.YtohpgipgfmkflaaGreatDoor
set_option linter.unusedSectionVars false
variable [Base]
open Go.RowKit
set_option maxRecDepth 100000
set_option linter.unusedVariables false
set_option linter.unusedSimpArgs false
attribute [local go_sem ↓] Go.wp_at_zero Go.wp_at_succ

/-- What Append's deed holds. -/
structure AppCaps (w : World) (S : Nat → Prop) (p : Nat) (nm : ByteArray) (i : Nat) (ok : Bool) (vb : Value) (lb : List UInt8) (ao ad ai an ab : Nat) : Prop where
  ok : w.cell? ⟨ao, 0, none⟩ = some (.bool ok) ∧ ¬ S ao
  d : w.cell? ⟨ad, 0, none⟩ = some (.pointer (some ⟨p, 0, none⟩)) ∧ ¬ S ad
  i : w.cell? ⟨ai, 0, none⟩ = some (.int .i64 (i : Int)) ∧ ¬ S ai
  nm : w.cell? ⟨an, 0, none⟩ = some (.string nm) ∧ ¬ S an
  b : w.cell? ⟨ab, 0, none⟩ = some vb ∧ ¬ S ab
  rd : RdB w S vb lb
theorem set_modify {fs : List File} {i : Nat} (h : i < fs.length) (F : File → File) : fs.modify i F = fs.set i (F fs[i]) := by
  apply List.ext_getElem?
  intro j
  rw [List.getElem?_modify, List.getElem?_set]
  by_cases hij : i = j
  · subst hij; simp [h]
  · simp [hij]
def ConP (w : World) (S : Nat → Prop) (l : List UInt8) (e : Ending) (w' : World) : Prop :=
  ∃ A c, e = .returned (.slice A l.length c) ∧ RdB w' S (.slice A l.length c) l ∧ Below w.heap.size w w'
theorem concat_here (w : World) (S : Nat → Prop) (v1 v2 : Value) (l1 l2 : List UInt8) (t : TypeId) (h1 : RdB w S v1 l1) (h2 : RdB w S v2 l2) (hl : l1.length + l2.length ≤ 140737488355328) (hS : ∀ b, S b → b < w.heap.size) :
    Calls Tryz.prog 126 #[.slice (some ⟨w.heap.size, 0, none⟩) 2 2] (w.drew.alloc (.cells #[v1, v2] t)) (ConP w S (l1 ++ l2)) := by
  have hB : Below w.heap.size w (w.drew.alloc (.cells #[v1, v2] t)) := ((Below.refl w.heap.size w).drew).alloc (Nat.le_refl _) _
  have hh : (w.drew.alloc (.cells #[v1, v2] t)).heap[w.heap.size]? = some (.cells #[v1, v2] t (0, 0)) := heap_alloc_new w.drew _
  refine (concat_two (w.drew.alloc (.cells #[v1, v2] t)) S w.heap.size 2 v1 v2 l1 l2 (cell_row hh 0) (cell_row hh 1) (h1.below hB (fun _ h => .inl h)) (h2.below hB (fun _ h => .inl h)) hl (fun b hb => by have := hS b hb; have := hB.size; omega)).mono ?_
  rintro e w' ⟨v', rfl, ho, hb⟩
  have hrd : RdB w' S v' (l1 ++ l2) := RdB.ofOwn ho (fun b hb => by have := hS b hb; have := hB.size; omega)
  obtain ⟨A, c, rfl, r⟩ := id hrd
  exact ⟨A, c, rfl, hrd, hB.trans (hb.mono hB.size)⟩
theorem cell_set1 {w : World} {g j : Nat} {u : Value} {a : Addr} {v : Value} (h : w.cell? a = some v) (hn : a.block ≠ g) : (w.setCell ⟨g, j, none⟩ u).cell? a = some v :=
  (World.cell?_of_block (Below.heap_setCell w ⟨g, j, none⟩ u a.block (fun e => hn e))).trans h
set_option maxHeartbeats 2000000 in
theorem append1_yes (w : World) (S : Nat → Prop) (p : Nat) (D : DState) (nm : ByteArray) (vb : Value) (lb : List UInt8) (ao ad ai an ab : Nat) (h : Disk w S p D) (hc : AppCaps w S p nm (fidx D.files nm) true vb lb ao ad ai an ab)
    (hh : hasF D.files nm = true) (hu : usedF D.files + lb.length ≤ D.room) :
    Calls Tryz.prog 124 #[.pointer (some ⟨ao, 0, none⟩), .pointer (some ⟨ad, 0, none⟩), .pointer (some ⟨ai, 0, none⟩), .pointer (some ⟨an, 0, none⟩), .pointer (some ⟨ab, 0, none⟩)] w (DoPost w S p { D with files := addF nm lb D.files }) := by
  obtain ⟨v, xs, hd⟩ := h.dr
  have hlt := hasF_lt hh
  have hG : addF nm lb D.files = D.files.set (fidx D.files nm) { D.files[fidx D.files nm] with b := D.files[fidx D.files nm].b ++ lb } := by
    unfold addF; rw [if_pos hh, set_modify hlt]
  rw [hG]
  have hwf := h.wf.set (fidx D.files nm) { D.files[fidx D.files nm] with b := D.files[fidx D.files nm].b ++ lb } hlt rfl (by have := h.wf.safe _ (List.getElem_mem hlt); simp; omega) (by simp; omega)
  have hltx : fidx D.files nm < xs.length := hd.rep.1 ▸ hlt
  have hr := hd.rep.get _ hltx hlt
  rcases hd.dv.shape with ⟨_, _, hf⟩ | ⟨g, c, rfl, h1, h2, hn, hgS⟩
  · rw [hf] at hlt; simp at hlt
  have hcs := (hn _ hltx).2.1
  have hfl := fun (w1 : World) (hb : Below w.heap.size w w1) (u : Value) (hu : RdB w1 S u (D.files[fidx D.files nm].b ++ lb)) => hd.field rfl hb (fidx D.files nm) 1 (by omega) hltx hlt u { xs[fidx D.files nm] with v := u } { D.files[fidx D.files nm] with b := D.files[fidx D.files nm].b ++ lb } rfl ⟨hr.1, hr.2.1, hu⟩
  have hlen : D.files[fidx D.files nm].b.length + lb.length ≤ 16777216 := by have := usedF_ge (List.getElem_mem hlt); have := h.wf.room; omega
  obtain ⟨i, hi⟩ : ∃ i, fidx D.files nm = i := ⟨_, rfl⟩
  have hrd := hr.2.2
  have hfoot := hd.foot
  have hc0 := hd.dcells.c0
  have hfz0 := hd.own.frozenAt
  have hpp := hd.lt
  obtain ⟨⟨ho1, ho2⟩, ⟨hd1, hd2⟩, ⟨hi1, hi2⟩, ⟨hn1, hn2⟩, ⟨hb1, hb2⟩, hrb⟩ := hc
  simp only [hi] at *
  obtain ⟨A1, c1, e1, _⟩ := id hrd
  obtain ⟨A2, c2, e2, _⟩ := id hrb
  subst e2
  rw [e1] at hcs hrd
  clear e1
  have HFL := Lib.hid hfl
  have HRD := Lib.hid hrd
  have HRB := Lib.hid hrb
  have HW := Lib.hid hwf
  have HFT := Lib.hid hfoot
  have hgn1 : p ≠ g := fun e => hd.ne (by rw [e]; rfl)
  have hgn2 : ad ≠ g := fun e => hd2 (e ▸ hgS)
  have hgn3 : ai ≠ g := fun e => hi2 (e ▸ hgS)
  have hgn4 : ab ≠ g := fun e => hb2 (e ▸ hgS)
  clear hfl hrd hrb hwf hfoot hd hr hn hG h hh hi hgS
  have hx0 : (0 : Int) ≤ (i : Int) := Int.natCast_nonneg _
  have hx1 : (i : Int) < (xs.length : Int) := by omega
  have hgp : g < w.heap.size := World.block_lt_of_cell? w _ hcs
  have hdp : ad < w.heap.size := World.block_lt_of_cell? w _ hd1
  have hip : ai < w.heap.size := World.block_lt_of_cell? w _ hi1
  have hbp : ab < w.heap.size := World.block_lt_of_cell? w _ hb1
  go_enter Tryz.func124, Tryz.ntmps124
  go_wp2
  refine wp_region_noPanic ?_
  refine wp_region_held_drew (S := (fun w' => w'.cell? ⟨p, 0, none⟩ = some (.slice (some ⟨g, 0, none⟩) xs.length c) ∧ w'.cell? ⟨ad, 0, none⟩ = some (.pointer (some ⟨p, 0, none⟩)) ∧ w'.cell? ⟨ai, 0, none⟩ = some (.int .i64 (i : Int)) ∧ w'.cell? ⟨ab, 0, none⟩ = some (.slice A2 lb.length c2))) (by kernel_rfl) ?_ (fun hHeld => ?_)
  · exact ⟨hc0, hd1, hi1, hb1⟩
  refine wpAnyH_take (i := 0) (oi := _) (v := ?_) rfl (by kernel_rfl) (by kernel_rfl) (by kernel_rfl) (fun _ _ _ h => h) (Or.inl ⟨by rfl, ?_⟩) (by assumption) ?_
  rotate_left
  · intro w hSw
    try dsimp only at hSw
    go_simp
    try with_reducible rfl
  try simp only [Act.put, List.setIfInBounds_toArray, List.set_cons_zero, List.set_cons_succ, List.getElem_toArray, List.getElem_cons_zero, List.getElem_cons_succ]
  refine wpAnyH_take (i := 1) (oi := _) (v := ?_) rfl (by kernel_rfl) (by kernel_rfl) (by kernel_rfl) (fun _ _ _ h => h) (Or.inl ⟨by rfl, ?_⟩) (by assumption) ?_
  rotate_left
  · intro w hSw
    try dsimp only at hSw
    go_simp
    try with_reducible rfl
  try simp only [Act.put, List.setIfInBounds_toArray, List.set_cons_zero, List.set_cons_succ, List.getElem_toArray, List.getElem_cons_zero, List.getElem_cons_succ]
  refine wpAnyH_take (i := 2) (oi := _) (v := ?_) rfl (by kernel_rfl) (by kernel_rfl) (by kernel_rfl) (fun _ _ _ h => h) (Or.inl ⟨by rfl, ?_⟩) (by assumption) ?_
  rotate_left
  · intro w hSw
    try dsimp only at hSw
    go_simp
    try with_reducible rfl
  try simp only [Act.put, List.setIfInBounds_toArray, List.set_cons_zero, List.set_cons_succ, List.getElem_toArray, List.getElem_cons_zero, List.getElem_cons_succ]
  refine wpAnyH_take (i := 3) (oi := _) (v := ?_) rfl (by kernel_rfl) (by kernel_rfl) (by kernel_rfl) (fun _ _ _ h => h) (Or.inl ⟨by rfl, ?_⟩) (by assumption) ?_
  rotate_left
  · intro w hSw
    try dsimp only at hSw
    go_simp
    try with_reducible rfl
  try simp only [Act.put, List.setIfInBounds_toArray, List.set_cons_zero, List.set_cons_succ, List.getElem_toArray, List.getElem_cons_zero, List.getElem_cons_succ]
  refine wpAnyH_take (i := 4) (oi := _) (v := ?_) rfl (by kernel_rfl) (by kernel_rfl) (by kernel_rfl) (fun _ _ _ h => h) (Or.inl ⟨by rfl, ?_⟩) (by assumption) ?_
  rotate_left
  · intro w hSw
    try dsimp only at hSw
    go_simp
    try with_reducible rfl
  try simp only [Act.put, List.setIfInBounds_toArray, List.set_cons_zero, List.set_cons_succ, List.getElem_toArray, List.getElem_cons_zero, List.getElem_cons_succ]
  refine wpAnyH_take (i := 5) (oi := _) (v := ?_) rfl (by kernel_rfl) (by kernel_rfl) (by kernel_rfl) (fun _ _ _ h => h) (Or.inl ⟨by rfl, ?_⟩) (by assumption) ?_
  rotate_left
  · intro w hSw
    try dsimp only at hSw
    go_simp
    try with_reducible rfl
  try simp only [Act.put, List.setIfInBounds_toArray, List.set_cons_zero, List.set_cons_succ, List.getElem_toArray, List.getElem_cons_zero, List.getElem_cons_succ]
  refine wpAnyH_take (i := 6) (oi := _) (v := ?_) rfl (by kernel_rfl) (by kernel_rfl) (by kernel_rfl) (fun _ _ _ h => h) (Or.inl ⟨by rfl, ?_⟩) (by assumption) ?_
  rotate_left
  · intro w hSw
    try dsimp only at hSw
    go_simp
    try with_reducible rfl
  try simp only [Act.put, List.setIfInBounds_toArray, List.set_cons_zero, List.set_cons_succ, List.getElem_toArray, List.getElem_cons_zero, List.getElem_cons_succ]
  refine wpAnyH_take (i := 7) (oi := _) (v := ?_) rfl (by kernel_rfl) (by kernel_rfl) (by kernel_rfl) (fun _ _ _ h => h) (Or.inl ⟨by rfl, ?_⟩) (by assumption) ?_
  rotate_left
  · intro w hSw
    try dsimp only at hSw
    go_simp
    try with_reducible rfl
  try simp only [Act.put, List.setIfInBounds_toArray, List.set_cons_zero, List.set_cons_succ, List.getElem_toArray, List.getElem_cons_zero, List.getElem_cons_succ]
  refine wpAnyH_take (i := 8) (oi := _) (v := ?_) rfl (by kernel_rfl) (by kernel_rfl) (by kernel_rfl) (fun _ _ _ h => h) (Or.inl ⟨by rfl, ?_⟩) (by assumption) ?_
  rotate_left
  · intro w hSw
    try dsimp only at hSw
    go_simp
    try with_reducible rfl
  try simp only [Act.put, List.setIfInBounds_toArray, List.set_cons_zero, List.set_cons_succ, List.getElem_toArray, List.getElem_cons_zero, List.getElem_cons_succ]
  refine wpAnyH_take (i := 9) (oi := _) (v := ?_) rfl (by kernel_rfl) (by kernel_rfl) (by kernel_rfl) (fun _ _ _ h => h) (Or.inl ⟨by rfl, ?_⟩) (by assumption) ?_
  rotate_left
  · intro w hSw
    try dsimp only at hSw
    go_simp
    try with_reducible rfl
  try simp only [Act.put, List.setIfInBounds_toArray, List.set_cons_zero, List.set_cons_succ, List.getElem_toArray, List.getElem_cons_zero, List.getElem_cons_succ]
  refine wpAnyH_take (i := 10) (oi := _) (v := ?_) rfl (by kernel_rfl) (by kernel_rfl) (by kernel_rfl) (fun _ _ _ h => h) (Or.inl ⟨by rfl, ?_⟩) (by assumption) ?_
  rotate_left
  · intro w hSw
    try dsimp only at hSw
    go_simp
    try with_reducible rfl
  try simp only [Act.put, List.setIfInBounds_toArray, List.set_cons_zero, List.set_cons_succ, List.getElem_toArray, List.getElem_cons_zero, List.getElem_cons_succ]
  refine wpAnyH_take (i := 11) (oi := _) (v := ?_) rfl (by kernel_rfl) (by kernel_rfl) (by kernel_rfl) (fun _ _ _ h => h) (Or.inl ⟨by rfl, ?_⟩) (by assumption) ?_
  rotate_left
  · intro w hSw
    try dsimp only at hSw
    go_simp
    try with_reducible rfl
  try simp only [Act.put, List.setIfInBounds_toArray, List.set_cons_zero, List.set_cons_succ, List.getElem_toArray, List.getElem_cons_zero, List.getElem_cons_succ]
  refine wpAnyH_take (i := 13) (oi := _) (v := ?_) rfl (by kernel_rfl) (by kernel_rfl) (by kernel_rfl) (fun _ _ _ h => h) (Or.inl ⟨by rfl, ?_⟩) (by assumption) ?_
  rotate_left
  · intro w hSw
    try dsimp only at hSw
    go_simp
    try with_reducible rfl
  try simp only [Act.put, List.setIfInBounds_toArray, List.set_cons_zero, List.set_cons_succ, List.getElem_toArray, List.getElem_cons_zero, List.getElem_cons_succ]
  refine wpAnyH_ready (rs := [12]) (by kernel_rfl) (by simp) ?_
  refine AllReadyH.cons (o := _) rfl (fun K hK => ?_) AllReadyH.nil
  go_simp
  refine hK.out _ _ ?_ (fun hHeld => ?_)
  · exact ⟨hc0, hd1, hi1, hb1⟩
  clear hK K
  try simp only [Act.put, List.setIfInBounds_toArray, List.set_cons_zero, List.set_cons_succ, List.getElem_toArray, List.getElem_cons_zero, List.getElem_cons_succ]
  refine wpAnyH_ready (rs := [14]) (by kernel_rfl) (by simp) ?_
  refine AllReadyH.cons (o := _) rfl (fun K hK => ?_) AllReadyH.nil
  go_simp
  refine hK.out _ _ ?_ (fun hHeld => ?_)
  · exact ⟨cell_alloc hc0 _, cell_alloc hd1 _, cell_alloc hi1 _, cell_alloc hb1 _⟩
  clear hK K
  try simp only [Act.put, List.setIfInBounds_toArray, List.set_cons_zero, List.set_cons_succ, List.getElem_toArray, List.getElem_cons_zero, List.getElem_cons_succ]
  refine wpAnyH_ready (rs := [15]) (by kernel_rfl) (by simp) ?_
  refine AllReadyH.cons (o := _) rfl (fun K hK => ?_) AllReadyH.nil
  go_simp
  go_at_call 126
  refine (concat_here w S _ _ _ lb _ HRD.out HRB.out (by first | omega | (simp; omega)) HFT.out).mono ?_
  rintro e w2 ⟨A3, c3, rfl, hoz, hbz⟩
  have hq1 := (hbz.cell (p := ⟨g, i * 3 + 1, none⟩) hgp).trans hcs
  have hq2 := (hbz.frozen (p := ⟨g, i * 3 + 1, none⟩) hgp).trans (hfz0 (i * 3 + 1))
  have hq3 := (hbz.cell hpp).trans hc0
  have hq4 := (hbz.cell hdp).trans hd1
  have hq5 := (hbz.cell hip).trans hi1
  have hq6 := (hbz.cell hbp).trans hb1
  go_wp2
  refine hK.out _ _ ?_ (fun hHeld => ?_)
  · exact ⟨hq3, hq4, hq5, hq6⟩
  clear hK K
  try simp only [Act.put, List.setIfInBounds_toArray, List.set_cons_zero, List.set_cons_succ, List.getElem_toArray, List.getElem_cons_zero, List.getElem_cons_succ]
  refine wpAnyH_take (i := 16) (oi := _) (v := ?_) rfl (by kernel_rfl) (by kernel_rfl) (by kernel_rfl) (fun _ _ _ h => h) (Or.inl ⟨by rfl, ?_⟩) (by assumption) ?_
  rotate_left
  · intro w hSw
    try dsimp only at hSw
    go_simp
    try with_reducible rfl
  try simp only [Act.put, List.setIfInBounds_toArray, List.set_cons_zero, List.set_cons_succ, List.getElem_toArray, List.getElem_cons_zero, List.getElem_cons_succ]
  refine wpAnyH_take (i := 17) (oi := _) (v := ?_) rfl (by kernel_rfl) (by kernel_rfl) (by kernel_rfl) (fun _ _ _ h => h) (Or.inl ⟨by rfl, ?_⟩) (by assumption) ?_
  rotate_left
  · intro w hSw
    try dsimp only at hSw
    go_simp
    try with_reducible rfl
  try simp only [Act.put, List.setIfInBounds_toArray, List.set_cons_zero, List.set_cons_succ, List.getElem_toArray, List.getElem_cons_zero, List.getElem_cons_succ]
  refine wpAnyH_ready (rs := [18]) (by kernel_rfl) (by simp) ?_
  refine AllReadyH.cons (o := _) rfl (fun K hK => ?_) AllReadyH.nil
  go_simp
  refine hK.out _ _ ?_ (fun hHeld => ?_)
  · exact ⟨cell_set1 hq3 hgn1, cell_set1 hq4 hgn2, cell_set1 hq5 hgn3, cell_set1 hq6 hgn4⟩
  clear hK K
  try simp only [Act.put, List.setIfInBounds_toArray, List.set_cons_zero, List.set_cons_succ, List.getElem_toArray, List.getElem_cons_zero, List.getElem_cons_succ]
  refine wpAnyH_done (by kernel_rfl) ?_ _
  refine NoPanic.normal ?_
  go_wp2
  refine bodyPost_ret (v := .tuple #[]) (by simp [results, Tryz.results124, go_sem]) rfl ?_
  have hz : (D.files[i].b ++ lb).length = D.files[i].b.length + lb.length := List.length_append
  have hl := HFL.out w2 hbz _ hoz
  rw [hz] at hl
  exact ⟨S, rfl, hl.1.disk HW.out, hl.2, fun b hb => .inl hb⟩
end Go.Proofs.YtohpgipgfmkflaaGreatDoor
namespace Go.Proofs.YtohpgipgfmkflaaGreatDoor
set_option linter.unusedSectionVars false
variable [Base]
open Go.RowKit
set_option maxRecDepth 100000
set_option linter.unusedVariables false
set_option linter.unusedSimpArgs false
attribute [local go_sem ↓] Go.wp_at_zero Go.wp_at_succ

theorem All2.insertIdx {α β : Type} {R : α → β → Prop} {xs : List α} {ys : List β} (h : All2 R xs ys) (i : Nat) (hi : i ≤ xs.length) {x : α} {y : β} (hr : R x y) : All2 R (xs.insertIdx i x) (ys.insertIdx i y) := by
  rw [insertIdx_td _ _ _ hi, insertIdx_td _ _ _ (h.1 ▸ hi)]
  exact (h.take i).append ((All2.one hr).append (h.drop i))
def insF (nm : ByteArray) (fs : List File) : List File := fs.insertIdx (fidx fs nm) ⟨nm, [], 0⟩
def insX (nm : ByteArray) (fs : List File) (xs : List FV) : List FV := xs.insertIdx (fidx fs nm) ⟨nm, .slice none 0 0, 0⟩
structure InsFacts (w : World) (S : Nat → Prop) (p : Nat) (D : DState) (v : Value) (xs : List FV) (nm : ByteArray) (g c : Nat) (w1 : World) : Prop where
  cell : w1.cell? ⟨p, 0, none⟩ = some v
  frz : w1.frozen? ⟨p, 0, none⟩ = false
  kp : Kp S w w1
  dr : DR (w1.setCell ⟨p, 0, none⟩ (.slice (some ⟨g, 0, none⟩) (xs.length + 1) c)) (fun b => S b ∨ some g = some b) p { D with files := insF nm D.files } (.slice (some ⟨g, 0, none⟩) (xs.length + 1) c) (insX nm D.files xs)
  step : Step S (fun b => S b ∨ some g = some b) w (w1.setCell ⟨p, 0, none⟩ (.slice (some ⟨g, 0, none⟩) (xs.length + 1) c))
def InsP (w : World) (S : Nat → Prop) (p : Nat) (D : DState) (v : Value) (xs : List FV) (nm : ByteArray) (e : Ending) (w1 : World) : Prop :=
  ∃ g c, e = .returned (.slice (some ⟨g, 0, none⟩) (xs.length + 1) c) ∧ InsFacts w S p D v xs nm g c w1
theorem insert_here (w : World) (S : Nat → Prop) (p : Nat) (D : DState) (v : Value) (xs : List FV) (nm : ByteArray) (h : DR w S p D v xs) (hf : D.files.length < 200) :
    Calls Tryz.prog 125 #[v, .int .i64 (fidx D.files nm : Nat), .slice (some ⟨w.heap.size, 0, none⟩) 1 1] (w.drew.alloc (.cells #[.string nm, .slice none 0 0, .int .i64 0] 146)) (InsP w S p D v xs nm) := by
  have hB : Below w.heap.size w (w.drew.alloc (.cells #[.string nm, .slice none 0 0, .int .i64 0] 146)) := ((Below.refl w.heap.size w).drew).alloc (Nat.le_refl _) _
  have h2 := h.below hB
  have hh : (w.drew.alloc (.cells #[.string nm, .slice none 0 0, .int .i64 0] 146)).heap[w.heap.size]? = some (.cells #[.string nm, .slice none 0 0, .int .i64 0] 146 (0, 0)) := heap_alloc_new w.drew _
  have hle : fidx D.files nm ≤ xs.length := h.rep.1 ▸ fidx_le _ _
  have h1c : ∀ u ∈ flat xs, u.oneCell' = true := by
    intro u hu
    simp only [flat, List.mem_flatMap] at hu
    obtain ⟨x, hx, hu⟩ := hu
    obtain ⟨k, hk⟩ := List.getElem?_of_mem hx
    have hkx := (List.getElem?_eq_some_iff.1 hk).1
    have hr := h.rep.get k hkx (h.rep.1 ▸ hkx)
    rw [(List.getElem?_eq_some_iff.1 hk).2] at hr
    simp only [FV.cells, List.mem_cons, List.mem_nil_iff, or_false] at hu
    rcases hu with rfl | rfl | rfl
    · rfl
    · exact hr.2.2.one
    · rfl
  have hne : v.ownBlock ≠ some w.heap.size := by
    intro e
    have := (h.own.lt _ e).2
    omega
  refine (insert_any (w.drew.alloc (.cells #[.string nm, .slice none 0 0, .int .i64 0] 146)) v xs.length (fidx D.files nm) (flat xs) [.string nm, .slice none 0 0, .int .i64 0] w.heap.size 146 hle h2.own
    (fun j u hu => (cell_row hh j).trans (by simpa using hu)) rfl hh (by intro u hu; simp at hu; rcases hu with rfl | rfl | rfl <;> rfl) h1c hne (by have := h.rep.1; omega)).mono ?_
  rintro e w1 ⟨v', rfl, ho, hg, hv⟩
  have hfl : (flat xs).take (fidx D.files nm * 3) ++ [.string nm, .slice none 0 0, .int .i64 0] ++ (flat xs).drop (fidx D.files nm * 3) = flat (insX nm D.files xs) := by
    unfold insX
    rw [insertIdx_td _ _ _ hle]
    have : xs = xs.take (fidx D.files nm) ++ xs.drop (fidx D.files nm) := (List.take_append_drop _ _).symm
    have hl : (flat (xs.take (fidx D.files nm))).length = fidx D.files nm * 3 := by rw [flat_length, List.length_take]; omega
    conv => lhs; rw [this, flat_append]
    rw [List.take_append_of_le_length (by omega), List.take_of_length_le (by omega), List.drop_append_of_le_length (by omega), List.drop_eq_nil_of_le (by omega), flat_append]
    simp [flat, FV.cells]
  rw [hfl] at ho
  have hlen : (insX nm D.files xs).length = xs.length + 1 := by unfold insX; rw [List.length_insertIdx, if_pos hle]
  obtain ⟨g, c, rfl⟩ : ∃ g c, v' = .slice (some ⟨g, 0, none⟩) (xs.length + 1) c := by
    rcases ho.2 with ⟨_, h0⟩ | ⟨g, c, cur, rfl, _⟩
    · omega
    · exact ⟨g, c, rfl⟩
  have hgw : w.grownBy w1 v.ownBlock := ⟨hg.os, hg.tape, hg.output, Nat.le_trans hB.size hg.size, fun k hk hn => (hg.block k (Nat.lt_of_lt_of_le hk hB.size) hn).trans (hB.block k hk)⟩
  have hvw : (Value.slice (some ⟨g, 0, none⟩) (xs.length + 1) c).ownBlock = v.ownBlock ∨ ∃ b, (Value.slice (some ⟨g, 0, none⟩) (xs.length + 1) c).ownBlock = some b ∧ w.heap.size ≤ b := hv.imp id (fun ⟨b, e, hb⟩ => ⟨b, e, Nat.le_trans hB.size hb⟩)
  rw [← hlen] at ho
  have hS' : ∀ b, (S b ∨ some g = some b) → S b ∨ w.heap.size ≤ b := by
    rintro b (hb | hb)
    · exact .inl hb
    · rcases hvw with hv | ⟨k, hv, hk⟩
      · exact .inl (h.row b (hv ▸ hb))
      · have hv : some g = some k := hv
        have e1 := Option.some.inj hb
        have e2 := Option.some.inj hv
        exact .inr (by omega)
  have hK : Kp S w w1 := (Kp.refl S w).grown hgw (fun k hk => .inl (h.row k hk))
  have hr : All2 (FRep w1 (fun b => S b ∨ some g = some b)) (insX nm D.files xs) (insF nm D.files) :=
    (h.rep.imp fun x f ⟨a, b, c⟩ => ⟨a, b, c.kp hK hS'⟩ : All2 (FRep w1 (fun b => S b ∨ some g = some b)) xs D.files).insertIdx _ hle ⟨rfl, rfl, RdB.nil _ _⟩
  have hp := h.put (v' := .slice (some ⟨g, 0, none⟩) (xs.length + 1) c) hgw (by rw [← hlen]; exact ho) hvw hr
  refine ⟨g, c, rfl, ?_, ?_, hK, hp.1, hp.2⟩
  · exact (World.cell?_of_block (hgw.block p h.lt (fun e => h.ne e.symm))).trans h.dcells.c0
  · exact (World.frozen?_of_block (hgw.block p h.lt (fun e => h.ne e.symm))).trans (h.dcells.fz 0)
set_option maxHeartbeats 2000000 in
theorem append1_no (w : World) (S : Nat → Prop) (p : Nat) (D : DState) (nm : ByteArray) (vb : Value) (lb : List UInt8) (ao ad ai an ab : Nat) (h : Disk w S p D) (hc : AppCaps w S p nm (fidx D.files nm) false vb lb ao ad ai an ab)
    (hh : hasF D.files nm = false) (hu : usedF D.files + lb.length ≤ D.room) (hf : D.files.length < 200) :
    Calls Tryz.prog 124 #[.pointer (some ⟨ao, 0, none⟩), .pointer (some ⟨ad, 0, none⟩), .pointer (some ⟨ai, 0, none⟩), .pointer (some ⟨an, 0, none⟩), .pointer (some ⟨ab, 0, none⟩)] w (DoPost w S p { D with files := addF nm lb D.files }) := by
  obtain ⟨v, xs, hd⟩ := h.dr
  have hG : addF nm lb D.files = (insF nm D.files).set (fidx D.files nm) ⟨nm, lb, 0⟩ := by
    unfold addF insF
    rw [if_neg (by rw [hh]; simp), insertIdx_td _ _ _ (fidx_le _ _), insertIdx_td _ _ _ (fidx_le _ _), List.set_append_right _ _ (by rw [List.length_take]; omega)]
    rw [List.length_take, Nat.min_eq_left (fidx_le _ _), Nat.sub_self]
    rfl
  have hwf : DState.WF { D with files := addF nm lb D.files } := by
    have := h.wf.insert ⟨nm, lb, 0⟩ hh (Nat.zero_le _) hf hu
    unfold addF
    rw [if_neg (by rw [hh]; simp)]
    exact this
  have hil : (insF nm D.files).length = D.files.length + 1 := by unfold insF; rw [List.length_insertIdx, if_pos (fidx_le _ _)]
  have hix : (insX nm D.files xs).length = xs.length + 1 := by unfold insX; rw [List.length_insertIdx, if_pos (hd.rep.1 ▸ fidx_le _ _)]
  have hlef : fidx D.files nm ≤ D.files.length := fidx_le _ _
  have hlex : fidx D.files nm ≤ xs.length := hd.rep.1 ▸ hlef
  have hxi : (insX nm D.files xs)[fidx D.files nm]'(by omega) = ⟨nm, .slice none 0 0, 0⟩ := by
    unfold insX
    simp only [List.getElem_insertIdx_self]
  have HI := Lib.hid (insert_here w S p D v xs nm hd hf)
  have hlen : lb.length ≤ 16777216 := by have := h.wf.room; omega
  have hc0 := hd.dcells.c0
  have hfz := hd.dcells.fz 0
  have hpp := hd.lt
  have HX := Lib.hid (show ∀ (g c : Nat) (w1 : World), InsFacts w S p D v xs nm g c w1 → ∀ w2 : World, Below (w1.setCell ⟨p, 0, none⟩ (.slice (some ⟨g, 0, none⟩) (xs.length + 1) c)).heap.size (w1.setCell ⟨p, 0, none⟩ (.slice (some ⟨g, 0, none⟩) (xs.length + 1) c)) w2 → ∀ u : Value, RdB w2 (fun b => S b ∨ some g = some b) u lb →
      DoPost w S p { D with files := addF nm lb D.files } (.returned (.tuple #[])) (w2.setCell ⟨g, fidx D.files nm * 3 + 1, none⟩ u) from by
    intro g c w1 hi w2 hb u hu
    have := hi.dr.field (by rw [hix]) hb (fidx D.files nm) 1 (by omega) (by omega) (by show _ < (insF nm D.files).length; omega) u ⟨nm, u, 0⟩ ⟨nm, lb, 0⟩ (by rw [hxi]; rfl) ⟨rfl, rfl, hu⟩
    refine ⟨_, rfl, ?_, hi.step.trans ⟨this.2, fun b hb => .inl hb⟩⟩
    rw [hG] at hwf ⊢
    exact this.1.disk hwf)
  obtain ⟨⟨ho1, ho2⟩, ⟨hd1', hd2⟩, ⟨hi1', hi2⟩, ⟨hn1, hn2⟩, ⟨hb1', hb2⟩, hrb⟩ := hc
  obtain ⟨A2, c2, e2, _⟩ := id hrb
  subst e2
  have HRBw := Lib.hid hrb
  have hdp0 : ad < w.heap.size := World.block_lt_of_cell? w _ hd1'
  have hip0 : ai < w.heap.size := World.block_lt_of_cell? w _ hi1'
  have hnp0 : an < w.heap.size := World.block_lt_of_cell? w _ hn1
  have hbp0 : ab < w.heap.size := World.block_lt_of_cell? w _ hb1'
  have hpS : S p := hd.mine
  have HF := Lib.hid (show ∀ (g c : Nat) (w1 : World), InsFacts w S p D v xs nm g c w1 → ∀ a : Nat, a < w.heap.size → ¬ S a → (a ≠ p ∧ a ≠ g ∧ ∀ u : Value, w.cell? ⟨a, 0, none⟩ = some u → w1.cell? ⟨a, 0, none⟩ = some u) from by
    intro g c w1 hi a ha hn
    refine ⟨fun e => hn (e ▸ hpS), fun e => ?_, fun u hu => hi.kp.cell hu hn⟩
    rcases hi.step.fresh g (.inr rfl) with h1 | h1
    · exact hn (e ▸ h1)
    · omega)
  have HP := Lib.hid (show ∀ (g c : Nat) (w1 : World), InsFacts w S p D v xs nm g c w1 → (p ≠ g ∧ g < (w1.setCell ⟨p, 0, none⟩ (.slice (some ⟨g, 0, none⟩) (xs.length + 1) c)).heap.size ∧ p < (w1.setCell ⟨p, 0, none⟩ (.slice (some ⟨g, 0, none⟩) (xs.length + 1) c)).heap.size ∧ (w1.setCell ⟨p, 0, none⟩ (.slice (some ⟨g, 0, none⟩) (xs.length + 1) c)).cell? ⟨p, 0, none⟩ = some (.slice (some ⟨g, 0, none⟩) (xs.length + 1) c)
      ∧ (w1.setCell ⟨p, 0, none⟩ (.slice (some ⟨g, 0, none⟩) (xs.length + 1) c)).cell? ⟨g, fidx D.files nm * 3 + 1, none⟩ = some (.slice none 0 0) ∧ (∀ j, (w1.setCell ⟨p, 0, none⟩ (.slice (some ⟨g, 0, none⟩) (xs.length + 1) c)).frozen? ⟨g, j, none⟩ = false)
      ∧ ∀ b, (S b ∨ some g = some b) → b < (w1.setCell ⟨p, 0, none⟩ (.slice (some ⟨g, 0, none⟩) (xs.length + 1) c)).heap.size) from by
    intro g c w1 hi
    have hn := NamesAt.ofOwn (g := g) (c := c) (n := xs.length + 1) (by have := hi.dr.own; rw [hix] at this; exact this)
    have h2 := (hn (fidx D.files nm) (by omega)).2.1
    rw [hxi] at h2
    exact ⟨fun e => hi.dr.ne (by rw [e]; rfl), hi.dr.foot g (.inr rfl), hi.dr.lt, hi.dr.dcells.c0, h2, (by have := hi.dr.own; rw [hix] at this; exact this.frozenAt), hi.dr.foot⟩)
  have HB := Lib.hid (show ∀ (g c : Nat) (w1 : World), InsFacts w S p D v xs nm g c w1 → RdB (w1.setCell ⟨p, 0, none⟩ (.slice (some ⟨g, 0, none⟩) (xs.length + 1) c)) (fun b => S b ∨ some g = some b) (.slice A2 lb.length c2) lb from fun g c w1 hi => hrb.kp hi.step.kp hi.step.fresh)
  obtain ⟨i, hi⟩ : ∃ i, fidx D.files nm = i := ⟨_, rfl⟩
  simp only [hi] at *
  have hx0 : (0 : Int) ≤ (i : Int) := Int.natCast_nonneg _
  clear h hh hG hwf hil hix hxi hlef hd hrb hi hpS
  go_enter Tryz.func124, Tryz.ntmps124
  go_wp2
  refine wp_region_noPanic ?_
  refine wp_region_held_drew (S := (fun w' => w'.cell? ⟨ad, 0, none⟩ = some (.pointer (some ⟨p, 0, none⟩)) ∧ w'.cell? ⟨ai, 0, none⟩ = some (.int .i64 (i : Int)) ∧ w'.cell? ⟨an, 0, none⟩ = some (.string nm))) (by kernel_rfl) ?_ (fun hHeld => ?_)
  · exact ⟨hd1', hi1', hn1⟩
  refine wpAnyH_take (i := 0) (oi := _) (v := ?_) rfl (by kernel_rfl) (by kernel_rfl) (by kernel_rfl) (fun _ _ _ h => h) (Or.inl ⟨by rfl, ?_⟩) (by assumption) ?_
  rotate_left
  · intro w hSw
    try dsimp only at hSw
    go_simp
    try with_reducible rfl
  try simp only [Act.put, List.setIfInBounds_toArray, List.set_cons_zero, List.set_cons_succ, List.getElem_toArray, List.getElem_cons_zero, List.getElem_cons_succ]
  refine wpAnyH_take (i := 1) (oi := _) (v := ?_) rfl (by kernel_rfl) (by kernel_rfl) (by kernel_rfl) (fun _ _ _ h => h) (Or.inl ⟨by rfl, ?_⟩) (by assumption) ?_
  rotate_left
  · intro w hSw
    try dsimp only at hSw
    go_simp
    try with_reducible rfl
  try simp only [Act.put, List.setIfInBounds_toArray, List.set_cons_zero, List.set_cons_succ, List.getElem_toArray, List.getElem_cons_zero, List.getElem_cons_succ]
  refine wpAnyH_take (i := 2) (oi := _) (v := ?_) rfl (by kernel_rfl) (by kernel_rfl) (by kernel_rfl) (fun _ _ _ h => h) (Or.inl ⟨by rfl, ?_⟩) (by assumption) ?_
  rotate_left
  · intro w hSw
    try dsimp only at hSw
    go_simp
    try with_reducible rfl
  try simp only [Act.put, List.setIfInBounds_toArray, List.set_cons_zero, List.set_cons_succ, List.getElem_toArray, List.getElem_cons_zero, List.getElem_cons_succ]
  refine wpAnyH_take (i := 3) (oi := _) (v := ?_) rfl (by kernel_rfl) (by kernel_rfl) (by kernel_rfl) (fun _ _ _ h => h) (Or.inl ⟨by rfl, ?_⟩) (by assumption) ?_
  rotate_left
  · intro w hSw
    try dsimp only at hSw
    go_simp
    try with_reducible rfl
  try simp only [Act.put, List.setIfInBounds_toArray, List.set_cons_zero, List.set_cons_succ, List.getElem_toArray, List.getElem_cons_zero, List.getElem_cons_succ]
  refine wpAnyH_take (i := 5) (oi := _) (v := ?_) rfl (by kernel_rfl) (by kernel_rfl) (by kernel_rfl) (fun _ _ _ h => h) (Or.inl ⟨by rfl, ?_⟩) (by assumption) ?_
  rotate_left
  · intro w hSw
    try dsimp only at hSw
    go_simp
    try with_reducible rfl
  try simp only [Act.put, List.setIfInBounds_toArray, List.set_cons_zero, List.set_cons_succ, List.getElem_toArray, List.getElem_cons_zero, List.getElem_cons_succ]
  refine wpAnyH_take (i := 6) (oi := _) (v := ?_) rfl (by kernel_rfl) (by kernel_rfl) (by kernel_rfl) (fun _ _ _ h => h) (Or.inl ⟨by rfl, ?_⟩) (by assumption) ?_
  rotate_left
  · intro w hSw
    try dsimp only at hSw
    go_simp
    try with_reducible rfl
  try simp only [Act.put, List.setIfInBounds_toArray, List.set_cons_zero, List.set_cons_succ, List.getElem_toArray, List.getElem_cons_zero, List.getElem_cons_succ]
  refine wpAnyH_take (i := 7) (oi := _) (v := ?_) rfl (by kernel_rfl) (by kernel_rfl) (by kernel_rfl) (fun _ _ _ h => h) (Or.inl ⟨by rfl, ?_⟩) (by assumption) ?_
  rotate_left
  · intro w hSw
    try dsimp only at hSw
    go_simp
    try with_reducible rfl
  try simp only [Act.put, List.setIfInBounds_toArray, List.set_cons_zero, List.set_cons_succ, List.getElem_toArray, List.getElem_cons_zero, List.getElem_cons_succ]
  refine wpAnyH_ready (rs := [4, 8]) (by kernel_rfl) (by simp) ?_
  refine AllReadyH.cons (o := _) rfl (fun K hK => ?_) (AllReadyH.cons (o := _) rfl (fun K hK => ?_) AllReadyH.nil)
  · go_simp
    refine hK.out _ _ ?_ (fun hHeld => ?_)
    · exact ⟨hd1', hi1', hn1⟩
    clear hK K
    try simp only [Act.put, List.setIfInBounds_toArray, List.set_cons_zero, List.set_cons_succ, List.getElem_toArray, List.getElem_cons_zero, List.getElem_cons_succ]
    refine wpAnyH_ready (rs := [8]) (by kernel_rfl) (by simp) ?_
    refine AllReadyH.cons (o := _) rfl (fun K hK => ?_) AllReadyH.nil
    go_simp
    refine hK.out _ _ ?_ (fun hHeld => ?_)
    · exact ⟨cell_alloc hd1' _, cell_alloc hi1' _, cell_alloc hn1 _⟩
    clear hK K
    try simp only [Act.put, List.setIfInBounds_toArray, List.set_cons_zero, List.set_cons_succ, List.getElem_toArray, List.getElem_cons_zero, List.getElem_cons_succ]
    refine wpAnyH_ready (rs := [9]) (by kernel_rfl) (by simp) ?_
    refine AllReadyH.cons (o := _) rfl (fun K hK => ?_) AllReadyH.nil
    go_simp
    go_at_call 125
    refine HI.out.mono ?_
    rintro e w1 ⟨g, c, rfl, hif⟩
    have hq1 := hif.cell
    have hq2 := hif.frz
    have hq4 := (HF.out g c w1 hif ad hdp0 hd2).2.2 _ hd1'
    have hq5 := (HF.out g c w1 hif ai hip0 hi2).2.2 _ hi1'
    have hq6 := (HF.out g c w1 hif an hnp0 hn2).2.2 _ hn1
    have hn4 := (HF.out g c w1 hif ad hdp0 hd2).1
    have hn5 := (HF.out g c w1 hif ai hip0 hi2).1
    have hn6 := (HF.out g c w1 hif an hnp0 hn2).1
    have HFC := Lib.hid hif
    clear hif
    go_wp2
    refine hK.out _ _ ?_ (fun hHeld => ?_)
    · exact ⟨hq4, hq5, hq6⟩
    clear hK K
    try simp only [Act.put, List.setIfInBounds_toArray, List.set_cons_zero, List.set_cons_succ, List.getElem_toArray, List.getElem_cons_zero, List.getElem_cons_succ]
    refine wpAnyH_take (i := 10) (oi := _) (v := ?_) rfl (by kernel_rfl) (by kernel_rfl) (by kernel_rfl) (fun _ _ _ h => h) (Or.inl ⟨by rfl, ?_⟩) (by assumption) ?_
    rotate_left
    · intro w hSw
      try dsimp only at hSw
      go_simp
      try with_reducible rfl
    try simp only [Act.put, List.setIfInBounds_toArray, List.set_cons_zero, List.set_cons_succ, List.getElem_toArray, List.getElem_cons_zero, List.getElem_cons_succ]
    refine wpAnyH_take (i := 11) (oi := _) (v := ?_) rfl (by kernel_rfl) (by kernel_rfl) (by kernel_rfl) (fun _ _ _ h => h) (Or.inl ⟨by rfl, ?_⟩) (by assumption) ?_
    rotate_left
    · intro w hSw
      try dsimp only at hSw
      go_simp
      try with_reducible rfl
    try simp only [Act.put, List.setIfInBounds_toArray, List.set_cons_zero, List.set_cons_succ, List.getElem_toArray, List.getElem_cons_zero, List.getElem_cons_succ]
    refine wpAnyH_ready (rs := [12]) (by kernel_rfl) (by simp) ?_
    refine AllReadyH.cons (o := _) rfl (fun K hK => ?_) AllReadyH.nil
    go_simp
    refine hK.out _ _ ?_ (fun hHeld => ?_)
    · exact ⟨cell_set1 hq4 hn4, cell_set1 hq5 hn5, cell_set1 hq6 hn6⟩
    clear hK K
    try simp only [Act.put, List.setIfInBounds_toArray, List.set_cons_zero, List.set_cons_succ, List.getElem_toArray, List.getElem_cons_zero, List.getElem_cons_succ]
    refine wpAnyH_done (by kernel_rfl) ?_ _
    refine NoPanic.normal ?_
    go_wp2
    obtain ⟨hgn1, hgp, hpp3, hc3, hcs3, hfz0, hft⟩ := HP.out g c w1 HFC.out
    have hd1 := cell_set1 (u := .slice (some ⟨g, 0, none⟩) (xs.length + 1) c) (j := 0) hq4 hn4
    have hi1 := cell_set1 (u := .slice (some ⟨g, 0, none⟩) (xs.length + 1) c) (j := 0) hq5 hn5
    have hb1 := cell_set1 (u := .slice (some ⟨g, 0, none⟩) (xs.length + 1) c) (j := 0) ((HF.out g c w1 HFC.out ab hbp0 hb2).2.2 _ hb1') (HF.out g c w1 HFC.out ab hbp0 hb2).1
    have hgn2 := (HF.out g c w1 HFC.out ad hdp0 hd2).2.1
    have hgn3 := (HF.out g c w1 HFC.out ai hip0 hi2).2.1
    have hgn4 := (HF.out g c w1 HFC.out ab hbp0 hb2).2.1
    have HRB := Lib.hid (HB.out g c w1 HFC.out)
    have HL := Lib.hid (HX.out g c w1 HFC.out)
    clear HX HP HF HB HFC HI hq1 hq2 hq4 hq5 hq6 hHeld hd1' hi1' hn1 hb1' hc0 hfz
    generalize hW3 : w1.setCell ⟨p, 0, none⟩ (.slice (some ⟨g, 0, none⟩) (xs.length + 1) c) = W3 at hgp hpp3 hc3 hcs3 hfz0 hft hd1 hi1 hb1 HRB HL ⊢
    have hdp : ad < W3.heap.size := World.block_lt_of_cell? W3 _ hd1
    have hip : ai < W3.heap.size := World.block_lt_of_cell? W3 _ hi1
    have hbp : ab < W3.heap.size := World.block_lt_of_cell? W3 _ hb1
    have hc0 := hc3
    have hpp := hpp3
    have hcs := hcs3
    have HRD := Lib.hid (RdB.nil W3 (fun b => S b ∨ some g = some b))
    have HFT := Lib.hid hft
    clear hft hc3 hpp3 hcs3
    have hx1 : (i : Int) < ((xs.length + 1 : Nat) : Int) := by omega
    have hx2 : (i : Int) < (xs.length : Int) + 1 := by omega
    refine wp_region_noPanic ?_
    refine wp_region_held_drew (S := (fun w' => w'.cell? ⟨p, 0, none⟩ = some (.slice (some ⟨g, 0, none⟩) (xs.length+1) c) ∧ w'.cell? ⟨ad, 0, none⟩ = some (.pointer (some ⟨p, 0, none⟩)) ∧ w'.cell? ⟨ai, 0, none⟩ = some (.int .i64 (i : Int)) ∧ w'.cell? ⟨ab, 0, none⟩ = some (.slice A2 lb.length c2))) (by kernel_rfl) ?_ (fun hHeld => ?_)
    · exact ⟨hc0, hd1, hi1, hb1⟩
    refine wpAnyH_take (i := 0) (oi := _) (v := ?_) rfl (by kernel_rfl) (by kernel_rfl) (by kernel_rfl) (fun _ _ _ h => h) (Or.inl ⟨by rfl, ?_⟩) (by assumption) ?_
    rotate_left
    · intro w hSw
      try dsimp only at hSw
      go_simp
      try with_reducible rfl
    try simp only [Act.put, List.setIfInBounds_toArray, List.set_cons_zero, List.set_cons_succ, List.getElem_toArray, List.getElem_cons_zero, List.getElem_cons_succ]
    refine wpAnyH_take (i := 1) (oi := _) (v := ?_) rfl (by kernel_rfl) (by kernel_rfl) (by kernel_rfl) (fun _ _ _ h => h) (Or.inl ⟨by rfl, ?_⟩) (by assumption) ?_
    rotate_left
    · intro w hSw
      try dsimp only at hSw
      go_simp
      try with_reducible rfl
    try simp only [Act.put, List.setIfInBounds_toArray, List.set_cons_zero, List.set_cons_succ, List.getElem_toArray, List.getElem_cons_zero, List.getElem_cons_succ]
    refine wpAnyH_take (i := 2) (oi := _) (v := ?_) rfl (by kernel_rfl) (by kernel_rfl) (by kernel_rfl) (fun _ _ _ h => h) (Or.inl ⟨by rfl, ?_⟩) (by assumption) ?_
    rotate_left
    · intro w hSw
      try dsimp only at hSw
      go_simp
      try with_reducible rfl
    try simp only [Act.put, List.setIfInBounds_toArray, List.set_cons_zero, List.set_cons_succ, List.getElem_toArray, List.getElem_cons_zero, List.getElem_cons_succ]
    refine wpAnyH_take (i := 3) (oi := _) (v := ?_) rfl (by kernel_rfl) (by kernel_rfl) (by kernel_rfl) (fun _ _ _ h => h) (Or.inl ⟨by rfl, ?_⟩) (by assumption) ?_
    rotate_left
    · intro w hSw
      try dsimp only at hSw
      go_simp
      try with_reducible rfl
    try simp only [Act.put, List.setIfInBounds_toArray, List.set_cons_zero, List.set_cons_succ, List.getElem_toArray, List.getElem_cons_zero, List.getElem_cons_succ]
    refine wpAnyH_take (i := 4) (oi := _) (v := ?_) rfl (by kernel_rfl) (by kernel_rfl) (by kernel_rfl) (fun _ _ _ h => h) (Or.inl ⟨by rfl, ?_⟩) (by assumption) ?_
    rotate_left
    · intro w hSw
      try dsimp only at hSw
      go_simp
      try with_reducible rfl
    try simp only [Act.put, List.setIfInBounds_toArray, List.set_cons_zero, List.set_cons_succ, List.getElem_toArray, List.getElem_cons_zero, List.getElem_cons_succ]
    refine wpAnyH_take (i := 5) (oi := _) (v := ?_) rfl (by kernel_rfl) (by kernel_rfl) (by kernel_rfl) (fun _ _ _ h => h) (Or.inl ⟨by rfl, ?_⟩) (by assumption) ?_
    rotate_left
    · intro w hSw
      try dsimp only at hSw
      go_simp
      try with_reducible rfl
    try simp only [Act.put, List.setIfInBounds_toArray, List.set_cons_zero, List.set_cons_succ, List.getElem_toArray, List.getElem_cons_zero, List.getElem_cons_succ]
    refine wpAnyH_take (i := 6) (oi := _) (v := ?_) rfl (by kernel_rfl) (by kernel_rfl) (by kernel_rfl) (fun _ _ _ h => h) (Or.inl ⟨by rfl, ?_⟩) (by assumption) ?_
    rotate_left
    · intro w hSw
      try dsimp only at hSw
      go_simp
      try with_reducible rfl
    try simp only [Act.put, List.setIfInBounds_toArray, List.set_cons_zero, List.set_cons_succ, List.getElem_toArray, List.getElem_cons_zero, List.getElem_cons_succ]
    refine wpAnyH_take (i := 7) (oi := _) (v := ?_) rfl (by kernel_rfl) (by kernel_rfl) (by kernel_rfl) (fun _ _ _ h => h) (Or.inl ⟨by rfl, ?_⟩) (by assumption) ?_
    rotate_left
    · intro w hSw
      try dsimp only at hSw
      go_simp
      try with_reducible rfl
    try simp only [Act.put, List.setIfInBounds_toArray, List.set_cons_zero, List.set_cons_succ, List.getElem_toArray, List.getElem_cons_zero, List.getElem_cons_succ]
    refine wpAnyH_take (i := 8) (oi := _) (v := ?_) rfl (by kernel_rfl) (by kernel_rfl) (by kernel_rfl) (fun _ _ _ h => h) (Or.inl ⟨by rfl, ?_⟩) (by assumption) ?_
    rotate_left
    · intro w hSw
      try dsimp only at hSw
      go_simp
      try with_reducible rfl
    try simp only [Act.put, List.setIfInBounds_toArray, List.set_cons_zero, List.set_cons_succ, List.getElem_toArray, List.getElem_cons_zero, List.getElem_cons_succ]
    refine wpAnyH_take (i := 9) (oi := _) (v := ?_) rfl (by kernel_rfl) (by kernel_rfl) (by kernel_rfl) (fun _ _ _ h => h) (Or.inl ⟨by rfl, ?_⟩) (by assumption) ?_
    rotate_left
    · intro w hSw
      try dsimp only at hSw
      go_simp
      try with_reducible rfl
    try simp only [Act.put, List.setIfInBounds_toArray, List.set_cons_zero, List.set_cons_succ, List.getElem_toArray, List.getElem_cons_zero, List.getElem_cons_succ]
    refine wpAnyH_take (i := 10) (oi := _) (v := ?_) rfl (by kernel_rfl) (by kernel_rfl) (by kernel_rfl) (fun _ _ _ h => h) (Or.inl ⟨by rfl, ?_⟩) (by assumption) ?_
    rotate_left
    · intro w hSw
      try dsimp only at hSw
      go_simp
      try with_reducible rfl
    try simp only [Act.put, List.setIfInBounds_toArray, List.set_cons_zero, List.set_cons_succ, List.getElem_toArray, List.getElem_cons_zero, List.getElem_cons_succ]
    refine wpAnyH_take (i := 11) (oi := _) (v := ?_) rfl (by kernel_rfl) (by kernel_rfl) (by kernel_rfl) (fun _ _ _ h => h) (Or.inl ⟨by rfl, ?_⟩) (by assumption) ?_
    rotate_left
    · intro w hSw
      try dsimp only at hSw
      go_simp
      try with_reducible rfl
    try simp only [Act.put, List.setIfInBounds_toArray, List.set_cons_zero, List.set_cons_succ, List.getElem_toArray, List.getElem_cons_zero, List.getElem_cons_succ]
    refine wpAnyH_take (i := 13) (oi := _) (v := ?_) rfl (by kernel_rfl) (by kernel_rfl) (by kernel_rfl) (fun _ _ _ h => h) (Or.inl ⟨by rfl, ?_⟩) (by assumption) ?_
    rotate_left
    · intro w hSw
      try dsimp only at hSw
      go_simp
      try with_reducible rfl
    try simp only [Act.put, List.setIfInBounds_toArray, List.set_cons_zero, List.set_cons_succ, List.getElem_toArray, List.getElem_cons_zero, List.getElem_cons_succ]
    refine wpAnyH_ready (rs := [12]) (by kernel_rfl) (by simp) ?_
    refine AllReadyH.cons (o := _) rfl (fun K hK => ?_) AllReadyH.nil
    go_simp
    refine hK.out _ _ ?_ (fun hHeld => ?_)
    · exact ⟨hc0, hd1, hi1, hb1⟩
    clear hK K
    try simp only [Act.put, List.setIfInBounds_toArray, List.set_cons_zero, List.set_cons_succ, List.getElem_toArray, List.getElem_cons_zero, List.getElem_cons_succ]
    refine wpAnyH_ready (rs := [14]) (by kernel_rfl) (by simp) ?_
    refine AllReadyH.cons (o := _) rfl (fun K hK => ?_) AllReadyH.nil
    go_simp
    refine hK.out _ _ ?_ (fun hHeld => ?_)
    · exact ⟨cell_alloc hc0 _, cell_alloc hd1 _, cell_alloc hi1 _, cell_alloc hb1 _⟩
    clear hK K
    try simp only [Act.put, List.setIfInBounds_toArray, List.set_cons_zero, List.set_cons_succ, List.getElem_toArray, List.getElem_cons_zero, List.getElem_cons_succ]
    refine wpAnyH_ready (rs := [15]) (by kernel_rfl) (by simp) ?_
    refine AllReadyH.cons (o := _) rfl (fun K hK => ?_) AllReadyH.nil
    go_simp
    go_at_call 126
    refine (concat_here W3 _ _ _ _ lb _ HRD.out HRB.out (by first | omega | (simp; omega)) HFT.out).mono ?_
    rintro e w2 ⟨A3, c3, rfl, hoz, hbz⟩
    have hq1 := (hbz.cell (p := ⟨g, i * 3 + 1, none⟩) hgp).trans hcs
    have hq2 := (hbz.frozen (p := ⟨g, i * 3 + 1, none⟩) hgp).trans (hfz0 (i * 3 + 1))
    have hq3 := (hbz.cell hpp).trans hc0
    have hq4 := (hbz.cell hdp).trans hd1
    have hq5 := (hbz.cell hip).trans hi1
    have hq6 := (hbz.cell hbp).trans hb1
    go_wp2
    refine hK.out _ _ ?_ (fun hHeld => ?_)
    · exact ⟨hq3, hq4, hq5, hq6⟩
    clear hK K
    try simp only [Act.put, List.setIfInBounds_toArray, List.set_cons_zero, List.set_cons_succ, List.getElem_toArray, List.getElem_cons_zero, List.getElem_cons_succ]
    refine wpAnyH_take (i := 16) (oi := _) (v := ?_) rfl (by kernel_rfl) (by kernel_rfl) (by kernel_rfl) (fun _ _ _ h => h) (Or.inl ⟨by rfl, ?_⟩) (by assumption) ?_
    rotate_left
    · intro w hSw
      try dsimp only at hSw
      go_simp
      try with_reducible rfl
    try simp only [Act.put, List.setIfInBounds_toArray, List.set_cons_zero, List.set_cons_succ, List.getElem_toArray, List.getElem_cons_zero, List.getElem_cons_succ]
    refine wpAnyH_take (i := 17) (oi := _) (v := ?_) rfl (by kernel_rfl) (by kernel_rfl) (by kernel_rfl) (fun _ _ _ h => h) (Or.inl ⟨by rfl, ?_⟩) (by assumption) ?_
    rotate_left
    · intro w hSw
      try dsimp only at hSw
      go_simp
      try with_reducible rfl
    try simp only [Act.put, List.setIfInBounds_toArray, List.set_cons_zero, List.set_cons_succ, List.getElem_toArray, List.getElem_cons_zero, List.getElem_cons_succ]
    refine wpAnyH_ready (rs := [18]) (by kernel_rfl) (by simp) ?_
    refine AllReadyH.cons (o := _) rfl (fun K hK => ?_) AllReadyH.nil
    go_simp
    refine hK.out _ _ ?_ (fun hHeld => ?_)
    · exact ⟨cell_set1 hq3 hgn1, cell_set1 hq4 hgn2, cell_set1 hq5 hgn3, cell_set1 hq6 hgn4⟩
    clear hK K
    try simp only [Act.put, List.setIfInBounds_toArray, List.set_cons_zero, List.set_cons_succ, List.getElem_toArray, List.getElem_cons_zero, List.getElem_cons_succ]
    refine wpAnyH_done (by kernel_rfl) ?_ _
    refine NoPanic.normal ?_
    go_wp2
    refine bodyPost_ret (v := .tuple #[]) (by simp [results, Tryz.results124, go_sem]) rfl ?_
    exact HL.out w2 hbz _ hoz
  · go_simp
    refine hK.out _ _ ?_ (fun hHeld => ?_)
    · exact ⟨cell_alloc hd1' _, cell_alloc hi1' _, cell_alloc hn1 _⟩
    clear hK K
    try simp only [Act.put, List.setIfInBounds_toArray, List.set_cons_zero, List.set_cons_succ, List.getElem_toArray, List.getElem_cons_zero, List.getElem_cons_succ]
    refine wpAnyH_ready (rs := [4]) (by kernel_rfl) (by simp) ?_
    refine AllReadyH.cons (o := _) rfl (fun K hK => ?_) AllReadyH.nil
    go_simp
    refine hK.out _ _ ?_ (fun hHeld => ?_)
    · exact ⟨cell_alloc hd1' _, cell_alloc hi1' _, cell_alloc hn1 _⟩
    clear hK K
    try simp only [Act.put, List.setIfInBounds_toArray, List.set_cons_zero, List.set_cons_succ, List.getElem_toArray, List.getElem_cons_zero, List.getElem_cons_succ]
    refine wpAnyH_ready (rs := [9]) (by kernel_rfl) (by simp) ?_
    refine AllReadyH.cons (o := _) rfl (fun K hK => ?_) AllReadyH.nil
    go_simp
    go_at_call 125
    refine HI.out.mono ?_
    rintro e w1 ⟨g, c, rfl, hif⟩
    have hq1 := hif.cell
    have hq2 := hif.frz
    have hq4 := (HF.out g c w1 hif ad hdp0 hd2).2.2 _ hd1'
    have hq5 := (HF.out g c w1 hif ai hip0 hi2).2.2 _ hi1'
    have hq6 := (HF.out g c w1 hif an hnp0 hn2).2.2 _ hn1
    have hn4 := (HF.out g c w1 hif ad hdp0 hd2).1
    have hn5 := (HF.out g c w1 hif ai hip0 hi2).1
    have hn6 := (HF.out g c w1 hif an hnp0 hn2).1
    have HFC := Lib.hid hif
    clear hif
    go_wp2
    refine hK.out _ _ ?_ (fun hHeld => ?_)
    · exact ⟨hq4, hq5, hq6⟩
    clear hK K
    try simp only [Act.put, List.setIfInBounds_toArray, List.set_cons_zero, List.set_cons_succ, List.getElem_toArray, List.getElem_cons_zero, List.getElem_cons_succ]
    refine wpAnyH_take (i := 10) (oi := _) (v := ?_) rfl (by kernel_rfl) (by kernel_rfl) (by kernel_rfl) (fun _ _ _ h => h) (Or.inl ⟨by rfl, ?_⟩) (by assumption) ?_
    rotate_left
    · intro w hSw
      try dsimp only at hSw
      go_simp
      try with_reducible rfl
    try simp only [Act.put, List.setIfInBounds_toArray, List.set_cons_zero, List.set_cons_succ, List.getElem_toArray, List.getElem_cons_zero, List.getElem_cons_succ]
    refine wpAnyH_take (i := 11) (oi := _) (v := ?_) rfl (by kernel_rfl) (by kernel_rfl) (by kernel_rfl) (fun _ _ _ h => h) (Or.inl ⟨by rfl, ?_⟩) (by assumption) ?_
    rotate_left
    · intro w hSw
      try dsimp only at hSw
      go_simp
      try with_reducible rfl
    try simp only [Act.put, List.setIfInBounds_toArray, List.set_cons_zero, List.set_cons_succ, List.getElem_toArray, List.getElem_cons_zero, List.getElem_cons_succ]
    refine wpAnyH_ready (rs := [12]) (by kernel_rfl) (by simp) ?_
    refine AllReadyH.cons (o := _) rfl (fun K hK => ?_) AllReadyH.nil
    go_simp
    refine hK.out _ _ ?_ (fun hHeld => ?_)
    · exact ⟨cell_set1 hq4 hn4, cell_set1 hq5 hn5, cell_set1 hq6 hn6⟩
    clear hK K
    try simp only [Act.put, List.setIfInBounds_toArray, List.set_cons_zero, List.set_cons_succ, List.getElem_toArray, List.getElem_cons_zero, List.getElem_cons_succ]
    refine wpAnyH_done (by kernel_rfl) ?_ _
    refine NoPanic.normal ?_
    go_wp2
    obtain ⟨hgn1, hgp, hpp3, hc3, hcs3, hfz0, hft⟩ := HP.out g c w1 HFC.out
    have hd1 := cell_set1 (u := .slice (some ⟨g, 0, none⟩) (xs.length + 1) c) (j := 0) hq4 hn4
    have hi1 := cell_set1 (u := .slice (some ⟨g, 0, none⟩) (xs.length + 1) c) (j := 0) hq5 hn5
    have hb1 := cell_set1 (u := .slice (some ⟨g, 0, none⟩) (xs.length + 1) c) (j := 0) ((HF.out g c w1 HFC.out ab hbp0 hb2).2.2 _ hb1') (HF.out g c w1 HFC.out ab hbp0 hb2).1
    have hgn2 := (HF.out g c w1 HFC.out ad hdp0 hd2).2.1
    have hgn3 := (HF.out g c w1 HFC.out ai hip0 hi2).2.1
    have hgn4 := (HF.out g c w1 HFC.out ab hbp0 hb2).2.1
    have HRB := Lib.hid (HB.out g c w1 HFC.out)
    have HL := Lib.hid (HX.out g c w1 HFC.out)
    clear HX HP HF HB HFC HI hq1 hq2 hq4 hq5 hq6 hHeld hd1' hi1' hn1 hb1' hc0 hfz
    generalize hW3 : w1.setCell ⟨p, 0, none⟩ (.slice (some ⟨g, 0, none⟩) (xs.length + 1) c) = W3 at hgp hpp3 hc3 hcs3 hfz0 hft hd1 hi1 hb1 HRB HL ⊢
    have hdp : ad < W3.heap.size := World.block_lt_of_cell? W3 _ hd1
    have hip : ai < W3.heap.size := World.block_lt_of_cell? W3 _ hi1
    have hbp : ab < W3.heap.size := World.block_lt_of_cell? W3 _ hb1
    have hc0 := hc3
    have hpp := hpp3
    have hcs := hcs3
    have HRD := Lib.hid (RdB.nil W3 (fun b => S b ∨ some g = some b))
    have HFT := Lib.hid hft
    clear hft hc3 hpp3 hcs3
    have hx1 : (i : Int) < ((xs.length + 1 : Nat) : Int) := by omega
    have hx2 : (i : Int) < (xs.length : Int) + 1 := by omega
    refine wp_region_noPanic ?_
    refine wp_region_held_drew (S := (fun w' => w'.cell? ⟨p, 0, none⟩ = some (.slice (some ⟨g, 0, none⟩) (xs.length+1) c) ∧ w'.cell? ⟨ad, 0, none⟩ = some (.pointer (some ⟨p, 0, none⟩)) ∧ w'.cell? ⟨ai, 0, none⟩ = some (.int .i64 (i : Int)) ∧ w'.cell? ⟨ab, 0, none⟩ = some (.slice A2 lb.length c2))) (by kernel_rfl) ?_ (fun hHeld => ?_)
    · exact ⟨hc0, hd1, hi1, hb1⟩
    refine wpAnyH_take (i := 0) (oi := _) (v := ?_) rfl (by kernel_rfl) (by kernel_rfl) (by kernel_rfl) (fun _ _ _ h => h) (Or.inl ⟨by rfl, ?_⟩) (by assumption) ?_
    rotate_left
    · intro w hSw
      try dsimp only at hSw
      go_simp
      try with_reducible rfl
    try simp only [Act.put, List.setIfInBounds_toArray, List.set_cons_zero, List.set_cons_succ, List.getElem_toArray, List.getElem_cons_zero, List.getElem_cons_succ]
    refine wpAnyH_take (i := 1) (oi := _) (v := ?_) rfl (by kernel_rfl) (by kernel_rfl) (by kernel_rfl) (fun _ _ _ h => h) (Or.inl ⟨by rfl, ?_⟩) (by assumption) ?_
    rotate_left
    · intro w hSw
      try dsimp only at hSw
      go_simp
      try with_reducible rfl
    try simp only [Act.put, List.setIfInBounds_toArray, List.set_cons_zero, List.set_cons_succ, List.getElem_toArray, List.getElem_cons_zero, List.getElem_cons_succ]
    refine wpAnyH_take (i := 2) (oi := _) (v := ?_) rfl (by kernel_rfl) (by kernel_rfl) (by kernel_rfl) (fun _ _ _ h => h) (Or.inl ⟨by rfl, ?_⟩) (by assumption) ?_
    rotate_left
    · intro w hSw
      try dsimp only at hSw
      go_simp
      try with_reducible rfl
    try simp only [Act.put, List.setIfInBounds_toArray, List.set_cons_zero, List.set_cons_succ, List.getElem_toArray, List.getElem_cons_zero, List.getElem_cons_succ]
    refine wpAnyH_take (i := 3) (oi := _) (v := ?_) rfl (by kernel_rfl) (by kernel_rfl) (by kernel_rfl) (fun _ _ _ h => h) (Or.inl ⟨by rfl, ?_⟩) (by assumption) ?_
    rotate_left
    · intro w hSw
      try dsimp only at hSw
      go_simp
      try with_reducible rfl
    try simp only [Act.put, List.setIfInBounds_toArray, List.set_cons_zero, List.set_cons_succ, List.getElem_toArray, List.getElem_cons_zero, List.getElem_cons_succ]
    refine wpAnyH_take (i := 4) (oi := _) (v := ?_) rfl (by kernel_rfl) (by kernel_rfl) (by kernel_rfl) (fun _ _ _ h => h) (Or.inl ⟨by rfl, ?_⟩) (by assumption) ?_
    rotate_left
    · intro w hSw
      try dsimp only at hSw
      go_simp
      try with_reducible rfl
    try simp only [Act.put, List.setIfInBounds_toArray, List.set_cons_zero, List.set_cons_succ, List.getElem_toArray, List.getElem_cons_zero, List.getElem_cons_succ]
    refine wpAnyH_take (i := 5) (oi := _) (v := ?_) rfl (by kernel_rfl) (by kernel_rfl) (by kernel_rfl) (fun _ _ _ h => h) (Or.inl ⟨by rfl, ?_⟩) (by assumption) ?_
    rotate_left
    · intro w hSw
      try dsimp only at hSw
      go_simp
      try with_reducible rfl
    try simp only [Act.put, List.setIfInBounds_toArray, List.set_cons_zero, List.set_cons_succ, List.getElem_toArray, List.getElem_cons_zero, List.getElem_cons_succ]
    refine wpAnyH_take (i := 6) (oi := _) (v := ?_) rfl (by kernel_rfl) (by kernel_rfl) (by kernel_rfl) (fun _ _ _ h => h) (Or.inl ⟨by rfl, ?_⟩) (by assumption) ?_
    rotate_left
    · intro w hSw
      try dsimp only at hSw
      go_simp
      try with_reducible rfl
    try simp only [Act.put, List.setIfInBounds_toArray, List.set_cons_zero, List.set_cons_succ, List.getElem_toArray, List.getElem_cons_zero, List.getElem_cons_succ]
    refine wpAnyH_take (i := 7) (oi := _) (v := ?_) rfl (by kernel_rfl) (by kernel_rfl) (by kernel_rfl) (fun _ _ _ h => h) (Or.inl ⟨by rfl, ?_⟩) (by assumption) ?_
    rotate_left
    · intro w hSw
      try dsimp only at hSw
      go_simp
      try with_reducible rfl
    try simp only [Act.put, List.setIfInBounds_toArray, List.set_cons_zero, List.set_cons_succ, List.getElem_toArray, List.getElem_cons_zero, List.getElem_cons_succ]
    refine wpAnyH_take (i := 8) (oi := _) (v := ?_) rfl (by kernel_rfl) (by kernel_rfl) (by kernel_rfl) (fun _ _ _ h => h) (Or.inl ⟨by rfl, ?_⟩) (by assumption) ?_
    rotate_left
    · intro w hSw
      try dsimp only at hSw
      go_simp
      try with_reducible rfl
    try simp only [Act.put, List.setIfInBounds_toArray, List.set_cons_zero, List.set_cons_succ, List.getElem_toArray, List.getElem_cons_zero, List.getElem_cons_succ]
    refine wpAnyH_take (i := 9) (oi := _) (v := ?_) rfl (by kernel_rfl) (by kernel_rfl) (by kernel_rfl) (fun _ _ _ h => h) (Or.inl ⟨by rfl, ?_⟩) (by assumption) ?_
    rotate_left
    · intro w hSw
      try dsimp only at hSw
      go_simp
      try with_reducible rfl
    try simp only [Act.put, List.setIfInBounds_toArray, List.set_cons_zero, List.set_cons_succ, List.getElem_toArray, List.getElem_cons_zero, List.getElem_cons_succ]
    refine wpAnyH_take (i := 10) (oi := _) (v := ?_) rfl (by kernel_rfl) (by kernel_rfl) (by kernel_rfl) (fun _ _ _ h => h) (Or.inl ⟨by rfl, ?_⟩) (by assumption) ?_
    rotate_left
    · intro w hSw
      try dsimp only at hSw
      go_simp
      try with_reducible rfl
    try simp only [Act.put, List.setIfInBounds_toArray, List.set_cons_zero, List.set_cons_succ, List.getElem_toArray, List.getElem_cons_zero, List.getElem_cons_succ]
    refine wpAnyH_take (i := 11) (oi := _) (v := ?_) rfl (by kernel_rfl) (by kernel_rfl) (by kernel_rfl) (fun _ _ _ h => h) (Or.inl ⟨by rfl, ?_⟩) (by assumption) ?_
    rotate_left
    · intro w hSw
      try dsimp only at hSw
      go_simp
      try with_reducible rfl
    try simp only [Act.put, List.setIfInBounds_toArray, List.set_cons_zero, List.set_cons_succ, List.getElem_toArray, List.getElem_cons_zero, List.getElem_cons_succ]
    refine wpAnyH_take (i := 13) (oi := _) (v := ?_) rfl (by kernel_rfl) (by kernel_rfl) (by kernel_rfl) (fun _ _ _ h => h) (Or.inl ⟨by rfl, ?_⟩) (by assumption) ?_
    rotate_left
    · intro w hSw
      try dsimp only at hSw
      go_simp
      try with_reducible rfl
    try simp only [Act.put, List.setIfInBounds_toArray, List.set_cons_zero, List.set_cons_succ, List.getElem_toArray, List.getElem_cons_zero, List.getElem_cons_succ]
    refine wpAnyH_ready (rs := [12]) (by kernel_rfl) (by simp) ?_
    refine AllReadyH.cons (o := _) rfl (fun K hK => ?_) AllReadyH.nil
    go_simp
    refine hK.out _ _ ?_ (fun hHeld => ?_)
    · exact ⟨hc0, hd1, hi1, hb1⟩
    clear hK K
    try simp only [Act.put, List.setIfInBounds_toArray, List.set_cons_zero, List.set_cons_succ, List.getElem_toArray, List.getElem_cons_zero, List.getElem_cons_succ]
    refine wpAnyH_ready (rs := [14]) (by kernel_rfl) (by simp) ?_
    refine AllReadyH.cons (o := _) rfl (fun K hK => ?_) AllReadyH.nil
    go_simp
    refine hK.out _ _ ?_ (fun hHeld => ?_)
    · exact ⟨cell_alloc hc0 _, cell_alloc hd1 _, cell_alloc hi1 _, cell_alloc hb1 _⟩
    clear hK K
    try simp only [Act.put, List.setIfInBounds_toArray, List.set_cons_zero, List.set_cons_succ, List.getElem_toArray, List.getElem_cons_zero, List.getElem_cons_succ]
    refine wpAnyH_ready (rs := [15]) (by kernel_rfl) (by simp) ?_
    refine AllReadyH.cons (o := _) rfl (fun K hK => ?_) AllReadyH.nil
    go_simp
    go_at_call 126
    refine (concat_here W3 _ _ _ _ lb _ HRD.out HRB.out (by first | omega | (simp; omega)) HFT.out).mono ?_
    rintro e w2 ⟨A3, c3, rfl, hoz, hbz⟩
    have hq1 := (hbz.cell (p := ⟨g, i * 3 + 1, none⟩) hgp).trans hcs
    have hq2 := (hbz.frozen (p := ⟨g, i * 3 + 1, none⟩) hgp).trans (hfz0 (i * 3 + 1))
    have hq3 := (hbz.cell hpp).trans hc0
    have hq4 := (hbz.cell hdp).trans hd1
    have hq5 := (hbz.cell hip).trans hi1
    have hq6 := (hbz.cell hbp).trans hb1
    go_wp2
    refine hK.out _ _ ?_ (fun hHeld => ?_)
    · exact ⟨hq3, hq4, hq5, hq6⟩
    clear hK K
    try simp only [Act.put, List.setIfInBounds_toArray, List.set_cons_zero, List.set_cons_succ, List.getElem_toArray, List.getElem_cons_zero, List.getElem_cons_succ]
    refine wpAnyH_take (i := 16) (oi := _) (v := ?_) rfl (by kernel_rfl) (by kernel_rfl) (by kernel_rfl) (fun _ _ _ h => h) (Or.inl ⟨by rfl, ?_⟩) (by assumption) ?_
    rotate_left
    · intro w hSw
      try dsimp only at hSw
      go_simp
      try with_reducible rfl
    try simp only [Act.put, List.setIfInBounds_toArray, List.set_cons_zero, List.set_cons_succ, List.getElem_toArray, List.getElem_cons_zero, List.getElem_cons_succ]
    refine wpAnyH_take (i := 17) (oi := _) (v := ?_) rfl (by kernel_rfl) (by kernel_rfl) (by kernel_rfl) (fun _ _ _ h => h) (Or.inl ⟨by rfl, ?_⟩) (by assumption) ?_
    rotate_left
    · intro w hSw
      try dsimp only at hSw
      go_simp
      try with_reducible rfl
    try simp only [Act.put, List.setIfInBounds_toArray, List.set_cons_zero, List.set_cons_succ, List.getElem_toArray, List.getElem_cons_zero, List.getElem_cons_succ]
    refine wpAnyH_ready (rs := [18]) (by kernel_rfl) (by simp) ?_
    refine AllReadyH.cons (o := _) rfl (fun K hK => ?_) AllReadyH.nil
    go_simp
    refine hK.out _ _ ?_ (fun hHeld => ?_)
    · exact ⟨cell_set1 hq3 hgn1, cell_set1 hq4 hgn2, cell_set1 hq5 hgn3, cell_set1 hq6 hgn4⟩
    clear hK K
    try simp only [Act.put, List.setIfInBounds_toArray, List.set_cons_zero, List.set_cons_succ, List.getElem_toArray, List.getElem_cons_zero, List.getElem_cons_succ]
    refine wpAnyH_done (by kernel_rfl) ?_ _
    refine NoPanic.normal ?_
    go_wp2
    refine bodyPost_ret (v := .tuple #[]) (by simp [results, Tryz.results124, go_sem]) rfl ?_
    exact HL.out w2 hbz _ hoz
end Go.Proofs.YtohpgipgfmkflaaGreatDoor
