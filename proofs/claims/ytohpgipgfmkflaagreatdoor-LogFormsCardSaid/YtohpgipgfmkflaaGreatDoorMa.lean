/- The disk and the log as values: what the Go code computes, in plain Lean. No program here. The bytes of numbers, strings, frames as values. No program here. What memory holds: bytes that are read, a disk that is owned; what a call may turn. Contracts: the comparison of names, the search among files, made, lit, named. Contracts: place, made, lit, named, Used, look. Contracts of slices at bytes: Clone, Grow, Concat of two. Contracts of slices at files: Insert of one, Delete of one. Insert of one file where there is no room; all roads together. -/
import GoSem.Op.String
import Derived.Test.YtohpgipgfmkflaaGreatDoorProg
import Derived.WalkKit
import Derived.WalkSpells
import Derived.WalkLawsBesides
import Derived.Deep.QuietTactic
import Derived.BigQuiet
import Derived.KernelRfl
import Derived.Lib.Hide
import Derived.Deep.RegionHeld3
import Derived.Deep.DrawnRows
import Derived.Deep.AppendLies
import Derived.Deep.DeepCutAuto
import Derived.Deep.LoopGhost
import Derived.Maps.AppendAt
import Derived.Laws.CopyOwn
import Derived.Laws.MakeOwn
import Derived.Laws.AppendOwnNone
import Derived.Laws.EntriesVeiled
import Derived.OwnWalk
import Derived.ArgAppend
import Derived.Sort.Walk0
import Derived.Lib.SliceRun
import Derived.Lib.AppendZeros
import Derived.Lib.Overlaps
import Derived.Lib.AppendZerosOnto
import Derived.Laws.Externs
import Derived.Deep.RegionLaw
namespace Go.Proofs.YtohpgipgfmkflaaGreatDoor
set_option linter.unusedVariables false
set_option linter.unusedSimpArgs false

def ltB (a b : ByteArray) : Bool := Op.bytesLess a.toList b.toList
def eqB (a b : ByteArray) : Bool := a.toList == b.toList

/-- A file: its name, its bytes, how many are safe. -/
structure File where
  name : ByteArray
  b : List UInt8
  safe : Nat

/-- A disk: files by rising names, room, fuse, dark. -/
structure DState where
  files : List File
  room : Nat
  fuse : Int
  dark : Bool

/-- How many files have lesser names. -/
def fidx (fs : List File) (nm : ByteArray) : Nat := (fs.takeWhile fun f => ltB f.name nm).length
/-- Is there a file of that name (in a sorted list)? -/
def hasF (fs : List File) (nm : ByteArray) : Bool := match fs[fidx fs nm]? with
  | some f => eqB f.name nm
  | none => false
theorem fidx_le (fs : List File) (nm : ByteArray) : fidx fs nm ≤ fs.length := (List.takeWhile_prefix _).length_le
theorem hasF_lt {fs : List File} {nm : ByteArray} (h : hasF fs nm = true) : fidx fs nm < fs.length := by
  unfold hasF at h
  split at h
  · rename_i f hf; exact (List.getElem?_eq_some_iff.1 hf).1
  · cases h
def usedF (fs : List File) : Nat := (fs.map fun f => f.b.length).sum
def dirB (c : UInt8) : Bool := (97 ≤ c.toNat && c.toNat ≤ 122) || (48 ≤ c.toNat && c.toNat ≤ 57) || c.toNat == 46 || c.toNat == 45
def namedB (nm : ByteArray) : Bool := nm.data.toList.all dirB && decide (0 < nm.size) && decide (nm.size ≤ 60)
/-- A deed: what it makes of the files, unless the fuse has burnt down. -/
def DState.deed (D : DState) (f : List File → List File) : DState × Int :=
  if D.fuse = 0 then ({ D with fuse := -1, dark := true }, 15) else ({ D with files := f D.files, fuse := if 0 < D.fuse then D.fuse - 1 else D.fuse }, 0)
def addF (nm : ByteArray) (l : List UInt8) (fs : List File) : List File :=
  if hasF fs nm then fs.modify (fidx fs nm) (fun f => { f with b := f.b ++ l }) else fs.insertIdx (fidx fs nm) { name := nm, b := l, safe := 0 }
def syncF (nm : ByteArray) (fs : List File) : List File := fs.modify (fidx fs nm) (fun f => { f with safe := f.b.length })
def remF (nm : ByteArray) (fs : List File) : List File := fs.eraseIdx (fidx fs nm)
def cutF (nm : ByteArray) (n : Nat) (fs : List File) : List File := fs.modify (fidx fs nm) (fun f => { f with b := f.b.take n, safe := n })
def getF (fs : List File) (nm : ByteArray) : File := if hasF fs nm then fs.getD (fidx fs nm) ⟨⟨#[]⟩, [], 0⟩ else ⟨⟨#[]⟩, [], 0⟩
def DState.append (D : DState) (nm : ByteArray) (l : List UInt8) : DState × Int :=
  if D.dark then (D, 15) else if namedB nm = false then (D, 16)
  else if D.room < usedF D.files + l.length ∨ (hasF D.files nm = false ∧ D.files.length = 200) then (D, 5) else D.deed (addF nm l)
def DState.sync (D : DState) (nm : ByteArray) : DState × Int :=
  if D.dark then (D, 15) else if hasF D.files nm = false then (D, 16) else D.deed (syncF nm)
def DState.remove (D : DState) (nm : ByteArray) : DState × Int :=
  if D.dark then (D, 15) else if hasF D.files nm = false then (D, 16) else D.deed (remF nm)
def DState.cut (D : DState) (nm : ByteArray) (n : Int) : DState × Int :=
  if D.dark then (D, 15) else if hasF D.files nm = false then (D, 16)
  else if n < 0 ∨ ((getF D.files nm).b.length : Int) < n then (D, 2) else D.deed (cutF nm n.toNat)
def DState.read (D : DState) (nm : ByteArray) : List UInt8 × Int :=
  if D.dark then ([], 15) else if hasF D.files nm = false then ([], 16) else ((getF D.files nm).b, 0)
def DState.arm (D : DState) (n : Int) : DState := if D.dark then D else { D with fuse := max 0 n }
def DState.names (D : DState) : List ByteArray := D.files.map (·.name)

/-- What holds of every disk that New made. -/
structure DState.WF (D : DState) : Prop where
  sorted : D.files.Pairwise fun f g => ltB f.name g.name = true
  few : D.files.length ≤ 200
  used : usedF D.files ≤ D.room
  room : D.room ≤ 16777216
  safe : ∀ f ∈ D.files, f.safe ≤ f.b.length
  fuse : -1 ≤ D.fuse ∧ D.fuse ≤ 9223372036854775807
end Go.Proofs.YtohpgipgfmkflaaGreatDoor
namespace Go.Proofs.YtohpgipgfmkflaaGreatDoor
set_option linter.unusedVariables false
set_option linter.unusedSimpArgs false

def stepN (r : Nat) : Nat := if r % 2 = 1 then (r / 2) ^^^ 3988292384 else r / 2
def iterN : Nat → Nat → Nat
  | 0, r => r
  | k + 1, r => iterN k (stepN r)
def pushN (r : Nat) (x : UInt8) : Nat := iterN 8 (r ^^^ x.toNat)
def crcN (l : List UInt8) : Nat := 4294967295 ^^^ l.foldl pushN 4294967295
theorem stepN_lt {r : Nat} (h : r < 4294967296) : stepN r < 4294967296 := by
  unfold stepN
  split
  · exact Nat.xor_lt_two_pow (n := 32) (by omega) (by omega)
  · omega
theorem iterN_lt (k : Nat) {r : Nat} (h : r < 4294967296) : iterN k r < 4294967296 := by
  induction k generalizing r with
  | zero => exact h
  | succ k ih => exact ih (stepN_lt h)
theorem pushN_lt {r : Nat} (x : UInt8) (h : r < 4294967296) : pushN r x < 4294967296 :=
  iterN_lt 8 (Nat.xor_lt_two_pow (n := 32) (by omega) (by have := x.toNat_lt; omega))
theorem foldN_lt (l : List UInt8) {r : Nat} (h : r < 4294967296) : l.foldl pushN r < 4294967296 := by
  induction l generalizing r with
  | nil => exact h
  | cons a l ih => exact ih (pushN_lt a h)
theorem crcN_lt (l : List UInt8) : crcN l < 4294967296 := Nat.xor_lt_two_pow (n := 32) (by omega) (foldN_lt l (by omega))
/-- The check's four bytes. -/
def sumB (l : List UInt8) : List UInt8 := [UInt8.ofNat (crcN l / 16777216), UInt8.ofNat (crcN l / 65536), UInt8.ofNat (crcN l / 256), UInt8.ofNat (crcN l)]
theorem sumB_length (l : List UInt8) : (sumB l).length = 4 := rfl
/-- A number of k + 1 bytes, seven bits a byte. -/
def uintR : Nat → Nat → List UInt8
  | 0, n => [UInt8.ofNat n]
  | k + 1, n => UInt8.ofNat (128 + n % 128) :: uintR k (n / 128)
def uintB (n : Nat) : List UInt8 := uintR (Nat.log2 n / 7) n
theorem uintR_length (k n : Nat) : (uintR k n).length = k + 1 := by
  induction k generalizing n with
  | zero => rfl
  | succ k ih => simp [uintR, ih]
theorem uintB_pos (n : Nat) : 1 ≤ (uintB n).length := by unfold uintB; rw [uintR_length]; omega
theorem uintB_le (n : Nat) (h : n < 18446744073709551616) : (uintB n).length ≤ 10 := by
  unfold uintB
  rw [uintR_length]
  rcases Nat.eq_zero_or_pos n with h0 | h0
  · subst h0; decide
  · have : Nat.log2 n < 64 := (Nat.log2_lt (by omega)).2 (by omega)
    omega
def blobB (l : List UInt8) : List UInt8 := uintB l.length ++ l
def frameB (l : List UInt8) : List UInt8 := uintB l.length ++ l ++ sumB l ++ [165]
def batchB (n : Nat) (recs : List (List UInt8)) : List UInt8 := uintB n ++ uintB recs.length ++ recs.flatMap blobB
def headB (first : Nat) : List UInt8 := frameB (0 :: uintB first)
end Go.Proofs.YtohpgipgfmkflaaGreatDoor
namespace Go.Proofs.YtohpgipgfmkflaaGreatDoor
/-- Blocks below b are the caller's. -/
class Base where
  b : Nat
  h5 : 5 ≤ b
set_option linter.unusedSectionVars false
variable [Base]
open Go.RowKit
set_option linter.unusedVariables false
set_option linter.unusedSimpArgs false

/-- Blocks outside S are as they were; the streams too; no block has gone. -/
structure Kp (S : Nat → Prop) (w w' : World) : Prop where
  os : w'.os = w.os
  tape : w'.tape = w.tape
  output : w'.output = w.output
  size : w.heap.size ≤ w'.heap.size
  block : ∀ k, k < w.heap.size → ¬ S k → w'.heap[k]? = w.heap[k]?
section
variable {S S2 S' : Nat → Prop} {w w1 w2 : World}
theorem Kp.refl (S : Nat → Prop) (w : World) : Kp S w w := ⟨rfl, rfl, rfl, Nat.le_refl _, fun _ _ _ => rfl⟩
theorem Kp.trans (h : Kp S w w1) (k : Kp S2 w1 w2) (hs : ∀ b, S2 b → S b ∨ w.heap.size ≤ b) : Kp S w w2 :=
  ⟨k.os.trans h.os, k.tape.trans h.tape, k.output.trans h.output, Nat.le_trans h.size k.size, fun i hi hn =>
    (k.block i (Nat.lt_of_lt_of_le hi h.size) (fun h2 => (hs i h2).elim hn (fun h3 => by omega))).trans (h.block i hi hn)⟩
theorem Kp.mono (h : Kp S w w1) (hs : ∀ b, S b → S' b) : Kp S' w w1 := ⟨h.os, h.tape, h.output, h.size, fun i hi hn => h.block i hi (fun hk => hn (hs i hk))⟩
theorem Kp.below (h : Kp S w w1) (k : Below w1.heap.size w1 w2) : Kp S w w2 :=
  h.trans (S2 := fun _ => False) ⟨k.os, k.tape, k.output, k.size, fun i hi _ => k.block i hi⟩ (fun _ hb => hb.elim)
theorem Kp.ofBelow (k : Below w.heap.size w w1) (S : Nat → Prop) : Kp S w w1 := (Kp.refl S w).below k
theorem Kp.alloc (h : Kp S w w1) (o : Obj) : Kp S w (w1.alloc o) := h.below ((Below.refl _ _).alloc (Nat.le_refl _) _)
theorem Kp.drew (h : Kp S w w1) : Kp S w w1.drew := ⟨h.os, h.tape, h.output, h.size, h.block⟩
theorem Kp.drewN (h : Kp S w w1) (n : Nat) : Kp S w (w1.drewN n) := ⟨h.os, h.tape, h.output, h.size, h.block⟩
theorem Kp.setCell (h : Kp S w w1) {p : Addr} (hp : S p.block ∨ w.heap.size ≤ p.block) (u : Value) : Kp S w (w1.setCell p u) :=
  h.trans (S2 := fun k => k = p.block) ⟨rfl, rfl, rfl, by simp [World.setCell], fun i _ hn => Below.heap_setCell w1 p u i hn⟩ (fun k hk => by rw [hk]; exact hp)
theorem Kp.grown {row : Option Nat} (h : Kp S w w1) (hg : w1.grownBy w2 row) (hr : ∀ k, row = some k → S k ∨ w.heap.size ≤ k) : Kp S w w2 :=
  h.trans (S2 := fun k => row = some k) ⟨hg.os, hg.tape, hg.output, hg.size, fun i hi hn => hg.block i hi (fun he => hn he.symm)⟩ hr
theorem Kp.cell (h : Kp S w w1) {a : Addr} {v : Value} (hc : w.cell? a = some v) (hn : ¬ S a.block) : w1.cell? a = some v :=
  (World.cell?_of_block (h.block a.block (World.block_lt_of_cell? w a hc) hn)).trans hc
theorem Kp.blk (h : Kp S w w1) {g : Nat} {o : Obj} (hb : w.heap[g]? = some o) (hn : ¬ S g) : w1.heap[g]? = some o :=
  (h.block g (Array.getElem?_eq_some_iff.1 hb).1 hn).trans hb
/-- Nothing that was there has turned. -/
theorem Kp.toBelow (h : Kp S w w1) (hS : ∀ b, S b → w.heap.size ≤ b) : Below w.heap.size w w1 :=
  ⟨h.os, h.tape, h.output, h.size, fun k hk => h.block k hk (fun hs => by have := hS k hs; omega)⟩
end

/-! Bytes -/
def bv (l : List UInt8) : List Value := l.map fun b => .int .u8 (b.toNat : Int)
theorem bv_length (l : List UInt8) : (bv l).length = l.length := by simp [bv]
theorem bv_append (l m : List UInt8) : bv (l ++ m) = bv l ++ bv m := by simp [bv]
theorem bv_one (l : List UInt8) : ∀ u ∈ bv l, u.oneCell' = true := by
  intro u hu; simp only [bv, List.mem_map] at hu; obtain ⟨b, _, rfl⟩ := hu; rfl
/-- A block of bytes. -/
def U8 (w : World) (g : Nat) : Prop := (∃ cur fz, w.heap[g]? = some (.cells cur 5 fz)) ∨ g < Base.b
theorem U8.kp {w w1 : World} {g : Nat} (h : U8 w g) (k : ∀ cur fz, w.heap[g]? = some (.cells cur 5 fz) → w1.heap[g]? = some (.cells cur 5 fz)) : U8 w1 g := h.imp (fun ⟨cur, fz, hu⟩ => ⟨cur, fz, k cur fz hu⟩) id
/-- v is a []byte that reads l; its block isn't one of S. -/
def RdB (w : World) (S : Nat → Prop) (v : Value) (l : List UInt8) : Prop :=
  ∃ A c, v = .slice A l.length c ∧ (l.length ≤ c ∧ (A = none → c = 0)) ∧ c ≤ 9223372036854775807 ∧ ∀ j, j < l.length → ∃ g o, A = some ⟨g, o, none⟩ ∧ (¬ S g ∧ U8 w g) ∧ w.cell? ⟨g, o + j, none⟩ = some (.int .u8 ((l.getD j 0).toNat : Int))
section
variable {S S2 S' : Nat → Prop} {w w1 w2 : World} {v : Value} {l : List UInt8}
theorem RdB.nil (w : World) (S : Nat → Prop) : RdB w S (.slice none 0 0) [] := ⟨none, 0, rfl, ⟨Nat.le_refl _, fun _ => rfl⟩, by omega, fun j hj => by simp at hj⟩
theorem RdB.one (h : RdB w S v l) : v.oneCell' = true := by obtain ⟨A, c, rfl, _⟩ := h; rfl
theorem RdB.kp (h : RdB w S v l) (k : Kp S w w1) (hs : ∀ b, S' b → S b ∨ w.heap.size ≤ b) : RdB w1 S' v l := by
  obtain ⟨A, c, rfl, h1, h2, hc⟩ := h
  refine ⟨A, c, rfl, h1, h2, fun j hj => ?_⟩
  obtain ⟨g, o, e, ⟨hn, hu⟩, hcell⟩ := hc j hj
  have hlt : g < w.heap.size := World.block_lt_of_cell? w _ hcell
  exact ⟨g, o, e, ⟨fun hb => (hs g hb).elim hn (fun h => by omega), hu.kp fun _ _ hu => k.blk hu hn⟩, k.cell hcell hn⟩
theorem RdB.mono (h : RdB w S v l) (hs : ∀ b, S' b → S b) : RdB w S' v l := by
  obtain ⟨A, c, rfl, h1, h2, hc⟩ := h
  refine ⟨A, c, rfl, h1, h2, fun j hj => ?_⟩
  obtain ⟨g, o, e, ⟨hn, hu⟩, hcell⟩ := hc j hj
  exact ⟨g, o, e, ⟨fun hb => hn (hs g hb), hu⟩, hcell⟩
theorem RdB.below (h : RdB w S v l) (k : Below w.heap.size w w1) (hs : ∀ b, S' b → S b ∨ w.heap.size ≤ b) : RdB w1 S' v l := h.kp (Kp.ofBelow k S) hs
/-- A row of the call's own reads so. -/
theorem RdB.ofOwn {base n : Nat} (h : w.ownsRow base 5 1 v n (bv l)) (hS : ∀ b, S b → b < base) : RdB w S v l := by
  have hl : l.length = n := by have := h.1; simp [bv_length] at this; exact this
  subst hl
  rcases h.2 with ⟨rfl, h0⟩ | ⟨g, cap, cur, rfl, hb, hh, h1, h2, h3, h4⟩
  · exact ⟨none, 0, by rw [h0], ⟨by omega, fun _ => rfl⟩, by omega, fun j hj => by omega⟩
  · refine ⟨_, cap, rfl, ⟨h1, fun h => by cases h⟩, h2, fun j hj => ⟨g, 0, rfl, ⟨fun hs => by have := hS g hs; omega, .inl ⟨cur, _, hh⟩⟩, ?_⟩⟩
    have := h.cells (g := g) rfl j (.int .u8 ((l.getD j 0).toNat : Int)) (by simp [bv, List.getElem?_eq_getElem hj])
    rw [Nat.zero_add]
    have ha : (⟨g, 0, none⟩ : Addr).add j = ⟨g, j, none⟩ := by unfold Addr.add; split <;> simp_all
    rwa [ha] at this
end

/-! A row of files -/
structure FV where
  name : ByteArray
  v : Value
  safe : Nat
def FV.cells (x : FV) : List Value := [.string x.name, x.v, .int .i64 (x.safe : Int)]
def flat (xs : List FV) : List Value := xs.flatMap FV.cells
theorem flat_length (xs : List FV) : (flat xs).length = xs.length * 3 := by
  induction xs with
  | nil => rfl
  | cons x xs ih => simp only [flat, List.flatMap_cons, List.length_append, FV.cells, List.length_cons, List.length_nil] at ih ⊢; omega
theorem flat_append (xs ys : List FV) : flat (xs ++ ys) = flat xs ++ flat ys := by simp [flat]
theorem flat_at (xs : List FV) (i : Nat) (h : i < xs.length) :
    (flat xs)[i * 3]? = some (.string xs[i].name) ∧ (flat xs)[i * 3 + 1]? = some xs[i].v ∧ (flat xs)[i * 3 + 2]? = some (.int .i64 (xs[i].safe : Int)) := by
  induction xs generalizing i with
  | nil => simp at h
  | cons x xs ih =>
    cases i with
    | zero => simp [flat, FV.cells]
    | succ i =>
      have := ih i (by simpa using h)
      simp only [flat, List.flatMap_cons, FV.cells] at this ⊢
      refine ⟨?_, ?_, ?_⟩
      · rw [show (i + 1) * 3 = i * 3 + 3 by omega, List.getElem?_append_right (by simp)]; simpa using this.1
      · rw [show (i + 1) * 3 + 1 = (i * 3 + 1) + 3 by omega, List.getElem?_append_right (by simp)]; simpa using this.2.1
      · rw [show (i + 1) * 3 + 2 = (i * 3 + 2) + 3 by omega, List.getElem?_append_right (by simp)]; simpa using this.2.2
def All2 {α β : Type} (R : α → β → Prop) (xs : List α) (ys : List β) : Prop := xs.length = ys.length ∧ ∀ (i : Nat) (x : α) (y : β), xs[i]? = some x → ys[i]? = some y → R x y
section
variable {α β : Type} {R R' : α → β → Prop} {xs xs' : List α} {ys ys' : List β}
theorem All2.imp (h : All2 R xs ys) (hr : ∀ x y, R x y → R' x y) : All2 R' xs ys := ⟨h.1, fun i x y hx hy => hr x y (h.2 i x y hx hy)⟩
theorem All2.nil : All2 R [] [] := ⟨rfl, fun i x y hx _ => by simp at hx⟩
theorem All2.append (h : All2 R xs ys) (k : All2 R xs' ys') : All2 R (xs ++ xs') (ys ++ ys') := by
  refine ⟨by simp [h.1, k.1], fun i x y hx hy => ?_⟩
  rw [List.getElem?_append] at hx hy
  by_cases hi : i < xs.length
  · rw [if_pos hi] at hx; rw [if_pos (h.1 ▸ hi)] at hy; exact h.2 i x y hx hy
  · rw [if_neg hi] at hx; rw [if_neg (h.1 ▸ hi), ← h.1] at hy; exact k.2 _ x y hx hy
theorem All2.one {x : α} {y : β} (h : R x y) : All2 R [x] [y] := ⟨rfl, fun i a b ha hb => by
  cases i with
  | zero => simp at ha hb; subst ha; subst hb; exact h
  | succ i => simp at ha⟩
theorem All2.take (h : All2 R xs ys) (n : Nat) : All2 R (xs.take n) (ys.take n) := by
  refine ⟨by simp [h.1], fun i x y hx hy => ?_⟩
  rw [List.getElem?_take] at hx hy
  split at hx
  · rename_i hi; rw [if_pos hi] at hy; exact h.2 i x y hx hy
  · cases hx
theorem All2.drop (h : All2 R xs ys) (n : Nat) : All2 R (xs.drop n) (ys.drop n) := by
  refine ⟨by simp [h.1], fun i x y hx hy => ?_⟩
  rw [List.getElem?_drop] at hx hy
  exact h.2 _ x y hx hy
theorem All2.get (h : All2 R xs ys) (i : Nat) (hi : i < xs.length) (hj : i < ys.length) : R xs[i] ys[i] :=
  h.2 i _ _ (List.getElem?_eq_getElem hi) (List.getElem?_eq_getElem hj)
theorem All2.set (h : All2 R xs ys) (i : Nat) {x : α} {y : β} (hr : R x y) : All2 R (xs.set i x) (ys.set i y) := by
  refine ⟨by simp [h.1], fun j a b ha hb => ?_⟩
  rw [List.getElem?_set] at ha hb
  by_cases hij : i = j
  · rw [if_pos hij] at ha hb
    split at ha
    · split at hb
      · simp at ha hb; subst ha; subst hb; exact hr
      · cases hb
    · cases ha
  · rw [if_neg hij] at ha hb; exact h.2 j a b ha hb
end
def FRep (w : World) (S : Nat → Prop) (x : FV) (f : File) : Prop := x.name = f.name ∧ x.safe = f.safe ∧ RdB w S x.v f.b
/-- p is a disk D; S is what it may turn. -/
structure Disk (w : World) (S : Nat → Prop) (p : Nat) (D : DState) : Prop where
  foot : ∀ b, S b → b < w.heap.size
  mine : S p
  wf : D.WF
  mem : ∃ (v : Value) (xs : List FV), w.heap[p]? = some (.cells #[v, .int .i64 (D.room : Int), .int .i64 D.fuse, .bool D.dark, .func (.func 91) #[] #[]] 85 (0, 0)) ∧
    w.ownsRow 0 146 3 v xs.length (flat xs) ∧ (∀ k, v.ownBlock = some k → S k) ∧ All2 (FRep w S) xs D.files
/-- What a call on an owned thing does: S may be turned, S' is what it owns then. -/
structure Step (S S' : Nat → Prop) (w w' : World) : Prop where
  kp : Kp S w w'
  fresh : ∀ b, S' b → S b ∨ w.heap.size ≤ b
theorem Step.refl (S : Nat → Prop) (w : World) : Step S S w w := ⟨Kp.refl S w, fun _ h => .inl h⟩
theorem Step.trans {S S1 S2 : Nat → Prop} {w w1 w2 : World} (h : Step S S1 w w1) (k : Step S1 S2 w1 w2) : Step S S2 w w2 :=
  ⟨h.kp.trans k.kp h.fresh, fun b hb => (k.fresh b hb).elim (h.fresh b) (fun h2 => .inr (Nat.le_trans h.kp.size h2))⟩
theorem Disk.below {w w1 : World} {S : Nat → Prop} {p : Nat} {D : DState} (h : Disk w S p D) (k : Below w.heap.size w w1) : Disk w1 S p D := by
  obtain ⟨v, xs, hb, ho, hk, hf⟩ := h.mem
  have hlt : p < w.heap.size := h.foot p h.mine
  refine ⟨fun b hb => Nat.lt_of_lt_of_le (h.foot b hb) k.size, h.mine, h.wf, v, xs, (k.block p hlt).trans hb, ?_, hk, ?_⟩
  · exact ho.kept (row := none) ⟨k.os, k.tape, k.output, k.size, fun i hi _ => k.block i hi⟩ (by cases v.ownBlock <;> simp)
  · exact hf.imp fun x f ⟨h1, h2, h3⟩ => ⟨h1, h2, h3.below k (fun _ hb => .inl hb)⟩
end Go.Proofs.YtohpgipgfmkflaaGreatDoor
namespace Go.Proofs.YtohpgipgfmkflaaGreatDoor
set_option linter.unusedSectionVars false
variable [Base]
open Go.RowKit
set_option maxRecDepth 100000
set_option linter.unusedVariables false
set_option linter.unusedSimpArgs false
attribute [local go_sem ↓] Go.wp_at_zero Go.wp_at_succ

theorem run_equalIn_func_nil {P : Program} (w : World) (d : Nat) {t : TypeId} {ps rs : Array TypeId} {vr : Bool} (ht : P.underlying t = some (.func ps rs vr)) (fn : Fn) (f c : Array Value) :
    (Op.equalIn (d + 1) t (.func fn f c) .nilFunc).run P w = .ok false w := by
  simp [Op.equalIn, run_underlying ht]
theorem run_neq_func_nil {P : Program} (w : World) {t : TypeId} {ps rs : Array TypeId} {vr : Bool} (ht : P.underlying t = some (.func ps rs vr)) (fn : Fn) (f c : Array Value) :
    (binOp .neq t (.func fn f c) .nilFunc).run P w = .ok (.bool true) w := by
  simp only [binOp]
  simp [Op.equal, Op.maxDepth, run_equalIn_func_nil w 9999 ht]
theorem isNaN_any (s : ByteArray) (w : World) : Calls Tryz.prog 175 #[.string s] w fun e w' => e = .returned (.bool false) ∧ w = w' := by
  go_enter Tryz.func175, Tryz.ntmps175
  go_wp2
  go_ret
  exact ⟨by simp, rfl⟩
def cmpS (a b : ByteArray) : Int := if ltB a b then -1 else if !(ltB a b || eqB a b) then 1 else 0
theorem cmp_any (a b : ByteArray) (w : World) : Calls Tryz.prog 153 #[.string a, .string b] w fun e w' => e = .returned (.int .i64 (cmpS a b)) ∧ w = w' := by
  by_cases h1 : Op.bytesLess a.toList b.toList = true
  · go_enter Tryz.func153, Tryz.ntmps153
    go_wp2_with (go_at_call 175; refine (isNaN_any _ _).mono ?_; rintro e w' ⟨rfl, rfl⟩)
    go_ret
    exact ⟨by simp [cmpS, ltB, h1], rfl⟩
  · by_cases h2 : (a.toList == b.toList) = true
    · go_enter Tryz.func153, Tryz.ntmps153
      go_wp2_with (go_at_call 175; refine (isNaN_any _ _).mono ?_; rintro e w' ⟨rfl, rfl⟩)
      go_ret
      exact ⟨by simp [cmpS, ltB, eqB, h1, h2], rfl⟩
    · go_enter Tryz.func153, Tryz.ntmps153
      go_wp2_with (go_at_call 175; refine (isNaN_any _ _).mono ?_; rintro e w' ⟨rfl, rfl⟩)
      go_ret
      exact ⟨by simp [cmpS, ltB, eqB, h1, h2], rfl⟩
theorem place1_any (nm : ByteArray) (v2 v3 : Value) (b : ByteArray) (w : World) :
    Calls Tryz.prog 152 #[.agg #[.string nm, v2, v3], .string b] w fun e w' => e = .returned (.int .i64 (cmpS nm b)) ∧ Below w.heap.size w w' := by
  go_enter Tryz.func152, Tryz.ntmps152
  go_wp2_with (go_at_call 153; refine (cmp_any _ _ _).mono ?_; rintro e w' ⟨rfl, rfl⟩)
  go_ret
  exact ⟨rfl, (Below.refl _ _).alloc (Nat.le_refl _) _⟩

/-! The order of names -/
theorem ltB_eq (a b : ByteArray) : ltB a b = decide (a.toList < b.toList) := bytesLess_eq _ _
theorem ltB_irrefl (a : ByteArray) : ltB a a = false := by rw [ltB_eq]; simp [List.lt_irrefl]
theorem ltB_trans {a b c : ByteArray} (h : ltB a b = true) (k : ltB b c = true) : ltB a c = true := by
  rw [ltB_eq, decide_eq_true_eq] at *
  exact List.lt_trans h k
theorem ltB_total {a b : ByteArray} (h : ltB a b = false) (k : eqB a b = false) : ltB b a = true := by
  rw [ltB_eq, decide_eq_false_iff_not] at h
  rw [ltB_eq, decide_eq_true_eq]
  simp only [eqB, beq_eq_false_iff_ne, ne_eq] at k
  rcases Std.le_total (a := a.toList) (b := b.toList) with h1 | h1
  · exact absurd (List.le_antisymm h1 (List.not_lt.1 h)) k
  · exact List.not_le.1 (fun h2 => k (List.le_antisymm h2 h1))
theorem ltB_congr {a b c : ByteArray} (h : eqB a b = true) : ltB a c = ltB b c ∧ ltB c a = ltB c b := by
  simp only [eqB, beq_iff_eq] at h
  simp [ltB, h]
theorem takeWhile_stop {α : Type} (p : α → Bool) (l : List α) (r : Nat) (h1 : ∀ i x, i < r → l[i]? = some x → p x = true) (h2 : ∀ x, l[r]? = some x → p x = false) (hr : r ≤ l.length) : (l.takeWhile p).length = r := by
  induction l generalizing r with
  | nil => simp at hr; simp [hr]
  | cons a l ih =>
    cases r with
    | zero => have := h2 a (by simp); simp [List.takeWhile_cons, this]
    | succ r =>
      have ha := h1 0 a (by omega) (by simp)
      rw [List.takeWhile_cons, if_pos ha]
      simp only [List.length_cons]
      rw [ih r (fun i x hi hx => h1 (i + 1) x (by omega) (by simpa using hx)) (fun x hx => h2 x (by simpa using hx)) (by simpa using hr)]
theorem takeWhile_lt {α : Type} (p : α → Bool) (l : List α) (i : Nat) (x : α) (hi : i < (l.takeWhile p).length) (hx : l[i]? = some x) : p x = true := by
  induction l generalizing i with
  | nil => simp at hi
  | cons a l ih =>
    rw [List.takeWhile_cons] at hi
    split at hi
    · rename_i ha
      cases i with
      | zero => simp at hx; subst hx; exact ha
      | succ i => exact ih i (by simpa using hi) (by simpa using hx)
    · simp at hi
theorem takeWhile_at {α : Type} (p : α → Bool) (l : List α) (x : α) (hx : l[(l.takeWhile p).length]? = some x) : p x = false := by
  induction l with
  | nil => simp at hx
  | cons a l ih =>
    rw [List.takeWhile_cons] at hx
    split at hx
    · exact ih (by simpa using hx)
    · rename_i ha; simp at hx; subst hx; simpa using ha
/-- In a sorted list: what stands from the place on isn't less. -/
theorem fidx_ge {fs : List File} (hs : fs.Pairwise fun f g => ltB f.name g.name = true) {nm : ByteArray} {i : Nat} {f : File} (hi : fidx fs nm ≤ i) (hf : fs[i]? = some f) : ltB f.name nm = false := by
  have hlt := (List.getElem?_eq_some_iff.1 hf).1
  have hr : fs[fidx fs nm]? = some fs[fidx fs nm] := List.getElem?_eq_getElem (by omega)
  have h0 := takeWhile_at (fun f : File => ltB f.name nm) fs _ hr
  rcases Nat.lt_or_ge (fidx fs nm) i with h | h
  · have h1 := List.pairwise_iff_getElem.1 hs (fidx fs nm) i (by omega) hlt h
    have h2 : fs[i] = f := (List.getElem?_eq_some_iff.1 hf).2
    rw [h2] at h1
    cases h3 : ltB f.name nm with
    | false => rfl
    | true => rw [ltB_trans h1 h3] at h0; cases h0
  · obtain rfl : i = fidx fs nm := by omega
    rw [hr] at hf; injection hf with hf; subst hf; exact h0

/-- The cells of a row of files, as far as the search looks. -/
def NamesAt (w : World) (g : Nat) (xs : List FV) : Prop :=
  ∀ i (h : i < xs.length), w.cell? ⟨g, i * 3, none⟩ = some (.string xs[i].name) ∧ w.cell? ⟨g, i * 3 + 1, none⟩ = some xs[i].v ∧ w.cell? ⟨g, i * 3 + 2, none⟩ = some (.int .i64 (xs[i].safe : Int))
theorem NamesAt.ofOwn {w : World} {g c n : Nat} {xs : List FV} (h : w.ownsRow 0 146 3 (.slice (some ⟨g, 0, none⟩) n c) n (flat xs)) : NamesAt w g xs := by
  intro i hi
  have hf := flat_at xs i hi
  have hadd : ∀ j, (⟨g, 0, none⟩ : Addr).add j = ⟨g, j, none⟩ := fun j => by unfold Addr.add; split <;> simp_all
  have h0 := h.cells (g := g) rfl
  exact ⟨by rw [← hadd]; exact h0 _ _ hf.1, by rw [← hadd]; exact h0 _ _ hf.2.1, by rw [← hadd]; exact h0 _ _ hf.2.2⟩
theorem NamesAt.below {w w1 : World} {g : Nat} {xs : List FV} (h : NamesAt w g xs) (k : Below w.heap.size w w1) : NamesAt w1 g xs := fun i hi =>
  ⟨(k.cell (World.block_lt_of_cell? w _ (h i hi).1)).trans (h i hi).1, (k.cell (World.block_lt_of_cell? w _ (h i hi).2.1)).trans (h i hi).2.1, (k.cell (World.block_lt_of_cell? w _ (h i hi).2.2)).trans (h i hi).2.2⟩

def BsPost (xs : List FV) (nm : ByteArray) (w : World) (e : Ending) (w' : World) : Prop :=
  ∃ r : Nat, e = .returned (.tuple #[.int .i64 (r : Int), .bool (match xs[r]? with | some x => eqB x.name nm | none => false)]) ∧ r ≤ xs.length ∧
    (∀ (i : Nat) (x : FV), i < r → xs[i]? = some x → ltB x.name nm = true) ∧ (∀ (i : Nat) (x : FV), r ≤ i → xs[i]? = some x → ltB x.name nm = false) ∧ Below w.heap.size w w'
theorem cmpS_neg (a b : ByteArray) : decide (cmpS a b < 0) = ltB a b := by
  unfold cmpS
  cases ltB a b <;> cases eqB a b <;> simp
theorem cmpS_zero {a b : ByteArray} (h : ltB a b = false) : (cmpS a b == 0) = eqB a b := by
  unfold cmpS
  rw [h]
  cases eqB a b <;> simp
structure BsI (xs : List FV) (nm : ByteArray) (w wr : World) (lo hi : Nat) : Prop where
  le : lo ≤ hi
  top : hi ≤ xs.length
  low : ∀ (i : Nat) (x : FV), i < lo → xs[i]? = some x → ltB x.name nm = true
  high : ∀ (i : Nat) (x : FV), hi ≤ i → xs[i]? = some x → ltB x.name nm = false
  bel : Below w.heap.size w wr
theorem BsI.up {xs : List FV} {nm : ByteArray} {w wr w' : World} {lo hi m : Nat} {x : FV} (h : BsI xs nm w wr lo hi) (hm : m < hi) (hs : ∀ (i j : Nat) (x y : FV), i ≤ j → xs[i]? = some x → xs[j]? = some y → ltB y.name nm = true → ltB x.name nm = true)
    (hx : xs[m]? = some x) (hb : ltB x.name nm = true) (k : Below wr.heap.size wr w') : BsI xs nm w w' (m + 1) hi :=
  ⟨by omega, h.top, fun i y hi' hy => hs i m y x (by omega) hy hx hb, h.high, h.bel.trans (k.mono h.bel.size)⟩
theorem BsI.down {xs : List FV} {nm : ByteArray} {w wr w' : World} {lo hi m : Nat} {x : FV} (h : BsI xs nm w wr lo hi) (hm : m < hi) (hl : lo ≤ m) (hs : ∀ (i j : Nat) (x y : FV), i ≤ j → xs[i]? = some x → xs[j]? = some y → ltB y.name nm = true → ltB x.name nm = true)
    (hx : xs[m]? = some x) (hb : ltB x.name nm = false) (k : Below wr.heap.size wr w') : BsI xs nm w w' lo m :=
  ⟨hl, by have := h.top; omega, h.low, fun i y hi' hy => (by
    cases h3 : ltB y.name nm with
    | false => rfl
    | true => have := hs m i x y hi' hx hy h3; rw [hb] at this; cases this), h.bel.trans (k.mono h.bel.size)⟩
theorem BsI.fin {xs : List FV} {nm : ByteArray} {w wr w' : World} {lo : Nat} {x : FV} (h : BsI xs nm w wr lo lo) (hx : xs[lo]? = some x) (hz : (cmpS x.name nm == 0) = eqB x.name nm) (k : Below wr.heap.size wr w') :
    BsPost xs nm w (.returned (.tuple #[.int .i64 (lo : Int), .bool (cmpS x.name nm == 0)])) w' :=
  ⟨lo, by rw [hx, hz], h.top, h.low, h.high, h.bel.trans (k.mono h.bel.size)⟩
theorem BsI.fin0 {xs : List FV} {nm : ByteArray} {w wr : World} {lo : Nat} (h : BsI xs nm w wr lo lo) (hx : ¬ lo < xs.length) :
    BsPost xs nm w (.returned (.tuple #[.int .i64 (lo : Int), .bool false])) wr :=
  ⟨lo, by rw [List.getElem?_eq_none (by omega)], h.top, h.low, h.high, h.bel⟩
set_option maxHeartbeats 4000000 in
theorem bsf_some (g c : Nat) (xs : List FV) (nm : ByteArray) (w : World) (hc : NamesAt w g xs) (hl : xs.length ≤ 1000)
    (hs : ∀ (i j : Nat) (x y : FV), i ≤ j → xs[i]? = some x → xs[j]? = some y → ltB y.name nm = true → ltB x.name nm = true) :
    Calls Tryz.prog 151 #[.slice (some ⟨g, 0, none⟩) xs.length c, .string nm, .func (.func 152) #[] #[]] w (BsPost xs nm w) := by
  have HC := Lib.hid hc
  clear hc
  have HS := Lib.hid hs
  clear hs
  go_enter Tryz.func151, Tryz.ntmps151
  go_wp2
  go_loopw [9, 10, 11] (fun i j h wr => ∃ lo hi : Nat, i = .int .i64 lo ∧ j = .int .i64 hi ∧ BsI xs nm w wr lo hi) (fun i j h wr => (intOf j - intOf i).toNat)
  case atStart => exact ⟨0, xs.length, rfl, rfl, ⟨by omega, by omega, fun i x hi => by omega, fun i x hi hx => by have := (List.getElem?_eq_some_iff.1 hx).1; omega, Below.refl _ _⟩⟩
  case round =>
    obtain ⟨lo, hi, rfl, rfl, hI⟩ := hrel
    have h1 := hI.le
    have h2 := hI.top
    by_cases hlt : lo < hi
    · obtain ⟨x, hx⟩ : ∃ x, x = xs[(lo + hi) / 2]'(by omega) := ⟨_, rfl⟩
      have hxs : xs[(lo + hi) / 2]? = some x := by rw [hx]; exact List.getElem?_eq_getElem _
      have hc2 := HC.out.below hI.bel ((lo + hi) / 2) (by omega)
      rw [← hx] at hc2
      have hcx := hc2.1
      have hcy := hc2.2.1
      have hcz := hc2.2.2
      have HX := Lib.hid hxs
      clear hx hc2 hxs
      cases hb : ltB x.name nm with
      | true =>
        have hb1 : decide (cmpS x.name nm < 0) = true := by rw [cmpS_neg]; exact hb
        have hb2 : cmpS x.name nm < 0 := of_decide_eq_true hb1
        have HB := Lib.hid hb
        clear hb hb1
        go_wp2_with (go_at_call 152; refine (place1_any _ _ _ _ _).mono ?_; rintro e w' ⟨rfl, hbel⟩)
        go_roundw
        case rel => exact ⟨(lo + hi) / 2 + 1, hi, by go_num, rfl, hI.up (by omega) HS.out HX.out HB.out hbel⟩
        case measure => simp [intOf]; omega
      | false =>
        have hb1 : ¬ cmpS x.name nm < 0 := of_decide_eq_false (by rw [cmpS_neg]; exact hb)
        have HB := Lib.hid hb
        clear hb
        go_wp2_with (go_at_call 152; refine (place1_any _ _ _ _ _).mono ?_; rintro e w' ⟨rfl, hbel⟩)
        go_roundw
        case rel => exact ⟨lo, (lo + hi) / 2, rfl, by go_num, hI.down (by omega) (by omega) HS.out HX.out HB.out hbel⟩
        case measure => simp [intOf]; omega
    · obtain rfl : lo = hi := by omega
      by_cases hn : lo < xs.length
      · obtain ⟨x, hx⟩ : ∃ x, x = xs[lo] := ⟨_, rfl⟩
        have hxs : xs[lo]? = some x := by rw [hx]; exact List.getElem?_eq_getElem _
        have hc2 := HC.out.below hI.bel lo hn
        rw [← hx] at hc2
        have hcx := hc2.1
        have hcy := hc2.2.1
        have hcz := hc2.2.2
        have HX := Lib.hid hxs
        have hb := hI.high lo x (Nat.le_refl _) hxs
        have HZ := Lib.hid (cmpS_zero hb)
        clear hx hc2 hb hxs
        have hlt2 : ¬ lo < lo := by omega
        go_wp2_with (go_at_call 152; refine (place1_any _ _ _ _ _).mono ?_; rintro e w' ⟨rfl, hbel⟩)
        go_ret2
        exact hI.fin HX.out HZ.out hbel
      · have hlt2 : ¬ lo < lo := by omega
        go_wp2
        go_ret2
        exact hI.fin0 hn
end Go.Proofs.YtohpgipgfmkflaaGreatDoor
namespace Go.Proofs.YtohpgipgfmkflaaGreatDoor
set_option linter.unusedSectionVars false
variable [Base]
open Go.RowKit
set_option maxRecDepth 100000
set_option linter.unusedVariables false
set_option linter.unusedSimpArgs false
attribute [local go_sem ↓] Go.wp_at_zero Go.wp_at_succ

theorem bsf_none (nm : ByteArray) (w : World) :
    Calls Tryz.prog 151 #[.slice none 0 0, .string nm, .func (.func 152) #[] #[]] w fun e w' => e = .returned (.tuple #[.int .i64 0, .bool false]) ∧ w = w' := by
  go_enter Tryz.func151, Tryz.ntmps151
  go_wp2
  refine wp_loop_rounds 1 ?_
  rw [rounds_succ]
  go_wp2
  go_ret2
  exact ⟨rfl, rfl⟩
theorem All2.name {w : World} {S : Nat → Prop} {xs : List FV} {fs : List File} (h : All2 (FRep w S) xs fs) (i : Nat) : (xs[i]?).map FV.name = (fs[i]?).map File.name := by
  by_cases hi : i < xs.length
  · have hj : i < fs.length := h.1 ▸ hi
    rw [List.getElem?_eq_getElem hi, List.getElem?_eq_getElem hj]
    have := (h.get i hi hj).1
    simp [this]
  · rw [List.getElem?_eq_none (by omega), List.getElem?_eq_none (by rw [← h.1]; omega)]
    rfl
theorem fidx_eq {xs : List FV} {fs : List File} {nm : ByteArray} {r : Nat} (hn : ∀ i : Nat, (xs[i]?).map FV.name = (fs[i]?).map File.name) (hr : r ≤ fs.length)
    (h1 : ∀ (i : Nat) (x : FV), i < r → xs[i]? = some x → ltB x.name nm = true) (h2 : ∀ (i : Nat) (x : FV), r ≤ i → xs[i]? = some x → ltB x.name nm = false) : fidx fs nm = r := by
  have hget : ∀ (i : Nat) (f : File), fs[i]? = some f → ∃ x, xs[i]? = some x ∧ x.name = f.name := fun i f hf => by
    have := hn i
    rw [hf] at this
    cases hx : xs[i]? with
    | none => rw [hx] at this; cases this
    | some x => rw [hx] at this; exact ⟨x, rfl, by simpa using this⟩
  refine takeWhile_stop _ _ _ (fun i f hi hf => ?_) (fun f hf => ?_) hr
  · obtain ⟨x, hx, e⟩ := hget i f hf
    rw [← e]; exact h1 i x hi hx
  · obtain ⟨x, hx, e⟩ := hget r f hf
    rw [← e]; exact h2 r x (Nat.le_refl _) hx
theorem hasF_eq {xs : List FV} {fs : List File} {nm : ByteArray} {r : Nat} (hn : ∀ i : Nat, (xs[i]?).map FV.name = (fs[i]?).map File.name) (hr : fidx fs nm = r) :
    (match xs[r]? with | some x => eqB x.name nm | none => false) = hasF fs nm := by
  unfold hasF
  rw [hr]
  have := hn r
  cases hx : xs[r]? with
  | none =>
    rw [hx] at this
    cases hf : fs[r]? with
    | none => rfl
    | some f => rw [hf] at this; cases this
  | some x =>
    rw [hx] at this
    cases hf : fs[r]? with
    | none => rw [hf] at this; cases this
    | some f => rw [hf] at this; simp at this; simp [this]
/-- place, of the files of a disk. -/
theorem place_any (w : World) (S : Nat → Prop) (v : Value) (xs : List FV) (fs : List File) (nm : ByteArray) (ho : w.ownsRow 0 146 3 v xs.length (flat xs)) (hf : All2 (FRep w S) xs fs)
    (hs : fs.Pairwise fun f g => ltB f.name g.name = true) (hl : fs.length ≤ 200) :
    Calls Tryz.prog 91 #[v, .string nm] w fun e w' => e = .returned (.tuple #[.int .i64 (fidx fs nm : Nat), .bool (hasF fs nm)]) ∧ Below w.heap.size w w' := by
  have hn := fun i => hf.name i
  rcases ho.2 with ⟨rfl, h0⟩ | ⟨g, cap, cur, rfl, hb, hh, h1, h2, h3, h4⟩
  · have hx : xs = [] := List.eq_nil_of_length_eq_zero h0
    subst hx
    have hf0 : fs = [] := List.eq_nil_of_length_eq_zero hf.1.symm
    subst hf0
    clear ho hn hf
    go_enter Tryz.func91, Tryz.ntmps91
    go_wp2_with (go_at_call 151; refine (bsf_none _ _).mono ?_; rintro e w' ⟨rfl, rfl⟩)
    go_ret2
    exact ⟨rfl, Below.refl _ _⟩
  · have hm : ∀ (i j : Nat) (x y : FV), i ≤ j → xs[i]? = some x → xs[j]? = some y → ltB y.name nm = true → ltB x.name nm = true := by
      intro i j x y hij hx hy hlt
      rcases Nat.lt_or_ge i j with h | h
      · have hi : i < xs.length := (List.getElem?_eq_some_iff.1 hx).1
        have hj : j < xs.length := (List.getElem?_eq_some_iff.1 hy).1
        have hi' : i < fs.length := hf.1 ▸ hi
        have hj' : j < fs.length := hf.1 ▸ hj
        have e1 : x.name = fs[i].name := by have := hn i; rw [hx, List.getElem?_eq_getElem hi'] at this; simpa using this
        have e2 : y.name = fs[j].name := by have := hn j; rw [hy, List.getElem?_eq_getElem hj'] at this; simpa using this
        have := List.pairwise_iff_getElem.1 hs i j hi' hj' h
        rw [e1]; rw [e2] at hlt; exact ltB_trans this hlt
      · obtain rfl : i = j := by omega
        rw [hx] at hy; injection hy with hy; subst hy; exact hlt
    have hc := NamesAt.ofOwn ho
    have C := bsf_some g cap xs nm w hc (by have := hf.1; omega) hm
    have hlen := hf.1
    have C2 : Calls Tryz.prog 151 #[.slice (some ⟨g, 0, none⟩) xs.length cap, .string nm, .func (.func 152) #[] #[]] w
        (fun e w' => e = .returned (.tuple #[.int .i64 (fidx fs nm : Nat), .bool (hasF fs nm)]) ∧ Below w.heap.size w w') := C.mono (by
      rintro e w' ⟨r, rfl, hr⟩
      have hr2 := fidx_eq (fs := fs) hn (by have := hr.1; omega) hr.2.1 hr.2.2.1
      exact ⟨by rw [hr2]; exact congrArg (fun b : Bool => Ending.returned (.tuple #[.int .i64 ((r : Nat) : Int), .bool b])) (hasF_eq hn hr2), hr.2.2.2⟩)
    clear ho hf hs hm hc hh h4 h3 h2 h1 hb hn hlen C
    have H := Lib.hid C2
    clear C2
    go_enter Tryz.func91, Tryz.ntmps91
    go_wp2_with (go_at_call 151; refine H.out.mono ?_; rintro e w' ⟨rfl, hr⟩)
    go_ret2
    exact ⟨rfl, hr⟩

theorem made_nil (w : World) : Calls Tryz.prog 94 #[.pointer none] w fun e w' => e = .returned (.bool false) ∧ w = w' := by
  go_enter Tryz.func94, Tryz.ntmps94
  go_wp2
  go_ret
  exact ⟨rfl, rfl⟩
theorem made_yes (b : Nat) (w : World) (hp : w.cell? ⟨b, 4, none⟩ = some (.func (.func 91) #[] #[])) : Calls Tryz.prog 94 #[.pointer (some ⟨b, 0, none⟩)] w fun e w' => e = .returned (.bool true) ∧ w = w' := by
  have hne := fun (w : World) (fn : Fn) (f c : Array Value) => run_neq_func_nil w Tryz.underlying83 fn f c
  go_enter Tryz.func94, Tryz.ntmps94
  go_wp2
  go_ret
  exact ⟨rfl, rfl⟩
theorem lit_nil (w : World) : Calls Tryz.prog 93 #[.pointer none] w fun e w' => e = .returned (.int .i64 1) ∧ w = w' := by
  go_enter Tryz.func93, Tryz.ntmps93
  go_wp2_with (go_at_call 94; refine (made_nil _).mono ?_; rintro e w' ⟨rfl, rfl⟩)
  go_ret
  exact ⟨rfl, rfl⟩
theorem lit_yes (b : Nat) (dark : Bool) (w : World) (hp : w.cell? ⟨b, 4, none⟩ = some (.func (.func 91) #[] #[])) (hd : w.cell? ⟨b, 3, none⟩ = some (.bool dark)) :
   Calls Tryz.prog 93 #[.pointer (some ⟨b, 0, none⟩)] w fun e w' => e = .returned (.int .i64 (if dark then 15 else 0)) ∧ w = w' := by
  cases dark
  all_goals
    go_enter Tryz.func93, Tryz.ntmps93
    go_wp2_with (go_at_call 94; refine (made_yes _ _ hp).mono ?_; rintro e w' ⟨rfl, rfl⟩)
    go_ret
    exact ⟨rfl, rfl⟩
/-- What is read of a disk's own block. -/
structure DCells (w : World) (p : Nat) (v : Value) (D : DState) : Prop where
  c0 : w.cell? ⟨p, 0, none⟩ = some v
  c1 : w.cell? ⟨p, 1, none⟩ = some (.int .i64 (D.room : Int))
  c2 : w.cell? ⟨p, 2, none⟩ = some (.int .i64 D.fuse)
  c3 : w.cell? ⟨p, 3, none⟩ = some (.bool D.dark)
  c4 : w.cell? ⟨p, 4, none⟩ = some (.func (.func 91) #[] #[])
  fz : ∀ j, w.frozen? ⟨p, j, none⟩ = false
theorem DCells.ofBlk {w : World} {p : Nat} {v : Value} {D : DState} (h : w.heap[p]? = some (.cells #[v, .int .i64 (D.room : Int), .int .i64 D.fuse, .bool D.dark, .func (.func 91) #[] #[]] 85 (0, 0))) : DCells w p v D :=
  ⟨by simp [World.cell?, h], by simp [World.cell?, h], by simp [World.cell?, h], by simp [World.cell?, h], by simp [World.cell?, h], fun j => by simp [World.frozen?, h]⟩
end Go.Proofs.YtohpgipgfmkflaaGreatDoor
namespace Go.Proofs.YtohpgipgfmkflaaGreatDoor
set_option linter.unusedSectionVars false
variable [Base]
open Go.RowKit
set_option maxRecDepth 100000
set_option linter.unusedVariables false
set_option linter.unusedSimpArgs false
attribute [local go_sem ↓] Go.wp_at_zero Go.wp_at_succ

theorem infoB : (Tryz.prog.info? 5).map (fun i => (i.zero, i.size, i.bytes)) = some (some (.int .u8 0), 1, 1) := by kernel_rfl
theorem infoF : (Tryz.prog.info? 146).map (fun i => (i.zero, i.size, i.bytes)) = some (some (.agg #[.string ⟨#[]⟩, .slice none 0 0, .int .i64 0]), 3, 48) := by kernel_rfl
theorem infoI : (Tryz.prog.info? 3).map (fun i => (i.zero, i.size, i.bytes)) = some (some (.int .i64 0), 1, 8) := by kernel_rfl

theorem cell_alloc {w : World} {a : Addr} {v : Value} (h : w.cell? a = some v) (o : Obj) : (w.alloc o).cell? a = some v :=
  (World.cell?_of_block (Below.heap_alloc w o a.block (World.block_lt_of_cell? w a h))).trans h
/-- The result of a call: a row of the call's own. -/
def OwnB (w : World) (l : List UInt8) (e : Ending) (w' : World) : Prop :=
  ∃ v', e = .returned v' ∧ w'.ownsRow w.heap.size 5 1 v' l.length (bv l) ∧ Below w.heap.size w w'
theorem RdB.news {w : World} {S : Nat → Prop} {ad : Addr} {c : Nat} {l : List UInt8} (h : RdB w S (.slice (some ad) l.length c) l) : ∀ j u, (bv l)[j]? = some u → w.cell? (ad.add j) = some u := by
  intro j u hu
  obtain ⟨A, c', e, h1, h2, hc⟩ := h
  have hj : j < l.length := by have := (List.getElem?_eq_some_iff.1 hu).1; simpa [bv] using this
  obtain ⟨g, o, e2, _, hcell⟩ := hc j hj
  injection e with e3 _ _
  rw [e2] at e3
  injection e3 with e3
  subst e3
  have ha : (⟨g, o, none⟩ : Addr).add j = ⟨g, o + j, none⟩ := by unfold Addr.add; split <;> simp_all
  rw [ha, hcell]
  simp [bv, List.getElem?_eq_getElem hj] at hu
  simp [hu, List.getElem?_eq_getElem hj]
theorem clone_any (w : World) (S : Nat → Prop) (v : Value) (l : List UInt8) (h : RdB w S v l) (hl : l.length ≤ 140737488355328) :
    Calls Tryz.prog 121 #[v] w (OwnB w l) := by
  obtain ⟨A, c, rfl, h1, h2, hc⟩ := id h
  have qT : ∀ (w : World) (a : Option Addr) (n c n' c' : Nat), (binOp .eql 53 (.slice a n c) (.slice none n' c')).run Tryz.prog w = .ok (.bool a.isNone) w := fun w a n c n' c' => Lib.run_eql_slice_nil w _ _ a n c n' c' Tryz.underlying53
  cases A with
  | none =>
    have hl0 : l = [] := by
      cases l with
      | nil => rfl
      | cons b l => obtain ⟨g, o, e, _⟩ := hc 0 (by simp); cases e
    subst hl0
    clear hc h
    have h3 := h1.2
    clear h1
    go_enter Tryz.func121, Tryz.ntmps121
    go_wp2
    go_ret
    exact ⟨_, rfl, World.ownsRow_nil _ _ _ _, Below.refl _ _⟩
  | some ad =>
    obtain ⟨i0, hi, hz0, hz1, hz2⟩ := info_parts infoB
    have hn := h.news
    have HN := Lib.hid hn
    clear hc h hn
    go_enter Tryz.func121, Tryz.ntmps121
    go_wp2_with (at_builtin; refine wpList_append_own _ rfl _ _ 53 rfl w.heap.size 5 i0 (.int .u8 0) 1 1 Tryz.underlying53 hi hz0 hz1 hz2 rfl (by decide) (.slice (some ⟨w.heap.size, 0, none⟩) 0 0) 0 [] rfl (World.ownsRow_made w #[] 0 (Nat.le_refl _) (by simp [maxLen]) rfl) ad l.length c (bv l) rfl ?c1 ?c2 ?c3 ?c4 ?c5 ?c6 ?_)
    case c1 => simp [bv_length]
    case c2 => intro j u hu; exact cell_alloc (HN.out j u hu) _
    case c3 => exact bv_one l
    case c4 => simp only [maxLen]; omega
    case c5 => omega
    case c6 => simp
    intro v' w1 hown hg _
    go_wp2
    go_ret
    refine ⟨v', rfl, ?_, ?_⟩
    · simpa using hown
    · exact ((Below.refl _ _).alloc (Nat.le_refl _) _).grown hg (by simp) (fun k hk => by simp [Value.ownBlock] at hk; omega)

/-- Grow(nil, n): room for n bytes, none written. -/
def GrowB (w : World) (n : Nat) (e : Ending) (w' : World) : Prop :=
  ∃ v', e = .returned v' ∧ w'.ownsRow w.heap.size 5 1 v' 0 [] ∧ Below w.heap.size w w'
theorem grow_zero (w : World) : Calls Tryz.prog 170 #[.slice none 0 0, .int .i64 0] w (GrowB w 0) := by
  go_enter Tryz.func170, Tryz.ntmps170
  go_wp2
  go_ret
  exact ⟨_, rfl, World.ownsRow_nil _ _ _ _, Below.refl _ _⟩
set_option maxHeartbeats 1000000 in
theorem grow_some (w : World) (n : Nat) (h0 : 0 < n) (hn : n ≤ 140737488355328) : Calls Tryz.prog 170 #[.slice none 0 0, .int .i64 (n : Int)] w (GrowB w n) := by
  obtain ⟨i0, hi, hz0, hz1, hz2⟩ := info_parts infoB
  have hr := fun (w : World) (ty : TypeId) => Lib.run_append_nil_zeros (P := Tryz.prog) w 53 3 ty 5 i0 (.int .u8 0) .i64 .i64 Tryz.underlying53 Tryz.underlying3 hi hz0 n h0 (by omega) (by omega) (by rw [hz2]; omega)
  have HR := Lib.hid hr
  clear hr
  go_enter Tryz.func170, Tryz.ntmps170
  go_wp2_with (at_builtin; refine Lib.wpList_append_run _ rfl _ _ _ _ rfl _ _ rfl rfl _ _ (HR.out _ _) ?_)
  go_ret
  refine ⟨_, rfl, ?_, ?_⟩
  · have hge := grownCap_ge w n 0 5
    have hle := grownCap_le_maxLen w n 0 5 (by simp only [maxLen]; omega)
    refine ⟨by simp, .inr ⟨w.heap.size, _, _, rfl, Nat.le_refl _, heap_alloc_new w.drew _, Nat.zero_le _, hle, ?_, by simp⟩⟩
    simp only [Array.size_append, size_zeroCells]
    simp [Value.cells]
    omega
  · exact (((Below.refl _ _).drew).alloc (Nat.le_refl _) _)

/-- append of bytes that read so: nil, empty or not. -/
theorem wpList_append_rd {w : World} {ops : Array Oper} {rest : List Oper} {o : Oper} {a : Act} {Q : Exit → Act → World → Prop} (hgd : o.guard = none) (s x : Operand)
    (ho : o.op = .call { callee := .builtin .append, args := #[s, x], argTypes := #[53, 53] }) (base : Nat) (v u : Value) (S : Nat → Prop) (l m : List UInt8)
    (hs : a.eval s = v) (hx : a.eval x = u) (hown : w.ownsRow base 5 1 v l.length (bv l)) (hm : RdB w S u m) (hlen : l.length + m.length ≤ 140737488355328) (hbase : base ≤ w.heap.size)
    (h : ∀ v' w', w'.ownsRow base 5 1 v' (l ++ m).length (bv (l ++ m)) → w.grownBy w' v.ownBlock → (v'.ownBlock = v.ownBlock ∨ v'.ownBlock = some w.heap.size) → wpList Tryz.prog ops Q rest (a.put o.dst v') w') :
    wpList Tryz.prog ops Q (o :: rest) a w := by
  obtain ⟨i0, hi, hz0, hz1, hz2⟩ := info_parts infoB
  obtain ⟨A, c, rfl, h1, h2, hc⟩ := id hm
  cases A with
  | none =>
    have hm0 : m = [] := by
      cases m with
      | nil => rfl
      | cons b m => obtain ⟨g, o, e, _⟩ := hc 0 (by simp); cases e
    subst hm0
    have h3 := h1.2 rfl
    subst h3
    refine wpList_append_own_none hgd s x 53 ho base 5 i0 1 Tryz.underlying53 hi v l.length (bv l) hs hown hx (h v w (by simpa using hown) (World.grownBy.refl _ _) (.inl rfl))
  | some ad =>
    refine wpList_append_own_at w hgd s x 53 ho base 5 i0 (.int .u8 0) 1 1 Tryz.underlying53 hi hz0 hz1 hz2 rfl (by decide) v l.length (bv l) hs hown ad m.length c (bv m) hx (by simp [bv_length]) hm.news (bv_one m) (by simp only [maxLen]; omega) (by omega) hbase ?_
    intro v' w' h4 h5 _ h6
    exact h v' w' (by rw [bv_append, List.length_append]; exact h4) h5 h6
theorem grow_any (w : World) (n : Int) (h0 : 0 ≤ n) (hn : n ≤ 140737488355328) : Calls Tryz.prog 170 #[.slice none 0 0, .int .i64 n] w (GrowB w 0) := by
  obtain ⟨m, rfl⟩ := Int.eq_ofNat_of_zero_le h0
  rcases Nat.eq_zero_or_pos m with h | h
  · subst h; exact grow_zero w
  · exact grow_some w m h (by omega)
set_option maxHeartbeats 2000000 in
theorem concat_two (w : World) (S : Nat → Prop) (h c : Nat) (v1 v2 : Value) (l1 l2 : List UInt8) (hc0 : w.cell? ⟨h, 0, none⟩ = some v1) (hc1 : w.cell? ⟨h, 1, none⟩ = some v2) (h1 : RdB w S v1 l1) (h2 : RdB w S v2 l2)
    (hl : l1.length + l2.length ≤ 140737488355328) (hS : ∀ b, S b → b < w.heap.size) :
    Calls Tryz.prog 126 #[.slice (some ⟨h, 0, none⟩) 2 c] w (OwnB w (l1 ++ l2)) := by
  obtain ⟨A1, c1, e1, f1⟩ := id h1
  obtain ⟨A2, c2, e2, f2⟩ := id h2
  subst e1
  subst e2
  clear f1 f2
  have H1 := Lib.hid h1
  have H2 := Lib.hid h2
  have hhw : h < w.heap.size := World.block_lt_of_cell? w _ hc0
  clear h1 h2
  go_enter Tryz.func126, Tryz.ntmps126
  go_wp2
  refine wp_loop_rounds 3 ?_
  rw [rounds_succ]
  go_wp2
  rw [rounds_succ]
  go_wp2
  rw [rounds_succ]
  go_wp2_with (go_at_call 170; refine (grow_any _ _ (by omega) (by omega)).mono ?_; rintro e w1 ⟨v, rfl, hown, hb⟩)
  have hd0 := (hb.cell hhw).trans hc0
  have hd1 := (hb.cell hhw).trans hc1
  have hsz := hb.size
  have HO := Lib.hid hown
  clear hown
  refine wp_loop_rounds 3 ?_
  rw [rounds_succ]
  go_wp2_with (at_builtin; refine wpList_append_rd rfl _ _ rfl w.heap.size _ _ S [] l1 rfl rfl HO.out (H1.out.below hb (fun _ h => .inl h)) (by simp; omega) hsz ?_)
  intro v1 w2 hown1 hg1 hat1
  have hK1 : Below w.heap.size w w2 := hb.grown hg1 hsz (fun k hk => (HO.out.lt k hk).1)
  have he1 := (hK1.cell hhw).trans hc1
  have hsz1 := hK1.size
  have HO1 := Lib.hid hown1
  clear hown1 hg1 hat1
  go_wp2
  rw [rounds_succ]
  go_wp2_with (at_builtin; refine wpList_append_rd rfl _ _ rfl w.heap.size _ _ S l1 l2 rfl rfl HO1.out (H2.out.below hK1 (fun _ h => .inl h)) (by omega) hsz1 ?_)
  intro v2 w3 hown2 hg2 hat2
  have hK2 : Below w.heap.size w w3 := hK1.grown hg2 hsz1 (fun k hk => (HO1.out.lt k hk).1)
  have HO2 := Lib.hid hown2
  clear hown2 hg2 hat2
  go_wp2
  rw [rounds_succ]
  go_wp2
  go_ret
  exact ⟨v2, rfl, by have := HO2.out; simpa using this, hK2⟩
end Go.Proofs.YtohpgipgfmkflaaGreatDoor
namespace Go.Proofs.YtohpgipgfmkflaaGreatDoor
set_option linter.unusedSectionVars false
variable [Base]
open Go.RowKit
set_option maxRecDepth 100000
set_option linter.unusedVariables false
set_option linter.unusedSimpArgs false
attribute [local go_sem ↓] Go.wp_at_zero Go.wp_at_succ

theorem run_copy_rowK {P : Program} (w : World) (dT sT ty elem : TypeId) (k g o dLen dCap : Nat) (a : Addr) (sLen sCap : Nat) (cur : Array Value) (t : TypeId) (cs : List Value)
    (hu : P.underlying dT = some (.slice elem)) (hs : (P.info? elem).map (·.size) = some k)
    (hg : w.heap[g]? = some (.cells cur t (0, 0))) (hn : cs.length = Nat.min sLen dLen * k)
    (hsrc : ∀ j v, cs[j]? = some v → w.cell? (a.add j) = some v) (hfit : o + cs.length ≤ cur.size) (h1 : ∀ v ∈ cs, v.oneCell' = true) :
    (Builtin.copy_ #[dT, sT] ty #[.slice (some ⟨g, o, none⟩) dLen dCap, .slice (some a) sLen sCap]).run P w =
      .ok (goInt (Nat.min sLen dLen)) (w.setRow g (cur.toList.take o ++ cs ++ cur.toList.drop (o + cs.length)).toArray) := by
  have hl := run_loadCells_list (P := P) w a cs hsrc
  have hst := run_storeCells_at P g o t cs 0 cur w hg (by simpa using hfit) h1
  cases hq : P.info? elem with
  | none => simp [hq] at hs
  | some i =>
    have hi : i.size = k := by simpa [hq] using hs
    simp [Builtin.copy_, run_underlying hu, Builtin.lenOf, Builtin.firstCells, sizeOf, typeInfo, hq, hi, ← hn, hl, hst]
theorem wpList_copy_run {P : Program} (w : World) {ops : Array Oper} {rest : List Oper} {o : Oper} {a : Act} {Q : Exit → Act → World → Prop} (hgd : o.guard = none) (d s : Operand) (t t' : TypeId)
    (ho : o.op = .call { callee := .builtin .copy, args := #[d, s], argTypes := #[t, t'] }) (v u : Value) (hd : a.eval d = v) (hs : a.eval s = u) {v' : Value} {w' : World}
    (hr : (Builtin.copy_ #[t, t'] o.type #[v, u]).run P w = .ok v' w') (h : wpList P ops Q rest (a.put o.dst v') w') : wpList P ops Q (o :: rest) a w := by
  refine wpList_plain hgd fun _ hK => ?_
  unfold Oper.wp execOp
  simp only [ho, resolve, invoke, builtin, Sem.run_bind, Sem.run_pure, Result.andThen_ok, List.map_toArray, List.map_cons, List.map_nil, hd, hs, hr]
  exact hK _ _ h
theorem step_copy_run {P : Program} {ops : Array Oper} {o : Oper} {a : Act} {w : World} {K : Act → World → Prop} {Q : Exit → Act → World → Prop} {E : Prop}
    (hg : o.guard = none) (d x : Operand) (dT sT : TypeId) (hop : o.op = Op.call { callee := Callee.builtin Builtin.copy, args := #[d, x], argTypes := #[dT, sT] })
    (v u : Value) (hd : a.eval d = v) (hx : a.eval x = u) {v' : Value} {w' : World} (hr : (Builtin.copy_ #[dT, sT] o.type #[v, u]).run P w = .ok v' w') (hK : K (a.put o.dst v') w') :
    if Region.wanted o (yielded ops a.tmps) = true then Oper.wp P o a w K Q else E := by
  have hw : Region.wanted o (yielded ops a.tmps) = true := by simp [Region.wanted, hg]
  rw [if_pos hw]
  unfold Oper.wp
  simp [execOp, hop, resolve, invoke, builtin, hd, hx, hr, Result.andThen]
  exact hK
theorem infoFs : (Tryz.prog.info? 146).map (·.size) = some 3 := by kernel_rfl
theorem addr_add (g o j : Nat) : (⟨g, o, none⟩ : Addr).add j = ⟨g, o + j, none⟩ := by unfold Addr.add; split <;> simp_all
theorem cell_row {w : World} {g : Nat} {cur : Array Value} {t : TypeId} (h : w.heap[g]? = some (.cells cur t (0, 0))) (j : Nat) : w.cell? ⟨g, j, none⟩ = cur[j]? := by simp [World.cell?, h]

/-- A row that is owned, its cells told. -/
def RowF (w : World) (v : Value) (n : Nat) (cs : List Value) : Prop := w.ownsRow 0 146 3 v n cs
def InsPost (w : World) (v : Value) (n i : Nat) (cs x : List Value) (e : Ending) (w' : World) : Prop :=
  ∃ v', e = .returned v' ∧ w'.ownsRow 0 146 3 v' (n + 1) (cs.take (i * 3) ++ x ++ cs.drop (i * 3)) ∧ w.grownBy w' v.ownBlock ∧ (v'.ownBlock = v.ownBlock ∨ ∃ b, v'.ownBlock = some b ∧ w.heap.size ≤ b)
/-- At the end: append. -/
theorem insert_end (w : World) (v : Value) (n : Nat) (cs x : List Value) (vb : Nat) (ho : w.ownsRow 0 146 3 v n cs) (hx : ∀ j u, x[j]? = some u → w.cell? ⟨vb, j, none⟩ = some u) (hx3 : x.length = 3)
    (hx1 : ∀ u ∈ x, u.oneCell' = true) (hn : n ≤ 1000) :
    Calls Tryz.prog 125 #[v, .int .i64 (n : Int), .slice (some ⟨vb, 0, none⟩) 1 1] w (InsPost w v n n cs x) := by
  obtain ⟨i0, hi, hz0, hz1, hz2⟩ := info_parts infoF
  have hcl := ho.1
  have hfin : cs.take (n * 3) ++ x ++ cs.drop (n * 3) = cs ++ x := by rw [List.take_of_length_le (by omega), List.drop_eq_nil_of_le (by omega), List.append_nil]
  have HF := Lib.hid hfin
  have HX := Lib.hid hx
  have HO := Lib.hid ho
  have H1 := Lib.hid hx1
  have hv : (v = .slice none 0 0 ∧ n = 0) ∨ ∃ g cap, v = .slice (some ⟨g, 0, none⟩) n cap ∧ n ≤ cap ∧ cap ≤ 9223372036854775807 := by
    rcases ho.2 with h | ⟨g, cap, cur, rfl, _, _, h1, h2, _⟩
    · exact .inl h
    · exact .inr ⟨g, cap, rfl, h1, h2⟩
  clear hfin hx ho hcl hx1
  rcases hv with ⟨rfl, h0⟩ | ⟨g, cap, rfl, hc1, hc2⟩
  · subst h0
    go_enter Tryz.func125, Tryz.ntmps125
    go_wp2_with (at_builtin; refine wpList_append_own_at _ rfl (.tmp 23) (.tmp 24) 82 rfl 0 146 i0 _ 3 48 Tryz.underlying82 hi hz0 hz1 hz2 rfl (by decide) _ 0 cs rfl HO.out ⟨vb, 0, none⟩ 1 1 x rfl (by omega) ?c1 H1.out ?c3 ?c4 (Nat.zero_le _) ?_)
    case c1 => intro j u hu; rw [addr_add, Nat.zero_add]; exact HX.out j u hu
    case c3 => simp [maxLen]
    case c4 => omega
    intro v' w1 hown hg _ hat
    have HO1 := Lib.hid hown
    clear hown
    go_wp2
    go_ret
    refine ⟨v', rfl, by rw [HF.out]; exact HO1.out, hg, ?_⟩
    rcases hat with h | h
    · exact .inl h
    · exact .inr ⟨_, h, Nat.le_refl _⟩
  · by_cases hcn : cap = n
    · have hcn2 := hcn.symm
      clear hcn
      subst hcn2
      go_enter Tryz.func125, Tryz.ntmps125
      go_wp2_with (at_builtin; refine wpList_append_own_at _ rfl (.tmp 23) (.tmp 24) 82 rfl 0 146 i0 _ 3 48 Tryz.underlying82 hi hz0 hz1 hz2 rfl (by decide) _ n cs rfl HO.out ⟨vb, 0, none⟩ 1 1 x rfl (by omega) ?ad1 H1.out ?ad3 ?ad4 (Nat.zero_le _) ?_)
      case ad1 => intro j u hu; rw [addr_add, Nat.zero_add]; exact HX.out j u hu
      case ad3 => simp only [maxLen]; omega
      case ad4 => omega
      intro v' w1 hown hg _ hat
      have HO1 := Lib.hid hown
      clear hown
      go_wp2
      go_ret
      refine ⟨v', rfl, by rw [HF.out]; exact HO1.out, hg, ?_⟩
      rcases hat with h | h
      · exact .inl h
      · exact .inr ⟨_, h, Nat.le_refl _⟩
    · have hcn2 : n < cap := by omega
      clear hcn
      go_enter Tryz.func125, Tryz.ntmps125
      go_wp2_with (at_builtin; refine wpList_append_own_at _ rfl (.tmp 23) (.tmp 24) 82 rfl 0 146 i0 _ 3 48 Tryz.underlying82 hi hz0 hz1 hz2 rfl (by decide) _ n cs rfl HO.out ⟨vb, 0, none⟩ 1 1 x rfl (by omega) ?bd1 H1.out ?bd3 ?bd4 (Nat.zero_le _) ?_)
      case bd1 => intro j u hu; rw [addr_add, Nat.zero_add]; exact HX.out j u hu
      case bd3 => simp only [maxLen]; omega
      case bd4 => omega
      intro v' w1 hown hg _ hat
      have HO1 := Lib.hid hown
      clear hown
      go_wp2
      go_ret
      refine ⟨v', rfl, by rw [HF.out]; exact HO1.out, hg, ?_⟩
      rcases hat with h | h
      · exact .inl h
      · exact .inr ⟨_, h, Nat.le_refl _⟩

theorem run_overlaps_files (w : World) (g vb o lb cb m vc : Nat) (tA tB : TypeId) (kA kB : Nat) (hne : vb ≠ g) (hsa : w.shape? vb = some (tA, kA)) (hsb : w.shape? g = some (tB, kB)) (hkB : kB ≠ 0)
    (hfa : w.frozen? ⟨vb, 0, none⟩ = false) (hfe : w.frozen? ⟨vb, kA, none⟩ = false) :
    (callFunc 168 #[.slice (some ⟨vb, 0, none⟩) m vc, .slice (some ⟨g, o, none⟩) lb cb]).run Tryz.prog w = .ok (.value (.bool false)) w := by
  rw [run_callFunc_extern Tryz.func168 (by kernel_rfl) (by kernel_rfl) (by kernel_rfl) (e := Extern.SlicesOverlaps.overlaps #[82, 82] #[4]) (by kernel_rfl),
    Lib.run_overlaps_apart w 82 4 146 Tryz.underlying82 3 (fun w => by kernel_rfl) ⟨vb, 0, none⟩ ⟨g, o, none⟩ m vc lb cb hne tA tB kA kB hsa hsb hkB hfa hfe]
  rfl
theorem setRow_below {w : World} {g : Nat} (cs : Array Value) {S : Nat → Prop} (w0 : World) (h : Kp S w0 w) (hS : S g ∨ w0.heap.size ≤ g) : Kp S w0 (w.setRow g cs) :=
  h.trans (S2 := fun k => k = g) ⟨rfl, rfl, rfl, by simp, fun k hk hn => setRow_other w g k cs hn⟩ (fun b hb => by rw [hb]; exact hS)
theorem mid_list {α : Type} (cs x R : List α) (i n : Nat) (hx : x.length = 3) (hc : cs.length = n * 3) (hi : i ≤ n) (hR : R.take (n * 3) = cs) (hl : (n + 1) * 3 ≤ R.length) :
    ((((R.take ((i + 1) * 3) ++ cs.drop (i * 3) ++ R.drop ((i + 1) * 3 + (cs.drop (i * 3)).length)).take (i * 3)) ++ x ++
      (R.take ((i + 1) * 3) ++ cs.drop (i * 3) ++ R.drop ((i + 1) * 3 + (cs.drop (i * 3)).length)).drop (i * 3 + x.length)).take ((n + 1) * 3)) = cs.take (i * 3) ++ x ++ cs.drop (i * 3) := by
  have h0 : R = cs ++ R.drop (n * 3) := by rw [← hR]; exact (List.take_append_drop _ _).symm
  have hd : (cs.drop (i * 3)).length = n * 3 - i * 3 := by simp [hc]
  have ht : (R.take ((i + 1) * 3)).length = (i + 1) * 3 := by rw [List.length_take]; omega
  have e1 : (R.take ((i + 1) * 3) ++ cs.drop (i * 3) ++ R.drop ((i + 1) * 3 + (cs.drop (i * 3)).length)).take (i * 3) = cs.take (i * 3) := by
    rw [List.append_assoc, List.take_append_of_le_length (by rw [ht]; omega), List.take_take, Nat.min_eq_left (by omega), ← hR, List.take_take, Nat.min_eq_left (by omega)]
  have e2 : (R.take ((i + 1) * 3) ++ cs.drop (i * 3) ++ R.drop ((i + 1) * 3 + (cs.drop (i * 3)).length)).drop (i * 3 + x.length) = cs.drop (i * 3) ++ R.drop ((i + 1) * 3 + (cs.drop (i * 3)).length) := by
    rw [List.append_assoc, show i * 3 + x.length = (R.take ((i + 1) * 3)).length by rw [ht, hx]; omega, List.drop_left]
  rw [e1, e2, List.append_assoc, ← List.append_assoc x, ← List.append_assoc]
  rw [List.take_append_of_le_length (by simp [hd, hx]; omega), List.take_of_length_le (by simp [hd, hx]; omega)]
  rw [List.append_assoc]
set_option maxHeartbeats 2000000 in
/-- In the midst, with room: in place. -/
theorem insert_room (w : World) (g cap n i : Nat) (cs x : List Value) (vb vf : Nat) (hi : i < n) (hroom : n + 1 ≤ cap) (ho : w.ownsRow 0 146 3 (.slice (some ⟨g, 0, none⟩) n cap) n cs)
    (hx : ∀ j u, x[j]? = some u → w.cell? ⟨vb, j, none⟩ = some u) (hx3 : x.length = 3) (hxb : w.heap[vb]? = some (.cells x.toArray vf (0, 0))) (hx1 : ∀ u ∈ x, u.oneCell' = true) (hc1 : ∀ u ∈ cs, u.oneCell' = true)
    (hne : vb ≠ g) (hn : n ≤ 1000) :
    Calls Tryz.prog 125 #[.slice (some ⟨g, 0, none⟩) n cap, .int .i64 (i : Int), .slice (some ⟨vb, 0, none⟩) 1 1] w (InsPost w (.slice (some ⟨g, 0, none⟩) n cap) n i cs x) := by
  obtain ⟨hcl, hown⟩ := ho
  rcases hown with ⟨h, _⟩ | ⟨g', cap', cur, he, hg0, hh, h1, h2, h3, h4⟩
  · cases h
  injection he with he1 _ he2
  injection he1 with he1
  injection he1 with he1
  subst he1
  subst he2
  obtain ⟨R, hR⟩ : ∃ R, R = cur.toList := ⟨_, rfl⟩
  have hRl : R.length = cap * 3 := by rw [hR, Array.length_toList]; exact h3
  rw [← hR] at h4
  have hcur : cur = R.toArray := by rw [hR]
  subst hcur
  clear hR h3
  have hov := fun lb cb => run_overlaps_files w g vb ((i + 1) * 3) lb cb 1 1 vf 146 x.length (cap * 3) hne (by simp [World.shape?, hxb]) (by simp [World.shape?, hh, hRl]) (by omega) (by simp [World.frozen?, hxb]) (by simp [World.frozen?, hxb])
  have hdl : (cs.drop (i * 3)).length = (n - i) * 3 := by rw [List.length_drop, hcl]; omega
  obtain ⟨R1, hR1⟩ : ∃ R1 : List Value, R1 = R.take ((i + 1) * 3) ++ cs.drop (i * 3) ++ R.drop ((i + 1) * 3 + (cs.drop (i * 3)).length) := ⟨_, rfl⟩
  have hR1l : R1.length = cap * 3 := by
    rw [hR1]; simp only [List.length_append, List.length_take, List.length_drop, hRl, hcl]; omega
  have hcp1 : ∀ ty dc sc, (Builtin.copy_ #[82, 82] ty #[.slice (some ⟨g, (i + 1) * 3, none⟩) (n - i) dc, .slice (some ⟨g, i * 3, none⟩) (n + 1 - i) sc]).run Tryz.prog w.drew = .ok (goInt ((n - i : Nat) : Int)) (w.drew.setRow g R1.toArray) := fun ty dc sc => by
    have := run_copy_rowK (P := Tryz.prog) w.drew 82 82 ty 146 3 g ((i + 1) * 3) (n - i) dc ⟨g, i * 3, none⟩ (n + 1 - i) sc R.toArray 146 (cs.drop (i * 3)) Tryz.underlying82 infoFs hh
      (by rw [hdl, show Nat.min (n + 1 - i) (n - i) = n - i by simp only [Nat.min_def]; split <;> omega])
      (fun j v hj => by
        rw [addr_add]
        have hj2 : cs[i * 3 + j]? = some v := by rwa [List.getElem?_drop] at hj
        rw [← h4, List.getElem?_take] at hj2
        split at hj2
        · show w.cell? _ = _; rw [cell_row hh]; simpa using hj2
        · cases hj2)
      (by simp [hRl, hdl]; omega) (fun v hv => hc1 v (List.mem_of_mem_drop hv))
    rw [this, show Nat.min (n + 1 - i) (n - i) = n - i by simp only [Nat.min_def]; split <;> omega]
    simp only [hR1]
  have hh1 : (w.drew.setRow g R1.toArray).heap[g]? = some (.cells R1.toArray 146 (0, 0)) := setRow_heap w.drew g _ _ _ _ hh
  have hxv : ∀ j u, x[j]? = some u → (w.drew.setRow g R1.toArray).cell? ⟨vb, j, none⟩ = some u := fun j u hu => by
    rw [World.cell?_of_block (w := w.drew) (setRow_other w.drew g vb _ hne)]; exact hx j u hu
  obtain ⟨W1, hW1⟩ : ∃ W1, W1 = w.drew.setRow g R1.toArray := ⟨_, rfl⟩
  rw [← hW1] at hcp1 hh1 hxv
  obtain ⟨R2, hR2⟩ : ∃ R2 : List Value, R2 = R1.take (i * 3) ++ x ++ R1.drop (i * 3 + x.length) := ⟨_, rfl⟩
  have hR2l : R2.length = cap * 3 := by
    rw [hR2]; simp only [List.length_append, List.length_take, List.length_drop, hR1l, hx3]; omega
  have hcp2 : ∀ ty dc, (Builtin.copy_ #[82, 82] ty #[.slice (some ⟨g, i * 3, none⟩) (n + 1 - i) dc, .slice (some ⟨vb, 0, none⟩) 1 1]).run Tryz.prog W1 = .ok (goInt ((1 : Nat) : Int)) (W1.setRow g R2.toArray) := fun ty dc => by
    have := run_copy_rowK (P := Tryz.prog) W1 82 82 ty 146 3 g (i * 3) (n + 1 - i) dc ⟨vb, 0, none⟩ 1 1 R1.toArray 146 x Tryz.underlying82 infoFs hh1
      (by rw [show Nat.min 1 (n + 1 - i) = 1 by simp only [Nat.min_def]; split <;> omega]; omega)
      (fun j v hj => by rw [addr_add, Nat.zero_add]; exact hxv j v hj) (by simp [hR1l, hx3]; omega) hx1
    rw [this, show Nat.min 1 (n + 1 - i) = 1 by simp only [Nat.min_def]; split <;> omega]
    simp only [hR2]
  have hfin : R2.take ((n + 1) * 3) = cs.take (i * 3) ++ x ++ cs.drop (i * 3) := by
    rw [hR2, hR1]; exact mid_list cs x R i n hx3 hcl (by omega) h4 (by omega)
  have hend : InsPost w (.slice (some ⟨g, 0, none⟩) n cap) n i cs x (.returned (.slice (some ⟨g, 0, none⟩) (n + 1) cap)) (W1.setRow g R2.toArray) := by
    refine ⟨_, rfl, ⟨by rw [← hfin, List.length_take]; omega, .inr ⟨g, cap, R2.toArray, rfl, Nat.zero_le _, setRow_heap W1 g _ _ _ _ hh1, hroom, h2, by simpa using hR2l, by simpa using hfin⟩⟩, ?_, .inl rfl⟩
    refine ⟨by rw [hW1]; rfl, by rw [hW1]; rfl, by rw [hW1]; rfl, by rw [hW1]; simp, fun k hk hkn => ?_⟩
    have hkg : k ≠ g := fun e => hkn (by rw [e]; rfl)
    rw [setRow_other W1 g k _ hkg, hW1, setRow_other w.drew g k _ hkg]
    rfl
  have HE := Lib.hid hend
  have HCP1 := Lib.hid hcp1
  have HCP2 := Lib.hid hcp2
  have HOV := Lib.hid hov
  have hz2 : ¬ ((i : Int) = (n : Int)) := by omega
  have hb2 : ¬ (cap = i + 1) := by omega
  have hb4 : ¬ (cap = i) := by omega
  clear hend hcp1 hcp2 hfin hR2 hR2l hR1 hR1l hh1 hxv hW1 hdl h4 hRl hov hcl hh hx hxb hx3 hx1 hc1
  go_enter Tryz.func125, Tryz.ntmps125
  go_wp2_with (simp only [HOV.out])
  have hw1 : IntKind.i64.wrap ((i : Int) + 1) = (i : Int) + 1 := by rw [IntKind.wrap_i64]; omega
  have hq1 : (0 : Int) ≤ (i : Int) + 1 := by omega
  have hq2 : (i : Int) + 1 ≤ (n : Int) + 1 := by omega
  have hq3 : ((i : Int) + 1).toNat = i + 1 := by omega
  have hq4 : (i : Int) ≤ (n : Int) + 1 := by omega
  have hq5 : n + 1 - (i + 1) = n - i := by omega
  have hz9 := HCP1.out
  go_region
  clear hw1 hq1 hq2 hq3 hq4 hq5 hz9
  go_wp2_with (with_reducible refine wpList_copy_run _ rfl _ _ 82 82 rfl _ _ rfl rfl (HCP2.out _ _) ?_)
  go_ret
  exact HE.out
end Go.Proofs.YtohpgipgfmkflaaGreatDoor
namespace Go.Proofs.YtohpgipgfmkflaaGreatDoor
set_option linter.unusedSectionVars false
variable [Base]
open Go.RowKit
set_option maxRecDepth 100000
set_option linter.unusedVariables false
set_option linter.unusedSimpArgs false
attribute [local go_sem ↓] Go.wp_at_zero Go.wp_at_succ

theorem step_append_run {P : Program} {ops : Array Oper} {o : Oper} {a : Act} {w : World} {K : Act → World → Prop} {Q : Exit → Act → World → Prop} {E : Prop}
    (hg : o.guard = none) (d x : Operand) (dT sT : TypeId) (hop : o.op = Op.call { callee := Callee.builtin Builtin.append, args := #[d, x], argTypes := #[dT, sT] })
    (v u : Value) (hd : a.eval d = v) (hx : a.eval x = u) {v' : Value} {w' : World} (hr : (Builtin.append_ #[dT, sT] o.type #[v, u]).run P w = .ok v' w') (hK : K (a.put o.dst v') w') :
    if Region.wanted o (yielded ops a.tmps) = true then Oper.wp P o a w K Q else E := by
  have hw : Region.wanted o (yielded ops a.tmps) = true := by simp [Region.wanted, hg]
  rw [if_pos hw]
  unfold Oper.wp execOp
  simp only [hop, resolve, invoke, builtin, Sem.run_bind, Sem.run_pure, Result.andThen_ok, List.map_toArray, List.map_cons, List.map_nil, hd, hx, hr]
  exact hK
theorem wpList_clear_run {P : Program} (w : World) {ops : Array Oper} {rest : List Oper} {o : Oper} {a : Act} {Q : Exit → Act → World → Prop} (hgd : o.guard = none) (s : Operand) (t : TypeId)
    (ho : o.op = .call { callee := .builtin .clear, args := #[s], argTypes := #[t] }) (u : Value) (hs : a.eval s = u) {v' : Value} {w' : World}
    (hr : (Builtin.clear_ #[t] o.type #[u]).run P w = .ok v' w') (h : wpList P ops Q rest (a.put o.dst v') w') : wpList P ops Q (o :: rest) a w := by
  refine wpList_plain hgd fun _ hK => ?_
  unfold Oper.wp execOp
  simp only [ho, resolve, invoke, builtin, Sem.run_bind, Sem.run_pure, Result.andThen_ok, List.map_toArray, List.map_cons, List.map_nil, hs, hr]
  exact hK _ _ h
theorem zeroCells_size (z : Array Value) (n : Nat) : (Builtin.zeroCells z n).size = n * z.size := size_zeroCells z n
theorem grow_list {α : Type} (cs x R : List α) (i n : Nat) (hx : x.length = 3) (hc : cs.length = n * 3) (hi : i ≤ n) (hR : R.take (i * 3) = cs.take (i * 3)) (hl : (n + 1) * 3 ≤ R.length) :
    (((R.take (i * 3) ++ x ++ R.drop (i * 3 + x.length)).take ((i + 1) * 3) ++ cs.drop (i * 3) ++ (R.take (i * 3) ++ x ++ R.drop (i * 3 + x.length)).drop ((i + 1) * 3 + (cs.drop (i * 3)).length)).take ((n + 1) * 3)) = cs.take (i * 3) ++ x ++ cs.drop (i * 3) := by
  have hd : (cs.drop (i * 3)).length = n * 3 - i * 3 := by simp [hc]
  have ht : (R.take (i * 3)).length = i * 3 := by rw [List.length_take]; omega
  have e1 : (R.take (i * 3) ++ x ++ R.drop (i * 3 + x.length)).take ((i + 1) * 3) = cs.take (i * 3) ++ x := by
    rw [List.take_append_of_le_length (by simp only [List.length_append, ht, hx]; omega), List.take_of_length_le (by simp only [List.length_append, ht, hx]; omega), hR]
  rw [e1]
  have hct : (cs.take (i * 3)).length = i * 3 := by rw [List.length_take]; omega
  rw [List.take_append_of_le_length (by simp only [List.length_append, hct, hx, hd]; omega), List.take_of_length_le (by simp only [List.length_append, hct, hx, hd]; omega)]
set_option maxHeartbeats 2000000 in
/-- In the midst, without room: a new row. -/
theorem insert_grow (w : World) (g cap n i : Nat) (cs x : List Value) (vb : Nat) (hi : i < n) (hroom : cap < n + 1) (ho : w.ownsRow 0 146 3 (.slice (some ⟨g, 0, none⟩) n cap) n cs)
    (hx : ∀ j u, x[j]? = some u → w.cell? ⟨vb, j, none⟩ = some u) (hx3 : x.length = 3) (hx1 : ∀ u ∈ x, u.oneCell' = true) (hc1 : ∀ u ∈ cs, u.oneCell' = true) (hn : n ≤ 1000) :
    Calls Tryz.prog 125 #[.slice (some ⟨g, 0, none⟩) n cap, .int .i64 (i : Int), .slice (some ⟨vb, 0, none⟩) 1 1] w (InsPost w (.slice (some ⟨g, 0, none⟩) n cap) n i cs x) := by
  obtain ⟨hcl, hown⟩ := ho
  rcases hown with ⟨h, _⟩ | ⟨g', cap', cur, he, hg0, hh, h1, h2, h3, h4⟩
  · cases h
  injection he with he1 _ he2
  injection he1 with he1
  injection he1 with he1
  subst he1
  subst he2
  obtain ⟨i0, hi0, hz0, hz1, hz2⟩ := info_parts infoF
  have hgw : g < w.heap.size := (Array.getElem?_eq_some_iff.1 hh).1
  have hvw : vb < w.heap.size := World.block_lt_of_cell? w _ (hx 0 x[0] (List.getElem?_eq_getElem (by omega)))
  have hcell : ∀ j v, cs[j]? = some v → w.cell? ⟨g, j, none⟩ = some v := fun j v hj => by
    rw [← h4, List.getElem?_take] at hj
    split at hj
    · rw [cell_row hh]; simpa using hj
    · cases hj
  have hold : (Builtin.firstCells i0.size i (.slice (some ⟨g, 0, none⟩) i cap)).run Tryz.prog w.drew = .ok (cs.take (i * 3)).toArray w.drew := by
    rw [hz1]
    exact run_firstCells_some w.drew 3 i ⟨g, 0, none⟩ i cap (cs.take (i * 3)) (by rw [List.length_take]; omega) (fun j v hj => by
      rw [addr_add, Nat.zero_add]
      rw [List.getElem?_take] at hj
      split at hj
      · exact hcell j v hj
      · cases hj)
  have hkk : (n : Int) + 1 - (i : Int) = ((n + 1 - i : Nat) : Int) := by omega
  have hik : i + (n + 1 - i) = n + 1 := by omega
  obtain ⟨Z, hZ⟩ : ∃ Z : Value, Z = .agg #[.string ⟨#[]⟩, .slice none 0 0, .int .i64 0] := ⟨_, rfl⟩
  rw [← hZ] at hz0
  have hZs : Z.cells.size = 3 := by rw [hZ]; rfl
  have hrz : ∀ ty, (Builtin.append_ #[82, 3] ty #[.slice (some ⟨g, 0, none⟩) i cap, .int .i64 ((n : Int) + 1 - (i : Int))]).run Tryz.prog w =
      .ok (.slice (some ⟨w.heap.size, 0, none⟩) (n + 1) (grownCap w (n + 1) cap 146)) (w.drew.alloc (.cells ((cs.take (i * 3)).toArray ++ Builtin.zeroCells Z.cells (n + 1 - i) ++ Builtin.zeroCells Z.cells (grownCap w (n + 1) cap 146 - (n + 1))) 146)) := fun ty => by
    have h := Lib.run_append_grow_zeros (P := Tryz.prog) w 82 3 ty 146 i0 Z .i64 .i64 Tryz.underlying82 Tryz.underlying3 hi0 hz0 (some ⟨g, 0, none⟩) i cap (cs.take (i * 3)) hold (n + 1 - i) (by omega) (by omega) (by omega) (by omega) (by rw [hz2]; omega)
      (by rw [hz2, hik]; exact growslice_fits hroom (by omega))
    rw [hik] at h
    rw [hkk]
    exact h
  obtain ⟨G, hG⟩ : ∃ G, G = grownCap w (n + 1) cap 146 := ⟨_, rfl⟩
  have hGn : n + 1 ≤ G := by rw [hG]; exact grownCap_ge w _ _ _
  have hG63 : G ≤ 9223372036854775807 := by
    have := grownCap_le_maxLen w (n + 1) cap 146 (by unfold maxLen; omega)
    rw [← hG] at this
    unfold maxLen at this
    omega
  obtain ⟨R, hR⟩ : ∃ R : List Value, R.toArray = (cs.take (i * 3)).toArray ++ Builtin.zeroCells Z.cells (n + 1 - i) ++ Builtin.zeroCells Z.cells (G - (n + 1)) := ⟨((cs.take (i * 3)).toArray ++ Builtin.zeroCells Z.cells (n + 1 - i) ++ Builtin.zeroCells Z.cells (G - (n + 1))).toList, by simp⟩
  rw [← hG, ← hR] at hrz
  have hRl : R.length = G * 3 := by
    have := congrArg Array.size hR
    simp only [List.size_toArray, Array.size_append, zeroCells_size, hZs, List.length_take, hcl] at this
    omega
  have hRt : R.take (i * 3) = cs.take (i * 3) := by
    have := congrArg Array.toList hR
    simp only [Array.toList_append, List.append_assoc] at this
    rw [this, List.take_append_of_le_length (by rw [List.length_take]; omega), List.take_of_length_le (by rw [List.length_take]; omega)]
  clear hold hR hZs hz0 hz2
  obtain ⟨W1, hW1⟩ : ∃ W1, W1 = w.drew.alloc (.cells R.toArray 146) := ⟨_, rfl⟩
  rw [← hW1] at hrz
  have hh1 : W1.heap[w.heap.size]? = some (.cells R.toArray 146 (0, 0)) := by rw [hW1]; exact heap_alloc_new w.drew _
  have hold1 : ∀ k, k < w.heap.size → W1.heap[k]? = w.heap[k]? := fun k hk => by rw [hW1]; exact Below.heap_alloc w.drew _ k hk
  obtain ⟨R1, hR1⟩ : ∃ R1 : List Value, R1 = R.take (i * 3) ++ x ++ R.drop (i * 3 + x.length) := ⟨_, rfl⟩
  have hR1l : R1.length = G * 3 := by
    rw [hR1]; simp only [List.length_append, List.length_take, List.length_drop, hRl, hx3]; omega
  have hcpA : ∀ ty dc, (Builtin.copy_ #[82, 82] ty #[.slice (some ⟨w.heap.size, i * 3, none⟩) (n + 1 - i) dc, .slice (some ⟨vb, 0, none⟩) 1 1]).run Tryz.prog W1 = .ok (goInt ((1 : Nat) : Int)) (W1.setRow w.heap.size R1.toArray) := fun ty dc => by
    have := run_copy_rowK (P := Tryz.prog) W1 82 82 ty 146 3 w.heap.size (i * 3) (n + 1 - i) dc ⟨vb, 0, none⟩ 1 1 R.toArray 146 x Tryz.underlying82 infoFs hh1
      (by rw [show Nat.min 1 (n + 1 - i) = 1 by simp only [Nat.min_def]; split <;> omega]; omega)
      (fun j v hj => by rw [addr_add, Nat.zero_add, World.cell?_of_block (w := w) (hold1 vb hvw)]; exact hx j v hj) (by simp [hRl, hx3]; omega) hx1
    rw [this, show Nat.min 1 (n + 1 - i) = 1 by simp only [Nat.min_def]; split <;> omega]
    simp only [hR1]
  obtain ⟨W2, hW2⟩ : ∃ W2, W2 = W1.setRow w.heap.size R1.toArray := ⟨_, rfl⟩
  rw [← hW2] at hcpA
  have hh2 : W2.heap[w.heap.size]? = some (.cells R1.toArray 146 (0, 0)) := by rw [hW2]; exact setRow_heap W1 w.heap.size _ _ _ _ hh1
  have hold2 : ∀ k, k < w.heap.size → W2.heap[k]? = w.heap[k]? := fun k hk => by rw [hW2, setRow_other W1 _ k _ (by omega)]; exact hold1 k hk
  have hdl : (cs.drop (i * 3)).length = (n - i) * 3 := by rw [List.length_drop, hcl]; omega
  obtain ⟨R2, hR2⟩ : ∃ R2 : List Value, R2 = R1.take ((i + 1) * 3) ++ cs.drop (i * 3) ++ R1.drop ((i + 1) * 3 + (cs.drop (i * 3)).length) := ⟨_, rfl⟩
  have hR2l : R2.length = G * 3 := by
    rw [hR2]; simp only [List.length_append, List.length_take, List.length_drop, hR1l, hcl]; omega
  have hcpB : ∀ ty dc sc, (Builtin.copy_ #[82, 82] ty #[.slice (some ⟨w.heap.size, (i + 1) * 3, none⟩) (n - i) dc, .slice (some ⟨g, i * 3, none⟩) (n - i) sc]).run Tryz.prog W2.drew = .ok (goInt ((n - i : Nat) : Int)) (W2.drew.setRow w.heap.size R2.toArray) := fun ty dc sc => by
    have := run_copy_rowK (P := Tryz.prog) W2.drew 82 82 ty 146 3 w.heap.size ((i + 1) * 3) (n - i) dc ⟨g, i * 3, none⟩ (n - i) sc R1.toArray 146 (cs.drop (i * 3)) Tryz.underlying82 infoFs hh2
      (by rw [hdl, show Nat.min (n - i) (n - i) = n - i by simp only [Nat.min_def]; split <;> omega])
      (fun j v hj => by
        rw [addr_add, World.cell?_of_block (w := w) (show W2.drew.heap[g]? = w.heap[g]? from hold2 g hgw)]
        exact hcell _ v (by rwa [List.getElem?_drop] at hj))
      (by simp [hR1l, hdl]; omega) (fun v hv => hc1 v (List.mem_of_mem_drop hv))
    rw [this, show Nat.min (n - i) (n - i) = n - i by simp only [Nat.min_def]; split <;> omega]
    simp only [hR2]
  have hfin : R2.take ((n + 1) * 3) = cs.take (i * 3) ++ x ++ cs.drop (i * 3) := by
    rw [hR2, hR1]; exact grow_list cs x R i n hx3 hcl (by omega) hRt (by omega)
  have hend : InsPost w (.slice (some ⟨g, 0, none⟩) n cap) n i cs x (.returned (.slice (some ⟨w.heap.size, 0, none⟩) (n + 1) G)) (W2.drew.setRow w.heap.size R2.toArray) := by
    refine ⟨_, rfl, ⟨by rw [← hfin, List.length_take]; omega, .inr ⟨w.heap.size, G, R2.toArray, rfl, Nat.zero_le _, setRow_heap W2.drew w.heap.size _ _ _ _ hh2, hGn, hG63, by simpa using hR2l, by simpa using hfin⟩⟩, ?_, .inr ⟨_, rfl, Nat.le_refl _⟩⟩
    refine ⟨by rw [hW2, hW1]; rfl, by rw [hW2, hW1]; rfl, by rw [hW2, hW1]; rfl, by rw [hW2, hW1]; simp, fun k hk hkn => ?_⟩
    rw [setRow_other W2.drew _ k _ (by omega)]
    exact hold2 k hk
  obtain ⟨N, hN⟩ : ∃ N, N = w.heap.size := ⟨_, rfl⟩
  rw [← hN] at hend hcpA hcpB hrz
  have HE := Lib.hid hend
  have HA := Lib.hid hcpA
  have HB := Lib.hid hcpB
  have HZ := Lib.hid hrz
  have hz2 : ¬ ((i : Int) = (n : Int)) := by omega
  have hz3 : (cap : Int) < (n : Int) + 1 := by omega
  have hb1 : ¬ (G = i) := by omega
  have hb2 : ¬ (G = i + 1) := by omega
  have hb4 : ¬ (cap = i) := by omega
  have hb5 : i ≤ cap := by omega
  clear hend hcpA hcpB hrz hfin hR2 hR2l hR1 hR1l hh1 hh2 hold1 hold2 hW1 hW2 hN hdl h4 h3 hRl hRt hcl hh hx hx3 hx1 hc1 hi0 hz1 hZ hG hkk hik hcell
  go_enter Tryz.func125, Tryz.ntmps125
  go_wp2_with (first | (at_builtin; refine Lib.wpList_append_run _ rfl (.tmp 34) (.tmp 39) _ _ rfl _ _ rfl rfl _ _ (HZ.out _) ?_) | (with_reducible refine wpList_copy_run _ rfl (.tmp 43) (.tmp 44) 82 82 rfl _ _ rfl rfl (HA.out _ _) ?_))
  have hw1 : IntKind.i64.wrap ((i : Int) + 1) = (i : Int) + 1 := by rw [IntKind.wrap_i64]; omega
  have hq1 : (0 : Int) ≤ (i : Int) + 1 := by omega
  have hq2 : (i : Int) + 1 ≤ (n : Int) + 1 := by omega
  have hq3 : ((i : Int) + 1).toNat = i + 1 := by omega
  have hq4 : (i : Int) ≤ (n : Int) := by omega
  have hq5 : n + 1 - (i + 1) = n - i := by omega
  have hz9 := HB.out
  go_region
  clear hw1 hq1 hq2 hq3 hq4 hq5 hz9
  go_wp2
  go_ret
  exact HE.out

/-- Insert of one file, wherever. -/
theorem insert_any (w : World) (v : Value) (n i : Nat) (cs x : List Value) (vb vf : Nat) (hi : i ≤ n) (ho : w.ownsRow 0 146 3 v n cs)
    (hx : ∀ j u, x[j]? = some u → w.cell? ⟨vb, j, none⟩ = some u) (hx3 : x.length = 3) (hxb : w.heap[vb]? = some (.cells x.toArray vf (0, 0))) (hx1 : ∀ u ∈ x, u.oneCell' = true) (hc1 : ∀ u ∈ cs, u.oneCell' = true)
    (hne : v.ownBlock ≠ some vb) (hn : n ≤ 1000) :
    Calls Tryz.prog 125 #[v, .int .i64 (i : Int), .slice (some ⟨vb, 0, none⟩) 1 1] w (InsPost w v n i cs x) := by
  rcases Nat.lt_or_ge i n with h | h
  · rcases ho.2 with ⟨rfl, h0⟩ | ⟨g, cap, cur, rfl, _⟩
    · omega
    · by_cases hr : n + 1 ≤ cap
      · exact insert_room w g cap n i cs x vb vf h hr ho hx hx3 hxb hx1 hc1 (fun e => hne (by rw [e]; rfl)) hn
      · exact insert_grow w g cap n i cs x vb h (by omega) ho hx hx3 hx1 hc1 hn
  · obtain rfl : i = n := by omega
    exact insert_end w v i cs x vb ho hx hx3 hx1 hn

def DelPost (w : World) (g cap q i : Nat) (cs : List Value) (e : Ending) (w' : World) : Prop :=
  e = .returned (.slice (some ⟨g, 0, none⟩) q cap) ∧ w'.ownsRow 0 146 3 (.slice (some ⟨g, 0, none⟩) q cap) q (cs.take (i * 3) ++ cs.drop ((i + 1) * 3)) ∧ w.grownBy w' (some g)
theorem run_clear_rowK {P : Program} (w : World) (t e ty : TypeId) (z : Value) (k : Nat) (ht : P.underlying t = some (.slice e)) (hv : ∀ w, (zeroValue e).run P w = .ok z w) (hz : z.cells.size = k) (h1 : ∀ u ∈ z.cells, u.oneCell' = true) (g o n c : Nat) (hn : 0 < n)
    (cur : Array Value) (tt : TypeId) (hg : w.heap[g]? = some (.cells cur tt (0, 0))) (hfit : o + n * k ≤ cur.size) :
    (Builtin.clear_ #[t] ty #[.slice (some ⟨g, o, none⟩) n c]).run P w = .ok (.tuple #[]) (w.setRow g (cur.toList.take o ++ (Builtin.zeroCells z.cells n).toList ++ cur.toList.drop (o + (Builtin.zeroCells z.cells n).toList.length)).toArray) := by
  have hl : (Builtin.zeroCells z.cells n).toList.length = n * k := by rw [Array.length_toList, size_zeroCells, hz]
  have h1' : ∀ u ∈ (Builtin.zeroCells z.cells n).toList, u.oneCell' = true := by
    intro u hu
    simp only [Builtin.zeroCells, Array.toList_map, List.mem_map, Array.toList_range, List.mem_range] at hu
    obtain ⟨j, hj, rfl⟩ := hu
    have hk : 0 < z.cells.size := by
      rcases Nat.eq_zero_or_pos z.cells.size with h | h
      · rw [h] at hj; omega
      · exact h
    have hlt : j % z.cells.size < z.cells.size := Nat.mod_lt _ hk
    have : z.cells[j % z.cells.size]! = z.cells[j % z.cells.size] := by simp [hlt]
    rw [this]
    exact h1 _ (Array.getElem_mem hlt)
  have hst := run_storeCells_at P g o tt (Builtin.zeroCells z.cells n).toList 0 cur w hg (by rw [hl]; simpa using hfit) h1'
  simp only [Nat.add_zero] at hst
  obtain ⟨m, rfl⟩ : ∃ m, n = m + 1 := ⟨n - 1, by omega⟩
  simp [Builtin.clear_, run_underlying ht, hv, hst]
theorem infoFz (w : World) : (zeroValue 146).run Tryz.prog w = .ok (.agg #[.string ⟨#[]⟩, .slice none 0 0, .int .i64 0]) w := by kernel_rfl
theorem del_list {α : Type} (cs R zs : List α) (i q : Nat) (hc : cs.length = (q + 1) * 3) (hi : i ≤ q) (hR : R.take ((q + 1) * 3) = cs) :
    (((R.take (i * 3) ++ cs.drop ((i + 1) * 3) ++ R.drop (i * 3 + (cs.drop ((i + 1) * 3)).length)).take (q * 3) ++ zs).take (q * 3)) = cs.take (i * 3) ++ cs.drop ((i + 1) * 3) := by
  have hd : (cs.drop ((i + 1) * 3)).length = (q + 1) * 3 - (i + 1) * 3 := by simp [hc]
  have hlR : (q + 1) * 3 ≤ R.length := by have := congrArg List.length hR; simp only [List.length_take, hc] at this; omega
  have e1 : (R.take (i * 3) ++ cs.drop ((i + 1) * 3) ++ R.drop (i * 3 + (cs.drop ((i + 1) * 3)).length)).take (q * 3) = cs.take (i * 3) ++ cs.drop ((i + 1) * 3) := by
    rw [List.take_append_of_le_length (by simp only [List.length_append, List.length_take, hd]; omega), List.take_of_length_le (by simp only [List.length_append, List.length_take, hd]; omega), ← hR, List.take_take, Nat.min_eq_left (by omega)]
  rw [e1, List.take_append_of_le_length (by simp only [List.length_append, List.length_take, hd, hc]; omega), List.take_of_length_le (by simp only [List.length_append, List.length_take, hd, hc]; omega)]
set_option maxHeartbeats 4000000 in
/-- Delete of one file. -/
theorem delete_one (w : World) (g cap q i : Nat) (cs : List Value) (hi : i ≤ q) (ho : w.ownsRow 0 146 3 (.slice (some ⟨g, 0, none⟩) (q + 1) cap) (q + 1) cs) (hc1 : ∀ u ∈ cs, u.oneCell' = true) (hn : q ≤ 1000) :
    Calls Tryz.prog 129 #[.slice (some ⟨g, 0, none⟩) (q + 1) cap, .int .i64 (i : Int), .int .i64 ((i : Int) + 1)] w (DelPost w g cap q i cs) := by
  obtain ⟨hcl, hown⟩ := ho
  rcases hown with ⟨h, _⟩ | ⟨g', cap', cur, he, hg0, hh, h1, h2, h3, h4⟩
  · cases h
  injection he with he1 _ he2
  injection he1 with he1
  injection he1 with he1
  subst he1
  subst he2
  obtain ⟨i0, hi0, hz0, hz1, hz2⟩ := info_parts infoF
  obtain ⟨R, hR⟩ : ∃ R, R = cur.toList := ⟨_, rfl⟩
  have hRl : R.length = cap * 3 := by rw [hR, Array.length_toList]; exact h3
  rw [← hR] at h4
  have hcur : cur = R.toArray := by rw [hR]
  subst hcur
  clear hR h3
  have hdl : (cs.drop ((i + 1) * 3)).length = (q - i) * 3 := by rw [List.length_drop, hcl]; omega
  obtain ⟨R1, hR1⟩ : ∃ R1 : List Value, R1 = R.take (i * 3) ++ cs.drop ((i + 1) * 3) ++ R.drop (i * 3 + (cs.drop ((i + 1) * 3)).length) := ⟨_, rfl⟩
  have hR1l : R1.length = cap * 3 := by
    rw [hR1]; simp only [List.length_append, List.length_take, List.length_drop, hRl, hcl]; omega
  have hap : ∀ ty ad, (i < q → ad = ⟨g, (i + 1) * 3, none⟩) → ∀ c, (Builtin.append_ #[82, 82] ty #[.slice (some ⟨g, 0, none⟩) i cap, .slice (some ad) (q - i) c]).run Tryz.prog w.drew = .ok (.slice (some ⟨g, 0, none⟩) q cap) (w.drew.setRow g R1.toArray) := fun ty ad had c => by
    have := run_append_room (P := Tryz.prog) w.drew 82 ty 146 i0 Tryz.underlying82 hi0 g i cap R.toArray hh ad (q - i) c (cs.drop ((i + 1) * 3)) (by rw [hz1, hdl])
      (fun j u hj => by
        have hj1 := (List.getElem?_eq_some_iff.1 hj).1
        rw [had (by omega), addr_add]
        rw [List.getElem?_drop, ← h4, List.getElem?_take] at hj
        split at hj
        · show w.cell? _ = _; rw [cell_row hh]; simpa using hj
        · cases hj)
      (fun u hu => hc1 u (List.mem_of_mem_drop hu)) (by omega) (by rw [hz1, hdl]; simp [hRl]; omega)
    rw [this, hz1, show i + (q - i) = q by omega]
    simp only [hR1]
  obtain ⟨W1, hW1⟩ : ∃ W1, W1 = w.drew.setRow g R1.toArray := ⟨_, rfl⟩
  have hh1 : W1.heap[g]? = some (.cells R1.toArray 146 (0, 0)) := by rw [hW1]; exact setRow_heap w.drew g _ _ _ _ hh
  rw [← hW1] at hap
  obtain ⟨Z, hZ⟩ : ∃ Z : Value, Z = .agg #[.string ⟨#[]⟩, .slice none 0 0, .int .i64 0] := ⟨_, rfl⟩
  obtain ⟨R2, hR2⟩ : ∃ R2 : List Value, R2 = R1.take (q * 3) ++ (Builtin.zeroCells Z.cells 1).toList ++ R1.drop (q * 3 + (Builtin.zeroCells Z.cells 1).toList.length) := ⟨_, rfl⟩
  have hzl : (Builtin.zeroCells Z.cells 1).toList.length = 3 := by rw [Array.length_toList, size_zeroCells, hZ]; rfl
  have hR2l : R2.length = cap * 3 := by
    rw [hR2]; simp only [List.length_append, List.length_take, List.length_drop, hR1l, hzl]; omega
  have hcl2 : ∀ ty c, (Builtin.clear_ #[82] ty #[.slice (some ⟨g, q * 3, none⟩) 1 c]).run Tryz.prog W1 = .ok (.tuple #[]) (W1.setRow g R2.toArray) := fun ty c => by
    have := run_clear_rowK (P := Tryz.prog) W1 82 146 ty Z 3 Tryz.underlying82 (by rw [hZ]; exact infoFz) (by rw [hZ]; rfl) (by rw [hZ]; intro u hu; simp [Value.cells] at hu; rcases hu with rfl | rfl | rfl <;> rfl) g (q * 3) 1 c (by omega) R1.toArray 146 hh1 (by simp [hR1l]; omega)
    rw [this]
    simp only [hR2]
  have hfin : R2.take (q * 3) = cs.take (i * 3) ++ cs.drop ((i + 1) * 3) := by
    rw [hR2, hR1, List.append_assoc]; exact del_list cs R _ i q hcl hi h4
  have hend : DelPost w g cap q i cs (.returned (.slice (some ⟨g, 0, none⟩) q cap)) (W1.setRow g R2.toArray) := by
    refine ⟨rfl, ⟨by rw [← hfin, List.length_take]; omega, .inr ⟨g, cap, R2.toArray, rfl, Nat.zero_le _, setRow_heap W1 g _ _ _ _ hh1, by omega, h2, by simpa using hR2l, by simpa using hfin⟩⟩, ?_⟩
    refine ⟨by rw [hW1]; rfl, by rw [hW1]; rfl, by rw [hW1]; rfl, by rw [hW1]; simp, fun k hk hkn => ?_⟩
    have hkg : k ≠ g := fun e => hkn (by rw [e])
    rw [setRow_other W1 g k _ hkg, hW1, setRow_other w.drew g k _ hkg]
    rfl
  have HE := Lib.hid hend
  have HAP := Lib.hid hap
  have HCL := Lib.hid hcl2
  have hb1 : ¬ (cap = q) := by omega
  have hb2 : ¬ (cap = i) := by omega
  clear hend hap hcl2 hfin hR2 hR2l hR1 hR1l hh1 hW1 hdl h4 hRl hcl hh hc1 hzl hZ hi0 hz0 hz1 hz2
  have hw1 : IntKind.i64.wrap ((i : Int) + 1) = (i : Int) + 1 := by rw [IntKind.wrap_i64]; omega
  have hq1 : (0 : Int) ≤ (i : Int) + 1 := by omega
  have hq2 : (i : Int) + 1 ≤ (q : Int) + 1 := by omega
  have hq3 : ((i : Int) + 1).toNat = i + 1 := by omega
  have hq4 : (i : Int) ≤ (cap : Int) := by omega
  have hq5 : q + 1 - (i + 1) = q - i := by omega
  by_cases hcc : cap = i + 1
  · obtain ⟨hiq⟩ : Nonempty (i = q) := ⟨by omega⟩
    have hcc2 := hcc.symm
    clear hcc
    subst hcc2
    subst hiq
    have hz9 := fun ty => HAP.out ty ⟨g, 0, none⟩ (fun h => absurd h (by omega))
    simp only [Nat.sub_self] at hz9
    have hq6 : (i : Int) ≤ (i : Int) + 1 := by omega
    go_enter Tryz.func129, Tryz.ntmps129
    go_wp2_with fail
    go_region_law (refine step_append_run rfl (.tmp 22) (.tmp 25) 82 82 rfl _ _ (by rfl) (by rfl) (hz9 _ _) ?_)
    clear hw1 hq1 hq2 hq3 hq4 hq5 hz9
    go_wp2_with (with_reducible refine wpList_clear_run _ rfl (.tmp 31) 82 rfl _ rfl (HCL.out _ _) ?_)
    go_ret
    exact HE.out
  · have hz9 := fun ty => HAP.out ty ⟨g, (i + 1) * 3, none⟩ (fun _ => rfl)
    go_enter Tryz.func129, Tryz.ntmps129
    go_wp2_with fail
    go_region_law (refine step_append_run rfl (.tmp 22) (.tmp 25) 82 82 rfl _ _ (by rfl) (by rfl) (hz9 _ _) ?_)
    clear hw1 hq1 hq2 hq3 hq4 hq5 hz9
    go_wp2_with (with_reducible refine wpList_clear_run _ rfl (.tmp 31) 82 rfl _ rfl (HCL.out _ _) ?_)
    go_ret
    exact HE.out
end Go.Proofs.YtohpgipgfmkflaaGreatDoor
