/- The card of LogNone: a log that neither Begin nor Resume made answers nothing and ErrNil. -/
import Derived.Test.YtohpgipgfmkflaaGreatDoorLKFNone
import Derived.Test.YtohpgipgfmkflaaGreatDoorLG2
namespace Go.Proofs.YtohpgipgfmkflaaGreatDoor
open Go.ChangeShapes Go.WideShapes Go.ChangeAt Go.RowKit
set_option linter.unusedVariables false
set_option linter.unusedSimpArgs false
set_option maxRecDepth 100000
namespace LogNoneProof
theorem okTs : OkTypes Tryz.f3.params.toList := okTypes_of (by kernel_rfl)
theorem contract (H : Type) (enc : TypeId × Value → H) (W : World) (base : Nat) (args : Array Value) (ds gs : List (DataW H)) (before : List MemPlace)
    (hval : ∀ (j : Nat) t v, Tryz.f3.params[j]? = some t → args[j]? = some v → Value.okWide Tryz.prog W .any base t v)
    (hW : DataW.Whole enc Tryz.prog Tryz.f3.params.toList Rows.logNoneSpec.vars false W args.toList ds gs before) (hsz : (DataW.weightsEach Tryz.prog (Tryz.f3.params.toList ++ (OpenSpec.ofChange Rows.logNoneSpec).bare.plain.varTypes Tryz.prog) (ds ++ gs)).all (· ≤ reachBytes) = true) (hL : laidMetH Tryz.prog Rows.logNoneRow.laid W) :
    Calls Tryz.prog 3 args W fun e W' => ∃ v, e = .returned v ∧ Rows.logNoneSpec.post enc Tryz.prog Tryz.f3 false true false false W args v W' := by
  have h5 : 5 ≤ W.heap.size := size_of hL
  letI : Base := ⟨W.heap.size, h5⟩
  have hl : Laid W := laid_of hL (Nat.le_refl _)
  have hB : W.heap.size ≤ Base.b := Nat.le_refl _
  have hW0 := hW
  obtain ⟨p, q, hA, hV, rfl, hfz, hnd⟩ := hW
  rw [Tryz.params3] at hA hval
  obtain ⟨hcall, hfn⟩ : (Calls Tryz.prog 3 args W fun e w' => e = .returned (.bool true) ∧ Below W.heap.size W w') ∧ Rows.logNoneSpec.fn H ds = { results := [.lit (.bool true)], args := ds } := by
    obtain ⟨v0, vs0, d0, ds0, p0, q0, hargs, rfl, rfl, h0, r0⟩ := trodAll_cons hA
    obtain ⟨v1, vs1, d1, ds1, p1, q1, hargs1, rfl, rfl, h1, r1⟩ := trodAll_cons r0
    obtain ⟨rfl, rfl, rfl⟩ := trodAll_nil r1
    obtain rfl : args = #[v0, v1] := by cases args; simp_all
    obtain ⟨n, rfl, rfl, rfl, wn⟩ := open_int Tryz.underlying3 (hval 1 3 v1 rfl rfl) h1
    exact ⟨logNone_any W v0 n hl, rfl⟩
  refine hcall.mono fun e W' ⟨he, hb⟩ => ⟨_, he, post_of_below hW0 rfl okTs hfn (by kernel_rfl) hb⟩
theorem lifted (os : Os) (started : os.Started) (H : Type) (enc : TypeId × Value → H) (F : Stop.Interp) :
    ReturnsInHanded {} Tryz.checked os 3 .any ((OpenSpec.ofChange Rows.logNoneSpec).preRow enc Tryz.prog Tryz.f3 Rows.logNoneRow.domain false Rows.logNoneRow.laid) (((OpenSpec.ofChange Rows.logNoneSpec).at F).post enc Tryz.prog Tryz.f3 false true false false) := by
  refine returnsInHanded_of_row (C := Tryz.checked) (s := OpenSpec.ofChange Rows.logNoneSpec) own started (by kernel_rfl) Tryz.func3
    (witness_row_at (enc := enc) (C := Tryz.checked) false (laidWorld os) #[.slice none 0 0, .int .i64 0] rfl (wv os) (wr os) (wo os) (wpre os enc)) ?_
  intro W base args ds gs before hval hW _ _ hsz hL _ _
  exact contract H enc W base args ds gs before hval hW hsz hL
theorem said : Rows.LogNoneSaid :=
  OpenClaim.holds_of_cond 3 Tryz.f3 rfl rfl rfl rfl rfl rfl rfl ⟨rfl, rfl, rfl, rfl, rfl⟩ rfl rfl rfl rfl rfl named Tryz.func3 facts inst wrap
    (fun os started H enc _ F => by rw [OpenClaim.pre_eq_preRow]; exact lifted os started H enc F)
theorem plain (f : FuncId) (fn : Func) (hf : Tryz.pinned.checked.prog.funcNamed "millwheel/millwheellaw04.LogNone" = some f) (hfn : Tryz.pinned.checked.prog.funcs[f]? = some fn) :
    true = Tryz.pinned.checked.prog.looks [] ∧ ∀ (j : Nat) t, fn.params[j]? = some t → Tryz.pinned.checked.prog.wantsStandIn t = false := by
  obtain rfl : f = 3 := Option.some.inj ((show Tryz.prog.funcNamed "millwheel/millwheellaw04.LogNone" = some 3 by kernel_rfl).symm.trans hf) |>.symm
  obtain rfl : fn = Tryz.f3 := (Option.some.inj (Tryz.func3.symm.trans hfn)).symm
  refine ⟨by kernel_rfl, fun j t ht => ?_⟩
  have hall : (Tryz.f3.params.toList.all fun t => Tryz.prog.wantsStandIn t == false) = true := by kernel_rfl
  have hw := List.all_eq_true.1 hall t (by have := Array.mem_of_getElem? ht; simpa using this)
  have hw2 : Tryz.prog.wantsStandIn t = false := by simpa using hw
  exact hw2
/-- The card. -/
theorem card : Rows.LogNoneCardSaid :=
  Claim7.holds_tied_plain_at .later [] _ _ _ _ said (fun _ h => by cases h) byText (fun _ h => by cases h) logNone_row_tie rfl ⟨rfl, rfl⟩ pMain rfl plain goes
end LogNoneProof
/-- LogNone: its card. -/
theorem logNone_card : Rows.LogNoneCardSaid := LogNoneProof.card
end Go.Proofs.YtohpgipgfmkflaaGreatDoor
