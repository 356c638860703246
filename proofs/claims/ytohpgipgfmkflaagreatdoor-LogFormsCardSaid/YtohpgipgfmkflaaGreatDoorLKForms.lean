/- The card of LogForms: the bytes of a batch are no other one's. -/
import Derived.Test.YtohpgipgfmkflaaGreatDoorLKFForms
import Derived.Test.YtohpgipgfmkflaaGreatDoorLG4
namespace Go.Proofs.YtohpgipgfmkflaaGreatDoor
open Go.ChangeShapes Go.WideShapes Go.ChangeAt Go.RowKit
set_option linter.unusedVariables false
set_option linter.unusedSimpArgs false
set_option maxRecDepth 100000
namespace LogFormsProof
theorem okTs : OkTypes Tryz.f5.params.toList := okTypes_of (by kernel_rfl)
theorem contract (H : Type) (enc : TypeId × Value → H) (W : World) (base : Nat) (args : Array Value) (ds gs : List (DataW H)) (before : List MemPlace)
    (hval : ∀ (j : Nat) t v, Tryz.f5.params[j]? = some t → args[j]? = some v → Value.okWide Tryz.prog W .any base t v)
    (hW : DataW.Whole enc Tryz.prog Tryz.f5.params.toList Rows.logFormsSpec.vars false W args.toList ds gs before) (hsz : (DataW.weightsEach Tryz.prog (Tryz.f5.params.toList ++ (OpenSpec.ofChange Rows.logFormsSpec).bare.plain.varTypes Tryz.prog) (ds ++ gs)).all (· ≤ reachBytes) = true) (hL : laidMetH Tryz.prog Rows.logFormsRow.laid W) :
    Calls Tryz.prog 5 args W fun e W' => ∃ v, e = .returned v ∧ Rows.logFormsSpec.post enc Tryz.prog Tryz.f5 false true false false W args v W' := by
  have h5 : 5 ≤ W.heap.size := size_of hL
  letI : Base := ⟨W.heap.size, h5⟩
  have hl : Laid W := laid_of hL (Nat.le_refl _)
  have hB : W.heap.size ≤ Base.b := Nat.le_refl _
  have hW0 := hW
  obtain ⟨p, q, hA, hV, rfl, hfz, hnd⟩ := hW
  rw [Tryz.params5] at hA hval
  obtain ⟨hcall, hfn⟩ : (Calls Tryz.prog 5 args W fun e w' => e = .returned (.bool true) ∧ Below W.heap.size W w') ∧ Rows.logFormsSpec.fn H ds = { results := [.lit (.bool true)], args := ds } := by
    obtain ⟨v0, vs0, d0, ds0, p0, q0, hargs, rfl, rfl, h0, r0⟩ := trodAll_cons hA
    obtain ⟨v1, vs1, d1, ds1, p1, q1, hargs1, rfl, rfl, h1, r1⟩ := trodAll_cons r0
    obtain ⟨v2, vs2, d2, ds2, p2, q2, hargs2, rfl, rfl, h2, r2⟩ := trodAll_cons r1
    obtain ⟨v3, vs3, d3, ds3, p3, q3, hargs3, rfl, rfl, h3, r3⟩ := trodAll_cons r2
    obtain ⟨rfl, rfl, rfl⟩ := trodAll_nil r3
    obtain rfl : args = #[v0, v1, v2, v3] := by cases args; simp_all
    obtain ⟨n1, ra, la, rfl, hn1, ha⟩ := open_batch hB (hval 0 _ v0 rfl rfl) h0
    obtain ⟨n2, rb, lb, rfl, hn2, hb⟩ := open_batch hB (hval 1 _ v1 rfl rfl) h1
    obtain ⟨body, hbo⟩ := arg_bytes hB (hval 2 _ v2 rfl rfl) h2
    obtain ⟨first, rfl, hf⟩ := arg_int (hval 3 _ v3 rfl rfl) h3
    exact ⟨logForms_any W _ n1 n2 ra rb v2 la lb body first hl ha hb hbo hn1 hn2 hf, rfl⟩
  refine hcall.mono fun e W' ⟨he, hb⟩ => ⟨_, he, post_of_below hW0 rfl okTs hfn (by kernel_rfl) hb⟩
theorem lifted (os : Os) (started : os.Started) (H : Type) (enc : TypeId × Value → H) (F : Stop.Interp) :
    ReturnsInHanded {} Tryz.checked os 5 .any ((OpenSpec.ofChange Rows.logFormsSpec).preRow enc Tryz.prog Tryz.f5 Rows.logFormsRow.domain false Rows.logFormsRow.laid) (((OpenSpec.ofChange Rows.logFormsSpec).at F).post enc Tryz.prog Tryz.f5 false true false false) := by
  refine returnsInHanded_of_row (C := Tryz.checked) (s := OpenSpec.ofChange Rows.logFormsSpec) own started (by kernel_rfl) Tryz.func5
    (witness_row_at (enc := enc) (C := Tryz.checked) false (laidWorld os) #[.agg #[.int .i64 0, .slice none 0 0], .agg #[.int .i64 0, .slice none 0 0], .slice none 0 0, .int .i64 0] rfl (wv os) (wr os) (wo os) (wpre os enc)) ?_
  intro W base args ds gs before hval hW _ _ hsz hL _ _
  exact contract H enc W base args ds gs before hval hW hsz hL
theorem said : Rows.LogFormsSaid :=
  OpenClaim.holds_of_cond 5 Tryz.f5 rfl rfl rfl rfl rfl rfl rfl ⟨rfl, rfl, rfl, rfl, rfl⟩ rfl rfl rfl rfl rfl named Tryz.func5 facts inst wrap
    (fun os started H enc _ F => by rw [OpenClaim.pre_eq_preRow]; exact lifted os started H enc F)
theorem plain (f : FuncId) (fn : Func) (hf : Tryz.pinned.checked.prog.funcNamed "millwheel/millwheellaw04.LogForms" = some f) (hfn : Tryz.pinned.checked.prog.funcs[f]? = some fn) :
    true = Tryz.pinned.checked.prog.looks [] ∧ ∀ (j : Nat) t, fn.params[j]? = some t → Tryz.pinned.checked.prog.wantsStandIn t = false := by
  obtain rfl : f = 5 := Option.some.inj ((show Tryz.prog.funcNamed "millwheel/millwheellaw04.LogForms" = some 5 by kernel_rfl).symm.trans hf) |>.symm
  obtain rfl : fn = Tryz.f5 := (Option.some.inj (Tryz.func5.symm.trans hfn)).symm
  refine ⟨by kernel_rfl, fun j t ht => ?_⟩
  have hall : (Tryz.f5.params.toList.all fun t => Tryz.prog.wantsStandIn t == false) = true := by kernel_rfl
  have hw := List.all_eq_true.1 hall t (by have := Array.mem_of_getElem? ht; simpa using this)
  have hw2 : Tryz.prog.wantsStandIn t = false := by simpa using hw
  exact hw2
/-- The card. -/
theorem card : Rows.LogFormsCardSaid :=
  Claim7.holds_tied_plain_at .later [] _ _ _ _ said (fun _ h => by cases h) byText (fun _ h => by cases h) logForms_row_tie rfl ⟨rfl, rfl⟩ pMain rfl plain goes
end LogFormsProof
/-- LogForms: its card. -/
theorem logForms_card : Rows.LogFormsCardSaid := LogFormsProof.card
end Go.Proofs.YtohpgipgfmkflaaGreatDoor
