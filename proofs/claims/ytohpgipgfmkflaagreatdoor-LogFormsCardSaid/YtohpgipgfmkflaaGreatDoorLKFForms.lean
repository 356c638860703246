/- Closed facts on LogForms's row. -/
import Derived.Test.YtohpgipgfmkflaaGreatDoorMl
namespace Go.Proofs.YtohpgipgfmkflaaGreatDoor
set_option linter.unusedVariables false
set_option linter.unusedSimpArgs false
set_option maxRecDepth 100000
namespace LogFormsProof
theorem reads0 (os : Os) {H : Type} (enc : TypeId × Value → H) : (DataW.whole enc Tryz.prog ((laidWorld os).forCall (fun _ _ => 0) ⟨#[], #[.agg #[.int .i64 0, .slice none 0 0], .agg #[.int .i64 0, .slice none 0 0], .slice none 0 0, .int .i64 0], []⟩).memory Tryz.f5.params.toList Rows.logFormsSpec.vars false #[.agg #[.int .i64 0, .slice none 0 0], .agg #[.int .i64 0, .slice none 0 0], .slice none 0 0, .int .i64 0].toList 8).map (fun r => r.2.1) = some [] := by kernel_rfl
theorem wv (os : Os) : ((laidWorld os).forCall (fun _ _ => 0) ⟨#[], #[.agg #[.int .i64 0, .slice none 0 0], .agg #[.int .i64 0, .slice none 0 0], .slice none 0 0, .int .i64 0], []⟩).variablesB Tryz.prog = true := by kernel_rfl
theorem wr (os : Os) : (((laidWorld os).forCall (fun _ _ => 0) ⟨#[], #[.agg #[.int .i64 0, .slice none 0 0], .agg #[.int .i64 0, .slice none 0 0], .slice none 0 0, .int .i64 0], []⟩).heap.toList.drop Tryz.prog.globals.size).take ((begin Tryz.prog (fun _ _ => 0) default).world.heap.size - Tryz.prog.globals.size) =
      (begin Tryz.prog (fun _ _ => 0) default).world.heap.toList.drop Tryz.prog.globals.size := by kernel_rfl
theorem wo (os : Os) : Input.okWideB Tryz.prog ((laidWorld os).forCall (fun _ _ => 0) ⟨#[], #[.agg #[.int .i64 0, .slice none 0 0], .agg #[.int .i64 0, .slice none 0 0], .slice none 0 0, .int .i64 0], []⟩) 5 ⟨#[], #[.agg #[.int .i64 0, .slice none 0 0], .agg #[.int .i64 0, .slice none 0 0], .slice none 0 0, .int .i64 0], []⟩ = true := by kernel_rfl
theorem ws (os : Os) {H : Type} (enc : TypeId × Value → H) : (OpenSpec.ofChange Rows.logFormsSpec).bare.sizedB enc Tryz.prog Tryz.f5 false ((laidWorld os).forCall (fun _ _ => 0) ⟨#[], #[.agg #[.int .i64 0, .slice none 0 0], .agg #[.int .i64 0, .slice none 0 0], .slice none 0 0, .int .i64 0], []⟩).memory #[.agg #[.int .i64 0, .slice none 0 0], .agg #[.int .i64 0, .slice none 0 0], .slice none 0 0, .int .i64 0] 8 = true := by kernel_rfl
theorem wpre (os : Os) {H : Type} (enc : TypeId × Value → H) : (OpenSpec.ofChange Rows.logFormsSpec).preRow enc Tryz.prog Tryz.f5 Rows.logFormsRow.domain false Rows.logFormsRow.laid ((laidWorld os).forCall (fun _ _ => 0) ⟨#[], #[.agg #[.int .i64 0, .slice none 0 0], .agg #[.int .i64 0, .slice none 0 0], .slice none 0 0, .int .i64 0], []⟩).memory #[.agg #[.int .i64 0, .slice none 0 0], .agg #[.int .i64 0, .slice none 0 0], .slice none 0 0, .int .i64 0] := by
  have h := reads0 os enc
  cases hx : DataW.whole enc Tryz.prog ((laidWorld os).forCall (fun _ _ => 0) ⟨#[], #[.agg #[.int .i64 0, .slice none 0 0], .agg #[.int .i64 0, .slice none 0 0], .slice none 0 0, .int .i64 0], []⟩).memory Tryz.f5.params.toList Rows.logFormsSpec.vars false #[.agg #[.int .i64 0, .slice none 0 0], .agg #[.int .i64 0, .slice none 0 0], .slice none 0 0, .int .i64 0].toList 8 with
  | none => rw [hx] at h; cases h
  | some x => exact OpenSpec.preRow_of_cond 8 hx rfl (fun k hk => by cases hk) (ws os enc) (laid_met os _)
theorem f10 : (Rows.logFormsRow.inPlace == Tryz.prog.inPlace 5) = true := by kernel_rfl
theorem f11 : (Rows.logFormsRow.unfollowed == Tryz.prog.unfollowed 5) = true := by kernel_rfl
theorem f12 : (Rows.logFormsRow.recurses == Tryz.prog.recurses 5) = true := by kernel_rfl
theorem f13 : (Rows.logFormsRow.named == Tryz.prog.varsNamed 5) = true := by kernel_rfl
theorem f23 : (Rows.logFormsRow.plainKeys == Tryz.prog.plainKeys) = true := by kernel_rfl
theorem facts : joinedFacts Tryz.prog 5 Tryz.f5 (OpenSpec.ofChange Rows.logFormsSpec).bare Rows.logFormsRow = true :=
  facts_of (by kernel_rfl) pLaidOut pMapsRowed (by kernel_rfl) (by kernel_rfl) (by kernel_rfl) (by kernel_rfl) (by kernel_rfl) (by kernel_rfl) f10 f11 f12 f13 (by kernel_rfl) (by kernel_rfl) (by kernel_rfl) (by kernel_rfl) (by kernel_rfl) (by kernel_rfl) (by kernel_rfl) (by kernel_rfl) (by kernel_rfl) f23 (by kernel_rfl) pStopsHeard pMayEnter (by kernel_rfl) (by kernel_rfl) (by kernel_rfl) (by kernel_rfl) (by kernel_rfl) (by kernel_rfl)
theorem named : Tryz.prog.funcNamed Rows.logFormsRow.func = some 5 := by kernel_rfl
theorem inst : Tryz.f5.isInstance Tryz.prog Rows.logFormsRow.origin Rows.logFormsRow.targs := of_decide_eq_true (by kernel_rfl)
theorem wrap : Tryz.f5.isWrapper Tryz.prog Rows.logFormsRow.wrapper Rows.logFormsRow.mainSum := by unfold Func.isWrapper; first | (rw [if_pos (by decide +kernel)]; kernel_rfl) | (rw [if_neg (by decide +kernel)]; exact ⟨rfl, rfl⟩)
theorem byText : Rows.logFormsRow.wfByText (OpenSpec.ofChange Rows.logFormsSpec) = true := by kernel_rfl
theorem goes : false = Rows.logFormsRow.goesBy Tryz.prog := by kernel_rfl
end LogFormsProof
end Go.Proofs.YtohpgipgfmkflaaGreatDoor
