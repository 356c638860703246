/- Closed facts on LogEnded's row. -/
import Derived.Test.YtohpgipgfmkflaaGreatDoorMl
namespace Go.Proofs.YtohpgipgfmkflaaGreatDoor
set_option linter.unusedVariables false
set_option linter.unusedSimpArgs false
set_option maxRecDepth 100000
namespace LogEndedProof
theorem reads0 (os : Os) {H : Type} (enc : TypeId × Value → H) : (DataW.whole enc Tryz.prog ((laidWorld os).forCall (fun _ _ => 0) ⟨#[], #[.slice none 0 0, .int .u16 0, .int .u16 0, .slice none 0 0], []⟩).memory Tryz.f4.params.toList Rows.logEndedSpec.vars false #[.slice none 0 0, .int .u16 0, .int .u16 0, .slice none 0 0].toList 8).map (fun r => r.2.1) = some [] := by kernel_rfl
theorem wv (os : Os) : ((laidWorld os).forCall (fun _ _ => 0) ⟨#[], #[.slice none 0 0, .int .u16 0, .int .u16 0, .slice none 0 0], []⟩).variablesB Tryz.prog = true := by kernel_rfl
theorem wr (os : Os) : (((laidWorld os).forCall (fun _ _ => 0) ⟨#[], #[.slice none 0 0, .int .u16 0, .int .u16 0, .slice none 0 0], []⟩).heap.toList.drop Tryz.prog.globals.size).take ((begin Tryz.prog (fun _ _ => 0) default).world.heap.size - Tryz.prog.globals.size) =
      (begin Tryz.prog (fun _ _ => 0) default).world.heap.toList.drop Tryz.prog.globals.size := by kernel_rfl
theorem wo (os : Os) : Input.okWideB Tryz.prog ((laidWorld os).forCall (fun _ _ => 0) ⟨#[], #[.slice none 0 0, .int .u16 0, .int .u16 0, .slice none 0 0], []⟩) 4 ⟨#[], #[.slice none 0 0, .int .u16 0, .int .u16 0, .slice none 0 0], []⟩ = true := by kernel_rfl
theorem ws (os : Os) {H : Type} (enc : TypeId × Value → H) : (OpenSpec.ofChange Rows.logEndedSpec).bare.sizedB enc Tryz.prog Tryz.f4 false ((laidWorld os).forCall (fun _ _ => 0) ⟨#[], #[.slice none 0 0, .int .u16 0, .int .u16 0, .slice none 0 0], []⟩).memory #[.slice none 0 0, .int .u16 0, .int .u16 0, .slice none 0 0] 8 = true := by kernel_rfl
theorem wpre (os : Os) {H : Type} (enc : TypeId × Value → H) : (OpenSpec.ofChange Rows.logEndedSpec).preRow enc Tryz.prog Tryz.f4 Rows.logEndedRow.domain false Rows.logEndedRow.laid ((laidWorld os).forCall (fun _ _ => 0) ⟨#[], #[.slice none 0 0, .int .u16 0, .int .u16 0, .slice none 0 0], []⟩).memory #[.slice none 0 0, .int .u16 0, .int .u16 0, .slice none 0 0] := by
  have h := reads0 os enc
  cases hx : DataW.whole enc Tryz.prog ((laidWorld os).forCall (fun _ _ => 0) ⟨#[], #[.slice none 0 0, .int .u16 0, .int .u16 0, .slice none 0 0], []⟩).memory Tryz.f4.params.toList Rows.logEndedSpec.vars false #[.slice none 0 0, .int .u16 0, .int .u16 0, .slice none 0 0].toList 8 with
  | none => rw [hx] at h; cases h
  | some x => exact OpenSpec.preRow_of_cond 8 hx rfl (fun k hk => by cases hk) (ws os enc) (laid_met os _)
theorem f10 : (Rows.logEndedRow.inPlace == Tryz.prog.inPlace 4) = true := by kernel_rfl
theorem f11 : (Rows.logEndedRow.unfollowed == Tryz.prog.unfollowed 4) = true := by kernel_rfl
theorem f12 : (Rows.logEndedRow.recurses == Tryz.prog.recurses 4) = true := by kernel_rfl
theorem f13 : (Rows.logEndedRow.named == Tryz.prog.varsNamed 4) = true := by kernel_rfl
theorem f23 : (Rows.logEndedRow.plainKeys == Tryz.prog.plainKeys) = true := by kernel_rfl
theorem facts : joinedFacts Tryz.prog 4 Tryz.f4 (OpenSpec.ofChange Rows.logEndedSpec).bare Rows.logEndedRow = true :=
  facts_of (by kernel_rfl) pLaidOut pMapsRowed (by kernel_rfl) (by kernel_rfl) (by kernel_rfl) (by kernel_rfl) (by kernel_rfl) (by kernel_rfl) f10 f11 f12 f13 (by kernel_rfl) (by kernel_rfl) (by kernel_rfl) (by kernel_rfl) (by kernel_rfl) (by kernel_rfl) (by kernel_rfl) (by kernel_rfl) (by kernel_rfl) f23 (by kernel_rfl) pStopsHeard pMayEnter (by kernel_rfl) (by kernel_rfl) (by kernel_rfl) (by kernel_rfl) (by kernel_rfl) (by kernel_rfl)
theorem named : Tryz.prog.funcNamed Rows.logEndedRow.func = some 4 := by kernel_rfl
theorem inst : Tryz.f4.isInstance Tryz.prog Rows.logEndedRow.origin Rows.logEndedRow.targs := of_decide_eq_true (by kernel_rfl)
theorem wrap : Tryz.f4.isWrapper Tryz.prog Rows.logEndedRow.wrapper Rows.logEndedRow.mainSum := by unfold Func.isWrapper; first | (rw [if_pos (by decide +kernel)]; kernel_rfl) | (rw [if_neg (by decide +kernel)]; exact ⟨rfl, rfl⟩)
theorem byText : Rows.logEndedRow.wfByText (OpenSpec.ofChange Rows.logEndedSpec) = true := by kernel_rfl
theorem goes : false = Rows.logEndedRow.goesBy Tryz.prog := by kernel_rfl
end LogEndedProof
end Go.Proofs.YtohpgipgfmkflaaGreatDoor
