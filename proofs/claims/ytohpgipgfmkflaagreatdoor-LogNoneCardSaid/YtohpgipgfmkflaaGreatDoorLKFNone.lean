/- Closed facts on LogNone's row. -/
import Derived.Test.YtohpgipgfmkflaaGreatDoorMl
namespace Go.Proofs.YtohpgipgfmkflaaGreatDoor
set_option linter.unusedVariables false
set_option linter.unusedSimpArgs false
set_option maxRecDepth 100000
namespace LogNoneProof
theorem reads0 (os : Os) {H : Type} (enc : TypeId × Value → H) : (DataW.whole enc Tryz.prog ((laidWorld os).forCall (fun _ _ => 0) ⟨#[], #[.slice none 0 0, .int .i64 0], []⟩).memory Tryz.f3.params.toList Rows.logNoneSpec.vars false #[.slice none 0 0, .int .i64 0].toList 8).map (fun r => r.2.1) = some [] := by kernel_rfl
theorem wv (os : Os) : ((laidWorld os).forCall (fun _ _ => 0) ⟨#[], #[.slice none 0 0, .int .i64 0], []⟩).variablesB Tryz.prog = true := by kernel_rfl
theorem wr (os : Os) : (((laidWorld os).forCall (fun _ _ => 0) ⟨#[], #[.slice none 0 0, .int .i64 0], []⟩).heap.toList.drop Tryz.prog.globals.size).take ((begin Tryz.prog (fun _ _ => 0) default).world.heap.size - Tryz.prog.globals.size) =
      (begin Tryz.prog (fun _ _ => 0) default).world.heap.toList.drop Tryz.prog.globals.size := by kernel_rfl
theorem wo (os : Os) : Input.okWideB Tryz.prog ((laidWorld os).forCall (fun _ _ => 0) ⟨#[], #[.slice none 0 0, .int .i64 0], []⟩) 3 ⟨#[], #[.slice none 0 0, .int .i64 0], []⟩ = true := by kernel_rfl
theorem ws (os : Os) {H : Type} (enc : TypeId × Value → H) : (OpenSpec.ofChange Rows.logNoneSpec).bare.sizedB enc Tryz.prog Tryz.f3 false ((laidWorld os).forCall (fun _ _ => 0) ⟨#[], #[.slice none 0 0, .int .i64 0], []⟩).memory #[.slice none 0 0, .int .i64 0] 8 = true := by kernel_rfl
theorem wpre (os : Os) {H : Type} (enc : TypeId × Value → H) : (OpenSpec.ofChange Rows.logNoneSpec).preRow enc Tryz.prog Tryz.f3 Rows.logNoneRow.domain false Rows.logNoneRow.laid ((laidWorld os).forCall (fun _ _ => 0) ⟨#[], #[.slice none 0 0, .int .i64 0], []⟩).memory #[.slice none 0 0, .int .i64 0] := by
  have h := reads0 os enc
  cases hx : DataW.whole enc Tryz.prog ((laidWorld os).forCall (fun _ _ => 0) ⟨#[], #[.slice none 0 0, .int .i64 0], []⟩).memory Tryz.f3.params.toList Rows.logNoneSpec.vars false #[.slice none 0 0, .int .i64 0].toList 8 with
  | none => rw [hx] at h; cases h
  | some x => exact OpenSpec.preRow_of_cond 8 hx rfl (fun k hk => by cases hk) (ws os enc) (laid_met os _)
theorem f10 : (Rows.logNoneRow.inPlace == Tryz.prog.inPlace 3) = true := by kernel_rfl
theorem f11 : (Rows.logNoneRow.unfollowed == Tryz.prog.unfollowed 3) = true := by kernel_rfl
theorem f12 : (Rows.logNoneRow.recurses == Tryz.prog.recurses 3) = true := by kernel_rfl
theorem f13 : (Rows.logNoneRow.named == Tryz.prog.varsNamed 3) = true := by kernel_rfl
theorem f23 : (Rows.logNoneRow.plainKeys == Tryz.prog.plainKeys) = true := by kernel_rfl
theorem facts : joinedFacts Tryz.prog 3 Tryz.f3 (OpenSpec.ofChange Rows.logNoneSpec).bare Rows.logNoneRow = true :=
  facts_of (by kernel_rfl) pLaidOut pMapsRowed (by kernel_rfl) (by kernel_rfl) (by kernel_rfl) (by kernel_rfl) (by kernel_rfl) (by kernel_rfl) f10 f11 f12 f13 (by kernel_rfl) (by kernel_rfl) (by kernel_rfl) (by kernel_rfl) (by kernel_rfl) (by kernel_rfl) (by kernel_rfl) (by kernel_rfl) (by kernel_rfl) f23 (by kernel_rfl) pStopsHeard pMayEnter (by kernel_rfl) (by kernel_rfl) (by kernel_rfl) (by kernel_rfl) (by kernel_rfl) (by kernel_rfl)
theorem named : Tryz.prog.funcNamed Rows.logNoneRow.func = some 3 := by kernel_rfl
theorem inst : Tryz.f3.isInstance Tryz.prog Rows.logNoneRow.origin Rows.logNoneRow.targs := of_decide_eq_true (by kernel_rfl)
theorem wrap : Tryz.f3.isWrapper Tryz.prog Rows.logNoneRow.wrapper Rows.logNoneRow.mainSum := by unfold Func.isWrapper; first | (rw [if_pos (by decide +kernel)]; kernel_rfl) | (rw [if_neg (by decide +kernel)]; exact ⟨rfl, rfl⟩)
theorem byText : Rows.logNoneRow.wfByText (OpenSpec.ofChange Rows.logNoneSpec) = true := by kernel_rfl
theorem goes : false = Rows.logNoneRow.goesBy Tryz.prog := by kernel_rfl
end LogNoneProof
end Go.Proofs.YtohpgipgfmkflaaGreatDoor
