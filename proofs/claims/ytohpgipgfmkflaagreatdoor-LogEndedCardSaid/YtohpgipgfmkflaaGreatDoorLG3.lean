/- A log that is over stays over: the walk. -/
import Derived.Test.YtohpgipgfmkflaaGreatDoorLG2
import Derived.Test.YtohpgipgfmkflaaGreatDoorMg
import Derived.Test.YtohpgipgfmkflaaGreatDoorMf
namespace Go.Proofs.YtohpgipgfmkflaaGreatDoor
set_option linter.unusedSectionVars false
variable [Base]
open Go.RowKit
set_option maxRecDepth 100000
set_option linter.unusedVariables false
set_option linter.unusedSimpArgs false
attribute [local go_sem ↓] Go.wp_at_zero Go.wp_at_succ

section
variable {w0 wi : World} {Sd : Nat → Prop} {q p : Nat} {L : LState} {D : DState} {v : Value}
theorem Lg.used (h : Lg w0 wi Sd q p L D v) : Calls Tryz.prog 30 #[.pointer (some ⟨p, 0, none⟩)] wi fun e w' => e = .returned (.int .i64 (usedF D.files : Nat)) ∧ Below wi.heap.size wi w' := used_any wi Sd p D h.log.disk
theorem Lg.dlist (h : Lg w0 wi Sd q p L D v) : Calls Tryz.prog 31 #[.pointer (some ⟨p, 0, none⟩)] wi (OwnT wi D.names) := list_any wi Sd p D h.log.disk
theorem Lg.arm (h : Lg w0 wi Sd q p L D v) (n : Int) (hn : n ≤ 9223372036854775807) : Calls Tryz.prog 29 #[.pointer (some ⟨p, 0, none⟩), .int .i64 n] wi fun e w' => e = .returned (.tuple #[]) ∧ LgP w0 wi Sd q p v L (D.arm n) w' :=
  (arm_any wi Sd p D n hn h.log.disk).mono fun e w' hp => by
    obtain ⟨S', he, hd, hs⟩ := hp
    exact ⟨he, h.step ⟨S', v, (h.log.step hd hs).1, (h.log.step hd hs).2⟩⟩
end
theorem smallB_len {ls : List (List UInt8)} (h : smallB ls = true) : ∀ x ∈ ls, x.length ≤ 1073741824 := by
  unfold smallB at h
  rw [Bool.and_eq_true, List.all_eq_true] at h
  intro x hx
  have := h.2 x hx
  simp at this
  omega
/-- A row of texts of the call's own, beside a log. -/
def OwnTx (w : World) (Sd Sl : Nat → Prop) (u : Value) (l : List ByteArray) : Prop := ∃ base, w.ownsRow base 9 1 u l.length (sv l) ∧ ∀ b, u.ownBlock = some b → ¬ Sd b ∧ ¬ Sl b
section
variable {w w' wi : World} {Sd Sd' Sl Sl' : Nat → Prop} {q p : Nat} {L : LState} {D : DState} {v u : Value} {l : List ByteArray}
theorem OwnTx.new (h : LogW wi Sd q p L D v) (ho : w.ownsRow wi.heap.size 9 1 u l.length (sv l)) : OwnTx w Sd (Ow q v) u l :=
  ⟨_, ho, fun b hb => ⟨fun h1 => by have := h.disk.foot b h1; have := (ho.lt b hb).1; omega, fun h1 => by have := h.log.foot b h1; have := (ho.lt b hb).1; omega⟩⟩
theorem OwnTx.below (h : OwnTx w Sd Sl u l) (k : Below w.heap.size w w') : OwnTx w' Sd Sl u l := by
  obtain ⟨base, ho, hn⟩ := h
  exact ⟨base, own_below ho k, hn⟩
theorem OwnTx.step (h : OwnTx w Sd Sl u l) (k : LStep Sd Sl Sd' Sl' w w') : OwnTx w' Sd' Sl' u l := by
  obtain ⟨base, ho, hn⟩ := h
  refine ⟨base, ownsRow_kp ho k.kp (fun b hb h1 => h1.elim (hn b hb).1 (hn b hb).2), fun b hb => ⟨fun h1 => ?_, fun h1 => ?_⟩⟩
  · rcases k.fd b h1 with h2 | h2
    · exact (hn b hb).1 h2
    · have := (ho.lt b hb).2; omega
  · rcases k.fl b h1 with h2 | h2
    · exact (hn b hb).2 h2
    · have := (ho.lt b hb).2; omega
theorem OwnTx.rd (h : OwnTx w Sd Sl u l) : RdT w u l := by
  obtain ⟨base, ho, _⟩ := h
  exact RdT.ofOwn ho
end
theorem sameT_refl : ∀ l : List ByteArray, sameT l l = true
  | [] => rfl
  | a :: l => by simp [sameT, sameT_refl l]
theorem smallB_of {ls : List (List UInt8)} (h : smallB ls = true) (hne : ls ≠ []) : SmallR ls := by
  unfold smallB at h
  rw [Bool.and_eq_true, List.all_eq_true] at h
  exact ⟨by have := List.length_pos_iff.2 hne; omega, by simpa using h.1, fun x hx => by simpa using h.2 x hx⟩
set_option maxHeartbeats 4000000 in
theorem logEnded_any (w : World) (S : Nat → Prop) (vb vm : Value) (bs : List (List (List UInt8))) (more : List (List UInt8)) (most arm : Nat) (hl : Laid w) (hb : RdLL w S vb bs) (hm : RdL w S vm more) (h1 : most < 65536) (h2 : arm < 65536) :
    Calls Tryz.prog 4 #[vb, .int .u16 (most : Int), .int .u16 (arm : Int), vm] w fun e w' => e = .returned (.bool true) ∧ Below w.heap.size w w' := by
  obtain ⟨m, hmm⟩ : ∃ m, 10 + most % 400 = m := ⟨_, rfl⟩
  have hm2 : m ≤ 409 := by omega
  have em : (10 + (most : Int) % 400) = (m : Int) := by omega
  have HN := Lib.hid (new_ok w m (by omega))
  rw [← em] at HN
  have HB := Lib.hid (begin_new w m 64 0 hl (by omega) (by omega) (by omega))
  have HL := Lib.hid hl
  have HBS := Lib.hid hb
  have HM := Lib.hid hm
  have hsm := fun (wx : World) (hx : Below w.heap.size w wx) => small_any wx S vm more (hm.below hx (fun _ h => .inl h))
  have HSM := Lib.hid hsm
  have hml : more.length ≤ 9223372036854775807 := by obtain ⟨_, _, _, _, h3, h4, _⟩ := hm; omega
  have hbl : bs.length ≤ 9223372036854775807 := by obtain ⟨_, _, _, h3, h4, _⟩ := hb; omega
  obtain ⟨A, c, rfl, hc0, hc1, hce⟩ := id hb
  have HCE := Lib.hid hce
  obtain ⟨A2, c2, vs2, rfl, _⟩ := id hm
  clear hl hb hm hsm hmm em hce HBS
  go_enter Tryz.func4, Tryz.ntmps4
  go_wp2_with (first | (go_at_call 26; refine HN.out.mono ?_; rintro e w1 ⟨rfl, hw1⟩; subst hw1) | (go_at_call 27; refine HB.out.mono ?_; rintro e w2 ⟨q, Sd, rfl, hg⟩; have HG := Lib.hid hg; clear hg))
  obtain ⟨P, hP⟩ : ∃ P, P = w.heap.size := ⟨_, rfl⟩
  simp only [← hP]
  rw [← hP] at HG
  clear hP HN HB
  by_cases hs : smallB more = true
  · have HS2 := HSM.out w2 HG.out.below
    rw [hs] at HS2
    have HS3 := Lib.hid HS2
    have HML := Lib.hid (smallB_len hs)
    clear HS2 hs HSM
    go_wp2_with (go_at_call 28; refine HS3.out.mono ?_; rintro e w' ⟨rfl, hw⟩; have hw := hw.symm; subst hw)
    go_wp2_with (go_at_call 29; refine (HG.out.arm _ (by omega)).mono ?_; rintro e w3 ⟨rfl, Sd3, v3, hg, _⟩; have HG3 := Lib.hid hg; clear hg)
    go_loopw [13] (fun i wr => ∃ k : Nat, k ≤ bs.length ∧ k ≤ 40 ∧ i = .int .i64 (k : Int) ∧ Hid (∃ Sd v L D, Lg w wr Sd q P L D v ∧ L.firsts.length ≤ k ∧ L.last ≤ k)) (fun i wr => bs.length - (intOf i).toNat)
    case atStart => exact ⟨0, Nat.zero_le _, Nat.zero_le _, rfl, Lib.hid ⟨_, _, _, _, HG3.out, by simp [LState.new], by simp [LState.new]⟩⟩
    case round =>
      obtain ⟨k, hk, hk4, rfl, HI⟩ := hrel
      obtain ⟨Sd4, v4, L, D, hg, hf, hla⟩ := HI.out
      have HG4 := Lib.hid hg
      clear hg HI HG3
      by_cases hlt : k < bs.length
      · have hx1 : (k : Int) < (bs.length : Int) := by omega
        by_cases h40 : k < 40
        · have hx2 : (k : Int) < 40 := by omega
          have HO := Lib.hid HG4.out.over
          cases hov : L.over with
          | true =>
            have ho := HO.out
            rw [hov] at ho
            have HO2 := Lib.hid ho
            have HOVT := Lib.hid hov
            have HFL : Hid (L.firsts.length < 1000000) := Lib.hid (by omega)
            clear ho HO hov hf hla
            go_wp2_with (go_at_call 24; refine HO2.out.mono ?_; rintro e w' ⟨rfl, rfl⟩)
            go_wp2_with (go_at_call 24; refine HO2.out.mono ?_; rintro e w' ⟨rfl, rfl⟩)
            go_wp2_with (go_at_call 30; refine HG4.out.used.mono ?_; rintro e w5 ⟨rfl, hb⟩; have HG5 := Lib.hid (HG4.out.below' hb); clear hb)
            go_wp2_with (go_at_call 31; refine HG5.out.dlist.mono ?_; rintro e w6 ⟨vn, rfl, ho, hb⟩; have HT1 := Lib.hid (OwnTx.new HG5.out.log ho); have HG6 := Lib.hid (HG5.out.below' hb); clear ho hb)
            have HLA := Lib.hid HG6.out.last
            have HAC := Lib.hid HG6.out.acked
            go_wp2_with (first | (go_at_call 21; refine HLA.out.mono ?_; rintro e w' ⟨rfl, rfl⟩) | (go_at_call 22; refine HAC.out.mono ?_; rintro e w' ⟨rfl, rfl⟩) | (go_at_call 23; refine HG6.out.files.mono ?_; rintro e w7 ⟨vf, rfl, ho, hb⟩; have HT2 := Lib.hid (OwnTx.new HG6.out.log ho); have HT1b := Lib.hid (HT1.out.below hb); have HG7 := Lib.hid (HG6.out.below' hb); clear ho hb))
            have hw8 := HG7.out.write (HM.out.below HG7.out.below (fun _ h => .inl h)) HML.out HFL.out
            rw [writes_ended HOVT.out] at hw8
            have HW8 := Lib.hid hw8
            clear hw8
            go_wp2_with (go_at_call 18; refine HW8.out.mono ?_; rintro e w8 ⟨rfl, Sd8, v8, hg, hs⟩; have HT1c := Lib.hid (HT1b.out.step hs); have HT2c := Lib.hid (HT2.out.step hs); have HG8 := Lib.hid hg; clear hg hs)
            clear HW8 HT1 HT1b HT2 HG5 HG6 HG7 HLA HAC HO2
            go_wp2_with (go_at_call 32; refine (recs_lit w8 HG8.out.log.laid.size [⟨#[120]⟩] #[.string ⟨#[120]⟩] 9 1 rfl rfl (by decide) (by decide)).mono ?_; rintro e w9 ⟨vr, vs, rfl, hr, hb⟩; have HT1d := Lib.hid (HT1c.out.below hb); have HT2d := Lib.hid (HT2c.out.below hb); have HG9 := Lib.hid (HG8.out.below' hb); have hw10 := (HG8.out.below' hb).write (S := fun _ => False) (hr.rd (fun _ h => h.elim)) (by decide) HFL.out; rw [writes_ended HOVT.out] at hw10; have HW10 := Lib.hid hw10; clear hr hb hw10)
            clear HT1c HT2c HG8
            go_wp2_with (go_at_call 18; refine HW10.out.mono ?_; rintro e w10 ⟨rfl, Sd10, v10, hg, hs⟩; have HT1e := Lib.hid (HT1d.out.step hs); have HT2e := Lib.hid (HT2d.out.step hs); have HG10 := Lib.hid hg; have ht11 := hg.trim 1099511627776; rw [trims_ended _ HOVT.out] at ht11; have HTR := Lib.hid ht11; clear hg hs ht11)
            clear HW10 HT1d HT2d HG9
            go_wp2_with (go_at_call 19; refine HTR.out.mono ?_; rintro e w11 ⟨gn, rfl, _, Sd11, v11, hg, hs, _⟩; have HT1f := Lib.hid (HT1e.out.step hs); have HT2f := Lib.hid (HT2e.out.step hs); have HG11 := Lib.hid hg; have hy := hg.sync; rw [syncs_ended HOVT.out] at hy; have HSY := Lib.hid hy; clear hg hs hy)
            clear HTR HT1e HT2e HG10
            go_wp2_with (go_at_call 20; refine HSY.out.mono ?_; rintro e w12 ⟨rfl, Sd12, v12, hg, hs⟩; have HT1g := Lib.hid (HT1f.out.step hs); have HT2g := Lib.hid (HT2f.out.step hs); have HG12 := Lib.hid hg; clear hg hs)
            clear HSY HT1f HT2f HG11
            go_wp2_with (go_at_call 30; refine HG12.out.used.mono ?_; rintro e w13 ⟨rfl, hb⟩; have HT1h := Lib.hid (HT1g.out.below hb); have HT2h := Lib.hid (HT2g.out.below hb); have HG13 := Lib.hid (HG12.out.below' hb); clear hb)
            clear HT1g HT2g HG12
            go_wp2_with (go_at_call 31; refine HG13.out.dlist.mono ?_; rintro e w14 ⟨vn2, rfl, ho, hb⟩; have hst := sameTexts_any _ _ _ _ _ (RdT.ofOwn ho) (HT1h.out.below hb).rd; rw [sameT_refl] at hst; have HST := Lib.hid hst; have HT2i := Lib.hid (HT2h.out.below hb); have HG14 := Lib.hid (HG13.out.below' hb); clear ho hb hst)
            clear HT1h HT2h HG13
            go_wp2_with (go_at_call 33; refine HST.out.mono ?_; rintro e w15 ⟨rfl, hb⟩; have HT2j := Lib.hid (HT2i.out.below hb); have hg := HG14.out.below' hb; have HG15 := Lib.hid hg; have HL15 := Lib.hid hg.last; have HC15 := Lib.hid hg.acked; clear hb hg)
            clear HST HT2i HG14
            go_wp2_with (first | (go_at_call 21; refine HL15.out.mono ?_; rintro e wz ⟨rfl, rfl⟩) | (go_at_call 22; refine HC15.out.mono ?_; rintro e wz ⟨rfl, rfl⟩) | (go_at_call 23; refine HG15.out.files.mono ?_; rintro e w16 ⟨vf2, rfl, ho, hb⟩; have hst := sameTexts_any _ _ _ _ _ (RdT.ofOwn ho) (HT2j.out.below hb).rd; rw [sameT_refl] at hst; have HST := Lib.hid hst; have HG16 := Lib.hid (HG15.out.below' hb); clear ho hb hst))
            clear HT2j
            go_wp2_with (first | (go_at_call 33; refine HST.out.mono ?_; rintro e w17 ⟨rfl, hb⟩; have HG17 := Lib.hid (HG16.out.below' hb); clear hb) | (go_at_call 25; refine (awake_any _ HG17.out.log.laid).mono ?_; rintro e w18 ⟨rfl, hb⟩))
            go_ret
            exact ⟨rfl, HG17.out.below.trans (hb.mono HG17.out.below.size)⟩
          | false =>
            have ho := HO.out
            rw [hov] at ho
            have HO2 := Lib.hid ho
            clear ho HO
            obtain ⟨g, o, u, eA, hcell, hrd⟩ := HCE.out k hlt
            subst eA
            obtain ⟨r, hr⟩ : ∃ r, bs[k] = r := ⟨_, rfl⟩
            rw [hr] at hrd
            obtain ⟨A3, c3, vs3, e3, _⟩ := id hrd
            subst e3
            have hq := (HG4.out.below.cell (p := ⟨g, o + k, none⟩) (World.block_lt_of_cell? w _ hcell)).trans hcell
            have HRD := Lib.hid hrd
            have HF := Lib.hid hf
            have HLA := Lib.hid hla
            have hx0 : (0 : Int) ≤ (k : Int) := by omega
            clear hr hrd hcell hf hla
            by_cases hz : r.length = 0
            · have he0 : ((r.length : Int) == 0) = true := by rw [hz]; rfl
              clear hz
              go_wp2_with (go_at_call 24; refine HO2.out.mono ?_; rintro e w' ⟨rfl, rfl⟩)
              go_roundw
              case rel => exact ⟨k + 1, by omega, by omega, by go_num, Lib.hid ⟨_, _, _, _, HG4.out, by have := HF.out; omega, by have := HLA.out; omega⟩⟩
              case measure => simp [intOf]; omega
            · have he0 : ((r.length : Int) == 0) = false := by rw [beq_eq_false_iff_ne]; omega
              have HSR := Lib.hid (small_any wr S _ r (HRD.out.below HG4.out.below (fun _ h => .inl h)))
              cases hsr : smallB r with
              | false =>
                have hs5 := HSR.out
                rw [hsr] at hs5
                have HS5 := Lib.hid hs5
                clear hz hs5 HSR
                go_wp2_with (go_at_call 24; refine HO2.out.mono ?_; rintro e w' ⟨rfl, rfl⟩)
                go_wp2_with (go_at_call 28; refine HS5.out.mono ?_; rintro e w' ⟨rfl, hw⟩; have hw := hw.symm; subst hw)
                go_roundw
                case rel => exact ⟨k + 1, by omega, by omega, by go_num, Lib.hid ⟨_, _, _, _, HG4.out, by have := HF.out; omega, by have := HLA.out; omega⟩⟩
                case measure => simp [intOf]; omega
              | true =>
                have hs5 := HSR.out
                rw [hsr] at hs5
                have HS5 := Lib.hid hs5
                have hne : r ≠ [] := fun h => hz (by rw [h]; rfl)
                have HSM2 := Lib.hid (smallB_of hsr hne)
                clear hz hs5 HSR hne
                go_wp2_with (go_at_call 24; refine HO2.out.mono ?_; rintro e w' ⟨rfl, rfl⟩)
                go_wp2_with (go_at_call 28; refine HS5.out.mono ?_; rintro e w' ⟨rfl, hw⟩; have hw := hw.symm; subst hw)
                have hrl : ∀ x ∈ r, x.length ≤ 1073741824 := fun x hx => by have := HSM2.out.each x hx; omega
                have hwr := writes_over (D := D) hov HSM2.out (by have := HLA.out; omega)
                have hW := HG4.out.write (HRD.out.below HG4.out.below (fun _ h => .inl h)) hrl (by have := HF.out; omega)
                obtain ⟨⟨L1, D1, n1, e1⟩, hR⟩ : ∃ R, L.writes D r = R := ⟨_, rfl⟩
                rw [hR] at hwr hW
                obtain ⟨hw1, hw2, hw3⟩ := hwr
                dsimp only at hw1 hw2 hw3
                have hW2 : Calls Tryz.prog 18 #[.pointer (some ⟨q, 0, none⟩), .slice A3 r.length c3] w' fun e wx => e = .returned (.tuple #[.int .i64 n1, .int .i64 e1]) ∧ LgP w w' Sd4 q P v4 L1 D1 wx := hW
                have HW := Lib.hid hW2
                have HW2 := Lib.hid hw2
                have HW3 := Lib.hid hw3
                clear hR hW hW2 hrl hw2 hw3 hov
                cases ho1 : L1.over with
                | true =>
                  have he1 : (e1 != 0) = true := by simpa using hw1.2 ho1
                  have HOV := Lib.hid ho1
                  clear hw1 ho1
                  by_cases h3 : (k : Int) % 3 = 0
                  · have h3b : ((k : Int) % 3 == 0) = true := by rw [h3]; rfl
                    clear h3
                    go_wp2_with (go_at_call 18; refine HW.out.mono ?_; rintro e w6 ⟨rfl, Sd6, v6, hg, _⟩; have HG6 := Lib.hid hg; have h9 := hg.over; rw [HOV.out] at h9; have HO6 := Lib.hid h9; clear h9 hg)
                    go_wp2_with (go_at_call 24; refine HO6.out.mono ?_; rintro e wz ⟨rfl, rfl⟩)
                    go_roundw
                    case rel => exact ⟨k + 1, by omega, by omega, by go_num, Lib.hid ⟨_, _, _, _, HG6.out, by have := HF.out; have := HW2.out; omega, by have := HLA.out; have := HW3.out; omega⟩⟩
                    case measure => simp [intOf]; omega
                  · have h3b : ((k : Int) % 3 == 0) = false := by rw [beq_eq_false_iff_ne]; exact h3
                    clear h3
                    go_wp2_with (go_at_call 18; refine HW.out.mono ?_; rintro e w6 ⟨rfl, Sd6, v6, hg, _⟩; have HG6 := Lib.hid hg; have h9 := hg.over; rw [HOV.out] at h9; have HO6 := Lib.hid h9; clear h9 hg)
                    go_wp2_with (go_at_call 24; refine HO6.out.mono ?_; rintro e wz ⟨rfl, rfl⟩)
                    go_roundw
                    case rel => exact ⟨k + 1, by omega, by omega, by go_num, Lib.hid ⟨_, _, _, _, HG6.out, by have := HF.out; have := HW2.out; omega, by have := HLA.out; have := HW3.out; omega⟩⟩
                    case measure => simp [intOf]; omega
                | false =>
                  have he1 : e1 = 0 := by
                    by_cases h : e1 = 0
                    · exact h
                    · exact absurd (hw1.1 h) (by rw [ho1]; simp)
                  subst he1
                  have HOV := Lib.hid ho1
                  have hsy := syncs_over (D := D1) ho1
                  obtain ⟨⟨L2, D2, e2⟩, hR2⟩ : ∃ R, L1.syncs D1 = R := ⟨_, rfl⟩
                  rw [hR2] at hsy
                  obtain ⟨hs1, hs2, hs3⟩ := hsy
                  dsimp only at hs1 hs2 hs3
                  have hSY : ∀ (wx : World) (Sx : Nat → Prop) (vx : Value), Lg w wx Sx q P L1 D1 vx → Calls Tryz.prog 20 #[.pointer (some ⟨q, 0, none⟩)] wx fun e wy => e = .returned (.int .i64 e2) ∧ LgP w wx Sx q P vx L2 D2 wy := fun wx Sx vx hx => by
                    have h := hx.sync
                    rw [hR2] at h
                    exact h
                  have HSY := Lib.hid hSY
                  have HS2 := Lib.hid hs2
                  have HS3' := Lib.hid hs3
                  clear hw1 ho1 hR2 hSY hs2 hs3
                  by_cases h3 : (k : Int) % 3 = 0
                  · have h3b : ((k : Int) % 3 == 0) = true := by rw [h3]; rfl
                    clear h3
                    cases ho2 : L2.over with
                    | true =>
                      have he2 : (e2 != 0) = true := by simpa using hs1.2 ho2
                      have HOV2 := Lib.hid ho2
                      clear hs1 ho2
                      go_wp2_with (go_at_call 18; refine HW.out.mono ?_; rintro e w6 ⟨rfl, Sd6, v6, hg, _⟩; have HG6 := Lib.hid hg; have h9 := hg.over; rw [HOV.out] at h9; have HO6 := Lib.hid h9; clear h9 hg)
                      go_wp2_with (first | (go_at_call 24; refine HO6.out.mono ?_; rintro e wz ⟨rfl, rfl⟩) | (go_at_call 20; refine (HSY.out _ _ _ HG6.out).mono ?_; rintro e w7 ⟨rfl, Sd7, v7, hg, _⟩; have HG7 := Lib.hid hg; have h9 := hg.over; rw [HOV2.out] at h9; have HO7 := Lib.hid h9; clear h9 hg))
                      go_wp2_with (go_at_call 24; refine HO7.out.mono ?_; rintro e wz ⟨rfl, rfl⟩)
                      go_roundw
                      case rel => exact ⟨k + 1, by omega, by omega, by go_num, Lib.hid ⟨_, _, _, _, HG7.out, by have := HF.out; have := HW2.out; have := HS2.out; rw [this]; omega, by have := HLA.out; have := HW3.out; have := HS3'.out; omega⟩⟩
                      case measure => simp [intOf]; omega
                    | false =>
                      have he2 : e2 = 0 := by
                        by_cases h : e2 = 0
                        · exact h
                        · exact absurd (hs1.1 h) (by rw [ho2]; simp)
                      subst he2
                      have HOV2 := Lib.hid ho2
                      clear hs1 ho2
                      go_wp2_with (go_at_call 18; refine HW.out.mono ?_; rintro e w6 ⟨rfl, Sd6, v6, hg, _⟩; have HG6 := Lib.hid hg; have h9 := hg.over; rw [HOV.out] at h9; have HO6 := Lib.hid h9; clear h9 hg)
                      go_wp2_with (first | (go_at_call 24; refine HO6.out.mono ?_; rintro e wz ⟨rfl, rfl⟩) | (go_at_call 20; refine (HSY.out _ _ _ HG6.out).mono ?_; rintro e w7 ⟨rfl, Sd7, v7, hg, _⟩; have HG7 := Lib.hid hg; have h9 := hg.over; rw [HOV2.out] at h9; have HO7 := Lib.hid h9; clear h9 hg))
                      go_wp2_with (go_at_call 24; refine HO7.out.mono ?_; rintro e wz ⟨rfl, rfl⟩)
                      go_roundw
                      case rel => exact ⟨k + 1, by omega, by omega, by go_num, Lib.hid ⟨_, _, _, _, HG7.out, by have := HF.out; have := HW2.out; have := HS2.out; rw [this]; omega, by have := HLA.out; have := HW3.out; have := HS3'.out; omega⟩⟩
                      case measure => simp [intOf]; omega
                  · have h3b : ((k : Int) % 3 == 0) = false := by rw [beq_eq_false_iff_ne]; exact h3
                    clear h3 hs1
                    go_wp2_with (go_at_call 18; refine HW.out.mono ?_; rintro e w6 ⟨rfl, Sd6, v6, hg, _⟩; have HG6 := Lib.hid hg; have h9 := hg.over; rw [HOV.out] at h9; have HO6 := Lib.hid h9; clear h9 hg)
                    go_wp2_with (go_at_call 24; refine HO6.out.mono ?_; rintro e wz ⟨rfl, rfl⟩)
                    go_roundw
                    case rel => exact ⟨k + 1, by omega, by omega, by go_num, Lib.hid ⟨_, _, _, _, HG6.out, by have := HF.out; have := HW2.out; omega, by have := HLA.out; have := HW3.out; omega⟩⟩
                    case measure => simp [intOf]; omega
        · obtain rfl : k = 40 := by omega
          have HO := Lib.hid HG4.out.over
          cases hov : L.over with
          | true =>
            have ho := HO.out
            rw [hov] at ho
            have HO2 := Lib.hid ho
            have HOVT := Lib.hid hov
            have HFL : Hid (L.firsts.length < 1000000) := Lib.hid (by omega)
            clear ho HO hov hf hla
            go_wp2_with (go_at_call 24; refine HO2.out.mono ?_; rintro e w' ⟨rfl, rfl⟩)
            go_wp2_with (go_at_call 30; refine HG4.out.used.mono ?_; rintro e w5 ⟨rfl, hb⟩; have HG5 := Lib.hid (HG4.out.below' hb); clear hb)
            go_wp2_with (go_at_call 31; refine HG5.out.dlist.mono ?_; rintro e w6 ⟨vn, rfl, ho, hb⟩; have HT1 := Lib.hid (OwnTx.new HG5.out.log ho); have HG6 := Lib.hid (HG5.out.below' hb); clear ho hb)
            have HLA := Lib.hid HG6.out.last
            have HAC := Lib.hid HG6.out.acked
            go_wp2_with (first | (go_at_call 21; refine HLA.out.mono ?_; rintro e w' ⟨rfl, rfl⟩) | (go_at_call 22; refine HAC.out.mono ?_; rintro e w' ⟨rfl, rfl⟩) | (go_at_call 23; refine HG6.out.files.mono ?_; rintro e w7 ⟨vf, rfl, ho, hb⟩; have HT2 := Lib.hid (OwnTx.new HG6.out.log ho); have HT1b := Lib.hid (HT1.out.below hb); have HG7 := Lib.hid (HG6.out.below' hb); clear ho hb))
            have hw8 := HG7.out.write (HM.out.below HG7.out.below (fun _ h => .inl h)) HML.out HFL.out
            rw [writes_ended HOVT.out] at hw8
            have HW8 := Lib.hid hw8
            clear hw8
            go_wp2_with (go_at_call 18; refine HW8.out.mono ?_; rintro e w8 ⟨rfl, Sd8, v8, hg, hs⟩; have HT1c := Lib.hid (HT1b.out.step hs); have HT2c := Lib.hid (HT2.out.step hs); have HG8 := Lib.hid hg; clear hg hs)
            clear HW8 HT1 HT1b HT2 HG5 HG6 HG7 HLA HAC HO2
            go_wp2_with (go_at_call 32; refine (recs_lit w8 HG8.out.log.laid.size [⟨#[120]⟩] #[.string ⟨#[120]⟩] 9 1 rfl rfl (by decide) (by decide)).mono ?_; rintro e w9 ⟨vr, vs, rfl, hr, hb⟩; have HT1d := Lib.hid (HT1c.out.below hb); have HT2d := Lib.hid (HT2c.out.below hb); have HG9 := Lib.hid (HG8.out.below' hb); have hw10 := (HG8.out.below' hb).write (S := fun _ => False) (hr.rd (fun _ h => h.elim)) (by decide) HFL.out; rw [writes_ended HOVT.out] at hw10; have HW10 := Lib.hid hw10; clear hr hb hw10)
            clear HT1c HT2c HG8
            go_wp2_with (go_at_call 18; refine HW10.out.mono ?_; rintro e w10 ⟨rfl, Sd10, v10, hg, hs⟩; have HT1e := Lib.hid (HT1d.out.step hs); have HT2e := Lib.hid (HT2d.out.step hs); have HG10 := Lib.hid hg; have ht11 := hg.trim 1099511627776; rw [trims_ended _ HOVT.out] at ht11; have HTR := Lib.hid ht11; clear hg hs ht11)
            clear HW10 HT1d HT2d HG9
            go_wp2_with (go_at_call 19; refine HTR.out.mono ?_; rintro e w11 ⟨gn, rfl, _, Sd11, v11, hg, hs, _⟩; have HT1f := Lib.hid (HT1e.out.step hs); have HT2f := Lib.hid (HT2e.out.step hs); have HG11 := Lib.hid hg; have hy := hg.sync; rw [syncs_ended HOVT.out] at hy; have HSY := Lib.hid hy; clear hg hs hy)
            clear HTR HT1e HT2e HG10
            go_wp2_with (go_at_call 20; refine HSY.out.mono ?_; rintro e w12 ⟨rfl, Sd12, v12, hg, hs⟩; have HT1g := Lib.hid (HT1f.out.step hs); have HT2g := Lib.hid (HT2f.out.step hs); have HG12 := Lib.hid hg; clear hg hs)
            clear HSY HT1f HT2f HG11
            go_wp2_with (go_at_call 30; refine HG12.out.used.mono ?_; rintro e w13 ⟨rfl, hb⟩; have HT1h := Lib.hid (HT1g.out.below hb); have HT2h := Lib.hid (HT2g.out.below hb); have HG13 := Lib.hid (HG12.out.below' hb); clear hb)
            clear HT1g HT2g HG12
            go_wp2_with (go_at_call 31; refine HG13.out.dlist.mono ?_; rintro e w14 ⟨vn2, rfl, ho, hb⟩; have hst := sameTexts_any _ _ _ _ _ (RdT.ofOwn ho) (HT1h.out.below hb).rd; rw [sameT_refl] at hst; have HST := Lib.hid hst; have HT2i := Lib.hid (HT2h.out.below hb); have HG14 := Lib.hid (HG13.out.below' hb); clear ho hb hst)
            clear HT1h HT2h HG13
            go_wp2_with (go_at_call 33; refine HST.out.mono ?_; rintro e w15 ⟨rfl, hb⟩; have HT2j := Lib.hid (HT2i.out.below hb); have hg := HG14.out.below' hb; have HG15 := Lib.hid hg; have HL15 := Lib.hid hg.last; have HC15 := Lib.hid hg.acked; clear hb hg)
            clear HST HT2i HG14
            go_wp2_with (first | (go_at_call 21; refine HL15.out.mono ?_; rintro e wz ⟨rfl, rfl⟩) | (go_at_call 22; refine HC15.out.mono ?_; rintro e wz ⟨rfl, rfl⟩) | (go_at_call 23; refine HG15.out.files.mono ?_; rintro e w16 ⟨vf2, rfl, ho, hb⟩; have hst := sameTexts_any _ _ _ _ _ (RdT.ofOwn ho) (HT2j.out.below hb).rd; rw [sameT_refl] at hst; have HST := Lib.hid hst; have HG16 := Lib.hid (HG15.out.below' hb); clear ho hb hst))
            clear HT2j
            go_wp2_with (first | (go_at_call 33; refine HST.out.mono ?_; rintro e w17 ⟨rfl, hb⟩; have HG17 := Lib.hid (HG16.out.below' hb); clear hb) | (go_at_call 25; refine (awake_any _ HG17.out.log.laid).mono ?_; rintro e w18 ⟨rfl, hb⟩))
            go_ret
            exact ⟨rfl, HG17.out.below.trans (hb.mono HG17.out.below.size)⟩
          | false =>
            have ho := HO.out
            rw [hov] at ho
            have HO2 := Lib.hid ho
            have HAW := Lib.hid (awake_any wr HG4.out.log.laid)
            have HX := Lib.hid HG4.out.below
            clear ho HO hov
            go_wp2_with (first | (go_at_call 24; refine HO2.out.mono ?_; rintro e w' ⟨rfl, rfl⟩) | (go_at_call 25; refine HAW.out.mono ?_; rintro e w6 ⟨rfl, hb⟩))
            go_ret
            exact ⟨rfl, HX.out.trans (hb.mono HX.out.size)⟩
      · obtain rfl : k = bs.length := by omega
        have HO := Lib.hid HG4.out.over
        cases hov : L.over with
        | true =>
          have ho := HO.out
          rw [hov] at ho
          have HO2 := Lib.hid ho
          have HOVT := Lib.hid hov
          have HFL : Hid (L.firsts.length < 1000000) := Lib.hid (by omega)
          clear ho HO hov hf hla
          go_wp2_with (go_at_call 24; refine HO2.out.mono ?_; rintro e w' ⟨rfl, rfl⟩)
          go_wp2_with (go_at_call 30; refine HG4.out.used.mono ?_; rintro e w5 ⟨rfl, hb⟩; have HG5 := Lib.hid (HG4.out.below' hb); clear hb)
          go_wp2_with (go_at_call 31; refine HG5.out.dlist.mono ?_; rintro e w6 ⟨vn, rfl, ho, hb⟩; have HT1 := Lib.hid (OwnTx.new HG5.out.log ho); have HG6 := Lib.hid (HG5.out.below' hb); clear ho hb)
          have HLA := Lib.hid HG6.out.last
          have HAC := Lib.hid HG6.out.acked
          go_wp2_with (first | (go_at_call 21; refine HLA.out.mono ?_; rintro e w' ⟨rfl, rfl⟩) | (go_at_call 22; refine HAC.out.mono ?_; rintro e w' ⟨rfl, rfl⟩) | (go_at_call 23; refine HG6.out.files.mono ?_; rintro e w7 ⟨vf, rfl, ho, hb⟩; have HT2 := Lib.hid (OwnTx.new HG6.out.log ho); have HT1b := Lib.hid (HT1.out.below hb); have HG7 := Lib.hid (HG6.out.below' hb); clear ho hb))
          have hw8 := HG7.out.write (HM.out.below HG7.out.below (fun _ h => .inl h)) HML.out HFL.out
          rw [writes_ended HOVT.out] at hw8
          have HW8 := Lib.hid hw8
          clear hw8
          go_wp2_with (go_at_call 18; refine HW8.out.mono ?_; rintro e w8 ⟨rfl, Sd8, v8, hg, hs⟩; have HT1c := Lib.hid (HT1b.out.step hs); have HT2c := Lib.hid (HT2.out.step hs); have HG8 := Lib.hid hg; clear hg hs)
          clear HW8 HT1 HT1b HT2 HG5 HG6 HG7 HLA HAC HO2
          go_wp2_with (go_at_call 32; refine (recs_lit w8 HG8.out.log.laid.size [⟨#[120]⟩] #[.string ⟨#[120]⟩] 9 1 rfl rfl (by decide) (by decide)).mono ?_; rintro e w9 ⟨vr, vs, rfl, hr, hb⟩; have HT1d := Lib.hid (HT1c.out.below hb); have HT2d := Lib.hid (HT2c.out.below hb); have HG9 := Lib.hid (HG8.out.below' hb); have hw10 := (HG8.out.below' hb).write (S := fun _ => False) (hr.rd (fun _ h => h.elim)) (by decide) HFL.out; rw [writes_ended HOVT.out] at hw10; have HW10 := Lib.hid hw10; clear hr hb hw10)
          clear HT1c HT2c HG8
          go_wp2_with (go_at_call 18; refine HW10.out.mono ?_; rintro e w10 ⟨rfl, Sd10, v10, hg, hs⟩; have HT1e := Lib.hid (HT1d.out.step hs); have HT2e := Lib.hid (HT2d.out.step hs); have HG10 := Lib.hid hg; have ht11 := hg.trim 1099511627776; rw [trims_ended _ HOVT.out] at ht11; have HTR := Lib.hid ht11; clear hg hs ht11)
          clear HW10 HT1d HT2d HG9
          go_wp2_with (go_at_call 19; refine HTR.out.mono ?_; rintro e w11 ⟨gn, rfl, _, Sd11, v11, hg, hs, _⟩; have HT1f := Lib.hid (HT1e.out.step hs); have HT2f := Lib.hid (HT2e.out.step hs); have HG11 := Lib.hid hg; have hy := hg.sync; rw [syncs_ended HOVT.out] at hy; have HSY := Lib.hid hy; clear hg hs hy)
          clear HTR HT1e HT2e HG10
          go_wp2_with (go_at_call 20; refine HSY.out.mono ?_; rintro e w12 ⟨rfl, Sd12, v12, hg, hs⟩; have HT1g := Lib.hid (HT1f.out.step hs); have HT2g := Lib.hid (HT2f.out.step hs); have HG12 := Lib.hid hg; clear hg hs)
          clear HSY HT1f HT2f HG11
          go_wp2_with (go_at_call 30; refine HG12.out.used.mono ?_; rintro e w13 ⟨rfl, hb⟩; have HT1h := Lib.hid (HT1g.out.below hb); have HT2h := Lib.hid (HT2g.out.below hb); have HG13 := Lib.hid (HG12.out.below' hb); clear hb)
          clear HT1g HT2g HG12
          go_wp2_with (go_at_call 31; refine HG13.out.dlist.mono ?_; rintro e w14 ⟨vn2, rfl, ho, hb⟩; have hst := sameTexts_any _ _ _ _ _ (RdT.ofOwn ho) (HT1h.out.below hb).rd; rw [sameT_refl] at hst; have HST := Lib.hid hst; have HT2i := Lib.hid (HT2h.out.below hb); have HG14 := Lib.hid (HG13.out.below' hb); clear ho hb hst)
          clear HT1h HT2h HG13
          go_wp2_with (go_at_call 33; refine HST.out.mono ?_; rintro e w15 ⟨rfl, hb⟩; have HT2j := Lib.hid (HT2i.out.below hb); have hg := HG14.out.below' hb; have HG15 := Lib.hid hg; have HL15 := Lib.hid hg.last; have HC15 := Lib.hid hg.acked; clear hb hg)
          clear HST HT2i HG14
          go_wp2_with (first | (go_at_call 21; refine HL15.out.mono ?_; rintro e wz ⟨rfl, rfl⟩) | (go_at_call 22; refine HC15.out.mono ?_; rintro e wz ⟨rfl, rfl⟩) | (go_at_call 23; refine HG15.out.files.mono ?_; rintro e w16 ⟨vf2, rfl, ho, hb⟩; have hst := sameTexts_any _ _ _ _ _ (RdT.ofOwn ho) (HT2j.out.below hb).rd; rw [sameT_refl] at hst; have HST := Lib.hid hst; have HG16 := Lib.hid (HG15.out.below' hb); clear ho hb hst))
          clear HT2j
          go_wp2_with (first | (go_at_call 33; refine HST.out.mono ?_; rintro e w17 ⟨rfl, hb⟩; have HG17 := Lib.hid (HG16.out.below' hb); clear hb) | (go_at_call 25; refine (awake_any _ HG17.out.log.laid).mono ?_; rintro e w18 ⟨rfl, hb⟩))
          go_ret
          exact ⟨rfl, HG17.out.below.trans (hb.mono HG17.out.below.size)⟩
        | false =>
          have ho := HO.out
          rw [hov] at ho
          have HO2 := Lib.hid ho
          have HAW := Lib.hid (awake_any wr HG4.out.log.laid)
          have HX := Lib.hid HG4.out.below
          clear ho HO hov
          go_wp2_with (first | (go_at_call 24; refine HO2.out.mono ?_; rintro e w' ⟨rfl, rfl⟩) | (go_at_call 25; refine HAW.out.mono ?_; rintro e w6 ⟨rfl, hb⟩))
          go_ret
          exact ⟨rfl, HX.out.trans (hb.mono HX.out.size)⟩
  · have hs : smallB more = false := by simpa using hs
    have HS2 := HSM.out w2 HG.out.below
    rw [hs] at HS2
    have HS3 := Lib.hid HS2
    have HA := Lib.hid (awake_any w2 HG.out.log.laid)
    have HX := Lib.hid HG.out.below
    clear HS2 hs HSM
    go_wp2_with (first | (go_at_call 28; refine HS3.out.mono ?_; rintro e w' ⟨rfl, hw⟩; have hw := hw.symm; subst hw) | (go_at_call 25; refine HA.out.mono ?_; rintro e w3 ⟨rfl, hb⟩))
    go_ret
    exact ⟨rfl, HX.out.trans (hb.mono HX.out.size)⟩
end Go.Proofs.YtohpgipgfmkflaaGreatDoor
