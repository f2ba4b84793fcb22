/- Which sheets are valid, which patches can lie, and how many cells patches cover, are what the definitions say, or the error: for all sheets, any patch, and any patches. No condition. -/
import Derived.Test.YtghomjjffllkeaaGreatDoorB6
set_option linter.unusedVariables false
set_option linter.unusedSimpArgs false
set_option linter.unusedSectionVars false
set_option linter.unusedVariables false
namespace Go.Pm
open Go.Gl Go.Lw
end Go.Pm
namespace Go.Proofs.YtghomjjffllkeaaGreatDoor
open Go.Lw Go.Gl Go.Pm Go.RowKit Go.Shelf
theorem patchSheets_f (s : Sh) (p : Pc) (ps : List Pc) (V : View) (v u : Value) (hv : ShV V v s) (hu : Sl V pce 4 u ps) : Fnc Tryz.prog 3 [v, pcv p, u] V fun r _ => r = .bool true := by
 obtain ⟨a, c, rfl, hs⟩ := id hv
 obtain ⟨a1, c1, rfl, k1, k2, _⟩ := id hu
 clear k1 k2
 refine qc Tryz.func3 rfl Tryz.ntmps3 (Nat.le_of_ble_eq_true rfl) ?_
 intro w0 hw0
 refine At.nrm ?_
 refine At.zi (.n false 0 (.n false 1 (.q 2 .done))) ?_
 refine AtT.qV ?_
 intro b3
 refine AtT.qV ?_
 intro b4
 refine AtT.zh ?_
 refine AtT.done ?_
 refine At.nrm ?_
 by_cases g1 : grB s = true
 ·refine At.zi (.q 0 (.n false 1 (.q 2 (.q 3 (.q 4 (.q 5 (.q 6 .done))))))) ?_
  first | refine AtT.zu zA ?_ | refine AtT.zD zA ?_ | refine AtT.zt zA ?_
  refine AtT.zq rfl rfl ok15 (great_f s _ _ hv) ?_
  rintro _ rfl
  refine AtT.setB (d := 12) rfl (g1) ?_
  refine AtT.zf ?_
  all_goals (first | refine AtT.kL 13 ?_ | refine AtT.zz (d := 13) rfl (fun hg13 => ?_) (fun hg13 => ?_) | refine AtT.zy (d := 13) rfl (fun hg13 => ?_) (fun hg13 => ?_))
  all_goals first|refine AtT.zg ?_|refine AtT.ze ?_|(refine AtT.zf ?_)
  all_goals first|refine AtT.zg ?_|refine AtT.ze ?_|(first | refine AtT.zU Tryz.underlying27 ?_ | refine AtT.zV Tryz.underlying27 ?_)
  all_goals first|refine AtT.zg ?_|refine AtT.ze ?_|(refine AtT.qx ?_)
  all_goals (refine AtT.zx ?_)
  all_goals refine AtT.done ?_
  all_goals (refine At.nrm ?_)
  refine At.qA rfl rfl ?_
  refine At.nrm ?_
  refine At.zi (.n false 0 (.q 1 .done)) ?_
  refine AtT.zq rfl rfl ok16 (works_f _) ?_
  rintro _ rfl
  refine AtT.zh ?_
  refine AtT.done ?_
  refine At.nrm ?_
  exact At.qd rfl (.tmp rfl) rfl
 have g1' : grB s = false := by simpa using g1
 by_cases g2 : 20 < (ps.length : Int)
 ·refine At.zi (.q 0 (.n false 1 (.q 2 (.q 3 (.q 4 (.q 5 (.q 6 .done))))))) ?_
  first | refine AtT.zu zA ?_ | refine AtT.zD zA ?_ | refine AtT.zt zA ?_
  refine AtT.zq rfl rfl ok15 (great_f s _ _ hv) ?_
  rintro _ rfl
  refine AtT.setB (d := 12) rfl (g1') ?_
  refine AtT.zf ?_
  all_goals (first | refine AtT.kL 13 ?_ | refine AtT.zz (d := 13) rfl (fun hg13 => ?_) (fun hg13 => ?_) | refine AtT.zy (d := 13) rfl (fun hg13 => ?_) (fun hg13 => ?_))
  all_goals first|refine AtT.zg ?_|refine AtT.ze ?_|(refine AtT.zf ?_)
  all_goals first|refine AtT.zg ?_|refine AtT.ze ?_|(first | refine AtT.zU Tryz.underlying27 ?_ | refine AtT.zV Tryz.underlying27 ?_)
  all_goals first|refine AtT.zg ?_|refine AtT.ze ?_|(refine AtT.qx ?_)
  all_goals (refine AtT.qw (d := 16) rfl (g2) ?_)
  all_goals (refine AtT.zx ?_)
  all_goals refine AtT.done ?_
  all_goals (refine At.nrm ?_)
  refine At.qA rfl rfl ?_
  refine At.nrm ?_
  refine At.zi (.n false 0 (.q 1 .done)) ?_
  refine AtT.zq rfl rfl ok16 (works_f _) ?_
  rintro _ rfl
  refine AtT.zh ?_
  refine AtT.done ?_
  refine At.nrm ?_
  exact At.qd rfl (.tmp rfl) rfl
 refine At.zi (.q 0 (.n false 1 (.q 2 (.q 3 (.q 4 (.q 5 (.q 6 .done))))))) ?_
 first | refine AtT.zu zA ?_ | refine AtT.zD zA ?_ | refine AtT.zt zA ?_
 refine AtT.zq rfl rfl ok15 (great_f s _ _ hv) ?_
 rintro _ rfl
 refine AtT.setB (d := 12) rfl (g1') ?_
 refine AtT.zf ?_
 all_goals (first | refine AtT.kL 13 ?_ | refine AtT.zz (d := 13) rfl (fun hg13 => ?_) (fun hg13 => ?_) | refine AtT.zy (d := 13) rfl (fun hg13 => ?_) (fun hg13 => ?_))
 all_goals first|refine AtT.zg ?_|refine AtT.ze ?_|(refine AtT.zf ?_)
 all_goals first|refine AtT.zg ?_|refine AtT.ze ?_|(first | refine AtT.zU Tryz.underlying27 ?_ | refine AtT.zV Tryz.underlying27 ?_)
 all_goals first|refine AtT.zg ?_|refine AtT.ze ?_|(refine AtT.qx ?_)
 all_goals (refine AtT.ql (d := 16) rfl (g2) ?_)
 all_goals (refine AtT.zx ?_)
 all_goals refine AtT.done ?_
 all_goals (refine At.nrm ?_)
 refine At.qE rfl rfl ?_
 refine At.nrm ?_
 refine At.zi (.q 0 (.q 1 (.n false 2 (.q 3 (.q 4 (.q 5 (.q 6 (.q 7 .done)))))))) ?_
 first | refine AtT.zu zA ?_ | refine AtT.zD zA ?_ | refine AtT.zt zA ?_
 refine AtT.zf ?_
 refine AtT.zq rfl rfl ok17 (checkPatches_f s ps _ _ _ hv hu) ?_
 rintro _ rfl
 refine AtT.zf ?_
 refine AtT.zP ?_
 refine AtT.zP ?_
 refine AtT.zh ?_
 refine AtT.zh ?_
 refine AtT.done ?_
 refine At.nrm ?_
 refine At.zi (.q 0 (.q 1 (.n false 2 (.q 3 (.q 4 (.q 5 (.q 6 (.q 7 .done)))))))) ?_
 first | refine AtT.zu zA ?_ | refine AtT.zD zA ?_ | refine AtT.zt zA ?_
 refine AtT.zf ?_
 refine AtT.zq rfl rfl ok18 (rcheckPatches_f s ps _ _ _ hv hu) ?_
 rintro _ rfl
 refine AtT.zf ?_
 refine AtT.zP ?_
 refine AtT.zP ?_
 refine AtT.zh ?_
 refine AtT.zh ?_
 refine AtT.done ?_
 refine At.nrm ?_
 refine At.draw (.q 0 (.q 2 (.n false 1 (.n false 3 (.q 4 (.q 5 (.q 6 (.q 7 (.q 9 (.q 10 (.n false 8 (.n false 11 (.q 12 (.q 13 (.q 14 (.q 15 (.q 16 (.q 17 (.q 18 (.q 19 (.q 20 (.q 21 (.q 22 (.q 23 (.q 24 (.n false 25 (.q 26 (.q 27 .done)))))))))))))))))))))))))))) ffm (by kernel_rfl) ?_
 first | refine AtT.zu zA ?_ | refine AtT.zD zA ?_ | refine AtT.zt zA ?_
 first | refine AtT.zu zA ?_ | refine AtT.zD zA ?_ | refine AtT.zt zA ?_
 refine AtT.zq rfl rfl ok19 (sheetP_f s _ _ hv) ?_
 rintro _ rfl
 refine AtT.zq rfl rfl ok20 (qL s _ _ hv) ?_
 rintro _ rfl
 refine AtT.qP ?_
 refine AtT.qw (d := 35) rfl (rfl) ?_
 refine AtT.zf ?_
 all_goals (first | refine AtT.kL 36 ?_ | refine AtT.zz (d := 36) rfl (fun hg36 => ?_) (fun hg36 => ?_) | refine AtT.zy (d := 36) rfl (fun hg36 => ?_) (fun hg36 => ?_))
 all_goals first|refine AtT.zg ?_|refine AtT.ze ?_|(first | refine AtT.zu zA ?_ | refine AtT.zD zA ?_ | refine AtT.zt zA ?_)
 all_goals first|refine AtT.zg ?_|refine AtT.ze ?_|(first | refine AtT.zu zQ ?_ | refine AtT.zD zQ ?_ | refine AtT.zt zQ ?_)
 all_goals first|refine AtT.zg ?_|refine AtT.ze ?_|(first | refine AtT.zu zA ?_ | refine AtT.zD zA ?_ | refine AtT.zt zA ?_)
 all_goals first|refine AtT.zg ?_|refine AtT.ze ?_|(first | refine AtT.zu zQ ?_ | refine AtT.zD zQ ?_ | refine AtT.zt zQ ?_)
 all_goals (first | refine AtT.zO ?_ | refine AtT.zJ ?_ | ((refine AtT.zq rfl rfl ok21 (qB s p _ _ hv) ?_) ; (rintro _ rfl)))
 all_goals (first | refine AtT.zO ?_ | refine AtT.zJ ?_ | ((refine AtT.zq rfl rfl ok22 (rcheckPatch_f s p _ _ hv) ?_) ; (rintro _ rfl)))
 all_goals first|refine AtT.zg ?_|refine AtT.ze ?_|(refine AtT.qP ?_)
 all_goals (refine AtT.qw (d := 43) rfl (rfl) ?_)
 all_goals (refine AtT.zx ?_)
 all_goals (refine AtT.zf ?_)
 all_goals (first | refine AtT.kL 45 ?_ | refine AtT.zz (d := 45) rfl (fun hg45 => ?_) (fun hg45 => ?_) | refine AtT.zy (d := 45) rfl (fun hg45 => ?_) (fun hg45 => ?_))
 all_goals first|refine AtT.zg ?_|refine AtT.ze ?_|(refine AtT.zf ?_)
 all_goals first|refine AtT.zg ?_|refine AtT.ze ?_|(refine AtT.zf ?_)
 all_goals first|refine AtT.zg ?_|refine AtT.ze ?_|(refine AtT.qP ?_)
 all_goals (refine AtT.qw (d := 48) rfl (rfl) ?_)
 all_goals (refine AtT.zx ?_)
 all_goals (refine AtT.zf ?_)
 all_goals (first | refine AtT.kL 50 ?_ | refine AtT.zz (d := 50) rfl (fun hg50 => ?_) (fun hg50 => ?_) | refine AtT.zy (d := 50) rfl (fun hg50 => ?_) (fun hg50 => ?_))
 all_goals first|refine AtT.zg ?_|refine AtT.ze ?_|(refine AtT.zf ?_)
 all_goals first|refine AtT.zg ?_|refine AtT.ze ?_|(refine AtT.zf ?_)
 all_goals first|refine AtT.zg ?_|refine AtT.ze ?_|(refine AtT.qP ?_)
 all_goals (refine AtT.qw (d := 53) rfl (rfl) ?_)
 all_goals (refine AtT.zx ?_)
 all_goals (refine AtT.zf ?_)
 all_goals (first | refine AtT.kL 55 ?_ | refine AtT.zz (d := 55) rfl (fun hg55 => ?_) (fun hg55 => ?_) | refine AtT.zy (d := 55) rfl (fun hg55 => ?_) (fun hg55 => ?_))
 all_goals (first | refine AtT.zO ?_ | refine AtT.zJ ?_ | ((refine AtT.zq rfl rfl ok16 (works_f _) ?_) ; (rintro _ rfl)))
 all_goals (refine AtT.zx ?_)
 all_goals (refine AtT.zh ?_)
 all_goals refine AtT.done ?_
 all_goals (refine At.nrm ?_)
 exact At.qd rfl (.tmp rfl) rfl
end Go.Proofs.YtghomjjffllkeaaGreatDoor
set_option linter.unusedVariables false
namespace Go.Proofs.YtghomjjffllkeaaGreatDoor.c1
open Go.Lw Go.Gl Go.Pm Go.RowKit Go.ChangeShapes Go.WideShapes Go.ChangeAt
set_option maxRecDepth 100000 in
theorem lifted (os : Os) (started : os.Started) (H : Type) (enc : TypeId × Value → H) :
    ReturnsInHanded {} Tryz.checked os 3 .any (fun w args => (Rows.patchSheetsSpec.pre enc Tryz.prog Tryz.f3 [] false w args ∧ laidMetH Tryz.prog seatLaid w) ∧ sizedMet enc Tryz.prog Tryz.f3 (OpenSpec.ofChange Rows.patchSheetsSpec) false w args) (Rows.patchSheetsSpec.post enc Tryz.prog Tryz.f3 false true false false) := by
  refine law_liftL (tb := 4) (laid := seatLaid) (fun ds hd => by match ds, hd with | [d0, d1, d2], _ => rfl) rfl (by kernel_rfl) Tryz.underlying4 laidOut (by kernel_rfl) own started (by kernel_rfl) Tryz.func3
    (ChangeSpec.witness_shaped (enc := enc) (C := Tryz.checked) (os := os) (X := fun w _ => laidMetH Tryz.prog seatLaid w) false (World.laidAll Tryz.prog os seatLaid) #[.agg #[.slice none 0 0, .int .i64 0], .agg #[.int .i64 0, .int .i64 0, .int .i64 0, .int .i64 0], .slice none 0 0] 8 (World.laidAll_os _ _ _)
      (World.shaped_of_ZipB (by kernel_rfl) (by kernel_rfl)) (by kernel_rfl) (by kernel_rfl) (by kernel_rfl) (seat_laid os _)) ?_
  intro W base args ds ps hval hA
  rw [Tryz.params3] at hA hval
  obtain ⟨v0, vs0, d0, ds0, p0, q0, hargs, rfl, rfl, h0, r0⟩ := trodAll_cons hA
  obtain ⟨v1, vs1, d1, ds1, p1, q1, rfl, rfl, rfl, h1, r1⟩ := trodAll_cons r0
  obtain ⟨v2, vs2, d2, ds2, p2, q2, rfl, rfl, rfl, h2, r2⟩ := trodAll_cons r1
  obtain ⟨rfl, rfl, rfl⟩ := trodAll_nil r2
  obtain rfl : args = #[v0, v1, v2] := by cases args; simp_all
  obtain ⟨s0, k0⟩ := open_sheet (hval 0 24 v0 rfl rfl) h0
  obtain ⟨x1, rfl⟩ := open_piece (hval 1 26 v1 rfl rfl) h1
  obtain ⟨l2, a2, c2, rfl, k2⟩ := rd_pieces (hval 2 27 v2 rfl rfl) h2
  exact ⟨[v0, pcv x1, .slice a2 l2.length c2], rfl, patchSheets_f s0 x1 l2 _ _ _ k0 k2⟩

theorem over : Rows.patchSheetsRow.holds Tryz.pinned (OpenSpec.ofChange Rows.patchSheetsSpec) :=
  OpenClaim.holds_of_wide 3 Tryz.f3 rfl rfl rfl rfl rfl rfl rfl ⟨rfl, rfl, rfl, rfl, rfl⟩ rfl rfl rfl rfl rfl (by kernel_rfl) Tryz.func3 (by kernel_rfl)
    (of_decide_eq_true (by kernel_rfl)) (by unfold Func.isWrapper; first | (rw [if_pos (by decide +kernel)]; kernel_rfl) | (rw [if_neg (by decide +kernel)]; exact ⟨rfl, rfl⟩))
    (fun os started H enc _ => lifted os started H enc)

theorem proved : Rows.PatchSheetsCardSaid :=
  Claim7.holds_tied_plain_at .later [] [.data, .pinned] true (true, "0d2a6361d0117277170b6b99c938bda2455ed98009332320e2a28814b9346cbd") false over (fun _ h => by cases h) (by kernel_rfl) (fun _ h => by cases h) patchSheets_row_tie rfl ⟨rfl, rfl⟩ (by kernel_rfl) rfl
    (fun f fn hf hfn => by
      obtain rfl : f = 3 := Option.some.inj ((show Tryz.prog.funcNamed "crossband/crossbandlaw04.PatchSheets" = some 3 by kernel_rfl).symm.trans hf) |>.symm
      obtain rfl : fn = Tryz.f3 := (Option.some.inj (Tryz.func3.symm.trans hfn)).symm
      exact ⟨by kernel_rfl, fun j t ht => by
        rw [Tryz.params3] at ht
        have hm : t ∈ [24, 26, 27] := by simpa using Array.mem_of_getElem? ht
        have hall : ([24, 26, 27].all fun u => !Tryz.prog.wantsStandIn u) = true := by kernel_rfl
        exact (show Tryz.prog.wantsStandIn t = false by simpa using List.all_eq_true.1 hall t hm)⟩)
    (by kernel_rfl)
#print axioms proved
end Go.Proofs.YtghomjjffllkeaaGreatDoor.c1
