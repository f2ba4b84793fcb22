/- The largest patch, a sheet that is turned, and whether two sheets are the same, are what the definitions say, or the error: for all sheets, two at a time, and any number of times. No condition. -/
import Derived.Test.YtghomjjffllkeaaGreatDoorB6
set_option linter.unusedVariables false
set_option linter.unusedSimpArgs false
set_option linter.unusedSectionVars false
set_option linter.unusedVariables false
namespace Go.Pm
open Go.Gl Go.Lw
end Go.Pm
namespace Go.Proofs.YtghomjjffllkeaaGreatDoor
open Go.Lw Go.Gl Go.Pm Go.RowKit Go.Shelf
theorem patchTurns_f (s t : Sh) (n : Int) (V : View) (v u : Value) (hv : ShV V v s) (hu : ShV V u t) : Fnc Tryz.prog 6 [v, u, iv n] V fun r _ => r = .bool true := by
 obtain ⟨a, c, rfl, hs⟩ := id hv
 obtain ⟨a1, c1, rfl, hs1⟩ := id hu
 refine qc Tryz.func6 rfl Tryz.ntmps6 (Nat.le_of_ble_eq_true rfl) ?_
 intro w0 hw0
 refine At.nrm ?_
 refine At.zi (.n false 0 (.n false 1 (.q 2 .done))) ?_
 refine AtT.qV ?_
 intro b3
 refine AtT.qV ?_
 intro b4
 refine AtT.zh ?_
 refine AtT.done ?_
 refine At.nrm ?_
 by_cases g1 : grB s = true
 ·refine At.zi (.q 0 (.n false 1 (.q 2 (.q 3 (.n false 4 (.q 5 .done)))))) ?_
  first | refine AtT.zu zA ?_ | refine AtT.zD zA ?_ | refine AtT.zt zA ?_
  refine AtT.zq rfl rfl ok15 (great_f s _ _ hv) ?_
  rintro _ rfl
  refine AtT.setB (d := 20) rfl (g1) ?_
  refine AtT.zf ?_
  all_goals (first | refine AtT.kL 21 ?_ | refine AtT.zz (d := 21) rfl (fun hg21 => ?_) (fun hg21 => ?_) | refine AtT.zy (d := 21) rfl (fun hg21 => ?_) (fun hg21 => ?_))
  all_goals first|refine AtT.zg ?_|refine AtT.ze ?_|(first | refine AtT.zu zA ?_ | refine AtT.zD zA ?_ | refine AtT.zt zA ?_)
  all_goals (first | refine AtT.zO ?_ | refine AtT.zJ ?_ | ((fail)))
  all_goals (refine AtT.zx ?_)
  all_goals refine AtT.done ?_
  all_goals (refine At.nrm ?_)
  refine At.qA rfl rfl ?_
  refine At.nrm ?_
  refine At.zi (.n false 0 (.q 1 .done)) ?_
  refine AtT.zq rfl rfl ok16 (works_f _) ?_
  rintro _ rfl
  refine AtT.zh ?_
  refine AtT.done ?_
  refine At.nrm ?_
  exact At.qd rfl (.tmp rfl) rfl
 have g1' : grB s = false := by simpa using g1
 by_cases g2 : grB t = true
 ·refine At.zi (.q 0 (.n false 1 (.q 2 (.q 3 (.n false 4 (.q 5 .done)))))) ?_
  first | refine AtT.zu zA ?_ | refine AtT.zD zA ?_ | refine AtT.zt zA ?_
  refine AtT.zq rfl rfl ok15 (great_f s _ _ hv) ?_
  rintro _ rfl
  refine AtT.setB (d := 20) rfl (g1') ?_
  refine AtT.zf ?_
  all_goals (first | refine AtT.kL 21 ?_ | refine AtT.zz (d := 21) rfl (fun hg21 => ?_) (fun hg21 => ?_) | refine AtT.zy (d := 21) rfl (fun hg21 => ?_) (fun hg21 => ?_))
  all_goals first|refine AtT.zg ?_|refine AtT.ze ?_|(first | refine AtT.zu zA ?_ | refine AtT.zD zA ?_ | refine AtT.zt zA ?_)
  all_goals (first | refine AtT.zO ?_ | refine AtT.zJ ?_ | ((refine AtT.zq rfl rfl ok15 (great_f t _ _ hu) ?_) ; (rintro _ rfl)))
  all_goals (refine AtT.setB (d := 23) rfl (g2) ?_)
  all_goals (refine AtT.zx ?_)
  all_goals refine AtT.done ?_
  all_goals (refine At.nrm ?_)
  refine At.qA rfl rfl ?_
  refine At.nrm ?_
  refine At.zi (.n false 0 (.q 1 .done)) ?_
  refine AtT.zq rfl rfl ok16 (works_f _) ?_
  rintro _ rfl
  refine AtT.zh ?_
  refine AtT.done ?_
  refine At.nrm ?_
  exact At.qd rfl (.tmp rfl) rfl
 have g2' : grB t = false := by simpa using g2
 refine At.zi (.q 0 (.n false 1 (.q 2 (.q 3 (.n false 4 (.q 5 .done)))))) ?_
 first | refine AtT.zu zA ?_ | refine AtT.zD zA ?_ | refine AtT.zt zA ?_
 refine AtT.zq rfl rfl ok15 (great_f s _ _ hv) ?_
 rintro _ rfl
 refine AtT.setB (d := 20) rfl (g1') ?_
 refine AtT.zf ?_
 all_goals (first | refine AtT.kL 21 ?_ | refine AtT.zz (d := 21) rfl (fun hg21 => ?_) (fun hg21 => ?_) | refine AtT.zy (d := 21) rfl (fun hg21 => ?_) (fun hg21 => ?_))
 all_goals first|refine AtT.zg ?_|refine AtT.ze ?_|(first | refine AtT.zu zA ?_ | refine AtT.zD zA ?_ | refine AtT.zt zA ?_)
 all_goals (first | refine AtT.zO ?_ | refine AtT.zJ ?_ | ((refine AtT.zq rfl rfl ok15 (great_f t _ _ hu) ?_) ; (rintro _ rfl)))
 all_goals (refine AtT.setB (d := 23) rfl (g2') ?_)
 all_goals (refine AtT.zx ?_)
 all_goals refine AtT.done ?_
 all_goals (refine At.nrm ?_)
 refine At.qE rfl rfl ?_
 refine At.nrm ?_
 refine At.zi (.q 0 (.n false 1 (.q 2 (.q 3 (.q 4 (.n false 5 (.n true 6 (.q 7 .done)))))))) ?_
 first | refine AtT.zu zA ?_ | refine AtT.zD zA ?_ | refine AtT.zt zA ?_
 refine AtT.zq rfl rfl ok36 (largest_f s _ _ hv) ?_
 rintro _ rfl
 refine AtT.zf ?_
 refine AtT.zP ?_
 refine AtT.zP ?_
 refine AtT.qo z26 ?_
 intro b7
 refine AtT.zW zQ ?_
 refine AtT.zh ?_
 refine AtT.done ?_
 refine At.nrm ?_
 refine At.zi (.q 0 (.n false 1 (.q 2 (.q 3 (.q 4 (.n false 5 (.n true 6 (.q 7 .done)))))))) ?_
 first | refine AtT.zu zA ?_ | refine AtT.zD zA ?_ | refine AtT.zt zA ?_
 refine AtT.zq rfl rfl ok37 (rlargest_f s _ _ hv) ?_
 rintro _ rfl
 refine AtT.zf ?_
 refine AtT.zP ?_
 refine AtT.zP ?_
 refine AtT.qo z26 ?_
 intro b9
 refine AtT.zW zQ ?_
 refine AtT.zh ?_
 refine AtT.done ?_
 refine At.nrm ?_
 refine At.zi (.q 0 (.q 1 (.n false 2 (.q 3 (.q 4 (.q 5 (.n false 6 (.n true 7 (.q 8 .done))))))))) ?_
 first | refine AtT.zu zA ?_ | refine AtT.zD zA ?_ | refine AtT.zt zA ?_
 refine AtT.zf ?_
 refine AtT.qg rfl rfl ok38 (turn_f s n _ _ hv) ?_
 rintro _ V39 hV39 ⟨u39, rfl, hu39⟩; obtain ⟨a39, c39, rfl, ht39⟩ := id hu39
 refine AtT.zf ?_
 refine AtT.zP ?_
 refine AtT.zP ?_
 refine AtT.qo z24 ?_
 intro b11
 refine AtT.zW zA ?_
 refine AtT.zh ?_
 refine AtT.done ?_
 refine At.nrm ?_
 refine At.zi (.q 0 (.q 1 (.n false 2 (.q 3 (.q 4 (.q 5 (.n false 6 (.n true 7 (.q 8 .done))))))))) ?_
 first | refine AtT.zu zA ?_ | refine AtT.zD zA ?_ | refine AtT.zt zA ?_
 refine AtT.zf ?_
 refine AtT.qg rfl rfl ok39 (rturn_f s n _ _ (hv.le hV39)) ?_
 rintro _ V45 hV45 ⟨u45, rfl, hu45⟩; obtain ⟨a45, c45, rfl, ht45⟩ := id hu45
 refine AtT.zf ?_
 refine AtT.zP ?_
 refine AtT.zP ?_
 refine AtT.qo z24 ?_
 intro b13
 refine AtT.zW zA ?_
 refine AtT.zh ?_
 refine AtT.done ?_
 refine At.nrm ?_
 replace hv := (hv.le hV39).le hV45
 replace hu := (hu.le hV39).le hV45
 replace hu39 := hu39.le hV45
 clear hV39 hV45
 refine At.zi (.q 0 (.q 1 (.n false 2 (.q 3 (.q 4 (.q 5 (.q 6 (.q 7 .done)))))))) ?_
 first | refine AtT.zu zA ?_ | refine AtT.zD zA ?_ | refine AtT.zt zA ?_
 first | refine AtT.zu zA ?_ | refine AtT.zD zA ?_ | refine AtT.zt zA ?_
 refine AtT.zq rfl rfl ok40 (same_f s t _ _ _ hv hu) ?_
 rintro _ rfl
 refine AtT.zf ?_
 refine AtT.zP ?_
 refine AtT.zP ?_
 refine AtT.zh ?_
 refine AtT.zh ?_
 refine AtT.done ?_
 refine At.nrm ?_
 refine At.zi (.q 0 (.q 1 (.n false 2 (.q 3 (.q 4 (.q 5 (.q 6 (.q 7 .done)))))))) ?_
 first | refine AtT.zu zA ?_ | refine AtT.zD zA ?_ | refine AtT.zt zA ?_
 first | refine AtT.zu zA ?_ | refine AtT.zD zA ?_ | refine AtT.zt zA ?_
 refine AtT.zq rfl rfl ok41 (rsame_f s t _ _ _ hv hu) ?_
 rintro _ rfl
 refine AtT.zf ?_
 refine AtT.zP ?_
 refine AtT.zP ?_
 refine AtT.zh ?_
 refine AtT.zh ?_
 refine AtT.done ?_
 refine At.nrm ?_
 refine At.zi (.q 0 (.q 1 (.q 2 (.q 3 (.q 4 (.q 5 (.q 6 (.q 7 (.q 8 (.q 9 (.q 10 (.n false 11 (.q 12 (.q 13 (.q 14 (.q 15 (.q 16 (.q 17 (.q 18 (.q 19 (.q 20 (.q 21 (.q 22 (.q 23 (.q 24 (.q 25 (.q 26 (.q 27 (.q 28 (.n false 29 (.q 30 (.q 31 .done)))))))))))))))))))))))))))))))) ?_
 first | refine AtT.zu zQ ?_ | refine AtT.zD zQ ?_ | refine AtT.zt zQ ?_
 first | refine AtT.zu zQ ?_ | refine AtT.zD zQ ?_ | refine AtT.zt zQ ?_
 refine AtT.keqS (eqS26 _ _ _ _ _ _ _ _) ?_
 refine AtT.qw (d := 62) rfl (⟨rfl, rfl, rfl, rfl⟩) ?_
 refine AtT.zf ?_
 all_goals (first | refine AtT.kL 63 ?_ | refine AtT.zz (d := 63) rfl (fun hg63 => ?_) (fun hg63 => ?_) | refine AtT.zy (d := 63) rfl (fun hg63 => ?_) (fun hg63 => ?_))
 all_goals first|refine AtT.zg ?_|refine AtT.ze ?_|(refine AtT.zf ?_)
 all_goals first|refine AtT.zg ?_|refine AtT.ze ?_|(refine AtT.zf ?_)
 all_goals first|refine AtT.zg ?_|refine AtT.ze ?_|(refine AtT.qP ?_)
 all_goals (refine AtT.qw (d := 66) rfl (rfl) ?_)
 all_goals (refine AtT.zx ?_)
 all_goals (refine AtT.zf ?_)
 all_goals (first | refine AtT.kL 68 ?_ | refine AtT.zz (d := 68) rfl (fun hg68 => ?_) (fun hg68 => ?_) | refine AtT.zy (d := 68) rfl (fun hg68 => ?_) (fun hg68 => ?_))
 all_goals first|refine AtT.zg ?_|refine AtT.ze ?_|(first | refine AtT.zu zA ?_ | refine AtT.zD zA ?_ | refine AtT.zt zA ?_)
 all_goals first|refine AtT.zg ?_|refine AtT.ze ?_|(first | refine AtT.zu zA ?_ | refine AtT.zD zA ?_ | refine AtT.zt zA ?_)
 all_goals (first | refine AtT.zO ?_ | refine AtT.zJ ?_ | ((refine AtT.zq rfl rfl ok42 (requal_f _ _ _ _ _ hu39 hu45) ?_) ; (rintro _ rfl)))
 all_goals (refine AtT.qw (d := 71) rfl (⟨rfl, rfl⟩) ?_)
 all_goals (refine AtT.zx ?_)
 all_goals (refine AtT.zf ?_)
 all_goals (first | refine AtT.kL 73 ?_ | refine AtT.zz (d := 73) rfl (fun hg73 => ?_) (fun hg73 => ?_) | refine AtT.zy (d := 73) rfl (fun hg73 => ?_) (fun hg73 => ?_))
 all_goals first|refine AtT.zg ?_|refine AtT.ze ?_|(refine AtT.zf ?_)
 all_goals first|refine AtT.zg ?_|refine AtT.ze ?_|(refine AtT.zf ?_)
 all_goals first|refine AtT.zg ?_|refine AtT.ze ?_|(refine AtT.qP ?_)
 all_goals (refine AtT.qw (d := 76) rfl (rfl) ?_)
 all_goals (refine AtT.zx ?_)
 all_goals (refine AtT.zf ?_)
 all_goals (first | refine AtT.kL 78 ?_ | refine AtT.zz (d := 78) rfl (fun hg78 => ?_) (fun hg78 => ?_) | refine AtT.zy (d := 78) rfl (fun hg78 => ?_) (fun hg78 => ?_))
 all_goals first|refine AtT.zg ?_|refine AtT.ze ?_|(refine AtT.zf ?_)
 all_goals first|refine AtT.zg ?_|refine AtT.ze ?_|(refine AtT.zf ?_)
 all_goals first|refine AtT.zg ?_|refine AtT.ze ?_|(refine AtT.qP ?_)
 all_goals (refine AtT.qw (d := 81) rfl (rfl) ?_)
 all_goals (refine AtT.zx ?_)
 all_goals (refine AtT.zf ?_)
 all_goals (first | refine AtT.kL 83 ?_ | refine AtT.zz (d := 83) rfl (fun hg83 => ?_) (fun hg83 => ?_) | refine AtT.zy (d := 83) rfl (fun hg83 => ?_) (fun hg83 => ?_))
 all_goals first|refine AtT.zg ?_|refine AtT.ze ?_|(refine AtT.zf ?_)
 all_goals first|refine AtT.zg ?_|refine AtT.ze ?_|(refine AtT.zf ?_)
 all_goals first|refine AtT.zg ?_|refine AtT.ze ?_|(refine AtT.qP ?_)
 all_goals (refine AtT.qw (d := 86) rfl (rfl) ?_)
 all_goals (refine AtT.zx ?_)
 all_goals (refine AtT.zf ?_)
 all_goals (first | refine AtT.kL 88 ?_ | refine AtT.zz (d := 88) rfl (fun hg88 => ?_) (fun hg88 => ?_) | refine AtT.zy (d := 88) rfl (fun hg88 => ?_) (fun hg88 => ?_))
 all_goals (first | refine AtT.zO ?_ | refine AtT.zJ ?_ | ((refine AtT.zq rfl rfl ok16 (works_f _) ?_) ; (rintro _ rfl)))
 all_goals (refine AtT.zx ?_)
 all_goals (refine AtT.zh ?_)
 all_goals refine AtT.done ?_
 all_goals (refine At.nrm ?_)
 exact At.qd rfl (.tmp rfl) rfl
end Go.Proofs.YtghomjjffllkeaaGreatDoor
set_option linter.unusedVariables false
namespace Go.Proofs.YtghomjjffllkeaaGreatDoor.c4
open Go.Lw Go.Gl Go.Pm Go.RowKit Go.ChangeShapes Go.WideShapes Go.ChangeAt
set_option maxRecDepth 100000 in
theorem lifted (os : Os) (started : os.Started) (H : Type) (enc : TypeId × Value → H) :
    ReturnsInHanded {} Tryz.checked os 6 .any (fun w args => (Rows.patchTurnsSpec.pre enc Tryz.prog Tryz.f6 [] false w args ∧ laidMetH Tryz.prog seatLaid w) ∧ sizedMet enc Tryz.prog Tryz.f6 (OpenSpec.ofChange Rows.patchTurnsSpec) false w args) (Rows.patchTurnsSpec.post enc Tryz.prog Tryz.f6 false true false false) := by
  refine law_liftL (tb := 4) (laid := seatLaid) (fun ds hd => by match ds, hd with | [d0, d1, d2], _ => rfl) rfl (by kernel_rfl) Tryz.underlying4 laidOut (by kernel_rfl) own started (by kernel_rfl) Tryz.func6
    (ChangeSpec.witness_shaped (enc := enc) (C := Tryz.checked) (os := os) (X := fun w _ => laidMetH Tryz.prog seatLaid w) false (World.laidAll Tryz.prog os seatLaid) #[.agg #[.slice none 0 0, .int .i64 0], .agg #[.slice none 0 0, .int .i64 0], .int .i64 0] 8 (World.laidAll_os _ _ _)
      (World.shaped_of_ZipB (by kernel_rfl) (by kernel_rfl)) (by kernel_rfl) (by kernel_rfl) (by kernel_rfl) (seat_laid os _)) ?_
  intro W base args ds ps hval hA
  rw [Tryz.params6] at hA hval
  obtain ⟨v0, vs0, d0, ds0, p0, q0, hargs, rfl, rfl, h0, r0⟩ := trodAll_cons hA
  obtain ⟨v1, vs1, d1, ds1, p1, q1, rfl, rfl, rfl, h1, r1⟩ := trodAll_cons r0
  obtain ⟨v2, vs2, d2, ds2, p2, q2, rfl, rfl, rfl, h2, r2⟩ := trodAll_cons r1
  obtain ⟨rfl, rfl, rfl⟩ := trodAll_nil r2
  obtain rfl : args = #[v0, v1, v2] := by cases args; simp_all
  obtain ⟨s0, k0⟩ := open_sheet (hval 0 24 v0 rfl rfl) h0
  obtain ⟨s1, k1⟩ := open_sheet (hval 1 24 v1 rfl rfl) h1
  obtain ⟨x2, rfl, _, _, w2⟩ := open_int Tryz.underlying3 (hval 2 3 v2 rfl rfl) h2
  exact ⟨[v0, v1, .int .i64 x2], rfl, patchTurns_f s0 s1 x2 _ _ _ k0 k1⟩

theorem over : Rows.patchTurnsRow.holds Tryz.pinned (OpenSpec.ofChange Rows.patchTurnsSpec) :=
  OpenClaim.holds_of_wide 6 Tryz.f6 rfl rfl rfl rfl rfl rfl rfl ⟨rfl, rfl, rfl, rfl, rfl⟩ rfl rfl rfl rfl rfl (by kernel_rfl) Tryz.func6 (by kernel_rfl)
    (of_decide_eq_true (by kernel_rfl)) (by unfold Func.isWrapper; first | (rw [if_pos (by decide +kernel)]; kernel_rfl) | (rw [if_neg (by decide +kernel)]; exact ⟨rfl, rfl⟩))
    (fun os started H enc _ => lifted os started H enc)

theorem proved : Rows.PatchTurnsCardSaid :=
  Claim7.holds_tied_plain_at .later [] [.data, .pinned] true (true, "0d2a6361d0117277170b6b99c938bda2455ed98009332320e2a28814b9346cbd") false over (fun _ h => by cases h) (by kernel_rfl) (fun _ h => by cases h) patchTurns_row_tie rfl ⟨rfl, rfl⟩ (by kernel_rfl) rfl
    (fun f fn hf hfn => by
      obtain rfl : f = 6 := Option.some.inj ((show Tryz.prog.funcNamed "crossband/crossbandlaw04.PatchTurns" = some 6 by kernel_rfl).symm.trans hf) |>.symm
      obtain rfl : fn = Tryz.f6 := (Option.some.inj (Tryz.func6.symm.trans hfn)).symm
      exact ⟨by kernel_rfl, fun j t ht => by
        rw [Tryz.params6] at ht
        have hm : t ∈ [24, 24, 3] := by simpa using Array.mem_of_getElem? ht
        have hall : ([24, 24, 3].all fun u => !Tryz.prog.wantsStandIn u) = true := by kernel_rfl
        exact (show Tryz.prog.wantsStandIn t = false by simpa using List.all_eq_true.1 hall t hm)⟩)
    (by kernel_rfl)
#print axioms proved
end Go.Proofs.YtghomjjffllkeaaGreatDoor.c4
