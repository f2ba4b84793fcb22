/- Which knots are alone, the most of them, and the parts of a sheet, are what the definitions say, or the error: for all sheets, and all lists of knots. No condition. -/
import Derived.Test.YtghomjjffllkeaaGreatDoorB6
set_option linter.unusedVariables false
set_option linter.unusedSimpArgs false
set_option linter.unusedSectionVars false
set_option linter.unusedVariables false
namespace Go.Pm
open Go.Gl Go.Lw
end Go.Pm
namespace Go.Proofs.YtghomjjffllkeaaGreatDoor
open Go.Lw Go.Gl Go.Pm Go.RowKit Go.Shelf
theorem patchAlones_f (s : Sh) (l : List Int) (V : View) (v u : Value) (hv : ShV V v s) (hu : SlI V u l) : Fnc Tryz.prog 5 [v, u] V fun r _ => r = .bool true := by
 obtain ⟨a, c, rfl, hs⟩ := id hv
 obtain ⟨a1, c1, rfl, k1, k2, _⟩ := id hu
 clear k1 k2
 refine qc Tryz.func5 rfl Tryz.ntmps5 (Nat.le_of_ble_eq_true rfl) ?_
 intro w0 hw0
 refine At.nrm ?_
 refine At.zi (.n false 0 (.q 1 .done)) ?_
 refine AtT.qV ?_
 intro b2
 refine AtT.zh ?_
 refine AtT.done ?_
 refine At.nrm ?_
 by_cases g1 : grB s = true
 ·refine At.zi (.q 0 (.n false 1 (.q 2 (.q 3 (.q 4 (.q 5 (.q 6 .done))))))) ?_
  first | refine AtT.zu zA ?_ | refine AtT.zD zA ?_ | refine AtT.zt zA ?_
  refine AtT.zq rfl rfl ok15 (great_f s _ _ hv) ?_
  rintro _ rfl
  refine AtT.setB (d := 14) rfl (g1) ?_
  refine AtT.zf ?_
  all_goals (first | refine AtT.kL 15 ?_ | refine AtT.zz (d := 15) rfl (fun hg15 => ?_) (fun hg15 => ?_) | refine AtT.zy (d := 15) rfl (fun hg15 => ?_) (fun hg15 => ?_))
  all_goals first|refine AtT.zg ?_|refine AtT.ze ?_|(refine AtT.zf ?_)
  all_goals first|refine AtT.zg ?_|refine AtT.ze ?_|(first | refine AtT.zU Tryz.underlying39 ?_ | refine AtT.zV Tryz.underlying39 ?_)
  all_goals first|refine AtT.zg ?_|refine AtT.ze ?_|(refine AtT.qx ?_)
  all_goals (refine AtT.zx ?_)
  all_goals refine AtT.done ?_
  all_goals (refine At.nrm ?_)
  refine At.qA rfl rfl ?_
  refine At.nrm ?_
  refine At.zi (.n false 0 (.q 1 .done)) ?_
  refine AtT.zq rfl rfl ok16 (works_f _) ?_
  rintro _ rfl
  refine AtT.zh ?_
  refine AtT.done ?_
  refine At.nrm ?_
  exact At.qd rfl (.tmp rfl) rfl
 have g1' : grB s = false := by simpa using g1
 by_cases g2 : 20 < (l.length : Int)
 ·refine At.zi (.q 0 (.n false 1 (.q 2 (.q 3 (.q 4 (.q 5 (.q 6 .done))))))) ?_
  first | refine AtT.zu zA ?_ | refine AtT.zD zA ?_ | refine AtT.zt zA ?_
  refine AtT.zq rfl rfl ok15 (great_f s _ _ hv) ?_
  rintro _ rfl
  refine AtT.setB (d := 14) rfl (g1') ?_
  refine AtT.zf ?_
  all_goals (first | refine AtT.kL 15 ?_ | refine AtT.zz (d := 15) rfl (fun hg15 => ?_) (fun hg15 => ?_) | refine AtT.zy (d := 15) rfl (fun hg15 => ?_) (fun hg15 => ?_))
  all_goals first|refine AtT.zg ?_|refine AtT.ze ?_|(refine AtT.zf ?_)
  all_goals first|refine AtT.zg ?_|refine AtT.ze ?_|(first | refine AtT.zU Tryz.underlying39 ?_ | refine AtT.zV Tryz.underlying39 ?_)
  all_goals first|refine AtT.zg ?_|refine AtT.ze ?_|(refine AtT.qx ?_)
  all_goals (refine AtT.qw (d := 18) rfl (g2) ?_)
  all_goals (refine AtT.zx ?_)
  all_goals refine AtT.done ?_
  all_goals (refine At.nrm ?_)
  refine At.qA rfl rfl ?_
  refine At.nrm ?_
  refine At.zi (.n false 0 (.q 1 .done)) ?_
  refine AtT.zq rfl rfl ok16 (works_f _) ?_
  rintro _ rfl
  refine AtT.zh ?_
  refine AtT.done ?_
  refine At.nrm ?_
  exact At.qd rfl (.tmp rfl) rfl
 refine At.zi (.q 0 (.n false 1 (.q 2 (.q 3 (.q 4 (.q 5 (.q 6 .done))))))) ?_
 first | refine AtT.zu zA ?_ | refine AtT.zD zA ?_ | refine AtT.zt zA ?_
 refine AtT.zq rfl rfl ok15 (great_f s _ _ hv) ?_
 rintro _ rfl
 refine AtT.setB (d := 14) rfl (g1') ?_
 refine AtT.zf ?_
 all_goals (first | refine AtT.kL 15 ?_ | refine AtT.zz (d := 15) rfl (fun hg15 => ?_) (fun hg15 => ?_) | refine AtT.zy (d := 15) rfl (fun hg15 => ?_) (fun hg15 => ?_))
 all_goals first|refine AtT.zg ?_|refine AtT.ze ?_|(refine AtT.zf ?_)
 all_goals first|refine AtT.zg ?_|refine AtT.ze ?_|(first | refine AtT.zU Tryz.underlying39 ?_ | refine AtT.zV Tryz.underlying39 ?_)
 all_goals first|refine AtT.zg ?_|refine AtT.ze ?_|(refine AtT.qx ?_)
 all_goals (refine AtT.ql (d := 18) rfl (g2) ?_)
 all_goals (refine AtT.zx ?_)
 all_goals refine AtT.done ?_
 all_goals (refine At.nrm ?_)
 refine At.qE rfl rfl ?_
 refine At.nrm ?_
 refine At.zi (.q 0 (.n false 1 (.q 2 (.q 3 (.q 4 (.q 5 (.q 6 .done))))))) ?_
 first | refine AtT.zu zA ?_ | refine AtT.zD zA ?_ | refine AtT.zt zA ?_
 refine AtT.qg rfl rfl ok28 (aloneP_f s _ _ hv) ?_
 rintro _ V23 hV23 ⟨u23, rfl, hu23⟩
 refine AtT.zf ?_
 refine AtT.zP ?_
 refine AtT.zP ?_
 refine AtT.zh ?_
 refine AtT.zh ?_
 refine AtT.done ?_
 refine At.nrm ?_
 refine At.zi (.q 0 (.n false 1 (.q 2 (.q 3 (.q 4 (.q 5 (.q 6 .done))))))) ?_
 first | refine AtT.zu zA ?_ | refine AtT.zD zA ?_ | refine AtT.zt zA ?_
 refine AtT.qg rfl rfl ok29 (raloneP_f s _ _ (hv.le hV23)) ?_
 rintro _ V28 hV28 ⟨u28, rfl, hu28⟩
 refine AtT.zf ?_
 refine AtT.zP ?_
 refine AtT.zP ?_
 refine AtT.zh ?_
 refine AtT.zh ?_
 refine AtT.done ?_
 refine At.nrm ?_
 replace hv := (hv.le hV23).le hV28
 replace hu := (hu.le hV23).le hV28
 replace hu23 := hu23.le hV28
 clear hV23 hV28
 refine At.zi (.q 0 (.n false 1 (.q 2 (.q 3 (.q 4 (.q 5 (.q 6 .done))))))) ?_
 first | refine AtT.zu zA ?_ | refine AtT.zD zA ?_ | refine AtT.zt zA ?_
 refine AtT.qg rfl rfl ok30 (partsP_f s _ _ hv) ?_
 rintro _ V33 hV33 ⟨u33, l1, rfl, hu33, hr33⟩
 refine AtT.zf ?_
 refine AtT.zP ?_
 refine AtT.zP ?_
 refine AtT.zh ?_
 refine AtT.zh ?_
 refine AtT.done ?_
 refine At.nrm ?_
 refine At.zi (.q 0 (.n false 1 (.q 2 (.q 3 (.q 4 (.q 5 (.q 6 .done))))))) ?_
 first | refine AtT.zu zA ?_ | refine AtT.zD zA ?_ | refine AtT.zt zA ?_
 refine AtT.qg rfl rfl ok31 (rpartsP_f s _ _ (hv.le hV33)) ?_
 rintro _ V38 hV38 ⟨u38, l2, rfl, hu38, hr38⟩
 refine AtT.zf ?_
 refine AtT.zP ?_
 refine AtT.zP ?_
 refine AtT.zh ?_
 refine AtT.zh ?_
 refine AtT.done ?_
 refine At.nrm ?_
 have el : l1 = l2 := by
  rcases hr33 with ⟨h, h1⟩ | ⟨h, h1⟩ <;> rcases hr38 with ⟨k, k1⟩ | ⟨k, k1⟩
  ·rw [h1, k1]
  ·exact absurd k h
  ·exact absurd h k
  ·exact prtK_uniq h1 k1
 subst el
 replace hv := (hv.le hV33).le hV38
 replace hu := (hu.le hV33).le hV38
 replace hu23 := (hu23.le hV33).le hV38
 replace hu28 := (hu28.le hV33).le hV38
 replace hu33 := hu33.le hV38
 clear hV33 hV38
 refine At.draw (.q 0 (.q 1 (.q 3 (.q 4 (.n false 2 (.n false 5 (.q 6 (.q 7 (.q 8 (.q 9 (.n false 10 (.q 11 (.q 12 (.q 13 (.q 14 (.q 15 (.q 16 (.q 17 (.q 18 (.q 19 (.n false 20 (.q 21 (.q 22 (.q 23 (.q 24 (.q 25 (.q 26 (.q 27 (.n false 28 (.q 29 (.q 30 .done))))))))))))))))))))))))))))))) ffm (by kernel_rfl) ?_
 first | refine AtT.zu zA ?_ | refine AtT.zD zA ?_ | refine AtT.zt zA ?_
 refine AtT.zf ?_
 first | refine AtT.zu zA ?_ | refine AtT.zD zA ?_ | refine AtT.zt zA ?_
 refine AtT.zf ?_
 refine AtT.zq rfl rfl ok32 (zC s l _ _ _ hv hu) ?_
 rintro _ rfl
 refine AtT.zq rfl rfl ok33 (rcheckAlone_f s l _ _ _ hv hu) ?_
 rintro _ rfl
 refine AtT.qP ?_
 refine AtT.qw (d := 47) rfl (rfl) ?_
 refine AtT.zf ?_
 all_goals (first | refine AtT.kL 48 ?_ | refine AtT.zz (d := 48) rfl (fun hg48 => ?_) (fun hg48 => ?_) | refine AtT.zy (d := 48) rfl (fun hg48 => ?_) (fun hg48 => ?_))
 all_goals first|refine AtT.zg ?_|refine AtT.ze ?_|(refine AtT.zf ?_)
 all_goals first|refine AtT.zg ?_|refine AtT.ze ?_|(refine AtT.zf ?_)
 all_goals (first | refine AtT.zO ?_ | refine AtT.zJ ?_ | ((refine AtT.zq rfl rfl ok34 (ints_f _ _ _ _ _ hu23 hu28) ?_) ; (rintro _ rfl)))
 all_goals (refine AtT.qw (d := 51) rfl (rfl) ?_)
 all_goals (refine AtT.zx ?_)
 all_goals (refine AtT.zf ?_)
 all_goals (first | refine AtT.kL 53 ?_ | refine AtT.zz (d := 53) rfl (fun hg53 => ?_) (fun hg53 => ?_) | refine AtT.zy (d := 53) rfl (fun hg53 => ?_) (fun hg53 => ?_))
 all_goals first|refine AtT.zg ?_|refine AtT.ze ?_|(refine AtT.zf ?_)
 all_goals first|refine AtT.zg ?_|refine AtT.ze ?_|(refine AtT.zf ?_)
 all_goals first|refine AtT.zg ?_|refine AtT.ze ?_|(refine AtT.qP ?_)
 all_goals (refine AtT.qw (d := 56) rfl (rfl) ?_)
 all_goals (refine AtT.zx ?_)
 all_goals (refine AtT.zf ?_)
 all_goals (first | refine AtT.kL 58 ?_ | refine AtT.zz (d := 58) rfl (fun hg58 => ?_) (fun hg58 => ?_) | refine AtT.zy (d := 58) rfl (fun hg58 => ?_) (fun hg58 => ?_))
 all_goals first|refine AtT.zg ?_|refine AtT.ze ?_|(refine AtT.zf ?_)
 all_goals first|refine AtT.zg ?_|refine AtT.ze ?_|(refine AtT.zf ?_)
 all_goals (first | refine AtT.zO ?_ | refine AtT.zJ ?_ | ((refine AtT.zq rfl rfl ok35 (lists_eq_f l1 l1 _ _ _ hu33 hu38) ?_) ; (rintro _ rfl)))
 all_goals (refine AtT.qw (d := 61) rfl (rfl) ?_)
 all_goals (refine AtT.zx ?_)
 all_goals (refine AtT.zf ?_)
 all_goals (first | refine AtT.kL 63 ?_ | refine AtT.zz (d := 63) rfl (fun hg63 => ?_) (fun hg63 => ?_) | refine AtT.zy (d := 63) rfl (fun hg63 => ?_) (fun hg63 => ?_))
 all_goals first|refine AtT.zg ?_|refine AtT.ze ?_|(refine AtT.zf ?_)
 all_goals first|refine AtT.zg ?_|refine AtT.ze ?_|(refine AtT.zf ?_)
 all_goals first|refine AtT.zg ?_|refine AtT.ze ?_|(refine AtT.qP ?_)
 all_goals (refine AtT.qw (d := 66) rfl (rfl) ?_)
 all_goals (refine AtT.zx ?_)
 all_goals (refine AtT.zf ?_)
 all_goals (first | refine AtT.kL 68 ?_ | refine AtT.zz (d := 68) rfl (fun hg68 => ?_) (fun hg68 => ?_) | refine AtT.zy (d := 68) rfl (fun hg68 => ?_) (fun hg68 => ?_))
 all_goals (first | refine AtT.zO ?_ | refine AtT.zJ ?_ | ((refine AtT.zq rfl rfl ok16 (works_f _) ?_) ; (rintro _ rfl)))
 all_goals (refine AtT.zx ?_)
 all_goals (refine AtT.zh ?_)
 all_goals refine AtT.done ?_
 all_goals (refine At.nrm ?_)
 exact At.qd rfl (.tmp rfl) rfl
end Go.Proofs.YtghomjjffllkeaaGreatDoor
set_option linter.unusedVariables false
namespace Go.Proofs.YtghomjjffllkeaaGreatDoor.c3
open Go.Lw Go.Gl Go.Pm Go.RowKit Go.ChangeShapes Go.WideShapes Go.ChangeAt
set_option maxRecDepth 100000 in
theorem lifted (os : Os) (started : os.Started) (H : Type) (enc : TypeId × Value → H) :
    ReturnsInHanded {} Tryz.checked os 5 .any (fun w args => (Rows.patchAlonesSpec.pre enc Tryz.prog Tryz.f5 [] false w args ∧ laidMetH Tryz.prog seatLaid w) ∧ sizedMet enc Tryz.prog Tryz.f5 (OpenSpec.ofChange Rows.patchAlonesSpec) false w args) (Rows.patchAlonesSpec.post enc Tryz.prog Tryz.f5 false true false false) := by
  refine law_liftL (tb := 4) (laid := seatLaid) (fun ds hd => by match ds, hd with | [d0, d1], _ => rfl) rfl (by kernel_rfl) Tryz.underlying4 laidOut (by kernel_rfl) own started (by kernel_rfl) Tryz.func5
    (ChangeSpec.witness_shaped (enc := enc) (C := Tryz.checked) (os := os) (X := fun w _ => laidMetH Tryz.prog seatLaid w) false (World.laidAll Tryz.prog os seatLaid) #[.agg #[.slice none 0 0, .int .i64 0], .slice none 0 0] 8 (World.laidAll_os _ _ _)
      (World.shaped_of_ZipB (by kernel_rfl) (by kernel_rfl)) (by kernel_rfl) (by kernel_rfl) (by kernel_rfl) (seat_laid os _)) ?_
  intro W base args ds ps hval hA
  rw [Tryz.params5] at hA hval
  obtain ⟨v0, vs0, d0, ds0, p0, q0, hargs, rfl, rfl, h0, r0⟩ := trodAll_cons hA
  obtain ⟨v1, vs1, d1, ds1, p1, q1, rfl, rfl, rfl, h1, r1⟩ := trodAll_cons r0
  obtain ⟨rfl, rfl, rfl⟩ := trodAll_nil r1
  obtain rfl : args = #[v0, v1] := by cases args; simp_all
  obtain ⟨s0, k0⟩ := open_sheet (hval 0 24 v0 rfl rfl) h0
  obtain ⟨l1, a1, c1, rfl, k1⟩ := rd_ints (hval 1 39 v1 rfl rfl) h1
  exact ⟨[v0, .slice a1 l1.length c1], rfl, patchAlones_f s0 l1 _ _ _ k0 k1⟩

theorem over : Rows.patchAlonesRow.holds Tryz.pinned (OpenSpec.ofChange Rows.patchAlonesSpec) :=
  OpenClaim.holds_of_wide 5 Tryz.f5 rfl rfl rfl rfl rfl rfl rfl ⟨rfl, rfl, rfl, rfl, rfl⟩ rfl rfl rfl rfl rfl (by kernel_rfl) Tryz.func5 (by kernel_rfl)
    (of_decide_eq_true (by kernel_rfl)) (by unfold Func.isWrapper; first | (rw [if_pos (by decide +kernel)]; kernel_rfl) | (rw [if_neg (by decide +kernel)]; exact ⟨rfl, rfl⟩))
    (fun os started H enc _ => lifted os started H enc)

theorem proved : Rows.PatchAlonesCardSaid :=
  Claim7.holds_tied_plain_at .later [] [.data, .pinned] true (true, "0d2a6361d0117277170b6b99c938bda2455ed98009332320e2a28814b9346cbd") false over (fun _ h => by cases h) (by kernel_rfl) (fun _ h => by cases h) patchAlones_row_tie rfl ⟨rfl, rfl⟩ (by kernel_rfl) rfl
    (fun f fn hf hfn => by
      obtain rfl : f = 5 := Option.some.inj ((show Tryz.prog.funcNamed "crossband/crossbandlaw04.PatchAlones" = some 5 by kernel_rfl).symm.trans hf) |>.symm
      obtain rfl : fn = Tryz.f5 := (Option.some.inj (Tryz.func5.symm.trans hfn)).symm
      exact ⟨by kernel_rfl, fun j t ht => by
        rw [Tryz.params5] at ht
        have hm : t ∈ [24, 39] := by simpa using Array.mem_of_getElem? ht
        have hall : ([24, 39].all fun u => !Tryz.prog.wantsStandIn u) = true := by kernel_rfl
        exact (show Tryz.prog.wantsStandIn t = false by simpa using List.all_eq_true.1 hall t hm)⟩)
    (by kernel_rfl)
#print axioms proved
end Go.Proofs.YtghomjjffllkeaaGreatDoor.c3
