/- Which recipes are valid, and of what a thing is made in the end, are what the definitions say, or the error: for all recipes, any thing, and any count. No condition. -/
import Derived.Test.YtpoignmclfdgpaaGreatDoorB6
set_option linter.unusedVariables false
set_option linter.unusedSimpArgs false
set_option linter.unusedSectionVars false
set_option linter.unusedVariables false
namespace Go.Proofs.YtpoignmclfdgpaaGreatDoor
open Go.Lw Go.Gl Go.Bk Go.RowKit
theorem bookRecipes_f (rs : List Rc) (g c : Int) (V : View) (hg : GvV V) (v : Value) (hv : RsV V v rs) : Fnc Tryz.prog 3 [v, iv g, iv c] V fun r _ => r = .bool true := by
 obtain ⟨qs, a0, c0, e0, rfl, i0, j0⟩ := id hv
 clear e0 i0 j0
 refine qh Tryz.func3 rfl Tryz.ntmps3 (Nat.le_of_ble_eq_true rfl) ?_
 intro w0 hw0
 refine At.nrm ?_
 refine At.zh (.q 0 .done) ?_
 refine AtT.ze ?_
 refine AtT.done ?_
 refine At.nrm ?_
 refine At.zh (.q 0 (.q 1 (.n false 2 .done))) ?_
 refine AtT.zf ?_
 refine AtT.qG (bd26_0 _ _ _) ?_
 refine AtT.zG rfl rfl ok16 (great_f ⟨rs, []⟩ _ _ ⟨_, none, 0, rfl, hv, Sl.nil _ _ _⟩) ?_
 rintro _ rfl
 refine AtT.done ?_
 refine At.nrm ?_
 by_cases g1 : grB ⟨rs, []⟩ = true
 ·refine At.qb rfl g1 ?_
  refine At.nrm ?_
  refine At.zh (.n false 0 (.q 1 .done)) ?_
  refine AtT.zG rfl rfl ok17 (works_f _ hg) ?_
  rintro _ rfl
  refine AtT.ze ?_
  refine AtT.done ?_
  refine At.nrm ?_
  exact At.qi rfl (.tmp rfl) rfl
 have g1' : grB ⟨rs, []⟩ = false := by simpa using g1
 refine At.qf rfl g1' ?_
 refine At.nrm ?_
 refine At.zh (.q 0 (.q 1 (.q 2 (.n false 3 (.q 4 (.q 5 (.q 6 (.q 7 (.q 8 .done))))))))) ?_
 refine AtT.zf ?_
 refine AtT.zf ?_
 refine AtT.zf ?_
 refine AtT.qa rfl rfl ok18 (praw_f rs g c _ _ hv) ?_
 rintro _ V19 hV19 ⟨u19, rfl, h19⟩
 refine AtT.zf ?_
 refine AtT.zt ?_
 refine AtT.zt ?_
 refine AtT.ze ?_
 refine AtT.ze ?_
 refine AtT.done ?_
 refine At.nrm ?_
 refine At.zh (.q 0 (.q 1 (.q 2 (.n false 3 (.q 4 (.q 5 (.q 6 (.q 7 (.q 8 .done))))))))) ?_
 refine AtT.zf ?_
 refine AtT.zf ?_
 refine AtT.zf ?_
 refine AtT.qa rfl rfl ok19 (rraw_f rs g c _ _ (hv.le hV19)) ?_
 rintro _ V26 hV26 ⟨u26, rfl, h26⟩
 refine AtT.zf ?_
 refine AtT.zt ?_
 refine AtT.zt ?_
 refine AtT.ze ?_
 refine AtT.ze ?_
 refine AtT.done ?_
 refine At.nrm ?_
 have hv2 := (hv.le hV19).le hV26
 refine At.zh (.q 0 (.n false 1 (.q 2 (.n false 3 (.q 4 (.q 5 (.q 6 (.q 7 (.n false 8 (.q 9 (.q 10 (.q 11 (.q 12 (.q 13 (.q 14 (.q 15 (.n false 16 (.q 17 (.q 18 .done))))))))))))))))))) ?_
 refine AtT.zf ?_
 refine AtT.zG rfl rfl ok20 (checkRecipes_f rs _ _ hv2) ?_
 rintro _ rfl
 refine AtT.zf ?_
 refine AtT.zG rfl rfl ok21 (jW rs _ _ hv2) ?_
 rintro _ rfl
 refine AtT.qK ?_
 refine AtT.qm (d := 33) rfl (rfl) ?_
 refine AtT.zf ?_
 all_goals (first | refine AtT.kL 34 ?_ | refine AtT.zA (d := 34) rfl (fun hg34 => ?_) (fun hg34 => ?_) | refine AtT.zz (d := 34) rfl (fun hg34 => ?_) (fun hg34 => ?_))
 all_goals first|refine AtT.zi ?_|refine AtT.zg ?_|(refine AtT.zf ?_)
 all_goals first|refine AtT.zi ?_|refine AtT.zg ?_|(refine AtT.zf ?_)
 all_goals first|refine AtT.qg ?_|refine AtT.zW ?_|((refine AtT.zG rfl rfl ok22 (longs_f _ _ _ _ _ (h19.le hV26) h26) ?_) ; (rintro _ rfl))
 all_goals (refine AtT.qm (d := 37) rfl (rfl) ?_)
 all_goals (refine AtT.zB ?_)
 all_goals (refine AtT.zf ?_)
 all_goals (first | refine AtT.kL 39 ?_ | refine AtT.zA (d := 39) rfl (fun hg39 => ?_) (fun hg39 => ?_) | refine AtT.zz (d := 39) rfl (fun hg39 => ?_) (fun hg39 => ?_))
 all_goals first|refine AtT.zi ?_|refine AtT.zg ?_|(refine AtT.zf ?_)
 all_goals first|refine AtT.zi ?_|refine AtT.zg ?_|(refine AtT.zf ?_)
 all_goals first|refine AtT.zi ?_|refine AtT.zg ?_|(refine AtT.qK ?_)
 all_goals (refine AtT.qm (d := 42) rfl (rfl) ?_)
 all_goals (refine AtT.zB ?_)
 all_goals (refine AtT.zf ?_)
 all_goals (first | refine AtT.kL 44 ?_ | refine AtT.zA (d := 44) rfl (fun hg44 => ?_) (fun hg44 => ?_) | refine AtT.zz (d := 44) rfl (fun hg44 => ?_) (fun hg44 => ?_))
 all_goals first|refine AtT.qg ?_|refine AtT.zW ?_|((refine AtT.zG rfl rfl ok17 (works_f _ ((hg.le hV19).le hV26)) ?_) ; (rintro _ rfl))
 all_goals (refine AtT.zB ?_)
 all_goals (refine AtT.ze ?_)
 all_goals refine AtT.done ?_
 all_goals (refine At.nrm ?_)
 exact At.qi rfl (.tmp rfl) rfl
end Go.Proofs.YtpoignmclfdgpaaGreatDoor
set_option linter.unusedVariables false
namespace Go.Proofs.YtpoignmclfdgpaaGreatDoor.c1
open Go.Lw Go.Gl Go.Bk Go.RowKit Go.ChangeShapes Go.WideShapes Go.ChangeAt
set_option maxRecDepth 100000 in
theorem lifted (os : Os) (started : os.Started) (H : Type) (enc : TypeId × Value → H) :
    ReturnsInHanded {} Tryz.checked os 3 .any (fun w args => (Rows.bookRecipesSpec.pre enc Tryz.prog Tryz.f3 [] false w args ∧ laidMetH Tryz.prog seatLaid w) ∧ sizedMet enc Tryz.prog Tryz.f3 (OpenSpec.ofChange Rows.bookRecipesSpec) false w args) (Rows.bookRecipesSpec.post enc Tryz.prog Tryz.f3 false true false false) := by
  refine law_liftX (tb := 4) (laid := seatLaid) (fun ds hd => by match ds, hd with | [d0, d1, d2], _ => rfl) rfl (by kernel_rfl) Tryz.underlying4 laidOut (by kernel_rfl) own started (by kernel_rfl) Tryz.func3
    (ChangeSpec.witness_shaped (enc := enc) (C := Tryz.checked) (os := os) (X := fun w _ => laidMetH Tryz.prog seatLaid w) false (World.laidAll Tryz.prog os seatLaid) #[.slice none 0 0, .int .i64 0, .int .i64 0] 8 (World.laidAll_os _ _ _)
      (World.shaped_of_ZipB (by kernel_rfl) (by kernel_rfl)) (by kernel_rfl) (by kernel_rfl) (by kernel_rfl) (seat_laid os _)) ?_
  intro W base args ds ps hX hval hA
  have hg := gv_of hX
  rw [Tryz.params3] at hA hval
  obtain ⟨v0, vs0, d0, ds0, p0, q0, hargs, rfl, rfl, h0, r0⟩ := trodAll_cons hA
  obtain ⟨v1, vs1, d1, ds1, p1, q1, rfl, rfl, rfl, h1, r1⟩ := trodAll_cons r0
  obtain ⟨v2, vs2, d2, ds2, p2, q2, rfl, rfl, rfl, h2, r2⟩ := trodAll_cons r1
  obtain ⟨rfl, rfl, rfl⟩ := trodAll_nil r2
  obtain rfl : args = #[v0, v1, v2] := by cases args; simp_all
  obtain ⟨s0, k0⟩ := open_recs (hval 0 22 v0 rfl rfl) h0
  obtain ⟨x1, rfl, _, _, w1⟩ := open_int Tryz.underlying3 (hval 1 3 v1 rfl rfl) h1
  obtain ⟨x2, rfl, _, _, w2⟩ := open_int Tryz.underlying2 (hval 2 2 v2 rfl rfl) h2
  exact ⟨[v0, .int .i64 x1, .int .i64 x2], rfl, bookRecipes_f s0 x1 x2 _ hg _ k0⟩

theorem over : Rows.bookRecipesRow.holds Tryz.pinned (OpenSpec.ofChange Rows.bookRecipesSpec) :=
  OpenClaim.holds_of_wide 3 Tryz.f3 rfl rfl rfl rfl rfl rfl rfl ⟨rfl, rfl, rfl, rfl, rfl⟩ rfl rfl rfl rfl rfl (by kernel_rfl) Tryz.func3 (by kernel_rfl)
    (of_decide_eq_true (by kernel_rfl)) (by unfold Func.isWrapper; first | (rw [if_pos (by decide +kernel)]; kernel_rfl) | (rw [if_neg (by decide +kernel)]; exact ⟨rfl, rfl⟩))
    (fun os started H enc _ => lifted os started H enc)

theorem proved : Rows.BookRecipesCardSaid :=
  Claim7.holds_tied_plain_at .later [] [.data, .data, .data, .data, .sentinel, .sentinel, .pinned] true (true, "8eb6369ca22dea7aa1ecf342da9ca655bef5d246fa1e6fc7f1130bea294d6579") true over (fun _ h => by cases h) (by kernel_rfl) (fun _ h => by cases h) bookRecipes_row_tie rfl ⟨rfl, rfl⟩ (by kernel_rfl) rfl
    (fun f fn hf hfn => by
      obtain rfl : f = 3 := Option.some.inj ((show Tryz.prog.funcNamed "crossband/crossbandlaw12.BookRecipes" = some 3 by kernel_rfl).symm.trans hf) |>.symm
      obtain rfl : fn = Tryz.f3 := (Option.some.inj (Tryz.func3.symm.trans hfn)).symm
      exact ⟨by kernel_rfl, fun j t ht => by
        rw [Tryz.params3] at ht
        have hm : t ∈ [22, 3, 2] := by simpa using Array.mem_of_getElem? ht
        have hall : ([22, 3, 2].all fun u => !Tryz.prog.wantsStandIn u) = true := by kernel_rfl
        exact (show Tryz.prog.wantsStandIn t = false by simpa using List.all_eq_true.1 hall t hm)⟩)
    (by kernel_rfl)
#print axioms proved
end Go.Proofs.YtpoignmclfdgpaaGreatDoor.c1
