/- The stock on a day, by some first entries, and how many of a thing can be made, are what the definitions say, or the error: for all books, any number of first entries, any day, and any thing. No condition. -/
import Derived.Test.YtpoignmclfdgpaaGreatDoorB6
set_option linter.unusedVariables false
set_option linter.unusedSimpArgs false
set_option linter.unusedSectionVars false
set_option linter.unusedVariables false
namespace Go.Proofs.YtpoignmclfdgpaaGreatDoor
open Go.Lw Go.Gl Go.Bk Go.RowKit
theorem bookStocks_f (b : Bo) (first day g : Int) (V : View) (hg : GvV V) (v : Value) (hv : BoV V v b) : Fnc Tryz.prog 5 [v, iv first, iv day, iv g] V fun r _ => r = .bool true := by
 obtain ⟨w0, a0, c0, rfl, ⟨q0, z0, y0, e0, rfl, i0, j0⟩, s0⟩ := id hv
 clear e0 i0 j0 s0
 refine qh Tryz.func5 rfl Tryz.ntmps5 (Nat.le_of_ble_eq_true rfl) ?_
 intro w0 hw0
 refine At.nrm ?_
 refine At.zh (.n false 0 (.q 1 .done)) ?_
 refine AtT.jd ?_
 intro b4
 refine AtT.ze ?_
 refine AtT.done ?_
 refine At.nrm ?_
 refine At.zh (.q 0 (.n false 1 .done)) ?_
 first | refine AtT.zD zK ?_ | refine AtT.zI zK ?_ | refine AtT.zC zK ?_
 refine AtT.zG rfl rfl ok16 (great_f b _ _ hv) ?_
 rintro _ rfl
 refine AtT.done ?_
 refine At.nrm ?_
 by_cases g1 : grB b = true
 ·refine At.qb rfl g1 ?_
  refine At.nrm ?_
  refine At.zh (.n false 0 (.q 1 .done)) ?_
  refine AtT.zG rfl rfl ok17 (works_f _ hg) ?_
  rintro _ rfl
  refine AtT.ze ?_
  refine AtT.done ?_
  refine At.nrm ?_
  exact At.qi rfl (.tmp rfl) rfl
 have g1' : grB b = false := by simpa using g1
 refine At.qf rfl g1' ?_
 refine At.nrm ?_
 refine At.zh (.q 0 (.q 1 (.q 2 (.n false 3 (.q 4 (.q 5 (.q 6 (.q 7 (.q 8 .done))))))))) ?_
 first | refine AtT.zD zK ?_ | refine AtT.zI zK ?_ | refine AtT.zC zK ?_
 refine AtT.zf ?_
 refine AtT.zf ?_
 refine AtT.qa rfl rfl ok31 (pstock_f b first day _ _ hv) ?_
 rintro _ V24 hV24 ⟨u24, rfl, h24⟩
 refine AtT.zf ?_
 refine AtT.zt ?_
 refine AtT.zt ?_
 refine AtT.ze ?_
 refine AtT.ze ?_
 refine AtT.done ?_
 refine At.nrm ?_
 replace hg := hg.le hV24
 replace hv := hv.le hV24
 refine At.zh (.q 0 (.q 1 (.q 2 (.n false 3 (.q 4 (.q 5 (.q 6 (.q 7 (.q 8 .done))))))))) ?_
 first | refine AtT.zD zK ?_ | refine AtT.zI zK ?_ | refine AtT.zC zK ?_
 refine AtT.zf ?_
 refine AtT.zf ?_
 refine AtT.qa rfl rfl ok32 (rstock_f b first day _ _ hv) ?_
 rintro _ V31 hV31 ⟨u31, rfl, h31⟩
 refine AtT.zf ?_
 refine AtT.zt ?_
 refine AtT.zt ?_
 refine AtT.ze ?_
 refine AtT.ze ?_
 refine AtT.done ?_
 refine At.nrm ?_
 replace hg := hg.le hV31
 replace hv := hv.le hV31
 replace h24 := h24.le hV31
 refine At.zh (.q 0 (.q 1 (.n false 2 (.q 3 (.q 4 (.q 5 (.q 6 (.q 7 .done)))))))) ?_
 first | refine AtT.zD zK ?_ | refine AtT.zI zK ?_ | refine AtT.zC zK ?_
 refine AtT.zf ?_
 refine AtT.zG rfl rfl ok33 (pmost_f b g _ _ hv) ?_
 rintro _ rfl
 refine AtT.zf ?_
 refine AtT.zt ?_
 refine AtT.zt ?_
 refine AtT.ze ?_
 refine AtT.ze ?_
 refine AtT.done ?_
 refine At.nrm ?_
 refine At.zh (.q 0 (.q 1 (.n false 2 (.q 3 (.q 4 (.q 5 (.q 6 (.q 7 .done)))))))) ?_
 first | refine AtT.zD zK ?_ | refine AtT.zI zK ?_ | refine AtT.zC zK ?_
 refine AtT.zf ?_
 refine AtT.zG rfl rfl ok34 (rmost_f b g _ _ hv) ?_
 rintro _ rfl
 refine AtT.zf ?_
 refine AtT.zt ?_
 refine AtT.zt ?_
 refine AtT.ze ?_
 refine AtT.ze ?_
 refine AtT.done ?_
 refine At.nrm ?_
 refine At.zh (.q 0 (.q 1 (.n false 2 (.q 3 (.q 4 (.q 5 (.q 6 (.q 7 (.q 8 (.q 9 (.q 10 (.q 11 (.q 12 (.q 13 (.q 14 (.q 15 (.q 16 (.q 17 (.q 18 (.n false 19 (.q 20 (.q 21 .done)))))))))))))))))))))) ?_
 refine AtT.zf ?_
 refine AtT.zf ?_
 refine AtT.zG rfl rfl ok22 (longs_f _ _ _ _ _ h24 h31) ?_
 rintro _ rfl
 refine AtT.qm (d := 48) rfl (rfl) ?_
 refine AtT.zf ?_
 all_goals (first | refine AtT.kL 49 ?_ | refine AtT.zA (d := 49) rfl (fun hg49 => ?_) (fun hg49 => ?_) | refine AtT.zz (d := 49) rfl (fun hg49 => ?_) (fun hg49 => ?_))
 all_goals first|refine AtT.zi ?_|refine AtT.zg ?_|(refine AtT.zf ?_)
 all_goals first|refine AtT.zi ?_|refine AtT.zg ?_|(refine AtT.zf ?_)
 all_goals first|refine AtT.zi ?_|refine AtT.zg ?_|(refine AtT.qK ?_)
 all_goals (refine AtT.qm (d := 52) rfl (rfl) ?_)
 all_goals (refine AtT.zB ?_)
 all_goals (refine AtT.zf ?_)
 all_goals (first | refine AtT.kL 54 ?_ | refine AtT.zA (d := 54) rfl (fun hg54 => ?_) (fun hg54 => ?_) | refine AtT.zz (d := 54) rfl (fun hg54 => ?_) (fun hg54 => ?_))
 all_goals first|refine AtT.zi ?_|refine AtT.zg ?_|(refine AtT.zf ?_)
 all_goals first|refine AtT.zi ?_|refine AtT.zg ?_|(refine AtT.zf ?_)
 all_goals first|refine AtT.zi ?_|refine AtT.zg ?_|(refine AtT.qK ?_)
 all_goals (refine AtT.qm (d := 57) rfl (rfl) ?_)
 all_goals (refine AtT.zB ?_)
 all_goals (refine AtT.zf ?_)
 all_goals (first | refine AtT.kL 59 ?_ | refine AtT.zA (d := 59) rfl (fun hg59 => ?_) (fun hg59 => ?_) | refine AtT.zz (d := 59) rfl (fun hg59 => ?_) (fun hg59 => ?_))
 all_goals first|refine AtT.zi ?_|refine AtT.zg ?_|(refine AtT.zf ?_)
 all_goals first|refine AtT.zi ?_|refine AtT.zg ?_|(refine AtT.zf ?_)
 all_goals first|refine AtT.zi ?_|refine AtT.zg ?_|(refine AtT.qK ?_)
 all_goals (refine AtT.qm (d := 62) rfl (rfl) ?_)
 all_goals (refine AtT.zB ?_)
 all_goals (refine AtT.zf ?_)
 all_goals (first | refine AtT.kL 64 ?_ | refine AtT.zA (d := 64) rfl (fun hg64 => ?_) (fun hg64 => ?_) | refine AtT.zz (d := 64) rfl (fun hg64 => ?_) (fun hg64 => ?_))
 all_goals first|refine AtT.qg ?_|refine AtT.zW ?_|((refine AtT.zG rfl rfl ok17 (works_f _ hg) ?_) ; (rintro _ rfl))
 all_goals (refine AtT.zB ?_)
 all_goals (refine AtT.ze ?_)
 all_goals refine AtT.done ?_
 all_goals (refine At.nrm ?_)
 all_goals (exact At.qi rfl (.tmp rfl) rfl)
end Go.Proofs.YtpoignmclfdgpaaGreatDoor
set_option linter.unusedVariables false
namespace Go.Proofs.YtpoignmclfdgpaaGreatDoor.c3
open Go.Lw Go.Gl Go.Bk Go.RowKit Go.ChangeShapes Go.WideShapes Go.ChangeAt
set_option maxRecDepth 100000 in
theorem lifted (os : Os) (started : os.Started) (H : Type) (enc : TypeId × Value → H) :
    ReturnsInHanded {} Tryz.checked os 5 .any (fun w args => (Rows.bookStocksSpec.pre enc Tryz.prog Tryz.f5 [] false w args ∧ laidMetH Tryz.prog seatLaid w) ∧ sizedMet enc Tryz.prog Tryz.f5 (OpenSpec.ofChange Rows.bookStocksSpec) false w args) (Rows.bookStocksSpec.post enc Tryz.prog Tryz.f5 false true false false) := by
  refine law_liftX (tb := 4) (laid := seatLaid) (fun ds hd => by match ds, hd with | [d0, d1, d2, d3], _ => rfl) rfl (by kernel_rfl) Tryz.underlying4 laidOut (by kernel_rfl) own started (by kernel_rfl) Tryz.func5
    (ChangeSpec.witness_shaped (enc := enc) (C := Tryz.checked) (os := os) (X := fun w _ => laidMetH Tryz.prog seatLaid w) false (World.laidAll Tryz.prog os seatLaid) #[.agg #[.slice none 0 0, .slice none 0 0], .int .i64 0, .int .i64 0, .int .i64 0] 8 (World.laidAll_os _ _ _)
      (World.shaped_of_ZipB (by kernel_rfl) (by kernel_rfl)) (by kernel_rfl) (by kernel_rfl) (by kernel_rfl) (seat_laid os _)) ?_
  intro W base args ds ps hX hval hA
  have hg := gv_of hX
  rw [Tryz.params5] at hA hval
  obtain ⟨v0, vs0, d0, ds0, p0, q0, hargs, rfl, rfl, h0, r0⟩ := trodAll_cons hA
  obtain ⟨v1, vs1, d1, ds1, p1, q1, rfl, rfl, rfl, h1, r1⟩ := trodAll_cons r0
  obtain ⟨v2, vs2, d2, ds2, p2, q2, rfl, rfl, rfl, h2, r2⟩ := trodAll_cons r1
  obtain ⟨v3, vs3, d3, ds3, p3, q3, rfl, rfl, rfl, h3, r3⟩ := trodAll_cons r2
  obtain ⟨rfl, rfl, rfl⟩ := trodAll_nil r3
  obtain rfl : args = #[v0, v1, v2, v3] := by cases args; simp_all
  obtain ⟨s0, k0⟩ := open_book (hval 0 26 v0 rfl rfl) h0
  obtain ⟨x1, rfl, _, _, w1⟩ := open_int Tryz.underlying3 (hval 1 3 v1 rfl rfl) h1
  obtain ⟨x2, rfl, _, _, w2⟩ := open_int Tryz.underlying3 (hval 2 3 v2 rfl rfl) h2
  obtain ⟨x3, rfl, _, _, w3⟩ := open_int Tryz.underlying3 (hval 3 3 v3 rfl rfl) h3
  exact ⟨[v0, .int .i64 x1, .int .i64 x2, .int .i64 x3], rfl, bookStocks_f s0 x1 x2 x3 _ hg _ k0⟩

theorem over : Rows.bookStocksRow.holds Tryz.pinned (OpenSpec.ofChange Rows.bookStocksSpec) :=
  OpenClaim.holds_of_wide 5 Tryz.f5 rfl rfl rfl rfl rfl rfl rfl ⟨rfl, rfl, rfl, rfl, rfl⟩ rfl rfl rfl rfl rfl (by kernel_rfl) Tryz.func5 (by kernel_rfl)
    (of_decide_eq_true (by kernel_rfl)) (by unfold Func.isWrapper; first | (rw [if_pos (by decide +kernel)]; kernel_rfl) | (rw [if_neg (by decide +kernel)]; exact ⟨rfl, rfl⟩))
    (fun os started H enc _ => lifted os started H enc)

theorem proved : Rows.BookStocksCardSaid :=
  Claim7.holds_tied_plain_at .later [] [.data, .data, .data, .data, .sentinel, .sentinel, .pinned] true (true, "8eb6369ca22dea7aa1ecf342da9ca655bef5d246fa1e6fc7f1130bea294d6579") true over (fun _ h => by cases h) (by kernel_rfl) (fun _ h => by cases h) bookStocks_row_tie rfl ⟨rfl, rfl⟩ (by kernel_rfl) rfl
    (fun f fn hf hfn => by
      obtain rfl : f = 5 := Option.some.inj ((show Tryz.prog.funcNamed "crossband/crossbandlaw12.BookStocks" = some 5 by kernel_rfl).symm.trans hf) |>.symm
      obtain rfl : fn = Tryz.f5 := (Option.some.inj (Tryz.func5.symm.trans hfn)).symm
      exact ⟨by kernel_rfl, fun j t ht => by
        rw [Tryz.params5] at ht
        have hm : t ∈ [26, 3, 3, 3] := by simpa using Array.mem_of_getElem? ht
        have hall : ([26, 3, 3, 3].all fun u => !Tryz.prog.wantsStandIn u) = true := by kernel_rfl
        exact (show Tryz.prog.wantsStandIn t = false by simpa using List.all_eq_true.1 hall t hm)⟩)
    (by kernel_rfl)
#print axioms proved
end Go.Proofs.YtpoignmclfdgpaaGreatDoor.c3
