/- Which books are right, which entries count, and a book with one entry more, are what the definitions say, or the error: for all books, any number of first entries, and any entry. No condition. -/
import Derived.Test.YtpoignmclfdgpaaGreatDoorB6
set_option linter.unusedVariables false
set_option linter.unusedSimpArgs false
set_option linter.unusedSectionVars false
set_option linter.unusedVariables false
namespace Go.Proofs.YtpoignmclfdgpaaGreatDoor
open Go.Lw Go.Gl Go.Bk Go.RowKit
theorem bookBooks_f (b : Bo) (first : Int) (e : En) (V : View) (hg : GvV V) (v : Value) (hv : BoV V v b) : Fnc Tryz.prog 4 [v, iv first, env e] V fun r _ => r = .bool true := by
 obtain ⟨w0, a0, c0, rfl, ⟨q0, z0, y0, e0, rfl, i0, j0⟩, s0⟩ := id hv
 clear e0 i0 j0 s0
 refine qh Tryz.func4 rfl Tryz.ntmps4 (Nat.le_of_ble_eq_true rfl) ?_
 intro w0 hw0
 refine At.nrm ?_
 refine At.zh (.n false 0 (.n false 1 (.q 2 .done))) ?_
 refine AtT.jd ?_
 intro b3
 refine AtT.jd ?_
 intro b5
 refine AtT.ze ?_
 refine AtT.done ?_
 refine At.nrm ?_
 refine At.zh (.q 0 (.n false 1 .done)) ?_
 first | refine AtT.zD zK ?_ | refine AtT.zI zK ?_ | refine AtT.zC zK ?_
 refine AtT.zG rfl rfl ok16 (great_f b _ _ hv) ?_
 rintro _ rfl
 refine AtT.done ?_
 refine At.nrm ?_
 by_cases g1 : grB b = true
 ·refine At.qb rfl g1 ?_
  refine At.nrm ?_
  refine At.zh (.n false 0 (.q 1 .done)) ?_
  refine AtT.zG rfl rfl ok17 (works_f _ hg) ?_
  rintro _ rfl
  refine AtT.ze ?_
  refine AtT.done ?_
  refine At.nrm ?_
  exact At.qi rfl (.tmp rfl) rfl
 have g1' : grB b = false := by simpa using g1
 refine At.qf rfl g1' ?_
 refine At.nrm ?_
 refine At.zh (.q 0 (.q 1 (.n false 2 (.q 3 (.q 4 (.q 5 (.q 6 (.q 7 .done)))))))) ?_
 first | refine AtT.zD zK ?_ | refine AtT.zI zK ?_ | refine AtT.zC zK ?_
 refine AtT.zf ?_
 refine AtT.qa rfl rfl ok23 (pcounting_f b first _ _ hv) ?_
 rintro _ V21 hV21 ⟨u21, rfl, h21⟩
 refine AtT.zf ?_
 refine AtT.zt ?_
 refine AtT.zt ?_
 refine AtT.ze ?_
 refine AtT.ze ?_
 refine AtT.done ?_
 refine At.nrm ?_
 replace hg := hg.le hV21
 replace hv := hv.le hV21
 refine At.zh (.q 0 (.q 1 (.n false 2 (.q 3 (.q 4 (.q 5 (.q 6 (.q 7 .done)))))))) ?_
 first | refine AtT.zD zK ?_ | refine AtT.zI zK ?_ | refine AtT.zC zK ?_
 refine AtT.zf ?_
 refine AtT.qa rfl rfl ok24 (rcounting_f b first _ _ hv) ?_
 rintro _ V27 hV27 ⟨u27, rfl, h27⟩
 refine AtT.zf ?_
 refine AtT.zt ?_
 refine AtT.zt ?_
 refine AtT.ze ?_
 refine AtT.ze ?_
 refine AtT.done ?_
 refine At.nrm ?_
 replace hg := hg.le hV27
 replace hv := hv.le hV27
 replace h21 := h21.le hV27
 refine At.zh (.q 0 (.q 1 (.n false 2 (.q 3 (.q 4 (.q 5 (.n false 6 (.n true 7 (.q 8 .done))))))))) ?_
 first | refine AtT.zD zK ?_ | refine AtT.zI zK ?_ | refine AtT.zC zK ?_
 first | refine AtT.zD qD ?_ | refine AtT.zI qD ?_ | refine AtT.zC qD ?_
 refine AtT.qa rfl rfl ok25 (kr b e _ _ hv) ?_
 rintro _ V33 hV33 ⟨u33, rfl, h33⟩; obtain ⟨w33, a33, c33, rfl, ⟨q33, z33, y33, e33, rfl, i33, j33⟩, s33⟩ := id h33; clear e33 i33 j33 s33
 refine AtT.zf ?_
 refine AtT.zt ?_
 refine AtT.zt ?_
 refine AtT.zT z26 ?_
 intro b11
 refine AtT.zF zK ?_
 refine AtT.ze ?_
 refine AtT.done ?_
 refine At.nrm ?_
 replace hg := hg.le hV33
 replace hv := hv.le hV33
 replace h21 := h21.le hV33
 replace h27 := h27.le hV33
 refine At.zh (.q 0 (.q 1 (.n false 2 (.q 3 (.q 4 (.q 5 (.n false 6 (.n true 7 (.q 8 .done))))))))) ?_
 first | refine AtT.zD zK ?_ | refine AtT.zI zK ?_ | refine AtT.zC zK ?_
 first | refine AtT.zD qD ?_ | refine AtT.zI qD ?_ | refine AtT.zC qD ?_
 refine AtT.qa rfl rfl ok26 (radd_f b e _ _ hv) ?_
 rintro _ V39 hV39 ⟨u39, rfl, h39⟩; obtain ⟨w39, a39, c39, rfl, ⟨q39, z39, y39, e39, rfl, i39, j39⟩, s39⟩ := id h39; clear e39 i39 j39 s39
 refine AtT.zf ?_
 refine AtT.zt ?_
 refine AtT.zt ?_
 refine AtT.zT z26 ?_
 intro b13
 refine AtT.zF zK ?_
 refine AtT.ze ?_
 refine AtT.done ?_
 refine At.nrm ?_
 replace hg := hg.le hV39
 replace hv := hv.le hV39
 replace h21 := h21.le hV39
 replace h27 := h27.le hV39
 replace h33 := h33.le hV39
 refine At.draw (.q 0 (.q 2 (.n false 1 (.n false 3 (.q 4 (.q 5 (.q 6 (.q 7 (.n false 8 (.q 9 (.q 10 (.q 11 (.q 12 (.q 13 (.q 14 (.q 15 (.q 16 (.q 17 (.n false 18 (.q 19 (.q 20 (.q 21 (.q 22 (.q 23 (.q 24 (.q 25 (.n false 26 (.q 27 (.q 28 .done))))))))))))))))))))))))))))) ffm (by kernel_rfl) ?_
 first | refine AtT.zD zK ?_ | refine AtT.zI zK ?_ | refine AtT.zC zK ?_
 first | refine AtT.zD zK ?_ | refine AtT.zI zK ?_ | refine AtT.zC zK ?_
 refine AtT.zG rfl rfl ok27 (checkBook_f b _ _ hv) ?_
 rintro _ rfl
 refine AtT.zG rfl rfl ok28 (qU b _ _ hv) ?_
 rintro _ rfl
 refine AtT.qK ?_
 refine AtT.qm (d := 46) rfl (rfl) ?_
 refine AtT.zf ?_
 all_goals (first | refine AtT.kL 47 ?_ | refine AtT.zA (d := 47) rfl (fun hg47 => ?_) (fun hg47 => ?_) | refine AtT.zz (d := 47) rfl (fun hg47 => ?_) (fun hg47 => ?_))
 all_goals first|refine AtT.zi ?_|refine AtT.zg ?_|(refine AtT.zf ?_)
 all_goals first|refine AtT.zi ?_|refine AtT.zg ?_|(refine AtT.zf ?_)
 all_goals first|refine AtT.qg ?_|refine AtT.zW ?_|((refine AtT.zG rfl rfl ok29 (ints_f _ _ _ _ _ h21 h27) ?_) ; (rintro _ rfl))
 all_goals (refine AtT.qm (d := 50) rfl (rfl) ?_)
 all_goals (refine AtT.zB ?_)
 all_goals (refine AtT.zf ?_)
 all_goals (first | refine AtT.kL 52 ?_ | refine AtT.zA (d := 52) rfl (fun hg52 => ?_) (fun hg52 => ?_) | refine AtT.zz (d := 52) rfl (fun hg52 => ?_) (fun hg52 => ?_))
 all_goals first|refine AtT.zi ?_|refine AtT.zg ?_|(refine AtT.zf ?_)
 all_goals first|refine AtT.zi ?_|refine AtT.zg ?_|(refine AtT.zf ?_)
 all_goals first|refine AtT.zi ?_|refine AtT.zg ?_|(refine AtT.qK ?_)
 all_goals (refine AtT.qm (d := 55) rfl (rfl) ?_)
 all_goals (refine AtT.zB ?_)
 all_goals (refine AtT.zf ?_)
 all_goals (first | refine AtT.kL 57 ?_ | refine AtT.zA (d := 57) rfl (fun hg57 => ?_) (fun hg57 => ?_) | refine AtT.zz (d := 57) rfl (fun hg57 => ?_) (fun hg57 => ?_))
 all_goals first|refine AtT.zi ?_|refine AtT.zg ?_|(first | refine AtT.zD zK ?_ | refine AtT.zI zK ?_ | refine AtT.zC zK ?_)
 all_goals first|refine AtT.zi ?_|refine AtT.zg ?_|(first | refine AtT.zD zK ?_ | refine AtT.zI zK ?_ | refine AtT.zC zK ?_)
 all_goals first|refine AtT.qg ?_|refine AtT.zW ?_|((refine AtT.zG rfl rfl ok30 (same_f _ _ _ _ _ h33 h39) ?_) ; (rintro _ rfl))
 all_goals (refine AtT.qm (d := 60) rfl (rfl) ?_)
 all_goals (refine AtT.zB ?_)
 all_goals (refine AtT.zf ?_)
 all_goals (first | refine AtT.kL 62 ?_ | refine AtT.zA (d := 62) rfl (fun hg62 => ?_) (fun hg62 => ?_) | refine AtT.zz (d := 62) rfl (fun hg62 => ?_) (fun hg62 => ?_))
 all_goals first|refine AtT.zi ?_|refine AtT.zg ?_|(refine AtT.zf ?_)
 all_goals first|refine AtT.zi ?_|refine AtT.zg ?_|(refine AtT.zf ?_)
 all_goals first|refine AtT.zi ?_|refine AtT.zg ?_|(refine AtT.qK ?_)
 all_goals (refine AtT.qm (d := 65) rfl (rfl) ?_)
 all_goals (refine AtT.zB ?_)
 all_goals (refine AtT.zf ?_)
 all_goals (first | refine AtT.kL 67 ?_ | refine AtT.zA (d := 67) rfl (fun hg67 => ?_) (fun hg67 => ?_) | refine AtT.zz (d := 67) rfl (fun hg67 => ?_) (fun hg67 => ?_))
 all_goals first|refine AtT.qg ?_|refine AtT.zW ?_|((refine AtT.zG rfl rfl ok17 (works_f _ hg) ?_) ; (rintro _ rfl))
 all_goals (refine AtT.zB ?_)
 all_goals (refine AtT.ze ?_)
 all_goals refine AtT.done ?_
 all_goals (refine At.nrm ?_)
 all_goals (exact At.qi rfl (.tmp rfl) rfl)
end Go.Proofs.YtpoignmclfdgpaaGreatDoor
set_option linter.unusedVariables false
namespace Go.Proofs.YtpoignmclfdgpaaGreatDoor.c2
open Go.Lw Go.Gl Go.Bk Go.RowKit Go.ChangeShapes Go.WideShapes Go.ChangeAt
set_option maxRecDepth 100000 in
theorem lifted (os : Os) (started : os.Started) (H : Type) (enc : TypeId × Value → H) :
    ReturnsInHanded {} Tryz.checked os 4 .any (fun w args => (Rows.bookBooksSpec.pre enc Tryz.prog Tryz.f4 [] false w args ∧ laidMetH Tryz.prog seatLaid w) ∧ sizedMet enc Tryz.prog Tryz.f4 (OpenSpec.ofChange Rows.bookBooksSpec) false w args) (Rows.bookBooksSpec.post enc Tryz.prog Tryz.f4 false true false false) := by
  refine law_liftX (tb := 4) (laid := seatLaid) (fun ds hd => by match ds, hd with | [d0, d1, d2], _ => rfl) rfl (by kernel_rfl) Tryz.underlying4 laidOut (by kernel_rfl) own started (by kernel_rfl) Tryz.func4
    (ChangeSpec.witness_shaped (enc := enc) (C := Tryz.checked) (os := os) (X := fun w _ => laidMetH Tryz.prog seatLaid w) false (World.laidAll Tryz.prog os seatLaid) #[.agg #[.slice none 0 0, .slice none 0 0], .int .i64 0, .agg #[.int .i64 0, .int .i64 0, .int .i64 0, .int .i64 0]] 8 (World.laidAll_os _ _ _)
      (World.shaped_of_ZipB (by kernel_rfl) (by kernel_rfl)) (by kernel_rfl) (by kernel_rfl) (by kernel_rfl) (seat_laid os _)) ?_
  intro W base args ds ps hX hval hA
  have hg := gv_of hX
  rw [Tryz.params4] at hA hval
  obtain ⟨v0, vs0, d0, ds0, p0, q0, hargs, rfl, rfl, h0, r0⟩ := trodAll_cons hA
  obtain ⟨v1, vs1, d1, ds1, p1, q1, rfl, rfl, rfl, h1, r1⟩ := trodAll_cons r0
  obtain ⟨v2, vs2, d2, ds2, p2, q2, rfl, rfl, rfl, h2, r2⟩ := trodAll_cons r1
  obtain ⟨rfl, rfl, rfl⟩ := trodAll_nil r2
  obtain rfl : args = #[v0, v1, v2] := by cases args; simp_all
  obtain ⟨s0, k0⟩ := open_book (hval 0 26 v0 rfl rfl) h0
  obtain ⟨x1, rfl, _, _, w1⟩ := open_int Tryz.underlying3 (hval 1 3 v1 rfl rfl) h1
  obtain ⟨x2, rfl⟩ := open_entry (hval 2 36 v2 rfl rfl) h2
  exact ⟨[v0, .int .i64 x1, env x2], rfl, bookBooks_f s0 x1 x2 _ hg _ k0⟩

theorem over : Rows.bookBooksRow.holds Tryz.pinned (OpenSpec.ofChange Rows.bookBooksSpec) :=
  OpenClaim.holds_of_wide 4 Tryz.f4 rfl rfl rfl rfl rfl rfl rfl ⟨rfl, rfl, rfl, rfl, rfl⟩ rfl rfl rfl rfl rfl (by kernel_rfl) Tryz.func4 (by kernel_rfl)
    (of_decide_eq_true (by kernel_rfl)) (by unfold Func.isWrapper; first | (rw [if_pos (by decide +kernel)]; kernel_rfl) | (rw [if_neg (by decide +kernel)]; exact ⟨rfl, rfl⟩))
    (fun os started H enc _ => lifted os started H enc)

theorem proved : Rows.BookBooksCardSaid :=
  Claim7.holds_tied_plain_at .later [] [.data, .data, .data, .data, .sentinel, .sentinel, .pinned] true (true, "8eb6369ca22dea7aa1ecf342da9ca655bef5d246fa1e6fc7f1130bea294d6579") true over (fun _ h => by cases h) (by kernel_rfl) (fun _ h => by cases h) bookBooks_row_tie rfl ⟨rfl, rfl⟩ (by kernel_rfl) rfl
    (fun f fn hf hfn => by
      obtain rfl : f = 4 := Option.some.inj ((show Tryz.prog.funcNamed "crossband/crossbandlaw12.BookBooks" = some 4 by kernel_rfl).symm.trans hf) |>.symm
      obtain rfl : fn = Tryz.f4 := (Option.some.inj (Tryz.func4.symm.trans hfn)).symm
      exact ⟨by kernel_rfl, fun j t ht => by
        rw [Tryz.params4] at ht
        have hm : t ∈ [26, 3, 36] := by simpa using Array.mem_of_getElem? ht
        have hall : ([26, 3, 36].all fun u => !Tryz.prog.wantsStandIn u) = true := by kernel_rfl
        exact (show Tryz.prog.wantsStandIn t = false by simpa using List.all_eq_true.1 hall t hm)⟩)
    (by kernel_rfl)
#print axioms proved
end Go.Proofs.YtpoignmclfdgpaaGreatDoor.c2
