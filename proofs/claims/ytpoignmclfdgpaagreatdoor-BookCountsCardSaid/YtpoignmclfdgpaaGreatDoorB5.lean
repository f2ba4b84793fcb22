/- Texts that the last one of this claim imports. -/
import Derived.Lib.AppendZerosOnto
import Derived.Test.YtpoignmclfdgpaaGreatDoorB4
set_option linter.unusedVariables false
set_option linter.unusedSimpArgs false
set_option linter.unusedSectionVars false
set_option linter.unusedVariables false
namespace Go.Proofs.YtpoignmclfdgpaaGreatDoor
open Go.Lw Go.Gl Go.Bk Go.RowKit
theorem read_bad {cx : Cx} {O : List Own} {V : View} (b : Nat) (ar : Option Addr) (cr : Nat) (qs : List RcQ) (ae : Option Addr) (ce : Nat) (es : List En) (s : List UInt8) (hs : s.length ≤ 4000) (hq1 : qs.length ≤ 5000) (he1 : es.length ≤ 5000) (hg : GvV V) (hq : RsQ V qs) (h : rdL ⟨qs.map (·.1), es⟩ s = none) :
  FncM Tryz.prog cx 80 [.pointer (some ⟨b, 0, none⟩), sT s] (BkO b ar cr qs ae ce es O) V fun r O' V' => Le V V' ∧ r = .bool false ∧ O' = O :=
 fncM_mono (read_f b ar cr qs ae ce es s hs hq1 he1 hg hq) fun r O' V' ⟨h1, h2⟩ => by
  rcases h2 with ⟨_, a, c⟩ | ⟨ar', cr', qs', ae', ce', es', e, _⟩
  ·exact ⟨h1, a, c⟩
  ·rw [h] at e; cases e
theorem read_ok {cx : Cx} {O : List Own} {V : View} (b : Nat) (ar : Option Addr) (cr : Nat) (qs : List RcQ) (ae : Option Addr) (ce : Nat) (es : List En) (s : List UInt8) (hs : s.length ≤ 4000) (hq1 : qs.length ≤ 5000) (he1 : es.length ≤ 5000) (hg : GvV V) (hq : RsQ V qs) {b' : Bo} (h : rdL ⟨qs.map (·.1), es⟩ s = some b') :
  FncM Tryz.prog cx 80 [.pointer (some ⟨b, 0, none⟩), sT s] (BkO b ar cr qs ae ce es O) V fun r O' V' => Le V V' ∧ r = .bool true ∧ ∃ (ar' : Option Addr) (cr' : Nat) (qs' : List RcQ) (ae' : Option Addr) (ce' : Nat) (es' : List En), b' = ⟨qs'.map (·.1), es'⟩ ∧ O' = BkO b ar' cr' qs' ae' ce' es' O ∧ RsQ V' qs' :=
 fncM_mono (read_f b ar cr qs ae ce es s hs hq1 he1 hg hq) fun r O' V' ⟨h1, h2⟩ => by
  rcases h2 with ⟨e, _⟩ | ⟨ar', cr', qs', ae', ce', es', e, hr, ho, hq'⟩
  ·rw [h] at e; cases e
  ·rw [h] at e; exact ⟨h1, hr, ar', cr', qs', ae', ce', es', Option.some.inj e, ho, hq'⟩
theorem rdAll_app : ∀ (u v : List (List UInt8)) (b : Bo), jv b (u ++ v) = match jv b u with
  | none => none
  | some b' => jv b' v
 | [], v, b => rfl
 | x :: u, v, b => by
  simp only [List.cons_append, jv]
  cases rdL b x with
  | none => rfl
  | some b' => exact rdAll_app u v b'
theorem rdL_grow {b b' : Bo} {s : List UInt8} (h : rdL b s = some b') : b'.rs.length ≤ b.rs.length + 1 ∧ b'.es.length ≤ b.es.length + 1 := by
 unfold Bk.rdL at h
 split at h
 ·cases h
 ·unfold rdW at h
  split at h
  ·split at h
   ·cases h
   ·cases h; simp
  ·split at h
   ·cases h
   ·split at h
    ·cases h
    ·cases h; simp
theorem good_len {s : List UInt8} (h : ¬ badP s) : 15 ≤ s.length ∧ (qA s).length ≠ 0 ∧ resP s = [] ∧ ((qA s).getLastD []).length = 14 ∧ ckP.isPrefixOf ((qA s).getLastD [] ++ [10]) = true := by
 unfold badP at h
 have hne : qA s ≠ [] := fun h' => h (.inl h')
 have hz : resP s = [] := Classical.not_not.1 fun h' => h (.inr (.inl h'))
 have hl14 : ((qA s).getLastD []).length = 14 := Classical.not_not.1 fun h' => h (.inr (.inr (.inl h')))
 have hpre : ckP.isPrefixOf ((qA s).getLastD [] ++ [10]) = true := by
  cases h' : ckP.isPrefixOf ((qA s).getLastD [] ++ [10]) with
  | true => rfl
  | false => exact absurd (.inr (.inr (.inr h'))) h
 refine ⟨?_, fun h' => hne (List.length_eq_zero_iff.1 h'), hz, hl14, hpre⟩
 have hD : qA s = (qA s).dropLast ++ [(qA s).getLastD []] := by
  obtain ⟨x, xs, hx⟩ := List.exists_cons_of_ne_nil hne
  rw [hx, List.getLastD_cons, ← List.getLast_eq_getLastD (by simp : x :: xs ≠ []), List.dropLast_concat_getLast]
 have hs : nlT (qA s) = s := nl_cut (s := s) hz
 have := congrArg List.length hs
 rw [hD, nlT_snoc, List.length_append, List.length_append, hl14] at this
 simp only [List.length_cons, List.length_nil] at this
 omega
theorem caf_eq (s : List UInt8) : jo 10 s = (qA s).map (· ++ [10]) ++ [resP s] := cutAf_eq 10 s
theorem caf_last (s : List UInt8) : (jo 10 s)[(qA s).length]? = some (resP s) := by rw [caf_eq, List.getElem?_append_right (by simp)]; simp
theorem caf_at {s : List UInt8} {k : Nat} (h : k < (qA s).length) : (jo 10 s)[k]? = some ((qA s)[k] ++ [10]) := by
 rw [caf_eq, List.getElem?_append_left (by simpa using h), List.getElem?_map, List.getElem?_eq_getElem h]; rfl
theorem lin_last {s : List UInt8} (h : (qA s).length ≠ 0) : (qA s)[(qA s).length - 1]'(by omega) = (qA s).getLastD [] := by
 obtain ⟨x, xs, hx⟩ := List.exists_cons_of_ne_nil (fun h' => h (by rw [h']; rfl) : qA s ≠ [])
 simp only [hx, List.getLastD_cons, ← List.getLast_eq_getLastD (by simp : x :: xs ≠ []), List.getLast_eq_getElem]
theorem caf_len (s : List UInt8) : (jo 10 s).length = (qA s).length + 1 := by rw [caf_eq]; simp
structure Lg where
 k : Nat
 qs : List RcQ
 es : List En
 ar : Option Addr
 cr : Nat
 ae : Option Addr
 ce : Nat
theorem rdAll_none {D : List (List UInt8)} {k : Nat} {x : List UInt8} {b b' : Bo} (hx : D[k]? = some x) (h1 : jv b (D.take k) = some b') (h2 : rdL b' x = none) : jv b D = none := by
 have hk : k < D.length := (List.getElem?_eq_some_iff.1 hx).1
 have hs : D = D.take k ++ x :: D.drop (k + 1) := by
  rw [List.getElem?_eq_getElem hk] at hx
  have : D[k] = x := by simpa using hx
  rw [← this, ← List.drop_eq_getElem_cons hk, List.take_append_drop]
 rw [hs, rdAll_app, h1]
 simp only [jv, h2]
theorem rdAll_step {D : List (List UInt8)} {k : Nat} {x : List UInt8} {b b' b2 : Bo} (hx : D[k]? = some x) (h1 : jv b (D.take k) = some b') (h2 : rdL b' x = some b2) : jv b (D.take (k + 1)) = some b2 := by
 rw [List.take_add_one, hx]
 show jv b (D.take k ++ [x]) = _
 rw [rdAll_app, h1]
 simp only [jv, h2]
theorem load_f (s : List UInt8) (hsl : s.length ≤ 1000000) (V : View) (hg : GvV V) : Fnc Tryz.prog 39 [sT s] V fun r V' => ∃ u, r = .tuple #[u, iv (loadR s).2] ∧ BoV V' u (loadR s).1 := by
 rw [← loadP_eq]
 refine qh Tryz.func39 rfl Tryz.ntmps39 (Nat.le_of_ble_eq_true rfl) ?_
 intro w0 hw0
 refine At.nrm ?_
 refine At.zh (.n false 0 (.q 1 .done)) ?_
 refine AtT.zT z26 ?_
 intro b2
 refine AtT.ze ?_
 refine AtT.done ?_
 refine At.nrm ?_
 by_cases h4 : 4000 < s.length
 ·have hL : loadP s = (bo0, 7) := by unfold loadP; rw [if_pos h4]
  rw [hL]
  refine At.zh (.q 0 (.q 1 (.q 2 .done))) ?_
  refine AtT.zf ?_
  refine AtT.lenT rfl trivial Tryz.underlying9 rfl (by decide) ?_
  refine AtT.qJ ?_
  refine AtT.qm (d := 13) rfl ((by omega)) ?_
  refine AtT.done ?_
  refine At.nrm ?_
  all_goals refine At.qb rfl rfl ?_
  refine At.nrm ?_
  refine At.zh (.q 0 (.n true 1 (.q 2 .done))) ?_
  refine AtT.qG (bd26) ?_
  refine AtT.zF zK ?_
  refine AtT.ze ?_
  refine AtT.done ?_
  refine At.nrm ?_
  exact At.qN rfl (.agg rfl zK zP.zH rfl) (.tmp rfl) ⟨_, rfl, BoV.nil _⟩
 refine At.zh (.q 0 (.q 1 (.q 2 .done))) ?_
 refine AtT.zf ?_
 refine AtT.lenT rfl trivial Tryz.underlying9 rfl (by decide) ?_
 refine AtT.qJ ?_
 refine AtT.zU (d := 13) rfl ((by omega)) ?_
 refine AtT.done ?_
 refine At.nrm ?_
 all_goals refine At.qf rfl rfl ?_
 refine At.nrm ?_
 refine At.zh (.q 0 (.n false 1 (.q 2 .done))) ?_
 refine AtT.zf ?_
 refine AtT.qa rfl rfl ok77 (splitAf_f s 10 (by omega) V) ?_
 rintro v16 V16 hV16 hs16; obtain ⟨a16, c16, rfl, _, _, _, _⟩ := id hs16
 refine AtT.ze ?_
 refine AtT.done ?_
 refine At.nrm ?_
 have hcl := caf_len s
 have hlinl := (cutAt_len 10 s).1
 rw [lin_res, List.length_append] at hlinl
 simp only [List.length_cons, List.length_nil] at hlinl
 refine At.nrm ?_
 refine At.zh (.q 0 (.q 1 (.q 2 (.q 3 .done)))) ?_
 refine AtT.zf ?_
 first | refine AtT.zR Tryz.underlying121 ?_ | refine AtT.zN Tryz.underlying121 ?_
 first | refine AtT.je ?_ | refine AtT.jf ?_
 rw [hcl, show (((qA s).length + 1 : Nat) : Int) - 2 = ((qA s).length : Int) - 1 by omega]
 refine AtT.ze ?_
 refine AtT.done ?_
 refine At.nrm ?_
 rw [hcl] at hs16
 by_cases hbad : badP s
 ·have hL : loadP s = (bo0, 8) := by unfold loadP; rw [if_neg h4, if_pos hbad]
  rw [hL]
  by_cases c1 : (qA s).length = 0
  ·refine At.zh (.q 0 (.q 1 (.q 2 (.q 3 (.q 4 (.q 5 (.q 6 (.q 7 (.q 8 (.q 9 (.q 10 (.q 11 (.q 12 (.q 13 (.q 14 (.q 15 (.q 16 (.q 17 (.q 18 (.q 19 (.q 20 (.q 21 (.q 22 (.n false 23 (.q 24 (.q 25 .done)))))))))))))))))))))))))) ?_
   refine AtT.zf ?_
   refine AtT.qp ?_
   refine AtT.qm (d := 21) rfl ((by omega)) ?_
   refine AtT.zf ?_
   all_goals (first | refine AtT.kL 22 ?_ | refine AtT.zA (d := 22) rfl (fun hg22 => ?_) (fun hg22 => ?_) | refine AtT.zz (d := 22) rfl (fun hg22 => ?_) (fun hg22 => ?_))
   all_goals first|refine AtT.zi ?_|refine AtT.zg ?_|(refine AtT.zf ?_)
   all_goals first|refine AtT.zi ?_|refine AtT.zg ?_|(refine AtT.zf ?_)
   all_goals first|refine AtT.zi ?_|refine AtT.zg ?_|(first | refine AtT.qI ?_ | refine AtT.ql ?_)
   all_goals first|refine AtT.zi ?_|refine AtT.zg ?_|(refine AtT.qB Tryz.underlying121 tk9 ?_) ; (intro p26 e26 he26 hc26)
   all_goals first|refine AtT.zi ?_|refine AtT.zg ?_|(first | refine AtT.zm tk9 ?_ | refine AtT.zo tk9 ?_)
   all_goals first|refine AtT.zi ?_|refine AtT.zg ?_|(refine AtT.neT rfl ⟨_, _, rfl, rfl, rfl⟩ rfl rfl (by decide) ?_)
   all_goals (refine AtT.zB ?_)
   all_goals (refine AtT.zf ?_)
   all_goals (first | refine AtT.kL 30 ?_ | refine AtT.zA (d := 30) rfl (fun hg30 => ?_) (fun hg30 => ?_) | refine AtT.zz (d := 30) rfl (fun hg30 => ?_) (fun hg30 => ?_))
   all_goals first|refine AtT.zi ?_|refine AtT.zg ?_|(refine AtT.zf ?_)
   all_goals first|refine AtT.zi ?_|refine AtT.zg ?_|(refine AtT.zf ?_)
   all_goals first|refine AtT.zi ?_|refine AtT.zg ?_|(refine AtT.qB Tryz.underlying121 tk9 ?_) ; (intro p33 e33 he33 hc33)
   all_goals first|refine AtT.zi ?_|refine AtT.zg ?_|(first | refine AtT.zm tk9 ?_ | refine AtT.zo tk9 ?_)
   all_goals first|refine AtT.zi ?_|refine AtT.zg ?_|(refine AtT.lenT rfl ⟨_, _, rfl, rfl, rfl⟩ Tryz.underlying9 rfl (by decide) ?_)
   all_goals first|refine AtT.zi ?_|refine AtT.zg ?_|(refine AtT.qH ?_)
   all_goals (refine AtT.zB ?_)
   all_goals (refine AtT.zf ?_)
   all_goals (first | refine AtT.kL 38 ?_ | refine AtT.zA (d := 38) rfl (fun hg38 => ?_) (fun hg38 => ?_) | refine AtT.zz (d := 38) rfl (fun hg38 => ?_) (fun hg38 => ?_))
   all_goals first|refine AtT.zi ?_|refine AtT.zg ?_|(refine AtT.zf ?_)
   all_goals first|refine AtT.zi ?_|refine AtT.zg ?_|(refine AtT.zf ?_)
   all_goals first|refine AtT.zi ?_|refine AtT.zg ?_|(refine AtT.qB Tryz.underlying121 tk9 ?_) ; (intro p41 e41 he41 hc41)
   all_goals first|refine AtT.zi ?_|refine AtT.zg ?_|(first | refine AtT.zm tk9 ?_ | refine AtT.zo tk9 ?_)
   all_goals first|refine AtT.qg ?_|refine AtT.zW ?_|((fail))
   all_goals first|refine AtT.zi ?_|refine AtT.zg ?_|(refine AtT.qF ?_)
   all_goals (refine AtT.zB ?_)
   all_goals refine AtT.done ?_
   all_goals (refine At.nrm ?_)
   all_goals refine At.qb rfl rfl ?_
   refine At.nrm ?_
   refine At.zh (.q 0 (.n true 1 (.q 2 .done))) ?_
   refine AtT.qG (bd26) ?_
   refine AtT.zF zK ?_
   refine AtT.ze ?_
   refine AtT.done ?_
   refine At.nrm ?_
   exact At.qN rfl (.agg rfl zK zP.zH rfl) (.tmp rfl) ⟨_, rfl, BoV.nil _⟩
  by_cases c2 : resP s ≠ []
  ·refine At.zh (.q 0 (.q 1 (.q 2 (.q 3 (.q 4 (.q 5 (.q 6 (.q 7 (.q 8 (.q 9 (.q 10 (.q 11 (.q 12 (.q 13 (.q 14 (.q 15 (.q 16 (.q 17 (.q 18 (.q 19 (.q 20 (.q 21 (.q 22 (.n false 23 (.q 24 (.q 25 .done)))))))))))))))))))))))))) ?_
   refine AtT.zf ?_
   refine AtT.qp ?_
   refine AtT.zU (d := 21) rfl ((by omega)) ?_
   refine AtT.zf ?_
   all_goals (first | refine AtT.kL 22 ?_ | refine AtT.zA (d := 22) rfl (fun hg22 => ?_) (fun hg22 => ?_) | refine AtT.zz (d := 22) rfl (fun hg22 => ?_) (fun hg22 => ?_))
   all_goals first|refine AtT.zi ?_|refine AtT.zg ?_|(refine AtT.zf ?_)
   all_goals first|refine AtT.zi ?_|refine AtT.zg ?_|(refine AtT.zf ?_)
   all_goals first|refine AtT.zi ?_|refine AtT.zg ?_|(first | refine AtT.qI ?_ | refine AtT.ql ?_)
   all_goals first|refine AtT.zi ?_|refine AtT.zg ?_|(refine AtT.qB Tryz.underlying121 tk9 ?_) ; (intro p26 e26 he26 hc26)
   all_goals first|refine AtT.zi ?_|refine AtT.zg ?_|(first | refine AtT.zm tk9 ?_ | refine AtT.zo tk9 ?_)
   all_goals (obtain rfl : resP s = e26 := by have : (jo 10 s)[(qA s).length]? = some e26 := (by rw [show ((qA s).length : Int) - 1 + 1 = ((qA s).length : Int) by omega, Int.toNat_natCast] at he26; exact he26); rw [caf_last] at this; exact Option.some.inj this)
   all_goals first|refine AtT.zi ?_|refine AtT.zg ?_|(refine AtT.neT rfl ⟨_, _, rfl, rfl, rfl⟩ rfl rfl (by decide) ?_)
   all_goals (refine AtT.qm (d := 28) rfl (c2) ?_)
   all_goals (refine AtT.zB ?_)
   all_goals (refine AtT.zf ?_)
   all_goals (first | refine AtT.kL 30 ?_ | refine AtT.zA (d := 30) rfl (fun hg30 => ?_) (fun hg30 => ?_) | refine AtT.zz (d := 30) rfl (fun hg30 => ?_) (fun hg30 => ?_))
   all_goals first|refine AtT.zi ?_|refine AtT.zg ?_|(refine AtT.zf ?_)
   all_goals first|refine AtT.zi ?_|refine AtT.zg ?_|(refine AtT.zf ?_)
   all_goals first|refine AtT.zi ?_|refine AtT.zg ?_|(refine AtT.qB Tryz.underlying121 tk9 ?_) ; (intro p33 e33 he33 hc33)
   all_goals first|refine AtT.zi ?_|refine AtT.zg ?_|(first | refine AtT.zm tk9 ?_ | refine AtT.zo tk9 ?_)
   all_goals first|refine AtT.zi ?_|refine AtT.zg ?_|(refine AtT.lenT rfl ⟨_, _, rfl, rfl, rfl⟩ Tryz.underlying9 rfl (by decide) ?_)
   all_goals first|refine AtT.zi ?_|refine AtT.zg ?_|(refine AtT.qH ?_)
   all_goals (refine AtT.zB ?_)
   all_goals (refine AtT.zf ?_)
   all_goals (first | refine AtT.kL 38 ?_ | refine AtT.zA (d := 38) rfl (fun hg38 => ?_) (fun hg38 => ?_) | refine AtT.zz (d := 38) rfl (fun hg38 => ?_) (fun hg38 => ?_))
   all_goals first|refine AtT.zi ?_|refine AtT.zg ?_|(refine AtT.zf ?_)
   all_goals first|refine AtT.zi ?_|refine AtT.zg ?_|(refine AtT.zf ?_)
   all_goals first|refine AtT.zi ?_|refine AtT.zg ?_|(refine AtT.qB Tryz.underlying121 tk9 ?_) ; (intro p41 e41 he41 hc41)
   all_goals first|refine AtT.zi ?_|refine AtT.zg ?_|(first | refine AtT.zm tk9 ?_ | refine AtT.zo tk9 ?_)
   all_goals first|refine AtT.qg ?_|refine AtT.zW ?_|((fail))
   all_goals first|refine AtT.zi ?_|refine AtT.zg ?_|(refine AtT.qF ?_)
   all_goals (refine AtT.zB ?_)
   all_goals refine AtT.done ?_
   all_goals (refine At.nrm ?_)
   all_goals refine At.qb rfl rfl ?_
   refine At.nrm ?_
   refine At.zh (.q 0 (.n true 1 (.q 2 .done))) ?_
   refine AtT.qG (bd26) ?_
   refine AtT.zF zK ?_
   refine AtT.ze ?_
   refine AtT.done ?_
   refine At.nrm ?_
   exact At.qN rfl (.agg rfl zK zP.zH rfl) (.tmp rfl) ⟨_, rfl, BoV.nil _⟩
  by_cases c3 : ((qA s).getLastD []).length ≠ 14
  ·refine At.zh (.q 0 (.q 1 (.q 2 (.q 3 (.q 4 (.q 5 (.q 6 (.q 7 (.q 8 (.q 9 (.q 10 (.q 11 (.q 12 (.q 13 (.q 14 (.q 15 (.q 16 (.q 17 (.q 18 (.q 19 (.q 20 (.q 21 (.q 22 (.n false 23 (.q 24 (.q 25 .done)))))))))))))))))))))))))) ?_
   refine AtT.zf ?_
   refine AtT.qp ?_
   refine AtT.zU (d := 21) rfl ((by omega)) ?_
   refine AtT.zf ?_
   all_goals (first | refine AtT.kL 22 ?_ | refine AtT.zA (d := 22) rfl (fun hg22 => ?_) (fun hg22 => ?_) | refine AtT.zz (d := 22) rfl (fun hg22 => ?_) (fun hg22 => ?_))
   all_goals first|refine AtT.zi ?_|refine AtT.zg ?_|(refine AtT.zf ?_)
   all_goals first|refine AtT.zi ?_|refine AtT.zg ?_|(refine AtT.zf ?_)
   all_goals first|refine AtT.zi ?_|refine AtT.zg ?_|(first | refine AtT.qI ?_ | refine AtT.ql ?_)
   all_goals first|refine AtT.zi ?_|refine AtT.zg ?_|(refine AtT.qB Tryz.underlying121 tk9 ?_) ; (intro p26 e26 he26 hc26)
   all_goals first|refine AtT.zi ?_|refine AtT.zg ?_|(first | refine AtT.zm tk9 ?_ | refine AtT.zo tk9 ?_)
   all_goals (obtain rfl : resP s = e26 := by have : (jo 10 s)[(qA s).length]? = some e26 := (by rw [show ((qA s).length : Int) - 1 + 1 = ((qA s).length : Int) by omega, Int.toNat_natCast] at he26; exact he26); rw [caf_last] at this; exact Option.some.inj this)
   all_goals first|refine AtT.zi ?_|refine AtT.zg ?_|(refine AtT.neT rfl ⟨_, _, rfl, rfl, rfl⟩ rfl rfl (by decide) ?_)
   all_goals (refine AtT.zU (d := 28) rfl ((fun h => c2 h)) ?_)
   all_goals (refine AtT.zB ?_)
   all_goals (refine AtT.zf ?_)
   all_goals (first | refine AtT.kL 30 ?_ | refine AtT.zA (d := 30) rfl (fun hg30 => ?_) (fun hg30 => ?_) | refine AtT.zz (d := 30) rfl (fun hg30 => ?_) (fun hg30 => ?_))
   all_goals first|refine AtT.zi ?_|refine AtT.zg ?_|(refine AtT.zf ?_)
   all_goals first|refine AtT.zi ?_|refine AtT.zg ?_|(refine AtT.zf ?_)
   all_goals first|refine AtT.zi ?_|refine AtT.zg ?_|(refine AtT.qB Tryz.underlying121 tk9 ?_) ; (intro p33 e33 he33 hc33)
   all_goals first|refine AtT.zi ?_|refine AtT.zg ?_|(first | refine AtT.zm tk9 ?_ | refine AtT.zo tk9 ?_)
   all_goals (obtain rfl : (qA s).getLastD [] ++ [10] = e33 := by have : (jo 10 s)[(qA s).length - 1]? = some e33 := (by rw [show (((qA s).length : Int) - 1).toNat = (qA s).length - 1 by omega] at he33; exact he33); rw [caf_at (by omega), lin_last (by omega)] at this; exact Option.some.inj this)
   all_goals first|refine AtT.zi ?_|refine AtT.zg ?_|(refine AtT.lenT rfl ⟨_, _, rfl, rfl, rfl⟩ Tryz.underlying9 rfl (by decide) ?_)
   all_goals first|refine AtT.zi ?_|refine AtT.zg ?_|(refine AtT.qH ?_)
   all_goals (refine AtT.qm (d := 36) rfl ((by rw [List.length_append]; simp only [List.length_cons, List.length_nil]; omega)) ?_)
   all_goals (refine AtT.zB ?_)
   all_goals (refine AtT.zf ?_)
   all_goals (first | refine AtT.kL 38 ?_ | refine AtT.zA (d := 38) rfl (fun hg38 => ?_) (fun hg38 => ?_) | refine AtT.zz (d := 38) rfl (fun hg38 => ?_) (fun hg38 => ?_))
   all_goals first|refine AtT.zi ?_|refine AtT.zg ?_|(refine AtT.zf ?_)
   all_goals first|refine AtT.zi ?_|refine AtT.zg ?_|(refine AtT.zf ?_)
   all_goals first|refine AtT.zi ?_|refine AtT.zg ?_|(refine AtT.qB Tryz.underlying121 tk9 ?_) ; (intro p41 e41 he41 hc41)
   all_goals first|refine AtT.zi ?_|refine AtT.zg ?_|(first | refine AtT.zm tk9 ?_ | refine AtT.zo tk9 ?_)
   all_goals first|refine AtT.qg ?_|refine AtT.zW ?_|((fail))
   all_goals first|refine AtT.zi ?_|refine AtT.zg ?_|(refine AtT.qF ?_)
   all_goals (refine AtT.zB ?_)
   all_goals refine AtT.done ?_
   all_goals (refine At.nrm ?_)
   all_goals refine At.qb rfl rfl ?_
   refine At.nrm ?_
   refine At.zh (.q 0 (.n true 1 (.q 2 .done))) ?_
   refine AtT.qG (bd26) ?_
   refine AtT.zF zK ?_
   refine AtT.ze ?_
   refine AtT.done ?_
   refine At.nrm ?_
   exact At.qN rfl (.agg rfl zK zP.zH rfl) (.tmp rfl) ⟨_, rfl, BoV.nil _⟩
  have c4 : ckP.isPrefixOf ((qA s).getLastD [] ++ [10]) = false := by
   unfold badP at hbad
   rcases hbad with h' | h' | h' | h'
   ·exact absurd (by rw [h']; rfl) c1
   ·exact absurd h' c2
   ·exact absurd h' c3
   ·exact h'
  refine At.zh (.q 0 (.q 1 (.q 2 (.q 3 (.q 4 (.q 5 (.q 6 (.q 7 (.q 8 (.q 9 (.q 10 (.q 11 (.q 12 (.q 13 (.q 14 (.q 15 (.q 16 (.q 17 (.q 18 (.q 19 (.q 20 (.q 21 (.q 22 (.n false 23 (.q 24 (.q 25 .done)))))))))))))))))))))))))) ?_
  refine AtT.zf ?_
  refine AtT.qp ?_
  refine AtT.zU (d := 21) rfl ((by omega)) ?_
  refine AtT.zf ?_
  all_goals (first | refine AtT.kL 22 ?_ | refine AtT.zA (d := 22) rfl (fun hg22 => ?_) (fun hg22 => ?_) | refine AtT.zz (d := 22) rfl (fun hg22 => ?_) (fun hg22 => ?_))
  all_goals first|refine AtT.zi ?_|refine AtT.zg ?_|(refine AtT.zf ?_)
  all_goals first|refine AtT.zi ?_|refine AtT.zg ?_|(refine AtT.zf ?_)
  all_goals first|refine AtT.zi ?_|refine AtT.zg ?_|(first | refine AtT.qI ?_ | refine AtT.ql ?_)
  all_goals first|refine AtT.zi ?_|refine AtT.zg ?_|(refine AtT.qB Tryz.underlying121 tk9 ?_) ; (intro p26 e26 he26 hc26)
  all_goals first|refine AtT.zi ?_|refine AtT.zg ?_|(first | refine AtT.zm tk9 ?_ | refine AtT.zo tk9 ?_)
  all_goals (obtain rfl : resP s = e26 := by have : (jo 10 s)[(qA s).length]? = some e26 := (by rw [show ((qA s).length : Int) - 1 + 1 = ((qA s).length : Int) by omega, Int.toNat_natCast] at he26; exact he26); rw [caf_last] at this; exact Option.some.inj this)
  all_goals first|refine AtT.zi ?_|refine AtT.zg ?_|(refine AtT.neT rfl ⟨_, _, rfl, rfl, rfl⟩ rfl rfl (by decide) ?_)
  all_goals (refine AtT.zU (d := 28) rfl ((fun h => c2 h)) ?_)
  all_goals (refine AtT.zB ?_)
  all_goals (refine AtT.zf ?_)
  all_goals (first | refine AtT.kL 30 ?_ | refine AtT.zA (d := 30) rfl (fun hg30 => ?_) (fun hg30 => ?_) | refine AtT.zz (d := 30) rfl (fun hg30 => ?_) (fun hg30 => ?_))
  all_goals first|refine AtT.zi ?_|refine AtT.zg ?_|(refine AtT.zf ?_)
  all_goals first|refine AtT.zi ?_|refine AtT.zg ?_|(refine AtT.zf ?_)
  all_goals first|refine AtT.zi ?_|refine AtT.zg ?_|(refine AtT.qB Tryz.underlying121 tk9 ?_) ; (intro p33 e33 he33 hc33)
  all_goals first|refine AtT.zi ?_|refine AtT.zg ?_|(first | refine AtT.zm tk9 ?_ | refine AtT.zo tk9 ?_)
  all_goals (obtain rfl : (qA s).getLastD [] ++ [10] = e33 := by have : (jo 10 s)[(qA s).length - 1]? = some e33 := (by rw [show (((qA s).length : Int) - 1).toNat = (qA s).length - 1 by omega] at he33; exact he33); rw [caf_at (by omega), lin_last (by omega)] at this; exact Option.some.inj this)
  all_goals first|refine AtT.zi ?_|refine AtT.zg ?_|(refine AtT.lenT rfl ⟨_, _, rfl, rfl, rfl⟩ Tryz.underlying9 rfl (by decide) ?_)
  all_goals first|refine AtT.zi ?_|refine AtT.zg ?_|(refine AtT.qH ?_)
  all_goals (refine AtT.zU (d := 36) rfl ((by rw [List.length_append]; simp only [List.length_cons, List.length_nil]; omega)) ?_)
  all_goals (refine AtT.zB ?_)
  all_goals (refine AtT.zf ?_)
  all_goals (first | refine AtT.kL 38 ?_ | refine AtT.zA (d := 38) rfl (fun hg38 => ?_) (fun hg38 => ?_) | refine AtT.zz (d := 38) rfl (fun hg38 => ?_) (fun hg38 => ?_))
  all_goals first|refine AtT.zi ?_|refine AtT.zg ?_|(refine AtT.zf ?_)
  all_goals first|refine AtT.zi ?_|refine AtT.zg ?_|(refine AtT.zf ?_)
  all_goals first|refine AtT.zi ?_|refine AtT.zg ?_|(refine AtT.qB Tryz.underlying121 tk9 ?_) ; (intro p41 e41 he41 hc41)
  all_goals first|refine AtT.zi ?_|refine AtT.zg ?_|(first | refine AtT.zm tk9 ?_ | refine AtT.zo tk9 ?_)
  all_goals (obtain rfl : (qA s).getLastD [] ++ [10] = e41 := by have : (jo 10 s)[(qA s).length - 1]? = some e41 := (by rw [show (((qA s).length : Int) - 1).toNat = (qA s).length - 1 by omega] at he41; exact he41); rw [caf_at (by omega), lin_last (by omega)] at this; exact Option.some.inj this)
  all_goals first|refine AtT.qg ?_|refine AtT.zW ?_|((refine AtT.zG rfl rfl ok78 (hasPrefix_f ((qA s).getLastD [] ++ [10]) ckP _) ?_) ; (rintro _ rfl; rw [c4]))
  all_goals first|refine AtT.zi ?_|refine AtT.zg ?_|(refine AtT.qF ?_)
  all_goals (refine AtT.qM (d := 44) rfl ((show (!false) = true from rfl)) ?_)
  all_goals (refine AtT.zB ?_)
  all_goals refine AtT.done ?_
  all_goals (refine At.nrm ?_)
  all_goals refine At.qb rfl rfl ?_
  refine At.nrm ?_
  refine At.zh (.q 0 (.n true 1 (.q 2 .done))) ?_
  refine AtT.qG (bd26) ?_
  refine AtT.zF zK ?_
  refine AtT.ze ?_
  refine AtT.done ?_
  refine At.nrm ?_
  exact At.qN rfl (.agg rfl zK zP.zH rfl) (.tmp rfl) ⟨_, rfl, BoV.nil _⟩
 obtain ⟨h15, hD0, hz, hl14, hpre⟩ := good_len hbad
 have hu15 : ((qA s).getLastD [] ++ [10]).length = 15 := by rw [List.length_append, hl14]; rfl
 have hsum : (((qA s).getLastD [] ++ [10]).take (14 : Int).toNat).drop (6 : Int).toNat = sumP s := by
  unfold sumP
  show (((qA s).getLastD [] ++ [10]).take 14).drop 6 = _
  rw [← hl14, List.take_left, List.take_of_length_le]
  rw [List.length_drop]; omega
 have hsul : (sumP s).length = 8 := by unfold sumP; rw [List.length_take, List.length_drop]; omega
 refine At.zh (.q 0 (.q 1 (.q 2 (.q 3 (.q 4 (.q 5 (.q 6 (.q 7 (.q 8 (.q 9 (.q 10 (.q 11 (.q 12 (.q 13 (.q 14 (.q 15 (.q 16 (.q 17 (.q 18 (.q 19 (.q 20 (.q 21 (.q 22 (.n false 23 (.q 24 (.q 25 .done)))))))))))))))))))))))))) ?_
 refine AtT.zf ?_
 refine AtT.qp ?_
 refine AtT.zU (d := 21) rfl ((by omega)) ?_
 refine AtT.zf ?_
 all_goals (first | refine AtT.kL 22 ?_ | refine AtT.zA (d := 22) rfl (fun hg22 => ?_) (fun hg22 => ?_) | refine AtT.zz (d := 22) rfl (fun hg22 => ?_) (fun hg22 => ?_))
 all_goals first|refine AtT.zi ?_|refine AtT.zg ?_|(refine AtT.zf ?_)
 all_goals first|refine AtT.zi ?_|refine AtT.zg ?_|(refine AtT.zf ?_)
 all_goals first|refine AtT.zi ?_|refine AtT.zg ?_|(first | refine AtT.qI ?_ | refine AtT.ql ?_)
 all_goals first|refine AtT.zi ?_|refine AtT.zg ?_|(refine AtT.qB Tryz.underlying121 tk9 ?_) ; (intro p26 e26 he26 hc26)
 all_goals first|refine AtT.zi ?_|refine AtT.zg ?_|(first | refine AtT.zm tk9 ?_ | refine AtT.zo tk9 ?_)
 all_goals (obtain rfl : resP s = e26 := by have : (jo 10 s)[(qA s).length]? = some e26 := (by rw [show ((qA s).length : Int) - 1 + 1 = ((qA s).length : Int) by omega, Int.toNat_natCast] at he26; exact he26); rw [caf_last] at this; exact Option.some.inj this)
 all_goals first|refine AtT.zi ?_|refine AtT.zg ?_|(refine AtT.neT rfl ⟨_, _, rfl, rfl, rfl⟩ rfl rfl (by decide) ?_)
 all_goals (refine AtT.zU (d := 28) rfl ((fun h => h hz)) ?_)
 all_goals (refine AtT.zB ?_)
 all_goals (refine AtT.zf ?_)
 all_goals (first | refine AtT.kL 30 ?_ | refine AtT.zA (d := 30) rfl (fun hg30 => ?_) (fun hg30 => ?_) | refine AtT.zz (d := 30) rfl (fun hg30 => ?_) (fun hg30 => ?_))
 all_goals first|refine AtT.zi ?_|refine AtT.zg ?_|(refine AtT.zf ?_)
 all_goals first|refine AtT.zi ?_|refine AtT.zg ?_|(refine AtT.zf ?_)
 all_goals first|refine AtT.zi ?_|refine AtT.zg ?_|(refine AtT.qB Tryz.underlying121 tk9 ?_) ; (intro p33 e33 he33 hc33)
 all_goals first|refine AtT.zi ?_|refine AtT.zg ?_|(first | refine AtT.zm tk9 ?_ | refine AtT.zo tk9 ?_)
 all_goals (obtain rfl : (qA s).getLastD [] ++ [10] = e33 := by have : (jo 10 s)[(qA s).length - 1]? = some e33 := (by rw [show (((qA s).length : Int) - 1).toNat = (qA s).length - 1 by omega] at he33; exact he33); rw [caf_at (by omega), lin_last (by omega)] at this; exact Option.some.inj this)
 all_goals first|refine AtT.zi ?_|refine AtT.zg ?_|(refine AtT.lenT rfl ⟨_, _, rfl, rfl, rfl⟩ Tryz.underlying9 rfl (by decide) ?_)
 all_goals first|refine AtT.zi ?_|refine AtT.zg ?_|(refine AtT.qH ?_)
 all_goals (refine AtT.zU (d := 36) rfl ((by omega)) ?_)
 all_goals (refine AtT.zB ?_)
 all_goals (refine AtT.zf ?_)
 all_goals (first | refine AtT.kL 38 ?_ | refine AtT.zA (d := 38) rfl (fun hg38 => ?_) (fun hg38 => ?_) | refine AtT.zz (d := 38) rfl (fun hg38 => ?_) (fun hg38 => ?_))
 all_goals first|refine AtT.zi ?_|refine AtT.zg ?_|(refine AtT.zf ?_)
 all_goals first|refine AtT.zi ?_|refine AtT.zg ?_|(refine AtT.zf ?_)
 all_goals first|refine AtT.zi ?_|refine AtT.zg ?_|(refine AtT.qB Tryz.underlying121 tk9 ?_) ; (intro p41 e41 he41 hc41)
 all_goals first|refine AtT.zi ?_|refine AtT.zg ?_|(first | refine AtT.zm tk9 ?_ | refine AtT.zo tk9 ?_)
 all_goals (obtain rfl : (qA s).getLastD [] ++ [10] = e41 := by have : (jo 10 s)[(qA s).length - 1]? = some e41 := (by rw [show (((qA s).length : Int) - 1).toNat = (qA s).length - 1 by omega] at he41; exact he41); rw [caf_at (by omega), lin_last (by omega)] at this; exact Option.some.inj this)
 all_goals first|refine AtT.qg ?_|refine AtT.zW ?_|((refine AtT.zG rfl rfl ok78 (hasPrefix_f ((qA s).getLastD [] ++ [10]) ckP _) ?_) ; (rintro _ rfl; rw [hpre]))
 all_goals first|refine AtT.zi ?_|refine AtT.zg ?_|(refine AtT.qF ?_)
 all_goals (refine AtT.qM (d := 44) rfl ((show (!true) = false from rfl)) ?_)
 all_goals (refine AtT.zB ?_)
 all_goals refine AtT.done ?_
 all_goals (refine At.nrm ?_)
 all_goals refine At.qf rfl rfl ?_
 refine At.nrm ?_
 refine At.zh (.q 0 (.q 1 (.q 2 (.q 3 (.q 4 (.q 5 .done)))))) ?_
 refine AtT.zf ?_
 refine AtT.zf ?_
 refine AtT.qB Tryz.underlying121 tk9 ?_
 intro p49 e49 he49 hc49
 first | refine AtT.zm tk9 ?_ | refine AtT.zo tk9 ?_
 obtain rfl : (qA s).getLastD [] ++ [10] = e49 := by have : (jo 10 s)[(qA s).length - 1]? = some e49 := (by rw [show (((qA s).length : Int) - 1).toNat = (qA s).length - 1 by omega] at he49; exact he49); rw [caf_at (by omega), lin_last (by omega)] at this; exact Option.some.inj this
 refine AtT.subT rfl trivial Tryz.underlying9 rfl rfl rfl (by decide) (by decide) (by rw [hu15]; decide) (by decide) ?_
 rw [hsum]
 refine AtT.ze ?_
 refine AtT.done ?_
 refine At.nrm ?_
 by_cases hx : (sumP s).all isHx = true
 rotate_left
 ·have hL : loadP s = (bo0, 8) := by unfold loadP; rw [if_neg h4, if_neg hbad, if_pos (by simpa using hx)]
  rw [hL]
  refine At.zh (.q 0 (.n false 1 (.q 2 .done))) ?_
  refine AtT.zf ?_
  refine AtT.zG rfl rfl ok79 (trim_f (sumP s) (by omega) _) ?_
  rintro _ rfl
  refine AtT.neT rfl trivial rfl rfl (by decide) ?_
  refine AtT.qm (d := 54) rfl ((fun h => hx ((trim_hx _).1 h))) ?_
  refine AtT.done ?_
  refine At.nrm ?_
  all_goals refine At.qb rfl rfl ?_
  refine At.nrm ?_
  refine At.zh (.q 0 (.n true 1 (.q 2 .done))) ?_
  refine AtT.qG (bd26) ?_
  refine AtT.zF zK ?_
  refine AtT.ze ?_
  refine AtT.done ?_
  refine At.nrm ?_
  exact At.qN rfl (.agg rfl zK zP.zH rfl) (.tmp rfl) ⟨_, rfl, BoV.nil _⟩
 refine At.zh (.q 0 (.n false 1 (.q 2 .done))) ?_
 refine AtT.zf ?_
 refine AtT.zG rfl rfl ok79 (trim_f (sumP s) (by omega) _) ?_
 rintro _ rfl
 refine AtT.neT rfl trivial rfl rfl (by decide) ?_
 refine AtT.zU (d := 54) rfl ((fun h => h ((trim_hx _).2 hx))) ?_
 refine AtT.done ?_
 refine At.nrm ?_
 all_goals refine At.qf rfl rfl ?_
 refine At.nrm ?_
 refine At.zh (.n false 0 .done) ?_
 refine AtT.zT z26 ?_
 intro b7
 refine AtT.done ?_
 refine At.nrm ?_
 have hLL : (jo 10 s).take (((qA s).length : Int) - 1).toNat = (qA s).dropLast.map (· ++ [10]) := by
  rw [show (((qA s).length : Int) - 1).toNat = (qA s).length - 1 by omega, caf_eq, List.take_append_of_le_length (by rw [List.length_map]; omega), ← List.map_take, ← List.dropLast_eq_take]
 have hLLl : ((qA s).dropLast.map (· ++ [10])).length = (qA s).length - 1 := by rw [List.length_map, List.length_dropLast]
 refine At.zh (.q 0 (.q 1 (.q 2 (.q 3 (.q 4 .done))))) ?_
 refine AtT.zf ?_
 refine AtT.zf ?_
 refine AtT.khead Tryz.underlying121 tk9 ?_
 intro a58 c58 hs58
 rw [hLL] at hs58 ⊢
 first | refine AtT.zR Tryz.underlying121 ?_ | refine AtT.zN Tryz.underlying121 ?_
 refine AtT.zf ?_
 refine AtT.done ?_
 refine At.nrm ?_
 refine At.newRow 80 2 ?_
 refine At.newRow 36 4 ?_
 refine At.lp (ι := Lg) (KS := fun g => [(0, sT s), (2, .pointer (some ⟨b2, 0, none⟩)), (6, sT (sumP s)), (7, .pointer (some ⟨b7, 0, none⟩)), (58, .slice a58 ((qA s).dropLast.map (· ++ [10])).length c58), (59, iv ((qA s).dropLast.map (· ++ [10])).length), (60, iv g.k)])
  (OS := fun g => BkO b7 g.ar g.cr g.qs g.ae g.ce g.es [.blk b2 (LC [.slice none 0 0, .slice none 0 0] 26)])
  (VS := fun g V' => Le V16 V' ∧ g.k ≤ ((qA s).dropLast.map (· ++ [10])).length ∧ jv bo0 ((qA s).dropLast.take g.k) = some ⟨g.qs.map (·.1), g.es⟩ ∧ RsQ V' g.qs ∧ g.qs.length ≤ g.k ∧ g.es.length ≤ g.k) (μ := fun g => ((qA s).dropLast.map (· ++ [10])).length - g.k) ⟨0, [], [], none, 0, none, 0⟩ ?_ ?_ ?_ ?_
 ·exact ⟨rfl, rfl, rfl, rfl, rfl, rfl, rfl, trivial⟩
 ·unfold BkO; exact Pt.zH
 ·exact ⟨Le.refl _, Nat.zero_le _, rfl, (fun x hx => by cases hx), Nat.le_refl _, Nat.le_refl _⟩
 rintro ⟨k, qs, es, ar, cr, ae, ce⟩ V' ks' O' ⟨hVV, hkl, hrd, hq, hq1, he1⟩ hk hO hl
 dsimp only at hkl hk hO hrd hq hq1 he1
 subst hk hO
 have hs58' := hs58.le hVV
 have hgV := (hg.le hV16).le hVV
 have kV := hV16.trans hVV
 refine At.nrm ?_
 refine At.zh (.q 0 .done) ?_
 refine AtT.qp ?_
 refine AtT.done ?_
 refine At.nrm ?_
 refine At.zX rfl (fun hp => ?_) (fun hp => ?_)
 ·obtain ⟨x, hxk⟩ : ∃ x, (qA s).dropLast[k]? = some x := ⟨_, List.getElem?_eq_getElem (by rw [List.length_map] at hp; omega)⟩
  have hxl : x.length ≤ 4000 := by
   have hm : x ∈ cutAt 10 s := List.dropLast_subset _ (List.dropLast_subset _ (List.mem_of_getElem? hxk))
   have := (cutAt_len 10 s).2 x hm
   omega
  have hLx : ((qA s).dropLast.map (· ++ [10]))[k]? = some (x ++ [10]) := by rw [List.getElem?_map, hxk]; rfl
  refine At.nrm ?_
  refine At.zh (.q 0 (.q 1 (.q 2 .done))) ?_
  refine AtT.qB Tryz.underlying121 tk9 ?_
  intro p62 e62 he62 hc62
  first | refine AtT.zm tk9 ?_ | refine AtT.zo tk9 ?_
  obtain rfl : x ++ [10] = e62 := by have : ((qA s).dropLast.map (· ++ [10]))[k]? = some e62 := (by rw [Int.toNat_natCast] at he62; exact he62); rw [hLx] at this; exact Option.some.inj this
  refine AtT.ze ?_
  refine AtT.done ?_
  refine At.nrm ?_
  cases hr : rdL ⟨qs.map (·.1), es⟩ x with
  | none =>
   have hL : loadP s = (bo0, 8) := by unfold loadP; rw [if_neg h4, if_neg hbad, if_neg (by rw [hx]; simp), rdAll_none hxk hrd hr]
   rw [hL]
   refine At.zh (.q 0 (.n false 1 (.n true 2 (.q 3 .done)))) ?_
   refine AtT.zf ?_
   refine AtT.zG rfl rfl ok81 (trimSuffix_f (x ++ [10]) [10] (by rw [List.length_append]; simp only [List.length_cons, List.length_nil]; omega) _) ?_
   rintro _ rfl; rw [trimSuf_nl]
   refine AtT.jq rfl trivial rfl ok80 (by decide) (List.Perm.refl _) (read_bad b7 ar cr qs ae ce es x hxl (by omega) (by omega) hgV hq hr) ?_
   rintro _ _ V66 ⟨hV66, rfl, rfl⟩
   refine AtT.qF ?_
   refine AtT.qM (d := 67) rfl ((show (!false) = true from rfl)) ?_
   refine AtT.done ?_
   refine At.nrm ?_
   all_goals refine At.qb rfl rfl ?_
   refine At.nrm ?_
   refine At.zh (.q 0 (.n true 1 (.q 2 .done))) ?_
   refine AtT.qG (bd26) ?_
   refine AtT.zF zK ?_
   refine AtT.ze ?_
   refine AtT.done ?_
   refine At.nrm ?_
   exact At.qN rfl (.agg rfl zK zP.zH rfl) (.tmp rfl) ⟨_, rfl, BoV.nil _⟩
  | some b' =>
   have hgr := rdL_grow hr
   have hst := rdAll_step hxk hrd hr
   refine At.zh (.q 0 (.n false 1 (.n true 2 (.q 3 .done)))) ?_
   refine AtT.zf ?_
   refine AtT.zG rfl rfl ok81 (trimSuffix_f (x ++ [10]) [10] (by rw [List.length_append]; simp only [List.length_cons, List.length_nil]; omega) _) ?_
   rintro _ rfl; rw [trimSuf_nl]
   refine AtT.jq rfl trivial rfl ok80 (by decide) (List.Perm.refl _) (read_ok b7 ar cr qs ae ce es x hxl (by omega) (by omega) hgV hq hr) ?_
   rintro _ _ V66 ⟨hV66, rfl, ar', cr', qs', ae', ce', es', rfl, rfl, hq'⟩
   refine AtT.qF ?_
   refine AtT.qM (d := 67) rfl ((show (!true) = false from rfl)) ?_
   refine AtT.done ?_
   refine At.nrm ?_
   all_goals refine At.qf rfl rfl ?_
   dsimp only at hgr
   rw [List.length_map, List.length_map] at hgr
   refine At.nrm ?_
   refine At.zh (.q 0 (.q 1 .done)) ?_
   first | refine AtT.qI ?_ | refine AtT.ql ?_
   refine AtT.zf ?_
   refine AtT.done ?_
   refine At.nrm ?_
   refine At.round ⟨k + 1, qs', es', ar', cr', ae', ce'⟩ ?_ ?_ ?_ ?_
   ·show ((qA s).dropLast.map (· ++ [10])).length - (k + 1) < ((qA s).dropLast.map (· ++ [10])).length - k; omega
   ·exact ⟨hVV.trans hV66, by dsimp only; omega, hst, hq', by dsimp only; omega, by dsimp only; omega⟩
   ·exact ⟨rfl, rfl, rfl, rfl, rfl, rfl, ivs (by dsimp only; omega), trivial⟩
   ·exact pt_all _
 obtain rfl : k = ((qA s).dropLast.map (· ++ [10])).length := by omega
 rw [List.take_of_length_le (by rw [List.length_map]; exact Nat.le_refl _)] at hrd
 unfold BkO
 refine At.jQ (l := qs) rce_len rfl rfl zP.zH (fun V3 hV3 hsq => ?_)
 refine At.jQ (l := es) ene_len rfl rfl zP.zH (fun V4 hV4 hse => ?_)
 have hbo : BoV V4 (.agg #[.slice ar qs.length cr, .slice ae es.length ce]) ⟨qs.map (·.1), es⟩ := ⟨_, ae, ce, rfl, ⟨qs, ar, cr, rfl, rfl, hsq.le hV4, (hq.le hV3).le hV4⟩, hse⟩
 have hg4 := (hgV.le hV3).le hV4
 have k4 := (kV.trans hV3).trans hV4
 have hLs : loadP s = endR ⟨qs.map (·.1), es⟩ (s.take (s.length - 15)) (sumP s) := by unfold loadP; rw [if_neg h4, if_neg hbad, if_neg (by rw [hx]; simp), hrd]
 rw [hLs]
 unfold endR
 by_cases hc : chk (s.take (s.length - 15)) = sumP s
 rotate_left
 ·rw [if_pos hc]
  refine At.nrm ?_
  refine At.zh (.q 0 (.q 1 (.q 2 (.q 3 (.q 4 (.n false 5 (.q 6 (.q 7 .done)))))))) ?_
  refine AtT.zf ?_
  refine AtT.zf ?_
  refine AtT.lenT rfl trivial Tryz.underlying9 rfl (by decide) ?_
  first | refine AtT.je ?_ | refine AtT.jf ?_
  refine AtT.subHT rfl trivial Tryz.underlying9 rfl rfl (by omega) (by omega) (by decide) ?_
  rw [show ((s.length : Int) - 15).toNat = s.length - 15 by omega]
  refine AtT.zG rfl rfl ok72 (check_f (s.take (s.length - 15)) (by rw [List.length_take]; omega) _ hg4) ?_
  rintro _ rfl
  refine AtT.zf ?_
  refine AtT.neT rfl trivial rfl rfl (by decide) ?_
  refine AtT.qm (d := 77) rfl (hc) ?_
  refine AtT.done ?_
  refine At.nrm ?_
  all_goals refine At.qb rfl rfl ?_
  refine At.nrm ?_
  refine At.zh (.q 0 (.n true 1 (.q 2 .done))) ?_
  refine AtT.qG (bd26) ?_
  refine AtT.zF zK ?_
  refine AtT.ze ?_
  refine AtT.done ?_
  refine At.nrm ?_
  exact At.qN rfl (.agg rfl zK zP.zH rfl) (.tmp rfl) ⟨_, rfl, BoV.nil _⟩
 rw [if_neg (fun h => h hc)]
 refine At.nrm ?_
 refine At.zh (.q 0 (.q 1 (.q 2 (.q 3 (.q 4 (.n false 5 (.q 6 (.q 7 .done)))))))) ?_
 refine AtT.zf ?_
 refine AtT.zf ?_
 refine AtT.lenT rfl trivial Tryz.underlying9 rfl (by decide) ?_
 first | refine AtT.je ?_ | refine AtT.jf ?_
 refine AtT.subHT rfl trivial Tryz.underlying9 rfl rfl (by omega) (by omega) (by decide) ?_
 rw [show ((s.length : Int) - 15).toNat = s.length - 15 by omega]
 refine AtT.zG rfl rfl ok72 (check_f (s.take (s.length - 15)) (by rw [List.length_take]; omega) _ hg4) ?_
 rintro _ rfl
 refine AtT.zf ?_
 refine AtT.neT rfl trivial rfl rfl (by decide) ?_
 refine AtT.zU (d := 77) rfl ((fun h => h hc)) ?_
 refine AtT.done ?_
 refine At.nrm ?_
 all_goals refine At.qf rfl rfl ?_
 refine At.nrm ?_
 by_cases hb0 : bkE ⟨qs.map (·.1), es⟩ = 0
 rotate_left
 ·rw [if_pos hb0]
  refine At.zh (.q 0 (.n false 1 (.q 2 .done))) ?_
  first | refine AtT.zD zK ?_ | refine AtT.zI zK ?_ | refine AtT.zC zK ?_
  refine AtT.zG rfl rfl ok27 (checkBook_f ⟨qs.map (·.1), es⟩ _ _ hbo) ?_
  rintro _ rfl
  refine AtT.ze ?_
  refine AtT.done ?_
  refine At.nrm ?_
  refine At.nrm ?_
  refine At.zh (.q 0 (.q 1 .done)) ?_
  refine AtT.zf ?_
  refine AtT.qH ?_
  refine AtT.done ?_
  refine At.nrm ?_
  refine At.qb rfl (decide_eq_true hb0) ?_
  refine At.nrm ?_
  refine At.zh (.q 0 (.q 1 (.n true 2 (.q 3 .done)))) ?_
  refine AtT.qG (bd26) ?_
  refine AtT.zf ?_
  refine AtT.zF zK ?_
  refine AtT.ze ?_
  refine AtT.done ?_
  refine At.nrm ?_
  exact At.qN rfl (.agg rfl zK zP.zH rfl) (.tmp rfl) ⟨_, rfl, BoV.nil _⟩
 rw [if_neg (fun h => h hb0)]
 refine At.zh (.q 0 (.n false 1 (.q 2 .done))) ?_
 first | refine AtT.zD zK ?_ | refine AtT.zI zK ?_ | refine AtT.zC zK ?_
 refine AtT.zG rfl rfl ok27 (checkBook_f ⟨qs.map (·.1), es⟩ _ _ hbo) ?_
 rintro _ rfl
 refine AtT.ze ?_
 refine AtT.done ?_
 refine At.nrm ?_
 refine At.nrm ?_
 refine At.zh (.q 0 (.q 1 .done)) ?_
 refine AtT.zf ?_
 refine AtT.qH ?_
 refine AtT.done ?_
 refine At.nrm ?_
 refine At.qf rfl (decide_eq_false (fun h => h hb0)) ?_
 refine At.nrm ?_
 refine At.zh (.q 0 (.n true 1 (.q 2 .done))) ?_
 first | refine AtT.zD zK ?_ | refine AtT.zI zK ?_ | refine AtT.zC zK ?_
 refine AtT.zF zK ?_
 refine AtT.ze ?_
 refine AtT.done ?_
 refine At.nrm ?_
 exact At.qN rfl (.agg rfl zK zP.zH rfl) (.tmp rfl) ⟨_, rfl, hbo⟩
end Go.Proofs.YtpoignmclfdgpaaGreatDoor




set_option linter.unusedVariables false
namespace Go.Proofs.YtpoignmclfdgpaaGreatDoor
open Go.Lw Go.Gl Go.Bk Go.RowKit
structure Lh where
 i : Nat
 st : Nat
 D : List (List UInt8)
 qs : List RcQ
 es : List En
 ar : Option Addr
 cr : Nat
 ae : Option Addr
 ce : Nat
end Go.Proofs.YtpoignmclfdgpaaGreatDoor
set_option linter.unusedVariables false
namespace Go.Proofs.YtpoignmclfdgpaaGreatDoor
open Go.Lw Go.Gl Go.Bk Go.RowKit
theorem fine_f (b : Bo) (V : View) (v : Value) (hv : BoV V v b) : Fnc Tryz.prog 41 [v] V fun r _ => r = .bool (!grB b && decide (bkE b = 0)) := by
 obtain ⟨v1, a, c, rfl, hr, hes⟩ := id hv
 refine qh Tryz.func41 rfl Tryz.ntmps41 (Nat.le_of_ble_eq_true rfl) ?_
 intro w0 hw0
 refine At.nrm ?_
 refine At.zh (.n false 0 (.q 1 .done)) ?_
 refine AtT.jd ?_
 intro b1
 refine AtT.ze ?_
 refine AtT.done ?_
 refine At.nrm ?_
 cases hgr : grB b with
 | true =>
  refine At.zh (.q 0 (.n false 1 (.q 2 (.q 3 (.q 4 (.n false 5 (.q 6 (.q 7 (.q 8 .done))))))))) ?_
  first | refine AtT.zD zK ?_ | refine AtT.zI zK ?_ | refine AtT.zC zK ?_
  refine AtT.zG rfl rfl ok16 (great_f b _ _ hv) ?_
  rintro _ rfl; rw [hgr]
  refine AtT.qF ?_
  refine AtT.qM (d := 5) rfl ((show (!true) = false from rfl)) ?_
  refine AtT.zf ?_
  all_goals (first | refine AtT.kL 6 ?_ | refine AtT.zA (d := 6) rfl (fun hg6 => ?_) (fun hg6 => ?_) | refine AtT.zz (d := 6) rfl (fun hg6 => ?_) (fun hg6 => ?_))
  all_goals first|refine AtT.zi ?_|refine AtT.zg ?_|(first | refine AtT.zD zK ?_ | refine AtT.zI zK ?_ | refine AtT.zC zK ?_)
  all_goals first|refine AtT.qg ?_|refine AtT.zW ?_|((fail))
  all_goals first|refine AtT.zi ?_|refine AtT.zg ?_|(refine AtT.qK ?_)
  all_goals (refine AtT.zB ?_)
  all_goals (refine AtT.ze ?_)
  all_goals refine AtT.done ?_
  all_goals (refine At.nrm ?_)
  all_goals (exact At.qi rfl (.tmp rfl) rfl)
 | false =>
  refine At.zh (.q 0 (.n false 1 (.q 2 (.q 3 (.q 4 (.n false 5 (.q 6 (.q 7 (.q 8 .done))))))))) ?_
  first | refine AtT.zD zK ?_ | refine AtT.zI zK ?_ | refine AtT.zC zK ?_
  refine AtT.zG rfl rfl ok16 (great_f b _ _ hv) ?_
  rintro _ rfl; rw [hgr]
  refine AtT.qF ?_
  refine AtT.qM (d := 5) rfl ((show (!false) = true from rfl)) ?_
  refine AtT.zf ?_
  all_goals (first | refine AtT.kL 6 ?_ | refine AtT.zA (d := 6) rfl (fun hg6 => ?_) (fun hg6 => ?_) | refine AtT.zz (d := 6) rfl (fun hg6 => ?_) (fun hg6 => ?_))
  all_goals first|refine AtT.zi ?_|refine AtT.zg ?_|(first | refine AtT.zD zK ?_ | refine AtT.zI zK ?_ | refine AtT.zC zK ?_)
  all_goals first|refine AtT.qg ?_|refine AtT.zW ?_|((refine AtT.zG rfl rfl ok28 (qU b _ _ hv) ?_) ; (rintro _ rfl))
  all_goals first|refine AtT.zi ?_|refine AtT.zg ?_|(refine AtT.qK ?_)
  all_goals (refine AtT.zB ?_)
  all_goals (refine AtT.ze ?_)
  all_goals refine AtT.done ?_
  all_goals (refine At.nrm ?_)
  all_goals (exact At.qi rfl (.tmp rfl) rfl)
end Go.Proofs.YtpoignmclfdgpaaGreatDoor
set_option linter.unusedVariables false
namespace Go.Bk
open Go.Lw Go.Gl
theorem rawO_nn {rs : List Rc} (h : qE (-1) rs) {g : Int} (hg : g ≤ 7) (x : Int) : 0 ≤ ja rs g x := (rawO_bd h hg x).1
theorem dot_ge {W r : Nat → Int} (hW : ∀ s, 0 ≤ W s) (hr : ∀ s, s < 8 → 0 ≤ r s) : ∀ {n s : Nat}, n ≤ 8 → s < n → W s * r s ≤ ji W r n ∧ 0 ≤ ji W r n
 | 0, s, _, h => absurd h (Nat.not_lt_zero s)
 | n + 1, s, hn, h => by
  have h1 := Int.mul_nonneg (hW n) (hr n (by omega))
  simp only [ji]
  by_cases e : s = n
  ·subst e
   cases s with
   | zero => simp only [ji]; omega
   | succ m =>
    have := (dot_ge hW hr (n := m + 1) (s := m) (by omega) (by omega)).2
    omega
  ·have := dot_ge hW hr (n := n) (s := s) (by omega) (by omega)
   omega
structure Wnt (rs : List Rc) (W : Nat → Int) (g : Nat) (c : Int) : Prop where
 nn : ∀ s, 0 ≤ W s
 out : ∀ s, 8 ≤ s → W s = 0
 dot : ∀ y : Nat, y < 8 → ji W (fun s => ja rs s y) 8 ≤ c * ja rs g y
theorem Wnt.bd {rs : List Rc} (h : qE (-1) rs) {W : Nat → Int} {g : Nat} (hg : g < 8) {c B : Int} (hc : 0 ≤ c ∧ c * 10460353203 ≤ B) (hW : Wnt rs W g c) (s : Nat) : 0 ≤ W s ∧ W s ≤ B := by
 refine ⟨hW.nn s, ?_⟩
 by_cases hs : s < 8
 ·obtain ⟨y, hy, hy1⟩ := raw_some h 8 s hs hs
  have h1 := (dot_ge hW.nn (fun t ht => rawO_nn h (by omega) (y : Int)) (r := fun t => ja rs t y) (n := 8) (Nat.le_refl _) hs).1
  have h2 := hW.dot y hy
  have h3 := rawO_bd h (g := (g : Int)) (by omega) (y : Int)
  have h4 : c * ja rs g y ≤ c * 10460353203 := Int.mul_le_mul_of_nonneg_left h3.2 hc.1
  have h5 : W s * 1 ≤ W s * ja rs s y := Int.mul_le_mul_of_nonneg_left hy1 (hW.nn s)
  omega
 ·rw [hW.out s (by omega)]
  have := Int.mul_nonneg hc.1 (show (0 : Int) ≤ 10460353203 by decide)
  omega
theorem Wnt.start {rs : List Rc} (h : qE (-1) rs) {g : Nat} (hg : g < 8) {c : Int} (hc : 0 ≤ c) : Wnt rs (upd (fun _ => 0) g c) g c := by
 refine ⟨fun s => ?_, fun s hs => ?_, fun y hy => ?_⟩
 ·rw [qO]; split
  ·exact hc
  ·exact Int.le_refl _
 ·rw [qO, if_neg (by omega)]
 ·rw [dot_one hg]; exact Int.le_refl _
theorem want_out8 {rs : List Rc} (h : qE (-1) rs) {g : Int} {c : Int} {W : Nat → Int} {s : Nat} (hs : 8 ≤ s) : zS c (partsOf rs g) W s = W s := want_out fun p hp => by have := qj h hp; omega
theorem Wnt.split {rs : List Rc} (h : qE (-1) rs) {W : Nat → Int} {g : Nat} {c : Int} (hW : Wnt rs W g c) {t : Nat} (ht : t < 8) : Wnt rs (jJ rs t W) g c := by
 refine ⟨fun s => ?_, fun s hs => ?_, fun y hy => by rw [split_dot h ht]; exact hW.dot y hy⟩
 ·unfold jJ
  split
  ·exact hW.nn s
  ·refine Int.le_trans ?_ (kF (hW.nn t) (fun p hp => by have := qj h hp; omega) s)
   rw [qO]; split
   ·exact Int.le_refl _
   ·exact hW.nn s
 ·unfold jJ
  split
  ·exact hW.out s hs
  ·rw [want_out8 h hs, qO, if_neg (by omega)]; exact hW.out s hs
theorem dot_mono {W W' r : Nat → Int} (hr : ∀ s, s < 8 → 0 ≤ r s) (hW : ∀ s, s < 8 → W s ≤ W' s) : ∀ {n : Nat}, n ≤ 8 → ji W r n ≤ ji W' r n
 | 0, _ => Int.le_refl _
 | n + 1, hn => by
  have h1 := dot_mono hr hW (n := n) (by omega)
  have h2 := Int.mul_le_mul_of_nonneg_right (hW n (by omega)) (hr n (by omega))
  simp only [ji]; omega
theorem Wnt.less {rs : List Rc} (h : qE (-1) rs) {W W' : Nat → Int} {g : Nat} {c : Int} (hW : Wnt rs W g c) (h0 : ∀ s, 0 ≤ W' s) (h1 : ∀ s, W' s ≤ W s) : Wnt rs W' g c :=
 ⟨h0, fun s hs => by have := h1 s; have := h0 s; rw [hW.out s hs] at *; omega, fun y hy => Int.le_trans (dot_mono (fun s hs => rawO_nn h (by omega) _) (fun s _ => h1 s) (Nat.le_refl _)) (hW.dot y hy)⟩
def ko (rs : List Rc) (g c : Int) : Int := if crE rs ≠ 0 then crE rs else if ¬ (0 ≤ g ∧ g ≤ 7) then 2 else if c < 0 ∨ 1000 < c then 3 else 0
def kE (rs : List Rc) (g c : Int) : List Int := if ko rs g c ≠ 0 then [] else stL fun y => c * ja rs g y
def rawJ (rs : List Rc) (c : Int) (ps : List Pt) (y : Nat) : Int := c * (ps.map fun p => p.n * ja rs p.t y).sum
theorem rawJ_nil (rs : List Rc) (c : Int) (y : Nat) : rawJ rs c [] y = 0 := by simp [rawJ]
theorem rawJ_snoc (rs : List Rc) (c : Int) (ps : List Pt) (p : Pt) (y : Nat) : rawJ rs c (ps ++ [p]) y = rawJ rs c ps y + c * p.n * ja rs p.t y := by
 unfold rawJ
 rw [List.map_append, List.sum_append]
 simp only [List.map_cons, List.map_nil, List.sum_cons, List.sum_nil, Int.add_zero]
 rw [Int.mul_add, Int.mul_assoc]
theorem rawJ_bd {rs : List Rc} (h : qE (-1) rs) {c : Int} (hc : 0 ≤ c ∧ c ≤ 1000) {ps : List Pt} (hp : ∀ p ∈ ps, 1 ≤ p.n ∧ p.n ≤ 9 ∧ p.t ≤ 7) (hl : ps.length ≤ 3) (y : Nat) : 0 ≤ rawJ rs c ps y ∧ rawJ rs c ps y ≤ 300000000000000 := by
 have h1 := sum_bd (f := fun p : Pt => p.n * ja rs p.t y) (b := 9 * 10460353203) (by decide) (l := ps) fun p hm => by
  have a := hp p hm
  have b := rawO_bd h (g := p.t) a.2.2 (y : Int)
  exact ⟨Int.mul_nonneg (by omega) b.1, Int.mul_le_mul a.2.1 b.2 b.1 (by decide)⟩
 unfold rawJ
 have h2 : (ps.map fun p => p.n * ja rs p.t y).sum ≤ 9 * 10460353203 * 3 := Int.le_trans h1.2 (Int.mul_le_mul_of_nonneg_left (by omega) (by decide))
 refine ⟨Int.mul_nonneg hc.1 h1.1, ?_⟩
 have h3 : c * (ps.map fun p => p.n * ja rs p.t y).sum ≤ 1000 * (9 * 10460353203 * 3) := Int.mul_le_mul hc.2 h2 h1.1 (by decide)
 omega
theorem rawJ_all {rs : List Rc} (h : qE (-1) rs) {g : Int} (hg : g ≤ 7) (hp : partsOf rs g ≠ []) (c : Int) (y : Nat) : rawJ rs c (partsOf rs g) y = c * ja rs g y := by rw [rawO_made h hg hp]; rfl
def mxC (p : Nat → Bool) : Nat → Nat
 | 0 => 0
 | n + 1 => if p (n + 1) = true then n + 1 else mxC p n
theorem mxC_spec (p : Nat → Bool) : ∀ n, mxC p n ≤ n ∧ (mxC p n = 0 ∨ p (mxC p n) = true) ∧ ∀ c, mxC p n < c → c ≤ n → p c = false
 | 0 => ⟨Nat.le_refl _, .inl rfl, fun c h1 h2 => by omega⟩
 | n + 1 => by
  have ih := mxC_spec p n
  simp only [mxC]
  split
  ·rename_i h; exact ⟨Nat.le_refl _, .inr h, fun c h1 h2 => by omega⟩
  ·rename_i h
   refine ⟨by omega, ih.2.1, fun c h1 h2 => ?_⟩
   by_cases e : c = n + 1
   ·subst e; simpa using h
   ·exact ih.2.2 c h1 (by omega)
def mostS (rs : List Rc) (l : Nat → Int) (g : Nat) : Nat := mxC (fun c => kM rs l g c) 24000
theorem mostS_of {rs : List Rc} (h : qE (-1) rs) {l : Nat → Int} (hl : ∀ s, 0 ≤ l s) (hs : jI l 8 ≤ 24000) {g : Nat} (hg : g < 8) {m : Nat} (h1 : m = 0 ∨ kM rs l g m = true) (h2 : ∀ c : Nat, m < c → kM rs l g c = false) : m = mostS rs l g := by
 obtain ⟨a1, a2, a3⟩ := mxC_spec (fun c => kM rs l g c) 24000
 have hm : m ≤ 24000 := by
  rcases h1 with rfl | h1
  ·omega
  ·have := canS_le h hl hg (Int.natCast_nonneg m) h1; omega
 unfold mostS
 rcases Nat.lt_trichotomy m (mxC (fun c => kM rs l g c) 24000) with c | c | c
 ·rcases a2 with a2 | a2
  ·omega
  ·have := h2 _ c; rw [this] at a2; cases a2
 ·exact c
 ·rcases h1 with rfl | h1
  ·omega
  ·have := a3 m c hm; rw [this] at h1; cases h1
theorem canS_down {rs : List Rc} (h : qE (-1) rs) {l : Nat → Int} {g c d : Nat} (hcd : c ≤ d) (hd : kM rs l g d = true) : kM rs l g c = true := canS_mono h (fun s => Int.le_refl _) (by omega) hd
theorem canS_up {rs : List Rc} (h : qE (-1) rs) {l : Nat → Int} {g c d : Nat} (hcd : c ≤ d) (hc : kM rs l g c = false) : kM rs l g d = false := by
 cases e : kM rs l g d with
 | false => rfl
 | true => rw [canS_down h hcd e] at hc; cases hc
theorem sum_upd {W : Nat → Int} {a : Nat} {v : Int} : ∀ {n : Nat}, jI (upd W a v) n = if a < n then jI W n + (v - W a) else jI W n
 | 0 => by simp [jI]
 | n + 1 => by
  simp only [jI]
  rw [sum_upd, qO]
  by_cases e : n = a
  ·subst e; simp; omega
  ·by_cases c : a < n
   ·rw [if_pos c, if_neg e, if_pos (show a < n + 1 by omega)]; omega
   ·rw [if_neg c, if_neg e, if_neg (show ¬ a < n + 1 by omega)]
theorem sum_le {f g : Nat → Int} (h : ∀ s, f s ≤ g s) : ∀ n, jI f n ≤ jI g n
 | 0 => Int.le_refl _
 | n + 1 => by have := sum_le h n; have := h n; simp only [jI]; omega
theorem runL_sum {rs : List Rc} (h : qE (-1) rs) {day : Int} : ∀ {l : List En} {f st : Nat → Int}, (∀ e ∈ l, EnG e) → runL rs day l f = some st → jI st 8 ≤ jI f 8 + 1000 * (l.length : Int)
 | [], f, st, _, hr => by simp only [runL, Option.some.injEq] at hr; subst hr; simp
 | e :: l, f, st, he, hr => by
  have he' : ∀ x ∈ l, EnG x := fun x hx => he x (List.mem_cons_of_mem _ hx)
  have hg := he e List.mem_cons_self
  rw [runL_step] at hr
  rw [List.length_cons]
  push_cast
  split at hr
  ·have := runL_sum h he' hr; omega
  ·split at hr
   ·have ih := runL_sum h he' hr
    have h1 : jI (stB rs e f) 8 ≤ jI f 8 + 1000 := by
     by_cases ka : e.k = 1 ∨ e.k = 3
     ·have hn := hg.n (by omega)
      have ht := hg.t (by omega)
      have h2 : jI (stB rs e f) 8 ≤ jI (upd f e.t.toNat (f e.t.toNat + e.n)) 8 := sum_le (fun s => by
       have := less_nn8 h hg.n s
       unfold stB more
       rw [if_pos ka, qO]
       split
       ·rename_i c; subst c; omega
       ·omega) 8
      rw [sum_upd, if_pos (by omega)] at h2
      omega
     ·have h2 : jI (stB rs e f) 8 ≤ jI f 8 := sum_le (fun s => by
       have := less_nn8 h hg.n s
       unfold stB more
       rw [if_neg ka]; omega) 8
      omega
    omega
   ·cases hr
theorem sumN_zero : ∀ n, jI (fun _ => 0) n = 0
 | 0 => rfl
 | n + 1 => by simp only [jI, sumN_zero n]; rfl
theorem runS_sum {b : Bo} (hb : BoG b) {first : Nat} (hf : first ≤ b.es.length) {day : Int} {st : Nat → Int} (h : runS b.rs b.es first day = some st) : jI st 8 ≤ 24000 := by
 have h1 := runL_sum hb.rs (fun e he => by
  obtain ⟨i, hi, rfl⟩ := List.mem_map.1 he
  exact hb.es _ (enA_mem (by have := cntS_lt hi; omega))) h
 rw [sumN_zero, List.length_map] at h1
 have h2 := cntJ_len b.es first first
 rw [cntJ_all] at h2
 have := hb.len
 omega
theorem runS_nn {b : Bo} (hb : BoG b) {first : Nat} (hf : first ≤ b.es.length) {day : Int} {st : Nat → Int} (h : runS b.rs b.es first day = some st) : ∀ s, s < 8 → 0 ≤ st s ∧ st s ≤ 24000 := by
 have key : ∀ {l : List En} {f st : Nat → Int} {m : Int}, (∀ e ∈ l, EnG e) → (∀ s, s < 8 → 0 ≤ f s ∧ f s ≤ m) → runL b.rs day l f = some st → ∀ s, s < 8 → 0 ≤ st s ∧ st s ≤ m + 1000 * (l.length : Int) := by
  intro l
  induction l with
  | nil => intro f st m _ hf hr s hs; simp only [runL, Option.some.injEq] at hr; subst hr; have := hf s hs; simp; omega
  | cons e l ih =>
   intro f st m he hf hr s hs
   have he' : ∀ x ∈ l, EnG x := fun x hx => he x (List.mem_cons_of_mem _ hx)
   rw [runL_step] at hr
   rw [List.length_cons]
   push_cast
   split at hr
   ·have := ih he' hf hr s hs; omega
   ·split at hr
    ·rename_i ho
     have := ih he' (stB_bd hb.rs (he e List.mem_cons_self).n hf ho) hr s hs
     omega
    ·cases hr
 intro s hs
 have h1 := key (m := 0) (fun e he => by
  obtain ⟨i, hi, rfl⟩ := List.mem_map.1 he
  exact hb.es _ (enA_mem (by have := cntS_lt hi; omega))) (fun s _ => ⟨Int.le_refl _, Int.le_refl _⟩) h s hs
 rw [List.length_map] at h1
 have h2 := cntJ_len b.es first first
 rw [cntJ_all] at h2
 have := hb.len
 omega
end Go.Bk
set_option linter.unusedVariables false
namespace Go.Proofs.YtpoignmclfdgpaaGreatDoor
open Go.Lw Go.Gl Go.Bk Go.RowKit
theorem stkL_bd {b : Bo} {first day : Int} (h : kg b first day = 0) : ∃ st : Nat → Int, jZ b first day = stL st ∧ ∀ s, s < 8 → 0 ≤ st s ∧ st s ≤ 24000 := by
 have hE := h
 unfold kg at h
 split at h
 ·rename_i h0; exact absurd h h0
 rename_i h0
 split at h
 ·cases h
 rename_i hf
 split at h
 ·cases h
 have hR := jA.1 (Classical.not_not.1 h0)
 obtain ⟨n, rfl⟩ : ∃ n : Nat, first = (n : Int) := ⟨first.toNat, by omega⟩
 obtain ⟨st, hst⟩ := hR.st (first := n) (by omega) day
 refine ⟨st, ?_, runS_nn hR.bog (by omega) hst⟩
 unfold jZ
 rw [if_neg (by rw [hE]; simp), Int.toNat_natCast, stkF_some hst]
theorem stock_f (b : Bo) (first day : Int) (V : View) (v : Value) (hv : BoV V v b) : Fnc Tryz.prog 45 [v, iv first, iv day] V fun r V' => ∃ u, r = .tuple #[u, .bool (decide (kg b first day = 0))] ∧ SlI V' u (jZ b first day) := by
 obtain ⟨v1, a, c, rfl, hr, hes⟩ := id hv
 by_cases h0 : kg b first day = 0
 rotate_left
 ·have hL : jZ b first day = [] := by unfold jZ; rw [if_pos h0]
  rw [decide_eq_false h0, hL]
  refine qh Tryz.func45 rfl Tryz.ntmps45 (Nat.le_of_ble_eq_true rfl) ?_
  intro w0 hw0
  refine At.nrm ?_
  refine At.zh (.n false 0 (.q 1 (.q 2 .done))) ?_
  refine AtT.jd ?_
  intro b3
  refine AtT.ze ?_
  refine AtT.ze ?_
  refine AtT.done ?_
  refine At.nrm ?_
  refine At.zh (.q 0 (.q 1 (.q 2 (.n false 3 (.q 4 (.q 5 (.q 6 (.q 7 (.q 8 .done))))))))) ?_
  first | refine AtT.zD zK ?_ | refine AtT.zI zK ?_ | refine AtT.zC zK ?_
  refine AtT.zf ?_
  refine AtT.zf ?_
  refine AtT.qa rfl rfl ok31 (pstock_f b first day _ _ hv) ?_
  rintro v15 V15 hV15 ⟨u, rfl, hs⟩
  refine AtT.zf ?_
  refine AtT.zt ?_
  refine AtT.zt ?_
  refine AtT.ze ?_
  refine AtT.ze ?_
  refine AtT.done ?_
  refine At.nrm ?_
  refine At.nrm ?_
  refine At.zh (.q 0 (.q 1 (.q 2 (.q 3 (.q 4 (.q 5 (.q 6 .done))))))) ?_
  refine AtT.zf ?_
  refine AtT.qH ?_
  refine AtT.qm (d := 19) rfl (h0) ?_
  refine AtT.zf ?_
  all_goals (first | refine AtT.kL 20 ?_ | refine AtT.zA (d := 20) rfl (fun hg20 => ?_) (fun hg20 => ?_) | refine AtT.zz (d := 20) rfl (fun hg20 => ?_) (fun hg20 => ?_))
  all_goals first|refine AtT.zi ?_|refine AtT.zg ?_|(refine AtT.zf ?_)
  all_goals first|refine AtT.zi ?_|refine AtT.zg ?_|(first | refine AtT.zR Tryz.underlying28 ?_ | refine AtT.zN Tryz.underlying28 ?_)
  all_goals first|refine AtT.zi ?_|refine AtT.zg ?_|(refine AtT.qH ?_)
  all_goals (refine AtT.zB ?_)
  all_goals refine AtT.done ?_
  all_goals (refine At.nrm ?_)
  all_goals refine At.qb rfl rfl ?_
  refine At.nrm ?_
  refine At.zh (.q 0 (.q 1 .done)) ?_
  refine AtT.ze ?_
  refine AtT.ze ?_
  refine AtT.done ?_
  refine At.nrm ?_
  exact At.qN rfl (.tmp rfl) (.tmp rfl) ⟨_, rfl, Sl.nil _ _ _⟩
 obtain ⟨st, hL, hbd⟩ := stkL_bd h0
 rw [decide_eq_true h0, hL]
 refine qh Tryz.func45 rfl Tryz.ntmps45 (Nat.le_of_ble_eq_true rfl) ?_
 intro w0 hw0
 refine At.nrm ?_
 refine At.zh (.n false 0 (.q 1 (.q 2 .done))) ?_
 refine AtT.jd ?_
 intro b3
 refine AtT.ze ?_
 refine AtT.ze ?_
 refine AtT.done ?_
 refine At.nrm ?_
 refine At.zh (.q 0 (.q 1 (.q 2 (.n false 3 (.q 4 (.q 5 (.q 6 (.q 7 (.q 8 .done))))))))) ?_
 first | refine AtT.zD zK ?_ | refine AtT.zI zK ?_ | refine AtT.zC zK ?_
 refine AtT.zf ?_
 refine AtT.zf ?_
 refine AtT.qa rfl rfl ok31 (pstock_f b first day _ _ hv) ?_
 rintro v15 V15 hV15 ⟨u, rfl, hs⟩
 refine AtT.zf ?_
 refine AtT.zt ?_
 refine AtT.zt ?_
 refine AtT.ze ?_
 refine AtT.ze ?_
 refine AtT.done ?_
 refine At.nrm ?_
 rw [hL] at hs
 have hl8 : (stL st).length = 8 := rfl
 obtain ⟨au, cu, rfl, _, _, _, _⟩ := id hs
 refine At.nrm ?_
 refine At.zh (.q 0 (.q 1 (.q 2 (.q 3 (.q 4 (.q 5 (.q 6 .done))))))) ?_
 refine AtT.zf ?_
 refine AtT.qH ?_
 refine AtT.zU (d := 19) rfl ((fun h => h h0)) ?_
 refine AtT.zf ?_
 all_goals (first | refine AtT.kL 20 ?_ | refine AtT.zA (d := 20) rfl (fun hg20 => ?_) (fun hg20 => ?_) | refine AtT.zz (d := 20) rfl (fun hg20 => ?_) (fun hg20 => ?_))
 all_goals first|refine AtT.zi ?_|refine AtT.zg ?_|(refine AtT.zf ?_)
 all_goals first|refine AtT.zi ?_|refine AtT.zg ?_|(first | refine AtT.zR Tryz.underlying28 ?_ | refine AtT.zN Tryz.underlying28 ?_)
 all_goals first|refine AtT.zi ?_|refine AtT.zg ?_|(refine AtT.qH ?_)
 all_goals (refine AtT.zU (d := 23) rfl ((by omega)) ?_)
 all_goals (refine AtT.zB ?_)
 all_goals refine AtT.done ?_
 all_goals (refine At.nrm ?_)
 all_goals refine At.qf rfl rfl ?_
 refine At.nrm ?_
 refine At.zh (.q 0 .done) ?_
 refine AtT.ze ?_
 refine AtT.done ?_
 refine At.nrm ?_
 refine At.lp (ι := Nat) (KS := fun i => [(8, .slice au (stL st).length cu), (10, iv i)]) (OS := fun _ => [])
  (VS := fun i V' => V' = V15 ∧ i ≤ 8) (μ := fun i => 8 - i) 0 ?_ ?_ ?_ ?_
 ·exact ⟨rfl, rfl, trivial⟩
 ·exact Pt.zH
 ·exact ⟨rfl, Nat.zero_le _⟩
 rintro i V' ks' O' ⟨rfl, hi⟩ hk hO hl
 subst hk hO
 refine At.nrm ?_
 refine At.zh (.q 0 (.q 1 (.q 2 (.q 3 .done)))) ?_
 refine AtT.zf ?_
 refine AtT.zf ?_
 first | refine AtT.zR Tryz.underlying28 ?_ | refine AtT.zN Tryz.underlying28 ?_
 refine AtT.qp ?_
 refine AtT.done ?_
 refine At.nrm ?_
 refine At.zX rfl (fun hp => ?_) (fun hp => ?_)
 ·have hi8 : i < 8 := by omega
  have hat := stL_at st hi8
  have hb := hbd i hi8
  have hP : ∀ e, (stL st)[(i : Int).toNat]? = some e → st i = e := fun e he => by rw [Int.toNat_natCast, hat] at he; exact Option.some.inj he
  refine At.nrm ?_
  refine At.zh (.q 0 (.q 1 (.q 2 (.q 3 (.q 4 (.q 5 (.q 6 (.q 7 (.q 8 (.q 9 (.q 10 (.q 11 .done)))))))))))) ?_
  refine AtT.zf ?_
  refine AtT.zf ?_
  refine AtT.qB Tryz.underlying28 tk2 ?_
  intro p33 e33 he33 hc33
  first | refine AtT.zm tk2 ?_ | refine AtT.zo tk2 ?_
  obtain rfl := hP _ he33
  refine AtT.qp ?_
  refine AtT.zU (d := 35) rfl ((by omega)) ?_
  refine AtT.zf ?_
  all_goals (first | refine AtT.kL 36 ?_ | refine AtT.zA (d := 36) rfl (fun hg36 => ?_) (fun hg36 => ?_) | refine AtT.zz (d := 36) rfl (fun hg36 => ?_) (fun hg36 => ?_))
  all_goals first|refine AtT.zi ?_|refine AtT.zg ?_|(refine AtT.zf ?_)
  all_goals first|refine AtT.zi ?_|refine AtT.zg ?_|(refine AtT.zf ?_)
  all_goals first|refine AtT.zi ?_|refine AtT.zg ?_|(refine AtT.qB Tryz.underlying28 tk2 ?_) ; (intro p39 e39 he39 hc39)
  all_goals first|refine AtT.zi ?_|refine AtT.zg ?_|(first | refine AtT.zm tk2 ?_ | refine AtT.zo tk2 ?_)
  all_goals (obtain rfl := hP _ he39)
  all_goals first|refine AtT.zi ?_|refine AtT.zg ?_|(refine AtT.qJ ?_)
  all_goals (refine AtT.zU (d := 41) rfl ((by omega)) ?_)
  all_goals (refine AtT.zB ?_)
  all_goals refine AtT.done ?_
  all_goals (refine At.nrm ?_)
  all_goals refine At.qf rfl rfl ?_
  refine At.nrm ?_
  refine At.zh (.q 0 (.q 1 (.q 2 .done))) ?_
  refine AtT.zf ?_
  first | refine AtT.qI ?_ | refine AtT.ql ?_
  refine AtT.ze ?_
  refine AtT.done ?_
  refine At.nrm ?_
  refine At.round (i + 1) ?_ ?_ ?_ ?_
  ·show 8 - (i + 1) < 8 - i; omega
  ·exact ⟨rfl, by omega⟩
  ·exact ⟨rfl, ivs (by omega), trivial⟩
  ·exact Pt.zH
 refine At.nrm ?_
 refine At.zh (.q 0 (.q 1 (.q 2 .done))) ?_
 refine AtT.zf ?_
 refine AtT.ze ?_
 refine AtT.ze ?_
 refine AtT.done ?_
 refine At.nrm ?_
 exact At.qN rfl (.tmp rfl) (.tmp rfl) ⟨_, rfl, hs⟩
end Go.Proofs.YtpoignmclfdgpaaGreatDoor
set_option linter.unusedVariables false
namespace Go.Proofs.YtpoignmclfdgpaaGreatDoor
open Go.Lw Go.Gl Go.Bk Go.RowKit
def rawK (rs : List Rc) (c : Int) (ps : List Pt) (p : Pt) (k : Nat) : Nat → Int := fun y => if y < k then rawJ rs c (ps ++ [p]) y else rawJ rs c ps y
theorem rawK_zero (rs : List Rc) (c : Int) (ps : List Pt) (p : Pt) : rawK rs c ps p 0 = rawJ rs c ps := by funext y; simp [rawK]
theorem rawK_all (rs : List Rc) (c : Int) (ps : List Pt) (p : Pt) : stC (rawK rs c ps p 8) = stC (rawJ rs c (ps ++ [p])) := stC_ext fun s hs => by simp [rawK, hs]
theorem rawK_at (rs : List Rc) (c : Int) (ps : List Pt) (p : Pt) (k : Nat) : rawK rs c ps p k k = rawJ rs c ps k := by simp [rawK]
theorem rawK_set (rs : List Rc) (c : Int) (ps : List Pt) (p : Pt) {k : Nat} (h : k < 8) : (stC (rawK rs c ps p k)).set (k * 1) (iv (rawJ rs c ps k + c * p.n * ja rs p.t k)) = stC (rawK rs c ps p (k + 1)) := by
 rw [Nat.mul_one, jL _ _ h]
 refine stC_ext fun s hs => ?_
 rw [qO]
 unfold rawK
 by_cases e : s = k
 ·subst e; rw [if_pos rfl, if_pos (by omega), rawJ_snoc]
 ·rw [if_neg e]
  by_cases d : s < k
  ·rw [if_pos d, if_pos (by omega)]
  ·rw [if_neg d, if_neg (by omega)]
theorem rawOf_f (rs : List Rc) (hrs : qE (-1) rs) : ∀ (n : Nat) (g c : Int), 0 ≤ g → g ≤ 7 → g < n → 0 ≤ c ∧ c ≤ 1000 → ∀ (V : View) (v : Value), RsV V v rs → Fnc Tryz.prog 60 [v, iv g, iv c] V fun r V' => SlI V' r (stL fun y => c * ja rs g y)
 | 0, g, c, h1, h2, h3, _, _, _, _ => absurd h3 (by omega)
 | n + 1, g, c, h1, h2, h3, hc, V, v, hv => by
  obtain ⟨T, rfl⟩ : ∃ T : Nat, g = (T : Int) := ⟨g.toNat, by omega⟩
  have hT8 : T < 8 := by omega
  have hpl := kz hrs (T : Int)
  have hpn : ∀ p ∈ partsOf rs (T : Int), 1 ≤ p.n ∧ p.n ≤ 9 ∧ p.t ≤ 7 := fun p hp => by have := qj hrs hp; omega
  refine qh Tryz.func60 rfl Tryz.ntmps60 (Nat.le_of_ble_eq_true rfl) ?_
  intro w0 hw0
  refine At.nrm ?_
  refine At.zh (.q 0 .done) ?_
  refine AtT.ze ?_
  refine AtT.done ?_
  refine At.nrm ?_
  refine At.zh (.n false 0 (.q 1 .done)) ?_
  refine AtT.makeSl rfl trivial ei rfl Tryz.underlying28 rw2 rfl rfl (by decide) rfl rfl (by omega) (by omega) (by decide) (m := 8) (za := (0 : Int)) ?_
  intro b12
  refine AtT.ze ?_
  refine AtT.done ?_
  refine At.nrm ?_
  refine At.zh (.q 0 (.q 1 (.n false 2 (.q 3 .done)))) ?_
  refine AtT.zf ?_
  refine AtT.zf ?_
  refine AtT.qa rfl rfl ok48 (partsOf_f rs T _ _ hv) ?_
  rintro v15 V15 hV15 ⟨a15, c15, rfl, hs15⟩
  refine AtT.ze ?_
  refine AtT.done ?_
  refine At.nrm ?_
  refine At.nrm ?_
  refine At.zh (.q 0 (.q 1 (.q 2 .done))) ?_
  refine AtT.zf ?_
  first | refine AtT.zR Tryz.underlying66 ?_ | refine AtT.zN Tryz.underlying66 ?_
  refine AtT.qK ?_
  refine AtT.done ?_
  refine At.nrm ?_
  by_cases hp0 : partsOf rs (T : Int) = []
  ·have hset : (stC fun _ => 0).set (T * 1) (iv c) = stC fun y => c * ja rs T y := by
    rw [Nat.mul_one, jL _ _ hT8]
    refine stC_ext fun s hs => ?_
    rw [qO, rawO_raw hp0]
    by_cases e : s = T
    ·subst e; simp
    ·rw [if_neg e, if_neg (by omega), Int.mul_zero]
   rw [hp0]
   refine At.qb rfl rfl ?_
   refine At.nrm ?_
   refine At.zh (.q 0 (.q 1 (.q 2 (.q 3 (.n true 4 .done))))) ?_
   refine AtT.zf ?_
   refine AtT.zf ?_
   refine AtT.zf ?_
   refine AtT.jV rfl trivial Tryz.underlying28 tk2 rfl rfl hT8 (by decide) ?_
   refine AtT.jk rfl trivial rfl rfl tk2 rfl rfl (by repeat first|exact Upd.here|apply Upd.there) (qR (by simp; omega) hset) ?_
   refine AtT.done ?_
   refine At.nrm ?_
   refine At.nrm ?_
   refine At.zh (.q 0 .done) ?_
   refine AtT.ze ?_
   refine AtT.done ?_
   refine At.nrm ?_
   refine At.lp (ι := Unit) (KS := fun _ => [(7, .slice (some ⟨b12, 0, none⟩) 8 8), (8, .slice a15 0 c15), (9, iv 0)]) (OS := fun _ => [.blk b12 (LC (stC fun y => c * ja rs T y) 2)]) (VS := fun _ V' => V' = V15) (μ := fun _ => 0) () ?_ ?_ ?_ ?_
   ·exact ⟨rfl, rfl, rfl, trivial⟩
   ·exact Pt.zH
   ·exact rfl
   rintro _ V' ks' O' rfl hk hO hl2
   subst hk hO
   refine At.nrm ?_
   refine At.zh (.q 0 (.q 1 (.q 2 (.q 3 .done)))) ?_
   refine AtT.zf ?_
   refine AtT.zf ?_
   refine AtT.zN Tryz.underlying66 ?_
   refine AtT.qp ?_
   refine AtT.done ?_
   refine At.nrm ?_
   refine At.qf rfl rfl ?_
   refine At.nrm ?_
   refine At.zh (.q 0 (.q 1 .done)) ?_
   refine AtT.zf ?_
   refine AtT.ze ?_
   refine AtT.done ?_
   refine At.nrm ?_
   refine At.giveB (b := b12) zP.zH (fun V4 hV4 hb4 => ?_)
   exact At.qi rfl (.tmp rfl) (sl_stL hb4)
  have hlen0 : ¬ ((partsOf rs (T : Int)).length : Int) = 0 := fun h => hp0 (List.length_eq_zero_iff.1 (by omega))
  refine At.qf rfl (decide_eq_false hlen0) ?_
  refine At.nrm ?_
  refine At.zh (.q 0 .done) ?_
  refine AtT.ze ?_
  refine AtT.done ?_
  refine At.nrm ?_
  refine At.lp (ι := Nat) (KS := fun i => [(0, v), (2, iv c), (7, .slice (some ⟨b12, 0, none⟩) 8 8), (8, .slice a15 (partsOf rs (T : Int)).length c15), (9, iv i)]) (OS := fun i => [.blk b12 (LC (stC (rawJ rs c ((partsOf rs (T : Int)).take i))) 2)]) (VS := fun i V' => Le V15 V' ∧ i ≤ (partsOf rs (T : Int)).length) (μ := fun i => (partsOf rs (T : Int)).length - i) 0 ?_ ?_ ?_ ?_
  ·exact ⟨rfl, rfl, rfl, rfl, rfl, trivial⟩
  ·rw [List.take_zero, show rawJ rs c [] = fun _ => 0 from funext fun y => rawJ_nil rs c y]; exact Pt.zH
  ·exact ⟨Le.refl _, Nat.zero_le _⟩
  rintro i V' ks' O' ⟨hVV, hil⟩ hk hO hl2
  subst hk hO
  have hs15' := hs15.le (hV15.trans hVV)
  have hv' := hv.le (hV15.trans hVV)
  refine At.nrm ?_
  refine At.zh (.q 0 (.q 1 (.q 2 (.q 3 .done)))) ?_
  refine AtT.zf ?_
  refine AtT.zf ?_
  first | refine AtT.zR Tryz.underlying66 ?_ | refine AtT.zN Tryz.underlying66 ?_
  refine AtT.qp ?_
  refine AtT.done ?_
  refine At.nrm ?_
  refine At.zX rfl (fun hp => ?_) (fun hp => ?_)
  rotate_left
  ·obtain rfl : i = (partsOf rs (T : Int)).length := by omega
   rw [List.take_length, show rawJ rs c (partsOf rs (T : Int)) = fun y : Nat => c * ja rs T y from funext fun y => rawJ_all hrs (by omega) hp0 c y]
   refine At.nrm ?_
   refine At.zh (.q 0 (.q 1 .done)) ?_
   refine AtT.zf ?_
   refine AtT.ze ?_
   refine AtT.done ?_
   refine At.nrm ?_
   refine At.giveB (b := b12) zP.zH (fun V4 hV4 hb4 => ?_)
   exact At.qi rfl (.tmp rfl) (sl_stL hb4)
  obtain ⟨p, hpi⟩ : ∃ p, (partsOf rs (T : Int))[i]? = some p := ⟨_, List.getElem?_eq_getElem (by omega)⟩
  have hpin := qj hrs (List.mem_of_getElem? hpi)
  have htk := take_snoc2 hpi
  refine At.nrm ?_
  refine At.zh (.q 0 (.q 1 (.q 2 (.q 3 (.q 4 (.q 5 (.n false 6 (.q 7 .done)))))))) ?_
  refine AtT.zf ?_
  refine AtT.zf ?_
  refine AtT.zf ?_
  refine AtT.qB Tryz.underlying66 qX ?_
  intro p32 e32 he32 hc32
  obtain rfl : p = e32 := by have : (partsOf rs (T : Int))[i]? = some e32 := (by rw [Int.toNat_natCast] at he32; exact he32); rw [hpi] at this; exact Option.some.inj this
  first | refine AtT.zk zV ?_ | with_reducible refine AtT.zl zV ?_ | refine AtT.zn zV ?_
  first | refine AtT.zm tk3 ?_ | refine AtT.zo tk3 ?_
  refine AtT.qa rfl rfl ok60 (rawOf_f rs hrs n p.t 1 (by omega) (by omega) (by omega) (by omega) _ _ hv') ?_
  rintro v35 V35 hV35 hs35; obtain ⟨a35, c35, rfl, _⟩ := id hs35
  refine AtT.ze ?_
  refine AtT.done ?_
  refine At.nrm ?_
  have hs15b := hs15'.le hV35
  refine At.nrm ?_
  refine At.zh (.q 0 .done) ?_
  refine AtT.ze ?_
  refine AtT.done ?_
  refine At.nrm ?_
  refine At.lp (ι := Nat) (KS := fun k => [(0, v), (2, iv c), (7, .slice (some ⟨b12, 0, none⟩) 8 8), (8, .slice a15 (partsOf rs (T : Int)).length c15), (9, iv i), (10, .slice a35 8 c35), (11, iv k)]) (OS := fun k => [.blk b12 (LC (stC (rawK rs c ((partsOf rs (T : Int)).take i) p k)) 2)]) (VS := fun k V'' => V'' = V35 ∧ k ≤ 8) (μ := fun k => 8 - k) 0 ?_ ?_ ?_ ?_
  ·exact ⟨rfl, rfl, rfl, rfl, rfl, rfl, rfl, trivial⟩
  ·rw [rawK_zero]; exact Pt.zH
  ·exact ⟨rfl, Nat.zero_le _⟩
  rintro k V2 ks' O' ⟨rfl, hkl⟩ hk hO hl3
  subst hk hO
  refine At.nrm ?_
  refine At.zh (.q 0 (.q 1 .done)) ?_
  refine AtT.zf ?_
  refine AtT.qp ?_
  refine AtT.done ?_
  refine At.nrm ?_
  refine At.zX rfl (fun hp2 => ?_) (fun hp2 => ?_)
  rotate_left
  ·obtain rfl : k = 8 := by omega
   rw [rawK_all, ← htk]
   refine At.nrm ?_
   refine At.zh (.q 0 (.q 1 (.q 2 .done))) ?_
   refine AtT.zf ?_
   first | refine AtT.qI ?_ | refine AtT.ql ?_
   refine AtT.ze ?_
   refine AtT.done ?_
   refine At.nrm ?_
   refine At.round (i + 1) ?_ ?_ ?_ ?_
   ·show (partsOf rs (T : Int)).length - (i + 1) < (partsOf rs (T : Int)).length - i; omega
   ·exact ⟨hVV.trans hV35, by omega⟩
   ·exact ⟨rfl, rfl, rfl, rfl, ivs (by omega), trivial⟩
   ·exact Pt.zH
  have hk8 : k < 8 := by omega
  have hat : (stC (rawK rs c ((partsOf rs (T : Int)).take i) p k))[k * 1]? = some (iv (rawJ rs c ((partsOf rs (T : Int)).take i) k)) := by rw [Nat.mul_one, stC_at _ hk8, rawK_at]
  have hset := rawK_set rs c ((partsOf rs (T : Int)).take i) p hk8
  have hat35 : (stL fun y => 1 * ja rs p.t y)[k]? = some (ja rs p.t k) := by rw [stL_at _ hk8, Int.one_mul]
  have hj1 := rawJ_bd hrs hc (ps := (partsOf rs (T : Int)).take i) (fun q hq => hpn q (List.mem_of_mem_take hq)) (by rw [List.length_take]; omega) k
  have hr1 := rawO_bd hrs (g := p.t) (by omega) (k : Int)
  have hm0 := Int.mul_nonneg hc.1 (show 0 ≤ p.n by omega)
  have hm1 : c * p.n ≤ 1000 * 9 := Int.mul_le_mul hc.2 (by omega) (by omega) (by decide)
  have hm2 := Int.mul_nonneg hm0 hr1.1
  have hm3 : c * p.n * ja rs p.t k ≤ 1000 * 9 * 10460353203 := Int.mul_le_mul hm1 hr1.2 hr1.1 (by decide)
  refine At.nrm ?_
  refine At.draw (.q 0 (.q 1 (.q 2 (.q 3 (.q 4 (.q 5 (.q 6 (.q 7 (.q 8 (.q 9 (.q 10 (.q 11 (.q 12 (.q 13 (.q 14 (.q 15 (.q 16 (.q 17 (.n true 18 .done))))))))))))))))))) ffm (by kernel_rfl) ?_
  refine AtT.zf ?_
  refine AtT.zf ?_
  refine AtT.jV rfl trivial Tryz.underlying28 tk2 rfl rfl hk8 (by decide) ?_
  refine AtT.jE rfl trivial rfl tk2 zP.zH hat (by decide) ?_
  refine AtT.zf ?_
  refine AtT.zf ?_
  refine AtT.zf ?_
  refine AtT.qB Tryz.underlying66 qX ?_
  intro p47 e47 he47 hc47
  obtain rfl : p = e47 := by have : (partsOf rs (T : Int))[i]? = some e47 := (by rw [Int.toNat_natCast] at he47; exact he47); rw [hpi] at this; exact Option.some.inj this
  first | refine AtT.zk qc ?_ | with_reducible refine AtT.zl qc ?_ | refine AtT.zn qc ?_
  first | refine AtT.zm tk2 ?_ | refine AtT.zo tk2 ?_
  refine AtT.mul rfl trivial rfl rfl (by decide) (Fit.of (by omega) (by omega)) ?_
  refine AtT.zf ?_
  refine AtT.zf ?_
  refine AtT.idx rfl trivial Tryz.underlying28 tk2 rfl hs35 rfl (by omega) (by show (k : Int) < ((8 : Nat) : Int); omega) (by decide) ?_
  intro p53 e53 he53 hc53
  obtain rfl : ja rs p.t k = e53 := by have : (stL fun y => 1 * ja rs p.t y)[k]? = some e53 := (by rw [Int.toNat_natCast] at he53; exact he53); rw [hat35] at this; exact Option.some.inj this
  first | refine AtT.zm tk2 ?_ | refine AtT.zo tk2 ?_
  refine AtT.mul rfl trivial rfl rfl (by decide) (Fit.of (by omega) (by omega)) ?_
  refine AtT.add rfl trivial rfl rfl (by decide) (Fit.of (by omega) (by omega)) ?_
  refine AtT.jV rfl trivial Tryz.underlying28 tk2 rfl rfl hk8 (by decide) ?_
  refine AtT.jk rfl trivial rfl rfl tk2 rfl rfl (by repeat first|exact Upd.here|apply Upd.there) (qR (by simp; omega) hset) ?_
  refine AtT.done ?_
  refine At.nrm ?_
  refine At.nrm ?_
  refine At.zh (.q 0 (.q 1 (.q 2 .done))) ?_
  refine AtT.zf ?_
  first | refine AtT.qI ?_ | refine AtT.ql ?_
  refine AtT.ze ?_
  refine AtT.done ?_
  refine At.nrm ?_
  refine At.round (k + 1) ?_ ?_ ?_ ?_
  ·show 8 - (k + 1) < 8 - k; omega
  ·exact ⟨rfl, by omega⟩
  ·exact ⟨rfl, rfl, rfl, rfl, rfl, rfl, ivs (by omega), trivial⟩
  ·exact Pt.zH
theorem rraw_f (rs : List Rc) (g c : Int) (V : View) (v : Value) (hv : RsV V v rs) : Fnc Tryz.prog 19 [v, iv g, iv c] V fun r V' => ∃ u, r = .tuple #[u, iv (ko rs g c)] ∧ SlI V' u (kE rs g c) := by
 refine qh Tryz.func19 rfl Tryz.ntmps19 (Nat.le_of_ble_eq_true rfl) ?_
 intro w0 hw0
 refine At.nrm ?_
 refine At.zh (.q 0 (.q 1 .done)) ?_
 refine AtT.ze ?_
 refine AtT.ze ?_
 refine AtT.done ?_
 refine At.nrm ?_
 refine At.zh (.q 0 (.n false 1 (.q 2 .done))) ?_
 refine AtT.zf ?_
 refine AtT.zG rfl rfl ok21 (jW rs _ _ hv) ?_
 rintro _ rfl
 refine AtT.qH ?_
 refine AtT.done ?_
 refine At.nrm ?_
 refine At.zX rfl (fun h0 => ?_) (fun h0 => ?_)
 ·have hE : ko rs g c = crE rs := by unfold ko; rw [if_pos h0]
  have hL : kE rs g c = [] := by unfold kE; rw [if_pos (by rw [hE]; exact h0)]
  rw [hE, hL]
  refine At.nrm ?_
  refine At.zh (.q 0 (.n false 1 (.q 2 (.q 3 .done)))) ?_
  refine AtT.zf ?_
  refine AtT.zG rfl rfl ok21 (jW rs _ _ hv) ?_
  rintro _ rfl
  refine AtT.ze ?_
  refine AtT.ze ?_
  refine AtT.done ?_
  refine At.nrm ?_
  exact At.qN rfl (.tmp rfl) (.tmp rfl) ⟨_, rfl, Sl.nil _ _ _⟩
 have hrs := recsE_iff.1 (show crE rs = 0 from Classical.not_not.1 h0)
 refine At.nrm ?_
 by_cases g1 : 0 ≤ g ∧ g ≤ 7
 rotate_left
 ·refine At.zh (.q 0 (.n false 1 (.q 2 .done))) ?_
  refine AtT.zf ?_
  refine AtT.zG rfl rfl ok59 (jb g _) ?_
  rintro _ rfl
  refine AtT.zU (d := 14) rfl (g1) ?_
  refine AtT.qF ?_
  refine AtT.qM (d := 15) rfl ((show (!false) = true from rfl)) ?_
  refine AtT.done ?_
  refine At.nrm ?_
  all_goals refine At.qb rfl rfl ?_
  refine At.nrm ?_
  have hE : ko rs g c = 2 := by unfold ko; rw [if_neg h0, if_pos g1]
  have hL : kE rs g c = [] := by unfold kE; rw [if_pos (by rw [hE]; decide)]
  rw [hE, hL]
  refine At.zh (.q 0 (.q 1 .done)) ?_
  refine AtT.ze ?_
  refine AtT.ze ?_
  refine AtT.done ?_
  refine At.nrm ?_
  exact At.qN rfl (.tmp rfl) (.tmp rfl) ⟨_, rfl, Sl.nil _ _ _⟩
 refine At.zh (.q 0 (.n false 1 (.q 2 .done))) ?_
 refine AtT.zf ?_
 refine AtT.zG rfl rfl ok59 (jb g _) ?_
 rintro _ rfl
 refine AtT.qm (d := 14) rfl (g1) ?_
 refine AtT.qF ?_
 refine AtT.qM (d := 15) rfl ((show (!true) = false from rfl)) ?_
 refine AtT.done ?_
 refine At.nrm ?_
 all_goals refine At.qf rfl rfl ?_
 refine At.nrm ?_
 by_cases c1 : c < 0
 ·refine At.zh (.q 0 (.q 1 (.q 2 (.q 3 (.q 4 (.q 5 .done)))))) ?_
  refine AtT.zf ?_
  refine AtT.qp ?_
  refine AtT.qm (d := 17) rfl (c1) ?_
  refine AtT.zf ?_
  all_goals (first | refine AtT.kL 18 ?_ | refine AtT.zA (d := 18) rfl (fun hg18 => ?_) (fun hg18 => ?_) | refine AtT.zz (d := 18) rfl (fun hg18 => ?_) (fun hg18 => ?_))
  all_goals first|refine AtT.zi ?_|refine AtT.zg ?_|(refine AtT.zf ?_)
  all_goals first|refine AtT.zi ?_|refine AtT.zg ?_|(refine AtT.qJ ?_)
  all_goals (refine AtT.zB ?_)
  all_goals refine AtT.done ?_
  all_goals (refine At.nrm ?_)
  all_goals refine At.qb rfl rfl ?_
  refine At.nrm ?_
  have hE : ko rs g c = 3 := by unfold ko; rw [if_neg h0, if_neg (fun h => h g1), if_pos (by omega)]
  have hL : kE rs g c = [] := by unfold kE; rw [if_pos (by rw [hE]; decide)]
  rw [hE, hL]
  refine At.zh (.q 0 (.q 1 .done)) ?_
  refine AtT.ze ?_
  refine AtT.ze ?_
  refine AtT.done ?_
  refine At.nrm ?_
  exact At.qN rfl (.tmp rfl) (.tmp rfl) ⟨_, rfl, Sl.nil _ _ _⟩
 by_cases c2 : 1000 < c
 ·refine At.zh (.q 0 (.q 1 (.q 2 (.q 3 (.q 4 (.q 5 .done)))))) ?_
  refine AtT.zf ?_
  refine AtT.qp ?_
  refine AtT.zU (d := 17) rfl (c1) ?_
  refine AtT.zf ?_
  all_goals (first | refine AtT.kL 18 ?_ | refine AtT.zA (d := 18) rfl (fun hg18 => ?_) (fun hg18 => ?_) | refine AtT.zz (d := 18) rfl (fun hg18 => ?_) (fun hg18 => ?_))
  all_goals first|refine AtT.zi ?_|refine AtT.zg ?_|(refine AtT.zf ?_)
  all_goals first|refine AtT.zi ?_|refine AtT.zg ?_|(refine AtT.qJ ?_)
  all_goals (refine AtT.qm (d := 20) rfl (c2) ?_)
  all_goals (refine AtT.zB ?_)
  all_goals refine AtT.done ?_
  all_goals (refine At.nrm ?_)
  all_goals refine At.qb rfl rfl ?_
  refine At.nrm ?_
  have hE : ko rs g c = 3 := by unfold ko; rw [if_neg h0, if_neg (fun h => h g1), if_pos (by omega)]
  have hL : kE rs g c = [] := by unfold kE; rw [if_pos (by rw [hE]; decide)]
  rw [hE, hL]
  refine At.zh (.q 0 (.q 1 .done)) ?_
  refine AtT.ze ?_
  refine AtT.ze ?_
  refine AtT.done ?_
  refine At.nrm ?_
  exact At.qN rfl (.tmp rfl) (.tmp rfl) ⟨_, rfl, Sl.nil _ _ _⟩
 refine At.zh (.q 0 (.q 1 (.q 2 (.q 3 (.q 4 (.q 5 .done)))))) ?_
 refine AtT.zf ?_
 refine AtT.qp ?_
 refine AtT.zU (d := 17) rfl (c1) ?_
 refine AtT.zf ?_
 all_goals (first | refine AtT.kL 18 ?_ | refine AtT.zA (d := 18) rfl (fun hg18 => ?_) (fun hg18 => ?_) | refine AtT.zz (d := 18) rfl (fun hg18 => ?_) (fun hg18 => ?_))
 all_goals first|refine AtT.zi ?_|refine AtT.zg ?_|(refine AtT.zf ?_)
 all_goals first|refine AtT.zi ?_|refine AtT.zg ?_|(refine AtT.qJ ?_)
 all_goals (refine AtT.zU (d := 20) rfl (c2) ?_)
 all_goals (refine AtT.zB ?_)
 all_goals refine AtT.done ?_
 all_goals (refine At.nrm ?_)
 all_goals refine At.qf rfl rfl ?_
 refine At.nrm ?_
 have hE : ko rs g c = 0 := by unfold ko; rw [if_neg h0, if_neg (fun h => h g1), if_neg (by omega)]
 have hL : kE rs g c = stL fun y => c * ja rs g y := by unfold kE; rw [if_neg (by rw [hE]; simp)]
 rw [hE, hL]
 refine At.zh (.q 0 (.q 1 (.q 2 (.n false 3 (.q 4 (.q 5 .done)))))) ?_
 refine AtT.zf ?_
 refine AtT.zf ?_
 refine AtT.zf ?_
 refine AtT.qa rfl rfl ok60 (rawOf_f rs hrs 8 g c g1.1 g1.2 (by omega) (by omega) _ _ hv) ?_
 rintro v25 V25 hV25 hs25
 refine AtT.ze ?_
 refine AtT.ze ?_
 refine AtT.done ?_
 refine At.nrm ?_
 exact At.qN rfl (.tmp rfl) (.tmp rfl) ⟨_, rfl, hs25⟩
end Go.Proofs.YtpoignmclfdgpaaGreatDoor
set_option linter.unusedVariables false
namespace Go.Proofs.YtpoignmclfdgpaaGreatDoor
open Go.Lw Go.Gl Go.Bk Go.RowKit
theorem seen_push2 {α β : Type} {M : MM α β} {seen : Array Nat} {e e' : α × β × Nat} (hb : (M.map (·.2.2)).Nodup) (he : e ∈ M) (he' : e' ∈ M) : e'.2.2 ∈ seen.push e.2.2 ↔ (e'.2.2 ∈ seen ∨ e' = e) := by
 rw [Array.mem_push]
 constructor
 ·rintro (h | h)
  ·exact .inl h
  ·exact .inr (inj_of (fun e : α × β × Nat => e.2.2) hb he' he h)
 ·rintro (h | rfl)
  ·exact .inl h
  ·exact .inr rfl
def seenF (M : MM Int Int) (W : Nat → Int) (seen : Array Nat) : Nat → Int := fun s => if M.any (fun e => decide (e.1 = (s : Int)) && seen.contains e.2.2) = true then W s else 0
theorem seenF_nil (M : MM Int Int) (W : Nat → Int) : seenF M W #[] = fun _ => 0 := by
 funext s
 unfold seenF
 rw [if_neg]
 simp
theorem seenF_push {M : MM Int Int} {c : Nat} {W : Nat → Int} (h : WMap M c W) {e : Int × Int × Nat} (he : e ∈ M) {T : Nat} (hT : e.1 = (T : Int)) (seen : Array Nat) : seenF M W (seen.push e.2.2) = upd (seenF M W seen) T (W T) := by
 funext s
 rw [qO]
 unfold seenF
 by_cases hs : s = T
 ·subst hs
  rw [if_pos rfl, if_pos]
  rw [List.any_eq_true]
  exact ⟨e, he, by simp [hT]⟩
 ·rw [if_neg hs]
  congr 1
  rw [eq_iff_iff, List.any_eq_true, List.any_eq_true]
  constructor
  ·rintro ⟨e', h1, h2⟩
   simp only [Bool.and_eq_true, decide_eq_true_eq, Array.contains_iff_mem] at h2
   refine ⟨e', h1, ?_⟩
   rcases (seen_push2 h.ok.borns he h1).1 h2.2 with h3 | rfl
   ·simp [h2.1, h3]
   ·rw [hT] at h2; omega
  ·rintro ⟨e', h1, h2⟩
   simp only [Bool.and_eq_true, decide_eq_true_eq, Array.contains_iff_mem] at h2
   exact ⟨e', h1, by simp [h2.1, h2.2]⟩
theorem seenF_all {M : MM Int Int} {c : Nat} {W : Nat → Int} (h : WMap M c W) {seen : Array Nat} (hall : ∀ e ∈ M, e.2.2 ∈ seen) (s : Nat) : seenF M W seen s = W s := by
 unfold seenF
 by_cases hh : jK (s : Int) M = true
 ·rw [if_pos]
  obtain ⟨e, he, hes⟩ := (mhas_iff _ M).1 hh
  rw [List.any_eq_true]
  exact ⟨e, he, by simp [hes, hall e he]⟩
 ·rw [if_neg]
  ·rw [← h.get s, mget_none hh]
  ·intro hc
   rw [List.any_eq_true] at hc
   obtain ⟨e, he, h2⟩ := hc
   simp only [Bool.and_eq_true, decide_eq_true_eq] at h2
   exact hh ((mhas_iff _ M).2 ⟨e, he, h2.1⟩)
theorem mem_get {M : MM Int Int} {c : Nat} {W : Nat → Int} (h : WMap M c W) {e : Int × Int × Nat} (he : e ∈ M) {T : Nat} (hT : e.1 = (T : Int)) : e.2.1 = W T := by
 have h1 := h.get T
 have key : ∀ {l : MM Int Int}, (l.map (·.1)).Nodup → e ∈ l → qZ e.1 0 l = e.2.1 := by
  intro l
  induction l with
  | nil => intro _ h; cases h
  | cons x l ih =>
   intro hn hm
   simp only [List.map_cons, List.nodup_cons] at hn
   simp only [qZ]
   rcases List.mem_cons.1 hm with rfl | hm
   ·rw [if_pos rfl]
   ·rw [if_neg (fun h => hn.1 (by rw [← h]; exact List.mem_map_of_mem hm))]
    exact ih hn.2 hm
 rw [← hT, key h.ok.keys he] at h1
 exact h1
theorem praw_f (rs : List Rc) (g c : Int) (V : View) (v : Value) (hv : RsV V v rs) : Fnc Tryz.prog 18 [v, iv g, iv c] V fun r V' => ∃ u, r = .tuple #[u, iv (ko rs g c)] ∧ SlI V' u (kE rs g c) := by
 refine qh Tryz.func18 rfl Tryz.ntmps18 (Nat.le_of_ble_eq_true rfl) ?_
 intro w0 hw0
 refine At.nrm ?_
 refine At.zh (.q 0 (.q 1 .done)) ?_
 refine AtT.ze ?_
 refine AtT.ze ?_
 refine AtT.done ?_
 refine At.nrm ?_
 refine At.zh (.q 0 (.n false 1 (.q 2 .done))) ?_
 refine AtT.zf ?_
 refine AtT.zG rfl rfl ok20 (checkRecipes_f rs _ _ hv) ?_
 rintro _ rfl
 refine AtT.ze ?_
 refine AtT.done ?_
 refine At.nrm ?_
 refine At.nrm ?_
 refine At.zh (.q 0 (.q 1 (.q 2 .done))) ?_
 refine AtT.zf ?_
 refine AtT.qH ?_
 refine AtT.ze ?_
 refine AtT.done ?_
 refine At.nrm ?_
 refine At.zX rfl (fun h0 => ?_) (fun h0 => ?_)
 ·have hE : ko rs g c = crE rs := by unfold ko; rw [if_pos h0]
  have hL : kE rs g c = [] := by unfold kE; rw [if_pos (by rw [hE]; exact h0)]
  rw [hE, hL]
  refine At.nrm ?_
  refine At.zh (.q 0 (.q 1 (.q 2 .done))) ?_
  refine AtT.zf ?_
  refine AtT.ze ?_
  refine AtT.ze ?_
  refine AtT.done ?_
  refine At.nrm ?_
  exact At.qN rfl (.tmp rfl) (.tmp rfl) ⟨_, rfl, Sl.nil _ _ _⟩
 have hrs := recsE_iff.1 (show crE rs = 0 from Classical.not_not.1 h0)
 refine At.nrm ?_
 by_cases g1 : 0 ≤ g ∧ g ≤ 7
 rotate_left
 ·refine At.zh (.q 0 (.n false 1 (.n false 2 (.q 3 (.q 4 .done))))) ?_
  refine AtT.zf ?_
  refine AtT.zQ (qz _) ?_
  intro q22 V22 hV22 hq22
  have g22 : Le V V22 := by first | exact hV22 | exact Le.trans (by assumption) hV22
  refine AtT.qa rfl rfl jU (qC 0 7 g _ _ (Sl.lit (l := [g]) hq22 rfl (by simp))) ?_
  rintro v23 V23 hV23 rfl
  refine AtT.zU (d := 23) rfl (g1) ?_
  refine AtT.qF ?_
  refine AtT.qM (d := 24) rfl ((show (!false) = true from rfl)) ?_
  refine AtT.ze ?_
  refine AtT.done ?_
  refine At.nrm ?_
  all_goals refine At.qb rfl rfl ?_
  refine At.nrm ?_
  have hE : ko rs g c = 2 := by unfold ko; rw [if_neg h0, if_pos g1]
  have hL : kE rs g c = [] := by unfold kE; rw [if_pos (by rw [hE]; decide)]
  rw [hE, hL]
  refine At.zh (.q 0 (.q 1 .done)) ?_
  refine AtT.ze ?_
  refine AtT.ze ?_
  refine AtT.done ?_
  refine At.nrm ?_
  exact At.qN rfl (.tmp rfl) (.tmp rfl) ⟨_, rfl, Sl.nil _ _ _⟩
 refine At.zh (.q 0 (.n false 1 (.n false 2 (.q 3 (.q 4 .done))))) ?_
 refine AtT.zf ?_
 refine AtT.zQ (qz _) ?_
 intro q22 V22 hV22 hq22
 have g22 : Le V V22 := by first | exact hV22 | exact Le.trans (by assumption) hV22
 refine AtT.qa rfl rfl jU (qC 0 7 g _ _ (Sl.lit (l := [g]) hq22 rfl (by simp))) ?_
 rintro v23 V23 hV23 rfl
 refine AtT.qm (d := 23) rfl (g1) ?_
 refine AtT.qF ?_
 refine AtT.qM (d := 24) rfl ((show (!true) = false from rfl)) ?_
 refine AtT.ze ?_
 refine AtT.done ?_
 refine At.nrm ?_
 all_goals refine At.qf rfl rfl ?_
 refine At.nrm ?_
 by_cases c1 : c < 0
 ·refine At.zh (.q 0 (.q 1 (.q 2 (.q 3 (.q 4 (.q 5 (.q 6 .done))))))) ?_
  refine AtT.zf ?_
  refine AtT.qp ?_
  refine AtT.qm (d := 27) rfl (c1) ?_
  refine AtT.zf ?_
  all_goals (first | refine AtT.kL 28 ?_ | refine AtT.zA (d := 28) rfl (fun hg28 => ?_) (fun hg28 => ?_) | refine AtT.zz (d := 28) rfl (fun hg28 => ?_) (fun hg28 => ?_))
  all_goals first|refine AtT.zi ?_|refine AtT.zg ?_|(refine AtT.zf ?_)
  all_goals first|refine AtT.zi ?_|refine AtT.zg ?_|(refine AtT.qJ ?_)
  all_goals (refine AtT.zB ?_)
  all_goals (refine AtT.ze ?_)
  all_goals refine AtT.done ?_
  all_goals (refine At.nrm ?_)
  all_goals refine At.qb rfl rfl ?_
  refine At.nrm ?_
  have hE : ko rs g c = 3 := by unfold ko; rw [if_neg h0, if_neg (fun h => h g1), if_pos (by omega)]
  have hL : kE rs g c = [] := by unfold kE; rw [if_pos (by rw [hE]; decide)]
  rw [hE, hL]
  refine At.zh (.q 0 (.q 1 .done)) ?_
  refine AtT.ze ?_
  refine AtT.ze ?_
  refine AtT.done ?_
  refine At.nrm ?_
  exact At.qN rfl (.tmp rfl) (.tmp rfl) ⟨_, rfl, Sl.nil _ _ _⟩
 by_cases c2 : 1000 < c
 ·refine At.zh (.q 0 (.q 1 (.q 2 (.q 3 (.q 4 (.q 5 (.q 6 .done))))))) ?_
  refine AtT.zf ?_
  refine AtT.qp ?_
  refine AtT.zU (d := 27) rfl (c1) ?_
  refine AtT.zf ?_
  all_goals (first | refine AtT.kL 28 ?_ | refine AtT.zA (d := 28) rfl (fun hg28 => ?_) (fun hg28 => ?_) | refine AtT.zz (d := 28) rfl (fun hg28 => ?_) (fun hg28 => ?_))
  all_goals first|refine AtT.zi ?_|refine AtT.zg ?_|(refine AtT.zf ?_)
  all_goals first|refine AtT.zi ?_|refine AtT.zg ?_|(refine AtT.qJ ?_)
  all_goals (refine AtT.qm (d := 30) rfl (c2) ?_)
  all_goals (refine AtT.zB ?_)
  all_goals (refine AtT.ze ?_)
  all_goals refine AtT.done ?_
  all_goals (refine At.nrm ?_)
  all_goals refine At.qb rfl rfl ?_
  refine At.nrm ?_
  have hE : ko rs g c = 3 := by unfold ko; rw [if_neg h0, if_neg (fun h => h g1), if_pos (by omega)]
  have hL : kE rs g c = [] := by unfold kE; rw [if_pos (by rw [hE]; decide)]
  rw [hE, hL]
  refine At.zh (.q 0 (.q 1 .done)) ?_
  refine AtT.ze ?_
  refine AtT.ze ?_
  refine AtT.done ?_
  refine At.nrm ?_
  exact At.qN rfl (.tmp rfl) (.tmp rfl) ⟨_, rfl, Sl.nil _ _ _⟩
 refine At.zh (.q 0 (.q 1 (.q 2 (.q 3 (.q 4 (.q 5 (.q 6 .done))))))) ?_
 refine AtT.zf ?_
 refine AtT.qp ?_
 refine AtT.zU (d := 27) rfl (c1) ?_
 refine AtT.zf ?_
 all_goals (first | refine AtT.kL 28 ?_ | refine AtT.zA (d := 28) rfl (fun hg28 => ?_) (fun hg28 => ?_) | refine AtT.zz (d := 28) rfl (fun hg28 => ?_) (fun hg28 => ?_))
 all_goals first|refine AtT.zi ?_|refine AtT.zg ?_|(refine AtT.zf ?_)
 all_goals first|refine AtT.zi ?_|refine AtT.zg ?_|(refine AtT.qJ ?_)
 all_goals (refine AtT.zU (d := 30) rfl (c2) ?_)
 all_goals (refine AtT.zB ?_)
 all_goals (refine AtT.ze ?_)
 all_goals refine AtT.done ?_
 all_goals (refine At.nrm ?_)
 all_goals refine At.qf rfl rfl ?_
 refine At.nrm ?_
 have hE : ko rs g c = 0 := by unfold ko; rw [if_neg h0, if_neg (fun h => h g1), if_neg (by omega)]
 have hL : kE rs g c = stL fun y => c * ja rs g y := by unfold kE; rw [if_neg (by rw [hE]; simp)]
 rw [hE, hL]
 obtain ⟨G, rfl⟩ : ∃ G : Nat, g = (G : Int) := ⟨g.toNat, by omega⟩
 have hG8 : G < 8 := by omega
 refine At.zh (.q 0 (.n true 1 (.q 2 .done))) ?_
 refine AtT.zf ?_
 refine AtT.jq rfl trivial rfl ok56 (by decide) (List.Perm.refl _) (newStore_f rs hrs _ _ ((hv.le hV22).le hV23)) ?_
 rintro _ _ V33 ⟨p, m1, m2, rfl, hV33, rfl, hrm⟩
 refine AtT.ze ?_
 refine AtT.done ?_
 refine At.nrm ?_
 refine At.giveB (b := p) zP.zH (fun V1 hV1 hbp => ?_)
 have hsto := StoV.of hbp
 have hrm1 := hrm.le hV1
 have hw0 := (WMap.nil 0).put (g := (G : Int)) (by omega) (0 + c)
 rw [Int.toNat_natCast, Int.zero_add] at hw0
 have hc4 : 0 ≤ c ∧ c * 10460353203 ≤ 10460353203000 := by omega
 refine At.nrm ?_
 refine At.zh (.q 0 (.q 1 (.q 2 (.n true 3 .done)))) ?_
 refine AtT.zf ?_
 refine AtT.zf ?_
 refine AtT.zf ?_
 refine AtT.jq rfl trivial rfl ok57 (by decide) (zP.perm zP.zH) (want_f [] 0 _ (WMap.nil 0) G c (by omega) (Fit.of (by omega) (by omega)) p m2 m1 _ _ _ hsto) ?_
 rintro _ _ V2 ⟨rfl, rfl, rfl⟩
 refine AtT.done ?_
 refine At.nrm ?_
 rw [Int.zero_add]
 refine At.nrm ?_
 refine At.zh (.q 0 (.q 1 .done)) ?_
 refine AtT.zf ?_
 refine AtT.ze ?_
 refine AtT.done ?_
 refine At.nrm ?_
 refine At.lp (ι := Nat × MM Int Int × Nat × (Nat → Int)) (KS := fun q => [(9, .pointer (some ⟨p, 0, none⟩)), (10, iv ((q.1 : Int) - 1))]) (OS := fun q => [.blk m2 (qY ekT iv q.2.1 q.2.2.1)])
  (VS := fun q V' => V' = V2 ∧ q.1 ≤ 8 ∧ WMap q.2.1 q.2.2.1 q.2.2.2 ∧ Wnt rs q.2.2.2 G c ∧ splitTo rs q.1 q.2.2.2 = splitTo rs (G + 1) (upd (fun _ => 0) G c)) (μ := fun q => q.1) (G + 1, (mput (G : Int) c [] 0).1, (mput (G : Int) c [] 0).2, upd (fun _ => 0) G c) ?_ ?_ ?_ ?_
 ·exact ⟨rfl, ivs (by push_cast; omega), trivial⟩
 ·exact Pt.zH
 ·exact ⟨rfl, by dsimp only; omega, hw0, Wnt.start hrs hG8 (by omega), rfl⟩
 rintro ⟨t, M, cM, Wt⟩ V' ks' O' ⟨rfl, ht8, hWM, hWn, hst⟩ hk hO hl2
 dsimp only at ht8 hWM hWn hst hk hO
 subst hk hO
 refine At.nrm ?_
 refine At.zh (.q 0 (.q 1 .done)) ?_
 refine AtT.zf ?_
 refine AtT.kgeq ?_
 refine AtT.done ?_
 refine At.nrm ?_
 refine At.zX rfl (fun hp => ?_) (fun hp => ?_)
 ·obtain ⟨t, rfl⟩ : ∃ t', t = t' + 1 := ⟨t - 1, by omega⟩
  have ht1 : ((t + 1 : Nat) : Int) - 1 = (t : Int) := by omega
  have hbd := fun s => hWn.bd hrs hG8 hc4 s
  refine At.nrm ?_
  refine At.zh (.q 0 (.q 1 (.n true 2 .done))) ?_
  refine AtT.zf ?_
  refine AtT.zf ?_
  rw [ht1]
  refine AtT.jq rfl trivial rfl ok58 (by decide) (zP.perm zP.zH) (split_f rs hrs M cM Wt hWM t (by omega) 10460353203000 hbd (by decide) p m1 m2 _ _ _ hsto hrm1) ?_
  rintro _ _ _ ⟨rfl, rfl, M', c', rfl, hWM', _⟩
  refine AtT.done ?_
  refine At.nrm ?_
  rw [Int.toNat_natCast] at hWM'
  refine At.nrm ?_
  refine At.zh (.q 0 (.q 1 (.q 2 .done))) ?_
  refine AtT.zf ?_
  first | refine AtT.je ?_ | refine AtT.jf ?_
  refine AtT.ze ?_
  refine AtT.done ?_
  refine At.nrm ?_
  refine At.round (t, M', c', jJ rs t Wt) ?_ ?_ ?_ ?_
  ·show t < t + 1; omega
  ·exact ⟨rfl, by dsimp only; omega, hWM', hWn.split hrs (by omega), hst⟩
  ·exact ⟨rfl, ivs (by omega), trivial⟩
  ·exact Pt.zH
 obtain rfl : t = 0 := by omega
 have hWt : Wt = splitTo rs (G + 1) (upd (fun _ => 0) G c) := hst
 have hfin : stL Wt = stL fun y => c * ja rs G y := stL_ext fun s hs => by rw [hWt, split_raw hrs hG8 c hs]
 have hc3 := hsto.c3
 refine At.nrm ?_
 refine At.zh (.n false 0 (.q 1 .done)) ?_
 refine AtT.makeSl rfl trivial ei rfl Tryz.underlying28 rw2 rfl rfl (by decide) rfl rfl (by omega) (by omega) (by decide) (m := 8) (za := (0 : Int)) ?_
 intro b46
 refine AtT.ze ?_
 refine AtT.done ?_
 refine At.nrm ?_
 refine At.zh (.q 0 (.q 1 (.q 2 (.q 3 (.n false 4 .done))))) ?_
 refine AtT.zf ?_
 refine AtT.jN ?_
 first | refine AtT.zk qV ?_ | with_reducible refine AtT.zl qV ?_ | refine AtT.zn qV ?_
 first | refine AtT.zm tk88 ?_ | refine AtT.zo tk88 ?_
 refine AtT.range rfl trivial Tryz.underlying88 rfl zP.zH (by decide) ?_
 intro b51
 refine AtT.done ?_
 refine At.nrm ?_
 refine At.lp (ι := Array Nat) (KS := fun seen => [(11, .slice (some ⟨b46, 0, none⟩) 8 8), (51, .pointer (some ⟨b51, 0, none⟩))])
  (OS := fun seen => [.blk b51 (.mapIter (some m2) cM seen cM), .blk m2 (qY ekT iv M cM), .blk b46 (LC (stC (seenF M Wt seen)) 2)])
  (VS := fun seen V'' => V'' = V') (μ := fun seen => (M.filter fun e => !seen.contains e.2.2).length) #[] ?_ ?_ ?_ ?_
 ·exact ⟨rfl, rfl, trivial⟩
 ·rw [seenF_nil]; exact Pt.zH
 ·exact rfl
 rintro seen V2 ks' O' rfl hk hO hl3
 subst hk hO
 refine At.nrm ?_
 refine At.zh (.n true 0 (.q 1 .done)) ?_
 all_goals (refine AtT.next rfl trivial rfl zP.zH zP.zH (fun e he => hWM.ok.lt e he) (Nat.le_refl _) (by decide) (fun hall => ?_) (fun e he hns => ?_))
 all_goals (refine AtT.zt ?_)
 all_goals refine AtT.done ?_
 all_goals (refine At.nrm ?_)
 rotate_left
 ·refine At.qb rfl rfl ?_
  have hun := unseen_lt he hns
  have hrg := hWM.rng e.1 ((mhas_iff _ M).2 ⟨e, he, rfl⟩)
  obtain ⟨T, hT⟩ : ∃ T : Nat, e.1 = (T : Int) := ⟨e.1.toNat, by omega⟩
  have hT8 : T < 8 := by omega
  have heW := mem_get hWM he hT
  have hset : (stC (seenF M Wt seen)).set (T * 1) (iv e.2.1) = stC (seenF M Wt (seen.push e.2.2)) := by rw [Nat.mul_one, jL _ _ hT8, heW, seenF_push hWM he hT]
  refine At.nrm ?_
  refine At.zh (.n false 0 (.q 1 (.q 2 (.n false 3 (.n true 4 (.q 5 .done)))))) ?_
  refine AtT.entry rfl trivial rfl zP.zH zP.zH he hWM.ok.borns (by decide) ?_
  refine AtT.zt ?_
  refine AtT.zt ?_
  refine AtT.zT z92 ?_
  intro b12
  refine AtT.zF tk92 ?_
  refine AtT.ze ?_
  refine AtT.done ?_
  refine At.nrm ?_
  refine At.nrm ?_
  refine At.zh (.q 0 (.q 1 (.q 2 (.q 3 (.q 4 (.n true 5 .done)))))) ?_
  refine AtT.zf ?_
  first | refine AtT.zk fo92_0 ?_ | with_reducible refine AtT.zl fo92_0 ?_ | refine AtT.zn fo92_0 ?_
  first | refine AtT.zm tk3 ?_ | refine AtT.zo tk3 ?_
  rw [hT]
  refine AtT.zf ?_
  refine AtT.jV rfl trivial Tryz.underlying28 tk2 rfl rfl hT8 (by decide) ?_
  refine AtT.jk rfl trivial rfl rfl tk2 rfl rfl (by repeat first|exact Upd.here|apply Upd.there) (qR (by simp; omega) hset) ?_
  refine AtT.done ?_
  refine At.nrm ?_
  refine At.nrm ?_
  refine At.round (seen.push e.2.2) ?_ ?_ ?_ ?_
  ·exact hun
  ·exact rfl
  ·exact ⟨rfl, rfl, trivial⟩
  ·exact Pt.zH
 refine At.qf rfl rfl ?_
 have hend : stC (seenF M Wt seen) = stC Wt := stC_ext fun s _ => seenF_all hWM hall s
 rw [hend]
 refine At.nrm ?_
 refine At.giveB (b := b46) zP.zH (fun V4 hV4 hb4 => ?_)
 refine At.zh (.q 0 (.q 1 (.q 2 .done))) ?_
 refine AtT.zf ?_
 refine AtT.ze ?_
 refine AtT.ze ?_
 refine AtT.done ?_
 refine At.nrm ?_
 exact At.qN rfl (.tmp rfl) (.tmp rfl) ⟨_, rfl, by rw [← hfin]; exact sl_stL hb4⟩
end Go.Proofs.YtpoignmclfdgpaaGreatDoor
set_option linter.unusedVariables false
namespace Go.Proofs.YtpoignmclfdgpaaGreatDoor
open Go.Lw Go.Gl Go.Bk Go.RowKit
theorem rawL_bd {rs : List Rc} {g c : Int} (h : ko rs g c = 0) : ∃ st : Nat → Int, kE rs g c = stL st ∧ ∀ s, s < 8 → 0 ≤ st s ∧ st s ≤ 17592186044416 := by
 have hE := h
 unfold ko at h
 split at h
 ·rename_i h0; exact absurd h h0
 rename_i h0
 split at h
 ·cases h
 rename_i hg
 split at h
 ·cases h
 rename_i hc
 have hcr : qE (-1) rs := recsE_iff.1 (Classical.not_not.1 h0)
 refine ⟨fun y => c * ja rs g y, by unfold kE; rw [if_neg (by rw [hE]; simp)], fun s _ => ?_⟩
 have hb := rawO_bd hcr (g := g) (by omega) (s : Int)
 dsimp only
 generalize ja rs g (s : Int) = x at hb
 constructor
 ·exact Int.mul_nonneg (by omega) hb.1
 ·have : c * x ≤ 1000 * 10460353203 := Int.mul_le_mul (by omega) hb.2 hb.1 (by decide)
  omega
theorem made_f (rs : List Rc) (g c : Int) (V : View) (v : Value) (hv : RsV V v rs) : Fnc Tryz.prog 47 [v, iv g, iv c] V fun r V' => ∃ u, r = .tuple #[u, .bool (decide (ko rs g c = 0))] ∧ SlI V' u (kE rs g c) := by
 by_cases h0 : ko rs g c = 0
 rotate_left
 ·have hL : kE rs g c = [] := by unfold kE; rw [if_pos h0]
  rw [decide_eq_false h0, hL]
  refine qh Tryz.func47 rfl Tryz.ntmps47 (Nat.le_of_ble_eq_true rfl) ?_
  intro w0 hw0
  refine At.nrm ?_
  refine At.zh (.q 0 (.q 1 .done)) ?_
  refine AtT.ze ?_
  refine AtT.ze ?_
  refine AtT.done ?_
  refine At.nrm ?_
  refine At.zh (.q 0 (.q 1 (.q 2 (.n false 3 (.q 4 (.q 5 (.q 6 (.q 7 (.q 8 .done))))))))) ?_
  refine AtT.zf ?_
  refine AtT.zf ?_
  refine AtT.zf ?_
  refine AtT.qa rfl rfl ok18 (praw_f rs g c _ _ hv) ?_
  rintro v15 V15 hV15 ⟨u, rfl, hs⟩
  refine AtT.zf ?_
  refine AtT.zt ?_
  refine AtT.zt ?_
  refine AtT.ze ?_
  refine AtT.ze ?_
  refine AtT.done ?_
  refine At.nrm ?_
  refine At.nrm ?_
  refine At.zh (.q 0 (.q 1 (.q 2 (.q 3 (.q 4 (.q 5 (.q 6 .done))))))) ?_
  refine AtT.zf ?_
  refine AtT.qH ?_
  refine AtT.qm (d := 19) rfl (h0) ?_
  refine AtT.zf ?_
  all_goals (first | refine AtT.kL 20 ?_ | refine AtT.zA (d := 20) rfl (fun hg20 => ?_) (fun hg20 => ?_) | refine AtT.zz (d := 20) rfl (fun hg20 => ?_) (fun hg20 => ?_))
  all_goals first|refine AtT.zi ?_|refine AtT.zg ?_|(refine AtT.zf ?_)
  all_goals first|refine AtT.zi ?_|refine AtT.zg ?_|(first | refine AtT.zR Tryz.underlying28 ?_ | refine AtT.zN Tryz.underlying28 ?_)
  all_goals first|refine AtT.zi ?_|refine AtT.zg ?_|(refine AtT.qH ?_)
  all_goals (refine AtT.zB ?_)
  all_goals refine AtT.done ?_
  all_goals (refine At.nrm ?_)
  all_goals refine At.qb rfl rfl ?_
  refine At.nrm ?_
  refine At.zh (.q 0 (.q 1 .done)) ?_
  refine AtT.ze ?_
  refine AtT.ze ?_
  refine AtT.done ?_
  refine At.nrm ?_
  exact At.qN rfl (.tmp rfl) (.tmp rfl) ⟨_, rfl, Sl.nil _ _ _⟩
 obtain ⟨st, hL, hbd⟩ := rawL_bd h0
 rw [decide_eq_true h0, hL]
 refine qh Tryz.func47 rfl Tryz.ntmps47 (Nat.le_of_ble_eq_true rfl) ?_
 intro w0 hw0
 refine At.nrm ?_
 refine At.zh (.q 0 (.q 1 .done)) ?_
 refine AtT.ze ?_
 refine AtT.ze ?_
 refine AtT.done ?_
 refine At.nrm ?_
 refine At.zh (.q 0 (.q 1 (.q 2 (.n false 3 (.q 4 (.q 5 (.q 6 (.q 7 (.q 8 .done))))))))) ?_
 refine AtT.zf ?_
 refine AtT.zf ?_
 refine AtT.zf ?_
 refine AtT.qa rfl rfl ok18 (praw_f rs g c _ _ hv) ?_
 rintro v15 V15 hV15 ⟨u, rfl, hs⟩
 refine AtT.zf ?_
 refine AtT.zt ?_
 refine AtT.zt ?_
 refine AtT.ze ?_
 refine AtT.ze ?_
 refine AtT.done ?_
 refine At.nrm ?_
 rw [hL] at hs
 have hl8 : (stL st).length = 8 := rfl
 obtain ⟨au, cu, rfl, _, _, _, _⟩ := id hs
 refine At.nrm ?_
 refine At.zh (.q 0 (.q 1 (.q 2 (.q 3 (.q 4 (.q 5 (.q 6 .done))))))) ?_
 refine AtT.zf ?_
 refine AtT.qH ?_
 refine AtT.zU (d := 19) rfl ((fun h => h h0)) ?_
 refine AtT.zf ?_
 all_goals (first | refine AtT.kL 20 ?_ | refine AtT.zA (d := 20) rfl (fun hg20 => ?_) (fun hg20 => ?_) | refine AtT.zz (d := 20) rfl (fun hg20 => ?_) (fun hg20 => ?_))
 all_goals first|refine AtT.zi ?_|refine AtT.zg ?_|(refine AtT.zf ?_)
 all_goals first|refine AtT.zi ?_|refine AtT.zg ?_|(first | refine AtT.zR Tryz.underlying28 ?_ | refine AtT.zN Tryz.underlying28 ?_)
 all_goals first|refine AtT.zi ?_|refine AtT.zg ?_|(refine AtT.qH ?_)
 all_goals (refine AtT.zU (d := 23) rfl ((by omega)) ?_)
 all_goals (refine AtT.zB ?_)
 all_goals refine AtT.done ?_
 all_goals (refine At.nrm ?_)
 all_goals refine At.qf rfl rfl ?_
 refine At.nrm ?_
 refine At.zh (.q 0 .done) ?_
 refine AtT.ze ?_
 refine AtT.done ?_
 refine At.nrm ?_
 refine At.lp (ι := Nat) (KS := fun i => [(8, .slice au (stL st).length cu), (10, iv i)]) (OS := fun _ => [])
  (VS := fun i V' => V' = V15 ∧ i ≤ 8) (μ := fun i => 8 - i) 0 ?_ ?_ ?_ ?_
 ·exact ⟨rfl, rfl, trivial⟩
 ·exact Pt.zH
 ·exact ⟨rfl, Nat.zero_le _⟩
 rintro i V' ks' O' ⟨rfl, hi⟩ hk hO hl
 subst hk hO
 refine At.nrm ?_
 refine At.zh (.q 0 (.q 1 (.q 2 (.q 3 .done)))) ?_
 refine AtT.zf ?_
 refine AtT.zf ?_
 first | refine AtT.zR Tryz.underlying28 ?_ | refine AtT.zN Tryz.underlying28 ?_
 refine AtT.qp ?_
 refine AtT.done ?_
 refine At.nrm ?_
 refine At.zX rfl (fun hp => ?_) (fun hp => ?_)
 ·have hi8 : i < 8 := by omega
  have hat := stL_at st hi8
  have hb := hbd i hi8
  have hP : ∀ e, (stL st)[(i : Int).toNat]? = some e → st i = e := fun e he => by rw [Int.toNat_natCast, hat] at he; exact Option.some.inj he
  refine At.nrm ?_
  refine At.zh (.q 0 (.q 1 (.q 2 (.q 3 (.q 4 (.q 5 (.q 6 (.q 7 (.q 8 (.q 9 (.q 10 (.q 11 .done)))))))))))) ?_
  refine AtT.zf ?_
  refine AtT.zf ?_
  refine AtT.qB Tryz.underlying28 tk2 ?_
  intro p33 e33 he33 hc33
  first | refine AtT.zm tk2 ?_ | refine AtT.zo tk2 ?_
  obtain rfl := hP _ he33
  refine AtT.qp ?_
  refine AtT.zU (d := 35) rfl ((by omega)) ?_
  refine AtT.zf ?_
  all_goals (first | refine AtT.kL 36 ?_ | refine AtT.zA (d := 36) rfl (fun hg36 => ?_) (fun hg36 => ?_) | refine AtT.zz (d := 36) rfl (fun hg36 => ?_) (fun hg36 => ?_))
  all_goals first|refine AtT.zi ?_|refine AtT.zg ?_|(refine AtT.zf ?_)
  all_goals first|refine AtT.zi ?_|refine AtT.zg ?_|(refine AtT.zf ?_)
  all_goals first|refine AtT.zi ?_|refine AtT.zg ?_|(refine AtT.qB Tryz.underlying28 tk2 ?_) ; (intro p39 e39 he39 hc39)
  all_goals first|refine AtT.zi ?_|refine AtT.zg ?_|(first | refine AtT.zm tk2 ?_ | refine AtT.zo tk2 ?_)
  all_goals (obtain rfl := hP _ he39)
  all_goals first|refine AtT.zi ?_|refine AtT.zg ?_|(refine AtT.qJ ?_)
  all_goals (refine AtT.zU (d := 41) rfl ((by omega)) ?_)
  all_goals (refine AtT.zB ?_)
  all_goals refine AtT.done ?_
  all_goals (refine At.nrm ?_)
  all_goals refine At.qf rfl rfl ?_
  refine At.nrm ?_
  refine At.zh (.q 0 (.q 1 (.q 2 .done))) ?_
  refine AtT.zf ?_
  first | refine AtT.qI ?_ | refine AtT.ql ?_
  refine AtT.ze ?_
  refine AtT.done ?_
  refine At.nrm ?_
  refine At.round (i + 1) ?_ ?_ ?_ ?_
  ·show 8 - (i + 1) < 8 - i; omega
  ·exact ⟨rfl, by omega⟩
  ·exact ⟨rfl, ivs (by omega), trivial⟩
  ·exact Pt.zH
 refine At.nrm ?_
 refine At.zh (.q 0 (.q 1 (.q 2 .done))) ?_
 refine AtT.zf ?_
 refine AtT.ze ?_
 refine AtT.ze ?_
 refine AtT.done ?_
 refine At.nrm ?_
 exact At.qN rfl (.tmp rfl) (.tmp rfl) ⟨_, rfl, hs⟩
end Go.Proofs.YtpoignmclfdgpaaGreatDoor
set_option linter.unusedVariables false
namespace Go.Proofs.YtpoignmclfdgpaaGreatDoor
open Go.Lw Go.Gl Go.Bk Go.RowKit
def jr : List Int → List Pt
 | a :: b :: l => ⟨a, b⟩ :: jr l
 | _ => []
theorem pairsI_len : ∀ l : List Int, (jr l).length = l.length / 2
 | [] => by simp [jr]
 | [a] => by simp [jr]
 | a :: b :: l => by simp only [jr, List.length_cons, pairsI_len l]; omega
theorem pairsI_at : ∀ {l : List Int} {k : Nat} {a b : Int}, l[2 * k]? = some a → l[2 * k + 1]? = some b → (jr l)[k]? = some ⟨a, b⟩
 | [], k, a, b, h, _ => by simp at h
 | [x], k, a, b, h, h2 => by
  cases k with
  | zero => simp at h2
  | succ k => rw [show 2 * (k + 1) = 2 * k + 1 + 1 by omega] at h; simp at h
 | x :: y :: l, 0, a, b, h, h2 => by
  simp at h h2
  subst h h2; rfl
 | x :: y :: l, k + 1, a, b, h, h2 => by
  rw [show 2 * (k + 1) = 2 * k + 1 + 1 by omega, List.getElem?_cons_succ, List.getElem?_cons_succ] at h
  rw [show 2 * (k + 1) + 1 = 2 * k + 1 + 1 + 1 by omega, List.getElem?_cons_succ, List.getElem?_cons_succ] at h2
  exact pairsI_at (l := l) h h2
theorem recipe_f (g : Int) (l : List Int) (hln : l.length ≤ 1000) (V : View) (v : Value) (hs : SlI V v l) : Fnc Tryz.prog 86 [iv g, v] V fun r V' => ∃ (a : Option Addr) (c : Nat), r = .agg #[iv g, .slice a (jr l).length c] ∧ Sl V' pte 2 (.slice a (jr l).length c) (jr l) := by
 have hpl := pairsI_len l
 obtain ⟨al, cl, rfl, _, _, _, _⟩ := id hs
 refine qh Tryz.func86 rfl Tryz.ntmps86 (Nat.le_of_ble_eq_true rfl) ?_
 intro w0 hw0
 refine At.nrm ?_
 refine At.zh (.n false 0 .done) ?_
 refine AtT.zT z80 ?_
 intro b4
 refine AtT.done ?_
 refine At.nrm ?_
 refine At.zh (.q 0 (.q 1 (.n false 2 (.n true 3 .done)))) ?_
 refine AtT.zf ?_
 refine AtT.qG (bd80_0 _) ?_
 refine AtT.zT z80 ?_
 intro b5
 refine AtT.zF qP ?_
 refine AtT.done ?_
 refine At.nrm ?_
 refine At.newRow 69 2 ?_
 refine At.zh (.q 0 .done) ?_
 refine AtT.ze ?_
 refine AtT.done ?_
 refine At.nrm ?_
 refine At.lp (ι := Nat × Option Addr × Nat) (KS := fun g1 => [(1, .slice al l.length cl), (4, .pointer (some ⟨b4, 0, none⟩)), (5, .pointer (some ⟨b5, 0, none⟩)), (6, iv (2 * g1.1 : Nat))])
  (OS := fun g1 => [.blk b5 (LC [iv g, .slice g1.2.1 ((jr l).take g1.1).length g1.2.2] 80), .row (.slice g1.2.1 ((jr l).take g1.1).length g1.2.2) 69 2 ((jr l).take g1.1).length (flat pte ((jr l).take g1.1)), .blk b4 (LC [iv 0, .slice none 0 0] 80)])
  (VS := fun g1 V' => Le V V' ∧ g1.1 ≤ l.length / 2) (μ := fun g1 => l.length / 2 - g1.1) (0, none, 0) ?_ ?_ ?_ ?_
 ·exact ⟨rfl, rfl, rfl, rfl, trivial⟩
 ·exact Pt.zH
 ·exact ⟨Le.refl _, Nat.zero_le _⟩
 rintro ⟨k, ap, cp⟩ V3 ks' O' ⟨hVV, hkl⟩ hk hO hl
 dsimp only at hkl hk hO
 subst hk hO
 have hs3 := hs.le hVV
 refine At.nrm ?_
 refine At.zh (.q 0 (.q 1 (.q 2 (.q 3 (.q 4 .done))))) ?_
 refine AtT.zf ?_
 first | refine AtT.qI ?_ | refine AtT.ql ?_
 refine AtT.zf ?_
 first | refine AtT.zR Tryz.underlying37 ?_ | refine AtT.zN Tryz.underlying37 ?_
 refine AtT.qp ?_
 refine AtT.done ?_
 refine At.nrm ?_
 refine At.zX rfl (fun hp => ?_) (fun hp => ?_)
 ·obtain ⟨x, hx⟩ : ∃ x, l[2 * k]? = some x := ⟨_, List.getElem?_eq_getElem (by omega)⟩
  obtain ⟨z, hz⟩ : ∃ z, l[2 * k + 1]? = some z := ⟨_, List.getElem?_eq_getElem (by omega)⟩
  have hpk := pairsI_at hx hz
  have htk : (jr l).take (k + 1) = (jr l).take k ++ [⟨x, z⟩] := by rw [List.take_add_one, hpk]; rfl
  have htl : ((jr l).take k).length = k := by rw [List.length_take]; omega
  have hz2 : l[(((2 * k : Nat) : Int) + 1).toNat]? = some z := by rw [show (((2 * k : Nat) : Int) + 1).toNat = 2 * k + 1 by omega]; exact hz
  refine At.nrm ?_
  refine At.draw (.q 0 (.q 1 (.q 2 (.q 3 (.q 4 (.q 5 (.q 6 (.q 7 (.q 8 (.q 9 (.q 10 (.q 11 (.n false 12 (.n true 13 (.q 14 (.n true 15 .done)))))))))))))))) ffm (by kernel_rfl) ?_
  first | refine AtT.zk zL ?_ | with_reducible refine AtT.zl zL ?_ | refine AtT.zn zL ?_
  first | refine AtT.zm qL ?_ | refine AtT.zo qL ?_
  refine AtT.zf ?_
  refine AtT.zf ?_
  refine AtT.qB Tryz.underlying37 tk3 ?_
  intro p20 e20 he20 hc20
  first | refine AtT.zm tk3 ?_ | refine AtT.zo tk3 ?_
  obtain rfl : x = e20 := by rw [Int.toNat_natCast, hx] at he20; exact Option.some.inj he20
  refine AtT.zf ?_
  refine AtT.zf ?_
  first | refine AtT.qI ?_ | refine AtT.ql ?_
  refine AtT.qB Tryz.underlying37 tk3 ?_
  intro p25 e25 he25 hc25
  first | refine AtT.zm tk3 ?_ | refine AtT.zo tk3 ?_
  obtain rfl : z = e25 := by rw [hz2] at he25; exact Option.some.inj he25
  refine AtT.qG (bd69_0_1 _ _) ?_
  refine AtT.zQ (bs66_1_0 _ _) ?_
  intro q28 V28 hV28 hq28
  have g28 : Le V V28 := by first | exact hV28 | exact Le.trans (by assumption) hV28
  first | refine AtT.jm Tryz.underlying66 rw69 ?_
  intro a29 c29
  first | refine AtT.zk zL ?_ | with_reducible refine AtT.zl zL ?_ | refine AtT.zn zL ?_
  first | refine AtT.jh qL ?_ | refine AtT.zF qL ?_
  refine AtT.done ?_
  refine At.nrm ?_
  refine At.nrm ?_
  refine At.zh (.q 0 (.q 1 (.q 2 .done))) ?_
  refine AtT.zf ?_
  first | refine AtT.qI ?_ | refine AtT.ql ?_
  refine AtT.ze ?_
  refine AtT.done ?_
  refine At.nrm ?_
  refine At.round (k + 1, a29, c29) ?_ ?_ ?_ ?_
  ·show l.length / 2 - (k + 1) < l.length / 2 - k; omega
  ·exact ⟨hVV.trans hV28, by dsimp only; omega⟩
  ·exact ⟨rfl, rfl, rfl, ivs (by dsimp only; omega), trivial⟩
  ·dsimp only
   rw [htk, jH, show ((jr l).take k ++ [(⟨x, z⟩ : Pt)]).length = ((jr l).take k).length + 1 from by rw [List.length_append]; rfl]
   exact Pt.zH
 obtain rfl : k = l.length / 2 := by omega
 rw [show (jr l).take (l.length / 2) = jr l from by rw [← hpl, List.take_length]]
 refine At.jQ (l := jr l) pte_len rfl rfl zP.zH (fun V4 hV4 hsP => ?_)
 refine At.nrm ?_
 refine At.zh (.q 0 (.n true 1 .done)) ?_
 first | refine AtT.zD qP ?_ | refine AtT.zI qP ?_ | refine AtT.zC qP ?_
 refine AtT.zF qP ?_
 refine AtT.done ?_
 refine At.nrm ?_
 exact At.qi rfl (.agg rfl qP zP.zH rfl) ⟨ap, cp, rfl, hsP⟩
end Go.Proofs.YtpoignmclfdgpaaGreatDoor
set_option linter.unusedVariables false
namespace Go.Proofs.YtpoignmclfdgpaaGreatDoor
open Go.Lw Go.Gl Go.Bk Go.RowKit
def rs2 : List Rc := [⟨2, [⟨0, 2⟩, ⟨1, 1⟩]⟩, ⟨3, [⟨2, 2⟩]⟩]
def es6 : List En := [⟨1, 1, 0, 9⟩, ⟨1, 1, 1, 5⟩, ⟨2, 3, 2, 3⟩, ⟨3, 2, 2, 1⟩, ⟨4, 4, 3, 0⟩, ⟨5, 3, 3, 1⟩]
def bo6 : Bo := ⟨rs2, es6⟩
theorem two_f (V : View) : Fnc Tryz.prog 51 [] V fun r V' => RsV V' r rs2 := by
 refine qh Tryz.func51 rfl Tryz.ntmps51 (Nat.le_of_ble_eq_true rfl) ?_
 intro w0 hw0
 refine At.nrm ?_
 refine At.zh (.q 0 .done) ?_
 refine AtT.ze ?_
 refine AtT.done ?_
 refine At.nrm ?_
 refine At.zh (.n false 0 (.n false 1 (.n false 2 (.n false 3 (.n false 4 (.q 5 .done)))))) ?_
 refine AtT.zQ (bs37_4_0_1_2_3 _ _ _ _) ?_
 intro q1 V1 hV1 hq1
 have g1 : Le V V1 := by first | exact hV1 | exact Le.trans (by assumption) hV1
 refine AtT.qa rfl rfl ok86 (recipe_f 2 [0, 2, 1, 1] (by decide) _ _ (Sl.lit (l := [0, 2, 1, 1]) hq1 rfl (by decide))) ?_
 rintro v2 V2 hV2 ⟨a2, c2, rfl, hs2⟩
 have k2 := g1.trans hV2
 refine AtT.zQ (bs37_2_0_1 _ _) ?_
 intro q3 V3 hV3 hq3
 have g3 : Le V V3 := by first | exact hV3 | exact Le.trans (by assumption) hV3
 refine AtT.qa rfl rfl ok86 (recipe_f 3 [2, 2] (by decide) _ _ (Sl.lit (l := [2, 2]) hq3 rfl (by decide))) ?_
 rintro v4 V4 hV4 ⟨a4, c4, rfl, hs4⟩
 have k4 := g3.trans hV4
 refine AtT.zQ (bs22_2_0_1 _ _ _ _ _ _ _ _) ?_
 intro q5 V5 hV5 hq5
 have g5 : Le V V5 := by first | exact hV5 | exact Le.trans (by assumption) hV5
 refine AtT.ze ?_
 refine AtT.done ?_
 refine At.nrm ?_
 refine At.qi rfl (.tmp rfl) ⟨[((⟨2, [⟨0, 2⟩, ⟨1, 1⟩]⟩ : Rc), a2, c2), ((⟨3, [⟨2, 2⟩]⟩ : Rc), a4, c4)], _, _, rfl, rfl, Sl.of_cells rce_len hq5 (Nat.le_refl _) (by unfold maxLen; decide), fun x hx => ?_⟩
 rcases List.mem_cons.1 hx with rfl | hx
 ·exact ((hs2.le hV3).le hV4).le hV5
 ·obtain rfl := List.mem_singleton.1 hx
  exact hs4.le hV5
theorem six_f (V : View) : Fnc Tryz.prog 53 [] V fun r V' => BoV V' r bo6 := by
 refine qh Tryz.func53 rfl Tryz.ntmps53 (Nat.le_of_ble_eq_true rfl) ?_
 intro w0 hw0
 refine At.nrm ?_
 refine At.zh (.n false 0 .done) ?_
 refine AtT.zT z26 ?_
 intro b0
 refine AtT.done ?_
 refine At.nrm ?_
 refine At.zh (.n false 0 (.n false 1 (.n false 2 (.n false 3 (.n false 4 (.n false 5 (.n false 6 (.n false 7 (.q 8 (.n true 9 .done)))))))))) ?_
 refine AtT.qa rfl rfl ok51 (two_f V) ?_
 rintro v1 V1 hV1 ⟨qs, aq, cq, hqr, rfl, hsq, hq⟩
 refine AtT.zG rfl rfl ok44 (jy 1 1 0 9 _) ?_
 rintro _ rfl
 refine AtT.zG rfl rfl ok44 (jy 1 1 1 5 _) ?_
 rintro _ rfl
 refine AtT.zG rfl rfl ok44 (jy 2 3 2 3 _) ?_
 rintro _ rfl
 refine AtT.zG rfl rfl ok44 (jy 3 2 2 1 _) ?_
 rintro _ rfl
 refine AtT.zG rfl rfl ok44 (jy 4 4 3 0 _) ?_
 rintro _ rfl
 refine AtT.zG rfl rfl ok44 (jy 5 3 3 1 _) ?_
 rintro _ rfl
 refine AtT.zQ (bs24_6_0_1_2_3_4_5 _ _ _ _ _ _ _ _ _ _ _ _ _ _ _ _ _ _ _ _ _ _ _ _) ?_
 intro q8 V8 hV8 hq8
 have g8 : Le V V8 := by first | exact hV8 | exact Le.trans (by assumption) hV8
 refine AtT.qG (bd26_0_1 _ _ _ _ _ _) ?_
 refine AtT.zF zK ?_
 refine AtT.done ?_
 refine At.nrm ?_
 refine At.qi rfl (.agg rfl zK zP.zH rfl) ⟨_, _, _, rfl, ⟨qs, aq, cq, hqr, rfl, hsq.le hV8, hq.le hV8⟩, Sl.of_cells (l := es6) ene_len hq8 (Nat.le_refl _) (by unfold maxLen; decide)⟩
end Go.Proofs.YtpoignmclfdgpaaGreatDoor


set_option linter.unusedVariables false
namespace Go.Lw
open Go.Instr Go.RowKit
theorem zeroCells_one (z : Value) (k : Nat) : (Builtin.zeroCells #[z] k).toList = List.replicate k z := by
 apply List.ext_getElem
 ·simp [Builtin.zeroCells]
 ·intro i h1 h2
  simp [Builtin.zeroCells, Nat.mod_one]
section
variable {cx : Cx} {n : Nat} {ks : List (Nat × Value)} {O : List Own} {V : View} {P : Program} {ops : Array Oper} {Qn : Act → World → Prop} {t : Tr} {i d : Nat} {x y : Operand} {T : TypeId} {pos : String} {after : Array Edge} {gd : Option (Nat × Bool)} {X Y : TypeId} {wr : Bool}
theorem AtT.appZ {E : TypeId} {kn : IntKind} {z : Value} {by_ m k : Nat} {q : Addr} {xs : List Value} (ho : ops[i]? = some ⟨some d, .call ⟨.builtin .append, #[x, y], #[X, Y]⟩, T, pos, after, gd⟩) (hg : Gd ks ops gd) (hX : P.underlying X = some (.slice E)) (hY : P.underlying Y = some (.int kn)) (hE : rowB P E = some (z, 1, by_)) (hzc : z.cells = #[z])
  (hx : ev ks x = some (.slice (some q) m m)) (hy : ev ks y = some (.int .i64 (k : Int))) (h0 : 0 < k) (hc : Cells V q xs) (hl : xs.length = m) (hb : m + k ≤ maxLen) (hby : (m + k) * by_ ≤ 140737488355328) (hn : d < n)
  (next : ∀ b cap V', Le V V' → Cells V' ⟨b, 0, none⟩ (xs ++ List.replicate k z) → m + k ≤ cap → cap ≤ maxLen → AtT cx n ((d, .slice (some ⟨b, 0, none⟩) (m + k) cap) :: ks) O V' P ops Qn t) : AtT cx n ks O V P ops Qn (.n wr i t) :=
 .x ho hg fun a w hk hm => by
  obtain ⟨ti, hi, hz, hsz, hbz⟩ := rowB_info hE
  have hd : Mem cx O V w.drew := hm.ext (Below.refl _ w).drew
  have hold := run_firstCells_some (P := P) w.drew ti.size m q m m xs (by rw [hsz, hl, Nat.mul_one]) (hc.run hd.view)
  have hfit := growslice_fits (need := m + k) (old := m) (bytes := ti.bytes) (by omega) (by rw [hbz]; exact hby)
  have hkb : k * ti.bytes ≤ (m + k) * by_ := by rw [hbz]; exact Nat.mul_le_mul_right _ (by omega)
  have hr := Lib.run_append_grow_zeros (P := P) w X Y T E ti z .i64 kn hX hY hi hz (some q) m m xs hold k h0 (by rw [hsz]; decide) (by omega) (by simp only [maxLen] at hb; omega) (by omega) hfit
  simp only [opW, execOp, resolve, invoke, builtin, Sem.run_bind, Sem.run_pure, Result.andThen_ok, List.map_toArray, List.map_cons, List.map_nil, hk.ev hx, hk.ev hy, hr]
  obtain ⟨V', h1, h2, h3⟩ := hd.allocV (.cells (xs.toArray ++ Builtin.zeroCells z.cells k ++ Builtin.zeroCells z.cells (grownCap w (m + k) m E - (m + k))) E)
  refine ⟨_, O, V', hk.put hn _, h3, fun _ u hu => hu.less hm.le0 h1, next w.heap.size (grownCap w (m + k) m E) V' h1 (fun j u hj => ?_) (grownCap_ge w _ _ _) (grownCap_le_maxLen w _ _ _ hb)⟩
  have e : w.drew.heap.size = w.heap.size := rfl
  rw [Addr.add_lit]
  rw [e] at h2
  simp only [jS, h2, hzc, Nat.zero_add]
  have hj' := (List.getElem?_eq_some_iff.1 hj).1
  rw [← Array.getElem?_toList, Array.toList_append, Array.toList_append, zeroCells_one]
  rw [List.getElem?_append_left (by simpa using hj')]
  exact hj
end
end Go.Lw
set_option linter.unusedVariables false
namespace Go.Proofs.YtpoignmclfdgpaaGreatDoor
open Go.Lw Go.Gl Go.Bk Go.RowKit
theorem flat_z (l : List Int) (k : Nat) : flat ei l ++ List.replicate k (iv 0) = flat ei (l ++ List.replicate k 0) := by
 rw [flat_ei, flat_ei, List.map_append, List.map_replicate]
theorem longsZ_f (l : List Int) (h8 : l.length < 8) (q : Addr) (V : View) (hc : Cells V q (flat ei l)) : Fnc Tryz.prog 52 [.slice (some q) l.length l.length] V fun r V' => SlI V' r (l ++ List.replicate (8 - l.length) 0) := by
 have hm : (8 : Nat) ≤ maxLen := by unfold maxLen; decide
 have hfl : (flat ei l).length = l.length := by rw [jB Lw.kv]; omega
 refine qh Tryz.func52 rfl Tryz.ntmps52 (Nat.le_of_ble_eq_true rfl) ?_
 intro w0 hw0
 refine At.nrm ?_
 refine At.zh (.q 0 .done) ?_
 refine AtT.ze ?_
 refine AtT.done ?_
 refine At.nrm ?_
 refine At.zh (.q 0 (.q 1 (.q 2 (.q 3 (.q 4 (.n true 5 (.q 6 .done))))))) ?_
 refine AtT.zf ?_
 refine AtT.zf ?_
 refine AtT.zN Tryz.underlying28 ?_
 first | refine AtT.je ?_ | refine AtT.jf ?_
 refine AtT.kmax2 ?_
 rw [show max (0 : Int) (8 - (l.length : Int)) = ((8 - l.length : Nat) : Int) by omega]
 refine AtT.appZ rfl trivial Tryz.underlying28 Tryz.underlying3 rw2 rfl rfl rfl (by omega) hc hfl (by omega) (by omega) (by decide) ?_
 intro b8 c8 V8 hV8 hc8 hm8 hx8
 refine AtT.ze ?_
 refine AtT.done ?_
 refine At.nrm ?_
 rw [flat_z] at hc8
 have hl8 : (l ++ List.replicate (8 - l.length) (0 : Int)).length = l.length + (8 - l.length) := by rw [List.length_append, List.length_replicate]
 have hs := Sl.of_cells (s := 1) Lw.kv hc8 (by rw [hl8]; exact hm8) hx8
 rw [hl8] at hs
 exact At.qi rfl (.tmp rfl) hs
end Go.Proofs.YtpoignmclfdgpaaGreatDoor
set_option linter.unusedVariables false
namespace Go.Proofs.YtpoignmclfdgpaaGreatDoor
open Go.Lw Go.Gl Go.Bk Go.RowKit
theorem cut_hyp {rs : List Rc} {l : Nat → Int} {t : Nat} {W : Nat → Int} : canW rs l (t + 1) W = if W t - l t ≤ 0 then canW rs l t W else if partsOf rs t = [] then false else canW rs l t (zS (W t - l t) (partsOf rs t) W) := rfl
theorem canW_upd {rs : List Rc} {l W : Nat → Int} {t : Nat} {v : Int} : canW rs l t (upd W t v) = canW rs l t W := canW_congr fun s hs => by rw [qO, if_neg (by omega)]
theorem canW_split {rs : List Rc} (h : qE (-1) rs) {l W : Nat → Int} {t : Nat} {v : Int} (hp : partsOf rs t ≠ []) : canW rs l t (jJ rs t (upd W t v)) = canW rs l t (zS v (partsOf rs t) W) := by
 refine canW_congr fun s hs => ?_
 unfold jJ
 rw [if_neg hp, show upd W t v t = v by rw [qO, if_pos rfl]]
 refine jO (n := t) (fun s hs => ?_) s hs
 rw [qO, qO, if_neg (by omega), if_neg (by omega)]
theorem can_f {cx : Cx} {O : List Own} (rs : List Rc) (hrs : qE (-1) rs) (l : Nat → Int) (hl : ∀ s, s < 8 → 0 ≤ l s ∧ l s ≤ 24000) (G : Nat) (hG8 : G < 8) (c : Int) (hc : 0 ≤ c ∧ c ≤ 65535) (M0 : MM Int Int) (c0 : Nat) (p m1 m2 : Nat) (u1 u2 : Value) (V : View) (hsto : StoV V p u1 u2 m1 m2) (hrm : RMap V m1 rs) :
  FncM Tryz.prog cx 70 [.pointer (some ⟨p, 0, none⟩), .agg (stC l).toArray, iv G, iv c] (.blk m2 (qY ekT iv M0 c0) :: O) V fun r O' V' => r = .bool (kM rs l G c) ∧ V' = V ∧ ∃ M' c', O' = .blk m2 (qY ekT iv M' c') :: O := by
 have hc3 := hsto.c3
 have hw0 := (WMap.nil c0).put (g := (G : Int)) (by omega) (0 + c)
 rw [Int.toNat_natCast, Int.zero_add] at hw0
 have hc4 : 0 ≤ c ∧ c * 10460353203 ≤ 700000000000000 := by omega
 have hset0 : (stC l).set (0 + ((G : Nat) : Int).toNat * 1) (iv 0) = stC (upd l G 0) := by rw [Int.toNat_natCast, Nat.mul_one, Nat.zero_add, jL _ _ hG8]
 have hlu : ∀ s, s < 8 → 0 ≤ upd l G 0 s ∧ upd l G 0 s ≤ 24000 := fun s hs => by rw [qO]; split; exact ⟨by omega, by omega⟩; exact hl s hs
 refine fncM_of Tryz.func70 rfl Tryz.ntmps70 (Nat.le_of_ble_eq_true rfl) ?_
 refine At.nrm ?_
 refine At.zh (.n false 0 (.q 1 .done)) ?_
 refine AtT.jd ?_
 intro b5
 refine AtT.ze ?_
 refine AtT.done ?_
 refine At.nrm ?_
 refine At.nrm ?_
 refine At.zh (.q 0 (.q 1 (.q 2 (.q 3 (.n true 4 .done))))) ?_
 refine AtT.zf ?_
 refine AtT.jN ?_
 first | refine AtT.zk qV ?_ | with_reducible refine AtT.zl qV ?_ | refine AtT.zn qV ?_
 first | refine AtT.zm tk88 ?_ | refine AtT.zo tk88 ?_
 refine AtT.clearMap rfl trivial ekT iv rfl Tryz.underlying88 rfl (by repeat first|exact Upd.here|apply Upd.there) ?_
 refine AtT.done ?_
 refine At.nrm ?_
 refine At.nrm ?_
 refine At.zh (.q 0 (.q 1 (.q 2 (.n true 3 .done)))) ?_
 refine AtT.zf ?_
 refine AtT.zf ?_
 refine AtT.zf ?_
 refine AtT.jq rfl trivial rfl ok57 (by decide) (zP.perm zP.zH) (want_f [] c0 _ (WMap.nil c0) G c (by omega) (Fit.of (by omega) (by omega)) p m2 m1 _ _ _ hsto) ?_
 rintro _ _ V2 ⟨rfl, rfl, rfl⟩
 refine AtT.done ?_
 refine At.nrm ?_
 rw [Int.zero_add]
 refine At.nrm ?_
 refine At.zh (.q 0 (.q 1 (.n true 2 .done))) ?_
 refine AtT.zf ?_
 refine AtT.kidxA Tryz.underlying105 tk2 ?_
 refine AtT.jk rfl trivial rfl rfl tk2 rfl rfl (by repeat first|exact Upd.here|apply Upd.there) (qR (by simp; omega) hset0) ?_
 refine AtT.done ?_
 refine At.nrm ?_
 refine At.zh (.q 0 (.q 1 .done)) ?_
 refine AtT.zf ?_
 refine AtT.ze ?_
 refine AtT.done ?_
 refine At.nrm ?_
 refine At.lp (ι := Nat × MM Int Int × Nat × (Nat → Int)) (KS := fun q => [(0, .pointer (some ⟨p, 0, none⟩)), (5, .pointer (some ⟨b5, 0, none⟩)), (9, iv ((q.1 : Int) - 1))]) (OS := fun q => .blk b5 (LC (stC (upd l G 0)) 105) :: .blk m2 (qY ekT iv q.2.1 q.2.2.1) :: O)
  (VS := fun q V' => V' = V2 ∧ q.1 ≤ 8 ∧ WMap q.2.1 q.2.2.1 q.2.2.2 ∧ Wnt rs q.2.2.2 G c ∧ (kM rs l G c = true ↔ (canW rs (upd l G 0) q.1 q.2.2.2 = true ∧ ∀ s : Int, (q.1 : Int) ≤ s → jK s q.2.1 ≠ true))) (μ := fun q => q.1) (G + 1, (mput (G : Int) c [] c0).1, (mput (G : Int) c [] c0).2, upd (fun _ => 0) G c) ?_ ?_ ?_ ?_
 ·exact ⟨rfl, rfl, ivs (by push_cast; omega), trivial⟩
 ·exact Pt.zZ
 ·refine ⟨rfl, by dsimp only; omega, hw0, Wnt.start hrs hG8 (by omega), ⟨fun h => ⟨h, fun s hs hm => ?_⟩, fun h => h.1⟩⟩
  dsimp only at hs
  rcases (mput_has _ _ _ _ _).1 hm with h1 | h1
  ·push_cast at hs; omega
  ·simp [jK] at h1
 rintro ⟨t, M, cM, Wt⟩ V' ks' O' ⟨rfl, ht8, hWM, hWn, hrel⟩ hk hO hl2
 dsimp only at ht8 hWM hWn hrel hk hO
 subst hk hO
 refine At.nrm ?_
 refine At.zh (.q 0 (.q 1 .done)) ?_
 refine AtT.zf ?_
 refine AtT.kgeq ?_
 refine AtT.done ?_
 refine At.nrm ?_
 refine At.zX rfl (fun hp => ?_) (fun hp => ?_)
 rotate_left
 ·obtain rfl : t = 0 := by omega
  have hfin : decide ((M.length : Int) = 0) = kM rs l G c := by
   rw [Bool.eq_iff_iff, decide_eq_true_eq, hrel]
   constructor
   ·intro h
    have : M = [] := List.length_eq_zero_iff.1 (by omega)
    subst this
    exact ⟨rfl, fun s _ h => by simp [jK] at h⟩
   ·rintro ⟨_, h⟩
    cases M with
    | nil => rfl
    | cons e M =>
     have hm : jK e.1 (e :: M) = true := by simp [jK]
     exact absurd hm (h e.1 (hWM.rng e.1 hm).1)
  refine At.nrm ?_
  refine At.zh (.q 0 (.q 1 (.q 2 (.q 3 (.q 4 (.q 5 (.q 6 .done))))))) ?_
  refine AtT.zf ?_
  refine AtT.jN ?_
  first | refine AtT.zk qV ?_ | with_reducible refine AtT.zl qV ?_ | refine AtT.zn qV ?_
  first | refine AtT.zm tk88 ?_ | refine AtT.zo tk88 ?_
  refine AtT.lenMap rfl trivial Tryz.underlying88 rfl zP.zH (by decide) ?_
  refine AtT.qK ?_
  refine AtT.ze ?_
  refine AtT.done ?_
  refine At.nrm ?_
  refine At.pt (O' := .blk m2 (qY ekT iv M cM) :: O) Pt.zZ ?_
  exact At.ky rfl (.tmp rfl) ⟨by rw [← hfin], rfl, M, cM, rfl⟩
 obtain ⟨t, rfl⟩ : ∃ t', t = t' + 1 := ⟨t - 1, by omega⟩
 have ht1 : ((t + 1 : Nat) : Int) - 1 = (t : Int) := by omega
 have hbd := fun s => hWn.bd hrs hG8 hc4 s
 have hat : qZ (t : Int) 0 M = Wt t := hWM.get t
 have hn1 := stC_off (upd l G 0) (j := t) (by omega)
 have hlt := hlu t (by omega)
 have hbt := hbd t
 rw [cut_hyp] at hrel
 refine At.nrm ?_
 refine At.zh (.q 0 (.q 1 (.n false 2 (.n true 3 .done)))) ?_
 refine AtT.zf ?_
 rw [ht1]
 refine AtT.qG (bd92_0 _) ?_
 refine AtT.zT z92 ?_
 intro b10
 refine AtT.zF tk92 ?_
 refine AtT.done ?_
 refine At.nrm ?_
 refine At.nrm ?_
 refine At.draw (.q 0 (.q 1 (.q 2 (.q 3 (.q 4 (.q 5 (.q 6 (.q 7 (.q 8 (.q 9 (.q 10 .done))))))))))) ffm (by kernel_rfl) ?_
 refine AtT.zf ?_
 refine AtT.jN ?_
 first | refine AtT.zk qV ?_ | with_reducible refine AtT.zl qV ?_ | refine AtT.zn qV ?_
 first | refine AtT.zm tk88 ?_ | refine AtT.zo tk88 ?_
 first | refine AtT.zD tk92 ?_ | refine AtT.zI tk92 ?_ | refine AtT.zC tk92 ?_
 refine AtT.lookupO rfl trivial key92 (t : Int) (0 : Int) Tryz.underlying88 z2 rfl rfl rfl zP.zH (by decide) ?_
 rw [hat]
 refine AtT.zf ?_
 first | rw [ht1] | skip
 refine AtT.kidxA Tryz.underlying105 tk2 ?_
 refine AtT.jE rfl trivial rfl tk2 zP.zH hn1 (by decide) ?_
 refine AtT.subt rfl trivial rfl rfl (by decide) (Fit.of (by omega) (by omega)) ?_
 refine AtT.ze ?_
 refine AtT.done ?_
 refine At.nrm ?_
 refine At.nrm ?_
 refine At.zh (.q 0 (.q 1 .done)) ?_
 refine AtT.zf ?_
 refine AtT.kleq ?_
 refine AtT.done ?_
 refine At.nrm ?_
 refine At.zX rfl (fun hs => ?_) (fun hs => ?_)
 ·rw [if_pos hs] at hrel
  refine At.nrm ?_
  refine At.draw (.q 0 (.q 1 (.q 2 (.q 3 (.q 4 (.n true 5 .done)))))) ffm (by kernel_rfl) ?_
  refine AtT.zf ?_
  refine AtT.jN ?_
  first | refine AtT.zk qV ?_ | with_reducible refine AtT.zl qV ?_ | refine AtT.zn qV ?_
  first | refine AtT.zm tk88 ?_ | refine AtT.zo tk88 ?_
  first | refine AtT.zD tk92 ?_ | refine AtT.zI tk92 ?_ | refine AtT.zC tk92 ?_
  refine AtT.mapDel rfl trivial key92 (t : Int) iv rfl Tryz.underlying88 rfl rfl (by repeat first|exact Upd.here|apply Upd.there) ?_
  refine AtT.done ?_
  refine At.nrm ?_
  refine At.nrm ?_
  refine At.zh (.q 0 (.q 1 (.q 2 .done))) ?_
  refine AtT.zf ?_
  first | refine AtT.je ?_ | refine AtT.jf ?_
  refine AtT.ze ?_
  refine AtT.done ?_
  refine At.nrm ?_
  have hWd := hWM.del (g := (t : Int)) (by omega)
  rw [Int.toNat_natCast] at hWd
  refine At.round (t, mdel (t : Int) M, cM, upd Wt t 0) ?_ ?_ ?_ ?_
  ·show t < t + 1; omega
  ·refine ⟨rfl, by dsimp only; omega, hWd, hWn.less hrs (fun s => ?_) (fun s => ?_), hrel.trans ?_⟩
   ·dsimp only; rw [qO]; split; exact Int.le_refl _; exact (hbd s).1
   ·dsimp only; rw [qO]; split
    ·exact (hbd s).1
    ·exact Int.le_refl _
   ·dsimp only
    rw [canW_upd]
    refine and_congr_right fun _ => ⟨fun h s h1 h2 => ?_, fun h s h1 h2 => ?_⟩
    ·have := (mdel_has hWM.ok.keys).1 h2
     exact h s (by push_cast; omega) this.2
    ·refine h s (by push_cast at h1; omega) ((mdel_has hWM.ok.keys).2 ⟨?_, h2⟩)
     push_cast at h1; omega
  ·exact ⟨rfl, rfl, ivs (by omega), trivial⟩
  ·exact Pt.zZ
 rw [if_neg hs] at hrel
 have hWp := hWM.put (g := (t : Int)) (by omega) (Wt t - upd l G 0 t)
 rw [Int.toNat_natCast] at hWp
 have hWl : Wnt rs (upd Wt t (Wt t - upd l G 0 t)) G c := hWn.less hrs (fun s => by rw [qO]; split; omega; exact (hbd s).1) (fun s => by
  rw [qO]; split
  ·rename_i e; subst e; omega
  ·exact Int.le_refl _)
 have hbd2 := fun s => hWl.bd hrs hG8 hc4 s
 refine At.nrm ?_
 refine At.draw (.q 0 (.q 1 (.q 2 (.q 3 (.q 4 (.q 5 (.n true 6 .done))))))) ffm (by kernel_rfl) ?_
 refine AtT.zf ?_
 refine AtT.jN ?_
 first | refine AtT.zk qV ?_ | with_reducible refine AtT.zl qV ?_ | refine AtT.zn qV ?_
 first | refine AtT.zm tk88 ?_ | refine AtT.zo tk88 ?_
 first | refine AtT.zD tk92 ?_ | refine AtT.zI tk92 ?_ | refine AtT.zC tk92 ?_
 refine AtT.zf ?_
 refine AtT.mapSet rfl trivial key92 (t : Int) (Wt t - upd l G 0 t) Tryz.underlying88 rfl rfl rfl (by repeat first|exact Upd.here|apply Upd.there) ?_
 refine AtT.done ?_
 refine At.nrm ?_
 refine At.nrm ?_
 refine At.zh (.q 0 (.q 1 (.n true 2 .done))) ?_
 refine AtT.zf ?_
 refine AtT.zf ?_
 first | rw [ht1] | skip
 refine AtT.jq rfl trivial rfl ok58 (by decide) (zP.perm zP.zH) (split_f rs hrs _ _ _ hWp t (by omega) 700000000000000 hbd2 (by decide) p m1 m2 _ _ _ hsto hrm) ?_
 rintro _ _ V3 ⟨rfl, rfl, M', c', rfl, hWM', hkey⟩
 refine AtT.done ?_
 refine At.nrm ?_
 rw [Int.toNat_natCast] at hWM'
 refine At.nrm ?_
 refine At.zh (.q 0 (.q 1 (.q 2 .done))) ?_
 refine AtT.zf ?_
 first | refine AtT.je ?_ | refine AtT.jf ?_
 refine AtT.ze ?_
 refine AtT.done ?_
 refine At.nrm ?_
 refine At.round (t, M', c', jJ rs t (upd Wt t (Wt t - upd l G 0 t))) ?_ ?_ ?_ ?_
 ·show t < t + 1; omega
 ·refine ⟨rfl, by dsimp only; omega, hWM', hWl.split hrs (by omega), hrel.trans ?_⟩
  dsimp only
  by_cases hp0 : partsOf rs (t : Int) = []
  ·rw [if_pos hp0]
   constructor
   ·rintro ⟨h, _⟩; cases h
   ·rintro ⟨_, h⟩
    exact absurd ((hkey (t : Int) (Int.le_refl _)).2 ⟨(mput_has _ _ _ _ _).2 (.inl rfl), fun _ => hp0⟩) (h (t : Int) (Int.le_refl _))
  ·rw [if_neg hp0, canW_split hrs hp0]
   refine and_congr_right fun _ => ⟨fun h s h1 h2 => ?_, fun h s h1 h2 => ?_⟩
   ·obtain ⟨h3, h4⟩ := (hkey s h1).1 h2
    have hne : s ≠ (t : Int) := fun e => hp0 (h4 e)
    rcases (mput_has _ _ _ _ _).1 h3 with h5 | h5
    ·exact hne h5
    ·exact h s (by push_cast; omega) h5
   ·push_cast at h1
    exact h s (by omega) ((hkey s (by omega)).2 ⟨(mput_has _ _ _ _ _).2 (.inr h2), fun e => by omega⟩)
 ·exact ⟨rfl, rfl, ivs (by omega), trivial⟩
 ·exact Pt.zZ
end Go.Proofs.YtpoignmclfdgpaaGreatDoor
set_option linter.unusedVariables false
namespace Go.Proofs.YtpoignmclfdgpaaGreatDoor
open Go.Lw Go.Gl Go.Bk Go.RowKit
def cutW (t : Nat) (W : Nat → Int) : Nat → Int := fun s => if s < t then W s else 0
theorem want_zero0 : ∀ {ps : List Pt} {W : Nat → Int} (s : Nat), zS 0 ps W s = W s
 | [], W, s => rfl
 | p :: ps, W, s => by
  simp only [zS]
  rw [want_zero0, qO]
  split
  ·rename_i e; subst e; omega
  ·rfl
theorem want_up {c B : Int} {n : Nat} (hc : 0 ≤ c ∧ c ≤ B) (hB : 0 ≤ B) : ∀ {ps : List Pt} {W : Nat → Int} {K : Int}, (∀ p ∈ ps, 1 ≤ p.n ∧ p.n ≤ 9) → (∀ s, s < n → W s ≤ K) → ∀ s, s < n → zS c ps W s ≤ K + 9 * B * (ps.length : Int)
 | [], W, K, _, h, s, hs => by have := h s hs; simp [zS]; omega
 | p :: ps, W, K, hp, h, s, hs => by
  have hpp := hp p List.mem_cons_self
  have hm1 : c * p.n ≤ B * 9 := Int.mul_le_mul hc.2 hpp.2 (by omega) hB
  have e9 : 9 * B * ((p :: ps).length : Int) = 9 * B * (ps.length : Int) + 9 * B := by rw [List.length_cons]; push_cast; rw [Int.mul_add, Int.mul_one]
  simp only [zS]
  have := want_up hc hB (ps := ps) (W := upd W p.t.toNat (W p.t.toNat + c * p.n)) (K := K + 9 * B) (fun q hq => hp q (List.mem_cons_of_mem _ hq)) (fun s hs => by
   rw [qO]
   split
   ·rename_i e; subst e; have := h _ hs; omega
   ·have := h s hs; omega) s hs
  rw [e9]; omega
theorem rcan_f (rs : List Rc) (hrs : qE (-1) rs) (l : Nat → Int) (hl : ∀ s, s < 8 → 0 ≤ l s ∧ l s ≤ 24000) (G : Nat) (hG8 : G < 8) (c : Int) (hc : 1 ≤ c ∧ c ≤ 65535) (V : View) (v u : Value) (hv : RsV V v rs) (hu : SlI V u (stL l)) :
  Fnc Tryz.prog 71 [v, u, iv G, iv c] V fun r _ => r = .bool (kM rs l G c) := by
 obtain ⟨au, cu, rfl, _⟩ := id hu
 have hc4 : 0 ≤ c ∧ c * 10460353203 ≤ 700000000000000 := by omega
 refine qh Tryz.func71 rfl Tryz.ntmps71 (Nat.le_of_ble_eq_true rfl) ?_
 intro w0 hw0
 refine At.nrm ?_
 refine At.zh (.q 0 .done) ?_
 refine AtT.ze ?_
 refine AtT.done ?_
 refine At.nrm ?_
 refine At.zh (.n false 0 (.q 1 .done)) ?_
 refine AtT.makeSl rfl trivial ei rfl Tryz.underlying28 rw2 rfl rfl (by decide) rfl rfl (by omega) (by omega) (by decide) (m := 8) (za := (0 : Int)) ?_
 intro b14
 refine AtT.ze ?_
 refine AtT.done ?_
 refine At.nrm ?_
 refine At.zh (.q 0 (.q 1 .done)) ?_
 refine AtT.zf ?_
 refine AtT.ze ?_
 refine AtT.done ?_
 refine At.nrm ?_
 refine At.lp (ι := Nat × (Nat → Int) × (Nat → Int)) (KS := fun q => [(0, v), (1, .slice au 8 cu), (2, iv G), (3, iv c), (9, .slice (some ⟨b14, 0, none⟩) 8 8), (10, iv ((q.1 : Int) - 1))]) (OS := fun q => [.blk b14 (LC (stC q.2.1) 2)])
  (VS := fun q V' => Le V V' ∧ q.1 ≤ G + 1 ∧ (∀ s, s < q.1 → s ≠ G → q.2.1 s = q.2.2 s) ∧ (q.1 = G + 1 → q.2.2 G = c) ∧ (∀ s, s < 8 → 0 ≤ q.2.1 s ∧ q.2.1 s ≤ 700000000000000) ∧ Wnt rs (cutW q.1 q.2.2) G c ∧ kM rs l G c = canW rs (upd l G 0) q.1 q.2.2) (μ := fun q => q.1) (G + 1, (fun _ => 0), upd (fun _ => 0) G c) ?_ ?_ ?_ ?_
 ·exact ⟨rfl, rfl, rfl, rfl, rfl, ivs (by push_cast; omega), trivial⟩
 ·exact Pt.zH
 ·refine ⟨Le.refl _, Nat.le_refl _, fun s h1 h2 => ?_, fun _ => ?_, fun s _ => ⟨by simp, by simp⟩, (Wnt.start hrs hG8 (by omega)).less hrs (fun s => ?_) (fun s => ?_), rfl⟩
  ·dsimp only; rw [qO, if_neg h2]
  ·dsimp only; rw [qO, if_pos rfl]
  ·unfold cutW; dsimp only; rw [qO]; split
   ·split <;> omega
   ·exact Int.le_refl _
  ·unfold cutW; dsimp only; rw [qO]; split
   ·exact Int.le_refl _
   ·split <;> omega
 rintro ⟨t, A, Wt⟩ V' ks' O' ⟨hVV, htG, hAW, hWG, hAb, hWn, hcan⟩ hk hO hl2
 dsimp only at htG hAW hWG hAb hWn hcan hk hO
 subst hk hO
 have hu' := hu.le hVV
 have hv' := hv.le hVV
 refine At.nrm ?_
 refine At.zh (.q 0 (.q 1 .done)) ?_
 refine AtT.zf ?_
 refine AtT.kgeq ?_
 refine AtT.done ?_
 refine At.nrm ?_
 refine At.zX rfl (fun hp => ?_) (fun hp => ?_)
 rotate_left
 ·obtain rfl : t = 0 := by omega
  refine At.nrm ?_
  refine At.zh (.q 0 .done) ?_
  refine AtT.ze ?_
  refine AtT.done ?_
  refine At.nrm ?_
  exact At.qi rfl (.tmp rfl) (by rw [hcan]; rfl)
 obtain ⟨t, rfl⟩ : ∃ t', t = t' + 1 := ⟨t - 1, by omega⟩
 have ht1 : ((t + 1 : Nat) : Int) - 1 = (t : Int) := by omega
 have ht8 : t < 8 := by omega
 have hat : (stC A)[t * 1]? = some (iv (A t)) := by rw [Nat.mul_one]; exact stC_at _ ht8
 have hlt := hl t ht8
 have hAt := hAb t ht8
 have hlat : (stL l)[t]? = some (l t) := stL_at l ht8
 have hWs : ∀ s, s < t → A s = Wt s := fun s hs => hAW s (by omega) (by omega)
 rw [cut_hyp] at hcan
 refine At.nrm ?_
 refine At.draw (.q 0 (.q 1 (.q 2 (.q 3 (.q 4 (.q 5 (.q 6 (.q 7 (.q 8 (.q 9 (.q 10 .done))))))))))) ffm (by kernel_rfl) ?_
 refine AtT.zf ?_
 refine AtT.zf ?_
 rw [ht1]
 refine AtT.jV rfl trivial Tryz.underlying28 tk2 rfl rfl ht8 (by decide) ?_
 refine AtT.jE rfl trivial rfl tk2 zP.zH hat (by decide) ?_
 refine AtT.zf ?_
 refine AtT.zf ?_
 first | rw [ht1] | skip
 refine AtT.idx rfl trivial Tryz.underlying28 tk2 rfl hu' rfl (by omega) (by show (t : Int) < ((8 : Nat) : Int); omega) (by decide) ?_
 intro p26 e26 he26 hc26
 obtain rfl : l t = e26 := by have : (stL l)[t]? = some e26 := (by rw [Int.toNat_natCast] at he26; exact he26); rw [hlat] at this; exact Option.some.inj this
 first | refine AtT.zm tk2 ?_ | refine AtT.zo tk2 ?_
 refine AtT.subt rfl trivial rfl rfl (by decide) (Fit.of (by omega) (by omega)) ?_
 refine AtT.kmax2 ?_
 refine AtT.ze ?_
 refine AtT.done ?_
 refine At.nrm ?_
 obtain ⟨made, hmade⟩ : ∃ made : Int, made = if t = G then c else max 0 (A t - l t) := ⟨_, rfl⟩
 have hshort : Wt t - upd l G 0 t = if t = G then c else A t - l t := by
  rw [qO]
  by_cases e : t = G
  ·subst e; rw [if_pos rfl, if_pos rfl, hWG rfl]; omega
  ·rw [if_neg e, if_neg e, hAW t (by omega) e]
 have hm0 : 0 ≤ made ∧ made ≤ 700000000000000 := by rw [hmade]; split <;> omega
 have hWt0 : 0 ≤ Wt t := by
  by_cases e : t = G
  ·subst e; rw [hWG rfl]; omega
  ·rw [← hAW t (by omega) e]; exact hAt.1
 have hcut : Wnt rs (cutW t Wt) G c := hWn.less hrs (fun s => by
  have := hWn.nn s
  unfold cutW at this ⊢
  split
  ·rw [if_pos (by omega)] at this; exact this
  ·exact Int.le_refl _) (fun s => by
  have := hWn.nn s
  unfold cutW at this ⊢
  split
  ·rw [if_pos (by omega)]; exact Int.le_refl _
  ·exact this)
 refine At.nrm ?_
 refine At.zh (.q 0 (.q 1 (.q 2 .done))) ?_
 refine AtT.zf ?_
 refine AtT.zf ?_
 refine AtT.qK ?_
 refine AtT.done ?_
 refine At.nrm ?_
 refine At.cutG (ι := Unit) (fun _ => [(0, v), (1, .slice au 8 cu), (2, iv G), (3, iv c), (9, .slice (some ⟨b14, 0, none⟩) 8 8), (10, iv (t : Int)), (11, iv made)]) (fun _ => [.blk b14 (LC (stC A) 2)]) (fun _ V'' => V'' = V') ?_ ?_
 ·refine At.zX rfl (fun he => ?_) (fun he => ?_)
  ·refine At.nrm ?_
   refine At.zh (.q 0 (.q 1 .done)) ?_
   refine AtT.zf ?_
   refine AtT.ze ?_
   refine AtT.done ?_
   refine At.nrm ?_
   exact At.kC () rfl ⟨rfl, rfl, rfl, rfl, rfl, rfl, ivs (by rw [hmade, if_pos (by omega)]), trivial⟩ Pt.zH
  ·refine At.nrm ?_
   exact At.kC () rfl ⟨rfl, rfl, rfl, rfl, rfl, rfl, ivs (by rw [hmade, if_neg (by omega)]), trivial⟩ Pt.zH
 rintro _ V1 ks' O' rfl hk hO hl4
 subst hk hO
 refine At.nrm ?_
 refine At.zh (.q 0 (.q 1 (.n false 2 (.q 3 .done)))) ?_
 refine AtT.zf ?_
 refine AtT.zf ?_
 refine AtT.qa rfl rfl ok48 (partsOf_f rs t _ _ hv') ?_
 rintro v36 V36 hV36 ⟨a36, c36, rfl, hs36⟩
 refine AtT.ze ?_
 refine AtT.done ?_
 refine At.nrm ?_
 have hpl := kz hrs (t : Int)
 have hpn : ∀ q ∈ partsOf rs (t : Int), 1 ≤ q.n ∧ q.n ≤ 9 := fun q hq => by have := qj hrs hq; omega
 have hs36' := hs36.le hV36
 have hu36 := hu'.le hV36
 refine At.nrm ?_
 by_cases hbad : 0 < made ∧ partsOf rs (t : Int) = []
 ·have hsp : ¬ Wt t - upd l G 0 t ≤ 0 := by rw [hshort]; rw [hmade] at hbad; split <;> rename_i e <;> simp only [e] at hbad <;> simp at hbad <;> omega
  rw [if_neg hsp, if_pos hbad.2] at hcan
  rw [hbad.2]
  refine At.zh (.q 0 (.q 1 (.q 2 (.q 3 (.q 4 (.q 5 (.q 6 .done))))))) ?_
  refine AtT.zf ?_
  refine AtT.qJ ?_
  refine AtT.qm (d := 38) rfl (hbad.1) ?_
  refine AtT.zf ?_
  all_goals (first | refine AtT.kL 39 ?_ | refine AtT.zA (d := 39) rfl (fun hg39 => ?_) (fun hg39 => ?_) | refine AtT.zz (d := 39) rfl (fun hg39 => ?_) (fun hg39 => ?_))
  all_goals first|refine AtT.zi ?_|refine AtT.zg ?_|(refine AtT.zf ?_)
  all_goals first|refine AtT.zi ?_|refine AtT.zg ?_|(refine AtT.zN Tryz.underlying66 ?_)
  all_goals first|refine AtT.zi ?_|refine AtT.zg ?_|(refine AtT.qK ?_)
  all_goals (refine AtT.qm (d := 42) rfl ((by rfl)) ?_)
  all_goals (refine AtT.zB ?_)
  all_goals refine AtT.done ?_
  all_goals (refine At.nrm ?_)
  all_goals refine At.qb rfl rfl ?_
  refine At.nrm ?_
  refine At.zh (.q 0 .done) ?_
  refine AtT.ze ?_
  refine AtT.done ?_
  refine At.nrm ?_
  exact At.qi rfl (.tmp rfl) (by rw [hcan])
 have hnew : kM rs l G c = canW rs (upd l G 0) t (zS made (partsOf rs (t : Int)) Wt) := by
  rw [hcan]
  by_cases hm : 0 < made
  ·have hsp : Wt t - upd l G 0 t = made := by rw [hshort, hmade]; rw [hmade] at hm; split <;> rename_i e <;> simp only [e] at hm <;> simp at hm <;> omega
   rw [hsp, if_neg (by omega), if_neg (fun h => hbad ⟨hm, h⟩)]
  ·have hsp : Wt t - upd l G 0 t ≤ 0 := by rw [hshort]; rw [hmade] at hm; split <;> rename_i e <;> simp only [e] at hm <;> simp at hm <;> omega
   rw [if_pos hsp, show made = 0 by omega]
   exact canW_congr fun s _ => (want_zero0 s).symm
 have hWnew : Wnt rs (cutW t (zS made (partsOf rs (t : Int)) Wt)) G c := by
  by_cases hm : 0 < made
  ·have hp0 : partsOf rs (t : Int) ≠ [] := fun h => hbad ⟨hm, h⟩
   have hsp : Wt t - upd l G 0 t = made := by rw [hshort, hmade]; rw [hmade] at hm; split <;> rename_i e <;> simp only [e] at hm <;> simp at hm <;> omega
   have hul : 0 ≤ upd l G 0 t := by rw [qO]; split <;> omega
   have hw1 : Wnt rs (upd (cutW t Wt) t made) G c := hWn.less hrs (fun s => by
    rw [qO]; split
    ·exact hm0.1
    ·exact hcut.nn s) (fun s => by
    rw [qO]; split
    ·rename_i e; subst e; unfold cutW; rw [if_pos (by omega)]; omega
    ·have := hWn.nn s
     unfold cutW at this ⊢
     split
     ·rw [if_pos (by omega)]; exact Int.le_refl _
     ·exact this)
   refine (hw1.split hrs ht8).less hrs (fun s => ?_) (fun s => ?_)
   ·unfold cutW; split
    ·rename_i h
     have h0 : 0 ≤ Wt s := by rw [← hWs s h]; exact (hAb s (by omega)).1
     exact Int.le_trans h0 (kF hm0.1 (fun q hq => by have := hpn q hq; omega) s)
    ·exact Int.le_refl _
   ·by_cases h : s < t
    ·have e1 : cutW t (zS made (partsOf rs (t : Int)) Wt) s = zS made (partsOf rs (t : Int)) Wt s := by unfold cutW; rw [if_pos h]
     have e2 : jJ rs t (upd (cutW t Wt) t made) s = zS made (partsOf rs (t : Int)) Wt s := by
      unfold jJ
      rw [if_neg hp0, show upd (cutW t Wt) t made t = made by rw [qO, if_pos rfl]]
      refine jO (n := t) (fun s hs => ?_) s h
      rw [qO, qO, if_neg (by omega), if_neg (by omega)]; unfold cutW; rw [if_pos hs]
     rw [e1, e2]; exact Int.le_refl _
    ·have e1 : cutW t (zS made (partsOf rs (t : Int)) Wt) s = 0 := by unfold cutW; rw [if_neg h]
     rw [e1]; exact (hw1.split hrs ht8).nn s
  ·rw [show made = 0 by omega]
   have : cutW t (zS 0 (partsOf rs (t : Int)) Wt) = cutW t Wt := by funext s; unfold cutW; split; exact want_zero0 s; rfl
   rw [this]; exact hcut
 by_cases hm : 0 < made
 ·have hp0 : ¬ ((partsOf rs (t : Int)).length : Int) = 0 := fun h => hbad ⟨hm, List.length_eq_zero_iff.1 (by omega)⟩
  refine At.zh (.q 0 (.q 1 (.q 2 (.q 3 (.q 4 (.q 5 (.q 6 .done))))))) ?_
  refine AtT.zf ?_
  refine AtT.qJ ?_
  refine AtT.qm (d := 38) rfl (hm) ?_
  refine AtT.zf ?_
  all_goals (first | refine AtT.kL 39 ?_ | refine AtT.zA (d := 39) rfl (fun hg39 => ?_) (fun hg39 => ?_) | refine AtT.zz (d := 39) rfl (fun hg39 => ?_) (fun hg39 => ?_))
  all_goals first|refine AtT.zi ?_|refine AtT.zg ?_|(refine AtT.zf ?_)
  all_goals first|refine AtT.zi ?_|refine AtT.zg ?_|(refine AtT.zN Tryz.underlying66 ?_)
  all_goals first|refine AtT.zi ?_|refine AtT.zg ?_|(refine AtT.qK ?_)
  all_goals (refine AtT.zU (d := 42) rfl (hp0) ?_)
  all_goals (refine AtT.zB ?_)
  all_goals refine AtT.done ?_
  all_goals (refine At.nrm ?_)
  all_goals refine At.qf rfl rfl ?_
  refine At.nrm ?_
  refine At.zh (.q 0 .done) ?_
  refine AtT.ze ?_
  refine AtT.done ?_
  refine At.nrm ?_
  refine At.lp (ι := Nat) (KS := fun j => [(0, v), (1, .slice au 8 cu), (2, iv G), (3, iv c), (9, .slice (some ⟨b14, 0, none⟩) 8 8), (10, iv (t : Int)), (11, iv made), (12, .slice a36 (partsOf rs (t : Int)).length c36), (13, iv j)]) (OS := fun j => [.blk b14 (LC (stC (zS made ((partsOf rs (t : Int)).take j) A)) 2)]) (VS := fun j V'' => V'' = V36 ∧ j ≤ (partsOf rs (t : Int)).length) (μ := fun j => (partsOf rs (t : Int)).length - j) 0 ?_ ?_ ?_ ?_
  ·exact ⟨rfl, rfl, rfl, rfl, rfl, rfl, rfl, rfl, rfl, trivial⟩
  ·exact Pt.zH
  ·exact ⟨rfl, Nat.zero_le _⟩
  rintro j V2 ks' O' ⟨rfl, hjl⟩ hk hO hl3
  subst hk hO
  refine At.nrm ?_
  refine At.zh (.q 0 (.q 1 (.q 2 (.q 3 .done)))) ?_
  refine AtT.zf ?_
  refine AtT.zf ?_
  first | refine AtT.zR Tryz.underlying66 ?_ | refine AtT.zN Tryz.underlying66 ?_
  refine AtT.qp ?_
  refine AtT.done ?_
  refine At.nrm ?_
  refine At.zX rfl (fun hp2 => ?_) (fun hp2 => ?_)
  rotate_left
  ·obtain rfl : j = (partsOf rs (t : Int)).length := by omega
   rw [List.take_length]
   refine At.nrm ?_
   refine At.zh (.q 0 (.q 1 (.q 2 .done))) ?_
   refine AtT.zf ?_
   first | refine AtT.je ?_ | refine AtT.jf ?_
   refine AtT.ze ?_
   refine AtT.done ?_
   refine At.nrm ?_
   refine At.round (t, zS made (partsOf rs (t : Int)) A, zS made (partsOf rs (t : Int)) Wt) ?_ ?_ ?_ ?_
   ·show t < t + 1; omega
   ·refine ⟨hVV.trans hV36, by dsimp only; omega, fun s h1 h2 => ?_, fun h => (by dsimp only at h; omega), fun s hs => ?_, hWnew, hnew⟩
    ·exact jO (n := t) hWs s h1
    ·have hge : A s ≤ zS made (partsOf rs (t : Int)) A s := kF hm0.1 (fun q hq => by have := hpn q hq; omega) s
     refine ⟨Int.le_trans (hAb s hs).1 hge, ?_⟩
     by_cases h : s < t
     ·have h1 := hWnew.bd hrs hG8 hc4 s
      unfold cutW at h1
      rw [if_pos h] at h1
      have h2 : zS made (partsOf rs (t : Int)) A s = zS made (partsOf rs (t : Int)) Wt s := jO (n := t) hWs s h
      dsimp only
      omega
     ·have : zS made (partsOf rs (t : Int)) A s = A s := want_out fun q hq => by have := qj hrs hq; omega
      dsimp only
      rw [this]; exact (hAb s hs).2
   ·exact ⟨rfl, rfl, rfl, rfl, rfl, rfl, trivial⟩
   ·exact Pt.zH
  have hj : j < (partsOf rs (t : Int)).length := by omega
  obtain ⟨q, hq⟩ : ∃ q, (partsOf rs (t : Int))[j]? = some q := ⟨_, List.getElem?_eq_getElem hj⟩
  have hqi := qj hrs (List.mem_of_getElem? hq)
  obtain ⟨T, hT⟩ : ∃ T : Nat, q.t = (T : Int) := ⟨q.t.toNat, by omega⟩
  have hT8 : T < 8 := by omega
  have htk := take_snoc2 hq
  have hx0 := Int.mul_nonneg hm0.1 (show 0 ≤ q.n by omega)
  have hx1 : made * q.n ≤ 700000000000000 * 9 := Int.mul_le_mul hm0.2 (by omega) (by omega) (by decide)
  have hy0 : 0 ≤ zS made ((partsOf rs (t : Int)).take j) A T := Int.le_trans (hAb T hT8).1 (kF hm0.1 (fun q hq => by have := hpn q (List.mem_of_mem_take hq); omega) T)
  have hy1 := want_up (n := 8) hm0 (by decide) (ps := (partsOf rs (t : Int)).take j) (W := A) (fun q hq => hpn q (List.mem_of_mem_take hq)) (fun s hs => (hAb s hs).2) T hT8
  rw [List.length_take] at hy1
  have hat2 : (stC (zS made ((partsOf rs (t : Int)).take j) A))[T * 1]? = some (iv (zS made ((partsOf rs (t : Int)).take j) A T)) := by rw [Nat.mul_one]; exact stC_at _ hT8
  have hset : (stC (zS made ((partsOf rs (t : Int)).take j) A)).set (T * 1) (iv (zS made ((partsOf rs (t : Int)).take j) A T + made * q.n)) = stC (zS made ((partsOf rs (t : Int)).take (j + 1)) A) := by
   rw [Nat.mul_one, jL _ _ hT8, htk, want_snoc, hT, Int.toNat_natCast]
  refine At.nrm ?_
  refine At.draw (.q 0 (.q 1 (.q 2 (.q 3 (.q 4 (.q 5 (.q 6 (.q 7 (.q 8 (.q 9 (.q 10 (.q 11 (.q 12 (.q 13 (.q 14 (.q 15 (.q 16 (.n true 17 .done)))))))))))))))))) ffm (by kernel_rfl) ?_
  refine AtT.zf ?_
  refine AtT.zf ?_
  refine AtT.zf ?_
  refine AtT.idx rfl trivial Tryz.underlying66 qX rfl hs36' rfl (by omega) (by omega) (by decide) ?_
  intro p53 e53 he53 hc53
  obtain rfl : q = e53 := by have : (partsOf rs (t : Int))[j]? = some e53 := (by rw [Int.toNat_natCast] at he53; exact he53); rw [hq] at this; exact Option.some.inj this
  first | refine AtT.zk zV ?_ | with_reducible refine AtT.zl zV ?_ | refine AtT.zn zV ?_
  first | refine AtT.zm tk3 ?_ | refine AtT.zo tk3 ?_
  rw [hT]
  refine AtT.jV rfl trivial Tryz.underlying28 tk2 rfl rfl hT8 (by decide) ?_
  refine AtT.jE rfl trivial rfl tk2 zP.zH hat2 (by decide) ?_
  refine AtT.zf ?_
  refine AtT.zf ?_
  refine AtT.zf ?_
  refine AtT.idx rfl trivial Tryz.underlying66 qX rfl hs36' rfl (by omega) (by omega) (by decide) ?_
  intro p61 e61 he61 hc61
  obtain rfl : q = e61 := by have : (partsOf rs (t : Int))[j]? = some e61 := (by rw [Int.toNat_natCast] at he61; exact he61); rw [hq] at this; exact Option.some.inj this
  first | refine AtT.zk qc ?_ | with_reducible refine AtT.zl qc ?_ | refine AtT.zn qc ?_
  first | refine AtT.zm tk2 ?_ | refine AtT.zo tk2 ?_
  refine AtT.mul rfl trivial rfl rfl (by decide) (Fit.of (by omega) (by omega)) ?_
  refine AtT.add rfl trivial rfl rfl (by decide) (Fit.of (by omega) (by omega)) ?_
  refine AtT.jV rfl trivial Tryz.underlying28 tk2 rfl rfl hT8 (by decide) ?_
  refine AtT.jk rfl trivial rfl rfl tk2 rfl rfl (by repeat first|exact Upd.here|apply Upd.there) (qR (by simp; omega) hset) ?_
  refine AtT.done ?_
  refine At.nrm ?_
  refine At.nrm ?_
  refine At.zh (.q 0 (.q 1 (.q 2 .done))) ?_
  refine AtT.zf ?_
  first | refine AtT.qI ?_ | refine AtT.ql ?_
  refine AtT.ze ?_
  refine AtT.done ?_
  refine At.nrm ?_
  refine At.round (j + 1) ?_ ?_ ?_ ?_
  ·show (partsOf rs (t : Int)).length - (j + 1) < (partsOf rs (t : Int)).length - j; omega
  ·exact ⟨rfl, by omega⟩
  ·exact ⟨rfl, rfl, rfl, rfl, rfl, rfl, rfl, rfl, ivs (by omega), trivial⟩
  ·exact Pt.zH
 ·refine At.zh (.q 0 (.q 1 (.q 2 (.q 3 (.q 4 (.q 5 (.q 6 .done))))))) ?_
  refine AtT.zf ?_
  refine AtT.qJ ?_
  refine AtT.zU (d := 38) rfl (hm) ?_
  refine AtT.zf ?_
  all_goals (first | refine AtT.kL 39 ?_ | refine AtT.zA (d := 39) rfl (fun hg39 => ?_) (fun hg39 => ?_) | refine AtT.zz (d := 39) rfl (fun hg39 => ?_) (fun hg39 => ?_))
  all_goals first|refine AtT.zi ?_|refine AtT.zg ?_|(refine AtT.zf ?_)
  all_goals first|refine AtT.zi ?_|refine AtT.zg ?_|(first | refine AtT.zR Tryz.underlying66 ?_ | refine AtT.zN Tryz.underlying66 ?_)
  all_goals first|refine AtT.zi ?_|refine AtT.zg ?_|(refine AtT.qK ?_)
  all_goals (refine AtT.zB ?_)
  all_goals refine AtT.done ?_
  all_goals (refine At.nrm ?_)
  all_goals refine At.qf rfl rfl ?_
  refine At.nrm ?_
  refine At.zh (.q 0 .done) ?_
  refine AtT.ze ?_
  refine AtT.done ?_
  refine At.nrm ?_
  refine At.lp (ι := Nat) (KS := fun j => [(0, v), (1, .slice au 8 cu), (2, iv G), (3, iv c), (9, .slice (some ⟨b14, 0, none⟩) 8 8), (10, iv (t : Int)), (11, iv made), (12, .slice a36 (partsOf rs (t : Int)).length c36), (13, iv j)]) (OS := fun j => [.blk b14 (LC (stC (zS made ((partsOf rs (t : Int)).take j) A)) 2)]) (VS := fun j V'' => V'' = V36 ∧ j ≤ (partsOf rs (t : Int)).length) (μ := fun j => (partsOf rs (t : Int)).length - j) 0 ?_ ?_ ?_ ?_
  ·exact ⟨rfl, rfl, rfl, rfl, rfl, rfl, rfl, rfl, rfl, trivial⟩
  ·exact Pt.zH
  ·exact ⟨rfl, Nat.zero_le _⟩
  rintro j V2 ks' O' ⟨rfl, hjl⟩ hk hO hl3
  subst hk hO
  refine At.nrm ?_
  refine At.zh (.q 0 (.q 1 (.q 2 (.q 3 .done)))) ?_
  refine AtT.zf ?_
  refine AtT.zf ?_
  first | refine AtT.zR Tryz.underlying66 ?_ | refine AtT.zN Tryz.underlying66 ?_
  refine AtT.qp ?_
  refine AtT.done ?_
  refine At.nrm ?_
  refine At.zX rfl (fun hp2 => ?_) (fun hp2 => ?_)
  rotate_left
  ·obtain rfl : j = (partsOf rs (t : Int)).length := by omega
   rw [List.take_length]
   refine At.nrm ?_
   refine At.zh (.q 0 (.q 1 (.q 2 .done))) ?_
   refine AtT.zf ?_
   first | refine AtT.je ?_ | refine AtT.jf ?_
   refine AtT.ze ?_
   refine AtT.done ?_
   refine At.nrm ?_
   refine At.round (t, zS made (partsOf rs (t : Int)) A, zS made (partsOf rs (t : Int)) Wt) ?_ ?_ ?_ ?_
   ·show t < t + 1; omega
   ·refine ⟨hVV.trans hV36, by dsimp only; omega, fun s h1 h2 => ?_, fun h => (by dsimp only at h; omega), fun s hs => ?_, hWnew, hnew⟩
    ·exact jO (n := t) hWs s h1
    ·have hge : A s ≤ zS made (partsOf rs (t : Int)) A s := kF hm0.1 (fun q hq => by have := hpn q hq; omega) s
     refine ⟨Int.le_trans (hAb s hs).1 hge, ?_⟩
     by_cases h : s < t
     ·have h1 := hWnew.bd hrs hG8 hc4 s
      unfold cutW at h1
      rw [if_pos h] at h1
      have h2 : zS made (partsOf rs (t : Int)) A s = zS made (partsOf rs (t : Int)) Wt s := jO (n := t) hWs s h
      dsimp only
      omega
     ·have : zS made (partsOf rs (t : Int)) A s = A s := want_out fun q hq => by have := qj hrs hq; omega
      dsimp only
      rw [this]; exact (hAb s hs).2
   ·exact ⟨rfl, rfl, rfl, rfl, rfl, rfl, trivial⟩
   ·exact Pt.zH
  have hj : j < (partsOf rs (t : Int)).length := by omega
  obtain ⟨q, hq⟩ : ∃ q, (partsOf rs (t : Int))[j]? = some q := ⟨_, List.getElem?_eq_getElem hj⟩
  have hqi := qj hrs (List.mem_of_getElem? hq)
  obtain ⟨T, hT⟩ : ∃ T : Nat, q.t = (T : Int) := ⟨q.t.toNat, by omega⟩
  have hT8 : T < 8 := by omega
  have htk := take_snoc2 hq
  have hx0 := Int.mul_nonneg hm0.1 (show 0 ≤ q.n by omega)
  have hx1 : made * q.n ≤ 700000000000000 * 9 := Int.mul_le_mul hm0.2 (by omega) (by omega) (by decide)
  have hy0 : 0 ≤ zS made ((partsOf rs (t : Int)).take j) A T := Int.le_trans (hAb T hT8).1 (kF hm0.1 (fun q hq => by have := hpn q (List.mem_of_mem_take hq); omega) T)
  have hy1 := want_up (n := 8) hm0 (by decide) (ps := (partsOf rs (t : Int)).take j) (W := A) (fun q hq => hpn q (List.mem_of_mem_take hq)) (fun s hs => (hAb s hs).2) T hT8
  rw [List.length_take] at hy1
  have hat2 : (stC (zS made ((partsOf rs (t : Int)).take j) A))[T * 1]? = some (iv (zS made ((partsOf rs (t : Int)).take j) A T)) := by rw [Nat.mul_one]; exact stC_at _ hT8
  have hset : (stC (zS made ((partsOf rs (t : Int)).take j) A)).set (T * 1) (iv (zS made ((partsOf rs (t : Int)).take j) A T + made * q.n)) = stC (zS made ((partsOf rs (t : Int)).take (j + 1)) A) := by
   rw [Nat.mul_one, jL _ _ hT8, htk, want_snoc, hT, Int.toNat_natCast]
  refine At.nrm ?_
  refine At.draw (.q 0 (.q 1 (.q 2 (.q 3 (.q 4 (.q 5 (.q 6 (.q 7 (.q 8 (.q 9 (.q 10 (.q 11 (.q 12 (.q 13 (.q 14 (.q 15 (.q 16 (.n true 17 .done)))))))))))))))))) ffm (by kernel_rfl) ?_
  refine AtT.zf ?_
  refine AtT.zf ?_
  refine AtT.zf ?_
  refine AtT.idx rfl trivial Tryz.underlying66 qX rfl hs36' rfl (by omega) (by omega) (by decide) ?_
  intro p53 e53 he53 hc53
  obtain rfl : q = e53 := by have : (partsOf rs (t : Int))[j]? = some e53 := (by rw [Int.toNat_natCast] at he53; exact he53); rw [hq] at this; exact Option.some.inj this
  first | refine AtT.zk zV ?_ | with_reducible refine AtT.zl zV ?_ | refine AtT.zn zV ?_
  first | refine AtT.zm tk3 ?_ | refine AtT.zo tk3 ?_
  rw [hT]
  refine AtT.jV rfl trivial Tryz.underlying28 tk2 rfl rfl hT8 (by decide) ?_
  refine AtT.jE rfl trivial rfl tk2 zP.zH hat2 (by decide) ?_
  refine AtT.zf ?_
  refine AtT.zf ?_
  refine AtT.zf ?_
  refine AtT.idx rfl trivial Tryz.underlying66 qX rfl hs36' rfl (by omega) (by omega) (by decide) ?_
  intro p61 e61 he61 hc61
  obtain rfl : q = e61 := by have : (partsOf rs (t : Int))[j]? = some e61 := (by rw [Int.toNat_natCast] at he61; exact he61); rw [hq] at this; exact Option.some.inj this
  first | refine AtT.zk qc ?_ | with_reducible refine AtT.zl qc ?_ | refine AtT.zn qc ?_
  first | refine AtT.zm tk2 ?_ | refine AtT.zo tk2 ?_
  refine AtT.mul rfl trivial rfl rfl (by decide) (Fit.of (by omega) (by omega)) ?_
  refine AtT.add rfl trivial rfl rfl (by decide) (Fit.of (by omega) (by omega)) ?_
  refine AtT.jV rfl trivial Tryz.underlying28 tk2 rfl rfl hT8 (by decide) ?_
  refine AtT.jk rfl trivial rfl rfl tk2 rfl rfl (by repeat first|exact Upd.here|apply Upd.there) (qR (by simp; omega) hset) ?_
  refine AtT.done ?_
  refine At.nrm ?_
  refine At.nrm ?_
  refine At.zh (.q 0 (.q 1 (.q 2 .done))) ?_
  refine AtT.zf ?_
  first | refine AtT.qI ?_ | refine AtT.ql ?_
  refine AtT.ze ?_
  refine AtT.done ?_
  refine At.nrm ?_
  refine At.round (j + 1) ?_ ?_ ?_ ?_
  ·show (partsOf rs (t : Int)).length - (j + 1) < (partsOf rs (t : Int)).length - j; omega
  ·exact ⟨rfl, by omega⟩
  ·exact ⟨rfl, rfl, rfl, rfl, rfl, rfl, rfl, rfl, ivs (by omega), trivial⟩
  ·exact Pt.zH
end Go.Proofs.YtpoignmclfdgpaaGreatDoor
set_option linter.unusedVariables false
namespace Go.Proofs.YtpoignmclfdgpaaGreatDoor
open Go.Lw Go.Gl Go.Bk Go.RowKit
def cutS (st : Nat → Int) : Nat → Int := fun s => if s < 8 then st s else 0
theorem cutS_L (st : Nat → Int) : stL (cutS st) = stL st := stL_ext fun s hs => by unfold cutS; rw [if_pos hs]
theorem cutS_C (st : Nat → Int) : stC (cutS st) = stC st := stC_ext fun s hs => by unfold cutS; rw [if_pos hs]
theorem cutS_sum (st : Nat → Int) : jI (cutS st) 8 = jI st 8 := by simp [jI, cutS]
structure StkOk (l : Nat → Int) : Prop where
 bd : ∀ s, 0 ≤ l s ∧ l s ≤ 24000
 sum : jI l 8 ≤ 24000
theorem stkOk_of {b : Bo} (hb : BoG b) {first : Nat} (hf : first ≤ b.es.length) {day : Int} {st : Nat → Int} (h : runS b.rs b.es first day = some st) : StkOk (cutS st) := by
 refine ⟨fun s => ?_, by rw [cutS_sum]; exact runS_sum hb hf h⟩
 unfold cutS
 split
 ·rename_i hs; exact runS_nn hb hf h s hs
 ·omega
def jP (b : Bo) (g : Int) : Int := if bkE b ≠ 0 then bkE b else if ¬ (0 ≤ g ∧ g ≤ 7) then 2 else if partsOf b.rs g = [] then 16 else 0
def jT (b : Bo) (g : Int) : Int := if jP b g ≠ 0 then 0 else (mostS b.rs (cutS (stkF b b.es.length 999)) g.toNat : Int)
def sp : Nat → Nat
 | 0 => 0
 | i + 1 => 2 ^ i
theorem sp_half (i : Nat) : (((2 ^ i : Nat) : Int)).tdiv 2 = ((sp i : Nat) : Int) := by
 show (((2 ^ i / 2 : Nat)) : Int) = _
 cases i with
 | zero => rfl
 | succ i => simp only [sp]; rw [Nat.pow_succ, Nat.mul_div_cancel _ (by decide)]
theorem pmost_f (b : Bo) (g : Int) (V : View) (v : Value) (hv : BoV V v b) : Fnc Tryz.prog 33 [v, iv g] V fun r _ => r = .tuple #[iv (jT b g), iv (jP b g)] := by
 obtain ⟨v1, a, c, rfl, hr, hes⟩ := id hv
 have hlen := hes.jl
 by_cases h0 : bkE b = 0
 rotate_left
 ·have hE : jP b g = bkE b := by unfold jP; rw [if_pos h0]
  have hL : jT b g = 0 := by unfold jT; rw [if_pos (by rw [hE]; exact h0)]
  rw [hE, hL]
  refine qh Tryz.func33 rfl Tryz.ntmps33 (Nat.le_of_ble_eq_true rfl) ?_
  intro w0 hw0
  refine At.nrm ?_
  refine At.zh (.n false 0 (.q 1 (.q 2 .done))) ?_
  refine AtT.jd ?_
  intro b2
  refine AtT.ze ?_
  refine AtT.ze ?_
  refine AtT.done ?_
  refine At.nrm ?_
  refine At.zh (.q 0 (.n true 1 (.q 2 (.q 3 (.q 4 (.q 5 (.q 6 .done))))))) ?_
  first | refine AtT.zD zK ?_ | refine AtT.zI zK ?_ | refine AtT.zC zK ?_
  refine AtT.jq rfl trivial rfl ok62 (by decide) (List.Perm.refl _) (open_bad b h0 _ _ hv) ?_
  rintro _ _ V14 ⟨hV14, rfl, rfl⟩
  refine AtT.zf ?_
  refine AtT.zt ?_
  refine AtT.zt ?_
  refine AtT.ze ?_
  refine AtT.ze ?_
  refine AtT.done ?_
  refine At.nrm ?_
  refine At.nrm ?_
  refine At.zh (.q 0 (.q 1 (.q 2 .done))) ?_
  refine AtT.zf ?_
  refine AtT.qH ?_
  refine AtT.ze ?_
  refine AtT.done ?_
  refine At.nrm ?_
  refine At.qb rfl (decide_eq_true h0) ?_
  refine At.nrm ?_
  refine At.zh (.q 0 (.q 1 (.q 2 .done))) ?_
  refine AtT.zf ?_
  refine AtT.ze ?_
  refine AtT.ze ?_
  refine AtT.done ?_
  refine At.nrm ?_
  exact At.qN rfl (.tmp rfl) (.tmp rfl) rfl
 have hR := jA.1 h0
 have hrs := hR.bog.rs
 have h0' : ¬ bkE b ≠ 0 := fun h => h h0
 refine qh Tryz.func33 rfl Tryz.ntmps33 (Nat.le_of_ble_eq_true rfl) ?_
 intro w0 hw0
 refine At.nrm ?_
 refine At.zh (.n false 0 (.q 1 (.q 2 .done))) ?_
 refine AtT.jd ?_
 intro b2
 refine AtT.ze ?_
 refine AtT.ze ?_
 refine AtT.done ?_
 refine At.nrm ?_
 refine At.zh (.q 0 (.n true 1 (.q 2 (.q 3 (.q 4 (.q 5 (.q 6 .done))))))) ?_
 first | refine AtT.zD zK ?_ | refine AtT.zI zK ?_ | refine AtT.zC zK ?_
 refine AtT.jq rfl trivial rfl ok62 (by decide) (List.Perm.refl _) (open_ok b h0 _ _ hv) ?_
 rintro _ _ V14 ⟨hV14, p, m1, m2, rfl, rfl, hop⟩
 refine AtT.zf ?_
 refine AtT.zt ?_
 refine AtT.zt ?_
 refine AtT.ze ?_
 refine AtT.ze ?_
 refine AtT.done ?_
 refine At.nrm ?_
 refine At.nrm ?_
 refine At.zh (.q 0 (.q 1 (.q 2 .done))) ?_
 refine AtT.zf ?_
 refine AtT.qH ?_
 refine AtT.ze ?_
 refine AtT.done ?_
 refine At.nrm ?_
 refine At.qf rfl rfl ?_
 refine At.nrm ?_
 by_cases g1 : 0 ≤ g ∧ g ≤ 7
 rotate_left
 ·refine At.zh (.q 0 (.n false 1 (.n false 2 (.q 3 (.q 4 .done))))) ?_
  refine AtT.zf ?_
  refine AtT.zQ (qz _) ?_
  intro q23 V23 hV23 hq23
  have g23 : Le V V23 := by first | exact hV23 | exact Le.trans (by assumption) hV23
  refine AtT.qa rfl rfl jU (qC 0 7 g _ _ (Sl.lit (l := [g]) hq23 rfl (by simp))) ?_
  rintro v24 V24 hV24 rfl
  refine AtT.zU (d := 24) rfl (g1) ?_
  refine AtT.qF ?_
  refine AtT.qM (d := 25) rfl ((show (!false) = true from rfl)) ?_
  refine AtT.ze ?_
  refine AtT.done ?_
  refine At.nrm ?_
  all_goals refine At.qb rfl rfl ?_
  refine At.nrm ?_
  have hE : jP b g = 2 := by unfold jP; rw [if_neg h0', if_pos g1]
  have hL : jT b g = 0 := by unfold jT; rw [if_pos (by rw [hE]; decide)]
  rw [hE, hL]
  refine At.zh (.q 0 (.q 1 .done)) ?_
  refine AtT.ze ?_
  refine AtT.ze ?_
  refine AtT.done ?_
  refine At.nrm ?_
  exact At.qN rfl (.tmp rfl) (.tmp rfl) rfl
 refine At.zh (.q 0 (.n false 1 (.n false 2 (.q 3 (.q 4 .done))))) ?_
 refine AtT.zf ?_
 refine AtT.zQ (qz _) ?_
 intro q23 V23 hV23 hq23
 have g23 : Le V V23 := by first | exact hV23 | exact Le.trans (by assumption) hV23
 refine AtT.qa rfl rfl jU (qC 0 7 g _ _ (Sl.lit (l := [g]) hq23 rfl (by simp))) ?_
 rintro v24 V24 hV24 rfl
 refine AtT.qm (d := 24) rfl (g1) ?_
 refine AtT.qF ?_
 refine AtT.qM (d := 25) rfl ((show (!true) = false from rfl)) ?_
 refine AtT.ze ?_
 refine AtT.done ?_
 refine At.nrm ?_
 all_goals refine At.qf rfl rfl ?_
 refine At.nrm ?_
 obtain ⟨G, rfl⟩ : ∃ G : Nat, g = (G : Int) := ⟨g.toNat, by omega⟩
 have hG8 : G < 8 := by omega
 obtain ⟨u1, ae, ce, hsto, _, hes2, hrm⟩ := hop.le (hV23.trans hV24)
 have hc2 := hsto.c2
 obtain ⟨Mr, cr, hr1, hr2⟩ := id hrm
 obtain ⟨hr3, hr4⟩ := hr2 (G : Int)
 have hrcs : rcs (qZ (G : Int) zq Mr) = .slice (qZ (G : Int) zq Mr).2.1 (partsOf b.rs (G : Int)).length (qZ (G : Int) zq Mr).2.2 := by
  show Value.slice _ (qZ (G : Int) zq Mr).1.ps.length _ = _
  rw [hr3]
 rw [hrcs] at hr4
 have hlen0 : ((partsOf b.rs (G : Int)).length : Int) = 0 ↔ partsOf b.rs (G : Int) = [] := by rw [← List.length_eq_zero_iff]; omega
 refine At.zh (.q 0 (.q 1 (.q 2 (.q 3 (.q 4 (.q 5 (.q 6 (.q 7 (.q 8 (.q 9 .done)))))))))) ?_
 refine AtT.zf ?_
 refine AtT.jN ?_
 first | refine AtT.zk jc ?_ | with_reducible refine AtT.zl jc ?_ | refine AtT.zn jc ?_
 first | refine AtT.zm tk87 ?_ | refine AtT.zo tk87 ?_
 refine AtT.zf ?_
 refine AtT.qG (bd92_0 _) ?_
 refine AtT.lookupV rfl trivial key92 (G : Int) zq Tryz.underlying87 z66 rfl rfl rfl hr1 (by decide) ?_
 rw [hrcs]
 first | refine AtT.zR Tryz.underlying66 ?_ | refine AtT.zN Tryz.underlying66 ?_
 refine AtT.qK ?_
 refine AtT.ze ?_
 refine AtT.done ?_
 refine At.nrm ?_
 refine At.zX rfl (fun hp => ?_) (fun hp => ?_)
 ·have hE : jP b G = 16 := by unfold jP; rw [if_neg h0', if_neg (fun h => h g1), if_pos (hlen0.1 hp)]
  have hL : jT b G = 0 := by unfold jT; rw [if_pos (by rw [hE]; decide)]
  rw [hE, hL]
  refine At.nrm ?_
  refine At.zh (.q 0 (.q 1 .done)) ?_
  refine AtT.ze ?_
  refine AtT.ze ?_
  refine AtT.done ?_
  refine At.nrm ?_
  exact At.qN rfl (.tmp rfl) (.tmp rfl) rfl
 obtain ⟨st, hst⟩ := hR.st (first := b.es.length) (Nat.le_refl _) 999
 have hT := runT_some hst
 have hok := stkOk_of hR.bog (Nat.le_refl _) hst
 have hE : jP b G = 0 := by unfold jP; rw [if_neg h0', if_neg (fun h => h g1), if_neg (fun h => hp (hlen0.2 h))]
 have hL : jT b G = (mostS b.rs (cutS st) G : Int) := by unfold jT; rw [if_neg (by rw [hE]; simp), stkF_some hst, Int.toNat_natCast]
 rw [hE, hL]
 refine At.nrm ?_
 refine At.zh (.q 0 (.q 1 (.q 2 (.q 3 (.n false 4 (.q 5 (.q 6 (.q 7 (.n false 8 (.n true 9 (.q 10 .done))))))))))) ?_
 refine AtT.zf ?_
 first | refine AtT.zk zu ?_ | with_reducible refine AtT.zl zu ?_ | refine AtT.zn zu ?_
 first | refine AtT.zm qo ?_ | refine AtT.zo qo ?_
 first | refine AtT.zR Tryz.underlying24 ?_ | refine AtT.zN Tryz.underlying24 ?_
 refine AtT.zG rfl rfl ok68 (run_f b hR.bog b.es.length (Nat.le_refl _) (hR.bk (Nat.le_refl _)) 999 p m1 m2 u1 ae ce _ hsto hes2 hrm) ?_
 rintro _ rfl; rw [hT]
 refine AtT.zf ?_
 refine AtT.zt ?_
 refine AtT.zt ?_
 refine AtT.zT z105 ?_
 intro b8
 refine AtT.zF qw ?_
 refine AtT.ze ?_
 refine AtT.done ?_
 refine At.nrm ?_
 rw [← cutS_C st]
 generalize cutS st = l at hok ⊢
 refine At.zh (.q 0 .done) ?_
 refine AtT.ze ?_
 refine AtT.done ?_
 refine At.nrm ?_
 refine At.zh (.q 0 .done) ?_
 refine AtT.ze ?_
 refine AtT.done ?_
 refine At.nrm ?_
 refine At.lp (ι := Nat × Nat × MM Int Int × Nat) (KS := fun q => [(1, iv G), (6, .pointer (some ⟨p, 0, none⟩)), (8, .pointer (some ⟨b8, 0, none⟩)), (10, iv q.2.1), (11, iv (sp q.1))]) (OS := fun q => [.blk b8 (LC (stC l) 105), .blk m2 (qY ekT iv q.2.2.1 q.2.2.2)])
  (VS := fun q V' => V' = V24 ∧ q.1 ≤ 16 ∧ q.2.1 + 2 ^ q.1 ≤ 65536 ∧ (q.2.1 = 0 ∨ kM b.rs l G q.2.1 = true) ∧ ∀ x : Nat, q.2.1 + 2 ^ q.1 ≤ x → kM b.rs l G x = false) (μ := fun q => q.1) (16, 0, [], 0) ?_ ?_ ?_ ?_
 ·exact ⟨rfl, rfl, rfl, rfl, rfl, trivial⟩
 ·exact Pt.zH
 ·refine ⟨rfl, Nat.le_refl _, by decide, .inl rfl, fun x hx => ?_⟩
  dsimp only at hx
  cases h : kM b.rs l G x with
  | false => rfl
  | true =>
   have h1 := canS_le hrs (fun s => (hok.bd s).1) hG8 (Int.natCast_nonneg x) h
   have h2 := hok.sum
   have h3 : (2 : Nat) ^ 16 = 65536 := by decide
   omega
 rintro ⟨i, m, M, cM⟩ V' ks' O' ⟨rfl, hi16, hm6, hmc, hmn⟩ hk hO hl2
 dsimp only at hi16 hm6 hmc hmn hk hO
 subst hk hO
 refine At.nrm ?_
 refine At.zh (.q 0 (.q 1 .done)) ?_
 refine AtT.zf ?_
 refine AtT.qJ ?_
 refine AtT.done ?_
 refine At.nrm ?_
 refine At.zX rfl (fun hp2 => ?_) (fun hp2 => ?_)
 rotate_left
 ·obtain rfl : i = 0 := by
   cases i with
   | zero => rfl
   | succ i => exfalso; apply hp2; show (0 : Int) < ((2 ^ i : Nat) : Int); have := Nat.two_pow_pos i; omega
  have hfin := mostS_of hrs (fun s => (hok.bd s).1) hok.sum hG8 hmc (fun x hx => hmn x (by simp; omega))
  refine At.nrm ?_
  refine At.zh (.q 0 (.q 1 (.q 2 .done))) ?_
  refine AtT.zf ?_
  refine AtT.ze ?_
  refine AtT.ze ?_
  refine AtT.done ?_
  refine At.nrm ?_
  exact At.qN rfl (.tmp rfl) (.tmp rfl) (by rw [hfin])
 obtain ⟨i, rfl⟩ : ∃ i', i = i' + 1 := by
  cases i with
  | zero => simp [sp] at hp2
  | succ i => exact ⟨i, rfl⟩
 have hpow : (2 : Nat) ^ (i + 1) = 2 ^ i + 2 ^ i := by rw [Nat.pow_succ]; omega
 have hpos := Nat.two_pow_pos i
 have hhalf := sp_half i
 have hspi : sp i ≤ 2 ^ i := by
  cases i with
  | zero => simp [sp]
  | succ i => simp only [sp]; exact Nat.pow_le_pow_right (by decide) (by omega)
 have hfh : Fit ((((2 ^ i : Nat) : Int)).tdiv 2) := by rw [hhalf]; exact Fit.of (by omega) (by omega)
 have hsum : (m : Int) + ((2 ^ i : Nat) : Int) = ((m + 2 ^ i : Nat) : Int) := by push_cast; rfl
 have hss : (iv (sp (i + 1)) : Value) = iv ((2 ^ i : Nat) : Int) := rfl
 rw [hss]
 refine At.nrm ?_
 cases hcan : kM b.rs l G ((m + 2 ^ i : Nat) : Int) with
 | true =>
  refine At.zh (.q 0 (.q 1 (.q 2 (.q 3 (.q 4 (.q 5 (.n true 6 .done))))))) ?_
  refine AtT.zf ?_
  first | refine AtT.zD qw ?_ | refine AtT.zI qw ?_ | refine AtT.zC qw ?_
  refine AtT.zf ?_
  refine AtT.zf ?_
  refine AtT.zf ?_
  first | refine AtT.qI ?_ | refine AtT.ql ?_
  rw [hsum]
  refine AtT.jq rfl trivial rfl ok70 (by decide) (zP.perm zP.zH) (can_f b.rs hrs l (fun s _ => hok.bd s) G hG8 ((m + 2 ^ i : Nat) : Int) (by omega) M cM p m1 m2 _ _ _ hsto hrm) ?_
  rintro _ _ V54 ⟨rfl, rfl, M', c', rfl⟩; rw [hcan]
  refine AtT.done ?_
  refine At.nrm ?_
  refine At.qb rfl rfl ?_
  refine At.nrm ?_
  refine At.zh (.q 0 (.q 1 (.q 2 (.q 3 .done)))) ?_
  refine AtT.zf ?_
  refine AtT.zf ?_
  first | refine AtT.qI ?_ | refine AtT.ql ?_
  rw [hsum]
  refine AtT.ze ?_
  refine AtT.done ?_
  refine At.nrm ?_
  refine At.nrm ?_
  refine At.zh (.q 0 (.q 1 (.q 2 .done))) ?_
  refine AtT.zf ?_
  refine AtT.kquo ?_
  rw [hhalf]
  refine AtT.ze ?_
  refine AtT.done ?_
  refine At.nrm ?_
  refine At.round (i, m + 2 ^ i, M', c') ?_ ?_ ?_ ?_
  ·show i < i + 1; omega
  ·refine ⟨rfl, by dsimp only; omega, by dsimp only; omega, .inr hcan, fun x hx => hmn x (by dsimp only at hx; omega)⟩
  ·exact ⟨rfl, rfl, rfl, rfl, rfl, trivial⟩
  ·exact Pt.zH
 | false =>
  refine At.zh (.q 0 (.q 1 (.q 2 (.q 3 (.q 4 (.q 5 (.n true 6 .done))))))) ?_
  refine AtT.zf ?_
  first | refine AtT.zD qw ?_ | refine AtT.zI qw ?_ | refine AtT.zC qw ?_
  refine AtT.zf ?_
  refine AtT.zf ?_
  refine AtT.zf ?_
  first | refine AtT.qI ?_ | refine AtT.ql ?_
  rw [hsum]
  refine AtT.jq rfl trivial rfl ok70 (by decide) (zP.perm zP.zH) (can_f b.rs hrs l (fun s _ => hok.bd s) G hG8 ((m + 2 ^ i : Nat) : Int) (by omega) M cM p m1 m2 _ _ _ hsto hrm) ?_
  rintro _ _ V54 ⟨rfl, rfl, M', c', rfl⟩; rw [hcan]
  refine AtT.done ?_
  refine At.nrm ?_
  refine At.qf rfl rfl ?_
  refine At.nrm ?_
  refine At.zh (.q 0 (.q 1 (.q 2 .done))) ?_
  refine AtT.zf ?_
  refine AtT.kquo ?_
  rw [hhalf]
  refine AtT.ze ?_
  refine AtT.done ?_
  refine At.nrm ?_
  refine At.round (i, m, M', c') ?_ ?_ ?_ ?_
  ·show i < i + 1; omega
  ·refine ⟨rfl, by dsimp only; omega, by dsimp only; omega, hmc, fun x hx => canS_up hrs hx hcan⟩
  ·exact ⟨rfl, rfl, rfl, rfl, rfl, trivial⟩
  ·exact Pt.zH
theorem rmost_f (b : Bo) (g : Int) (V : View) (v : Value) (hv : BoV V v b) : Fnc Tryz.prog 34 [v, iv g] V fun r _ => r = .tuple #[iv (jT b g), iv (jP b g)] := by
 obtain ⟨v1, a, c, rfl, hr, hes⟩ := id hv
 have hlen := hes.jl
 refine qh Tryz.func34 rfl Tryz.ntmps34 (Nat.le_of_ble_eq_true rfl) ?_
 intro w0 hw0
 refine At.nrm ?_
 refine At.zh (.n false 0 (.q 1 (.q 2 .done))) ?_
 refine AtT.jd ?_
 intro b2
 refine AtT.ze ?_
 refine AtT.ze ?_
 refine AtT.done ?_
 refine At.nrm ?_
 refine At.zh (.q 0 (.n false 1 (.q 2 .done))) ?_
 first | refine AtT.zD zK ?_ | refine AtT.zI zK ?_ | refine AtT.zC zK ?_
 refine AtT.zG rfl rfl ok28 (qU b _ _ hv) ?_
 rintro _ rfl
 refine AtT.qH ?_
 refine AtT.done ?_
 refine At.nrm ?_
 refine At.zX rfl (fun h0 => ?_) (fun h0 => ?_)
 ·have hE : jP b g = bkE b := by unfold jP; rw [if_pos h0]
  have hL : jT b g = 0 := by unfold jT; rw [if_pos (by rw [hE]; exact h0)]
  rw [hE, hL]
  refine At.nrm ?_
  refine At.zh (.q 0 (.n false 1 (.q 2 (.q 3 .done)))) ?_
  first | refine AtT.zD zK ?_ | refine AtT.zI zK ?_ | refine AtT.zC zK ?_
  refine AtT.zG rfl rfl ok28 (qU b _ _ hv) ?_
  rintro _ rfl
  refine AtT.ze ?_
  refine AtT.ze ?_
  refine AtT.done ?_
  refine At.nrm ?_
  exact At.qN rfl (.tmp rfl) (.tmp rfl) rfl
 have hR := jA.1 (Classical.not_not.1 h0)
 have hrs := hR.bog.rs
 refine At.nrm ?_
 by_cases g1 : 0 ≤ g ∧ g ≤ 7
 rotate_left
 ·refine At.zh (.q 0 (.n false 1 (.q 2 .done))) ?_
  refine AtT.zf ?_
  refine AtT.zG rfl rfl ok59 (jb g _) ?_
  rintro _ rfl
  refine AtT.zU (d := 16) rfl (g1) ?_
  refine AtT.qF ?_
  refine AtT.qM (d := 17) rfl ((show (!false) = true from rfl)) ?_
  refine AtT.done ?_
  refine At.nrm ?_
  all_goals refine At.qb rfl rfl ?_
  refine At.nrm ?_
  have hE : jP b g = 2 := by unfold jP; rw [if_neg h0, if_pos g1]
  have hL : jT b g = 0 := by unfold jT; rw [if_pos (by rw [hE]; decide)]
  rw [hE, hL]
  refine At.zh (.q 0 (.q 1 .done)) ?_
  refine AtT.ze ?_
  refine AtT.ze ?_
  refine AtT.done ?_
  refine At.nrm ?_
  exact At.qN rfl (.tmp rfl) (.tmp rfl) rfl
 refine At.zh (.q 0 (.n false 1 (.q 2 .done))) ?_
 refine AtT.zf ?_
 refine AtT.zG rfl rfl ok59 (jb g _) ?_
 rintro _ rfl
 refine AtT.qm (d := 16) rfl (g1) ?_
 refine AtT.qF ?_
 refine AtT.qM (d := 17) rfl ((show (!true) = false from rfl)) ?_
 refine AtT.done ?_
 refine At.nrm ?_
 all_goals refine At.qf rfl rfl ?_
 refine At.nrm ?_
 obtain ⟨G, rfl⟩ : ∃ G : Nat, g = (G : Int) := ⟨g.toNat, by omega⟩
 have hG8 : G < 8 := by omega
 have hlen0 : ((partsOf b.rs (G : Int)).length : Int) = 0 ↔ partsOf b.rs (G : Int) = [] := by rw [← List.length_eq_zero_iff]; omega
 refine At.zh (.q 0 (.q 1 (.q 2 (.n false 3 (.q 4 (.q 5 .done)))))) ?_
 first | refine AtT.zk zw ?_ | with_reducible refine AtT.zl zw ?_ | refine AtT.zn zw ?_
 first | refine AtT.zm qy ?_ | refine AtT.zo qy ?_
 refine AtT.zf ?_
 refine AtT.qa rfl rfl ok48 (partsOf_f b.rs G _ _ hr) ?_
 rintro v21 V21 hV21 ⟨a21, c21, rfl, hs21⟩
 refine AtT.zN Tryz.underlying66 ?_
 refine AtT.qK ?_
 refine AtT.done ?_
 refine At.nrm ?_
 refine At.zX rfl (fun hp => ?_) (fun hp => ?_)
 ·have hE : jP b G = 16 := by unfold jP; rw [if_neg h0, if_neg (fun h => h g1), if_pos (hlen0.1 hp)]
  have hL : jT b G = 0 := by unfold jT; rw [if_pos (by rw [hE]; decide)]
  rw [hE, hL]
  refine At.nrm ?_
  refine At.zh (.q 0 (.q 1 .done)) ?_
  refine AtT.ze ?_
  refine AtT.ze ?_
  refine AtT.done ?_
  refine At.nrm ?_
  exact At.qN rfl (.tmp rfl) (.tmp rfl) rfl
 obtain ⟨st, hst⟩ := hR.st (first := b.es.length) (Nat.le_refl _) 999
 have hok := stkOk_of hR.bog (Nat.le_refl _) hst
 have hE : jP b G = 0 := by unfold jP; rw [if_neg h0, if_neg (fun h => h g1), if_neg (fun h => hp (hlen0.2 h))]
 have hL : jT b G = (mostS b.rs (cutS st) G : Int) := by unfold jT; rw [if_neg (by rw [hE]; simp), stkF_some hst, Int.toNat_natCast]
 have hv21 := hv.le hV21
 rw [hE, hL]
 refine At.nrm ?_
 refine At.zh (.q 0 (.q 1 (.q 2 (.q 3 (.n false 4 (.q 5 .done)))))) ?_
 first | refine AtT.zD zK ?_ | refine AtT.zI zK ?_ | refine AtT.zC zK ?_
 first | refine AtT.zk zu ?_ | with_reducible refine AtT.zl zu ?_ | refine AtT.zn zu ?_
 first | refine AtT.zm qo ?_ | refine AtT.zo qo ?_
 first | refine AtT.zR Tryz.underlying24 ?_ | refine AtT.zN Tryz.underlying24 ?_
 refine AtT.qa rfl rfl ok69 (rstockOf_f b hR.bog b.es.length (Nat.le_refl _) (hR.bk (Nat.le_refl _)) 999 st hst _ _ hv21) ?_
 rintro v28 V28 hV28 hs28
 refine AtT.ze ?_
 refine AtT.done ?_
 refine At.nrm ?_
 have hr28 := (hr.le hV21).le hV28
 rw [← cutS_L st] at hs28
 generalize cutS st = l at hok hs28 ⊢
 refine At.zh (.q 0 (.q 1 .done)) ?_
 refine AtT.ze ?_
 refine AtT.ze ?_
 refine AtT.done ?_
 refine At.nrm ?_
 refine At.lp (ι := Nat × Nat) (KS := fun q => [(1, iv G), (2, .pointer (some ⟨b2, 0, none⟩)), (6, v28), (7, iv q.1), (8, iv q.2)]) (OS := fun _ => [.blk b2 (LC [v1, .slice a b.es.length c] 26)])
  (VS := fun q V' => Le V28 V' ∧ q.1 ≤ q.2 ∧ q.2 ≤ 24000 ∧ (q.1 = 0 ∨ kM b.rs l G q.1 = true) ∧ ∀ x : Nat, q.2 < x → kM b.rs l G x = false) (μ := fun q => q.2 - q.1) (0, 24000) ?_ ?_ ?_ ?_
 ·exact ⟨rfl, rfl, rfl, rfl, rfl, trivial⟩
 ·exact Pt.zH
 ·refine ⟨Le.refl _, Nat.zero_le _, Nat.le_refl _, .inl rfl, fun x hx => ?_⟩
  cases h : kM b.rs l G x with
  | false => rfl
  | true =>
   have h1 := canS_le hrs (fun s => (hok.bd s).1) hG8 (Int.natCast_nonneg x) h
   have h2 := hok.sum
   dsimp only at hx
   omega
 rintro ⟨lo, hi⟩ V' ks' O' ⟨hVV, hlh, h24, hlc, hhc⟩ hk hO hl2
 dsimp only at hlh h24 hlc hhc hk hO
 subst hk hO
 have hr' := hr28.le hVV
 have hs' := hs28.le hVV
 refine At.nrm ?_
 refine At.zh (.q 0 (.q 1 (.q 2 .done))) ?_
 refine AtT.zf ?_
 refine AtT.zf ?_
 refine AtT.qp ?_
 refine AtT.done ?_
 refine At.nrm ?_
 refine At.zX rfl (fun hp2 => ?_) (fun hp2 => ?_)
 rotate_left
 ·obtain rfl : lo = hi := by omega
  have hfin := mostS_of hrs (fun s => (hok.bd s).1) hok.sum hG8 hlc hhc
  refine At.nrm ?_
  refine At.zh (.q 0 (.q 1 (.q 2 .done))) ?_
  refine AtT.zf ?_
  refine AtT.ze ?_
  refine AtT.ze ?_
  refine AtT.done ?_
  refine At.nrm ?_
  exact At.qN rfl (.tmp rfl) (.tmp rfl) (by rw [hfin])
 have hmid : ((lo : Int) + hi + 1).tdiv 2 = (((lo + hi + 1) / 2 : Nat) : Int) := by
  rw [show (lo : Int) + hi + 1 = ((lo + hi + 1 : Nat) : Int) by push_cast; rfl]; rfl
 have hfm : Fit (((lo : Int) + hi + 1).tdiv 2) := by rw [hmid]; exact Fit.of (by omega) (by omega)
 obtain ⟨mid, hmd⟩ : ∃ mid : Nat, mid = (lo + hi + 1) / 2 := ⟨_, rfl⟩
 rw [← hmd] at hmid
 refine At.nrm ?_
 refine At.zh (.q 0 (.q 1 (.q 2 (.q 3 (.q 4 (.q 5 .done)))))) ?_
 refine AtT.zf ?_
 refine AtT.zf ?_
 first | refine AtT.qI ?_ | refine AtT.ql ?_
 first | refine AtT.qI ?_ | refine AtT.ql ?_
 refine AtT.kquo ?_
 rw [hmid]
 refine AtT.ze ?_
 refine AtT.done ?_
 refine At.nrm ?_
 refine At.nrm ?_
 cases hcan : kM b.rs l G (mid : Int) with
 | true =>
  refine At.zh (.q 0 (.q 1 (.q 2 (.q 3 (.q 4 (.n false 5 .done)))))) ?_
  first | refine AtT.zk zw ?_ | with_reducible refine AtT.zl zw ?_ | refine AtT.zn zw ?_
  first | refine AtT.zm qy ?_ | refine AtT.zo qy ?_
  refine AtT.zf ?_
  refine AtT.zf ?_
  refine AtT.zf ?_
  refine AtT.zG rfl rfl ok71 (rcan_f b.rs hrs l (fun s _ => hok.bd s) G hG8 (mid : Int) (by omega) _ _ _ hr' hs') ?_
  rintro _ rfl; rw [hcan]
  refine AtT.done ?_
  refine At.nrm ?_
  refine At.qb rfl rfl ?_
  refine At.nrm ?_
  refine At.zh (.q 0 (.q 1 .done)) ?_
  refine AtT.zf ?_
  refine AtT.ze ?_
  refine AtT.done ?_
  refine At.nrm ?_
  refine At.round (mid, hi) ?_ ?_ ?_ ?_
  ·show hi - mid < hi - lo; omega
  ·exact ⟨hVV, by dsimp only; omega, h24, .inr hcan, hhc⟩
  ·exact ⟨rfl, rfl, rfl, rfl, rfl, trivial⟩
  ·exact Pt.zH
 | false =>
  refine At.zh (.q 0 (.q 1 (.q 2 (.q 3 (.q 4 (.n false 5 .done)))))) ?_
  first | refine AtT.zk zw ?_ | with_reducible refine AtT.zl zw ?_ | refine AtT.zn zw ?_
  first | refine AtT.zm qy ?_ | refine AtT.zo qy ?_
  refine AtT.zf ?_
  refine AtT.zf ?_
  refine AtT.zf ?_
  refine AtT.zG rfl rfl ok71 (rcan_f b.rs hrs l (fun s _ => hok.bd s) G hG8 (mid : Int) (by omega) _ _ _ hr' hs') ?_
  rintro _ rfl; rw [hcan]
  refine AtT.done ?_
  refine At.nrm ?_
  refine At.qf rfl rfl ?_
  refine At.nrm ?_
  refine At.zh (.q 0 (.q 1 (.q 2 .done))) ?_
  refine AtT.zf ?_
  first | refine AtT.je ?_ | refine AtT.jf ?_
  refine AtT.ze ?_
  refine AtT.done ?_
  refine At.nrm ?_
  refine At.round (lo, mid - 1) ?_ ?_ ?_ ?_
  ·show mid - 1 - lo < hi - lo; omega
  ·exact ⟨hVV, by dsimp only; omega, by dsimp only; omega, hlc, fun x hx => canS_up hrs (by dsimp only at hx; omega) hcan⟩
  ·exact ⟨rfl, rfl, rfl, rfl, ivs (by dsimp only; omega), trivial⟩
  ·exact Pt.zH
end Go.Proofs.YtpoignmclfdgpaaGreatDoor
set_option linter.unusedVariables false
namespace Go.Proofs.YtpoignmclfdgpaaGreatDoor
open Go.Lw Go.Gl Go.Bk Go.RowKit
theorem list_same {α : Type} {l m : List α} (hl : l.length = m.length) (h : ∀ j, j < l.length → l[j]? = m[j]?) : l = m := by
 apply List.ext_getElem?
 intro i
 by_cases hi : i < l.length
 ·exact h i hi
 ·rw [List.getElem?_eq_none (by omega), List.getElem?_eq_none (by omega)]
theorem bo_ne {x y : Bo} {k : Nat} {r q : Rc} (h1 : x.rs[k]? = some r) (h2 : y.rs[k]? = some q) (h : r ≠ q) : decide (x = y) = false := decide_eq_false fun e => by subst e; rw [h1] at h2; exact h (Option.some.inj h2)
theorem same_f (x y : Bo) (V : View) (v u : Value) (hx : BoV V v x) (hy : BoV V u y) : Fnc Tryz.prog 30 [v, u] V fun r _ => r = .bool (decide (x = y)) := by
 obtain ⟨v1, a1, c1, rfl, hr1, he1⟩ := hx
 obtain ⟨v2, a2, c2, rfl, hr2, he2⟩ := hy
 obtain ⟨qs, aq, cq, hqr, rfl, hsq, hq⟩ := hr1
 obtain ⟨ps, ap, cp, hpr, rfl, hsp, hp⟩ := hr2
 have hl1 := hsq.jl
 have hl2 := hsp.jl
 have hl3 := he1.jl
 have hl4 := he2.jl
 have hql : qs.length = x.rs.length := by rw [← hqr, List.length_map]
 have hpl : ps.length = y.rs.length := by rw [← hpr, List.length_map]
 refine qh Tryz.func30 rfl Tryz.ntmps30 (Nat.le_of_ble_eq_true rfl) ?_
 intro w0 hw0
 refine At.nrm ?_
 refine At.zh (.n false 0 (.n false 1 (.q 2 .done))) ?_
 refine AtT.jd ?_
 intro b2
 refine AtT.jd ?_
 intro b3
 refine AtT.ze ?_
 refine AtT.done ?_
 refine At.nrm ?_
 refine At.nrm ?_
 by_cases d1 : (qs.length : Int) ≠ ps.length
 ·refine At.zh (.q 0 (.q 1 (.q 2 (.q 3 (.q 4 (.q 5 (.q 6 (.q 7 (.q 8 (.q 9 (.q 10 (.q 11 (.q 12 (.q 13 (.q 14 (.q 15 .done)))))))))))))))) ?_
  first | refine AtT.zk zw ?_ | with_reducible refine AtT.zl zw ?_ | refine AtT.zn zw ?_
  first | refine AtT.zm qy ?_ | refine AtT.zo qy ?_
  first | refine AtT.zR Tryz.underlying22 ?_ | refine AtT.zN Tryz.underlying22 ?_
  first | refine AtT.zk zw ?_ | with_reducible refine AtT.zl zw ?_ | refine AtT.zn zw ?_
  first | refine AtT.zm qy ?_ | refine AtT.zo qy ?_
  first | refine AtT.zR Tryz.underlying22 ?_ | refine AtT.zN Tryz.underlying22 ?_
  refine AtT.qH ?_
  refine AtT.qm (d := 14) rfl (d1) ?_
  refine AtT.zf ?_
  all_goals (first | refine AtT.kL 15 ?_ | refine AtT.zA (d := 15) rfl (fun hg15 => ?_) (fun hg15 => ?_) | refine AtT.zz (d := 15) rfl (fun hg15 => ?_) (fun hg15 => ?_))
  all_goals first|refine AtT.zi ?_|refine AtT.zg ?_|(first | refine AtT.zk zu ?_ | with_reducible refine AtT.zl zu ?_ | refine AtT.zn zu ?_)
  all_goals first|refine AtT.zi ?_|refine AtT.zg ?_|(first | refine AtT.zm qo ?_ | refine AtT.zo qo ?_)
  all_goals first|refine AtT.zi ?_|refine AtT.zg ?_|(first | refine AtT.zR Tryz.underlying24 ?_ | refine AtT.zN Tryz.underlying24 ?_)
  all_goals first|refine AtT.zi ?_|refine AtT.zg ?_|(first | refine AtT.zk zu ?_ | with_reducible refine AtT.zl zu ?_ | refine AtT.zn zu ?_)
  all_goals first|refine AtT.zi ?_|refine AtT.zg ?_|(first | refine AtT.zm qo ?_ | refine AtT.zo qo ?_)
  all_goals first|refine AtT.zi ?_|refine AtT.zg ?_|(first | refine AtT.zR Tryz.underlying24 ?_ | refine AtT.zN Tryz.underlying24 ?_)
  all_goals first|refine AtT.zi ?_|refine AtT.zg ?_|(refine AtT.qH ?_)
  all_goals (refine AtT.zB ?_)
  all_goals refine AtT.done ?_
  all_goals (refine At.nrm ?_)
  all_goals refine At.qb rfl rfl ?_
  refine At.nrm ?_
  refine At.zh (.q 0 .done) ?_
  refine AtT.ze ?_
  refine AtT.done ?_
  refine At.nrm ?_
  exact At.qi rfl (.tmp rfl) (by rw [decide_eq_false]; rintro rfl; omega)
 by_cases d2 : (x.es.length : Int) ≠ y.es.length
 ·refine At.zh (.q 0 (.q 1 (.q 2 (.q 3 (.q 4 (.q 5 (.q 6 (.q 7 (.q 8 (.q 9 (.q 10 (.q 11 (.q 12 (.q 13 (.q 14 (.q 15 .done)))))))))))))))) ?_
  first | refine AtT.zk zw ?_ | with_reducible refine AtT.zl zw ?_ | refine AtT.zn zw ?_
  first | refine AtT.zm qy ?_ | refine AtT.zo qy ?_
  first | refine AtT.zR Tryz.underlying22 ?_ | refine AtT.zN Tryz.underlying22 ?_
  first | refine AtT.zk zw ?_ | with_reducible refine AtT.zl zw ?_ | refine AtT.zn zw ?_
  first | refine AtT.zm qy ?_ | refine AtT.zo qy ?_
  first | refine AtT.zR Tryz.underlying22 ?_ | refine AtT.zN Tryz.underlying22 ?_
  refine AtT.qH ?_
  refine AtT.zU (d := 14) rfl (d1) ?_
  refine AtT.zf ?_
  all_goals (first | refine AtT.kL 15 ?_ | refine AtT.zA (d := 15) rfl (fun hg15 => ?_) (fun hg15 => ?_) | refine AtT.zz (d := 15) rfl (fun hg15 => ?_) (fun hg15 => ?_))
  all_goals first|refine AtT.zi ?_|refine AtT.zg ?_|(first | refine AtT.zk zu ?_ | with_reducible refine AtT.zl zu ?_ | refine AtT.zn zu ?_)
  all_goals first|refine AtT.zi ?_|refine AtT.zg ?_|(first | refine AtT.zm qo ?_ | refine AtT.zo qo ?_)
  all_goals first|refine AtT.zi ?_|refine AtT.zg ?_|(first | refine AtT.zR Tryz.underlying24 ?_ | refine AtT.zN Tryz.underlying24 ?_)
  all_goals first|refine AtT.zi ?_|refine AtT.zg ?_|(first | refine AtT.zk zu ?_ | with_reducible refine AtT.zl zu ?_ | refine AtT.zn zu ?_)
  all_goals first|refine AtT.zi ?_|refine AtT.zg ?_|(first | refine AtT.zm qo ?_ | refine AtT.zo qo ?_)
  all_goals first|refine AtT.zi ?_|refine AtT.zg ?_|(first | refine AtT.zR Tryz.underlying24 ?_ | refine AtT.zN Tryz.underlying24 ?_)
  all_goals first|refine AtT.zi ?_|refine AtT.zg ?_|(refine AtT.qH ?_)
  all_goals (refine AtT.qm (d := 22) rfl (d2) ?_)
  all_goals (refine AtT.zB ?_)
  all_goals refine AtT.done ?_
  all_goals (refine At.nrm ?_)
  all_goals refine At.qb rfl rfl ?_
  refine At.nrm ?_
  refine At.zh (.q 0 .done) ?_
  refine AtT.ze ?_
  refine AtT.done ?_
  refine At.nrm ?_
  exact At.qi rfl (.tmp rfl) (by rw [decide_eq_false]; rintro rfl; omega)
 refine At.zh (.q 0 (.q 1 (.q 2 (.q 3 (.q 4 (.q 5 (.q 6 (.q 7 (.q 8 (.q 9 (.q 10 (.q 11 (.q 12 (.q 13 (.q 14 (.q 15 .done)))))))))))))))) ?_
 first | refine AtT.zk zw ?_ | with_reducible refine AtT.zl zw ?_ | refine AtT.zn zw ?_
 first | refine AtT.zm qy ?_ | refine AtT.zo qy ?_
 first | refine AtT.zR Tryz.underlying22 ?_ | refine AtT.zN Tryz.underlying22 ?_
 first | refine AtT.zk zw ?_ | with_reducible refine AtT.zl zw ?_ | refine AtT.zn zw ?_
 first | refine AtT.zm qy ?_ | refine AtT.zo qy ?_
 first | refine AtT.zR Tryz.underlying22 ?_ | refine AtT.zN Tryz.underlying22 ?_
 refine AtT.qH ?_
 refine AtT.zU (d := 14) rfl (d1) ?_
 refine AtT.zf ?_
 all_goals (first | refine AtT.kL 15 ?_ | refine AtT.zA (d := 15) rfl (fun hg15 => ?_) (fun hg15 => ?_) | refine AtT.zz (d := 15) rfl (fun hg15 => ?_) (fun hg15 => ?_))
 all_goals first|refine AtT.zi ?_|refine AtT.zg ?_|(first | refine AtT.zk zu ?_ | with_reducible refine AtT.zl zu ?_ | refine AtT.zn zu ?_)
 all_goals first|refine AtT.zi ?_|refine AtT.zg ?_|(first | refine AtT.zm qo ?_ | refine AtT.zo qo ?_)
 all_goals first|refine AtT.zi ?_|refine AtT.zg ?_|(first | refine AtT.zR Tryz.underlying24 ?_ | refine AtT.zN Tryz.underlying24 ?_)
 all_goals first|refine AtT.zi ?_|refine AtT.zg ?_|(first | refine AtT.zk zu ?_ | with_reducible refine AtT.zl zu ?_ | refine AtT.zn zu ?_)
 all_goals first|refine AtT.zi ?_|refine AtT.zg ?_|(first | refine AtT.zm qo ?_ | refine AtT.zo qo ?_)
 all_goals first|refine AtT.zi ?_|refine AtT.zg ?_|(first | refine AtT.zR Tryz.underlying24 ?_ | refine AtT.zN Tryz.underlying24 ?_)
 all_goals first|refine AtT.zi ?_|refine AtT.zg ?_|(refine AtT.qH ?_)
 all_goals (refine AtT.zU (d := 22) rfl (d2) ?_)
 all_goals (refine AtT.zB ?_)
 all_goals refine AtT.done ?_
 all_goals (refine At.nrm ?_)
 all_goals refine At.qf rfl rfl ?_
 refine At.nrm ?_
 have hRl : x.rs.length = y.rs.length := by omega
 have hEl : x.es.length = y.es.length := by omega
 refine At.zh (.q 0 .done) ?_
 refine AtT.ze ?_
 refine AtT.done ?_
 refine At.nrm ?_
 refine At.lp (ι := Nat) (KS := fun k => [(2, .pointer (some ⟨b2, 0, none⟩)), (3, .pointer (some ⟨b3, 0, none⟩)), (5, iv k)]) (OS := fun _ => [.blk b2 (LC [.slice aq qs.length cq, .slice a1 x.es.length c1] 26), .blk b3 (LC [.slice ap ps.length cp, .slice a2 y.es.length c2] 26)]) (VS := fun k V' => V' = V ∧ k ≤ qs.length ∧ ∀ j, j < k → x.rs[j]? = y.rs[j]?) (μ := fun k => qs.length - k) 0 ?_ ?_ ?_ ?_
 ·exact ⟨rfl, rfl, rfl, trivial⟩
 ·exact Pt.zH
 ·exact ⟨rfl, Nat.zero_le _, fun j hj => absurd hj (Nat.not_lt_zero j)⟩
 rintro k V' ks' O' ⟨rfl, hkl, hall⟩ hk hO hl2
 subst hk hO
 refine At.nrm ?_
 refine At.zh (.q 0 (.q 1 (.q 2 (.q 3 (.q 4 .done))))) ?_
 refine AtT.zf ?_
 first | refine AtT.zk zw ?_ | with_reducible refine AtT.zl zw ?_ | refine AtT.zn zw ?_
 first | refine AtT.zm qy ?_ | refine AtT.zo qy ?_
 first | refine AtT.zR Tryz.underlying22 ?_ | refine AtT.zN Tryz.underlying22 ?_
 refine AtT.qp ?_
 refine AtT.done ?_
 refine At.nrm ?_
 refine At.zX rfl (fun hp1 => ?_) (fun hp1 => ?_)
 ·obtain ⟨q, hqk⟩ : ∃ q, qs[k]? = some q := ⟨_, List.getElem?_eq_getElem (by omega)⟩
  obtain ⟨p, hpk⟩ : ∃ p, ps[k]? = some p := ⟨_, List.getElem?_eq_getElem (by omega)⟩
  have hxk : x.rs[k]? = some q.1 := by rw [← hqr]; exact qs_at hqk
  have hyk : y.rs[k]? = some p.1 := by rw [← hpr]; exact qs_at hpk
  have hsA := hq q (qs_mem hqk)
  have hsB := hp p (qs_mem hpk)
  have hlA := hsA.jl
  refine At.nrm ?_
  by_cases g1 : q.1.g ≠ p.1.g
  ·refine At.draw (.q 0 (.q 1 (.q 2 (.q 3 (.q 4 (.q 5 (.q 6 (.q 7 (.q 8 (.q 9 (.q 10 (.q 11 (.q 12 (.q 13 (.q 14 (.q 15 (.q 16 (.q 17 (.q 18 (.q 19 (.q 20 (.q 21 (.q 22 (.q 23 (.q 24 (.q 25 (.q 26 (.q 27 (.q 28 (.q 29 .done)))))))))))))))))))))))))))))) ffm (by kernel_rfl) ?_
   first | refine AtT.zk zw ?_ | with_reducible refine AtT.zl zw ?_ | refine AtT.zn zw ?_
   first | refine AtT.zm qy ?_ | refine AtT.zo qy ?_
   refine AtT.zf ?_
   refine AtT.qB Tryz.underlying22 qP ?_
   intro p34 e34 he34 hc34
   obtain rfl : q = e34 := by have : qs[k]? = some e34 := (by rw [Int.toNat_natCast] at he34; exact he34); rw [hqk] at this; exact Option.some.inj this
   first | refine AtT.zk zY ?_ | with_reducible refine AtT.zl zY ?_ | refine AtT.zn zY ?_
   first | refine AtT.zm tk3 ?_ | refine AtT.zo tk3 ?_
   first | refine AtT.zk zw ?_ | with_reducible refine AtT.zl zw ?_ | refine AtT.zn zw ?_
   first | refine AtT.zm qy ?_ | refine AtT.zo qy ?_
   refine AtT.zf ?_
   refine AtT.qB Tryz.underlying22 qP ?_
   intro p40 e40 he40 hc40
   obtain rfl : p = e40 := by have : ps[k]? = some e40 := (by rw [Int.toNat_natCast] at he40; exact he40); rw [hpk] at this; exact Option.some.inj this
   first | refine AtT.zk zY ?_ | with_reducible refine AtT.zl zY ?_ | refine AtT.zn zY ?_
   first | refine AtT.zm tk3 ?_ | refine AtT.zo tk3 ?_
   refine AtT.qH ?_
   refine AtT.qm (d := 43) rfl (g1) ?_
   refine AtT.zf ?_
   all_goals (first | refine AtT.kL 44 ?_ | refine AtT.zA (d := 44) rfl (fun hg44 => ?_) (fun hg44 => ?_) | refine AtT.zz (d := 44) rfl (fun hg44 => ?_) (fun hg44 => ?_))
   all_goals first|refine AtT.zi ?_|refine AtT.zg ?_|(first | refine AtT.zk zw ?_ | with_reducible refine AtT.zl zw ?_ | refine AtT.zn zw ?_)
   all_goals first|refine AtT.zi ?_|refine AtT.zg ?_|(first | refine AtT.zm qy ?_ | refine AtT.zo qy ?_)
   all_goals first|refine AtT.zi ?_|refine AtT.zg ?_|(refine AtT.zf ?_)
   all_goals first|refine AtT.zi ?_|refine AtT.zg ?_|(refine AtT.qB Tryz.underlying22 qP ?_) ; (intro p48 e48 he48 hc48)
   all_goals first|refine AtT.zi ?_|refine AtT.zg ?_|(first | refine AtT.zk zL ?_ | with_reducible refine AtT.zl zL ?_ | refine AtT.zn zL ?_)
   all_goals first|refine AtT.zi ?_|refine AtT.zg ?_|(first | refine AtT.zm qL ?_ | refine AtT.zo qL ?_)
   all_goals first|refine AtT.zi ?_|refine AtT.zg ?_|(first | refine AtT.zR Tryz.underlying66 ?_ | refine AtT.zN Tryz.underlying66 ?_)
   all_goals first|refine AtT.zi ?_|refine AtT.zg ?_|(first | refine AtT.zk zw ?_ | with_reducible refine AtT.zl zw ?_ | refine AtT.zn zw ?_)
   all_goals first|refine AtT.zi ?_|refine AtT.zg ?_|(first | refine AtT.zm qy ?_ | refine AtT.zo qy ?_)
   all_goals first|refine AtT.zi ?_|refine AtT.zg ?_|(refine AtT.zf ?_)
   all_goals first|refine AtT.zi ?_|refine AtT.zg ?_|(refine AtT.qB Tryz.underlying22 qP ?_) ; (intro p55 e55 he55 hc55)
   all_goals first|refine AtT.zi ?_|refine AtT.zg ?_|(first | refine AtT.zk zL ?_ | with_reducible refine AtT.zl zL ?_ | refine AtT.zn zL ?_)
   all_goals first|refine AtT.zi ?_|refine AtT.zg ?_|(first | refine AtT.zm qL ?_ | refine AtT.zo qL ?_)
   all_goals first|refine AtT.zi ?_|refine AtT.zg ?_|(first | refine AtT.zR Tryz.underlying66 ?_ | refine AtT.zN Tryz.underlying66 ?_)
   all_goals first|refine AtT.zi ?_|refine AtT.zg ?_|(refine AtT.qH ?_)
   all_goals (refine AtT.zB ?_)
   all_goals refine AtT.done ?_
   all_goals (refine At.nrm ?_)
   all_goals refine At.qb rfl rfl ?_
   refine At.nrm ?_
   refine At.zh (.q 0 .done) ?_
   refine AtT.ze ?_
   refine AtT.done ?_
   refine At.nrm ?_
   exact At.qi rfl (.tmp rfl) (by rw [bo_ne hxk hyk (fun e => by rw [e] at g1; exact g1 rfl)])
  by_cases g2 : (q.1.ps.length : Int) ≠ p.1.ps.length
  ·refine At.draw (.q 0 (.q 1 (.q 2 (.q 3 (.q 4 (.q 5 (.q 6 (.q 7 (.q 8 (.q 9 (.q 10 (.q 11 (.q 12 (.q 13 (.q 14 (.q 15 (.q 16 (.q 17 (.q 18 (.q 19 (.q 20 (.q 21 (.q 22 (.q 23 (.q 24 (.q 25 (.q 26 (.q 27 (.q 28 (.q 29 .done)))))))))))))))))))))))))))))) ffm (by kernel_rfl) ?_
   first | refine AtT.zk zw ?_ | with_reducible refine AtT.zl zw ?_ | refine AtT.zn zw ?_
   first | refine AtT.zm qy ?_ | refine AtT.zo qy ?_
   refine AtT.zf ?_
   refine AtT.qB Tryz.underlying22 qP ?_
   intro p34 e34 he34 hc34
   obtain rfl : q = e34 := by have : qs[k]? = some e34 := (by rw [Int.toNat_natCast] at he34; exact he34); rw [hqk] at this; exact Option.some.inj this
   first | refine AtT.zk zY ?_ | with_reducible refine AtT.zl zY ?_ | refine AtT.zn zY ?_
   first | refine AtT.zm tk3 ?_ | refine AtT.zo tk3 ?_
   first | refine AtT.zk zw ?_ | with_reducible refine AtT.zl zw ?_ | refine AtT.zn zw ?_
   first | refine AtT.zm qy ?_ | refine AtT.zo qy ?_
   refine AtT.zf ?_
   refine AtT.qB Tryz.underlying22 qP ?_
   intro p40 e40 he40 hc40
   obtain rfl : p = e40 := by have : ps[k]? = some e40 := (by rw [Int.toNat_natCast] at he40; exact he40); rw [hpk] at this; exact Option.some.inj this
   first | refine AtT.zk zY ?_ | with_reducible refine AtT.zl zY ?_ | refine AtT.zn zY ?_
   first | refine AtT.zm tk3 ?_ | refine AtT.zo tk3 ?_
   refine AtT.qH ?_
   refine AtT.zU (d := 43) rfl (g1) ?_
   refine AtT.zf ?_
   all_goals (first | refine AtT.kL 44 ?_ | refine AtT.zA (d := 44) rfl (fun hg44 => ?_) (fun hg44 => ?_) | refine AtT.zz (d := 44) rfl (fun hg44 => ?_) (fun hg44 => ?_))
   all_goals first|refine AtT.zi ?_|refine AtT.zg ?_|(first | refine AtT.zk zw ?_ | with_reducible refine AtT.zl zw ?_ | refine AtT.zn zw ?_)
   all_goals first|refine AtT.zi ?_|refine AtT.zg ?_|(first | refine AtT.zm qy ?_ | refine AtT.zo qy ?_)
   all_goals first|refine AtT.zi ?_|refine AtT.zg ?_|(refine AtT.zf ?_)
   all_goals first|refine AtT.zi ?_|refine AtT.zg ?_|(refine AtT.qB Tryz.underlying22 qP ?_) ; (intro p48 e48 he48 hc48)
   all_goals (obtain rfl : q = e48 := by have : qs[k]? = some e48 := (by rw [Int.toNat_natCast] at he48; exact he48); rw [hqk] at this; exact Option.some.inj this)
   all_goals first|refine AtT.zi ?_|refine AtT.zg ?_|(first | refine AtT.zk zL ?_ | with_reducible refine AtT.zl zL ?_ | refine AtT.zn zL ?_)
   all_goals first|refine AtT.zi ?_|refine AtT.zg ?_|(first | refine AtT.zm qL ?_ | refine AtT.zo qL ?_)
   all_goals first|refine AtT.zi ?_|refine AtT.zg ?_|(first | refine AtT.zR Tryz.underlying66 ?_ | refine AtT.zN Tryz.underlying66 ?_)
   all_goals first|refine AtT.zi ?_|refine AtT.zg ?_|(first | refine AtT.zk zw ?_ | with_reducible refine AtT.zl zw ?_ | refine AtT.zn zw ?_)
   all_goals first|refine AtT.zi ?_|refine AtT.zg ?_|(first | refine AtT.zm qy ?_ | refine AtT.zo qy ?_)
   all_goals first|refine AtT.zi ?_|refine AtT.zg ?_|(refine AtT.zf ?_)
   all_goals first|refine AtT.zi ?_|refine AtT.zg ?_|(refine AtT.qB Tryz.underlying22 qP ?_) ; (intro p55 e55 he55 hc55)
   all_goals (obtain rfl : p = e55 := by have : ps[k]? = some e55 := (by rw [Int.toNat_natCast] at he55; exact he55); rw [hpk] at this; exact Option.some.inj this)
   all_goals first|refine AtT.zi ?_|refine AtT.zg ?_|(first | refine AtT.zk zL ?_ | with_reducible refine AtT.zl zL ?_ | refine AtT.zn zL ?_)
   all_goals first|refine AtT.zi ?_|refine AtT.zg ?_|(first | refine AtT.zm qL ?_ | refine AtT.zo qL ?_)
   all_goals first|refine AtT.zi ?_|refine AtT.zg ?_|(first | refine AtT.zR Tryz.underlying66 ?_ | refine AtT.zN Tryz.underlying66 ?_)
   all_goals first|refine AtT.zi ?_|refine AtT.zg ?_|(refine AtT.qH ?_)
   all_goals (refine AtT.qm (d := 59) rfl (g2) ?_)
   all_goals (refine AtT.zB ?_)
   all_goals refine AtT.done ?_
   all_goals (refine At.nrm ?_)
   all_goals refine At.qb rfl rfl ?_
   refine At.nrm ?_
   refine At.zh (.q 0 .done) ?_
   refine AtT.ze ?_
   refine AtT.done ?_
   refine At.nrm ?_
   exact At.qi rfl (.tmp rfl) (by rw [bo_ne hxk hyk (fun e => by rw [e] at g2; exact g2 rfl)])
  refine At.draw (.q 0 (.q 1 (.q 2 (.q 3 (.q 4 (.q 5 (.q 6 (.q 7 (.q 8 (.q 9 (.q 10 (.q 11 (.q 12 (.q 13 (.q 14 (.q 15 (.q 16 (.q 17 (.q 18 (.q 19 (.q 20 (.q 21 (.q 22 (.q 23 (.q 24 (.q 25 (.q 26 (.q 27 (.q 28 (.q 29 .done)))))))))))))))))))))))))))))) ffm (by kernel_rfl) ?_
  first | refine AtT.zk zw ?_ | with_reducible refine AtT.zl zw ?_ | refine AtT.zn zw ?_
  first | refine AtT.zm qy ?_ | refine AtT.zo qy ?_
  refine AtT.zf ?_
  refine AtT.qB Tryz.underlying22 qP ?_
  intro p34 e34 he34 hc34
  obtain rfl : q = e34 := by have : qs[k]? = some e34 := (by rw [Int.toNat_natCast] at he34; exact he34); rw [hqk] at this; exact Option.some.inj this
  first | refine AtT.zk zY ?_ | with_reducible refine AtT.zl zY ?_ | refine AtT.zn zY ?_
  first | refine AtT.zm tk3 ?_ | refine AtT.zo tk3 ?_
  first | refine AtT.zk zw ?_ | with_reducible refine AtT.zl zw ?_ | refine AtT.zn zw ?_
  first | refine AtT.zm qy ?_ | refine AtT.zo qy ?_
  refine AtT.zf ?_
  refine AtT.qB Tryz.underlying22 qP ?_
  intro p40 e40 he40 hc40
  obtain rfl : p = e40 := by have : ps[k]? = some e40 := (by rw [Int.toNat_natCast] at he40; exact he40); rw [hpk] at this; exact Option.some.inj this
  first | refine AtT.zk zY ?_ | with_reducible refine AtT.zl zY ?_ | refine AtT.zn zY ?_
  first | refine AtT.zm tk3 ?_ | refine AtT.zo tk3 ?_
  refine AtT.qH ?_
  refine AtT.zU (d := 43) rfl (g1) ?_
  refine AtT.zf ?_
  all_goals (first | refine AtT.kL 44 ?_ | refine AtT.zA (d := 44) rfl (fun hg44 => ?_) (fun hg44 => ?_) | refine AtT.zz (d := 44) rfl (fun hg44 => ?_) (fun hg44 => ?_))
  all_goals first|refine AtT.zi ?_|refine AtT.zg ?_|(first | refine AtT.zk zw ?_ | with_reducible refine AtT.zl zw ?_ | refine AtT.zn zw ?_)
  all_goals first|refine AtT.zi ?_|refine AtT.zg ?_|(first | refine AtT.zm qy ?_ | refine AtT.zo qy ?_)
  all_goals first|refine AtT.zi ?_|refine AtT.zg ?_|(refine AtT.zf ?_)
  all_goals first|refine AtT.zi ?_|refine AtT.zg ?_|(refine AtT.qB Tryz.underlying22 qP ?_) ; (intro p48 e48 he48 hc48)
  all_goals (obtain rfl : q = e48 := by have : qs[k]? = some e48 := (by rw [Int.toNat_natCast] at he48; exact he48); rw [hqk] at this; exact Option.some.inj this)
  all_goals first|refine AtT.zi ?_|refine AtT.zg ?_|(first | refine AtT.zk zL ?_ | with_reducible refine AtT.zl zL ?_ | refine AtT.zn zL ?_)
  all_goals first|refine AtT.zi ?_|refine AtT.zg ?_|(first | refine AtT.zm qL ?_ | refine AtT.zo qL ?_)
  all_goals first|refine AtT.zi ?_|refine AtT.zg ?_|(first | refine AtT.zR Tryz.underlying66 ?_ | refine AtT.zN Tryz.underlying66 ?_)
  all_goals first|refine AtT.zi ?_|refine AtT.zg ?_|(first | refine AtT.zk zw ?_ | with_reducible refine AtT.zl zw ?_ | refine AtT.zn zw ?_)
  all_goals first|refine AtT.zi ?_|refine AtT.zg ?_|(first | refine AtT.zm qy ?_ | refine AtT.zo qy ?_)
  all_goals first|refine AtT.zi ?_|refine AtT.zg ?_|(refine AtT.zf ?_)
  all_goals first|refine AtT.zi ?_|refine AtT.zg ?_|(refine AtT.qB Tryz.underlying22 qP ?_) ; (intro p55 e55 he55 hc55)
  all_goals (obtain rfl : p = e55 := by have : ps[k]? = some e55 := (by rw [Int.toNat_natCast] at he55; exact he55); rw [hpk] at this; exact Option.some.inj this)
  all_goals first|refine AtT.zi ?_|refine AtT.zg ?_|(first | refine AtT.zk zL ?_ | with_reducible refine AtT.zl zL ?_ | refine AtT.zn zL ?_)
  all_goals first|refine AtT.zi ?_|refine AtT.zg ?_|(first | refine AtT.zm qL ?_ | refine AtT.zo qL ?_)
  all_goals first|refine AtT.zi ?_|refine AtT.zg ?_|(first | refine AtT.zR Tryz.underlying66 ?_ | refine AtT.zN Tryz.underlying66 ?_)
  all_goals first|refine AtT.zi ?_|refine AtT.zg ?_|(refine AtT.qH ?_)
  all_goals (refine AtT.zU (d := 59) rfl (g2) ?_)
  all_goals (refine AtT.zB ?_)
  all_goals refine AtT.done ?_
  all_goals (refine At.nrm ?_)
  all_goals refine At.qf rfl rfl ?_
  refine At.nrm ?_
  have hpsl : q.1.ps.length = p.1.ps.length := by omega
  refine At.zh (.q 0 .done) ?_
  refine AtT.ze ?_
  refine AtT.done ?_
  refine At.nrm ?_
  refine At.lp (ι := Nat) (KS := fun j => [(2, .pointer (some ⟨b2, 0, none⟩)), (3, .pointer (some ⟨b3, 0, none⟩)), (5, iv k), (6, iv j)]) (OS := fun _ => [.blk b2 (LC [.slice aq qs.length cq, .slice a1 x.es.length c1] 26), .blk b3 (LC [.slice ap ps.length cp, .slice a2 y.es.length c2] 26)]) (VS := fun j V'' => V'' = V' ∧ j ≤ q.1.ps.length ∧ ∀ i, i < j → q.1.ps[i]? = p.1.ps[i]?) (μ := fun j => q.1.ps.length - j) 0 ?_ ?_ ?_ ?_
  ·exact ⟨rfl, rfl, rfl, rfl, trivial⟩
  ·exact Pt.zH
  ·exact ⟨rfl, Nat.zero_le _, fun j hj => absurd hj (Nat.not_lt_zero j)⟩
  rintro j V2 ks' O' ⟨rfl, hjl, hpa⟩ hk hO hl3
  subst hk hO
  refine At.nrm ?_
  refine At.zh (.q 0 (.q 1 (.q 2 (.q 3 (.q 4 (.q 5 (.q 6 (.q 7 (.q 8 .done))))))))) ?_
  refine AtT.zf ?_
  first | refine AtT.zk zw ?_ | with_reducible refine AtT.zl zw ?_ | refine AtT.zn zw ?_
  first | refine AtT.zm qy ?_ | refine AtT.zo qy ?_
  refine AtT.zf ?_
  refine AtT.qB Tryz.underlying22 qP ?_
  intro p65 e65 he65 hc65
  obtain rfl : q = e65 := by have : qs[k]? = some e65 := (by rw [Int.toNat_natCast] at he65; exact he65); rw [hqk] at this; exact Option.some.inj this
  first | refine AtT.zk zL ?_ | with_reducible refine AtT.zl zL ?_ | refine AtT.zn zL ?_
  first | refine AtT.zm qL ?_ | refine AtT.zo qL ?_
  first | refine AtT.zR Tryz.underlying66 ?_ | refine AtT.zN Tryz.underlying66 ?_
  refine AtT.qp ?_
  refine AtT.done ?_
  refine At.nrm ?_
  refine At.zX rfl (fun hp2 => ?_) (fun hp2 => ?_)
  rotate_left
  ·obtain rfl : j = q.1.ps.length := by omega
   have hrc : q.1 = p.1 := by
    by_cases hgg : q.1.g = p.1.g
    ·have := list_same hpsl hpa
     cases hq1 : q.1
     cases hp1' : p.1
     rw [hq1, hp1'] at hgg this
     simp only at hgg this
     rw [hgg, this]
    ·exact absurd hgg g1
   refine At.nrm ?_
   refine At.zh (.q 0 (.q 1 (.q 2 .done))) ?_
   refine AtT.zf ?_
   first | refine AtT.qI ?_ | refine AtT.ql ?_
   refine AtT.ze ?_
   refine AtT.done ?_
   refine At.nrm ?_
   refine At.round (k + 1) ?_ ?_ ?_ ?_
   ·show qs.length - (k + 1) < qs.length - k; omega
   ·refine ⟨rfl, by omega, fun i hi => ?_⟩
    by_cases e : i = k
    ·subst e; rw [hxk, hyk, hrc]
    ·exact hall i (by omega)
   ·exact ⟨rfl, rfl, ivs (by omega), trivial⟩
   ·exact Pt.zH
  obtain ⟨A, hA⟩ : ∃ A, q.1.ps[j]? = some A := ⟨_, List.getElem?_eq_getElem (by omega)⟩
  obtain ⟨B, hB⟩ : ∃ B, p.1.ps[j]? = some B := ⟨_, List.getElem?_eq_getElem (by omega)⟩
  have hAB : (A.t = B.t ∧ A.n = B.n) ↔ A = B := by cases A; cases B; simp
  refine At.nrm ?_
  by_cases hab : A = B
  ·refine At.draw (.q 0 (.q 1 (.q 2 (.q 3 (.q 4 (.q 5 (.q 6 (.q 7 (.q 8 (.q 9 (.q 10 (.q 11 (.q 12 (.q 13 (.q 14 (.q 15 (.q 16 (.q 17 (.q 18 .done))))))))))))))))))) ffm (by kernel_rfl) ?_
   first | refine AtT.zk zw ?_ | with_reducible refine AtT.zl zw ?_ | refine AtT.zn zw ?_
   first | refine AtT.zm qy ?_ | refine AtT.zo qy ?_
   refine AtT.zf ?_
   refine AtT.qB Tryz.underlying22 qP ?_
   intro p75 e75 he75 hc75
   obtain rfl : q = e75 := by have : qs[k]? = some e75 := (by rw [Int.toNat_natCast] at he75; exact he75); rw [hqk] at this; exact Option.some.inj this
   first | refine AtT.zk zL ?_ | with_reducible refine AtT.zl zL ?_ | refine AtT.zn zL ?_
   first | refine AtT.zm qL ?_ | refine AtT.zo qL ?_
   refine AtT.zf ?_
   refine AtT.idx rfl trivial Tryz.underlying66 qX rfl hsA rfl (by omega) (by omega) (by decide) ?_
   intro p79 e79 he79 hc79
   obtain rfl : A = e79 := by have : q.1.ps[j]? = some e79 := (by rw [Int.toNat_natCast] at he79; exact he79); rw [hA] at this; exact Option.some.inj this
   first | refine AtT.zD qX ?_ | refine AtT.zI qX ?_ | refine AtT.zC qX ?_
   first | refine AtT.zk zw ?_ | with_reducible refine AtT.zl zw ?_ | refine AtT.zn zw ?_
   first | refine AtT.zm qy ?_ | refine AtT.zo qy ?_
   refine AtT.zf ?_
   refine AtT.qB Tryz.underlying22 qP ?_
   intro p84 e84 he84 hc84
   obtain rfl : p = e84 := by have : ps[k]? = some e84 := (by rw [Int.toNat_natCast] at he84; exact he84); rw [hpk] at this; exact Option.some.inj this
   first | refine AtT.zk zL ?_ | with_reducible refine AtT.zl zL ?_ | refine AtT.zn zL ?_
   first | refine AtT.zm qL ?_ | refine AtT.zo qL ?_
   refine AtT.zf ?_
   refine AtT.idx rfl trivial Tryz.underlying66 qX rfl hsB rfl (by omega) (by omega) (by decide) ?_
   intro p88 e88 he88 hc88
   obtain rfl : B = e88 := by have : p.1.ps[j]? = some e88 := (by rw [Int.toNat_natCast] at he88; exact he88); rw [hB] at this; exact Option.some.inj this
   first | refine AtT.zD qX ?_ | refine AtT.zI qX ?_ | refine AtT.zC qX ?_
   refine AtT.kneS (eqS69 _ _ _ _) ?_
   refine AtT.done ?_
   refine At.nrm ?_
   refine At.qf rfl (by rw [decide_eq_true (hAB.2 hab)]; rfl) ?_
   refine At.nrm ?_
   refine At.zh (.q 0 (.q 1 (.q 2 .done))) ?_
   refine AtT.zf ?_
   first | refine AtT.qI ?_ | refine AtT.ql ?_
   refine AtT.ze ?_
   refine AtT.done ?_
   refine At.nrm ?_
   refine At.round (j + 1) ?_ ?_ ?_ ?_
   ·show q.1.ps.length - (j + 1) < q.1.ps.length - j; omega
   ·refine ⟨rfl, by omega, fun i hi => ?_⟩
    by_cases e : i = j
    ·subst e; rw [hA, hB, hab]
    ·exact hpa i (by omega)
   ·exact ⟨rfl, rfl, rfl, ivs (by omega), trivial⟩
   ·exact Pt.zH
  ·refine At.draw (.q 0 (.q 1 (.q 2 (.q 3 (.q 4 (.q 5 (.q 6 (.q 7 (.q 8 (.q 9 (.q 10 (.q 11 (.q 12 (.q 13 (.q 14 (.q 15 (.q 16 (.q 17 (.q 18 .done))))))))))))))))))) ffm (by kernel_rfl) ?_
   first | refine AtT.zk zw ?_ | with_reducible refine AtT.zl zw ?_ | refine AtT.zn zw ?_
   first | refine AtT.zm qy ?_ | refine AtT.zo qy ?_
   refine AtT.zf ?_
   refine AtT.qB Tryz.underlying22 qP ?_
   intro p75 e75 he75 hc75
   obtain rfl : q = e75 := by have : qs[k]? = some e75 := (by rw [Int.toNat_natCast] at he75; exact he75); rw [hqk] at this; exact Option.some.inj this
   first | refine AtT.zk zL ?_ | with_reducible refine AtT.zl zL ?_ | refine AtT.zn zL ?_
   first | refine AtT.zm qL ?_ | refine AtT.zo qL ?_
   refine AtT.zf ?_
   refine AtT.idx rfl trivial Tryz.underlying66 qX rfl hsA rfl (by omega) (by omega) (by decide) ?_
   intro p79 e79 he79 hc79
   obtain rfl : A = e79 := by have : q.1.ps[j]? = some e79 := (by rw [Int.toNat_natCast] at he79; exact he79); rw [hA] at this; exact Option.some.inj this
   first | refine AtT.zD qX ?_ | refine AtT.zI qX ?_ | refine AtT.zC qX ?_
   first | refine AtT.zk zw ?_ | with_reducible refine AtT.zl zw ?_ | refine AtT.zn zw ?_
   first | refine AtT.zm qy ?_ | refine AtT.zo qy ?_
   refine AtT.zf ?_
   refine AtT.qB Tryz.underlying22 qP ?_
   intro p84 e84 he84 hc84
   obtain rfl : p = e84 := by have : ps[k]? = some e84 := (by rw [Int.toNat_natCast] at he84; exact he84); rw [hpk] at this; exact Option.some.inj this
   first | refine AtT.zk zL ?_ | with_reducible refine AtT.zl zL ?_ | refine AtT.zn zL ?_
   first | refine AtT.zm qL ?_ | refine AtT.zo qL ?_
   refine AtT.zf ?_
   refine AtT.idx rfl trivial Tryz.underlying66 qX rfl hsB rfl (by omega) (by omega) (by decide) ?_
   intro p88 e88 he88 hc88
   obtain rfl : B = e88 := by have : p.1.ps[j]? = some e88 := (by rw [Int.toNat_natCast] at he88; exact he88); rw [hB] at this; exact Option.some.inj this
   first | refine AtT.zD qX ?_ | refine AtT.zI qX ?_ | refine AtT.zC qX ?_
   refine AtT.kneS (eqS69 _ _ _ _) ?_
   refine AtT.done ?_
   refine At.nrm ?_
   refine At.qb rfl (by rw [decide_eq_false (fun h => hab (hAB.1 h))]; rfl) ?_
   refine At.nrm ?_
   refine At.zh (.q 0 .done) ?_
   refine AtT.ze ?_
   refine AtT.done ?_
   refine At.nrm ?_
   exact At.qi rfl (.tmp rfl) (by rw [bo_ne hxk hyk (fun e => by rw [e, hB] at hA; exact hab (Option.some.inj hA).symm)])
 obtain rfl : k = qs.length := by omega
 have hrs : x.rs = y.rs := list_same hRl fun j hj => hall j (by omega)
 refine At.nrm ?_
 refine At.zh (.q 0 .done) ?_
 refine AtT.ze ?_
 refine AtT.done ?_
 refine At.nrm ?_
 refine At.lp (ι := Nat) (KS := fun k => [(2, .pointer (some ⟨b2, 0, none⟩)), (3, .pointer (some ⟨b3, 0, none⟩)), (7, iv k)]) (OS := fun _ => [.blk b2 (LC [.slice aq qs.length cq, .slice a1 x.es.length c1] 26), .blk b3 (LC [.slice ap ps.length cp, .slice a2 y.es.length c2] 26)]) (VS := fun k V2 => V2 = V' ∧ k ≤ x.es.length ∧ ∀ j, j < k → x.es[j]? = y.es[j]?) (μ := fun k => x.es.length - k) 0 ?_ ?_ ?_ ?_
 ·exact ⟨rfl, rfl, rfl, trivial⟩
 ·exact Pt.zH
 ·exact ⟨rfl, Nat.zero_le _, fun j hj => absurd hj (Nat.not_lt_zero j)⟩
 rintro k V2 ks' O' ⟨rfl, hkl2, hea⟩ hk hO hl4
 subst hk hO
 refine At.nrm ?_
 refine At.zh (.q 0 (.q 1 (.q 2 (.q 3 (.q 4 .done))))) ?_
 refine AtT.zf ?_
 first | refine AtT.zk zu ?_ | with_reducible refine AtT.zl zu ?_ | refine AtT.zn zu ?_
 first | refine AtT.zm qo ?_ | refine AtT.zo qo ?_
 first | refine AtT.zR Tryz.underlying24 ?_ | refine AtT.zN Tryz.underlying24 ?_
 refine AtT.qp ?_
 refine AtT.done ?_
 refine At.nrm ?_
 refine At.zX rfl (fun hp2 => ?_) (fun hp2 => ?_)
 rotate_left
 ·obtain rfl : k = x.es.length := by omega
  have hes := list_same hEl hea
  refine At.nrm ?_
  refine At.zh (.q 0 .done) ?_
  refine AtT.ze ?_
  refine AtT.done ?_
  refine At.nrm ?_
  refine At.qi rfl (.tmp rfl) ?_
  rw [decide_eq_true]
  cases x
  cases y
  simp only at hrs hes
  rw [hrs, hes]
 obtain ⟨A, hA⟩ : ∃ A, x.es[k]? = some A := ⟨_, List.getElem?_eq_getElem (by omega)⟩
 obtain ⟨B, hB⟩ : ∃ B, y.es[k]? = some B := ⟨_, List.getElem?_eq_getElem (by omega)⟩
 have hAB : (A.d = B.d ∧ A.k = B.k ∧ A.t = B.t ∧ A.n = B.n) ↔ A = B := by cases A; cases B; simp
 refine At.nrm ?_
 by_cases hab : A = B
 ·refine At.draw (.q 0 (.q 1 (.q 2 (.q 3 (.q 4 (.q 5 (.q 6 (.q 7 (.q 8 (.q 9 (.q 10 .done))))))))))) ffm (by kernel_rfl) ?_
  first | refine AtT.zk zu ?_ | with_reducible refine AtT.zl zu ?_ | refine AtT.zn zu ?_
  first | refine AtT.zm qo ?_ | refine AtT.zo qo ?_
  refine AtT.zf ?_
  refine AtT.qB Tryz.underlying24 qD ?_
  intro p101 e101 he101 hc101
  obtain rfl : A = e101 := by have : x.es[k]? = some e101 := (by rw [Int.toNat_natCast] at he101; exact he101); rw [hA] at this; exact Option.some.inj this
  first | refine AtT.zD qD ?_ | refine AtT.zI qD ?_ | refine AtT.zC qD ?_
  first | refine AtT.zk zu ?_ | with_reducible refine AtT.zl zu ?_ | refine AtT.zn zu ?_
  first | refine AtT.zm qo ?_ | refine AtT.zo qo ?_
  refine AtT.zf ?_
  refine AtT.qB Tryz.underlying24 qD ?_
  intro p106 e106 he106 hc106
  obtain rfl : B = e106 := by have : y.es[k]? = some e106 := (by rw [Int.toNat_natCast] at he106; exact he106); rw [hB] at this; exact Option.some.inj this
  first | refine AtT.zD qD ?_ | refine AtT.zI qD ?_ | refine AtT.zC qD ?_
  refine AtT.kneS (eqS36 _ _ _ _ _ _ _ _) ?_
  refine AtT.done ?_
  refine At.nrm ?_
  refine At.qf rfl (by rw [decide_eq_true (hAB.2 hab)]; rfl) ?_
  refine At.nrm ?_
  refine At.zh (.q 0 (.q 1 (.q 2 .done))) ?_
  refine AtT.zf ?_
  first | refine AtT.qI ?_ | refine AtT.ql ?_
  refine AtT.ze ?_
  refine AtT.done ?_
  refine At.nrm ?_
  refine At.round (k + 1) ?_ ?_ ?_ ?_
  ·show x.es.length - (k + 1) < x.es.length - k; omega
  ·refine ⟨rfl, by omega, fun i hi => ?_⟩
   by_cases e : i = k
   ·subst e; rw [hA, hB, hab]
   ·exact hea i (by omega)
  ·exact ⟨rfl, rfl, ivs (by omega), trivial⟩
  ·exact Pt.zH
 ·refine At.draw (.q 0 (.q 1 (.q 2 (.q 3 (.q 4 (.q 5 (.q 6 (.q 7 (.q 8 (.q 9 (.q 10 .done))))))))))) ffm (by kernel_rfl) ?_
  first | refine AtT.zk zu ?_ | with_reducible refine AtT.zl zu ?_ | refine AtT.zn zu ?_
  first | refine AtT.zm qo ?_ | refine AtT.zo qo ?_
  refine AtT.zf ?_
  refine AtT.qB Tryz.underlying24 qD ?_
  intro p101 e101 he101 hc101
  obtain rfl : A = e101 := by have : x.es[k]? = some e101 := (by rw [Int.toNat_natCast] at he101; exact he101); rw [hA] at this; exact Option.some.inj this
  first | refine AtT.zD qD ?_ | refine AtT.zI qD ?_ | refine AtT.zC qD ?_
  first | refine AtT.zk zu ?_ | with_reducible refine AtT.zl zu ?_ | refine AtT.zn zu ?_
  first | refine AtT.zm qo ?_ | refine AtT.zo qo ?_
  refine AtT.zf ?_
  refine AtT.qB Tryz.underlying24 qD ?_
  intro p106 e106 he106 hc106
  obtain rfl : B = e106 := by have : y.es[k]? = some e106 := (by rw [Int.toNat_natCast] at he106; exact he106); rw [hB] at this; exact Option.some.inj this
  first | refine AtT.zD qD ?_ | refine AtT.zI qD ?_ | refine AtT.zC qD ?_
  refine AtT.kneS (eqS36 _ _ _ _ _ _ _ _) ?_
  refine AtT.done ?_
  refine At.nrm ?_
  refine At.qb rfl (by rw [decide_eq_false (fun h => hab (hAB.1 h))]; rfl) ?_
  refine At.nrm ?_
  refine At.zh (.q 0 .done) ?_
  refine AtT.ze ?_
  refine AtT.done ?_
  refine At.nrm ?_
  refine At.qi rfl (.tmp rfl) ?_
  rw [decide_eq_false]
  rintro rfl
  rw [hA] at hB
  exact hab (Option.some.inj hB)
theorem sl_emp {α : Type} {enc : α → List Value} {st : Nat} (V : View) (a : Option Addr) : Sl V enc st (.slice a 0 0) ([] : List α) := ⟨a, 0, rfl, Nat.le_refl _, Nat.zero_le _, fun h => absurd rfl h, fun p _ i x h => by simp at h⟩
theorem clone_f (l : List Pt) (h0 : l ≠ []) (hn : l.length ≤ 100) (V : View) (v : Value) (hs : Sl V pte 2 v l) : Fnc Tryz.prog 65 [v] V fun r V' => ∃ a c, r = .slice a l.length c ∧ Sl V' pte 2 (.slice a l.length c) l := by
 obtain ⟨a, c, rfl, k1, k2, ha, k3⟩ := id hs
 obtain ⟨p, rfl⟩ := Option.isSome_iff_exists.1 (ha h0)
 clear k1 k2 k3
 have hcl : Cells V p (flat pte l) := Sl.cells pte_len hs
 refine qh Tryz.func65 rfl Tryz.ntmps65 (Nat.le_of_ble_eq_true rfl) ?_
 intro w0 hw0
 refine At.nrm ?_
 refine At.zh (.q 0 .done) ?_
 refine AtT.ze ?_
 refine AtT.done ?_
 refine At.nrm ?_
 refine At.zh (.q 0 (.q 1 .done)) ?_
 refine AtT.zf ?_
 refine AtT.eqNil rfl trivial Tryz.underlying66 rfl rfl (by decide) ?_
 refine AtT.done ?_
 refine At.nrm ?_
 refine At.qf rfl rfl ?_
 refine At.nrm ?_
 refine At.zh (.n false 0 (.q 1 (.n true 2 (.q 3 .done)))) ?_
 refine AtT.zQ (bs66_0) ?_
 intro q5 V5 hV5 hq5
 have g5 : Le V V5 := by first | exact hV5 | exact Le.trans (by assumption) hV5
 refine AtT.zf ?_
 refine AtT.appendC rfl trivial Tryz.underlying66 rw69 rfl (by decide) rfl (sl_emp _ _) rfl rfl (hcl.le hV5) (fun _ => rfl) h0 (by unfold maxLen; simp only [List.length_nil]; omega) (by simp only [List.length_nil]; omega) (by decide) (enc := pte) (l := []) (m := l) ?_
 intro a7 c7 V7 hV7 hs7
 refine AtT.ze ?_
 refine AtT.done ?_
 refine At.nrm ?_
 exact At.qi rfl (.tmp rfl) ⟨a7, c7, rfl, hs7⟩
def withB (b : Bo) (e : En) : Bo := ⟨b.rs, b.es ++ [e]⟩
theorem rc_parts {rs : List Rc} (h : qE (-1) rs) {r : Rc} (hr : r ∈ rs) : r.ps ≠ [] ∧ r.ps.length ≤ 3 := by
 have := (kG h r hr).len
 exact ⟨fun e => by rw [e] at this; simp at this, this.2⟩
theorem ene_all (e : En) : (ene e).all Value.oneCell' = true := rfl
theorem pte_all (e : Pt) : (pte e).all Value.oneCell' = true := rfl
theorem rwith_f (b : Bo) (hrs : qE (-1) b.rs) (hr12 : b.rs.length ≤ 100) (he30 : b.es.length ≤ 100) (e : En) (V : View) (v : Value) (hv : BoV V v b) : Fnc Tryz.prog 42 [v, env e] V fun r V' => BoV V' r (withB b e) := by
 obtain ⟨v1, a, c, rfl, hr, hes⟩ := id hv
 obtain ⟨qs, aq, cq, hqr, rfl, hsq, hq⟩ := hr
 have hql : qs.length = b.rs.length := by rw [← hqr, List.length_map]
 refine qh Tryz.func42 rfl Tryz.ntmps42 (Nat.le_of_ble_eq_true rfl) ?_
 intro w0 hw0
 refine At.nrm ?_
 refine At.zh (.n false 0 (.n false 1 (.n false 2 .done))) ?_
 refine AtT.jd ?_
 intro b2
 refine AtT.jd ?_
 intro b3
 refine AtT.zT z26 ?_
 intro b4
 refine AtT.done ?_
 refine At.nrm ?_
 refine At.zh (.n false 0 .done) ?_
 refine AtT.zT z26 ?_
 intro b5
 refine AtT.done ?_
 refine At.nrm ?_
 refine At.zh (.q 0 .done) ?_
 refine AtT.ze ?_
 refine AtT.done ?_
 refine At.nrm ?_
 refine At.newRow 80 2 ?_
 refine At.lp (ι := Nat × List RcQ × Option Addr × Nat) (KS := fun g => [(2, .pointer (some ⟨b2, 0, none⟩)), (3, .pointer (some ⟨b3, 0, none⟩)), (4, .pointer (some ⟨b4, 0, none⟩)), (5, .pointer (some ⟨b5, 0, none⟩)), (6, iv g.1)])
  (OS := fun g => [.blk b2 (LC [.slice aq qs.length cq, .slice a b.es.length c] 26), .blk b3 (LC (ene e) 36), .blk b4 (LC [.slice none 0 0, .slice none 0 0] 26), .blk b5 (LC [.slice g.2.2.1 g.2.1.length g.2.2.2, .slice none 0 0] 26), .row (.slice g.2.2.1 g.2.1.length g.2.2.2) 80 2 g.2.1.length (flat rce g.2.1)])
  (VS := fun g V' => Le V V' ∧ g.1 ≤ qs.length ∧ g.2.1.length = g.1 ∧ g.2.1.map (·.1) = b.rs.take g.1 ∧ RsQ V' g.2.1) (μ := fun g => qs.length - g.1) (0, [], none, 0) ?_ ?_ ?_ ?_
 ·exact ⟨rfl, rfl, rfl, rfl, rfl, trivial⟩
 ·exact Pt.zH
 ·exact ⟨Le.refl _, Nat.zero_le _, rfl, rfl, fun x hx => by cases hx⟩
 rintro ⟨k, L, ao, co⟩ V' ks' O' ⟨hVV, hkl, hLk, hLr, hLq⟩ hk hO hl2
 dsimp only at hkl hLk hLr hLq hk hO
 subst hk hO
 have hsq' := hsq.le hVV
 have hq' := hq.le hVV
 have hes' := hes.le hVV
 refine At.nrm ?_
 refine At.zh (.q 0 (.q 1 (.q 2 (.q 3 (.q 4 .done))))) ?_
 refine AtT.zf ?_
 first | refine AtT.zk zw ?_ | with_reducible refine AtT.zl zw ?_ | refine AtT.zn zw ?_
 first | refine AtT.zm qy ?_ | refine AtT.zo qy ?_
 first | refine AtT.zR Tryz.underlying22 ?_ | refine AtT.zN Tryz.underlying22 ?_
 refine AtT.qp ?_
 refine AtT.done ?_
 refine At.nrm ?_
 refine At.zX rfl (fun hp => ?_) (fun hp => ?_)
 ·obtain ⟨x, hx⟩ : ∃ x, qs[k]? = some x := ⟨_, List.getElem?_eq_getElem (by omega)⟩
  have hbx : b.rs[k]? = some x.1 := by rw [← hqr]; exact qs_at hx
  have htk := take_snoc2 hbx
  have hpx := rc_parts hrs (List.mem_of_getElem? hbx)
  have hsx := hq' x (qs_mem hx)
  refine At.nrm ?_
  refine At.zh (.q 0 (.q 1 (.q 2 (.q 3 (.q 4 (.n false 5 (.n true 6 .done))))))) ?_
  first | refine AtT.zk zw ?_ | with_reducible refine AtT.zl zw ?_ | refine AtT.zn zw ?_
  first | refine AtT.zm qy ?_ | refine AtT.zo qy ?_
  refine AtT.zf ?_
  refine AtT.qB Tryz.underlying22 qP ?_
  intro p18 e18 he18 hc18
  obtain rfl : x = e18 := by have : qs[k]? = some e18 := (by rw [Int.toNat_natCast] at he18; exact he18); rw [hx] at this; exact Option.some.inj this
  first | refine AtT.zD qP ?_ | refine AtT.zI qP ?_ | refine AtT.zC qP ?_
  refine AtT.zT z80 ?_
  intro b7
  refine AtT.zF qP ?_
  refine AtT.done ?_
  refine At.nrm ?_
  refine At.nrm ?_
  refine At.drawC [.blk b2 (LC [.slice aq qs.length cq, .slice a b.es.length c] 26), .blk b7 (LC (rce x) 80), .blk b5 (LC [.slice ao L.length co, .slice none 0 0] 26)] (.q 0 (.q 1 (.q 2 (.q 3 (.q 5 (.q 6 (.n false 4 (.n false 7 (.q 8 (.n false 9 (.n true 10 (.q 11 (.n true 12 .done))))))))))))) ffm (by kernel_rfl) Pt.zH ?_
  refine AtC.pre (fun hle0 => ?_)
  refine AtC.kq (by (first | refine AtT.zk zw ?_ | with_reducible refine AtT.zl zw ?_ | refine AtT.zn zw ?_); exact At.knows) ?_
  refine AtC.kq (by (first | refine AtT.zm qy ?_ | refine AtT.zo qy ?_); exact At.knows) ?_
  refine AtC.kq (by (first | refine AtT.zk zY ?_ | with_reducible refine AtT.zl zY ?_ | refine AtT.zn zY ?_); exact At.knows) ?_
  refine AtC.kq (by (first | refine AtT.zm tk3 ?_ | refine AtT.zo tk3 ?_); exact At.knows) ?_
  refine AtC.kq (by (first | refine AtT.zk zL ?_ | with_reducible refine AtT.zl zL ?_ | refine AtT.zn zL ?_); exact At.knows) ?_
  refine AtC.kq (by (first | refine AtT.zm qL ?_ | refine AtT.zo qL ?_); exact At.knows) ?_
  refine AtC.nz ?_
  refine AtT.bsliceR0 rfl trivial rfl bs66_0 (by decide) (s := 2) (fun b24 => ?_)
  refine AtC.kgo ?_
  refine AtC.nz ?_
  refine AtT.appendRS rfl trivial Tryz.underlying66 rw69 rfl (by decide) rfl rfl zP.zH (enc := pte) (m := x.1.ps) (by first | exact hsx | exact hsx.le (by assumption)) pte_len pte_all (by unfold maxLen; omega) (by omega) (by decide) (fun a27 c27 => ?_)
  refine AtC.kgo ?_
  rw [Nat.zero_add x.1.ps.length]
  refine AtC.kq (by (refine AtT.qG (bd80_0_1 _ _ _ _) ?_); exact At.knows) ?_
  refine AtC.nz ?_
  refine AtT.zQ (bs22_1_0 _ _ _ _) ?_
  intro q29 V29 hV29 hq29
  have g29 : Le V V29 := by first | exact hV29 | exact Le.trans (by assumption) hV29
  refine AtC.kgo ?_
  refine AtC.toT ?_
  first | refine AtT.jm Tryz.underlying22 rw80 ?_
  intro a30 c30
  first | refine AtT.zk zw ?_ | with_reducible refine AtT.zl zw ?_ | refine AtT.zn zw ?_
  first | refine AtT.jh qy ?_ | refine AtT.zF qy ?_
  refine AtT.done ?_
  refine At.nrm ?_
  refine At.jQ (l := x.1.ps) (v := .slice a27 x.1.ps.length c27) (e := 69) (s := 2) (m := x.1.ps.length) (xs := [] ++ flat pte x.1.ps) pte_len (by simp) rfl zP.zH (fun V4 hV4 hs4 => ?_)
  refine At.nrm ?_
  refine At.zh (.q 0 (.q 1 (.q 2 .done))) ?_
  refine AtT.zf ?_
  first | refine AtT.qI ?_ | refine AtT.ql ?_
  refine AtT.ze ?_
  refine AtT.done ?_
  refine At.nrm ?_
  refine At.round (k + 1, L ++ [(x.1, a27, c27)], a30, c30) ?_ ?_ ?_ ?_
  ·show qs.length - (k + 1) < qs.length - k; omega
  ·refine ⟨by first | exact hVV.trans hV4 | exact (hVV.trans (by assumption)).trans hV4, by dsimp only; omega, by dsimp only; rw [List.length_append, hLk]; rfl, by dsimp only; rw [List.map_append, hLr, htk]; rfl, fun y hy => ?_⟩
   rcases List.mem_append.1 hy with h | h
   ·exact (hLq y h).le (by first | exact hV4 | exact Le.trans (by assumption) hV4)
   ·rw [List.mem_singleton] at h; subst h
    exact hs4
  ·exact ⟨rfl, rfl, rfl, rfl, ivs (by push_cast; omega), trivial⟩
  dsimp only
  rw [jH, List.length_append]
  ·exact Pt.zH
 obtain rfl : k = qs.length := by omega
 rw [hql, List.take_length] at hLr
 refine At.nrm ?_
 refine At.jQ (l := L) (m := L.length) rce_len rfl rfl zP.zH (fun V3 hV3 hs3 => ?_)
 have hes3 := hes'.le hV3
 refine At.cutG (ι := Option Addr × Nat) (fun _ => [(4, .pointer (some ⟨b4, 0, none⟩)), (5, .pointer (some ⟨b5, 0, none⟩))]) (fun g => [.blk b4 (LC [.slice none 0 0, .slice none 0 0] 26), .blk b5 (LC [.slice ao L.length co, .slice g.1 (b.es.length + 1) g.2] 26), .row (.slice g.1 (b.es.length + 1) g.2) 36 4 (b.es.length + 1) ([] ++ flat ene b.es ++ ene e)]) (fun _ V'' => Le V3 V'') ?_ ?_
 ·refine At.drawC [.blk b2 (LC [.slice aq qs.length cq, .slice a b.es.length c] 26), .blk b3 (LC (ene e) 36), .blk b5 (LC [.slice ao L.length co, .slice none 0 0] 26)] (.q 1 (.q 2 (.q 4 (.two 0 (.two 3 (.n false 5 (.n true 6 (.q 7 (.n true 8 .done)))) 5 (.n false 3 (.n true 6 (.q 7 (.n true 8 .done))))) 5 (.n false 0 (.n false 3 (.n true 6 (.q 7 (.n true 8 .done))))))))) ffm (by kernel_rfl) Pt.zH ?_
  refine AtC.pre (fun hle0 => ?_)
  refine AtC.kq (by (first | refine AtT.zk zu ?_ | with_reducible refine AtT.zl zu ?_ | refine AtT.zn zu ?_); exact At.knows) ?_
  refine AtC.kq (by (first | refine AtT.zm qo ?_ | refine AtT.zo qo ?_); exact At.knows) ?_
  refine AtC.kq (by (first | refine AtT.zD qD ?_ | refine AtT.zI qD ?_ | refine AtT.zC qD ?_); exact At.knows) ?_
  refine AtC.two ?_ ?_
  focus
   refine AtC.nz ?_
   refine AtT.bsliceR0 rfl trivial rfl bs24_0 (by decide) (s := 4) (fun b32 => ?_)
   refine AtC.kgo ?_
   refine AtC.two ?_ ?_
   focus
    refine AtC.nz ?_
    refine AtT.appendRS rfl trivial Tryz.underlying24 rw36 rfl (by decide) rfl rfl zP.zH (enc := ene) (m := b.es) (by first | exact hes3 | exact hes3.le (by assumption)) ene_len ene_all (by unfold maxLen; omega) (by omega) (by decide) (fun a35 c35 => ?_)
    refine AtC.kgo ?_
    rw [Nat.zero_add b.es.length]
    refine AtC.nz ?_
    refine AtT.zQ (bs24_1_0 _ _ _ _) ?_
    intro q37 V37 hV37 hq37
    have g37 : Le V V37 := by first | exact hV37 | exact Le.trans (by assumption) hV37
    refine AtC.kgo ?_
    refine AtC.toT ?_
    first | refine AtT.jm Tryz.underlying24 rw36 ?_
    intro a38 c38
    first | refine AtT.zk zu ?_ | with_reducible refine AtT.zl zu ?_ | refine AtT.zn zu ?_
    first | refine AtT.jh qo ?_ | refine AtT.zF qo ?_
    refine AtT.done ?_
   rotate_right
   focus
    refine AtC.nz ?_
    refine AtT.zQ (bs24_1_0 _ _ _ _) ?_
    intro q37 V37 hV37 hq37
    have g37 : Le V V37 := by first | exact hV37 | exact Le.trans (by assumption) hV37
    refine AtC.kgo ?_
    refine AtC.nz ?_
    refine AtT.appendRS rfl trivial Tryz.underlying24 rw36 rfl (by decide) rfl rfl zP.zH (enc := ene) (m := b.es) (by first | exact hes3 | exact hes3.le (by assumption)) ene_len ene_all (by unfold maxLen; omega) (by omega) (by decide) (fun a35 c35 => ?_)
    refine AtC.kgo ?_
    rw [Nat.zero_add b.es.length]
    refine AtC.toT ?_
    first | refine AtT.jm Tryz.underlying24 rw36 ?_
    intro a38 c38
    first | refine AtT.zk zu ?_ | with_reducible refine AtT.zl zu ?_ | refine AtT.zn zu ?_
    first | refine AtT.jh qo ?_ | refine AtT.zF qo ?_
    refine AtT.done ?_
  rotate_right
  focus
   refine AtC.nz ?_
   refine AtT.zQ (bs24_1_0 _ _ _ _) ?_
   intro q37 V37 hV37 hq37
   have g37 : Le V V37 := by first | exact hV37 | exact Le.trans (by assumption) hV37
   refine AtC.kgo ?_
   refine AtC.nz ?_
   refine AtT.bsliceR0 rfl trivial rfl bs24_0 (by decide) (s := 4) (fun b32 => ?_)
   refine AtC.kgo ?_
   refine AtC.nz ?_
   refine AtT.appendRS rfl trivial Tryz.underlying24 rw36 rfl (by decide) rfl rfl zP.zH (enc := ene) (m := b.es) (by first | exact hes3 | exact hes3.le (by assumption)) ene_len ene_all (by unfold maxLen; omega) (by omega) (by decide) (fun a35 c35 => ?_)
   refine AtC.kgo ?_
   rw [Nat.zero_add b.es.length]
   refine AtC.toT ?_
   first | refine AtT.jm Tryz.underlying24 rw36 ?_
   intro a38 c38
   first | refine AtT.zk zu ?_ | with_reducible refine AtT.zl zu ?_ | refine AtT.zn zu ?_
   first | refine AtT.jh qo ?_ | refine AtT.zF qo ?_
   refine AtT.done ?_
  all_goals (refine At.nrm ?_)
  all_goals (exact At.kC (a38, c38) (by assumption) ⟨rfl, rfl, trivial⟩ Pt.zH)
 rintro ⟨a38, c38⟩ V4 ks' O' hV4 hk hO hl4
 dsimp only at hk hO
 subst hk hO
 refine At.nrm ?_
 refine At.zh (.q 0 (.n true 1 .done)) ?_
 first | refine AtT.zD zK ?_ | refine AtT.zI zK ?_ | refine AtT.zC zK ?_
 refine AtT.zF zK ?_
 refine AtT.done ?_
 refine At.nrm ?_
 refine At.jQ (l := b.es ++ [e]) (v := .slice a38 (b.es.length + 1) c38) (e := 36) (s := 4) (m := b.es.length + 1) (xs := [] ++ flat ene b.es ++ ene e) ene_len (by rw [jH]; rfl) (by rw [List.length_append]; rfl) zP.zH (fun V5 hV5 hs5 => ?_)
 have hV35 := hV4.trans hV5
 refine At.qi rfl (.agg rfl zK zP.zH rfl) ⟨.slice ao L.length co, a38, c38, ?_, ⟨L, ao, co, hLr, rfl, hs3.le hV35, (hLq.le hV3).le hV35⟩, ?_⟩
 ·show _ = Value.agg #[.slice ao L.length co, .slice a38 (b.es ++ [e]).length c38]
  rw [List.length_append]; rfl
 ·show Sl V5 ene 4 (.slice a38 (b.es ++ [e]).length c38) (b.es ++ [e])
  rw [List.length_append]; exact hs5
end Go.Proofs.YtpoignmclfdgpaaGreatDoor
set_option linter.unusedVariables false
namespace Go.Proofs.YtpoignmclfdgpaaGreatDoor
open Go.Lw Go.Gl Go.Bk Go.RowKit
def addE (b : Bo) (e : En) : Int := if bkE b ≠ 0 then bkE b else bkE (withB b e)
def addB (b : Bo) (e : En) : Bo := if addE b e ≠ 0 then ⟨[], []⟩ else withB b e
theorem rcs_len {rs : List Rc} (h : qE (-1) rs) : rs.length ≤ 8 := by
 have key : ∀ {l : List Rc} {m : Int}, qE m l → -1 ≤ m → (l.length : Int) + m ≤ 7 ∨ l = [] := by
  intro l
  induction l with
  | nil => intro m _ _; exact .inr rfl
  | cons a l ih =>
   intro m h hm
   cases h with
   | cons h1 h2 =>
    left
    have := h1.lt
    have := h1.g
    rw [List.length_cons]
    push_cast
    rcases ih h2 (by omega) with h | h
    ·omega
    ·subst h; simp; omega
 rcases key h (by omega) with h | h
 ·omega
 ·subst h; simp
theorem radd_f (b : Bo) (e : En) (V : View) (v : Value) (hv : BoV V v b) : Fnc Tryz.prog 26 [v, env e] V fun r V' => ∃ u, r = .tuple #[u, iv (addE b e)] ∧ BoV V' u (addB b e) := by
 obtain ⟨v1, a, c, rfl, hr, hes⟩ := id hv
 refine qh Tryz.func26 rfl Tryz.ntmps26 (Nat.le_of_ble_eq_true rfl) ?_
 intro w0 hw0
 refine At.nrm ?_
 refine At.zh (.n false 0 (.n false 1 (.n false 2 (.q 3 .done)))) ?_
 refine AtT.jd ?_
 intro b2
 refine AtT.jd ?_
 intro b3
 refine AtT.zT z26 ?_
 intro b4
 refine AtT.ze ?_
 refine AtT.done ?_
 refine At.nrm ?_
 refine At.zh (.q 0 (.n false 1 (.q 2 .done))) ?_
 first | refine AtT.zD zK ?_ | refine AtT.zI zK ?_ | refine AtT.zC zK ?_
 refine AtT.zG rfl rfl ok28 (qU b _ _ hv) ?_
 rintro _ rfl
 refine AtT.qH ?_
 refine AtT.done ?_
 refine At.nrm ?_
 refine At.zX rfl (fun h0 => ?_) (fun h0 => ?_)
 ·have hE : addE b e = bkE b := by unfold addE; rw [if_pos h0]
  have hB : addB b e = ⟨[], []⟩ := by unfold addB; rw [if_pos (by rw [hE]; exact h0)]
  rw [hE, hB]
  refine At.nrm ?_
  refine At.zh (.q 0 (.q 1 (.n false 2 (.n true 3 (.q 4 .done))))) ?_
  refine AtT.qG (bd26) ?_
  first | refine AtT.zD zK ?_ | refine AtT.zI zK ?_ | refine AtT.zC zK ?_
  refine AtT.zG rfl rfl ok28 (qU b _ _ hv) ?_
  rintro _ rfl
  refine AtT.zF zK ?_
  refine AtT.ze ?_
  refine AtT.done ?_
  refine At.nrm ?_
  exact At.qN rfl (.agg rfl zK zP.zH rfl) (.tmp rfl) ⟨_, rfl, BoV.nil _⟩
 have hR := jA.1 (Classical.not_not.1 h0)
 have hl8 := rcs_len hR.bog.rs
 have hl24 := hR.len
 have hE : addE b e = bkE (withB b e) := by unfold addE; rw [if_neg h0]
 refine At.nrm ?_
 refine At.zh (.q 0 (.q 1 (.n false 2 (.n false 3 (.q 4 .done))))) ?_
 first | refine AtT.zD zK ?_ | refine AtT.zI zK ?_ | refine AtT.zC zK ?_
 first | refine AtT.zD qD ?_ | refine AtT.zI qD ?_ | refine AtT.zC qD ?_
 refine AtT.qa rfl rfl ok42 (rwith_f b hR.bog.rs (by omega) (by omega) e _ _ hv) ?_
 rintro v14 V14 hV14 hw14
 refine AtT.zG rfl rfl ok28 (qU (withB b e) _ _ hw14) ?_
 rintro _ rfl
 refine AtT.qH ?_
 refine AtT.done ?_
 refine At.nrm ?_
 have hv14 := hv.le hV14
 refine At.zX rfl (fun h1 => ?_) (fun h1 => ?_)
 ·have hB : addB b e = ⟨[], []⟩ := by unfold addB; rw [if_pos (by rw [hE]; exact h1)]
  rw [hE, hB]
  refine At.nrm ?_
  refine At.zh (.q 0 (.q 1 (.q 2 (.n false 3 (.n false 4 (.n true 5 (.q 6 .done))))))) ?_
  refine AtT.qG (bd26) ?_
  first | refine AtT.zD zK ?_ | refine AtT.zI zK ?_ | refine AtT.zC zK ?_
  first | refine AtT.zD qD ?_ | refine AtT.zI qD ?_ | refine AtT.zC qD ?_
  refine AtT.qa rfl rfl ok42 (rwith_f b hR.bog.rs (by omega) (by omega) e _ _ hv14) ?_
  rintro v20 V20 hV20 hw20
  refine AtT.zG rfl rfl ok28 (qU (withB b e) _ _ hw20) ?_
  rintro _ rfl
  refine AtT.zF zK ?_
  refine AtT.ze ?_
  refine AtT.done ?_
  refine At.nrm ?_
  exact At.qN rfl (.agg rfl zK zP.zH rfl) (.tmp rfl) ⟨_, rfl, BoV.nil _⟩
 have hB : addB b e = withB b e := by unfold addB; rw [if_neg (by rw [hE]; exact h1)]
 have hE0 : addE b e = 0 := by rw [hE]; exact Classical.not_not.1 h1
 rw [hE0, hB]
 refine At.nrm ?_
 refine At.zh (.q 0 (.q 1 (.n false 2 (.n true 3 (.q 4 .done))))) ?_
 first | refine AtT.zD zK ?_ | refine AtT.zI zK ?_ | refine AtT.zC zK ?_
 first | refine AtT.zD qD ?_ | refine AtT.zI qD ?_ | refine AtT.zC qD ?_
 refine AtT.qa rfl rfl ok42 (rwith_f b hR.bog.rs (by omega) (by omega) e _ _ hv14) ?_
 rintro v24 V24 hV24 hw24; obtain ⟨w1, wa, wc, rfl, hw1, hw2⟩ := id hw24; obtain ⟨qs2, aq2, cq2, _, rfl, _⟩ := id hw1
 refine AtT.zF zK ?_
 refine AtT.ze ?_
 refine AtT.done ?_
 refine At.nrm ?_
 exact At.qN rfl (.agg rfl zK zP.zH rfl) (.tmp rfl) ⟨_, rfl, hw24⟩
theorem kr (b : Bo) (e : En) (V : View) (v : Value) (hv : BoV V v b) : Fnc Tryz.prog 25 [v, env e] V fun r V' => ∃ u, r = .tuple #[u, iv (addE b e)] ∧ BoV V' u (addB b e) := by
 obtain ⟨v1, a, c, rfl, hr, hes⟩ := id hv
 obtain ⟨qs, aq, cq, hqr, rfl, hsq, hq⟩ := id hr
 have hql : qs.length = b.rs.length := by rw [← hqr, List.length_map]
 have hlenS := hsq.jl
 refine qh Tryz.func25 rfl Tryz.ntmps25 (Nat.le_of_ble_eq_true rfl) ?_
 intro w0 hw0
 refine At.nrm ?_
 refine At.zh (.n false 0 (.n false 1 (.n false 2 (.q 3 .done)))) ?_
 refine AtT.jd ?_
 intro b2
 refine AtT.jd ?_
 intro b3
 refine AtT.zT z26 ?_
 intro b4
 refine AtT.ze ?_
 refine AtT.done ?_
 refine At.nrm ?_
 refine At.zh (.q 0 (.n false 1 (.q 2 .done))) ?_
 first | refine AtT.zD zK ?_ | refine AtT.zI zK ?_ | refine AtT.zC zK ?_
 refine AtT.zG rfl rfl ok27 (checkBook_f b _ _ hv) ?_
 rintro _ rfl
 refine AtT.ze ?_
 refine AtT.done ?_
 refine At.nrm ?_
 refine At.nrm ?_
 refine At.zh (.q 0 (.q 1 .done)) ?_
 refine AtT.zf ?_
 refine AtT.qH ?_
 refine AtT.done ?_
 refine At.nrm ?_
 refine At.zX rfl (fun h0 => ?_) (fun h0 => ?_)
 ·have hE : addE b e = bkE b := by unfold addE; rw [if_pos h0]
  have hB : addB b e = ⟨[], []⟩ := by unfold addB; rw [if_pos (by rw [hE]; exact h0)]
  rw [hE, hB]
  refine At.nrm ?_
  refine At.zh (.q 0 (.q 1 (.n true 2 (.q 3 .done)))) ?_
  refine AtT.qG (bd26) ?_
  refine AtT.zf ?_
  refine AtT.zF zK ?_
  refine AtT.ze ?_
  refine AtT.done ?_
  refine At.nrm ?_
  exact At.qN rfl (.agg rfl zK zP.zH rfl) (.tmp rfl) ⟨_, rfl, BoV.nil _⟩
 have hR := jA.1 (Classical.not_not.1 h0)
 have hrs := hR.bog.rs
 have hl8 := rcs_len hrs
 have hl24 := hR.len
 have hE : addE b e = bkE (withB b e) := by unfold addE; rw [if_neg h0]
 refine At.nrm ?_
 refine At.zh (.n false 0 .done) ?_
 refine AtT.zT z26 ?_
 intro b7
 refine AtT.done ?_
 refine At.nrm ?_
 refine At.zh (.q 0 (.q 1 (.q 2 (.q 3 .done)))) ?_
 first | refine AtT.zk zw ?_ | with_reducible refine AtT.zl zw ?_ | refine AtT.zn zw ?_
 first | refine AtT.zm qy ?_ | refine AtT.zo qy ?_
 first | refine AtT.zR Tryz.underlying22 ?_ | refine AtT.zN Tryz.underlying22 ?_
 refine AtT.zf ?_
 refine AtT.done ?_
 refine At.nrm ?_
 refine At.newRow 80 2 ?_
 refine At.lp (ι := Nat × List RcQ × Option Addr × Nat) (KS := fun g => [(2, .pointer (some ⟨b2, 0, none⟩)), (3, .pointer (some ⟨b3, 0, none⟩)), (4, .pointer (some ⟨b4, 0, none⟩)), (7, .pointer (some ⟨b7, 0, none⟩)), (18, .slice aq qs.length cq), (19, iv qs.length), (20, iv g.1)])
  (OS := fun g => [.blk b2 (LC [.slice aq qs.length cq, .slice a b.es.length c] 26), .blk b3 (LC (ene e) 36), .blk b4 (LC [.slice none 0 0, .slice none 0 0] 26), .blk b7 (LC [.slice g.2.2.1 g.2.1.length g.2.2.2, .slice none 0 0] 26), .row (.slice g.2.2.1 g.2.1.length g.2.2.2) 80 2 g.2.1.length (flat rce g.2.1)])
  (VS := fun g V' => Le V V' ∧ g.1 ≤ qs.length ∧ g.2.1.length = g.1 ∧ g.2.1.map (·.1) = b.rs.take g.1 ∧ RsQ V' g.2.1) (μ := fun g => qs.length - g.1) (0, [], none, 0) ?_ ?_ ?_ ?_
 ·exact ⟨rfl, rfl, rfl, rfl, rfl, rfl, rfl, trivial⟩
 ·exact Pt.zH
 ·exact ⟨Le.refl _, Nat.zero_le _, rfl, rfl, fun x hx => by cases hx⟩
 rintro ⟨k, L, ao, co⟩ V' ks' O' ⟨hVV, hkl, hLk, hLr, hLq⟩ hk hO hl2
 dsimp only at hkl hLk hLr hLq hk hO
 subst hk hO
 have hsq' := hsq.le hVV
 have hq' := hq.le hVV
 have hes' := hes.le hVV
 refine At.nrm ?_
 refine At.zh (.q 0 .done) ?_
 refine AtT.qp ?_
 refine AtT.done ?_
 refine At.nrm ?_
 refine At.zX rfl (fun hp => ?_) (fun hp => ?_)
 ·obtain ⟨x, hx⟩ : ∃ x, qs[k]? = some x := ⟨_, List.getElem?_eq_getElem (by omega)⟩
  have hbx : b.rs[k]? = some x.1 := by rw [← hqr]; exact qs_at hx
  have htk := take_snoc2 hbx
  have hpx := rc_parts hrs (List.mem_of_getElem? hbx)
  have hsx := hq' x (qs_mem hx)
  refine At.nrm ?_
  refine At.zh (.q 0 (.q 1 (.n false 2 (.n true 3 .done)))) ?_
  refine AtT.qB Tryz.underlying22 qP ?_
  intro p22 e22 he22 hc22
  obtain rfl : x = e22 := by have : qs[k]? = some e22 := (by rw [Int.toNat_natCast] at he22; exact he22); rw [hx] at this; exact Option.some.inj this
  first | refine AtT.zD qP ?_ | refine AtT.zI qP ?_ | refine AtT.zC qP ?_
  refine AtT.zT z80 ?_
  intro b9
  refine AtT.zF qP ?_
  refine AtT.done ?_
  refine At.nrm ?_
  refine At.nrm ?_
  refine At.draw (.q 0 (.q 1 (.q 2 (.q 3 (.q 4 (.q 5 (.n false 6 (.q 7 (.n false 8 (.n true 9 (.q 10 (.n true 11 .done)))))))))))) ffm (by kernel_rfl) ?_
  first | refine AtT.zk zw ?_ | with_reducible refine AtT.zl zw ?_ | refine AtT.zn zw ?_
  first | refine AtT.zm qy ?_ | refine AtT.zo qy ?_
  first | refine AtT.zk zY ?_ | with_reducible refine AtT.zl zY ?_ | refine AtT.zn zY ?_
  first | refine AtT.zm tk3 ?_ | refine AtT.zo tk3 ?_
  first | refine AtT.zk zL ?_ | with_reducible refine AtT.zl zL ?_ | refine AtT.zn zL ?_
  first | refine AtT.zm qL ?_ | refine AtT.zo qL ?_
  refine AtT.qa rfl rfl ok65 (clone_f x.1.ps hpx.1 (by omega) _ _ hsx) ?_
  rintro v30 V30 hV30 ⟨a30, c30, rfl, hs30⟩; have k30 := hVV.trans hV30
  refine AtT.qG (bd80_0_1 _ _ _ _) ?_
  refine AtT.zQ (bs22_1_0 _ _ _ _) ?_
  intro q32 V32 hV32 hq32
  have g32 : Le V V32 := by first | exact hV32 | exact Le.trans (by assumption) hV32
  first | refine AtT.jm Tryz.underlying22 rw80 ?_
  intro a33 c33
  first | refine AtT.zk zw ?_ | with_reducible refine AtT.zl zw ?_ | refine AtT.zn zw ?_
  first | refine AtT.jh qy ?_ | refine AtT.zF qy ?_
  refine AtT.done ?_
  refine At.nrm ?_
  refine At.nrm ?_
  refine At.zh (.q 0 (.q 1 .done)) ?_
  first | refine AtT.qI ?_ | refine AtT.ql ?_
  refine AtT.zf ?_
  refine AtT.done ?_
  refine At.nrm ?_
  refine At.round (k + 1, L ++ [(x.1, a30, c30)], a33, c33) ?_ ?_ ?_ ?_
  ·show qs.length - (k + 1) < qs.length - k; omega
  ·refine ⟨by first | assumption | exact hVV.trans (by assumption) | exact (hVV.trans hV30).trans (by assumption), by dsimp only; omega, by dsimp only; rw [List.length_append, hLk]; rfl, by dsimp only; rw [List.map_append, hLr, htk]; rfl, fun y hy => ?_⟩
   rcases List.mem_append.1 hy with h | h
   ·exact (hLq y h).le (by first | assumption | exact Le.trans hV30 (by assumption))
   ·rw [List.mem_singleton] at h; subst h
    exact hs30.le (by assumption)
  ·exact ⟨rfl, rfl, rfl, rfl, rfl, rfl, ivs (by push_cast; omega), trivial⟩
  dsimp only
  rw [jH, List.length_append]
  ·exact Pt.zH
 obtain rfl : k = qs.length := by omega
 rw [hql, List.take_length] at hLr
 refine At.nrm ?_
 refine At.jQ (l := L) (m := L.length) rce_len rfl rfl zP.zH (fun V3 hV3 hs3 => ?_)
 have hes3 := hes'.le hV3
 have kV3 := hVV.trans hV3
 refine At.cutG (ι := Option Addr × Nat) (fun _ => [(4, .pointer (some ⟨b4, 0, none⟩)), (7, .pointer (some ⟨b7, 0, none⟩))]) (fun g => [.blk b4 (LC [.slice none 0 0, .slice none 0 0] 26), .blk b7 (LC [.slice ao L.length co, .slice g.1 (b.es ++ [e]).length g.2] 26)]) (fun g V'' => Le V3 V'' ∧ Sl V'' ene 4 (.slice g.1 (b.es ++ [e]).length g.2) (b.es ++ [e])) ?_ ?_
 ·refine At.draw (.q 0 (.q 1 (.q 2 (.q 3 (.q 4 (.q 5 (.q 6 (.q 7 (.q 8 (.q 9 (.n false 10 (.n false 11 (.q 12 (.n true 13 .done)))))))))))))) ffm (by kernel_rfl) ?_
  first | refine AtT.zk zu ?_ | with_reducible refine AtT.zl zu ?_ | refine AtT.zn zu ?_
  first | refine AtT.zm qo ?_ | refine AtT.zo qo ?_
  first | refine AtT.zk zu ?_ | with_reducible refine AtT.zl zu ?_ | refine AtT.zn zu ?_
  first | refine AtT.zm qo ?_ | refine AtT.zo qo ?_
  first | refine AtT.zR Tryz.underlying24 ?_ | refine AtT.zN Tryz.underlying24 ?_
  first | refine AtT.zk zu ?_ | with_reducible refine AtT.zl zu ?_ | refine AtT.zn zu ?_
  first | refine AtT.zm qo ?_ | refine AtT.zo qo ?_
  first | refine AtT.zR Tryz.underlying24 ?_ | refine AtT.zN Tryz.underlying24 ?_
  first | refine AtT.kclipAll Tryz.underlying24 qD ?_ | refine AtT.kclip Tryz.underlying24 qD ?_
  intro a44 hs44
  first | refine AtT.zD qD ?_ | refine AtT.zI qD ?_ | refine AtT.zC qD ?_
  refine AtT.zQ (bs24_1_0 _ _ _ _) ?_
  intro q46 V46 hV46 hq46
  have g46 : Le V V46 := by first | exact hV46 | exact Le.trans (by assumption) hV46
  refine AtT.appendC rfl trivial Tryz.underlying24 rw36 rfl (by decide) rfl (by first | assumption | exact Sl.le (by assumption) (by assumption)) rfl rfl (by first | assumption | exact Cells.le (by assumption) (by assumption)) (fun _ => rfl) (by simp) (by unfold maxLen; simp only [List.length_cons, List.length_nil]; omega) (by simp only [List.length_cons, List.length_nil]; omega) (by decide) (enc := ene) (m := [e]) ?_
  intro a47 c47 V47 hV47 hs47
  have g47 : Le V V47 := by first | exact hV47 | exact Le.trans (by assumption) hV47
  first | refine AtT.zk zu ?_ | with_reducible refine AtT.zl zu ?_ | refine AtT.zn zu ?_
  first | refine AtT.jh qo ?_ | refine AtT.zF qo ?_
  refine AtT.done ?_
  refine At.nrm ?_
  all_goals (exact At.kC (a47, c47) ⟨by first | assumption | exact Le.trans (by assumption) (by assumption), hs47⟩ ⟨rfl, rfl, trivial⟩ Pt.zH)
 rintro ⟨ae, ce⟩ V4 ks' O' ⟨hV4, hse⟩ hk hO hl4
 dsimp only at hse hk hO
 subst hk hO
 have hvw : BoV V4 (.agg #[.slice ao L.length co, .slice ae (b.es ++ [e]).length ce]) (withB b e) := ⟨_, ae, ce, rfl, ⟨L, ao, co, hLr, rfl, hs3.le hV4, (hLq.le hV3).le hV4⟩, hse⟩
 refine At.nrm ?_
 refine At.zh (.q 0 (.n false 1 (.q 2 .done))) ?_
 first | refine AtT.zD zK ?_ | refine AtT.zI zK ?_ | refine AtT.zC zK ?_
 refine AtT.zG rfl rfl ok27 (checkBook_f (withB b e) _ _ hvw) ?_
 rintro _ rfl
 refine AtT.ze ?_
 refine AtT.done ?_
 refine At.nrm ?_
 refine At.nrm ?_
 refine At.zh (.q 0 (.q 1 .done)) ?_
 refine AtT.zf ?_
 refine AtT.qH ?_
 refine AtT.done ?_
 refine At.nrm ?_
 refine At.zX rfl (fun h1 => ?_) (fun h1 => ?_)
 ·have hB : addB b e = ⟨[], []⟩ := by unfold addB; rw [if_pos (by rw [hE]; exact h1)]
  rw [hE, hB]
  refine At.nrm ?_
  refine At.zh (.q 0 (.q 1 (.n true 2 (.q 3 .done)))) ?_
  refine AtT.qG (bd26) ?_
  refine AtT.zf ?_
  refine AtT.zF zK ?_
  refine AtT.ze ?_
  refine AtT.done ?_
  refine At.nrm ?_
  exact At.qN rfl (.agg rfl zK zP.zH rfl) (.tmp rfl) ⟨_, rfl, BoV.nil _⟩
 have hB : addB b e = withB b e := by unfold addB; rw [if_neg (by rw [hE]; exact h1)]
 have hE0 : addE b e = 0 := by rw [hE]; exact Classical.not_not.1 h1
 rw [hE0, hB]
 refine At.nrm ?_
 refine At.zh (.q 0 (.n true 1 (.q 2 .done))) ?_
 first | refine AtT.zD zK ?_ | refine AtT.zI zK ?_ | refine AtT.zC zK ?_
 refine AtT.zF zK ?_
 refine AtT.ze ?_
 refine AtT.done ?_
 refine At.nrm ?_
 exact At.qN rfl (.agg rfl zK zP.zH rfl) (.tmp rfl) ⟨_, rfl, hvw⟩
end Go.Proofs.YtpoignmclfdgpaaGreatDoor
set_option linter.unusedVariables false
namespace Go.Proofs.YtpoignmclfdgpaaGreatDoor
open Go.Lw Go.Gl Go.Bk Go.RowKit
/-! What the examples of the chapter come to. -/
abbrev box : Bo := withB bo6 ⟨6, 4, 4, 0⟩
theorem c_r : crE rs2 = 0 := by decide +kernel
theorem c_r1E : ko rs2 3 1 = 0 := by decide +kernel
theorem c_r1 : kE rs2 3 1 = [4, 2] ++ List.replicate 6 0 := by decide +kernel
theorem c_r2E : ko rs2 0 4 = 0 := by decide +kernel
theorem c_r2 : kE rs2 0 4 = [4] ++ List.replicate 7 0 := by decide +kernel
theorem c_r3E : ko rs2 8 1 = 2 := by decide +kernel
theorem c_r4E : ko rs2 2 3 = 0 := by decide +kernel
theorem c_r4 : kE rs2 2 3 = [6, 3] ++ List.replicate 6 0 := by decide +kernel
theorem c_b : bkE bo6 = 0 := by decide +kernel
theorem c_n6E : cntE bo6 6 = 0 := by decide +kernel
theorem c_n6 : cntL bo6 6 = [0, 1, 2, 4, 5] := by decide +kernel
theorem c_n4E : cntE bo6 4 = 0 := by decide +kernel
theorem c_n4 : cntL bo6 4 = [0, 1, 2, 3] := by decide +kernel
theorem c_n7E : cntE bo6 7 = 2 := by decide +kernel
theorem c_s1E : kg bo6 6 9 = 0 := by decide +kernel
theorem c_s1 : jZ bo6 6 9 = [3, 2, 1, 1] ++ List.replicate 4 0 := by decide +kernel
theorem c_s2E : kg bo6 4 9 = 0 := by decide +kernel
theorem c_s2 : jZ bo6 4 9 = [3, 2, 2] ++ List.replicate 5 0 := by decide +kernel
theorem c_s3E : kg bo6 6 2 = 0 := by decide +kernel
theorem c_s3 : jZ bo6 6 2 = [3, 2, 3] ++ List.replicate 5 0 := by decide +kernel
theorem c_a1 : addE bo6 ⟨6, 4, 4, 0⟩ = 0 := by decide +kernel
theorem c_a1B : addB bo6 ⟨6, 4, 4, 0⟩ = box := by unfold addB; rw [if_neg (by rw [c_a1]; decide)]
theorem c_a2 : addE bo6 ⟨6, 2, 2, 2⟩ = 28 := by decide +kernel
theorem c_a3 : addE bo6 ⟨4, 1, 0, 1⟩ = 12 := by decide +kernel
theorem c_a4 : addE bo6 ⟨6, 3, 4, 1⟩ = 16 := by decide +kernel
theorem c_a5 : addE bo6 ⟨6, 4, 6, 0⟩ = 2 := by decide +kernel
theorem c_m1E : jP bo6 2 = 0 := by decide +kernel
theorem c_m2E : jP bo6 3 = 0 := by decide +kernel
theorem c_m3E : jP bo6 0 = 16 := by decide +kernel
theorem most_of {b : Bo} {g : Nat} (hg : g < 8) (hb : bkE b = 0) (hE : jP b g = 0) {m : Nat} (h1 : kM b.rs (cutS (stkF b b.es.length 999)) g m = true) (h2 : kM b.rs (cutS (stkF b b.es.length 999)) g (m + 1 : Nat) = false) : jT b g = m := by
 have hR := jA.1 hb
 obtain ⟨st, hst⟩ := hR.st (Nat.le_refl _) 999
 have hF : stkF b b.es.length 999 = st := stkF_some hst
 have hk := stkOk_of hR.bog (Nat.le_refl _) hst
 unfold jT
 rw [if_neg (by rw [hE]; decide), Int.toNat_natCast]
 rw [hF] at h1 h2 ⊢
 have := mostS_of hR.bog.rs (fun s => (hk.bd s).1) hk.sum hg (.inr h1) fun c hc => canS_up hR.bog.rs (show m + 1 ≤ c by omega) h2
 omega
theorem c_m1 : jT bo6 2 = 1 := most_of (g := 2) (m := 1) (by decide) c_b c_m1E (by decide +kernel) (by decide +kernel)
theorem c_m2 : jT bo6 3 = 1 := most_of (g := 3) (m := 1) (by decide) c_b c_m2E (by decide +kernel) (by decide +kernel)
theorem c_k1 : chk [97] = [48, 48, 54, 50, 48, 48, 54, 50] := by decide +kernel
theorem c_k2 : chk [114, 32, 50, 32, 48, 32, 50, 32, 49, 32, 49, 10, 114, 32, 51, 32, 50, 32, 50, 10] = [50, 56, 48, 52, 48, 51, 56, 54] := by decide +kernel
theorem c_k0 : chk [] = [48, 48, 48, 48, 48, 48, 48, 49] := by decide +kernel
theorem c_x : bkE box = 0 := by decide +kernel
theorem c_x1E : kg box 7 9 = 0 := by decide +kernel
theorem c_x1 : jZ box 7 9 = [3, 2, 0, 1] ++ List.replicate 4 0 := by decide +kernel
theorem c_fl : (kJ bo6).length ≤ 4000 := by have := (jA.1 c_b).file_len; omega
theorem c_load : loadR (kJ bo6) = (bo6, 0) := load_file (jA.1 c_b).nm c_b c_fl
theorem c_0 : bkE ⟨[], []⟩ = 0 := by decide +kernel
theorem c_f0 : kJ ⟨[], []⟩ = [99, 104, 101, 99, 107, 32, 48, 48, 48, 48, 48, 48, 48, 49, 10] := by decide +kernel
theorem c_l0 : loadR [99, 104, 101, 99, 107, 32, 48, 48, 48, 48, 48, 48, 48, 49, 10] = (⟨[], []⟩, 0) := by
 rw [← c_f0]; exact load_file (jA.1 c_0).nm c_0 (by rw [c_f0]; decide)
end Go.Proofs.YtpoignmclfdgpaaGreatDoor
