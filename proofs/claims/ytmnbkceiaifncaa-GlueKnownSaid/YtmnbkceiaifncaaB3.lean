/- Texts that the last one of this claim imports. -/
import Derived.Test.YtmnbkceiaifncaaB2
set_option linter.unusedVariables false
set_option linter.unusedSimpArgs false
set_option linter.unusedSectionVars false
set_option linter.unusedVariables false
namespace Go.Proofs.Ytmnbkceiaifncaa
open Go.Lw Go.Gl Go.RowKit

theorem open_f (d : Dy) (ps : List Pn) (sure : Bool) (V : View) (v : Value) (hs : Sl V pne 3 v ps) : Fnc Try.prog 80 [dyv d, v, .bool sure] V fun r V' =>
    (bothE d ps ≠ 0 ∧ r = .tuple #[.pointer none, iv (bothE d ps)]) ∨ (bothE d ps = 0 ∧ ∃ p, r = .tuple #[.pointer (some p), iv 0] ∧ BnV V' p (bn d ps sure)) := by
  refine fn_of Try.func80 rfl Try.ntmps80 (Nat.le_of_ble_eq_true rfl) ?_
  intro w0 hw0
  refine At.nrm ?_
  refine At.ktext (.n false 0 (.q 1 (.q 2 .done))) ?_
  refine AtT.kbox ?_
  intro b3
  refine AtT.kassign ?_
  refine AtT.kassign ?_
  refine AtT.done ?_
  refine At.nrm ?_
  refine At.ktext (.q 0 (.n false 1 (.q 2 .done))) ?_
  first | refine AtT.kloadOA tk25 ?_ | refine AtT.kloadA tk25 ?_ | refine AtT.kloadOP tk25 ?_
  refine AtT.kcallP rfl rfl ok21 (day_f d _) ?_
  rintro _ rfl
  refine AtT.kassign ?_
  refine AtT.done ?_
  refine At.nrm ?_
  refine At.ktext (.q 0 (.q 1 .done)) ?_
  refine AtT.kmove ?_
  refine AtT.kneI ?_
  refine AtT.done ?_
  refine At.nrm ?_
  refine At.condP rfl (fun hb => ?_) (fun hb => ?_)
  · refine At.nrm ?_
    refine At.ktext (.q 0 (.q 1 (.q 2 .done))) ?_
    refine AtT.kmove ?_
    refine AtT.kassign ?_
    refine AtT.kassign ?_
    refine AtT.done ?_
    refine At.nrm ?_
    refine At.ret2 rfl (.tmp rfl) (.tmp rfl) (.inl ⟨?_, ?_⟩)
    · rw [bothE, if_pos hb]; exact hb
    · rw [bothE, if_pos hb]
  have hb' : dayE d = 0 := Decidable.not_not.1 hb
  refine At.nrm ?_
  refine At.ktext (.q 0 (.n false 1 (.q 2 .done))) ?_
  refine AtT.kmove ?_
  refine AtT.kcallP rfl rfl ok23 (pan_f ps _ _ hs) ?_
  rintro _ rfl
  refine AtT.kassign ?_
  refine AtT.done ?_
  refine At.nrm ?_
  refine At.ktext (.q 0 (.q 1 .done)) ?_
  refine AtT.kmove ?_
  refine AtT.kneI ?_
  refine AtT.done ?_
  refine At.nrm ?_
  refine At.condP rfl (fun hc => ?_) (fun hc => ?_)
  · refine At.nrm ?_
    refine At.ktext (.q 0 (.q 1 (.q 2 .done))) ?_
    refine AtT.kmove ?_
    refine AtT.kassign ?_
    refine AtT.kassign ?_
    refine AtT.done ?_
    refine At.nrm ?_
    refine At.ret2 rfl (.tmp rfl) (.tmp rfl) (.inl ⟨?_, ?_⟩)
    · rw [bothE, if_neg hb]; exact hc
    · rw [bothE, if_neg hb]
  have hc' : panE ps = 0 := Decidable.not_not.1 hc
  have h10 := (panE_ok hc').1
  have h0 : bothE d ps = 0 := by rw [bothE, if_neg hb, hc']
  refine At.nrm ?_
  refine At.ktext (.q 0 (.q 1 (.q 2 (.n false 3 (.q 4 (.q 5 .done)))))) ?_
  first | refine AtT.kloadOA tk25 ?_ | refine AtT.kloadA tk25 ?_ | refine AtT.kloadOP tk25 ?_
  refine AtT.kmove ?_
  refine AtT.kmove ?_
  refine AtT.kcall rfl rfl ok104 (newBench_f d ps sure _ _ hs h10) ?_
  rintro _ V8 hV8 ⟨p, rfl, hp⟩
  refine AtT.kassign ?_
  refine AtT.kassign ?_
  refine AtT.done ?_
  refine At.nrm ?_
  exact At.ret2 rfl (.tmp rfl) (.tmp rfl) (.inr ⟨h0, p, rfl, hp⟩)

/-- A list of numbers of panels. -/
def InB (B : Bn) (l : List Int) : Prop := ∀ i ∈ l, 0 ≤ i ∧ i < (B.each.length : Int)
theorem slice72 (b : Nat) (w : World) : (Instr.sliceAt 72 (.pointer (some ⟨b, 0, none⟩)) none none none).run Try.prog w = .ok (.slice (some ⟨b, 0, none⟩) 2 2) w := by kernel_rfl
theorem sum_f (B : Bn) (hB : BnOk B) (l : List Int) (hl : InB B l) (hlen : l.length ≤ 100) (V : View) (p : Addr) (h : BnV V p B) (v : Value) (hs : SlI V v l) : Fnc Try.prog 58 [.pointer (some p), v] V fun r _ => r = smv (sumL B l) := by
  obtain ⟨a, c, h1, h2⟩ := h
  obtain ⟨al, cl, rfl, hx1, hx2, _⟩ := id hs
  clear hx1 hx2
  have c2 : Cells V (p.add 2) [.slice a B.each.length c] := h1.at (k := 2) fun j u hj => by
    match j, hj with
    | 0, hj => exact hj
  refine fn_of Try.func58 rfl Try.ntmps58 (Nat.le_of_ble_eq_true rfl) ?_
  intro w0 hw0
  refine At.nrm ?_
  refine At.ktext (.n false 0 .done) ?_
  refine AtT.kalloc z72 ?_
  intro b4
  refine AtT.done ?_
  refine At.nrm ?_
  refine At.ktext (.n false 0 .done) ?_
  refine AtT.kalloc z72 ?_
  intro b5
  refine AtT.done ?_
  refine At.nrm ?_
  refine At.ktext (.q 0 (.n true 1 .done)) ?_
  refine AtT.slV rfl trivial rfl (slice72 b5) (by decide) ?_
  refine AtT.clearO rfl trivial Try.underlying105 z2 rfl (by kernel_rfl) rfl rfl (by repeat (first | exact Upd.here | apply Upd.there)) ?_ (us := sme sm0)
  refine AtT.done ?_
  refine At.nrm ?_
  refine At.ktext (.q 0 (.q 1 (.q 2 .done))) ?_
  refine AtT.kmove ?_
  first | refine AtT.klenS Try.underlying27 ?_ | refine AtT.klenR Try.underlying27 ?_
  refine AtT.kmove ?_
  refine AtT.done ?_
  refine At.nrm ?_
  refine At.lp (ι := Nat) (KS := fun k => [(0, .pointer (some p)), (4, .pointer (some ⟨b4, 0, none⟩)), (5, .pointer (some ⟨b5, 0, none⟩)), (9, .slice al l.length cl), (10, iv l.length), (11, iv k)])
    (OS := fun k => [.blk b4 (LC [iv 0, iv 0] 72), .blk b5 (LC (sme (sumL B (l.take k))) 72)])
    (VS := fun k V' => V' = V ∧ k ≤ l.length) (μ := fun k => l.length - k) 0 ?_ ?_ ?_ ?_
  · exact ⟨rfl, rfl, rfl, rfl, rfl, rfl, trivial⟩
  · exact Pt.auto
  · exact ⟨rfl, Nat.zero_le _⟩
  · rintro k V' ks' O' ⟨rfl, hkl⟩ hk hO hl2
    subst hk hO
    refine At.nrm ?_
    refine At.ktext (.q 0 .done) ?_
    refine AtT.klss ?_
    refine AtT.done ?_
    refine At.nrm ?_
    refine At.condP rfl (fun hp => ?_) (fun hp => ?_)
    · obtain ⟨x, hx⟩ : ∃ x, l[k]? = some x := ⟨_, List.getElem?_eq_getElem (by omega)⟩
      have hxb := hl x (List.mem_of_getElem? hx)
      have hsb := sumL_bd hB (l.take k)
      have hxe := eachP_bd hB x
      rw [List.length_take] at hsb
      refine At.nrm ?_
      refine At.ktext (.q 0 (.q 1 (.q 2 .done))) ?_
      refine AtT.kidx Try.underlying27 tk3 ?_
      intro p13 e13 he13 hc13
      obtain rfl : e13 = x := by have : l[k]? = some e13 := (by simpa using he13); rw [hx] at this; simpa using this.symm
      first | refine AtT.kloadO tk3 ?_ | refine AtT.kload tk3 ?_
      refine AtT.kassign ?_
      refine AtT.done ?_
      refine At.nrm ?_
      refine At.draw (.q 0 (.q 1 (.q 2 (.q 3 (.q 4 (.q 5 (.q 6 (.q 7 (.n false 8 (.n true 9 .done)))))))))) ffm (by kernel_rfl) ?_
      first | refine AtT.kloadOA tk72 ?_ | refine AtT.kloadA tk72 ?_ | refine AtT.kloadOP tk72 ?_
      refine AtT.kmove ?_
      refine AtT.knil ?_
      first | refine AtT.kfieldO fo97_1 ?_ | with_reducible refine AtT.kfield2 fo97_1 ?_ | refine AtT.kfield fo97_1 ?_
      first | refine AtT.kloadO tk83 ?_ | refine AtT.kload tk83 ?_
      refine AtT.kmove ?_
      refine AtT.kidx Try.underlying83 tk72 ?_
      intro p21 e21 he21 hc21
      obtain rfl : e21 = eachP B e13 := eachP_some he21
      first | refine AtT.kloadOA tk72 ?_ | refine AtT.kloadA tk72 ?_ | refine AtT.kloadOP tk72 ?_
      refine AtT.kcallP rfl rfl ok91 (and_f (sumL B (l.take k)) (eachP B e13) _ (Fit.of (by omega) (by omega)) (Fit.of (by omega) (by omega))) ?_
      rintro _ rfl
      refine AtT.kstoreA tk72 ?_
      refine AtT.done ?_
      refine At.nrm ?_
      refine At.ktext (.q 0 (.q 1 .done)) ?_
      first | refine AtT.kadd ?_ | refine AtT.kaddW ?_
      refine AtT.kmove ?_
      refine AtT.done ?_
      refine At.nrm ?_
      refine At.round (k + 1) ?_ ?_ ?_ ?_
      · show l.length - (k + 1) < l.length - k; omega
      · exact ⟨rfl, by omega⟩
      · exact ⟨rfl, rfl, rfl, rfl, rfl, ivs (by omega), trivial⟩
      rw [take_snoc' hx, sumL_snoc]
      · exact Pt.auto
    · obtain rfl : k = l.length := by omega
      rw [List.take_length]
      refine At.nrm ?_
      refine At.ktext (.q 0 (.n true 1 .done)) ?_
      first | refine AtT.kloadOA tk72 ?_ | refine AtT.kloadA tk72 ?_ | refine AtT.kloadOP tk72 ?_
      refine AtT.kstoreA tk72 ?_
      refine AtT.done ?_
      refine At.nrm ?_
      exact At.ret1 rfl (.agg rfl tk72 Pick.auto rfl) rfl

theorem span_f (B : Bn) (hB : BnOk B) (x y : Int) (hx : 0 ≤ x) (hy : y < (B.each.length : Int)) (V : View) (p : Addr) (h : BnV V p B) : Fnc Try.prog 76 [.pointer (some p), iv x, iv y] V fun r _ => r = smv (sumL B (fromTo x y)) := by
  obtain ⟨a, c, h1, h2⟩ := h
  have n10 := hB.n10
  have hlen := fromTo_len x y
  have c2 : Cells V (p.add 2) [.slice a B.each.length c] := h1.at (k := 2) fun j u hj => by
    match j, hj with
    | 0, hj => exact hj
  refine fn_of Try.func76 rfl Try.ntmps76 (Nat.le_of_ble_eq_true rfl) ?_
  intro w0 hw0
  refine At.nrm ?_
  refine At.ktext (.n false 0 .done) ?_
  refine AtT.kalloc z72 ?_
  intro b6
  refine AtT.done ?_
  refine At.nrm ?_
  refine At.ktext (.n false 0 .done) ?_
  refine AtT.kalloc z72 ?_
  intro b7
  refine AtT.done ?_
  refine At.nrm ?_
  refine At.ktext (.q 0 (.q 1 .done)) ?_
  refine AtT.kmove ?_
  refine AtT.kassign ?_
  refine AtT.done ?_
  refine At.nrm ?_
  refine At.lp (ι := Nat) (KS := fun k => [(0, .pointer (some p)), (2, iv y), (6, .pointer (some ⟨b6, 0, none⟩)), (7, .pointer (some ⟨b7, 0, none⟩)), (8, iv (x + (k : Int)))])
    (OS := fun k => [.blk b6 (LC [iv 0, iv 0] 72), .blk b7 (LC (sme (sumL B ((fromTo x y).take k))) 72)])
    (VS := fun k V' => V' = V ∧ k ≤ (y + 1 - x).toNat) (μ := fun k => (y + 1 - x).toNat - k) 0 ?_ ?_ ?_ ?_
  · exact ⟨rfl, rfl, rfl, rfl, ivs (by omega), trivial⟩
  · exact Pt.auto
  · exact ⟨rfl, Nat.zero_le _⟩
  · rintro k V' ks' O' ⟨rfl, hkl⟩ hk hO hl2
    subst hk hO
    refine At.nrm ?_
    refine At.ktext (.q 0 (.q 1 (.q 2 .done))) ?_
    refine AtT.kmove ?_
    refine AtT.kmove ?_
    refine AtT.kleq ?_
    refine AtT.done ?_
    refine At.nrm ?_
    refine At.condP rfl (fun hp => ?_) (fun hp => ?_)
    · have hkx := fromTo_at (a := x) (b := y) (k := k) (by omega)
      have hsb := sumL_bd hB ((fromTo x y).take k)
      have hxe := eachP_bd hB (x + (k : Int))
      rw [List.length_take] at hsb
      refine At.nrm ?_
      refine At.draw (.q 0 (.q 1 (.q 2 (.q 3 (.q 4 (.q 5 (.q 6 (.q 7 (.n false 8 (.n true 9 .done)))))))))) ffm (by kernel_rfl) ?_
      first | refine AtT.kloadOA tk72 ?_ | refine AtT.kloadA tk72 ?_ | refine AtT.kloadOP tk72 ?_
      refine AtT.kmove ?_
      refine AtT.knil ?_
      first | refine AtT.kfieldO fo97_1 ?_ | with_reducible refine AtT.kfield2 fo97_1 ?_ | refine AtT.kfield fo97_1 ?_
      first | refine AtT.kloadO tk83 ?_ | refine AtT.kload tk83 ?_
      refine AtT.kmove ?_
      refine AtT.kidx Try.underlying83 tk72 ?_
      intro p21 e21 he21 hc21
      obtain rfl : e21 = eachP B (x + (k : Int)) := eachP_some he21
      first | refine AtT.kloadOA tk72 ?_ | refine AtT.kloadA tk72 ?_ | refine AtT.kloadOP tk72 ?_
      refine AtT.kcallP rfl rfl ok91 (and_f (sumL B ((fromTo x y).take k)) (eachP B (x + (k : Int))) _ (Fit.of (by omega) (by omega)) (Fit.of (by omega) (by omega))) ?_
      rintro _ rfl
      refine AtT.kstoreA tk72 ?_
      refine AtT.done ?_
      refine At.nrm ?_
      refine At.ktext (.q 0 (.q 1 (.q 2 .done))) ?_
      refine AtT.kmove ?_
      first | refine AtT.kadd ?_ | refine AtT.kaddW ?_
      refine AtT.kassign ?_
      refine AtT.done ?_
      refine At.nrm ?_
      refine At.round (k + 1) ?_ ?_ ?_ ?_
      · show (y + 1 - x).toNat - (k + 1) < (y + 1 - x).toNat - k; omega
      · exact ⟨rfl, by omega⟩
      · exact ⟨rfl, rfl, rfl, rfl, ivs (by omega), trivial⟩
      rw [take_snoc' hkx, sumL_snoc]
      · exact Pt.auto
    · have hkk : (fromTo x y).length ≤ k := by omega
      rw [List.take_of_length_le hkk]
      refine At.nrm ?_
      refine At.ktext (.q 0 (.n true 1 .done)) ?_
      first | refine AtT.kloadOA tk72 ?_ | refine AtT.kloadA tk72 ?_ | refine AtT.kloadOP tk72 ?_
      refine AtT.kstoreA tk72 ?_
      refine AtT.done ?_
      refine At.nrm ?_
      exact At.ret1 rfl (.agg rfl tk72 Pick.auto rfl) rfl
theorem share_f (B : Bn) (hB : BnOk B) (i k : Int) (hi : 0 ≤ i ∧ i < (B.each.length : Int)) (hk : 0 ≤ k ∧ k < (B.each.length : Int)) (V : View) (p : Addr) (h : BnV V p B) : Fnc Try.prog 87 [.pointer (some p), iv i, iv k] V fun r _ => r = .bool (decide (fitE B (sumL B [i, k]) = 0)) := by
  refine fn_of Try.func87 rfl Try.ntmps87 (Nat.le_of_ble_eq_true rfl) ?_
  intro w0 hw0
  refine At.nrm ?_
  refine At.ktext (.q 0 .done) ?_
  refine AtT.kassign ?_
  refine AtT.done ?_
  refine At.nrm ?_
  refine At.ktext (.q 0 (.q 1 (.q 2 (.q 3 (.n false 4 (.n false 5 (.n false 6 (.q 7 (.q 8 .done))))))))) ?_
  refine AtT.kmove ?_
  refine AtT.kmove ?_
  refine AtT.kmove ?_
  refine AtT.kmove ?_
  refine AtT.kbsliceG (bs27_2_0_1 _ _) ?_
  intro q11 V11 hV11 hq11
  have g11 : Le V V11 := by first | exact hV11 | exact Le.trans (by assumption) hV11
  refine AtT.kcallP rfl rfl ok58 (sum_f B hB [i, k] (fun j hj => by simp at hj; rcases hj with rfl | rfl <;> assumption) (by simp) _ _ (h.le (by assumption)) _ (Sl.lit hq11 rfl (by simp))) ?_
  rintro _ rfl
  refine AtT.kcallP rfl rfl ok59 (fits_f B hB _ _ _ (h.le (by assumption))) ?_
  rintro _ rfl
  refine AtT.keqI ?_
  refine AtT.kassign ?_
  refine AtT.done ?_
  refine At.nrm ?_
  exact At.ret1 rfl (.tmp rfl) rfl
end Go.Proofs.Ytmnbkceiaifncaa
set_option linter.unusedVariables false
namespace Go.Proofs.Ytmnbkceiaifncaa
open Go.Lw Go.Gl Go.RowKit

theorem open_bad {d : Dy} {ps : List Pn} {sure : Bool} {V : View} {v : Value} (hs : Sl V pne 3 v ps) (he : bothE d ps ≠ 0) : Fnc Try.prog 80 [dyv d, v, .bool sure] V fun r V' => r = .tuple #[.pointer none, iv (bothE d ps)] :=
  (open_f d ps sure V v hs).mono fun r V' _ h => by
    rcases h with ⟨_, h⟩ | ⟨h, _⟩
    · exact h
    · exact absurd h he
theorem open_ok {d : Dy} {ps : List Pn} {sure : Bool} {V : View} {v : Value} (hs : Sl V pne 3 v ps) (he : bothE d ps = 0) : Fnc Try.prog 80 [dyv d, v, .bool sure] V fun r V' => ∃ p, r = .tuple #[.pointer (some p), iv 0] ∧ BnV V' p (bn d ps sure) :=
  (open_f d ps sure V v hs).mono fun r V' _ h => by
    rcases h with ⟨h, _⟩ | ⟨_, h⟩
    · exact absurd he h
    · exact h
theorem listed_f (d : Dy) (ps : List Pn) (sure : Bool) (l : List Int) (V : View) (v vl : Value) (hs : Sl V pne 3 v ps) (hl : SlI V vl l) : Fnc Try.prog 57 [dyv d, v, .bool sure, vl] V fun r V' =>
    (bothE d ps ≠ 0 ∧ r = .tuple #[.pointer none, iv (bothE d ps)]) ∨ (bothE d ps = 0 ∧ lstB l ps.length = false ∧ r = .tuple #[.pointer none, iv 2]) ∨
    (bothE d ps = 0 ∧ lstB l ps.length = true ∧ ∃ p, r = .tuple #[.pointer (some p), iv 0] ∧ BnV V' p (bn d ps sure)) := by
  obtain ⟨a, c, rfl, k1, k2, _⟩ := id hs
  obtain ⟨al, cl, rfl, k3, k4, _⟩ := id hl
  have hlen := hl.lenLe
  clear k1 k2 k3 k4
  refine fn_of Try.func57 rfl Try.ntmps57 (Nat.le_of_ble_eq_true rfl) ?_
  intro w0 hw0
  refine At.nrm ?_
  refine At.ktext (.n false 0 (.q 1 (.q 2 .done))) ?_
  refine AtT.kbox ?_
  intro b4
  refine AtT.kassign ?_
  refine AtT.kassign ?_
  refine AtT.done ?_
  refine At.nrm ?_
  by_cases he : bothE d ps = 0
  rotate_left
  · refine At.ktext (.q 0 (.q 1 (.q 2 (.n false 3 (.q 4 (.q 5 (.q 6 (.q 7 (.q 8 .done))))))))) ?_
    first | refine AtT.kloadOA tk25 ?_ | refine AtT.kloadA tk25 ?_ | refine AtT.kloadOP tk25 ?_
    refine AtT.kmove ?_
    refine AtT.kmove ?_
    refine AtT.kcallP rfl rfl ok80 (open_bad hs he) ?_
    rintro _ rfl
    refine AtT.kmove ?_
    refine AtT.kextract ?_
    refine AtT.kextract ?_
    refine AtT.kassign ?_
    refine AtT.kassign ?_
    refine AtT.done ?_
    refine At.nrm ?_
    refine At.ktext (.q 0 (.q 1 .done)) ?_
    refine AtT.kmove ?_
    refine AtT.kneI ?_
    refine AtT.done ?_
    refine At.nrm ?_
    refine At.condT rfl (decide_eq_true he) ?_
    refine At.nrm ?_
    refine At.ktext (.q 0 (.q 1 (.q 2 .done))) ?_
    refine AtT.kmove ?_
    refine AtT.kassign ?_
    refine AtT.kassign ?_
    refine AtT.done ?_
    refine At.nrm ?_
    exact At.ret2 rfl (.tmp rfl) (.tmp rfl) (.inl ⟨he, rfl⟩)
  refine At.ktext (.q 0 (.q 1 (.q 2 (.n false 3 (.q 4 (.q 5 (.q 6 (.q 7 (.q 8 .done))))))))) ?_
  first | refine AtT.kloadOA tk25 ?_ | refine AtT.kloadA tk25 ?_ | refine AtT.kloadOP tk25 ?_
  refine AtT.kmove ?_
  refine AtT.kmove ?_
  refine AtT.kcall rfl rfl ok80 (open_ok hs he) ?_
  rintro _ V1 hV1 ⟨p, rfl, hpb⟩
  refine AtT.kmove ?_
  refine AtT.kextract ?_
  refine AtT.kextract ?_
  refine AtT.kassign ?_
  refine AtT.kassign ?_
  refine AtT.done ?_
  refine At.nrm ?_
  have hn10 := (bothE_ok he).n10
  have hl1 := hl.le hV1
  refine At.ktext (.q 0 (.q 1 .done)) ?_
  refine AtT.kmove ?_
  refine AtT.kneI ?_
  refine AtT.done ?_
  refine At.nrm ?_
  refine At.condF rfl rfl ?_
  refine At.nrm ?_
  refine At.ktext (.q 0 .done) ?_
  refine AtT.kassign ?_
  refine AtT.done ?_
  refine At.nrm ?_
  refine At.ktext (.q 0 (.q 1 (.q 2 .done))) ?_
  refine AtT.kmove ?_
  first | refine AtT.klenS Try.underlying27 ?_ | refine AtT.klenR Try.underlying27 ?_
  refine AtT.kmove ?_
  refine AtT.done ?_
  refine At.nrm ?_
  refine At.lp (ι := Nat) (KS := fun k => [(1, .slice a ps.length c), (10, .pointer (some p)), (12, iv (prevN l k)), (25, .slice al l.length cl), (26, iv l.length), (27, iv k)]) (OS := fun _ => [])
    (VS := fun k V' => V' = V1 ∧ k ≤ l.length ∧ ∀ j, j < k → okAt l ps.length j = true) (μ := fun k => l.length - k) 0 ?_ ?_ ?_ ?_
  · exact ⟨rfl, rfl, rfl, rfl, rfl, rfl, trivial⟩
  · exact Pt.auto
  · exact ⟨rfl, Nat.zero_le _, fun j hj => absurd hj (Nat.not_lt_zero j)⟩
  · rintro k V' ks' O' ⟨rfl, hkl, hok⟩ hk hO hl2
    subst hk hO
    have hp0 := prevN_pos hok
    refine At.nrm ?_
    refine At.ktext (.q 0 .done) ?_
    refine AtT.klss ?_
    refine AtT.done ?_
    refine At.nrm ?_
    refine At.condP rfl (fun hp => ?_) (fun hp => ?_)
    · obtain ⟨x, hx⟩ : ∃ x, l[k]? = some x := ⟨_, List.getElem?_eq_getElem (by omega)⟩
      have hgx : l.getD k 0 = x := by simp [List.getD, hx]
      refine At.nrm ?_
      refine At.ktext (.q 0 (.q 1 (.q 2 .done))) ?_
      refine AtT.kidx Try.underlying27 tk3 ?_
      intro p29 e29 he29 hc29
      obtain rfl : e29 = x := by have : l[k]? = some e29 := (by simpa using he29); rw [hx] at this; simpa using this.symm
      first | refine AtT.kloadO tk3 ?_ | refine AtT.kload tk3 ?_
      refine AtT.kassign ?_
      refine AtT.done ?_
      refine At.nrm ?_
      by_cases c1 : e29 < prevN l k
      · refine At.ktext (.q 0 (.q 1 (.q 2 (.q 3 (.q 4 (.q 5 (.q 6 (.q 7 (.q 8 .done))))))))) ?_
        refine AtT.kmove ?_
        refine AtT.kmove ?_
        refine AtT.klss ?_
        refine AtT.setT (d := 33) rfl (c1) ?_
        refine AtT.kmove ?_
        all_goals (first | refine AtT.kL 34 ?_ | refine AtT.pcase (d := 34) rfl (fun hg34 => ?_) (fun hg34 => ?_) | refine AtT.bcase (d := 34) rfl (fun hg34 => ?_) (fun hg34 => ?_))
        all_goals (first | refine AtT.kpass ?_ | refine AtT.kpassU ?_ | ((refine AtT.kmove ?_)))
        all_goals (first | refine AtT.kpass ?_ | refine AtT.kpassU ?_ | ((refine AtT.kmove ?_)))
        all_goals (first | refine AtT.kpass ?_ | refine AtT.kpassU ?_ | ((first | refine AtT.klenS Try.underlying26 ?_ | refine AtT.klenR Try.underlying26 ?_)))
        all_goals (first | refine AtT.kpass ?_ | refine AtT.kpassU ?_ | ((refine AtT.kgeq ?_)))
        all_goals (refine AtT.kpick ?_)
        all_goals refine AtT.done ?_
        all_goals (refine At.nrm ?_)
        refine At.condT rfl rfl ?_
        refine At.nrm ?_
        refine At.ktext (.q 0 (.q 1 .done)) ?_
        refine AtT.kassign ?_
        refine AtT.kassign ?_
        refine AtT.done ?_
        refine At.nrm ?_
        refine At.ret2 rfl (.tmp rfl) (.tmp rfl) (.inr (.inl ⟨he, lstB_false (k := k) (by omega) (by simp only [okAt, hgx]; exact decide_eq_false (by omega)), rfl⟩))
      by_cases c2 : (ps.length : Int) ≤ e29
      · refine At.ktext (.q 0 (.q 1 (.q 2 (.q 3 (.q 4 (.q 5 (.q 6 (.q 7 (.q 8 .done))))))))) ?_
        refine AtT.kmove ?_
        refine AtT.kmove ?_
        refine AtT.klss ?_
        refine AtT.setF (d := 33) rfl (c1) ?_
        refine AtT.kmove ?_
        all_goals (first | refine AtT.kL 34 ?_ | refine AtT.pcase (d := 34) rfl (fun hg34 => ?_) (fun hg34 => ?_) | refine AtT.bcase (d := 34) rfl (fun hg34 => ?_) (fun hg34 => ?_))
        all_goals (first | refine AtT.kpass ?_ | refine AtT.kpassU ?_ | ((refine AtT.kmove ?_)))
        all_goals (first | refine AtT.kpass ?_ | refine AtT.kpassU ?_ | ((refine AtT.kmove ?_)))
        all_goals (first | refine AtT.kpass ?_ | refine AtT.kpassU ?_ | ((first | refine AtT.klenS Try.underlying26 ?_ | refine AtT.klenR Try.underlying26 ?_)))
        all_goals (first | refine AtT.kpass ?_ | refine AtT.kpassU ?_ | ((refine AtT.kgeq ?_)))
        all_goals (refine AtT.setT (d := 38) rfl (c2) ?_)
        all_goals (refine AtT.kpick ?_)
        all_goals refine AtT.done ?_
        all_goals (refine At.nrm ?_)
        refine At.condT rfl rfl ?_
        refine At.nrm ?_
        refine At.ktext (.q 0 (.q 1 .done)) ?_
        refine AtT.kassign ?_
        refine AtT.kassign ?_
        refine AtT.done ?_
        refine At.nrm ?_
        refine At.ret2 rfl (.tmp rfl) (.tmp rfl) (.inr (.inl ⟨he, lstB_false (k := k) (by omega) (by simp only [okAt, hgx]; exact decide_eq_false (by omega)), rfl⟩))
      refine At.ktext (.q 0 (.q 1 (.q 2 (.q 3 (.q 4 (.q 5 (.q 6 (.q 7 (.q 8 .done))))))))) ?_
      refine AtT.kmove ?_
      refine AtT.kmove ?_
      refine AtT.klss ?_
      refine AtT.setF (d := 33) rfl (c1) ?_
      refine AtT.kmove ?_
      all_goals (first | refine AtT.kL 34 ?_ | refine AtT.pcase (d := 34) rfl (fun hg34 => ?_) (fun hg34 => ?_) | refine AtT.bcase (d := 34) rfl (fun hg34 => ?_) (fun hg34 => ?_))
      all_goals (first | refine AtT.kpass ?_ | refine AtT.kpassU ?_ | ((refine AtT.kmove ?_)))
      all_goals (first | refine AtT.kpass ?_ | refine AtT.kpassU ?_ | ((refine AtT.kmove ?_)))
      all_goals (first | refine AtT.kpass ?_ | refine AtT.kpassU ?_ | ((first | refine AtT.klenS Try.underlying26 ?_ | refine AtT.klenR Try.underlying26 ?_)))
      all_goals (first | refine AtT.kpass ?_ | refine AtT.kpassU ?_ | ((refine AtT.kgeq ?_)))
      all_goals (refine AtT.setF (d := 38) rfl (c2) ?_)
      all_goals (refine AtT.kpick ?_)
      all_goals refine AtT.done ?_
      all_goals (refine At.nrm ?_)
      refine At.condF rfl rfl ?_
      refine At.nrm ?_
      refine At.ktext (.q 0 (.q 1 (.q 2 .done))) ?_
      refine AtT.kmove ?_
      first | refine AtT.kadd ?_ | refine AtT.kaddW ?_
      refine AtT.kassign ?_
      refine AtT.done ?_
      refine At.nrm ?_
      refine At.ktext (.q 0 (.q 1 .done)) ?_
      first | refine AtT.kadd ?_ | refine AtT.kaddW ?_
      refine AtT.kmove ?_
      refine AtT.done ?_
      refine At.nrm ?_
      refine At.round (k + 1) ?_ ?_ ?_ ?_
      · show l.length - (k + 1) < l.length - k; omega
      · refine ⟨rfl, by omega, fun j hj => ?_⟩
        by_cases hjk : j = k
        · subst hjk; simp only [okAt, hgx]; exact decide_eq_true (by omega)
        · exact hok j (by omega)
      · exact ⟨rfl, rfl, ivs (by simp only [prevN, hgx]), rfl, rfl, ivs (by omega), trivial⟩
      · exact Pt.auto
    · obtain rfl : k = l.length := by omega
      refine At.nrm ?_
      refine At.ktext (.q 0 (.q 1 (.q 2 .done))) ?_
      refine AtT.kmove ?_
      refine AtT.kassign ?_
      refine AtT.kassign ?_
      refine AtT.done ?_
      refine At.nrm ?_
      exact At.ret2 rfl (.tmp rfl) (.tmp rfl) (.inr (.inr ⟨he, lstB_true hok, p, rfl, by assumption⟩))
end Go.Proofs.Ytmnbkceiaifncaa
set_option linter.unusedVariables false
namespace Go.Proofs.Ytmnbkceiaifncaa
open Go.Lw Go.Gl Go.RowKit

theorem each_bn {d : Dy} {ps : List Pn} {sure : Bool} {i : Int} {q : Pn} (h : ps[i.toNat]? = some q) : eachP (bn d ps sure) i = smOf sure q := by
  simp [eachP, bn, List.getD, h]
theorem sums_f (d : Dy) (ps : List Pn) (hk : Ok d ps) (sure : Bool) (l : List Int) (hl : InB (bn d ps sure) l) (hlen : l.length ≤ 100) (V : View) (v vl : Value) (hs : Sl V pne 3 v ps) (hv : SlI V vl l) :
    Fnc Try.prog 63 [v, .bool sure, vl] V fun r _ => r = .tuple #[iv (sumL (bn d ps sure) l).t, iv (sumL (bn d ps sure) l).g] := by
  have hB := bn_ok hk sure
  have hn10 := hk.n10
  have hbl := bn_len d ps sure
  obtain ⟨a, c, rfl, k1, k2, _⟩ := id hs
  obtain ⟨al, cl, rfl, k3, k4, _⟩ := id hv
  clear k1 k2 k3 k4
  refine fn_of Try.func63 rfl Try.ntmps63 (Nat.le_of_ble_eq_true rfl) ?_
  intro w0 hw0
  refine At.nrm ?_
  refine At.ktext (.q 0 (.q 1 .done)) ?_
  refine AtT.kassign ?_
  refine AtT.kassign ?_
  refine AtT.done ?_
  refine At.nrm ?_
  refine At.ktext (.q 0 (.q 1 .done)) ?_
  refine AtT.kassign ?_
  refine AtT.kassign ?_
  refine AtT.done ?_
  refine At.nrm ?_
  refine At.ktext (.q 0 .done) ?_
  refine AtT.kassign ?_
  refine AtT.done ?_
  refine At.nrm ?_
  refine At.lp (ι := Nat) (KS := fun k => [(0, .slice a ps.length c), (1, .bool sure), (2, .slice al l.length cl), (8, iv (sumL (bn d ps sure) (l.take k)).t), (9, iv (sumL (bn d ps sure) (l.take k)).g), (10, iv k)]) (OS := fun _ => [])
    (VS := fun k V' => V' = V ∧ k ≤ l.length) (μ := fun k => l.length - k) 0 ?_ ?_ ?_ ?_
  · exact ⟨rfl, rfl, rfl, rfl, rfl, rfl, trivial⟩
  · exact Pt.auto
  · exact ⟨rfl, Nat.zero_le _⟩
  · rintro k V' ks' O' ⟨rfl, hkl⟩ hk2 hO hl2
    subst hk2 hO
    refine At.nrm ?_
    refine At.ktext (.q 0 (.q 1 (.q 2 (.q 3 .done)))) ?_
    refine AtT.kmove ?_
    refine AtT.kmove ?_
    first | refine AtT.klenS Try.underlying27 ?_ | refine AtT.klenR Try.underlying27 ?_
    refine AtT.klss ?_
    refine AtT.done ?_
    refine At.nrm ?_
    refine At.condP rfl (fun hp => ?_) (fun hp => ?_)
    · obtain ⟨x, hx⟩ : ∃ x, l[k]? = some x := ⟨_, List.getElem?_eq_getElem (by omega)⟩
      have hxb := hl x (List.mem_of_getElem? hx)
      have hsb := sumL_bd hB (l.take k)
      have hxe := eachP_bd hB x
      obtain ⟨q, hq⟩ : ∃ q, ps[x.toNat]? = some q := ⟨_, List.getElem?_eq_getElem (by omega)⟩
      rw [each_bn hq] at hxe
      have hx1 : 0 ≤ timeOf q sure ∧ timeOf q sure ≤ 240 := ⟨hxe.1, hxe.2.1⟩
      have hx2 : 0 ≤ q.sp ∧ q.sp ≤ 200 := ⟨hxe.2.2.1, hxe.2.2.2⟩
      rw [List.length_take] at hsb
      have hnx : sumL (bn d ps sure) (l.take (k + 1)) = (sumL (bn d ps sure) (l.take k)).and (smOf sure q) := by rw [take_snoc' hx, sumL_snoc, each_bn hq]
      refine At.nrm ?_
      refine At.ktext (.q 0 (.q 1 (.q 2 (.q 3 (.q 4 (.q 5 (.q 6 (.q 7 (.q 8 (.n false 9 (.q 10 (.q 11 .done)))))))))))) ?_
      refine AtT.kmove ?_
      refine AtT.kmove ?_
      refine AtT.kmove ?_
      refine AtT.kmove ?_
      refine AtT.kidx Try.underlying27 tk3 ?_
      intro p21 e21 he21 hc21
      obtain rfl : e21 = x := by have : l[k]? = some e21 := (by simpa using he21); rw [hx] at this; simpa using this.symm
      first | refine AtT.kloadO tk3 ?_ | refine AtT.kload tk3 ?_
      refine AtT.kidx Try.underlying26 tk60 ?_
      intro p23 e23 he23 hc23
      obtain rfl : e23 = q := by rw [hq] at he23; simpa using he23.symm
      first | refine AtT.kloadOA tk60 ?_ | refine AtT.kloadA tk60 ?_ | refine AtT.kloadOP tk60 ?_
      refine AtT.kmove ?_
      refine AtT.kcallP rfl rfl ok92 (timeOf_f e23 sure _) ?_
      rintro _ rfl
      first | refine AtT.kadd ?_ | refine AtT.kaddW ?_
      refine AtT.kassign ?_
      refine AtT.done ?_
      refine At.nrm ?_
      refine At.ktext (.q 0 (.q 1 (.q 2 (.q 3 (.q 4 (.q 5 (.q 6 (.q 7 (.q 8 (.q 9 (.q 10 .done))))))))))) ?_
      refine AtT.kmove ?_
      refine AtT.kmove ?_
      refine AtT.kmove ?_
      refine AtT.kmove ?_
      refine AtT.kidx Try.underlying27 tk3 ?_
      intro p32 e32 he32 hc32
      obtain rfl : e32 = e21 := by have : l[k]? = some e32 := (by simpa using he32); rw [hx] at this; simpa using this.symm
      first | refine AtT.kloadO tk3 ?_ | refine AtT.kload tk3 ?_
      refine AtT.kidx Try.underlying26 tk60 ?_
      intro p34 e34 he34 hc34
      obtain rfl : e34 = e23 := by rw [hq] at he34; simpa using he34.symm
      first | refine AtT.kfieldO fo60_1 ?_ | with_reducible refine AtT.kfield2 fo60_1 ?_ | refine AtT.kfield fo60_1 ?_
      first | refine AtT.kloadO tk2 ?_ | refine AtT.kload tk2 ?_
      first | refine AtT.kadd ?_ | refine AtT.kaddW ?_
      refine AtT.kassign ?_
      refine AtT.done ?_
      refine At.nrm ?_
      refine At.ktext (.q 0 (.q 1 (.q 2 .done))) ?_
      refine AtT.kmove ?_
      first | refine AtT.kadd ?_ | refine AtT.kaddW ?_
      refine AtT.kassign ?_
      refine AtT.done ?_
      refine At.nrm ?_
      refine At.round (k + 1) ?_ ?_ ?_ ?_
      · show l.length - (k + 1) < l.length - k; omega
      · exact ⟨rfl, by omega⟩
      · exact ⟨rfl, rfl, rfl, ivs (by rw [hnx]; rfl), ivs (by rw [hnx]; rfl), ivs (by omega), trivial⟩
      · exact Pt.auto
    · obtain rfl : k = l.length := by omega
      rw [List.take_length]
      refine At.nrm ?_
      refine At.ktext (.q 0 (.q 1 (.q 2 (.q 3 .done)))) ?_
      refine AtT.kmove ?_
      refine AtT.kmove ?_
      refine AtT.kassign ?_
      refine AtT.kassign ?_
      refine AtT.done ?_
      refine At.nrm ?_
      exact At.ret2 rfl (.tmp rfl) (.tmp rfl) rfl

theorem fitE_bn (d : Dy) (ps : List Pn) (sure : Bool) (s : Sm) : fitE (bn d ps sure) s = if worksOf d sure < s.t then 22 else if d.pot < s.g then 10 else 0 := rfl
theorem batErr_f (d : Dy) (ps : List Pn) (hk : Ok d ps) (sure : Bool) (l : List Int) (hl : InB (bn d ps sure) l) (hlen : l.length ≤ 100) (V : View) (v vl : Value) (hs : Sl V pne 3 v ps) (hv : SlI V vl l) :
    Fnc Try.prog 62 [dyv d, v, .bool sure, vl] V fun r _ => r = iv (fitE (bn d ps sure) (sumL (bn d ps sure) l)) := by
  refine fn_of Try.func62 rfl Try.ntmps62 (Nat.le_of_ble_eq_true rfl) ?_
  intro w0 hw0
  refine At.nrm ?_
  refine At.ktext (.n false 0 (.q 1 .done)) ?_
  refine AtT.kbox ?_
  intro b4
  refine AtT.kassign ?_
  refine AtT.done ?_
  refine At.nrm ?_
  refine At.ktext (.q 0 (.q 1 (.q 2 (.n false 3 (.q 4 (.q 5 (.q 6 (.q 7 (.q 8 .done))))))))) ?_
  refine AtT.kmove ?_
  refine AtT.kmove ?_
  refine AtT.kmove ?_
  refine AtT.kcallP rfl rfl ok63 (sums_f d ps hk sure l hl hlen _ _ _ hs hv) ?_
  rintro _ rfl
  refine AtT.kmove ?_
  refine AtT.kextract ?_
  refine AtT.kextract ?_
  refine AtT.kassign ?_
  refine AtT.kassign ?_
  refine AtT.done ?_
  refine At.nrm ?_
  refine At.ktext (.q 0 (.q 1 (.q 2 (.n false 3 (.q 4 .done))))) ?_
  refine AtT.kmove ?_
  first | refine AtT.kloadOA tk25 ?_ | refine AtT.kloadA tk25 ?_ | refine AtT.kloadOP tk25 ?_
  refine AtT.kmove ?_
  refine AtT.kcallP rfl rfl ok82 (worksOf_f d sure _) ?_
  rintro _ rfl
  refine AtT.kgtr ?_
  refine AtT.done ?_
  refine At.nrm ?_
  refine At.condP rfl (fun hb => ?_) (fun hb => ?_)
  · refine At.nrm ?_
    refine At.ktext (.q 0 .done) ?_
    refine AtT.kassign ?_
    refine AtT.done ?_
    refine At.nrm ?_
    refine At.ret1 rfl (.tmp rfl) ?_
    rw [fitE_bn, if_pos hb]
  refine At.nrm ?_
  refine At.ktext (.q 0 (.q 1 (.q 2 (.q 3 .done)))) ?_
  refine AtT.kmove ?_
  first | refine AtT.kfieldO fo25_1 ?_ | with_reducible refine AtT.kfield2 fo25_1 ?_ | refine AtT.kfield fo25_1 ?_
  first | refine AtT.kloadO tk2 ?_ | refine AtT.kload tk2 ?_
  refine AtT.kgtr ?_
  refine AtT.done ?_
  refine At.nrm ?_
  refine At.condP rfl (fun hc => ?_) (fun hc => ?_)
  · refine At.nrm ?_
    refine At.ktext (.q 0 .done) ?_
    refine AtT.kassign ?_
    refine AtT.done ?_
    refine At.nrm ?_
    refine At.ret1 rfl (.tmp rfl) ?_
    rw [fitE_bn, if_neg hb, if_pos hc]
  refine At.nrm ?_
  refine At.ktext (.q 0 .done) ?_
  refine AtT.kassign ?_
  refine AtT.done ?_
  refine At.nrm ?_
  refine At.ret1 rfl (.tmp rfl) ?_
  rw [fitE_bn, if_neg hb, if_neg hc]
end Go.Proofs.Ytmnbkceiaifncaa
set_option linter.unusedVariables false
namespace Go.Proofs.Ytmnbkceiaifncaa
open Go.Lw Go.Gl Go.RowKit

theorem isList_f (l : List Int) (n : Int) (V : View) (vl : Value) (hv : SlI V vl l) : Fnc Try.prog 61 [vl, iv n] V fun r _ => r = .bool (lstB l n) := by
  have hlen := hv.lenLe
  obtain ⟨al, cl, rfl, k3, k4, _⟩ := id hv
  clear k3 k4
  refine fn_of Try.func61 rfl Try.ntmps61 (Nat.le_of_ble_eq_true rfl) ?_
  intro w0 hw0
  refine At.nrm ?_
  refine At.ktext (.q 0 .done) ?_
  refine AtT.kassign ?_
  refine AtT.done ?_
  refine At.nrm ?_
  refine At.ktext (.q 0 .done) ?_
  refine AtT.kassign ?_
  refine AtT.done ?_
  refine At.nrm ?_
  refine At.lp (ι := Nat) (KS := fun k => [(0, .slice al l.length cl), (1, iv n), (5, iv k)]) (OS := fun _ => [])
    (VS := fun k V' => V' = V ∧ k ≤ l.length ∧ ∀ j, j < k → okAt l n j = true) (μ := fun k => l.length - k) 0 ?_ ?_ ?_ ?_
  · exact ⟨rfl, rfl, rfl, trivial⟩
  · exact Pt.auto
  · exact ⟨rfl, Nat.zero_le _, fun j hj => absurd hj (Nat.not_lt_zero j)⟩
  · rintro k V' ks' O' ⟨rfl, hkl, hok⟩ hk hO hl2
    subst hk hO
    have hp0 := prevN_pos hok
    refine At.nrm ?_
    refine At.ktext (.q 0 (.q 1 (.q 2 (.q 3 .done)))) ?_
    refine AtT.kmove ?_
    refine AtT.kmove ?_
    first | refine AtT.klenS Try.underlying27 ?_ | refine AtT.klenR Try.underlying27 ?_
    refine AtT.klss ?_
    refine AtT.done ?_
    refine At.nrm ?_
    refine At.condP rfl (fun hp => ?_) (fun hp => ?_)
    · obtain ⟨x, hx⟩ : ∃ x, l[k]? = some x := ⟨_, List.getElem?_eq_getElem (by omega)⟩
      have hgx : l.getD k 0 = x := by simp [List.getD, hx]
      have hbad : ¬ (0 ≤ x ∧ prevN l k ≤ x ∧ x < n) → lstB l n = false := fun h => lstB_false (k := k) (by omega) (by simp only [okAt, hgx]; exact decide_eq_false h)
      refine At.nrm ?_
      by_cases c1 : x < 0
      · refine At.draw (.q 0 (.q 1 (.q 2 (.q 3 (.q 4 (.q 5 (.q 6 (.q 7 (.q 8 (.q 9 (.q 10 (.q 11 (.q 12 (.q 13 (.q 14 (.q 15 (.q 16 (.q 17 (.q 18 (.q 19 (.q 20 (.q 21 (.q 22 (.q 23 (.q 24 (.q 25 (.q 26 (.q 27 (.q 28 .done))))))))))))))))))))))))))))) ffm (by kernel_rfl) ?_
        refine AtT.kmove ?_
        refine AtT.kmove ?_
        refine AtT.kidx Try.underlying27 tk3 ?_
        intro p14 e14 he14 hc14
        obtain rfl : e14 = x := by have : l[k]? = some e14 := (by simpa using he14); rw [hx] at this; simpa using this.symm
        first | refine AtT.kloadO tk3 ?_ | refine AtT.kload tk3 ?_
        refine AtT.klss ?_
        refine AtT.setT (d := 16) rfl (c1) ?_
        refine AtT.kmove ?_
        all_goals (first | refine AtT.kL 17 ?_ | refine AtT.pcase (d := 17) rfl (fun hg17 => ?_) (fun hg17 => ?_) | refine AtT.bcase (d := 17) rfl (fun hg17 => ?_) (fun hg17 => ?_))
        all_goals (first | refine AtT.kpass ?_ | refine AtT.kpassU ?_ | ((refine AtT.kmove ?_)))
        all_goals (first | refine AtT.kpass ?_ | refine AtT.kpassU ?_ | ((refine AtT.kmove ?_)))
        all_goals (first | refine AtT.kpass ?_ | refine AtT.kpassU ?_ | ((refine AtT.kidx Try.underlying27 tk3 ?_) ; (intro p20 e20 he20 hc20)))
        all_goals (first | refine AtT.kpass ?_ | refine AtT.kpassU ?_ | ((first | refine AtT.kloadO tk3 ?_ | refine AtT.kload tk3 ?_)))
        all_goals (first | refine AtT.kpass ?_ | refine AtT.kpassU ?_ | ((refine AtT.kmove ?_)))
        all_goals (first | refine AtT.kpass ?_ | refine AtT.kpassU ?_ | ((refine AtT.kgeq ?_)))
        all_goals (refine AtT.kpick ?_)
        all_goals (refine AtT.kmove ?_)
        all_goals (first | refine AtT.kL 25 ?_ | refine AtT.pcase (d := 25) rfl (fun hg25 => ?_) (fun hg25 => ?_) | refine AtT.bcase (d := 25) rfl (fun hg25 => ?_) (fun hg25 => ?_))
        all_goals (first | refine AtT.kpass ?_ | refine AtT.kpassU ?_ | ((refine AtT.kmove ?_)))
        all_goals (first | refine AtT.kpass ?_ | refine AtT.kpassU ?_ | ((refine AtT.kgtr ?_)))
        all_goals (first | refine AtT.kpass ?_ | refine AtT.kpassU ?_ | ((refine AtT.kmove ?_)))
        all_goals (first | refine AtT.kL 28 ?_ | refine AtT.pcase (d := 28) rfl (fun hg28 => ?_) (fun hg28 => ?_) | refine AtT.bcase (d := 28) rfl (fun hg28 => ?_) (fun hg28 => ?_))
        all_goals (first | refine AtT.kpass ?_ | refine AtT.kpassU ?_ | ((refine AtT.kmove ?_)))
        all_goals (first | refine AtT.kpass ?_ | refine AtT.kpassU ?_ | ((refine AtT.kmove ?_)))
        all_goals (first | refine AtT.kpass ?_ | refine AtT.kpassU ?_ | ((refine AtT.kidx Try.underlying27 tk3 ?_) ; (intro p31 e31 he31 hc31)))
        all_goals (first | refine AtT.kpass ?_ | refine AtT.kpassU ?_ | ((first | refine AtT.kloadO tk3 ?_ | refine AtT.kload tk3 ?_)))
        all_goals (first | refine AtT.kpass ?_ | refine AtT.kpassU ?_ | ((refine AtT.kmove ?_)))
        all_goals (first | refine AtT.kpass ?_ | refine AtT.kpassU ?_ | ((refine AtT.kmove ?_)))
        all_goals (first | refine AtT.kpass ?_ | refine AtT.kpassU ?_ | ((first | refine AtT.ksubt ?_ | refine AtT.ksubW ?_)))
        all_goals (first | refine AtT.kpass ?_ | refine AtT.kpassU ?_ | ((refine AtT.kidx Try.underlying27 tk3 ?_) ; (intro p36 e36 he36 hc36)))
        all_goals (first | refine AtT.kpass ?_ | refine AtT.kpassU ?_ | ((first | refine AtT.kloadO tk3 ?_ | refine AtT.kload tk3 ?_)))
        all_goals (first | refine AtT.kpass ?_ | refine AtT.kpassU ?_ | ((refine AtT.kleq ?_)))
        all_goals (first | refine AtT.kpass ?_ | refine AtT.kpassU ?_ | ((refine AtT.kpick ?_)))
        all_goals (refine AtT.kpick ?_)
        all_goals refine AtT.done ?_
        all_goals (refine At.nrm ?_)
        refine At.condT rfl rfl ?_
        refine At.nrm ?_
        refine At.ktext (.q 0 .done) ?_
        refine AtT.kassign ?_
        refine AtT.done ?_
        refine At.nrm ?_
        exact At.ret1 rfl (.tmp rfl) (by rw [hbad (by omega)])
      by_cases c2 : n ≤ x
      · refine At.draw (.q 0 (.q 1 (.q 2 (.q 3 (.q 4 (.q 5 (.q 6 (.q 7 (.q 8 (.q 9 (.q 10 (.q 11 (.q 12 (.q 13 (.q 14 (.q 15 (.q 16 (.q 17 (.q 18 (.q 19 (.q 20 (.q 21 (.q 22 (.q 23 (.q 24 (.q 25 (.q 26 (.q 27 (.q 28 .done))))))))))))))))))))))))))))) ffm (by kernel_rfl) ?_
        refine AtT.kmove ?_
        refine AtT.kmove ?_
        refine AtT.kidx Try.underlying27 tk3 ?_
        intro p14 e14 he14 hc14
        obtain rfl : e14 = x := by have : l[k]? = some e14 := (by simpa using he14); rw [hx] at this; simpa using this.symm
        first | refine AtT.kloadO tk3 ?_ | refine AtT.kload tk3 ?_
        refine AtT.klss ?_
        refine AtT.setF (d := 16) rfl (c1) ?_
        refine AtT.kmove ?_
        all_goals (first | refine AtT.kL 17 ?_ | refine AtT.pcase (d := 17) rfl (fun hg17 => ?_) (fun hg17 => ?_) | refine AtT.bcase (d := 17) rfl (fun hg17 => ?_) (fun hg17 => ?_))
        all_goals (first | refine AtT.kpass ?_ | refine AtT.kpassU ?_ | ((refine AtT.kmove ?_)))
        all_goals (first | refine AtT.kpass ?_ | refine AtT.kpassU ?_ | ((refine AtT.kmove ?_)))
        all_goals (first | refine AtT.kpass ?_ | refine AtT.kpassU ?_ | ((refine AtT.kidx Try.underlying27 tk3 ?_) ; (intro p20 e20 he20 hc20)))
        all_goals (obtain rfl : e20 = e14 := by have : l[k]? = some e20 := (by simpa using he20); rw [hx] at this; simpa using this.symm)
        all_goals (first | refine AtT.kpass ?_ | refine AtT.kpassU ?_ | ((first | refine AtT.kloadO tk3 ?_ | refine AtT.kload tk3 ?_)))
        all_goals (first | refine AtT.kpass ?_ | refine AtT.kpassU ?_ | ((refine AtT.kmove ?_)))
        all_goals (first | refine AtT.kpass ?_ | refine AtT.kpassU ?_ | ((refine AtT.kgeq ?_)))
        all_goals (refine AtT.setT (d := 23) rfl (c2) ?_)
        all_goals (refine AtT.kpick ?_)
        all_goals (refine AtT.kmove ?_)
        all_goals (first | refine AtT.kL 25 ?_ | refine AtT.pcase (d := 25) rfl (fun hg25 => ?_) (fun hg25 => ?_) | refine AtT.bcase (d := 25) rfl (fun hg25 => ?_) (fun hg25 => ?_))
        all_goals (first | refine AtT.kpass ?_ | refine AtT.kpassU ?_ | ((refine AtT.kmove ?_)))
        all_goals (first | refine AtT.kpass ?_ | refine AtT.kpassU ?_ | ((refine AtT.kgtr ?_)))
        all_goals (first | refine AtT.kpass ?_ | refine AtT.kpassU ?_ | ((refine AtT.kmove ?_)))
        all_goals (first | refine AtT.kL 28 ?_ | refine AtT.pcase (d := 28) rfl (fun hg28 => ?_) (fun hg28 => ?_) | refine AtT.bcase (d := 28) rfl (fun hg28 => ?_) (fun hg28 => ?_))
        all_goals (first | refine AtT.kpass ?_ | refine AtT.kpassU ?_ | ((refine AtT.kmove ?_)))
        all_goals (first | refine AtT.kpass ?_ | refine AtT.kpassU ?_ | ((refine AtT.kmove ?_)))
        all_goals (first | refine AtT.kpass ?_ | refine AtT.kpassU ?_ | ((refine AtT.kidx Try.underlying27 tk3 ?_) ; (intro p31 e31 he31 hc31)))
        all_goals (first | refine AtT.kpass ?_ | refine AtT.kpassU ?_ | ((first | refine AtT.kloadO tk3 ?_ | refine AtT.kload tk3 ?_)))
        all_goals (first | refine AtT.kpass ?_ | refine AtT.kpassU ?_ | ((refine AtT.kmove ?_)))
        all_goals (first | refine AtT.kpass ?_ | refine AtT.kpassU ?_ | ((refine AtT.kmove ?_)))
        all_goals (first | refine AtT.kpass ?_ | refine AtT.kpassU ?_ | ((first | refine AtT.ksubt ?_ | refine AtT.ksubW ?_)))
        all_goals (first | refine AtT.kpass ?_ | refine AtT.kpassU ?_ | ((refine AtT.kidx Try.underlying27 tk3 ?_) ; (intro p36 e36 he36 hc36)))
        all_goals (first | refine AtT.kpass ?_ | refine AtT.kpassU ?_ | ((first | refine AtT.kloadO tk3 ?_ | refine AtT.kload tk3 ?_)))
        all_goals (first | refine AtT.kpass ?_ | refine AtT.kpassU ?_ | ((refine AtT.kleq ?_)))
        all_goals (first | refine AtT.kpass ?_ | refine AtT.kpassU ?_ | ((refine AtT.kpick ?_)))
        all_goals (refine AtT.kpick ?_)
        all_goals refine AtT.done ?_
        all_goals (refine At.nrm ?_)
        refine At.condT rfl rfl ?_
        refine At.nrm ?_
        refine At.ktext (.q 0 .done) ?_
        refine AtT.kassign ?_
        refine AtT.done ?_
        refine At.nrm ?_
        exact At.ret1 rfl (.tmp rfl) (by rw [hbad (by omega)])
      by_cases c3 : 0 < (k : Int)
      · obtain ⟨y, hy⟩ : ∃ y, l[k - 1]? = some y := ⟨_, List.getElem?_eq_getElem (by omega)⟩
        have hpy : prevN l k = y + 1 := by
          obtain ⟨m, rfl⟩ : ∃ m, k = m + 1 := ⟨k - 1, by omega⟩
          have : l[m]? = some y := by simpa using hy
          simp [prevN, List.getD, this]
        by_cases c4 : x ≤ y
        · refine At.draw (.q 0 (.q 1 (.q 2 (.q 3 (.q 4 (.q 5 (.q 6 (.q 7 (.q 8 (.q 9 (.q 10 (.q 11 (.q 12 (.q 13 (.q 14 (.q 15 (.q 16 (.q 17 (.q 18 (.q 19 (.q 20 (.q 21 (.q 22 (.q 23 (.q 24 (.q 25 (.q 26 (.q 27 (.q 28 .done))))))))))))))))))))))))))))) ffm (by kernel_rfl) ?_
          refine AtT.kmove ?_
          refine AtT.kmove ?_
          refine AtT.kidx Try.underlying27 tk3 ?_
          intro p14 e14 he14 hc14
          obtain rfl : e14 = x := by have : l[k]? = some e14 := (by simpa using he14); rw [hx] at this; simpa using this.symm
          first | refine AtT.kloadO tk3 ?_ | refine AtT.kload tk3 ?_
          refine AtT.klss ?_
          refine AtT.setF (d := 16) rfl (c1) ?_
          refine AtT.kmove ?_
          all_goals (first | refine AtT.kL 17 ?_ | refine AtT.pcase (d := 17) rfl (fun hg17 => ?_) (fun hg17 => ?_) | refine AtT.bcase (d := 17) rfl (fun hg17 => ?_) (fun hg17 => ?_))
          all_goals (first | refine AtT.kpass ?_ | refine AtT.kpassU ?_ | ((refine AtT.kmove ?_)))
          all_goals (first | refine AtT.kpass ?_ | refine AtT.kpassU ?_ | ((refine AtT.kmove ?_)))
          all_goals (first | refine AtT.kpass ?_ | refine AtT.kpassU ?_ | ((refine AtT.kidx Try.underlying27 tk3 ?_) ; (intro p20 e20 he20 hc20)))
          all_goals (obtain rfl : e20 = e14 := by have : l[k]? = some e20 := (by simpa using he20); rw [hx] at this; simpa using this.symm)
          all_goals (first | refine AtT.kpass ?_ | refine AtT.kpassU ?_ | ((first | refine AtT.kloadO tk3 ?_ | refine AtT.kload tk3 ?_)))
          all_goals (first | refine AtT.kpass ?_ | refine AtT.kpassU ?_ | ((refine AtT.kmove ?_)))
          all_goals (first | refine AtT.kpass ?_ | refine AtT.kpassU ?_ | ((refine AtT.kgeq ?_)))
          all_goals (refine AtT.setF (d := 23) rfl (c2) ?_)
          all_goals (refine AtT.kpick ?_)
          all_goals (refine AtT.kmove ?_)
          all_goals (first | refine AtT.kL 25 ?_ | refine AtT.pcase (d := 25) rfl (fun hg25 => ?_) (fun hg25 => ?_) | refine AtT.bcase (d := 25) rfl (fun hg25 => ?_) (fun hg25 => ?_))
          all_goals (first | refine AtT.kpass ?_ | refine AtT.kpassU ?_ | ((refine AtT.kmove ?_)))
          all_goals (first | refine AtT.kpass ?_ | refine AtT.kpassU ?_ | ((refine AtT.kgtr ?_)))
          all_goals (refine AtT.setT (d := 27) rfl (c3) ?_)
          all_goals (first | refine AtT.kpass ?_ | refine AtT.kpassU ?_ | ((refine AtT.kmove ?_)))
          all_goals (first | refine AtT.kL 28 ?_ | refine AtT.pcase (d := 28) rfl (fun hg28 => ?_) (fun hg28 => ?_) | refine AtT.bcase (d := 28) rfl (fun hg28 => ?_) (fun hg28 => ?_))
          all_goals (first | refine AtT.kpass ?_ | refine AtT.kpassU ?_ | ((refine AtT.kmove ?_)))
          all_goals (first | refine AtT.kpass ?_ | refine AtT.kpassU ?_ | ((refine AtT.kmove ?_)))
          all_goals (first | refine AtT.kpass ?_ | refine AtT.kpassU ?_ | ((refine AtT.kidx Try.underlying27 tk3 ?_) ; (intro p31 e31 he31 hc31)))
          all_goals (obtain rfl : e31 = e20 := by have : l[k]? = some e31 := (by simpa using he31); rw [hx] at this; simpa using this.symm)
          all_goals (first | refine AtT.kpass ?_ | refine AtT.kpassU ?_ | ((first | refine AtT.kloadO tk3 ?_ | refine AtT.kload tk3 ?_)))
          all_goals (first | refine AtT.kpass ?_ | refine AtT.kpassU ?_ | ((refine AtT.kmove ?_)))
          all_goals (first | refine AtT.kpass ?_ | refine AtT.kpassU ?_ | ((refine AtT.kmove ?_)))
          all_goals (first | refine AtT.kpass ?_ | refine AtT.kpassU ?_ | ((first | refine AtT.ksubt ?_ | refine AtT.ksubW ?_)))
          all_goals (first | refine AtT.kpass ?_ | refine AtT.kpassU ?_ | ((refine AtT.kidx Try.underlying27 tk3 ?_) ; (intro p36 e36 he36 hc36)))
          all_goals (obtain rfl : e36 = y := by have : l[k - 1]? = some e36 := (by rw [← he36]; congr 1; omega); rw [hy] at this; simpa using this.symm)
          all_goals (first | refine AtT.kpass ?_ | refine AtT.kpassU ?_ | ((first | refine AtT.kloadO tk3 ?_ | refine AtT.kload tk3 ?_)))
          all_goals (first | refine AtT.kpass ?_ | refine AtT.kpassU ?_ | ((refine AtT.kleq ?_)))
          all_goals (refine AtT.setT (d := 38) rfl (c4) ?_)
          all_goals (first | refine AtT.kpass ?_ | refine AtT.kpassU ?_ | ((refine AtT.kpick ?_)))
          all_goals (refine AtT.kpick ?_)
          all_goals refine AtT.done ?_
          all_goals (refine At.nrm ?_)
          refine At.condT rfl rfl ?_
          refine At.nrm ?_
          refine At.ktext (.q 0 .done) ?_
          refine AtT.kassign ?_
          refine AtT.done ?_
          refine At.nrm ?_
          exact At.ret1 rfl (.tmp rfl) (by rw [hbad (by omega)])
        · refine At.draw (.q 0 (.q 1 (.q 2 (.q 3 (.q 4 (.q 5 (.q 6 (.q 7 (.q 8 (.q 9 (.q 10 (.q 11 (.q 12 (.q 13 (.q 14 (.q 15 (.q 16 (.q 17 (.q 18 (.q 19 (.q 20 (.q 21 (.q 22 (.q 23 (.q 24 (.q 25 (.q 26 (.q 27 (.q 28 .done))))))))))))))))))))))))))))) ffm (by kernel_rfl) ?_
          refine AtT.kmove ?_
          refine AtT.kmove ?_
          refine AtT.kidx Try.underlying27 tk3 ?_
          intro p14 e14 he14 hc14
          obtain rfl : e14 = x := by have : l[k]? = some e14 := (by simpa using he14); rw [hx] at this; simpa using this.symm
          first | refine AtT.kloadO tk3 ?_ | refine AtT.kload tk3 ?_
          refine AtT.klss ?_
          refine AtT.setF (d := 16) rfl (c1) ?_
          refine AtT.kmove ?_
          all_goals (first | refine AtT.kL 17 ?_ | refine AtT.pcase (d := 17) rfl (fun hg17 => ?_) (fun hg17 => ?_) | refine AtT.bcase (d := 17) rfl (fun hg17 => ?_) (fun hg17 => ?_))
          all_goals (first | refine AtT.kpass ?_ | refine AtT.kpassU ?_ | ((refine AtT.kmove ?_)))
          all_goals (first | refine AtT.kpass ?_ | refine AtT.kpassU ?_ | ((refine AtT.kmove ?_)))
          all_goals (first | refine AtT.kpass ?_ | refine AtT.kpassU ?_ | ((refine AtT.kidx Try.underlying27 tk3 ?_) ; (intro p20 e20 he20 hc20)))
          all_goals (obtain rfl : e20 = e14 := by have : l[k]? = some e20 := (by simpa using he20); rw [hx] at this; simpa using this.symm)
          all_goals (first | refine AtT.kpass ?_ | refine AtT.kpassU ?_ | ((first | refine AtT.kloadO tk3 ?_ | refine AtT.kload tk3 ?_)))
          all_goals (first | refine AtT.kpass ?_ | refine AtT.kpassU ?_ | ((refine AtT.kmove ?_)))
          all_goals (first | refine AtT.kpass ?_ | refine AtT.kpassU ?_ | ((refine AtT.kgeq ?_)))
          all_goals (refine AtT.setF (d := 23) rfl (c2) ?_)
          all_goals (refine AtT.kpick ?_)
          all_goals (refine AtT.kmove ?_)
          all_goals (first | refine AtT.kL 25 ?_ | refine AtT.pcase (d := 25) rfl (fun hg25 => ?_) (fun hg25 => ?_) | refine AtT.bcase (d := 25) rfl (fun hg25 => ?_) (fun hg25 => ?_))
          all_goals (first | refine AtT.kpass ?_ | refine AtT.kpassU ?_ | ((refine AtT.kmove ?_)))
          all_goals (first | refine AtT.kpass ?_ | refine AtT.kpassU ?_ | ((refine AtT.kgtr ?_)))
          all_goals (refine AtT.setT (d := 27) rfl (c3) ?_)
          all_goals (first | refine AtT.kpass ?_ | refine AtT.kpassU ?_ | ((refine AtT.kmove ?_)))
          all_goals (first | refine AtT.kL 28 ?_ | refine AtT.pcase (d := 28) rfl (fun hg28 => ?_) (fun hg28 => ?_) | refine AtT.bcase (d := 28) rfl (fun hg28 => ?_) (fun hg28 => ?_))
          all_goals (first | refine AtT.kpass ?_ | refine AtT.kpassU ?_ | ((refine AtT.kmove ?_)))
          all_goals (first | refine AtT.kpass ?_ | refine AtT.kpassU ?_ | ((refine AtT.kmove ?_)))
          all_goals (first | refine AtT.kpass ?_ | refine AtT.kpassU ?_ | ((refine AtT.kidx Try.underlying27 tk3 ?_) ; (intro p31 e31 he31 hc31)))
          all_goals (obtain rfl : e31 = e20 := by have : l[k]? = some e31 := (by simpa using he31); rw [hx] at this; simpa using this.symm)
          all_goals (first | refine AtT.kpass ?_ | refine AtT.kpassU ?_ | ((first | refine AtT.kloadO tk3 ?_ | refine AtT.kload tk3 ?_)))
          all_goals (first | refine AtT.kpass ?_ | refine AtT.kpassU ?_ | ((refine AtT.kmove ?_)))
          all_goals (first | refine AtT.kpass ?_ | refine AtT.kpassU ?_ | ((refine AtT.kmove ?_)))
          all_goals (first | refine AtT.kpass ?_ | refine AtT.kpassU ?_ | ((first | refine AtT.ksubt ?_ | refine AtT.ksubW ?_)))
          all_goals (first | refine AtT.kpass ?_ | refine AtT.kpassU ?_ | ((refine AtT.kidx Try.underlying27 tk3 ?_) ; (intro p36 e36 he36 hc36)))
          all_goals (obtain rfl : e36 = y := by have : l[k - 1]? = some e36 := (by rw [← he36]; congr 1; omega); rw [hy] at this; simpa using this.symm)
          all_goals (first | refine AtT.kpass ?_ | refine AtT.kpassU ?_ | ((first | refine AtT.kloadO tk3 ?_ | refine AtT.kload tk3 ?_)))
          all_goals (first | refine AtT.kpass ?_ | refine AtT.kpassU ?_ | ((refine AtT.kleq ?_)))
          all_goals (refine AtT.setF (d := 38) rfl (c4) ?_)
          all_goals (first | refine AtT.kpass ?_ | refine AtT.kpassU ?_ | ((refine AtT.kpick ?_)))
          all_goals (refine AtT.kpick ?_)
          all_goals refine AtT.done ?_
          all_goals (refine At.nrm ?_)
          refine At.condF rfl rfl ?_
          refine At.nrm ?_
          refine At.ktext (.q 0 (.q 1 (.q 2 .done))) ?_
          refine AtT.kmove ?_
          first | refine AtT.kadd ?_ | refine AtT.kaddW ?_
          refine AtT.kassign ?_
          refine AtT.done ?_
          refine At.nrm ?_
          refine At.round (k + 1) ?_ ?_ ?_ ?_
          · show l.length - (k + 1) < l.length - k; omega
          · refine ⟨rfl, by omega, fun j hj => ?_⟩
            by_cases hjk : j = k
            · subst hjk; simp only [okAt, hgx]; exact decide_eq_true (by omega)
            · exact hok j (by omega)
          · exact ⟨rfl, rfl, ivs (by omega), trivial⟩
          · exact Pt.auto
      · have hk0 : prevN l k = 0 := by
          obtain rfl : k = 0 := by omega
          rfl
        refine At.draw (.q 0 (.q 1 (.q 2 (.q 3 (.q 4 (.q 5 (.q 6 (.q 7 (.q 8 (.q 9 (.q 10 (.q 11 (.q 12 (.q 13 (.q 14 (.q 15 (.q 16 (.q 17 (.q 18 (.q 19 (.q 20 (.q 21 (.q 22 (.q 23 (.q 24 (.q 25 (.q 26 (.q 27 (.q 28 .done))))))))))))))))))))))))))))) ffm (by kernel_rfl) ?_
        refine AtT.kmove ?_
        refine AtT.kmove ?_
        refine AtT.kidx Try.underlying27 tk3 ?_
        intro p14 e14 he14 hc14
        obtain rfl : e14 = x := by have : l[k]? = some e14 := (by simpa using he14); rw [hx] at this; simpa using this.symm
        first | refine AtT.kloadO tk3 ?_ | refine AtT.kload tk3 ?_
        refine AtT.klss ?_
        refine AtT.setF (d := 16) rfl (c1) ?_
        refine AtT.kmove ?_
        all_goals (first | refine AtT.kL 17 ?_ | refine AtT.pcase (d := 17) rfl (fun hg17 => ?_) (fun hg17 => ?_) | refine AtT.bcase (d := 17) rfl (fun hg17 => ?_) (fun hg17 => ?_))
        all_goals (first | refine AtT.kpass ?_ | refine AtT.kpassU ?_ | ((refine AtT.kmove ?_)))
        all_goals (first | refine AtT.kpass ?_ | refine AtT.kpassU ?_ | ((refine AtT.kmove ?_)))
        all_goals (first | refine AtT.kpass ?_ | refine AtT.kpassU ?_ | ((refine AtT.kidx Try.underlying27 tk3 ?_) ; (intro p20 e20 he20 hc20)))
        all_goals (obtain rfl : e20 = e14 := by have : l[k]? = some e20 := (by simpa using he20); rw [hx] at this; simpa using this.symm)
        all_goals (first | refine AtT.kpass ?_ | refine AtT.kpassU ?_ | ((first | refine AtT.kloadO tk3 ?_ | refine AtT.kload tk3 ?_)))
        all_goals (first | refine AtT.kpass ?_ | refine AtT.kpassU ?_ | ((refine AtT.kmove ?_)))
        all_goals (first | refine AtT.kpass ?_ | refine AtT.kpassU ?_ | ((refine AtT.kgeq ?_)))
        all_goals (refine AtT.setF (d := 23) rfl (c2) ?_)
        all_goals (refine AtT.kpick ?_)
        all_goals (refine AtT.kmove ?_)
        all_goals (first | refine AtT.kL 25 ?_ | refine AtT.pcase (d := 25) rfl (fun hg25 => ?_) (fun hg25 => ?_) | refine AtT.bcase (d := 25) rfl (fun hg25 => ?_) (fun hg25 => ?_))
        all_goals (first | refine AtT.kpass ?_ | refine AtT.kpassU ?_ | ((refine AtT.kmove ?_)))
        all_goals (first | refine AtT.kpass ?_ | refine AtT.kpassU ?_ | ((refine AtT.kgtr ?_)))
        all_goals (refine AtT.setF (d := 27) rfl (c3) ?_)
        all_goals (first | refine AtT.kpass ?_ | refine AtT.kpassU ?_ | ((refine AtT.kmove ?_)))
        all_goals (first | refine AtT.kL 28 ?_ | refine AtT.pcase (d := 28) rfl (fun hg28 => ?_) (fun hg28 => ?_) | refine AtT.bcase (d := 28) rfl (fun hg28 => ?_) (fun hg28 => ?_))
        all_goals (first | refine AtT.kpass ?_ | refine AtT.kpassU ?_ | ((refine AtT.kmove ?_)))
        all_goals (first | refine AtT.kpass ?_ | refine AtT.kpassU ?_ | ((refine AtT.kmove ?_)))
        all_goals (first | refine AtT.kpass ?_ | refine AtT.kpassU ?_ | ((refine AtT.kidx Try.underlying27 tk3 ?_) ; (intro p31 e31 he31 hc31)))
        all_goals (first | refine AtT.kpass ?_ | refine AtT.kpassU ?_ | ((first | refine AtT.kloadO tk3 ?_ | refine AtT.kload tk3 ?_)))
        all_goals (first | refine AtT.kpass ?_ | refine AtT.kpassU ?_ | ((refine AtT.kmove ?_)))
        all_goals (first | refine AtT.kpass ?_ | refine AtT.kpassU ?_ | ((refine AtT.kmove ?_)))
        all_goals (first | refine AtT.kpass ?_ | refine AtT.kpassU ?_ | ((first | refine AtT.ksubt ?_ | refine AtT.ksubW ?_)))
        all_goals (first | refine AtT.kpass ?_ | refine AtT.kpassU ?_ | ((refine AtT.kidx Try.underlying27 tk3 ?_) ; (intro p36 e36 he36 hc36)))
        all_goals (first | refine AtT.kpass ?_ | refine AtT.kpassU ?_ | ((first | refine AtT.kloadO tk3 ?_ | refine AtT.kload tk3 ?_)))
        all_goals (first | refine AtT.kpass ?_ | refine AtT.kpassU ?_ | ((refine AtT.kleq ?_)))
        all_goals (first | refine AtT.kpass ?_ | refine AtT.kpassU ?_ | ((refine AtT.kpick ?_)))
        all_goals (refine AtT.kpick ?_)
        all_goals refine AtT.done ?_
        all_goals (refine At.nrm ?_)
        refine At.condF rfl rfl ?_
        refine At.nrm ?_
        refine At.ktext (.q 0 (.q 1 (.q 2 .done))) ?_
        refine AtT.kmove ?_
        first | refine AtT.kadd ?_ | refine AtT.kaddW ?_
        refine AtT.kassign ?_
        refine AtT.done ?_
        refine At.nrm ?_
        refine At.round (k + 1) ?_ ?_ ?_ ?_
        · show l.length - (k + 1) < l.length - k; omega
        · refine ⟨rfl, by omega, fun j hj => ?_⟩
          by_cases hjk : j = k
          · subst hjk; simp only [okAt, hgx]; exact decide_eq_true (by omega)
          · exact hok j (by omega)
        · exact ⟨rfl, rfl, ivs (by omega), trivial⟩
        · exact Pt.auto
    · obtain rfl : k = l.length := by omega
      refine At.nrm ?_
      refine At.ktext (.q 0 .done) ?_
      refine AtT.kassign ?_
      refine AtT.done ?_
      refine At.nrm ?_
      exact At.ret1 rfl (.tmp rfl) (by rw [lstB_true hok])
end Go.Proofs.Ytmnbkceiaifncaa
set_option linter.unusedVariables false
namespace Go.Proofs.Ytmnbkceiaifncaa
open Go.Lw Go.Gl Go.RowKit

theorem listed_bad {d : Dy} {ps : List Pn} {sure : Bool} {l : List Int} {V : View} {v vl : Value} (hs : Sl V pne 3 v ps) (hl : SlI V vl l) (he : bothE d ps ≠ 0) : Fnc Try.prog 57 [dyv d, v, .bool sure, vl] V fun r V' => r = .tuple #[.pointer none, iv (bothE d ps)] :=
  (listed_f d ps sure l V v vl hs hl).mono fun r V' _ h => by
    rcases h with ⟨_, h⟩ | ⟨h, _⟩ | ⟨h, _⟩
    · exact h
    · exact absurd h he
    · exact absurd h he
theorem listed_arg {d : Dy} {ps : List Pn} {sure : Bool} {l : List Int} {V : View} {v vl : Value} (hs : Sl V pne 3 v ps) (hl : SlI V vl l) (he : bothE d ps = 0) (hb : lstB l ps.length = false) : Fnc Try.prog 57 [dyv d, v, .bool sure, vl] V fun r V' => r = .tuple #[.pointer none, iv 2] :=
  (listed_f d ps sure l V v vl hs hl).mono fun r V' _ h => by
    rcases h with ⟨h, _⟩ | ⟨_, _, h⟩ | ⟨_, h, _⟩
    · exact absurd he h
    · exact h
    · rw [hb] at h; cases h
theorem listed_ok {d : Dy} {ps : List Pn} {sure : Bool} {l : List Int} {V : View} {v vl : Value} (hs : Sl V pne 3 v ps) (hl : SlI V vl l) (he : bothE d ps = 0) (hb : lstB l ps.length = true) : Fnc Try.prog 57 [dyv d, v, .bool sure, vl] V fun r V' => ∃ p, r = .tuple #[.pointer (some p), iv 0] ∧ BnV V' p (bn d ps sure) :=
  (listed_f d ps sure l V v vl hs hl).mono fun r V' _ h => by
    rcases h with ⟨h, _⟩ | ⟨_, h, _⟩ | ⟨_, _, h⟩
    · exact absurd he h
    · rw [hb] at h; cases h
    · exact h
theorem lst_in {d : Dy} {ps : List Pn} {l : List Int} (sure : Bool) (hb : lstB l ps.length = true) (hk : Ok d ps) : InB (bn d ps sure) l ∧ l.length ≤ 100 := by
  have h1 := lstB_in hb
  have h2 := lstB_len hb (by omega)
  have := hk.n10
  refine ⟨fun i hi => ?_, by omega⟩
  rw [bn_len]; exact h1 i hi

theorem checkBatch_f (d : Dy) (ps : List Pn) (sure : Bool) (l : List Int) (V : View) (v vl : Value) (hs : Sl V pne 3 v ps) (hl : SlI V vl l) : Fnc Try.prog 19 [dyv d, v, .bool sure, vl] V fun r _ => r = .tuple #[iv (batR d ps sure l).1, iv (batR d ps sure l).2.1, iv (batR d ps sure l).2.2] := by
  refine fn_of Try.func19 rfl Try.ntmps19 (Nat.le_of_ble_eq_true rfl) ?_
  intro w0 hw0
  refine At.nrm ?_
  refine At.ktext (.n false 0 (.q 1 (.q 2 (.q 3 .done)))) ?_
  refine AtT.kbox ?_
  intro b4
  refine AtT.kassign ?_
  refine AtT.kassign ?_
  refine AtT.kassign ?_
  refine AtT.done ?_
  refine At.nrm ?_
  by_cases he : bothE d ps = 0
  rotate_left
  · refine At.ktext (.q 0 (.q 1 (.q 2 (.q 3 (.n false 4 (.q 5 (.q 6 (.q 7 (.q 8 (.q 9 .done)))))))))) ?_
    first | refine AtT.kloadOA tk25 ?_ | refine AtT.kloadA tk25 ?_ | refine AtT.kloadOP tk25 ?_
    refine AtT.kmove ?_
    refine AtT.kmove ?_
    refine AtT.kmove ?_
    refine AtT.kcallP rfl rfl ok57 (listed_bad hs hl he) ?_
    rintro _ rfl
    refine AtT.kmove ?_
    refine AtT.kextract ?_
    refine AtT.kextract ?_
    refine AtT.kassign ?_
    refine AtT.kassign ?_
    refine AtT.done ?_
    refine At.nrm ?_
    refine At.ktext (.q 0 (.q 1 .done)) ?_
    refine AtT.kmove ?_
    refine AtT.kneI ?_
    refine AtT.done ?_
    refine At.nrm ?_
    refine At.condT rfl (decide_eq_true he) ?_
    refine At.nrm ?_
    refine At.ktext (.q 0 (.q 1 (.q 2 (.q 3 .done)))) ?_
    refine AtT.kmove ?_
    refine AtT.kassign ?_
    refine AtT.kassign ?_
    refine AtT.kassign ?_
    refine AtT.done ?_
    refine At.nrm ?_
    exact At.ret3 rfl (.tmp rfl) (.tmp rfl) (.tmp rfl) (by rw [batR, if_pos he])
  cases hb : lstB l ps.length with
  | false =>
    refine At.ktext (.q 0 (.q 1 (.q 2 (.q 3 (.n false 4 (.q 5 (.q 6 (.q 7 (.q 8 (.q 9 .done)))))))))) ?_
    first | refine AtT.kloadOA tk25 ?_ | refine AtT.kloadA tk25 ?_ | refine AtT.kloadOP tk25 ?_
    refine AtT.kmove ?_
    refine AtT.kmove ?_
    refine AtT.kmove ?_
    refine AtT.kcallP rfl rfl ok57 (listed_arg hs hl he hb) ?_
    rintro _ rfl
    refine AtT.kmove ?_
    refine AtT.kextract ?_
    refine AtT.kextract ?_
    refine AtT.kassign ?_
    refine AtT.kassign ?_
    refine AtT.done ?_
    refine At.nrm ?_
    refine At.ktext (.q 0 (.q 1 .done)) ?_
    refine AtT.kmove ?_
    refine AtT.kneI ?_
    refine AtT.done ?_
    refine At.nrm ?_
    refine At.condT rfl rfl ?_
    refine At.nrm ?_
    refine At.ktext (.q 0 (.q 1 (.q 2 (.q 3 .done)))) ?_
    refine AtT.kmove ?_
    refine AtT.kassign ?_
    refine AtT.kassign ?_
    refine AtT.kassign ?_
    refine AtT.done ?_
    refine At.nrm ?_
    exact At.ret3 rfl (.tmp rfl) (.tmp rfl) (.tmp rfl) (by rw [batR, if_neg (by simp [he]), if_pos hb])
  | true =>
    have hk := bothE_ok he
    have hB := bn_ok hk sure
    obtain ⟨hin, hlen⟩ := lst_in sure hb hk
    refine At.ktext (.q 0 (.q 1 (.q 2 (.q 3 (.n false 4 (.q 5 (.q 6 (.q 7 (.q 8 (.q 9 .done)))))))))) ?_
    first | refine AtT.kloadOA tk25 ?_ | refine AtT.kloadA tk25 ?_ | refine AtT.kloadOP tk25 ?_
    refine AtT.kmove ?_
    refine AtT.kmove ?_
    refine AtT.kmove ?_
    refine AtT.kcall rfl rfl ok57 (listed_ok hs hl he hb) ?_
    rintro _ V1 hV1 ⟨p, rfl, hpb⟩
    refine AtT.kmove ?_
    refine AtT.kextract ?_
    refine AtT.kextract ?_
    refine AtT.kassign ?_
    refine AtT.kassign ?_
    refine AtT.done ?_
    refine At.nrm ?_
    refine At.ktext (.q 0 (.q 1 .done)) ?_
    refine AtT.kmove ?_
    refine AtT.kneI ?_
    refine AtT.done ?_
    refine At.nrm ?_
    refine At.condF rfl rfl ?_
    refine At.nrm ?_
    refine At.ktext (.q 0 (.q 1 (.n false 2 (.n false 3 (.n true 4 .done))))) ?_
    refine AtT.kmove ?_
    refine AtT.kmove ?_
    refine AtT.kcallP rfl rfl ok58 (sum_f _ hB l hin hlen _ _ hpb _ (hl.le hV1)) ?_
    rintro _ rfl
    refine AtT.kalloc z72 ?_
    intro b13
    refine AtT.kstoreA tk72 ?_
    refine AtT.done ?_
    refine At.nrm ?_
    refine At.ktext (.q 0 (.q 1 (.n false 2 (.q 3 .done)))) ?_
    refine AtT.kmove ?_
    first | refine AtT.kloadOA tk72 ?_ | refine AtT.kloadA tk72 ?_ | refine AtT.kloadOP tk72 ?_
    refine AtT.kcallP rfl rfl ok59 (fits_f _ hB _ _ _ hpb) ?_
    rintro _ rfl
    refine AtT.kassign ?_
    refine AtT.done ?_
    refine At.nrm ?_
    refine At.ktext (.q 0 (.q 1 .done)) ?_
    refine AtT.kmove ?_
    refine AtT.kneI ?_
    refine AtT.done ?_
    refine At.nrm ?_
    refine At.condP rfl (fun hc => ?_) (fun hc => ?_)
    · refine At.nrm ?_
      refine At.ktext (.q 0 (.q 1 (.q 2 (.q 3 .done)))) ?_
      refine AtT.kmove ?_
      refine AtT.kassign ?_
      refine AtT.kassign ?_
      refine AtT.kassign ?_
      refine AtT.done ?_
      refine At.nrm ?_
      exact At.ret3 rfl (.tmp rfl) (.tmp rfl) (.tmp rfl) (by rw [batR, if_neg (by simp [he]), if_neg (by simp [hb]), if_pos hc])
    · refine At.nrm ?_
      refine At.draw (.q 0 (.q 1 (.q 2 (.q 3 (.q 4 (.q 5 (.q 6 .done))))))) ffm (by kernel_rfl) ?_
      refine AtT.kidxA Try.underlying72 tk2 ?_
      first | refine AtT.kloadO tk2 ?_ | refine AtT.kload tk2 ?_
      refine AtT.kidxA Try.underlying72 tk2 ?_
      first | refine AtT.kloadO tk2 ?_ | refine AtT.kload tk2 ?_
      refine AtT.kassign ?_
      refine AtT.kassign ?_
      refine AtT.kassign ?_
      refine AtT.done ?_
      refine At.nrm ?_
      all_goals (exact At.ret3 rfl (.tmp rfl) (.tmp rfl) (.tmp rfl) (by rw [batR, if_neg (by simp [he]), if_neg (by simp [hb]), if_neg hc]))

theorem rcheckBatch_f (d : Dy) (ps : List Pn) (sure : Bool) (l : List Int) (V : View) (v vl : Value) (hs : Sl V pne 3 v ps) (hl : SlI V vl l) : Fnc Try.prog 20 [dyv d, v, .bool sure, vl] V fun r _ => r = .tuple #[iv (batR d ps sure l).1, iv (batR d ps sure l).2.1, iv (batR d ps sure l).2.2] := by
  obtain ⟨a, c, rfl, k1, k2, _⟩ := id hs
  clear k1 k2
  refine fn_of Try.func20 rfl Try.ntmps20 (Nat.le_of_ble_eq_true rfl) ?_
  intro w0 hw0
  refine At.nrm ?_
  refine At.ktext (.n false 0 (.q 1 (.q 2 (.q 3 .done)))) ?_
  refine AtT.kbox ?_
  intro b4
  refine AtT.kassign ?_
  refine AtT.kassign ?_
  refine AtT.kassign ?_
  refine AtT.done ?_
  refine At.nrm ?_
  refine At.ktext (.q 0 (.q 1 (.n false 2 (.q 3 .done)))) ?_
  first | refine AtT.kloadOA tk25 ?_ | refine AtT.kloadA tk25 ?_ | refine AtT.kloadOP tk25 ?_
  refine AtT.kmove ?_
  refine AtT.kcallP rfl rfl ok60 (both_f d ps _ _ hs) ?_
  rintro _ rfl
  refine AtT.kneI ?_
  refine AtT.done ?_
  refine At.nrm ?_
  refine At.condP rfl (fun he => ?_) (fun he => ?_)
  · refine At.nrm ?_
    refine At.ktext (.q 0 (.q 1 (.n false 2 (.q 3 (.q 4 (.q 5 .done)))))) ?_
    first | refine AtT.kloadOA tk25 ?_ | refine AtT.kloadA tk25 ?_ | refine AtT.kloadOP tk25 ?_
    refine AtT.kmove ?_
    refine AtT.kcallP rfl rfl ok60 (both_f d ps _ _ hs) ?_
    rintro _ rfl
    refine AtT.kassign ?_
    refine AtT.kassign ?_
    refine AtT.kassign ?_
    refine AtT.done ?_
    refine At.nrm ?_
    exact At.ret3 rfl (.tmp rfl) (.tmp rfl) (.tmp rfl) (by rw [batR, if_pos he])
  have he' : bothE d ps = 0 := Decidable.not_not.1 he
  have hk := bothE_ok he'
  have hB := bn_ok hk sure
  refine At.nrm ?_
  refine At.ktext (.q 0 (.q 1 (.q 2 (.n false 3 (.q 4 .done))))) ?_
  refine AtT.kmove ?_
  refine AtT.kmove ?_
  first | refine AtT.klenS Try.underlying26 ?_ | refine AtT.klenR Try.underlying26 ?_
  refine AtT.kcallP rfl rfl ok61 (isList_f l ps.length _ _ hl) ?_
  rintro _ rfl
  refine AtT.knot ?_
  refine AtT.done ?_
  refine At.nrm ?_
  refine At.cond rfl (fun hb => ?_) (fun hb => ?_)
  · have hb' : lstB l ps.length = false := by simpa using hb
    refine At.nrm ?_
    refine At.ktext (.q 0 (.q 1 (.q 2 .done))) ?_
    refine AtT.kassign ?_
    refine AtT.kassign ?_
    refine AtT.kassign ?_
    refine AtT.done ?_
    refine At.nrm ?_
    exact At.ret3 rfl (.tmp rfl) (.tmp rfl) (.tmp rfl) (by rw [batR, if_neg he, if_pos hb'])
  have hb' : lstB l ps.length = true := by simpa using hb
  obtain ⟨hin, hlen⟩ := lst_in sure hb' hk
  refine At.nrm ?_
  refine At.ktext (.q 0 (.q 1 (.q 2 (.q 3 (.n false 4 (.q 5 .done)))))) ?_
  first | refine AtT.kloadOA tk25 ?_ | refine AtT.kloadA tk25 ?_ | refine AtT.kloadOP tk25 ?_
  refine AtT.kmove ?_
  refine AtT.kmove ?_
  refine AtT.kmove ?_
  refine AtT.kcallP rfl rfl ok62 (batErr_f d ps hk sure l hin hlen _ _ _ hs hl) ?_
  rintro _ rfl
  refine AtT.kneI ?_
  refine AtT.done ?_
  refine At.nrm ?_
  refine At.condP rfl (fun hc => ?_) (fun hc => ?_)
  · refine At.nrm ?_
    refine At.ktext (.q 0 (.q 1 (.q 2 (.q 3 (.n false 4 (.q 5 (.q 6 (.q 7 .done)))))))) ?_
    first | refine AtT.kloadOA tk25 ?_ | refine AtT.kloadA tk25 ?_ | refine AtT.kloadOP tk25 ?_
    refine AtT.kmove ?_
    refine AtT.kmove ?_
    refine AtT.kmove ?_
    refine AtT.kcallP rfl rfl ok62 (batErr_f d ps hk sure l hin hlen _ _ _ hs hl) ?_
    rintro _ rfl
    refine AtT.kassign ?_
    refine AtT.kassign ?_
    refine AtT.kassign ?_
    refine AtT.done ?_
    refine At.nrm ?_
    exact At.ret3 rfl (.tmp rfl) (.tmp rfl) (.tmp rfl) (by rw [batR, if_neg he, if_neg (by simp [hb']), if_pos hc])
  refine At.nrm ?_
  refine At.ktext (.q 0 (.q 1 (.q 2 (.n false 3 (.q 4 (.q 5 (.q 6 (.q 7 (.q 8 .done))))))))) ?_
  refine AtT.kmove ?_
  refine AtT.kmove ?_
  refine AtT.kmove ?_
  refine AtT.kcallP rfl rfl ok63 (sums_f d ps hk sure l hin hlen _ _ _ hs hl) ?_
  rintro _ rfl
  refine AtT.kmove ?_
  refine AtT.kextract ?_
  refine AtT.kextract ?_
  refine AtT.kassign ?_
  refine AtT.kassign ?_
  refine AtT.done ?_
  refine At.nrm ?_
  refine At.ktext (.q 0 (.q 1 (.q 2 (.q 3 (.q 4 .done))))) ?_
  refine AtT.kmove ?_
  refine AtT.kmove ?_
  refine AtT.kassign ?_
  refine AtT.kassign ?_
  refine AtT.kassign ?_
  refine AtT.done ?_
  refine At.nrm ?_
  exact At.ret3 rfl (.tmp rfl) (.tmp rfl) (.tmp rfl) (by rw [batR, if_neg he, if_neg (by simp [hb']), if_neg hc])
end Go.Proofs.Ytmnbkceiaifncaa
set_option linter.unusedVariables false
namespace Go.Proofs.Ytmnbkceiaifncaa
open Go.Lw Go.Gl Go.RowKit

theorem great_f (ps : List Pn) (V : View) (v : Value) (hs : Sl V pne 3 v ps) : Fnc Try.prog 16 [v] V fun r _ => r = .bool (decide (16 < (ps.length : Int))) := by
  obtain ⟨a, c, rfl, k1, k2, _⟩ := id hs
  refine fn_of Try.func16 rfl Try.ntmps16 (Nat.le_of_ble_eq_true rfl) ?_
  intro w0 hw0
  refine At.nrm ?_
  refine At.ktext (.q 0 .done) ?_
  refine AtT.kassign ?_
  refine AtT.done ?_
  refine At.nrm ?_
  refine At.ktext (.q 0 (.q 1 (.q 2 (.q 3 .done)))) ?_
  refine AtT.kmove ?_
  first | refine AtT.klenS Try.underlying26 ?_ | refine AtT.klenR Try.underlying26 ?_
  refine AtT.kgtr ?_
  refine AtT.kassign ?_
  refine AtT.done ?_
  refine At.nrm ?_
  exact At.ret1 rfl (.tmp rfl) rfl
theorem long_f (l : List Int) (V : View) (v : Value) (hs : SlI V v l) : Fnc Try.prog 17 [v] V fun r _ => r = .bool (decide (20 < (l.length : Int))) := by
  obtain ⟨a, c, rfl, k1, k2, _⟩ := id hs
  refine fn_of Try.func17 rfl Try.ntmps17 (Nat.le_of_ble_eq_true rfl) ?_
  intro w0 hw0
  refine At.nrm ?_
  refine At.ktext (.q 0 .done) ?_
  refine AtT.kassign ?_
  refine AtT.done ?_
  refine At.nrm ?_
  refine At.ktext (.q 0 (.q 1 (.q 2 (.q 3 .done)))) ?_
  refine AtT.kmove ?_
  first | refine AtT.klenS Try.underlying27 ?_ | refine AtT.klenR Try.underlying27 ?_
  refine AtT.kgtr ?_
  refine AtT.kassign ?_
  refine AtT.done ?_
  refine At.nrm ?_
  exact At.ret1 rfl (.tmp rfl) rfl
theorem bat_f (l : List Int) (hb : ∀ x ∈ l, -1000000 ≤ x ∧ x < 1000000) (V : View) (v : Value) (hs : SlI V v l) : Fnc Try.prog 33 [v] V fun r _ => r = iv (batN l) := by
  have hlen := hs.lenLe
  obtain ⟨a, c, rfl, k1, k2, _⟩ := id hs
  clear k1 k2
  refine fn_of Try.func33 rfl Try.ntmps33 (Nat.le_of_ble_eq_true rfl) ?_
  intro w0 hw0
  refine At.nrm ?_
  refine At.ktext (.q 0 .done) ?_
  refine AtT.kassign ?_
  refine AtT.done ?_
  refine At.nrm ?_
  refine At.ktext (.q 0 .done) ?_
  refine AtT.kassign ?_
  refine AtT.done ?_
  refine At.nrm ?_
  refine At.ktext (.q 0 .done) ?_
  refine AtT.kassign ?_
  refine AtT.done ?_
  refine At.nrm ?_
  refine At.lp (ι := Nat) (KS := fun k => [(0, .slice a l.length c), (3, iv (batN (l.take k))), (4, iv k)]) (OS := fun _ => []) (VS := fun k V' => V' = V ∧ k ≤ l.length) (μ := fun k => l.length - k) 0 ?_ ?_ ?_ ?_
  · exact ⟨rfl, rfl, rfl, trivial⟩
  · exact Pt.auto
  · exact ⟨rfl, Nat.zero_le _⟩
  · rintro k V' ks' O' ⟨rfl, hkl⟩ hk hO hl2
    subst hk hO
    refine At.nrm ?_
    refine At.ktext (.q 0 (.q 1 (.q 2 (.q 3 .done)))) ?_
    refine AtT.kmove ?_
    refine AtT.kmove ?_
    first | refine AtT.klenS Try.underlying27 ?_ | refine AtT.klenR Try.underlying27 ?_
    refine AtT.klss ?_
    refine AtT.done ?_
    refine At.nrm ?_
    refine At.condP rfl (fun hp => ?_) (fun hp => ?_)
    · obtain ⟨x, hx⟩ : ∃ x, l[k]? = some x := ⟨_, List.getElem?_eq_getElem (by omega)⟩
      have hxb := hb x (List.mem_of_getElem? hx)
      refine At.nrm ?_
      refine At.ktext (.q 0 (.q 1 (.q 2 (.q 3 (.q 4 (.q 5 (.q 6 (.q 7 .done)))))))) ?_
      refine AtT.kmove ?_
      refine AtT.kmove ?_
      refine AtT.kmove ?_
      refine AtT.kidx Try.underlying27 tk3 ?_
      intro p14 e14 he14 hc14
      obtain rfl : e14 = x := by have : l[k]? = some e14 := (by simpa using he14); rw [hx] at this; simpa using this.symm
      first | refine AtT.kloadO tk3 ?_ | refine AtT.kload tk3 ?_
      first | refine AtT.kadd ?_ | refine AtT.kaddW ?_
      refine AtT.kmax2 ?_
      refine AtT.kassign ?_
      refine AtT.done ?_
      refine At.nrm ?_
      refine At.ktext (.q 0 (.q 1 (.q 2 .done))) ?_
      refine AtT.kmove ?_
      first | refine AtT.kadd ?_ | refine AtT.kaddW ?_
      refine AtT.kassign ?_
      refine AtT.done ?_
      refine At.nrm ?_
      refine At.round (k + 1) ?_ ?_ ?_ ?_
      · show l.length - (k + 1) < l.length - k; omega
      · exact ⟨rfl, by omega⟩
      · exact ⟨rfl, ivs (by rw [take_snoc' hx, batN_snoc]), ivs (by omega), trivial⟩
      · exact Pt.auto
    · obtain rfl : k = l.length := by omega
      rw [List.take_length]
      refine At.nrm ?_
      refine At.ktext (.q 0 (.q 1 .done)) ?_
      refine AtT.kmove ?_
      refine AtT.kassign ?_
      refine AtT.done ?_
      refine At.nrm ?_
      exact At.ret1 rfl (.tmp rfl) rfl
theorem of_f (l : List Int) (b : Int) (h1 : l.length ≤ 1000) (V : View) (v : Value) (hs : SlI V v l) : Fnc Try.prog 83 [v, iv b] V fun r V' => SlI V' r (ofL l b) := by
  obtain ⟨a, c, rfl, k1, k2, _⟩ := id hs
  clear k1 k2
  refine fn_of Try.func83 rfl Try.ntmps83 (Nat.le_of_ble_eq_true rfl) ?_
  intro w0 hw0
  refine At.nrm ?_
  refine At.ktext (.q 0 .done) ?_
  refine AtT.kassign ?_
  refine AtT.done ?_
  refine At.nrm ?_
  refine At.ktext (.q 0 .done) ?_
  refine AtT.kassign ?_
  refine AtT.done ?_
  refine At.nrm ?_
  refine At.ktext (.q 0 .done) ?_
  refine AtT.kassign ?_
  refine AtT.done ?_
  refine At.nrm ?_
  refine At.newRow 3 1 ?_
  refine At.lp (ι := Nat × Option Addr × Nat) (KS := fun g => [(0, .slice a l.length c), (1, iv b), (5, .slice g.2.1 (ofK l b g.1).length g.2.2), (6, iv g.1)]) (OS := fun g => [.row (.slice g.2.1 (ofK l b g.1).length g.2.2) 3 1 (ofK l b g.1).length (flat ei (ofK l b g.1))]) (VS := fun g V' => Le V V' ∧ g.1 ≤ l.length) (μ := fun g => l.length - g.1) (0, none, 0) ?_ ?_ ?_ ?_
  · exact ⟨rfl, rfl, rfl, rfl, trivial⟩
  · exact Pt.auto
  · exact ⟨Le.refl _, Nat.zero_le _⟩
  · rintro ⟨k, ao, co⟩ V' ks' O' ⟨hVV, hkl⟩ hk hO hl2
    dsimp only at hkl hk hO
    subst hk hO
    have hs' := hs.le hVV
    have hkn := ofK_len l b k
    refine At.nrm ?_
    refine At.ktext (.q 0 (.q 1 (.q 2 (.q 3 .done)))) ?_
    refine AtT.kmove ?_
    refine AtT.kmove ?_
    first | refine AtT.klenS Try.underlying27 ?_ | refine AtT.klenR Try.underlying27 ?_
    refine AtT.klss ?_
    refine AtT.done ?_
    refine At.nrm ?_
    refine At.condP rfl (fun hp => ?_) (fun hp => ?_)
    · obtain ⟨x, hx⟩ : ∃ x, l[k]? = some x := ⟨_, List.getElem?_eq_getElem (by omega)⟩
      have hgx : l.getD k 0 = x := by simp [List.getD, hx]
      refine At.nrm ?_
      refine At.ktext (.q 0 (.q 1 (.q 2 (.q 3 (.q 4 (.q 5 .done)))))) ?_
      refine AtT.kmove ?_
      refine AtT.kmove ?_
      refine AtT.kidx Try.underlying27 tk3 ?_
      intro p15 e15 he15 hc15
      obtain rfl : e15 = x := by have : l[k]? = some e15 := (by simpa using he15); rw [hx] at this; simpa using this.symm
      first | refine AtT.kloadO tk3 ?_ | refine AtT.kload tk3 ?_
      refine AtT.kmove ?_
      refine AtT.keqI ?_
      refine AtT.done ?_
      refine At.nrm ?_
      refine At.condP rfl (fun hc => ?_) (fun hc => ?_)
      · have hn : ofK l b (k + 1) = ofK l b k ++ [(k : Int)] := by simp only [ofK, hgx, hc, if_true]
        refine At.nrm ?_
        refine At.ktext (.q 0 (.q 1 (.n false 2 (.n true 3 (.q 4 .done))))) ?_
        refine AtT.kmove ?_
        refine AtT.kmove ?_
        refine AtT.kbsliceG (bs27_1_0 _) ?_
        intro q21 V21 hV21 hq21
        have g21 : Le V V21 := by first | exact hV21 | exact Le.trans (by assumption) hV21
        first | refine AtT.kappend Try.underlying27 rw3 ?_
        intro a22 c22
        refine AtT.kassign ?_
        refine AtT.done ?_
        refine At.nrm ?_
        refine At.ktext (.q 0 (.q 1 (.q 2 .done))) ?_
        refine AtT.kmove ?_
        first | refine AtT.kadd ?_ | refine AtT.kaddW ?_
        refine AtT.kassign ?_
        refine AtT.done ?_
        refine At.nrm ?_
        refine At.round (k + 1, a22, c22) ?_ ?_ ?_ ?_
        · show l.length - (k + 1) < l.length - k; omega
        · exact ⟨hVV.trans (by assumption), by dsimp only; omega⟩
        · dsimp only; rw [hn, List.length_append]; exact ⟨rfl, rfl, rfl, ivs (by omega), trivial⟩
        dsimp only
        rw [hn, flat_snoc, List.length_append]
        · exact Pt.auto
      · have hn : ofK l b (k + 1) = ofK l b k := by simp only [ofK, hgx, hc, if_false]
        refine At.nrm ?_
        refine At.ktext (.q 0 (.q 1 (.q 2 .done))) ?_
        refine AtT.kmove ?_
        first | refine AtT.kadd ?_ | refine AtT.kaddW ?_
        refine AtT.kassign ?_
        refine AtT.done ?_
        refine At.nrm ?_
        refine At.round (k + 1, ao, co) ?_ ?_ ?_ ?_
        · show l.length - (k + 1) < l.length - k; omega
        · exact ⟨hVV, by dsimp only; omega⟩
        · dsimp only; rw [hn]; exact ⟨rfl, rfl, rfl, ivs (by omega), trivial⟩
        dsimp only
        rw [hn]
        · exact Pt.auto
    · obtain rfl : k = l.length := by omega
      refine At.nrm ?_
      refine At.ktext (.q 0 (.q 1 .done)) ?_
      refine AtT.kmove ?_
      refine AtT.kassign ?_
      refine AtT.done ?_
      refine At.nrm ?_
      refine At.giveSl Lw.ei_len rfl rfl Pick.auto (fun V4 hV4 hs4 => ?_)
      exact At.ret1 rfl (.tmp rfl) hs4
end Go.Proofs.Ytmnbkceiaifncaa
set_option linter.unusedVariables false
namespace Go.Proofs.Ytmnbkceiaifncaa
open Go.Lw Go.Gl Go.RowKit

theorem rspan_f (x y : Int) (hx : -1000 ≤ x) (hy : y ≤ 1000) (V : View) : Fnc Try.prog 77 [iv x, iv y] V fun r V' => SlI V' r (fromTo x y) := by
  have hlen := fromTo_len x y
  refine fn_of Try.func77 rfl Try.ntmps77 (Nat.le_of_ble_eq_true rfl) ?_
  intro w0 hw0
  refine At.nrm ?_
  refine At.ktext (.q 0 .done) ?_
  refine AtT.kassign ?_
  refine AtT.done ?_
  refine At.nrm ?_
  refine At.ktext (.q 0 .done) ?_
  refine AtT.kassign ?_
  refine AtT.done ?_
  refine At.nrm ?_
  refine At.ktext (.q 0 (.q 1 .done)) ?_
  refine AtT.kmove ?_
  refine AtT.kassign ?_
  refine AtT.done ?_
  refine At.nrm ?_
  refine At.newRow 3 1 ?_
  refine At.lp (ι := Nat × Option Addr × Nat) (KS := fun g => [(1, iv y), (5, .slice g.2.1 g.1 g.2.2), (6, iv (x + (g.1 : Int)))]) (OS := fun g => [.row (.slice g.2.1 g.1 g.2.2) 3 1 g.1 (flat ei ((fromTo x y).take g.1))]) (VS := fun g V' => Le V V' ∧ g.1 ≤ (y + 1 - x).toNat) (μ := fun g => (y + 1 - x).toNat - g.1) (0, none, 0) ?_ ?_ ?_ ?_
  · exact ⟨rfl, rfl, ivs (by dsimp only; omega), trivial⟩
  · exact Pt.auto
  · exact ⟨Le.refl _, Nat.zero_le _⟩
  · rintro ⟨k, ao, co⟩ V' ks' O' ⟨hVV, hkl⟩ hk hO hl2
    dsimp only at hkl hk hO
    subst hk hO
    refine At.nrm ?_
    refine At.ktext (.q 0 (.q 1 (.q 2 .done))) ?_
    refine AtT.kmove ?_
    refine AtT.kmove ?_
    refine AtT.kleq ?_
    refine AtT.done ?_
    refine At.nrm ?_
    refine At.condP rfl (fun hp => ?_) (fun hp => ?_)
    · have hkx := fromTo_at (a := x) (b := y) (k := k) (by omega)
      refine At.nrm ?_
      refine At.ktext (.q 0 (.q 1 (.n false 2 (.n true 3 (.q 4 .done))))) ?_
      refine AtT.kmove ?_
      refine AtT.kmove ?_
      refine AtT.kbsliceG (bs27_1_0 _) ?_
      intro q15 V15 hV15 hq15
      have g15 : Le V V15 := by first | exact hV15 | exact Le.trans (by assumption) hV15
      first | refine AtT.kappend Try.underlying27 rw3 ?_
      intro a16 c16
      refine AtT.kassign ?_
      refine AtT.done ?_
      refine At.nrm ?_
      refine At.ktext (.q 0 (.q 1 (.q 2 .done))) ?_
      refine AtT.kmove ?_
      first | refine AtT.kadd ?_ | refine AtT.kaddW ?_
      refine AtT.kassign ?_
      refine AtT.done ?_
      refine At.nrm ?_
      refine At.round (k + 1, a16, c16) ?_ ?_ ?_ ?_
      · show (y + 1 - x).toNat - (k + 1) < (y + 1 - x).toNat - k; omega
      · exact ⟨hVV.trans (by assumption), by dsimp only; omega⟩
      · exact ⟨rfl, rfl, ivs (by dsimp only; omega), trivial⟩
      dsimp only
      rw [take_snoc' hkx, flat_snoc]
      · exact Pt.auto
    · have hkk : (fromTo x y).length ≤ k := by omega
      rw [List.take_of_length_le hkk]
      refine At.nrm ?_
      refine At.ktext (.q 0 (.q 1 .done)) ?_
      refine AtT.kmove ?_
      refine AtT.kassign ?_
      refine AtT.done ?_
      refine At.nrm ?_
      refine At.giveSl (l := fromTo x y) (m := k) Lw.ei_len rfl (by omega) Pick.auto (fun V4 hV4 hs4 => ?_)
      exact At.ret1 rfl (.tmp rfl) hs4

theorem ints_f (l m : List Int) (V : View) (v u : Value) (hs : SlI V v l) (hu : SlI V u m) : Fnc Try.prog 32 [v, u] V fun r _ => r = .bool (decide (l = m)) := by
  have hlen := hs.lenLe
  obtain ⟨a, c, rfl, k1, k2, _⟩ := id hs
  obtain ⟨a', c', rfl, k3, k4, _⟩ := id hu
  clear k1 k2 k3 k4
  refine fn_of Try.func32 rfl Try.ntmps32 (Nat.le_of_ble_eq_true rfl) ?_
  intro w0 hw0
  refine At.nrm ?_
  refine At.ktext (.q 0 .done) ?_
  refine AtT.kassign ?_
  refine AtT.done ?_
  refine At.nrm ?_
  refine At.ktext (.q 0 (.q 1 (.q 2 (.q 3 (.q 4 .done))))) ?_
  refine AtT.kmove ?_
  first | refine AtT.klenS Try.underlying27 ?_ | refine AtT.klenR Try.underlying27 ?_
  refine AtT.kmove ?_
  first | refine AtT.klenS Try.underlying27 ?_ | refine AtT.klenR Try.underlying27 ?_
  refine AtT.kneI ?_
  refine AtT.done ?_
  refine At.nrm ?_
  refine At.condP rfl (fun hb => ?_) (fun hb => ?_)
  · refine At.nrm ?_
    refine At.ktext (.q 0 .done) ?_
    refine AtT.kassign ?_
    refine AtT.done ?_
    refine At.nrm ?_
    refine At.ret1 rfl (.tmp rfl) ?_
    rw [decide_eq_false]
    rintro rfl
    exact hb rfl
  have hlm : l.length = m.length := by omega
  refine At.nrm ?_
  refine At.ktext (.q 0 .done) ?_
  refine AtT.kassign ?_
  refine AtT.done ?_
  refine At.nrm ?_
  refine At.lp (ι := Nat) (KS := fun k => [(0, .slice a l.length c), (1, .slice a' m.length c'), (5, iv k)]) (OS := fun _ => []) (VS := fun k V' => V' = V ∧ k ≤ l.length ∧ ∀ j, j < k → l[j]? = m[j]?) (μ := fun k => l.length - k) 0 ?_ ?_ ?_ ?_
  · exact ⟨rfl, rfl, rfl, trivial⟩
  · exact Pt.auto
  · exact ⟨rfl, Nat.zero_le _, fun j hj => absurd hj (Nat.not_lt_zero j)⟩
  · rintro k V' ks' O' ⟨rfl, hkl, hok⟩ hk hO hl2
    subst hk hO
    refine At.nrm ?_
    refine At.ktext (.q 0 (.q 1 (.q 2 (.q 3 .done)))) ?_
    refine AtT.kmove ?_
    refine AtT.kmove ?_
    first | refine AtT.klenS Try.underlying27 ?_ | refine AtT.klenR Try.underlying27 ?_
    refine AtT.klss ?_
    refine AtT.done ?_
    refine At.nrm ?_
    refine At.condP rfl (fun hp => ?_) (fun hp => ?_)
    · obtain ⟨x, hx⟩ : ∃ x, l[k]? = some x := ⟨_, List.getElem?_eq_getElem (by omega)⟩
      obtain ⟨y, hy⟩ : ∃ y, m[k]? = some y := ⟨_, List.getElem?_eq_getElem (by omega)⟩
      refine At.nrm ?_
      refine At.draw (.q 0 (.q 1 (.q 2 (.q 3 (.q 4 (.q 5 (.q 6 (.q 7 (.q 8 .done))))))))) ffm (by kernel_rfl) ?_
      refine AtT.kmove ?_
      refine AtT.kmove ?_
      refine AtT.kidx Try.underlying27 tk3 ?_
      intro p19 e19 he19 hc19
      obtain rfl : e19 = x := by have : l[k]? = some e19 := (by simpa using he19); rw [hx] at this; simpa using this.symm
      first | refine AtT.kloadO tk3 ?_ | refine AtT.kload tk3 ?_
      refine AtT.kmove ?_
      refine AtT.kmove ?_
      refine AtT.kidx Try.underlying27 tk3 ?_
      intro p23 e23 he23 hc23
      obtain rfl : e23 = y := by have : m[k]? = some e23 := (by simpa using he23); rw [hy] at this; simpa using this.symm
      first | refine AtT.kloadO tk3 ?_ | refine AtT.kload tk3 ?_
      refine AtT.kneI ?_
      refine AtT.done ?_
      refine At.nrm ?_
      refine At.condP rfl (fun hc => ?_) (fun hc => ?_)
      · refine At.nrm ?_
        refine At.ktext (.q 0 .done) ?_
        refine AtT.kassign ?_
        refine AtT.done ?_
        refine At.nrm ?_
        refine At.ret1 rfl (.tmp rfl) ?_
        rw [decide_eq_false]
        rintro rfl
        rw [hx] at hy
        cases hy
        exact hc rfl
      · have hxy : l[k]? = m[k]? := by rw [hx, hy, Decidable.not_not.1 hc]
        refine At.nrm ?_
        refine At.ktext (.q 0 (.q 1 (.q 2 .done))) ?_
        refine AtT.kmove ?_
        first | refine AtT.kadd ?_ | refine AtT.kaddW ?_
        refine AtT.kassign ?_
        refine AtT.done ?_
        refine At.nrm ?_
        refine At.round (k + 1) ?_ ?_ ?_ ?_
        · show l.length - (k + 1) < l.length - k; omega
        · refine ⟨rfl, by omega, fun j hj => ?_⟩
          by_cases hjk : j = k
          · subst hjk; exact hxy
          · exact hok j (by omega)
        · exact ⟨rfl, rfl, ivs (by omega), trivial⟩
        · exact Pt.auto
    · obtain rfl : k = l.length := by omega
      have hlm2 : l = m := List.ext_getElem? fun j => by
        by_cases hj : j < l.length
        · exact hok j hj
        · rw [List.getElem?_eq_none (by omega), List.getElem?_eq_none (by omega)]
      refine At.nrm ?_
      refine At.ktext (.q 0 .done) ?_
      refine AtT.kassign ?_
      refine AtT.done ?_
      refine At.nrm ?_
      exact At.ret1 rfl (.tmp rfl) (by rw [decide_eq_true hlm2])
end Go.Proofs.Ytmnbkceiaifncaa
set_option linter.unusedVariables false
namespace Go.Gl
theorem bitL_len (A : Nat) : ∀ k, (bitL A k).length ≤ k
  | 0 => Nat.le_refl 0
  | k + 1 => by
    have := bitL_len A k
    simp only [bitL]; split
    · simp; omega
    · omega
theorem bit_iff (A k : Nat) : ((A >>> k &&& 1 : Nat) : Int) = 1 ↔ A.testBit k = true := by
  rw [Nat.and_one_is_mod, Nat.shiftRight_eq_div_pow, Nat.testBit_eq_decide_div_mod_eq, decide_eq_true_eq]
  omega
end Go.Gl
namespace Go.Proofs.Ytmnbkceiaifncaa
open Go.Lw Go.Gl Go.RowKit
theorem bits_f (A n : Nat) (hA : A < 9223372036854775808) (hn : n ≤ 60) (V : View) : Fnc Try.prog 49 [iv A, iv n] V fun r V' => SlI V' r (bitL A n) := by
  refine fn_of Try.func49 rfl Try.ntmps49 (Nat.le_of_ble_eq_true rfl) ?_
  intro w0 hw0
  refine At.nrm ?_
  refine At.ktext (.q 0 .done) ?_
  refine AtT.kassign ?_
  refine AtT.done ?_
  refine At.nrm ?_
  refine At.ktext (.q 0 .done) ?_
  refine AtT.kassign ?_
  refine AtT.done ?_
  refine At.nrm ?_
  refine At.ktext (.q 0 .done) ?_
  refine AtT.kassign ?_
  refine AtT.done ?_
  refine At.nrm ?_
  refine At.newRow 3 1 ?_
  refine At.lp (ι := Nat × Option Addr × Nat) (KS := fun g => [(0, iv A), (1, iv n), (5, .slice g.2.1 (bitL A g.1).length g.2.2), (6, iv g.1)]) (OS := fun g => [.row (.slice g.2.1 (bitL A g.1).length g.2.2) 3 1 (bitL A g.1).length (flat ei (bitL A g.1))]) (VS := fun g V' => Le V V' ∧ g.1 ≤ n) (μ := fun g => n - g.1) (0, none, 0) ?_ ?_ ?_ ?_
  · exact ⟨rfl, rfl, rfl, rfl, trivial⟩
  · exact Pt.auto
  · exact ⟨Le.refl _, Nat.zero_le _⟩
  · rintro ⟨k, ao, co⟩ V' ks' O' ⟨hVV, hkl⟩ hk hO hl2
    dsimp only at hkl hk hO
    subst hk hO
    have hkn := bitL_len A k
    refine At.nrm ?_
    refine At.ktext (.q 0 (.q 1 (.q 2 .done))) ?_
    refine AtT.kmove ?_
    refine AtT.kmove ?_
    refine AtT.klss ?_
    refine AtT.done ?_
    refine At.nrm ?_
    refine At.condP rfl (fun hp => ?_) (fun hp => ?_)
    · have hsr : A >>> k < 9223372036854775808 := Nat.lt_of_le_of_lt (by rw [Nat.shiftRight_eq_div_pow]; exact Nat.div_le_self _ _) hA
      refine At.nrm ?_
      refine At.ktext (.q 0 (.q 1 (.q 2 (.q 3 (.q 4 .done))))) ?_
      refine AtT.kmove ?_
      refine AtT.kmove ?_
      refine AtT.shrN rfl trivial rfl rfl rfl rfl (by omega) (by decide) (A := A) (N := k) ?_
      refine AtT.andN rfl trivial rfl rfl rfl rfl hsr (by decide) (by decide) (A := A >>> k) (B := 1) ?_
      refine AtT.keqI ?_
      refine AtT.done ?_
      refine At.nrm ?_
      refine At.condP rfl (fun hc => ?_) (fun hc => ?_)
      · have hb : A.testBit k = true := (bit_iff A k).1 hc
        have hn2 : bitL A (k + 1) = bitL A k ++ [(k : Int)] := by simp only [bitL, hb, if_true]
        refine At.nrm ?_
        refine At.ktext (.q 0 (.q 1 (.n false 2 (.n true 3 (.q 4 .done))))) ?_
        refine AtT.kmove ?_
        refine AtT.kmove ?_
        refine AtT.kbsliceG (bs27_1_0 _) ?_
        intro q19 V19 hV19 hq19
        have g19 : Le V V19 := by first | exact hV19 | exact Le.trans (by assumption) hV19
        first | refine AtT.kappend Try.underlying27 rw3 ?_
        intro a20 c20
        refine AtT.kassign ?_
        refine AtT.done ?_
        refine At.nrm ?_
        refine At.ktext (.q 0 (.q 1 (.q 2 .done))) ?_
        refine AtT.kmove ?_
        first | refine AtT.kadd ?_ | refine AtT.kaddW ?_
        refine AtT.kassign ?_
        refine AtT.done ?_
        refine At.nrm ?_
        refine At.round (k + 1, a20, c20) ?_ ?_ ?_ ?_
        · show n - (k + 1) < n - k; omega
        · exact ⟨hVV.trans (by assumption), by dsimp only; omega⟩
        · dsimp only; rw [hn2, List.length_append]; exact ⟨rfl, rfl, rfl, ivs (by omega), trivial⟩
        dsimp only
        rw [hn2, flat_snoc, List.length_append]
        · exact Pt.auto
      · have hb : ¬ A.testBit k = true := fun h => hc ((bit_iff A k).2 h)
        have hn2 : bitL A (k + 1) = bitL A k := by simp only [bitL, if_neg hb]
        refine At.nrm ?_
        refine At.ktext (.q 0 (.q 1 (.q 2 .done))) ?_
        refine AtT.kmove ?_
        first | refine AtT.kadd ?_ | refine AtT.kaddW ?_
        refine AtT.kassign ?_
        refine AtT.done ?_
        refine At.nrm ?_
        refine At.round (k + 1, ao, co) ?_ ?_ ?_ ?_
        · show n - (k + 1) < n - k; omega
        · exact ⟨hVV, by dsimp only; omega⟩
        · dsimp only; rw [hn2]; exact ⟨rfl, rfl, rfl, ivs (by omega), trivial⟩
        dsimp only
        rw [hn2]
        · exact Pt.auto
    · obtain rfl : k = n := by omega
      refine At.nrm ?_
      refine At.ktext (.q 0 (.q 1 .done)) ?_
      refine AtT.kmove ?_
      refine AtT.kassign ?_
      refine AtT.done ?_
      refine At.nrm ?_
      refine At.giveSl Lw.ei_len rfl rfl Pick.auto (fun V4 hV4 hs4 => ?_)
      exact At.ret1 rfl (.tmp rfl) hs4
end Go.Proofs.Ytmnbkceiaifncaa
namespace Go.Gl
/-- The first panels of the batches of the best row. -/
def mkL (B : Bn) : Nat → List Int
  | 0 => []
  | k + 1 => if mkL B k = [] ∨ fitE B (sumL B (fromTo ((mkL B k).getLastD 0) (k : Int))) ≠ 0 then mkL B k ++ [(k : Int)] else mkL B k
theorem mkL_at {B : Bn} (hf : FineB B) : ∀ k, k < B.each.length → mkL B (k + 1) ≠ [] ∧ (mkL B (k + 1)).getLastD 0 = ((rowF B (k + 1)).1 : Int) ∧ (mkL B (k + 1)).length = (rowF B (k + 1)).2 + 1
  | 0, h => by
    rw [rowF_one hf h]
    simp [mkL]
  | k + 1, h => by
    obtain ⟨a, b, c⟩ := mkL_at hf k (by omega)
    have e : fitE B (sumL B (fromTo ((mkL B (k + 1)).getLastD 0) ((k + 1 : Nat) : Int))) = fitE B (sm B (fun i => decide ((rowF B (k + 1)).1 ≤ i)) (k + 1 + 1)) := by rw [b, sum_spanT]
    rw [mkL, e]
    by_cases d : fitE B (sm B (fun i => decide ((rowF B (k + 1)).1 ≤ i)) (k + 1 + 1)) = 0
    · rw [rowF_same d, if_neg (by rw [d]; simp [a])]
      exact ⟨a, b, c⟩
    · rw [rowF_new d, if_pos (.inr d)]
      simp [c]
theorem mkL_lt (B : Bn) : ∀ k, ∀ x ∈ mkL B k, 0 ≤ x ∧ x < (k : Int)
  | 0, x, h => by simp [mkL] at h
  | k + 1, x, h => by
    have ih := mkL_lt B k
    rw [mkL] at h
    split at h
    · rcases List.mem_append.1 h with h | h
      · have := ih x h; push_cast; omega
      · simp at h; omega
    · have := ih x h; push_cast; omega
theorem mkL_len (B : Bn) : ∀ k, (mkL B k).length ≤ k
  | 0 => Nat.le_refl 0
  | k + 1 => by
    have ih := mkL_len B k
    rw [mkL]; split
    · simp; omega
    · omega
theorem mkL_pre (B : Bn) : ∀ {k n : Nat}, k ≤ n → ∃ l, mkL B n = mkL B k ++ l ∧ ∀ x ∈ l, (k : Int) ≤ x := by
  intro k n h
  induction n with
  | zero => obtain rfl : k = 0 := by omega
            exact ⟨[], by simp, fun x hx => by cases hx⟩
  | succ n ih =>
    by_cases c : k = n + 1
    · subst c; exact ⟨[], by simp, fun x hx => by cases hx⟩
    · obtain ⟨l, e, hl⟩ := ih (by omega)
      rw [mkL]
      split
      · refine ⟨l ++ [(n : Int)], by rw [e]; simp, fun x hx => ?_⟩
        rcases List.mem_append.1 hx with h | h
        · exact hl x h
        · simp at h; omega
      · exact ⟨l, e, hl⟩
/-- Where a number stands among the marks. -/
theorem mk_pos {B : Bn} (hf : FineB B) {t : Nat} (ht : t < B.each.length) {j : Nat} (hj : j ≤ (mkL B B.each.length).length) (h1 : ∀ q, q < j → (mkL B B.each.length).getD q 0 < (t : Int))
    (h2 : ∀ q, j ≤ q → q < (mkL B B.each.length).length → (t : Int) ≤ (mkL B B.each.length).getD q 0) :
    (if j < (mkL B B.each.length).length ∧ (mkL B B.each.length).getD j 0 = (t : Int) then (j : Int) else (j : Int) - 1) = ((rowF B (t + 1)).2 : Int) := by
  obtain ⟨l, e, hl⟩ := mkL_pre B (show t + 1 ≤ B.each.length by omega)
  obtain ⟨_, _, hc⟩ := mkL_at hf t ht
  have hlow := mkL_lt B (t + 1)
  have g1 : ∀ q, q < (mkL B (t + 1)).length → (mkL B B.each.length).getD q 0 ≤ (t : Int) := fun q hq => by
    have : (mkL B B.each.length).getD q 0 = (mkL B (t + 1)).getD q 0 := by
      simp only [List.getD, e, List.getElem?_append_left hq]
    rw [this]
    have := hlow _ (getD_mem hq)
    omega
  have g2 : ∀ q, (mkL B (t + 1)).length ≤ q → q < (mkL B B.each.length).length → (t : Int) < (mkL B B.each.length).getD q 0 := fun q hq hq2 => by
    have e2 : (mkL B B.each.length).getD q 0 = l.getD (q - (mkL B (t + 1)).length) 0 := by
      simp only [List.getD, e, List.getElem?_append_right hq]
    rw [e2]
    have := hl _ (getD_mem (l := l) (i := q - (mkL B (t + 1)).length) (by rw [e, List.length_append] at hq2; omega))
    omega
  have hle : (mkL B (t + 1)).length ≤ (mkL B B.each.length).length := by rw [e, List.length_append]; omega
  by_cases c : j < (mkL B B.each.length).length ∧ (mkL B B.each.length).getD j 0 = (t : Int)
  · rw [if_pos c]
    have a1 : j < (mkL B (t + 1)).length := by
      by_cases d : j < (mkL B (t + 1)).length
      · exact d
      · have := g2 j (by omega) c.1; omega
    have a2 : ¬ j + 1 < (mkL B (t + 1)).length := fun d => by
      have b1 := g1 (j + 1) d
      have b2 := h2 (j + 1) (by omega) (by omega)
      -- two marks that are the same
      have hs : ∀ k, ∀ q, q + 1 < (mkL B k).length → (mkL B k).getD q 0 < (mkL B k).getD (q + 1) 0 := by
        intro k
        induction k with
        | zero => intro q hq; simp [mkL] at hq
        | succ k ih =>
          intro q hq
          rw [mkL] at hq ⊢
          split at hq
          · rename_i hc2
            rw [if_pos hc2]
            rw [List.length_append] at hq
            simp only [List.length_cons, List.length_nil] at hq
            by_cases d2 : q + 1 < (mkL B k).length
            · simp only [List.getD, List.getElem?_append_left (show q < (mkL B k).length by omega), List.getElem?_append_left d2]
              exact ih q d2
            · have e3 : q + 1 = (mkL B k).length := by omega
              have m1 : (mkL B k ++ [(k : Int)]).getD (q + 1) 0 = (k : Int) := by simp [List.getD, e3]
              have m2 : (mkL B k ++ [(k : Int)]).getD q 0 = (mkL B k).getD q 0 := by simp only [List.getD, List.getElem?_append_left (show q < (mkL B k).length by omega)]
              rw [m1, m2]
              exact (mkL_lt B k _ (getD_mem (by omega))).2
          · rename_i hc2
            rw [if_neg hc2]
            exact ih q hq
      have := hs B.each.length j (by omega)
      omega
    omega
  · rw [if_neg c]
    have a1 : ¬ j < (mkL B (t + 1)).length := fun d => by
      have b1 := g1 j d
      have b2 := h2 j (Nat.le_refl j) (by omega)
      exact c ⟨by omega, by omega⟩
    have a2 : ¬ (mkL B (t + 1)).length < j := fun d => by
      have b1 := h1 _ d
      have b2 := g2 _ (Nat.le_refl _) (by omega)
      omega
    omega

/-- Marks prove: for any two that follow one another the panels from the one to the other one do not share a batch. -/
def mkAt (B : Bn) (ms : List Int) (k : Nat) : Bool := decide (k = 0 ∨ fitE B (sumL B (fromTo (ms.getD (k - 1) 0) (ms.getD k 0))) ≠ 0)
def mksB (B : Bn) (ms : List Int) : Bool := (List.range ms.length).all (mkAt B ms)
theorem mksB_true {B : Bn} {l : List Int} (h : ∀ j, j < l.length → mkAt B l j = true) : mksB B l = true := by
  unfold mksB; rw [List.all_eq_true]; intro j hj; exact h j (List.mem_range.1 hj)
theorem mksB_at {B : Bn} {l : List Int} (h : mksB B l = true) {j : Nat} (hj : j < l.length) : mkAt B l j = true := by
  unfold mksB at h; rw [List.all_eq_true] at h; exact h j (List.mem_range.2 hj)
theorem mksB_false {B : Bn} {l : List Int} {k : Nat} (hk : k < l.length) (h : mkAt B l k = false) : mksB B l = false := by
  cases hb : mksB B l with
  | false => rfl
  | true => rw [mksB_at hb hk] at h; cases h
/-- What CheckMarks answers. -/
def mkR (d : Dy) (ps : List Pn) (sure : Bool) (ms : List Int) : Int × Int :=
  if bothE d ps ≠ 0 then (0, bothE d ps) else if lstB ms ps.length = false then (0, 2) else if mksB (bn d ps sure) ms = false then (0, 14) else (ms.length, 0)

theorem lst_mono {l : List Int} {n : Int} (h : lstB l n = true) : ∀ k, k + 1 < l.length → l.getD k 0 < l.getD (k + 1) 0 := fun k hk => by
  have : l.getD k 0 + 1 ≤ l.getD (k + 1) 0 := (of_decide_eq_true (lstB_at h hk)).2.1
  omega
/-- No good row has fewer batches than marks prove. -/
theorem marks_le {B : Bn} (hB : BnOk B) {l ms : List Int} (hm : Mono l) (h0 : ∀ x ∈ l, 0 ≤ x) (hl : l.length = B.each.length) (hg : Good B l) (hms : lstB ms (B.each.length : Int) = true) (hp : mksB B ms = true) : (ms.length : Int) ≤ batN l := by
  have hin := lstB_in hms
  have key : ∀ k, k < ms.length → (k : Int) ≤ l.getD (ms.getD k 0).toNat 0 := by
    intro k
    induction k with
    | zero =>
      intro hk
      have := hin _ (getD_mem hk)
      exact h0 _ (getD_mem (by omega))
    | succ k ih =>
      intro hk
      have ih := ih (by omega)
      have a := hin _ (getD_mem (l := ms) (i := k) (by omega))
      have b := hin _ (getD_mem hk)
      have c := lst_mono hms k hk
      have hmm := hm (ms.getD k 0).toNat (ms.getD (k + 1) 0).toNat (by omega) (by omega)
      have d := mksB_at hp hk
      unfold mkAt at d
      rw [decide_eq_true_eq] at d
      rcases d with d | d
      · omega
      · by_cases e : l.getD (ms.getD k 0).toNat 0 = l.getD (ms.getD (k + 1) 0).toNat 0
        · exfalso
          apply d
          have e1 : fromTo (ms.getD k 0) (ms.getD (k + 1) 0) = fromTo (((ms.getD k 0).toNat : Nat) : Int) (((ms.getD (k + 1) 0).toNat : Nat) : Int) := by congr 1 <;> omega
          rw [show k + 1 - 1 = k from rfl, e1, sum_spanT]
          refine fit_mono (sm_sub hB (n := l.length) (q := fun i => decide (l.getD i 0 = l.getD (ms.getD k 0).toNat 0)) (by omega) (fun i hi hpi => ?_)) (hg _)
          rw [decide_eq_true_eq] at hpi ⊢
          have f1 := hm (ms.getD k 0).toNat i hpi (by omega)
          have f2 := hm i (ms.getD (k + 1) 0).toNat (by omega) (by omega)
          omega
        · push_cast; omega
  by_cases c : ms.length = 0
  · have := batN_pos l; omega
  · have a := key (ms.length - 1) (by omega)
    have b := hin _ (getD_mem (l := ms) (i := ms.length - 1) (by omega))
    have := batN_gt (getD_mem (l := l) (i := (ms.getD (ms.length - 1) 0).toNat) (by omega))
    omega
theorem mk_at (B : Bn) : ∀ n, n ≤ B.each.length → (∀ k, k < (mkL B n).length → okAt (mkL B n) (B.each.length : Int) k = true) ∧ ∀ k, k < (mkL B n).length → mkAt B (mkL B n) k = true := by
  intro n
  induction n with
  | zero => intro _; exact ⟨fun k hk => by simp [mkL] at hk, fun k hk => by simp [mkL] at hk⟩
  | succ n ih =>
    intro hn
    obtain ⟨h1, h2⟩ := ih (by omega)
    rw [mkL]
    by_cases c : mkL B n = [] ∨ fitE B (sumL B (fromTo ((mkL B n).getLastD 0) (n : Int))) ≠ 0
    · rw [if_pos c]
      have g1 : ∀ q, q < (mkL B n).length → (mkL B n ++ [(n : Int)]).getD q 0 = (mkL B n).getD q 0 := fun q hq => by simp only [List.getD, List.getElem?_append_left hq]
      have g2 : (mkL B n ++ [(n : Int)]).getD (mkL B n).length 0 = (n : Int) := by simp [List.getD]
      have hlt := mkL_lt B n
      refine ⟨fun k hk => ?_, fun k hk => ?_⟩
      · rw [List.length_append] at hk
        simp only [List.length_cons, List.length_nil] at hk
        by_cases d : k < (mkL B n).length
        · have a := h1 k d
          simp only [okAt, decide_eq_true_eq] at a ⊢
          rw [g1 k d]
          have e : prevN (mkL B n ++ [(n : Int)]) k = prevN (mkL B n) k := by
            match k with
            | 0 => rfl
            | k + 1 => simp only [prevN]; rw [g1 k (by omega)]
          rw [e]; exact a
        · obtain rfl : k = (mkL B n).length := by omega
          simp only [okAt, decide_eq_true_eq]
          rw [g2]
          refine ⟨by omega, ?_, by omega⟩
          match hk2 : (mkL B n).length with
          | 0 => simp only [prevN]; omega
          | m + 1 =>
            simp only [prevN]
            rw [g1 m (by omega)]
            have := hlt _ (getD_mem (l := mkL B n) (i := m) (by omega))
            omega
      · rw [List.length_append] at hk
        simp only [List.length_cons, List.length_nil] at hk
        by_cases d : k < (mkL B n).length
        · have a := h2 k d
          unfold mkAt at a ⊢
          rw [decide_eq_true_eq] at a ⊢
          rw [g1 k d]
          by_cases e : k = 0
          · exact .inl e
          · rw [g1 (k - 1) (by omega)]; exact a
        · obtain rfl : k = (mkL B n).length := by omega
          unfold mkAt
          rw [decide_eq_true_eq, g2]
          by_cases e : (mkL B n).length = 0
          · exact .inl e
          · rw [g1 _ (by omega)]
            refine .inr ?_
            have hne : mkL B n ≠ [] := fun h => e (by rw [h]; rfl)
            have e2 : (mkL B n).getD ((mkL B n).length - 1) 0 = (mkL B n).getLastD 0 := by
              rw [List.getLastD_eq_getLast?, List.getLast?_eq_getElem?]; rfl
            rw [e2]
            rcases c with c | c
            · exact absurd c hne
            · exact c
    · rw [if_neg c]; exact ⟨h1, h2⟩
theorem mk_lst (B : Bn) : lstB (mkL B B.each.length) (B.each.length : Int) = true := lstB_true (mk_at B _ (Nat.le_refl _)).1
theorem mk_mks (B : Bn) : mksB B (mkL B B.each.length) = true := mksB_true (mk_at B _ (Nat.le_refl _)).2
/-- As many marks as the best row has batches. -/
theorem mk_len {B : Bn} (hf : FineB B) : ((mkL B B.each.length).length : Int) = batN (rowL B) := by
  match h : B.each.length with
  | 0 => unfold rowL; rw [h]; rfl
  | n + 1 =>
    have a := (mkL_at hf n (by omega)).2.2
    have b := rowO_bat hf (by omega) n
    unfold rowL
    rw [h, b, a]
    push_cast; rfl
end Go.Gl
namespace Go.Gl
/-- What each batch has of the first k panels. -/
def outK (B : Bn) (l : List Int) (k : Nat) : List Sm := (List.range (batN (l.take k)).toNat).map fun (j : Nat) => sumL B (ofK l (j : Int) k)
theorem outK_len (B : Bn) (l : List Int) (k : Nat) : (outK B l k).length = (batN (l.take k)).toNat := by simp [outK]
theorem outK_at (B : Bn) (l : List Int) (k : Nat) {j : Nat} (h : j < (batN (l.take k)).toNat) : (outK B l k)[j]? = some (sumL B (ofK l (j : Int) k)) := by
  simp only [outK, List.getElem?_map, List.getElem?_range h]; rfl
theorem pre_bd {l : List Int} : ∀ {k : Nat}, k ≤ l.length → (∀ j, j < k → 0 ≤ l.getD j 0 ∧ l.getD j 0 ≤ batN (l.take j)) → (∀ x ∈ l.take k, 0 ≤ x ∧ x < (k : Int)) ∧ batN (l.take k) ≤ (k : Int)
  | 0, _, _ => ⟨fun x hx => by simp at hx, by simp [batN]⟩
  | k + 1, hk, h => by
    obtain ⟨a, b⟩ := pre_bd (k := k) (by omega) (fun j hj => h j (by omega))
    have c := h k (by omega)
    have e : l[k]? = some (l.getD k 0) := by simp [List.getD, List.getElem?_eq_getElem (show k < l.length by omega)]
    rw [take_snoc' e]
    refine ⟨fun x hx => ?_, ?_⟩
    · rcases List.mem_append.1 hx with hx | hx
      · have := a x hx; push_cast; omega
      · rw [List.mem_singleton] at hx; subst hx; push_cast; omega
    · rw [batN_snoc]; push_cast; omega
theorem ofK_none {l : List Int} {b : Int} : ∀ {k : Nat}, k ≤ l.length → (∀ x ∈ l.take k, x < b) → ofK l b k = []
  | 0, _, _ => rfl
  | k + 1, hk, h => by
    have e : l[k]? = some (l.getD k 0) := by simp [List.getD, List.getElem?_eq_getElem (show k < l.length by omega)]
    rw [take_snoc' e] at h
    have a := ofK_none (l := l) (b := b) (k := k) (by omega) (fun x hx => h x (List.mem_append_left _ hx))
    have c : l.getD k 0 < b := h (l.getD k 0) (List.mem_append_right _ (List.mem_singleton.2 rfl))
    have d : ¬ l.getD k 0 = b := fun hh => by omega
    simp only [ofK, d, if_false, a]
/-- What the batches have with one more of them, if the next panel begins one. -/
def baseK (B : Bn) (l : List Int) (k : Nat) : List Sm := if l.getD k 0 = batN (l.take k) then outK B l k ++ [sm0] else outK B l k
theorem base_len {B : Bn} {l : List Int} {k : Nat} (hk : k < l.length) (h0 : l.getD k 0 ≤ batN (l.take k)) : (baseK B l k).length = (batN (l.take (k + 1))).toNat := by
  have e : l[k]? = some (l.getD k 0) := by simp [List.getD, List.getElem?_eq_getElem hk]
  have := batN_pos (l.take k)
  rw [take_snoc' e, batN_snoc]
  unfold baseK
  split
  · rw [List.length_append, outK_len]; simp only [List.length_cons, List.length_nil]; omega
  · rw [outK_len]; omega
theorem base_at {B : Bn} {l : List Int} {k j : Nat} (hk : k < l.length) (hj : l.getD k 0 = (j : Int)) (h0 : l.getD k 0 ≤ batN (l.take k)) : (baseK B l k)[j]? = some (sumL B (ofK l (j : Int) k)) := by
  unfold baseK
  have := batN_pos (l.take k)
  by_cases c : l.getD k 0 = batN (l.take k)
  · rw [if_pos c, ofK_none (by omega) (fun x hx => by have := batN_gt hx; omega)]
    have : j = (outK B l k).length := by rw [outK_len]; omega
    rw [this]; simp [sumL]
  · rw [if_neg c]
    exact outK_at B l k (by omega)
theorem outK_succ {B : Bn} {l : List Int} {k j : Nat} (hk : k < l.length) (hj : l.getD k 0 = (j : Int)) (h0 : l.getD k 0 ≤ batN (l.take k)) : outK B l (k + 1) = (baseK B l k).set j ((sumL B (ofK l (j : Int) k)).and (eachP B (k : Int))) := by
  have hlen := base_len (B := B) hk h0
  have hp := batN_pos (l.take k)
  have e : l[k]? = some (l.getD k 0) := by simp [List.getD, List.getElem?_eq_getElem hk]
  have hb : batN (l.take (k + 1)) = max (batN (l.take k)) ((j : Int) + 1) := by rw [take_snoc' e, batN_snoc, hj]
  refine List.ext_getElem? fun i => ?_
  by_cases hi : i < (batN (l.take (k + 1))).toNat
  · rw [outK_at B l (k + 1) hi]
    by_cases c : i = j
    · subst c
      rw [List.getElem?_set_self (by omega)]
      simp only [ofK, hj, if_true, sumL_snoc]
    · rw [List.getElem?_set_ne (fun h => c h.symm)]
      have d : ¬ l.getD k 0 = (i : Int) := by omega
      have hil : i < (batN (l.take k)).toNat := by omega
      have e2 : (baseK B l k)[i]? = (outK B l k)[i]? := by
        unfold baseK
        split
        · rw [List.getElem?_append_left (by rw [outK_len]; exact hil)]
        · rfl
      rw [e2, outK_at B l k hil]
      simp only [ofK, d, if_false]
  · rw [List.getElem?_eq_none (by rw [outK_len]; omega), List.getElem?_eq_none (by rw [List.length_set]; omega)]

/-- The error of the first of some batches that is not shared. -/
def fstE (B : Bn) (l : List Int) : Nat → Int
  | 0 => 0
  | k + 1 => if fstE B l k ≠ 0 then fstE B l k else fitE B (sumL B (ofL l (k : Int)))
theorem fstE_bad {B : Bn} {l : List Int} {k : Nat} (h : fstE B l k ≠ 0) : ∀ {n : Nat}, k ≤ n → fstE B l n = fstE B l k
  | 0, hn => by obtain rfl : k = 0 := by omega
                rfl
  | n + 1, hn => by
    by_cases c : k = n + 1
    · subst c; rfl
    · have ih := fstE_bad h (n := n) (by omega)
      simp only [fstE]
      rw [if_pos (by rw [ih]; exact h), ih]
theorem fstE_ok {B : Bn} {l : List Int} : ∀ {n : Nat}, fstE B l n = 0 → ∀ k, k < n → fitE B (sumL B (ofL l (k : Int))) = 0
  | 0, _, k, hk => by omega
  | n + 1, h, k, hk => by
    simp only [fstE] at h
    by_cases c : fstE B l n ≠ 0
    · rw [if_pos c] at h; exact absurd h c
    · rw [if_neg c] at h
      by_cases d : k = n
      · subst d; exact h
      · exact fstE_ok (Decidable.not_not.1 c) k (by omega)
theorem fstE_zero {B : Bn} {l : List Int} : ∀ {n : Nat}, (∀ k, k < n → fitE B (sumL B (ofL l (k : Int))) = 0) → fstE B l n = 0
  | 0, _ => rfl
  | n + 1, h => by
    have ih := fstE_zero (n := n) (fun k hk => h k (by omega))
    simp only [fstE]
    rw [if_neg (by rw [ih]; simp)]
    exact h n (by omega)
def badE (B : Bn) (l : List Int) : Int := fstE B l (batN l).toNat
/-- What CheckRow and CheckPlan answer. -/
def plR (d : Dy) (ps : List Pn) (sure : Bool) (l : List Int) (row : Bool) : Int × Int :=
  if bothE d ps ≠ 0 then (0, bothE d ps) else if l.length ≠ ps.length then (0, 15) else if planB l row = false then (0, 16)
  else if badE (bn d ps sure) l ≠ 0 then (0, badE (bn d ps sure) l) else (batN l, 0)
theorem plR_both {d : Dy} {ps : List Pn} {sure : Bool} {l : List Int} {row : Bool} (h : bothE d ps ≠ 0) : plR d ps sure l row = (0, bothE d ps) := by rw [plR, if_pos h]
theorem plR_len {d : Dy} {ps : List Pn} {sure : Bool} {l : List Int} {row : Bool} (h : bothE d ps = 0) (h1 : l.length ≠ ps.length) : plR d ps sure l row = (0, 15) := by rw [plR, if_neg (by simp [h]), if_pos h1]
theorem plR_plan {d : Dy} {ps : List Pn} {sure : Bool} {l : List Int} {row : Bool} (h : bothE d ps = 0) (h1 : l.length = ps.length) (h2 : planB l row = false) : plR d ps sure l row = (0, 16) := by
  rw [plR, if_neg (by simp [h]), if_neg (by simp [h1]), if_pos h2]
theorem plR_bad {d : Dy} {ps : List Pn} {sure : Bool} {l : List Int} {row : Bool} (h : bothE d ps = 0) (h1 : l.length = ps.length) (h2 : planB l row = true) (h3 : badE (bn d ps sure) l ≠ 0) : plR d ps sure l row = (0, badE (bn d ps sure) l) := by
  rw [plR, if_neg (by simp [h]), if_neg (by simp [h1]), if_neg (by simp [h2]), if_pos h3]
theorem plR_ok {d : Dy} {ps : List Pn} {sure : Bool} {l : List Int} {row : Bool} (h : bothE d ps = 0) (h1 : l.length = ps.length) (h2 : planB l row = true) (h3 : badE (bn d ps sure) l = 0) : plR d ps sure l row = (batN l, 0) := by
  rw [plR, if_neg (by simp [h]), if_neg (by simp [h1]), if_neg (by simp [h2]), if_neg (by simp [h3])]
theorem planB_of {l : List Int} {row : Bool} (h : ∀ j, j < l.length → 0 ≤ l.getD j 0 ∧ l.getD j 0 ≤ batN (l.take j)) (hs : row = true → ∀ k, k + 1 < l.length → l.getD k 0 ≤ l.getD (k + 1) 0) : planB l row = true := planB_true fun k hk => by
  have a := h k hk
  unfold plAt leastAt
  refine decide_eq_true ⟨?_, a.2⟩
  split
  · rename_i c
    have := hs c.1 (k - 1) (by omega)
    rw [show k - 1 + 1 = k by omega] at this
    exact this
  · exact a.1
theorem planB_not {l : List Int} {row : Bool} {k : Nat} (hk : k < l.length) (h : ¬ (0 ≤ l.getD k 0 ∧ l.getD k 0 ≤ batN (l.take k))) : planB l row = false := by
  cases hb : planB l row with
  | false => rfl
  | true =>
    exfalso
    have hp : planB l false = true := by
      cases row
      · exact hb
      · exact row_isPlan hb
    have := planB_at hp hk
    unfold plAt leastAt at this
    rw [if_neg (by simp), decide_eq_true_eq] at this
    exact h this
theorem planB_unsorted {l : List Int} (h : ¬ ∀ k, k + 1 < l.length → l.getD k 0 ≤ l.getD (k + 1) 0) : planB l true = false := by
  cases hb : planB l true with
  | false => rfl
  | true => exact absurd (fun k hk => (plan_row hb).1 k (k + 1) (by omega) hk) h
/-- What is in no batch but for those of the list is nothing: all batches are shared. -/
theorem good_of {B : Bn} (hB : BnOk B) {l : List Int} (h0 : ∀ x ∈ l, 0 ≤ x) (h : badE B l = 0) : Good B l := fun k => by
  by_cases c : 0 ≤ k ∧ k < batN l
  · have := fstE_ok h k.toNat (by omega)
    rw [show ((k.toNat : Nat) : Int) = k by omega, sum_ofL] at this
    exact this
  · rw [sm_none B (fun i hi => decide_eq_false (fun e => ?_))]
    · exact fit0 hB
    · have a := h0 _ (getD_mem hi)
      have b := batN_gt (getD_mem hi)
      omega
theorem bad_of {B : Bn} {l : List Int} (h : Good B l) : badE B l = 0 := fstE_zero fun k _ => by rw [sum_ofL]; exact h k
theorem fitE_at {B : Bn} {l : List Int} {j : Nat} {s : Sm} (h : (outK B l l.length)[j]? = some s) : s = sumL B (ofL l (j : Int)) := by
  by_cases c : j < (batN (l.take l.length)).toNat
  · rw [outK_at B l l.length c] at h; exact (Option.some.inj h).symm
  · rw [List.getElem?_eq_none (by rw [outK_len]; omega)] at h; cases h
theorem plR_no {d : Dy} {ps : List Pn} {sure : Bool} {l : List Int} {row : Bool} (h : (plR d ps sure l row).2 ≠ 0) : plR d ps sure l row = (0, (plR d ps sure l row).2) := by
  unfold plR at *
  split
  · rfl
  split
  · rfl
  split
  · rfl
  split
  · rfl
  · rename_i h1 h2 h3 h4
    rw [if_neg h1, if_neg h2, if_neg h3, if_neg h4] at h
    exact absurd rfl h
theorem plR_yes {d : Dy} {ps : List Pn} {sure : Bool} {l : List Int} {row : Bool} (h : (plR d ps sure l row).2 = 0) : bothE d ps = 0 ∧ l.length = ps.length ∧ planB l row = true ∧ badE (bn d ps sure) l = 0 ∧ plR d ps sure l row = (batN l, 0) := by
  by_cases h1 : bothE d ps = 0
  · by_cases h2 : l.length = ps.length
    · cases h3 : planB l row with
      | false => rw [plR_plan h1 h2 h3] at h; cases h
      | true =>
        by_cases h4 : badE (bn d ps sure) l = 0
        · exact ⟨h1, h2, rfl, h4, plR_ok h1 h2 h3 h4⟩
        · rw [plR_bad h1 h2 h3 h4] at h; exact absurd h h4
    · rw [plR_len h1 h2] at h; cases h
  · rw [plR_both h1] at h; exact absurd h h1
theorem ofK_in {l : List Int} {b : Int} : ∀ {k : Nat}, ∀ i ∈ ofK l b k, 0 ≤ i ∧ i < (k : Int)
  | 0, i, h => by simp [ofK] at h
  | k + 1, i, h => by
    simp only [ofK] at h
    split at h
    · rcases List.mem_append.1 h with h | h
      · have := ofK_in i h; push_cast; omega
      · rw [List.mem_singleton] at h; subst h; push_cast; omega
    · have := ofK_in i h; push_cast; omega
/-- The most that the first batches have of each. -/
def mxS (B : Bn) (l : List Int) : Nat → Sm
  | 0 => sm0
  | k + 1 => ⟨max (mxS B l k).t (sumL B (ofL l (k : Int))).t, max (mxS B l k).g (sumL B (ofL l (k : Int))).g⟩
theorem mxS_bd {B : Bn} (hB : BnOk B) (l : List Int) : ∀ k, 0 ≤ (mxS B l k).t ∧ (mxS B l k).t ≤ 240 * l.length ∧ 0 ≤ (mxS B l k).g ∧ (mxS B l k).g ≤ 200 * l.length
  | 0 => by simp only [mxS, sm0]; omega
  | k + 1 => by
    have ih := mxS_bd hB l k
    have a := sumL_bd hB (ofL l (k : Int))
    have b : (ofL l (k : Int)).length ≤ l.length := ofK_len l (k : Int) l.length
    simp only [mxS]
    omega
/-- What Spares answers. -/
def spR (d : Dy) (ps : List Pn) (sure : Bool) (l : List Int) : Int × Int × Int :=
  if (plR d ps sure l false).2 ≠ 0 then (0, 0, (plR d ps sure l false).2) else ((bn d ps sure).w - (mxS (bn d ps sure) l (batN l).toNat).t, (bn d ps sure).p - (mxS (bn d ps sure) l (batN l).toNat).g, 0)
end Go.Gl
set_option linter.unusedVariables false
namespace Go.Lw
open Go.RowKit

section
variable {cx : Cx} {n : Nat} {ks : List (Nat × Value)} {O R : List Own} {V : View} {w : World} {K : Act → World → Prop}

theorem Mem.rowBlk {v : Value} {e : TypeId} {s n : Nat} {xs : List Value} (h : Mem cx (.row v e s n xs :: O) V w) (hn : n ≠ 0) :
    ∃ b cap rest, v = .slice (some ⟨b, 0, none⟩) n cap ∧ n ≤ cap ∧ cap ≤ maxLen ∧ Mem cx (.blk b (LC (xs ++ rest) e) :: O) V w := by
  obtain ⟨fp, ⟨f, g, rfl, ⟨rfl, hr⟩, hl⟩, h2, h3⟩ := h.own
  rcases hr.2 with ⟨rfl, hn0⟩ | ⟨b, cap, cur, rfl, hb, hh, hnc, hcm, hcs, htake⟩
  · exact absurd hn0 hn
  · refine ⟨b, cap, cur.toList.drop (n * s), rfl, hnc, hcm, ?_⟩
    have hcur : (LC (xs ++ cur.toList.drop (n * s)) e : Obj) = .cells cur e (0, 0) := by
      show Obj.cells _ e (0, 0) = Obj.cells cur e (0, 0)
      congr 1
      rw [← htake, List.take_append_drop]
    rw [hcur]
    exact ⟨h.below, h.le0, h.fresh, h.view, [b] ++ g, ⟨[b], g, rfl, ⟨rfl, hb, hh⟩, hl⟩, by simpa [Value.ownBlock] using h2, by simpa [Value.ownBlock] using h3⟩
theorem At.rowBlk {v : Value} {e : TypeId} {s m : Nat} {xs : List Value} (hp : Pick (.row v e s m xs) O R) (hm : m ≠ 0)
    (h : ∀ b cap rest, v = .slice (some ⟨b, 0, none⟩) m cap → m ≤ cap → cap ≤ maxLen → At cx n ks (.blk b (LC (xs ++ rest) e) :: R) V K) : At cx n ks O V K := fun a w hk hmm => by
  obtain ⟨b, cap, rest, h1, h2, h3, h4⟩ := (hmm.pick hp).rowBlk hm
  exact h b cap rest h1 h2 h3 a w hk h4
end
section
variable {cx : Cx} {n : Nat} {ks : List (Nat × Value)} {O : List Own} {V : View} {P : Program} {ops : Array Oper} {Qn : Act → World → Prop} {t : Tr} {i d : Nat} {T : TypeId} {pos : String} {after : Array Edge} {gd : Option (Nat × Bool)} {x y : Operand}
/-- The address of an element, by a natural number. -/
theorem AtT.idxZ {X E : TypeId} {len cap s j : Nat} {k : IntKind} {b : Nat} {ag : Bool} (ho : ops[i]? = some ⟨some d, .indexAddr X x y, T, pos, after, gd⟩) (hg : Gd ks ops gd) (hX : P.underlying X = some (.slice E)) (hE : tkB P E = some (ag, s))
    (hx : ev ks x = some (.slice (some ⟨b, 0, none⟩) len cap)) (hy : ev ks y = some (.int k (j : Int))) (h1 : j < len) (hn : d < n)
    (next : AtT cx n ((d, .pointer (some ⟨b, j * s, none⟩)) :: ks) O V P ops Qn t) : AtT cx n ks O V P ops Qn (.q i t) :=
  AtT.idxO ho hg hX hE hx hy (Int.natCast_nonneg j) (Int.ofNat_lt.2 h1) hn (by
    have e : 0 + (j : Int).toNat * s = j * s := by simp
    rw [e]; exact next)
end
theorem flat_setR {α : Type} {enc : α → List Value} {s : Nat} (he : ∀ x, (enc x).length = s) (l : List α) (i : Nat) (r : α) (rest : List Value) (h : i < l.length) : (flat enc l ++ rest).take (i * s) ++ enc r ++ (flat enc l ++ rest).drop (i * s + s) = flat enc (l.set i r) ++ rest := by
  have hl : (flat enc l).length = l.length * s := flat_len he l
  have h2 : i * s + s ≤ l.length * s := by
    rw [← Nat.add_one_mul]; exact Nat.mul_le_mul_right s h
  rw [List.take_append_of_le_length (by omega), List.drop_append_of_le_length (by omega), ← flat_set he l i r h]
  simp [List.append_assoc]
theorem cells_pre {V : View} {b : Nat} {us rest : List Value} {E : TypeId} {fr : Nat × Nat} (h : V b = some (LC (us ++ rest) E fr)) : Cells V ⟨b, 0, none⟩ us := fun j u hj =>
  cells_blk h j u (by rw [List.getElem?_append_left (List.getElem?_eq_some_iff.1 hj).1]; exact hj)
theorem flat_all1 {α : Type} {enc : α → List Value} (h1 : ∀ x, (enc x).all Value.oneCell' = true) (l : List α) : (flat enc l).all Value.oneCell' = true := by
  rw [List.all_eq_true]
  intro u hu
  simp only [flat, List.mem_flatMap] at hu
  obtain ⟨q, _, hq⟩ := hu
  exact List.all_eq_true.1 (h1 q) u hq
end Go.Lw
set_option linter.unusedVariables false
namespace Go.Lw
open Go.RowKit

section
variable {cx : Cx} {O R : List Own} {V : View} {w : World}
theorem Mem.rowFacts {a0 : Option Addr} {e : TypeId} {s m c0 : Nat} {xs : List Value} (h : Mem cx (.row (.slice a0 m c0) e s m xs :: O) V w) : m ≤ c0 ∧ c0 ≤ maxLen ∧ xs.length = m * s ∧ (a0 = none → m = 0) := by
  obtain ⟨fp, ⟨f, g, rfl, ⟨rfl, hr⟩, hl⟩, h2, h3⟩ := h.own
  rcases hr.2 with ⟨e1, rfl⟩ | ⟨b, cap, cur, e1, hb, hh, hnc, hcm, hcs, htake⟩
  · cases e1; exact ⟨Nat.le_refl _, Nat.zero_le _, hr.1, fun _ => rfl⟩
  · cases e1; exact ⟨hnc, hcm, hr.1, fun h => by cases h⟩
theorem Mem.rowCells {p : Addr} {e : TypeId} {s m c0 : Nat} {xs : List Value} (h : Mem cx (.row (.slice (some p) m c0) e s m xs :: O) V w) : ∀ j u, xs[j]? = some u → w.cell? (p.add j) = some u := by
  obtain ⟨fp, ⟨f, g, rfl, ⟨rfl, hr⟩, hl⟩, h2, h3⟩ := h.own
  rcases hr.2 with ⟨e1, rfl⟩ | ⟨b, cap, cur, e1, hb, hh, hnc, hcm, hcs, htake⟩
  · cases e1
  · cases e1; exact hr.cells (g := b) rfl
theorem Mem.blkRow {b cap n : Nat} {e : TypeId} {s : Nat} {cs : Array Value} {xs : List Value} (h : Mem cx (.blk b (.cells cs e (0, 0)) :: O) V w) (hx : xs.length = n * s) (hs : cs.size = cap * s) (ht : cs.toList.take (n * s) = xs) (hn : n ≤ cap) (hc : cap ≤ maxLen) :
    Mem cx (.row (.slice (some ⟨b, 0, none⟩) n cap) e s n xs :: O) V w := by
  obtain ⟨fp, ⟨f, g, rfl, ⟨rfl, hb, hh⟩, hl⟩, h2, h3⟩ := h.own
  exact ⟨h.below, h.le0, h.fresh, h.view, [b] ++ g, ⟨[b], g, rfl, ⟨rfl, hx, .inr ⟨b, cap, cs, rfl, hb, hh, hn, hc, hs, ht⟩⟩, hl⟩, h2, h3⟩
theorem Mem.rowBlk2 {v : Value} {e : TypeId} {s n : Nat} {xs : List Value} (h : Mem cx (.row v e s n xs :: O) V w) (hn : n ≠ 0) :
    ∃ b cap rest, v = .slice (some ⟨b, 0, none⟩) n cap ∧ n ≤ cap ∧ cap ≤ maxLen ∧ (xs ++ rest).length = cap * s ∧ Mem cx (.blk b (LC (xs ++ rest) e) :: O) V w := by
  obtain ⟨fp, ⟨f, g, rfl, ⟨rfl, hr⟩, hl⟩, h2, h3⟩ := h.own
  rcases hr.2 with ⟨rfl, hn0⟩ | ⟨b, cap, cur, rfl, hb, hh, hnc, hcm, hcs, htake⟩
  · exact absurd hn0 hn
  · have hcat : xs ++ cur.toList.drop (n * s) = cur.toList := by rw [← htake, List.take_append_drop]
    refine ⟨b, cap, cur.toList.drop (n * s), rfl, hnc, hcm, by rw [hcat]; simpa using hcs, ?_⟩
    have hcur : (LC (xs ++ cur.toList.drop (n * s)) e : Obj) = .cells cur e (0, 0) := by
      show Obj.cells _ e (0, 0) = Obj.cells cur e (0, 0)
      congr 1
      rw [hcat]
    rw [hcur]
    exact ⟨h.below, h.le0, h.fresh, h.view, [b] ++ g, ⟨[b], g, rfl, ⟨rfl, hb, hh⟩, hl⟩, by simpa [Value.ownBlock] using h2, by simpa [Value.ownBlock] using h3⟩
end
section
variable {cx : Cx} {n : Nat} {ks : List (Nat × Value)} {O R : List Own} {V : View} {w : World} {K : Act → World → Prop}
/-- A row of the call's own as a block; and back. -/
theorem At.rowBlk2 {v : Value} {e : TypeId} {s m : Nat} {xs : List Value} (hp : Pick (.row v e s m xs) O R) (hm : m ≠ 0)
    (h : ∀ b cap rest, v = .slice (some ⟨b, 0, none⟩) m cap → m ≤ cap → cap ≤ maxLen → (xs ++ rest).length = cap * s → At cx n ks (.blk b (LC (xs ++ rest) e) :: R) V K) : At cx n ks O V K := fun a w hk hmm => by
  obtain ⟨b, cap, rest, h1, h2, h3, h4, h5⟩ := (hmm.pick hp).rowBlk2 hm
  exact h b cap rest h1 h2 h3 h4 a w hk h5
theorem At.blkRow {b m cap : Nat} {e : TypeId} {s : Nat} {xs rest : List Value} (hp : Pick (.blk b (LC (xs ++ rest) e)) O R) (hl : (xs ++ rest).length = cap * s) (hx : xs.length = m * s) (h1 : m ≤ cap) (h2 : cap ≤ maxLen)
    (h : At cx n ks (.row (.slice (some ⟨b, 0, none⟩) m cap) e s m xs :: R) V K) : At cx n ks O V K := fun a w hk hmm =>
  h a w hk ((hmm.pick hp).blkRow hx (by simpa using hl) (by rw [← hx]; exact List.take_left) h1 h2)
end
section
variable {cx : Cx} {n : Nat} {ks : List (Nat × Value)} {O R : List Own} {V : View} {P : Program} {ops : Array Oper} {Qn : Act → World → Prop} {t : Tr} {i d : Nat} {T : TypeId} {pos : String} {after : Array Edge} {gd : Option (Nat × Bool)} {x y : Operand} {wr : Bool}
/-- x[:len(x):len(x)] of a row of the call's own. -/
theorem AtT.clipR {X E : TypeId} {s m c0 : Nat} {ag : Bool} {a0 : Option Addr} {xs : List Value} {h' m' : Operand} {k k2 : IntKind} {z z2 : Int} (ho : ops[i]? = some ⟨some d, .slice X x none (some h') (some m'), T, pos, after, gd⟩) (hg : Gd ks ops gd) (hX : P.underlying X = some (.slice E)) (hE : tkB P E = some (ag, s))
    (hx : ev ks x = some (.slice a0 m c0)) (hp : Pick (.row (.slice a0 m c0) E s m xs) O R) (hh : ev ks h' = some (.int k z)) (hm' : ev ks m' = some (.int k2 z2)) (hz : z = (m : Int)) (hz2 : z2 = (m : Int)) (hn : d < n)
    (next : AtT cx n ((d, .slice a0 m m) :: ks) O V P ops Qn t) : AtT cx n ks O V P ops Qn (.q i t) := by
  subst hz hz2
  refine .q (v := .slice a0 m m) ho hg rfl hn (fun b w hk hm => ?_) next
  obtain ⟨f1, f2, f3, f4⟩ := (hm.pick hp).rowFacts
  have hX' : P.underlying X = some (.slice (P.elem X)) := by simp [Program.elem, hX]
  have hEl : P.elem X = E := by simp [Program.elem, hX]
  simp only [execOp, hk.ev hx, hk.ev hh, hk.ev hm', Option.map_none, Option.map_some, Sem.run_bind, run_sliceAt_slice w X _ _ _ _ hX']
  rw [run_slice_hm w X a0 m c0 hX' k k2 (m : Int) (m : Int) (Int.natCast_nonneg m) (Int.le_refl _) (by omega), hEl, run_sizeOf hE]
  simp only [Result.andThen_ok, Sem.run_pure, sliced, Int.toNat_natCast, Nat.zero_mul, Nat.sub_zero]
  congr 3
  split
  · rfl
  · cases a0 <;> simp [Addr.add]

/-- append onto a row of the call's own that is clipped: a new row. -/
theorem AtT.appendR {X E : TypeId} {z : Value} {s by_ m c0 k c : Nat} {a0 : Option Addr} {xs news : List Value} {q : Addr} (ho : ops[i]? = some ⟨some d, .call ⟨.builtin .append, #[x, y], #[X, X]⟩, T, pos, after, gd⟩) (hg : Gd ks ops gd) (hX : P.underlying X = some (.slice E)) (hE : rowB P E = some (z, s, by_)) (hzs : z.cells.size = s) (hs : 0 < s)
    (hx : ev ks x = some (.slice a0 m m)) (hy : ev ks y = some (.slice (some q) k c)) (hp : Pick (.row (.slice a0 m c0) E s m xs) O R) (hc : Cells V q news) (hl : news.length = k * s) (h0 : 0 < k) (hb : m + k ≤ maxLen) (hby : (m + k) * by_ ≤ 140737488355328) (hn : d < n)
    (next : ∀ a cap, AtT cx n ((d, .slice a (m + k) cap) :: ks) (.row (.slice a (m + k) cap) E s (m + k) (xs ++ news) :: R) V P ops Qn t) : AtT cx n ks O V P ops Qn (.n true i t) :=
  .x ho hg fun a w hk hm => by
    have hm1 := hm.pick hp
    obtain ⟨f1, f2, f3, f4⟩ := hm1.rowFacts
    obtain ⟨ti, hi, hz, hsz, hbz⟩ := rowB_info hE
    have hlen : (xs ++ news).length = (m + k) * s := by rw [List.length_append, f3, hl, Nat.add_mul]
    have hnews := hc.run hm.view
    have fin : ∀ (cs : Array Value) (cap : Nat), m + k ≤ cap → cap ≤ maxLen → cs.size = cap * s → cs.toList.take ((m + k) * s) = xs ++ news → ∃ ks' O' V', Kn cx n ks' (a.put (some d) (.slice (some ⟨w.heap.size, 0, none⟩) (m + k) cap)) ∧ Mem cx O' V' (w.drew.alloc (.cells cs E)) ∧ (true = false → ∀ u, Mem cx O' V' u → Mem cx O V u) ∧ AtT cx n ks' O' V' P ops Qn t := fun cs cap h1 h2 h3 h4 => by
      have hd : Mem cx R V w.drew := hm1.drop.ext (Below.refl _ w).drew
      have ha := hd.alloc (.cells cs E (0, 0))
      exact ⟨_, _, V, hk.put hn _, ha.blkRow hlen h3 h4 h1 h2, fun h => (by cases h), next _ cap⟩
    simp only [opW, execOp, resolve, invoke, builtin, Sem.run_bind, Sem.run_pure, Result.andThen_ok, List.map_toArray, List.map_cons, List.map_nil, hk.ev hx, hk.ev hy]
    cases a0 with
    | none =>
      obtain rfl := f4 rfl
      obtain rfl : xs = [] := List.eq_nil_of_length_eq_zero (by rw [f3]; simp)
      have hr := run_append_nil (P := P) w X T E ti z hX hi hz q k c news (by rw [hl, hsz]) hnews h0 (by simp only [maxLen] at hb; simp at hb; omega) (by rw [hbz]; simp at hby; omega)
      simp only [hr, Result.andThen_ok]
      have := fin (news.toArray ++ Builtin.zeroCells z.cells (grownCap w k 0 E - k)) (grownCap w k 0 E) (by simpa using grownCap_ge w k 0 E) (grownCap_le_maxLen w _ _ _ (by simpa using hb)) (by
          have hge := grownCap_ge w k 0 E
          simp only [Array.size_append, List.size_toArray, size_zeroCells, hzs, hl, ← Nat.add_mul]
          congr 1; omega) (by
          rw [← hlen, List.nil_append, Array.toList_append]; exact List.take_left)
      simpa using this
    | some p =>
      have hr := run_append_grow (P := P) w X T E ti z hX hi hz p m m xs (by rw [hsz]; exact f3) hm1.rowCells q k c news (by rw [hl, hsz]) hnews (by omega) (by simp only [maxLen] at hb; omega) (growslice_fits (by omega) (by rw [hbz]; exact hby))
      simp only [hr, Result.andThen_ok]
      refine fin _ _ (grownCap_ge w _ _ _) (grownCap_le_maxLen w _ _ _ hb) ?_ ?_
      · have hge := grownCap_ge w (m + k) m E
        simp only [Array.size_append, List.size_toArray, size_zeroCells, hzs, f3, hl, ← Nat.add_mul]
        congr 1; omega
      · rw [← hlen, Array.toList_append, Array.toList_append]; exact List.take_left
end
theorem flat_cut {α : Type} {enc : α → List Value} {s : Nat} (he : ∀ x, (enc x).length = s) : ∀ (l : List α) (i : Nat) (x : α) (rest : List Value), l[i]? = some x → ((flat enc l ++ rest).drop (i * s)).take s = enc x
  | [], _, _, _, h => by simp at h
  | y :: l, 0, x, rest, h => by
    obtain rfl : y = x := by simpa using h
    have e : flat enc (y :: l) ++ rest = enc y ++ (flat enc l ++ rest) := by simp [flat]
    rw [e, Nat.zero_mul, List.drop_zero, ← he y]
    exact List.take_left
  | y :: l, i + 1, x, rest, h => by
    have e : flat enc (y :: l) ++ rest = enc y ++ (flat enc l ++ rest) := by simp [flat]
    have e2 : (i + 1) * s = (enc y).length + i * s := by rw [he y, Nat.add_one_mul]; omega
    rw [e, e2, ← List.drop_drop, List.drop_left]
    exact flat_cut he l i x rest (by simpa using h)
section
variable {cx : Cx} {n : Nat} {ks : List (Nat × Value)} {O R : List Own} {V : View} {P : Program} {ops : Array Oper} {Qn : Act → World → Prop} {t : Tr} {i d : Nat} {T : TypeId} {pos : String} {after : Array Edge} {gd : Option (Nat × Bool)} {x y : Operand} {X Z : TypeId} {p q : Int}
theorem AtT.shrU {A N : Nat} {k : IntKind} (ho : ops[i]? = some ⟨some d, .binOp .shr X x y Z, T, pos, after, gd⟩) (hg : Gd ks ops gd) (hx : ev ks x = some (.int .u64 p)) (hy : ev ks y = some (.int k q)) (hp : p = (A : Int)) (hq : q = (N : Int)) (hN : N ≤ 61) (hn : d < n)
    (next : AtT cx n ((d, .int .u64 ((A >>> N : Nat) : Int)) :: ks) O V P ops Qn t) : AtT cx n ks O V P ops Qn (.q i t) :=
  .q ho hg rfl hn (fun a w hk _ => by
    subst hp hq
    have hr : Op.shift .shr .u64 (A : Int) k (N : Int) = (pure (.int .u64 ((A >>> N : Nat) : Int)) : Sem Value) := by
      unfold Op.shift
      rw [if_neg (by omega)]
      have e : min ((N : Int).toNat) IntKind.u64.bits = N := by show min ((N : Int).toNat) 64 = N; omega
      have e2 : (A : Int).fdiv (2 ^ N) = ((A >>> N : Nat) : Int) := by
        rw [Int.fdiv_eq_ediv_of_nonneg _ (Int.le_of_lt (Int.pow_pos (by decide))), Nat.shiftRight_eq_div_pow, Int.natCast_ediv, Int.natCast_pow]; rfl
      simp only [e, e2]
    simp only [execOp, hk.ev hx, hk.ev hy, eqGuard_shr, binOp_shr, hr, Sem.run_bind, Sem.run_pure, Result.andThen_ok]) next
theorem wrapU {A : Nat} (h : A < 18446744073709551616) : IntKind.u64.wrap (A : Int) = (A : Int) := by
  simp [IntKind.wrap, IntKind.bits, IntKind.signed]; omega
end
/-- An append of nothing. -/
theorem run_append_zero {P : Program} (w : World) (t ty e : TypeId) (i : TypeInfo) (ht : P.underlying t = some (.slice e)) (hi : P.info? e = some i) (base a2 : Option Addr) (n cap c2 : Nat) (hle : n ≤ cap) :
    (Builtin.append_ #[t, t] ty #[.slice base n cap, .slice a2 0 c2]).run P w = .ok (.slice base n cap) w := by
  cases a2 with
  | none => cases base <;> simp [Builtin.append_, run_underlying ht, sizeOf, typeInfo, hi, Builtin.lenOf, Builtin.firstCells, hle, storeCells]
  | some p =>
    have hf := run_firstCells_some (P := P) w i.size 0 p 0 c2 [] (by simp) (by simp)
    cases base <;> simp [Builtin.append_, run_underlying ht, sizeOf, typeInfo, hi, Builtin.lenOf, hf, hle, storeCells]
section
variable {cx : Cx} {n : Nat} {ks : List (Nat × Value)} {O R : List Own} {V : View} {P : Program} {ops : Array Oper} {Qn : Act → World → Prop} {t : Tr} {i d : Nat} {T : TypeId} {pos : String} {after : Array Edge} {gd : Option (Nat × Bool)} {x y : Operand} {wr : Bool}
/-- A new row of nothing, that is not nil. -/
theorem AtT.bsliceR0 {X E : TypeId} {s : Nat} {ps : List (Nat × Operand)} {vs : List (Nat × Value)} (ho : ops[i]? = some ⟨some d, .buildSlice X 0 ps.toArray, T, pos, after, gd⟩) (hg : Gd ks ops gd) (hp : evp ks ps = some vs)
    (hr : ∀ w, (Instr.buildSlice X 0 vs.toArray).run P w = .ok (.slice (some ⟨w.heap.size, 0, none⟩) 0 0) (w.alloc (LC [] E))) (hn : d < n)
    (next : ∀ b, AtT cx n ((d, .slice (some ⟨b, 0, none⟩) 0 0) :: ks) (.row (.slice (some ⟨b, 0, none⟩) 0 0) E s 0 [] :: O) V P ops Qn t) : AtT cx n ks O V P ops Qn (.n wr i t) :=
  .x ho hg fun a w hk hm => by
    have e : (ps.toArray.map fun (j, o) => (j, a.eval o)) = vs.toArray := by rw [← evp_map hk ps vs hp]; simp
    simp only [opW, execOp, e, Sem.run_bind, hr, Result.andThen_ok, Sem.run_pure]
    have ha := hm.alloc (LC [] E)
    exact ⟨_, _, V, hk.put hn _, Mem.blkRow (s := s) (xs := []) (cs := ⟨[]⟩) ha (by simp) (by simp) (by simp) (Nat.le_refl _) (Nat.zero_le _), fun _ u hu => hu.drop, next _⟩
/-- append of a whole slice, that may be empty, onto a row of the call's own. -/
theorem AtT.appendRS {α : Type} {enc : α → List Value} {m : List α} {X E : TypeId} {z : Value} {s by_ n0 c0 : Nat} {a0 : Option Addr} {xs : List Value} {v : Value} (ho : ops[i]? = some ⟨some d, .call ⟨.builtin .append, #[x, y], #[X, X]⟩, T, pos, after, gd⟩) (hg : Gd ks ops gd) (hX : P.underlying X = some (.slice E)) (hE : rowB P E = some (z, s, by_)) (hzs : z.cells.size = s) (hs : 0 < s)
    (hx : ev ks x = some (.slice a0 n0 c0)) (hy : ev ks y = some v) (hp : Pick (.row (.slice a0 n0 c0) E s n0 xs) O R) (hv : Sl V enc s v m) (he : ∀ x, (enc x).length = s) (h1 : ∀ x, (enc x).all Value.oneCell' = true) (hb : n0 + m.length ≤ maxLen) (hby : (n0 + m.length) * by_ ≤ 140737488355328) (hn : d < n)
    (next : ∀ a cap, AtT cx n ((d, .slice a (n0 + m.length) cap) :: ks) (.row (.slice a (n0 + m.length) cap) E s (n0 + m.length) (xs ++ flat enc m) :: R) V P ops Qn t) : AtT cx n ks O V P ops Qn (.n true i t) := by
  have hv' := hv
  obtain ⟨a2, c2, rfl, k1, k2, k3, k4⟩ := hv
  cases m with
  | nil =>
    refine .x ho hg fun a w hk hm => ?_
    have hm1 := hm.pick hp
    obtain ⟨f1, f2, f3, f4⟩ := hm1.rowFacts
    obtain ⟨ti, hi, hz, hsz, hbz⟩ := rowB_info hE
    have hr := run_append_zero (P := P) w X T E ti hX hi a0 a2 n0 c0 c2 f1
    simp only [opW, execOp, resolve, invoke, builtin, Sem.run_bind, Sem.run_pure, Result.andThen_ok, List.map_toArray, List.map_cons, List.map_nil, hk.ev hx, hk.ev hy, List.length_nil, hr]
    have := next a0 c0
    simp only [List.length_nil, Nat.add_zero, flat, List.flatMap_nil, List.append_nil] at this
    exact ⟨_, _, V, hk.put hn _, hm1, fun h => (by cases h), this⟩
  | cons q l =>
    obtain ⟨p2, rfl⟩ : ∃ p, a2 = some p := by
      have := k3 (by simp)
      cases a2 with
      | none => cases this
      | some p => exact ⟨p, rfl⟩
    exact AtT.append ho hg hX hE hzs hs hx hy hp (Sl.cells he hv') (flat_len he _) (flat_all1 h1 _) hb hby hn next
end
end Go.Lw
set_option linter.unusedVariables false
namespace Go.Proofs.Ytmnbkceiaifncaa
open Go.Lw Go.Gl Go.RowKit

theorem nan_f (x : Int) (V : View) : Fnc Try.prog 108 [iv x] V fun r _ => r = .bool false := by
  refine fn_of Try.func108 rfl Try.ntmps108 (Nat.le_of_ble_eq_true rfl) ?_
  intro w0 hw0
  refine At.nrm ?_
  refine At.ktext (.q 0 .done) ?_
  refine AtT.kassign ?_
  refine AtT.done ?_
  refine At.nrm ?_
  refine At.ktext (.q 0 (.q 1 (.q 2 (.q 3 .done)))) ?_
  refine AtT.kmove ?_
  refine AtT.kmove ?_
  refine AtT.kneI ?_
  refine AtT.kassign ?_
  refine AtT.done ?_
  refine At.nrm ?_
  exact At.ret1 rfl (.tmp rfl) (by simp)
theorem nan2_f (x : Int) (V : View) : Fnc Try.prog 99 [iv x] V fun r _ => r = .bool false := by
  refine fn_of Try.func99 rfl Try.ntmps99 (Nat.le_of_ble_eq_true rfl) ?_
  intro w0 hw0
  refine At.nrm ?_
  refine At.ktext (.q 0 .done) ?_
  refine AtT.kassign ?_
  refine AtT.done ?_
  refine At.nrm ?_
  refine At.ktext (.q 0 (.q 1 (.q 2 (.q 3 .done)))) ?_
  refine AtT.kmove ?_
  refine AtT.kmove ?_
  refine AtT.kneI ?_
  refine AtT.kassign ?_
  refine AtT.done ?_
  refine At.nrm ?_
  exact At.ret1 rfl (.tmp rfl) (by simp)
theorem less_f (x y : Int) (V : View) : Fnc Try.prog 98 [iv x, iv y] V fun r _ => r = .bool (decide (x < y)) := by
  refine fn_of Try.func98 rfl Try.ntmps98 (Nat.le_of_ble_eq_true rfl) ?_
  intro w0 hw0
  refine At.nrm ?_
  refine At.ktext (.q 0 .done) ?_
  refine AtT.kassign ?_
  refine AtT.done ?_
  refine At.nrm ?_
  refine At.ktext (.q 0 (.n false 1 (.q 2 (.q 3 (.n false 4 (.q 5 (.q 6 (.q 7 (.q 8 (.q 9 (.q 10 (.q 11 (.q 12 .done))))))))))))) ?_
  refine AtT.kmove ?_
  refine AtT.kcallP rfl rfl ok108 (nan_f _ _) ?_
  rintro _ rfl
  refine AtT.kmove ?_
  all_goals (first | refine AtT.kL 7 ?_ | refine AtT.pcase (d := 7) rfl (fun hg7 => ?_) (fun hg7 => ?_) | refine AtT.bcase (d := 7) rfl (fun hg7 => ?_) (fun hg7 => ?_))
  all_goals (first | refine AtT.kpass ?_ | refine AtT.kpassU ?_ | ((refine AtT.kmove ?_)))
  all_goals (first | refine AtT.kpassN ?_ | refine AtT.kpassNU ?_ | ((fail)))
  all_goals (first | refine AtT.kpass ?_ | refine AtT.kpassU ?_ | ((refine AtT.knot ?_)))
  all_goals (refine AtT.kpick ?_)
  all_goals (refine AtT.kmove ?_)
  all_goals (first | refine AtT.kL 12 ?_ | refine AtT.pcase (d := 12) rfl (fun hg12 => ?_) (fun hg12 => ?_) | refine AtT.bcase (d := 12) rfl (fun hg12 => ?_) (fun hg12 => ?_))
  all_goals (first | refine AtT.kpass ?_ | refine AtT.kpassU ?_ | ((refine AtT.kmove ?_)))
  all_goals (first | refine AtT.kpass ?_ | refine AtT.kpassU ?_ | ((refine AtT.kmove ?_)))
  all_goals (first | refine AtT.kpass ?_ | refine AtT.kpassU ?_ | ((refine AtT.klss ?_)))
  all_goals (refine AtT.kpick ?_)
  all_goals (refine AtT.kassign ?_)
  all_goals refine AtT.done ?_
  all_goals (refine At.nrm ?_)
  all_goals (exact At.ret1 rfl (.tmp rfl) (by simp))
/-- A list's numbers do not fall from a place on. -/
theorem isSorted_f (l : List Int) (V : View) (v : Value) (hs : SlI V v l) (h1 : l.length ≤ 1000) : Fnc Try.prog 96 [v] V fun r _ => ∃ b : Bool, r = .bool b ∧ (b = true ↔ ∀ k, k + 1 < l.length → l.getD k 0 ≤ l.getD (k + 1) 0) := by
  obtain ⟨a, c, rfl, k1, k2, _⟩ := id hs
  clear k1 k2
  refine fn_of Try.func96 rfl Try.ntmps96 (Nat.le_of_ble_eq_true rfl) ?_
  intro w0 hw0
  refine At.nrm ?_
  refine At.ktext (.q 0 .done) ?_
  refine AtT.kassign ?_
  refine AtT.done ?_
  refine At.nrm ?_
  refine At.ktext (.q 0 (.q 1 (.q 2 (.q 3 .done)))) ?_
  refine AtT.kmove ?_
  first | refine AtT.klenS Try.underlying27 ?_ | refine AtT.klenR Try.underlying27 ?_
  first | refine AtT.ksubt ?_ | refine AtT.ksubW ?_
  refine AtT.kassign ?_
  refine AtT.done ?_
  refine At.nrm ?_
  refine At.lp (ι := Nat) (KS := fun k => [(0, .slice a l.length c), (3, iv ((l.length : Int) - 1 - (k : Int)))]) (OS := fun _ => []) (VS := fun k V' => V' = V ∧ k ≤ l.length ∧ ∀ j, l.length - 1 - k ≤ j → j + 1 < l.length → l.getD j 0 ≤ l.getD (j + 1) 0) (μ := fun k => l.length - k) 0 ?_ ?_ ?_ ?_
  · exact ⟨rfl, ivs (by omega), trivial⟩
  · exact Pt.auto
  · exact ⟨rfl, Nat.zero_le _, fun j h1 h2 => by omega⟩
  · rintro k V' ks' O' ⟨rfl, hkl, hok⟩ hk hO hl2
    subst hk hO
    refine At.nrm ?_
    refine At.ktext (.q 0 (.q 1 .done)) ?_
    refine AtT.kmove ?_
    refine AtT.kgtr ?_
    refine AtT.done ?_
    refine At.nrm ?_
    refine At.condP rfl (fun hp => ?_) (fun hp => ?_)
    · obtain ⟨i, hi⟩ : ∃ i : Nat, l.length = i + 2 + k := ⟨l.length - 2 - k, by omega⟩
      obtain ⟨x, hx⟩ : ∃ x, l[i + 1]? = some x := ⟨_, List.getElem?_eq_getElem (by omega)⟩
      obtain ⟨y, hy⟩ : ∃ y, l[i]? = some y := ⟨_, List.getElem?_eq_getElem (by omega)⟩
      have gx : l.getD (i + 1) 0 = x := by simp [List.getD, hx]
      have gy : l.getD i 0 = y := by simp [List.getD, hy]
      have t1 : ((l.length : Int) - 1 - (k : Int)).toNat = i + 1 := by omega
      have t2 : ((l.length : Int) - 1 - (k : Int) - 1).toNat = i := by omega
      refine At.nrm ?_
      refine At.draw (.q 0 (.q 1 (.q 2 (.q 3 (.q 4 (.q 5 (.q 6 (.q 7 (.q 8 (.n false 9 .done)))))))))) ffm (by kernel_rfl) ?_
      refine AtT.kmove ?_
      refine AtT.kmove ?_
      refine AtT.kidx Try.underlying27 tk3 ?_
      intro p13 e13 he13 hc13
      obtain rfl : e13 = x := by have : l[((l.length : Int) - 1 - (k : Int)).toNat]? = some e13 := (by simpa using he13); rw [t1, hx] at this; simpa using this.symm
      first | refine AtT.kloadO tk3 ?_ | refine AtT.kload tk3 ?_
      refine AtT.kmove ?_
      refine AtT.kmove ?_
      first | refine AtT.ksubt ?_ | refine AtT.ksubW ?_
      refine AtT.kidx Try.underlying27 tk3 ?_
      intro p18 e18 he18 hc18
      obtain rfl : e18 = y := by have : l[((l.length : Int) - 1 - (k : Int) - 1).toNat]? = some e18 := (by simpa using he18); rw [t2, hy] at this; simpa using this.symm
      first | refine AtT.kloadO tk3 ?_ | refine AtT.kload tk3 ?_
      refine AtT.kcallP rfl rfl ok98 (less_f _ _ _) ?_
      rintro _ rfl
      refine AtT.done ?_
      refine At.nrm ?_
      refine At.condP rfl (fun hc => ?_) (fun hc => ?_)
      · refine At.nrm ?_
        refine At.ktext (.q 0 .done) ?_
        refine AtT.kassign ?_
        refine AtT.done ?_
        refine At.nrm ?_
        refine At.ret1 rfl (.tmp rfl) ⟨false, rfl, ?_⟩
        refine ⟨fun h => (by cases h), fun h => ?_⟩
        have := h i (by omega)
        omega
      · refine At.nrm ?_
        refine At.ktext (.q 0 (.q 1 (.q 2 .done))) ?_
        refine AtT.kmove ?_
        first | refine AtT.ksubt ?_ | refine AtT.ksubW ?_
        refine AtT.kassign ?_
        refine AtT.done ?_
        refine At.nrm ?_
        refine At.round (k + 1) ?_ ?_ ?_ ?_
        · show l.length - (k + 1) < l.length - k; omega
        · refine ⟨rfl, by omega, fun j h1 h2 => ?_⟩
          by_cases d : j = i
          · subst d; omega
          · exact hok j (by omega) h2
        · exact ⟨rfl, ivs (by omega), trivial⟩
        · exact Pt.auto
    · refine At.nrm ?_
      refine At.ktext (.q 0 .done) ?_
      refine AtT.kassign ?_
      refine AtT.done ?_
      refine At.nrm ?_
      exact At.ret1 rfl (.tmp rfl) ⟨true, rfl, fun _ j hj => hok j (by omega) hj, fun _ => rfl⟩

theorem planned_f (d : Dy) (ps : List Pn) (sure : Bool) (l : List Int) (row : Bool) (V : View) (v vl : Value) (hs : Sl V pne 3 v ps) (hl : SlI V vl l) : Fnc Try.prog 69 [dyv d, v, .bool sure, vl, .bool row] V fun r V' =>
    ((plR d ps sure l row).2 ≠ 0 ∧ r = .tuple #[.pointer none, .slice none 0 0, iv (plR d ps sure l row).2]) ∨
    ((plR d ps sure l row).2 = 0 ∧ ∃ p vo, r = .tuple #[.pointer (some p), vo, iv 0] ∧ BnV V' p (bn d ps sure) ∧ Sl V' sme 2 vo (outK (bn d ps sure) l l.length)) := by
  obtain ⟨a, c, rfl, k1, k2, _⟩ := id hs
  obtain ⟨al, cl, rfl, k3, k4, _⟩ := id hl
  have hlen := hl.lenLe
  have hlenp := hs.lenLe
  clear k1 k2 k3 k4
  refine fn_of Try.func69 rfl Try.ntmps69 (Nat.le_of_ble_eq_true rfl) ?_
  intro w0 hw0
  refine At.nrm ?_
  refine At.ktext (.n false 0 (.q 1 (.q 2 (.q 3 .done)))) ?_
  refine AtT.kbox ?_
  intro b5
  refine AtT.kassign ?_
  refine AtT.kassign ?_
  refine AtT.kassign ?_
  refine AtT.done ?_
  refine At.nrm ?_
  by_cases he : bothE d ps = 0
  rotate_left
  · refine At.ktext (.q 0 (.q 1 (.q 2 (.n false 3 (.q 4 (.q 5 (.q 6 (.q 7 (.q 8 .done))))))))) ?_
    first | refine AtT.kloadOA tk25 ?_ | refine AtT.kloadA tk25 ?_ | refine AtT.kloadOP tk25 ?_
    refine AtT.kmove ?_
    refine AtT.kmove ?_
    refine AtT.kcallP rfl rfl ok80 (open_bad hs he) ?_
    rintro _ rfl
    refine AtT.kmove ?_
    refine AtT.kextract ?_
    refine AtT.kextract ?_
    refine AtT.kassign ?_
    refine AtT.kassign ?_
    refine AtT.done ?_
    refine At.nrm ?_
    refine At.ktext (.q 0 (.q 1 (.q 2 .done))) ?_
    refine AtT.kmove ?_
    refine AtT.kneI ?_
    refine AtT.kassign ?_
    refine AtT.done ?_
    refine At.nrm ?_
    refine At.condT rfl (decide_eq_true he) ?_
    refine At.nrm ?_
    refine At.ktext (.q 0 (.q 1 (.q 2 (.q 3 .done)))) ?_
    refine AtT.kmove ?_
    refine AtT.kassign ?_
    refine AtT.kassign ?_
    refine AtT.kassign ?_
    refine AtT.done ?_
    refine At.nrm ?_
    exact At.ret3 rfl (.tmp rfl) (.tmp rfl) (.tmp rfl) (.inl (by rw [plR_both he]; exact ⟨he, rfl⟩))
  refine At.ktext (.q 0 (.q 1 (.q 2 (.n false 3 (.q 4 (.q 5 (.q 6 (.q 7 (.q 8 .done))))))))) ?_
  first | refine AtT.kloadOA tk25 ?_ | refine AtT.kloadA tk25 ?_ | refine AtT.kloadOP tk25 ?_
  refine AtT.kmove ?_
  refine AtT.kmove ?_
  refine AtT.kcall rfl rfl ok80 (open_ok hs he) ?_
  rintro _ V1 hV1 ⟨p, rfl, hpb⟩
  refine AtT.kmove ?_
  refine AtT.kextract ?_
  refine AtT.kextract ?_
  refine AtT.kassign ?_
  refine AtT.kassign ?_
  refine AtT.done ?_
  refine At.nrmB ?_
  have hk := bothE_ok he
  have hn10 := hk.n10
  have hB := bn_ok hk sure
  obtain ⟨B, hBe⟩ : ∃ B, B = bn d ps sure := ⟨_, rfl⟩
  have hbl : B.each.length = ps.length := by rw [hBe]; exact bn_len d ps sure
  rw [← hBe] at hpb hB
  have hl1 := hl.le hV1
  refine At.cutG (ι := Unit) (fun _ => [(3, .slice al l.length cl), (13, .pointer (some p))]) (fun _ => []) (fun _ V' => V' = V1 ∧ l.length = ps.length ∧ (row = true → ∀ k, k + 1 < l.length → l.getD k 0 ≤ l.getD (k + 1) 0)) ?_ ?_
  · refine At.nrm ?_
    refine At.ktext (.q 0 (.q 1 (.q 2 .done))) ?_
    refine AtT.kmove ?_
    refine AtT.kneI ?_
    refine AtT.kassign ?_
    refine AtT.done ?_
    refine At.nrm ?_
    refine At.condF rfl rfl ?_
    refine At.nrm ?_
    refine At.ktext (.q 0 (.q 1 (.q 2 (.q 3 (.q 4 (.q 5 .done)))))) ?_
    refine AtT.kmove ?_
    first | refine AtT.klenS Try.underlying27 ?_ | refine AtT.klenR Try.underlying27 ?_
    refine AtT.kmove ?_
    first | refine AtT.klenS Try.underlying26 ?_ | refine AtT.klenR Try.underlying26 ?_
    refine AtT.kneI ?_
    refine AtT.kassign ?_
    refine AtT.done ?_
    refine At.nrm ?_
    refine At.condP rfl (fun hc => ?_) (fun hc => ?_)
    · have hc' : l.length ≠ ps.length := fun h => hc (by rw [h])
      refine At.nrm ?_
      refine At.ktext (.q 0 (.q 1 (.q 2 .done))) ?_
      refine AtT.kassign ?_
      refine AtT.kassign ?_
      refine AtT.kassign ?_
      refine AtT.done ?_
      refine At.nrm ?_
      exact At.ret3 rfl (.tmp rfl) (.tmp rfl) (.tmp rfl) (.inl (by rw [plR_len he hc']; exact ⟨by simp, rfl⟩))
    have hc' : l.length = ps.length := by omega
    refine At.nrm ?_
    cases row
    · refine At.ktext (.q 0 (.q 1 (.q 2 (.n false 3 (.q 4 (.q 5 (.q 6 .done))))))) ?_
      refine AtT.kmove ?_
      refine AtT.kmove ?_
      all_goals (first | refine AtT.kL 40 ?_ | refine AtT.pcase (d := 40) rfl (fun hg40 => ?_) (fun hg40 => ?_) | refine AtT.bcase (d := 40) rfl (fun hg40 => ?_) (fun hg40 => ?_))
      all_goals (first | refine AtT.kpass ?_ | refine AtT.kpassU ?_ | ((refine AtT.kmove ?_)))
      all_goals (first | refine AtT.kpassN ?_ | refine AtT.kpassNU ?_ | ((fail)))
      all_goals (first | refine AtT.kpass ?_ | refine AtT.kpassU ?_ | ((refine AtT.knot ?_)))
      all_goals (refine AtT.kpick ?_)
      all_goals (refine AtT.kassign ?_)
      all_goals refine AtT.done ?_
      all_goals (refine At.nrm ?_)
      refine At.condF rfl rfl ?_
      refine At.nrm ?_
      exact At.meetG () ⟨rfl, hc', fun h => by cases h⟩ ⟨rfl, rfl, trivial⟩ Pt.auto
    · refine At.ktext (.q 0 (.q 1 (.q 2 (.n false 3 (.q 4 (.q 5 (.q 6 .done))))))) ?_
      refine AtT.kmove ?_
      refine AtT.kmove ?_
      all_goals (first | refine AtT.kL 40 ?_ | refine AtT.pcase (d := 40) rfl (fun hg40 => ?_) (fun hg40 => ?_) | refine AtT.bcase (d := 40) rfl (fun hg40 => ?_) (fun hg40 => ?_))
      all_goals (first | refine AtT.kpass ?_ | refine AtT.kpassU ?_ | ((refine AtT.kmove ?_)))
      all_goals (first | refine AtT.kpassN ?_ | refine AtT.kpassNU ?_ | ((refine AtT.kcallP rfl rfl ok96 (isSorted_f l _ _ hl1 (by omega)) ?_) ; (rintro _ ⟨b, rfl, hb⟩)))
      all_goals (first | refine AtT.kpass ?_ | refine AtT.kpassU ?_ | ((refine AtT.knot ?_)))
      all_goals (refine AtT.kpick ?_)
      all_goals (refine AtT.kassign ?_)
      all_goals refine AtT.done ?_
      all_goals (refine At.nrm ?_)
      cases b
      · refine At.condT rfl rfl ?_
        have hns := planB_unsorted (l := l) (fun h => by have := hb.2 h; cases this)
        refine At.nrm ?_
        refine At.ktext (.q 0 (.q 1 (.q 2 .done))) ?_
        refine AtT.kassign ?_
        refine AtT.kassign ?_
        refine AtT.kassign ?_
        refine AtT.done ?_
        refine At.nrm ?_
        exact At.ret3 rfl (.tmp rfl) (.tmp rfl) (.tmp rfl) (.inl (by rw [plR_plan he hc' hns]; exact ⟨by simp, rfl⟩))
      · refine At.condF rfl rfl ?_
        refine At.nrm ?_
        exact At.meetG () ⟨rfl, hc', fun _ => hb.1 rfl⟩ ⟨rfl, rfl, trivial⟩ Pt.auto
  rintro _ V2 ks' O' ⟨rfl, hc', hsrt⟩ hk2 hO hl2
  subst hk2 hO
  refine At.nrm ?_
  refine At.ktext (.q 0 .done) ?_
  refine AtT.kassign ?_
  refine AtT.done ?_
  refine At.nrm ?_
  refine At.ktext (.q 0 (.q 1 (.q 2 .done))) ?_
  refine AtT.kmove ?_
  first | refine AtT.klenS Try.underlying27 ?_ | refine AtT.klenR Try.underlying27 ?_
  refine AtT.kmove ?_
  refine AtT.done ?_
  refine At.nrm ?_
  refine At.newRow 72 2 ?_
  refine At.lp (ι := Nat × Option Addr × Nat) (KS := fun g => [(3, .slice al l.length cl), (13, .pointer (some p)), (15, .slice g.2.1 (batN (l.take g.1)).toNat g.2.2), (45, .slice al l.length cl), (46, iv l.length), (47, iv g.1)])
    (OS := fun g => [.row (.slice g.2.1 (batN (l.take g.1)).toNat g.2.2) 72 2 (batN (l.take g.1)).toNat (flat sme (outK B l g.1))])
    (VS := fun g V' => Le V2 V' ∧ g.1 ≤ l.length ∧ ∀ j, j < g.1 → 0 ≤ l.getD j 0 ∧ l.getD j 0 ≤ batN (l.take j)) (μ := fun g => l.length - g.1) (0, none, 0) ?_ ?_ ?_ ?_
  · exact ⟨rfl, rfl, rfl, rfl, rfl, rfl, trivial⟩
  · exact Pt.auto
  · exact ⟨Le.refl _, Nat.zero_le _, fun j hj => absurd hj (Nat.not_lt_zero j)⟩
  · rintro ⟨k, ao, co⟩ V' ks' O' ⟨hVV, hkl, hok⟩ hk3 hO hl3
    dsimp only at hkl hk3 hO hok
    subst hk3 hO
    have hl' := hl1.le hVV
    have hpb' := hpb.le hVV
    obtain ⟨hpre1, hpre2⟩ := pre_bd hkl hok
    have hb0 := batN_pos (l.take k)
    refine At.nrm ?_
    refine At.ktext (.q 0 .done) ?_
    refine AtT.klss ?_
    refine AtT.done ?_
    refine At.nrm ?_
    refine At.condP rfl (fun hp => ?_) (fun hp => ?_)
    · obtain ⟨x, hx⟩ : ∃ x, l[k]? = some x := ⟨_, List.getElem?_eq_getElem (by omega)⟩
      have hgx : l.getD k 0 = x := by simp [List.getD, hx]
      refine At.nrm ?_
      refine At.ktext (.q 0 (.q 1 (.q 2 (.q 3 (.q 4 .done))))) ?_
      refine AtT.kmove ?_
      refine AtT.kidx Try.underlying27 tk3 ?_
      intro p50 e50 he50 hc50
      obtain rfl : e50 = x := by have : l[k]? = some e50 := (by simpa using he50); rw [hx] at this; simpa using this.symm
      first | refine AtT.kloadO tk3 ?_ | refine AtT.kload tk3 ?_
      refine AtT.kassign ?_
      refine AtT.kassign ?_
      refine AtT.done ?_
      refine At.nrm ?_
      by_cases c1 : e50 < 0
      · refine At.ktext (.q 0 (.q 1 (.q 2 (.q 3 (.q 4 (.q 5 (.q 6 (.q 7 .done)))))))) ?_
        refine AtT.kmove ?_
        refine AtT.klss ?_
        refine AtT.setT (d := 53) rfl (c1) ?_
        refine AtT.kmove ?_
        all_goals (first | refine AtT.kL 54 ?_ | refine AtT.pcase (d := 54) rfl (fun hg54 => ?_) (fun hg54 => ?_) | refine AtT.bcase (d := 54) rfl (fun hg54 => ?_) (fun hg54 => ?_))
        all_goals (first | refine AtT.kpass ?_ | refine AtT.kpassU ?_ | ((refine AtT.kmove ?_)))
        all_goals (first | refine AtT.kpass ?_ | refine AtT.kpassU ?_ | ((refine AtT.kmove ?_)))
        all_goals (first | refine AtT.kpass ?_ | refine AtT.kpassU ?_ | ((first | refine AtT.klenS Try.underlying83 ?_ | refine AtT.klenR Try.underlying83 ?_)))
        all_goals (first | refine AtT.kpass ?_ | refine AtT.kpassU ?_ | ((refine AtT.kgtr ?_)))
        all_goals (refine AtT.kpick ?_)
        all_goals refine AtT.done ?_
        all_goals (refine At.nrm ?_)
        refine At.condT rfl rfl ?_
        refine At.nrm ?_
        refine At.ktext (.q 0 (.q 1 (.q 2 .done))) ?_
        refine AtT.kassign ?_
        refine AtT.kassign ?_
        refine AtT.kassign ?_
        refine AtT.done ?_
        refine At.nrm ?_
        have hns := planB_not (l := l) (row := row) (k := k) (by omega) (by omega)
        exact At.ret3 rfl (.tmp rfl) (.tmp rfl) (.tmp rfl) (.inl (by rw [plR_plan he hc' hns]; exact ⟨by simp, rfl⟩))
      by_cases c2 : ((batN (l.take k)).toNat : Int) < e50
      · refine At.ktext (.q 0 (.q 1 (.q 2 (.q 3 (.q 4 (.q 5 (.q 6 (.q 7 .done)))))))) ?_
        refine AtT.kmove ?_
        refine AtT.klss ?_
        refine AtT.setF (d := 53) rfl (c1) ?_
        refine AtT.kmove ?_
        all_goals (first | refine AtT.kL 54 ?_ | refine AtT.pcase (d := 54) rfl (fun hg54 => ?_) (fun hg54 => ?_) | refine AtT.bcase (d := 54) rfl (fun hg54 => ?_) (fun hg54 => ?_))
        all_goals (first | refine AtT.kpass ?_ | refine AtT.kpassU ?_ | ((refine AtT.kmove ?_)))
        all_goals (first | refine AtT.kpass ?_ | refine AtT.kpassU ?_ | ((refine AtT.kmove ?_)))
        all_goals (first | refine AtT.kpass ?_ | refine AtT.kpassU ?_ | ((first | refine AtT.klenS Try.underlying83 ?_ | refine AtT.klenR Try.underlying83 ?_)))
        all_goals (first | refine AtT.kpass ?_ | refine AtT.kpassU ?_ | ((refine AtT.kgtr ?_)))
        all_goals (refine AtT.setT (d := 58) rfl (c2) ?_)
        all_goals (refine AtT.kpick ?_)
        all_goals refine AtT.done ?_
        all_goals (refine At.nrm ?_)
        refine At.condT rfl rfl ?_
        refine At.nrm ?_
        refine At.ktext (.q 0 (.q 1 (.q 2 .done))) ?_
        refine AtT.kassign ?_
        refine AtT.kassign ?_
        refine AtT.kassign ?_
        refine AtT.done ?_
        refine At.nrm ?_
        have hns := planB_not (l := l) (row := row) (k := k) (by omega) (by omega)
        exact At.ret3 rfl (.tmp rfl) (.tmp rfl) (.tmp rfl) (.inl (by rw [plR_plan he hc' hns]; exact ⟨by simp, rfl⟩))
      obtain ⟨j, rfl⟩ : ∃ j : Nat, e50 = (j : Int) := ⟨e50.toNat, by omega⟩
      have hjl : l.getD k 0 ≤ batN (l.take k) := by omega
      have hlb := base_len (B := B) (l := l) (k := k) (by omega) hjl
      have hba := base_at (B := B) (l := l) (k := k) (by omega) hgx hjl
      have hos := outK_succ (B := B) (l := l) (k := k) (by omega) hgx hjl
      have hjb : j < (batN (l.take (k + 1))).toNat := by rw [← hlb]; exact (List.getElem?_eq_some_iff.1 hba).1
      refine At.ktext (.q 0 (.q 1 (.q 2 (.q 3 (.q 4 (.q 5 (.q 6 (.q 7 .done)))))))) ?_
      refine AtT.kmove ?_
      refine AtT.klss ?_
      refine AtT.setF (d := 53) rfl (c1) ?_
      refine AtT.kmove ?_
      all_goals (first | refine AtT.kL 54 ?_ | refine AtT.pcase (d := 54) rfl (fun hg54 => ?_) (fun hg54 => ?_) | refine AtT.bcase (d := 54) rfl (fun hg54 => ?_) (fun hg54 => ?_))
      all_goals (first | refine AtT.kpass ?_ | refine AtT.kpassU ?_ | ((refine AtT.kmove ?_)))
      all_goals (first | refine AtT.kpass ?_ | refine AtT.kpassU ?_ | ((refine AtT.kmove ?_)))
      all_goals (first | refine AtT.kpass ?_ | refine AtT.kpassU ?_ | ((first | refine AtT.klenS Try.underlying83 ?_ | refine AtT.klenR Try.underlying83 ?_)))
      all_goals (first | refine AtT.kpass ?_ | refine AtT.kpassU ?_ | ((refine AtT.kgtr ?_)))
      all_goals (refine AtT.setF (d := 58) rfl (c2) ?_)
      all_goals (refine AtT.kpick ?_)
      all_goals refine AtT.done ?_
      all_goals (refine At.nrm ?_)
      refine At.condF rfl rfl ?_
      refine At.nrm ?_
      refine At.ktext (.q 0 (.q 1 (.q 2 (.q 3 .done)))) ?_
      refine AtT.kmove ?_
      refine AtT.kmove ?_
      first | refine AtT.klenS Try.underlying83 ?_ | refine AtT.klenR Try.underlying83 ?_
      refine AtT.keqI ?_
      refine AtT.done ?_
      refine At.nrm ?_
      refine At.cutG (ι := Option Addr × Nat) (fun g => [(3, .slice al l.length cl), (13, .pointer (some p)), (15, .slice g.1 (batN (l.take (k + 1))).toNat g.2), (16, iv k), (17, iv j), (45, .slice al l.length cl), (46, iv l.length), (47, iv k)])
        (fun g => [.row (.slice g.1 (batN (l.take (k + 1))).toNat g.2) 72 2 (batN (l.take (k + 1))).toNat (flat sme (baseK B l k))]) (fun _ V'' => Le V' V'') ?_ ?_
      · refine At.condP rfl (fun hm => ?_) (fun hm => ?_)
        · have hbe : baseK B l k = outK B l k ++ [sm0] := by unfold baseK; rw [if_pos (by omega)]
          have hlb' : (batN (l.take (k + 1))).toNat = (batN (l.take k)).toNat + 1 := by rw [← hlb, hbe, List.length_append, outK_len]; rfl
          refine At.nrm ?_
          refine At.ktext (.q 0 (.q 1 (.q 2 (.q 3 (.q 4 (.n false 5 (.n true 6 (.q 7 .done)))))))) ?_
          refine AtT.kmove ?_
          refine AtT.kmove ?_
          refine AtT.kmove ?_
          refine AtT.clipR rfl trivial Try.underlying83 tk72 rfl Pick.auto rfl rfl hm hm (by decide) ?_
          refine AtT.kbuild (bd72) ?_
          refine AtT.kbsliceG (bs83_1_0 _ _) ?_
          intro q69 V69 hV69 hq69
          have g69 : Le V V69 := by first | exact hV69 | exact Le.trans (by assumption) hV69
          refine AtT.appendR rfl trivial Try.underlying83 rw72 rfl (by decide) rfl rfl Pick.auto hq69 rfl (by decide) (by unfold maxLen; omega) (by omega) (by decide) (fun a70 c70 => ?_)
          refine AtT.kassign ?_
          refine AtT.done ?_
          refine At.nrm ?_
          rw [hbe, flat_snoc, hlb']
          exact At.meetG (a70, c70) (by assumption) ⟨rfl, rfl, rfl, rfl, rfl, rfl, rfl, rfl, trivial⟩ Pt.auto
        · have hbe : baseK B l k = outK B l k := by unfold baseK; rw [if_neg (by omega)]
          have hlb' : (batN (l.take (k + 1))).toNat = (batN (l.take k)).toNat := by rw [← hlb, hbe, outK_len]
          refine At.nrm ?_
          rw [hbe, hlb']
          exact At.meetG (ao, co) (Le.refl _) ⟨rfl, rfl, rfl, rfl, rfl, rfl, rfl, rfl, trivial⟩ Pt.auto
      rintro ⟨a70, c70⟩ V3 ks' O' hV3 hk3 hO hl4
      dsimp only at hk3 hO
      subst hk3 hO
      have hpb3 := hpb'.le hV3
      obtain ⟨ae, ce, hcel, hsel⟩ := hpb3.each
      have c2 : Cells V3 (p.add 2) [.slice ae B.each.length ce] := hcel.at (k := 2) fun j u hj => by
        match j, hj with
        | 0, hj => exact hj
      have hsb := sumL_bd hB (ofK l (j : Int) k)
      have hkl2 := ofK_len l (j : Int) k
      have hxe := eachP_bd hB (k : Int)
      refine At.rowBlk2 (v := .slice a70 (batN (l.take (k + 1))).toNat c70) Pick.auto (by omega) (fun bb cap rest hbb hcap hcm hrl => ?_)
      cases hbb
      have hu := flat_cut sme_len (baseK B l k) j _ rest hba
      have hst := flat_setR sme_len (baseK B l k) j ((sumL B (ofK l (j : Int) k)).and (eachP B (k : Int))) rest (by omega)
      have hfl := flat_len sme_len (baseK B l k)
      refine At.nrm ?_
      refine At.draw (.q 0 (.q 1 (.q 2 (.q 3 (.q 4 (.q 5 (.q 6 (.q 7 (.q 8 (.q 9 (.q 10 (.q 11 (.q 12 (.n false 13 (.q 14 (.n true 15 .done)))))))))))))))) ffm (by kernel_rfl) ?_
      refine AtT.kmove ?_
      refine AtT.kmove ?_
      refine AtT.kmove ?_
      refine AtT.kmove ?_
      refine AtT.idxZ rfl trivial Try.underlying83 tk72 rfl rfl hjb (by decide) ?_
      refine AtT.loadOP rfl trivial rfl tk72 Pick.auto hu rfl (by decide) ?_
      refine AtT.kmove ?_
      refine AtT.knil ?_
      first | refine AtT.kfieldO fo97_1 ?_ | with_reducible refine AtT.kfield2 fo97_1 ?_ | refine AtT.kfield fo97_1 ?_
      first | refine AtT.kloadO tk83 ?_ | refine AtT.kload tk83 ?_
      refine AtT.kmove ?_
      refine AtT.kidx Try.underlying83 tk72 ?_
      intro p82 e82 he82 hc82
      obtain rfl : e82 = eachP B (k : Int) := eachP_some he82
      first | refine AtT.kloadOA tk72 ?_ | refine AtT.kloadA tk72 ?_ | refine AtT.kloadOP tk72 ?_
      refine AtT.kcallP rfl rfl ok91 (and_f (sumL B (ofK l (j : Int) k)) (eachP B (k : Int)) _ (Fit.of (by omega) (by omega)) (Fit.of (by omega) (by omega))) ?_
      rintro _ rfl
      refine AtT.idxZ rfl trivial Try.underlying83 tk72 rfl rfl hjb (by decide) ?_
      refine AtT.store rfl trivial rfl rfl tk72 rfl rfl (by rw [List.length_append]; simp only [sme, List.length_cons, List.length_nil]; omega) rfl hst (by repeat (first | exact Upd.here | apply Upd.there)) ?_
      refine AtT.done ?_
      refine At.nrm ?_
      rw [← hos]
      have hfl2 : (flat sme (outK B l (k + 1))).length = (batN (l.take (k + 1))).toNat * 2 := by rw [flat_len sme_len, outK_len]
      have hfl3 : (flat sme (outK B l (k + 1)) ++ rest).length = c70 * 2 := by rw [← hrl, List.length_append, List.length_append, hfl2, hfl, hlb]
      refine At.blkRow (m := (batN (l.take (k + 1))).toNat) Pick.auto hfl3 hfl2 hcap hcm ?_
      refine At.nrm ?_
      refine At.ktext (.q 0 (.q 1 .done)) ?_
      first | refine AtT.kadd ?_ | refine AtT.kaddW ?_
      refine AtT.kmove ?_
      refine AtT.done ?_
      refine At.nrm ?_
      refine At.round (k + 1, some ⟨bb, 0, none⟩, c70) ?_ ?_ ?_ ?_
      · show l.length - (k + 1) < l.length - k; omega
      · refine ⟨hVV.trans hV3, by dsimp only; omega, fun i hi => ?_⟩
        by_cases hik : i = k
        · subst hik; omega
        · exact hok i (by dsimp only at hi; omega)
      · exact ⟨rfl, rfl, rfl, rfl, rfl, ivs (by dsimp only; omega), trivial⟩
      dsimp only
      · exact Pt.auto
    · obtain rfl : k = l.length := by omega
      have hpl : planB l row = true := planB_of hok hsrt
      refine At.nrm ?_
      refine At.giveSl (l := outK B l l.length) sme_len rfl (outK_len B l l.length).symm Pick.auto (fun V4 hV4 hs4 => ?_)
      have hpb4 := (hpb.le hVV).le hV4
      have htl : (batN (l.take l.length)).toNat = (batN l).toNat := by rw [List.take_length]
      have hol := outK_len B l l.length
      refine At.ktext (.q 0 (.q 1 (.q 2 .done))) ?_
      refine AtT.kmove ?_
      first | refine AtT.klenS Try.underlying83 ?_ | refine AtT.klenR Try.underlying83 ?_
      refine AtT.kmove ?_
      refine AtT.done ?_
      refine At.nrm ?_
      refine At.lp (ι := Nat) (KS := fun i => [(13, .pointer (some p)), (15, .slice ao (batN (l.take l.length)).toNat co), (87, .slice ao (batN (l.take l.length)).toNat co), (88, iv (batN (l.take l.length)).toNat), (89, iv i)]) (OS := fun _ => [])
        (VS := fun i V' => V' = V4 ∧ i ≤ (batN l).toNat ∧ fstE B l i = 0) (μ := fun i => (batN l).toNat - i) 0 ?_ ?_ ?_ ?_
      · exact ⟨rfl, rfl, rfl, ivs (by rw [hol]), rfl, trivial⟩
      · exact Pt.auto
      · exact ⟨rfl, Nat.zero_le _, rfl⟩
      · rintro i V5 ks' O' ⟨rfl, hil, hfe⟩ hk3 hO hl4
        subst hk3 hO
        have hs5 : Sl V5 sme 2 (.slice ao (outK B l l.length).length co) (outK B l l.length) := by rw [hol]; exact hs4
        rw [← hol]
        refine At.nrm ?_
        refine At.ktext (.q 0 .done) ?_
        refine AtT.klss ?_
        refine AtT.done ?_
        refine At.nrm ?_
        refine At.condP rfl (fun hp => ?_) (fun hp => ?_)
        · refine At.nrm ?_
          refine At.ktext (.q 0 (.q 1 (.n false 2 (.n true 3 .done)))) ?_
          refine AtT.kidx Try.underlying83 tk72 ?_
          intro p91 e91 he91 hc91
          obtain rfl := fitE_at (by simpa using he91)
          first | refine AtT.kloadOA tk72 ?_ | refine AtT.kloadA tk72 ?_ | refine AtT.kloadOP tk72 ?_
          refine AtT.kalloc z72 ?_
          intro b19
          refine AtT.kstoreA tk72 ?_
          refine AtT.done ?_
          refine At.nrm ?_
          refine At.ktext (.q 0 (.q 1 (.n false 2 (.q 3 .done)))) ?_
          refine AtT.kmove ?_
          first | refine AtT.kloadOA tk72 ?_ | refine AtT.kloadA tk72 ?_ | refine AtT.kloadOP tk72 ?_
          refine AtT.kcallP rfl rfl ok59 (fits_f B hB _ _ _ hpb4) ?_
          rintro _ rfl
          refine AtT.kassign ?_
          refine AtT.done ?_
          refine At.nrm ?_
          have hfs : fstE B l (i + 1) = fitE B (sumL B (ofL l (i : Int))) := by simp only [fstE]; rw [if_neg (by rw [hfe]; simp)]
          refine At.ktext (.q 0 (.q 1 .done)) ?_
          refine AtT.kmove ?_
          refine AtT.kneI ?_
          refine AtT.done ?_
          refine At.nrm ?_
          refine At.condP rfl (fun hm => ?_) (fun hm => ?_)
          · have hbad : badE B l = fitE B (sumL B (ofL l (i : Int))) := by
              rw [← hfs]; unfold badE
              exact fstE_bad (by rw [hfs]; exact hm) (by omega)
            refine At.nrm ?_
            refine At.ktext (.q 0 (.q 1 (.q 2 (.q 3 .done)))) ?_
            refine AtT.kmove ?_
            refine AtT.kassign ?_
            refine AtT.kassign ?_
            refine AtT.kassign ?_
            refine AtT.done ?_
            refine At.nrm ?_
            refine At.ret3 rfl (.tmp rfl) (.tmp rfl) (.tmp rfl) (.inl ?_)
            rw [plR_bad he hc' hpl (by rw [← hBe, hbad]; exact hm), ← hBe, hbad]
            exact ⟨hm, rfl⟩
          · refine At.nrm ?_
            refine At.ktext (.q 0 (.q 1 .done)) ?_
            first | refine AtT.kadd ?_ | refine AtT.kaddW ?_
            refine AtT.kmove ?_
            refine AtT.done ?_
            refine At.nrm ?_
            refine At.round (i + 1) ?_ ?_ ?_ ?_
            · show (batN l).toNat - (i + 1) < (batN l).toNat - i; omega
            · exact ⟨rfl, by omega, by rw [hfs]; exact Decidable.not_not.1 hm⟩
            · exact ⟨rfl, rfl, rfl, rfl, ivs (by omega), trivial⟩
            · exact Pt.auto
        · obtain rfl : i = (batN l).toNat := by omega
          refine At.nrm ?_
          refine At.ktext (.q 0 (.q 1 (.q 2 (.q 3 (.q 4 .done))))) ?_
          refine AtT.kmove ?_
          refine AtT.kmove ?_
          refine AtT.kassign ?_
          refine AtT.kassign ?_
          refine AtT.kassign ?_
          refine AtT.done ?_
          refine At.nrm ?_
          refine At.ret3 rfl (.tmp rfl) (.tmp rfl) (.tmp rfl) (.inr ?_)
          rw [plR_ok he hc' hpl (by rw [← hBe]; exact hfe), ← hBe]
          exact ⟨rfl, p, _, rfl, hpb4, hs5⟩
end Go.Proofs.Ytmnbkceiaifncaa
set_option linter.unusedVariables false
namespace Go.Proofs.Ytmnbkceiaifncaa
open Go.Lw Go.Gl Go.RowKit

theorem planned_no {d : Dy} {ps : List Pn} {sure : Bool} {l : List Int} {row : Bool} {V : View} {v vl : Value} (hs : Sl V pne 3 v ps) (hl : SlI V vl l) (h : (plR d ps sure l row).2 ≠ 0) : Fnc Try.prog 69 [dyv d, v, .bool sure, vl, .bool row] V fun r V' => r = .tuple #[.pointer none, .slice none 0 0, iv (plR d ps sure l row).2] :=
  (planned_f d ps sure l row V v vl hs hl).mono fun r V' _ h2 => by
    rcases h2 with ⟨_, h2⟩ | ⟨h2, _⟩
    · exact h2
    · exact absurd h2 h
theorem planned_yes {d : Dy} {ps : List Pn} {sure : Bool} {l : List Int} {row : Bool} {V : View} {v vl : Value} (hs : Sl V pne 3 v ps) (hl : SlI V vl l) (h : (plR d ps sure l row).2 = 0) : Fnc Try.prog 69 [dyv d, v, .bool sure, vl, .bool row] V fun r V' => ∃ p a c, r = .tuple #[.pointer (some p), .slice a (batN l).toNat c, iv 0] ∧ BnV V' p (bn d ps sure) ∧ Sl V' sme 2 (.slice a (outK (bn d ps sure) l l.length).length c) (outK (bn d ps sure) l l.length) :=
  (planned_f d ps sure l row V v vl hs hl).mono fun r V' _ h2 => by
    rcases h2 with ⟨h2, _⟩ | ⟨_, p, vo, h2, h3, h4⟩
    · exact absurd h h2
    · obtain ⟨a, c, rfl, k1, k2, k3⟩ := id h4
      refine ⟨p, a, c, ?_, h3, h4⟩
      rw [outK_len, List.take_length] at h2
      exact h2
theorem checkRow_f (d : Dy) (ps : List Pn) (sure : Bool) (l : List Int) (V : View) (v vl : Value) (hs : Sl V pne 3 v ps) (hl : SlI V vl l) : Fnc Try.prog 25 [dyv d, v, .bool sure, vl] V fun r _ => r = .tuple #[iv (plR d ps sure l true).1, iv (plR d ps sure l true).2] := by
  have hp := batN_pos l
  refine fn_of Try.func25 rfl Try.ntmps25 (Nat.le_of_ble_eq_true rfl) ?_
  intro w0 hw0
  refine At.nrm ?_
  refine At.ktext (.n false 0 (.q 1 (.q 2 .done))) ?_
  refine AtT.kbox ?_
  intro b4
  refine AtT.kassign ?_
  refine AtT.kassign ?_
  refine AtT.done ?_
  refine At.nrm ?_
  by_cases he : (plR d ps sure l true).2 = 0
  · refine At.ktext (.q 0 (.q 1 (.q 2 (.q 3 (.n false 4 (.q 5 (.q 6 (.q 7 (.q 8 (.q 9 (.q 10 (.q 11 .done)))))))))))) ?_
    first | refine AtT.kloadOA tk25 ?_ | refine AtT.kloadA tk25 ?_ | refine AtT.kloadOP tk25 ?_
    refine AtT.kmove ?_
    refine AtT.kmove ?_
    refine AtT.kmove ?_
    refine AtT.kcall rfl rfl ok69 (planned_yes hs hl he) ?_
    rintro _ V1 hV1 ⟨p, a, c, rfl, hpb, hso⟩
    refine AtT.kmove ?_
    refine AtT.kextract ?_
    refine AtT.kextract ?_
    refine AtT.kextract ?_
    refine AtT.kassign ?_
    refine AtT.kassign ?_
    refine AtT.kassign ?_
    refine AtT.done ?_
    refine At.nrm ?_
    refine At.ktext (.q 0 (.q 1 (.q 2 (.q 3 (.q 4 .done))))) ?_
    refine AtT.kmove ?_
    first | refine AtT.klenS Try.underlying83 ?_ | refine AtT.klenR Try.underlying83 ?_
    refine AtT.kmove ?_
    refine AtT.kassign ?_
    refine AtT.kassign ?_
    refine AtT.done ?_
    refine At.nrm ?_
    refine At.ret2 rfl (.tmp rfl) (.tmp rfl) ?_
    rw [(plR_yes he).2.2.2.2, Int.toNat_of_nonneg hp]
  · refine At.ktext (.q 0 (.q 1 (.q 2 (.q 3 (.n false 4 (.q 5 (.q 6 (.q 7 (.q 8 (.q 9 (.q 10 (.q 11 .done)))))))))))) ?_
    first | refine AtT.kloadOA tk25 ?_ | refine AtT.kloadA tk25 ?_ | refine AtT.kloadOP tk25 ?_
    refine AtT.kmove ?_
    refine AtT.kmove ?_
    refine AtT.kmove ?_
    refine AtT.kcallP rfl rfl ok69 (planned_no hs hl he) ?_
    rintro _ rfl
    refine AtT.kmove ?_
    refine AtT.kextract ?_
    refine AtT.kextract ?_
    refine AtT.kextract ?_
    refine AtT.kassign ?_
    refine AtT.kassign ?_
    refine AtT.kassign ?_
    refine AtT.done ?_
    refine At.nrm ?_
    refine At.ktext (.q 0 (.q 1 (.q 2 (.q 3 (.q 4 .done))))) ?_
    refine AtT.kmove ?_
    first | refine AtT.klenS Try.underlying83 ?_ | refine AtT.klenR Try.underlying83 ?_
    refine AtT.kmove ?_
    refine AtT.kassign ?_
    refine AtT.kassign ?_
    refine AtT.done ?_
    refine At.nrm ?_
    refine At.ret2 rfl (.tmp rfl) (.tmp rfl) ?_
    rw [plR_no he]; rfl
theorem checkPlan_f (d : Dy) (ps : List Pn) (sure : Bool) (l : List Int) (V : View) (v vl : Value) (hs : Sl V pne 3 v ps) (hl : SlI V vl l) : Fnc Try.prog 34 [dyv d, v, .bool sure, vl] V fun r _ => r = .tuple #[iv (plR d ps sure l false).1, iv (plR d ps sure l false).2] := by
  have hp := batN_pos l
  refine fn_of Try.func34 rfl Try.ntmps34 (Nat.le_of_ble_eq_true rfl) ?_
  intro w0 hw0
  refine At.nrm ?_
  refine At.ktext (.n false 0 (.q 1 (.q 2 .done))) ?_
  refine AtT.kbox ?_
  intro b4
  refine AtT.kassign ?_
  refine AtT.kassign ?_
  refine AtT.done ?_
  refine At.nrm ?_
  by_cases he : (plR d ps sure l false).2 = 0
  · refine At.ktext (.q 0 (.q 1 (.q 2 (.q 3 (.n false 4 (.q 5 (.q 6 (.q 7 (.q 8 (.q 9 (.q 10 (.q 11 .done)))))))))))) ?_
    first | refine AtT.kloadOA tk25 ?_ | refine AtT.kloadA tk25 ?_ | refine AtT.kloadOP tk25 ?_
    refine AtT.kmove ?_
    refine AtT.kmove ?_
    refine AtT.kmove ?_
    refine AtT.kcall rfl rfl ok69 (planned_yes hs hl he) ?_
    rintro _ V1 hV1 ⟨p, a, c, rfl, hpb, hso⟩
    refine AtT.kmove ?_
    refine AtT.kextract ?_
    refine AtT.kextract ?_
    refine AtT.kextract ?_
    refine AtT.kassign ?_
    refine AtT.kassign ?_
    refine AtT.kassign ?_
    refine AtT.done ?_
    refine At.nrm ?_
    refine At.ktext (.q 0 (.q 1 (.q 2 (.q 3 (.q 4 .done))))) ?_
    refine AtT.kmove ?_
    first | refine AtT.klenS Try.underlying83 ?_ | refine AtT.klenR Try.underlying83 ?_
    refine AtT.kmove ?_
    refine AtT.kassign ?_
    refine AtT.kassign ?_
    refine AtT.done ?_
    refine At.nrm ?_
    refine At.ret2 rfl (.tmp rfl) (.tmp rfl) ?_
    rw [(plR_yes he).2.2.2.2, Int.toNat_of_nonneg hp]
  · refine At.ktext (.q 0 (.q 1 (.q 2 (.q 3 (.n false 4 (.q 5 (.q 6 (.q 7 (.q 8 (.q 9 (.q 10 (.q 11 .done)))))))))))) ?_
    first | refine AtT.kloadOA tk25 ?_ | refine AtT.kloadA tk25 ?_ | refine AtT.kloadOP tk25 ?_
    refine AtT.kmove ?_
    refine AtT.kmove ?_
    refine AtT.kmove ?_
    refine AtT.kcallP rfl rfl ok69 (planned_no hs hl he) ?_
    rintro _ rfl
    refine AtT.kmove ?_
    refine AtT.kextract ?_
    refine AtT.kextract ?_
    refine AtT.kextract ?_
    refine AtT.kassign ?_
    refine AtT.kassign ?_
    refine AtT.kassign ?_
    refine AtT.done ?_
    refine At.nrm ?_
    refine At.ktext (.q 0 (.q 1 (.q 2 (.q 3 (.q 4 .done))))) ?_
    refine AtT.kmove ?_
    first | refine AtT.klenS Try.underlying83 ?_ | refine AtT.klenR Try.underlying83 ?_
    refine AtT.kmove ?_
    refine AtT.kassign ?_
    refine AtT.kassign ?_
    refine AtT.done ?_
    refine At.nrm ?_
    refine At.ret2 rfl (.tmp rfl) (.tmp rfl) ?_
    rw [plR_no he]; rfl
theorem isPlan_f (l : List Int) (row : Bool) (h1 : l.length ≤ 1000) (V : View) (v : Value) (hs : SlI V v l) : Fnc Try.prog 97 [v, .bool row] V fun r _ => r = .bool (planB l row) := by
  obtain ⟨a, c, rfl, k1, k2, _⟩ := id hs
  clear k1 k2
  refine fn_of Try.func97 rfl Try.ntmps97 (Nat.le_of_ble_eq_true rfl) ?_
  intro w0 hw0
  refine At.nrm ?_
  refine At.ktext (.q 0 .done) ?_
  refine AtT.kassign ?_
  refine AtT.done ?_
  refine At.nrm ?_
  refine At.ktext (.q 0 .done) ?_
  refine AtT.kassign ?_
  refine AtT.done ?_
  refine At.nrm ?_
  refine At.lp (ι := Nat) (KS := fun k => [(0, .slice a l.length c), (1, .bool row), (5, iv k)]) (OS := fun _ => []) (VS := fun k V' => V' = V ∧ k ≤ l.length ∧ ∀ j, j < k → plAt l row j = true) (μ := fun k => l.length - k) 0 ?_ ?_ ?_ ?_
  · exact ⟨rfl, rfl, rfl, trivial⟩
  · exact Pt.auto
  · exact ⟨rfl, Nat.zero_le _, fun j hj => absurd hj (Nat.not_lt_zero j)⟩
  · rintro k V' ks' O' ⟨rfl, hkl, hok⟩ hk hO hl2
    subst hk hO
    refine At.nrm ?_
    refine At.ktext (.q 0 (.q 1 (.q 2 (.q 3 .done)))) ?_
    refine AtT.kmove ?_
    refine AtT.kmove ?_
    first | refine AtT.klenS Try.underlying27 ?_ | refine AtT.klenR Try.underlying27 ?_
    refine AtT.klss ?_
    refine AtT.done ?_
    refine At.nrm ?_
    refine At.condP rfl (fun hp => ?_) (fun hp => ?_)
    · obtain ⟨x, hx⟩ : ∃ x, l[k]? = some x := ⟨_, List.getElem?_eq_getElem (by omega)⟩
      have hgx : l.getD k 0 = x := by simp [List.getD, hx]
      have hpre : ∀ j, j < k → 0 ≤ l.getD j 0 ∧ l.getD j 0 ≤ batN (l.take j) := by
        intro j
        induction j using Nat.strongRecOn with
        | _ j ih =>
          intro hj
          have := hok j hj
          unfold plAt leastAt at this
          rw [decide_eq_true_eq] at this
          refine ⟨?_, this.2⟩
          split at this
          · have := (ih (j - 1) (by omega) (by omega)).1; omega
          · exact this.1
      obtain ⟨hb1, hb2⟩ := pre_bd hkl hpre
      refine At.nrm ?_
      refine At.ktext (.q 0 .done) ?_
      refine AtT.kassign ?_
      refine AtT.done ?_
      refine At.nrm ?_
      refine At.cutG (ι := Unit) (fun _ => [(0, .slice a l.length c), (1, .bool row), (5, iv k), (6, iv 0), (17, .bool (row && decide (0 < (k : Int))))]) (fun _ => []) (fun _ V'' => V'' = V') ?_ ?_
      · cases row
        · refine At.ktext (.q 0 (.q 1 (.q 2 (.q 3 (.q 4 .done))))) ?_
          refine AtT.kmove ?_
          refine AtT.kmove ?_
          all_goals (first | refine AtT.kL 14 ?_ | refine AtT.pcase (d := 14) rfl (fun hg14 => ?_) (fun hg14 => ?_) | refine AtT.bcase (d := 14) rfl (fun hg14 => ?_) (fun hg14 => ?_))
          all_goals (first | refine AtT.kpass ?_ | refine AtT.kpassU ?_ | ((refine AtT.kmove ?_)))
          all_goals (first | refine AtT.kpass ?_ | refine AtT.kpassU ?_ | ((refine AtT.kgtr ?_)))
          all_goals (refine AtT.kpick ?_)
          all_goals refine AtT.done ?_
          all_goals (refine At.nrm ?_)
          exact At.meetG () rfl ⟨rfl, rfl, rfl, rfl, rfl, trivial⟩ Pt.auto
        · refine At.ktext (.q 0 (.q 1 (.q 2 (.q 3 (.q 4 .done))))) ?_
          refine AtT.kmove ?_
          refine AtT.kmove ?_
          all_goals (first | refine AtT.kL 14 ?_ | refine AtT.pcase (d := 14) rfl (fun hg14 => ?_) (fun hg14 => ?_) | refine AtT.bcase (d := 14) rfl (fun hg14 => ?_) (fun hg14 => ?_))
          all_goals (first | refine AtT.kpass ?_ | refine AtT.kpassU ?_ | ((refine AtT.kmove ?_)))
          all_goals (first | refine AtT.kpass ?_ | refine AtT.kpassU ?_ | ((refine AtT.kgtr ?_)))
          all_goals (refine AtT.kpick ?_)
          all_goals refine AtT.done ?_
          all_goals (refine At.nrm ?_)
          exact At.meetG () rfl ⟨rfl, rfl, rfl, rfl, bsome (by simp), trivial⟩ Pt.auto
      rintro _ V'' ks' O' rfl hk hO hl3
      subst hk hO
      refine At.nrm ?_
      refine At.cutG (ι := Unit) (fun _ => [(0, .slice a l.length c), (1, .bool row), (5, iv k), (6, iv (leastAt l row k))]) (fun _ => []) (fun _ V' => V' = V'') ?_ ?_
      · refine At.cond rfl (fun hc => ?_) (fun hc => ?_)
        · rw [Bool.and_eq_true, decide_eq_true_eq] at hc
          obtain ⟨hc1, hc⟩ := hc
          obtain ⟨y, hy⟩ : ∃ y, l[k - 1]? = some y := ⟨_, List.getElem?_eq_getElem (by omega)⟩
          have hgy : l.getD (k - 1) 0 = y := by simp [List.getD, hy]
          have tk : ((k : Int) - 1).toNat = k - 1 := by omega
          refine At.nrm ?_
          refine At.ktext (.q 0 (.q 1 (.q 2 (.q 3 (.q 4 (.q 5 .done)))))) ?_
          refine AtT.kmove ?_
          refine AtT.kmove ?_
          first | refine AtT.ksubt ?_ | refine AtT.ksubW ?_
          refine AtT.kidx Try.underlying27 tk3 ?_
          intro p21 e21 he21 hc21
          obtain rfl : e21 = y := by have : l[((k : Int) - 1).toNat]? = some e21 := (by simpa using he21); rw [tk, hy] at this; simpa using this.symm
          first | refine AtT.kloadO tk3 ?_ | refine AtT.kload tk3 ?_
          refine AtT.kassign ?_
          refine AtT.done ?_
          refine At.nrm ?_
          refine At.meetG () rfl ⟨rfl, rfl, rfl, ivs ?_, trivial⟩ Pt.auto
          unfold leastAt; rw [if_pos ⟨hc1, by omega⟩, hgy]
        · rw [Bool.and_eq_false_iff, decide_eq_false_iff_not] at hc
          refine At.nrm ?_
          refine At.meetG () rfl ⟨rfl, rfl, rfl, ivs ?_, trivial⟩ Pt.auto
          unfold leastAt
          rw [if_neg]
          rintro ⟨h1, h2⟩
          rcases hc with hc | hc
          · rw [h1] at hc; cases hc
          · omega
      rintro _ V3 ks' O' rfl hk hO hl4
      subst hk hO
      refine At.nrm ?_
      by_cases c1 : x < leastAt l row k
      · refine At.draw (.q 0 (.q 1 (.q 2 (.q 3 (.q 4 (.q 5 (.q 6 (.q 7 (.q 8 (.q 9 (.q 10 (.q 11 (.q 12 (.q 13 (.n false 14 (.q 15 (.q 16 .done))))))))))))))))) ffm (by kernel_rfl) ?_
        refine AtT.kmove ?_
        refine AtT.kmove ?_
        refine AtT.kidx Try.underlying27 tk3 ?_
        intro p25 e25 he25 hc25
        obtain rfl : e25 = x := by have : l[k]? = some e25 := (by simpa using he25); rw [hx] at this; simpa using this.symm
        first | refine AtT.kloadO tk3 ?_ | refine AtT.kload tk3 ?_
        refine AtT.kmove ?_
        refine AtT.klss ?_
        refine AtT.setT (d := 28) rfl (c1) ?_
        refine AtT.kmove ?_
        all_goals (first | refine AtT.kL 29 ?_ | refine AtT.pcase (d := 29) rfl (fun hg29 => ?_) (fun hg29 => ?_) | refine AtT.bcase (d := 29) rfl (fun hg29 => ?_) (fun hg29 => ?_))
        all_goals (first | refine AtT.kpass ?_ | refine AtT.kpassU ?_ | ((refine AtT.kmove ?_)))
        all_goals (first | refine AtT.kpass ?_ | refine AtT.kpassU ?_ | ((refine AtT.kmove ?_)))
        all_goals (first | refine AtT.kpass ?_ | refine AtT.kpassU ?_ | ((refine AtT.kidx Try.underlying27 tk3 ?_) ; (intro p32 e32 he32 hc32)))
        all_goals (first | refine AtT.kpass ?_ | refine AtT.kpassU ?_ | ((first | refine AtT.kloadO tk3 ?_ | refine AtT.kload tk3 ?_)))
        all_goals (first | refine AtT.kpass ?_ | refine AtT.kpassU ?_ | ((refine AtT.kmove ?_)))
        all_goals (first | refine AtT.kpass ?_ | refine AtT.kpassU ?_ | ((refine AtT.kmove ?_)))
        all_goals (first | refine AtT.kpass ?_ | refine AtT.kpassU ?_ | ((refine AtT.khead Try.underlying27 tk3 ?_) ; (intro a36 c36 hs36)))
        all_goals (first | refine AtT.kpassN ?_ | refine AtT.kpassNU ?_ | ((fail)))
        all_goals (first | refine AtT.kpass ?_ | refine AtT.kpassU ?_ | ((refine AtT.kgtr ?_)))
        all_goals (refine AtT.kpick ?_)
        all_goals refine AtT.done ?_
        all_goals (refine At.nrm ?_)
        refine At.condT rfl rfl ?_
        refine At.nrm ?_
        refine At.ktext (.q 0 .done) ?_
        refine AtT.kassign ?_
        refine AtT.done ?_
        refine At.nrm ?_
        exact At.ret1 rfl (.tmp rfl) (by rw [planB_false (k := k) (by omega) (by unfold plAt; exact decide_eq_false (by omega))])
      by_cases c2 : batN (l.take ((k : Int)).toNat) < x
      · refine At.draw (.q 0 (.q 1 (.q 2 (.q 3 (.q 4 (.q 5 (.q 6 (.q 7 (.q 8 (.q 9 (.q 10 (.q 11 (.q 12 (.q 13 (.n false 14 (.q 15 (.q 16 .done))))))))))))))))) ffm (by kernel_rfl) ?_
        refine AtT.kmove ?_
        refine AtT.kmove ?_
        refine AtT.kidx Try.underlying27 tk3 ?_
        intro p25 e25 he25 hc25
        obtain rfl : e25 = x := by have : l[k]? = some e25 := (by simpa using he25); rw [hx] at this; simpa using this.symm
        first | refine AtT.kloadO tk3 ?_ | refine AtT.kload tk3 ?_
        refine AtT.kmove ?_
        refine AtT.klss ?_
        refine AtT.setF (d := 28) rfl (c1) ?_
        refine AtT.kmove ?_
        all_goals (first | refine AtT.kL 29 ?_ | refine AtT.pcase (d := 29) rfl (fun hg29 => ?_) (fun hg29 => ?_) | refine AtT.bcase (d := 29) rfl (fun hg29 => ?_) (fun hg29 => ?_))
        all_goals (first | refine AtT.kpass ?_ | refine AtT.kpassU ?_ | ((refine AtT.kmove ?_)))
        all_goals (first | refine AtT.kpass ?_ | refine AtT.kpassU ?_ | ((refine AtT.kmove ?_)))
        all_goals (first | refine AtT.kpass ?_ | refine AtT.kpassU ?_ | ((refine AtT.kidx Try.underlying27 tk3 ?_) ; (intro p32 e32 he32 hc32)))
        all_goals (obtain rfl : e32 = e25 := by have : l[k]? = some e32 := (by simpa using he32); rw [hx] at this; simpa using this.symm)
        all_goals (first | refine AtT.kpass ?_ | refine AtT.kpassU ?_ | ((first | refine AtT.kloadO tk3 ?_ | refine AtT.kload tk3 ?_)))
        all_goals (first | refine AtT.kpass ?_ | refine AtT.kpassU ?_ | ((refine AtT.kmove ?_)))
        all_goals (first | refine AtT.kpass ?_ | refine AtT.kpassU ?_ | ((refine AtT.kmove ?_)))
        all_goals (first | refine AtT.kpass ?_ | refine AtT.kpassU ?_ | ((refine AtT.khead Try.underlying27 tk3 ?_) ; (intro a36 c36 hs36)))
        all_goals (first | refine AtT.kpassN ?_ | refine AtT.kpassNU ?_ | ((refine AtT.kcallP rfl rfl ok33 (bat_f (l.take ((k : Int)).toNat) (fun y hy => by have := hb1 y hy; omega) _ _ hs36) ?_) ; (rintro _ rfl)))
        all_goals (first | refine AtT.kpass ?_ | refine AtT.kpassU ?_ | ((refine AtT.kgtr ?_)))
        all_goals (refine AtT.setT (d := 38) rfl (c2) ?_)
        all_goals (refine AtT.kpick ?_)
        all_goals refine AtT.done ?_
        all_goals (refine At.nrm ?_)
        rw [Int.toNat_natCast] at c2
        refine At.condT rfl rfl ?_
        refine At.nrm ?_
        refine At.ktext (.q 0 .done) ?_
        refine AtT.kassign ?_
        refine AtT.done ?_
        refine At.nrm ?_
        exact At.ret1 rfl (.tmp rfl) (by rw [planB_false (k := k) (by omega) (by unfold plAt; exact decide_eq_false (by omega))])
      refine At.draw (.q 0 (.q 1 (.q 2 (.q 3 (.q 4 (.q 5 (.q 6 (.q 7 (.q 8 (.q 9 (.q 10 (.q 11 (.q 12 (.q 13 (.n false 14 (.q 15 (.q 16 .done))))))))))))))))) ffm (by kernel_rfl) ?_
      refine AtT.kmove ?_
      refine AtT.kmove ?_
      refine AtT.kidx Try.underlying27 tk3 ?_
      intro p25 e25 he25 hc25
      obtain rfl : e25 = x := by have : l[k]? = some e25 := (by simpa using he25); rw [hx] at this; simpa using this.symm
      first | refine AtT.kloadO tk3 ?_ | refine AtT.kload tk3 ?_
      refine AtT.kmove ?_
      refine AtT.klss ?_
      refine AtT.setF (d := 28) rfl (c1) ?_
      refine AtT.kmove ?_
      all_goals (first | refine AtT.kL 29 ?_ | refine AtT.pcase (d := 29) rfl (fun hg29 => ?_) (fun hg29 => ?_) | refine AtT.bcase (d := 29) rfl (fun hg29 => ?_) (fun hg29 => ?_))
      all_goals (first | refine AtT.kpass ?_ | refine AtT.kpassU ?_ | ((refine AtT.kmove ?_)))
      all_goals (first | refine AtT.kpass ?_ | refine AtT.kpassU ?_ | ((refine AtT.kmove ?_)))
      all_goals (first | refine AtT.kpass ?_ | refine AtT.kpassU ?_ | ((refine AtT.kidx Try.underlying27 tk3 ?_) ; (intro p32 e32 he32 hc32)))
      all_goals (obtain rfl : e32 = e25 := by have : l[k]? = some e32 := (by simpa using he32); rw [hx] at this; simpa using this.symm)
      all_goals (first | refine AtT.kpass ?_ | refine AtT.kpassU ?_ | ((first | refine AtT.kloadO tk3 ?_ | refine AtT.kload tk3 ?_)))
      all_goals (first | refine AtT.kpass ?_ | refine AtT.kpassU ?_ | ((refine AtT.kmove ?_)))
      all_goals (first | refine AtT.kpass ?_ | refine AtT.kpassU ?_ | ((refine AtT.kmove ?_)))
      all_goals (first | refine AtT.kpass ?_ | refine AtT.kpassU ?_ | ((refine AtT.khead Try.underlying27 tk3 ?_) ; (intro a36 c36 hs36)))
      all_goals (first | refine AtT.kpassN ?_ | refine AtT.kpassNU ?_ | ((refine AtT.kcallP rfl rfl ok33 (bat_f (l.take ((k : Int)).toNat) (fun y hy => by have := hb1 y hy; omega) _ _ hs36) ?_) ; (rintro _ rfl)))
      all_goals (first | refine AtT.kpass ?_ | refine AtT.kpassU ?_ | ((refine AtT.kgtr ?_)))
      all_goals (refine AtT.setF (d := 38) rfl (c2) ?_)
      all_goals (refine AtT.kpick ?_)
      all_goals refine AtT.done ?_
      all_goals (refine At.nrm ?_)
      rw [Int.toNat_natCast] at c2
      refine At.condF rfl rfl ?_
      refine At.nrm ?_
      refine At.ktext (.q 0 (.q 1 (.q 2 .done))) ?_
      refine AtT.kmove ?_
      first | refine AtT.kadd ?_ | refine AtT.kaddW ?_
      refine AtT.kassign ?_
      refine AtT.done ?_
      refine At.nrm ?_
      refine At.round (k + 1) ?_ ?_ ?_ ?_
      · show l.length - (k + 1) < l.length - k; omega
      · refine ⟨rfl, by omega, fun j hj => ?_⟩
        by_cases hjk : j = k
        · subst hjk; unfold plAt; exact decide_eq_true (by omega)
        · exact hok j (by omega)
      · exact ⟨rfl, rfl, ivs (by omega), trivial⟩
      · exact Pt.auto
    · obtain rfl : k = l.length := by omega
      refine At.nrm ?_
      refine At.ktext (.q 0 .done) ?_
      refine AtT.kassign ?_
      refine AtT.done ?_
      refine At.nrm ?_
      exact At.ret1 rfl (.tmp rfl) (by rw [planB_true hok])
end Go.Proofs.Ytmnbkceiaifncaa
namespace Go.Gl
/-- The error of the first of some panels that cannot be laid. -/
def frE (B : Bn) : Nat → Int
  | 0 => 0
  | k + 1 => if frE B k ≠ 0 then frE B k else fitE B (eachP B (k : Int))
theorem frE_bad {B : Bn} {k : Nat} (h : frE B k ≠ 0) : ∀ {n : Nat}, k ≤ n → frE B n = frE B k
  | 0, hn => by obtain rfl : k = 0 := by omega
                rfl
  | n + 1, hn => by
    by_cases c : k = n + 1
    · subst c; rfl
    · have ih := frE_bad h (n := n) (by omega)
      simp only [frE]
      rw [if_pos (by rw [ih]; exact h), ih]
theorem frE_ok {B : Bn} : ∀ {n : Nat}, frE B n = 0 → ∀ k, k < n → fitE B (eachP B (k : Int)) = 0
  | 0, _, k, hk => by omega
  | n + 1, h, k, hk => by
    simp only [frE] at h
    by_cases c : frE B n ≠ 0
    · rw [if_pos c] at h; exact absurd h c
    · rw [if_neg c] at h
      by_cases d : k = n
      · subst d; exact h
      · exact frE_ok (Decidable.not_not.1 c) k (by omega)
theorem frE_zero {B : Bn} : ∀ {n : Nat}, (∀ k, k < n → fitE B (eachP B (k : Int)) = 0) → frE B n = 0
  | 0, _ => rfl
  | n + 1, h => by
    have ih := frE_zero (n := n) (fun k hk => h k (by omega))
    simp only [frE]
    rw [if_neg (by rw [ih]; simp)]
    exact h n (by omega)
/-- The error of Row. -/
def rowE (d : Dy) (ps : List Pn) (sure : Bool) : Int := if bothE d ps ≠ 0 then bothE d ps else frE (bn d ps sure) ps.length
theorem rowE_both {d : Dy} {ps : List Pn} {sure : Bool} (h : bothE d ps ≠ 0) : rowE d ps sure = bothE d ps := by rw [rowE, if_pos h]
theorem rowE_fr {d : Dy} {ps : List Pn} {sure : Bool} (h : bothE d ps = 0) : rowE d ps sure = frE (bn d ps sure) ps.length := by rw [rowE, if_neg (by simp [h])]
theorem rowE_ok {d : Dy} {ps : List Pn} {sure : Bool} (h : rowE d ps sure = 0) : bothE d ps = 0 ∧ FineB (bn d ps sure) := by
  by_cases c : bothE d ps = 0
  · rw [rowE_fr c] at h
    exact ⟨c, fun i hi => frE_ok h i (by rw [← bn_len d ps sure]; exact hi)⟩
  · rw [rowE_both c] at h; exact absurd h c
theorem rowE_of {d : Dy} {ps : List Pn} {sure : Bool} (h : bothE d ps = 0) (hf : FineB (bn d ps sure)) : rowE d ps sure = 0 := by
  rw [rowE_fr h]; exact frE_zero fun k hk => hf k (by rw [bn_len]; exact hk)
theorem sum_one (B : Bn) (i : Int) : sumL B [i] = eachP B i := by
  show sm0.and (eachP B i) = _
  exact and0 _
/-- How many batches sums ask for. -/
def upB (a b : Int) : Int := (a + b - 1).tdiv b
def bndN (B : Bn) : Int := max (upB (sumL B (fromTo 0 ((B.each.length : Int) - 1))).t B.w) (upB (sumL B (fromTo 0 ((B.each.length : Int) - 1))).g B.p)
theorem upB_bd {a b : Int} (ha : 0 ≤ a) (hb : 1 ≤ b) : 0 ≤ upB a b ∧ upB a b ≤ a := by
  unfold upB
  rw [Int.tdiv_eq_ediv_of_nonneg (by omega)]
  refine ⟨Int.ediv_nonneg (by omega) (by omega), ?_⟩
  by_cases c : a = 0
  · subst c
    rw [Int.ediv_eq_zero_of_lt (by omega) (by omega)]; omega
  · have : (a + b - 1) / b < a + 1 := Int.ediv_lt_of_lt_mul (by omega) (by
      have h1 : (a + 1) * b = a * b + b := by rw [Int.add_mul, Int.one_mul]
      have h2 : a * 1 ≤ a * b := Int.mul_le_mul_of_nonneg_left hb ha
      omega)
    omega
theorem fromTo_in {a b : Int} : ∀ i ∈ fromTo a b, a ≤ i ∧ i ≤ b := fun i hi => by
  simp only [fromTo, List.mem_map, List.mem_range] at hi
  obtain ⟨k, hk, rfl⟩ := hi
  omega
theorem plan_bat {l : List Int} {row : Bool} (h : planB l row = true) : batN l ≤ (l.length : Int) ∧ ∀ x ∈ l, 0 ≤ x ∧ x < (l.length : Int) := by
  have h1 : planB l false = true := by
    cases row
    · exact h
    · exact row_isPlan h
  have := pre_bd (l := l) (k := l.length) (Nat.le_refl _) (fun j hj => by
    have := planB_at h1 hj
    unfold plAt leastAt at this
    rw [if_neg (by simp), decide_eq_true_eq] at this
    exact this)
  rw [List.take_length] at this
  exact ⟨this.2, this.1⟩
theorem lst_lt {l : List Int} {n : Int} (h : lstB l n = true) : ∀ i j, i < j → j < l.length → l.getD i 0 < l.getD j 0 := fun i j hij hj => by
  induction j with
  | zero => omega
  | succ j ih =>
    have a := lst_mono h j hj
    by_cases c : i = j
    · subst c; exact a
    · have := ih (by omega) (by omega); omega
/-- The best row, or none. -/
def rwL (d : Dy) (ps : List Pn) (sure : Bool) : List Int := if rowE d ps sure = 0 then rowL (bn d ps sure) else []
def mkkL (d : Dy) (ps : List Pn) (sure : Bool) : List Int := if rowE d ps sure = 0 then mkL (bn d ps sure) ps.length else []
/-- The mark before one of them. -/
def lastN (ms : List Int) : Nat → Int
  | 0 => -1
  | k + 1 => ms.getD k 0
theorem mkR_both {d : Dy} {ps : List Pn} {sure : Bool} {l : List Int} (h : bothE d ps ≠ 0) : mkR d ps sure l = (0, bothE d ps) := by rw [mkR, if_pos h]
theorem mkR_arg {d : Dy} {ps : List Pn} {sure : Bool} {l : List Int} (h : bothE d ps = 0) (h1 : lstB l ps.length = false) : mkR d ps sure l = (0, 2) := by rw [mkR, if_neg (by simp [h]), if_pos h1]
theorem mkR_sum {d : Dy} {ps : List Pn} {sure : Bool} {l : List Int} (h : bothE d ps = 0) (h1 : lstB l ps.length = true) (h2 : mksB (bn d ps sure) l = false) : mkR d ps sure l = (0, 14) := by
  rw [mkR, if_neg (by simp [h]), if_neg (by simp [h1]), if_pos h2]
theorem mkR_ok {d : Dy} {ps : List Pn} {sure : Bool} {l : List Int} (h : bothE d ps = 0) (h1 : lstB l ps.length = true) (h2 : mksB (bn d ps sure) l = true) : mkR d ps sure l = ((l.length : Int), 0) := by
  rw [mkR, if_neg (by simp [h]), if_neg (by simp [h1]), if_neg (by simp [h2])]
/-- What Bound answers. -/
def bdR (d : Dy) (ps : List Pn) (sure : Bool) : Int × Int := if bothE d ps ≠ 0 then (0, bothE d ps) else (bndN (bn d ps sure), 0)
end Go.Gl
set_option linter.unusedVariables false
namespace Go.Proofs.Ytmnbkceiaifncaa
open Go.Lw Go.Gl Go.RowKit

theorem of_in {d : Dy} {ps : List Pn} {sure : Bool} {l : List Int} {b : Int} (hk : Ok d ps) (h : l.length = ps.length) : InB (bn d ps sure) (ofL l b) ∧ (ofL l b).length ≤ 100 := by
  have h1 : (ofL l b).length ≤ l.length := ofK_len l b l.length
  have := hk.n10
  refine ⟨fun i hi => ?_, by omega⟩
  have := ofK_in (l := l) (b := b) (k := l.length) i hi
  rw [bn_len]; omega
theorem checked_f (d : Dy) (ps : List Pn) (sure : Bool) (l : List Int) (row : Bool) (V : View) (v vl : Value) (hs : Sl V pne 3 v ps) (hl : SlI V vl l) : Fnc Try.prog 70 [dyv d, v, .bool sure, vl, .bool row] V fun r _ => r = .tuple #[iv (plR d ps sure l row).1, iv (plR d ps sure l row).2] := by
  obtain ⟨a, c, rfl, k1, k2, _⟩ := id hs
  obtain ⟨al, cl, rfl, k3, k4, _⟩ := id hl
  have hlen := hl.lenLe
  have hlenp := hs.lenLe
  clear k1 k2 k3 k4
  refine fn_of Try.func70 rfl Try.ntmps70 (Nat.le_of_ble_eq_true rfl) ?_
  intro w0 hw0
  refine At.nrm ?_
  refine At.ktext (.n false 0 (.q 1 (.q 2 .done))) ?_
  refine AtT.kbox ?_
  intro b5
  refine AtT.kassign ?_
  refine AtT.kassign ?_
  refine AtT.done ?_
  refine At.nrm ?_
  refine At.ktext (.q 0 (.q 1 (.n false 2 (.q 3 .done)))) ?_
  first | refine AtT.kloadOA tk25 ?_ | refine AtT.kloadA tk25 ?_ | refine AtT.kloadOP tk25 ?_
  refine AtT.kmove ?_
  refine AtT.kcallP rfl rfl ok60 (both_f d ps _ _ hs) ?_
  rintro _ rfl
  refine AtT.kneI ?_
  refine AtT.done ?_
  refine At.nrm ?_
  refine At.condP rfl (fun he => ?_) (fun he => ?_)
  · refine At.nrm ?_
    refine At.ktext (.q 0 (.q 1 (.n false 2 (.q 3 (.q 4 .done))))) ?_
    first | refine AtT.kloadOA tk25 ?_ | refine AtT.kloadA tk25 ?_ | refine AtT.kloadOP tk25 ?_
    refine AtT.kmove ?_
    refine AtT.kcallP rfl rfl ok60 (both_f d ps _ _ hs) ?_
    rintro _ rfl
    refine AtT.kassign ?_
    refine AtT.kassign ?_
    refine AtT.done ?_
    refine At.nrm ?_
    exact At.ret2 rfl (.tmp rfl) (.tmp rfl) (by rw [plR_both he])
  have he' : bothE d ps = 0 := Decidable.not_not.1 he
  have hk := bothE_ok he'
  have hB := bn_ok hk sure
  have hn10 := hk.n10
  refine At.nrm ?_
  refine At.ktext (.q 0 (.q 1 (.q 2 (.q 3 (.q 4 .done))))) ?_
  refine AtT.kmove ?_
  first | refine AtT.klenS Try.underlying27 ?_ | refine AtT.klenR Try.underlying27 ?_
  refine AtT.kmove ?_
  first | refine AtT.klenS Try.underlying26 ?_ | refine AtT.klenR Try.underlying26 ?_
  refine AtT.kneI ?_
  refine AtT.done ?_
  refine At.nrm ?_
  refine At.condP rfl (fun hc => ?_) (fun hc => ?_)
  · refine At.nrm ?_
    refine At.ktext (.q 0 (.q 1 .done)) ?_
    refine AtT.kassign ?_
    refine AtT.kassign ?_
    refine AtT.done ?_
    refine At.nrm ?_
    exact At.ret2 rfl (.tmp rfl) (.tmp rfl) (by rw [plR_len he' (fun h => hc (by rw [h]))])
  have hc' : l.length = ps.length := by omega
  refine At.nrm ?_
  refine At.ktext (.q 0 (.q 1 (.n false 2 (.q 3 .done)))) ?_
  refine AtT.kmove ?_
  refine AtT.kmove ?_
  refine AtT.kcallP rfl rfl ok97 (isPlan_f l row (by omega) _ _ hl) ?_
  rintro _ rfl
  refine AtT.knot ?_
  refine AtT.done ?_
  refine At.nrm ?_
  refine At.cond rfl (fun hb => ?_) (fun hb => ?_)
  · have hb' : planB l row = false := by simpa using hb
    refine At.nrm ?_
    refine At.ktext (.q 0 (.q 1 .done)) ?_
    refine AtT.kassign ?_
    refine AtT.kassign ?_
    refine AtT.done ?_
    refine At.nrm ?_
    exact At.ret2 rfl (.tmp rfl) (.tmp rfl) (by rw [plR_plan he' hc' hb'])
  have hb' : planB l row = true := by simpa using hb
  obtain ⟨hbl, hx0⟩ := plan_bat hb'
  have hbat := batN_pos l
  refine At.nrm ?_
  refine At.ktext (.q 0 .done) ?_
  refine AtT.kassign ?_
  refine AtT.done ?_
  refine At.nrm ?_
  refine At.lp (ι := Nat) (KS := fun k => [(1, .slice a ps.length c), (2, .bool sure), (3, .slice al l.length cl), (5, .pointer (some ⟨b5, 0, none⟩)), (12, iv k)]) (OS := fun _ => [.blk b5 (LC (dye d) 25)])
    (VS := fun k V' => Le V V' ∧ k ≤ (batN l).toNat ∧ fstE (bn d ps sure) l k = 0) (μ := fun k => (batN l).toNat - k) 0 ?_ ?_ ?_ ?_
  · exact ⟨rfl, rfl, rfl, rfl, rfl, trivial⟩
  · exact Pt.auto
  · exact ⟨Le.refl _, Nat.zero_le _, rfl⟩
  · rintro k V' ks' O' ⟨hVV, hkl, hfe⟩ hk2 hO hl2
    subst hk2 hO
    have hs' := hs.le hVV
    have hl' := hl.le hVV
    refine At.nrm ?_
    refine At.ktext (.q 0 (.q 1 (.n false 2 (.q 3 .done)))) ?_
    refine AtT.kmove ?_
    refine AtT.kmove ?_
    refine AtT.kcallP rfl rfl ok33 (bat_f l (fun x hx => by have := hx0 x hx; omega) _ _ hl') ?_
    rintro _ rfl
    refine AtT.klss ?_
    refine AtT.done ?_
    refine At.nrm ?_
    refine At.condP rfl (fun hp => ?_) (fun hp => ?_)
    · obtain ⟨hin, hln⟩ := of_in (sure := sure) (b := (k : Int)) hk hc'
      have hfs : fstE (bn d ps sure) l (k + 1) = fitE (bn d ps sure) (sumL (bn d ps sure) (ofL l (k : Int))) := by simp only [fstE]; rw [if_neg (by rw [hfe]; simp)]
      refine At.nrm ?_
      refine At.draw (.q 0 (.q 1 (.q 2 (.q 3 (.q 4 (.n false 5 (.n false 6 (.q 7 .done)))))))) ffm (by kernel_rfl) ?_
      first | refine AtT.kloadOA tk25 ?_ | refine AtT.kloadA tk25 ?_ | refine AtT.kloadOP tk25 ?_
      refine AtT.kmove ?_
      refine AtT.kmove ?_
      refine AtT.kmove ?_
      refine AtT.kmove ?_
      refine AtT.kcall rfl rfl ok83 (of_f l (k : Int) (by omega) _ _ hl') ?_
      rintro v40 V40 hV40 hs40
      refine AtT.kcallP rfl rfl ok62 (batErr_f d ps hk sure (ofL l (k : Int)) hin hln _ _ _ (hs'.le hV40) hs40) ?_
      rintro _ rfl
      refine AtT.kneI ?_
      refine AtT.done ?_
      refine At.nrm ?_
      refine At.condP rfl (fun hm => ?_) (fun hm => ?_)
      · have hbad : badE (bn d ps sure) l = fitE (bn d ps sure) (sumL (bn d ps sure) (ofL l (k : Int))) := by
          rw [← hfs]; unfold badE
          exact fstE_bad (by rw [hfs]; exact hm) (by omega)
        refine At.nrm ?_
        refine At.draw (.q 0 (.q 1 (.q 2 (.q 3 (.q 4 (.n false 5 (.n false 6 (.q 7 (.q 8 .done))))))))) ffm (by kernel_rfl) ?_
        first | refine AtT.kloadOA tk25 ?_ | refine AtT.kloadA tk25 ?_ | refine AtT.kloadOP tk25 ?_
        refine AtT.kmove ?_
        refine AtT.kmove ?_
        refine AtT.kmove ?_
        refine AtT.kmove ?_
        refine AtT.kcall rfl rfl ok83 (of_f l (k : Int) (by omega) _ _ (hl'.le hV40)) ?_
        rintro v48 V48 hV48 hs48
        refine AtT.kcallP rfl rfl ok62 (batErr_f d ps hk sure (ofL l (k : Int)) hin hln _ _ _ ((hs'.le hV40).le hV48) hs48) ?_
        rintro _ rfl
        refine AtT.kassign ?_
        refine AtT.kassign ?_
        refine AtT.done ?_
        refine At.nrm ?_
        exact At.ret2 rfl (.tmp rfl) (.tmp rfl) (by rw [plR_bad he' hc' hb' (by rw [hbad]; exact hm), hbad])
      · refine At.nrm ?_
        refine At.ktext (.q 0 (.q 1 (.q 2 .done))) ?_
        refine AtT.kmove ?_
        first | refine AtT.kadd ?_ | refine AtT.kaddW ?_
        refine AtT.kassign ?_
        refine AtT.done ?_
        refine At.nrm ?_
        refine At.round (k + 1) ?_ ?_ ?_ ?_
        · show (batN l).toNat - (k + 1) < (batN l).toNat - k; omega
        · exact ⟨hVV.trans hV40, by omega, by rw [hfs]; exact Decidable.not_not.1 hm⟩
        · exact ⟨rfl, rfl, rfl, rfl, ivs (by omega), trivial⟩
        · exact Pt.auto
    · obtain rfl : k = (batN l).toNat := by omega
      refine At.nrm ?_
      refine At.ktext (.q 0 (.n false 1 (.q 2 (.q 3 .done)))) ?_
      refine AtT.kmove ?_
      refine AtT.kcallP rfl rfl ok33 (bat_f l (fun x hx => by have := hx0 x hx; omega) _ _ hl') ?_
      rintro _ rfl
      refine AtT.kassign ?_
      refine AtT.kassign ?_
      refine AtT.done ?_
      refine At.nrm ?_
      exact At.ret2 rfl (.tmp rfl) (.tmp rfl) (by rw [plR_ok he' hc' hb' hfe])
theorem rcheckRow_f (d : Dy) (ps : List Pn) (sure : Bool) (l : List Int) (V : View) (v vl : Value) (hs : Sl V pne 3 v ps) (hl : SlI V vl l) : Fnc Try.prog 26 [dyv d, v, .bool sure, vl] V fun r _ => r = .tuple #[iv (plR d ps sure l true).1, iv (plR d ps sure l true).2] := by
  refine fn_of Try.func26 rfl Try.ntmps26 (Nat.le_of_ble_eq_true rfl) ?_
  intro w0 hw0
  refine At.nrm ?_
  refine At.ktext (.n false 0 (.q 1 (.q 2 .done))) ?_
  refine AtT.kbox ?_
  intro b4
  refine AtT.kassign ?_
  refine AtT.kassign ?_
  refine AtT.done ?_
  refine At.nrm ?_
  refine At.ktext (.q 0 (.q 1 (.q 2 (.q 3 (.n false 4 (.q 5 (.q 6 (.q 7 (.q 8 .done))))))))) ?_
  first | refine AtT.kloadOA tk25 ?_ | refine AtT.kloadA tk25 ?_ | refine AtT.kloadOP tk25 ?_
  refine AtT.kmove ?_
  refine AtT.kmove ?_
  refine AtT.kmove ?_
  refine AtT.kcallP rfl rfl ok70 (checked_f d ps sure l true _ _ _ hs hl) ?_
  rintro _ rfl
  refine AtT.kextract ?_
  refine AtT.kextract ?_
  refine AtT.kassign ?_
  refine AtT.kassign ?_
  refine AtT.done ?_
  refine At.nrm ?_
  exact At.ret2 rfl (.tmp rfl) (.tmp rfl) rfl
theorem rcheckPlan_f (d : Dy) (ps : List Pn) (sure : Bool) (l : List Int) (V : View) (v vl : Value) (hs : Sl V pne 3 v ps) (hl : SlI V vl l) : Fnc Try.prog 35 [dyv d, v, .bool sure, vl] V fun r _ => r = .tuple #[iv (plR d ps sure l false).1, iv (plR d ps sure l false).2] := by
  refine fn_of Try.func35 rfl Try.ntmps35 (Nat.le_of_ble_eq_true rfl) ?_
  intro w0 hw0
  refine At.nrm ?_
  refine At.ktext (.n false 0 (.q 1 (.q 2 .done))) ?_
  refine AtT.kbox ?_
  intro b4
  refine AtT.kassign ?_
  refine AtT.kassign ?_
  refine AtT.done ?_
  refine At.nrm ?_
  refine At.ktext (.q 0 (.q 1 (.q 2 (.q 3 (.n false 4 (.q 5 (.q 6 (.q 7 (.q 8 .done))))))))) ?_
  first | refine AtT.kloadOA tk25 ?_ | refine AtT.kloadA tk25 ?_ | refine AtT.kloadOP tk25 ?_
  refine AtT.kmove ?_
  refine AtT.kmove ?_
  refine AtT.kmove ?_
  refine AtT.kcallP rfl rfl ok70 (checked_f d ps sure l false _ _ _ hs hl) ?_
  rintro _ rfl
  refine AtT.kextract ?_
  refine AtT.kextract ?_
  refine AtT.kassign ?_
  refine AtT.kassign ?_
  refine AtT.done ?_
  refine At.nrm ?_
  exact At.ret2 rfl (.tmp rfl) (.tmp rfl) rfl
theorem rspares_f (d : Dy) (ps : List Pn) (sure : Bool) (l : List Int) (V : View) (v vl : Value) (hs : Sl V pne 3 v ps) (hl : SlI V vl l) : Fnc Try.prog 41 [dyv d, v, .bool sure, vl] V fun r _ => r = .tuple #[iv (spR d ps sure l).1, iv (spR d ps sure l).2.1, iv (spR d ps sure l).2.2] := by
  obtain ⟨a, c, rfl, k1, k2, _⟩ := id hs
  obtain ⟨al, cl, rfl, k3, k4, _⟩ := id hl
  have hlen := hl.lenLe
  have hlenp := hs.lenLe
  clear k1 k2 k3 k4
  refine fn_of Try.func41 rfl Try.ntmps41 (Nat.le_of_ble_eq_true rfl) ?_
  intro w0 hw0
  refine At.nrm ?_
  refine At.ktext (.n false 0 (.q 1 (.q 2 (.q 3 .done)))) ?_
  refine AtT.kbox ?_
  intro b4
  refine AtT.kassign ?_
  refine AtT.kassign ?_
  refine AtT.kassign ?_
  refine AtT.done ?_
  refine At.nrm ?_
  refine At.ktext (.q 0 (.q 1 (.q 2 (.q 3 (.n false 4 (.q 5 (.q 6 (.q 7 (.q 8 (.q 9 .done)))))))))) ?_
  first | refine AtT.kloadOA tk25 ?_ | refine AtT.kloadA tk25 ?_ | refine AtT.kloadOP tk25 ?_
  refine AtT.kmove ?_
  refine AtT.kmove ?_
  refine AtT.kmove ?_
  refine AtT.kcallP rfl rfl ok35 (rcheckPlan_f d ps sure l _ _ _ hs hl) ?_
  rintro _ rfl
  refine AtT.kmove ?_
  refine AtT.kextract ?_
  refine AtT.kextract ?_
  refine AtT.kassign ?_
  refine AtT.kassign ?_
  refine AtT.done ?_
  refine At.nrm ?_
  refine At.ktext (.q 0 (.q 1 .done)) ?_
  refine AtT.kmove ?_
  refine AtT.kneI ?_
  refine AtT.done ?_
  refine At.nrm ?_
  refine At.condP rfl (fun he => ?_) (fun he => ?_)
  · refine At.nrm ?_
    refine At.ktext (.q 0 (.q 1 (.q 2 (.q 3 .done)))) ?_
    refine AtT.kmove ?_
    refine AtT.kassign ?_
    refine AtT.kassign ?_
    refine AtT.kassign ?_
    refine AtT.done ?_
    refine At.nrm ?_
    exact At.ret3 rfl (.tmp rfl) (.tmp rfl) (.tmp rfl) (by rw [spR, if_pos he])
  obtain ⟨h1, h2, h3, h4, h5⟩ := plR_yes (Decidable.not_not.1 he)
  have hk := bothE_ok h1
  have hB := bn_ok hk sure
  have hn10 := hk.n10
  have hbat := batN_pos l
  obtain ⟨hbl, _⟩ := plan_bat h3
  refine At.nrm ?_
  refine At.re (d := 11) rfl (show iv (plR d ps sure l false).1 = iv (batN l) by rw [h5]) ?_
  refine At.ktext (.q 0 (.q 1 .done)) ?_
  refine AtT.kassign ?_
  refine AtT.kassign ?_
  refine AtT.done ?_
  refine At.nrm ?_
  refine At.ktext (.q 0 .done) ?_
  refine AtT.kassign ?_
  refine AtT.done ?_
  refine At.nrm ?_
  refine At.lp (ι := Nat) (KS := fun k => [(1, .slice a ps.length c), (2, .bool sure), (3, .slice al l.length cl), (4, .pointer (some ⟨b4, 0, none⟩)), (11, iv (batN l)), (13, iv (mxS (bn d ps sure) l k).t), (14, iv (mxS (bn d ps sure) l k).g), (15, iv k)]) (OS := fun _ => [.blk b4 (LC (dye d) 25)])
    (VS := fun k V' => Le V V' ∧ k ≤ (batN l).toNat) (μ := fun k => (batN l).toNat - k) 0 ?_ ?_ ?_ ?_
  · exact ⟨rfl, rfl, rfl, rfl, rfl, rfl, rfl, rfl, trivial⟩
  · exact Pt.auto
  · exact ⟨Le.refl _, Nat.zero_le _⟩
  · rintro k V' ks' O' ⟨hVV, hkl⟩ hk2 hO hl2
    subst hk2 hO
    have hs' := hs.le hVV
    have hl' := hl.le hVV
    have hmb := mxS_bd hB l k
    have hw := hB.w0
    have hw1 := hB.w1
    have hp0 := hB.p0
    have hp1 := hB.p1
    have ew : worksOf d sure = (bn d ps sure).w := rfl
    have ep : d.pot = (bn d ps sure).p := rfl
    refine At.nrm ?_
    refine At.ktext (.q 0 (.q 1 (.q 2 .done))) ?_
    refine AtT.kmove ?_
    refine AtT.kmove ?_
    refine AtT.klss ?_
    refine AtT.done ?_
    refine At.nrm ?_
    refine At.condP rfl (fun hp => ?_) (fun hp => ?_)
    · obtain ⟨hin, hln⟩ := of_in (sure := sure) (b := (k : Int)) hk h2
      refine At.nrm ?_
      refine At.ktext (.q 0 (.q 1 (.q 2 (.q 3 (.n false 4 (.n false 5 (.q 6 (.q 7 (.q 8 (.q 9 (.q 10 .done))))))))))) ?_
      refine AtT.kmove ?_
      refine AtT.kmove ?_
      refine AtT.kmove ?_
      refine AtT.kmove ?_
      refine AtT.kcall rfl rfl ok83 (of_f l (k : Int) (by omega) _ _ hl') ?_
      rintro v39 V39 hV39 hs39
      refine AtT.kcallP rfl rfl ok63 (sums_f d ps hk sure (ofL l (k : Int)) hin hln _ _ _ (hs'.le hV39) hs39) ?_
      rintro _ rfl
      refine AtT.kmove ?_
      refine AtT.kextract ?_
      refine AtT.kextract ?_
      refine AtT.kassign ?_
      refine AtT.kassign ?_
      refine AtT.done ?_
      refine At.nrm ?_
      refine At.ktext (.q 0 (.q 1 (.q 2 (.q 3 (.q 4 (.q 5 (.q 6 (.q 7 .done)))))))) ?_
      refine AtT.kmove ?_
      refine AtT.kmove ?_
      refine AtT.kmax2 ?_
      refine AtT.kmove ?_
      refine AtT.kmove ?_
      refine AtT.kmax2 ?_
      refine AtT.kassign ?_
      refine AtT.kassign ?_
      refine AtT.done ?_
      refine At.nrm ?_
      refine At.ktext (.q 0 (.q 1 (.q 2 .done))) ?_
      refine AtT.kmove ?_
      first | refine AtT.kadd ?_ | refine AtT.kaddW ?_
      refine AtT.kassign ?_
      refine AtT.done ?_
      refine At.nrm ?_
      refine At.round (k + 1) ?_ ?_ ?_ ?_
      · show (batN l).toNat - (k + 1) < (batN l).toNat - k; omega
      · exact ⟨hVV.trans hV39, by omega⟩
      · exact ⟨rfl, rfl, rfl, rfl, rfl, ivs rfl, ivs rfl, ivs (by omega), trivial⟩
      · exact Pt.auto
    · obtain rfl : k = (batN l).toNat := by omega
      refine At.nrm ?_
      refine At.draw (.q 0 (.q 1 (.q 3 (.q 5 (.q 6 (.q 7 (.q 8 (.n false 2 (.q 4 (.q 9 (.q 10 (.q 11 .done)))))))))))) ffm (by kernel_rfl) ?_
      first | refine AtT.kloadOA tk25 ?_ | refine AtT.kloadA tk25 ?_ | refine AtT.kloadOP tk25 ?_
      refine AtT.kmove ?_
      refine AtT.kmove ?_
      first | refine AtT.kfieldO fo25_1 ?_ | with_reducible refine AtT.kfield2 fo25_1 ?_ | refine AtT.kfield fo25_1 ?_
      first | refine AtT.kloadO tk2 ?_ | refine AtT.kload tk2 ?_
      refine AtT.kmove ?_
      first | refine AtT.ksubt ?_ | refine AtT.ksubW ?_
      refine AtT.kcallP rfl rfl ok82 (worksOf_f d sure _) ?_
      rintro _ rfl
      first | refine AtT.ksubt ?_ | refine AtT.ksubW ?_
      refine AtT.kassign ?_
      refine AtT.kassign ?_
      refine AtT.kassign ?_
      refine AtT.done ?_
      refine At.nrm ?_
      all_goals (exact At.ret3 rfl (.tmp rfl) (.tmp rfl) (.tmp rfl) (by rw [spR, if_neg he]; rfl))
theorem spares_f (d : Dy) (ps : List Pn) (sure : Bool) (l : List Int) (V : View) (v vl : Value) (hs : Sl V pne 3 v ps) (hl : SlI V vl l) : Fnc Try.prog 40 [dyv d, v, .bool sure, vl] V fun r _ => r = .tuple #[iv (spR d ps sure l).1, iv (spR d ps sure l).2.1, iv (spR d ps sure l).2.2] := by
  have hbat := batN_pos l
  refine fn_of Try.func40 rfl Try.ntmps40 (Nat.le_of_ble_eq_true rfl) ?_
  intro w0 hw0
  refine At.nrm ?_
  refine At.ktext (.n false 0 (.q 1 (.q 2 (.q 3 .done)))) ?_
  refine AtT.kbox ?_
  intro b4
  refine AtT.kassign ?_
  refine AtT.kassign ?_
  refine AtT.kassign ?_
  refine AtT.done ?_
  refine At.nrm ?_
  by_cases he : (plR d ps sure l false).2 = 0
  rotate_left
  · refine At.ktext (.q 0 (.q 1 (.q 2 (.q 3 (.n false 4 (.q 5 (.q 6 (.q 7 (.q 8 (.q 9 (.q 10 (.q 11 .done)))))))))))) ?_
    first | refine AtT.kloadOA tk25 ?_ | refine AtT.kloadA tk25 ?_ | refine AtT.kloadOP tk25 ?_
    refine AtT.kmove ?_
    refine AtT.kmove ?_
    refine AtT.kmove ?_
    refine AtT.kcallP rfl rfl ok69 (planned_no hs hl he) ?_
    rintro _ rfl
    refine AtT.kmove ?_
    refine AtT.kextract ?_
    refine AtT.kextract ?_
    refine AtT.kextract ?_
    refine AtT.kassign ?_
    refine AtT.kassign ?_
    refine AtT.kassign ?_
    refine AtT.done ?_
    refine At.nrm ?_
    refine At.ktext (.q 0 (.q 1 .done)) ?_
    refine AtT.kmove ?_
    refine AtT.kneI ?_
    refine AtT.done ?_
    refine At.nrm ?_
    refine At.condT rfl (decide_eq_true he) ?_
    refine At.nrm ?_
    refine At.ktext (.q 0 (.q 1 (.q 2 (.q 3 .done)))) ?_
    refine AtT.kmove ?_
    refine AtT.kassign ?_
    refine AtT.kassign ?_
    refine AtT.kassign ?_
    refine AtT.done ?_
    refine At.nrm ?_
    exact At.ret3 rfl (.tmp rfl) (.tmp rfl) (.tmp rfl) (by rw [spR, if_pos he])
  obtain ⟨h1, h2, h3, h4, h5⟩ := plR_yes he
  have hk := bothE_ok h1
  have hB := bn_ok hk sure
  have hn10 := hk.n10
  have hol := outK_len (bn d ps sure) l l.length
  obtain ⟨hbl, _⟩ := plan_bat h3
  rw [List.take_length] at hol
  refine At.ktext (.q 0 (.q 1 (.q 2 (.q 3 (.n false 4 (.q 5 (.q 6 (.q 7 (.q 8 (.q 9 (.q 10 (.q 11 .done)))))))))))) ?_
  first | refine AtT.kloadOA tk25 ?_ | refine AtT.kloadA tk25 ?_ | refine AtT.kloadOP tk25 ?_
  refine AtT.kmove ?_
  refine AtT.kmove ?_
  refine AtT.kmove ?_
  refine AtT.kcall rfl rfl ok69 (planned_yes hs hl he) ?_
  rintro _ V1 hV1 ⟨p, a, c, rfl, hpb, hso⟩
  refine AtT.kmove ?_
  refine AtT.kextract ?_
  refine AtT.kextract ?_
  refine AtT.kextract ?_
  refine AtT.kassign ?_
  refine AtT.kassign ?_
  refine AtT.kassign ?_
  refine AtT.done ?_
  refine At.nrm ?_
  refine At.ktext (.q 0 (.q 1 .done)) ?_
  refine AtT.kmove ?_
  refine AtT.kneI ?_
  refine AtT.done ?_
  refine At.nrm ?_
  refine At.condF rfl rfl ?_
  refine At.nrm ?_
  refine At.ktext (.q 0 (.n false 1 (.n true 2 .done))) ?_
  refine AtT.kbuild (bd72) ?_
  refine AtT.kalloc z72 ?_
  intro b14
  refine AtT.kstoreA tk72 ?_
  refine AtT.done ?_
  refine At.nrm ?_
  refine At.ktext (.q 0 (.q 1 (.q 2 .done))) ?_
  refine AtT.kmove ?_
  first | refine AtT.klenS Try.underlying83 ?_ | refine AtT.klenR Try.underlying83 ?_
  refine AtT.kmove ?_
  refine AtT.done ?_
  refine At.nrm ?_
  refine At.lp (ι := Nat) (KS := fun k => [(11, .pointer (some p)), (14, .pointer (some ⟨b14, 0, none⟩)), (30, .slice a (batN l).toNat c), (31, iv (batN l).toNat), (32, iv k)]) (OS := fun k => [.blk b14 (LC (sme (mxS (bn d ps sure) l k)) 72)])
    (VS := fun k V' => V' = V1 ∧ k ≤ (batN l).toNat) (μ := fun k => (batN l).toNat - k) 0 ?_ ?_ ?_ ?_
  · exact ⟨rfl, rfl, rfl, rfl, rfl, trivial⟩
  · exact Pt.auto
  · exact ⟨rfl, Nat.zero_le _⟩
  · rintro k V' ks' O' ⟨rfl, hkl⟩ hk2 hO hl2
    subst hk2 hO
    have hmb := mxS_bd hB l k
    have hw := hB.w0
    have hw1 := hB.w1
    have hp0 := hB.p0
    have hp1 := hB.p1
    have hs5 : Sl V' sme 2 (.slice a (batN l).toNat c) (outK (bn d ps sure) l l.length) := by rw [← hol]; exact hso
    refine At.nrm ?_
    refine At.ktext (.q 0 .done) ?_
    refine AtT.klss ?_
    refine AtT.done ?_
    refine At.nrm ?_
    refine At.condP rfl (fun hp => ?_) (fun hp => ?_)
    · refine At.nrm ?_
      refine At.ktext (.q 0 (.q 1 (.n false 2 (.n true 3 .done)))) ?_
      refine AtT.idx rfl trivial Try.underlying83 tk72 rfl hs5 rfl (by omega) (by rw [hol]; omega) (by decide) ?_
      intro p34 e34 he34 hc34
      first | refine AtT.kloadOA tk72 ?_ | refine AtT.kloadA tk72 ?_ | refine AtT.kloadOP tk72 ?_
      obtain rfl := fitE_at (by simpa using he34)
      refine AtT.kalloc z72 ?_
      intro b16
      refine AtT.kstoreA tk72 ?_
      refine AtT.done ?_
      refine At.nrm ?_
      refine At.ktext (.q 0 (.q 1 (.q 2 (.q 3 (.q 4 (.q 5 (.q 6 (.q 7 (.q 8 (.q 9 (.q 10 (.n true 11 .done)))))))))))) ?_
      refine AtT.kidxA Try.underlying72 tk2 ?_
      first | refine AtT.kloadO tk2 ?_ | refine AtT.kload tk2 ?_
      refine AtT.kidxA Try.underlying72 tk2 ?_
      first | refine AtT.kloadO tk2 ?_ | refine AtT.kload tk2 ?_
      refine AtT.kmax2 ?_
      refine AtT.kidxA Try.underlying72 tk2 ?_
      first | refine AtT.kloadO tk2 ?_ | refine AtT.kload tk2 ?_
      refine AtT.kidxA Try.underlying72 tk2 ?_
      first | refine AtT.kloadO tk2 ?_ | refine AtT.kload tk2 ?_
      refine AtT.kmax2 ?_
      refine AtT.kbuild (bd72_0_1 _ _) ?_
      refine AtT.kstoreA tk72 ?_
      refine AtT.done ?_
      refine At.nrm ?_
      refine At.ktext (.q 0 (.q 1 .done)) ?_
      first | refine AtT.kadd ?_ | refine AtT.kaddW ?_
      refine AtT.kmove ?_
      refine AtT.done ?_
      refine At.nrm ?_
      refine At.round (k + 1) ?_ ?_ ?_ ?_
      · show (batN l).toNat - (k + 1) < (batN l).toNat - k; omega
      · exact ⟨rfl, by omega⟩
      · exact ⟨rfl, rfl, rfl, rfl, ivs (by omega), trivial⟩
      · exact Pt.auto
    · obtain rfl : k = (batN l).toNat := by omega
      obtain ⟨ae, ce, hcel, hsel⟩ := hpb.each
      have c0 : Cells V' (((p.add 0).add 0).add ((0 : Int).toNat * 1)) [iv (bn d ps sure).w] := by
        rw [addr_add_add, addr_add_add]
        exact hcel.at (k := 0) fun j u hj => by
          match j, hj with
          | 0, hj => exact hj
      have c1 : Cells V' (((p.add 0).add 0).add ((1 : Int).toNat * 1)) [iv (bn d ps sure).p] := by
        rw [addr_add_add, addr_add_add]
        exact hcel.at (k := 1) fun j u hj => by
          match j, hj with
          | 0, hj => exact hj
      refine At.nrm ?_
      refine At.draw (.q 0 (.q 1 (.q 2 (.q 3 (.q 4 (.q 5 (.q 6 (.q 7 (.q 8 (.q 9 (.q 10 (.q 11 (.q 12 (.q 13 (.q 14 (.q 15 (.q 16 (.q 17 (.q 18 (.q 19 (.q 20 .done))))))))))))))))))))) ffm (by kernel_rfl) ?_
      refine AtT.kmove ?_
      refine AtT.knil ?_
      first | refine AtT.kfieldO fo97_0 ?_ | with_reducible refine AtT.kfield2 fo97_0 ?_ | refine AtT.kfield fo97_0 ?_
      first | refine AtT.kfieldO fo95_0 ?_ | with_reducible refine AtT.kfield2 fo95_0 ?_ | refine AtT.kfield fo95_0 ?_
      refine AtT.idxQ rfl trivial Try.underlying72 tk2 rfl rfl (by decide) (by decide) (by decide) ?_
      first | refine AtT.kloadO tk2 ?_ | refine AtT.kload tk2 ?_
      refine AtT.kidxA Try.underlying72 tk2 ?_
      first | refine AtT.kloadO tk2 ?_ | refine AtT.kload tk2 ?_
      first | refine AtT.ksubt ?_ | refine AtT.ksubW ?_
      refine AtT.kmove ?_
      refine AtT.knil ?_
      first | refine AtT.kfieldO fo97_0 ?_ | with_reducible refine AtT.kfield2 fo97_0 ?_ | refine AtT.kfield fo97_0 ?_
      first | refine AtT.kfieldO fo95_0 ?_ | with_reducible refine AtT.kfield2 fo95_0 ?_ | refine AtT.kfield fo95_0 ?_
      refine AtT.idxQ rfl trivial Try.underlying72 tk2 rfl rfl (by decide) (by decide) (by decide) ?_
      first | refine AtT.kloadO tk2 ?_ | refine AtT.kload tk2 ?_
      refine AtT.kidxA Try.underlying72 tk2 ?_
      first | refine AtT.kloadO tk2 ?_ | refine AtT.kload tk2 ?_
      first | refine AtT.ksubt ?_ | refine AtT.ksubW ?_
      refine AtT.kassign ?_
      refine AtT.kassign ?_
      refine AtT.kassign ?_
      refine AtT.done ?_
      refine At.nrm ?_
      all_goals (exact At.ret3 rfl (.tmp rfl) (.tmp rfl) (.tmp rfl) (by rw [spR, if_neg (by simp [he])]))
end Go.Proofs.Ytmnbkceiaifncaa
set_option linter.unusedVariables false
namespace Go.Proofs.Ytmnbkceiaifncaa
open Go.Lw Go.Gl Go.RowKit

theorem eachP_bn {d : Dy} {ps : List Pn} {sure : Bool} {k : Nat} {s : Sm} (h : (bn d ps sure).each[k]? = some s) : s = eachP (bn d ps sure) (k : Int) := eachP_some (by simpa using h)
theorem laid_f (d : Dy) (ps : List Pn) (sure : Bool) (V : View) (v : Value) (hs : Sl V pne 3 v ps) : Fnc Try.prog 71 [dyv d, v, .bool sure] V fun r V' =>
    (rowE d ps sure ≠ 0 ∧ r = .tuple #[.pointer none, iv (rowE d ps sure)]) ∨ (rowE d ps sure = 0 ∧ ∃ p, r = .tuple #[.pointer (some p), iv 0] ∧ BnV V' p (bn d ps sure)) := by
  refine fn_of Try.func71 rfl Try.ntmps71 (Nat.le_of_ble_eq_true rfl) ?_
  intro w0 hw0
  refine At.nrm ?_
  refine At.ktext (.n false 0 (.q 1 (.q 2 .done))) ?_
  refine AtT.kbox ?_
  intro b3
  refine AtT.kassign ?_
  refine AtT.kassign ?_
  refine AtT.done ?_
  refine At.nrm ?_
  by_cases he : bothE d ps = 0
  rotate_left
  · refine At.ktext (.q 0 (.q 1 (.q 2 (.n false 3 (.q 4 (.q 5 (.q 6 (.q 7 (.q 8 .done))))))))) ?_
    first | refine AtT.kloadOA tk25 ?_ | refine AtT.kloadA tk25 ?_ | refine AtT.kloadOP tk25 ?_
    refine AtT.kmove ?_
    refine AtT.kmove ?_
    refine AtT.kcallP rfl rfl ok80 (open_bad hs he) ?_
    rintro _ rfl
    refine AtT.kmove ?_
    refine AtT.kextract ?_
    refine AtT.kextract ?_
    refine AtT.kassign ?_
    refine AtT.kassign ?_
    refine AtT.done ?_
    refine At.nrm ?_
    refine At.ktext (.q 0 (.q 1 .done)) ?_
    refine AtT.kmove ?_
    refine AtT.kneI ?_
    refine AtT.done ?_
    refine At.nrm ?_
    refine At.condT rfl (decide_eq_true he) ?_
    refine At.nrm ?_
    refine At.ktext (.q 0 (.q 1 (.q 2 .done))) ?_
    refine AtT.kmove ?_
    refine AtT.kassign ?_
    refine AtT.kassign ?_
    refine AtT.done ?_
    refine At.nrm ?_
    exact At.ret2 rfl (.tmp rfl) (.tmp rfl) (.inl (by rw [rowE_both he]; exact ⟨he, rfl⟩))
  have hk := bothE_ok he
  have hB := bn_ok hk sure
  have hn10 := hk.n10
  have hbl := bn_len d ps sure
  refine At.ktext (.q 0 (.q 1 (.q 2 (.n false 3 (.q 4 (.q 5 (.q 6 (.q 7 (.q 8 .done))))))))) ?_
  first | refine AtT.kloadOA tk25 ?_ | refine AtT.kloadA tk25 ?_ | refine AtT.kloadOP tk25 ?_
  refine AtT.kmove ?_
  refine AtT.kmove ?_
  refine AtT.kcall rfl rfl ok80 (open_ok hs he) ?_
  rintro _ V1 hV1 ⟨p, rfl, hpb⟩
  refine AtT.kmove ?_
  refine AtT.kextract ?_
  refine AtT.kextract ?_
  refine AtT.kassign ?_
  refine AtT.kassign ?_
  refine AtT.done ?_
  refine At.nrm ?_
  obtain ⟨ae, ce, hcel, hsel⟩ := hpb.each
  have c2 : Cells V1 (p.add 2) [.slice ae (bn d ps sure).each.length ce] := hcel.at (k := 2) fun j u hj => by
    match j, hj with
    | 0, hj => exact hj
  refine At.ktext (.q 0 (.q 1 .done)) ?_
  refine AtT.kmove ?_
  refine AtT.kneI ?_
  refine AtT.done ?_
  refine At.nrm ?_
  refine At.condF rfl rfl ?_
  refine At.nrm ?_
  refine At.ktext (.q 0 (.q 1 (.q 2 (.q 3 (.q 4 (.q 5 .done)))))) ?_
  refine AtT.kmove ?_
  refine AtT.knil ?_
  first | refine AtT.kfieldO fo97_1 ?_ | with_reducible refine AtT.kfield2 fo97_1 ?_ | refine AtT.kfield fo97_1 ?_
  first | refine AtT.kloadO tk83 ?_ | refine AtT.kload tk83 ?_
  first | refine AtT.klenS Try.underlying83 ?_ | refine AtT.klenR Try.underlying83 ?_
  refine AtT.kmove ?_
  refine AtT.done ?_
  refine At.nrm ?_
  refine At.lp (ι := Nat) (KS := fun k => [(8, .pointer (some p)), (26, .slice ae (bn d ps sure).each.length ce), (27, iv (bn d ps sure).each.length), (28, iv k)]) (OS := fun _ => [])
    (VS := fun k V' => V' = V1 ∧ k ≤ ps.length ∧ frE (bn d ps sure) k = 0) (μ := fun k => ps.length - k) 0 ?_ ?_ ?_ ?_
  · exact ⟨rfl, rfl, rfl, rfl, trivial⟩
  · exact Pt.auto
  · exact ⟨rfl, Nat.zero_le _, rfl⟩
  · rintro k V' ks' O' ⟨rfl, hkl, hfe⟩ hk2 hO hl2
    subst hk2 hO
    refine At.nrm ?_
    refine At.ktext (.q 0 .done) ?_
    refine AtT.klss ?_
    refine AtT.done ?_
    refine At.nrm ?_
    refine At.condP rfl (fun hp => ?_) (fun hp => ?_)
    · have hfs : frE (bn d ps sure) (k + 1) = fitE (bn d ps sure) (eachP (bn d ps sure) (k : Int)) := by simp only [frE]; rw [if_neg (by rw [hfe]; simp)]
      refine At.nrm ?_
      refine At.ktext (.q 0 (.q 1 (.n false 2 (.n true 3 .done)))) ?_
      refine AtT.kidx Try.underlying83 tk72 ?_
      intro p30 e30 he30 hc30
      first | refine AtT.kloadOA tk72 ?_ | refine AtT.kloadA tk72 ?_ | refine AtT.kloadOP tk72 ?_
      obtain rfl := eachP_bn (by simpa using he30)
      refine AtT.kalloc z72 ?_
      intro b11
      refine AtT.kstoreA tk72 ?_
      refine AtT.done ?_
      refine At.nrm ?_
      refine At.ktext (.q 0 (.q 1 (.n false 2 (.q 3 .done)))) ?_
      refine AtT.kmove ?_
      first | refine AtT.kloadOA tk72 ?_ | refine AtT.kloadA tk72 ?_ | refine AtT.kloadOP tk72 ?_
      refine AtT.kcallP rfl rfl ok59 (fits_f _ hB _ _ _ hpb) ?_
      rintro _ rfl
      refine AtT.kassign ?_
      refine AtT.done ?_
      refine At.nrm ?_
      refine At.ktext (.q 0 (.q 1 .done)) ?_
      refine AtT.kmove ?_
      refine AtT.kneI ?_
      refine AtT.done ?_
      refine At.nrm ?_
      refine At.condP rfl (fun hm => ?_) (fun hm => ?_)
      · have hbad : rowE d ps sure = fitE (bn d ps sure) (eachP (bn d ps sure) (k : Int)) := by
          rw [rowE_fr he, ← hfs]
          exact frE_bad (by rw [hfs]; exact hm) (by omega)
        refine At.nrm ?_
        refine At.ktext (.q 0 (.q 1 (.q 2 .done))) ?_
        refine AtT.kmove ?_
        refine AtT.kassign ?_
        refine AtT.kassign ?_
        refine AtT.done ?_
        refine At.nrm ?_
        exact At.ret2 rfl (.tmp rfl) (.tmp rfl) (.inl (by rw [hbad]; exact ⟨hm, rfl⟩))
      · refine At.nrm ?_
        refine At.ktext (.q 0 (.q 1 .done)) ?_
        first | refine AtT.kadd ?_ | refine AtT.kaddW ?_
        refine AtT.kmove ?_
        refine AtT.done ?_
        refine At.nrm ?_
        refine At.round (k + 1) ?_ ?_ ?_ ?_
        · show ps.length - (k + 1) < ps.length - k; omega
        · exact ⟨rfl, by omega, by rw [hfs]; exact Decidable.not_not.1 hm⟩
        · exact ⟨rfl, rfl, rfl, ivs (by omega), trivial⟩
        · exact Pt.auto
    · obtain rfl : k = ps.length := by omega
      refine At.nrm ?_
      refine At.ktext (.q 0 (.q 1 (.q 2 .done))) ?_
      refine AtT.kmove ?_
      refine AtT.kassign ?_
      refine AtT.kassign ?_
      refine AtT.done ?_
      refine At.nrm ?_
      exact At.ret2 rfl (.tmp rfl) (.tmp rfl) (.inr ⟨by rw [rowE_fr he]; exact hfe, p, rfl, hpb⟩)
theorem laid_no {d : Dy} {ps : List Pn} {sure : Bool} {V : View} {v : Value} (hs : Sl V pne 3 v ps) (he : rowE d ps sure ≠ 0) : Fnc Try.prog 71 [dyv d, v, .bool sure] V fun r V' => r = .tuple #[.pointer none, iv (rowE d ps sure)] :=
  (laid_f d ps sure V v hs).mono fun r V' _ h => by
    rcases h with ⟨_, h⟩ | ⟨h, _⟩
    · exact h
    · exact absurd h he
theorem laid_yes {d : Dy} {ps : List Pn} {sure : Bool} {V : View} {v : Value} (hs : Sl V pne 3 v ps) (he : rowE d ps sure = 0) : Fnc Try.prog 71 [dyv d, v, .bool sure] V fun r V' => ∃ p, r = .tuple #[.pointer (some p), iv 0] ∧ BnV V' p (bn d ps sure) :=
  (laid_f d ps sure V v hs).mono fun r V' _ h => by
    rcases h with ⟨h, _⟩ | ⟨_, h⟩
    · exact absurd he h
    · exact h
theorem rowErr_f (d : Dy) (ps : List Pn) (sure : Bool) (V : View) (v : Value) (hs : Sl V pne 3 v ps) : Fnc Try.prog 74 [dyv d, v, .bool sure] V fun r _ => r = iv (rowE d ps sure) := by
  obtain ⟨a, c, rfl, k1, k2, _⟩ := id hs
  have hlenp := hs.lenLe
  clear k1 k2
  refine fn_of Try.func74 rfl Try.ntmps74 (Nat.le_of_ble_eq_true rfl) ?_
  intro w0 hw0
  refine At.nrm ?_
  refine At.ktext (.n false 0 (.q 1 .done)) ?_
  refine AtT.kbox ?_
  intro b3
  refine AtT.kassign ?_
  refine AtT.done ?_
  refine At.nrm ?_
  refine At.ktext (.q 0 (.q 1 (.n false 2 (.q 3 .done)))) ?_
  first | refine AtT.kloadOA tk25 ?_ | refine AtT.kloadA tk25 ?_ | refine AtT.kloadOP tk25 ?_
  refine AtT.kmove ?_
  refine AtT.kcallP rfl rfl ok60 (both_f d ps _ _ hs) ?_
  rintro _ rfl
  refine AtT.kneI ?_
  refine AtT.done ?_
  refine At.nrm ?_
  refine At.condP rfl (fun he => ?_) (fun he => ?_)
  · refine At.nrm ?_
    refine At.ktext (.q 0 (.q 1 (.n false 2 (.q 3 .done)))) ?_
    first | refine AtT.kloadOA tk25 ?_ | refine AtT.kloadA tk25 ?_ | refine AtT.kloadOP tk25 ?_
    refine AtT.kmove ?_
    refine AtT.kcallP rfl rfl ok60 (both_f d ps _ _ hs) ?_
    rintro _ rfl
    refine AtT.kassign ?_
    refine AtT.done ?_
    refine At.nrm ?_
    exact At.ret1 rfl (.tmp rfl) (by rw [rowE_both he])
  have he' : bothE d ps = 0 := Decidable.not_not.1 he
  have hk := bothE_ok he'
  have hB := bn_ok hk sure
  have hn10 := hk.n10
  refine At.nrm ?_
  refine At.ktext (.q 0 .done) ?_
  refine AtT.kassign ?_
  refine AtT.done ?_
  refine At.nrm ?_
  refine At.lp (ι := Nat) (KS := fun k => [(1, .slice a ps.length c), (2, .bool sure), (3, .pointer (some ⟨b3, 0, none⟩)), (7, iv k)]) (OS := fun _ => [.blk b3 (LC (dye d) 25)])
    (VS := fun k V' => Le V V' ∧ k ≤ ps.length ∧ frE (bn d ps sure) k = 0) (μ := fun k => ps.length - k) 0 ?_ ?_ ?_ ?_
  · exact ⟨rfl, rfl, rfl, rfl, trivial⟩
  · exact Pt.auto
  · exact ⟨Le.refl _, Nat.zero_le _, rfl⟩
  · rintro k V' ks' O' ⟨hVV, hkl, hfe⟩ hk2 hO hl2
    subst hk2 hO
    have hs' := hs.le hVV
    refine At.nrm ?_
    refine At.ktext (.q 0 (.q 1 (.q 2 (.q 3 .done)))) ?_
    refine AtT.kmove ?_
    refine AtT.kmove ?_
    first | refine AtT.klenS Try.underlying26 ?_ | refine AtT.klenR Try.underlying26 ?_
    refine AtT.klss ?_
    refine AtT.done ?_
    refine At.nrm ?_
    refine At.condP rfl (fun hp => ?_) (fun hp => ?_)
    · have hin : InB (bn d ps sure) [(k : Int)] := fun i hi => by rw [List.mem_singleton] at hi; subst hi; rw [bn_len]; omega
      have hfs : frE (bn d ps sure) (k + 1) = fitE (bn d ps sure) (sumL (bn d ps sure) [(k : Int)]) := by simp only [frE]; rw [if_neg (by rw [hfe]; simp), sum_one]
      refine At.nrm ?_
      refine At.ktext (.q 0 (.q 1 (.q 2 (.q 3 (.n false 4 (.n false 5 (.q 6 .done))))))) ?_
      first | refine AtT.kloadOA tk25 ?_ | refine AtT.kloadA tk25 ?_ | refine AtT.kloadOP tk25 ?_
      refine AtT.kmove ?_
      refine AtT.kmove ?_
      refine AtT.kmove ?_
      refine AtT.kbsliceG (bs27_1_0 _) ?_
      intro q25 V25 hV25 hq25
      have g25 : Le V V25 := by first | exact hV25 | exact Le.trans (by assumption) hV25
      refine AtT.kcallP rfl rfl ok62 (batErr_f d ps hk sure [(k : Int)] hin (by simp) _ _ _ (hs'.le (by assumption)) (Sl.lit hq25 rfl (by simp))) ?_
      rintro _ rfl
      refine AtT.kneI ?_
      refine AtT.done ?_
      refine At.nrm ?_
      refine At.condP rfl (fun hm => ?_) (fun hm => ?_)
      · have hbad : rowE d ps sure = fitE (bn d ps sure) (sumL (bn d ps sure) [(k : Int)]) := by
          rw [rowE_fr he', ← hfs]
          exact frE_bad (by rw [hfs]; exact hm) (by omega)
        refine At.nrm ?_
        refine At.ktext (.q 0 (.q 1 (.q 2 (.q 3 (.n false 4 (.n false 5 (.q 6 .done))))))) ?_
        first | refine AtT.kloadOA tk25 ?_ | refine AtT.kloadA tk25 ?_ | refine AtT.kloadOP tk25 ?_
        refine AtT.kmove ?_
        refine AtT.kmove ?_
        refine AtT.kmove ?_
        refine AtT.kbsliceG (bs27_1_0 _) ?_
        intro q32 V32 hV32 hq32
        have g32 : Le V V32 := by first | exact hV32 | exact Le.trans (by assumption) hV32
        refine AtT.kcallP rfl rfl ok62 (batErr_f d ps hk sure [(k : Int)] hin (by simp) _ _ _ ((hs'.le hV25).le hV32) (Sl.lit hq32 rfl (by simp))) ?_
        rintro _ rfl
        refine AtT.kassign ?_
        refine AtT.done ?_
        refine At.nrm ?_
        exact At.ret1 rfl (.tmp rfl) (by rw [hbad])
      · refine At.nrm ?_
        refine At.ktext (.q 0 (.q 1 (.q 2 .done))) ?_
        refine AtT.kmove ?_
        first | refine AtT.kadd ?_ | refine AtT.kaddW ?_
        refine AtT.kassign ?_
        refine AtT.done ?_
        refine At.nrm ?_
        refine At.round (k + 1) ?_ ?_ ?_ ?_
        · show ps.length - (k + 1) < ps.length - k; omega
        · exact ⟨hVV.trans (by assumption), by omega, by rw [hfs]; exact Decidable.not_not.1 hm⟩
        · exact ⟨rfl, rfl, rfl, ivs (by omega), trivial⟩
        · exact Pt.auto
    · obtain rfl : k = ps.length := by omega
      refine At.nrm ?_
      refine At.ktext (.q 0 .done) ?_
      refine AtT.kassign ?_
      refine AtT.done ?_
      refine At.nrm ?_
      exact At.ret1 rfl (.tmp rfl) (by rw [rowE_fr he', hfe])
theorem fine_f (d : Dy) (ps : List Pn) (sure : Bool) (V : View) (v : Value) (hs : Sl V pne 3 v ps) : Fnc Try.prog 46 [dyv d, v, .bool sure] V fun r _ => r = .bool (decide (ps.length ≤ 16 ∧ rowE d ps sure = 0)) := by
  refine fn_of Try.func46 rfl Try.ntmps46 (Nat.le_of_ble_eq_true rfl) ?_
  intro w0 hw0
  refine At.nrm ?_
  refine At.ktext (.n false 0 (.q 1 .done)) ?_
  refine AtT.kbox ?_
  intro b3
  refine AtT.kassign ?_
  refine AtT.done ?_
  refine At.nrm ?_
  by_cases hg : 16 < (ps.length : Int)
  · refine At.ktext (.q 0 (.n false 1 (.q 2 (.q 3 (.q 4 (.q 5 (.q 6 (.n false 7 (.q 8 (.q 9 (.q 10 .done))))))))))) ?_
    refine AtT.kmove ?_
    refine AtT.kcallP rfl rfl ok16 (great_f ps _ _ hs) ?_
    rintro _ rfl
    refine AtT.knot ?_
    refine AtT.setB (d := 9) rfl ((show (!decide (16 < (ps.length : Int))) = false by simp [hg])) ?_
    refine AtT.kmove ?_
    all_goals (first | refine AtT.kL 10 ?_ | refine AtT.pcase (d := 10) rfl (fun hg10 => ?_) (fun hg10 => ?_) | refine AtT.bcase (d := 10) rfl (fun hg10 => ?_) (fun hg10 => ?_))
    all_goals (first | refine AtT.kpass ?_ | refine AtT.kpassU ?_ | ((first | refine AtT.kloadOA tk25 ?_ | refine AtT.kloadA tk25 ?_ | refine AtT.kloadOP tk25 ?_)))
    all_goals (first | refine AtT.kpass ?_ | refine AtT.kpassU ?_ | ((refine AtT.kmove ?_)))
    all_goals (first | refine AtT.kpass ?_ | refine AtT.kpassU ?_ | ((refine AtT.kmove ?_)))
    all_goals (first | refine AtT.kpassN ?_ | refine AtT.kpassNU ?_ | ((fail)))
    all_goals (first | refine AtT.kpass ?_ | refine AtT.kpassU ?_ | ((refine AtT.keqI ?_)))
    all_goals (refine AtT.kpick ?_)
    all_goals (refine AtT.kassign ?_)
    all_goals refine AtT.done ?_
    all_goals (refine At.nrm ?_)
    exact At.ret1 rfl (.tmp rfl) (by rw [decide_eq_false (by omega)]; rfl)
  · refine At.ktext (.q 0 (.n false 1 (.q 2 (.q 3 (.q 4 (.q 5 (.q 6 (.n false 7 (.q 8 (.q 9 (.q 10 .done))))))))))) ?_
    refine AtT.kmove ?_
    refine AtT.kcallP rfl rfl ok16 (great_f ps _ _ hs) ?_
    rintro _ rfl
    refine AtT.knot ?_
    refine AtT.setB (d := 9) rfl ((show (!decide (16 < (ps.length : Int))) = true by simp [hg])) ?_
    refine AtT.kmove ?_
    all_goals (first | refine AtT.kL 10 ?_ | refine AtT.pcase (d := 10) rfl (fun hg10 => ?_) (fun hg10 => ?_) | refine AtT.bcase (d := 10) rfl (fun hg10 => ?_) (fun hg10 => ?_))
    all_goals (first | refine AtT.kpass ?_ | refine AtT.kpassU ?_ | ((first | refine AtT.kloadOA tk25 ?_ | refine AtT.kloadA tk25 ?_ | refine AtT.kloadOP tk25 ?_)))
    all_goals (first | refine AtT.kpass ?_ | refine AtT.kpassU ?_ | ((refine AtT.kmove ?_)))
    all_goals (first | refine AtT.kpass ?_ | refine AtT.kpassU ?_ | ((refine AtT.kmove ?_)))
    all_goals (first | refine AtT.kpassN ?_ | refine AtT.kpassNU ?_ | ((refine AtT.kcallP rfl rfl ok74 (rowErr_f d ps sure _ _ hs) ?_) ; (rintro _ rfl)))
    all_goals (first | refine AtT.kpass ?_ | refine AtT.kpassU ?_ | ((refine AtT.keqI ?_)))
    all_goals (refine AtT.kpick ?_)
    all_goals (refine AtT.kassign ?_)
    all_goals refine AtT.done ?_
    all_goals (refine At.nrm ?_)
    refine At.ret1 rfl (.tmp rfl) ?_
    show Value.bool (decide (rowE d ps sure = 0)) = Value.bool (decide (ps.length ≤ 16 ∧ rowE d ps sure = 0))
    congr 1
    rw [decide_eq_decide]
    omega
end Go.Proofs.Ytmnbkceiaifncaa
set_option linter.unusedVariables false
namespace Go.Proofs.Ytmnbkceiaifncaa
open Go.Lw Go.Gl Go.RowKit

theorem getLast_at (l : List Int) : l.getD (l.length - 1) 0 = l.getLastD 0 := by
  rw [List.getLastD_eq_getLast?, List.getLast?_eq_getElem?]; rfl
theorem marks_f (B : Bn) (hB : BnOk B) (V : View) (p : Addr) (h : BnV V p B) : Fnc Try.prog 72 [.pointer (some p)] V fun r V' => SlI V' r (mkL B B.each.length) := by
  have n10 := hB.n10
  obtain ⟨ae, ce, hcel, hsel⟩ := h.each
  have c2 : Cells V (p.add 2) [.slice ae B.each.length ce] := hcel.at (k := 2) fun j u hj => by
    match j, hj with
    | 0, hj => exact hj
  refine fn_of Try.func72 rfl Try.ntmps72 (Nat.le_of_ble_eq_true rfl) ?_
  intro w0 hw0
  refine At.nrm ?_
  refine At.ktext (.q 0 .done) ?_
  refine AtT.kassign ?_
  refine AtT.done ?_
  refine At.nrm ?_
  refine At.ktext (.q 0 .done) ?_
  refine AtT.kassign ?_
  refine AtT.done ?_
  refine At.nrm ?_
  refine At.ktext (.q 0 (.q 1 (.q 2 (.q 3 (.q 4 (.q 5 .done)))))) ?_
  refine AtT.kmove ?_
  refine AtT.knil ?_
  first | refine AtT.kfieldO fo97_1 ?_ | with_reducible refine AtT.kfield2 fo97_1 ?_ | refine AtT.kfield fo97_1 ?_
  first | refine AtT.kloadO tk83 ?_ | refine AtT.kload tk83 ?_
  first | refine AtT.klenS Try.underlying83 ?_ | refine AtT.klenR Try.underlying83 ?_
  refine AtT.kmove ?_
  refine AtT.done ?_
  refine At.nrm ?_
  refine At.newRow 3 1 ?_
  refine At.lp (ι := Nat × Option Addr × Nat) (KS := fun g => [(0, .pointer (some p)), (3, .slice g.2.1 (mkL B g.1).length g.2.2), (9, iv B.each.length), (10, iv g.1)])
    (OS := fun g => [.row (.slice g.2.1 (mkL B g.1).length g.2.2) 3 1 (mkL B g.1).length (flat ei (mkL B g.1))]) (VS := fun g V' => Le V V' ∧ g.1 ≤ B.each.length) (μ := fun g => B.each.length - g.1) (0, none, 0) ?_ ?_ ?_ ?_
  · exact ⟨rfl, rfl, rfl, rfl, trivial⟩
  · exact Pt.auto
  · exact ⟨Le.refl _, Nat.zero_le _⟩
  · rintro ⟨k, ao, co⟩ V' ks' O' ⟨hVV, hkl⟩ hk hO hl2
    dsimp only at hkl hk hO
    subst hk hO
    have hkn := mkL_len B k
    have hlt := mkL_lt B k
    have h' := h.le hVV
    refine At.nrm ?_
    refine At.ktext (.q 0 .done) ?_
    refine AtT.klss ?_
    refine AtT.done ?_
    refine At.nrm ?_
    refine At.condP rfl (fun hp => ?_) (fun hp => ?_)
    · refine At.nrm ?_
      refine At.ktext (.q 0 (.q 1 .done)) ?_
      refine AtT.kmove ?_
      refine AtT.kassign ?_
      refine AtT.done ?_
      refine At.nrm ?_
      refine At.cutG (ι := Option Addr × Nat) (fun g => [(0, .pointer (some p)), (3, .slice g.1 (mkL B k).length g.2), (4, iv k), (9, iv B.each.length), (10, iv k), (29, .bool (decide (mkL B k = [] ∨ fitE B (sumL B (fromTo ((mkL B k).getLastD 0) (k : Int))) ≠ 0)))])
        (fun g => [.row (.slice g.1 (mkL B k).length g.2) 3 1 (mkL B k).length (flat ei (mkL B k))]) (fun _ V'' => V' = V'') ?_ ?_
      · by_cases c1 : (mkL B k).length = 0
        · refine At.ktext (.q 0 (.q 1 (.q 2 (.q 3 (.q 4 (.q 5 (.q 6 (.q 7 (.q 8 (.q 9 (.q 10 (.q 11 (.q 12 (.n false 13 (.n false 14 (.q 15 (.q 16 .done))))))))))))))))) ?_
          refine AtT.kmove ?_
          first | refine AtT.klenS Try.underlying27 ?_ | refine AtT.klenR Try.underlying27 ?_
          refine AtT.keqI ?_
          refine AtT.setT (d := 15) rfl ((by omega)) ?_
          refine AtT.kmove ?_
          all_goals (first | refine AtT.kL 16 ?_ | refine AtT.pcase (d := 16) rfl (fun hg16 => ?_) (fun hg16 => ?_) | refine AtT.bcase (d := 16) rfl (fun hg16 => ?_) (fun hg16 => ?_))
          all_goals (first | refine AtT.kpass ?_ | refine AtT.kpassU ?_ | ((refine AtT.kmove ?_)))
          all_goals (first | refine AtT.kpass ?_ | refine AtT.kpassU ?_ | ((refine AtT.kmove ?_)))
          all_goals (first | refine AtT.kpass ?_ | refine AtT.kpassU ?_ | ((refine AtT.kmove ?_)))
          all_goals (first | refine AtT.kpass ?_ | refine AtT.kpassU ?_ | ((refine AtT.kmove ?_)))
          all_goals (first | refine AtT.kpass ?_ | refine AtT.kpassU ?_ | ((first | refine AtT.klenS Try.underlying27 ?_ | refine AtT.klenR Try.underlying27 ?_)))
          all_goals (first | refine AtT.kpass ?_ | refine AtT.kpassU ?_ | ((first | refine AtT.ksubt ?_ | refine AtT.ksubW ?_)))
          all_goals (first | refine AtT.kpass ?_ | refine AtT.kpassU ?_ | ((refine AtT.kidx Try.underlying27 tk3 ?_) ; (intro p23 e23 he23 hc23)))
          all_goals (first | refine AtT.kpass ?_ | refine AtT.kpassU ?_ | ((first | refine AtT.kloadO tk3 ?_ | refine AtT.kload tk3 ?_)))
          all_goals (first | refine AtT.kpass ?_ | refine AtT.kpassU ?_ | ((refine AtT.kmove ?_)))
          all_goals (first | refine AtT.kpassN ?_ | refine AtT.kpassNU ?_ | ((fail)))
          all_goals (first | refine AtT.kpassN ?_ | refine AtT.kpassNU ?_ | ((fail)))
          all_goals (first | refine AtT.kpass ?_ | refine AtT.kpassU ?_ | ((refine AtT.kneI ?_)))
          all_goals (refine AtT.kpick ?_)
          all_goals refine AtT.done ?_
          all_goals (refine At.nrm ?_)
          exact At.meetG (ao, co) rfl ⟨rfl, rfl, rfl, rfl, rfl, bsome (by rw [decide_eq_true (.inl (List.eq_nil_of_length_eq_zero c1))]), trivial⟩ Pt.auto
        · have hne : mkL B k ≠ [] := fun h => c1 (by rw [h]; rfl)
          have hgl := getLast_at (mkL B k)
          obtain ⟨x, hx⟩ : ∃ x, x = (mkL B k).getLastD 0 := ⟨_, rfl⟩
          rw [← hx] at hgl ⊢
          have hxb : 0 ≤ x ∧ x < (k : Int) := hlt x (by rw [← hgl]; exact getD_mem (by omega))
          have gx : (mkL B k)[(mkL B k).length - 1]? = some x := by
            rw [List.getElem?_eq_getElem (by omega)]
            rw [← hgl]; simp [List.getD, List.getElem?_eq_getElem (show (mkL B k).length - 1 < (mkL B k).length by omega)]
          have hu := flat_cut (s := 1) Lw.ei_len (mkL B k) ((mkL B k).length - 1) x
          refine At.rowBlk2 (v := .slice ao (mkL B k).length co) Pick.auto c1 (fun bb cap rest hbb hcap hcm hrl => ?_)
          cases hbb
          have hcell : (flat ei (mkL B k) ++ rest)[(mkL B k).length - 1]? = some (iv x) := by
            have := hu rest gx
            rw [Nat.mul_one] at this
            have e2 := congrArg (fun l => l[0]?) this
            simp only [List.getElem?_take, List.getElem?_drop, Nat.lt_add_one, if_true, Nat.add_zero] at e2
            simpa [ei] using e2
          have hzz : (((mkL B k).length : Int) - 1) = (((mkL B k).length - 1 : Nat) : Int) := by omega
          refine At.ktext (.q 0 (.q 1 (.q 2 (.q 3 (.q 4 (.q 5 (.q 6 (.q 7 (.q 8 (.q 9 (.q 10 (.q 11 (.q 12 (.n false 13 (.n false 14 (.q 15 (.q 16 .done))))))))))))))))) ?_
          refine AtT.kmove ?_
          first | refine AtT.klenS Try.underlying27 ?_ | refine AtT.klenR Try.underlying27 ?_
          refine AtT.keqI ?_
          refine AtT.setF (d := 15) rfl ((by omega)) ?_
          refine AtT.kmove ?_
          all_goals (first | refine AtT.kL 16 ?_ | refine AtT.pcase (d := 16) rfl (fun hg16 => ?_) (fun hg16 => ?_) | refine AtT.bcase (d := 16) rfl (fun hg16 => ?_) (fun hg16 => ?_))
          all_goals (first | refine AtT.kpass ?_ | refine AtT.kpassU ?_ | ((refine AtT.kmove ?_)))
          all_goals (first | refine AtT.kpass ?_ | refine AtT.kpassU ?_ | ((refine AtT.kmove ?_)))
          all_goals (first | refine AtT.kpass ?_ | refine AtT.kpassU ?_ | ((refine AtT.kmove ?_)))
          all_goals (first | refine AtT.kpass ?_ | refine AtT.kpassU ?_ | ((refine AtT.kmove ?_)))
          all_goals (first | refine AtT.kpass ?_ | refine AtT.kpassU ?_ | ((first | refine AtT.klenS Try.underlying27 ?_ | refine AtT.klenR Try.underlying27 ?_)))
          all_goals (first | refine AtT.kpass ?_ | refine AtT.kpassU ?_ | ((first | refine AtT.ksubt ?_ | refine AtT.ksubW ?_)))
          all_goals (rw [hzz])
          all_goals (first | refine AtT.kpass ?_ | refine AtT.kpassU ?_ | ((refine AtT.idxZ rfl ⟨_, _, rfl, rfl, rfl⟩ Try.underlying27 tk3 rfl rfl (by omega) (by decide) ?_)))
          all_goals (first | refine AtT.kpass ?_ | refine AtT.kpassU ?_ | ((refine AtT.loadO rfl ⟨_, _, rfl, rfl, rfl⟩ rfl tk3 Pick.auto (by rw [Nat.mul_one]; exact hcell) (by decide) ?_)))
          all_goals (first | refine AtT.kpass ?_ | refine AtT.kpassU ?_ | ((refine AtT.kmove ?_)))
          all_goals (first | refine AtT.kpassN ?_ | refine AtT.kpassNU ?_ | ((refine AtT.kcallP rfl rfl ok76 (span_f B hB x (k : Int) hxb.1 (by omega) _ p h') ?_) ; (rintro _ rfl)))
          all_goals (first | refine AtT.kpassN ?_ | refine AtT.kpassNU ?_ | ((refine AtT.kcallP rfl rfl ok59 (fits_f B hB _ _ p h') ?_) ; (rintro _ rfl)))
          all_goals (first | refine AtT.kpass ?_ | refine AtT.kpassU ?_ | ((refine AtT.kneI ?_)))
          all_goals (refine AtT.kpick ?_)
          all_goals refine AtT.done ?_
          all_goals (refine At.nrm ?_)
          refine At.blkRow (m := (mkL B k).length) Pick.auto hrl (by rw [flat_len Lw.ei_len]) hcap hcm ?_
          exact At.meetG (_, _) rfl ⟨rfl, rfl, rfl, rfl, rfl, bsome (by rw [decide_eq_decide]; simp [hne]), trivial⟩ Pt.auto
      rintro ⟨ao, co⟩ V2 ks' O' rfl hk hO hl3
      dsimp only at hk hO
      subst hk hO
      refine At.nrm ?_
      refine At.cutG (ι := Option Addr × Nat) (fun g => [(0, .pointer (some p)), (3, .slice g.1 (mkL B (k + 1)).length g.2), (9, iv B.each.length), (10, iv k)]) (fun g => [.row (.slice g.1 (mkL B (k + 1)).length g.2) 3 1 (mkL B (k + 1)).length (flat ei (mkL B (k + 1)))]) (fun _ V'' => Le V' V'') ?_ ?_
      · refine At.condP rfl (fun hc => ?_) (fun hc => ?_)
        · have hnew : mkL B (k + 1) = mkL B k ++ [(k : Int)] := by rw [mkL, if_pos hc]
          refine At.nrm ?_
          refine At.ktext (.q 0 (.q 1 (.n false 2 (.n true 3 (.q 4 .done))))) ?_
          refine AtT.kmove ?_
          refine AtT.kmove ?_
          refine AtT.kbsliceG (bs27_1_0 _) ?_
          intro q32 V32 hV32 hq32
          have g32 : Le V V32 := by first | exact hV32 | exact Le.trans (by assumption) hV32
          first | refine AtT.kappend Try.underlying27 rw3 ?_
          intro a33 c33
          refine AtT.kassign ?_
          refine AtT.done ?_
          refine At.nrm ?_
          rw [hnew, flat_snoc, List.length_append]
          exact At.meetG (a33, c33) (by assumption) ⟨rfl, rfl, rfl, rfl, trivial⟩ Pt.auto
        · have hnew : mkL B (k + 1) = mkL B k := by rw [mkL, if_neg hc]
          refine At.nrm ?_
          rw [hnew]
          exact At.meetG (ao, co) (Le.refl _) ⟨rfl, rfl, rfl, rfl, trivial⟩ Pt.auto
      rintro ⟨a33, c33⟩ V9 ks' O' hV9 hk hO hl3
      dsimp only at hk hO
      subst hk hO
      refine At.nrm ?_
      refine At.ktext (.q 0 (.q 1 .done)) ?_
      first | refine AtT.kadd ?_ | refine AtT.kaddW ?_
      refine AtT.kmove ?_
      refine AtT.done ?_
      refine At.nrm ?_
      refine At.round (k + 1, a33, c33) ?_ ?_ ?_ ?_
      · show B.each.length - (k + 1) < B.each.length - k; omega
      · exact ⟨hVV.trans hV9, by dsimp only; omega⟩
      · exact ⟨rfl, rfl, rfl, ivs (by dsimp only; omega), trivial⟩
      dsimp only
      · exact Pt.auto
    · obtain rfl : k = B.each.length := by omega
      refine At.nrm ?_
      refine At.ktext (.q 0 (.q 1 .done)) ?_
      refine AtT.kmove ?_
      refine AtT.kassign ?_
      refine AtT.done ?_
      refine At.nrm ?_
      refine At.giveSl Lw.ei_len rfl rfl Pick.auto (fun V4 hV4 hs4 => ?_)
      exact At.ret1 rfl (.tmp rfl) hs4
/-- Where a number stands in a list that rises. -/
theorem search_f (l : List Int) (t : Int) (h1 : l.length ≤ 1000) (hm : ∀ i j, i < j → j < l.length → l.getD i 0 < l.getD j 0) (V : View) (v : Value) (hs : SlI V v l) : Fnc Try.prog 73 [v, iv t] V fun r _ =>
    ∃ j : Nat, r = .tuple #[iv j, .bool (decide (j < l.length ∧ l.getD j 0 = t))] ∧ j ≤ l.length ∧ (∀ q, q < j → l.getD q 0 < t) ∧ ∀ q, j ≤ q → q < l.length → t ≤ l.getD q 0 := by
  obtain ⟨a, c, rfl, k1, k2, _⟩ := id hs
  clear k1 k2
  refine fn_of Try.func73 rfl Try.ntmps73 (Nat.le_of_ble_eq_true rfl) ?_
  intro w0 hw0
  refine At.nrm ?_
  refine At.ktext (.q 0 (.q 1 .done)) ?_
  refine AtT.kassign ?_
  refine AtT.kassign ?_
  refine AtT.done ?_
  refine At.nrm ?_
  refine At.ktext (.q 0 (.q 1 (.q 2 .done))) ?_
  refine AtT.kmove ?_
  first | refine AtT.klenS Try.underlying27 ?_ | refine AtT.klenR Try.underlying27 ?_
  refine AtT.kassign ?_
  refine AtT.done ?_
  refine At.nrm ?_
  refine At.ktext (.q 0 (.q 1 (.q 2 .done))) ?_
  refine AtT.kmove ?_
  refine AtT.kassign ?_
  refine AtT.kassign ?_
  refine AtT.done ?_
  refine At.nrm ?_
  refine At.lp (ι := Nat × Nat) (KS := fun g => [(0, .slice a l.length c), (1, iv t), (6, iv l.length), (7, iv g.1), (8, iv g.2)]) (OS := fun _ => []) (VS := fun g V' => V' = V ∧ g.1 ≤ g.2 ∧ g.2 ≤ l.length ∧ (∀ q, q < g.1 → l.getD q 0 < t) ∧ ∀ q, g.2 ≤ q → q < l.length → t ≤ l.getD q 0) (μ := fun g => g.2 - g.1) (0, l.length) ?_ ?_ ?_ ?_
  · exact ⟨rfl, rfl, rfl, rfl, rfl, trivial⟩
  · exact Pt.auto
  · exact ⟨rfl, Nat.zero_le _, Nat.le_refl _, fun q hq => absurd hq (Nat.not_lt_zero q), fun q h1 h2 => absurd h2 (by dsimp only at h1; omega)⟩
  · rintro ⟨i, j⟩ V' ks' O' ⟨rfl, hij, hjl, hlo, hhi⟩ hk hO hl2
    dsimp only at hij hjl hlo hhi hk
    subst hk hO
    refine At.nrm ?_
    refine At.ktext (.q 0 (.q 1 (.q 2 .done))) ?_
    refine AtT.kmove ?_
    refine AtT.kmove ?_
    refine AtT.klss ?_
    refine AtT.done ?_
    refine At.nrm ?_
    refine At.condP rfl (fun hp => ?_) (fun hp => ?_)
    · obtain ⟨x, hx⟩ : ∃ x, l[(i + j) / 2]? = some x := ⟨_, List.getElem?_eq_getElem (by omega)⟩
      have hgx : l.getD ((i + j) / 2) 0 = x := by simp [List.getD, hx]
      have hsh : (i + j) >>> 1 = (i + j) / 2 := by rw [Nat.shiftRight_eq_div_pow]
      have hwr : IntKind.u64.wrap ((i : Int) + (j : Int)) = ((i + j : Nat) : Int) := by rw [show (i : Int) + (j : Int) = ((i + j : Nat) : Int) by omega]; exact wrapU (by omega)
      refine At.nrm ?_
      refine At.ktext (.q 0 (.q 1 (.q 2 (.q 3 (.q 4 (.q 5 (.q 6 .done))))))) ?_
      refine AtT.kmove ?_
      refine AtT.kmove ?_
      first | refine AtT.kadd ?_ | refine AtT.kaddW ?_
      refine AtT.kconv un3 Try.underlying112 ?_
      rw [hwr]
      refine AtT.shrU rfl trivial rfl rfl rfl (show (1 : Int) = ((1 : Nat) : Int) from rfl) (by decide) (by decide) (A := i + j) (N := 1) ?_
      rw [hsh]
      refine AtT.kconv un112 Try.underlying3 ?_
      rw [wrap_fit (Fit.of (by omega) (by omega))]
      refine AtT.kassign ?_
      refine AtT.done ?_
      refine At.nrm ?_
      refine At.ktext (.q 0 (.q 1 (.q 2 (.q 3 (.q 4 (.n false 5 .done)))))) ?_
      refine AtT.kmove ?_
      refine AtT.kmove ?_
      refine AtT.kidx Try.underlying27 tk3 ?_
      intro p24 e24 he24 hc24
      obtain rfl : e24 = x := by have : l[(i + j) / 2]? = some e24 := (by rw [Int.toNat_natCast] at he24; exact he24); rw [hx] at this; simpa using this.symm
      first | refine AtT.kloadO tk3 ?_ | refine AtT.kload tk3 ?_
      refine AtT.kmove ?_
      refine AtT.kcallP rfl rfl ok98 (less_f _ _ _) ?_
      rintro _ rfl
      refine AtT.done ?_
      refine At.nrm ?_
      refine At.condP rfl (fun hc => ?_) (fun hc => ?_)
      · refine At.nrm ?_
        refine At.ktext (.q 0 (.q 1 (.q 2 .done))) ?_
        refine AtT.kmove ?_
        first | refine AtT.kadd ?_ | refine AtT.kaddW ?_
        refine AtT.kassign ?_
        refine AtT.done ?_
        refine At.nrm ?_
        refine At.round ((i + j) / 2 + 1, j) ?_ ?_ ?_ ?_
        · show j - ((i + j) / 2 + 1) < j - i; omega
        · refine ⟨rfl, by dsimp only; omega, hjl, fun q hq => ?_, hhi⟩
          dsimp only at hq
          by_cases e : q = (i + j) / 2
          · subst e; omega
          · have := hm q ((i + j) / 2) (by omega) (by omega)
            omega
        · exact ⟨rfl, rfl, rfl, ivs (by dsimp only; omega), rfl, trivial⟩
        · exact Pt.auto
      · refine At.nrm ?_
        refine At.ktext (.q 0 (.q 1 .done)) ?_
        refine AtT.kmove ?_
        refine AtT.kassign ?_
        refine AtT.done ?_
        refine At.nrm ?_
        refine At.round (i, (i + j) / 2) ?_ ?_ ?_ ?_
        · show (i + j) / 2 - i < j - i; omega
        · refine ⟨rfl, by dsimp only; omega, by dsimp only; omega, hlo, fun q hq hql => ?_⟩
          dsimp only at hq
          by_cases e : q = (i + j) / 2
          · subst e; omega
          · have := hm ((i + j) / 2) q (by omega) hql
            omega
        · exact ⟨rfl, rfl, rfl, rfl, rfl, trivial⟩
        · exact Pt.auto
    · obtain rfl : i = j := by omega
      refine At.nrm ?_
      by_cases c1 : i < l.length
      · obtain ⟨x, hx⟩ : ∃ x, l[i]? = some x := ⟨_, List.getElem?_eq_getElem (by omega)⟩
        have hgx : l.getD i 0 = x := by simp [List.getD, hx]
        by_cases c2 : x = t
        · refine At.ktext (.q 0 (.q 1 (.q 2 (.q 3 (.q 4 (.q 5 (.q 6 (.q 7 (.q 8 (.q 9 (.q 10 (.q 11 (.q 12 (.q 13 (.q 14 (.q 15 (.n false 16 (.q 17 (.q 18 (.n false 19 (.q 20 (.q 21 (.q 22 (.q 23 (.q 24 .done))))))))))))))))))))))))) ?_
          refine AtT.kmove ?_
          refine AtT.kmove ?_
          refine AtT.kmove ?_
          refine AtT.klss ?_
          refine AtT.setT (d := 34) rfl ((by omega)) ?_
          refine AtT.kmove ?_
          all_goals (first | refine AtT.kL 35 ?_ | refine AtT.pcase (d := 35) rfl (fun hg35 => ?_) (fun hg35 => ?_) | refine AtT.bcase (d := 35) rfl (fun hg35 => ?_) (fun hg35 => ?_))
          all_goals (first | refine AtT.kpass ?_ | refine AtT.kpassU ?_ | ((refine AtT.kmove ?_)))
          all_goals (first | refine AtT.kpass ?_ | refine AtT.kpassU ?_ | ((refine AtT.kmove ?_)))
          all_goals (first | refine AtT.kpass ?_ | refine AtT.kpassU ?_ | ((refine AtT.kidx Try.underlying27 tk3 ?_) ; (intro p38 e38 he38 hc38)))
          all_goals (obtain rfl : e38 = x := by have : l[i]? = some e38 := (by simpa using he38); rw [hx] at this; simpa using this.symm)
          all_goals (first | refine AtT.kpass ?_ | refine AtT.kpassU ?_ | ((first | refine AtT.kloadO tk3 ?_ | refine AtT.kload tk3 ?_)))
          all_goals (first | refine AtT.kpass ?_ | refine AtT.kpassU ?_ | ((refine AtT.kmove ?_)))
          all_goals (first | refine AtT.kpass ?_ | refine AtT.kpassU ?_ | ((refine AtT.keqI ?_)))
          all_goals (refine AtT.setT (d := 41) rfl (c2) ?_)
          all_goals (first | refine AtT.kpass ?_ | refine AtT.kpassU ?_ | ((refine AtT.kmove ?_)))
          all_goals (first | refine AtT.kL 42 ?_ | refine AtT.pcase (d := 42) rfl (fun hg42 => ?_) (fun hg42 => ?_) | refine AtT.bcase (d := 42) rfl (fun hg42 => ?_) (fun hg42 => ?_))
          all_goals (first | refine AtT.kpass ?_ | refine AtT.kpassU ?_ | ((refine AtT.kmove ?_)))
          all_goals (first | refine AtT.kpass ?_ | refine AtT.kpassU ?_ | ((refine AtT.kmove ?_)))
          all_goals (first | refine AtT.kpass ?_ | refine AtT.kpassU ?_ | ((refine AtT.kidx Try.underlying27 tk3 ?_) ; (intro p45 e45 he45 hc45)))
          all_goals (first | refine AtT.kpass ?_ | refine AtT.kpassU ?_ | ((first | refine AtT.kloadO tk3 ?_ | refine AtT.kload tk3 ?_)))
          all_goals (first | refine AtT.kpassN ?_ | refine AtT.kpassNU ?_ | ((fail)))
          all_goals (first | refine AtT.kpass ?_ | refine AtT.kpassU ?_ | ((refine AtT.kmove ?_)))
          all_goals (first | refine AtT.kL 48 ?_ | refine AtT.pcase (d := 48) rfl (fun hg48 => ?_) (fun hg48 => ?_) | refine AtT.bcase (d := 48) rfl (fun hg48 => ?_) (fun hg48 => ?_))
          all_goals (first | refine AtT.kpass ?_ | refine AtT.kpassU ?_ | ((refine AtT.kmove ?_)))
          all_goals (first | refine AtT.kpassN ?_ | refine AtT.kpassNU ?_ | ((fail)))
          all_goals (first | refine AtT.kpass ?_ | refine AtT.kpassU ?_ | ((refine AtT.kpick ?_)))
          all_goals (first | refine AtT.kpass ?_ | refine AtT.kpassU ?_ | ((refine AtT.kpick ?_)))
          all_goals (refine AtT.kpick ?_)
          all_goals (refine AtT.kassign ?_)
          all_goals (refine AtT.kassign ?_)
          all_goals refine AtT.done ?_
          all_goals (refine At.nrm ?_)
          exact At.ret2 rfl (.tmp rfl) (.tmp rfl) ⟨i, by rw [decide_eq_true ⟨c1, by omega⟩]; rfl, hjl, hlo, hhi⟩
        · refine At.ktext (.q 0 (.q 1 (.q 2 (.q 3 (.q 4 (.q 5 (.q 6 (.q 7 (.q 8 (.q 9 (.q 10 (.q 11 (.q 12 (.q 13 (.q 14 (.q 15 (.n false 16 (.q 17 (.q 18 (.n false 19 (.q 20 (.q 21 (.q 22 (.q 23 (.q 24 .done))))))))))))))))))))))))) ?_
          refine AtT.kmove ?_
          refine AtT.kmove ?_
          refine AtT.kmove ?_
          refine AtT.klss ?_
          refine AtT.setT (d := 34) rfl ((by omega)) ?_
          refine AtT.kmove ?_
          all_goals (first | refine AtT.kL 35 ?_ | refine AtT.pcase (d := 35) rfl (fun hg35 => ?_) (fun hg35 => ?_) | refine AtT.bcase (d := 35) rfl (fun hg35 => ?_) (fun hg35 => ?_))
          all_goals (first | refine AtT.kpass ?_ | refine AtT.kpassU ?_ | ((refine AtT.kmove ?_)))
          all_goals (first | refine AtT.kpass ?_ | refine AtT.kpassU ?_ | ((refine AtT.kmove ?_)))
          all_goals (first | refine AtT.kpass ?_ | refine AtT.kpassU ?_ | ((refine AtT.kidx Try.underlying27 tk3 ?_) ; (intro p38 e38 he38 hc38)))
          all_goals (obtain rfl : e38 = x := by have : l[i]? = some e38 := (by simpa using he38); rw [hx] at this; simpa using this.symm)
          all_goals (first | refine AtT.kpass ?_ | refine AtT.kpassU ?_ | ((first | refine AtT.kloadO tk3 ?_ | refine AtT.kload tk3 ?_)))
          all_goals (first | refine AtT.kpass ?_ | refine AtT.kpassU ?_ | ((refine AtT.kmove ?_)))
          all_goals (first | refine AtT.kpass ?_ | refine AtT.kpassU ?_ | ((refine AtT.keqI ?_)))
          all_goals (refine AtT.setF (d := 41) rfl (c2) ?_)
          all_goals (first | refine AtT.kpass ?_ | refine AtT.kpassU ?_ | ((refine AtT.kmove ?_)))
          all_goals (first | refine AtT.kL 42 ?_ | refine AtT.pcase (d := 42) rfl (fun hg42 => ?_) (fun hg42 => ?_) | refine AtT.bcase (d := 42) rfl (fun hg42 => ?_) (fun hg42 => ?_))
          all_goals (first | refine AtT.kpass ?_ | refine AtT.kpassU ?_ | ((refine AtT.kmove ?_)))
          all_goals (first | refine AtT.kpass ?_ | refine AtT.kpassU ?_ | ((refine AtT.kmove ?_)))
          all_goals (first | refine AtT.kpass ?_ | refine AtT.kpassU ?_ | ((refine AtT.kidx Try.underlying27 tk3 ?_) ; (intro p45 e45 he45 hc45)))
          all_goals (obtain rfl : e45 = e38 := by have : l[i]? = some e45 := (by simpa using he45); rw [hx] at this; simpa using this.symm)
          all_goals (first | refine AtT.kpass ?_ | refine AtT.kpassU ?_ | ((first | refine AtT.kloadO tk3 ?_ | refine AtT.kload tk3 ?_)))
          all_goals (first | refine AtT.kpassN ?_ | refine AtT.kpassNU ?_ | ((refine AtT.kcallP rfl rfl ok99 (nan2_f _ _) ?_) ; (rintro _ rfl)))
          all_goals (first | refine AtT.kpass ?_ | refine AtT.kpassU ?_ | ((refine AtT.kmove ?_)))
          all_goals (first | refine AtT.kL 48 ?_ | refine AtT.pcase (d := 48) rfl (fun hg48 => ?_) (fun hg48 => ?_) | refine AtT.bcase (d := 48) rfl (fun hg48 => ?_) (fun hg48 => ?_))
          all_goals (first | refine AtT.kpass ?_ | refine AtT.kpassU ?_ | ((refine AtT.kmove ?_)))
          all_goals (first | refine AtT.kpassN ?_ | refine AtT.kpassNU ?_ | ((fail)))
          all_goals (first | refine AtT.kpass ?_ | refine AtT.kpassU ?_ | ((refine AtT.kpick ?_)))
          all_goals (first | refine AtT.kpass ?_ | refine AtT.kpassU ?_ | ((refine AtT.kpick ?_)))
          all_goals (refine AtT.kpick ?_)
          all_goals (refine AtT.kassign ?_)
          all_goals (refine AtT.kassign ?_)
          all_goals refine AtT.done ?_
          all_goals (refine At.nrm ?_)
          exact At.ret2 rfl (.tmp rfl) (.tmp rfl) ⟨i, by rw [decide_eq_false (by omega)]; rfl, hjl, hlo, hhi⟩
      · refine At.ktext (.q 0 (.q 1 (.q 2 (.q 3 (.q 4 (.q 5 (.q 6 (.q 7 (.q 8 (.q 9 (.q 10 (.q 11 (.q 12 (.q 13 (.q 14 (.q 15 (.n false 16 (.q 17 (.q 18 (.n false 19 (.q 20 (.q 21 (.q 22 (.q 23 (.q 24 .done))))))))))))))))))))))))) ?_
        refine AtT.kmove ?_
        refine AtT.kmove ?_
        refine AtT.kmove ?_
        refine AtT.klss ?_
        refine AtT.setF (d := 34) rfl ((by omega)) ?_
        refine AtT.kmove ?_
        all_goals (first | refine AtT.kL 35 ?_ | refine AtT.pcase (d := 35) rfl (fun hg35 => ?_) (fun hg35 => ?_) | refine AtT.bcase (d := 35) rfl (fun hg35 => ?_) (fun hg35 => ?_))
        all_goals (first | refine AtT.kpass ?_ | refine AtT.kpassU ?_ | ((refine AtT.kmove ?_)))
        all_goals (first | refine AtT.kpass ?_ | refine AtT.kpassU ?_ | ((refine AtT.kmove ?_)))
        all_goals (first | refine AtT.kpass ?_ | refine AtT.kpassU ?_ | ((refine AtT.kidx Try.underlying27 tk3 ?_) ; (intro p38 e38 he38 hc38)))
        all_goals (first | refine AtT.kpass ?_ | refine AtT.kpassU ?_ | ((first | refine AtT.kloadO tk3 ?_ | refine AtT.kload tk3 ?_)))
        all_goals (first | refine AtT.kpass ?_ | refine AtT.kpassU ?_ | ((refine AtT.kmove ?_)))
        all_goals (first | refine AtT.kpass ?_ | refine AtT.kpassU ?_ | ((refine AtT.keqI ?_)))
        all_goals (first | refine AtT.kpass ?_ | refine AtT.kpassU ?_ | ((refine AtT.kmove ?_)))
        all_goals (first | refine AtT.kL 42 ?_ | refine AtT.pcase (d := 42) rfl (fun hg42 => ?_) (fun hg42 => ?_) | refine AtT.bcase (d := 42) rfl (fun hg42 => ?_) (fun hg42 => ?_))
        all_goals (first | refine AtT.kpass ?_ | refine AtT.kpassU ?_ | ((refine AtT.kmove ?_)))
        all_goals (first | refine AtT.kpass ?_ | refine AtT.kpassU ?_ | ((refine AtT.kmove ?_)))
        all_goals (first | refine AtT.kpass ?_ | refine AtT.kpassU ?_ | ((refine AtT.kidx Try.underlying27 tk3 ?_) ; (intro p45 e45 he45 hc45)))
        all_goals (first | refine AtT.kpass ?_ | refine AtT.kpassU ?_ | ((first | refine AtT.kloadO tk3 ?_ | refine AtT.kload tk3 ?_)))
        all_goals (first | refine AtT.kpassN ?_ | refine AtT.kpassNU ?_ | ((fail)))
        all_goals (first | refine AtT.kpass ?_ | refine AtT.kpassU ?_ | ((refine AtT.kmove ?_)))
        all_goals (first | refine AtT.kL 48 ?_ | refine AtT.pcase (d := 48) rfl (fun hg48 => ?_) (fun hg48 => ?_) | refine AtT.bcase (d := 48) rfl (fun hg48 => ?_) (fun hg48 => ?_))
        all_goals (first | refine AtT.kpass ?_ | refine AtT.kpassU ?_ | ((refine AtT.kmove ?_)))
        all_goals (first | refine AtT.kpassN ?_ | refine AtT.kpassNU ?_ | ((fail)))
        all_goals (first | refine AtT.kpass ?_ | refine AtT.kpassU ?_ | ((refine AtT.kpick ?_)))
        all_goals (first | refine AtT.kpass ?_ | refine AtT.kpassU ?_ | ((refine AtT.kpick ?_)))
        all_goals (refine AtT.kpick ?_)
        all_goals (refine AtT.kassign ?_)
        all_goals (refine AtT.kassign ?_)
        all_goals refine AtT.done ?_
        all_goals (refine At.nrm ?_)
        exact At.ret2 rfl (.tmp rfl) (.tmp rfl) ⟨i, by rw [decide_eq_false (by omega)]; rfl, hjl, hlo, hhi⟩
end Go.Proofs.Ytmnbkceiaifncaa
