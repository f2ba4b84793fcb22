/- Texts that the last one of this claim imports. -/
import Derived.Test.YtnionkopmncopaaB2
set_option linter.unusedVariables false
set_option linter.unusedSimpArgs false
set_option linter.unusedSectionVars false
set_option linter.unusedVariables false
namespace Go.Proofs.Ytnionkopmncopaa
open Go.Lw Go.Pl Go.RowKit

/-- p points to a lathe with the log L. -/
def LathV (V : View) (p : Addr) (L : Lg) : Prop := ∃ a c a' c', Cells V p [.slice a L.pl.length c, .slice a' L.ed.length c'] ∧ SlI V (.slice a L.pl.length c) L.pl ∧ Sl V rge 2 (.slice a' L.ed.length c') L.ed
theorem LathV.le {V V' : View} {p : Addr} {L : Lg} (h : LathV V p L) (hl : Le V V') : LathV V' p L := by
  obtain ⟨a, c, a', c', h1, h2, h3⟩ := h
  exact ⟨a, c, a', c', h1.le hl, h2.le hl, h3.le hl⟩

theorem open_f (L : Lg) (V : View) (v : Value) (hL : LogV V v L) :
    Fnc Try.prog 59 [v] V fun v V' => (logE L ≠ 0 ∧ v = .tuple #[.pointer none, iv (logE L)]) ∨ (logE L = 0 ∧ ∃ p, v = .tuple #[.pointer (some p), iv 0] ∧ LathV V' p L) := by
  have hL' := hL
  obtain ⟨a, c, a', c', rfl, h2, h3⟩ := hL
  refine fn_of Try.func59 rfl Try.ntmps59 (Nat.le_of_ble_eq_true rfl) ?_
  intro w0 hw0
  refine At.nrm ?_
  refine At.text (.n false 0 (.q 1 (.q 2 .done))) (by kernel_rfl) ?_
  refine AtT.box rfl trivial rfl rfl (by decide) ?_
  intro b1
  refine AtT.assign rfl trivial rfl (by decide) ?_
  refine AtT.assign rfl trivial rfl (by decide) ?_
  refine AtT.done ?_
  refine At.nrm ?_
  refine At.text (.q 0 (.n false 1 (.q 2 .done))) (by kernel_rfl) ?_
  first | refine AtT.loadOA rfl trivial rfl tk25 (by repeat (first | exact Pick.here | apply Pick.there)) (by rfl) (by decide) ?_ | refine AtT.loadA rfl trivial rfl tk25 (by first | assumption | exact Cells.le (by assumption) (by assumption)) (by rfl) (by decide) ?_ | refine AtT.loadOP rfl trivial rfl tk25 (by repeat (first | exact Pick.here | apply Pick.there)) (by rfl) (by rfl) (by decide) ?_
  refine AtT.callP rfl trivial rfl ok22 (by decide) (checkLog_f L _ _ hL') ?_
  rintro _ rfl
  refine AtT.assign rfl trivial rfl (by decide) ?_
  refine AtT.done ?_
  refine At.nrm ?_
  refine At.text (.q 0 (.q 1 .done)) (by kernel_rfl) ?_
  refine AtT.move rfl trivial rfl (by decide) ?_
  refine AtT.neI rfl trivial rfl rfl (by decide) ?_
  refine AtT.done ?_
  refine At.nrm ?_
  refine At.condP rfl (fun hb => ?_) (fun hb => ?_)
  · refine At.nrm ?_
    refine At.text (.q 0 (.q 1 (.q 2 .done))) (by kernel_rfl) ?_
    refine AtT.move rfl trivial rfl (by decide) ?_
    refine AtT.assign rfl trivial rfl (by decide) ?_
    refine AtT.assign rfl trivial rfl (by decide) ?_
    refine AtT.done ?_
    refine At.nrm ?_
    exact At.ret2 rfl (.tmp rfl) (.tmp rfl) (.inl ⟨hb, rfl⟩)
  · have hb' : logE L = 0 := by omega
    refine At.nrm ?_
    refine At.text (.q 0 (.q 1 (.n false 2 (.q 3 (.q 4 .done))))) (by kernel_rfl) ?_
    first | refine AtT.loadOA rfl trivial rfl tk25 (by repeat (first | exact Pick.here | apply Pick.there)) (by rfl) (by decide) ?_ | refine AtT.loadA rfl trivial rfl tk25 (by first | assumption | exact Cells.le (by assumption) (by assumption)) (by rfl) (by decide) ?_ | refine AtT.loadOP rfl trivial rfl tk25 (by repeat (first | exact Pick.here | apply Pick.there)) (by rfl) (by rfl) (by decide) ?_
    refine AtT.build rfl trivial rfl (bd106_0 _ _ _ _ _ _) (by decide) ?_
    refine AtT.box rfl trivial rfl rfl (by decide) ?_
    intro b12
    refine AtT.assign rfl trivial rfl (by decide) ?_
    refine AtT.assign rfl trivial rfl (by decide) ?_
    refine AtT.done ?_
    refine At.nrm ?_
    refine At.giveB (b := b12) (by repeat (first | exact Pick.here | apply Pick.there)) ?_
    intro V' hV' hb12
    exact At.ret2 rfl (.tmp rfl) (.tmp rfl) (.inr ⟨hb', _, rfl, a, c, a', c', cells_blk hb12, h2.le hV', h3.le hV'⟩)

theorem fit_mk {z : Int} (h : -9000000000000000000 ≤ z ∧ z ≤ 9000000000000000000) : Fit z := ⟨by omega, by omega⟩

theorem core_f (L : Lg) (x : Ln) (V : View) (p : Addr) (hp : LathV V p L) (hL : LgOk L) (hx : LnB x) : Fnc Try.prog 60 [.pointer (some p), lnv x] V fun v _ => v = rtv (coreOf L x) := by
  obtain ⟨a, c, a', c', h1, h2, h3⟩ := hp
  obtain ⟨n2, n8, el, at0, edge, inc⟩ := id hL
  obtain ⟨d0, d1, s0, s1, p0, p1⟩ := id hx
  refine fn_of Try.func60 rfl Try.ntmps60 (Nat.le_of_ble_eq_true rfl) ?_
  intro w0 hw0
  refine At.nrm ?_
  refine At.text (.n false 0 (.n false 1 .done)) (by kernel_rfl) ?_
  refine AtT.box rfl trivial rfl rfl (by decide) ?_
  intro b3
  refine AtT.alloc rfl trivial z31 rfl (by decide) ?_
  intro b4
  refine AtT.done ?_
  refine At.nrm ?_
  refine At.text (.q 0 .done) (by kernel_rfl) ?_
  refine AtT.assign rfl trivial rfl (by decide) ?_
  refine AtT.done ?_
  refine At.nrm ?_
  refine At.text (.q 0 (.q 1 (.q 2 (.q 3 (.q 4 (.q 5 (.q 6 .done))))))) (by kernel_rfl) ?_
  refine AtT.move rfl trivial rfl (by decide) ?_
  refine AtT.nil rfl trivial rfl (by decide) ?_
  first | refine AtT.fieldO rfl trivial rfl fo106_0 (by decide) ?_ | with_reducible refine AtT.field2 rfl trivial rfl fo106_0 (by decide) ?_ | refine AtT.field rfl trivial rfl fo106_0 (by decide) ?_
  first | refine AtT.fieldO rfl trivial rfl fo25_0 (by decide) ?_ | with_reducible refine AtT.field2 rfl trivial rfl fo25_0 (by decide) ?_ | refine AtT.field rfl trivial rfl fo25_0 (by decide) ?_
  first | refine AtT.loadO rfl trivial rfl tk22 (by repeat (first | exact Pick.here | apply Pick.there)) (by rfl) (by decide) ?_ | refine AtT.load rfl trivial rfl tk22 (by first | exact vcell_of (by assumption) (by rfl) | exact vcell_of0 (by assumption) (by rfl) | exact vcell_of (Cells.le (by assumption) (by assumption)) (by rfl) | exact vcell_of0 (Cells.le (by assumption) (by assumption)) (by rfl)) (by decide) ?_
  first | refine AtT.lenS rfl trivial Try.underlying22 rfl (by first | assumption | exact Sl.le (by assumption) (by assumption)) (by decide) ?_ | refine AtT.lenR rfl trivial Try.underlying22 rfl (by decide) ?_
  refine AtT.move rfl trivial rfl (by decide) ?_
  refine AtT.done ?_
  refine At.nrm ?_
  refine At.lp (ι := Nat × Option Addr × Nat) (KS := fun g => [(0, .pointer (some p)), (3, .pointer (some ⟨b3, 0, none⟩)), (4, .pointer (some ⟨b4, 0, none⟩)), (5, .slice g.2.1 (devs x (L.pl.take g.1) (L.ed.take g.1)).length g.2.2), (13, .slice a L.pl.length c), (14, iv L.pl.length), (15, iv g.1)])
    (OS := fun _ => [.blk b3 (LC [iv x.den, iv x.start, iv x.step] 27), .blk b4 (LC [iv 0, iv 0] 31)])
    (VS := fun g V' => Le V V' ∧ g.1 ≤ L.pl.length ∧ SlI V' (.slice g.2.1 (devs x (L.pl.take g.1) (L.ed.take g.1)).length g.2.2) (devs x (L.pl.take g.1) (L.ed.take g.1))) (μ := fun g => L.pl.length - g.1) (0, none, 0) ?_ ?_ ?_ ?_
  · exact ⟨rfl, rfl, rfl, rfl, rfl, rfl, rfl, trivial⟩
  · repeat (first | exact Pt.nil | refine Pt.cons (by repeat (first | exact Pick.here | apply Pick.there)) ?_)
  · exact ⟨Le.refl _, Nat.zero_le _, Sl.nil _ _ _⟩
  · rintro ⟨k, ao, co⟩ V' ks' O' ⟨hVV, hkl, hso⟩ hk hO hl
    dsimp only at hso hkl hk hO
    subst hk hO
    have h1' := h1.le hVV
    have h2' := h2.le hVV
    have h3' := h3.le hVV
    have hdl : (devs x (L.pl.take k) (L.ed.take k)).length = 2 * k := by
      rw [devs_len _ _ _ (by simp; omega)]; simp; omega
    refine At.nrm ?_
    refine At.text (.q 0 .done) (by kernel_rfl) ?_
    refine AtT.lss rfl trivial rfl rfl (by decide) ?_
    refine AtT.done ?_
    refine At.nrm ?_
    refine At.condP rfl (fun hb => ?_) (fun hb => ?_)
    · refine At.nrm ?_
      refine At.text (.q 0 (.q 1 (.q 2 (.q 3 (.q 4 .done))))) (by kernel_rfl) ?_
      refine AtT.move rfl trivial rfl (by decide) ?_
      refine AtT.idx rfl trivial Try.underlying22 tk2 rfl (by first | assumption | exact Sl.le (by assumption) (by assumption)) rfl (by omega) (by omega) (by decide) ?_
      intro p18 e18 he18 hc18
      first | refine AtT.loadO rfl trivial rfl tk2 (by repeat (first | exact Pick.here | apply Pick.there)) (by rfl) (by decide) ?_ | refine AtT.load rfl trivial rfl tk2 (by first | exact vcell_of (by assumption) (by rfl) | exact vcell_of0 (by assumption) (by rfl) | exact vcell_of (Cells.le (by assumption) (by assumption)) (by rfl) | exact vcell_of0 (Cells.le (by assumption) (by assumption)) (by rfl)) (by decide) ?_
      refine AtT.assign rfl trivial rfl (by decide) ?_
      refine AtT.assign rfl trivial rfl (by decide) ?_
      refine AtT.done ?_
      refine At.nrm ?_
      have hp19 : L.pl[k]? = some e18 := by simpa using he18
      have hat := at0 e18 (List.mem_of_getElem? hp19)
      obtain ⟨r, hr⟩ : ∃ r, L.ed[k]? = some r := ⟨L.ed[k]'(by omega), List.getElem?_eq_getElem (by omega)⟩
      have hrr := edge r (List.mem_of_getElem? hr)
      have hbd := dev_bd hx hat hrr
      refine At.text (.q 0 (.q 1 (.q 2 (.q 3 (.q 4 (.q 5 (.q 6 (.q 7 .done)))))))) (by kernel_rfl) ?_
      first | refine AtT.fieldO rfl trivial rfl fo27_1 (by decide) ?_ | with_reducible refine AtT.field2 rfl trivial rfl fo27_1 (by decide) ?_ | refine AtT.field rfl trivial rfl fo27_1 (by decide) ?_
      first | refine AtT.loadO rfl trivial rfl tk2 (by repeat (first | exact Pick.here | apply Pick.there)) (by rfl) (by decide) ?_ | refine AtT.load rfl trivial rfl tk2 (by first | exact vcell_of (by assumption) (by rfl) | exact vcell_of0 (by assumption) (by rfl) | exact vcell_of (Cells.le (by assumption) (by assumption)) (by rfl) | exact vcell_of0 (Cells.le (by assumption) (by assumption)) (by rfl)) (by decide) ?_
      first | refine AtT.fieldO rfl trivial rfl fo27_2 (by decide) ?_ | with_reducible refine AtT.field2 rfl trivial rfl fo27_2 (by decide) ?_ | refine AtT.field rfl trivial rfl fo27_2 (by decide) ?_
      first | refine AtT.loadO rfl trivial rfl tk2 (by repeat (first | exact Pick.here | apply Pick.there)) (by rfl) (by decide) ?_ | refine AtT.load rfl trivial rfl tk2 (by first | exact vcell_of (by assumption) (by rfl) | exact vcell_of0 (by assumption) (by rfl) | exact vcell_of (Cells.le (by assumption) (by assumption)) (by rfl) | exact vcell_of0 (Cells.le (by assumption) (by assumption)) (by rfl)) (by decide) ?_
      refine AtT.move rfl trivial rfl (by decide) ?_
      first | refine AtT.mul rfl trivial rfl rfl (by decide) (by first | assumption | exact Fit.of (by omega) (by omega)) ?_ | refine AtT.mulW rfl trivial rfl rfl (by decide) ?_
      first | refine AtT.add rfl trivial rfl rfl (by decide) (by first | assumption | exact Fit.of (by omega) (by omega)) ?_ | refine AtT.addW rfl trivial rfl rfl (by decide) ?_
      refine AtT.assign rfl trivial rfl (by decide) ?_
      refine AtT.done ?_
      refine At.nrm ?_
      refine At.draw (.q 0 (.q 1 (.q 2 (.q 3 (.q 4 (.q 5 (.q 6 (.q 7 (.q 8 (.q 9 (.q 10 (.q 11 (.q 12 (.q 13 (.q 14 (.q 15 (.q 16 (.q 17 (.q 18 (.q 19 (.q 20 (.q 21 (.q 22 (.q 23 (.q 24 (.q 25 (.q 26 (.q 27 (.q 28 (.q 29 (.q 30 (.q 31 (.q 32 (.q 33 (.n false 34 (.n false 35 (.q 36 .done))))))))))))))))))))))))))))))))))))) ffm (by kernel_rfl) ?_
      refine AtT.move rfl trivial rfl (by decide) ?_
      refine AtT.move rfl trivial rfl (by decide) ?_
      first | refine AtT.lenS rfl trivial Try.underlying22 rfl (by first | assumption | exact Sl.le (by assumption) (by assumption)) (by decide) ?_ | refine AtT.lenR rfl trivial Try.underlying22 rfl (by decide) ?_
      refine AtT.move rfl trivial rfl (by decide) ?_
      first | refine AtT.lenS rfl trivial Try.underlying22 rfl (by first | assumption | exact Sl.le (by assumption) (by assumption)) (by decide) ?_ | refine AtT.lenR rfl trivial Try.underlying22 rfl (by decide) ?_
      first | refine AtT.clipAll rfl trivial Try.underlying22 tk2 rfl (by first | assumption | exact Sl.le (by assumption) (by assumption)) rfl rfl (by decide) ?_ | refine AtT.clip rfl trivial Try.underlying22 tk2 rfl (by first | assumption | exact Sl.le (by assumption) (by assumption)) rfl rfl (by omega) (by omega) (by decide) ?_
      intro a32 hs32
      refine AtT.move rfl trivial rfl (by decide) ?_
      refine AtT.move rfl trivial rfl (by decide) ?_
      refine AtT.nil rfl trivial rfl (by decide) ?_
      first | refine AtT.fieldO rfl trivial rfl fo106_0 (by decide) ?_ | with_reducible refine AtT.field2 rfl trivial rfl fo106_0 (by decide) ?_ | refine AtT.field rfl trivial rfl fo106_0 (by decide) ?_
      first | refine AtT.fieldO rfl trivial rfl fo25_1 (by decide) ?_ | with_reducible refine AtT.field2 rfl trivial rfl fo25_1 (by decide) ?_ | refine AtT.field rfl trivial rfl fo25_1 (by decide) ?_
      first | refine AtT.loadO rfl trivial rfl tk23 (by repeat (first | exact Pick.here | apply Pick.there)) (by rfl) (by decide) ?_ | refine AtT.load rfl trivial rfl tk23 (by first | exact vcell_of (by assumption) (by rfl) | exact vcell_of0 (by assumption) (by rfl) | exact vcell_of (Cells.le (by assumption) (by assumption)) (by rfl) | exact vcell_of0 (Cells.le (by assumption) (by assumption)) (by rfl)) (by decide) ?_
      refine AtT.move rfl trivial rfl (by decide) ?_
      refine AtT.idx rfl trivial Try.underlying23 tk69 rfl (by first | assumption | exact Sl.le (by assumption) (by assumption)) rfl (by omega) (by omega) (by decide) ?_
      intro p40 e40 he40 hc40
      obtain rfl : e40 = r := by have : L.ed[k]? = some e40 := (by simpa using he40); rw [hr] at this; simpa using this.symm
      first | refine AtT.fieldO rfl trivial rfl fo69_0 (by decide) ?_ | with_reducible refine AtT.field2 rfl trivial rfl fo69_0 (by decide) ?_ | refine AtT.field rfl trivial rfl fo69_0 (by decide) ?_
      first | refine AtT.loadO rfl trivial rfl tk2 (by repeat (first | exact Pick.here | apply Pick.there)) (by rfl) (by decide) ?_ | refine AtT.load rfl trivial rfl tk2 (by first | exact vcell_of (by assumption) (by rfl) | exact vcell_of0 (by assumption) (by rfl) | exact vcell_of (Cells.le (by assumption) (by assumption)) (by rfl) | exact vcell_of0 (Cells.le (by assumption) (by assumption)) (by rfl)) (by decide) ?_
      first | refine AtT.fieldO rfl trivial rfl fo27_0 (by decide) ?_ | with_reducible refine AtT.field2 rfl trivial rfl fo27_0 (by decide) ?_ | refine AtT.field rfl trivial rfl fo27_0 (by decide) ?_
      first | refine AtT.loadO rfl trivial rfl tk2 (by repeat (first | exact Pick.here | apply Pick.there)) (by rfl) (by decide) ?_ | refine AtT.load rfl trivial rfl tk2 (by first | exact vcell_of (by assumption) (by rfl) | exact vcell_of0 (by assumption) (by rfl) | exact vcell_of (Cells.le (by assumption) (by assumption)) (by rfl) | exact vcell_of0 (Cells.le (by assumption) (by assumption)) (by rfl)) (by decide) ?_
      first | refine AtT.mul rfl trivial rfl rfl (by decide) (by first | assumption | exact Fit.of (by omega) (by omega)) ?_ | refine AtT.mulW rfl trivial rfl rfl (by decide) ?_
      first | refine AtT.subt rfl trivial rfl rfl (by decide) (by first | assumption | exact Fit.of (by omega) (by omega)) ?_ | refine AtT.subW rfl trivial rfl rfl (by decide) ?_
      refine AtT.move rfl trivial rfl (by decide) ?_
      refine AtT.nil rfl trivial rfl (by decide) ?_
      first | refine AtT.fieldO rfl trivial rfl fo106_0 (by decide) ?_ | with_reducible refine AtT.field2 rfl trivial rfl fo106_0 (by decide) ?_ | refine AtT.field rfl trivial rfl fo106_0 (by decide) ?_
      first | refine AtT.fieldO rfl trivial rfl fo25_1 (by decide) ?_ | with_reducible refine AtT.field2 rfl trivial rfl fo25_1 (by decide) ?_ | refine AtT.field rfl trivial rfl fo25_1 (by decide) ?_
      first | refine AtT.loadO rfl trivial rfl tk23 (by repeat (first | exact Pick.here | apply Pick.there)) (by rfl) (by decide) ?_ | refine AtT.load rfl trivial rfl tk23 (by first | exact vcell_of (by assumption) (by rfl) | exact vcell_of0 (by assumption) (by rfl) | exact vcell_of (Cells.le (by assumption) (by assumption)) (by rfl) | exact vcell_of0 (Cells.le (by assumption) (by assumption)) (by rfl)) (by decide) ?_
      refine AtT.move rfl trivial rfl (by decide) ?_
      refine AtT.idx rfl trivial Try.underlying23 tk69 rfl (by first | assumption | exact Sl.le (by assumption) (by assumption)) rfl (by omega) (by omega) (by decide) ?_
      intro p53 e53 he53 hc53
      obtain rfl : e53 = e40 := by have : L.ed[k]? = some e53 := (by simpa using he53); rw [hr] at this; simpa using this.symm
      first | refine AtT.fieldO rfl trivial rfl fo69_1 (by decide) ?_ | with_reducible refine AtT.field2 rfl trivial rfl fo69_1 (by decide) ?_ | refine AtT.field rfl trivial rfl fo69_1 (by decide) ?_
      first | refine AtT.loadO rfl trivial rfl tk2 (by repeat (first | exact Pick.here | apply Pick.there)) (by rfl) (by decide) ?_ | refine AtT.load rfl trivial rfl tk2 (by first | exact vcell_of (by assumption) (by rfl) | exact vcell_of0 (by assumption) (by rfl) | exact vcell_of (Cells.le (by assumption) (by assumption)) (by rfl) | exact vcell_of0 (Cells.le (by assumption) (by assumption)) (by rfl)) (by decide) ?_
      first | refine AtT.fieldO rfl trivial rfl fo27_0 (by decide) ?_ | with_reducible refine AtT.field2 rfl trivial rfl fo27_0 (by decide) ?_ | refine AtT.field rfl trivial rfl fo27_0 (by decide) ?_
      first | refine AtT.loadO rfl trivial rfl tk2 (by repeat (first | exact Pick.here | apply Pick.there)) (by rfl) (by decide) ?_ | refine AtT.load rfl trivial rfl tk2 (by first | exact vcell_of (by assumption) (by rfl) | exact vcell_of0 (by assumption) (by rfl) | exact vcell_of (Cells.le (by assumption) (by assumption)) (by rfl) | exact vcell_of0 (Cells.le (by assumption) (by assumption)) (by rfl)) (by decide) ?_
      first | refine AtT.mul rfl trivial rfl rfl (by decide) (by first | assumption | exact Fit.of (by omega) (by omega)) ?_ | refine AtT.mulW rfl trivial rfl rfl (by decide) ?_
      refine AtT.move rfl trivial rfl (by decide) ?_
      first | refine AtT.subt rfl trivial rfl rfl (by decide) (by first | assumption | exact Fit.of (by omega) (by omega)) ?_ | refine AtT.subW rfl trivial rfl rfl (by decide) ?_
      refine AtT.bsliceG rfl trivial rfl (bs22_2_0_1 _ _) (by decide) ?_
      intro q61 V61 hV61 hq61
      have g61 : Le V V61 := by first | exact hV61 | exact Le.trans (by assumption) hV61
      refine AtT.appendC rfl trivial Try.underlying22 rw2 rfl (by decide) rfl (by first | assumption | exact Sl.le (by assumption) (by assumption)) rfl rfl (by first | assumption | exact Cells.le (by assumption) (by assumption)) (fun _ => rfl) (by simp) (by unfold maxLen; simp only [List.length_cons, List.length_nil]; omega) (by simp only [List.length_cons, List.length_nil]; omega) (by decide) (enc := ei) (m := [_, _]) ?_
      intro a62 c62 V62 hV62 hs62
      have g62 : Le V V62 := by first | exact hV62 | exact Le.trans (by assumption) hV62
      refine AtT.assign rfl trivial rfl (by decide) ?_
      refine AtT.done ?_
      refine At.nrm ?_
      rw [← devs_snoc x _ _ k _ _ hp19 hr] at hs62
      refine At.text (.q 0 (.q 1 .done)) (by kernel_rfl) ?_
      first | refine AtT.add rfl trivial rfl rfl (by decide) (by first | assumption | exact Fit.of (by omega) (by omega)) ?_ | refine AtT.addW rfl trivial rfl rfl (by decide) ?_
      refine AtT.move rfl trivial rfl (by decide) ?_
      refine AtT.done ?_
      refine At.nrm ?_
      refine At.round (k + 1, a62, c62) ?_ ?_ ?_ ?_
      · show L.pl.length - (k + 1) < L.pl.length - k; omega
      · exact ⟨g62, by dsimp only; omega, hs62⟩
      · refine ⟨rfl, rfl, rfl, ?_, rfl, rfl, rfl, trivial⟩
        dsimp only; rw [devs_snoc x _ _ k _ _ hp19 hr]; rfl
      · repeat (first | exact Pt.nil | refine Pt.cons (by repeat (first | exact Pick.here | apply Pick.there)) ?_)
    · have hkk : k = L.pl.length := by omega
      subst hkk
      have hmb := minL_bd hx hL
      have etk : L.ed.take L.pl.length = L.ed := by rw [← el, List.take_length]
      unfold coreOf
      unfold coreN at hmb ⊢
      obtain ⟨d, ds, hds⟩ : ∃ d ds, devs x L.pl L.ed = d :: ds := by
        cases h : devs x L.pl L.ed with
        | nil => have := devs_len x L.pl L.ed el; rw [h] at this; simp at this; omega
        | cons d ds => exact ⟨d, ds, rfl⟩
      have hso' : SlI V' (.slice ao (devs x (List.take L.pl.length L.pl) (List.take L.pl.length L.ed)).length co) (d :: ds) := by
        rw [← hds]; rw [etk, List.take_length] at hso ⊢; exact hso
      rw [hds] at hmb ⊢
      replace hmb : -200000000000000 ≤ bestOf ltI d ds ∧ bestOf ltI d ds ≤ 200000000000000 := hmb
      refine At.nrm ?_
      refine At.draw (.q 0 (.q 2 (.q 3 (.n false 1 (.n false 4 (.n true 5 .done)))))) ffm (by kernel_rfl) ?_
      refine AtT.move rfl trivial rfl (by decide) ?_
      first | refine AtT.fieldO rfl trivial rfl fo27_0 (by decide) ?_ | with_reducible refine AtT.field2 rfl trivial rfl fo27_0 (by decide) ?_ | refine AtT.field rfl trivial rfl fo27_0 (by decide) ?_
      first | refine AtT.loadO rfl trivial rfl tk2 (by repeat (first | exact Pick.here | apply Pick.there)) (by rfl) (by decide) ?_ | refine AtT.load rfl trivial rfl tk2 (by first | exact vcell_of (by assumption) (by rfl) | exact vcell_of0 (by assumption) (by rfl) | exact vcell_of (Cells.le (by assumption) (by assumption)) (by rfl) | exact vcell_of0 (Cells.le (by assumption) (by assumption)) (by rfl)) (by decide) ?_
      refine AtT.callP rfl trivial rfl ok77 (by decide) (best_i 78 [] ltI _ _ d ds hso' ok78 (fun a b _ _ => lt_f a b _)) ?_
      rintro _ rfl
      refine AtT.callP rfl trivial rfl ok76 (by decide) (by_f _ _ _ (by omega) (by omega) d0 (by omega)) ?_
      rintro _ rfl
      refine AtT.storeA rfl trivial rfl rfl tk31 rfl rfl (by rfl) (by repeat (first | exact Upd.here | apply Upd.there)) ?_
      refine AtT.done ?_
      refine At.nrm ?_
      refine At.ret1 rfl (.agg rfl tk31 (by repeat (first | exact Pick.here | apply Pick.there)) rfl) rfl

theorem minL_two (a b : Int) : minL [a, b] = min a b := by
  unfold minL bestOf ltI
  simp only [List.foldl_cons, List.foldl_nil, decide_eq_true_eq]
  by_cases h : b < a
  · rw [if_pos h]; omega
  · rw [if_neg h]; omega
theorem minL_snoc (l : List Int) (a b : Int) (h : 0 < l.length) : minL (l ++ [a, b]) = if min a b < minL l then min a b else minL l := by
  cases l with
  | nil => simp at h
  | cons d ds => exact bestOf_two _ a b ds d rfl

theorem rcoreOf_f (L : Lg) (x : Ln) (V : View) (v : Value) (hv : LogV V v L) (hL : LgOk L) (hx : LnB x) : Fnc Try.prog 50 [v, lnv x] V fun v _ => v = rtv (coreOf L x) := by
  obtain ⟨a, c, a', c', rfl, h2, h3⟩ := hv
  obtain ⟨n2, n8, el, at0, edge, inc⟩ := id hL
  obtain ⟨d0, d1, s0, s1, p0, p1⟩ := id hx
  have hmb := minL_bd hx hL
  refine fn_of Try.func50 rfl Try.ntmps50 (Nat.le_of_ble_eq_true rfl) ?_
  intro w0 hw0
  refine At.nrm ?_
  refine At.text (.n false 0 (.n false 1 (.n false 2 .done))) (by kernel_rfl) ?_
  refine AtT.box rfl trivial rfl rfl (by decide) ?_
  intro b2
  refine AtT.box rfl trivial rfl rfl (by decide) ?_
  intro b3
  refine AtT.alloc rfl trivial z31 rfl (by decide) ?_
  intro b4
  refine AtT.done ?_
  refine At.nrm ?_
  refine At.text (.q 0 .done) (by kernel_rfl) ?_
  refine AtT.assign rfl trivial rfl (by decide) ?_
  refine AtT.done ?_
  refine At.nrm ?_
  refine At.text (.q 0 .done) (by kernel_rfl) ?_
  refine AtT.assign rfl trivial rfl (by decide) ?_
  refine AtT.done ?_
  refine At.nrm ?_
  refine At.lp (ι := Nat) (KS := fun k => [(2, .pointer (some ⟨b2, 0, none⟩)), (3, .pointer (some ⟨b3, 0, none⟩)), (4, .pointer (some ⟨b4, 0, none⟩)), (5, iv (minL (devs x (L.pl.take k) (L.ed.take k)))), (6, iv k)])
    (OS := fun _ => [.blk b2 (LC [.slice a L.pl.length c, .slice a' L.ed.length c'] 25), .blk b3 (LC [iv x.den, iv x.start, iv x.step] 27), .blk b4 (LC [iv 0, iv 0] 31)])
    (VS := fun k V' => V' = V ∧ k ≤ L.pl.length) (μ := fun k => L.pl.length - k) 0 ?_ ?_ ?_ ?_
  · exact ⟨rfl, rfl, rfl, rfl, rfl, trivial⟩
  · repeat (first | exact Pt.nil | refine Pt.cons (by repeat (first | exact Pick.here | apply Pick.there)) ?_)
  · exact ⟨rfl, Nat.zero_le _⟩
  · rintro k V' ks' O' ⟨rfl, hkl⟩ hk hO hl
    subst hk hO
    refine At.nrm ?_
    refine At.text (.q 0 (.q 1 (.q 2 (.q 3 (.q 4 .done))))) (by kernel_rfl) ?_
    refine AtT.move rfl trivial rfl (by decide) ?_
    first | refine AtT.fieldO rfl trivial rfl fo25_0 (by decide) ?_ | with_reducible refine AtT.field2 rfl trivial rfl fo25_0 (by decide) ?_ | refine AtT.field rfl trivial rfl fo25_0 (by decide) ?_
    first | refine AtT.loadO rfl trivial rfl tk22 (by repeat (first | exact Pick.here | apply Pick.there)) (by rfl) (by decide) ?_ | refine AtT.load rfl trivial rfl tk22 (by first | exact vcell_of (by assumption) (by rfl) | exact vcell_of0 (by assumption) (by rfl) | exact vcell_of (Cells.le (by assumption) (by assumption)) (by rfl) | exact vcell_of0 (Cells.le (by assumption) (by assumption)) (by rfl)) (by decide) ?_
    first | refine AtT.lenS rfl trivial Try.underlying22 rfl (by first | assumption | exact Sl.le (by assumption) (by assumption)) (by decide) ?_ | refine AtT.lenR rfl trivial Try.underlying22 rfl (by decide) ?_
    refine AtT.lss rfl trivial rfl rfl (by decide) ?_
    refine AtT.done ?_
    refine At.nrm ?_
    refine At.condP rfl (fun hb => ?_) (fun hb => ?_)
    · obtain ⟨y, hy⟩ : ∃ r, L.pl[k]? = some r := ⟨L.pl[k]'(by omega), List.getElem?_eq_getElem (by omega)⟩
      obtain ⟨r, hr⟩ : ∃ r, L.ed[k]? = some r := ⟨L.ed[k]'(by omega), List.getElem?_eq_getElem (by omega)⟩
      have hat := at0 y (List.mem_of_getElem? hy)
      have hrr := edge r (List.mem_of_getElem? hr)
      have hbd := dev_bd hx hat hrr
      have hsn := devs_snoc x _ _ k _ _ hy hr
      have hdl : (devs x (L.pl.take k) (L.ed.take k)).length = 2 * k := by
        rw [devs_len _ _ _ (by simp; omega)]; simp; omega
      refine At.nrm ?_
      refine At.draw (.q 0 (.q 1 (.q 2 (.q 3 (.q 4 (.q 5 (.q 6 (.q 7 (.q 8 (.q 9 (.q 10 (.q 11 .done)))))))))))) ffm (by kernel_rfl) ?_
      first | refine AtT.fieldO rfl trivial rfl fo27_1 (by decide) ?_ | with_reducible refine AtT.field2 rfl trivial rfl fo27_1 (by decide) ?_ | refine AtT.field rfl trivial rfl fo27_1 (by decide) ?_
      first | refine AtT.loadO rfl trivial rfl tk2 (by repeat (first | exact Pick.here | apply Pick.there)) (by rfl) (by decide) ?_ | refine AtT.load rfl trivial rfl tk2 (by first | exact vcell_of (by assumption) (by rfl) | exact vcell_of0 (by assumption) (by rfl) | exact vcell_of (Cells.le (by assumption) (by assumption)) (by rfl) | exact vcell_of0 (Cells.le (by assumption) (by assumption)) (by rfl)) (by decide) ?_
      first | refine AtT.fieldO rfl trivial rfl fo27_2 (by decide) ?_ | with_reducible refine AtT.field2 rfl trivial rfl fo27_2 (by decide) ?_ | refine AtT.field rfl trivial rfl fo27_2 (by decide) ?_
      first | refine AtT.loadO rfl trivial rfl tk2 (by repeat (first | exact Pick.here | apply Pick.there)) (by rfl) (by decide) ?_ | refine AtT.load rfl trivial rfl tk2 (by first | exact vcell_of (by assumption) (by rfl) | exact vcell_of0 (by assumption) (by rfl) | exact vcell_of (Cells.le (by assumption) (by assumption)) (by rfl) | exact vcell_of0 (Cells.le (by assumption) (by assumption)) (by rfl)) (by decide) ?_
      first | refine AtT.fieldO rfl trivial rfl fo25_0 (by decide) ?_ | with_reducible refine AtT.field2 rfl trivial rfl fo25_0 (by decide) ?_ | refine AtT.field rfl trivial rfl fo25_0 (by decide) ?_
      first | refine AtT.loadO rfl trivial rfl tk22 (by repeat (first | exact Pick.here | apply Pick.there)) (by rfl) (by decide) ?_ | refine AtT.load rfl trivial rfl tk22 (by first | exact vcell_of (by assumption) (by rfl) | exact vcell_of0 (by assumption) (by rfl) | exact vcell_of (Cells.le (by assumption) (by assumption)) (by rfl) | exact vcell_of0 (Cells.le (by assumption) (by assumption)) (by rfl)) (by decide) ?_
      refine AtT.move rfl trivial rfl (by decide) ?_
      refine AtT.idx rfl trivial Try.underlying22 tk2 rfl (by first | assumption | exact Sl.le (by assumption) (by assumption)) rfl (by omega) (by omega) (by decide) ?_
      intro p23 e23 he23 hc23
      obtain rfl : e23 = y := by have : L.pl[k]? = some e23 := (by simpa using he23); rw [hy] at this; simpa using this.symm
      first | refine AtT.loadO rfl trivial rfl tk2 (by repeat (first | exact Pick.here | apply Pick.there)) (by rfl) (by decide) ?_ | refine AtT.load rfl trivial rfl tk2 (by first | exact vcell_of (by assumption) (by rfl) | exact vcell_of0 (by assumption) (by rfl) | exact vcell_of (Cells.le (by assumption) (by assumption)) (by rfl) | exact vcell_of0 (Cells.le (by assumption) (by assumption)) (by rfl)) (by decide) ?_
      first | refine AtT.mul rfl trivial rfl rfl (by decide) (by first | assumption | exact Fit.of (by omega) (by omega)) ?_ | refine AtT.mulW rfl trivial rfl rfl (by decide) ?_
      first | refine AtT.add rfl trivial rfl rfl (by decide) (by first | assumption | exact Fit.of (by omega) (by omega)) ?_ | refine AtT.addW rfl trivial rfl rfl (by decide) ?_
      refine AtT.assign rfl trivial rfl (by decide) ?_
      refine AtT.done ?_
      refine At.nrm ?_
      refine At.draw (.q 0 (.q 1 (.q 2 (.q 3 (.q 4 (.q 5 (.q 6 (.q 7 (.q 8 (.q 9 (.q 10 (.q 11 (.q 12 (.q 13 (.q 14 (.q 15 (.q 16 (.q 17 (.q 18 (.q 19 (.q 20 (.q 21 (.q 22 (.q 23 .done)))))))))))))))))))))))) ffm (by kernel_rfl) ?_
      refine AtT.move rfl trivial rfl (by decide) ?_
      first | refine AtT.fieldO rfl trivial rfl fo25_1 (by decide) ?_ | with_reducible refine AtT.field2 rfl trivial rfl fo25_1 (by decide) ?_ | refine AtT.field rfl trivial rfl fo25_1 (by decide) ?_
      first | refine AtT.loadO rfl trivial rfl tk23 (by repeat (first | exact Pick.here | apply Pick.there)) (by rfl) (by decide) ?_ | refine AtT.load rfl trivial rfl tk23 (by first | exact vcell_of (by assumption) (by rfl) | exact vcell_of0 (by assumption) (by rfl) | exact vcell_of (Cells.le (by assumption) (by assumption)) (by rfl) | exact vcell_of0 (Cells.le (by assumption) (by assumption)) (by rfl)) (by decide) ?_
      refine AtT.move rfl trivial rfl (by decide) ?_
      refine AtT.idx rfl trivial Try.underlying23 tk69 rfl (by first | assumption | exact Sl.le (by assumption) (by assumption)) rfl (by omega) (by omega) (by decide) ?_
      intro p31 e31 he31 hc31
      obtain rfl : e31 = r := by have : L.ed[k]? = some e31 := (by simpa using he31); rw [hr] at this; simpa using this.symm
      first | refine AtT.fieldO rfl trivial rfl fo69_0 (by decide) ?_ | with_reducible refine AtT.field2 rfl trivial rfl fo69_0 (by decide) ?_ | refine AtT.field rfl trivial rfl fo69_0 (by decide) ?_
      first | refine AtT.loadO rfl trivial rfl tk2 (by repeat (first | exact Pick.here | apply Pick.there)) (by rfl) (by decide) ?_ | refine AtT.load rfl trivial rfl tk2 (by first | exact vcell_of (by assumption) (by rfl) | exact vcell_of0 (by assumption) (by rfl) | exact vcell_of (Cells.le (by assumption) (by assumption)) (by rfl) | exact vcell_of0 (Cells.le (by assumption) (by assumption)) (by rfl)) (by decide) ?_
      first | refine AtT.fieldO rfl trivial rfl fo27_0 (by decide) ?_ | with_reducible refine AtT.field2 rfl trivial rfl fo27_0 (by decide) ?_ | refine AtT.field rfl trivial rfl fo27_0 (by decide) ?_
      first | refine AtT.loadO rfl trivial rfl tk2 (by repeat (first | exact Pick.here | apply Pick.there)) (by rfl) (by decide) ?_ | refine AtT.load rfl trivial rfl tk2 (by first | exact vcell_of (by assumption) (by rfl) | exact vcell_of0 (by assumption) (by rfl) | exact vcell_of (Cells.le (by assumption) (by assumption)) (by rfl) | exact vcell_of0 (Cells.le (by assumption) (by assumption)) (by rfl)) (by decide) ?_
      first | refine AtT.mul rfl trivial rfl rfl (by decide) (by first | assumption | exact Fit.of (by omega) (by omega)) ?_ | refine AtT.mulW rfl trivial rfl rfl (by decide) ?_
      first | refine AtT.subt rfl trivial rfl rfl (by decide) (by first | assumption | exact Fit.of (by omega) (by omega)) ?_ | refine AtT.subW rfl trivial rfl rfl (by decide) ?_
      first | refine AtT.fieldO rfl trivial rfl fo25_1 (by decide) ?_ | with_reducible refine AtT.field2 rfl trivial rfl fo25_1 (by decide) ?_ | refine AtT.field rfl trivial rfl fo25_1 (by decide) ?_
      first | refine AtT.loadO rfl trivial rfl tk23 (by repeat (first | exact Pick.here | apply Pick.there)) (by rfl) (by decide) ?_ | refine AtT.load rfl trivial rfl tk23 (by first | exact vcell_of (by assumption) (by rfl) | exact vcell_of0 (by assumption) (by rfl) | exact vcell_of (Cells.le (by assumption) (by assumption)) (by rfl) | exact vcell_of0 (Cells.le (by assumption) (by assumption)) (by rfl)) (by decide) ?_
      refine AtT.move rfl trivial rfl (by decide) ?_
      refine AtT.idx rfl trivial Try.underlying23 tk69 rfl (by first | assumption | exact Sl.le (by assumption) (by assumption)) rfl (by omega) (by omega) (by decide) ?_
      intro p41 e41 he41 hc41
      obtain rfl : e41 = e31 := by have : L.ed[k]? = some e41 := (by simpa using he41); rw [hr] at this; simpa using this.symm
      first | refine AtT.fieldO rfl trivial rfl fo69_1 (by decide) ?_ | with_reducible refine AtT.field2 rfl trivial rfl fo69_1 (by decide) ?_ | refine AtT.field rfl trivial rfl fo69_1 (by decide) ?_
      first | refine AtT.loadO rfl trivial rfl tk2 (by repeat (first | exact Pick.here | apply Pick.there)) (by rfl) (by decide) ?_ | refine AtT.load rfl trivial rfl tk2 (by first | exact vcell_of (by assumption) (by rfl) | exact vcell_of0 (by assumption) (by rfl) | exact vcell_of (Cells.le (by assumption) (by assumption)) (by rfl) | exact vcell_of0 (Cells.le (by assumption) (by assumption)) (by rfl)) (by decide) ?_
      first | refine AtT.fieldO rfl trivial rfl fo27_0 (by decide) ?_ | with_reducible refine AtT.field2 rfl trivial rfl fo27_0 (by decide) ?_ | refine AtT.field rfl trivial rfl fo27_0 (by decide) ?_
      first | refine AtT.loadO rfl trivial rfl tk2 (by repeat (first | exact Pick.here | apply Pick.there)) (by rfl) (by decide) ?_ | refine AtT.load rfl trivial rfl tk2 (by first | exact vcell_of (by assumption) (by rfl) | exact vcell_of0 (by assumption) (by rfl) | exact vcell_of (Cells.le (by assumption) (by assumption)) (by rfl) | exact vcell_of0 (Cells.le (by assumption) (by assumption)) (by rfl)) (by decide) ?_
      first | refine AtT.mul rfl trivial rfl rfl (by decide) (by first | assumption | exact Fit.of (by omega) (by omega)) ?_ | refine AtT.mulW rfl trivial rfl rfl (by decide) ?_
      refine AtT.move rfl trivial rfl (by decide) ?_
      first | refine AtT.subt rfl trivial rfl rfl (by decide) (by first | assumption | exact Fit.of (by omega) (by omega)) ?_ | refine AtT.subW rfl trivial rfl rfl (by decide) ?_
      refine AtT.min2 rfl trivial rfl rfl (by decide) ?_
      refine AtT.assign rfl trivial rfl (by decide) ?_
      refine AtT.done ?_
      refine At.nrm ?_
      refine At.text (.q 0 (.q 1 (.q 2 (.q 3 (.q 4 (.q 5 (.q 6 .done))))))) (by kernel_rfl) ?_
      refine AtT.move rfl trivial rfl (by decide) ?_
      refine AtT.eqI rfl trivial rfl rfl (by decide) ?_
      refine AtT.move rfl trivial rfl (by decide) ?_
      all_goals (first | refine AtT.litT (d := 52) rfl ?_ | refine AtT.litF (d := 52) rfl ?_ | refine AtT.litU (d := 52) rfl ?_ | refine AtT.pcase (d := 52) rfl (fun hg52 => ?_) (fun hg52 => ?_) | refine AtT.bcase (d := 52) rfl (fun hg52 => ?_) (fun hg52 => ?_))
      all_goals (first | refine AtT.pass rfl rfl rfl rfl rfl rfl (by decide) ?_ | refine AtT.passU rfl rfl rfl rfl rfl rfl (by decide) ?_ | ((refine AtT.move rfl ⟨_, _, rfl, rfl, rfl⟩ rfl (by decide) ?_)))
      all_goals (first | refine AtT.pass rfl rfl rfl rfl rfl rfl (by decide) ?_ | refine AtT.passU rfl rfl rfl rfl rfl rfl (by decide) ?_ | ((refine AtT.move rfl ⟨_, _, rfl, rfl, rfl⟩ rfl (by decide) ?_)))
      all_goals (first | refine AtT.pass rfl rfl rfl rfl rfl rfl (by decide) ?_ | refine AtT.passU rfl rfl rfl rfl rfl rfl (by decide) ?_ | ((refine AtT.lss rfl ⟨_, _, rfl, rfl, rfl⟩ rfl rfl (by decide) ?_)))
      all_goals (refine AtT.pick rfl trivial rfl rfl rfl (by decide) ?_)
      all_goals refine AtT.done ?_
      all_goals (refine At.nrm ?_)
      · have hk0 : k = 0 := by omega
        subst hk0
        refine At.condT rfl rfl ?_
        refine At.nrm ?_
        refine At.text (.q 0 (.q 1 .done)) (by kernel_rfl) ?_
        refine AtT.move rfl trivial rfl (by decide) ?_
        refine AtT.assign rfl trivial rfl (by decide) ?_
        refine AtT.done ?_
        refine At.nrm ?_
        refine At.text (.q 0 (.q 1 (.q 2 .done))) (by kernel_rfl) ?_
        refine AtT.move rfl trivial rfl (by decide) ?_
        first | refine AtT.add rfl trivial rfl rfl (by decide) (by first | assumption | exact Fit.of (by omega) (by omega)) ?_ | refine AtT.addW rfl trivial rfl rfl (by decide) ?_
        refine AtT.assign rfl trivial rfl (by decide) ?_
        refine AtT.done ?_
        refine At.nrm ?_
        refine At.round 1 ?_ ?_ ?_ ?_
        · show L.pl.length - 1 < L.pl.length - 0; omega
        · exact ⟨rfl, by omega⟩
        · refine ⟨rfl, rfl, rfl, ?_, rfl, trivial⟩
          rw [hsn]; simp only [List.take_zero, devs, List.nil_append]; rw [minL_two]; rfl
        · repeat (first | exact Pt.nil | refine Pt.cons (by repeat (first | exact Pick.here | apply Pick.there)) ?_)
      · have hms := minL_snoc (devs x (L.pl.take k) (L.ed.take k)) (x.start + x.step * e23 - e41.lo * x.den) (e41.hi * x.den - (x.start + x.step * e23)) (by omega)
        rw [← hsn] at hms
        refine At.condP rfl (fun hlt => ?_) (fun hlt => ?_)
        · rw [if_pos hlt] at hms
          refine At.nrm ?_
          refine At.text (.q 0 (.q 1 .done)) (by kernel_rfl) ?_
          refine AtT.move rfl trivial rfl (by decide) ?_
          refine AtT.assign rfl trivial rfl (by decide) ?_
          refine AtT.done ?_
          refine At.nrm ?_
          refine At.text (.q 0 (.q 1 (.q 2 .done))) (by kernel_rfl) ?_
          refine AtT.move rfl trivial rfl (by decide) ?_
          first | refine AtT.add rfl trivial rfl rfl (by decide) (by first | assumption | exact Fit.of (by omega) (by omega)) ?_ | refine AtT.addW rfl trivial rfl rfl (by decide) ?_
          refine AtT.assign rfl trivial rfl (by decide) ?_
          refine AtT.done ?_
          refine At.nrm ?_
          refine At.round (k + 1) ?_ ?_ ?_ ?_
          · show L.pl.length - (k + 1) < L.pl.length - k; omega
          · exact ⟨rfl, by omega⟩
          · refine ⟨rfl, rfl, rfl, ?_, rfl, trivial⟩
            rw [hms]; rfl
          · repeat (first | exact Pt.nil | refine Pt.cons (by repeat (first | exact Pick.here | apply Pick.there)) ?_)
        · rw [if_neg hlt] at hms
          refine At.nrm ?_
          refine At.text (.q 0 (.q 1 (.q 2 .done))) (by kernel_rfl) ?_
          refine AtT.move rfl trivial rfl (by decide) ?_
          first | refine AtT.add rfl trivial rfl rfl (by decide) (by first | assumption | exact Fit.of (by omega) (by omega)) ?_ | refine AtT.addW rfl trivial rfl rfl (by decide) ?_
          refine AtT.assign rfl trivial rfl (by decide) ?_
          refine AtT.done ?_
          refine At.nrm ?_
          refine At.round (k + 1) ?_ ?_ ?_ ?_
          · show L.pl.length - (k + 1) < L.pl.length - k; omega
          · exact ⟨rfl, by omega⟩
          · refine ⟨rfl, rfl, rfl, ?_, rfl, trivial⟩
            rw [hms]; rfl
          · repeat (first | exact Pt.nil | refine Pt.cons (by repeat (first | exact Pick.here | apply Pick.there)) ?_)
    · have hkk : k = L.pl.length := by omega
      subst hkk
      have etk : L.ed.take L.pl.length = L.ed := by rw [← el, List.take_length]
      rw [etk, List.take_length]
      unfold coreOf
      unfold coreN at hmb ⊢
      refine At.nrm ?_
      refine At.text (.q 0 (.q 1 (.q 2 (.n false 3 (.n true 4 .done))))) (by kernel_rfl) ?_
      refine AtT.move rfl trivial rfl (by decide) ?_
      first | refine AtT.fieldO rfl trivial rfl fo27_0 (by decide) ?_ | with_reducible refine AtT.field2 rfl trivial rfl fo27_0 (by decide) ?_ | refine AtT.field rfl trivial rfl fo27_0 (by decide) ?_
      first | refine AtT.loadO rfl trivial rfl tk2 (by repeat (first | exact Pick.here | apply Pick.there)) (by rfl) (by decide) ?_ | refine AtT.load rfl trivial rfl tk2 (by first | exact vcell_of (by assumption) (by rfl) | exact vcell_of0 (by assumption) (by rfl) | exact vcell_of (Cells.le (by assumption) (by assumption)) (by rfl) | exact vcell_of0 (Cells.le (by assumption) (by assumption)) (by rfl)) (by decide) ?_
      refine AtT.callP rfl trivial rfl ok51 (by decide) (by_r _ _ _ (by omega) (by omega) d0 (by omega)) ?_
      rintro _ rfl
      refine AtT.storeA rfl trivial rfl rfl tk31 rfl rfl (by rfl) (by repeat (first | exact Upd.here | apply Upd.there)) ?_
      refine AtT.done ?_
      refine At.nrm ?_
      refine At.ret1 rfl (.agg rfl tk31 (by repeat (first | exact Pick.here | apply Pick.there)) rfl) rfl

end Go.Proofs.Ytnionkopmncopaa
set_option linter.unusedVariables false
namespace Go.Proofs.Ytnionkopmncopaa
open Go.Lw Go.Pl Go.RowKit

def coreR (L : Lg) (x : Ln) : Rt × Int := if logE L ≠ 0 then (⟨0, 0⟩, logE L) else if lineE x ≠ 0 then (⟨0, 0⟩, lineE x) else (coreOf L x, 0)

theorem core_p (L : Lg) (x : Ln) (V : View) (v : Value) (hv : LogV V v L) : Fnc Try.prog 20 [v, lnv x] V fun r _ => r = .tuple #[rtv (coreR L x).1, iv (coreR L x).2] := by
  have hv' := hv
  obtain ⟨a, c, a', c', rfl, h2, h3⟩ := hv
  refine fn_of Try.func20 rfl Try.ntmps20 (Nat.le_of_ble_eq_true rfl) ?_
  intro w0 hw0
  refine At.nrm ?_
  refine At.text (.n false 0 (.n false 1 (.n false 2 (.q 3 .done)))) (by kernel_rfl) ?_
  refine AtT.box rfl trivial rfl rfl (by decide) ?_
  intro b2
  refine AtT.box rfl trivial rfl rfl (by decide) ?_
  intro b3
  refine AtT.alloc rfl trivial z31 rfl (by decide) ?_
  intro b4
  refine AtT.assign rfl trivial rfl (by decide) ?_
  refine AtT.done ?_
  refine At.nrm ?_
  refine At.text (.q 0 (.n false 1 (.q 2 (.q 3 (.q 4 (.q 5 (.q 6 .done))))))) (by kernel_rfl) ?_
  first | refine AtT.loadOA rfl trivial rfl tk25 (by repeat (first | exact Pick.here | apply Pick.there)) (by rfl) (by decide) ?_ | refine AtT.loadA rfl trivial rfl tk25 (by first | assumption | exact Cells.le (by assumption) (by assumption)) (by rfl) (by decide) ?_ | refine AtT.loadOP rfl trivial rfl tk25 (by repeat (first | exact Pick.here | apply Pick.there)) (by rfl) (by rfl) (by decide) ?_
  all_goals (refine AtT.call rfl trivial rfl ok59 (by decide) (open_f L _ _ hv') ?_)
  all_goals (rintro _ V1 hV1 (⟨he, rfl⟩ | ⟨he, p, rfl, hp⟩))
  all_goals (refine AtT.move rfl trivial rfl (by decide) ?_)
  all_goals (refine AtT.extract rfl trivial rfl (by rfl) (by decide) ?_)
  all_goals (refine AtT.extract rfl trivial rfl (by rfl) (by decide) ?_)
  all_goals (refine AtT.assign rfl trivial rfl (by decide) ?_)
  all_goals (refine AtT.assign rfl trivial rfl (by decide) ?_)
  all_goals refine AtT.done ?_
  all_goals (refine At.nrm ?_)
  · refine At.text (.q 0 (.q 1 .done)) (by kernel_rfl) ?_
    refine AtT.move rfl trivial rfl (by decide) ?_
    refine AtT.neI rfl trivial rfl rfl (by decide) ?_
    refine AtT.done ?_
    refine At.nrm ?_
    refine At.condP rfl (fun hb => ?_) (fun hb => absurd he hb)
    refine At.nrm ?_
    refine At.text (.q 0 (.q 1 (.n true 2 (.q 3 .done)))) (by kernel_rfl) ?_
    refine AtT.build rfl trivial rfl (bd31) (by decide) ?_
    refine AtT.move rfl trivial rfl (by decide) ?_
    refine AtT.storeA rfl trivial rfl rfl tk31 rfl rfl (by rfl) (by repeat (first | exact Upd.here | apply Upd.there)) ?_
    refine AtT.assign rfl trivial rfl (by decide) ?_
    refine AtT.done ?_
    refine At.nrm ?_
    refine At.ret2 rfl (.agg rfl tk31 (by repeat (first | exact Pick.here | apply Pick.there)) rfl) (.tmp rfl) ?_
    rw [coreR, if_pos he]
  · refine At.text (.q 0 (.q 1 .done)) (by kernel_rfl) ?_
    refine AtT.move rfl trivial rfl (by decide) ?_
    refine AtT.neI rfl trivial rfl rfl (by decide) ?_
    refine AtT.done ?_
    refine At.nrm ?_
    refine At.condF rfl rfl ?_
    refine At.nrm ?_
    refine At.text (.q 0 (.n false 1 (.q 2 .done))) (by kernel_rfl) ?_
    first | refine AtT.loadOA rfl trivial rfl tk27 (by repeat (first | exact Pick.here | apply Pick.there)) (by rfl) (by decide) ?_ | refine AtT.loadA rfl trivial rfl tk27 (by first | assumption | exact Cells.le (by assumption) (by assumption)) (by rfl) (by decide) ?_ | refine AtT.loadOP rfl trivial rfl tk27 (by repeat (first | exact Pick.here | apply Pick.there)) (by rfl) (by rfl) (by decide) ?_
    refine AtT.callP rfl trivial rfl ok24 (by decide) (checkLine_f x _) ?_
    rintro _ rfl
    refine AtT.assign rfl trivial rfl (by decide) ?_
    refine AtT.done ?_
    refine At.nrm ?_
    refine At.text (.q 0 (.q 1 .done)) (by kernel_rfl) ?_
    refine AtT.move rfl trivial rfl (by decide) ?_
    refine AtT.neI rfl trivial rfl rfl (by decide) ?_
    refine AtT.done ?_
    refine At.nrm ?_
    refine At.condP rfl (fun hb => ?_) (fun hb => ?_)
    · refine At.nrm ?_
      refine At.text (.q 0 (.q 1 (.n true 2 (.q 3 .done)))) (by kernel_rfl) ?_
      refine AtT.build rfl trivial rfl (bd31) (by decide) ?_
      refine AtT.move rfl trivial rfl (by decide) ?_
      refine AtT.storeA rfl trivial rfl rfl tk31 rfl rfl (by rfl) (by repeat (first | exact Upd.here | apply Upd.there)) ?_
      refine AtT.assign rfl trivial rfl (by decide) ?_
      refine AtT.done ?_
      refine At.nrm ?_
      refine At.ret2 rfl (.agg rfl tk31 (by repeat (first | exact Pick.here | apply Pick.there)) rfl) (.tmp rfl) ?_
      rw [coreR, if_neg (by simp [he]), if_pos hb]
    · have hb' : lineE x = 0 := by simpa using hb
      refine At.nrm ?_
      refine At.text (.q 0 (.q 1 (.n false 2 (.n true 3 (.q 4 .done))))) (by kernel_rfl) ?_
      refine AtT.move rfl trivial rfl (by decide) ?_
      first | refine AtT.loadOA rfl trivial rfl tk27 (by repeat (first | exact Pick.here | apply Pick.there)) (by rfl) (by decide) ?_ | refine AtT.loadA rfl trivial rfl tk27 (by first | assumption | exact Cells.le (by assumption) (by assumption)) (by rfl) (by decide) ?_ | refine AtT.loadOP rfl trivial rfl tk27 (by repeat (first | exact Pick.here | apply Pick.there)) (by rfl) (by rfl) (by decide) ?_
      refine AtT.callP rfl trivial rfl ok60 (by decide) (core_f L x _ p hp (logE_ok he) (lineE_ok hb')) ?_
      rintro _ rfl
      refine AtT.storeA rfl trivial rfl rfl tk31 rfl rfl (by rfl) (by repeat (first | exact Upd.here | apply Upd.there)) ?_
      refine AtT.assign rfl trivial rfl (by decide) ?_
      refine AtT.done ?_
      refine At.nrm ?_
      refine At.ret2 rfl (.agg rfl tk31 (by repeat (first | exact Pick.here | apply Pick.there)) rfl) (.tmp rfl) ?_
      rw [coreR, if_neg (by simp [he]), if_neg (by simp [hb'])]

theorem core_q (L : Lg) (x : Ln) (V : View) (v : Value) (hv : LogV V v L) : Fnc Try.prog 21 [v, lnv x] V fun r _ => r = .tuple #[rtv (coreR L x).1, iv (coreR L x).2] := by
  have hv' := hv
  obtain ⟨a, c, a', c', rfl, h2, h3⟩ := hv
  refine fn_of Try.func21 rfl Try.ntmps21 (Nat.le_of_ble_eq_true rfl) ?_
  intro w0 hw0
  refine At.nrm ?_
  refine At.text (.n false 0 (.n false 1 (.n false 2 (.q 3 .done)))) (by kernel_rfl) ?_
  refine AtT.box rfl trivial rfl rfl (by decide) ?_
  intro b2
  refine AtT.box rfl trivial rfl rfl (by decide) ?_
  intro b3
  refine AtT.alloc rfl trivial z31 rfl (by decide) ?_
  intro b4
  refine AtT.assign rfl trivial rfl (by decide) ?_
  refine AtT.done ?_
  refine At.nrm ?_
  refine At.text (.q 0 (.n false 1 (.q 2 .done))) (by kernel_rfl) ?_
  first | refine AtT.loadOA rfl trivial rfl tk25 (by repeat (first | exact Pick.here | apply Pick.there)) (by rfl) (by decide) ?_ | refine AtT.loadA rfl trivial rfl tk25 (by first | assumption | exact Cells.le (by assumption) (by assumption)) (by rfl) (by decide) ?_ | refine AtT.loadOP rfl trivial rfl tk25 (by repeat (first | exact Pick.here | apply Pick.there)) (by rfl) (by rfl) (by decide) ?_
  refine AtT.callP rfl trivial rfl ok23 (by decide) (rcheckLog_f L _ _ hv') ?_
  rintro _ rfl
  refine AtT.neI rfl trivial rfl rfl (by decide) ?_
  refine AtT.done ?_
  refine At.nrm ?_
  refine At.condP rfl (fun hb => ?_) (fun hb => ?_)
  · refine At.nrm ?_
    refine At.text (.q 0 (.q 1 (.n false 2 (.n true 3 (.q 4 .done))))) (by kernel_rfl) ?_
    refine AtT.build rfl trivial rfl (bd31) (by decide) ?_
    first | refine AtT.loadOA rfl trivial rfl tk25 (by repeat (first | exact Pick.here | apply Pick.there)) (by rfl) (by decide) ?_ | refine AtT.loadA rfl trivial rfl tk25 (by first | assumption | exact Cells.le (by assumption) (by assumption)) (by rfl) (by decide) ?_ | refine AtT.loadOP rfl trivial rfl tk25 (by repeat (first | exact Pick.here | apply Pick.there)) (by rfl) (by rfl) (by decide) ?_
    refine AtT.callP rfl trivial rfl ok23 (by decide) (rcheckLog_f L _ _ hv') ?_
    rintro _ rfl
    refine AtT.storeA rfl trivial rfl rfl tk31 rfl rfl (by rfl) (by repeat (first | exact Upd.here | apply Upd.there)) ?_
    refine AtT.assign rfl trivial rfl (by decide) ?_
    refine AtT.done ?_
    refine At.nrm ?_
    refine At.ret2 rfl (.agg rfl tk31 (by repeat (first | exact Pick.here | apply Pick.there)) rfl) (.tmp rfl) ?_
    rw [coreR, if_pos hb]
  · have he : logE L = 0 := by simpa using hb
    refine At.nrm ?_
    refine At.text (.q 0 (.n false 1 (.q 2 .done))) (by kernel_rfl) ?_
    first | refine AtT.loadOA rfl trivial rfl tk27 (by repeat (first | exact Pick.here | apply Pick.there)) (by rfl) (by decide) ?_ | refine AtT.loadA rfl trivial rfl tk27 (by first | assumption | exact Cells.le (by assumption) (by assumption)) (by rfl) (by decide) ?_ | refine AtT.loadOP rfl trivial rfl tk27 (by repeat (first | exact Pick.here | apply Pick.there)) (by rfl) (by rfl) (by decide) ?_
    refine AtT.callP rfl trivial rfl ok25 (by decide) (rcheckLine_f x _) ?_
    rintro _ rfl
    refine AtT.neI rfl trivial rfl rfl (by decide) ?_
    refine AtT.done ?_
    refine At.nrm ?_
    refine At.condP rfl (fun hb => ?_) (fun hb => ?_)
    · refine At.nrm ?_
      refine At.text (.q 0 (.q 1 (.n false 2 (.n true 3 (.q 4 .done))))) (by kernel_rfl) ?_
      refine AtT.build rfl trivial rfl (bd31) (by decide) ?_
      first | refine AtT.loadOA rfl trivial rfl tk27 (by repeat (first | exact Pick.here | apply Pick.there)) (by rfl) (by decide) ?_ | refine AtT.loadA rfl trivial rfl tk27 (by first | assumption | exact Cells.le (by assumption) (by assumption)) (by rfl) (by decide) ?_ | refine AtT.loadOP rfl trivial rfl tk27 (by repeat (first | exact Pick.here | apply Pick.there)) (by rfl) (by rfl) (by decide) ?_
      refine AtT.callP rfl trivial rfl ok25 (by decide) (rcheckLine_f x _) ?_
      rintro _ rfl
      refine AtT.storeA rfl trivial rfl rfl tk31 rfl rfl (by rfl) (by repeat (first | exact Upd.here | apply Upd.there)) ?_
      refine AtT.assign rfl trivial rfl (by decide) ?_
      refine AtT.done ?_
      refine At.nrm ?_
      refine At.ret2 rfl (.agg rfl tk31 (by repeat (first | exact Pick.here | apply Pick.there)) rfl) (.tmp rfl) ?_
      rw [coreR, if_neg (by simp [he]), if_pos hb]
    · have hb' : lineE x = 0 := by simpa using hb
      refine At.nrm ?_
      refine At.text (.q 0 (.q 1 (.n false 2 (.n true 3 (.q 4 .done))))) (by kernel_rfl) ?_
      first | refine AtT.loadOA rfl trivial rfl tk25 (by repeat (first | exact Pick.here | apply Pick.there)) (by rfl) (by decide) ?_ | refine AtT.loadA rfl trivial rfl tk25 (by first | assumption | exact Cells.le (by assumption) (by assumption)) (by rfl) (by decide) ?_ | refine AtT.loadOP rfl trivial rfl tk25 (by repeat (first | exact Pick.here | apply Pick.there)) (by rfl) (by rfl) (by decide) ?_
      first | refine AtT.loadOA rfl trivial rfl tk27 (by repeat (first | exact Pick.here | apply Pick.there)) (by rfl) (by decide) ?_ | refine AtT.loadA rfl trivial rfl tk27 (by first | assumption | exact Cells.le (by assumption) (by assumption)) (by rfl) (by decide) ?_ | refine AtT.loadOP rfl trivial rfl tk27 (by repeat (first | exact Pick.here | apply Pick.there)) (by rfl) (by rfl) (by decide) ?_
      refine AtT.callP rfl trivial rfl ok50 (by decide) (rcoreOf_f L x _ _ hv' (logE_ok he) (lineE_ok hb')) ?_
      rintro _ rfl
      refine AtT.storeA rfl trivial rfl rfl tk31 rfl rfl (by rfl) (by repeat (first | exact Upd.here | apply Upd.there)) ?_
      refine AtT.assign rfl trivial rfl (by decide) ?_
      refine AtT.done ?_
      refine At.nrm ?_
      refine At.ret2 rfl (.agg rfl tk31 (by repeat (first | exact Pick.here | apply Pick.there)) rfl) (.tmp rfl) ?_
      rw [coreR, if_neg (by simp [he]), if_neg (by simp [hb'])]
end Go.Proofs.Ytnionkopmncopaa
namespace Go.Pl

def plP (L : Lg) (i : Int) : Int := L.pl.getD i.toNat 0
def edP (L : Lg) (i : Int) : Rg := L.ed.getD i.toNat ⟨0, 0⟩
/-- A proof as described. -/
structure PfOk (L : Lg) (p : Pf) : Prop where
  f0 : 0 ≤ p.f
  fm : p.f ≤ p.m
  ml : p.m ≤ p.l
  ln : p.l < L.pl.length
  one : p.f = p.l → p.s = 0
  many : p.f ≠ p.l → p.f < p.m ∧ p.m < p.l ∧ (p.s = 1 ∨ p.s = 2)
def shapedB (L : Lg) (p : Pf) : Bool :=
  decide (0 ≤ p.f ∧ p.f ≤ p.m ∧ p.m ≤ p.l ∧ p.l < L.pl.length) && (if p.f = p.l then decide (p.s = 0) else decide (p.f < p.m ∧ p.m < p.l ∧ (p.s = 1 ∨ p.s = 2)))
theorem shapedB_iff (L : Lg) (p : Pf) : shapedB L p = true ↔ PfOk L p := by
  unfold shapedB
  by_cases c : p.f = p.l
  · simp only [c, if_true, Bool.and_eq_true, decide_eq_true_eq]
    constructor
    · rintro ⟨⟨a, b, d, e⟩, s⟩
      exact ⟨by omega, by omega, d, e, fun _ => s, fun h => absurd c h⟩
    · intro h
      obtain ⟨h1, h2, h3, h4, h5, h6⟩ := h
      exact ⟨⟨by omega, by omega, h3, h4⟩, h5 c⟩
  · simp only [c, if_false, Bool.and_eq_true, decide_eq_true_eq]
    constructor
    · rintro ⟨⟨a, b, d, e⟩, s⟩
      exact ⟨a, b, d, e, fun h => absurd h c, fun _ => s⟩
    · intro h
      obtain ⟨h1, h2, h3, h4, h5, h6⟩ := h
      exact ⟨⟨h1, h2, h3, h4⟩, h6 c⟩

def lftP (L : Lg) (p : Pf) : Int := plP L p.m - plP L p.f
def rgtP (L : Lg) (p : Pf) : Int := plP L p.l - plP L p.m
def provN (L : Lg) (p : Pf) : Int :=
  if p.f = p.l then (edP L p.m).hi - (edP L p.m).lo
  else if p.s = 1 then ((edP L p.m).hi - (edP L p.f).lo) * rgtP L p + ((edP L p.m).hi - (edP L p.l).lo) * lftP L p
  else ((edP L p.f).hi - (edP L p.m).lo) * rgtP L p + ((edP L p.l).hi - (edP L p.m).lo) * lftP L p
def provD (L : Lg) (p : Pf) : Int := if p.f = p.l then 2 else 2 * (lftP L p + rgtP L p)
/-- What a proof proves. -/
def provV (L : Lg) (p : Pf) : Rt := rat (provN L p) (provD L p)

theorem plP_some {L : Lg} {i : Int} {x : Int} (h : L.pl[i.toNat]? = some x) : x = plP L i := by simp [plP, List.getD, h]
theorem edP_some {L : Lg} {i : Int} {x : Rg} (h : L.ed[i.toNat]? = some x) : x = edP L i := by simp [edP, List.getD, h]

theorem LgOk.lt {L : Lg} (h : LgOk L) : ∀ (j i : Nat), i < j → j < L.pl.length → L.pl.getD i 0 < L.pl.getD j 0
  | 0, i, h1, _ => by omega
  | j + 1, i, h1, h2 => by
    have := h.inc j h2
    by_cases c : i = j
    · subst c; exact this
    · exact Int.lt_trans (h.lt j i (by omega) (by omega)) this
theorem LgOk.plB {L : Lg} (h : LgOk L) {i : Int} (h0 : 0 ≤ i) (h1 : i < L.pl.length) : 0 ≤ plP L i ∧ plP L i ≤ 100 := by
  have hi : i.toNat < L.pl.length := by omega
  have : plP L i = L.pl[i.toNat] := by simp [plP, List.getD, List.getElem?_eq_getElem hi]
  rw [this]; exact h.at0 _ (List.getElem_mem hi)
theorem LgOk.edB {L : Lg} (h : LgOk L) {i : Int} (h0 : 0 ≤ i) (h1 : i < L.pl.length) : -1000 ≤ (edP L i).lo ∧ (edP L i).lo ≤ (edP L i).hi ∧ (edP L i).hi ≤ 1000 := by
  have hi : i.toNat < L.ed.length := by have := h.el; omega
  have : edP L i = L.ed[i.toNat] := by simp [edP, List.getD, List.getElem?_eq_getElem hi]
  rw [this]; exact h.edge _ (List.getElem_mem hi)
theorem LgOk.plL {L : Lg} (h : LgOk L) {i j : Int} (h0 : 0 ≤ i) (hij : i < j) (h1 : j < L.pl.length) : plP L i < plP L j := h.lt j.toNat i.toNat (by omega) (by omega)

theorem prov_bd {L : Lg} (h : LgOk L) {p : Pf} (hp : PfOk L p) :
    (p.f ≠ p.l → 0 < lftP L p ∧ lftP L p ≤ 100 ∧ 0 < rgtP L p ∧ rgtP L p ≤ 100) ∧ 0 < provD L p ∧ provD L p ≤ 400 ∧ -400000 ≤ provN L p ∧ provN L p ≤ 400000 := by
  obtain ⟨f0, fm, ml, ln, one, many⟩ := hp
  have e1 := h.edB f0 (by omega)
  have e2 := h.edB (i := p.m) (by omega) (by omega)
  have e3 := h.edB (i := p.l) (by omega) (by omega)
  have a1 := h.plB f0 (by omega)
  have a2 := h.plB (i := p.m) (by omega) (by omega)
  have a3 := h.plB (i := p.l) (by omega) (by omega)
  by_cases c : p.f = p.l
  · refine ⟨fun h => absurd c h, ?_⟩
    simp only [provD, provN, c, if_true]
    omega
  · obtain ⟨c1, c2, c3⟩ := many c
    have l1 := h.plL f0 c1 (by omega)
    have l2 := h.plL (i := p.m) (by omega) c2 ln
    have b1 : 0 < lftP L p ∧ lftP L p ≤ 100 := by unfold lftP; omega
    have b2 : 0 < rgtP L p ∧ rgtP L p ≤ 100 := by unfold rgtP; omega
    refine ⟨fun _ => ⟨b1.1, b1.2, b2.1, b2.2⟩, ?_⟩
    have m1 := mul_bd (a := (edP L p.m).hi - (edP L p.f).lo) (b := rgtP L p) (A := 2000) (B := 100) (by decide) (by decide) (by omega) (by omega) (by omega) (by omega)
    have m2 := mul_bd (a := (edP L p.m).hi - (edP L p.l).lo) (b := lftP L p) (A := 2000) (B := 100) (by decide) (by decide) (by omega) (by omega) (by omega) (by omega)
    have m3 := mul_bd (a := (edP L p.f).hi - (edP L p.m).lo) (b := rgtP L p) (A := 2000) (B := 100) (by decide) (by decide) (by omega) (by omega) (by omega) (by omega)
    have m4 := mul_bd (a := (edP L p.l).hi - (edP L p.m).lo) (b := lftP L p) (A := 2000) (B := 100) (by decide) (by decide) (by omega) (by omega) (by omega) (by omega)
    simp only [provD, provN, c, if_false]
    refine ⟨by omega, by omega, ?_⟩
    by_cases s1 : p.s = 1 <;> simp only [s1, if_true, if_false] <;> omega

/-- A fraction in least terms is bounded. -/
theorem rat_bd (n d : Int) (hd : 0 < d) : (rat n d).num.natAbs ≤ n.natAbs ∧ 0 < (rat n d).den ∧ (rat n d).den ≤ d := by
  have hg : 0 < Int.gcd n d := Int.gcd_pos_of_ne_zero_right n (by omega)
  refine ⟨tdiv_le _ _, ?_, ?_⟩
  · have h1 : ((Int.gcd n d : Nat) : Int) ∣ d := Int.gcd_dvd_right ..
    obtain ⟨k, hk⟩ := h1
    have hg' : 0 < ((Int.gcd n d : Nat) : Int) := by omega
    have : (rat n d).den = k := by
      show d.tdiv ((Int.gcd n d : Nat) : Int) = k
      generalize ((Int.gcd n d : Nat) : Int) = g at hk hg'
      subst hk
      exact Int.mul_tdiv_cancel_left _ (by omega)
    rw [this]
    rcases Int.lt_trichotomy k 0 with h | h | h
    · have : ((Int.gcd n d : Nat) : Int) * k < 0 := Int.mul_neg_of_pos_of_neg (by omega) h
      omega
    · subst h; omega
    · exact h
  · have := tdiv_le d (Int.gcd n d : Nat)
    have : (rat n d).den.natAbs ≤ d.natAbs := this
    omega
end Go.Pl
set_option linter.unusedVariables false
namespace Go.Proofs.Ytnionkopmncopaa
open Go.Lw Go.Pl Go.RowKit
theorem eqS27 (x1 : Int) (x2 : Int) (x3 : Int) (x4 : Int) (x5 : Int) (x6 : Int) : EqS Try.prog 27 [(.int .i64 x1), (.int .i64 x2), (.int .i64 x3)] [(.int .i64 x4), (.int .i64 x5), (.int .i64 x6)] (decide (x1 = x4 ∧ x2 = x5 ∧ x3 = x6)) := by
  refine ⟨by first | exact Try.eqGuardType27 | kernel_rfl, fun w => ?_⟩
  have u2 := Try.underlying2
  have a2 := Try.isAgg2
  have z2 := Try.sizeOf2
  have hS : Try.prog.underlying 27 = some (.struct (Try.prog.fieldsOf 27)) := by kernel_rfl
  have hp : Try.prog.stoodInHeld 27 = false := by kernel_rfl
  rw [show (10000 : Nat) = 9999 + 1 from rfl, run_equalIn_agg w 9999 27 _ _ hS hp]
  simp only [Program.fieldsOf, Try.underlying27]
  go_simp
  by_cases h0 : x1 = x4 <;> by_cases h1 : x2 = x5 <;> by_cases h2 : x3 = x6 <;> simp [*]
theorem eqS31 (x1 : Int) (x2 : Int) (x3 : Int) (x4 : Int) : EqS Try.prog 31 [(.int .i64 x1), (.int .i64 x2)] [(.int .i64 x3), (.int .i64 x4)] (decide (x1 = x3 ∧ x2 = x4)) := by
  refine ⟨by first | exact Try.eqGuardType31 | kernel_rfl, fun w => ?_⟩
  have u2 := Try.underlying2
  have a2 := Try.isAgg2
  have z2 := Try.sizeOf2
  have hS : Try.prog.underlying 31 = some (.struct (Try.prog.fieldsOf 31)) := by kernel_rfl
  have hp : Try.prog.stoodInHeld 31 = false := by kernel_rfl
  rw [show (10000 : Nat) = 9999 + 1 from rfl, run_equalIn_agg w 9999 31 _ _ hS hp]
  simp only [Program.fieldsOf, Try.underlying31]
  go_simp
  by_cases h0 : x1 = x3 <;> by_cases h1 : x2 = x4 <;> simp [*]
theorem eqS45 (x1 : Int) (x2 : Int) (x3 : Int) (x4 : Int) (x5 : Int) (x6 : Int) (x7 : Int) (x8 : Int) : EqS Try.prog 45 [(.int .i64 x1), (.int .i64 x2), (.int .i64 x3), (.int .i64 x4)] [(.int .i64 x5), (.int .i64 x6), (.int .i64 x7), (.int .i64 x8)] (decide (x1 = x5 ∧ x2 = x6 ∧ x3 = x7 ∧ x4 = x8)) := by
  refine ⟨by first | exact Try.eqGuardType45 | kernel_rfl, fun w => ?_⟩
  have u3 := Try.underlying3
  have a3 := Try.isAgg3
  have z3 := Try.sizeOf3
  have hS : Try.prog.underlying 45 = some (.struct (Try.prog.fieldsOf 45)) := by kernel_rfl
  have hp : Try.prog.stoodInHeld 45 = false := by kernel_rfl
  rw [show (10000 : Nat) = 9999 + 1 from rfl, run_equalIn_agg w 9999 45 _ _ hS hp]
  simp only [Program.fieldsOf, Try.underlying45]
  go_simp
  by_cases h0 : x1 = x5 <;> by_cases h1 : x2 = x6 <;> by_cases h2 : x3 = x7 <;> by_cases h3 : x4 = x8 <;> simp [*]
theorem eqS122 (x1 : Int) (x2 : Int) (x3 : Int) (x4 : Int) (x5 : Int) (x6 : Int) : EqS Try.prog 122 [(.int .i64 x1), (.int .i64 x2), (.int .i64 x3)] [(.int .i64 x4), (.int .i64 x5), (.int .i64 x6)] (decide (x1 = x4 ∧ x2 = x5 ∧ x3 = x6)) := by
  refine ⟨by first | exact Try.eqGuardType122 | kernel_rfl, fun w => ?_⟩
  have u3 := Try.underlying3
  have a3 := Try.isAgg3
  have z3 := Try.sizeOf3
  rw [show (10000 : Nat) = 9999 + 1 from rfl, Op.equalIn]
  simp only [Sem.run_bind, run_underlying Try.underlying122, Result.andThen_ok]
  simp only [Std.Legacy.Range.forIn_eq_forIn_range', Std.Legacy.Range.size, Nat.sub_zero, Nat.add_sub_cancel, Nat.div_one, List.range'_succ, List.range'_zero, List.forIn_cons, List.forIn_nil]
  go_simp
  by_cases h0 : x1 = x4 <;> by_cases h1 : x2 = x5 <;> by_cases h2 : x3 = x6 <;> simp [*]
theorem fl31_1 (x1 : Int) (x2 : Int) (w : World) : (Instr.field 31 (.agg #[(.int .i64 x1), (.int .i64 x2)]) 1).run Try.prog w = .ok (.int .i64 x2) w := by kernel_rfl

theorem key45 : KeyL Try.prog 45 pfv where
  eq a b w := by
    have := (eqS45 a.f a.m a.l a.s b.f b.m b.l b.s).2 w
    have e : decide (a = b) = decide (a.f = b.f ∧ a.m = b.m ∧ a.l = b.l ∧ a.s = b.s) := by
      cases a; cases b; simp
    rw [e]; exact this
  ck e a w := by
    have u3 := Try.underlying3
    have a3 := Try.isAgg3
    have z3 := Try.sizeOf3
    have ci : ∀ (x : Int) (w : World), (Instr.checkKey e 9999 3 (.int .i64 x)).run Try.prog w = .ok () w := fun x w => by
      rw [show (9999 : Nat) = 9998 + 1 from rfl, Instr.checkKey]
      simp [run_underlying u3, Sem.run_bind, Result.andThen_ok, Sem.run_pure]
    rw [show (10000 : Nat) = 9999 + 1 from rfl, Instr.checkKey]
    simp only [Sem.run_bind, run_underlying Try.underlying45, Result.andThen_ok]
    rw [← Array.forIn_toList]
    simp only [List.forIn_cons, List.forIn_nil, Sem.run_bind, Sem.run_pure, Result.andThen_ok]
    generalize (9999 : Nat) = q at ci ⊢
    go_simp
  sb a := by simp [Instr.sameBits]
  now := ⟨_, Try.underlying45, .inl fun a b => rfl⟩
end Go.Proofs.Ytnionkopmncopaa
set_option linter.unusedVariables false
namespace Go.Proofs.Ytnionkopmncopaa
open Go.Lw Go.Pl Go.RowKit

theorem shaped_f (L : Lg) (p : Pf) (V : View) (v : Value) (hv : LogV V v L) : Fnc Try.prog 68 [v, pfv p] V fun r _ => r = .bool (shapedB L p) := by
  obtain ⟨a, c, a', c', rfl, h2, h3⟩ := hv
  have hlen := h2.lenLe
  unfold shapedB
  refine fn_of Try.func68 rfl Try.ntmps68 (Nat.le_of_ble_eq_true rfl) ?_
  intro w0 hw0
  refine At.nrm ?_
  refine At.text (.n false 0 (.n false 1 (.q 2 .done))) (by kernel_rfl) ?_
  refine AtT.box rfl trivial rfl rfl (by decide) ?_
  intro b2
  refine AtT.box rfl trivial rfl rfl (by decide) ?_
  intro b3
  refine AtT.assign rfl trivial rfl (by decide) ?_
  refine AtT.done ?_
  refine At.nrm ?_
  refine At.cut [(2, .pointer (some ⟨b2, 0, none⟩)), (3, .pointer (some ⟨b3, 0, none⟩)), (29, .bool (decide ¬ (0 ≤ p.f ∧ p.f ≤ p.m ∧ p.m ≤ p.l ∧ p.l < L.pl.length)))] [.blk b2 (LC [.slice a L.pl.length c, .slice a' L.ed.length c'] 25), .blk b3 (LC [iv p.f, iv p.m, iv p.l, iv p.s] 45)] (fun V' => V = V') ?_ ?_
  · refine At.text (.q 0 (.q 1 (.q 2 (.q 3 (.q 4 (.q 5 (.q 6 (.q 7 (.q 8 (.q 9 (.q 10 (.q 11 (.q 12 (.q 13 (.q 14 (.q 15 (.q 16 (.q 17 (.q 18 (.q 19 (.q 20 (.q 21 (.q 22 (.q 23 (.q 24 .done))))))))))))))))))))))))) (by kernel_rfl) ?_
    first | refine AtT.fieldO rfl trivial rfl fo45_0 (by decide) ?_ | with_reducible refine AtT.field2 rfl trivial rfl fo45_0 (by decide) ?_ | refine AtT.field rfl trivial rfl fo45_0 (by decide) ?_
    first | refine AtT.loadO rfl trivial rfl tk3 (by repeat (first | exact Pick.here | apply Pick.there)) (by rfl) (by decide) ?_ | refine AtT.load rfl trivial rfl tk3 (by first | exact vcell_of (by assumption) (by rfl) | exact vcell_of0 (by assumption) (by rfl) | exact vcell_of (Cells.le (by assumption) (by assumption)) (by rfl) | exact vcell_of0 (Cells.le (by assumption) (by assumption)) (by rfl)) (by decide) ?_
    refine AtT.lss rfl trivial rfl rfl (by decide) ?_
    refine AtT.move rfl trivial rfl (by decide) ?_
    all_goals (first | refine AtT.litT (d := 8) rfl ?_ | refine AtT.litF (d := 8) rfl ?_ | refine AtT.litU (d := 8) rfl ?_ | refine AtT.pcase (d := 8) rfl (fun hg8 => ?_) (fun hg8 => ?_) | refine AtT.bcase (d := 8) rfl (fun hg8 => ?_) (fun hg8 => ?_))
    all_goals (first | refine AtT.pass rfl rfl rfl rfl rfl rfl (by decide) ?_ | refine AtT.passU rfl rfl rfl rfl rfl rfl (by decide) ?_ | ((first | refine AtT.fieldO rfl ⟨_, _, rfl, rfl, rfl⟩ rfl fo45_0 (by decide) ?_ | with_reducible refine AtT.field2 rfl ⟨_, _, rfl, rfl, rfl⟩ rfl fo45_0 (by decide) ?_ | refine AtT.field rfl ⟨_, _, rfl, rfl, rfl⟩ rfl fo45_0 (by decide) ?_)))
    all_goals (first | refine AtT.pass rfl rfl rfl rfl rfl rfl (by decide) ?_ | refine AtT.passU rfl rfl rfl rfl rfl rfl (by decide) ?_ | ((first | refine AtT.loadO rfl ⟨_, _, rfl, rfl, rfl⟩ rfl tk3 (by repeat (first | exact Pick.here | apply Pick.there)) (by rfl) (by decide) ?_ | refine AtT.load rfl ⟨_, _, rfl, rfl, rfl⟩ rfl tk3 (by first | exact vcell_of (by assumption) (by rfl) | exact vcell_of0 (by assumption) (by rfl) | exact vcell_of (Cells.le (by assumption) (by assumption)) (by rfl) | exact vcell_of0 (Cells.le (by assumption) (by assumption)) (by rfl)) (by decide) ?_)))
    all_goals (first | refine AtT.pass rfl rfl rfl rfl rfl rfl (by decide) ?_ | refine AtT.passU rfl rfl rfl rfl rfl rfl (by decide) ?_ | ((first | refine AtT.fieldO rfl ⟨_, _, rfl, rfl, rfl⟩ rfl fo45_1 (by decide) ?_ | with_reducible refine AtT.field2 rfl ⟨_, _, rfl, rfl, rfl⟩ rfl fo45_1 (by decide) ?_ | refine AtT.field rfl ⟨_, _, rfl, rfl, rfl⟩ rfl fo45_1 (by decide) ?_)))
    all_goals (first | refine AtT.pass rfl rfl rfl rfl rfl rfl (by decide) ?_ | refine AtT.passU rfl rfl rfl rfl rfl rfl (by decide) ?_ | ((first | refine AtT.loadO rfl ⟨_, _, rfl, rfl, rfl⟩ rfl tk3 (by repeat (first | exact Pick.here | apply Pick.there)) (by rfl) (by decide) ?_ | refine AtT.load rfl ⟨_, _, rfl, rfl, rfl⟩ rfl tk3 (by first | exact vcell_of (by assumption) (by rfl) | exact vcell_of0 (by assumption) (by rfl) | exact vcell_of (Cells.le (by assumption) (by assumption)) (by rfl) | exact vcell_of0 (Cells.le (by assumption) (by assumption)) (by rfl)) (by decide) ?_)))
    all_goals (first | refine AtT.pass rfl rfl rfl rfl rfl rfl (by decide) ?_ | refine AtT.passU rfl rfl rfl rfl rfl rfl (by decide) ?_ | ((refine AtT.gtr rfl ⟨_, _, rfl, rfl, rfl⟩ rfl rfl (by decide) ?_)))
    all_goals (refine AtT.pick rfl trivial rfl rfl rfl (by decide) ?_)
    all_goals (refine AtT.move rfl trivial rfl (by decide) ?_)
    all_goals (first | refine AtT.litT (d := 15) rfl ?_ | refine AtT.litF (d := 15) rfl ?_ | refine AtT.litU (d := 15) rfl ?_ | refine AtT.pcase (d := 15) rfl (fun hg15 => ?_) (fun hg15 => ?_) | refine AtT.bcase (d := 15) rfl (fun hg15 => ?_) (fun hg15 => ?_))
    all_goals (first | refine AtT.pass rfl rfl rfl rfl rfl rfl (by decide) ?_ | refine AtT.passU rfl rfl rfl rfl rfl rfl (by decide) ?_ | ((first | refine AtT.fieldO rfl ⟨_, _, rfl, rfl, rfl⟩ rfl fo45_1 (by decide) ?_ | with_reducible refine AtT.field2 rfl ⟨_, _, rfl, rfl, rfl⟩ rfl fo45_1 (by decide) ?_ | refine AtT.field rfl ⟨_, _, rfl, rfl, rfl⟩ rfl fo45_1 (by decide) ?_)))
    all_goals (first | refine AtT.pass rfl rfl rfl rfl rfl rfl (by decide) ?_ | refine AtT.passU rfl rfl rfl rfl rfl rfl (by decide) ?_ | ((first | refine AtT.loadO rfl ⟨_, _, rfl, rfl, rfl⟩ rfl tk3 (by repeat (first | exact Pick.here | apply Pick.there)) (by rfl) (by decide) ?_ | refine AtT.load rfl ⟨_, _, rfl, rfl, rfl⟩ rfl tk3 (by first | exact vcell_of (by assumption) (by rfl) | exact vcell_of0 (by assumption) (by rfl) | exact vcell_of (Cells.le (by assumption) (by assumption)) (by rfl) | exact vcell_of0 (Cells.le (by assumption) (by assumption)) (by rfl)) (by decide) ?_)))
    all_goals (first | refine AtT.pass rfl rfl rfl rfl rfl rfl (by decide) ?_ | refine AtT.passU rfl rfl rfl rfl rfl rfl (by decide) ?_ | ((first | refine AtT.fieldO rfl ⟨_, _, rfl, rfl, rfl⟩ rfl fo45_2 (by decide) ?_ | with_reducible refine AtT.field2 rfl ⟨_, _, rfl, rfl, rfl⟩ rfl fo45_2 (by decide) ?_ | refine AtT.field rfl ⟨_, _, rfl, rfl, rfl⟩ rfl fo45_2 (by decide) ?_)))
    all_goals (first | refine AtT.pass rfl rfl rfl rfl rfl rfl (by decide) ?_ | refine AtT.passU rfl rfl rfl rfl rfl rfl (by decide) ?_ | ((first | refine AtT.loadO rfl ⟨_, _, rfl, rfl, rfl⟩ rfl tk3 (by repeat (first | exact Pick.here | apply Pick.there)) (by rfl) (by decide) ?_ | refine AtT.load rfl ⟨_, _, rfl, rfl, rfl⟩ rfl tk3 (by first | exact vcell_of (by assumption) (by rfl) | exact vcell_of0 (by assumption) (by rfl) | exact vcell_of (Cells.le (by assumption) (by assumption)) (by rfl) | exact vcell_of0 (Cells.le (by assumption) (by assumption)) (by rfl)) (by decide) ?_)))
    all_goals (first | refine AtT.pass rfl rfl rfl rfl rfl rfl (by decide) ?_ | refine AtT.passU rfl rfl rfl rfl rfl rfl (by decide) ?_ | ((refine AtT.gtr rfl ⟨_, _, rfl, rfl, rfl⟩ rfl rfl (by decide) ?_)))
    all_goals (refine AtT.pick rfl trivial rfl rfl rfl (by decide) ?_)
    all_goals (refine AtT.move rfl trivial rfl (by decide) ?_)
    all_goals (first | refine AtT.litT (d := 22) rfl ?_ | refine AtT.litF (d := 22) rfl ?_ | refine AtT.litU (d := 22) rfl ?_ | refine AtT.pcase (d := 22) rfl (fun hg22 => ?_) (fun hg22 => ?_) | refine AtT.bcase (d := 22) rfl (fun hg22 => ?_) (fun hg22 => ?_))
    all_goals (first | refine AtT.pass rfl rfl rfl rfl rfl rfl (by decide) ?_ | refine AtT.passU rfl rfl rfl rfl rfl rfl (by decide) ?_ | ((first | refine AtT.fieldO rfl ⟨_, _, rfl, rfl, rfl⟩ rfl fo45_2 (by decide) ?_ | with_reducible refine AtT.field2 rfl ⟨_, _, rfl, rfl, rfl⟩ rfl fo45_2 (by decide) ?_ | refine AtT.field rfl ⟨_, _, rfl, rfl, rfl⟩ rfl fo45_2 (by decide) ?_)))
    all_goals (first | refine AtT.pass rfl rfl rfl rfl rfl rfl (by decide) ?_ | refine AtT.passU rfl rfl rfl rfl rfl rfl (by decide) ?_ | ((first | refine AtT.loadO rfl ⟨_, _, rfl, rfl, rfl⟩ rfl tk3 (by repeat (first | exact Pick.here | apply Pick.there)) (by rfl) (by decide) ?_ | refine AtT.load rfl ⟨_, _, rfl, rfl, rfl⟩ rfl tk3 (by first | exact vcell_of (by assumption) (by rfl) | exact vcell_of0 (by assumption) (by rfl) | exact vcell_of (Cells.le (by assumption) (by assumption)) (by rfl) | exact vcell_of0 (Cells.le (by assumption) (by assumption)) (by rfl)) (by decide) ?_)))
    all_goals (first | refine AtT.pass rfl rfl rfl rfl rfl rfl (by decide) ?_ | refine AtT.passU rfl rfl rfl rfl rfl rfl (by decide) ?_ | ((first | refine AtT.fieldO rfl ⟨_, _, rfl, rfl, rfl⟩ rfl fo25_0 (by decide) ?_ | with_reducible refine AtT.field2 rfl ⟨_, _, rfl, rfl, rfl⟩ rfl fo25_0 (by decide) ?_ | refine AtT.field rfl ⟨_, _, rfl, rfl, rfl⟩ rfl fo25_0 (by decide) ?_)))
    all_goals (first | refine AtT.pass rfl rfl rfl rfl rfl rfl (by decide) ?_ | refine AtT.passU rfl rfl rfl rfl rfl rfl (by decide) ?_ | ((first | refine AtT.loadO rfl ⟨_, _, rfl, rfl, rfl⟩ rfl tk22 (by repeat (first | exact Pick.here | apply Pick.there)) (by rfl) (by decide) ?_ | refine AtT.load rfl ⟨_, _, rfl, rfl, rfl⟩ rfl tk22 (by first | exact vcell_of (by assumption) (by rfl) | exact vcell_of0 (by assumption) (by rfl) | exact vcell_of (Cells.le (by assumption) (by assumption)) (by rfl) | exact vcell_of0 (Cells.le (by assumption) (by assumption)) (by rfl)) (by decide) ?_)))
    all_goals (first | refine AtT.pass rfl rfl rfl rfl rfl rfl (by decide) ?_ | refine AtT.passU rfl rfl rfl rfl rfl rfl (by decide) ?_ | ((first | refine AtT.lenS rfl ⟨_, _, rfl, rfl, rfl⟩ Try.underlying22 rfl (by first | assumption | exact Sl.le (by assumption) (by assumption)) (by decide) ?_ | refine AtT.lenR rfl ⟨_, _, rfl, rfl, rfl⟩ Try.underlying22 rfl (by decide) ?_)))
    all_goals (first | refine AtT.pass rfl rfl rfl rfl rfl rfl (by decide) ?_ | refine AtT.passU rfl rfl rfl rfl rfl rfl (by decide) ?_ | ((refine AtT.geq rfl ⟨_, _, rfl, rfl, rfl⟩ rfl rfl (by decide) ?_)))
    all_goals (refine AtT.pick rfl trivial rfl rfl rfl (by decide) ?_)
    all_goals refine AtT.done ?_
    all_goals (refine At.nrm ?_)
    all_goals (refine At.meet rfl ⟨rfl, rfl, bsome ?_, trivial⟩ ?_)
    all_goals (first | (repeat (first | exact Pt.nil | refine Pt.cons (by repeat (first | exact Pick.here | apply Pick.there)) ?_)); done | skip)
    all_goals (first | (rw [Bool.eq_iff_iff]; simp [*]; done) | (rw [Bool.eq_iff_iff]; simp [*]; omega) | simp [*])
  rintro _ rfl
  refine At.condP rfl (fun hb => ?_) (fun hb => ?_)
  · refine At.nrm ?_
    refine At.text (.q 0 .done) (by kernel_rfl) ?_
    refine AtT.assign rfl trivial rfl (by decide) ?_
    refine AtT.done ?_
    refine At.nrm ?_
    refine At.ret1 rfl (.tmp rfl) ?_
    simp [hb]
  have hb' : 0 ≤ p.f ∧ p.f ≤ p.m ∧ p.m ≤ p.l ∧ p.l < L.pl.length := Decidable.not_not.1 hb
  simp only [hb', and_self, decide_true, Bool.true_and]
  refine At.nrm ?_
  refine At.text (.q 0 (.q 1 (.q 2 (.q 3 (.q 4 .done))))) (by kernel_rfl) ?_
  first | refine AtT.fieldO rfl trivial rfl fo45_0 (by decide) ?_ | with_reducible refine AtT.field2 rfl trivial rfl fo45_0 (by decide) ?_ | refine AtT.field rfl trivial rfl fo45_0 (by decide) ?_
  first | refine AtT.loadO rfl trivial rfl tk3 (by repeat (first | exact Pick.here | apply Pick.there)) (by rfl) (by decide) ?_ | refine AtT.load rfl trivial rfl tk3 (by first | exact vcell_of (by assumption) (by rfl) | exact vcell_of0 (by assumption) (by rfl) | exact vcell_of (Cells.le (by assumption) (by assumption)) (by rfl) | exact vcell_of0 (Cells.le (by assumption) (by assumption)) (by rfl)) (by decide) ?_
  first | refine AtT.fieldO rfl trivial rfl fo45_2 (by decide) ?_ | with_reducible refine AtT.field2 rfl trivial rfl fo45_2 (by decide) ?_ | refine AtT.field rfl trivial rfl fo45_2 (by decide) ?_
  first | refine AtT.loadO rfl trivial rfl tk3 (by repeat (first | exact Pick.here | apply Pick.there)) (by rfl) (by decide) ?_ | refine AtT.load rfl trivial rfl tk3 (by first | exact vcell_of (by assumption) (by rfl) | exact vcell_of0 (by assumption) (by rfl) | exact vcell_of (Cells.le (by assumption) (by assumption)) (by rfl) | exact vcell_of0 (Cells.le (by assumption) (by assumption)) (by rfl)) (by decide) ?_
  refine AtT.eqI rfl trivial rfl rfl (by decide) ?_
  refine AtT.done ?_
  refine At.nrm ?_
  refine At.condP rfl (fun hc => ?_) (fun hc => ?_)
  · refine At.nrm ?_
    refine At.text (.q 0 (.q 1 (.q 2 (.q 3 .done)))) (by kernel_rfl) ?_
    first | refine AtT.fieldO rfl trivial rfl fo45_3 (by decide) ?_ | with_reducible refine AtT.field2 rfl trivial rfl fo45_3 (by decide) ?_ | refine AtT.field rfl trivial rfl fo45_3 (by decide) ?_
    first | refine AtT.loadO rfl trivial rfl tk3 (by repeat (first | exact Pick.here | apply Pick.there)) (by rfl) (by decide) ?_ | refine AtT.load rfl trivial rfl tk3 (by first | exact vcell_of (by assumption) (by rfl) | exact vcell_of0 (by assumption) (by rfl) | exact vcell_of (Cells.le (by assumption) (by assumption)) (by rfl) | exact vcell_of0 (Cells.le (by assumption) (by assumption)) (by rfl)) (by decide) ?_
    refine AtT.eqI rfl trivial rfl rfl (by decide) ?_
    refine AtT.assign rfl trivial rfl (by decide) ?_
    refine AtT.done ?_
    refine At.nrm ?_
    refine At.ret1 rfl (.tmp rfl) ?_
    rw [if_pos hc]
  · rw [if_neg hc]
    refine At.nrm ?_
    refine At.text (.q 0 (.q 1 (.q 2 (.q 3 (.q 4 (.q 5 (.q 6 (.q 7 (.q 8 (.q 9 (.q 10 (.q 11 (.q 12 (.q 13 (.q 14 (.q 15 (.q 16 (.q 17 (.q 18 (.q 19 (.q 20 (.q 21 (.q 22 .done))))))))))))))))))))))) (by kernel_rfl) ?_
    first | refine AtT.fieldO rfl trivial rfl fo45_0 (by decide) ?_ | with_reducible refine AtT.field2 rfl trivial rfl fo45_0 (by decide) ?_ | refine AtT.field rfl trivial rfl fo45_0 (by decide) ?_
    first | refine AtT.loadO rfl trivial rfl tk3 (by repeat (first | exact Pick.here | apply Pick.there)) (by rfl) (by decide) ?_ | refine AtT.load rfl trivial rfl tk3 (by first | exact vcell_of (by assumption) (by rfl) | exact vcell_of0 (by assumption) (by rfl) | exact vcell_of (Cells.le (by assumption) (by assumption)) (by rfl) | exact vcell_of0 (Cells.le (by assumption) (by assumption)) (by rfl)) (by decide) ?_
    first | refine AtT.fieldO rfl trivial rfl fo45_1 (by decide) ?_ | with_reducible refine AtT.field2 rfl trivial rfl fo45_1 (by decide) ?_ | refine AtT.field rfl trivial rfl fo45_1 (by decide) ?_
    first | refine AtT.loadO rfl trivial rfl tk3 (by repeat (first | exact Pick.here | apply Pick.there)) (by rfl) (by decide) ?_ | refine AtT.load rfl trivial rfl tk3 (by first | exact vcell_of (by assumption) (by rfl) | exact vcell_of0 (by assumption) (by rfl) | exact vcell_of (Cells.le (by assumption) (by assumption)) (by rfl) | exact vcell_of0 (Cells.le (by assumption) (by assumption)) (by rfl)) (by decide) ?_
    refine AtT.lss rfl trivial rfl rfl (by decide) ?_
    refine AtT.move rfl trivial rfl (by decide) ?_
    all_goals (first | refine AtT.litT (d := 43) rfl ?_ | refine AtT.litF (d := 43) rfl ?_ | refine AtT.litU (d := 43) rfl ?_ | refine AtT.pcase (d := 43) rfl (fun hg43 => ?_) (fun hg43 => ?_) | refine AtT.bcase (d := 43) rfl (fun hg43 => ?_) (fun hg43 => ?_))
    all_goals (first | refine AtT.pass rfl rfl rfl rfl rfl rfl (by decide) ?_ | refine AtT.passU rfl rfl rfl rfl rfl rfl (by decide) ?_ | ((first | refine AtT.fieldO rfl ⟨_, _, rfl, rfl, rfl⟩ rfl fo45_1 (by decide) ?_ | with_reducible refine AtT.field2 rfl ⟨_, _, rfl, rfl, rfl⟩ rfl fo45_1 (by decide) ?_ | refine AtT.field rfl ⟨_, _, rfl, rfl, rfl⟩ rfl fo45_1 (by decide) ?_)))
    all_goals (first | refine AtT.pass rfl rfl rfl rfl rfl rfl (by decide) ?_ | refine AtT.passU rfl rfl rfl rfl rfl rfl (by decide) ?_ | ((first | refine AtT.loadO rfl ⟨_, _, rfl, rfl, rfl⟩ rfl tk3 (by repeat (first | exact Pick.here | apply Pick.there)) (by rfl) (by decide) ?_ | refine AtT.load rfl ⟨_, _, rfl, rfl, rfl⟩ rfl tk3 (by first | exact vcell_of (by assumption) (by rfl) | exact vcell_of0 (by assumption) (by rfl) | exact vcell_of (Cells.le (by assumption) (by assumption)) (by rfl) | exact vcell_of0 (Cells.le (by assumption) (by assumption)) (by rfl)) (by decide) ?_)))
    all_goals (first | refine AtT.pass rfl rfl rfl rfl rfl rfl (by decide) ?_ | refine AtT.passU rfl rfl rfl rfl rfl rfl (by decide) ?_ | ((first | refine AtT.fieldO rfl ⟨_, _, rfl, rfl, rfl⟩ rfl fo45_2 (by decide) ?_ | with_reducible refine AtT.field2 rfl ⟨_, _, rfl, rfl, rfl⟩ rfl fo45_2 (by decide) ?_ | refine AtT.field rfl ⟨_, _, rfl, rfl, rfl⟩ rfl fo45_2 (by decide) ?_)))
    all_goals (first | refine AtT.pass rfl rfl rfl rfl rfl rfl (by decide) ?_ | refine AtT.passU rfl rfl rfl rfl rfl rfl (by decide) ?_ | ((first | refine AtT.loadO rfl ⟨_, _, rfl, rfl, rfl⟩ rfl tk3 (by repeat (first | exact Pick.here | apply Pick.there)) (by rfl) (by decide) ?_ | refine AtT.load rfl ⟨_, _, rfl, rfl, rfl⟩ rfl tk3 (by first | exact vcell_of (by assumption) (by rfl) | exact vcell_of0 (by assumption) (by rfl) | exact vcell_of (Cells.le (by assumption) (by assumption)) (by rfl) | exact vcell_of0 (Cells.le (by assumption) (by assumption)) (by rfl)) (by decide) ?_)))
    all_goals (first | refine AtT.pass rfl rfl rfl rfl rfl rfl (by decide) ?_ | refine AtT.passU rfl rfl rfl rfl rfl rfl (by decide) ?_ | ((refine AtT.lss rfl ⟨_, _, rfl, rfl, rfl⟩ rfl rfl (by decide) ?_)))
    all_goals (refine AtT.pick rfl trivial rfl rfl rfl (by decide) ?_)
    all_goals (refine AtT.move rfl trivial rfl (by decide) ?_)
    all_goals (first | refine AtT.litT (d := 50) rfl ?_ | refine AtT.litF (d := 50) rfl ?_ | refine AtT.litU (d := 50) rfl ?_ | refine AtT.pcase (d := 50) rfl (fun hg50 => ?_) (fun hg50 => ?_) | refine AtT.bcase (d := 50) rfl (fun hg50 => ?_) (fun hg50 => ?_))
    all_goals (first | refine AtT.pass rfl rfl rfl rfl rfl rfl (by decide) ?_ | refine AtT.passU rfl rfl rfl rfl rfl rfl (by decide) ?_ | ((first | refine AtT.fieldO rfl ⟨_, _, rfl, rfl, rfl⟩ rfl fo45_3 (by decide) ?_ | with_reducible refine AtT.field2 rfl ⟨_, _, rfl, rfl, rfl⟩ rfl fo45_3 (by decide) ?_ | refine AtT.field rfl ⟨_, _, rfl, rfl, rfl⟩ rfl fo45_3 (by decide) ?_)))
    all_goals (first | refine AtT.pass rfl rfl rfl rfl rfl rfl (by decide) ?_ | refine AtT.passU rfl rfl rfl rfl rfl rfl (by decide) ?_ | ((first | refine AtT.loadO rfl ⟨_, _, rfl, rfl, rfl⟩ rfl tk3 (by repeat (first | exact Pick.here | apply Pick.there)) (by rfl) (by decide) ?_ | refine AtT.load rfl ⟨_, _, rfl, rfl, rfl⟩ rfl tk3 (by first | exact vcell_of (by assumption) (by rfl) | exact vcell_of0 (by assumption) (by rfl) | exact vcell_of (Cells.le (by assumption) (by assumption)) (by rfl) | exact vcell_of0 (Cells.le (by assumption) (by assumption)) (by rfl)) (by decide) ?_)))
    all_goals (first | refine AtT.pass rfl rfl rfl rfl rfl rfl (by decide) ?_ | refine AtT.passU rfl rfl rfl rfl rfl rfl (by decide) ?_ | ((refine AtT.eqI rfl ⟨_, _, rfl, rfl, rfl⟩ rfl rfl (by decide) ?_)))
    all_goals (first | refine AtT.pass rfl rfl rfl rfl rfl rfl (by decide) ?_ | refine AtT.passU rfl rfl rfl rfl rfl rfl (by decide) ?_ | ((refine AtT.move rfl ⟨_, _, rfl, rfl, rfl⟩ rfl (by decide) ?_)))
    all_goals (first | refine AtT.litT (d := 54) rfl ?_ | refine AtT.litF (d := 54) rfl ?_ | refine AtT.litU (d := 54) rfl ?_ | refine AtT.pcase (d := 54) rfl (fun hg54 => ?_) (fun hg54 => ?_) | refine AtT.bcase (d := 54) rfl (fun hg54 => ?_) (fun hg54 => ?_))
    all_goals (first | refine AtT.pass rfl rfl rfl rfl rfl rfl (by decide) ?_ | refine AtT.passU rfl rfl rfl rfl rfl rfl (by decide) ?_ | ((first | refine AtT.fieldO rfl ⟨_, _, rfl, rfl, rfl⟩ rfl fo45_3 (by decide) ?_ | with_reducible refine AtT.field2 rfl ⟨_, _, rfl, rfl, rfl⟩ rfl fo45_3 (by decide) ?_ | refine AtT.field rfl ⟨_, _, rfl, rfl, rfl⟩ rfl fo45_3 (by decide) ?_)))
    all_goals (first | refine AtT.pass rfl rfl rfl rfl rfl rfl (by decide) ?_ | refine AtT.passU rfl rfl rfl rfl rfl rfl (by decide) ?_ | ((first | refine AtT.loadO rfl ⟨_, _, rfl, rfl, rfl⟩ rfl tk3 (by repeat (first | exact Pick.here | apply Pick.there)) (by rfl) (by decide) ?_ | refine AtT.load rfl ⟨_, _, rfl, rfl, rfl⟩ rfl tk3 (by first | exact vcell_of (by assumption) (by rfl) | exact vcell_of0 (by assumption) (by rfl) | exact vcell_of (Cells.le (by assumption) (by assumption)) (by rfl) | exact vcell_of0 (Cells.le (by assumption) (by assumption)) (by rfl)) (by decide) ?_)))
    all_goals (first | refine AtT.pass rfl rfl rfl rfl rfl rfl (by decide) ?_ | refine AtT.passU rfl rfl rfl rfl rfl rfl (by decide) ?_ | ((refine AtT.eqI rfl ⟨_, _, rfl, rfl, rfl⟩ rfl rfl (by decide) ?_)))
    all_goals (first | refine AtT.pass rfl rfl rfl rfl rfl rfl (by decide) ?_ | refine AtT.passU rfl rfl rfl rfl rfl rfl (by decide) ?_ | ((refine AtT.pick rfl ⟨_, _, rfl, rfl, rfl⟩ rfl rfl rfl (by decide) ?_)))
    all_goals (refine AtT.pick rfl trivial rfl rfl rfl (by decide) ?_)
    all_goals (refine AtT.assign rfl trivial rfl (by decide) ?_)
    all_goals refine AtT.done ?_
    all_goals (refine At.nrm ?_)
    all_goals (refine At.ret1 rfl (.tmp rfl) ?_)
    all_goals (show Value.bool _ = Value.bool _; congr 1; rw [Bool.eq_iff_iff]; simp [*]; try omega)

theorem between_f (L : Lg) (p : Pf) (x y : Int) (V : View) (v : Value) (hv : LogV V v L) (hL : LgOk L) (hp : PfOk L p) (hx : -1000 ≤ x ∧ x ≤ 1000) (hy : -1000 ≤ y ∧ y ≤ 1000) :
    Fnc Try.prog 86 [v, pfv p, iv x, iv y] V fun r _ => r = iv (x * rgtP L p + y * lftP L p) := by
  obtain ⟨a, c, a', c', rfl, h2, h3⟩ := hv
  obtain ⟨f0, fm, ml, ln, one, many⟩ := hp
  have a1 := hL.plB f0 (by omega)
  have a2 := hL.plB (i := p.m) (by omega) (by omega)
  have a3 := hL.plB (i := p.l) (by omega) (by omega)
  have hr : -100 ≤ rgtP L p ∧ rgtP L p ≤ 100 := by unfold rgtP; omega
  have hl : -100 ≤ lftP L p ∧ lftP L p ≤ 100 := by unfold lftP; omega
  have m1 := mul_bd (a := x) (b := rgtP L p) (A := 1000) (B := 100) (by decide) (by decide) (by omega) (by omega) (by omega) (by omega)
  have m2 := mul_bd (a := y) (b := lftP L p) (A := 1000) (B := 100) (by decide) (by decide) (by omega) (by omega) (by omega) (by omega)
  unfold rgtP at m1
  unfold lftP at m2
  unfold rgtP lftP
  refine fn_of Try.func86 rfl Try.ntmps86 (Nat.le_of_ble_eq_true rfl) ?_
  intro w0 hw0
  refine At.nrm ?_
  refine At.text (.n false 0 (.n false 1 (.q 2 .done))) (by kernel_rfl) ?_
  refine AtT.box rfl trivial rfl rfl (by decide) ?_
  intro b4
  refine AtT.box rfl trivial rfl rfl (by decide) ?_
  intro b5
  refine AtT.assign rfl trivial rfl (by decide) ?_
  refine AtT.done ?_
  refine At.nrm ?_
  refine At.draw (.q 0 (.q 1 (.q 2 (.q 3 (.q 4 (.q 5 (.q 6 (.q 7 (.q 8 (.q 9 (.q 10 (.q 11 (.q 12 (.q 13 (.q 14 (.q 15 (.q 16 (.q 17 (.q 18 (.q 19 (.q 20 .done))))))))))))))))))))) ffm (by kernel_rfl) ?_
  first | refine AtT.fieldO rfl trivial rfl fo25_0 (by decide) ?_ | with_reducible refine AtT.field2 rfl trivial rfl fo25_0 (by decide) ?_ | refine AtT.field rfl trivial rfl fo25_0 (by decide) ?_
  first | refine AtT.loadO rfl trivial rfl tk22 (by repeat (first | exact Pick.here | apply Pick.there)) (by rfl) (by decide) ?_ | refine AtT.load rfl trivial rfl tk22 (by first | exact vcell_of (by assumption) (by rfl) | exact vcell_of0 (by assumption) (by rfl) | exact vcell_of (Cells.le (by assumption) (by assumption)) (by rfl) | exact vcell_of0 (Cells.le (by assumption) (by assumption)) (by rfl)) (by decide) ?_
  first | refine AtT.fieldO rfl trivial rfl fo45_0 (by decide) ?_ | with_reducible refine AtT.field2 rfl trivial rfl fo45_0 (by decide) ?_ | refine AtT.field rfl trivial rfl fo45_0 (by decide) ?_
  first | refine AtT.loadO rfl trivial rfl tk3 (by repeat (first | exact Pick.here | apply Pick.there)) (by rfl) (by decide) ?_ | refine AtT.load rfl trivial rfl tk3 (by first | exact vcell_of (by assumption) (by rfl) | exact vcell_of0 (by assumption) (by rfl) | exact vcell_of (Cells.le (by assumption) (by assumption)) (by rfl) | exact vcell_of0 (Cells.le (by assumption) (by assumption)) (by rfl)) (by decide) ?_
  refine AtT.idx rfl trivial Try.underlying22 tk2 rfl (by first | assumption | exact Sl.le (by assumption) (by assumption)) rfl (by omega) (by omega) (by decide) ?_
  intro p16 e16 he16 hc16
  obtain rfl := plP_some he16
  first | refine AtT.loadO rfl trivial rfl tk2 (by repeat (first | exact Pick.here | apply Pick.there)) (by rfl) (by decide) ?_ | refine AtT.load rfl trivial rfl tk2 (by first | exact vcell_of (by assumption) (by rfl) | exact vcell_of0 (by assumption) (by rfl) | exact vcell_of (Cells.le (by assumption) (by assumption)) (by rfl) | exact vcell_of0 (Cells.le (by assumption) (by assumption)) (by rfl)) (by decide) ?_
  first | refine AtT.fieldO rfl trivial rfl fo25_0 (by decide) ?_ | with_reducible refine AtT.field2 rfl trivial rfl fo25_0 (by decide) ?_ | refine AtT.field rfl trivial rfl fo25_0 (by decide) ?_
  first | refine AtT.loadO rfl trivial rfl tk22 (by repeat (first | exact Pick.here | apply Pick.there)) (by rfl) (by decide) ?_ | refine AtT.load rfl trivial rfl tk22 (by first | exact vcell_of (by assumption) (by rfl) | exact vcell_of0 (by assumption) (by rfl) | exact vcell_of (Cells.le (by assumption) (by assumption)) (by rfl) | exact vcell_of0 (Cells.le (by assumption) (by assumption)) (by rfl)) (by decide) ?_
  first | refine AtT.fieldO rfl trivial rfl fo45_1 (by decide) ?_ | with_reducible refine AtT.field2 rfl trivial rfl fo45_1 (by decide) ?_ | refine AtT.field rfl trivial rfl fo45_1 (by decide) ?_
  first | refine AtT.loadO rfl trivial rfl tk3 (by repeat (first | exact Pick.here | apply Pick.there)) (by rfl) (by decide) ?_ | refine AtT.load rfl trivial rfl tk3 (by first | exact vcell_of (by assumption) (by rfl) | exact vcell_of0 (by assumption) (by rfl) | exact vcell_of (Cells.le (by assumption) (by assumption)) (by rfl) | exact vcell_of0 (Cells.le (by assumption) (by assumption)) (by rfl)) (by decide) ?_
  refine AtT.idx rfl trivial Try.underlying22 tk2 rfl (by first | assumption | exact Sl.le (by assumption) (by assumption)) rfl (by omega) (by omega) (by decide) ?_
  intro p22 e22 he22 hc22
  obtain rfl := plP_some he22
  first | refine AtT.loadO rfl trivial rfl tk2 (by repeat (first | exact Pick.here | apply Pick.there)) (by rfl) (by decide) ?_ | refine AtT.load rfl trivial rfl tk2 (by first | exact vcell_of (by assumption) (by rfl) | exact vcell_of0 (by assumption) (by rfl) | exact vcell_of (Cells.le (by assumption) (by assumption)) (by rfl) | exact vcell_of0 (Cells.le (by assumption) (by assumption)) (by rfl)) (by decide) ?_
  first | refine AtT.fieldO rfl trivial rfl fo25_0 (by decide) ?_ | with_reducible refine AtT.field2 rfl trivial rfl fo25_0 (by decide) ?_ | refine AtT.field rfl trivial rfl fo25_0 (by decide) ?_
  first | refine AtT.loadO rfl trivial rfl tk22 (by repeat (first | exact Pick.here | apply Pick.there)) (by rfl) (by decide) ?_ | refine AtT.load rfl trivial rfl tk22 (by first | exact vcell_of (by assumption) (by rfl) | exact vcell_of0 (by assumption) (by rfl) | exact vcell_of (Cells.le (by assumption) (by assumption)) (by rfl) | exact vcell_of0 (Cells.le (by assumption) (by assumption)) (by rfl)) (by decide) ?_
  first | refine AtT.fieldO rfl trivial rfl fo45_2 (by decide) ?_ | with_reducible refine AtT.field2 rfl trivial rfl fo45_2 (by decide) ?_ | refine AtT.field rfl trivial rfl fo45_2 (by decide) ?_
  first | refine AtT.loadO rfl trivial rfl tk3 (by repeat (first | exact Pick.here | apply Pick.there)) (by rfl) (by decide) ?_ | refine AtT.load rfl trivial rfl tk3 (by first | exact vcell_of (by assumption) (by rfl) | exact vcell_of0 (by assumption) (by rfl) | exact vcell_of (Cells.le (by assumption) (by assumption)) (by rfl) | exact vcell_of0 (Cells.le (by assumption) (by assumption)) (by rfl)) (by decide) ?_
  refine AtT.idx rfl trivial Try.underlying22 tk2 rfl (by first | assumption | exact Sl.le (by assumption) (by assumption)) rfl (by omega) (by omega) (by decide) ?_
  intro p28 e28 he28 hc28
  obtain rfl := plP_some he28
  first | refine AtT.loadO rfl trivial rfl tk2 (by repeat (first | exact Pick.here | apply Pick.there)) (by rfl) (by decide) ?_ | refine AtT.load rfl trivial rfl tk2 (by first | exact vcell_of (by assumption) (by rfl) | exact vcell_of0 (by assumption) (by rfl) | exact vcell_of (Cells.le (by assumption) (by assumption)) (by rfl) | exact vcell_of0 (Cells.le (by assumption) (by assumption)) (by rfl)) (by decide) ?_
  refine AtT.assign rfl trivial rfl (by decide) ?_
  refine AtT.assign rfl trivial rfl (by decide) ?_
  refine AtT.assign rfl trivial rfl (by decide) ?_
  refine AtT.done ?_
  refine At.nrm ?_
  refine At.text (.q 0 (.q 1 (.q 2 (.q 3 (.q 4 (.q 5 (.q 6 (.q 7 (.q 8 (.q 9 (.q 10 (.q 11 .done)))))))))))) (by kernel_rfl) ?_
  refine AtT.move rfl trivial rfl (by decide) ?_
  refine AtT.move rfl trivial rfl (by decide) ?_
  refine AtT.move rfl trivial rfl (by decide) ?_
  first | refine AtT.subt rfl trivial rfl rfl (by decide) (by first | assumption | exact Fit.of (by omega) (by omega)) ?_ | refine AtT.subW rfl trivial rfl rfl (by decide) ?_
  first | refine AtT.mul rfl trivial rfl rfl (by decide) (by first | assumption | exact Fit.of (by omega) (by omega)) ?_ | refine AtT.mulW rfl trivial rfl rfl (by decide) ?_
  refine AtT.move rfl trivial rfl (by decide) ?_
  refine AtT.move rfl trivial rfl (by decide) ?_
  refine AtT.move rfl trivial rfl (by decide) ?_
  first | refine AtT.subt rfl trivial rfl rfl (by decide) (by first | assumption | exact Fit.of (by omega) (by omega)) ?_ | refine AtT.subW rfl trivial rfl rfl (by decide) ?_
  first | refine AtT.mul rfl trivial rfl rfl (by decide) (by first | assumption | exact Fit.of (by omega) (by omega)) ?_ | refine AtT.mulW rfl trivial rfl rfl (by decide) ?_
  first | refine AtT.add rfl trivial rfl rfl (by decide) (by first | assumption | exact Fit.of (by omega) (by omega)) ?_ | refine AtT.addW rfl trivial rfl rfl (by decide) ?_
  refine AtT.assign rfl trivial rfl (by decide) ?_
  refine AtT.done ?_
  refine At.nrm ?_
  exact At.ret1 rfl (.tmp rfl) rfl

theorem prov1 (eh fl ll r l : Int) : eh * (l + r) - (fl * r + ll * l) = (eh - fl) * r + (eh - ll) * l := by
  rw [Int.sub_mul, Int.sub_mul, Int.mul_add]; omega
theorem prov2 (el fh lh r l : Int) : fh * r + lh * l - el * (l + r) = (fh - el) * r + (lh - el) * l := by
  rw [Int.sub_mul, Int.sub_mul, Int.mul_add]; omega

theorem rproves_f (L : Lg) (p : Pf) (V : View) (v : Value) (hv : LogV V v L) (hL : LgOk L) (hp : PfOk L p) : Fnc Try.prog 69 [v, pfv p] V fun r _ => r = rtv (provV L p) := by
  have hv' := hv
  obtain ⟨a, c, a', c', rfl, h2, h3⟩ := hv
  obtain ⟨f0, fm, ml, ln, one, many⟩ := id hp
  obtain ⟨hpos, d0, d1, n0, n1⟩ := prov_bd hL hp
  have el := hL.el
  have e1 := hL.edB f0 (by omega)
  have e2 := hL.edB (i := p.m) (by omega) (by omega)
  have e3 := hL.edB (i := p.l) (by omega) (by omega)
  have a1 := hL.plB f0 (by omega)
  have a3 := hL.plB (i := p.l) (by omega) (by omega)
  have hw : plP L p.l - plP L p.f = lftP L p + rgtP L p := by unfold lftP rgtP; omega
  have m1 := mul_bd (a := (edP L p.m).hi) (b := plP L p.l - plP L p.f) (A := 1000) (B := 100) (by decide) (by decide) (by omega) (by omega) (by omega) (by omega)
  have m2 := mul_bd (a := (edP L p.m).lo) (b := plP L p.l - plP L p.f) (A := 1000) (B := 100) (by decide) (by decide) (by omega) (by omega) (by omega) (by omega)
  unfold provV
  refine fn_of Try.func69 rfl Try.ntmps69 (Nat.le_of_ble_eq_true rfl) ?_
  intro w0 hw0
  refine At.nrm ?_
  refine At.text (.n false 0 (.n false 1 (.n false 2 .done))) (by kernel_rfl) ?_
  refine AtT.box rfl trivial rfl rfl (by decide) ?_
  intro b2
  refine AtT.box rfl trivial rfl rfl (by decide) ?_
  intro b3
  refine AtT.alloc rfl trivial z31 rfl (by decide) ?_
  intro b4
  refine AtT.done ?_
  refine At.nrm ?_
  refine At.draw (.q 0 (.q 1 (.q 2 (.q 3 (.q 4 (.q 5 (.q 6 (.q 7 (.q 8 (.q 9 (.q 10 (.q 11 (.q 12 (.q 13 (.q 14 (.q 15 (.q 16 (.q 17 (Tr.al 3 [18, 19, 20] (.n false 21 (.n false 22 (.n false 23 .done)))))))))))))))))))))) ffm (by kernel_rfl) ?_
  refine AtC.start ?_
  refine AtC.pre (fun hle0 => ?_)
  apply AtC.q
  · first | refine AtT.fieldO rfl trivial rfl fo25_1 (by decide) ?_ | with_reducible refine AtT.field2 rfl trivial rfl fo25_1 (by decide) ?_ | refine AtT.field rfl trivial rfl fo25_1 (by decide) ?_
    exact At.knows
  · exact AtC.sub1 (by repeat (first | exact Pt.nil | refine Pt.cons (by repeat (first | exact Pick.here | apply Pick.there)) ?_)) (by first | exact Le.refl _ | assumption | exact Le.trans (by assumption) (by assumption)) (by assumption)
  apply AtC.q
  · first | refine AtT.loadO rfl trivial rfl tk23 (by repeat (first | exact Pick.here | apply Pick.there)) (by rfl) (by decide) ?_ | refine AtT.load rfl trivial rfl tk23 (by first | exact vcell_of (by assumption) (by rfl) | exact vcell_of0 (by assumption) (by rfl) | exact vcell_of (Cells.le (by assumption) (by assumption)) (by rfl) | exact vcell_of0 (Cells.le (by assumption) (by assumption)) (by rfl)) (by decide) ?_
    exact At.knows
  · exact AtC.sub1 (by repeat (first | exact Pt.nil | refine Pt.cons (by repeat (first | exact Pick.here | apply Pick.there)) ?_)) (by first | exact Le.refl _ | assumption | exact Le.trans (by assumption) (by assumption)) (by assumption)
  apply AtC.q
  · first | refine AtT.fieldO rfl trivial rfl fo45_1 (by decide) ?_ | with_reducible refine AtT.field2 rfl trivial rfl fo45_1 (by decide) ?_ | refine AtT.field rfl trivial rfl fo45_1 (by decide) ?_
    exact At.knows
  · exact AtC.sub1 (by repeat (first | exact Pt.nil | refine Pt.cons (by repeat (first | exact Pick.here | apply Pick.there)) ?_)) (by first | exact Le.refl _ | assumption | exact Le.trans (by assumption) (by assumption)) (by assumption)
  apply AtC.q
  · first | refine AtT.loadO rfl trivial rfl tk3 (by repeat (first | exact Pick.here | apply Pick.there)) (by rfl) (by decide) ?_ | refine AtT.load rfl trivial rfl tk3 (by first | exact vcell_of (by assumption) (by rfl) | exact vcell_of0 (by assumption) (by rfl) | exact vcell_of (Cells.le (by assumption) (by assumption)) (by rfl) | exact vcell_of0 (Cells.le (by assumption) (by assumption)) (by rfl)) (by decide) ?_
    exact At.knows
  · exact AtC.sub1 (by repeat (first | exact Pt.nil | refine Pt.cons (by repeat (first | exact Pick.here | apply Pick.there)) ?_)) (by first | exact Le.refl _ | assumption | exact Le.trans (by assumption) (by assumption)) (by assumption)
  refine AtC.idx rfl trivial Try.underlying23 tk69 rfl (by first | assumption | exact Sl.le (by assumption) (by assumption)) rfl (by omega) (by omega) (by decide) (AtC.sub1 (by repeat (first | exact Pt.nil | refine Pt.cons (by repeat (first | exact Pick.here | apply Pick.there)) ?_)) (by first | exact Le.refl _ | assumption | exact Le.trans (by assumption) (by assumption)) (by assumption)) ?_
  intro p13 e13 he13 hc13
  obtain rfl := edP_some he13
  apply AtC.q
  · first | refine AtT.loadOA rfl trivial rfl tk69 (by repeat (first | exact Pick.here | apply Pick.there)) (by rfl) (by decide) ?_ | refine AtT.loadA rfl trivial rfl tk69 (by first | assumption | exact Cells.le (by assumption) (by assumption)) (by rfl) (by decide) ?_ | refine AtT.loadOP rfl trivial rfl tk69 (by repeat (first | exact Pick.here | apply Pick.there)) (by rfl) (by rfl) (by decide) ?_
    exact At.knows
  · exact AtC.sub1 (by repeat (first | exact Pt.nil | refine Pt.cons (by repeat (first | exact Pick.here | apply Pick.there)) ?_)) (by first | exact Le.refl _ | assumption | exact Le.trans (by assumption) (by assumption)) (by assumption)
  apply AtC.q
  · first | refine AtT.fieldO rfl trivial rfl fo25_1 (by decide) ?_ | with_reducible refine AtT.field2 rfl trivial rfl fo25_1 (by decide) ?_ | refine AtT.field rfl trivial rfl fo25_1 (by decide) ?_
    exact At.knows
  · exact AtC.sub1 (by repeat (first | exact Pt.nil | refine Pt.cons (by repeat (first | exact Pick.here | apply Pick.there)) ?_)) (by first | exact Le.refl _ | assumption | exact Le.trans (by assumption) (by assumption)) (by assumption)
  apply AtC.q
  · first | refine AtT.loadO rfl trivial rfl tk23 (by repeat (first | exact Pick.here | apply Pick.there)) (by rfl) (by decide) ?_ | refine AtT.load rfl trivial rfl tk23 (by first | exact vcell_of (by assumption) (by rfl) | exact vcell_of0 (by assumption) (by rfl) | exact vcell_of (Cells.le (by assumption) (by assumption)) (by rfl) | exact vcell_of0 (Cells.le (by assumption) (by assumption)) (by rfl)) (by decide) ?_
    exact At.knows
  · exact AtC.sub1 (by repeat (first | exact Pt.nil | refine Pt.cons (by repeat (first | exact Pick.here | apply Pick.there)) ?_)) (by first | exact Le.refl _ | assumption | exact Le.trans (by assumption) (by assumption)) (by assumption)
  apply AtC.q
  · first | refine AtT.fieldO rfl trivial rfl fo45_0 (by decide) ?_ | with_reducible refine AtT.field2 rfl trivial rfl fo45_0 (by decide) ?_ | refine AtT.field rfl trivial rfl fo45_0 (by decide) ?_
    exact At.knows
  · exact AtC.sub1 (by repeat (first | exact Pt.nil | refine Pt.cons (by repeat (first | exact Pick.here | apply Pick.there)) ?_)) (by first | exact Le.refl _ | assumption | exact Le.trans (by assumption) (by assumption)) (by assumption)
  apply AtC.q
  · first | refine AtT.loadO rfl trivial rfl tk3 (by repeat (first | exact Pick.here | apply Pick.there)) (by rfl) (by decide) ?_ | refine AtT.load rfl trivial rfl tk3 (by first | exact vcell_of (by assumption) (by rfl) | exact vcell_of0 (by assumption) (by rfl) | exact vcell_of (Cells.le (by assumption) (by assumption)) (by rfl) | exact vcell_of0 (Cells.le (by assumption) (by assumption)) (by rfl)) (by decide) ?_
    exact At.knows
  · exact AtC.sub1 (by repeat (first | exact Pt.nil | refine Pt.cons (by repeat (first | exact Pick.here | apply Pick.there)) ?_)) (by first | exact Le.refl _ | assumption | exact Le.trans (by assumption) (by assumption)) (by assumption)
  refine AtC.idx rfl trivial Try.underlying23 tk69 rfl (by first | assumption | exact Sl.le (by assumption) (by assumption)) rfl (by omega) (by omega) (by decide) (AtC.sub1 (by repeat (first | exact Pt.nil | refine Pt.cons (by repeat (first | exact Pick.here | apply Pick.there)) ?_)) (by first | exact Le.refl _ | assumption | exact Le.trans (by assumption) (by assumption)) (by assumption)) ?_
  intro p19 e19 he19 hc19
  obtain rfl := edP_some he19
  apply AtC.q
  · first | refine AtT.loadOA rfl trivial rfl tk69 (by repeat (first | exact Pick.here | apply Pick.there)) (by rfl) (by decide) ?_ | refine AtT.loadA rfl trivial rfl tk69 (by first | assumption | exact Cells.le (by assumption) (by assumption)) (by rfl) (by decide) ?_ | refine AtT.loadOP rfl trivial rfl tk69 (by repeat (first | exact Pick.here | apply Pick.there)) (by rfl) (by rfl) (by decide) ?_
    exact At.knows
  · exact AtC.sub1 (by repeat (first | exact Pt.nil | refine Pt.cons (by repeat (first | exact Pick.here | apply Pick.there)) ?_)) (by first | exact Le.refl _ | assumption | exact Le.trans (by assumption) (by assumption)) (by assumption)
  apply AtC.q
  · first | refine AtT.fieldO rfl trivial rfl fo25_1 (by decide) ?_ | with_reducible refine AtT.field2 rfl trivial rfl fo25_1 (by decide) ?_ | refine AtT.field rfl trivial rfl fo25_1 (by decide) ?_
    exact At.knows
  · exact AtC.sub1 (by repeat (first | exact Pt.nil | refine Pt.cons (by repeat (first | exact Pick.here | apply Pick.there)) ?_)) (by first | exact Le.refl _ | assumption | exact Le.trans (by assumption) (by assumption)) (by assumption)
  apply AtC.q
  · first | refine AtT.loadO rfl trivial rfl tk23 (by repeat (first | exact Pick.here | apply Pick.there)) (by rfl) (by decide) ?_ | refine AtT.load rfl trivial rfl tk23 (by first | exact vcell_of (by assumption) (by rfl) | exact vcell_of0 (by assumption) (by rfl) | exact vcell_of (Cells.le (by assumption) (by assumption)) (by rfl) | exact vcell_of0 (Cells.le (by assumption) (by assumption)) (by rfl)) (by decide) ?_
    exact At.knows
  · exact AtC.sub1 (by repeat (first | exact Pt.nil | refine Pt.cons (by repeat (first | exact Pick.here | apply Pick.there)) ?_)) (by first | exact Le.refl _ | assumption | exact Le.trans (by assumption) (by assumption)) (by assumption)
  apply AtC.q
  · first | refine AtT.fieldO rfl trivial rfl fo45_2 (by decide) ?_ | with_reducible refine AtT.field2 rfl trivial rfl fo45_2 (by decide) ?_ | refine AtT.field rfl trivial rfl fo45_2 (by decide) ?_
    exact At.knows
  · exact AtC.sub1 (by repeat (first | exact Pt.nil | refine Pt.cons (by repeat (first | exact Pick.here | apply Pick.there)) ?_)) (by first | exact Le.refl _ | assumption | exact Le.trans (by assumption) (by assumption)) (by assumption)
  apply AtC.q
  · first | refine AtT.loadO rfl trivial rfl tk3 (by repeat (first | exact Pick.here | apply Pick.there)) (by rfl) (by decide) ?_ | refine AtT.load rfl trivial rfl tk3 (by first | exact vcell_of (by assumption) (by rfl) | exact vcell_of0 (by assumption) (by rfl) | exact vcell_of (Cells.le (by assumption) (by assumption)) (by rfl) | exact vcell_of0 (Cells.le (by assumption) (by assumption)) (by rfl)) (by decide) ?_
    exact At.knows
  · exact AtC.sub1 (by repeat (first | exact Pt.nil | refine Pt.cons (by repeat (first | exact Pick.here | apply Pick.there)) ?_)) (by first | exact Le.refl _ | assumption | exact Le.trans (by assumption) (by assumption)) (by assumption)
  refine AtC.idx rfl trivial Try.underlying23 tk69 rfl (by first | assumption | exact Sl.le (by assumption) (by assumption)) rfl (by omega) (by omega) (by decide) (AtC.sub1 (by repeat (first | exact Pt.nil | refine Pt.cons (by repeat (first | exact Pick.here | apply Pick.there)) ?_)) (by first | exact Le.refl _ | assumption | exact Le.trans (by assumption) (by assumption)) (by assumption)) ?_
  intro p25 e25 he25 hc25
  obtain rfl := edP_some he25
  apply AtC.q
  · first | refine AtT.loadOA rfl trivial rfl tk69 (by repeat (first | exact Pick.here | apply Pick.there)) (by rfl) (by decide) ?_ | refine AtT.loadA rfl trivial rfl tk69 (by first | assumption | exact Cells.le (by assumption) (by assumption)) (by rfl) (by decide) ?_ | refine AtT.loadOP rfl trivial rfl tk69 (by repeat (first | exact Pick.here | apply Pick.there)) (by rfl) (by rfl) (by decide) ?_
    exact At.knows
  · exact AtC.sub1 (by repeat (first | exact Pt.nil | refine Pt.cons (by repeat (first | exact Pick.here | apply Pick.there)) ?_)) (by first | exact Le.refl _ | assumption | exact Le.trans (by assumption) (by assumption)) (by assumption)
  refine AtC.als3 ⟨⟨_, _, _, _, rfl, z69, rfl, by decide⟩, ⟨_, _, _, _, rfl, z69, rfl, by decide⟩, ⟨_, _, _, _, rfl, z69, rfl, by decide⟩, trivial⟩ (by decide) (by decide) (AtC.sub1 (by repeat (first | exact Pt.nil | refine Pt.cons (by repeat (first | exact Pick.here | apply Pick.there)) ?_)) (by first | exact Le.refl _ | assumption | exact Le.trans (by assumption) (by assumption)) (by assumption)) ?_
  intro b5 b6 b7
  refine AtC.nz ?_
  refine AtT.storeA rfl trivial rfl rfl tk69 rfl rfl (by rfl) (by repeat (first | exact Upd.here | apply Upd.there)) ?_
  refine AtC.go (by repeat (first | exact Pt.nil | refine Pt.cons (by repeat (first | exact Pick.here | apply Pick.there)) ?_)) (by first | exact Le.refl _ | assumption | exact Le.trans (by assumption) (by assumption)) ?_
  refine AtC.nz ?_
  refine AtT.storeA rfl trivial rfl rfl tk69 rfl rfl (by rfl) (by repeat (first | exact Upd.here | apply Upd.there)) ?_
  refine AtC.go (by repeat (first | exact Pt.nil | refine Pt.cons (by repeat (first | exact Pick.here | apply Pick.there)) ?_)) (by first | exact Le.refl _ | assumption | exact Le.trans (by assumption) (by assumption)) ?_
  refine AtC.nz ?_
  refine AtT.storeA rfl trivial rfl rfl tk69 rfl rfl (by rfl) (by repeat (first | exact Upd.here | apply Upd.there)) ?_
  refine AtC.go (by repeat (first | exact Pt.nil | refine Pt.cons (by repeat (first | exact Pick.here | apply Pick.there)) ?_)) (by first | exact Le.refl _ | assumption | exact Le.trans (by assumption) (by assumption)) ?_
  refine AtC.done ?_
  refine At.nrm ?_
  refine At.text (.q 0 (.q 1 (.q 2 .done))) (by kernel_rfl) ?_
  first | refine AtT.fieldO rfl trivial rfl fo45_3 (by decide) ?_ | with_reducible refine AtT.field2 rfl trivial rfl fo45_3 (by decide) ?_ | refine AtT.field rfl trivial rfl fo45_3 (by decide) ?_
  first | refine AtT.loadO rfl trivial rfl tk3 (by repeat (first | exact Pick.here | apply Pick.there)) (by rfl) (by decide) ?_ | refine AtT.load rfl trivial rfl tk3 (by first | exact vcell_of (by assumption) (by rfl) | exact vcell_of0 (by assumption) (by rfl) | exact vcell_of (Cells.le (by assumption) (by assumption)) (by rfl) | exact vcell_of0 (Cells.le (by assumption) (by assumption)) (by rfl)) (by decide) ?_
  refine AtT.eqI rfl trivial rfl rfl (by decide) ?_
  refine AtT.done ?_
  refine At.nrm ?_
  refine At.condP rfl (fun hb => ?_) (fun hb => ?_)
  · have hfl : p.f = p.l := Decidable.byContradiction fun h => by have := (many h).2.2; omega
    have hN : provN L p = (edP L p.m).hi - (edP L p.m).lo := by rw [provN, if_pos hfl]
    have hD : provD L p = 2 := by rw [provD, if_pos hfl]
    rw [hN, hD]
    refine At.nrm ?_
    refine At.text (.q 0 (.q 1 (.q 2 (.q 3 (.q 4 (.n false 5 (.n true 6 .done))))))) (by kernel_rfl) ?_
    first | refine AtT.fieldO rfl trivial rfl fo69_1 (by decide) ?_ | with_reducible refine AtT.field2 rfl trivial rfl fo69_1 (by decide) ?_ | refine AtT.field rfl trivial rfl fo69_1 (by decide) ?_
    first | refine AtT.loadO rfl trivial rfl tk2 (by repeat (first | exact Pick.here | apply Pick.there)) (by rfl) (by decide) ?_ | refine AtT.load rfl trivial rfl tk2 (by first | exact vcell_of (by assumption) (by rfl) | exact vcell_of0 (by assumption) (by rfl) | exact vcell_of (Cells.le (by assumption) (by assumption)) (by rfl) | exact vcell_of0 (Cells.le (by assumption) (by assumption)) (by rfl)) (by decide) ?_
    first | refine AtT.fieldO rfl trivial rfl fo69_0 (by decide) ?_ | with_reducible refine AtT.field2 rfl trivial rfl fo69_0 (by decide) ?_ | refine AtT.field rfl trivial rfl fo69_0 (by decide) ?_
    first | refine AtT.loadO rfl trivial rfl tk2 (by repeat (first | exact Pick.here | apply Pick.there)) (by rfl) (by decide) ?_ | refine AtT.load rfl trivial rfl tk2 (by first | exact vcell_of (by assumption) (by rfl) | exact vcell_of0 (by assumption) (by rfl) | exact vcell_of (Cells.le (by assumption) (by assumption)) (by rfl) | exact vcell_of0 (Cells.le (by assumption) (by assumption)) (by rfl)) (by decide) ?_
    first | refine AtT.subt rfl trivial rfl rfl (by decide) (by first | assumption | exact Fit.of (by omega) (by omega)) ?_ | refine AtT.subW rfl trivial rfl rfl (by decide) ?_
    refine AtT.callP rfl trivial rfl ok51 (by decide) (by_r _ _ _ (by omega) (by omega) (by omega) (by omega)) ?_
    rintro _ rfl
    refine AtT.storeA rfl trivial rfl rfl tk31 rfl rfl (by rfl) (by repeat (first | exact Upd.here | apply Upd.there)) ?_
    refine AtT.done ?_
    refine At.nrm ?_
    exact At.ret1 rfl (.agg rfl tk31 (by repeat (first | exact Pick.here | apply Pick.there)) rfl) rfl
  have hfl : p.f ≠ p.l := fun h => hb (one h)
  obtain ⟨l0, l1, r0, r1⟩ := hpos hfl
  have hD : provD L p = 2 * (plP L p.l - plP L p.f) := by rw [provD, if_neg hfl, hw]
  have b1 := mul_bd (a := (edP L p.f).lo) (b := rgtP L p) (A := 1000) (B := 100) (by decide) (by decide) (by omega) (by omega) (by omega) (by omega)
  have b2 := mul_bd (a := (edP L p.l).lo) (b := lftP L p) (A := 1000) (B := 100) (by decide) (by decide) (by omega) (by omega) (by omega) (by omega)
  have b3' := mul_bd (a := (edP L p.f).hi) (b := rgtP L p) (A := 1000) (B := 100) (by decide) (by decide) (by omega) (by omega) (by omega) (by omega)
  have b4' := mul_bd (a := (edP L p.l).hi) (b := lftP L p) (A := 1000) (B := 100) (by decide) (by decide) (by omega) (by omega) (by omega) (by omega)
  rw [hD]
  refine At.nrm ?_
  refine At.draw (.q 0 (.q 1 (.q 2 (.q 3 (.q 4 (.q 5 (.q 6 (.q 7 (.q 8 (.q 9 (.q 10 (.q 11 (.q 12 (.q 13 .done)))))))))))))) ffm (by kernel_rfl) ?_
  first | refine AtT.fieldO rfl trivial rfl fo25_0 (by decide) ?_ | with_reducible refine AtT.field2 rfl trivial rfl fo25_0 (by decide) ?_ | refine AtT.field rfl trivial rfl fo25_0 (by decide) ?_
  first | refine AtT.loadO rfl trivial rfl tk22 (by repeat (first | exact Pick.here | apply Pick.there)) (by rfl) (by decide) ?_ | refine AtT.load rfl trivial rfl tk22 (by first | exact vcell_of (by assumption) (by rfl) | exact vcell_of0 (by assumption) (by rfl) | exact vcell_of (Cells.le (by assumption) (by assumption)) (by rfl) | exact vcell_of0 (Cells.le (by assumption) (by assumption)) (by rfl)) (by decide) ?_
  first | refine AtT.fieldO rfl trivial rfl fo45_2 (by decide) ?_ | with_reducible refine AtT.field2 rfl trivial rfl fo45_2 (by decide) ?_ | refine AtT.field rfl trivial rfl fo45_2 (by decide) ?_
  first | refine AtT.loadO rfl trivial rfl tk3 (by repeat (first | exact Pick.here | apply Pick.there)) (by rfl) (by decide) ?_ | refine AtT.load rfl trivial rfl tk3 (by first | exact vcell_of (by assumption) (by rfl) | exact vcell_of0 (by assumption) (by rfl) | exact vcell_of (Cells.le (by assumption) (by assumption)) (by rfl) | exact vcell_of0 (Cells.le (by assumption) (by assumption)) (by rfl)) (by decide) ?_
  refine AtT.idx rfl trivial Try.underlying22 tk2 rfl (by first | assumption | exact Sl.le (by assumption) (by assumption)) rfl (by omega) (by omega) (by decide) ?_
  intro p40 e40 he40 hc40
  obtain rfl := plP_some he40
  first | refine AtT.loadO rfl trivial rfl tk2 (by repeat (first | exact Pick.here | apply Pick.there)) (by rfl) (by decide) ?_ | refine AtT.load rfl trivial rfl tk2 (by first | exact vcell_of (by assumption) (by rfl) | exact vcell_of0 (by assumption) (by rfl) | exact vcell_of (Cells.le (by assumption) (by assumption)) (by rfl) | exact vcell_of0 (Cells.le (by assumption) (by assumption)) (by rfl)) (by decide) ?_
  first | refine AtT.fieldO rfl trivial rfl fo25_0 (by decide) ?_ | with_reducible refine AtT.field2 rfl trivial rfl fo25_0 (by decide) ?_ | refine AtT.field rfl trivial rfl fo25_0 (by decide) ?_
  first | refine AtT.loadO rfl trivial rfl tk22 (by repeat (first | exact Pick.here | apply Pick.there)) (by rfl) (by decide) ?_ | refine AtT.load rfl trivial rfl tk22 (by first | exact vcell_of (by assumption) (by rfl) | exact vcell_of0 (by assumption) (by rfl) | exact vcell_of (Cells.le (by assumption) (by assumption)) (by rfl) | exact vcell_of0 (Cells.le (by assumption) (by assumption)) (by rfl)) (by decide) ?_
  first | refine AtT.fieldO rfl trivial rfl fo45_0 (by decide) ?_ | with_reducible refine AtT.field2 rfl trivial rfl fo45_0 (by decide) ?_ | refine AtT.field rfl trivial rfl fo45_0 (by decide) ?_
  first | refine AtT.loadO rfl trivial rfl tk3 (by repeat (first | exact Pick.here | apply Pick.there)) (by rfl) (by decide) ?_ | refine AtT.load rfl trivial rfl tk3 (by first | exact vcell_of (by assumption) (by rfl) | exact vcell_of0 (by assumption) (by rfl) | exact vcell_of (Cells.le (by assumption) (by assumption)) (by rfl) | exact vcell_of0 (Cells.le (by assumption) (by assumption)) (by rfl)) (by decide) ?_
  refine AtT.idx rfl trivial Try.underlying22 tk2 rfl (by first | assumption | exact Sl.le (by assumption) (by assumption)) rfl (by omega) (by omega) (by decide) ?_
  intro p46 e46 he46 hc46
  obtain rfl := plP_some he46
  first | refine AtT.loadO rfl trivial rfl tk2 (by repeat (first | exact Pick.here | apply Pick.there)) (by rfl) (by decide) ?_ | refine AtT.load rfl trivial rfl tk2 (by first | exact vcell_of (by assumption) (by rfl) | exact vcell_of0 (by assumption) (by rfl) | exact vcell_of (Cells.le (by assumption) (by assumption)) (by rfl) | exact vcell_of0 (Cells.le (by assumption) (by assumption)) (by rfl)) (by decide) ?_
  first | refine AtT.subt rfl trivial rfl rfl (by decide) (by first | assumption | exact Fit.of (by omega) (by omega)) ?_ | refine AtT.subW rfl trivial rfl rfl (by decide) ?_
  refine AtT.assign rfl trivial rfl (by decide) ?_
  refine AtT.done ?_
  refine At.nrm ?_
  refine At.text (.q 0 (.q 1 (.q 2 .done))) (by kernel_rfl) ?_
  first | refine AtT.fieldO rfl trivial rfl fo45_3 (by decide) ?_ | with_reducible refine AtT.field2 rfl trivial rfl fo45_3 (by decide) ?_ | refine AtT.field rfl trivial rfl fo45_3 (by decide) ?_
  first | refine AtT.loadO rfl trivial rfl tk3 (by repeat (first | exact Pick.here | apply Pick.there)) (by rfl) (by decide) ?_ | refine AtT.load rfl trivial rfl tk3 (by first | exact vcell_of (by assumption) (by rfl) | exact vcell_of0 (by assumption) (by rfl) | exact vcell_of (Cells.le (by assumption) (by assumption)) (by rfl) | exact vcell_of0 (Cells.le (by assumption) (by assumption)) (by rfl)) (by decide) ?_
  refine AtT.eqI rfl trivial rfl rfl (by decide) ?_
  refine AtT.done ?_
  refine At.nrm ?_
  refine At.condP rfl (fun hs => ?_) (fun hs => ?_)
  · have hN : provN L p = (edP L p.m).hi * (plP L p.l - plP L p.f) - ((edP L p.f).lo * rgtP L p + (edP L p.l).lo * lftP L p) := by
      rw [provN, if_neg hfl, if_pos hs, hw, prov1]
    rw [hN]
    refine At.nrm ?_
    refine At.draw (.q 0 (.q 1 (.q 2 (.q 3 (.q 4 (.q 5 (.q 6 (.q 7 (.q 8 (.q 9 (.q 12 (.q 13 (.n false 10 (.q 11 (.n false 14 (.n true 15 .done)))))))))))))))) ffm (by kernel_rfl) ?_
    first | refine AtT.fieldO rfl trivial rfl fo69_1 (by decide) ?_ | with_reducible refine AtT.field2 rfl trivial rfl fo69_1 (by decide) ?_ | refine AtT.field rfl trivial rfl fo69_1 (by decide) ?_
    first | refine AtT.loadO rfl trivial rfl tk2 (by repeat (first | exact Pick.here | apply Pick.there)) (by rfl) (by decide) ?_ | refine AtT.load rfl trivial rfl tk2 (by first | exact vcell_of (by assumption) (by rfl) | exact vcell_of0 (by assumption) (by rfl) | exact vcell_of (Cells.le (by assumption) (by assumption)) (by rfl) | exact vcell_of0 (Cells.le (by assumption) (by assumption)) (by rfl)) (by decide) ?_
    refine AtT.move rfl trivial rfl (by decide) ?_
    first | refine AtT.mul rfl trivial rfl rfl (by decide) (by first | assumption | exact Fit.of (by omega) (by omega)) ?_ | refine AtT.mulW rfl trivial rfl rfl (by decide) ?_
    first | refine AtT.loadOA rfl trivial rfl tk25 (by repeat (first | exact Pick.here | apply Pick.there)) (by rfl) (by decide) ?_ | refine AtT.loadA rfl trivial rfl tk25 (by first | assumption | exact Cells.le (by assumption) (by assumption)) (by rfl) (by decide) ?_ | refine AtT.loadOP rfl trivial rfl tk25 (by repeat (first | exact Pick.here | apply Pick.there)) (by rfl) (by rfl) (by decide) ?_
    first | refine AtT.loadOA rfl trivial rfl tk45 (by repeat (first | exact Pick.here | apply Pick.there)) (by rfl) (by decide) ?_ | refine AtT.loadA rfl trivial rfl tk45 (by first | assumption | exact Cells.le (by assumption) (by assumption)) (by rfl) (by decide) ?_ | refine AtT.loadOP rfl trivial rfl tk45 (by repeat (first | exact Pick.here | apply Pick.there)) (by rfl) (by rfl) (by decide) ?_
    first | refine AtT.fieldO rfl trivial rfl fo69_0 (by decide) ?_ | with_reducible refine AtT.field2 rfl trivial rfl fo69_0 (by decide) ?_ | refine AtT.field rfl trivial rfl fo69_0 (by decide) ?_
    first | refine AtT.loadO rfl trivial rfl tk2 (by repeat (first | exact Pick.here | apply Pick.there)) (by rfl) (by decide) ?_ | refine AtT.load rfl trivial rfl tk2 (by first | exact vcell_of (by assumption) (by rfl) | exact vcell_of0 (by assumption) (by rfl) | exact vcell_of (Cells.le (by assumption) (by assumption)) (by rfl) | exact vcell_of0 (Cells.le (by assumption) (by assumption)) (by rfl)) (by decide) ?_
    first | refine AtT.fieldO rfl trivial rfl fo69_0 (by decide) ?_ | with_reducible refine AtT.field2 rfl trivial rfl fo69_0 (by decide) ?_ | refine AtT.field rfl trivial rfl fo69_0 (by decide) ?_
    first | refine AtT.loadO rfl trivial rfl tk2 (by repeat (first | exact Pick.here | apply Pick.there)) (by rfl) (by decide) ?_ | refine AtT.load rfl trivial rfl tk2 (by first | exact vcell_of (by assumption) (by rfl) | exact vcell_of0 (by assumption) (by rfl) | exact vcell_of (Cells.le (by assumption) (by assumption)) (by rfl) | exact vcell_of0 (Cells.le (by assumption) (by assumption)) (by rfl)) (by decide) ?_
    refine AtT.move rfl trivial rfl (by decide) ?_
    first | refine AtT.mul rfl trivial rfl rfl (by decide) (by first | assumption | exact Fit.of (by omega) (by omega)) ?_ | refine AtT.mulW rfl trivial rfl rfl (by decide) ?_
    refine AtT.callP rfl trivial rfl ok86 (by decide) (between_f L p _ _ _ _ hv' hL hp (by omega) (by omega)) ?_
    rintro _ rfl
    first | refine AtT.subt rfl trivial rfl rfl (by decide) (by first | assumption | exact Fit.of (by omega) (by omega)) ?_ | refine AtT.subW rfl trivial rfl rfl (by decide) ?_
    refine AtT.callP rfl trivial rfl ok51 (by decide) (by_r _ _ _ (by omega) (by omega) (by omega) (by omega)) ?_
    rintro _ rfl
    refine AtT.storeA rfl trivial rfl rfl tk31 rfl rfl (by rfl) (by repeat (first | exact Upd.here | apply Upd.there)) ?_
    refine AtT.done ?_
    refine At.nrm ?_
    exact At.ret1 rfl (.agg rfl tk31 (by repeat (first | exact Pick.here | apply Pick.there)) rfl) rfl
  · have hN : provN L p = ((edP L p.f).hi * rgtP L p + (edP L p.l).hi * lftP L p) - (edP L p.m).lo * (plP L p.l - plP L p.f) := by
      rw [provN, if_neg hfl, if_neg hs, hw, prov2]
    rw [hN]
    refine At.nrm ?_
    refine At.draw (.q 0 (.q 1 (.q 2 (.q 3 (.q 4 (.q 5 (.q 7 (.q 8 (.q 9 (.q 10 (.q 12 (.q 13 (.n false 6 (.q 11 (.n false 14 (.n true 15 .done)))))))))))))))) ffm (by kernel_rfl) ?_
    first | refine AtT.loadOA rfl trivial rfl tk25 (by repeat (first | exact Pick.here | apply Pick.there)) (by rfl) (by decide) ?_ | refine AtT.loadA rfl trivial rfl tk25 (by first | assumption | exact Cells.le (by assumption) (by assumption)) (by rfl) (by decide) ?_ | refine AtT.loadOP rfl trivial rfl tk25 (by repeat (first | exact Pick.here | apply Pick.there)) (by rfl) (by rfl) (by decide) ?_
    first | refine AtT.loadOA rfl trivial rfl tk45 (by repeat (first | exact Pick.here | apply Pick.there)) (by rfl) (by decide) ?_ | refine AtT.loadA rfl trivial rfl tk45 (by first | assumption | exact Cells.le (by assumption) (by assumption)) (by rfl) (by decide) ?_ | refine AtT.loadOP rfl trivial rfl tk45 (by repeat (first | exact Pick.here | apply Pick.there)) (by rfl) (by rfl) (by decide) ?_
    first | refine AtT.fieldO rfl trivial rfl fo69_1 (by decide) ?_ | with_reducible refine AtT.field2 rfl trivial rfl fo69_1 (by decide) ?_ | refine AtT.field rfl trivial rfl fo69_1 (by decide) ?_
    first | refine AtT.loadO rfl trivial rfl tk2 (by repeat (first | exact Pick.here | apply Pick.there)) (by rfl) (by decide) ?_ | refine AtT.load rfl trivial rfl tk2 (by first | exact vcell_of (by assumption) (by rfl) | exact vcell_of0 (by assumption) (by rfl) | exact vcell_of (Cells.le (by assumption) (by assumption)) (by rfl) | exact vcell_of0 (Cells.le (by assumption) (by assumption)) (by rfl)) (by decide) ?_
    first | refine AtT.fieldO rfl trivial rfl fo69_1 (by decide) ?_ | with_reducible refine AtT.field2 rfl trivial rfl fo69_1 (by decide) ?_ | refine AtT.field rfl trivial rfl fo69_1 (by decide) ?_
    first | refine AtT.loadO rfl trivial rfl tk2 (by repeat (first | exact Pick.here | apply Pick.there)) (by rfl) (by decide) ?_ | refine AtT.load rfl trivial rfl tk2 (by first | exact vcell_of (by assumption) (by rfl) | exact vcell_of0 (by assumption) (by rfl) | exact vcell_of (Cells.le (by assumption) (by assumption)) (by rfl) | exact vcell_of0 (Cells.le (by assumption) (by assumption)) (by rfl)) (by decide) ?_
    first | refine AtT.fieldO rfl trivial rfl fo69_0 (by decide) ?_ | with_reducible refine AtT.field2 rfl trivial rfl fo69_0 (by decide) ?_ | refine AtT.field rfl trivial rfl fo69_0 (by decide) ?_
    first | refine AtT.loadO rfl trivial rfl tk2 (by repeat (first | exact Pick.here | apply Pick.there)) (by rfl) (by decide) ?_ | refine AtT.load rfl trivial rfl tk2 (by first | exact vcell_of (by assumption) (by rfl) | exact vcell_of0 (by assumption) (by rfl) | exact vcell_of (Cells.le (by assumption) (by assumption)) (by rfl) | exact vcell_of0 (Cells.le (by assumption) (by assumption)) (by rfl)) (by decide) ?_
    refine AtT.move rfl trivial rfl (by decide) ?_
    first | refine AtT.mul rfl trivial rfl rfl (by decide) (by first | assumption | exact Fit.of (by omega) (by omega)) ?_ | refine AtT.mulW rfl trivial rfl rfl (by decide) ?_
    refine AtT.move rfl trivial rfl (by decide) ?_
    first | refine AtT.mul rfl trivial rfl rfl (by decide) (by first | assumption | exact Fit.of (by omega) (by omega)) ?_ | refine AtT.mulW rfl trivial rfl rfl (by decide) ?_
    refine AtT.callP rfl trivial rfl ok86 (by decide) (between_f L p _ _ _ _ hv' hL hp (by omega) (by omega)) ?_
    rintro _ rfl
    first | refine AtT.subt rfl trivial rfl rfl (by decide) (by first | assumption | exact Fit.of (by omega) (by omega)) ?_ | refine AtT.subW rfl trivial rfl rfl (by decide) ?_
    refine AtT.callP rfl trivial rfl ok51 (by decide) (by_r _ _ _ (by omega) (by omega) (by omega) (by omega)) ?_
    rintro _ rfl
    refine AtT.storeA rfl trivial rfl rfl tk31 rfl rfl (by rfl) (by repeat (first | exact Upd.here | apply Upd.there)) ?_
    refine AtT.done ?_
    refine At.nrm ?_
    exact At.ret1 rfl (.agg rfl tk31 (by repeat (first | exact Pick.here | apply Pick.there)) rfl) rfl

theorem proves_f (L : Lg) (p : Pf) (V : View) (q : Addr) (hv : LathV V q L) (hL : LgOk L) (hp : PfOk L p) : Fnc Try.prog 67 [.pointer (some q), pfv p] V fun r _ => r = rtv (provV L p) := by
  obtain ⟨a, c, a', c', h1, h2, h3⟩ := hv
  obtain ⟨f0, fm, ml, ln, one, many⟩ := id hp
  obtain ⟨hpos, d0, d1, n0, n1⟩ := prov_bd hL hp
  have el := hL.el
  have e1 := hL.edB f0 (by omega)
  have e2 := hL.edB (i := p.m) (by omega) (by omega)
  have e3 := hL.edB (i := p.l) (by omega) (by omega)
  have a1 := hL.plB f0 (by omega)
  have a2 := hL.plB (i := p.m) (by omega) (by omega)
  have a3 := hL.plB (i := p.l) (by omega) (by omega)
  unfold provV
  refine fn_of Try.func67 rfl Try.ntmps67 (Nat.le_of_ble_eq_true rfl) ?_
  intro w0 hw0
  refine At.nrm ?_
  refine At.text (.n false 0 (.n false 1 .done)) (by kernel_rfl) ?_
  refine AtT.box rfl trivial rfl rfl (by decide) ?_
  intro b3
  refine AtT.alloc rfl trivial z31 rfl (by decide) ?_
  intro b4
  refine AtT.done ?_
  refine At.nrm ?_
  refine At.text (.q 0 (.q 1 (.q 2 (.q 3 (.q 4 (.q 5 (.q 6 (.n false 7 (.n true 8 .done))))))))) (by kernel_rfl) ?_
  first | refine AtT.fieldO rfl trivial rfl fo45_0 (by decide) ?_ | with_reducible refine AtT.field2 rfl trivial rfl fo45_0 (by decide) ?_ | refine AtT.field rfl trivial rfl fo45_0 (by decide) ?_
  first | refine AtT.loadO rfl trivial rfl tk3 (by repeat (first | exact Pick.here | apply Pick.there)) (by rfl) (by decide) ?_ | refine AtT.load rfl trivial rfl tk3 (by first | exact vcell_of (by assumption) (by rfl) | exact vcell_of0 (by assumption) (by rfl) | exact vcell_of (Cells.le (by assumption) (by assumption)) (by rfl) | exact vcell_of0 (Cells.le (by assumption) (by assumption)) (by rfl)) (by decide) ?_
  first | refine AtT.fieldO rfl trivial rfl fo45_1 (by decide) ?_ | with_reducible refine AtT.field2 rfl trivial rfl fo45_1 (by decide) ?_ | refine AtT.field rfl trivial rfl fo45_1 (by decide) ?_
  first | refine AtT.loadO rfl trivial rfl tk3 (by repeat (first | exact Pick.here | apply Pick.there)) (by rfl) (by decide) ?_ | refine AtT.load rfl trivial rfl tk3 (by first | exact vcell_of (by assumption) (by rfl) | exact vcell_of0 (by assumption) (by rfl) | exact vcell_of (Cells.le (by assumption) (by assumption)) (by rfl) | exact vcell_of0 (Cells.le (by assumption) (by assumption)) (by rfl)) (by decide) ?_
  first | refine AtT.fieldO rfl trivial rfl fo45_2 (by decide) ?_ | with_reducible refine AtT.field2 rfl trivial rfl fo45_2 (by decide) ?_ | refine AtT.field rfl trivial rfl fo45_2 (by decide) ?_
  first | refine AtT.loadO rfl trivial rfl tk3 (by repeat (first | exact Pick.here | apply Pick.there)) (by rfl) (by decide) ?_ | refine AtT.load rfl trivial rfl tk3 (by first | exact vcell_of (by assumption) (by rfl) | exact vcell_of0 (by assumption) (by rfl) | exact vcell_of (Cells.le (by assumption) (by assumption)) (by rfl) | exact vcell_of0 (Cells.le (by assumption) (by assumption)) (by rfl)) (by decide) ?_
  refine AtT.build rfl trivial rfl (bd122_0_1_2 _ _ _) (by decide) ?_
  refine AtT.alloc rfl trivial z122 rfl (by decide) ?_
  intro b5
  refine AtT.storeA rfl trivial rfl rfl tk122 rfl rfl (by rfl) (by repeat (first | exact Upd.here | apply Upd.there)) ?_
  refine AtT.done ?_
  refine At.nrm ?_
  refine At.draw (.q 0 (.q 1 (.q 2 (.q 3 (.q 4 (.q 5 (.q 6 (.q 7 (.q 8 (.n false 9 (.n true 10 .done))))))))))) ffm (by kernel_rfl) ?_
  refine AtT.move rfl trivial rfl (by decide) ?_
  refine AtT.nil rfl trivial rfl (by decide) ?_
  first | refine AtT.fieldO rfl trivial rfl fo106_0 (by decide) ?_ | with_reducible refine AtT.field2 rfl trivial rfl fo106_0 (by decide) ?_ | refine AtT.field rfl trivial rfl fo106_0 (by decide) ?_
  first | refine AtT.fieldO rfl trivial rfl fo25_1 (by decide) ?_ | with_reducible refine AtT.field2 rfl trivial rfl fo25_1 (by decide) ?_ | refine AtT.field rfl trivial rfl fo25_1 (by decide) ?_
  first | refine AtT.loadO rfl trivial rfl tk23 (by repeat (first | exact Pick.here | apply Pick.there)) (by rfl) (by decide) ?_ | refine AtT.load rfl trivial rfl tk23 (by first | exact vcell_of (by assumption) (by rfl) | exact vcell_of0 (by assumption) (by rfl) | exact vcell_of (Cells.le (by assumption) (by assumption)) (by rfl) | exact vcell_of0 (Cells.le (by assumption) (by assumption)) (by rfl)) (by decide) ?_
  first | refine AtT.fieldO rfl trivial rfl fo45_1 (by decide) ?_ | with_reducible refine AtT.field2 rfl trivial rfl fo45_1 (by decide) ?_ | refine AtT.field rfl trivial rfl fo45_1 (by decide) ?_
  first | refine AtT.loadO rfl trivial rfl tk3 (by repeat (first | exact Pick.here | apply Pick.there)) (by rfl) (by decide) ?_ | refine AtT.load rfl trivial rfl tk3 (by first | exact vcell_of (by assumption) (by rfl) | exact vcell_of0 (by assumption) (by rfl) | exact vcell_of (Cells.le (by assumption) (by assumption)) (by rfl) | exact vcell_of0 (Cells.le (by assumption) (by assumption)) (by rfl)) (by decide) ?_
  refine AtT.idx rfl trivial Try.underlying23 tk69 rfl (by first | assumption | exact Sl.le (by assumption) (by assumption)) rfl (by omega) (by omega) (by decide) ?_
  intro p25 e25 he25 hc25
  obtain rfl := edP_some he25
  first | refine AtT.loadOA rfl trivial rfl tk69 (by repeat (first | exact Pick.here | apply Pick.there)) (by rfl) (by decide) ?_ | refine AtT.loadA rfl trivial rfl tk69 (by first | assumption | exact Cells.le (by assumption) (by assumption)) (by rfl) (by decide) ?_ | refine AtT.loadOP rfl trivial rfl tk69 (by repeat (first | exact Pick.here | apply Pick.there)) (by rfl) (by rfl) (by decide) ?_
  refine AtT.alloc rfl trivial z69 rfl (by decide) ?_
  intro b6
  refine AtT.storeA rfl trivial rfl rfl tk69 rfl rfl (by rfl) (by repeat (first | exact Upd.here | apply Upd.there)) ?_
  refine AtT.done ?_
  refine At.nrm ?_
  refine At.cutG (ι := Unit) (fun _ => [(0, .pointer (some q)), (3, .pointer (some ⟨b3, 0, none⟩)), (4, .pointer (some ⟨b4, 0, none⟩)), (6, .pointer (some ⟨b6, 0, none⟩)), (36, .bool (decide (p.f = p.l)))]) (fun _ => [.blk b3 (LC [iv p.f, iv p.m, iv p.l, iv p.s] 45), .blk b4 (LC [iv 0, iv 0] 31), .blk b6 (LC [iv (edP L p.m).lo, iv (edP L p.m).hi] 69)]) (fun _ V' => V = V') ?_ ?_
  · refine At.text (.q 0 (.q 1 (.q 2 (.q 3 (.q 4 (.q 5 (.q 6 (.q 7 (.q 8 (.q 9 .done)))))))))) (by kernel_rfl) ?_
    first | refine AtT.loadOA rfl trivial rfl tk122 (by repeat (first | exact Pick.here | apply Pick.there)) (by rfl) (by decide) ?_ | refine AtT.loadA rfl trivial rfl tk122 (by first | assumption | exact Cells.le (by assumption) (by assumption)) (by rfl) (by decide) ?_ | refine AtT.loadOP rfl trivial rfl tk122 (by repeat (first | exact Pick.here | apply Pick.there)) (by rfl) (by rfl) (by decide) ?_
    refine AtT.build rfl trivial rfl (bd122) (by decide) ?_
    refine AtT.eqS rfl trivial rfl rfl (eqS122 _ _ _ _ _ _) (by decide) ?_
    refine AtT.move rfl trivial rfl (by decide) ?_
    all_goals (first | refine AtT.litT (d := 30) rfl ?_ | refine AtT.litF (d := 30) rfl ?_ | refine AtT.litU (d := 30) rfl ?_ | refine AtT.pcase (d := 30) rfl (fun hg30 => ?_) (fun hg30 => ?_) | refine AtT.bcase (d := 30) rfl (fun hg30 => ?_) (fun hg30 => ?_))
    all_goals (first | refine AtT.pass rfl rfl rfl rfl rfl rfl (by decide) ?_ | refine AtT.passU rfl rfl rfl rfl rfl rfl (by decide) ?_ | ((first | refine AtT.fieldO rfl ⟨_, _, rfl, rfl, rfl⟩ rfl fo45_0 (by decide) ?_ | with_reducible refine AtT.field2 rfl ⟨_, _, rfl, rfl, rfl⟩ rfl fo45_0 (by decide) ?_ | refine AtT.field rfl ⟨_, _, rfl, rfl, rfl⟩ rfl fo45_0 (by decide) ?_)))
    all_goals (first | refine AtT.pass rfl rfl rfl rfl rfl rfl (by decide) ?_ | refine AtT.passU rfl rfl rfl rfl rfl rfl (by decide) ?_ | ((first | refine AtT.loadO rfl ⟨_, _, rfl, rfl, rfl⟩ rfl tk3 (by repeat (first | exact Pick.here | apply Pick.there)) (by rfl) (by decide) ?_ | refine AtT.load rfl ⟨_, _, rfl, rfl, rfl⟩ rfl tk3 (by first | exact vcell_of (by assumption) (by rfl) | exact vcell_of0 (by assumption) (by rfl) | exact vcell_of (Cells.le (by assumption) (by assumption)) (by rfl) | exact vcell_of0 (Cells.le (by assumption) (by assumption)) (by rfl)) (by decide) ?_)))
    all_goals (first | refine AtT.pass rfl rfl rfl rfl rfl rfl (by decide) ?_ | refine AtT.passU rfl rfl rfl rfl rfl rfl (by decide) ?_ | ((first | refine AtT.fieldO rfl ⟨_, _, rfl, rfl, rfl⟩ rfl fo45_2 (by decide) ?_ | with_reducible refine AtT.field2 rfl ⟨_, _, rfl, rfl, rfl⟩ rfl fo45_2 (by decide) ?_ | refine AtT.field rfl ⟨_, _, rfl, rfl, rfl⟩ rfl fo45_2 (by decide) ?_)))
    all_goals (first | refine AtT.pass rfl rfl rfl rfl rfl rfl (by decide) ?_ | refine AtT.passU rfl rfl rfl rfl rfl rfl (by decide) ?_ | ((first | refine AtT.loadO rfl ⟨_, _, rfl, rfl, rfl⟩ rfl tk3 (by repeat (first | exact Pick.here | apply Pick.there)) (by rfl) (by decide) ?_ | refine AtT.load rfl ⟨_, _, rfl, rfl, rfl⟩ rfl tk3 (by first | exact vcell_of (by assumption) (by rfl) | exact vcell_of0 (by assumption) (by rfl) | exact vcell_of (Cells.le (by assumption) (by assumption)) (by rfl) | exact vcell_of0 (Cells.le (by assumption) (by assumption)) (by rfl)) (by decide) ?_)))
    all_goals (first | refine AtT.pass rfl rfl rfl rfl rfl rfl (by decide) ?_ | refine AtT.passU rfl rfl rfl rfl rfl rfl (by decide) ?_ | ((refine AtT.eqI rfl ⟨_, _, rfl, rfl, rfl⟩ rfl rfl (by decide) ?_)))
    all_goals (refine AtT.pick rfl trivial rfl rfl rfl (by decide) ?_)
    all_goals refine AtT.done ?_
    all_goals (refine At.nrm ?_)
    all_goals (refine At.meetG () rfl ⟨rfl, rfl, rfl, rfl, bsome ?_, trivial⟩ ?_)
    all_goals (first | (repeat (first | exact Pt.nil | refine Pt.cons (by repeat (first | exact Pick.here | apply Pick.there)) ?_)); done | skip)
    all_goals (first | (rw [Bool.eq_iff_iff]; simp [*]; done) | (rw [Bool.eq_iff_iff]; simp [*]; omega) | simp [*])
  rintro _ _ ks' O' rfl hk hO hl
  subst hk hO
  refine At.condP rfl (fun hfl => ?_) (fun hfl => ?_)
  · have hN : provN L p = (edP L p.m).hi - (edP L p.m).lo := by rw [provN, if_pos hfl]
    have hD : provD L p = 2 := by rw [provD, if_pos hfl]
    rw [hN, hD]
    refine At.nrm ?_
    refine At.text (.q 0 (.q 1 (.q 2 (.q 3 (.q 4 (.n false 5 (.n true 6 .done))))))) (by kernel_rfl) ?_
    first | refine AtT.fieldO rfl trivial rfl fo69_1 (by decide) ?_ | with_reducible refine AtT.field2 rfl trivial rfl fo69_1 (by decide) ?_ | refine AtT.field rfl trivial rfl fo69_1 (by decide) ?_
    first | refine AtT.loadO rfl trivial rfl tk2 (by repeat (first | exact Pick.here | apply Pick.there)) (by rfl) (by decide) ?_ | refine AtT.load rfl trivial rfl tk2 (by first | exact vcell_of (by assumption) (by rfl) | exact vcell_of0 (by assumption) (by rfl) | exact vcell_of (Cells.le (by assumption) (by assumption)) (by rfl) | exact vcell_of0 (Cells.le (by assumption) (by assumption)) (by rfl)) (by decide) ?_
    first | refine AtT.fieldO rfl trivial rfl fo69_0 (by decide) ?_ | with_reducible refine AtT.field2 rfl trivial rfl fo69_0 (by decide) ?_ | refine AtT.field rfl trivial rfl fo69_0 (by decide) ?_
    first | refine AtT.loadO rfl trivial rfl tk2 (by repeat (first | exact Pick.here | apply Pick.there)) (by rfl) (by decide) ?_ | refine AtT.load rfl trivial rfl tk2 (by first | exact vcell_of (by assumption) (by rfl) | exact vcell_of0 (by assumption) (by rfl) | exact vcell_of (Cells.le (by assumption) (by assumption)) (by rfl) | exact vcell_of0 (Cells.le (by assumption) (by assumption)) (by rfl)) (by decide) ?_
    first | refine AtT.subt rfl trivial rfl rfl (by decide) (by first | assumption | exact Fit.of (by omega) (by omega)) ?_ | refine AtT.subW rfl trivial rfl rfl (by decide) ?_
    refine AtT.callP rfl trivial rfl ok76 (by decide) (by_f _ _ _ (by omega) (by omega) (by omega) (by omega)) ?_
    rintro _ rfl
    refine AtT.storeA rfl trivial rfl rfl tk31 rfl rfl (by rfl) (by repeat (first | exact Upd.here | apply Upd.there)) ?_
    refine AtT.done ?_
    refine At.nrm ?_
    exact At.ret1 rfl (.agg rfl tk31 (by repeat (first | exact Pick.here | apply Pick.there)) rfl) rfl
  obtain ⟨l0, l1, r0, r1⟩ := hpos hfl
  have hD : provD L p = 2 * (lftP L p + rgtP L p) := by rw [provD, if_neg hfl]
  have b1 := mul_bd (a := (edP L p.m).hi - (edP L p.f).lo) (b := rgtP L p) (A := 2000) (B := 100) (by decide) (by decide) (by omega) (by omega) (by omega) (by omega)
  have b2 := mul_bd (a := (edP L p.m).hi - (edP L p.l).lo) (b := lftP L p) (A := 2000) (B := 100) (by decide) (by decide) (by omega) (by omega) (by omega) (by omega)
  have b3' := mul_bd (a := (edP L p.f).hi - (edP L p.m).lo) (b := rgtP L p) (A := 2000) (B := 100) (by decide) (by decide) (by omega) (by omega) (by omega) (by omega)
  have b4' := mul_bd (a := (edP L p.l).hi - (edP L p.m).lo) (b := lftP L p) (A := 2000) (B := 100) (by decide) (by decide) (by omega) (by omega) (by omega) (by omega)
  rw [hD]
  refine At.nrm ?_
  refine At.draw (.q 0 (.q 1 (.q 2 (.q 3 (.q 4 (.q 5 (.q 6 (.q 7 (.q 8 (.q 9 (.q 10 (.q 11 (.q 12 (.q 13 (.q 14 (.q 15 (.q 16 (.q 17 (.q 18 (.q 19 (.q 20 (.q 21 (.q 22 (.q 23 (.q 24 (.q 25 (.q 26 (.q 27 (.q 28 (.q 29 (.q 30 (.q 31 (.q 32 (.q 33 (.q 34 (.q 35 (.q 36 (.q 37 (.q 38 (.q 39 .done)))))))))))))))))))))))))))))))))))))))) ffm (by kernel_rfl) ?_
  refine AtT.move rfl trivial rfl (by decide) ?_
  refine AtT.nil rfl trivial rfl (by decide) ?_
  first | refine AtT.fieldO rfl trivial rfl fo106_0 (by decide) ?_ | with_reducible refine AtT.field2 rfl trivial rfl fo106_0 (by decide) ?_ | refine AtT.field rfl trivial rfl fo106_0 (by decide) ?_
  first | refine AtT.fieldO rfl trivial rfl fo25_0 (by decide) ?_ | with_reducible refine AtT.field2 rfl trivial rfl fo25_0 (by decide) ?_ | refine AtT.field rfl trivial rfl fo25_0 (by decide) ?_
  first | refine AtT.loadO rfl trivial rfl tk22 (by repeat (first | exact Pick.here | apply Pick.there)) (by rfl) (by decide) ?_ | refine AtT.load rfl trivial rfl tk22 (by first | exact vcell_of (by assumption) (by rfl) | exact vcell_of0 (by assumption) (by rfl) | exact vcell_of (Cells.le (by assumption) (by assumption)) (by rfl) | exact vcell_of0 (Cells.le (by assumption) (by assumption)) (by rfl)) (by decide) ?_
  first | refine AtT.fieldO rfl trivial rfl fo45_1 (by decide) ?_ | with_reducible refine AtT.field2 rfl trivial rfl fo45_1 (by decide) ?_ | refine AtT.field rfl trivial rfl fo45_1 (by decide) ?_
  first | refine AtT.loadO rfl trivial rfl tk3 (by repeat (first | exact Pick.here | apply Pick.there)) (by rfl) (by decide) ?_ | refine AtT.load rfl trivial rfl tk3 (by first | exact vcell_of (by assumption) (by rfl) | exact vcell_of0 (by assumption) (by rfl) | exact vcell_of (Cells.le (by assumption) (by assumption)) (by rfl) | exact vcell_of0 (Cells.le (by assumption) (by assumption)) (by rfl)) (by decide) ?_
  refine AtT.idx rfl trivial Try.underlying22 tk2 rfl (by first | assumption | exact Sl.le (by assumption) (by assumption)) rfl (by omega) (by omega) (by decide) ?_
  intro p50 e50 he50 hc50
  obtain rfl := plP_some he50
  first | refine AtT.loadO rfl trivial rfl tk2 (by repeat (first | exact Pick.here | apply Pick.there)) (by rfl) (by decide) ?_ | refine AtT.load rfl trivial rfl tk2 (by first | exact vcell_of (by assumption) (by rfl) | exact vcell_of0 (by assumption) (by rfl) | exact vcell_of (Cells.le (by assumption) (by assumption)) (by rfl) | exact vcell_of0 (Cells.le (by assumption) (by assumption)) (by rfl)) (by decide) ?_
  refine AtT.move rfl trivial rfl (by decide) ?_
  refine AtT.nil rfl trivial rfl (by decide) ?_
  first | refine AtT.fieldO rfl trivial rfl fo106_0 (by decide) ?_ | with_reducible refine AtT.field2 rfl trivial rfl fo106_0 (by decide) ?_ | refine AtT.field rfl trivial rfl fo106_0 (by decide) ?_
  first | refine AtT.fieldO rfl trivial rfl fo25_0 (by decide) ?_ | with_reducible refine AtT.field2 rfl trivial rfl fo25_0 (by decide) ?_ | refine AtT.field rfl trivial rfl fo25_0 (by decide) ?_
  first | refine AtT.loadO rfl trivial rfl tk22 (by repeat (first | exact Pick.here | apply Pick.there)) (by rfl) (by decide) ?_ | refine AtT.load rfl trivial rfl tk22 (by first | exact vcell_of (by assumption) (by rfl) | exact vcell_of0 (by assumption) (by rfl) | exact vcell_of (Cells.le (by assumption) (by assumption)) (by rfl) | exact vcell_of0 (Cells.le (by assumption) (by assumption)) (by rfl)) (by decide) ?_
  first | refine AtT.fieldO rfl trivial rfl fo45_0 (by decide) ?_ | with_reducible refine AtT.field2 rfl trivial rfl fo45_0 (by decide) ?_ | refine AtT.field rfl trivial rfl fo45_0 (by decide) ?_
  first | refine AtT.loadO rfl trivial rfl tk3 (by repeat (first | exact Pick.here | apply Pick.there)) (by rfl) (by decide) ?_ | refine AtT.load rfl trivial rfl tk3 (by first | exact vcell_of (by assumption) (by rfl) | exact vcell_of0 (by assumption) (by rfl) | exact vcell_of (Cells.le (by assumption) (by assumption)) (by rfl) | exact vcell_of0 (Cells.le (by assumption) (by assumption)) (by rfl)) (by decide) ?_
  refine AtT.idx rfl trivial Try.underlying22 tk2 rfl (by first | assumption | exact Sl.le (by assumption) (by assumption)) rfl (by omega) (by omega) (by decide) ?_
  intro p59 e59 he59 hc59
  obtain rfl := plP_some he59
  first | refine AtT.loadO rfl trivial rfl tk2 (by repeat (first | exact Pick.here | apply Pick.there)) (by rfl) (by decide) ?_ | refine AtT.load rfl trivial rfl tk2 (by first | exact vcell_of (by assumption) (by rfl) | exact vcell_of0 (by assumption) (by rfl) | exact vcell_of (Cells.le (by assumption) (by assumption)) (by rfl) | exact vcell_of0 (Cells.le (by assumption) (by assumption)) (by rfl)) (by decide) ?_
  first | refine AtT.subt rfl trivial rfl rfl (by decide) (by first | assumption | exact Fit.of (by omega) (by omega)) ?_ | refine AtT.subW rfl trivial rfl rfl (by decide) ?_
  refine AtT.move rfl trivial rfl (by decide) ?_
  refine AtT.nil rfl trivial rfl (by decide) ?_
  first | refine AtT.fieldO rfl trivial rfl fo106_0 (by decide) ?_ | with_reducible refine AtT.field2 rfl trivial rfl fo106_0 (by decide) ?_ | refine AtT.field rfl trivial rfl fo106_0 (by decide) ?_
  first | refine AtT.fieldO rfl trivial rfl fo25_0 (by decide) ?_ | with_reducible refine AtT.field2 rfl trivial rfl fo25_0 (by decide) ?_ | refine AtT.field rfl trivial rfl fo25_0 (by decide) ?_
  first | refine AtT.loadO rfl trivial rfl tk22 (by repeat (first | exact Pick.here | apply Pick.there)) (by rfl) (by decide) ?_ | refine AtT.load rfl trivial rfl tk22 (by first | exact vcell_of (by assumption) (by rfl) | exact vcell_of0 (by assumption) (by rfl) | exact vcell_of (Cells.le (by assumption) (by assumption)) (by rfl) | exact vcell_of0 (Cells.le (by assumption) (by assumption)) (by rfl)) (by decide) ?_
  first | refine AtT.fieldO rfl trivial rfl fo45_2 (by decide) ?_ | with_reducible refine AtT.field2 rfl trivial rfl fo45_2 (by decide) ?_ | refine AtT.field rfl trivial rfl fo45_2 (by decide) ?_
  first | refine AtT.loadO rfl trivial rfl tk3 (by repeat (first | exact Pick.here | apply Pick.there)) (by rfl) (by decide) ?_ | refine AtT.load rfl trivial rfl tk3 (by first | exact vcell_of (by assumption) (by rfl) | exact vcell_of0 (by assumption) (by rfl) | exact vcell_of (Cells.le (by assumption) (by assumption)) (by rfl) | exact vcell_of0 (Cells.le (by assumption) (by assumption)) (by rfl)) (by decide) ?_
  refine AtT.idx rfl trivial Try.underlying22 tk2 rfl (by first | assumption | exact Sl.le (by assumption) (by assumption)) rfl (by omega) (by omega) (by decide) ?_
  intro p69 e69 he69 hc69
  obtain rfl := plP_some he69
  first | refine AtT.loadO rfl trivial rfl tk2 (by repeat (first | exact Pick.here | apply Pick.there)) (by rfl) (by decide) ?_ | refine AtT.load rfl trivial rfl tk2 (by first | exact vcell_of (by assumption) (by rfl) | exact vcell_of0 (by assumption) (by rfl) | exact vcell_of (Cells.le (by assumption) (by assumption)) (by rfl) | exact vcell_of0 (Cells.le (by assumption) (by assumption)) (by rfl)) (by decide) ?_
  refine AtT.move rfl trivial rfl (by decide) ?_
  refine AtT.nil rfl trivial rfl (by decide) ?_
  first | refine AtT.fieldO rfl trivial rfl fo106_0 (by decide) ?_ | with_reducible refine AtT.field2 rfl trivial rfl fo106_0 (by decide) ?_ | refine AtT.field rfl trivial rfl fo106_0 (by decide) ?_
  first | refine AtT.fieldO rfl trivial rfl fo25_0 (by decide) ?_ | with_reducible refine AtT.field2 rfl trivial rfl fo25_0 (by decide) ?_ | refine AtT.field rfl trivial rfl fo25_0 (by decide) ?_
  first | refine AtT.loadO rfl trivial rfl tk22 (by repeat (first | exact Pick.here | apply Pick.there)) (by rfl) (by decide) ?_ | refine AtT.load rfl trivial rfl tk22 (by first | exact vcell_of (by assumption) (by rfl) | exact vcell_of0 (by assumption) (by rfl) | exact vcell_of (Cells.le (by assumption) (by assumption)) (by rfl) | exact vcell_of0 (Cells.le (by assumption) (by assumption)) (by rfl)) (by decide) ?_
  first | refine AtT.fieldO rfl trivial rfl fo45_1 (by decide) ?_ | with_reducible refine AtT.field2 rfl trivial rfl fo45_1 (by decide) ?_ | refine AtT.field rfl trivial rfl fo45_1 (by decide) ?_
  first | refine AtT.loadO rfl trivial rfl tk3 (by repeat (first | exact Pick.here | apply Pick.there)) (by rfl) (by decide) ?_ | refine AtT.load rfl trivial rfl tk3 (by first | exact vcell_of (by assumption) (by rfl) | exact vcell_of0 (by assumption) (by rfl) | exact vcell_of (Cells.le (by assumption) (by assumption)) (by rfl) | exact vcell_of0 (Cells.le (by assumption) (by assumption)) (by rfl)) (by decide) ?_
  refine AtT.idx rfl trivial Try.underlying22 tk2 rfl (by first | assumption | exact Sl.le (by assumption) (by assumption)) rfl (by omega) (by omega) (by decide) ?_
  intro p78 e78 he78 hc78
  obtain rfl := plP_some he78
  first | refine AtT.loadO rfl trivial rfl tk2 (by repeat (first | exact Pick.here | apply Pick.there)) (by rfl) (by decide) ?_ | refine AtT.load rfl trivial rfl tk2 (by first | exact vcell_of (by assumption) (by rfl) | exact vcell_of0 (by assumption) (by rfl) | exact vcell_of (Cells.le (by assumption) (by assumption)) (by rfl) | exact vcell_of0 (Cells.le (by assumption) (by assumption)) (by rfl)) (by decide) ?_
  first | refine AtT.subt rfl trivial rfl rfl (by decide) (by first | assumption | exact Fit.of (by omega) (by omega)) ?_ | refine AtT.subW rfl trivial rfl rfl (by decide) ?_
  refine AtT.assign rfl trivial rfl (by decide) ?_
  refine AtT.assign rfl trivial rfl (by decide) ?_
  refine AtT.done ?_
  refine At.nrm ?_
  refine At.draw (.q 0 (.q 1 (.q 2 (.q 3 (.q 4 (.q 5 (.q 6 (.q 7 (.q 8 (.q 9 (.q 10 (.q 11 (.q 12 (.q 13 (.q 14 (.q 15 (.q 16 (.q 17 (Tr.al 2 [18, 19] (.n false 20 (.n false 21 .done))))))))))))))))))))) ffm (by kernel_rfl) ?_
  refine AtC.start ?_
  refine AtC.pre (fun hle0 => ?_)
  apply AtC.q
  · refine AtT.move rfl trivial rfl (by decide) ?_
    exact At.knows
  · exact AtC.sub1 (by repeat (first | exact Pt.nil | refine Pt.cons (by repeat (first | exact Pick.here | apply Pick.there)) ?_)) (by first | exact Le.refl _ | assumption | exact Le.trans (by assumption) (by assumption)) (by assumption)
  apply AtC.q
  · refine AtT.nil rfl trivial rfl (by decide) ?_
    exact At.knows
  · exact AtC.sub1 (by repeat (first | exact Pt.nil | refine Pt.cons (by repeat (first | exact Pick.here | apply Pick.there)) ?_)) (by first | exact Le.refl _ | assumption | exact Le.trans (by assumption) (by assumption)) (by assumption)
  apply AtC.q
  · first | refine AtT.fieldO rfl trivial rfl fo106_0 (by decide) ?_ | with_reducible refine AtT.field2 rfl trivial rfl fo106_0 (by decide) ?_ | refine AtT.field rfl trivial rfl fo106_0 (by decide) ?_
    exact At.knows
  · exact AtC.sub1 (by repeat (first | exact Pt.nil | refine Pt.cons (by repeat (first | exact Pick.here | apply Pick.there)) ?_)) (by first | exact Le.refl _ | assumption | exact Le.trans (by assumption) (by assumption)) (by assumption)
  apply AtC.q
  · first | refine AtT.fieldO rfl trivial rfl fo25_1 (by decide) ?_ | with_reducible refine AtT.field2 rfl trivial rfl fo25_1 (by decide) ?_ | refine AtT.field rfl trivial rfl fo25_1 (by decide) ?_
    exact At.knows
  · exact AtC.sub1 (by repeat (first | exact Pt.nil | refine Pt.cons (by repeat (first | exact Pick.here | apply Pick.there)) ?_)) (by first | exact Le.refl _ | assumption | exact Le.trans (by assumption) (by assumption)) (by assumption)
  apply AtC.q
  · first | refine AtT.loadO rfl trivial rfl tk23 (by repeat (first | exact Pick.here | apply Pick.there)) (by rfl) (by decide) ?_ | refine AtT.load rfl trivial rfl tk23 (by first | exact vcell_of (by assumption) (by rfl) | exact vcell_of0 (by assumption) (by rfl) | exact vcell_of (Cells.le (by assumption) (by assumption)) (by rfl) | exact vcell_of0 (Cells.le (by assumption) (by assumption)) (by rfl)) (by decide) ?_
    exact At.knows
  · exact AtC.sub1 (by repeat (first | exact Pt.nil | refine Pt.cons (by repeat (first | exact Pick.here | apply Pick.there)) ?_)) (by first | exact Le.refl _ | assumption | exact Le.trans (by assumption) (by assumption)) (by assumption)
  apply AtC.q
  · first | refine AtT.fieldO rfl trivial rfl fo45_0 (by decide) ?_ | with_reducible refine AtT.field2 rfl trivial rfl fo45_0 (by decide) ?_ | refine AtT.field rfl trivial rfl fo45_0 (by decide) ?_
    exact At.knows
  · exact AtC.sub1 (by repeat (first | exact Pt.nil | refine Pt.cons (by repeat (first | exact Pick.here | apply Pick.there)) ?_)) (by first | exact Le.refl _ | assumption | exact Le.trans (by assumption) (by assumption)) (by assumption)
  apply AtC.q
  · first | refine AtT.loadO rfl trivial rfl tk3 (by repeat (first | exact Pick.here | apply Pick.there)) (by rfl) (by decide) ?_ | refine AtT.load rfl trivial rfl tk3 (by first | exact vcell_of (by assumption) (by rfl) | exact vcell_of0 (by assumption) (by rfl) | exact vcell_of (Cells.le (by assumption) (by assumption)) (by rfl) | exact vcell_of0 (Cells.le (by assumption) (by assumption)) (by rfl)) (by decide) ?_
    exact At.knows
  · exact AtC.sub1 (by repeat (first | exact Pt.nil | refine Pt.cons (by repeat (first | exact Pick.here | apply Pick.there)) ?_)) (by first | exact Le.refl _ | assumption | exact Le.trans (by assumption) (by assumption)) (by assumption)
  refine AtC.idx rfl trivial Try.underlying23 tk69 rfl (by first | assumption | exact Sl.le (by assumption) (by assumption)) rfl (by omega) (by omega) (by decide) (AtC.sub1 (by repeat (first | exact Pt.nil | refine Pt.cons (by repeat (first | exact Pick.here | apply Pick.there)) ?_)) (by first | exact Le.refl _ | assumption | exact Le.trans (by assumption) (by assumption)) (by assumption)) ?_
  intro p88 e88 he88 hc88
  obtain rfl := edP_some he88
  apply AtC.q
  · first | refine AtT.loadOA rfl trivial rfl tk69 (by repeat (first | exact Pick.here | apply Pick.there)) (by rfl) (by decide) ?_ | refine AtT.loadA rfl trivial rfl tk69 (by first | assumption | exact Cells.le (by assumption) (by assumption)) (by rfl) (by decide) ?_ | refine AtT.loadOP rfl trivial rfl tk69 (by repeat (first | exact Pick.here | apply Pick.there)) (by rfl) (by rfl) (by decide) ?_
    exact At.knows
  · exact AtC.sub1 (by repeat (first | exact Pt.nil | refine Pt.cons (by repeat (first | exact Pick.here | apply Pick.there)) ?_)) (by first | exact Le.refl _ | assumption | exact Le.trans (by assumption) (by assumption)) (by assumption)
  apply AtC.q
  · refine AtT.move rfl trivial rfl (by decide) ?_
    exact At.knows
  · exact AtC.sub1 (by repeat (first | exact Pt.nil | refine Pt.cons (by repeat (first | exact Pick.here | apply Pick.there)) ?_)) (by first | exact Le.refl _ | assumption | exact Le.trans (by assumption) (by assumption)) (by assumption)
  apply AtC.q
  · refine AtT.nil rfl trivial rfl (by decide) ?_
    exact At.knows
  · exact AtC.sub1 (by repeat (first | exact Pt.nil | refine Pt.cons (by repeat (first | exact Pick.here | apply Pick.there)) ?_)) (by first | exact Le.refl _ | assumption | exact Le.trans (by assumption) (by assumption)) (by assumption)
  apply AtC.q
  · first | refine AtT.fieldO rfl trivial rfl fo106_0 (by decide) ?_ | with_reducible refine AtT.field2 rfl trivial rfl fo106_0 (by decide) ?_ | refine AtT.field rfl trivial rfl fo106_0 (by decide) ?_
    exact At.knows
  · exact AtC.sub1 (by repeat (first | exact Pt.nil | refine Pt.cons (by repeat (first | exact Pick.here | apply Pick.there)) ?_)) (by first | exact Le.refl _ | assumption | exact Le.trans (by assumption) (by assumption)) (by assumption)
  apply AtC.q
  · first | refine AtT.fieldO rfl trivial rfl fo25_1 (by decide) ?_ | with_reducible refine AtT.field2 rfl trivial rfl fo25_1 (by decide) ?_ | refine AtT.field rfl trivial rfl fo25_1 (by decide) ?_
    exact At.knows
  · exact AtC.sub1 (by repeat (first | exact Pt.nil | refine Pt.cons (by repeat (first | exact Pick.here | apply Pick.there)) ?_)) (by first | exact Le.refl _ | assumption | exact Le.trans (by assumption) (by assumption)) (by assumption)
  apply AtC.q
  · first | refine AtT.loadO rfl trivial rfl tk23 (by repeat (first | exact Pick.here | apply Pick.there)) (by rfl) (by decide) ?_ | refine AtT.load rfl trivial rfl tk23 (by first | exact vcell_of (by assumption) (by rfl) | exact vcell_of0 (by assumption) (by rfl) | exact vcell_of (Cells.le (by assumption) (by assumption)) (by rfl) | exact vcell_of0 (Cells.le (by assumption) (by assumption)) (by rfl)) (by decide) ?_
    exact At.knows
  · exact AtC.sub1 (by repeat (first | exact Pt.nil | refine Pt.cons (by repeat (first | exact Pick.here | apply Pick.there)) ?_)) (by first | exact Le.refl _ | assumption | exact Le.trans (by assumption) (by assumption)) (by assumption)
  apply AtC.q
  · first | refine AtT.fieldO rfl trivial rfl fo45_2 (by decide) ?_ | with_reducible refine AtT.field2 rfl trivial rfl fo45_2 (by decide) ?_ | refine AtT.field rfl trivial rfl fo45_2 (by decide) ?_
    exact At.knows
  · exact AtC.sub1 (by repeat (first | exact Pt.nil | refine Pt.cons (by repeat (first | exact Pick.here | apply Pick.there)) ?_)) (by first | exact Le.refl _ | assumption | exact Le.trans (by assumption) (by assumption)) (by assumption)
  apply AtC.q
  · first | refine AtT.loadO rfl trivial rfl tk3 (by repeat (first | exact Pick.here | apply Pick.there)) (by rfl) (by decide) ?_ | refine AtT.load rfl trivial rfl tk3 (by first | exact vcell_of (by assumption) (by rfl) | exact vcell_of0 (by assumption) (by rfl) | exact vcell_of (Cells.le (by assumption) (by assumption)) (by rfl) | exact vcell_of0 (Cells.le (by assumption) (by assumption)) (by rfl)) (by decide) ?_
    exact At.knows
  · exact AtC.sub1 (by repeat (first | exact Pt.nil | refine Pt.cons (by repeat (first | exact Pick.here | apply Pick.there)) ?_)) (by first | exact Le.refl _ | assumption | exact Le.trans (by assumption) (by assumption)) (by assumption)
  refine AtC.idx rfl trivial Try.underlying23 tk69 rfl (by first | assumption | exact Sl.le (by assumption) (by assumption)) rfl (by omega) (by omega) (by decide) (AtC.sub1 (by repeat (first | exact Pt.nil | refine Pt.cons (by repeat (first | exact Pick.here | apply Pick.there)) ?_)) (by first | exact Le.refl _ | assumption | exact Le.trans (by assumption) (by assumption)) (by assumption)) ?_
  intro p97 e97 he97 hc97
  obtain rfl := edP_some he97
  apply AtC.q
  · first | refine AtT.loadOA rfl trivial rfl tk69 (by repeat (first | exact Pick.here | apply Pick.there)) (by rfl) (by decide) ?_ | refine AtT.loadA rfl trivial rfl tk69 (by first | assumption | exact Cells.le (by assumption) (by assumption)) (by rfl) (by decide) ?_ | refine AtT.loadOP rfl trivial rfl tk69 (by repeat (first | exact Pick.here | apply Pick.there)) (by rfl) (by rfl) (by decide) ?_
    exact At.knows
  · exact AtC.sub1 (by repeat (first | exact Pt.nil | refine Pt.cons (by repeat (first | exact Pick.here | apply Pick.there)) ?_)) (by first | exact Le.refl _ | assumption | exact Le.trans (by assumption) (by assumption)) (by assumption)
  refine AtC.als2 ⟨⟨_, _, _, _, rfl, z69, rfl, by decide⟩, ⟨_, _, _, _, rfl, z69, rfl, by decide⟩, trivial⟩ (by decide) (by decide) (AtC.sub1 (by repeat (first | exact Pt.nil | refine Pt.cons (by repeat (first | exact Pick.here | apply Pick.there)) ?_)) (by first | exact Le.refl _ | assumption | exact Le.trans (by assumption) (by assumption)) (by assumption)) ?_
  intro b9 b10
  refine AtC.nz ?_
  refine AtT.storeA rfl trivial rfl rfl tk69 rfl rfl (by rfl) (by repeat (first | exact Upd.here | apply Upd.there)) ?_
  refine AtC.go (by repeat (first | exact Pt.nil | refine Pt.cons (by repeat (first | exact Pick.here | apply Pick.there)) ?_)) (by first | exact Le.refl _ | assumption | exact Le.trans (by assumption) (by assumption)) ?_
  refine AtC.nz ?_
  refine AtT.storeA rfl trivial rfl rfl tk69 rfl rfl (by rfl) (by repeat (first | exact Upd.here | apply Upd.there)) ?_
  refine AtC.go (by repeat (first | exact Pt.nil | refine Pt.cons (by repeat (first | exact Pick.here | apply Pick.there)) ?_)) (by first | exact Le.refl _ | assumption | exact Le.trans (by assumption) (by assumption)) ?_
  refine AtC.done ?_
  refine At.nrm ?_
  all_goals (refine At.sub (ks' := [(3, .pointer (some ⟨b3, 0, none⟩)), (4, .pointer (some ⟨b4, 0, none⟩)), (6, .pointer (some ⟨b6, 0, none⟩)), (7, iv (lftP L p)), (8, iv (rgtP L p)), (9, .pointer (some ⟨b9, 0, none⟩)), (10, .pointer (some ⟨b10, 0, none⟩))]) ⟨rfl, rfl, rfl, rfl, rfl, rfl, rfl, trivial⟩ ?_)
  refine At.text (.q 0 (.q 1 (.q 2 .done))) (by kernel_rfl) ?_
  first | refine AtT.fieldO rfl trivial rfl fo45_3 (by decide) ?_ | with_reducible refine AtT.field2 rfl trivial rfl fo45_3 (by decide) ?_ | refine AtT.field rfl trivial rfl fo45_3 (by decide) ?_
  first | refine AtT.loadO rfl trivial rfl tk3 (by repeat (first | exact Pick.here | apply Pick.there)) (by rfl) (by decide) ?_ | refine AtT.load rfl trivial rfl tk3 (by first | exact vcell_of (by assumption) (by rfl) | exact vcell_of0 (by assumption) (by rfl) | exact vcell_of (Cells.le (by assumption) (by assumption)) (by rfl) | exact vcell_of0 (Cells.le (by assumption) (by assumption)) (by rfl)) (by decide) ?_
  refine AtT.eqI rfl trivial rfl rfl (by decide) ?_
  refine AtT.done ?_
  refine At.nrm ?_
  refine At.condP rfl (fun hs => ?_) (fun hs => ?_)
  · have hN : provN L p = ((edP L p.m).hi - (edP L p.f).lo) * rgtP L p + ((edP L p.m).hi - (edP L p.l).lo) * lftP L p := by
      rw [provN, if_neg hfl, if_pos hs]
    rw [hN]
    refine At.nrm ?_
    refine At.text (.q 0 (.q 1 (.q 2 (.q 3 (.q 4 (.q 5 (.q 6 (.q 7 (.q 8 (.q 9 (.q 10 (.q 11 (.q 12 (.q 13 (.q 14 (.q 15 (.q 16 (.q 17 (.q 18 (.n false 19 (.n true 20 .done))))))))))))))))))))) (by kernel_rfl) ?_
    first | refine AtT.fieldO rfl trivial rfl fo69_1 (by decide) ?_ | with_reducible refine AtT.field2 rfl trivial rfl fo69_1 (by decide) ?_ | refine AtT.field rfl trivial rfl fo69_1 (by decide) ?_
    first | refine AtT.loadO rfl trivial rfl tk2 (by repeat (first | exact Pick.here | apply Pick.there)) (by rfl) (by decide) ?_ | refine AtT.load rfl trivial rfl tk2 (by first | exact vcell_of (by assumption) (by rfl) | exact vcell_of0 (by assumption) (by rfl) | exact vcell_of (Cells.le (by assumption) (by assumption)) (by rfl) | exact vcell_of0 (Cells.le (by assumption) (by assumption)) (by rfl)) (by decide) ?_
    first | refine AtT.fieldO rfl trivial rfl fo69_0 (by decide) ?_ | with_reducible refine AtT.field2 rfl trivial rfl fo69_0 (by decide) ?_ | refine AtT.field rfl trivial rfl fo69_0 (by decide) ?_
    first | refine AtT.loadO rfl trivial rfl tk2 (by repeat (first | exact Pick.here | apply Pick.there)) (by rfl) (by decide) ?_ | refine AtT.load rfl trivial rfl tk2 (by first | exact vcell_of (by assumption) (by rfl) | exact vcell_of0 (by assumption) (by rfl) | exact vcell_of (Cells.le (by assumption) (by assumption)) (by rfl) | exact vcell_of0 (Cells.le (by assumption) (by assumption)) (by rfl)) (by decide) ?_
    first | refine AtT.subt rfl trivial rfl rfl (by decide) (by first | assumption | exact Fit.of (by omega) (by omega)) ?_ | refine AtT.subW rfl trivial rfl rfl (by decide) ?_
    refine AtT.move rfl trivial rfl (by decide) ?_
    first | refine AtT.mul rfl trivial rfl rfl (by decide) (by first | assumption | exact Fit.of (by omega) (by omega)) ?_ | refine AtT.mulW rfl trivial rfl rfl (by decide) ?_
    first | refine AtT.fieldO rfl trivial rfl fo69_1 (by decide) ?_ | with_reducible refine AtT.field2 rfl trivial rfl fo69_1 (by decide) ?_ | refine AtT.field rfl trivial rfl fo69_1 (by decide) ?_
    first | refine AtT.loadO rfl trivial rfl tk2 (by repeat (first | exact Pick.here | apply Pick.there)) (by rfl) (by decide) ?_ | refine AtT.load rfl trivial rfl tk2 (by first | exact vcell_of (by assumption) (by rfl) | exact vcell_of0 (by assumption) (by rfl) | exact vcell_of (Cells.le (by assumption) (by assumption)) (by rfl) | exact vcell_of0 (Cells.le (by assumption) (by assumption)) (by rfl)) (by decide) ?_
    first | refine AtT.fieldO rfl trivial rfl fo69_0 (by decide) ?_ | with_reducible refine AtT.field2 rfl trivial rfl fo69_0 (by decide) ?_ | refine AtT.field rfl trivial rfl fo69_0 (by decide) ?_
    first | refine AtT.loadO rfl trivial rfl tk2 (by repeat (first | exact Pick.here | apply Pick.there)) (by rfl) (by decide) ?_ | refine AtT.load rfl trivial rfl tk2 (by first | exact vcell_of (by assumption) (by rfl) | exact vcell_of0 (by assumption) (by rfl) | exact vcell_of (Cells.le (by assumption) (by assumption)) (by rfl) | exact vcell_of0 (Cells.le (by assumption) (by assumption)) (by rfl)) (by decide) ?_
    first | refine AtT.subt rfl trivial rfl rfl (by decide) (by first | assumption | exact Fit.of (by omega) (by omega)) ?_ | refine AtT.subW rfl trivial rfl rfl (by decide) ?_
    refine AtT.move rfl trivial rfl (by decide) ?_
    first | refine AtT.mul rfl trivial rfl rfl (by decide) (by first | assumption | exact Fit.of (by omega) (by omega)) ?_ | refine AtT.mulW rfl trivial rfl rfl (by decide) ?_
    first | refine AtT.add rfl trivial rfl rfl (by decide) (by first | assumption | exact Fit.of (by omega) (by omega)) ?_ | refine AtT.addW rfl trivial rfl rfl (by decide) ?_
    refine AtT.move rfl trivial rfl (by decide) ?_
    refine AtT.move rfl trivial rfl (by decide) ?_
    first | refine AtT.add rfl trivial rfl rfl (by decide) (by first | assumption | exact Fit.of (by omega) (by omega)) ?_ | refine AtT.addW rfl trivial rfl rfl (by decide) ?_
    first | refine AtT.mul rfl trivial rfl rfl (by decide) (by first | assumption | exact Fit.of (by omega) (by omega)) ?_ | refine AtT.mulW rfl trivial rfl rfl (by decide) ?_
    refine AtT.callP rfl trivial rfl ok76 (by decide) (by_f _ _ _ (by omega) (by omega) (by omega) (by omega)) ?_
    rintro _ rfl
    refine AtT.storeA rfl trivial rfl rfl tk31 rfl rfl (by rfl) (by repeat (first | exact Upd.here | apply Upd.there)) ?_
    refine AtT.done ?_
    refine At.nrm ?_
    exact At.ret1 rfl (.agg rfl tk31 (by repeat (first | exact Pick.here | apply Pick.there)) rfl) rfl
  · have hN : provN L p = ((edP L p.f).hi - (edP L p.m).lo) * rgtP L p + ((edP L p.l).hi - (edP L p.m).lo) * lftP L p := by
      rw [provN, if_neg hfl, if_neg hs]
    rw [hN]
    refine At.nrm ?_
    refine At.text (.q 0 (.q 1 (.q 2 (.q 3 (.q 4 (.q 5 (.q 6 (.q 7 (.q 8 (.q 9 (.q 10 (.q 11 (.q 12 (.q 13 (.q 14 (.q 15 (.q 16 (.q 17 (.q 18 (.n false 19 (.n true 20 .done))))))))))))))))))))) (by kernel_rfl) ?_
    first | refine AtT.fieldO rfl trivial rfl fo69_1 (by decide) ?_ | with_reducible refine AtT.field2 rfl trivial rfl fo69_1 (by decide) ?_ | refine AtT.field rfl trivial rfl fo69_1 (by decide) ?_
    first | refine AtT.loadO rfl trivial rfl tk2 (by repeat (first | exact Pick.here | apply Pick.there)) (by rfl) (by decide) ?_ | refine AtT.load rfl trivial rfl tk2 (by first | exact vcell_of (by assumption) (by rfl) | exact vcell_of0 (by assumption) (by rfl) | exact vcell_of (Cells.le (by assumption) (by assumption)) (by rfl) | exact vcell_of0 (Cells.le (by assumption) (by assumption)) (by rfl)) (by decide) ?_
    first | refine AtT.fieldO rfl trivial rfl fo69_0 (by decide) ?_ | with_reducible refine AtT.field2 rfl trivial rfl fo69_0 (by decide) ?_ | refine AtT.field rfl trivial rfl fo69_0 (by decide) ?_
    first | refine AtT.loadO rfl trivial rfl tk2 (by repeat (first | exact Pick.here | apply Pick.there)) (by rfl) (by decide) ?_ | refine AtT.load rfl trivial rfl tk2 (by first | exact vcell_of (by assumption) (by rfl) | exact vcell_of0 (by assumption) (by rfl) | exact vcell_of (Cells.le (by assumption) (by assumption)) (by rfl) | exact vcell_of0 (Cells.le (by assumption) (by assumption)) (by rfl)) (by decide) ?_
    first | refine AtT.subt rfl trivial rfl rfl (by decide) (by first | assumption | exact Fit.of (by omega) (by omega)) ?_ | refine AtT.subW rfl trivial rfl rfl (by decide) ?_
    refine AtT.move rfl trivial rfl (by decide) ?_
    first | refine AtT.mul rfl trivial rfl rfl (by decide) (by first | assumption | exact Fit.of (by omega) (by omega)) ?_ | refine AtT.mulW rfl trivial rfl rfl (by decide) ?_
    first | refine AtT.fieldO rfl trivial rfl fo69_1 (by decide) ?_ | with_reducible refine AtT.field2 rfl trivial rfl fo69_1 (by decide) ?_ | refine AtT.field rfl trivial rfl fo69_1 (by decide) ?_
    first | refine AtT.loadO rfl trivial rfl tk2 (by repeat (first | exact Pick.here | apply Pick.there)) (by rfl) (by decide) ?_ | refine AtT.load rfl trivial rfl tk2 (by first | exact vcell_of (by assumption) (by rfl) | exact vcell_of0 (by assumption) (by rfl) | exact vcell_of (Cells.le (by assumption) (by assumption)) (by rfl) | exact vcell_of0 (Cells.le (by assumption) (by assumption)) (by rfl)) (by decide) ?_
    first | refine AtT.fieldO rfl trivial rfl fo69_0 (by decide) ?_ | with_reducible refine AtT.field2 rfl trivial rfl fo69_0 (by decide) ?_ | refine AtT.field rfl trivial rfl fo69_0 (by decide) ?_
    first | refine AtT.loadO rfl trivial rfl tk2 (by repeat (first | exact Pick.here | apply Pick.there)) (by rfl) (by decide) ?_ | refine AtT.load rfl trivial rfl tk2 (by first | exact vcell_of (by assumption) (by rfl) | exact vcell_of0 (by assumption) (by rfl) | exact vcell_of (Cells.le (by assumption) (by assumption)) (by rfl) | exact vcell_of0 (Cells.le (by assumption) (by assumption)) (by rfl)) (by decide) ?_
    first | refine AtT.subt rfl trivial rfl rfl (by decide) (by first | assumption | exact Fit.of (by omega) (by omega)) ?_ | refine AtT.subW rfl trivial rfl rfl (by decide) ?_
    refine AtT.move rfl trivial rfl (by decide) ?_
    first | refine AtT.mul rfl trivial rfl rfl (by decide) (by first | assumption | exact Fit.of (by omega) (by omega)) ?_ | refine AtT.mulW rfl trivial rfl rfl (by decide) ?_
    first | refine AtT.add rfl trivial rfl rfl (by decide) (by first | assumption | exact Fit.of (by omega) (by omega)) ?_ | refine AtT.addW rfl trivial rfl rfl (by decide) ?_
    refine AtT.move rfl trivial rfl (by decide) ?_
    refine AtT.move rfl trivial rfl (by decide) ?_
    first | refine AtT.add rfl trivial rfl rfl (by decide) (by first | assumption | exact Fit.of (by omega) (by omega)) ?_ | refine AtT.addW rfl trivial rfl rfl (by decide) ?_
    first | refine AtT.mul rfl trivial rfl rfl (by decide) (by first | assumption | exact Fit.of (by omega) (by omega)) ?_ | refine AtT.mulW rfl trivial rfl rfl (by decide) ?_
    refine AtT.callP rfl trivial rfl ok76 (by decide) (by_f _ _ _ (by omega) (by omega) (by omega) (by omega)) ?_
    rintro _ rfl
    refine AtT.storeA rfl trivial rfl rfl tk31 rfl rfl (by rfl) (by repeat (first | exact Upd.here | apply Upd.there)) ?_
    refine AtT.done ?_
    refine At.nrm ?_
    exact At.ret1 rfl (.agg rfl tk31 (by repeat (first | exact Pick.here | apply Pick.there)) rfl) rfl
end Go.Proofs.Ytnionkopmncopaa
set_option linter.unusedVariables false
namespace Go.Proofs.Ytnionkopmncopaa
open Go.Lw Go.Pl Go.RowKit

def checkR (L : Lg) (p : Pf) : Rt × Int := if logE L ≠ 0 then (⟨0, 0⟩, logE L) else if shapedB L p = false then (⟨0, 0⟩, 2) else (provV L p, 0)

theorem check_q (L : Lg) (p : Pf) (V : View) (v : Value) (hv : LogV V v L) : Fnc Try.prog 32 [v, pfv p] V fun r _ => r = .tuple #[rtv (checkR L p).1, iv (checkR L p).2] := by
  have hv' := hv
  obtain ⟨a, c, a', c', rfl, h2, h3⟩ := hv
  refine fn_of Try.func32 rfl Try.ntmps32 (Nat.le_of_ble_eq_true rfl) ?_
  intro w0 hw0
  refine At.nrm ?_
  refine At.text (.n false 0 (.n false 1 (.n false 2 (.q 3 .done)))) (by kernel_rfl) ?_
  refine AtT.box rfl trivial rfl rfl (by decide) ?_
  intro b2
  refine AtT.box rfl trivial rfl rfl (by decide) ?_
  intro b3
  refine AtT.alloc rfl trivial z31 rfl (by decide) ?_
  intro b4
  refine AtT.assign rfl trivial rfl (by decide) ?_
  refine AtT.done ?_
  refine At.nrm ?_
  refine At.text (.q 0 (.n false 1 (.q 2 .done))) (by kernel_rfl) ?_
  first | refine AtT.loadOA rfl trivial rfl tk25 (by repeat (first | exact Pick.here | apply Pick.there)) (by rfl) (by decide) ?_ | refine AtT.loadA rfl trivial rfl tk25 (by first | assumption | exact Cells.le (by assumption) (by assumption)) (by rfl) (by decide) ?_ | refine AtT.loadOP rfl trivial rfl tk25 (by repeat (first | exact Pick.here | apply Pick.there)) (by rfl) (by rfl) (by decide) ?_
  refine AtT.callP rfl trivial rfl ok23 (by decide) (rcheckLog_f L _ _ hv') ?_
  rintro _ rfl
  refine AtT.neI rfl trivial rfl rfl (by decide) ?_
  refine AtT.done ?_
  refine At.nrm ?_
  refine At.condP rfl (fun hb => ?_) (fun hb => ?_)
  · refine At.nrm ?_
    refine At.text (.q 0 (.q 1 (.n false 2 (.n true 3 (.q 4 .done))))) (by kernel_rfl) ?_
    refine AtT.build rfl trivial rfl (bd31) (by decide) ?_
    first | refine AtT.loadOA rfl trivial rfl tk25 (by repeat (first | exact Pick.here | apply Pick.there)) (by rfl) (by decide) ?_ | refine AtT.loadA rfl trivial rfl tk25 (by first | assumption | exact Cells.le (by assumption) (by assumption)) (by rfl) (by decide) ?_ | refine AtT.loadOP rfl trivial rfl tk25 (by repeat (first | exact Pick.here | apply Pick.there)) (by rfl) (by rfl) (by decide) ?_
    refine AtT.callP rfl trivial rfl ok23 (by decide) (rcheckLog_f L _ _ hv') ?_
    rintro _ rfl
    refine AtT.storeA rfl trivial rfl rfl tk31 rfl rfl (by rfl) (by repeat (first | exact Upd.here | apply Upd.there)) ?_
    refine AtT.assign rfl trivial rfl (by decide) ?_
    refine AtT.done ?_
    refine At.nrm ?_
    refine At.ret2 rfl (.agg rfl tk31 (by repeat (first | exact Pick.here | apply Pick.there)) rfl) (.tmp rfl) ?_
    rw [checkR, if_pos hb]
  · have he : logE L = 0 := by simpa using hb
    refine At.nrm ?_
    refine At.text (.q 0 (.q 1 (.n false 2 (.q 3 .done)))) (by kernel_rfl) ?_
    first | refine AtT.loadOA rfl trivial rfl tk25 (by repeat (first | exact Pick.here | apply Pick.there)) (by rfl) (by decide) ?_ | refine AtT.loadA rfl trivial rfl tk25 (by first | assumption | exact Cells.le (by assumption) (by assumption)) (by rfl) (by decide) ?_ | refine AtT.loadOP rfl trivial rfl tk25 (by repeat (first | exact Pick.here | apply Pick.there)) (by rfl) (by rfl) (by decide) ?_
    first | refine AtT.loadOA rfl trivial rfl tk45 (by repeat (first | exact Pick.here | apply Pick.there)) (by rfl) (by decide) ?_ | refine AtT.loadA rfl trivial rfl tk45 (by first | assumption | exact Cells.le (by assumption) (by assumption)) (by rfl) (by decide) ?_ | refine AtT.loadOP rfl trivial rfl tk45 (by repeat (first | exact Pick.here | apply Pick.there)) (by rfl) (by rfl) (by decide) ?_
    refine AtT.callP rfl trivial rfl ok68 (by decide) (shaped_f L p _ _ hv') ?_
    rintro _ rfl
    refine AtT.not rfl trivial rfl (by decide) ?_
    refine AtT.done ?_
    refine At.nrm ?_
    refine At.cond rfl (fun hb => ?_) (fun hb => ?_)
    · refine At.nrm ?_
      refine At.text (.q 0 (.n true 1 (.q 2 .done))) (by kernel_rfl) ?_
      refine AtT.build rfl trivial rfl (bd31) (by decide) ?_
      refine AtT.storeA rfl trivial rfl rfl tk31 rfl rfl (by rfl) (by repeat (first | exact Upd.here | apply Upd.there)) ?_
      refine AtT.assign rfl trivial rfl (by decide) ?_
      refine AtT.done ?_
      refine At.nrm ?_
      refine At.ret2 rfl (.agg rfl tk31 (by repeat (first | exact Pick.here | apply Pick.there)) rfl) (.tmp rfl) ?_
      rw [checkR, if_neg (by simp [he]), if_pos (by simpa using hb)]
    · have hs : shapedB L p = true := by simpa using hb
      refine At.nrm ?_
      refine At.text (.q 0 (.q 1 (.n false 2 (.n true 3 (.q 4 .done))))) (by kernel_rfl) ?_
      first | refine AtT.loadOA rfl trivial rfl tk25 (by repeat (first | exact Pick.here | apply Pick.there)) (by rfl) (by decide) ?_ | refine AtT.loadA rfl trivial rfl tk25 (by first | assumption | exact Cells.le (by assumption) (by assumption)) (by rfl) (by decide) ?_ | refine AtT.loadOP rfl trivial rfl tk25 (by repeat (first | exact Pick.here | apply Pick.there)) (by rfl) (by rfl) (by decide) ?_
      first | refine AtT.loadOA rfl trivial rfl tk45 (by repeat (first | exact Pick.here | apply Pick.there)) (by rfl) (by decide) ?_ | refine AtT.loadA rfl trivial rfl tk45 (by first | assumption | exact Cells.le (by assumption) (by assumption)) (by rfl) (by decide) ?_ | refine AtT.loadOP rfl trivial rfl tk45 (by repeat (first | exact Pick.here | apply Pick.there)) (by rfl) (by rfl) (by decide) ?_
      refine AtT.callP rfl trivial rfl ok69 (by decide) (rproves_f L p _ _ hv' (logE_ok he) ((shapedB_iff L p).1 hs)) ?_
      rintro _ rfl
      refine AtT.storeA rfl trivial rfl rfl tk31 rfl rfl (by rfl) (by repeat (first | exact Upd.here | apply Upd.there)) ?_
      refine AtT.assign rfl trivial rfl (by decide) ?_
      refine AtT.done ?_
      refine At.nrm ?_
      refine At.ret2 rfl (.agg rfl tk31 (by repeat (first | exact Pick.here | apply Pick.there)) rfl) (.tmp rfl) ?_
      rw [checkR, if_neg (by simp [he]), if_neg (by simp [hs])]

theorem check_p (L : Lg) (p : Pf) (V : View) (v : Value) (hv : LogV V v L) : Fnc Try.prog 31 [v, pfv p] V fun r _ => r = .tuple #[rtv (checkR L p).1, iv (checkR L p).2] := by
  have hv' := hv
  obtain ⟨a, c, a', c', rfl, h2, h3⟩ := hv
  have hlen := h2.lenLe
  refine fn_of Try.func31 rfl Try.ntmps31 (Nat.le_of_ble_eq_true rfl) ?_
  intro w0 hw0
  refine At.nrm ?_
  refine At.text (.n false 0 (.n false 1 (.n false 2 (.q 3 .done)))) (by kernel_rfl) ?_
  refine AtT.box rfl trivial rfl rfl (by decide) ?_
  intro b2
  refine AtT.box rfl trivial rfl rfl (by decide) ?_
  intro b3
  refine AtT.alloc rfl trivial z31 rfl (by decide) ?_
  intro b4
  refine AtT.assign rfl trivial rfl (by decide) ?_
  refine AtT.done ?_
  refine At.nrm ?_
  refine At.text (.q 0 (.n false 1 (.q 2 (.q 3 (.q 4 (.q 5 (.q 6 .done))))))) (by kernel_rfl) ?_
  first | refine AtT.loadOA rfl trivial rfl tk25 (by repeat (first | exact Pick.here | apply Pick.there)) (by rfl) (by decide) ?_ | refine AtT.loadA rfl trivial rfl tk25 (by first | assumption | exact Cells.le (by assumption) (by assumption)) (by rfl) (by decide) ?_ | refine AtT.loadOP rfl trivial rfl tk25 (by repeat (first | exact Pick.here | apply Pick.there)) (by rfl) (by rfl) (by decide) ?_
  all_goals (refine AtT.call rfl trivial rfl ok59 (by decide) (open_f L _ _ hv') ?_)
  all_goals (rintro _ V1 hV1 (⟨he, rfl⟩ | ⟨he, q, rfl, hq⟩))
  all_goals (refine AtT.move rfl trivial rfl (by decide) ?_)
  all_goals (refine AtT.extract rfl trivial rfl (by rfl) (by decide) ?_)
  all_goals (refine AtT.extract rfl trivial rfl (by rfl) (by decide) ?_)
  all_goals (refine AtT.assign rfl trivial rfl (by decide) ?_)
  all_goals (refine AtT.assign rfl trivial rfl (by decide) ?_)
  all_goals refine AtT.done ?_
  all_goals (refine At.nrm ?_)
  · refine At.text (.q 0 (.q 1 .done)) (by kernel_rfl) ?_
    refine AtT.move rfl trivial rfl (by decide) ?_
    refine AtT.neI rfl trivial rfl rfl (by decide) ?_
    refine AtT.done ?_
    refine At.nrm ?_
    refine At.condP rfl (fun hb => ?_) (fun hb => absurd he hb)
    refine At.nrm ?_
    refine At.text (.q 0 (.q 1 (.n true 2 (.q 3 .done)))) (by kernel_rfl) ?_
    refine AtT.build rfl trivial rfl (bd31) (by decide) ?_
    refine AtT.move rfl trivial rfl (by decide) ?_
    refine AtT.storeA rfl trivial rfl rfl tk31 rfl rfl (by rfl) (by repeat (first | exact Upd.here | apply Upd.there)) ?_
    refine AtT.assign rfl trivial rfl (by decide) ?_
    refine AtT.done ?_
    refine At.nrm ?_
    refine At.ret2 rfl (.agg rfl tk31 (by repeat (first | exact Pick.here | apply Pick.there)) rfl) (.tmp rfl) ?_
    rw [checkR, if_pos he]
  · refine At.text (.q 0 (.q 1 .done)) (by kernel_rfl) ?_
    refine AtT.move rfl trivial rfl (by decide) ?_
    refine AtT.neI rfl trivial rfl rfl (by decide) ?_
    refine AtT.done ?_
    refine At.nrm ?_
    refine At.condF rfl rfl ?_
    refine At.nrm ?_
    refine At.text (.q 0 (.q 1 (.q 2 (.q 3 (.q 4 .done))))) (by kernel_rfl) ?_
    first | refine AtT.fieldO rfl trivial rfl fo25_0 (by decide) ?_ | with_reducible refine AtT.field2 rfl trivial rfl fo25_0 (by decide) ?_ | refine AtT.field rfl trivial rfl fo25_0 (by decide) ?_
    first | refine AtT.loadO rfl trivial rfl tk22 (by repeat (first | exact Pick.here | apply Pick.there)) (by rfl) (by decide) ?_ | refine AtT.load rfl trivial rfl tk22 (by first | exact vcell_of (by assumption) (by rfl) | exact vcell_of0 (by assumption) (by rfl) | exact vcell_of (Cells.le (by assumption) (by assumption)) (by rfl) | exact vcell_of0 (Cells.le (by assumption) (by assumption)) (by rfl)) (by decide) ?_
    first | refine AtT.lenS rfl trivial Try.underlying22 rfl (by first | assumption | exact Sl.le (by assumption) (by assumption)) (by decide) ?_ | refine AtT.lenR rfl trivial Try.underlying22 rfl (by decide) ?_
    first | refine AtT.subt rfl trivial rfl rfl (by decide) (by first | assumption | exact Fit.of (by omega) (by omega)) ?_ | refine AtT.subW rfl trivial rfl rfl (by decide) ?_
    refine AtT.assign rfl trivial rfl (by decide) ?_
    refine AtT.done ?_
    refine At.nrm ?_
    refine At.draw (.q 0 (.q 1 (.q 2 (.q 3 (.q 4 (.q 5 (.q 6 (.q 7 (.q 8 .done))))))))) ffm (by kernel_rfl) ?_
    first | refine AtT.fieldO rfl trivial rfl fo45_0 (by decide) ?_ | with_reducible refine AtT.field2 rfl trivial rfl fo45_0 (by decide) ?_ | refine AtT.field rfl trivial rfl fo45_0 (by decide) ?_
    first | refine AtT.loadO rfl trivial rfl tk3 (by repeat (first | exact Pick.here | apply Pick.there)) (by rfl) (by decide) ?_ | refine AtT.load rfl trivial rfl tk3 (by first | exact vcell_of (by assumption) (by rfl) | exact vcell_of0 (by assumption) (by rfl) | exact vcell_of (Cells.le (by assumption) (by assumption)) (by rfl) | exact vcell_of0 (Cells.le (by assumption) (by assumption)) (by rfl)) (by decide) ?_
    first | refine AtT.fieldO rfl trivial rfl fo45_1 (by decide) ?_ | with_reducible refine AtT.field2 rfl trivial rfl fo45_1 (by decide) ?_ | refine AtT.field rfl trivial rfl fo45_1 (by decide) ?_
    first | refine AtT.loadO rfl trivial rfl tk3 (by repeat (first | exact Pick.here | apply Pick.there)) (by rfl) (by decide) ?_ | refine AtT.load rfl trivial rfl tk3 (by first | exact vcell_of (by assumption) (by rfl) | exact vcell_of0 (by assumption) (by rfl) | exact vcell_of (Cells.le (by assumption) (by assumption)) (by rfl) | exact vcell_of0 (Cells.le (by assumption) (by assumption)) (by rfl)) (by decide) ?_
    first | refine AtT.fieldO rfl trivial rfl fo45_2 (by decide) ?_ | with_reducible refine AtT.field2 rfl trivial rfl fo45_2 (by decide) ?_ | refine AtT.field rfl trivial rfl fo45_2 (by decide) ?_
    first | refine AtT.loadO rfl trivial rfl tk3 (by repeat (first | exact Pick.here | apply Pick.there)) (by rfl) (by decide) ?_ | refine AtT.load rfl trivial rfl tk3 (by first | exact vcell_of (by assumption) (by rfl) | exact vcell_of0 (by assumption) (by rfl) | exact vcell_of (Cells.le (by assumption) (by assumption)) (by rfl) | exact vcell_of0 (Cells.le (by assumption) (by assumption)) (by rfl)) (by decide) ?_
    refine AtT.assign rfl trivial rfl (by decide) ?_
    refine AtT.assign rfl trivial rfl (by decide) ?_
    refine AtT.assign rfl trivial rfl (by decide) ?_
    refine AtT.done ?_
    refine At.nrm ?_
    refine At.cutG (ι := Unit) (fun _ => [(3, .pointer (some ⟨b3, 0, none⟩)), (4, .pointer (some ⟨b4, 0, none⟩)), (6, .pointer (some q)), (8, iv ((L.pl.length : Int) - 1)), (9, iv p.f), (10, iv p.m), (11, iv p.l), (12, .bool (decide (p.f = p.l ∧ p.m = p.f ∧ p.s = 0)))])
      (fun _ => [.blk b3 (LC [iv p.f, iv p.m, iv p.l, iv p.s] 45), .blk b4 (LC [iv 0, iv 0] 31)]) (fun _ V' => V1 = V') ?_ ?_
    · refine At.text (.q 0 (.q 1 (.q 2 (.q 3 (.q 4 (.q 5 (.q 6 (.q 7 (.q 8 (.q 9 (.q 10 (.q 11 (.q 12 (.q 13 (.q 14 (.q 15 (.q 16 (.q 17 .done)))))))))))))))))) (by kernel_rfl) ?_
      first | refine AtT.fieldO rfl trivial rfl fo45_0 (by decide) ?_ | with_reducible refine AtT.field2 rfl trivial rfl fo45_0 (by decide) ?_ | refine AtT.field rfl trivial rfl fo45_0 (by decide) ?_
      first | refine AtT.loadO rfl trivial rfl tk3 (by repeat (first | exact Pick.here | apply Pick.there)) (by rfl) (by decide) ?_ | refine AtT.load rfl trivial rfl tk3 (by first | exact vcell_of (by assumption) (by rfl) | exact vcell_of0 (by assumption) (by rfl) | exact vcell_of (Cells.le (by assumption) (by assumption)) (by rfl) | exact vcell_of0 (Cells.le (by assumption) (by assumption)) (by rfl)) (by decide) ?_
      first | refine AtT.fieldO rfl trivial rfl fo45_2 (by decide) ?_ | with_reducible refine AtT.field2 rfl trivial rfl fo45_2 (by decide) ?_ | refine AtT.field rfl trivial rfl fo45_2 (by decide) ?_
      first | refine AtT.loadO rfl trivial rfl tk3 (by repeat (first | exact Pick.here | apply Pick.there)) (by rfl) (by decide) ?_ | refine AtT.load rfl trivial rfl tk3 (by first | exact vcell_of (by assumption) (by rfl) | exact vcell_of0 (by assumption) (by rfl) | exact vcell_of (Cells.le (by assumption) (by assumption)) (by rfl) | exact vcell_of0 (Cells.le (by assumption) (by assumption)) (by rfl)) (by decide) ?_
      refine AtT.eqI rfl trivial rfl rfl (by decide) ?_
      refine AtT.move rfl trivial rfl (by decide) ?_
      all_goals (first | refine AtT.litT (d := 37) rfl ?_ | refine AtT.litF (d := 37) rfl ?_ | refine AtT.litU (d := 37) rfl ?_ | refine AtT.pcase (d := 37) rfl (fun hg37 => ?_) (fun hg37 => ?_) | refine AtT.bcase (d := 37) rfl (fun hg37 => ?_) (fun hg37 => ?_))
      all_goals (first | refine AtT.pass rfl rfl rfl rfl rfl rfl (by decide) ?_ | refine AtT.passU rfl rfl rfl rfl rfl rfl (by decide) ?_ | ((first | refine AtT.fieldO rfl ⟨_, _, rfl, rfl, rfl⟩ rfl fo45_1 (by decide) ?_ | with_reducible refine AtT.field2 rfl ⟨_, _, rfl, rfl, rfl⟩ rfl fo45_1 (by decide) ?_ | refine AtT.field rfl ⟨_, _, rfl, rfl, rfl⟩ rfl fo45_1 (by decide) ?_)))
      all_goals (first | refine AtT.pass rfl rfl rfl rfl rfl rfl (by decide) ?_ | refine AtT.passU rfl rfl rfl rfl rfl rfl (by decide) ?_ | ((first | refine AtT.loadO rfl ⟨_, _, rfl, rfl, rfl⟩ rfl tk3 (by repeat (first | exact Pick.here | apply Pick.there)) (by rfl) (by decide) ?_ | refine AtT.load rfl ⟨_, _, rfl, rfl, rfl⟩ rfl tk3 (by first | exact vcell_of (by assumption) (by rfl) | exact vcell_of0 (by assumption) (by rfl) | exact vcell_of (Cells.le (by assumption) (by assumption)) (by rfl) | exact vcell_of0 (Cells.le (by assumption) (by assumption)) (by rfl)) (by decide) ?_)))
      all_goals (first | refine AtT.pass rfl rfl rfl rfl rfl rfl (by decide) ?_ | refine AtT.passU rfl rfl rfl rfl rfl rfl (by decide) ?_ | ((first | refine AtT.fieldO rfl ⟨_, _, rfl, rfl, rfl⟩ rfl fo45_0 (by decide) ?_ | with_reducible refine AtT.field2 rfl ⟨_, _, rfl, rfl, rfl⟩ rfl fo45_0 (by decide) ?_ | refine AtT.field rfl ⟨_, _, rfl, rfl, rfl⟩ rfl fo45_0 (by decide) ?_)))
      all_goals (first | refine AtT.pass rfl rfl rfl rfl rfl rfl (by decide) ?_ | refine AtT.passU rfl rfl rfl rfl rfl rfl (by decide) ?_ | ((first | refine AtT.loadO rfl ⟨_, _, rfl, rfl, rfl⟩ rfl tk3 (by repeat (first | exact Pick.here | apply Pick.there)) (by rfl) (by decide) ?_ | refine AtT.load rfl ⟨_, _, rfl, rfl, rfl⟩ rfl tk3 (by first | exact vcell_of (by assumption) (by rfl) | exact vcell_of0 (by assumption) (by rfl) | exact vcell_of (Cells.le (by assumption) (by assumption)) (by rfl) | exact vcell_of0 (Cells.le (by assumption) (by assumption)) (by rfl)) (by decide) ?_)))
      all_goals (first | refine AtT.pass rfl rfl rfl rfl rfl rfl (by decide) ?_ | refine AtT.passU rfl rfl rfl rfl rfl rfl (by decide) ?_ | ((refine AtT.eqI rfl ⟨_, _, rfl, rfl, rfl⟩ rfl rfl (by decide) ?_)))
      all_goals (refine AtT.pick rfl trivial rfl rfl rfl (by decide) ?_)
      all_goals (refine AtT.move rfl trivial rfl (by decide) ?_)
      all_goals (first | refine AtT.litT (d := 44) rfl ?_ | refine AtT.litF (d := 44) rfl ?_ | refine AtT.litU (d := 44) rfl ?_ | refine AtT.pcase (d := 44) rfl (fun hg44 => ?_) (fun hg44 => ?_) | refine AtT.bcase (d := 44) rfl (fun hg44 => ?_) (fun hg44 => ?_))
      all_goals (first | refine AtT.pass rfl rfl rfl rfl rfl rfl (by decide) ?_ | refine AtT.passU rfl rfl rfl rfl rfl rfl (by decide) ?_ | ((first | refine AtT.fieldO rfl ⟨_, _, rfl, rfl, rfl⟩ rfl fo45_3 (by decide) ?_ | with_reducible refine AtT.field2 rfl ⟨_, _, rfl, rfl, rfl⟩ rfl fo45_3 (by decide) ?_ | refine AtT.field rfl ⟨_, _, rfl, rfl, rfl⟩ rfl fo45_3 (by decide) ?_)))
      all_goals (first | refine AtT.pass rfl rfl rfl rfl rfl rfl (by decide) ?_ | refine AtT.passU rfl rfl rfl rfl rfl rfl (by decide) ?_ | ((first | refine AtT.loadO rfl ⟨_, _, rfl, rfl, rfl⟩ rfl tk3 (by repeat (first | exact Pick.here | apply Pick.there)) (by rfl) (by decide) ?_ | refine AtT.load rfl ⟨_, _, rfl, rfl, rfl⟩ rfl tk3 (by first | exact vcell_of (by assumption) (by rfl) | exact vcell_of0 (by assumption) (by rfl) | exact vcell_of (Cells.le (by assumption) (by assumption)) (by rfl) | exact vcell_of0 (Cells.le (by assumption) (by assumption)) (by rfl)) (by decide) ?_)))
      all_goals (first | refine AtT.pass rfl rfl rfl rfl rfl rfl (by decide) ?_ | refine AtT.passU rfl rfl rfl rfl rfl rfl (by decide) ?_ | ((refine AtT.eqI rfl ⟨_, _, rfl, rfl, rfl⟩ rfl rfl (by decide) ?_)))
      all_goals (refine AtT.pick rfl trivial rfl rfl rfl (by decide) ?_)
      all_goals (refine AtT.assign rfl trivial rfl (by decide) ?_)
      all_goals refine AtT.done ?_
      all_goals (refine At.nrm ?_)
      all_goals (refine At.meetG () rfl ⟨rfl, rfl, rfl, rfl, rfl, rfl, rfl, bsome ?_, trivial⟩ ?_)
      all_goals (first | (repeat (first | exact Pt.nil | refine Pt.cons (by repeat (first | exact Pick.here | apply Pick.there)) ?_)); done | skip)
      all_goals (first | (rw [Bool.eq_iff_iff]; simp [*]; done) | (rw [Bool.eq_iff_iff]; simp [*]; omega) | simp [*])
    rintro _ _ ks' O' rfl hk hO hl
    subst hk hO
    refine At.nrm ?_
    refine At.text (.q 0 (.q 1 (.q 2 (.q 3 (.n false 4 (.n false 5 (.q 6 (.q 7 .done)))))))) (by kernel_rfl) ?_
    refine AtT.move rfl trivial rfl (by decide) ?_
    refine AtT.move rfl trivial rfl (by decide) ?_
    refine AtT.move rfl trivial rfl (by decide) ?_
    refine AtT.move rfl trivial rfl (by decide) ?_
    refine AtT.bsliceG rfl trivial rfl (bs22_3_0_1_2 _ _ _) (by decide) ?_
    intro q54 V54 hV54 hq54
    have g54 : Le V V54 := by first | exact hV54 | exact Le.trans (by assumption) hV54
    refine AtT.callP rfl trivial rfl ok63 (by decide) (within_f 0 _ [p.f, p.m, p.l] _ _ (Sl.lit hq54 rfl (by simp))) ?_
    rintro _ rfl
    refine AtT.not rfl trivial rfl (by decide) ?_
    refine AtT.assign rfl trivial rfl (by decide) ?_
    refine AtT.done ?_
    refine At.nrm ?_
    have hwi : wi 0 ((L.pl.length : Int) - 1) [p.f, p.m, p.l] = true ↔ 0 ≤ p.f ∧ p.f < L.pl.length ∧ 0 ≤ p.m ∧ p.m < L.pl.length ∧ 0 ≤ p.l ∧ p.l < L.pl.length := by
      simp [wi, outB]; omega
    refine At.cond rfl (fun hb => ?_) (fun hb => ?_)
    · refine At.nrm ?_
      refine At.text (.q 0 (.n true 1 (.q 2 .done))) (by kernel_rfl) ?_
      refine AtT.build rfl trivial rfl (bd31) (by decide) ?_
      refine AtT.storeA rfl trivial rfl rfl tk31 rfl rfl (by rfl) (by repeat (first | exact Upd.here | apply Upd.there)) ?_
      refine AtT.assign rfl trivial rfl (by decide) ?_
      refine AtT.done ?_
      refine At.nrm ?_
      refine At.ret2 rfl (.agg rfl tk31 (by repeat (first | exact Pick.here | apply Pick.there)) rfl) (.tmp rfl) ?_
      rw [checkR, if_neg (by simp [he]), if_pos]
      cases hs : shapedB L p with
      | false => rfl
      | true =>
        obtain ⟨h1, h2, h3, h4, h5, h6⟩ := (shapedB_iff L p).1 hs
        rw [hwi.2 ⟨h1, by omega, by omega, by omega, by omega, h4⟩] at hb
        cases hb
    have hw2 := hwi.1 (by simpa using hb)
    have hsh : shapedB L p = true ↔ ((p.f = p.l ∧ p.m = p.f ∧ p.s = 0) ∨ (p.f < p.m ∧ p.m < p.l ∧ (p.s = 1 ∨ p.s = 2))) := by
      rw [shapedB_iff]
      constructor
      · intro h
        obtain ⟨h1, h2, h3, h4, h5, h6⟩ := h
        by_cases c : p.f = p.l
        · exact .inl ⟨c, by omega, h5 c⟩
        · exact .inr (h6 c)
      · intro h
        refine ⟨by omega, by omega, by omega, by omega, fun c => by omega, fun c => by omega⟩
    have hsb : shapedB L p = decide ((p.f = p.l ∧ p.m = p.f ∧ p.s = 0) ∨ (p.f < p.m ∧ p.m < p.l ∧ (p.s = 1 ∨ p.s = 2))) := by
      rw [Bool.eq_iff_iff, hsh, decide_eq_true_eq]
    refine At.nrm ?_
    refine At.cutG (ι := Unit) (fun _ => [(3, .pointer (some ⟨b3, 0, none⟩)), (4, .pointer (some ⟨b4, 0, none⟩)), (6, .pointer (some q)), (58, .bool (!shapedB L p))])
      (fun _ => [.blk b3 (LC [iv p.f, iv p.m, iv p.l, iv p.s] 45), .blk b4 (LC [iv 0, iv 0] 31)]) (fun _ V' => Le V1 V') ?_ ?_
    · refine At.text (.q 0 (.q 1 (.q 2 (.q 3 (.q 4 (.q 5 (.q 6 (.q 7 (.q 8 (.q 9 (.q 10 (.q 11 (.q 12 (.q 13 (.n false 14 (.n false 15 (.q 16 (.q 17 (.q 18 (.q 19 .done)))))))))))))))))))) (by kernel_rfl) ?_
      refine AtT.move rfl trivial rfl (by decide) ?_
      refine AtT.not rfl trivial rfl (by decide) ?_
      refine AtT.move rfl trivial rfl (by decide) ?_
      all_goals (first | refine AtT.litT (d := 61) rfl ?_ | refine AtT.litF (d := 61) rfl ?_ | refine AtT.litU (d := 61) rfl ?_ | refine AtT.pcase (d := 61) rfl (fun hg61 => ?_) (fun hg61 => ?_) | refine AtT.bcase (d := 61) rfl (fun hg61 => ?_) (fun hg61 => ?_))
      all_goals (first | refine AtT.pass rfl rfl rfl rfl rfl rfl (by decide) ?_ | refine AtT.passU rfl rfl rfl rfl rfl rfl (by decide) ?_ | ((refine AtT.move rfl ⟨_, _, rfl, rfl, rfl⟩ rfl (by decide) ?_)))
      all_goals (first | refine AtT.pass rfl rfl rfl rfl rfl rfl (by decide) ?_ | refine AtT.passU rfl rfl rfl rfl rfl rfl (by decide) ?_ | ((refine AtT.move rfl ⟨_, _, rfl, rfl, rfl⟩ rfl (by decide) ?_)))
      all_goals (first | refine AtT.pass rfl rfl rfl rfl rfl rfl (by decide) ?_ | refine AtT.passU rfl rfl rfl rfl rfl rfl (by decide) ?_ | ((refine AtT.geq rfl ⟨_, _, rfl, rfl, rfl⟩ rfl rfl (by decide) ?_)))
      all_goals (first | refine AtT.pass rfl rfl rfl rfl rfl rfl (by decide) ?_ | refine AtT.passU rfl rfl rfl rfl rfl rfl (by decide) ?_ | ((refine AtT.move rfl ⟨_, _, rfl, rfl, rfl⟩ rfl (by decide) ?_)))
      all_goals (first | refine AtT.litT (d := 65) rfl ?_ | refine AtT.litF (d := 65) rfl ?_ | refine AtT.litU (d := 65) rfl ?_ | refine AtT.pcase (d := 65) rfl (fun hg65 => ?_) (fun hg65 => ?_) | refine AtT.bcase (d := 65) rfl (fun hg65 => ?_) (fun hg65 => ?_))
      all_goals (first | refine AtT.pass rfl rfl rfl rfl rfl rfl (by decide) ?_ | refine AtT.passU rfl rfl rfl rfl rfl rfl (by decide) ?_ | ((refine AtT.move rfl ⟨_, _, rfl, rfl, rfl⟩ rfl (by decide) ?_)))
      all_goals (first | refine AtT.pass rfl rfl rfl rfl rfl rfl (by decide) ?_ | refine AtT.passU rfl rfl rfl rfl rfl rfl (by decide) ?_ | ((refine AtT.move rfl ⟨_, _, rfl, rfl, rfl⟩ rfl (by decide) ?_)))
      all_goals (first | refine AtT.pass rfl rfl rfl rfl rfl rfl (by decide) ?_ | refine AtT.passU rfl rfl rfl rfl rfl rfl (by decide) ?_ | ((refine AtT.geq rfl ⟨_, _, rfl, rfl, rfl⟩ rfl rfl (by decide) ?_)))
      all_goals (first | refine AtT.pass rfl rfl rfl rfl rfl rfl (by decide) ?_ | refine AtT.passU rfl rfl rfl rfl rfl rfl (by decide) ?_ | ((refine AtT.pick rfl ⟨_, _, rfl, rfl, rfl⟩ rfl rfl rfl (by decide) ?_)))
      all_goals (first | refine AtT.pass rfl rfl rfl rfl rfl rfl (by decide) ?_ | refine AtT.passU rfl rfl rfl rfl rfl rfl (by decide) ?_ | ((refine AtT.move rfl ⟨_, _, rfl, rfl, rfl⟩ rfl (by decide) ?_)))
      all_goals (first | refine AtT.litT (d := 70) rfl ?_ | refine AtT.litF (d := 70) rfl ?_ | refine AtT.litU (d := 70) rfl ?_ | refine AtT.pcase (d := 70) rfl (fun hg70 => ?_) (fun hg70 => ?_) | refine AtT.bcase (d := 70) rfl (fun hg70 => ?_) (fun hg70 => ?_))
      all_goals (first | refine AtT.pass rfl rfl rfl rfl rfl rfl (by decide) ?_ | refine AtT.passU rfl rfl rfl rfl rfl rfl (by decide) ?_ | ((first | refine AtT.fieldO rfl ⟨_, _, rfl, rfl, rfl⟩ rfl fo45_3 (by decide) ?_ | with_reducible refine AtT.field2 rfl ⟨_, _, rfl, rfl, rfl⟩ rfl fo45_3 (by decide) ?_ | refine AtT.field rfl ⟨_, _, rfl, rfl, rfl⟩ rfl fo45_3 (by decide) ?_)))
      all_goals (first | refine AtT.pass rfl rfl rfl rfl rfl rfl (by decide) ?_ | refine AtT.passU rfl rfl rfl rfl rfl rfl (by decide) ?_ | ((first | refine AtT.loadO rfl ⟨_, _, rfl, rfl, rfl⟩ rfl tk3 (by repeat (first | exact Pick.here | apply Pick.there)) (by rfl) (by decide) ?_ | refine AtT.load rfl ⟨_, _, rfl, rfl, rfl⟩ rfl tk3 (by first | exact vcell_of (by assumption) (by rfl) | exact vcell_of0 (by assumption) (by rfl) | exact vcell_of (Cells.le (by assumption) (by assumption)) (by rfl) | exact vcell_of0 (Cells.le (by assumption) (by assumption)) (by rfl)) (by decide) ?_)))
      all_goals (first | refine AtT.passN rfl rfl rfl rfl rfl rfl (by decide) ?_ | refine AtT.passNU rfl rfl rfl rfl rfl rfl (by decide) ?_ | ((refine AtT.bsliceG rfl ⟨_, _, rfl, rfl, rfl⟩ rfl (bs22_1_0 _) (by decide) ?_) ; (intro q73 V73 hV73 hq73) ; (have g73 : Le V V73 := by first | exact hV73 | exact Le.trans (by assumption) hV73)))
      all_goals (first | refine AtT.passN rfl rfl rfl rfl rfl rfl (by decide) ?_ | refine AtT.passNU rfl rfl rfl rfl rfl rfl (by decide) ?_ | ((refine AtT.callP rfl ⟨_, _, rfl, rfl, rfl⟩ rfl ok63 (by decide) (within_f 1 2 [p.s] _ _ (Sl.lit hq73 rfl (by simp))) ?_) ; (rintro _ rfl)))
      all_goals (first | refine AtT.pass rfl rfl rfl rfl rfl rfl (by decide) ?_ | refine AtT.passU rfl rfl rfl rfl rfl rfl (by decide) ?_ | ((refine AtT.not rfl ⟨_, _, rfl, rfl, rfl⟩ rfl (by decide) ?_)))
      all_goals (first | refine AtT.pass rfl rfl rfl rfl rfl rfl (by decide) ?_ | refine AtT.passU rfl rfl rfl rfl rfl rfl (by decide) ?_ | ((refine AtT.pick rfl ⟨_, _, rfl, rfl, rfl⟩ rfl rfl rfl (by decide) ?_)))
      all_goals (refine AtT.pick rfl trivial rfl rfl rfl (by decide) ?_)
      all_goals (refine AtT.assign rfl trivial rfl (by decide) ?_)
      all_goals refine AtT.done ?_
      all_goals (refine At.nrm ?_)
      all_goals (refine At.meetG () (by first | exact hV54 | exact hV54.trans (by assumption)) ⟨rfl, rfl, rfl, bsome ?_, trivial⟩ (by repeat (first | exact Pt.nil | refine Pt.cons (by repeat (first | exact Pick.here | apply Pick.there)) ?_)))
      all_goals (rw [hsb]; simp at hg61; rw [Bool.eq_iff_iff]; simp [wi, outB]; try omega)
    rintro _ V2 ks' O' hV2 hk hO hl2
    subst hk hO
    refine At.cond rfl (fun hb => ?_) (fun hb => ?_)
    · refine At.nrm ?_
      refine At.text (.q 0 (.n true 1 (.q 2 .done))) (by kernel_rfl) ?_
      refine AtT.build rfl trivial rfl (bd31) (by decide) ?_
      refine AtT.storeA rfl trivial rfl rfl tk31 rfl rfl (by rfl) (by repeat (first | exact Upd.here | apply Upd.there)) ?_
      refine AtT.assign rfl trivial rfl (by decide) ?_
      refine AtT.done ?_
      refine At.nrm ?_
      refine At.ret2 rfl (.agg rfl tk31 (by repeat (first | exact Pick.here | apply Pick.there)) rfl) (.tmp rfl) ?_
      rw [checkR, if_neg (by simp [he]), if_pos (by simpa using hb)]
    · have hs : shapedB L p = true := by simpa using hb
      refine At.nrm ?_
      refine At.text (.q 0 (.q 1 (.n false 2 (.n true 3 (.q 4 .done))))) (by kernel_rfl) ?_
      refine AtT.move rfl trivial rfl (by decide) ?_
      first | refine AtT.loadOA rfl trivial rfl tk45 (by repeat (first | exact Pick.here | apply Pick.there)) (by rfl) (by decide) ?_ | refine AtT.loadA rfl trivial rfl tk45 (by first | assumption | exact Cells.le (by assumption) (by assumption)) (by rfl) (by decide) ?_ | refine AtT.loadOP rfl trivial rfl tk45 (by repeat (first | exact Pick.here | apply Pick.there)) (by rfl) (by rfl) (by decide) ?_
      refine AtT.callP rfl trivial rfl ok67 (by decide) (proves_f L p _ q (hq.le hV2) (logE_ok he) ((shapedB_iff L p).1 hs)) ?_
      rintro _ rfl
      refine AtT.storeA rfl trivial rfl rfl tk31 rfl rfl (by rfl) (by repeat (first | exact Upd.here | apply Upd.there)) ?_
      refine AtT.assign rfl trivial rfl (by decide) ?_
      refine AtT.done ?_
      refine At.nrm ?_
      refine At.ret2 rfl (.agg rfl tk31 (by repeat (first | exact Pick.here | apply Pick.there)) rfl) (.tmp rfl) ?_
      rw [checkR, if_neg (by simp [he]), if_neg (by simp [hs])]
end Go.Proofs.Ytnionkopmncopaa
namespace Go.Pl

def pfJ (i k : Nat) : Nat → List Pf
  | 0 => []
  | m + 1 => pfJ i k m ++ [⟨i, k, (k + 1 + m : Nat), 1⟩, ⟨i, k, (k + 1 + m : Nat), 2⟩]
def pfK (n i : Nat) : Nat → List Pf
  | 0 => [⟨i, i, i, 0⟩]
  | m + 1 => pfK n i m ++ pfJ i (i + 1 + m) (n - (i + 1 + m + 1))
def pfI (n : Nat) : Nat → List Pf
  | 0 => []
  | i + 1 => pfI n i ++ pfK n i (n - (i + 1))
/-- All proofs, in order. -/
def proofsL (n : Nat) : List Pf := pfI n n

theorem pfx_of {α : Type} {f : Nat → List α} (h : ∀ m, ∃ t, f (m + 1) = f m ++ t) {a b : Nat} (hab : a ≤ b) : f a <+: f b := by
  induction b with
  | zero => have : a = 0 := by omega
            subst this; exact List.prefix_refl _
  | succ b ih =>
    by_cases c : a = b + 1
    · subst c; exact List.prefix_refl _
    · obtain ⟨t, ht⟩ := h b
      exact (ih (by omega)).trans ⟨t, ht.symm⟩
theorem pfI_pfx (n : Nat) {a b : Nat} (h : a ≤ b) : pfI n a <+: pfI n b := pfx_of (fun _ => ⟨_, rfl⟩) h
theorem pfK_pfx (n i : Nat) {a b : Nat} (h : a ≤ b) : pfK n i a <+: pfK n i b := pfx_of (fun _ => ⟨_, rfl⟩) h
theorem pfJ_pfx (i k : Nat) {a b : Nat} (h : a ≤ b) : pfJ i k a <+: pfJ i k b := pfx_of (fun _ => ⟨_, rfl⟩) h

theorem pre_i {n i : Nat} (h : i < n) : pfI n i ++ [⟨i, i, i, 0⟩] <+: proofsL n := by
  refine List.IsPrefix.trans ?_ (pfI_pfx n (a := i + 1) (b := n) (by omega))
  exact (List.prefix_append_right_inj _).2 (pfK_pfx n i (a := 0) (Nat.zero_le _))
theorem pre_k {n i m q : Nat} (h : i + 1 + m + 1 + q < n) : pfI n i ++ pfK n i m ++ pfJ i (i + 1 + m) (q + 1) <+: proofsL n := by
  refine List.IsPrefix.trans ?_ (pfI_pfx n (a := i + 1) (b := n) (by omega))
  rw [List.append_assoc]
  refine (List.prefix_append_right_inj _).2 (List.IsPrefix.trans ?_ (pfK_pfx n i (a := m + 1) (by omega)))
  exact (List.prefix_append_right_inj _).2 (pfJ_pfx _ _ (by omega))
theorem pre_at {α : Type} {l t : List α} {x : α} (h : l ++ [x] <+: t) : t[l.length]? = some x := by
  obtain ⟨s, rfl⟩ := h
  simp
theorem pre_1 {n i m q : Nat} (h : i + 1 + m + 1 + q < n) : (proofsL n)[(pfI n i ++ pfK n i m ++ pfJ i (i + 1 + m) q).length]? = some ⟨i, (i + 1 + m : Nat), (i + 1 + m + 1 + q : Nat), 1⟩ := by
  refine pre_at (List.IsPrefix.trans ?_ (pre_k h))
  refine ⟨[⟨i, (i + 1 + m : Nat), (i + 1 + m + 1 + q : Nat), 2⟩], ?_⟩
  simp [pfJ]
theorem pre_2 {n i m q : Nat} (h : i + 1 + m + 1 + q < n) : (proofsL n)[(pfI n i ++ pfK n i m ++ pfJ i (i + 1 + m) q).length + 1]? = some ⟨i, (i + 1 + m : Nat), (i + 1 + m + 1 + q : Nat), 2⟩ := by
  have := pre_at (l := pfI n i ++ pfK n i m ++ pfJ i (i + 1 + m) q ++ [⟨i, (i + 1 + m : Nat), (i + 1 + m + 1 + q : Nat), 1⟩]) (x := (⟨i, (i + 1 + m : Nat), (i + 1 + m + 1 + q : Nat), 2⟩ : Pf)) (t := proofsL n) (List.IsPrefix.trans ⟨[], by simp [pfJ]⟩ (pre_k h))
  rw [List.length_append, List.length_singleton] at this
  exact this

theorem pfJ_mem {i k m : Nat} {p : Pf} (h : p ∈ pfJ i k m) : ∃ q, q < m ∧ p.f = i ∧ p.m = k ∧ p.l = (k + 1 + q : Nat) ∧ (p.s = 1 ∨ p.s = 2) := by
  induction m with
  | zero => cases h
  | succ m ih =>
    simp only [pfJ, List.mem_append, List.mem_cons, List.not_mem_nil, or_false] at h
    rcases h with h | rfl | rfl
    · obtain ⟨q, h1, h2⟩ := ih h; exact ⟨q, by omega, h2⟩
    · exact ⟨m, by omega, rfl, rfl, rfl, .inl rfl⟩
    · exact ⟨m, by omega, rfl, rfl, rfl, .inr rfl⟩
theorem pfK_mem {n i m : Nat} {p : Pf} (h : p ∈ pfK n i m) : (p = ⟨i, i, i, 0⟩) ∨ ∃ k q : Nat, i < k ∧ k < i + 1 + m ∧ k + 1 + q < n ∧ p.f = i ∧ p.m = k ∧ p.l = (k + 1 + q : Nat) ∧ (p.s = 1 ∨ p.s = 2) := by
  induction m with
  | zero => simp [pfK] at h; exact .inl h
  | succ m ih =>
    simp only [pfK, List.mem_append] at h
    rcases h with h | h
    · rcases ih h with h | ⟨k, q, h1, h2, h3⟩
      · exact .inl h
      · exact .inr ⟨k, q, h1, by omega, h3⟩
    · obtain ⟨q, h1, h2, h3, h4, h5⟩ := pfJ_mem h
      exact .inr ⟨i + 1 + m, q, by omega, by omega, by omega, h2, h3, h4, h5⟩
theorem pfI_mem {n i : Nat} (hi : i ≤ n) {p : Pf} (h : p ∈ pfI n i) : ∃ j : Nat, j < n ∧ ((p = ⟨j, j, j, 0⟩) ∨ ∃ k q : Nat, j < k ∧ k + 1 + q < n ∧ p.f = j ∧ p.m = k ∧ p.l = (k + 1 + q : Nat) ∧ (p.s = 1 ∨ p.s = 2)) := by
  induction i with
  | zero => cases h
  | succ i ih =>
    simp only [pfI, List.mem_append] at h
    rcases h with h | h
    · exact ih (by omega) h
    · refine ⟨i, by omega, ?_⟩
      rcases pfK_mem h with h | ⟨k, q, h1, h2, h3⟩
      · exact .inl h
      · exact .inr ⟨k, q, h1, h3⟩
theorem proofs_ok {L : Lg} {p : Pf} (h : p ∈ proofsL L.pl.length) : PfOk L p := by
  obtain ⟨j, hj, rfl | ⟨k, q, h1, h2, h3, h4, h5, h6⟩⟩ := pfI_mem (Nat.le_refl _) h
  · exact ⟨Int.natCast_nonneg _, Int.le_refl _, Int.le_refl _, Int.ofNat_lt.2 hj, fun _ => rfl, fun h => absurd rfl h⟩
  · exact ⟨by omega, by omega, by omega, by omega, fun e => by omega, fun _ => ⟨by omega, by omega, h6⟩⟩
/-- Each proof is there. -/
theorem pfJ_has {i k m q : Nat} (h : q < m) {s : Int} (hs : s = 1 ∨ s = 2) : (⟨i, k, (k + 1 + q : Nat), s⟩ : Pf) ∈ pfJ i k m := by
  have := (pfJ_pfx i k (a := q + 1) (b := m) (by omega)).subset
  refine this ?_
  simp only [pfJ, List.mem_append, List.mem_cons, List.not_mem_nil, or_false]
  rcases hs with rfl | rfl
  · exact .inr (.inl rfl)
  · exact .inr (.inr rfl)
theorem ok_proofs {L : Lg} {p : Pf} (h : PfOk L p) : p ∈ proofsL L.pl.length := by
  obtain ⟨f0, fm, ml, ln, one, many⟩ := h
  obtain ⟨pf, pm, pl, ps⟩ := p
  dsimp only at *
  by_cases c : pf = pl
  · have h0 := one c
    obtain ⟨i, rfl⟩ : ∃ i : Nat, pf = i := ⟨pf.toNat, by omega⟩
    have e1 : pm = i := by omega
    subst e1 c h0
    refine (pre_i (n := L.pl.length) (i := i) (by omega)).subset ?_
    simp
  · obtain ⟨h1, h2, h3⟩ := many c
    obtain ⟨i, rfl⟩ : ∃ i : Nat, pf = i := ⟨pf.toNat, by omega⟩
    obtain ⟨m, rfl⟩ : ∃ m : Nat, pm = (i + 1 + m : Nat) := ⟨(pm - i - 1).toNat, by omega⟩
    obtain ⟨q, rfl⟩ : ∃ q : Nat, pl = (i + 1 + m + 1 + q : Nat) := ⟨(pl - (i + 1 + m : Nat) - 1).toNat, by omega⟩
    refine (pre_k (n := L.pl.length) (i := i) (m := m) (q := q) (by omega)).subset ?_
    exact List.mem_append_right _ (pfJ_has (by omega) h3)

theorem proofs_nodup : ∀ n, n ≤ 8 → (proofsL n).Nodup := by
  have h : ∀ n : Fin 9, (proofsL n).Nodup := by decide +kernel
  exact fun n hn => h ⟨n, by omega⟩
theorem proofs_len : ∀ n, n ≤ 8 → (proofsL n).length ≤ 120 := by
  have h : ∀ n : Fin 9, (proofsL n).length ≤ 120 := by decide +kernel
  exact fun n hn => h ⟨n, by omega⟩
theorem pfx_len {α : Type} {l t : List α} (h : l <+: t) : l.length ≤ t.length := h.length_le

/-- The best core: the least number that a proof proves. -/
def bestV (L : Lg) : Rt := bestOf lessB (provV L ⟨0, 0, 0, 0⟩) ((proofsL L.pl.length).tail.map (provV L))
theorem proofs_cons {n : Nat} (h : 0 < n) : proofsL n = ⟨0, 0, 0, 0⟩ :: (proofsL n).tail := by
  have h1 : (proofsL n)[0]? = some ⟨0, 0, 0, 0⟩ := pre_at (l := []) (pre_i (n := n) (i := 0) h)
  cases hp : proofsL n with
  | nil => rw [hp] at h1; cases h1
  | cons a l => rw [hp] at h1; simp at h1; simp [h1]
theorem bestOf_map {α β : Type} (f : α → β) (lt : β → β → Bool) : ∀ (l : List α) (o : α), f (bestOf (fun a b => lt (f a) (f b)) o l) = bestOf lt (f o) (l.map f)
  | [], _ => rfl
  | x :: l, o => by
    have e1 : bestOf (fun a b => lt (f a) (f b)) o (x :: l) = bestOf (fun a b => lt (f a) (f b)) (if lt (f x) (f o) then x else o) l := rfl
    have e2 : bestOf lt (f o) ((x :: l).map f) = bestOf lt (if lt (f x) (f o) then f x else f o) (l.map f) := rfl
    rw [e1, e2, bestOf_map f lt l]
    by_cases c : lt (f x) (f o) = true
    · rw [if_pos c, if_pos c]
    · rw [if_neg c, if_neg c]
/-- The proof that is the first of the least ones. -/
def leastP (L : Lg) : Pf := bestOf (fun a b => lessB (provV L a) (provV L b)) ⟨0, 0, 0, 0⟩ (proofsL L.pl.length).tail
theorem leastP_v (L : Lg) : provV L (leastP L) = bestV L := bestOf_map _ _ _ _
theorem leastP_mem {L : Lg} (h : 0 < L.pl.length) : leastP L ∈ proofsL L.pl.length := by
  have := bestOf_mem (fun a b => lessB (provV L a) (provV L b)) ⟨0, 0, 0, 0⟩ (proofsL L.pl.length).tail (proofsL L.pl.length).tail.length
  rw [List.take_length] at this
  rw [proofs_cons h]; exact this
/-- The first proof of the best core. -/
def firstP (L : Lg) : Pf := ((proofsL L.pl.length).find? fun p => decide (provV L p = bestV L)).getD ⟨0, 0, 0, 0⟩
theorem firstP_spec {L : Lg} (h : 0 < L.pl.length) : firstP L ∈ proofsL L.pl.length ∧ provV L (firstP L) = bestV L := by
  unfold firstP
  cases hf : (proofsL L.pl.length).find? fun p => decide (provV L p = bestV L) with
  | none =>
    have := List.find?_eq_none.1 hf (leastP L) (leastP_mem h)
    simp [leastP_v] at this
  | some p =>
    have h1 := List.find?_some hf
    exact ⟨List.mem_of_find?_eq_some hf, by simpa using h1⟩
end Go.Pl
set_option linter.unusedVariables false
namespace Go.Proofs.Ytnionkopmncopaa
open Go.Lw Go.Pl Go.RowKit

theorem ivs {a b : Int} (h : a = b) : some (iv a) = some (iv b) := by rw [h]
theorem slv {a : Option Addr} {c m m' : Nat} (h : m = m') : some (Value.slice a m c) = some (Value.slice a m' c) := by rw [h]
theorem flat_snoc {α : Type} (enc : α → List Value) (l m : List α) : flat enc (l ++ m) = flat enc l ++ flat enc m := by simp [flat]

theorem proofs_f (L : Lg) (V : View) (v : Value) (hv : LogV V v L) (hn8 : L.pl.length ≤ 8) : Fnc Try.prog 84 [v] V fun r V' => Sl V' pfe 4 r (proofsL L.pl.length) := by
  obtain ⟨a, c, a', c', rfl, h2, h3⟩ := hv
  have hl120 := proofs_len _ hn8
  refine fn_of Try.func84 rfl Try.ntmps84 (Nat.le_of_ble_eq_true rfl) ?_
  intro w0 hw0
  refine At.nrm ?_
  refine At.text (.n false 0 (.q 1 .done)) (by kernel_rfl) ?_
  refine AtT.box rfl trivial rfl rfl (by decide) ?_
  intro b1
  refine AtT.assign rfl trivial rfl (by decide) ?_
  refine AtT.done ?_
  refine At.nrm ?_
  refine At.text (.q 0 .done) (by kernel_rfl) ?_
  refine AtT.assign rfl trivial rfl (by decide) ?_
  refine AtT.done ?_
  refine At.nrm ?_
  refine At.text (.q 0 (.q 1 (.q 2 (.q 3 .done)))) (by kernel_rfl) ?_
  first | refine AtT.fieldO rfl trivial rfl fo25_0 (by decide) ?_ | with_reducible refine AtT.field2 rfl trivial rfl fo25_0 (by decide) ?_ | refine AtT.field rfl trivial rfl fo25_0 (by decide) ?_
  first | refine AtT.loadO rfl trivial rfl tk22 (by repeat (first | exact Pick.here | apply Pick.there)) (by rfl) (by decide) ?_ | refine AtT.load rfl trivial rfl tk22 (by first | exact vcell_of (by assumption) (by rfl) | exact vcell_of0 (by assumption) (by rfl) | exact vcell_of (Cells.le (by assumption) (by assumption)) (by rfl) | exact vcell_of0 (Cells.le (by assumption) (by assumption)) (by rfl)) (by decide) ?_
  first | refine AtT.lenS rfl trivial Try.underlying22 rfl (by first | assumption | exact Sl.le (by assumption) (by assumption)) (by decide) ?_ | refine AtT.lenR rfl trivial Try.underlying22 rfl (by decide) ?_
  refine AtT.assign rfl trivial rfl (by decide) ?_
  refine AtT.done ?_
  refine At.nrm ?_
  refine At.text (.q 0 .done) (by kernel_rfl) ?_
  refine AtT.assign rfl trivial rfl (by decide) ?_
  refine AtT.done ?_
  refine At.nrm ?_
  refine At.newRow 45 4 ?_
  refine At.lp (ι := Nat × Option Addr × Nat) (KS := fun g => [(3, .slice g.2.1 (pfI L.pl.length g.1).length g.2.2), (4, iv L.pl.length), (5, iv g.1)])
    (OS := fun g => [.row (.slice g.2.1 (pfI L.pl.length g.1).length g.2.2) 45 4 (pfI L.pl.length g.1).length (flat pfe (pfI L.pl.length g.1))])
    (VS := fun g V' => Le V V' ∧ g.1 ≤ L.pl.length) (μ := fun g => L.pl.length - g.1) (0, none, 0) ?_ ?_ ?_ ?_
  · exact ⟨rfl, rfl, rfl, trivial⟩
  · repeat (first | exact Pt.nil | refine Pt.cons (by repeat (first | exact Pick.here | apply Pick.there)) ?_)
  · exact ⟨Le.refl _, Nat.zero_le _⟩
  · rintro ⟨i, ao, co⟩ V' ks' O' ⟨hVV, hil⟩ hk hO hl
    dsimp only at hil hk hO
    subst hk hO
    refine At.nrm ?_
    refine At.text (.q 0 (.q 1 (.q 2 .done))) (by kernel_rfl) ?_
    refine AtT.move rfl trivial rfl (by decide) ?_
    refine AtT.move rfl trivial rfl (by decide) ?_
    refine AtT.lss rfl trivial rfl rfl (by decide) ?_
    refine AtT.done ?_
    refine At.nrm ?_
    refine At.condP rfl (fun hb => ?_) (fun hb => ?_)
    · have hp0 := pfx_len (pre_i (n := L.pl.length) (i := i) (by omega))
      rw [List.length_append, List.length_singleton] at hp0
      refine At.nrm ?_
      refine At.text (.q 0 (.q 1 (.q 2 (.q 3 (.q 4 (.n false 5 (.n true 6 (.q 7 .done)))))))) (by kernel_rfl) ?_
      refine AtT.move rfl trivial rfl (by decide) ?_
      refine AtT.move rfl trivial rfl (by decide) ?_
      refine AtT.move rfl trivial rfl (by decide) ?_
      refine AtT.move rfl trivial rfl (by decide) ?_
      refine AtT.build rfl trivial rfl (bd45_0_1_2 _ _ _) (by decide) ?_
      refine AtT.bsliceG rfl trivial rfl (bs117_1_0 _ _ _ _) (by decide) ?_
      intro q21 V21 hV21 hq21
      have g21 : Le V V21 := by first | exact hV21 | exact Le.trans (by assumption) hV21
      first | refine AtT.append rfl trivial Try.underlying117 rw45 rfl (by decide) rfl rfl (by repeat (first | exact Pick.here | apply Pick.there)) (by first | assumption | exact Cells.le (by assumption) (by assumption)) (by rfl) (by rfl) (by first | omega | (unfold maxLen; omega)) (by omega) (by decide) ?_
      intro a22 c22
      refine AtT.assign rfl trivial rfl (by decide) ?_
      refine AtT.done ?_
      refine At.nrm ?_
      refine At.text (.q 0 (.q 1 (.q 2 .done))) (by kernel_rfl) ?_
      refine AtT.move rfl trivial rfl (by decide) ?_
      first | refine AtT.add rfl trivial rfl rfl (by decide) (by first | assumption | exact Fit.of (by omega) (by omega)) ?_ | refine AtT.addW rfl trivial rfl rfl (by decide) ?_
      refine AtT.assign rfl trivial rfl (by decide) ?_
      refine AtT.done ?_
      refine At.nrm ?_
      refine At.lp (ι := Nat × Option Addr × Nat) (KS := fun g => [(3, .slice g.2.1 (pfI L.pl.length i ++ pfK L.pl.length i g.1).length g.2.2), (4, iv L.pl.length), (5, iv i), (6, iv ((i : Int) + 1 + g.1))])
        (OS := fun g => [.row (.slice g.2.1 (pfI L.pl.length i ++ pfK L.pl.length i g.1).length g.2.2) 45 4 (pfI L.pl.length i ++ pfK L.pl.length i g.1).length (flat pfe (pfI L.pl.length i ++ pfK L.pl.length i g.1))])
        (VS := fun g V'' => Le V' V'' ∧ i + 1 + g.1 ≤ L.pl.length) (μ := fun g => L.pl.length - g.1) (0, a22, c22) ?_ ?_ ?_ ?_
      · exact ⟨slv (by simp [pfK]), rfl, rfl, ivs (by simp), trivial⟩
      · rw [flat_snoc, List.length_append]
        · repeat (first | exact Pt.nil | refine Pt.cons (by repeat (first | exact Pick.here | apply Pick.there)) ?_)
      · exact ⟨hV21, by dsimp only; omega⟩
      · rintro ⟨m, a1, c1⟩ V'' ks' O' ⟨hVV1, him⟩ hk hO hl
        dsimp only at him hk hO
        subst hk hO
        refine At.nrm ?_
        refine At.text (.q 0 (.q 1 (.q 2 .done))) (by kernel_rfl) ?_
        refine AtT.move rfl trivial rfl (by decide) ?_
        refine AtT.move rfl trivial rfl (by decide) ?_
        refine AtT.lss rfl trivial rfl rfl (by decide) ?_
        refine AtT.done ?_
        refine At.nrm ?_
        refine At.condP rfl (fun hb1 => ?_) (fun hb1 => ?_)
        · refine At.nrm ?_
          refine At.text (.q 0 (.q 1 (.q 2 .done))) (by kernel_rfl) ?_
          refine AtT.move rfl trivial rfl (by decide) ?_
          first | refine AtT.add rfl trivial rfl rfl (by decide) (by first | assumption | exact Fit.of (by omega) (by omega)) ?_ | refine AtT.addW rfl trivial rfl rfl (by decide) ?_
          refine AtT.assign rfl trivial rfl (by decide) ?_
          refine AtT.done ?_
          refine At.nrm ?_
          refine At.lp (ι := Nat × Option Addr × Nat) (KS := fun g => [(3, .slice g.2.1 (pfI L.pl.length i ++ pfK L.pl.length i m ++ pfJ i (i + 1 + m) g.1).length g.2.2), (4, iv L.pl.length), (5, iv i), (6, iv ((i : Int) + 1 + m)), (7, iv ((i : Int) + 1 + m + 1 + g.1))])
            (OS := fun g => [.row (.slice g.2.1 (pfI L.pl.length i ++ pfK L.pl.length i m ++ pfJ i (i + 1 + m) g.1).length g.2.2) 45 4 (pfI L.pl.length i ++ pfK L.pl.length i m ++ pfJ i (i + 1 + m) g.1).length (flat pfe (pfI L.pl.length i ++ pfK L.pl.length i m ++ pfJ i (i + 1 + m) g.1))])
            (VS := fun g V3 => Le V'' V3 ∧ i + 1 + m + 1 + g.1 ≤ L.pl.length) (μ := fun g => L.pl.length - g.1) (0, a1, c1) ?_ ?_ ?_ ?_
          · exact ⟨slv (by simp [pfJ]), rfl, rfl, rfl, ivs (by simp), trivial⟩
          · have e0 : pfI L.pl.length i ++ pfK L.pl.length i m ++ pfJ i (i + 1 + m) 0 = pfI L.pl.length i ++ pfK L.pl.length i m := by simp [pfJ]
            rw [e0]
            · repeat (first | exact Pt.nil | refine Pt.cons (by repeat (first | exact Pick.here | apply Pick.there)) ?_)
          · exact ⟨Le.refl _, by dsimp only; omega⟩
          · rintro ⟨q, a2, c2⟩ V3 ks' O' ⟨hVV2, himq⟩ hk hO hl
            dsimp only at himq hk hO
            subst hk hO
            refine At.nrm ?_
            refine At.text (.q 0 (.q 1 (.q 2 .done))) (by kernel_rfl) ?_
            refine AtT.move rfl trivial rfl (by decide) ?_
            refine AtT.move rfl trivial rfl (by decide) ?_
            refine AtT.lss rfl trivial rfl rfl (by decide) ?_
            refine AtT.done ?_
            refine At.nrm ?_
            refine At.condP rfl (fun hb2 => ?_) (fun hb2 => ?_)
            · have hp0 := pfx_len (pre_k (n := L.pl.length) (i := i) (m := m) (q := q) (by omega))
              have e1 : pfI L.pl.length i ++ pfK L.pl.length i m ++ pfJ i (i + 1 + m) (q + 1) = pfI L.pl.length i ++ pfK L.pl.length i m ++ pfJ i (i + 1 + m) q ++ [⟨i, (i + 1 + m : Nat), (i + 1 + m + 1 + q : Nat), 1⟩, ⟨i, (i + 1 + m : Nat), (i + 1 + m + 1 + q : Nat), 2⟩] := by simp [pfJ]
              rw [e1, List.length_append, List.length_cons, List.length_singleton] at hp0
              refine At.nrm ?_
              refine At.text (.q 0 (.q 1 (.q 2 (.q 3 (.q 4 (.q 5 (.q 6 (.q 7 (.q 8 (.n false 9 (.n true 10 (.q 11 .done)))))))))))) (by kernel_rfl) ?_
              refine AtT.move rfl trivial rfl (by decide) ?_
              refine AtT.move rfl trivial rfl (by decide) ?_
              refine AtT.move rfl trivial rfl (by decide) ?_
              refine AtT.move rfl trivial rfl (by decide) ?_
              refine AtT.build rfl trivial rfl (bd45_0_1_2_3 _ _ _ _) (by decide) ?_
              refine AtT.move rfl trivial rfl (by decide) ?_
              refine AtT.move rfl trivial rfl (by decide) ?_
              refine AtT.move rfl trivial rfl (by decide) ?_
              refine AtT.build rfl trivial rfl (bd45_0_1_2_3 _ _ _ _) (by decide) ?_
              refine AtT.bsliceG rfl trivial rfl (bs117_2_0_1 _ _ _ _ _ _ _ _) (by decide) ?_
              intro q46 V46 hV46 hq46
              have g46 : Le V V46 := by first | exact hV46 | exact Le.trans (by assumption) hV46
              first | refine AtT.append rfl trivial Try.underlying117 rw45 rfl (by decide) rfl rfl (by repeat (first | exact Pick.here | apply Pick.there)) (by first | assumption | exact Cells.le (by assumption) (by assumption)) (by rfl) (by rfl) (by first | omega | (unfold maxLen; omega)) (by omega) (by decide) ?_
              intro a47 c47
              refine AtT.assign rfl trivial rfl (by decide) ?_
              refine AtT.done ?_
              refine At.nrm ?_
              refine At.text (.q 0 (.q 1 (.q 2 .done))) (by kernel_rfl) ?_
              refine AtT.move rfl trivial rfl (by decide) ?_
              first | refine AtT.add rfl trivial rfl rfl (by decide) (by first | assumption | exact Fit.of (by omega) (by omega)) ?_ | refine AtT.addW rfl trivial rfl rfl (by decide) ?_
              refine AtT.assign rfl trivial rfl (by decide) ?_
              refine AtT.done ?_
              refine At.nrm ?_
              refine At.round (q + 1, a47, c47) ?_ ?_ ?_ ?_
              · show L.pl.length - (q + 1) < L.pl.length - q; omega
              · exact ⟨hVV2.trans hV46, by dsimp only; omega⟩
              · exact ⟨slv (by rw [e1]; simp only [List.length_append, List.length_cons, List.length_nil]), rfl, rfl, rfl, ivs (by push_cast; omega), trivial⟩
              · have e2 : flat pfe [(⟨i, (i + 1 + m : Nat), (i + 1 + m + 1 + q : Nat), 1⟩ : Pf), ⟨i, (i + 1 + m : Nat), (i + 1 + m + 1 + q : Nat), 2⟩] = [iv i, iv ((i : Int) + 1 + m), iv ((i : Int) + 1 + m + 1 + q), iv 1, iv i, iv ((i : Int) + 1 + m), iv ((i : Int) + 1 + m + 1 + q), iv 2] := by
                  simp [flat, pfe]
                dsimp only
                rw [e1, flat_snoc, e2, List.length_append]
                · repeat (first | exact Pt.nil | refine Pt.cons (by repeat (first | exact Pick.here | apply Pick.there)) ?_)
            · have hq : q = L.pl.length - (i + 1 + m + 1) := by omega
              have e1 : pfI L.pl.length i ++ pfK L.pl.length i (m + 1) = pfI L.pl.length i ++ pfK L.pl.length i m ++ pfJ i (i + 1 + m) q := by rw [hq]; simp [pfK]
              refine At.nrm ?_
              refine At.text (.q 0 (.q 1 (.q 2 .done))) (by kernel_rfl) ?_
              refine AtT.move rfl trivial rfl (by decide) ?_
              first | refine AtT.add rfl trivial rfl rfl (by decide) (by first | assumption | exact Fit.of (by omega) (by omega)) ?_ | refine AtT.addW rfl trivial rfl rfl (by decide) ?_
              refine AtT.assign rfl trivial rfl (by decide) ?_
              refine AtT.done ?_
              refine At.nrm ?_
              refine At.round (m + 1, a2, c2) ?_ ?_ ?_ ?_
              · show L.pl.length - (m + 1) < L.pl.length - m; omega
              · exact ⟨hVV1.trans hVV2, by dsimp only; omega⟩
              · exact ⟨slv (by rw [e1]), rfl, rfl, ivs (by push_cast; omega), trivial⟩
              · dsimp only
                rw [e1]
                · repeat (first | exact Pt.nil | refine Pt.cons (by repeat (first | exact Pick.here | apply Pick.there)) ?_)
        · have hm : m = L.pl.length - (i + 1) := by omega
          have e1 : pfI L.pl.length (i + 1) = pfI L.pl.length i ++ pfK L.pl.length i m := by rw [hm]; rfl
          refine At.nrm ?_
          refine At.text (.q 0 (.q 1 (.q 2 .done))) (by kernel_rfl) ?_
          refine AtT.move rfl trivial rfl (by decide) ?_
          first | refine AtT.add rfl trivial rfl rfl (by decide) (by first | assumption | exact Fit.of (by omega) (by omega)) ?_ | refine AtT.addW rfl trivial rfl rfl (by decide) ?_
          refine AtT.assign rfl trivial rfl (by decide) ?_
          refine AtT.done ?_
          refine At.nrm ?_
          refine At.round (i + 1, a1, c1) ?_ ?_ ?_ ?_
          · show L.pl.length - (i + 1) < L.pl.length - i; omega
          · exact ⟨hVV.trans hVV1, by dsimp only; omega⟩
          · exact ⟨slv (by rw [e1]), rfl, ivs (by push_cast; omega), trivial⟩
          · dsimp only
            rw [e1]
            · repeat (first | exact Pt.nil | refine Pt.cons (by repeat (first | exact Pick.here | apply Pick.there)) ?_)
    · have hi : i = L.pl.length := by omega
      subst hi
      refine At.nrm ?_
      refine At.text (.q 0 (.q 1 .done)) (by kernel_rfl) ?_
      refine AtT.move rfl trivial rfl (by decide) ?_
      refine AtT.assign rfl trivial rfl (by decide) ?_
      refine AtT.done ?_
      refine At.nrm ?_
      refine At.giveSl pfe_len rfl rfl (by repeat (first | exact Pick.here | apply Pick.there)) (fun V4 hV4 hs4 => ?_)
      exact At.ret1 rfl (.tmp rfl) hs4

theorem lessB_irr (x : Rt) : lessB x x = false := by simp [lessB]
theorem prov_fit {L : Lg} (hL : LgOk L) {p q : Pf} (hp : PfOk L p) (hq : PfOk L q) : Fit ((provV L p).num * (provV L q).den) := by
  obtain ⟨_, d0, d1, n0, n1⟩ := prov_bd hL hp
  obtain ⟨_, d2, d3, n2, n3⟩ := prov_bd hL hq
  have r1 := rat_bd (provN L p) (provD L p) d0
  have r2 := rat_bd (provN L q) (provD L q) d2
  have : (provV L p).num.natAbs ≤ (provN L p).natAbs := r1.1
  have h2 : 0 < (provV L q).den ∧ (provV L q).den ≤ provD L q := r2.2
  have m := mul_bd (a := (provV L p).num) (b := (provV L q).den) (A := 400000) (B := 400) (by decide) (by decide) (by omega) (by omega) (by omega) (by omega)
  exact ⟨by omega, by omega⟩

theorem bestOf_f (L : Lg) (V : View) (v : Value) (hv : LogV V v L) (hL : LgOk L) : Fnc Try.prog 65 [v] V fun r _ => r = rtv (bestV L) := by
  have hv' := hv
  obtain ⟨a, c, a', c', rfl, h2, h3⟩ := hv
  have hc := proofs_cons (n := L.pl.length) (by have := hL.n2; omega)
  have hl120 := proofs_len _ hL.n8
  have hok : ∀ p ∈ proofsL L.pl.length, PfOk L p := fun p hp => proofs_ok hp
  have hok0 : PfOk L ⟨0, 0, 0, 0⟩ := hok _ (by rw [hc]; simp)
  refine fn_of Try.func65 rfl Try.ntmps65 (Nat.le_of_ble_eq_true rfl) ?_
  intro w0 hw0
  refine At.nrm ?_
  refine At.text (.n false 0 (.n false 1 .done)) (by kernel_rfl) ?_
  refine AtT.box rfl trivial rfl rfl (by decide) ?_
  intro b1
  refine AtT.alloc rfl trivial z31 rfl (by decide) ?_
  intro b2
  refine AtT.done ?_
  refine At.nrm ?_
  refine At.text (.q 0 (.n false 1 (.q 2 .done))) (by kernel_rfl) ?_
  first | refine AtT.loadOA rfl trivial rfl tk25 (by repeat (first | exact Pick.here | apply Pick.there)) (by rfl) (by decide) ?_ | refine AtT.loadA rfl trivial rfl tk25 (by first | assumption | exact Cells.le (by assumption) (by assumption)) (by rfl) (by decide) ?_ | refine AtT.loadOP rfl trivial rfl tk25 (by repeat (first | exact Pick.here | apply Pick.there)) (by rfl) (by rfl) (by decide) ?_
  refine AtT.call rfl trivial rfl ok84 (by decide) (proofs_f L _ _ hv' hL.n8) ?_
  rintro vl V1 hV1 hs
  refine AtT.assign rfl trivial rfl (by decide) ?_
  refine AtT.done ?_
  refine At.nrm ?_
  have hlen : (1 : Int) ≤ (proofsL L.pl.length).length := by rw [hc]; simp only [List.length_cons]; omega
  refine At.cutG (ι := Nat) (fun b4 => [(1, .pointer (some ⟨b1, 0, none⟩)), (2, .pointer (some ⟨b2, 0, none⟩)), (3, vl), (4, .pointer (some ⟨b4, 0, none⟩))])
    (fun b4 => [.blk b1 (LC [.slice a L.pl.length c, .slice a' L.ed.length c'] 25), .blk b2 (LC [iv 0, iv 0] 31), .blk b4 (LC (rte (provV L ⟨0, 0, 0, 0⟩)) 31)]) (fun _ V' => V1 = V') ?_ ?_
  · refine At.draw (.q 0 (.q 1 (.q 2 (.q 3 (.two 4 (.n false 5 (.n true 6 .done)) 5 (.n false 4 (.n true 6 .done))))))) ffm (by kernel_rfl) ?_
    first | refine AtT.loadOA rfl trivial rfl tk25 (by repeat (first | exact Pick.here | apply Pick.there)) (by rfl) (by decide) ?_ | refine AtT.loadA rfl trivial rfl tk25 (by first | assumption | exact Cells.le (by assumption) (by assumption)) (by rfl) (by decide) ?_ | refine AtT.loadOP rfl trivial rfl tk25 (by repeat (first | exact Pick.here | apply Pick.there)) (by rfl) (by rfl) (by decide) ?_
    refine AtT.move rfl trivial rfl (by decide) ?_
    refine AtT.idx rfl trivial Try.underlying117 tk45 rfl (by first | assumption | exact Sl.le (by assumption) (by assumption)) rfl (by omega) (by omega) (by decide) ?_
    intro p11 e11 he11 hc11
    obtain rfl : e11 = ⟨0, 0, 0, 0⟩ := by rw [hc] at he11; simpa using he11.symm
    first | refine AtT.loadOA rfl trivial rfl tk45 (by repeat (first | exact Pick.here | apply Pick.there)) (by rfl) (by decide) ?_ | refine AtT.loadA rfl trivial rfl tk45 (by first | assumption | exact Cells.le (by assumption) (by assumption)) (by rfl) (by decide) ?_ | refine AtT.loadOP rfl trivial rfl tk45 (by repeat (first | exact Pick.here | apply Pick.there)) (by rfl) (by rfl) (by decide) ?_
    refine AtT.two ?_ ?_
    focus
      refine AtT.callP rfl trivial rfl ok69 (by decide) (rproves_f L _ _ _ (hv'.le hV1) hL hok0) ?_
      rintro _ rfl
      refine AtT.alloc rfl trivial z31 rfl (by decide) ?_
      intro b4
      refine AtT.storeA rfl trivial rfl rfl tk31 rfl rfl (by rfl) (by repeat (first | exact Upd.here | apply Upd.there)) ?_
      refine AtT.done ?_
    rotate_right
    focus
      refine AtT.alloc rfl trivial z31 rfl (by decide) ?_
      intro b4
      refine AtT.callP rfl trivial rfl ok69 (by decide) (rproves_f L _ _ _ (hv'.le hV1) hL hok0) ?_
      rintro _ rfl
      refine AtT.storeA rfl trivial rfl rfl tk31 rfl rfl (by rfl) (by repeat (first | exact Upd.here | apply Upd.there)) ?_
      refine AtT.done ?_
    all_goals (refine At.nrm ?_)
    all_goals (refine At.meetG b4 rfl ⟨rfl, rfl, rfl, rfl, trivial⟩ ?_)
    all_goals (repeat (first | exact Pt.nil | refine Pt.cons (by repeat (first | exact Pick.here | apply Pick.there)) ?_))
  rintro b4 _ ks' O' rfl hk hO hl
  subst hk hO
  refine At.nrm ?_
  refine At.text (.q 0 .done) (by kernel_rfl) ?_
  refine AtT.assign rfl trivial rfl (by decide) ?_
  refine AtT.done ?_
  refine At.nrm ?_
  refine At.lp (ι := Nat) (KS := fun k => [(1, .pointer (some ⟨b1, 0, none⟩)), (2, .pointer (some ⟨b2, 0, none⟩)), (3, vl), (4, .pointer (some ⟨b4, 0, none⟩)), (5, iv k)])
    (OS := fun k => [.blk b1 (LC [.slice a L.pl.length c, .slice a' L.ed.length c'] 25), .blk b2 (LC [iv 0, iv 0] 31), .blk b4 (LC (rte (provV L (bestOf (fun a b => lessB (provV L a) (provV L b)) ⟨0, 0, 0, 0⟩ ((proofsL L.pl.length).take k)))) 31)])
    (VS := fun k V' => V' = V1 ∧ k ≤ (proofsL L.pl.length).length) (μ := fun k => (proofsL L.pl.length).length - k) 0 ?_ ?_ ?_ ?_
  · exact ⟨rfl, rfl, rfl, rfl, rfl, trivial⟩
  · repeat (first | exact Pt.nil | refine Pt.cons (by repeat (first | exact Pick.here | apply Pick.there)) ?_)
  · exact ⟨rfl, Nat.zero_le _⟩
  · rintro k V' ks' O' ⟨rfl, hkl⟩ hk hO hl
    subst hk hO
    refine At.nrm ?_
    refine At.text (.q 0 (.q 1 (.q 2 (.q 3 .done)))) (by kernel_rfl) ?_
    refine AtT.move rfl trivial rfl (by decide) ?_
    refine AtT.move rfl trivial rfl (by decide) ?_
    first | refine AtT.lenS rfl trivial Try.underlying117 rfl (by first | assumption | exact Sl.le (by assumption) (by assumption)) (by decide) ?_ | refine AtT.lenR rfl trivial Try.underlying117 rfl (by decide) ?_
    refine AtT.lss rfl trivial rfl rfl (by decide) ?_
    refine AtT.done ?_
    refine At.nrm ?_
    refine At.condP rfl (fun hb => ?_) (fun hb => ?_)
    · have hin : bestOf (fun a b => lessB (provV L a) (provV L b)) ⟨0, 0, 0, 0⟩ ((proofsL L.pl.length).take k) ∈ proofsL L.pl.length := by
        have := bestOf_mem (fun a b => lessB (provV L a) (provV L b)) ⟨0, 0, 0, 0⟩ (proofsL L.pl.length) k
        rcases List.mem_cons.1 this with h | h
        · rw [h, hc]; simp
        · exact h
      obtain ⟨e, hee⟩ : ∃ e, (proofsL L.pl.length)[k]? = some e := ⟨_, List.getElem?_eq_getElem (by omega)⟩
      have hem := List.mem_of_getElem? hee
      have hnx : bestOf (fun a b => lessB (provV L a) (provV L b)) ⟨0, 0, 0, 0⟩ ((proofsL L.pl.length).take (k + 1)) = if lessB (provV L e) (provV L (bestOf (fun a b => lessB (provV L a) (provV L b)) ⟨0, 0, 0, 0⟩ ((proofsL L.pl.length).take k))) then e else bestOf (fun a b => lessB (provV L a) (provV L b)) ⟨0, 0, 0, 0⟩ ((proofsL L.pl.length).take k) := by
        rw [take_snoc' hee]; exact bestOf_snoc _ _ _ _
      have hf1 := prov_fit hL (hok e hem) (hok _ hin)
      have hf2 := prov_fit hL (hok _ hin) (hok e hem)
      refine At.nrm ?_
      refine At.cutG (ι := Nat) (fun b6 => [(1, .pointer (some ⟨b1, 0, none⟩)), (2, .pointer (some ⟨b2, 0, none⟩)), (3, vl), (4, .pointer (some ⟨b4, 0, none⟩)), (5, iv k), (6, .pointer (some ⟨b6, 0, none⟩))])
        (fun b6 => [.blk b6 (LC (rte (provV L e)) 31), .blk b1 (LC [.slice a L.pl.length c, .slice a' L.ed.length c'] 25), .blk b2 (LC [iv 0, iv 0] 31), .blk b4 (LC (rte (provV L (bestOf (fun a b => lessB (provV L a) (provV L b)) ⟨0, 0, 0, 0⟩ ((proofsL L.pl.length).take k)))) 31)]) (fun _ V'' => V' = V'') ?_ ?_
      · refine At.draw (.q 0 (.q 1 (.q 2 (.q 3 (.q 4 (.two 5 (.n false 6 (.n true 7 .done)) 6 (.n false 5 (.n true 7 .done)))))))) ffm (by kernel_rfl) ?_
        first | refine AtT.loadOA rfl trivial rfl tk25 (by repeat (first | exact Pick.here | apply Pick.there)) (by rfl) (by decide) ?_ | refine AtT.loadA rfl trivial rfl tk25 (by first | assumption | exact Cells.le (by assumption) (by assumption)) (by rfl) (by decide) ?_ | refine AtT.loadOP rfl trivial rfl tk25 (by repeat (first | exact Pick.here | apply Pick.there)) (by rfl) (by rfl) (by decide) ?_
        refine AtT.move rfl trivial rfl (by decide) ?_
        refine AtT.move rfl trivial rfl (by decide) ?_
        refine AtT.idx rfl trivial Try.underlying117 tk45 rfl (by first | assumption | exact Sl.le (by assumption) (by assumption)) rfl (by omega) (by omega) (by decide) ?_
        intro p23 e23 he23 hc23
        obtain rfl : e23 = e := by have : (proofsL L.pl.length)[k]? = some e23 := (by simpa using he23); rw [hee] at this; simpa using this.symm
        first | refine AtT.loadOA rfl trivial rfl tk45 (by repeat (first | exact Pick.here | apply Pick.there)) (by rfl) (by decide) ?_ | refine AtT.loadA rfl trivial rfl tk45 (by first | assumption | exact Cells.le (by assumption) (by assumption)) (by rfl) (by decide) ?_ | refine AtT.loadOP rfl trivial rfl tk45 (by repeat (first | exact Pick.here | apply Pick.there)) (by rfl) (by rfl) (by decide) ?_
        refine AtT.two ?_ ?_
        focus
          refine AtT.callP rfl trivial rfl ok69 (by decide) (rproves_f L _ _ _ (hv'.le hV1) hL (hok _ hem)) ?_
          rintro _ rfl
          refine AtT.alloc rfl trivial z31 rfl (by decide) ?_
          intro b6
          refine AtT.storeA rfl trivial rfl rfl tk31 rfl rfl (by rfl) (by repeat (first | exact Upd.here | apply Upd.there)) ?_
          refine AtT.done ?_
        rotate_right
        focus
          refine AtT.alloc rfl trivial z31 rfl (by decide) ?_
          intro b6
          refine AtT.callP rfl trivial rfl ok69 (by decide) (rproves_f L _ _ _ (hv'.le hV1) hL (hok _ hem)) ?_
          rintro _ rfl
          refine AtT.storeA rfl trivial rfl rfl tk31 rfl rfl (by rfl) (by repeat (first | exact Upd.here | apply Upd.there)) ?_
          refine AtT.done ?_
        all_goals (refine At.nrm ?_)
        all_goals (refine At.meetG b6 rfl ⟨rfl, rfl, rfl, rfl, rfl, rfl, trivial⟩ ?_)
        all_goals (repeat (first | exact Pt.nil | refine Pt.cons (by repeat (first | exact Pick.here | apply Pick.there)) ?_))
      rintro b6 _ ks' O' rfl hk hO hl
      subst hk hO
      refine At.nrm ?_
      refine At.text (.q 0 (.q 1 (.n false 2 .done))) (by kernel_rfl) ?_
      first | refine AtT.loadOA rfl trivial rfl tk31 (by repeat (first | exact Pick.here | apply Pick.there)) (by rfl) (by decide) ?_ | refine AtT.loadA rfl trivial rfl tk31 (by first | assumption | exact Cells.le (by assumption) (by assumption)) (by rfl) (by decide) ?_ | refine AtT.loadOP rfl trivial rfl tk31 (by repeat (first | exact Pick.here | apply Pick.there)) (by rfl) (by rfl) (by decide) ?_
      first | refine AtT.loadOA rfl trivial rfl tk31 (by repeat (first | exact Pick.here | apply Pick.there)) (by rfl) (by decide) ?_ | refine AtT.loadA rfl trivial rfl tk31 (by first | assumption | exact Cells.le (by assumption) (by assumption)) (by rfl) (by decide) ?_ | refine AtT.loadOP rfl trivial rfl tk31 (by repeat (first | exact Pick.here | apply Pick.there)) (by rfl) (by rfl) (by decide) ?_
      refine AtT.callP rfl trivial rfl ok45 (by decide) (rless_f (provV L e) _ _ hf1 hf2) ?_
      rintro _ rfl
      refine AtT.done ?_
      refine At.nrm ?_
      refine At.cond rfl (fun hb => ?_) (fun hb => ?_)
      · rw [if_pos hb] at hnx
        refine At.nrm ?_
        refine At.text (.q 0 (.n true 1 .done)) (by kernel_rfl) ?_
        first | refine AtT.loadOA rfl trivial rfl tk31 (by repeat (first | exact Pick.here | apply Pick.there)) (by rfl) (by decide) ?_ | refine AtT.loadA rfl trivial rfl tk31 (by first | assumption | exact Cells.le (by assumption) (by assumption)) (by rfl) (by decide) ?_ | refine AtT.loadOP rfl trivial rfl tk31 (by repeat (first | exact Pick.here | apply Pick.there)) (by rfl) (by rfl) (by decide) ?_
        refine AtT.storeA rfl trivial rfl rfl tk31 rfl rfl (by rfl) (by repeat (first | exact Upd.here | apply Upd.there)) ?_
        refine AtT.done ?_
        refine At.nrm ?_
        refine At.text (.q 0 (.q 1 (.q 2 .done))) (by kernel_rfl) ?_
        refine AtT.move rfl trivial rfl (by decide) ?_
        first | refine AtT.add rfl trivial rfl rfl (by decide) (by first | assumption | exact Fit.of (by omega) (by omega)) ?_ | refine AtT.addW rfl trivial rfl rfl (by decide) ?_
        refine AtT.assign rfl trivial rfl (by decide) ?_
        refine AtT.done ?_
        refine At.nrm ?_
        refine At.round (k + 1) ?_ ?_ ?_ ?_
        · show (proofsL L.pl.length).length - (k + 1) < (proofsL L.pl.length).length - k; omega
        · exact ⟨rfl, by omega⟩
        · exact ⟨rfl, rfl, rfl, rfl, rfl, trivial⟩
        rw [hnx]
        · repeat (first | exact Pt.nil | refine Pt.cons (by repeat (first | exact Pick.here | apply Pick.there)) ?_)
      · rw [if_neg (by rw [hb]; simp)] at hnx
        refine At.nrm ?_
        refine At.text (.q 0 (.q 1 (.q 2 .done))) (by kernel_rfl) ?_
        refine AtT.move rfl trivial rfl (by decide) ?_
        first | refine AtT.add rfl trivial rfl rfl (by decide) (by first | assumption | exact Fit.of (by omega) (by omega)) ?_ | refine AtT.addW rfl trivial rfl rfl (by decide) ?_
        refine AtT.assign rfl trivial rfl (by decide) ?_
        refine AtT.done ?_
        refine At.nrm ?_
        refine At.round (k + 1) ?_ ?_ ?_ ?_
        · show (proofsL L.pl.length).length - (k + 1) < (proofsL L.pl.length).length - k; omega
        · exact ⟨rfl, by omega⟩
        · exact ⟨rfl, rfl, rfl, rfl, rfl, trivial⟩
        rw [hnx]
        · repeat (first | exact Pt.nil | refine Pt.cons (by repeat (first | exact Pick.here | apply Pick.there)) ?_)
    · have hkk : k = (proofsL L.pl.length).length := by omega
      subst hkk
      refine At.nrm ?_
      refine At.text (.q 0 (.n true 1 .done)) (by kernel_rfl) ?_
      first | refine AtT.loadOA rfl trivial rfl tk31 (by repeat (first | exact Pick.here | apply Pick.there)) (by rfl) (by decide) ?_ | refine AtT.loadA rfl trivial rfl tk31 (by first | assumption | exact Cells.le (by assumption) (by assumption)) (by rfl) (by decide) ?_ | refine AtT.loadOP rfl trivial rfl tk31 (by repeat (first | exact Pick.here | apply Pick.there)) (by rfl) (by rfl) (by decide) ?_
      refine AtT.storeA rfl trivial rfl rfl tk31 rfl rfl (by rfl) (by repeat (first | exact Upd.here | apply Upd.there)) ?_
      refine AtT.done ?_
      refine At.nrm ?_
      refine At.ret1 rfl (.agg rfl tk31 (by repeat (first | exact Pick.here | apply Pick.there)) rfl) ?_
      rw [List.take_length]
      have e2 : bestOf (fun a b => lessB (provV L a) (provV L b)) ⟨0, 0, 0, 0⟩ (proofsL L.pl.length) = leastP L := by
        rw [hc]
        show bestOf _ (if lessB _ _ then _ else _) _ = _
        rw [lessB_irr]; rfl
      rw [e2, leastP_v]
end Go.Proofs.Ytnionkopmncopaa
set_option linter.unusedVariables false
namespace Go.Proofs.Ytnionkopmncopaa
open Go.Lw Go.Pl Go.RowKit

def bestR (L : Lg) : Rt × Int := if logE L ≠ 0 then (⟨0, 0⟩, logE L) else (bestV L, 0)
theorem best_q (L : Lg) (V : View) (v : Value) (hv : LogV V v L) : Fnc Try.prog 27 [v] V fun r _ => r = .tuple #[rtv (bestR L).1, iv (bestR L).2] := by
  have hv' := hv
  obtain ⟨a, c, a', c', rfl, h2, h3⟩ := hv
  refine fn_of Try.func27 rfl Try.ntmps27 (Nat.le_of_ble_eq_true rfl) ?_
  intro w0 hw0
  refine At.nrm ?_
  refine At.text (.n false 0 (.n false 1 (.q 2 .done))) (by kernel_rfl) ?_
  refine AtT.box rfl trivial rfl rfl (by decide) ?_
  intro b1
  refine AtT.alloc rfl trivial z31 rfl (by decide) ?_
  intro b2
  refine AtT.assign rfl trivial rfl (by decide) ?_
  refine AtT.done ?_
  refine At.nrm ?_
  refine At.text (.q 0 (.n false 1 (.q 2 .done))) (by kernel_rfl) ?_
  first | refine AtT.loadOA rfl trivial rfl tk25 (by repeat (first | exact Pick.here | apply Pick.there)) (by rfl) (by decide) ?_ | refine AtT.loadA rfl trivial rfl tk25 (by first | assumption | exact Cells.le (by assumption) (by assumption)) (by rfl) (by decide) ?_ | refine AtT.loadOP rfl trivial rfl tk25 (by repeat (first | exact Pick.here | apply Pick.there)) (by rfl) (by rfl) (by decide) ?_
  refine AtT.callP rfl trivial rfl ok23 (by decide) (rcheckLog_f L _ _ hv') ?_
  rintro _ rfl
  refine AtT.neI rfl trivial rfl rfl (by decide) ?_
  refine AtT.done ?_
  refine At.nrm ?_
  refine At.condP rfl (fun hb => ?_) (fun hb => ?_)
  · refine At.nrm ?_
    refine At.text (.q 0 (.q 1 (.n false 2 (.n true 3 (.q 4 .done))))) (by kernel_rfl) ?_
    refine AtT.build rfl trivial rfl (bd31) (by decide) ?_
    first | refine AtT.loadOA rfl trivial rfl tk25 (by repeat (first | exact Pick.here | apply Pick.there)) (by rfl) (by decide) ?_ | refine AtT.loadA rfl trivial rfl tk25 (by first | assumption | exact Cells.le (by assumption) (by assumption)) (by rfl) (by decide) ?_ | refine AtT.loadOP rfl trivial rfl tk25 (by repeat (first | exact Pick.here | apply Pick.there)) (by rfl) (by rfl) (by decide) ?_
    refine AtT.callP rfl trivial rfl ok23 (by decide) (rcheckLog_f L _ _ hv') ?_
    rintro _ rfl
    refine AtT.storeA rfl trivial rfl rfl tk31 rfl rfl (by rfl) (by repeat (first | exact Upd.here | apply Upd.there)) ?_
    refine AtT.assign rfl trivial rfl (by decide) ?_
    refine AtT.done ?_
    refine At.nrm ?_
    refine At.ret2 rfl (.agg rfl tk31 (by repeat (first | exact Pick.here | apply Pick.there)) rfl) (.tmp rfl) ?_
    rw [bestR, if_pos hb]
  · have he : logE L = 0 := by simpa using hb
    refine At.nrm ?_
    refine At.text (.q 0 (.n false 1 (.n true 2 (.q 3 .done)))) (by kernel_rfl) ?_
    first | refine AtT.loadOA rfl trivial rfl tk25 (by repeat (first | exact Pick.here | apply Pick.there)) (by rfl) (by decide) ?_ | refine AtT.loadA rfl trivial rfl tk25 (by first | assumption | exact Cells.le (by assumption) (by assumption)) (by rfl) (by decide) ?_ | refine AtT.loadOP rfl trivial rfl tk25 (by repeat (first | exact Pick.here | apply Pick.there)) (by rfl) (by rfl) (by decide) ?_
    refine AtT.callP rfl trivial rfl ok65 (by decide) (bestOf_f L _ _ hv' (logE_ok he)) ?_
    rintro _ rfl
    refine AtT.storeA rfl trivial rfl rfl tk31 rfl rfl (by rfl) (by repeat (first | exact Upd.here | apply Upd.there)) ?_
    refine AtT.assign rfl trivial rfl (by decide) ?_
    refine AtT.done ?_
    refine At.nrm ?_
    refine At.ret2 rfl (.agg rfl tk31 (by repeat (first | exact Pick.here | apply Pick.there)) rfl) (.tmp rfl) ?_
    rw [bestR, if_neg (by simp [he])]

abbrev ysP (L : Lg) : List (List Value) := (proofsL L.pl.length).map fun p => [pfv p]
theorem ysP_at {L : Lg} {j : Nat} {p : Pf} (h : (proofsL L.pl.length)[j]? = some p) : (ysP L)[j]? = some [pfv p] := by simp [ysP, h]

/-- The function that runs over all proofs. -/
theorem iter_f (L : Lg) (V : View) (q b : Addr) (hb : Cells V b [.pointer (some q)]) (hq : LathV V q L) : It Try.prog 98 [.pointer (some b)] V (ysP L) := by
  obtain ⟨a, c, a', c', h1, h2, h3⟩ := hq
  have hlen := h2.lenLe
  refine it_of Try.func98 rfl Try.ntmps98 (Nat.le_of_ble_eq_true rfl) rfl ?_
  intro l J E w0 H hJ
  refine At.nrm ?_
  refine At.text (.q 0 (.q 1 (.q 2 (.q 3 (.q 4 (.q 5 (.q 6 .done))))))) (by kernel_rfl) ?_
  first | refine AtT.loadO rfl trivial rfl tk85 (by repeat (first | exact Pick.here | apply Pick.there)) (by rfl) (by decide) ?_ | refine AtT.load rfl trivial rfl tk85 (by first | exact vcell_of (by assumption) (by rfl) | exact vcell_of0 (by assumption) (by rfl) | exact vcell_of (Cells.le (by assumption) (by assumption)) (by rfl) | exact vcell_of0 (Cells.le (by assumption) (by assumption)) (by rfl)) (by decide) ?_
  refine AtT.nil rfl trivial rfl (by decide) ?_
  first | refine AtT.fieldO rfl trivial rfl fo106_0 (by decide) ?_ | with_reducible refine AtT.field2 rfl trivial rfl fo106_0 (by decide) ?_ | refine AtT.field rfl trivial rfl fo106_0 (by decide) ?_
  first | refine AtT.fieldO rfl trivial rfl fo25_0 (by decide) ?_ | with_reducible refine AtT.field2 rfl trivial rfl fo25_0 (by decide) ?_ | refine AtT.field rfl trivial rfl fo25_0 (by decide) ?_
  first | refine AtT.loadO rfl trivial rfl tk22 (by repeat (first | exact Pick.here | apply Pick.there)) (by rfl) (by decide) ?_ | refine AtT.load rfl trivial rfl tk22 (by first | exact vcell_of (by assumption) (by rfl) | exact vcell_of0 (by assumption) (by rfl) | exact vcell_of (Cells.le (by assumption) (by assumption)) (by rfl) | exact vcell_of0 (Cells.le (by assumption) (by assumption)) (by rfl)) (by decide) ?_
  first | refine AtT.lenS rfl trivial Try.underlying22 rfl (by first | assumption | exact Sl.le (by assumption) (by assumption)) (by decide) ?_ | refine AtT.lenR rfl trivial Try.underlying22 rfl (by decide) ?_
  refine AtT.assign rfl trivial rfl (by decide) ?_
  refine AtT.done ?_
  refine At.nrm ?_
  refine At.text (.q 0 (.q 1 .done)) (by kernel_rfl) ?_
  refine AtT.move rfl trivial rfl (by decide) ?_
  refine AtT.move rfl trivial rfl (by decide) ?_
  refine AtT.done ?_
  refine At.nrm ?_
  refine At.lpY H (ι := Nat) (fun i => i ≤ L.pl.length) (fun i => [(0, .func (.yield l) #[] #[]), (3, iv L.pl.length), (13, iv L.pl.length), (14, iv i)]) (fun i => (pfI L.pl.length i).length) (fun i => L.pl.length - i) 0 (Nat.zero_le _) ⟨rfl, rfl, rfl, rfl, trivial⟩ hJ ?_
  rintro i w ks' hil hJ rfl
  refine At.nrm ?_
  refine At.text (.q 0 .done) (by kernel_rfl) ?_
  refine AtT.lss rfl trivial rfl rfl (by decide) ?_
  refine AtT.done ?_
  refine At.nrm ?_
  refine At.condP rfl (fun hb => ?_) (fun hb => ?_)
  · refine At.nrm ?_
    refine At.text (.q 0 (.q 1 .done)) (by kernel_rfl) ?_
    refine AtT.move rfl trivial rfl (by decide) ?_
    refine AtT.assign rfl trivial rfl (by decide) ?_
    refine AtT.done ?_
    refine At.nrm ?_
    refine At.text (.q 0 (.q 1 (.q 2 (.q 3 (.q 4 (.n true 5 (.q 6 .done))))))) (by kernel_rfl) ?_
    refine AtT.move rfl trivial rfl (by decide) ?_
    refine AtT.move rfl trivial rfl (by decide) ?_
    refine AtT.move rfl trivial rfl (by decide) ?_
    refine AtT.move rfl trivial rfl (by decide) ?_
    refine AtT.build rfl trivial rfl (bd45_0_1_2 _ _ _) (by decide) ?_
    refine AtT.yield rfl trivial rfl rfl H (ysP_at (pre_at (pre_i (n := L.pl.length) (i := i) (by omega)))) (hJ) (by decide) ?_ ?_
    all_goals (intro w22 hJ22)
    all_goals (refine AtT.not rfl trivial rfl (by decide) ?_)
    all_goals refine AtT.done ?_
    all_goals (refine At.nrm ?_)
    rotate_left
    · refine At.condT rfl rfl ?_
      refine At.nrm ?_
      exact At.itEnd H (.inr rfl) rfl (.inr hJ22)
    refine At.condF rfl rfl ?_
    have e0 : (pfI L.pl.length i ++ pfK L.pl.length i 0).length = (pfI L.pl.length i).length + 1 := by simp [pfK]
    rw [← e0] at hJ22
    refine At.nrm ?_
    refine At.text (.q 0 (.q 1 (.q 2 .done))) (by kernel_rfl) ?_
    refine AtT.move rfl trivial rfl (by decide) ?_
    first | refine AtT.add rfl trivial rfl rfl (by decide) (by first | assumption | exact Fit.of (by omega) (by omega)) ?_ | refine AtT.addW rfl trivial rfl rfl (by decide) ?_
    refine AtT.assign rfl trivial rfl (by decide) ?_
    refine AtT.done ?_
    refine At.nrm ?_
    refine At.lpY H (ι := Nat) (fun m => i + 1 + m ≤ L.pl.length) (fun m => [(0, .func (.yield l) #[] #[]), (3, iv L.pl.length), (13, iv L.pl.length), (14, iv i), (4, iv i), (5, iv ((i : Int) + 1 + m))]) (fun m => (pfI L.pl.length i ++ pfK L.pl.length i m).length) (fun m => L.pl.length - m) 0 (by omega) ⟨rfl, rfl, rfl, rfl, rfl, ivs (by simp), trivial⟩ hJ22 ?_
    rintro m w1 ks' him hJ1 rfl
    refine At.nrm ?_
    refine At.text (.q 0 (.q 1 (.q 2 .done))) (by kernel_rfl) ?_
    refine AtT.move rfl trivial rfl (by decide) ?_
    refine AtT.move rfl trivial rfl (by decide) ?_
    refine AtT.lss rfl trivial rfl rfl (by decide) ?_
    refine AtT.done ?_
    refine At.nrm ?_
    refine At.condP rfl (fun hb1 => ?_) (fun hb1 => ?_)
    · refine At.nrm ?_
      refine At.text (.q 0 (.q 1 (.q 2 .done))) (by kernel_rfl) ?_
      refine AtT.move rfl trivial rfl (by decide) ?_
      first | refine AtT.add rfl trivial rfl rfl (by decide) (by first | assumption | exact Fit.of (by omega) (by omega)) ?_ | refine AtT.addW rfl trivial rfl rfl (by decide) ?_
      refine AtT.assign rfl trivial rfl (by decide) ?_
      refine AtT.done ?_
      refine At.nrm ?_
      refine At.lpY H (ι := Nat) (fun q => i + 1 + m + 1 + q ≤ L.pl.length) (fun q => [(0, .func (.yield l) #[] #[]), (3, iv L.pl.length), (13, iv L.pl.length), (14, iv i), (4, iv i), (5, iv ((i : Int) + 1 + m)), (6, iv ((i : Int) + 1 + m + 1 + q))]) (fun q => (pfI L.pl.length i ++ pfK L.pl.length i m ++ pfJ i (i + 1 + m) q).length) (fun q => L.pl.length - q) 0 (by omega) ⟨rfl, rfl, rfl, rfl, rfl, rfl, ivs (by simp), trivial⟩ ?_ ?_
      · have : pfI L.pl.length i ++ pfK L.pl.length i m ++ pfJ i (i + 1 + m) 0 = pfI L.pl.length i ++ pfK L.pl.length i m := by simp [pfJ]
        rw [this]; exact hJ1
      rintro q w2 ks' himq hJ2 rfl
      refine At.nrm ?_
      refine At.text (.q 0 (.q 1 (.q 2 .done))) (by kernel_rfl) ?_
      refine AtT.move rfl trivial rfl (by decide) ?_
      refine AtT.move rfl trivial rfl (by decide) ?_
      refine AtT.lss rfl trivial rfl rfl (by decide) ?_
      refine AtT.done ?_
      refine At.nrm ?_
      refine At.condP rfl (fun hb2 => ?_) (fun hb2 => ?_)
      · have g1 := ysP_at (pre_1 (n := L.pl.length) (i := i) (m := m) (q := q) (by omega))
        have g2 := ysP_at (pre_2 (n := L.pl.length) (i := i) (m := m) (q := q) (by omega))
        have c1 : ((i + 1 + m : Nat) : Int) = (i : Int) + 1 + m := by omega
        have c2 : ((i + 1 + m + 1 + q : Nat) : Int) = (i : Int) + 1 + m + 1 + q := by omega
        rw [c1, c2] at g1 g2
        refine At.nrm ?_
        refine At.text (.q 0 (.q 1 (.q 2 (.q 3 (.q 4 (.n true 5 (.q 6 (.q 7 (.q 8 (.q 9 (.q 10 (.q 11 (.q 12 (.n true 13 (.q 14 (.q 15 .done)))))))))))))))) (by kernel_rfl) ?_
        refine AtT.move rfl trivial rfl (by decide) ?_
        refine AtT.move rfl trivial rfl (by decide) ?_
        refine AtT.move rfl trivial rfl (by decide) ?_
        refine AtT.move rfl trivial rfl (by decide) ?_
        refine AtT.build rfl trivial rfl (bd45_0_1_2_3 _ _ _ _) (by decide) ?_
        refine AtT.yield rfl trivial rfl rfl H (g1) (hJ2) (by decide) ?_ ?_
        all_goals (intro w43 hJ43)
        all_goals (refine AtT.not rfl trivial rfl (by decide) ?_)
        all_goals (refine AtT.move rfl trivial rfl (by decide) ?_)
        all_goals (first | refine AtT.litT (d := 45) rfl ?_ | refine AtT.litF (d := 45) rfl ?_ | refine AtT.litU (d := 45) rfl ?_ | refine AtT.pcase (d := 45) rfl (fun hg45 => ?_) (fun hg45 => ?_) | refine AtT.bcase (d := 45) rfl (fun hg45 => ?_) (fun hg45 => ?_))
        all_goals (first | refine AtT.pass rfl rfl rfl rfl rfl rfl (by decide) ?_ | refine AtT.passU rfl rfl rfl rfl rfl rfl (by decide) ?_ | ((refine AtT.move rfl ⟨_, _, rfl, rfl, rfl⟩ rfl (by decide) ?_)))
        all_goals (first | refine AtT.pass rfl rfl rfl rfl rfl rfl (by decide) ?_ | refine AtT.passU rfl rfl rfl rfl rfl rfl (by decide) ?_ | ((refine AtT.move rfl ⟨_, _, rfl, rfl, rfl⟩ rfl (by decide) ?_)))
        all_goals (first | refine AtT.pass rfl rfl rfl rfl rfl rfl (by decide) ?_ | refine AtT.passU rfl rfl rfl rfl rfl rfl (by decide) ?_ | ((refine AtT.move rfl ⟨_, _, rfl, rfl, rfl⟩ rfl (by decide) ?_)))
        all_goals (first | refine AtT.pass rfl rfl rfl rfl rfl rfl (by decide) ?_ | refine AtT.passU rfl rfl rfl rfl rfl rfl (by decide) ?_ | ((refine AtT.move rfl ⟨_, _, rfl, rfl, rfl⟩ rfl (by decide) ?_)))
        all_goals (first | refine AtT.pass rfl rfl rfl rfl rfl rfl (by decide) ?_ | refine AtT.passU rfl rfl rfl rfl rfl rfl (by decide) ?_ | ((refine AtT.build rfl ⟨_, _, rfl, rfl, rfl⟩ rfl (bd45_0_1_2_3 _ _ _ _) (by decide) ?_)))
        all_goals (first | refine AtT.passN rfl rfl rfl rfl rfl rfl (by decide) ?_ | refine AtT.passNU rfl rfl rfl rfl rfl rfl (by decide) ?_ | ((refine AtT.yield rfl ⟨_, _, rfl, rfl, rfl⟩ rfl rfl H (g2) (hJ43) (by decide) ?_ ?_)) <;> (intro w51 hJ51))
        all_goals (first | refine AtT.pass rfl rfl rfl rfl rfl rfl (by decide) ?_ | refine AtT.passU rfl rfl rfl rfl rfl rfl (by decide) ?_ | ((refine AtT.not rfl ⟨_, _, rfl, rfl, rfl⟩ rfl (by decide) ?_)))
        all_goals (refine AtT.pick rfl trivial rfl rfl rfl (by decide) ?_)
        all_goals refine AtT.done ?_
        all_goals (refine At.nrm ?_)
        · refine At.condF rfl rfl ?_
          have e1 : (pfI L.pl.length i ++ pfK L.pl.length i m ++ pfJ i (i + 1 + m) q).length + 1 + 1 = (pfI L.pl.length i ++ pfK L.pl.length i m ++ pfJ i (i + 1 + m) (q + 1)).length := by simp [pfJ]; omega
          rw [e1] at hJ51
          refine At.nrm ?_
          refine At.text (.q 0 (.q 1 (.q 2 .done))) (by kernel_rfl) ?_
          refine AtT.move rfl trivial rfl (by decide) ?_
          first | refine AtT.add rfl trivial rfl rfl (by decide) (by first | assumption | exact Fit.of (by omega) (by omega)) ?_ | refine AtT.addW rfl trivial rfl rfl (by decide) ?_
          refine AtT.assign rfl trivial rfl (by decide) ?_
          refine AtT.done ?_
          refine At.nrm ?_
          refine At.roundY H (q + 1) ?_ (by omega) ?_ hJ51
          · show L.pl.length - (q + 1) < L.pl.length - q; omega
          · exact ⟨rfl, rfl, rfl, rfl, rfl, rfl, ivs (by push_cast; omega), trivial⟩
        · refine At.condT rfl rfl ?_
          refine At.nrm ?_
          exact At.itEnd H (.inr rfl) rfl (.inr hJ51)
        · refine At.condT rfl rfl ?_
          refine At.nrm ?_
          exact At.itEnd H (.inr rfl) rfl (.inr hJ43)
      · have hq : q = L.pl.length - (i + 1 + m + 1) := by omega
        have e1 : pfI L.pl.length i ++ pfK L.pl.length i (m + 1) = pfI L.pl.length i ++ pfK L.pl.length i m ++ pfJ i (i + 1 + m) q := by rw [hq]; simp [pfK]
        rw [← e1] at hJ2
        refine At.nrm ?_
        refine At.text (.q 0 (.q 1 (.q 2 .done))) (by kernel_rfl) ?_
        refine AtT.move rfl trivial rfl (by decide) ?_
        first | refine AtT.add rfl trivial rfl rfl (by decide) (by first | assumption | exact Fit.of (by omega) (by omega)) ?_ | refine AtT.addW rfl trivial rfl rfl (by decide) ?_
        refine AtT.assign rfl trivial rfl (by decide) ?_
        refine AtT.done ?_
        refine At.nrm ?_
        refine At.roundY H (m + 1) ?_ (by omega) ?_ hJ2
        · show L.pl.length - (m + 1) < L.pl.length - m; omega
        · exact ⟨rfl, rfl, rfl, rfl, rfl, ivs (by push_cast; omega), trivial⟩
    · have hm : m = L.pl.length - (i + 1) := by omega
      have e1 : pfI L.pl.length (i + 1) = pfI L.pl.length i ++ pfK L.pl.length i m := by rw [hm]; rfl
      rw [← e1] at hJ1
      refine At.nrm ?_
      refine At.text (.q 0 (.q 1 .done)) (by kernel_rfl) ?_
      first | refine AtT.add rfl trivial rfl rfl (by decide) (by first | assumption | exact Fit.of (by omega) (by omega)) ?_ | refine AtT.addW rfl trivial rfl rfl (by decide) ?_
      refine AtT.move rfl trivial rfl (by decide) ?_
      refine AtT.done ?_
      refine At.nrm ?_
      refine At.roundY H (i + 1) ?_ (by omega) ?_ hJ1
      · show L.pl.length - (i + 1) < L.pl.length - i; omega
      · exact ⟨rfl, rfl, rfl, ivs (by push_cast; omega), trivial⟩
  · have hi : i = L.pl.length := by omega
    subst hi
    refine At.nrm ?_
    exact At.itEnd H (.inl rfl) rfl (.inl (by rw [ysP, List.length_map]; exact hJ))

theorem proofs87_f (V : View) (q : Addr) : Fnc Try.prog 87 [.pointer (some q)] V fun r V' => ∃ b : Addr, r = .func (.func 98) #[] #[.pointer (some b)] ∧ Cells V' b [.pointer (some q)] := by
  refine fn_of Try.func87 rfl Try.ntmps87 (Nat.le_of_ble_eq_true rfl) ?_
  intro w0 hw0
  refine At.nrm ?_
  refine At.text (.n false 0 (.q 1 .done)) (by kernel_rfl) ?_
  refine AtT.box rfl trivial rfl rfl (by decide) ?_
  intro b1
  refine AtT.assign rfl trivial rfl (by decide) ?_
  refine AtT.done ?_
  refine At.nrm ?_
  refine At.giveB (b := b1) (by repeat (first | exact Pick.here | apply Pick.there)) ?_
  intro V1 hV1 hb1
  refine At.text (.q 0 (.q 1 .done)) (by kernel_rfl) ?_
  refine AtT.fn rfl trivial rfl rfl (by decide) ?_
  refine AtT.assign rfl trivial rfl (by decide) ?_
  refine AtT.done ?_
  refine At.nrm ?_
  exact At.ret1 rfl (.tmp rfl) ⟨_, rfl, cells_blk hb1⟩

theorem less89_f (L : Lg) (a b : Pf) (V : View) (q : Addr) (mb : Nat) (M : MM Pf Rt) (c : Nat) (h1 : Cells V q [.map (some mb)]) (h2 : V mb = some (mobj pfv rtv M c)) (hf1 : Fit ((mget a ⟨0, 0⟩ M).num * (mget b ⟨0, 0⟩ M).den)) (hf2 : Fit ((mget b ⟨0, 0⟩ M).num * (mget a ⟨0, 0⟩ M).den)) :
    Fnc Try.prog 89 [pfv a, pfv b, .pointer (some q)] V fun r _ => r = .bool (lessB (mget a ⟨0, 0⟩ M) (mget b ⟨0, 0⟩ M)) := by
  refine fn_of Try.func89 rfl Try.ntmps89 (Nat.le_of_ble_eq_true rfl) ?_
  intro w0 hw0
  refine At.nrm ?_
  refine At.text (.n false 0 (.n false 1 (.q 2 .done))) (by kernel_rfl) ?_
  refine AtT.box rfl trivial rfl rfl (by decide) ?_
  intro b3
  refine AtT.box rfl trivial rfl rfl (by decide) ?_
  intro b4
  refine AtT.assign rfl trivial rfl (by decide) ?_
  refine AtT.done ?_
  refine At.nrm ?_
  refine At.draw (.q 0 (.q 1 (.q 2 (.q 3 (.q 4 (.q 5 (.n false 6 (.q 7 .done)))))))) ffm (by kernel_rfl) ?_
  first | refine AtT.loadO rfl trivial rfl tk124 (by repeat (first | exact Pick.here | apply Pick.there)) (by rfl) (by decide) ?_ | refine AtT.load rfl trivial rfl tk124 (by first | exact vcell_of (by assumption) (by rfl) | exact vcell_of0 (by assumption) (by rfl) | exact vcell_of (Cells.le (by assumption) (by assumption)) (by rfl) | exact vcell_of0 (Cells.le (by assumption) (by assumption)) (by rfl)) (by decide) ?_
  first | refine AtT.loadOA rfl trivial rfl tk45 (by repeat (first | exact Pick.here | apply Pick.there)) (by rfl) (by decide) ?_ | refine AtT.loadA rfl trivial rfl tk45 (by first | assumption | exact Cells.le (by assumption) (by assumption)) (by rfl) (by decide) ?_ | refine AtT.loadOP rfl trivial rfl tk45 (by repeat (first | exact Pick.here | apply Pick.there)) (by rfl) (by rfl) (by decide) ?_
  first | refine AtT.lookupO rfl trivial key45 a (⟨0, 0⟩ : Rt) Try.underlying124 z31 rfl rfl rfl (by repeat (first | exact Pick.here | apply Pick.there)) (by decide) ?_ | refine AtT.lookupV rfl trivial key45 a (⟨0, 0⟩ : Rt) Try.underlying124 z31 rfl rfl rfl (by assumption) (by decide) ?_
  first | refine AtT.loadO rfl trivial rfl tk124 (by repeat (first | exact Pick.here | apply Pick.there)) (by rfl) (by decide) ?_ | refine AtT.load rfl trivial rfl tk124 (by first | exact vcell_of (by assumption) (by rfl) | exact vcell_of0 (by assumption) (by rfl) | exact vcell_of (Cells.le (by assumption) (by assumption)) (by rfl) | exact vcell_of0 (Cells.le (by assumption) (by assumption)) (by rfl)) (by decide) ?_
  first | refine AtT.loadOA rfl trivial rfl tk45 (by repeat (first | exact Pick.here | apply Pick.there)) (by rfl) (by decide) ?_ | refine AtT.loadA rfl trivial rfl tk45 (by first | assumption | exact Cells.le (by assumption) (by assumption)) (by rfl) (by decide) ?_ | refine AtT.loadOP rfl trivial rfl tk45 (by repeat (first | exact Pick.here | apply Pick.there)) (by rfl) (by rfl) (by decide) ?_
  first | refine AtT.lookupO rfl trivial key45 b (⟨0, 0⟩ : Rt) Try.underlying124 z31 rfl rfl rfl (by repeat (first | exact Pick.here | apply Pick.there)) (by decide) ?_ | refine AtT.lookupV rfl trivial key45 b (⟨0, 0⟩ : Rt) Try.underlying124 z31 rfl rfl rfl (by assumption) (by decide) ?_
  refine AtT.callP rfl trivial rfl ok90 (by decide) (less_f (mget a ⟨0, 0⟩ M) (mget b ⟨0, 0⟩ M) _ hf1 hf2) ?_
  rintro _ rfl
  refine AtT.assign rfl trivial rfl (by decide) ?_
  refine AtT.done ?_
  refine At.nrm ?_
  exact At.ret1 rfl (.tmp rfl) rfl

theorem some91_f (a b : Pf) (V : View) (q : Addr) (mb : Nat) (M : MM Pf Rt) (c : Nat) (h1 : Cells V q [.map (some mb)]) (h2 : V mb = some (mobj pfv rtv M c)) :
    Fnc Try.prog 91 [pfv a, pfv b, .pointer (some q)] V fun r _ => r = .bool (decide (0 < (mget a ⟨0, 0⟩ M).den) && decide ((mget b ⟨0, 0⟩ M).den = 0)) := by
  refine fn_of Try.func91 rfl Try.ntmps91 (Nat.le_of_ble_eq_true rfl) ?_
  intro w0 hw0
  refine At.nrm ?_
  refine At.text (.n false 0 (.n false 1 (.q 2 .done))) (by kernel_rfl) ?_
  refine AtT.box rfl trivial rfl rfl (by decide) ?_
  intro b3
  refine AtT.box rfl trivial rfl rfl (by decide) ?_
  intro b4
  refine AtT.assign rfl trivial rfl (by decide) ?_
  refine AtT.done ?_
  refine At.nrm ?_
  refine At.text (.q 0 (.q 1 (.q 2 (.q 3 (.q 4 (.q 5 (.q 6 (.q 7 (.q 8 (.q 9 (.q 10 (.q 11 (.q 12 .done))))))))))))) (by kernel_rfl) ?_
  first | refine AtT.loadO rfl trivial rfl tk124 (by repeat (first | exact Pick.here | apply Pick.there)) (by rfl) (by decide) ?_ | refine AtT.load rfl trivial rfl tk124 (by first | exact vcell_of (by assumption) (by rfl) | exact vcell_of0 (by assumption) (by rfl) | exact vcell_of (Cells.le (by assumption) (by assumption)) (by rfl) | exact vcell_of0 (Cells.le (by assumption) (by assumption)) (by rfl)) (by decide) ?_
  first | refine AtT.loadOA rfl trivial rfl tk45 (by repeat (first | exact Pick.here | apply Pick.there)) (by rfl) (by decide) ?_ | refine AtT.loadA rfl trivial rfl tk45 (by first | assumption | exact Cells.le (by assumption) (by assumption)) (by rfl) (by decide) ?_ | refine AtT.loadOP rfl trivial rfl tk45 (by repeat (first | exact Pick.here | apply Pick.there)) (by rfl) (by rfl) (by decide) ?_
  first | refine AtT.lookupO rfl trivial key45 a (⟨0, 0⟩ : Rt) Try.underlying124 z31 rfl rfl rfl (by repeat (first | exact Pick.here | apply Pick.there)) (by decide) ?_ | refine AtT.lookupV rfl trivial key45 a (⟨0, 0⟩ : Rt) Try.underlying124 z31 rfl rfl rfl (by assumption) (by decide) ?_
  refine AtT.fld rfl trivial rfl (fl31_1 _ _) (by decide) ?_
  refine AtT.gtr rfl trivial rfl rfl (by decide) ?_
  refine AtT.move rfl trivial rfl (by decide) ?_
  all_goals (first | refine AtT.litT (d := 11) rfl ?_ | refine AtT.litF (d := 11) rfl ?_ | refine AtT.litU (d := 11) rfl ?_ | refine AtT.pcase (d := 11) rfl (fun hg11 => ?_) (fun hg11 => ?_) | refine AtT.bcase (d := 11) rfl (fun hg11 => ?_) (fun hg11 => ?_))
  all_goals (first | refine AtT.pass rfl rfl rfl rfl rfl rfl (by decide) ?_ | refine AtT.passU rfl rfl rfl rfl rfl rfl (by decide) ?_ | ((first | refine AtT.loadO rfl ⟨_, _, rfl, rfl, rfl⟩ rfl tk124 (by repeat (first | exact Pick.here | apply Pick.there)) (by rfl) (by decide) ?_ | refine AtT.load rfl ⟨_, _, rfl, rfl, rfl⟩ rfl tk124 (by first | exact vcell_of (by assumption) (by rfl) | exact vcell_of0 (by assumption) (by rfl) | exact vcell_of (Cells.le (by assumption) (by assumption)) (by rfl) | exact vcell_of0 (Cells.le (by assumption) (by assumption)) (by rfl)) (by decide) ?_)))
  all_goals (first | refine AtT.pass rfl rfl rfl rfl rfl rfl (by decide) ?_ | refine AtT.passU rfl rfl rfl rfl rfl rfl (by decide) ?_ | ((first | refine AtT.loadOA rfl ⟨_, _, rfl, rfl, rfl⟩ rfl tk45 (by repeat (first | exact Pick.here | apply Pick.there)) (by rfl) (by decide) ?_ | refine AtT.loadA rfl ⟨_, _, rfl, rfl, rfl⟩ rfl tk45 (by first | assumption | exact Cells.le (by assumption) (by assumption)) (by rfl) (by decide) ?_ | refine AtT.loadOP rfl ⟨_, _, rfl, rfl, rfl⟩ rfl tk45 (by repeat (first | exact Pick.here | apply Pick.there)) (by rfl) (by rfl) (by decide) ?_)))
  all_goals (first | refine AtT.pass rfl rfl rfl rfl rfl rfl (by decide) ?_ | refine AtT.passU rfl rfl rfl rfl rfl rfl (by decide) ?_ | ((first | refine AtT.lookupO rfl ⟨_, _, rfl, rfl, rfl⟩ key45 b (⟨0, 0⟩ : Rt) Try.underlying124 z31 rfl rfl rfl (by repeat (first | exact Pick.here | apply Pick.there)) (by decide) ?_ | refine AtT.lookupV rfl ⟨_, _, rfl, rfl, rfl⟩ key45 b (⟨0, 0⟩ : Rt) Try.underlying124 z31 rfl rfl rfl (by assumption) (by decide) ?_)))
  all_goals (first | refine AtT.pass rfl rfl rfl rfl rfl rfl (by decide) ?_ | refine AtT.passU rfl rfl rfl rfl rfl rfl (by decide) ?_ | ((refine AtT.fld rfl ⟨_, _, rfl, rfl, rfl⟩ rfl (fl31_1 _ _) (by decide) ?_)))
  all_goals (first | refine AtT.pass rfl rfl rfl rfl rfl rfl (by decide) ?_ | refine AtT.passU rfl rfl rfl rfl rfl rfl (by decide) ?_ | ((refine AtT.eqI rfl ⟨_, _, rfl, rfl, rfl⟩ rfl rfl (by decide) ?_)))
  all_goals (refine AtT.pick rfl trivial rfl rfl rfl (by decide) ?_)
  all_goals (refine AtT.assign rfl trivial rfl (by decide) ?_)
  all_goals refine AtT.done ?_
  all_goals (refine At.nrm ?_)
  all_goals (refine At.ret1 rfl (.tmp rfl) ?_)
  all_goals (show Value.bool _ = Value.bool _; simp [*])
end Go.Proofs.Ytnionkopmncopaa
