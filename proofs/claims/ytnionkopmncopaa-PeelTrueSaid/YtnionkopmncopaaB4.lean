/- Texts that the last one of this claim imports. -/
import Derived.Test.YtnionkopmncopaaB3
set_option linter.unusedVariables false
set_option linter.unusedSimpArgs false
set_option linter.unusedSectionVars false
set_option linter.unusedVariables false
namespace Go.Proofs.Ytnionkopmncopaa
open Go.Lw Go.Pl Go.RowKit

/-- The height at a number of the line through two heights, multiplied by how far the places are apart. -/
def hgt (L : Lg) (i k : Int) (a b y : Int) : Int := a * (plP L k - y) + b * (y - plP L i)

theorem height_f (L : Lg) (i k a b y : Int) (V : View) (q pa pl pk pb pi : Addr) (hq : LathV V q L) (hL : LgOk L) (ha : Cells V pa [iv a]) (hpl : Cells V pl [.pointer (some q)]) (hk : Cells V pk [iv k]) (hb : Cells V pb [iv b]) (hi : Cells V pi [iv i])
    (h0 : 0 ≤ i) (h1 : i < L.pl.length) (h2 : 0 ≤ k) (h3 : k < L.pl.length) (ba : -10000 ≤ a ∧ a ≤ 10000) (bb : -10000 ≤ b ∧ b ≤ 10000) (by' : 0 ≤ y ∧ y ≤ 100) :
    Fnc Try.prog 92 [iv y, .pointer (some pa), .pointer (some pl), .pointer (some pk), .pointer (some pb), .pointer (some pi)] V fun r _ => r = iv (hgt L i k a b y) := by
  obtain ⟨a0, c0, a', c', g1, g2, g3⟩ := hq
  have e1 := hL.plB h0 h1
  have e2 := hL.plB h2 h3
  have m1 := mul_bd (a := a) (b := plP L k - y) (A := 10000) (B := 100) (by decide) (by decide) (by omega) (by omega) (by omega) (by omega)
  have m2 := mul_bd (a := b) (b := y - plP L i) (A := 10000) (B := 100) (by decide) (by decide) (by omega) (by omega) (by omega) (by omega)
  unfold hgt
  refine fn_of Try.func92 rfl Try.ntmps92 (Nat.le_of_ble_eq_true rfl) ?_
  intro w0 hw0
  refine At.nrm ?_
  refine At.ktext (.q 0 .done) ?_
  refine AtT.kassign ?_
  refine AtT.done ?_
  refine At.nrm ?_
  refine At.draw (.q 0 (.q 1 (.q 2 (.q 3 (.q 4 (.q 5 (.q 6 (.q 7 (.q 8 (.q 9 (.q 10 (.q 11 (.q 12 (.q 13 (.q 14 (.q 15 (.q 16 (.q 17 (.q 18 (.q 19 (.q 20 (.q 21 (.q 22 (.q 23 (.q 24 (.q 25 .done)))))))))))))))))))))))))) ffm (by kernel_rfl) ?_
  first | refine AtT.kloadO tk2 ?_ | refine AtT.kload tk2 ?_
  first | refine AtT.kloadO tk85 ?_ | refine AtT.kload tk85 ?_
  refine AtT.knil ?_
  first | refine AtT.kfieldO fo106_0 ?_ | with_reducible refine AtT.kfield2 fo106_0 ?_ | refine AtT.kfield fo106_0 ?_
  first | refine AtT.kfieldO fo25_0 ?_ | with_reducible refine AtT.kfield2 fo25_0 ?_ | refine AtT.kfield fo25_0 ?_
  first | refine AtT.kloadO tk22 ?_ | refine AtT.kload tk22 ?_
  first | refine AtT.kloadO tk3 ?_ | refine AtT.kload tk3 ?_
  refine AtT.kidx Try.underlying22 tk2 ?_
  intro p15 e15 he15 hc15
  obtain rfl := plP_some he15
  first | refine AtT.kloadO tk2 ?_ | refine AtT.kload tk2 ?_
  refine AtT.kmove ?_
  first | refine AtT.ksubt ?_ | refine AtT.ksubW ?_
  first | refine AtT.kmul ?_ | refine AtT.kmulW ?_
  first | refine AtT.kloadO tk2 ?_ | refine AtT.kload tk2 ?_
  refine AtT.kmove ?_
  first | refine AtT.kloadO tk85 ?_ | refine AtT.kload tk85 ?_
  refine AtT.knil ?_
  first | refine AtT.kfieldO fo106_0 ?_ | with_reducible refine AtT.kfield2 fo106_0 ?_ | refine AtT.kfield fo106_0 ?_
  first | refine AtT.kfieldO fo25_0 ?_ | with_reducible refine AtT.kfield2 fo25_0 ?_ | refine AtT.kfield fo25_0 ?_
  first | refine AtT.kloadO tk22 ?_ | refine AtT.kload tk22 ?_
  first | refine AtT.kloadO tk3 ?_ | refine AtT.kload tk3 ?_
  refine AtT.kidx Try.underlying22 tk2 ?_
  intro p28 e28 he28 hc28
  obtain rfl := plP_some he28
  first | refine AtT.kloadO tk2 ?_ | refine AtT.kload tk2 ?_
  first | refine AtT.ksubt ?_ | refine AtT.ksubW ?_
  first | refine AtT.kmul ?_ | refine AtT.kmulW ?_
  first | refine AtT.kadd ?_ | refine AtT.kaddW ?_
  refine AtT.kassign ?_
  refine AtT.done ?_
  refine At.nrm ?_
  exact At.ret1 rfl (.tmp rfl) rfl

theorem greater_f (a b : Rt) (V : View) (h1 : Fit (a.num * b.den)) (h2 : Fit (b.num * a.den)) : Fnc Try.prog 95 [rtv a, rtv b] V fun v _ => v = .bool (lessB b a) := by
  refine fn_of Try.func95 rfl Try.ntmps95 (Nat.le_of_ble_eq_true rfl) ?_
  intro w0 hw0
  refine At.nrm ?_
  refine At.ktext (.n false 0 (.n false 1 (.q 2 .done))) ?_
  refine AtT.kbox ?_
  intro b2
  refine AtT.kbox ?_
  intro b3
  refine AtT.kassign ?_
  refine AtT.done ?_
  refine At.nrm ?_
  refine At.ktext (.q 0 (.q 1 (.n false 2 (.q 3 .done)))) ?_
  first | refine AtT.kloadOA tk31 ?_ | refine AtT.kloadA tk31 ?_ | refine AtT.kloadOP tk31 ?_
  first | refine AtT.kloadOA tk31 ?_ | refine AtT.kloadA tk31 ?_ | refine AtT.kloadOP tk31 ?_
  refine AtT.kcallP rfl rfl ok90 (less_f b a _ h2 h1) ?_
  rintro _ rfl
  refine AtT.kassign ?_
  refine AtT.done ?_
  refine At.nrm ?_
  exact At.ret1 rfl (.tmp rfl) rfl

def gate (g : List Rg) (j : Nat) : Rg := g.getD j ⟨0, 0⟩
def testH (L : Lg) (g : List Rg) (wide : Int) (h : Int → Int) (j : Nat) : Bool := wi ((gate g j).lo * wide) ((gate g j).hi * wide) [h (plP L j)]
/-- A line goes through all gates. -/
def thruB (L : Lg) (g : List Rg) (wide : Int) (h : Int → Int) : Bool := (List.range L.pl.length).all (testH L g wide h)
theorem thruB_true {L : Lg} {g : List Rg} {wide : Int} {h : Int → Int} (hh : ∀ j, j < L.pl.length → testH L g wide h j = true) : thruB L g wide h = true :=
  List.all_eq_true.2 fun j hj => hh j (List.mem_range.1 hj)
theorem thruB_false {L : Lg} {g : List Rg} {wide : Int} {h : Int → Int} {j : Nat} (hj : j < L.pl.length) (hh : testH L g wide h j = false) : thruB L g wide h = false := by
  cases hb : thruB L g wide h with
  | false => rfl
  | true => have := List.all_eq_true.1 hb j (List.mem_range.2 hj); rw [hh] at this; cases this

theorem through_f (L : Lg) (g : List Rg) (wide : Int) (h : Int → Int) (f : FuncId) (fs cs : List Value) (V : View) (q : Addr) (hq : LathV V q L) (hL : LgOk L) (hg : g.length = 8) (hgb : ∀ r ∈ g, -10000 ≤ r.lo ∧ r.lo ≤ 10000 ∧ -10000 ≤ r.hi ∧ r.hi ≤ 10000) (hw : 0 ≤ wide ∧ wide ≤ 100)
    (hok : CallOk Try.prog f) (hc : ∀ y, y ∈ L.pl → Fnc Try.prog f (fs ++ [iv y] ++ cs) V fun v _ => v = iv (h y)) :
    Fnc Try.prog 93 [.pointer (some q), .agg (flat rge g).toArray, iv wide, .func (.func f) fs.toArray cs.toArray] V fun r _ => r = .bool (thruB L g wide h) := by
  obtain ⟨a, c, a', c', h1, h2, h3⟩ := hq
  have hn8 := hL.n8
  have hfl : (flat rge g).length = 16 := by rw [flat_len rge_len, hg]
  refine fn_of Try.func93 rfl Try.ntmps93 (Nat.le_of_ble_eq_true rfl) ?_
  intro w0 hw0
  refine At.nrm ?_
  refine At.ktext (.n false 0 (.q 1 .done)) ?_
  refine AtT.kbox ?_
  intro b5
  refine AtT.kassign ?_
  refine AtT.done ?_
  refine At.nrm ?_
  refine At.ktext (.q 0 (.q 1 (.q 2 (.q 3 (.q 4 (.q 5 (.q 6 .done))))))) ?_
  refine AtT.kmove ?_
  refine AtT.knil ?_
  first | refine AtT.kfieldO fo106_0 ?_ | with_reducible refine AtT.kfield2 fo106_0 ?_ | refine AtT.kfield fo106_0 ?_
  first | refine AtT.kfieldO fo25_0 ?_ | with_reducible refine AtT.kfield2 fo25_0 ?_ | refine AtT.kfield fo25_0 ?_
  first | refine AtT.kloadO tk22 ?_ | refine AtT.kload tk22 ?_
  first | refine AtT.klenS Try.underlying22 ?_ | refine AtT.klenR Try.underlying22 ?_
  refine AtT.kmove ?_
  refine AtT.done ?_
  refine At.nrm ?_
  refine At.lp (ι := Nat) (KS := fun k => [(0, .pointer (some q)), (2, iv wide), (3, .func (.func f) fs.toArray cs.toArray), (5, .pointer (some ⟨b5, 0, none⟩)), (15, .slice a L.pl.length c), (16, iv L.pl.length), (17, iv k)]) (OS := fun _ => [.blk b5 (LC (flat rge g) 131)])
    (VS := fun k V' => Le V V' ∧ k ≤ L.pl.length ∧ ∀ j, j < k → testH L g wide h j = true) (μ := fun k => L.pl.length - k) 0 ?_ ?_ ?_ ?_
  · exact ⟨rfl, rfl, rfl, rfl, rfl, rfl, rfl, trivial⟩
  · exact Pt.auto
  · exact ⟨Le.refl _, Nat.zero_le _, fun j h => absurd h (Nat.not_lt_zero _)⟩
  · rintro k V' ks' O' ⟨hVV, hkl, hall⟩ hk hO hl
    subst hk hO
    have h2' := h2.le hVV
    refine At.nrm ?_
    refine At.ktext (.q 0 .done) ?_
    refine AtT.klss ?_
    refine AtT.done ?_
    refine At.nrm ?_
    refine At.condP rfl (fun hb => ?_) (fun hb => ?_)
    · obtain ⟨r, hr⟩ : ∃ r, g[k]? = some r := ⟨_, List.getElem?_eq_getElem (by omega)⟩
      have hgr : gate g k = r := by simp [gate, List.getD, hr]
      have hrb := hgb r (List.mem_of_getElem? hr)
      have q1 : (flat rge g)[k * 2 + 0]? = some (iv r.lo) := flat_at rge_len _ _ _ hr 0 _ rfl
      have q2 : (flat rge g)[k * 2 + 1]? = some (iv r.hi) := flat_at rge_len _ _ _ hr 1 _ rfl
      have m1 := mul_bd (a := r.lo) (b := wide) (A := 10000) (B := 100) (by decide) (by decide) (by omega) (by omega) (by omega) (by omega)
      have m2 := mul_bd (a := r.hi) (b := wide) (A := 10000) (B := 100) (by decide) (by decide) (by omega) (by omega) (by omega) (by omega)
      refine At.nrm ?_
      refine At.ktext (.q 0 (.q 1 (.q 2 (.q 3 (.q 4 .done))))) ?_
      refine AtT.kmove ?_
      refine AtT.kidx Try.underlying22 tk2 ?_
      intro p20 e20 he20 hc20
      first | refine AtT.kloadO tk2 ?_ | refine AtT.kload tk2 ?_
      refine AtT.kassign ?_
      refine AtT.kassign ?_
      refine AtT.done ?_
      refine At.nrm ?_
      have hpe : e20 = plP L k := plP_some he20
      have hmem : e20 ∈ L.pl := List.mem_of_getElem? he20
      subst hpe
      refine At.draw (.q 0 (.q 1 (.q 2 (.q 3 (.q 4 (.q 5 (.q 6 (.q 7 (.q 8 (.q 9 (.q 10 (.q 11 (.q 12 (.q 13 (.n false 14 (.n false 15 (.n false 16 (.q 17 .done)))))))))))))))))) ffm (by kernel_rfl) ?_
      refine AtT.kmove ?_
      refine AtT.kidxA Try.underlying131 tk69 ?_
      refine AtT.re (d := 23) rfl (v' := .pointer (some ⟨b5, k * 2, none⟩)) (by simp) ?_
      first | refine AtT.kfieldO fo69_0 ?_ | with_reducible refine AtT.kfield2 fo69_0 ?_ | refine AtT.kfield fo69_0 ?_
      refine AtT.loadO rfl trivial rfl tk2 Pick.auto q1 (by decide) ?_
      refine AtT.kmove ?_
      first | refine AtT.kmul ?_ | refine AtT.kmulW ?_
      refine AtT.kmove ?_
      refine AtT.kidxA Try.underlying131 tk69 ?_
      refine AtT.re (d := 29) rfl (v' := .pointer (some ⟨b5, k * 2, none⟩)) (by simp) ?_
      first | refine AtT.kfieldO fo69_1 ?_ | with_reducible refine AtT.kfield2 fo69_1 ?_ | refine AtT.kfield fo69_1 ?_
      refine AtT.loadO rfl trivial rfl tk2 Pick.auto q2 (by decide) ?_
      refine AtT.kmove ?_
      first | refine AtT.kmul ?_ | refine AtT.kmulW ?_
      refine AtT.kmove ?_
      refine AtT.kmove ?_
      refine AtT.kcallV rfl rfl rfl hok ((hc _ hmem).more hVV) ?_
      rintro _ rfl
      refine AtT.kbsliceG (bs22_1_0 _) ?_
      intro q37 V37 hV37 hq37
      have g37 : Le V V37 := by first | exact hV37 | exact Le.trans (by assumption) hV37
      refine AtT.kcallP rfl rfl ok63 (within_f _ _ [h (plP L k)] _ _ (Sl.lit hq37 rfl (by simp))) ?_
      rintro _ rfl
      refine AtT.knot ?_
      refine AtT.done ?_
      refine At.nrm ?_
      refine At.cond rfl (fun hb2 => ?_) (fun hb2 => ?_)
      · refine At.nrm ?_
        refine At.ktext (.q 0 .done) ?_
        refine AtT.kassign ?_
        refine AtT.done ?_
        refine At.nrm ?_
        refine At.ret1 rfl (.tmp rfl) ?_
        rw [thruB_false (j := k) (by omega) (by unfold testH; rw [hgr]; simpa using hb2)]
      · refine At.nrm ?_
        refine At.ktext (.q 0 (.q 1 .done)) ?_
        first | refine AtT.kadd ?_ | refine AtT.kaddW ?_
        refine AtT.kmove ?_
        refine AtT.done ?_
        refine At.nrm ?_
        refine At.round (k + 1) ?_ ?_ ?_ ?_
        · show L.pl.length - (k + 1) < L.pl.length - k; omega
        · refine ⟨hVV.trans hV37, by omega, fun j hj => ?_⟩
          by_cases c : j = k
          · subst c; unfold testH; rw [hgr]; simpa using hb2
          · exact hall j (by omega)
        · exact ⟨rfl, rfl, rfl, rfl, rfl, rfl, rfl, trivial⟩
        · exact Pt.auto
    · have hk : k = L.pl.length := by omega
      subst hk
      refine At.nrm ?_
      refine At.ktext (.q 0 .done) ?_
      refine AtT.kassign ?_
      refine AtT.done ?_
      refine At.nrm ?_
      refine At.ret1 rfl (.tmp rfl) ?_
      rw [thruB_true hall]
end Go.Proofs.Ytnionkopmncopaa
namespace Go.Pl

def gateE (core : Int) (e : Rg) : Rg := ⟨e.lo + core, e.hi - core⟩
/-- The gates, the first k of them told. -/
def gK (L : Lg) (core : Int) (k : Nat) : List Rg := (L.ed.take k).map (gateE core) ++ List.replicate (8 - k) ⟨0, 0⟩
theorem gK_len {L : Lg} {core : Int} {k : Nat} (h : k ≤ L.ed.length) (h8 : k ≤ 8) : (gK L core k).length = 8 := by
  simp [gK, List.length_take]; omega
theorem gK_set {L : Lg} {core : Int} {k : Nat} {e : Rg} (h : L.ed[k]? = some e) (h8 : k < 8) : (gK L core k).set k (gateE core e) = gK L core (k + 1) := by
  have hk := (List.getElem?_eq_some_iff.1 h).1
  have hl : ((L.ed.take k).map (gateE core)).length = k := by simp [List.length_take]; omega
  have e8 : 8 - k = (8 - (k + 1)) + 1 := by omega
  have ht : L.ed.take (k + 1) = L.ed.take k ++ [e] := by
    rw [List.take_succ_eq_append_getElem hk, (List.getElem?_eq_some_iff.1 h).2]
  unfold gK
  rw [List.set_append, if_neg (by omega), hl, Nat.sub_self, e8, List.replicate_succ, List.set_cons_zero, ht, List.map_append, List.append_assoc]
  rfl
theorem gK_at {L : Lg} {core : Int} {k j : Nat} {e : Rg} (hj : j < k) (h : L.ed[j]? = some e) : (gK L core k)[j]? = some (gateE core e) := by
  have hjl := (List.getElem?_eq_some_iff.1 h).1
  unfold gK
  rw [List.getElem?_append, if_pos (by simp [List.length_take]; omega), List.getElem?_map, List.getElem?_take, if_pos hj, h]
  rfl
theorem gK_bd {L : Lg} (hL : LgOk L) {core : Int} (hc : -2000 ≤ core ∧ core ≤ 2000) (k : Nat) : ∀ r ∈ gK L core k, -3000 ≤ r.lo ∧ r.lo ≤ 3000 ∧ -3000 ≤ r.hi ∧ r.hi ≤ 3000 := by
  intro r hr
  unfold gK at hr
  rcases List.mem_append.1 hr with h | h
  · obtain ⟨e, he, rfl⟩ := List.mem_map.1 h
    have := hL.edge e (List.mem_of_mem_take he)
    simp only [gateE]; omega
  · rw [List.eq_of_mem_replicate h]; simp
end Go.Pl
set_option linter.unusedVariables false
namespace Go.Proofs.Ytnionkopmncopaa
open Go.Lw Go.Pl Go.RowKit

def gEnd (L : Lg) (core : Int) (i : Nat) (s : Nat) : Int := if s = 0 then (gate (gK L core L.pl.length) i).lo else (gate (gK L core L.pl.length) i).hi
def hB (L : Lg) (core x : Int) (i k s t : Nat) : List Rt :=
  if thruB L (gK L core L.pl.length) (plP L k - plP L i) (hgt L i k (gEnd L core i s) (gEnd L core k t)) then [rat (hgt L i k (gEnd L core i s) (gEnd L core k t) x) (plP L k - plP L i)] else []
def hT (L : Lg) (core x : Int) (i k s : Nat) : Nat → List Rt
  | 0 => []
  | t + 1 => hT L core x i k s t ++ hB L core x i k s t
def hS (L : Lg) (core x : Int) (i k : Nat) : Nat → List Rt
  | 0 => []
  | s + 1 => hS L core x i k s ++ hT L core x i k s 2
def hK (L : Lg) (core x : Int) (i : Nat) : Nat → List Rt
  | 0 => []
  | m + 1 => hK L core x i m ++ hS L core x i (i + 1 + m) 2
def hI (L : Lg) (core x : Int) : Nat → List Rt
  | 0 => []
  | i + 1 => hI L core x i ++ hK L core x i (L.pl.length - (i + 1))
/-- All heights at x of lines through ends of two gates that go through all gates. -/
def allH (L : Lg) (core x : Int) : List Rt := hI L core x L.pl.length

theorem hB_len (L : Lg) (core x : Int) (i k s t : Nat) : (hB L core x i k s t).length ≤ 1 := by unfold hB; split <;> simp
theorem hT_len (L : Lg) (core x : Int) (i k s : Nat) : ∀ t, (hT L core x i k s t).length ≤ t
  | 0 => by simp [hT]
  | t + 1 => by have := hT_len L core x i k s t; have := hB_len L core x i k s t; simp only [hT, List.length_append]; omega
theorem hS_len (L : Lg) (core x : Int) (i k : Nat) : ∀ s, (hS L core x i k s).length ≤ 2 * s
  | 0 => by simp [hS]
  | s + 1 => by have := hS_len L core x i k s; have := hT_len L core x i k s 2; simp only [hS, List.length_append]; omega
theorem hK_len (L : Lg) (core x : Int) (i : Nat) : ∀ m, (hK L core x i m).length ≤ 4 * m
  | 0 => by simp [hK]
  | m + 1 => by have := hK_len L core x i m; have := hS_len L core x i (i + 1 + m) 2; simp only [hK, List.length_append]; omega
theorem hI_len (L : Lg) (core x : Int) (h8 : L.pl.length ≤ 8) : ∀ i, (hI L core x i).length ≤ 32 * i
  | 0 => by simp [hI]
  | i + 1 => by have := hI_len L core x h8 i; have := hK_len L core x i (L.pl.length - (i + 1)); simp only [hI, List.length_append]; omega

def HtB (r : Rt) : Prop := -2000000 ≤ r.num ∧ r.num ≤ 2000000 ∧ 0 < r.den ∧ r.den ≤ 100
theorem hB_bd {L : Lg} {core x : Int} (hL : LgOk L) (hc : -2000 ≤ core ∧ core ≤ 2000) (hx : 0 ≤ x ∧ x ≤ 100) {i k s t : Nat} (hik : i < k) (hk : k < L.pl.length) : ∀ r ∈ hB L core x i k s t, HtB r := by
  intro r hr
  unfold hB at hr
  split at hr
  · obtain rfl : r = _ := by simpa using hr
    have pli := hL.plB (i := (i : Int)) (by omega) (by omega)
    have plk := hL.plB (i := (k : Int)) (by omega) (by omega)
    have pll := hL.plL (i := (i : Int)) (j := (k : Int)) (by omega) (by omega) (by omega)
    have gb : ∀ (j s : Nat), -3000 ≤ gEnd L core j s ∧ gEnd L core j s ≤ 3000 := fun j s => by
      have : -3000 ≤ (gate (gK L core L.pl.length) j).lo ∧ (gate (gK L core L.pl.length) j).lo ≤ 3000 ∧ -3000 ≤ (gate (gK L core L.pl.length) j).hi ∧ (gate (gK L core L.pl.length) j).hi ≤ 3000 := by
        unfold gate
        cases h : (gK L core L.pl.length)[j]? with
        | none => simp [List.getD, h]
        | some e => simp only [List.getD, h, Option.getD_some]; exact gK_bd hL hc _ e (List.mem_of_getElem? h)
      unfold gEnd; split <;> omega
    have b1 := gb i s
    have b2 := gb k t
    have m1 := mul_bd (a := gEnd L core i s) (b := plP L k - x) (A := 10000) (B := 100) (by decide) (by decide) (by omega) (by omega) (by omega) (by omega)
    have m2 := mul_bd (a := gEnd L core k t) (b := x - plP L i) (A := 10000) (B := 100) (by decide) (by decide) (by omega) (by omega) (by omega) (by omega)
    have r0 := rat_bd (hgt L i k (gEnd L core i s) (gEnd L core k t) x) (plP L k - plP L i) (by omega)
    unfold hgt at *
    unfold HtB
    omega
  · cases hr
theorem hT_bd {L : Lg} {core x : Int} (hL : LgOk L) (hc : -2000 ≤ core ∧ core ≤ 2000) (hx : 0 ≤ x ∧ x ≤ 100) {i k s : Nat} (hik : i < k) (hk : k < L.pl.length) : ∀ t, ∀ r ∈ hT L core x i k s t, HtB r
  | 0, _, h => by cases h
  | t + 1, r, h => by
    rcases List.mem_append.1 h with h | h
    · exact hT_bd hL hc hx hik hk t r h
    · exact hB_bd hL hc hx hik hk r h
theorem hS_bd {L : Lg} {core x : Int} (hL : LgOk L) (hc : -2000 ≤ core ∧ core ≤ 2000) (hx : 0 ≤ x ∧ x ≤ 100) {i k : Nat} (hik : i < k) (hk : k < L.pl.length) : ∀ s, ∀ r ∈ hS L core x i k s, HtB r
  | 0, _, h => by cases h
  | s + 1, r, h => by
    rcases List.mem_append.1 h with h | h
    · exact hS_bd hL hc hx hik hk s r h
    · exact hT_bd hL hc hx hik hk 2 r h
theorem hK_bd {L : Lg} {core x : Int} (hL : LgOk L) (hc : -2000 ≤ core ∧ core ≤ 2000) (hx : 0 ≤ x ∧ x ≤ 100) {i : Nat} : ∀ m, i + 1 + m ≤ L.pl.length → ∀ r ∈ hK L core x i m, HtB r
  | 0, _, _, h => by cases h
  | m + 1, hm, r, h => by
    rcases List.mem_append.1 h with h | h
    · exact hK_bd hL hc hx m (by omega) r h
    · exact hS_bd hL hc hx (by omega) (by omega) 2 r h
theorem hI_bd {L : Lg} {core x : Int} (hL : LgOk L) (hc : -2000 ≤ core ∧ core ≤ 2000) (hx : 0 ≤ x ∧ x ≤ 100) : ∀ i, i ≤ L.pl.length → ∀ r ∈ hI L core x i, HtB r
  | 0, _, _, h => by cases h
  | i + 1, hi, r, h => by
    rcases List.mem_append.1 h with h | h
    · exact hI_bd hL hc hx i (by omega) r h
    · exact hK_bd hL hc hx _ (by omega) r h
theorem htB_fit {a b : Rt} (ha : HtB a) (hb : HtB b) : Fit (a.num * b.den) := by
  unfold HtB at *
  have m := mul_bd (a := a.num) (b := b.den) (A := 2000000) (B := 100) (by decide) (by decide) (by omega) (by omega) (by omega) (by omega)
  exact ⟨by omega, by omega⟩

theorem slice131 (b : Nat) (w : World) : (Instr.sliceAt 131 (.pointer (some ⟨b, 0, none⟩)) none none none).run Try.prog w = .ok (.slice (some ⟨b, 0, none⟩) 8 8) w := by kernel_rfl

theorem heights_f (L : Lg) (core x : Int) (V : View) (q : Addr) (hq : LathV V q L) (hL : LgOk L) (hcb : -2000 ≤ core ∧ core ≤ 2000) (hxb : 0 ≤ x ∧ x ≤ 100) :
    Fnc Try.prog 71 [.pointer (some q), iv core, iv x] V fun r _ => (allH L core x = [] ∧ r = .tuple #[rtv ⟨0, 0⟩, rtv ⟨0, 0⟩, .bool false]) ∨
      ∃ h0 hs, allH L core x = h0 :: hs ∧ r = .tuple #[rtv (bestOf lessB h0 hs), rtv (bestOf (fun a b => lessB b a) h0 hs), .bool true] := by
  have hq' := hq
  obtain ⟨a, c, a', c', h1, h2, h3⟩ := hq
  have hn8 := hL.n8
  have el := hL.el
  refine fn_of Try.func71 rfl Try.ntmps71 (Nat.le_of_ble_eq_true rfl) ?_
  intro w0 hw0
  refine At.nrm ?_
  refine At.ktext (.n false 0 (.n false 1 (.n false 2 (.q 3 .done)))) ?_
  refine AtT.kbox ?_
  intro b3
  refine AtT.kalloc z31 ?_
  intro b6
  refine AtT.kalloc z31 ?_
  intro b7
  refine AtT.kassign ?_
  refine AtT.done ?_
  refine At.nrm ?_
  refine At.ktext (.n false 0 .done) ?_
  refine AtT.kalloc z131 ?_
  intro b9
  refine AtT.done ?_
  refine At.nrm ?_
  refine At.ktext (.q 0 (.n true 1 .done)) ?_
  refine AtT.slV rfl trivial rfl (slice131 b9) (by decide) ?_
  refine AtT.clearO rfl trivial Try.underlying23 z69 rfl (by kernel_rfl) rfl rfl (by repeat (first | exact Upd.here | apply Upd.there)) ?_ (us := flat rge (gK L core 0))
  refine AtT.done ?_
  refine At.nrm ?_
  refine At.ktext (.q 0 (.q 1 (.q 2 (.q 3 (.q 4 (.q 5 (.q 6 .done))))))) ?_
  first | refine AtT.kloadO tk85 ?_ | refine AtT.kload tk85 ?_
  refine AtT.knil ?_
  first | refine AtT.kfieldO fo106_0 ?_ | with_reducible refine AtT.kfield2 fo106_0 ?_ | refine AtT.kfield fo106_0 ?_
  first | refine AtT.kfieldO fo25_1 ?_ | with_reducible refine AtT.kfield2 fo25_1 ?_ | refine AtT.kfield fo25_1 ?_
  first | refine AtT.kloadO tk23 ?_ | refine AtT.kload tk23 ?_
  first | refine AtT.klenS Try.underlying23 ?_ | refine AtT.klenR Try.underlying23 ?_
  refine AtT.kmove ?_
  refine AtT.done ?_
  refine At.nrm ?_
  refine At.lp (ι := Nat) (KS := fun k => [(1, iv core), (2, iv x), (3, .pointer (some ⟨b3, 0, none⟩)), (6, .pointer (some ⟨b6, 0, none⟩)), (7, .pointer (some ⟨b7, 0, none⟩)), (9, .pointer (some ⟨b9, 0, none⟩)), (26, .slice a' L.ed.length c'), (27, iv L.ed.length), (28, iv k)])
    (OS := fun k => [.blk b3 (LC [.pointer (some q)] 85), .blk b6 (LC [iv 0, iv 0] 31), .blk b7 (LC [iv 0, iv 0] 31), .blk b9 (LC (flat rge (gK L core k)) 131)])
    (VS := fun k V' => V = V' ∧ k ≤ L.ed.length) (μ := fun k => L.ed.length - k) 0 ?_ ?_ ?_ ?_
  · exact ⟨rfl, rfl, rfl, rfl, rfl, rfl, rfl, rfl, rfl, trivial⟩
  · exact Pt.auto
  · exact ⟨rfl, Nat.zero_le _⟩
  · rintro k V' ks' O' ⟨rfl, hkl⟩ hk hO hl
    subst hk hO
    refine At.nrm ?_
    refine At.ktext (.q 0 .done) ?_
    refine AtT.klss ?_
    refine AtT.done ?_
    refine At.nrm ?_
    refine At.condP rfl (fun hb => ?_) (fun hb => ?_)
    · obtain ⟨e, he⟩ : ∃ e, L.ed[k]? = some e := ⟨_, List.getElem?_eq_getElem (by omega)⟩
      have heb := hL.edge e (List.mem_of_getElem? he)
      have gl := gK_len (L := L) (core := core) (k := k) (by omega) (by omega)
      have fl : (flat rge (gK L core k)).length = 16 := by rw [flat_len rge_len, gl]
      have s1 := flat_set rge_len (gK L core k) k (gateE core e) (by omega)
      rw [gK_set he (by omega)] at s1
      refine At.nrm ?_
      refine At.ktext (.q 0 (.q 1 (.q 2 (.n false 3 (.q 4 (.n true 5 .done)))))) ?_
      refine AtT.kmove ?_
      refine AtT.kidx Try.underlying23 tk69 ?_
      intro p31 e31 he31 hc31
      obtain rfl : e31 = e := by have : L.ed[k]? = some e31 := (by simpa using he31); rw [he] at this; simpa using this.symm
      first | refine AtT.kloadOA tk69 ?_ | refine AtT.kloadA tk69 ?_ | refine AtT.kloadOP tk69 ?_
      refine AtT.kalloc z69 ?_
      intro b11
      refine AtT.kassign ?_
      refine AtT.kstoreA tk69 ?_
      refine AtT.done ?_
      refine At.nrm ?_
      refine At.ktext (.q 0 (.q 1 (.q 2 (.q 3 (.q 4 (.q 5 (.q 6 (.q 7 (.q 8 (.q 9 (.q 10 (.n true 11 .done)))))))))))) ?_
      refine AtT.kmove ?_
      first | refine AtT.kfieldO fo69_0 ?_ | with_reducible refine AtT.kfield2 fo69_0 ?_ | refine AtT.kfield fo69_0 ?_
      first | refine AtT.kloadO tk2 ?_ | refine AtT.kload tk2 ?_
      refine AtT.kmove ?_
      first | refine AtT.kadd ?_ | refine AtT.kaddW ?_
      first | refine AtT.kfieldO fo69_1 ?_ | with_reducible refine AtT.kfield2 fo69_1 ?_ | refine AtT.kfield fo69_1 ?_
      first | refine AtT.kloadO tk2 ?_ | refine AtT.kload tk2 ?_
      refine AtT.kmove ?_
      first | refine AtT.ksubt ?_ | refine AtT.ksubW ?_
      refine AtT.kbuild (bd69_0_1 _ _) ?_
      refine AtT.kidxA Try.underlying131 tk69 ?_
      refine AtT.re (d := 43) rfl (v' := .pointer (some ⟨b9, k * 2, none⟩)) (by simp) ?_
      refine AtT.store rfl trivial rfl rfl tk69 rfl rfl (by simp; omega) rfl s1 (by repeat (first | exact Upd.here | apply Upd.there)) ?_
      refine AtT.done ?_
      refine At.nrm ?_
      refine At.ktext (.q 0 (.q 1 .done)) ?_
      first | refine AtT.kadd ?_ | refine AtT.kaddW ?_
      refine AtT.kmove ?_
      refine AtT.done ?_
      refine At.nrm ?_
      refine At.round (k + 1) ?_ ?_ ?_ ?_
      · show L.ed.length - (k + 1) < L.ed.length - k; omega
      · exact ⟨rfl, by omega⟩
      · exact ⟨rfl, rfl, rfl, rfl, rfl, rfl, rfl, rfl, rfl, trivial⟩
      · exact Pt.auto
    · have hk : k = L.pl.length := by omega
      subst hk
      refine At.nrm ?_
      refine At.ktext (.q 0 .done) ?_
      refine AtT.kassign ?_
      refine AtT.done ?_
      refine At.nrm ?_
      refine At.ktext (.q 0 (.q 1 (.q 2 (.q 3 (.q 4 (.q 5 (.q 6 .done))))))) ?_
      first | refine AtT.kloadO tk85 ?_ | refine AtT.kload tk85 ?_
      refine AtT.knil ?_
      first | refine AtT.kfieldO fo106_0 ?_ | with_reducible refine AtT.kfield2 fo106_0 ?_ | refine AtT.kfield fo106_0 ?_
      first | refine AtT.kfieldO fo25_0 ?_ | with_reducible refine AtT.kfield2 fo25_0 ?_ | refine AtT.kfield fo25_0 ?_
      first | refine AtT.kloadO tk22 ?_ | refine AtT.kload tk22 ?_
      first | refine AtT.klenS Try.underlying22 ?_ | refine AtT.klenR Try.underlying22 ?_
      refine AtT.kmove ?_
      refine AtT.done ?_
      refine At.nrm ?_
      refine At.newRow 31 2 ?_
      refine At.lp (ι := Nat × Option Addr × Nat) (KS := fun g => [(1, iv core), (2, iv x), (3, .pointer (some ⟨b3, 0, none⟩)), (6, .pointer (some ⟨b6, 0, none⟩)), (7, .pointer (some ⟨b7, 0, none⟩)), (9, .pointer (some ⟨b9, 0, none⟩)), (49, .slice a L.pl.length c), (50, iv L.pl.length), (51, iv g.1), (12, .slice g.2.1 (hI L core x g.1).length g.2.2)])
        (OS := fun g => [.row (.slice g.2.1 (hI L core x g.1).length g.2.2) 31 2 (hI L core x g.1).length (flat rte (hI L core x g.1)), .blk b3 (LC [.pointer (some q)] 85), .blk b6 (LC [iv 0, iv 0] 31), .blk b7 (LC [iv 0, iv 0] 31), .blk b9 (LC (flat rge (gK L core L.pl.length)) 131)]) (VS := fun g V' => Le V V' ∧ g.1 ≤ L.pl.length) (μ := fun g => L.pl.length - g.1) (0, none, 0) ?_ ?_ ?_ ?_
      · exact ⟨rfl, rfl, rfl, rfl, rfl, rfl, rfl, rfl, rfl, rfl, trivial⟩
      · exact Pt.auto
      · exact ⟨Le.refl _, Nat.zero_le _⟩
      · rintro ⟨i, ao, co⟩ V1 ks' O' ⟨hV1, hil⟩ hk hO hl1
        dsimp only at hil hk hO
        subst hk hO
        have li := hI_len L core x hn8 i
        refine At.nrm ?_
        refine At.ktext (.q 0 .done) ?_
        refine AtT.klss ?_
        refine AtT.done ?_
        refine At.nrm ?_
        refine At.condP rfl (fun hbi => ?_) (fun hbi => ?_)
        · have hi : i < L.pl.length := by omega
          refine At.nrm ?_
          refine At.ktext (.q 0 (.n false 1 (.n true 2 .done))) ?_
          refine AtT.kmove ?_
          refine AtT.kalloc z3 ?_
          intro b13
          first | refine AtT.kstore1 tk3 ?_ | refine AtT.kstoreA tk3 ?_
          refine AtT.done ?_
          refine At.nrm ?_
          refine At.ktext (.q 0 (.q 1 (.n false 2 (.n true 3 .done)))) ?_
          first | refine AtT.kloadO tk3 ?_ | refine AtT.kload tk3 ?_
          first | refine AtT.kadd ?_ | refine AtT.kaddW ?_
          refine AtT.kalloc z3 ?_
          intro b14
          first | refine AtT.kstore1 tk3 ?_ | refine AtT.kstoreA tk3 ?_
          refine AtT.done ?_
          refine At.nrm ?_
          refine At.lp (ι := Nat × Nat × Option Addr × Nat) (KS := fun g => [(1, iv core), (2, iv x), (3, .pointer (some ⟨b3, 0, none⟩)), (6, .pointer (some ⟨b6, 0, none⟩)), (7, .pointer (some ⟨b7, 0, none⟩)), (9, .pointer (some ⟨b9, 0, none⟩)), (49, .slice a L.pl.length c), (50, iv L.pl.length), (51, iv i), (13, .pointer (some ⟨b13, 0, none⟩)), (14, .pointer (some ⟨g.2.1, 0, none⟩)), (12, .slice g.2.2.1 (hI L core x i ++ hK L core x i g.1).length g.2.2.2)])
            (OS := fun g => [.row (.slice g.2.2.1 (hI L core x i ++ hK L core x i g.1).length g.2.2.2) 31 2 (hI L core x i ++ hK L core x i g.1).length (flat rte (hI L core x i ++ hK L core x i g.1)), .blk b3 (LC [.pointer (some q)] 85), .blk b6 (LC [iv 0, iv 0] 31), .blk b7 (LC [iv 0, iv 0] 31), .blk b9 (LC (flat rge (gK L core L.pl.length)) 131), .blk b13 (LC [iv i] 3), .blk g.2.1 (LC [iv ((i + 1 + g.1 : Nat) : Int)] 3)]) (VS := fun g V' => Le V1 V' ∧ i + 1 + g.1 ≤ L.pl.length) (μ := fun g => L.pl.length - g.1) (0, b14, ao, co) ?_ ?_ ?_ ?_
          · exact ⟨rfl, rfl, rfl, rfl, rfl, rfl, rfl, rfl, rfl, rfl, rfl, slv (by simp [hK]), trivial⟩
          · have e0 : hI L core x i ++ hK L core x i 0 = hI L core x i := by simp [hK]
            have e1 : ((i + 1 + 0 : Nat) : Int) = (i : Int) + 1 := by omega
            dsimp only
            rw [e0, e1]
            exact Pt.auto
          · exact ⟨Le.refl _, by dsimp only; omega⟩
          · rintro ⟨m, bk, a5, c5⟩ V2 ks' O' ⟨hV2, him⟩ hk hO hl2
            dsimp only at him hk hO
            subst hk hO
            have h2' := h2.le (hV1.trans hV2)
            have h1' := h1.le (hV1.trans hV2)
            refine At.nrm ?_
            refine At.draw (.q 0 (.q 1 (.q 2 (.q 3 (.q 4 (.q 5 (.q 6 (.q 7 .done)))))))) ffm (by kernel_rfl) ?_
            first | refine AtT.kloadO tk3 ?_ | refine AtT.kload tk3 ?_
            first | refine AtT.kloadO tk85 ?_ | refine AtT.kload tk85 ?_
            refine AtT.knil ?_
            first | refine AtT.kfieldO fo106_0 ?_ | with_reducible refine AtT.kfield2 fo106_0 ?_ | refine AtT.kfield fo106_0 ?_
            first | refine AtT.kfieldO fo25_0 ?_ | with_reducible refine AtT.kfield2 fo25_0 ?_ | refine AtT.kfield fo25_0 ?_
            first | refine AtT.kloadO tk22 ?_ | refine AtT.kload tk22 ?_
            first | refine AtT.klenS Try.underlying22 ?_ | refine AtT.klenR Try.underlying22 ?_
            refine AtT.klss ?_
            refine AtT.done ?_
            refine At.nrm ?_
            refine At.condP rfl (fun hbk => ?_) (fun hbk => ?_)
            · have hk : i + 1 + m < L.pl.length := by omega
              generalize hkk : i + 1 + m = k at *
              have pli := hL.plB (i := (i : Int)) (by omega) (by omega)
              have plk := hL.plB (i := (k : Int)) (by omega) (by omega)
              have pll := hL.plL (i := (i : Int)) (j := (k : Int)) (by omega) (by omega) (by omega)
              obtain ⟨ei', hei⟩ : ∃ e, L.ed[i]? = some e := ⟨_, List.getElem?_eq_getElem (by omega)⟩
              obtain ⟨ek', hek⟩ : ∃ e, L.ed[k]? = some e := ⟨_, List.getElem?_eq_getElem (by omega)⟩
              have gi := gK_at (core := core) (k := L.pl.length) hi hei
              have gk := gK_at (core := core) (k := L.pl.length) hk hek
              have gie : gate (gK L core L.pl.length) i = gateE core ei' := by simp [gate, List.getD, gi]
              have gke : gate (gK L core L.pl.length) k = gateE core ek' := by simp [gate, List.getD, gk]
              have qi0 : (flat rge (gK L core L.pl.length))[i * 2 + 0]? = some (iv (gEnd L core i 0)) := by rw [gEnd, if_pos rfl, gie]; exact flat_at rge_len _ _ _ gi 0 _ rfl
              have qi1 : (flat rge (gK L core L.pl.length))[i * 2 + 1]? = some (iv (gEnd L core i 1)) := by rw [gEnd, if_neg (by decide), gie]; exact flat_at rge_len _ _ _ gi 1 _ rfl
              have qk0 : (flat rge (gK L core L.pl.length))[k * 2 + 0]? = some (iv (gEnd L core k 0)) := by rw [gEnd, if_pos rfl, gke]; exact flat_at rge_len _ _ _ gk 0 _ rfl
              have qk1 : (flat rge (gK L core L.pl.length))[k * 2 + 1]? = some (iv (gEnd L core k 1)) := by rw [gEnd, if_neg (by decide), gke]; exact flat_at rge_len _ _ _ gk 1 _ rfl
              refine At.nrm ?_
              refine At.draw (.q 0 (.q 1 (.q 2 (.q 3 (.q 4 (.q 5 (.q 6 (.q 7 (.q 8 (.q 9 (.q 10 (.q 11 (.q 12 (.q 13 (.q 14 (.q 15 (.q 16 (.q 17 .done)))))))))))))))))) ffm (by kernel_rfl) ?_
              first | refine AtT.kloadO tk85 ?_ | refine AtT.kload tk85 ?_
              refine AtT.knil ?_
              first | refine AtT.kfieldO fo106_0 ?_ | with_reducible refine AtT.kfield2 fo106_0 ?_ | refine AtT.kfield fo106_0 ?_
              first | refine AtT.kfieldO fo25_0 ?_ | with_reducible refine AtT.kfield2 fo25_0 ?_ | refine AtT.kfield fo25_0 ?_
              first | refine AtT.kloadO tk22 ?_ | refine AtT.kload tk22 ?_
              first | refine AtT.kloadO tk3 ?_ | refine AtT.kload tk3 ?_
              refine AtT.kidx Try.underlying22 tk2 ?_
              intro p72 e72 he72 hc72
              obtain rfl := plP_some he72
              first | refine AtT.kloadO tk2 ?_ | refine AtT.kload tk2 ?_
              first | refine AtT.kloadO tk85 ?_ | refine AtT.kload tk85 ?_
              refine AtT.knil ?_
              first | refine AtT.kfieldO fo106_0 ?_ | with_reducible refine AtT.kfield2 fo106_0 ?_ | refine AtT.kfield fo106_0 ?_
              first | refine AtT.kfieldO fo25_0 ?_ | with_reducible refine AtT.kfield2 fo25_0 ?_ | refine AtT.kfield fo25_0 ?_
              first | refine AtT.kloadO tk22 ?_ | refine AtT.kload tk22 ?_
              first | refine AtT.kloadO tk3 ?_ | refine AtT.kload tk3 ?_
              refine AtT.kidx Try.underlying22 tk2 ?_
              intro p80 e80 he80 hc80
              obtain rfl := plP_some he80
              first | refine AtT.kloadO tk2 ?_ | refine AtT.kload tk2 ?_
              first | refine AtT.ksubt ?_ | refine AtT.ksubW ?_
              refine AtT.kassign ?_
              refine AtT.done ?_
              refine At.nrm ?_
              refine At.draw (.q 0 (.q 1 (.q 2 (.q 3 (.q 4 (.q 5 (.q 6 (.q 7 (.q 10 (.n false 8 (.q 9 .done))))))))))) ffm (by kernel_rfl) ?_
              first | refine AtT.kloadO tk3 ?_ | refine AtT.kload tk3 ?_
              refine AtT.kidxA Try.underlying131 tk69 ?_
              refine AtT.re (d := 84) rfl (v' := .pointer (some ⟨b9, i * 2, none⟩)) (by simp) ?_
              first | refine AtT.kfieldO fo69_0 ?_ | with_reducible refine AtT.kfield2 fo69_0 ?_ | refine AtT.kfield fo69_0 ?_
              refine AtT.loadO rfl trivial rfl tk2 Pick.auto qi0 (by decide) ?_
              first | refine AtT.kloadO tk3 ?_ | refine AtT.kload tk3 ?_
              refine AtT.kidxA Try.underlying131 tk69 ?_
              refine AtT.re (d := 88) rfl (v' := .pointer (some ⟨b9, i * 2, none⟩)) (by simp) ?_
              first | refine AtT.kfieldO fo69_1 ?_ | with_reducible refine AtT.kfield2 fo69_1 ?_ | refine AtT.kfield fo69_1 ?_
              refine AtT.loadO rfl trivial rfl tk2 Pick.auto qi1 (by decide) ?_
              refine AtT.kmove ?_
              refine AtT.kbsliceG (bs22_2_0_1 _ _) ?_
              intro q91 V91 hV91 hq91
              have g91 : Le V V91 := by first | exact hV91 | exact Le.trans (by assumption) hV91
              first | refine AtT.klenS Try.underlying22 ?_ | refine AtT.klenR Try.underlying22 ?_
              refine AtT.done ?_
              refine At.nrm ?_
              have hs91 : SlI V91 (.slice (some q91) 2 2) [gEnd L core i 0, gEnd L core i 1] := Sl.lit hq91 rfl (by simp)
              refine At.lp (ι := Nat × Option Addr × Nat) (KS := fun g => [(1, iv core), (2, iv x), (3, .pointer (some ⟨b3, 0, none⟩)), (6, .pointer (some ⟨b6, 0, none⟩)), (7, .pointer (some ⟨b7, 0, none⟩)), (9, .pointer (some ⟨b9, 0, none⟩)), (49, .slice a L.pl.length c), (50, iv L.pl.length), (51, iv i), (13, .pointer (some ⟨b13, 0, none⟩)), (14, .pointer (some ⟨bk, 0, none⟩)), (15, iv (plP L k - plP L i)), (91, .slice (some q91) 2 2), (92, iv 2), (93, iv g.1), (12, .slice g.2.1 (hI L core x i ++ hK L core x i m ++ hS L core x i k g.1).length g.2.2)])
                (OS := fun g => [.row (.slice g.2.1 (hI L core x i ++ hK L core x i m ++ hS L core x i k g.1).length g.2.2) 31 2 (hI L core x i ++ hK L core x i m ++ hS L core x i k g.1).length (flat rte (hI L core x i ++ hK L core x i m ++ hS L core x i k g.1)), .blk b3 (LC [.pointer (some q)] 85), .blk b6 (LC [iv 0, iv 0] 31), .blk b7 (LC [iv 0, iv 0] 31), .blk b9 (LC (flat rge (gK L core L.pl.length)) 131), .blk b13 (LC [iv i] 3), .blk bk (LC [iv k] 3)]) (VS := fun g V' => Le V91 V' ∧ g.1 ≤ 2) (μ := fun g => 2 - g.1) (0, a5, c5) ?_ ?_ ?_ ?_
              · exact ⟨rfl, rfl, rfl, rfl, rfl, rfl, rfl, rfl, rfl, rfl, rfl, rfl, rfl, rfl, rfl, slv (by simp [hS]), trivial⟩
              · have e0 : hI L core x i ++ hK L core x i m ++ hS L core x i k 0 = hI L core x i ++ hK L core x i m := by simp [hS]
                dsimp only
                rw [e0]
                · exact Pt.auto
              · exact ⟨Le.refl _, Nat.zero_le _⟩
              · rintro ⟨s, a6, c6⟩ V3 ks' O' ⟨hV3, hsl⟩ hk' hO hl3
                dsimp only at hsl hk' hO
                subst hk' hO
                have hs3 := hs91.le hV3
                refine At.nrm ?_
                refine At.ktext (.q 0 .done) ?_
                refine AtT.klss ?_
                refine AtT.done ?_
                refine At.nrm ?_
                refine At.condP rfl (fun hbs => ?_) (fun hbs => ?_)
                · have hs : s < 2 := by omega
                  have hsv : [gEnd L core i 0, gEnd L core i 1][s]? = some (gEnd L core i s) := by
                    have : s = 0 ∨ s = 1 := by omega
                    rcases this with rfl | rfl <;> rfl
                  refine At.nrm ?_
                  refine At.ktext (.q 0 (.q 1 (.n false 2 (.n true 3 .done)))) ?_
                  refine AtT.kidx Try.underlying22 tk2 ?_
                  intro p95 e95 he95 hc95
                  obtain rfl : e95 = gEnd L core i s := by have : [gEnd L core i 0, gEnd L core i 1][s]? = some e95 := (by simpa using he95); rw [hsv] at this; simpa using this.symm
                  first | refine AtT.kloadO tk2 ?_ | refine AtT.kload tk2 ?_
                  refine AtT.kalloc z2 ?_
                  intro b17
                  first | refine AtT.kstore1 tk2 ?_ | refine AtT.kstoreA tk2 ?_
                  refine AtT.done ?_
                  refine At.nrm ?_
                  refine At.draw (.q 0 (.q 1 (.q 2 (.q 3 (.q 4 (.q 5 (.q 6 (.q 7 (.q 10 (.n false 8 (.q 9 .done))))))))))) ffm (by kernel_rfl) ?_
                  first | refine AtT.kloadO tk3 ?_ | refine AtT.kload tk3 ?_
                  refine AtT.kidxA Try.underlying131 tk69 ?_
                  refine AtT.re (d := 98) rfl (v' := .pointer (some ⟨b9, k * 2, none⟩)) (by simp) ?_
                  first | refine AtT.kfieldO fo69_0 ?_ | with_reducible refine AtT.kfield2 fo69_0 ?_ | refine AtT.kfield fo69_0 ?_
                  refine AtT.loadO rfl trivial rfl tk2 Pick.auto qk0 (by decide) ?_
                  first | refine AtT.kloadO tk3 ?_ | refine AtT.kload tk3 ?_
                  refine AtT.kidxA Try.underlying131 tk69 ?_
                  refine AtT.re (d := 102) rfl (v' := .pointer (some ⟨b9, k * 2, none⟩)) (by simp) ?_
                  first | refine AtT.kfieldO fo69_1 ?_ | with_reducible refine AtT.kfield2 fo69_1 ?_ | refine AtT.kfield fo69_1 ?_
                  refine AtT.loadO rfl trivial rfl tk2 Pick.auto qk1 (by decide) ?_
                  refine AtT.kmove ?_
                  refine AtT.kbsliceG (bs22_2_0_1 _ _) ?_
                  intro q105 V105 hV105 hq105
                  have g105 : Le V V105 := by first | exact hV105 | exact Le.trans (by assumption) hV105
                  first | refine AtT.klenS Try.underlying22 ?_ | refine AtT.klenR Try.underlying22 ?_
                  refine AtT.done ?_
                  refine At.nrm ?_
                  have hs105 : SlI V105 (.slice (some q105) 2 2) [gEnd L core k 0, gEnd L core k 1] := Sl.lit hq105 rfl (by simp)
                  refine At.lp (ι := Nat × Option Addr × Nat) (KS := fun g => [(1, iv core), (2, iv x), (3, .pointer (some ⟨b3, 0, none⟩)), (6, .pointer (some ⟨b6, 0, none⟩)), (7, .pointer (some ⟨b7, 0, none⟩)), (9, .pointer (some ⟨b9, 0, none⟩)), (49, .slice a L.pl.length c), (50, iv L.pl.length), (51, iv i), (13, .pointer (some ⟨b13, 0, none⟩)), (14, .pointer (some ⟨bk, 0, none⟩)), (15, iv (plP L k - plP L i)), (91, .slice (some q91) 2 2), (92, iv 2), (93, iv s), (17, .pointer (some ⟨b17, 0, none⟩)), (105, .slice (some q105) 2 2), (106, iv 2), (107, iv g.1), (12, .slice g.2.1 (hI L core x i ++ hK L core x i m ++ hS L core x i k s ++ hT L core x i k s g.1).length g.2.2)])
                    (OS := fun g => [.row (.slice g.2.1 (hI L core x i ++ hK L core x i m ++ hS L core x i k s ++ hT L core x i k s g.1).length g.2.2) 31 2 (hI L core x i ++ hK L core x i m ++ hS L core x i k s ++ hT L core x i k s g.1).length (flat rte (hI L core x i ++ hK L core x i m ++ hS L core x i k s ++ hT L core x i k s g.1)), .blk b3 (LC [.pointer (some q)] 85), .blk b6 (LC [iv 0, iv 0] 31), .blk b7 (LC [iv 0, iv 0] 31), .blk b9 (LC (flat rge (gK L core L.pl.length)) 131), .blk b13 (LC [iv i] 3), .blk bk (LC [iv k] 3), .blk b17 (LC [iv (gEnd L core i s)] 2)]) (VS := fun g V' => Le V105 V' ∧ g.1 ≤ 2) (μ := fun g => 2 - g.1) (0, a6, c6) ?_ ?_ ?_ ?_
                  · exact ⟨rfl, rfl, rfl, rfl, rfl, rfl, rfl, rfl, rfl, rfl, rfl, rfl, rfl, rfl, rfl, rfl, rfl, rfl, rfl, slv (by simp [hT]), trivial⟩
                  · have e0 : hI L core x i ++ hK L core x i m ++ hS L core x i k s ++ hT L core x i k s 0 = hI L core x i ++ hK L core x i m ++ hS L core x i k s := by simp [hT]
                    dsimp only
                    rw [e0]
                    · exact Pt.auto
                  · exact ⟨Le.refl _, Nat.zero_le _⟩
                  · rintro ⟨t, a7, c7⟩ V4 ks' O' ⟨hV4, htl⟩ hk' hO hl4
                    dsimp only at htl hk' hO
                    subst hk' hO
                    have hs4 := hs105.le hV4
                    refine At.nrm ?_
                    refine At.ktext (.q 0 .done) ?_
                    refine AtT.klss ?_
                    refine AtT.done ?_
                    refine At.nrm ?_
                    refine At.condP rfl (fun hbt => ?_) (fun hbt => ?_)
                    · have ht : t < 2 := by omega
                      have htv : [gEnd L core k 0, gEnd L core k 1][t]? = some (gEnd L core k t) := by
                        have : t = 0 ∨ t = 1 := by omega
                        rcases this with rfl | rfl <;> rfl
                      refine At.nrm ?_
                      refine At.ktext (.q 0 (.q 1 (.n false 2 (.n true 3 .done)))) ?_
                      refine AtT.kidx Try.underlying22 tk2 ?_
                      intro p109 e109 he109 hc109
                      obtain rfl : e109 = gEnd L core k t := by have : [gEnd L core k 0, gEnd L core k 1][t]? = some e109 := (by simpa using he109); rw [htv] at this; simpa using this.symm
                      first | refine AtT.kloadO tk2 ?_ | refine AtT.kload tk2 ?_
                      refine AtT.kalloc z2 ?_
                      intro b19
                      first | refine AtT.kstore1 tk2 ?_ | refine AtT.kstoreA tk2 ?_
                      refine AtT.done ?_
                      refine At.nrm ?_
                      refine At.ktext (.q 0 (.q 1 .done)) ?_
                      refine AtT.kfn ?_
                      refine AtT.kassign ?_
                      refine AtT.done ?_
                      refine At.nrm ?_
                      have hVq : Le V V4 := hV1.trans (hV2.trans (hV91.trans (hV3.trans (hV105.trans hV4))))
                      have hgl : (gK L core L.pl.length).length = 8 := gK_len (by omega) hn8
                      have hfl : (flat rge (gK L core L.pl.length)).length = 16 := by rw [flat_len rge_len, hgl]
                      have hgb := gK_bd hL hcb L.pl.length
                      have bi := hgb _ (List.mem_of_getElem? gi)
                      have bkk := hgb _ (List.mem_of_getElem? gk)
                      have ba : -10000 ≤ gEnd L core i s ∧ gEnd L core i s ≤ 10000 := by unfold gEnd; rw [gie]; split <;> omega
                      have bb : -10000 ≤ gEnd L core k t ∧ gEnd L core k t ≤ 10000 := by unfold gEnd; rw [gke]; split <;> omega
                      refine At.ktext (.q 0 (.q 1 (.q 2 (.q 3 (.n false 4 .done))))) ?_
                      first | refine AtT.kloadO tk85 ?_ | refine AtT.kload tk85 ?_
                      refine AtT.loadOA rfl trivial rfl tk131 Pick.auto hfl (by decide) ?_
                      refine AtT.kmove ?_
                      refine AtT.kmove ?_
                      refine AtT.kcallL rfl rfl ok93 (fun VL hVL hOL => through_f L (gK L core L.pl.length) (plP L k - plP L i) (hgt L i k (gEnd L core i s) (gEnd L core k t)) 92 [] [.pointer (some ⟨b17, 0, none⟩), .pointer (some ⟨b3, 0, none⟩), .pointer (some ⟨bk, 0, none⟩), .pointer (some ⟨b19, 0, none⟩), .pointer (some ⟨b13, 0, none⟩)] VL q (hq'.le (hVq.trans hVL)) hL hgl (fun r hr => by have := hgb r hr; omega) ⟨by omega, by omega⟩ ok92 (fun y hy => height_f L i k _ _ y VL q ⟨b17, 0, none⟩ ⟨b3, 0, none⟩ ⟨bk, 0, none⟩ ⟨b19, 0, none⟩ ⟨b13, 0, none⟩ (hq'.le (hVq.trans hVL)) hL (cells_blk (hOL b17 (LC [iv (gEnd L core i s)] 2) (by repeat (first | exact List.mem_cons_self | apply List.mem_cons_of_mem)))) (cells_blk (hOL b3 (LC [.pointer (some q)] 85) (by repeat (first | exact List.mem_cons_self | apply List.mem_cons_of_mem)))) (cells_blk (hOL bk (LC [iv k] 3) (by repeat (first | exact List.mem_cons_self | apply List.mem_cons_of_mem)))) (cells_blk (hOL b19 (LC [iv (gEnd L core k t)] 2) (by repeat (first | exact List.mem_cons_self | apply List.mem_cons_of_mem)))) (cells_blk (hOL b13 (LC [iv i] 3) (by repeat (first | exact List.mem_cons_self | apply List.mem_cons_of_mem)))) (by omega) (by omega) (by omega) (by omega) ba bb (hL.at0 y hy))) ?_
                      rintro _ rfl
                      refine AtT.done ?_
                      refine At.nrm ?_
                      have lk := hK_len L core x i m
                      have ls := hS_len L core x i k s
                      have lt' := hT_len L core x i k s t
                      have eT : hI L core x i ++ hK L core x i m ++ hS L core x i k s ++ hT L core x i k s (t + 1) = hI L core x i ++ hK L core x i m ++ hS L core x i k s ++ hT L core x i k s t ++ hB L core x i k s t := by simp [hT]
                      refine At.cond rfl (fun hth => ?_) (fun hth => ?_)
                      · have m1 := mul_bd (a := gEnd L core i s) (b := plP L k - x) (A := 10000) (B := 100) (by decide) (by decide) (by omega) (by omega) (by omega) (by omega)
                        have m2 := mul_bd (a := gEnd L core k t) (b := x - plP L i) (A := 10000) (B := 100) (by decide) (by decide) (by omega) (by omega) (by omega) (by omega)
                        have eB : hB L core x i k s t = [rat (hgt L i k (gEnd L core i s) (gEnd L core k t) x) (plP L k - plP L i)] := by rw [hB, if_pos hth]
                        have hlenA : (hI L core x i ++ hK L core x i m ++ hS L core x i k s ++ hT L core x i k s t).length ≤ 1000 := by simp only [List.length_append]; omega
                        rw [eB] at eT
                        refine At.nrm ?_
                        refine At.ktext (.q 0 (.q 1 (.q 2 (.n false 3 (.q 4 (.n false 5 (.n false 6 (.n true 7 (.q 8 .done))))))))) ?_
                        refine AtT.kmove ?_
                        refine AtT.kmove ?_
                        refine AtT.kmove ?_
                        refine AtT.kcallVL rfl rfl rfl ok92 (fun VL hVL hOL => height_f L i k _ _ x VL q ⟨b17, 0, none⟩ ⟨b3, 0, none⟩ ⟨bk, 0, none⟩ ⟨b19, 0, none⟩ ⟨b13, 0, none⟩ (hq'.le (hVq.trans hVL)) hL (cells_blk (hOL b17 (LC [iv (gEnd L core i s)] 2) (by repeat (first | exact List.mem_cons_self | apply List.mem_cons_of_mem)))) (cells_blk (hOL b3 (LC [.pointer (some q)] 85) (by repeat (first | exact List.mem_cons_self | apply List.mem_cons_of_mem)))) (cells_blk (hOL bk (LC [iv k] 3) (by repeat (first | exact List.mem_cons_self | apply List.mem_cons_of_mem)))) (cells_blk (hOL b19 (LC [iv (gEnd L core k t)] 2) (by repeat (first | exact List.mem_cons_self | apply List.mem_cons_of_mem)))) (cells_blk (hOL b13 (LC [iv i] 3) (by repeat (first | exact List.mem_cons_self | apply List.mem_cons_of_mem)))) (by omega) (by omega) (by omega) (by omega) ba bb hxb) ?_
                        rintro _ rfl
                        refine AtT.kmove ?_
                        refine AtT.kcallP rfl rfl ok76 (by_f _ _ _ (by unfold hgt; omega) (by unfold hgt; omega) (by omega) (by omega)) ?_
                        rintro _ rfl
                        refine AtT.kbsliceG (bs132_1_0 _ _) ?_
                        intro q123 V123 hV123 hq123
                        have g123 : Le V V123 := by first | exact hV123 | exact Le.trans (by assumption) hV123
                        first | refine AtT.kappend Try.underlying132 rw31 ?_
                        intro a124 c124
                        refine AtT.kassign ?_
                        refine AtT.done ?_
                        refine At.nrm ?_
                        refine At.ktext (.q 0 (.q 1 .done)) ?_
                        first | refine AtT.kadd ?_ | refine AtT.kaddW ?_
                        refine AtT.kmove ?_
                        refine AtT.done ?_
                        refine At.nrm ?_
                        refine At.round (t + 1, a124, c124) ?_ ?_ ?_ ?_
                        · show 2 - (t + 1) < 2 - t; omega
                        · exact ⟨hV4.trans hV123, by dsimp only; omega⟩
                        · exact ⟨rfl, rfl, rfl, rfl, rfl, rfl, rfl, rfl, rfl, rfl, rfl, rfl, rfl, rfl, rfl, rfl, rfl, rfl, rfl, slv (by rw [eT]; simp only [List.length_append, List.length_cons, List.length_nil]), trivial⟩
                        · dsimp only
                          rw [eT, flat_snoc, List.length_append]
                          · exact Pt.auto
                      · have eB : hB L core x i k s t = [] := by rw [hB, if_neg (by rw [hth]; simp)]
                        rw [eB, List.append_nil] at eT
                        refine At.nrm ?_
                        refine At.ktext (.q 0 (.q 1 .done)) ?_
                        first | refine AtT.kadd ?_ | refine AtT.kaddW ?_
                        refine AtT.kmove ?_
                        refine AtT.done ?_
                        refine At.nrm ?_
                        refine At.round (t + 1, a7, c7) ?_ ?_ ?_ ?_
                        · show 2 - (t + 1) < 2 - t; omega
                        · exact ⟨hV4, by dsimp only; omega⟩
                        · exact ⟨rfl, rfl, rfl, rfl, rfl, rfl, rfl, rfl, rfl, rfl, rfl, rfl, rfl, rfl, rfl, rfl, rfl, rfl, rfl, slv (by rw [eT]), trivial⟩
                        · dsimp only
                          rw [eT]
                          · exact Pt.auto
                    · have ht : t = 2 := by omega
                      subst ht
                      have eS : hI L core x i ++ hK L core x i m ++ hS L core x i k (s + 1) = hI L core x i ++ hK L core x i m ++ hS L core x i k s ++ hT L core x i k s 2 := by simp [hS]
                      refine At.nrm ?_
                      refine At.ktext (.q 0 (.q 1 .done)) ?_
                      first | refine AtT.kadd ?_ | refine AtT.kaddW ?_
                      refine AtT.kmove ?_
                      refine AtT.done ?_
                      refine At.nrm ?_
                      refine At.round (s + 1, a7, c7) ?_ ?_ ?_ ?_
                      · show 2 - (s + 1) < 2 - s; omega
                      · exact ⟨hV3.trans (hV105.trans hV4), by dsimp only; omega⟩
                      · exact ⟨rfl, rfl, rfl, rfl, rfl, rfl, rfl, rfl, rfl, rfl, rfl, rfl, rfl, rfl, rfl, slv (by rw [eS]), trivial⟩
                      · dsimp only
                        rw [eS]
                        · exact Pt.auto
                · have hs : s = 2 := by omega
                  subst hs
                  have eK : hI L core x i ++ hK L core x i (m + 1) = hI L core x i ++ hK L core x i m ++ hS L core x i k 2 := by rw [← hkk]; simp [hK]
                  have ek : ((i + 1 + (m + 1) : Nat) : Int) = (k : Int) + 1 := by omega
                  refine At.nrm ?_
                  refine At.ktext (.q 0 .done) ?_
                  first | refine AtT.kloadO tk3 ?_ | refine AtT.kload tk3 ?_
                  refine AtT.done ?_
                  refine At.nrm ?_
                  refine At.ktext (.n false 0 (.n true 1 .done)) ?_
                  refine AtT.kalloc z3 ?_
                  intro b14
                  first | refine AtT.kstore1 tk3 ?_ | refine AtT.kstoreA tk3 ?_
                  refine AtT.done ?_
                  refine At.nrm ?_
                  refine At.ktext (.q 0 (.q 1 (.n true 2 .done))) ?_
                  first | refine AtT.kloadO tk3 ?_ | refine AtT.kload tk3 ?_
                  first | refine AtT.kadd ?_ | refine AtT.kaddW ?_
                  first | refine AtT.kstore1 tk3 ?_ | refine AtT.kstoreA tk3 ?_
                  refine AtT.done ?_
                  refine At.nrm ?_
                  refine At.round (m + 1, b14, a6, c6) ?_ ?_ ?_ ?_
                  · show L.pl.length - (m + 1) < L.pl.length - m; omega
                  · exact ⟨hV2.trans (hV91.trans hV3), by dsimp only; omega⟩
                  · exact ⟨rfl, rfl, rfl, rfl, rfl, rfl, rfl, rfl, rfl, rfl, rfl, slv (by rw [eK]), trivial⟩
                  · dsimp only
                    rw [eK, ek]
                    · exact Pt.auto
            · have hm : m = L.pl.length - (i + 1) := by omega
              have eI : hI L core x (i + 1) = hI L core x i ++ hK L core x i m := by rw [hm]; rfl
              refine At.nrm ?_
              refine At.ktext (.q 0 (.q 1 .done)) ?_
              first | refine AtT.kadd ?_ | refine AtT.kaddW ?_
              refine AtT.kmove ?_
              refine AtT.done ?_
              refine At.nrm ?_
              refine At.round (i + 1, a5, c5) ?_ ?_ ?_ ?_
              · show L.pl.length - (i + 1) < L.pl.length - i; omega
              · exact ⟨hV1.trans hV2, by dsimp only; omega⟩
              · exact ⟨rfl, rfl, rfl, rfl, rfl, rfl, rfl, rfl, ivs (by push_cast; rfl), slv (by rw [eI]), trivial⟩
              · dsimp only
                rw [eI]
                · exact Pt.auto
        · have hi : i = L.pl.length := by omega
          subst hi
          refine At.giveSl rte_len rfl rfl Pick.auto (fun V9 hV9 hs9 => ?_)
          refine At.nrm ?_
          refine At.ktext (.q 0 (.q 1 (.q 2 .done))) ?_
          refine AtT.kmove ?_
          first | refine AtT.klenS Try.underlying132 ?_ | refine AtT.klenR Try.underlying132 ?_
          refine AtT.keqI ?_
          refine AtT.done ?_
          refine At.nrm ?_
          have hbd := hI_bd hL hcb hxb L.pl.length (Nat.le_refl _)
          refine At.condP rfl (fun h0 => ?_) (fun h0 => ?_)
          · refine At.nrm ?_
            refine At.ktext (.q 0 (.q 1 (.n true 2 (.n true 3 (.q 4 .done))))) ?_
            refine AtT.kbuild (bd31) ?_
            refine AtT.kbuild (bd31) ?_
            refine AtT.kstoreA tk31 ?_
            refine AtT.kstoreA tk31 ?_
            refine AtT.kassign ?_
            refine AtT.done ?_
            refine At.nrm ?_
            exact At.ret3 rfl (.agg rfl tk31 Pick.auto rfl) (.agg rfl tk31 Pick.auto rfl) (.tmp rfl) (.inl ⟨List.length_eq_zero_iff.1 (show (hI L core x L.pl.length).length = 0 by omega), rfl⟩)
          · obtain ⟨g0, gs, hgs⟩ : ∃ g0 gs, hI L core x L.pl.length = g0 :: gs := by
              cases h : hI L core x L.pl.length with
              | nil => rw [h] at h0; simp at h0
              | cons g0 gs => exact ⟨g0, gs, rfl⟩
            have hs9' : Sl V9 rte 2 (.slice ao (hI L core x L.pl.length).length co) (g0 :: gs) := by rw [← hgs]; exact hs9
            rw [hgs] at hbd
            refine At.nrm ?_
            refine At.ktext (.q 0 (.n false 1 (.q 2 (.n false 3 (.n true 4 (.n true 5 (.q 6 .done))))))) ?_
            refine AtT.kmove ?_
            refine AtT.kcallP rfl rfl ok94 (best_r 90 [] lessB _ _ g0 gs hs9' ok90 (fun a b ha hb => less_f a b _ (htB_fit (hbd _ ha) (hbd _ hb)) (htB_fit (hbd _ hb) (hbd _ ha)))) ?_
            rintro _ rfl
            refine AtT.kmove ?_
            refine AtT.kcallP rfl rfl ok94 (best_r 95 [] (fun a b => lessB b a) _ _ g0 gs hs9' ok95 (fun a b ha hb => greater_f a b _ (htB_fit (hbd _ ha) (hbd _ hb)) (htB_fit (hbd _ hb) (hbd _ ha)))) ?_
            rintro _ rfl
            refine AtT.kstoreA tk31 ?_
            refine AtT.kstoreA tk31 ?_
            refine AtT.kassign ?_
            refine AtT.done ?_
            refine At.nrm ?_
            exact At.ret3 rfl (.agg rfl tk31 Pick.auto rfl) (.agg rfl tk31 Pick.auto rfl) (.tmp rfl) (.inr ⟨g0, gs, hgs, rfl⟩)
end Go.Proofs.Ytnionkopmncopaa
set_option linter.unusedVariables false
namespace Go.Proofs.Ytnionkopmncopaa
open Go.Lw Go.Pl Go.RowKit

def hghR (L : Lg) (core x : Int) : Rt × Rt × Int :=
  if logE L ≠ 0 then (⟨0, 0⟩, ⟨0, 0⟩, logE L) else if ¬ (-2000 ≤ core ∧ core ≤ 2000 ∧ 0 ≤ x ∧ x ≤ 100) then (⟨0, 0⟩, ⟨0, 0⟩, 3)
  else match allH L core x with
    | [] => (⟨0, 0⟩, ⟨0, 0⟩, 17)
    | h0 :: hs => (bestOf lessB h0 hs, bestOf (fun a b => lessB b a) h0 hs, 0)

theorem heights_p (L : Lg) (core x : Int) (V : View) (v : Value) (hv : LogV V v L) : Fnc Try.prog 34 [v, iv core, iv x] V fun r _ => r = .tuple #[rtv (hghR L core x).1, rtv (hghR L core x).2.1, iv (hghR L core x).2.2] := by
  have hv' := hv
  obtain ⟨a, c, a', c', rfl, h2, h3⟩ := hv
  refine fn_of Try.func34 rfl Try.ntmps34 (Nat.le_of_ble_eq_true rfl) ?_
  intro w0 hw0
  refine At.nrm ?_
  refine At.ktext (.n false 0 (.n false 1 (.n false 2 (.q 3 .done)))) ?_
  refine AtT.kbox ?_
  intro b3
  refine AtT.kalloc z31 ?_
  intro b6
  refine AtT.kalloc z31 ?_
  intro b7
  refine AtT.kassign ?_
  refine AtT.done ?_
  refine At.nrm ?_
  refine At.ktext (.q 0 (.n false 1 (.q 2 (.q 3 (.q 4 (.q 5 (.q 6 .done))))))) ?_
  first | refine AtT.kloadOA tk25 ?_ | refine AtT.kloadA tk25 ?_ | refine AtT.kloadOP tk25 ?_
  all_goals (refine AtT.kcall rfl rfl ok59 (open_f L _ _ hv') ?_)
  all_goals (rintro _ V1 hV1 (⟨he, rfl⟩ | ⟨he, p, rfl, hp⟩))
  all_goals (refine AtT.kmove ?_)
  all_goals (refine AtT.kextract ?_)
  all_goals (refine AtT.kextract ?_)
  all_goals (refine AtT.kassign ?_)
  all_goals (refine AtT.kassign ?_)
  all_goals refine AtT.done ?_
  all_goals (refine At.nrm ?_)
  · refine At.ktext (.q 0 (.q 1 (.q 2 .done))) ?_
    refine AtT.kmove ?_
    refine AtT.kneI ?_
    refine AtT.kassign ?_
    refine AtT.done ?_
    refine At.nrm ?_
    refine At.condP rfl (fun hb => ?_) (fun hb => absurd he hb)
    refine At.nrm ?_
    refine At.ktext (.q 0 (.q 1 (.q 2 (.n true 3 (.n true 4 (.q 5 .done)))))) ?_
    refine AtT.kbuild (bd31) ?_
    refine AtT.kbuild (bd31) ?_
    refine AtT.kmove ?_
    refine AtT.kstoreA tk31 ?_
    refine AtT.kstoreA tk31 ?_
    refine AtT.kassign ?_
    refine AtT.done ?_
    refine At.nrm ?_
    refine At.ret3 rfl (.agg rfl tk31 Pick.auto rfl) (.agg rfl tk31 Pick.auto rfl) (.tmp rfl) ?_
    rw [hghR, if_pos he]
  · refine At.ktext (.q 0 (.q 1 (.q 2 .done))) ?_
    refine AtT.kmove ?_
    refine AtT.kneI ?_
    refine AtT.kassign ?_
    refine AtT.done ?_
    refine At.nrm ?_
    refine At.condF rfl rfl ?_
    refine At.nrm ?_
    refine At.cutG (ι := Unit) (fun _ => [(1, iv core), (2, iv x), (6, .pointer (some ⟨b6, 0, none⟩)), (7, .pointer (some ⟨b7, 0, none⟩)), (9, .pointer (some p)), (25, .bool (decide ¬ (-2000 ≤ core ∧ core ≤ 2000 ∧ 0 ≤ x ∧ x ≤ 100)))]) (fun _ => [.blk b6 (LC [iv 0, iv 0] 31), .blk b7 (LC [iv 0, iv 0] 31)]) (fun _ V' => Le V1 V') ?_ ?_
    · refine At.ktext (.q 0 (.n false 1 (.n false 2 (.q 3 (.q 4 (.q 5 (.n false 6 (.n false 7 (.q 8 (.q 9 (.q 10 .done))))))))))) ?_
      refine AtT.kmove ?_
      refine AtT.kbsliceG (bs22_1_0 _) ?_
      intro q27 V27 hV27 hq27
      have g27 : Le V V27 := by first | exact hV27 | exact Le.trans (by assumption) hV27
      refine AtT.kcallP rfl rfl ok63 (within_f (-2000) 2000 [core] _ _ (Sl.lit hq27 rfl (by simp))) ?_
      rintro _ rfl
      refine AtT.knot ?_
      refine AtT.kmove ?_
      all_goals (first | refine AtT.kL 30 ?_ | refine AtT.pcase (d := 30) rfl (fun hg30 => ?_) (fun hg30 => ?_) | refine AtT.bcase (d := 30) rfl (fun hg30 => ?_) (fun hg30 => ?_))
      all_goals (first | refine AtT.kpass ?_ | refine AtT.kpassU ?_ | ((refine AtT.kmove ?_)))
      all_goals (first | refine AtT.kpassN ?_ | refine AtT.kpassNU ?_ | ((refine AtT.kbsliceG (bs22_1_0 _) ?_) ; (intro q32 V32 hV32 hq32) ; (have g32 : Le V V32 := by first | exact hV32 | exact Le.trans (by assumption) hV32)))
      all_goals (first | refine AtT.kpassN ?_ | refine AtT.kpassNU ?_ | ((refine AtT.kcallP rfl rfl ok63 (within_f 0 100 [x] _ _ (Sl.lit hq32 rfl (by simp))) ?_) ; (rintro _ rfl)))
      all_goals (first | refine AtT.kpass ?_ | refine AtT.kpassU ?_ | ((refine AtT.knot ?_)))
      all_goals (refine AtT.kpick ?_)
      all_goals (refine AtT.kassign ?_)
      all_goals refine AtT.done ?_
      all_goals (refine At.nrm ?_)
      all_goals (refine At.meetG () (by first | exact hV27 | exact hV27.trans (by assumption)) ⟨rfl, rfl, rfl, rfl, rfl, bsome ?_, trivial⟩ Pt.auto)
      all_goals (simp [wi, outB] at hg30; rw [Bool.eq_iff_iff]; simp [wi, outB, *]; try omega)
    rintro _ V2 ks' O' hV2 hk hO hl
    subst hk hO
    refine At.condP rfl (fun hb => ?_) (fun hb => ?_)
    · refine At.nrm ?_
      refine At.ktext (.q 0 (.q 1 (.n true 2 (.n true 3 (.q 4 .done))))) ?_
      refine AtT.kbuild (bd31) ?_
      refine AtT.kbuild (bd31) ?_
      refine AtT.kstoreA tk31 ?_
      refine AtT.kstoreA tk31 ?_
      refine AtT.kassign ?_
      refine AtT.done ?_
      refine At.nrm ?_
      refine At.ret3 rfl (.agg rfl tk31 Pick.auto rfl) (.agg rfl tk31 Pick.auto rfl) (.tmp rfl) ?_
      rw [hghR, if_neg (by simp [he]), if_pos hb]
    have hb' : -2000 ≤ core ∧ core ≤ 2000 ∧ 0 ≤ x ∧ x ≤ 100 := Decidable.not_not.1 hb
    refine At.nrm ?_
    refine At.ktext (.q 0 (.q 1 (.q 2 (.n false 3 (.q 4 (.q 5 (.q 6 (.q 7 (.n false 8 (.n false 9 (.n true 10 (.n true 11 (.q 12 .done))))))))))))) ?_
    refine AtT.kmove ?_
    refine AtT.kmove ?_
    refine AtT.kmove ?_
    all_goals (refine AtT.kcallP rfl rfl ok71 (heights_f L core x _ p (hp.le hV2) (logE_ok he) ⟨by omega, by omega⟩ ⟨by omega, by omega⟩) ?_)
    all_goals (rintro _ (⟨hn, rfl⟩ | ⟨h0, hs, hn, rfl⟩))
    all_goals (refine AtT.kmove ?_)
    all_goals (refine AtT.kextract ?_)
    all_goals (refine AtT.kextract ?_)
    all_goals (refine AtT.kextract ?_)
    all_goals (refine AtT.kalloc z31 ?_)
    all_goals (intro b11)
    all_goals (refine AtT.kalloc z31 ?_)
    all_goals (intro b12)
    all_goals (refine AtT.kstoreA tk31 ?_)
    all_goals (refine AtT.kstoreA tk31 ?_)
    all_goals (refine AtT.kassign ?_)
    all_goals refine AtT.done ?_
    all_goals (refine At.nrm ?_)
    · refine At.ktext (.q 0 (.q 1 .done)) ?_
      refine AtT.kmove ?_
      refine AtT.knot ?_
      refine AtT.done ?_
      refine At.nrm ?_
      refine At.condT rfl rfl ?_
      refine At.nrm ?_
      refine At.ktext (.q 0 (.q 1 (.n true 2 (.n true 3 (.q 4 .done))))) ?_
      refine AtT.kbuild (bd31) ?_
      refine AtT.kbuild (bd31) ?_
      refine AtT.kstoreA tk31 ?_
      refine AtT.kstoreA tk31 ?_
      refine AtT.kassign ?_
      refine AtT.done ?_
      refine At.nrm ?_
      refine At.ret3 rfl (.agg rfl tk31 Pick.auto rfl) (.agg rfl tk31 Pick.auto rfl) (.tmp rfl) ?_
      rw [hghR, if_neg (by simp [he]), if_neg hb, hn]
    · refine At.ktext (.q 0 (.q 1 .done)) ?_
      refine AtT.kmove ?_
      refine AtT.knot ?_
      refine AtT.done ?_
      refine At.nrm ?_
      refine At.condF rfl rfl ?_
      refine At.nrm ?_
      refine At.drawC [.blk b11 (LC (rte (bestOf lessB h0 hs)) 31), .blk b12 (LC (rte (bestOf (fun a b => lessB b a) h0 hs)) 31)] (.q 0 (.q 1 (.n false 2 (.n false 3 (.q 4 .done))))) ffm (by kernel_rfl) Pt.auto ?_
      refine AtC.pre (fun hle0 => ?_)
      refine AtC.kq (by (first | refine AtT.kloadOA tk31 ?_ | refine AtT.kloadA tk31 ?_ | refine AtT.kloadOP tk31 ?_); exact At.knows) ?_
      refine AtC.kq (by (first | refine AtT.kloadOA tk31 ?_ | refine AtT.kloadA tk31 ?_ | refine AtT.kloadOP tk31 ?_); exact At.knows) ?_
      refine AtC.nz ?_
      refine AtT.kstoreA tk31 ?_
      refine AtC.kgo ?_
      refine AtC.nz ?_
      refine AtT.kstoreA tk31 ?_
      refine AtC.kgo ?_
      refine AtC.kq (by (refine AtT.kassign ?_); exact At.knows) ?_
      refine AtC.done ?_
      refine At.nrm ?_
      refine At.ret3 rfl (.agg rfl tk31 Pick.auto rfl) (.agg rfl tk31 Pick.auto rfl) (.tmp rfl) ?_
      rw [hghR, if_neg (by simp [he]), if_neg hb, hn]
end Go.Proofs.Ytnionkopmncopaa
set_option linter.unusedVariables false
namespace Go.Proofs.Ytnionkopmncopaa
open Go.Lw Go.Pl Go.RowKit

theorem great_f (L : Lg) (V : View) (v : Value) (hv : LogV V v L) : Fnc Try.prog 18 [v] V fun r _ => r = .bool (decide (12 < (L.pl.length : Int) ∨ 12 < (L.ed.length : Int))) := by
  obtain ⟨a, c, a', c', rfl, h2, h3⟩ := hv
  refine fn_of Try.func18 rfl Try.ntmps18 (Nat.le_of_ble_eq_true rfl) ?_
  intro w0 hw0
  refine At.nrm ?_
  refine At.ktext (.n false 0 (.q 1 .done)) ?_
  refine AtT.kbox ?_
  intro b1
  refine AtT.kassign ?_
  refine AtT.done ?_
  refine At.nrm ?_
  refine At.ktext (.q 0 (.q 1 (.q 2 (.q 3 (.q 4 (.q 5 (.q 6 (.q 7 (.q 8 (.q 9 (.q 10 .done))))))))))) ?_
  first | refine AtT.kfieldO fo25_0 ?_ | with_reducible refine AtT.kfield2 fo25_0 ?_ | refine AtT.kfield fo25_0 ?_
  first | refine AtT.kloadO tk22 ?_ | refine AtT.kload tk22 ?_
  first | refine AtT.klenS Try.underlying22 ?_ | refine AtT.klenR Try.underlying22 ?_
  refine AtT.kgtr ?_
  refine AtT.kmove ?_
  all_goals (first | refine AtT.kL 7 ?_ | refine AtT.pcase (d := 7) rfl (fun hg7 => ?_) (fun hg7 => ?_) | refine AtT.bcase (d := 7) rfl (fun hg7 => ?_) (fun hg7 => ?_))
  all_goals (first | refine AtT.kpass ?_ | refine AtT.kpassU ?_ | ((first | refine AtT.kfieldO fo25_1 ?_ | with_reducible refine AtT.kfield2 fo25_1 ?_ | refine AtT.kfield fo25_1 ?_)))
  all_goals (first | refine AtT.kpass ?_ | refine AtT.kpassU ?_ | ((first | refine AtT.kloadO tk23 ?_ | refine AtT.kload tk23 ?_)))
  all_goals (first | refine AtT.kpass ?_ | refine AtT.kpassU ?_ | ((first | refine AtT.klenS Try.underlying23 ?_ | refine AtT.klenR Try.underlying23 ?_)))
  all_goals (first | refine AtT.kpass ?_ | refine AtT.kpassU ?_ | ((refine AtT.kgtr ?_)))
  all_goals (refine AtT.kpick ?_)
  all_goals (refine AtT.kassign ?_)
  all_goals refine AtT.done ?_
  all_goals (refine At.nrm ?_)
  all_goals (refine At.ret1 rfl (.tmp rfl) ?_)
  all_goals (show Value.bool _ = Value.bool _; congr 1; rw [Bool.eq_iff_iff]; simp; omega)

theorem wide_f (R : Rough) (V : View) (v : Value) (hv : RoughV V v R) : Fnc Try.prog 36 [v] V fun r _ => r = .bool (decide (12 < (R.pl.length : Int) ∨ 12 < (R.low.length : Int) ∨ 12 < (R.high.length : Int))) := by
  obtain ⟨a, c, a1, c1, a2, c2, rfl, h2, h3, h4⟩ := hv
  refine fn_of Try.func36 rfl Try.ntmps36 (Nat.le_of_ble_eq_true rfl) ?_
  intro w0 hw0
  refine At.nrm ?_
  refine At.ktext (.n false 0 (.q 1 .done)) ?_
  refine AtT.kbox ?_
  intro b1
  refine AtT.kassign ?_
  refine AtT.done ?_
  refine At.nrm ?_
  refine At.ktext (.q 0 (.q 1 (.q 2 (.q 3 (.q 4 (.q 5 (.q 6 (.q 7 (.q 8 (.q 9 (.q 10 (.q 11 (.q 12 (.q 13 (.q 14 (.q 15 (.q 16 .done))))))))))))))))) ?_
  first | refine AtT.kfieldO fo53_0 ?_ | with_reducible refine AtT.kfield2 fo53_0 ?_ | refine AtT.kfield fo53_0 ?_
  first | refine AtT.kloadO tk22 ?_ | refine AtT.kload tk22 ?_
  first | refine AtT.klenS Try.underlying22 ?_ | refine AtT.klenR Try.underlying22 ?_
  refine AtT.kgtr ?_
  refine AtT.kmove ?_
  all_goals (first | refine AtT.kL 7 ?_ | refine AtT.pcase (d := 7) rfl (fun hg7 => ?_) (fun hg7 => ?_) | refine AtT.bcase (d := 7) rfl (fun hg7 => ?_) (fun hg7 => ?_))
  all_goals (first | refine AtT.kpass ?_ | refine AtT.kpassU ?_ | ((first | refine AtT.kfieldO fo53_1 ?_ | with_reducible refine AtT.kfield2 fo53_1 ?_ | refine AtT.kfield fo53_1 ?_)))
  all_goals (first | refine AtT.kpass ?_ | refine AtT.kpassU ?_ | ((first | refine AtT.kloadO tk23 ?_ | refine AtT.kload tk23 ?_)))
  all_goals (first | refine AtT.kpass ?_ | refine AtT.kpassU ?_ | ((first | refine AtT.klenS Try.underlying23 ?_ | refine AtT.klenR Try.underlying23 ?_)))
  all_goals (first | refine AtT.kpass ?_ | refine AtT.kpassU ?_ | ((refine AtT.kgtr ?_)))
  all_goals (refine AtT.kpick ?_)
  all_goals (refine AtT.kmove ?_)
  all_goals (first | refine AtT.kL 13 ?_ | refine AtT.pcase (d := 13) rfl (fun hg13 => ?_) (fun hg13 => ?_) | refine AtT.bcase (d := 13) rfl (fun hg13 => ?_) (fun hg13 => ?_))
  all_goals (first | refine AtT.kpass ?_ | refine AtT.kpassU ?_ | ((first | refine AtT.kfieldO fo53_2 ?_ | with_reducible refine AtT.kfield2 fo53_2 ?_ | refine AtT.kfield fo53_2 ?_)))
  all_goals (first | refine AtT.kpass ?_ | refine AtT.kpassU ?_ | ((first | refine AtT.kloadO tk23 ?_ | refine AtT.kload tk23 ?_)))
  all_goals (first | refine AtT.kpass ?_ | refine AtT.kpassU ?_ | ((first | refine AtT.klenS Try.underlying23 ?_ | refine AtT.klenR Try.underlying23 ?_)))
  all_goals (first | refine AtT.kpass ?_ | refine AtT.kpassU ?_ | ((refine AtT.kgtr ?_)))
  all_goals (refine AtT.kpick ?_)
  all_goals (refine AtT.kassign ?_)
  all_goals refine AtT.done ?_
  all_goals (refine At.nrm ?_)
  all_goals (refine At.ret1 rfl (.tmp rfl) ?_)
  all_goals (show Value.bool _ = Value.bool _; congr 1; rw [Bool.eq_iff_iff]; simp; omega)

theorem proof44_f (a b c s : Int) (V : View) : Fnc Try.prog 44 [iv a, iv b, iv c, iv s] V fun r _ => r = pfv ⟨a, b, c, s⟩ := by
  refine fn_of Try.func44 rfl Try.ntmps44 (Nat.le_of_ble_eq_true rfl) ?_
  intro w0 hw0
  refine At.nrm ?_
  refine At.ktext (.n false 0 .done) ?_
  refine AtT.kalloc z45 ?_
  intro b8
  refine AtT.done ?_
  refine At.nrm ?_
  refine At.ktext (.q 0 (.q 1 (.q 2 (.q 3 (.q 4 (.n true 5 .done)))))) ?_
  refine AtT.kmove ?_
  refine AtT.kmove ?_
  refine AtT.kmove ?_
  refine AtT.kmove ?_
  refine AtT.kbuild (bd45_0_1_2_3 _ _ _ _) ?_
  refine AtT.kstoreA tk45 ?_
  refine AtT.done ?_
  refine At.nrm ?_
  exact At.ret1 rfl (.agg rfl tk45 Pick.auto rfl) rfl
theorem line47_f (a b c : Int) (V : View) : Fnc Try.prog 47 [iv a, iv b, iv c] V fun r _ => r = lnv ⟨a, b, c⟩ := by
  refine fn_of Try.func47 rfl Try.ntmps47 (Nat.le_of_ble_eq_true rfl) ?_
  intro w0 hw0
  refine At.nrm ?_
  refine At.ktext (.n false 0 .done) ?_
  refine AtT.kalloc z27 ?_
  intro b6
  refine AtT.done ?_
  refine At.nrm ?_
  refine At.ktext (.q 0 (.q 1 (.q 2 (.q 3 (.n true 4 .done))))) ?_
  refine AtT.kmove ?_
  refine AtT.kmove ?_
  refine AtT.kmove ?_
  refine AtT.kbuild (bd27_0_1_2 _ _ _) ?_
  refine AtT.kstoreA tk27 ?_
  refine AtT.done ?_
  refine At.nrm ?_
  exact At.ret1 rfl (.agg rfl tk27 Pick.auto rfl) rfl
theorem to49_f (a b : Int) (V : View) : Fnc Try.prog 49 [iv a, iv b] V fun r _ => r = rgv ⟨a, b⟩ := by
  refine fn_of Try.func49 rfl Try.ntmps49 (Nat.le_of_ble_eq_true rfl) ?_
  intro w0 hw0
  refine At.nrm ?_
  refine At.ktext (.n false 0 .done) ?_
  refine AtT.kalloc z69 ?_
  intro b4
  refine AtT.done ?_
  refine At.nrm ?_
  refine At.ktext (.q 0 (.q 1 (.q 2 (.n true 3 .done)))) ?_
  refine AtT.kmove ?_
  refine AtT.kmove ?_
  refine AtT.kbuild (bd69_0_1 _ _) ?_
  refine AtT.kstoreA tk69 ?_
  refine AtT.done ?_
  refine At.nrm ?_
  exact At.ret1 rfl (.agg rfl tk69 Pick.auto rfl) rfl
theorem by57_f (a b : Int) (V : View) : Fnc Try.prog 57 [iv a, iv b] V fun r _ => r = rtv ⟨a, b⟩ := by
  refine fn_of Try.func57 rfl Try.ntmps57 (Nat.le_of_ble_eq_true rfl) ?_
  intro w0 hw0
  refine At.nrm ?_
  refine At.ktext (.n false 0 .done) ?_
  refine AtT.kalloc z31 ?_
  intro b4
  refine AtT.done ?_
  refine At.nrm ?_
  refine At.ktext (.q 0 (.q 1 (.q 2 (.n true 3 .done)))) ?_
  refine AtT.kmove ?_
  refine AtT.kmove ?_
  refine AtT.kbuild (bd31_0_1 _ _) ?_
  refine AtT.kstoreA tk31 ?_
  refine AtT.done ?_
  refine At.nrm ?_
  exact At.ret1 rfl (.agg rfl tk31 Pick.auto rfl) rfl
theorem ranges54_f (v : Value) (V : View) : Fnc Try.prog 54 [v] V fun r _ => r = v := by
  refine fn_of Try.func54 rfl Try.ntmps54 (Nat.le_of_ble_eq_true rfl) ?_
  intro w0 hw0
  refine At.nrm ?_
  refine At.ktext (.q 0 .done) ?_
  refine AtT.kassign ?_
  refine AtT.done ?_
  refine At.nrm ?_
  refine At.ktext (.q 0 (.q 1 .done)) ?_
  refine AtT.kmove ?_
  refine AtT.kassign ?_
  refine AtT.done ?_
  refine At.nrm ?_
  exact At.ret1 rfl (.tmp rfl) rfl
theorem longs74_f (v : Value) (V : View) : Fnc Try.prog 74 [v] V fun r _ => r = v := by
  refine fn_of Try.func74 rfl Try.ntmps74 (Nat.le_of_ble_eq_true rfl) ?_
  intro w0 hw0
  refine At.nrm ?_
  refine At.ktext (.q 0 .done) ?_
  refine AtT.kassign ?_
  refine AtT.done ?_
  refine At.nrm ?_
  refine At.ktext (.q 0 (.q 1 .done)) ?_
  refine AtT.kmove ?_
  refine AtT.kassign ?_
  refine AtT.done ?_
  refine At.nrm ?_
  exact At.ret1 rfl (.tmp rfl) rfl

def pairs : List Int → List Rg
  | a :: b :: l => ⟨a, b⟩ :: pairs l
  | _ => []
theorem pairs_at : ∀ (l : List Int) (k : Nat) (a b : Int), l[2 * k]? = some a → l[2 * k + 1]? = some b → (pairs l)[k]? = some ⟨a, b⟩
  | [], k, a, b, h, _ => by simp at h
  | [x], 0, a, b, _, h => by simp at h
  | [x], k + 1, a, b, h, _ => by simp [Nat.mul_add] at h
  | x :: y :: l, 0, a, b, h1, h2 => by simp at h1 h2; subst h1 h2; simp [pairs]
  | x :: y :: l, k + 1, a, b, h1, h2 => by
    have e1 : 2 * (k + 1) = 2 * k + 1 + 1 := by omega
    rw [e1] at h1 h2
    simp only [List.getElem?_cons_succ] at h1 h2
    simp only [pairs, List.getElem?_cons_succ]
    exact pairs_at l k a b h1 h2
theorem pairs_len : ∀ l : List Int, (pairs l).length = l.length / 2
  | [] => rfl
  | [x] => by simp [pairs]
  | x :: y :: l => by simp only [pairs, List.length_cons, pairs_len l]; omega

theorem log75_f (pl es : List Int) (V : View) (v1 v2 : Value) (h1 : SlI V v1 pl) (h2 : SlI V v2 es) (hl : es.length ≤ 1000) : Fnc Try.prog 75 [v1, v2] V fun r V' => LogV V' r ⟨pl, pairs es⟩ := by
  obtain ⟨a, c, rfl⟩ := h1.form
  obtain ⟨a2, c2, rfl⟩ := h2.form
  have hpl := pairs_len es
  refine fn_of Try.func75 rfl Try.ntmps75 (Nat.le_of_ble_eq_true rfl) ?_
  intro w0 hw0
  refine At.nrm ?_
  refine At.ktext (.n false 0 .done) ?_
  refine AtT.kalloc z25 ?_
  intro b4
  refine AtT.done ?_
  refine At.nrm ?_
  refine At.ktext (.q 0 (.q 1 (.n false 2 (.n true 3 .done)))) ?_
  refine AtT.kmove ?_
  refine AtT.kbuild (bd25_0 _ _ _) ?_
  refine AtT.kalloc z25 ?_
  intro b5
  refine AtT.kstoreA tk25 ?_
  refine AtT.done ?_
  refine At.nrm ?_
  refine At.ktext (.q 0 .done) ?_
  refine AtT.kassign ?_
  refine AtT.done ?_
  refine At.nrm ?_
  refine At.newRow 69 2 ?_
  refine At.lp (ι := Nat × Option Addr × Nat) (KS := fun g => [(1, .slice a2 es.length c2), (4, .pointer (some ⟨b4, 0, none⟩)), (5, .pointer (some ⟨b5, 0, none⟩)), (6, iv ((2 * g.1 : Nat) : Int))])
    (OS := fun g => [.blk b4 (LC [.slice none 0 0, .slice none 0 0] 25), .blk b5 (LC [.slice a pl.length c, .slice g.2.1 g.1 g.2.2] 25), .row (.slice g.2.1 g.1 g.2.2) 69 2 g.1 (flat rge ((pairs es).take g.1))])
    (VS := fun g V' => Le V V' ∧ g.1 ≤ es.length / 2) (μ := fun g => es.length - g.1) (0, none, 0) ?_ ?_ ?_ ?_
  · exact ⟨rfl, rfl, rfl, rfl, trivial⟩
  · exact Pt.auto
  · exact ⟨Le.refl _, Nat.zero_le _⟩
  · rintro ⟨k, ao, co⟩ V' ks' O' ⟨hVV, hkl⟩ hk hO hl2
    dsimp only at hkl hk hO
    subst hk hO
    have h2' := h2.le hVV
    refine At.nrm ?_
    refine At.ktext (.q 0 (.q 1 (.q 2 (.q 3 (.q 4 .done))))) ?_
    refine AtT.kmove ?_
    first | refine AtT.kadd ?_ | refine AtT.kaddW ?_
    refine AtT.kmove ?_
    first | refine AtT.klenS Try.underlying22 ?_ | refine AtT.klenR Try.underlying22 ?_
    refine AtT.klss ?_
    refine AtT.done ?_
    refine At.nrm ?_
    refine At.condP rfl (fun hb => ?_) (fun hb => ?_)
    · obtain ⟨x, hx⟩ : ∃ x, es[2 * k]? = some x := ⟨_, List.getElem?_eq_getElem (by omega)⟩
      obtain ⟨y, hy⟩ : ∃ y, es[2 * k + 1]? = some y := ⟨_, List.getElem?_eq_getElem (by omega)⟩
      have htk := take_snoc' (pairs_at es k x y hx hy)
      refine At.nrm ?_
      refine At.draw (.q 0 (.q 1 (.q 2 (.q 3 (.q 4 (.q 5 (.q 6 (.q 7 (.q 8 (.q 9 (.q 10 (.n false 11 (.n false 12 (.n true 13 (.q 14 (.n true 15 .done)))))))))))))))) ffm (by kernel_rfl) ?_
      first | refine AtT.kfieldO fo25_1 ?_ | with_reducible refine AtT.kfield2 fo25_1 ?_ | refine AtT.kfield fo25_1 ?_
      first | refine AtT.kloadO tk23 ?_ | refine AtT.kload tk23 ?_
      refine AtT.kmove ?_
      refine AtT.kmove ?_
      refine AtT.kidx Try.underlying22 tk2 ?_
      intro p20 e20 he20 hc20
      obtain rfl : e20 = x := by have e : ((2 * k : Nat) : Int).toNat = 2 * k := (by omega); rw [e] at he20; rw [hx] at he20; exact (Option.some.inj he20).symm
      first | refine AtT.kloadO tk2 ?_ | refine AtT.kload tk2 ?_
      refine AtT.kmove ?_
      refine AtT.kmove ?_
      first | refine AtT.kadd ?_ | refine AtT.kaddW ?_
      refine AtT.kidx Try.underlying22 tk2 ?_
      intro p25 e25 he25 hc25
      obtain rfl : e25 = y := by have e : (((2 * k : Nat) : Int) + 1).toNat = 2 * k + 1 := (by omega); rw [e] at he25; rw [hy] at he25; exact (Option.some.inj he25).symm
      first | refine AtT.kloadO tk2 ?_ | refine AtT.kload tk2 ?_
      refine AtT.kcallP rfl rfl ok49 (to49_f _ _ _) ?_
      rintro _ rfl
      refine AtT.kbsliceG (bs23_1_0 _ _) ?_
      intro q28 V28 hV28 hq28
      have g28 : Le V V28 := by first | exact hV28 | exact Le.trans (by assumption) hV28
      first | refine AtT.kappend Try.underlying23 rw69 ?_
      intro a29 c29
      first | refine AtT.kfieldO fo25_1 ?_ | with_reducible refine AtT.kfield2 fo25_1 ?_ | refine AtT.kfield fo25_1 ?_
      first | refine AtT.kstore1 tk23 ?_ | refine AtT.kstoreA tk23 ?_
      refine AtT.done ?_
      refine At.nrm ?_
      refine At.ktext (.q 0 (.q 1 (.q 2 .done))) ?_
      refine AtT.kmove ?_
      first | refine AtT.kadd ?_ | refine AtT.kaddW ?_
      refine AtT.kassign ?_
      refine AtT.done ?_
      refine At.nrm ?_
      refine At.round (k + 1, a29, c29) ?_ ?_ ?_ ?_
      · show es.length - (k + 1) < es.length - k; omega
      · exact ⟨hVV.trans hV28, by dsimp only; omega⟩
      · exact ⟨rfl, rfl, rfl, ivs (by dsimp only; omega), trivial⟩
      dsimp only
      rw [htk, flat_snoc]
      · exact Pt.auto
    · have hk : k = (pairs es).length := by rw [hpl]; omega
      subst hk
      rw [List.take_length]
      refine At.nrm ?_
      refine At.ktext (.q 0 (.n true 1 .done)) ?_
      first | refine AtT.kloadOA tk25 ?_ | refine AtT.kloadA tk25 ?_ | refine AtT.kloadOP tk25 ?_
      refine AtT.kstoreA tk25 ?_
      refine AtT.done ?_
      refine At.nrm ?_
      refine At.giveSl rge_len rfl rfl Pick.auto (fun V4 hV4 hs4 => ?_)
      refine At.ret1 rfl (.agg rfl tk25 Pick.auto rfl) ?_
      exact ⟨a, c, ao, co, rfl, h1.le (hVV.trans hV4), hs4⟩
end Go.Proofs.Ytnionkopmncopaa
set_option linter.unusedVariables false
namespace Go.Proofs.Ytnionkopmncopaa
open Go.Lw Go.Pl Go.RowKit

def LA : Lg := ⟨[0, 2, 4], [⟨0, 6⟩, ⟨1, 8⟩, ⟨0, 6⟩]⟩
def LB : Lg := ⟨[0, 1], [⟨0, 4⟩, ⟨2, 10⟩]⟩
def RA : Rough := ⟨[0, 2, 4], [⟨0, 1⟩, ⟨1, 1⟩, ⟨0, 0⟩], [⟨6, 6⟩, ⟨8, 9⟩, ⟨6, 6⟩]⟩

theorem three_f (V : View) : Fnc Try.prog 55 [] V fun r V' => LogV V' r LA := by
  refine fn_of Try.func55 rfl Try.ntmps55 (Nat.le_of_ble_eq_true rfl) ?_
  intro w0 hw0
  refine At.nrm ?_
  refine At.ktext (.n false 0 .done) ?_
  refine AtT.kalloc z25 ?_
  intro b0
  refine AtT.done ?_
  refine At.nrm ?_
  refine At.ktext (.n false 0 (.n false 1 (.n false 2 (.n false 3 (.n true 4 .done))))) ?_
  refine AtT.kbsliceG (bs22_3_0_1_2 _ _ _) ?_
  intro q1 V1 hV1 hq1
  have g1 : Le V V1 := by first | exact hV1 | exact Le.trans (by assumption) hV1
  refine AtT.kcallP rfl rfl ok74 (longs74_f _ _) ?_
  rintro _ rfl
  refine AtT.kbsliceG (bs22_6_0_1_2_3_4_5 _ _ _ _ _ _) ?_
  intro q3 V3 hV3 hq3
  have g3 : Le V V3 := by first | exact hV3 | exact Le.trans (by assumption) hV3
  refine AtT.kcall rfl rfl ok75 (log75_f [0, 2, 4] [0, 6, 1, 8, 0, 6] _ _ _ (Sl.lit (hq1.le hV3) rfl (by simp)) (Sl.lit hq3 rfl (by simp)) (by simp)) ?_
  rintro _ V4 hV4 ⟨a, c, a', c', rfl, hL⟩
  refine AtT.kstoreA tk25 ?_
  refine AtT.done ?_
  refine At.nrm ?_
  exact At.ret1 rfl (.agg rfl tk25 Pick.auto rfl) ⟨a, c, a', c', rfl, hL⟩
theorem two_f (V : View) : Fnc Try.prog 56 [] V fun r V' => LogV V' r LB := by
  refine fn_of Try.func56 rfl Try.ntmps56 (Nat.le_of_ble_eq_true rfl) ?_
  intro w0 hw0
  refine At.nrm ?_
  refine At.ktext (.n false 0 .done) ?_
  refine AtT.kalloc z25 ?_
  intro b0
  refine AtT.done ?_
  refine At.nrm ?_
  refine At.ktext (.n false 0 (.n false 1 (.n false 2 (.n false 3 (.n true 4 .done))))) ?_
  refine AtT.kbsliceG (bs22_2_0_1 _ _) ?_
  intro q1 V1 hV1 hq1
  have g1 : Le V V1 := by first | exact hV1 | exact Le.trans (by assumption) hV1
  refine AtT.kcallP rfl rfl ok74 (longs74_f _ _) ?_
  rintro _ rfl
  refine AtT.kbsliceG (bs22_4_0_1_2_3 _ _ _ _) ?_
  intro q3 V3 hV3 hq3
  have g3 : Le V V3 := by first | exact hV3 | exact Le.trans (by assumption) hV3
  refine AtT.kcall rfl rfl ok75 (log75_f [0, 1] [0, 4, 2, 10] _ _ _ (Sl.lit (hq1.le hV3) rfl (by simp)) (Sl.lit hq3 rfl (by simp)) (by simp)) ?_
  rintro _ V4 hV4 ⟨a, c, a', c', rfl, hL⟩
  refine AtT.kstoreA tk25 ?_
  refine AtT.done ?_
  refine At.nrm ?_
  exact At.ret1 rfl (.agg rfl tk25 Pick.auto rfl) ⟨a, c, a', c', rfl, hL⟩

theorem rough_f (V : View) : Fnc Try.prog 58 [] V fun r V' => RoughV V' r RA := by
  refine fn_of Try.func58 rfl Try.ntmps58 (Nat.le_of_ble_eq_true rfl) ?_
  intro w0 hw0
  refine At.nrm ?_
  refine At.ktext (.n false 0 .done) ?_
  refine AtT.kalloc z53 ?_
  intro b0
  refine AtT.done ?_
  refine At.nrm ?_
  refine At.ktext (.n false 0 (.n false 1 (.n false 2 (.n false 3 (.n false 4 (.n false 5 (.n false 6 (.n false 7 (.n false 8 (.n false 9 (.n false 10 (.n false 11 (.q 12 (.n true 13 .done)))))))))))))) ?_
  refine AtT.kbsliceG (bs22_3_0_1_2 _ _ _) ?_
  intro q1 V1 hV1 hq1
  have g1 : Le V V1 := by first | exact hV1 | exact Le.trans (by assumption) hV1
  refine AtT.kcallP rfl rfl ok74 (longs74_f _ _) ?_
  rintro _ rfl
  refine AtT.kcallP rfl rfl ok49 (to49_f 0 1 _) ?_
  rintro _ rfl
  refine AtT.kcallP rfl rfl ok49 (to49_f 1 1 _) ?_
  rintro _ rfl
  refine AtT.kcallP rfl rfl ok49 (to49_f 0 0 _) ?_
  rintro _ rfl
  refine AtT.kbsliceG (bs23_3_0_1_2 _ _ _ _ _ _) ?_
  intro q6 V6 hV6 hq6
  have g6 : Le V V6 := by first | exact hV6 | exact Le.trans (by assumption) hV6
  refine AtT.kcallP rfl rfl ok54 (ranges54_f _ _) ?_
  rintro _ rfl
  refine AtT.kcallP rfl rfl ok49 (to49_f 6 6 _) ?_
  rintro _ rfl
  refine AtT.kcallP rfl rfl ok49 (to49_f 8 9 _) ?_
  rintro _ rfl
  refine AtT.kcallP rfl rfl ok49 (to49_f 6 6 _) ?_
  rintro _ rfl
  refine AtT.kbsliceG (bs23_3_0_1_2 _ _ _ _ _ _) ?_
  intro q11 V11 hV11 hq11
  have g11 : Le V V11 := by first | exact hV11 | exact Le.trans (by assumption) hV11
  refine AtT.kcallP rfl rfl ok54 (ranges54_f _ _) ?_
  rintro _ rfl
  refine AtT.kbuild (bd53_0_1_2 _ _ _ _ _ _ _ _ _) ?_
  refine AtT.kstoreA tk53 ?_
  refine AtT.done ?_
  refine At.nrm ?_
  refine At.ret1 rfl (.agg rfl tk53 Pick.auto rfl) ?_
  have hml : 3 ≤ maxLen := by unfold maxLen; decide
  exact ⟨_, _, _, _, _, _, rfl, Sl.lit (l := [0, 2, 4]) (hq1.le (hV6.trans hV11)) rfl (by simp),
    Sl.of_cells (l := [(⟨0, 1⟩ : Rg), ⟨1, 1⟩, ⟨0, 0⟩]) rge_len (hq6.le hV11) (Nat.le_refl _) hml, Sl.of_cells (l := [(⟨6, 6⟩ : Rg), ⟨8, 9⟩, ⟨6, 6⟩]) rge_len hq11 (Nat.le_refl _) hml⟩

theorem cA1 : coreR LA ⟨2, 7, 0⟩ = (⟨5, 2⟩, 0) := by decide +kernel
theorem cA2 : (coreR LA ⟨0, 0, 0⟩).2 = 3 := by decide +kernel
theorem bA : bestV LA = ⟨5, 2⟩ := by decide +kernel
theorem bB : bestV LB = ⟨2, 1⟩ := by decide +kernel
theorem eA : logE LA = 0 := by decide +kernel
theorem eB : logE LB = 0 := by decide +kernel
theorem kA1 : checkR LA ⟨0, 1, 2, 2⟩ = (⟨5, 2⟩, 0) := by decide +kernel
theorem kA2 : (checkR LA ⟨0, 0, 1, 0⟩).2 = 2 := by decide +kernel
theorem hA1 : hghR LA 2 2 = (⟨3, 1⟩, ⟨4, 1⟩, 0) := by decide +kernel
theorem hA2 : (hghR LA 3 2).2.2 = 17 := by decide +kernel
theorem hB1 : hghR LB 2 2 = (⟨6, 1⟩, ⟨14, 1⟩, 0) := by decide +kernel
theorem tA1 : turnsR LA 1 1 = (1, 0) := by decide +kernel
theorem tA2 : (turnsR LA 3 1).2 = 17 := by decide +kernel
theorem sA : spanR RA = (⟨5, 2⟩, ⟨5, 2⟩, 0) := by decide +kernel
theorem candA : ∃ i k s t : Nat, i < k ∧ k < LA.pl.length ∧ s < 2 ∧ t < 2 ∧ coreOf LA (candV LA i k s t) = bestV LA := by
  first | exact ⟨0, 1, 0, 0, by decide, by decide, by decide, by decide, by decide +kernel⟩ | exact ⟨0, 1, 0, 1, by decide, by decide, by decide, by decide, by decide +kernel⟩ | exact ⟨0, 1, 1, 0, by decide, by decide, by decide, by decide, by decide +kernel⟩ | exact ⟨0, 1, 1, 1, by decide, by decide, by decide, by decide, by decide +kernel⟩
end Go.Proofs.Ytnionkopmncopaa
set_option linter.unusedVariables false
namespace Go.Proofs.Ytnionkopmncopaa
open Go.Lw Go.Pl Go.RowKit

theorem pA : proofR LA = (⟨0, 1, 2, 2⟩, 0) := by decide +kernel
theorem bRA : bestR LA = (⟨5, 2⟩, 0) := by decide +kernel
theorem bRB : bestR LB = (⟨2, 1⟩, 0) := by decide +kernel
theorem cA2' : coreR LA ⟨0, 0, 0⟩ = (⟨0, 0⟩, 3) := by decide +kernel
theorem kA2' : checkR LA ⟨0, 0, 1, 0⟩ = (⟨0, 0⟩, 2) := by decide +kernel
theorem hA2' : hghR LA 3 2 = (⟨0, 0⟩, ⟨0, 0⟩, 17) := by decide +kernel
theorem tA2' : turnsR LA 3 1 = (0, 17) := by decide +kernel
theorem cAx {x : Ln} (h : Cand LA x) (h2 : coreOf LA x = bestV LA) : coreR LA x = (⟨5, 2⟩, 0) := by
  unfold coreR
  rw [if_neg (by simp [eA]), if_neg (by simp [(cand_ok (logE_ok eA) h).2]), h2, bA]

set_option maxRecDepth 20000 in
theorem works_f (V : View) : Fnc Try.prog 19 [] V fun r _ => r = .bool true := by
  refine fn_of Try.func19 rfl Try.ntmps19 (Nat.le_of_ble_eq_true rfl) ?_
  intro w0 hw0
  refine At.nrm ?_
  refine At.text (.q 0 .done) (by kernel_rfl) ?_
  refine AtT.assign rfl trivial rfl (by decide) ?_
  refine AtT.done ?_
  refine At.nrm ?_
  refine At.text (.n false 0 (.n false 1 (.n false 2 (.n false 3 (.n true 4 (.n true 5 .done)))))) (by kernel_rfl) ?_
  refine AtT.call rfl trivial rfl ok55 (by decide) (three_f _) ?_
  rintro _ V1 hV1 ⟨aA, cA, aA', cA', rfl, hA2, hA3⟩
  refine AtT.call rfl trivial rfl ok56 (by decide) (two_f _) ?_
  rintro _ V2 hV2 ⟨aB, cB, aB', cB', rfl, hB2, hB3⟩
  refine AtT.alloc rfl trivial z25 rfl (by decide) ?_
  intro b1
  refine AtT.alloc rfl trivial z25 rfl (by decide) ?_
  intro b2
  refine AtT.storeA rfl trivial rfl rfl tk25 rfl rfl (by rfl) (by repeat (first | exact Upd.here | apply Upd.there)) ?_
  refine AtT.storeA rfl trivial rfl rfl tk25 rfl rfl (by rfl) (by repeat (first | exact Upd.here | apply Upd.there)) ?_
  refine AtT.done ?_
  refine At.nrm ?_
  have hA : LogV V2 (.agg #[.slice aA LA.pl.length cA, .slice aA' LA.ed.length cA']) LA := ⟨_, _, _, _, rfl, hA2.le hV2, hA3.le hV2⟩
  have hB : LogV V2 (.agg #[.slice aB LB.pl.length cB, .slice aB' LB.ed.length cB']) LB := ⟨_, _, _, _, rfl, hB2, hB3⟩
  apply At.draw1 (.q 0 (.two 1 (.two 2 (.q 3 (.q 4 (.q 5 (.n false 6 (.n false 7 (.q 8 .done)))))) 6 (.n false 2 (.q 3 (.q 4 (.q 5 (.n false 7 (.q 8 .done))))))) 6 (.n false 1 (.n false 2 (.q 3 (.q 4 (.q 5 (.n false 7 (.q 8 .done))))))))) ffm (by kernel_rfl)
  · refine AtC.start ?_
    refine AtC.pre (fun hle0 => ?_)
    apply AtC.q
    · first | refine AtT.loadOA rfl trivial rfl tk25 (by repeat (first | exact Pick.here | apply Pick.there)) (by rfl) (by decide) ?_ | refine AtT.loadA rfl trivial rfl tk25 (by first | assumption | exact Cells.le (by assumption) (by assumption)) (by rfl) (by decide) ?_ | refine AtT.loadOP rfl trivial rfl tk25 (by repeat (first | exact Pick.here | apply Pick.there)) (by rfl) (by rfl) (by decide) ?_
      exact At.knows
    · exact AtC.sub1 (by repeat (first | exact Pt.nil | refine Pt.cons (by repeat (first | exact Pick.here | apply Pick.there)) ?_)) (by first | exact Le.refl _ | assumption | exact Le.trans (by assumption) (by assumption)) (by assumption)
    refine AtC.two ?_ ?_
    focus
      refine AtC.nz ?_
      refine AtT.callP rfl trivial rfl ok47 (by decide) (line47_f _ _ _ _) ?_
      rintro _ rfl
      refine AtC.go (by repeat (first | exact Pt.nil | refine Pt.cons (by repeat (first | exact Pick.here | apply Pick.there)) ?_)) (by first | exact Le.refl _ | assumption | exact Le.trans (by assumption) (by assumption)) ?_
      refine AtC.two ?_ ?_
      focus
        refine AtC.nz ?_
        refine AtT.callP rfl trivial rfl ok20 (by decide) (core_p LA ⟨2, 7, 0⟩ _ _ hA) ?_
        rintro _ rfl; rw [cA1]
        refine AtC.go (by repeat (first | exact Pt.nil | refine Pt.cons (by repeat (first | exact Pick.here | apply Pick.there)) ?_)) (by first | exact Le.refl _ | assumption | exact Le.trans (by assumption) (by assumption)) ?_
        apply AtC.q
        · refine AtT.move rfl trivial rfl (by decide) ?_
          exact At.knows
        · exact AtC.sub1 (by repeat (first | exact Pt.nil | refine Pt.cons (by repeat (first | exact Pick.here | apply Pick.there)) ?_)) (by first | exact Le.refl _ | assumption | exact Le.trans (by assumption) (by assumption)) (by assumption)
        apply AtC.q
        · refine AtT.extract rfl trivial rfl (by rfl) (by decide) ?_
          exact At.knows
        · exact AtC.sub1 (by repeat (first | exact Pt.nil | refine Pt.cons (by repeat (first | exact Pick.here | apply Pick.there)) ?_)) (by first | exact Le.refl _ | assumption | exact Le.trans (by assumption) (by assumption)) (by assumption)
        apply AtC.q
        · refine AtT.extract rfl trivial rfl (by rfl) (by decide) ?_
          exact At.knows
        · exact AtC.sub1 (by repeat (first | exact Pt.nil | refine Pt.cons (by repeat (first | exact Pick.here | apply Pick.there)) ?_)) (by first | exact Le.refl _ | assumption | exact Le.trans (by assumption) (by assumption)) (by assumption)
        refine AtC.nz ?_
        refine AtT.alloc rfl trivial z31 rfl (by decide) ?_
        intro b3
        refine AtC.go (by repeat (first | exact Pt.nil | refine Pt.cons (by repeat (first | exact Pick.here | apply Pick.there)) ?_)) (by first | exact Le.refl _ | assumption | exact Le.trans (by assumption) (by assumption)) ?_
        refine AtC.nz ?_
        refine AtT.storeA rfl trivial rfl rfl tk31 rfl rfl (by rfl) (by repeat (first | exact Upd.here | apply Upd.there)) ?_
        refine AtC.go (by repeat (first | exact Pt.nil | refine Pt.cons (by repeat (first | exact Pick.here | apply Pick.there)) ?_)) (by first | exact Le.refl _ | assumption | exact Le.trans (by assumption) (by assumption)) ?_
        apply AtC.q
        · refine AtT.assign rfl trivial rfl (by decide) ?_
          exact At.knows
        · exact AtC.sub1 (by repeat (first | exact Pt.nil | refine Pt.cons (by repeat (first | exact Pick.here | apply Pick.there)) ?_)) (by first | exact Le.refl _ | assumption | exact Le.trans (by assumption) (by assumption)) (by assumption)
        exact AtC.done (fun a w hk hm => ⟨b3, hk, hm⟩)
      focus
        refine AtC.nz ?_
        refine AtT.alloc rfl trivial z31 rfl (by decide) ?_
        intro b3
        refine AtC.go (by repeat (first | exact Pt.nil | refine Pt.cons (by repeat (first | exact Pick.here | apply Pick.there)) ?_)) (by first | exact Le.refl _ | assumption | exact Le.trans (by assumption) (by assumption)) ?_
        refine AtC.nz ?_
        refine AtT.callP rfl trivial rfl ok20 (by decide) (core_p LA ⟨2, 7, 0⟩ _ _ hA) ?_
        rintro _ rfl; rw [cA1]
        refine AtC.go (by repeat (first | exact Pt.nil | refine Pt.cons (by repeat (first | exact Pick.here | apply Pick.there)) ?_)) (by first | exact Le.refl _ | assumption | exact Le.trans (by assumption) (by assumption)) ?_
        apply AtC.q
        · refine AtT.move rfl trivial rfl (by decide) ?_
          exact At.knows
        · exact AtC.sub1 (by repeat (first | exact Pt.nil | refine Pt.cons (by repeat (first | exact Pick.here | apply Pick.there)) ?_)) (by first | exact Le.refl _ | assumption | exact Le.trans (by assumption) (by assumption)) (by assumption)
        apply AtC.q
        · refine AtT.extract rfl trivial rfl (by rfl) (by decide) ?_
          exact At.knows
        · exact AtC.sub1 (by repeat (first | exact Pt.nil | refine Pt.cons (by repeat (first | exact Pick.here | apply Pick.there)) ?_)) (by first | exact Le.refl _ | assumption | exact Le.trans (by assumption) (by assumption)) (by assumption)
        apply AtC.q
        · refine AtT.extract rfl trivial rfl (by rfl) (by decide) ?_
          exact At.knows
        · exact AtC.sub1 (by repeat (first | exact Pt.nil | refine Pt.cons (by repeat (first | exact Pick.here | apply Pick.there)) ?_)) (by first | exact Le.refl _ | assumption | exact Le.trans (by assumption) (by assumption)) (by assumption)
        refine AtC.nz ?_
        refine AtT.storeA rfl trivial rfl rfl tk31 rfl rfl (by rfl) (by repeat (first | exact Upd.here | apply Upd.there)) ?_
        refine AtC.go (by repeat (first | exact Pt.nil | refine Pt.cons (by repeat (first | exact Pick.here | apply Pick.there)) ?_)) (by first | exact Le.refl _ | assumption | exact Le.trans (by assumption) (by assumption)) ?_
        apply AtC.q
        · refine AtT.assign rfl trivial rfl (by decide) ?_
          exact At.knows
        · exact AtC.sub1 (by repeat (first | exact Pt.nil | refine Pt.cons (by repeat (first | exact Pick.here | apply Pick.there)) ?_)) (by first | exact Le.refl _ | assumption | exact Le.trans (by assumption) (by assumption)) (by assumption)
        exact AtC.done (At.mid1 b3)
    focus
      refine AtC.nz ?_
      refine AtT.alloc rfl trivial z31 rfl (by decide) ?_
      intro b3
      refine AtC.go (by repeat (first | exact Pt.nil | refine Pt.cons (by repeat (first | exact Pick.here | apply Pick.there)) ?_)) (by first | exact Le.refl _ | assumption | exact Le.trans (by assumption) (by assumption)) ?_
      refine AtC.nz ?_
      refine AtT.callP rfl trivial rfl ok47 (by decide) (line47_f _ _ _ _) ?_
      rintro _ rfl
      refine AtC.go (by repeat (first | exact Pt.nil | refine Pt.cons (by repeat (first | exact Pick.here | apply Pick.there)) ?_)) (by first | exact Le.refl _ | assumption | exact Le.trans (by assumption) (by assumption)) ?_
      refine AtC.nz ?_
      refine AtT.callP rfl trivial rfl ok20 (by decide) (core_p LA ⟨2, 7, 0⟩ _ _ hA) ?_
      rintro _ rfl; rw [cA1]
      refine AtC.go (by repeat (first | exact Pt.nil | refine Pt.cons (by repeat (first | exact Pick.here | apply Pick.there)) ?_)) (by first | exact Le.refl _ | assumption | exact Le.trans (by assumption) (by assumption)) ?_
      apply AtC.q
      · refine AtT.move rfl trivial rfl (by decide) ?_
        exact At.knows
      · exact AtC.sub1 (by repeat (first | exact Pt.nil | refine Pt.cons (by repeat (first | exact Pick.here | apply Pick.there)) ?_)) (by first | exact Le.refl _ | assumption | exact Le.trans (by assumption) (by assumption)) (by assumption)
      apply AtC.q
      · refine AtT.extract rfl trivial rfl (by rfl) (by decide) ?_
        exact At.knows
      · exact AtC.sub1 (by repeat (first | exact Pt.nil | refine Pt.cons (by repeat (first | exact Pick.here | apply Pick.there)) ?_)) (by first | exact Le.refl _ | assumption | exact Le.trans (by assumption) (by assumption)) (by assumption)
      apply AtC.q
      · refine AtT.extract rfl trivial rfl (by rfl) (by decide) ?_
        exact At.knows
      · exact AtC.sub1 (by repeat (first | exact Pt.nil | refine Pt.cons (by repeat (first | exact Pick.here | apply Pick.there)) ?_)) (by first | exact Le.refl _ | assumption | exact Le.trans (by assumption) (by assumption)) (by assumption)
      refine AtC.nz ?_
      refine AtT.storeA rfl trivial rfl rfl tk31 rfl rfl (by rfl) (by repeat (first | exact Upd.here | apply Upd.there)) ?_
      refine AtC.go (by repeat (first | exact Pt.nil | refine Pt.cons (by repeat (first | exact Pick.here | apply Pick.there)) ?_)) (by first | exact Le.refl _ | assumption | exact Le.trans (by assumption) (by assumption)) ?_
      apply AtC.q
      · refine AtT.assign rfl trivial rfl (by decide) ?_
        exact At.knows
      · exact AtC.sub1 (by repeat (first | exact Pt.nil | refine Pt.cons (by repeat (first | exact Pick.here | apply Pick.there)) ?_)) (by first | exact Le.refl _ | assumption | exact Le.trans (by assumption) (by assumption)) (by assumption)
      exact AtC.done (At.mid1 b3)
  intro b3
  refine At.nrm ?_
  apply At.draw1 (.q 0 (.two 1 (.two 2 (.q 3 (.q 4 (.q 5 (.n false 6 (.n false 7 (.q 8 .done)))))) 6 (.n false 2 (.q 3 (.q 4 (.q 5 (.n false 7 (.q 8 .done))))))) 6 (.n false 1 (.n false 2 (.q 3 (.q 4 (.q 5 (.n false 7 (.q 8 .done))))))))) ffm (by kernel_rfl)
  · refine AtC.start ?_
    refine AtC.pre (fun hle0 => ?_)
    apply AtC.q
    · first | refine AtT.loadOA rfl trivial rfl tk25 (by repeat (first | exact Pick.here | apply Pick.there)) (by rfl) (by decide) ?_ | refine AtT.loadA rfl trivial rfl tk25 (by first | assumption | exact Cells.le (by assumption) (by assumption)) (by rfl) (by decide) ?_ | refine AtT.loadOP rfl trivial rfl tk25 (by repeat (first | exact Pick.here | apply Pick.there)) (by rfl) (by rfl) (by decide) ?_
      exact At.knows
    · exact AtC.sub1 (by repeat (first | exact Pt.nil | refine Pt.cons (by repeat (first | exact Pick.here | apply Pick.there)) ?_)) (by first | exact Le.refl _ | assumption | exact Le.trans (by assumption) (by assumption)) (by assumption)
    refine AtC.two ?_ ?_
    focus
      refine AtC.nz ?_
      refine AtT.callP rfl trivial rfl ok47 (by decide) (line47_f _ _ _ _) ?_
      rintro _ rfl
      refine AtC.go (by repeat (first | exact Pt.nil | refine Pt.cons (by repeat (first | exact Pick.here | apply Pick.there)) ?_)) (by first | exact Le.refl _ | assumption | exact Le.trans (by assumption) (by assumption)) ?_
      refine AtC.two ?_ ?_
      focus
        refine AtC.nz ?_
        refine AtT.callP rfl trivial rfl ok20 (by decide) (core_p LA ⟨0, 0, 0⟩ _ _ hA) ?_
        rintro _ rfl; rw [cA2']
        refine AtC.go (by repeat (first | exact Pt.nil | refine Pt.cons (by repeat (first | exact Pick.here | apply Pick.there)) ?_)) (by first | exact Le.refl _ | assumption | exact Le.trans (by assumption) (by assumption)) ?_
        apply AtC.q
        · refine AtT.move rfl trivial rfl (by decide) ?_
          exact At.knows
        · exact AtC.sub1 (by repeat (first | exact Pt.nil | refine Pt.cons (by repeat (first | exact Pick.here | apply Pick.there)) ?_)) (by first | exact Le.refl _ | assumption | exact Le.trans (by assumption) (by assumption)) (by assumption)
        apply AtC.q
        · refine AtT.extract rfl trivial rfl (by rfl) (by decide) ?_
          exact At.knows
        · exact AtC.sub1 (by repeat (first | exact Pt.nil | refine Pt.cons (by repeat (first | exact Pick.here | apply Pick.there)) ?_)) (by first | exact Le.refl _ | assumption | exact Le.trans (by assumption) (by assumption)) (by assumption)
        apply AtC.q
        · refine AtT.extract rfl trivial rfl (by rfl) (by decide) ?_
          exact At.knows
        · exact AtC.sub1 (by repeat (first | exact Pt.nil | refine Pt.cons (by repeat (first | exact Pick.here | apply Pick.there)) ?_)) (by first | exact Le.refl _ | assumption | exact Le.trans (by assumption) (by assumption)) (by assumption)
        refine AtC.nz ?_
        refine AtT.alloc rfl trivial z31 rfl (by decide) ?_
        intro b5
        refine AtC.go (by repeat (first | exact Pt.nil | refine Pt.cons (by repeat (first | exact Pick.here | apply Pick.there)) ?_)) (by first | exact Le.refl _ | assumption | exact Le.trans (by assumption) (by assumption)) ?_
        refine AtC.nz ?_
        refine AtT.storeA rfl trivial rfl rfl tk31 rfl rfl (by rfl) (by repeat (first | exact Upd.here | apply Upd.there)) ?_
        refine AtC.go (by repeat (first | exact Pt.nil | refine Pt.cons (by repeat (first | exact Pick.here | apply Pick.there)) ?_)) (by first | exact Le.refl _ | assumption | exact Le.trans (by assumption) (by assumption)) ?_
        apply AtC.q
        · refine AtT.assign rfl trivial rfl (by decide) ?_
          exact At.knows
        · exact AtC.sub1 (by repeat (first | exact Pt.nil | refine Pt.cons (by repeat (first | exact Pick.here | apply Pick.there)) ?_)) (by first | exact Le.refl _ | assumption | exact Le.trans (by assumption) (by assumption)) (by assumption)
        exact AtC.done (fun a w hk hm => ⟨b5, hk, hm⟩)
      focus
        refine AtC.nz ?_
        refine AtT.alloc rfl trivial z31 rfl (by decide) ?_
        intro b5
        refine AtC.go (by repeat (first | exact Pt.nil | refine Pt.cons (by repeat (first | exact Pick.here | apply Pick.there)) ?_)) (by first | exact Le.refl _ | assumption | exact Le.trans (by assumption) (by assumption)) ?_
        refine AtC.nz ?_
        refine AtT.callP rfl trivial rfl ok20 (by decide) (core_p LA ⟨0, 0, 0⟩ _ _ hA) ?_
        rintro _ rfl; rw [cA2']
        refine AtC.go (by repeat (first | exact Pt.nil | refine Pt.cons (by repeat (first | exact Pick.here | apply Pick.there)) ?_)) (by first | exact Le.refl _ | assumption | exact Le.trans (by assumption) (by assumption)) ?_
        apply AtC.q
        · refine AtT.move rfl trivial rfl (by decide) ?_
          exact At.knows
        · exact AtC.sub1 (by repeat (first | exact Pt.nil | refine Pt.cons (by repeat (first | exact Pick.here | apply Pick.there)) ?_)) (by first | exact Le.refl _ | assumption | exact Le.trans (by assumption) (by assumption)) (by assumption)
        apply AtC.q
        · refine AtT.extract rfl trivial rfl (by rfl) (by decide) ?_
          exact At.knows
        · exact AtC.sub1 (by repeat (first | exact Pt.nil | refine Pt.cons (by repeat (first | exact Pick.here | apply Pick.there)) ?_)) (by first | exact Le.refl _ | assumption | exact Le.trans (by assumption) (by assumption)) (by assumption)
        apply AtC.q
        · refine AtT.extract rfl trivial rfl (by rfl) (by decide) ?_
          exact At.knows
        · exact AtC.sub1 (by repeat (first | exact Pt.nil | refine Pt.cons (by repeat (first | exact Pick.here | apply Pick.there)) ?_)) (by first | exact Le.refl _ | assumption | exact Le.trans (by assumption) (by assumption)) (by assumption)
        refine AtC.nz ?_
        refine AtT.storeA rfl trivial rfl rfl tk31 rfl rfl (by rfl) (by repeat (first | exact Upd.here | apply Upd.there)) ?_
        refine AtC.go (by repeat (first | exact Pt.nil | refine Pt.cons (by repeat (first | exact Pick.here | apply Pick.there)) ?_)) (by first | exact Le.refl _ | assumption | exact Le.trans (by assumption) (by assumption)) ?_
        apply AtC.q
        · refine AtT.assign rfl trivial rfl (by decide) ?_
          exact At.knows
        · exact AtC.sub1 (by repeat (first | exact Pt.nil | refine Pt.cons (by repeat (first | exact Pick.here | apply Pick.there)) ?_)) (by first | exact Le.refl _ | assumption | exact Le.trans (by assumption) (by assumption)) (by assumption)
        exact AtC.done (At.mid1 b5)
    focus
      refine AtC.nz ?_
      refine AtT.alloc rfl trivial z31 rfl (by decide) ?_
      intro b5
      refine AtC.go (by repeat (first | exact Pt.nil | refine Pt.cons (by repeat (first | exact Pick.here | apply Pick.there)) ?_)) (by first | exact Le.refl _ | assumption | exact Le.trans (by assumption) (by assumption)) ?_
      refine AtC.nz ?_
      refine AtT.callP rfl trivial rfl ok47 (by decide) (line47_f _ _ _ _) ?_
      rintro _ rfl
      refine AtC.go (by repeat (first | exact Pt.nil | refine Pt.cons (by repeat (first | exact Pick.here | apply Pick.there)) ?_)) (by first | exact Le.refl _ | assumption | exact Le.trans (by assumption) (by assumption)) ?_
      refine AtC.nz ?_
      refine AtT.callP rfl trivial rfl ok20 (by decide) (core_p LA ⟨0, 0, 0⟩ _ _ hA) ?_
      rintro _ rfl; rw [cA2']
      refine AtC.go (by repeat (first | exact Pt.nil | refine Pt.cons (by repeat (first | exact Pick.here | apply Pick.there)) ?_)) (by first | exact Le.refl _ | assumption | exact Le.trans (by assumption) (by assumption)) ?_
      apply AtC.q
      · refine AtT.move rfl trivial rfl (by decide) ?_
        exact At.knows
      · exact AtC.sub1 (by repeat (first | exact Pt.nil | refine Pt.cons (by repeat (first | exact Pick.here | apply Pick.there)) ?_)) (by first | exact Le.refl _ | assumption | exact Le.trans (by assumption) (by assumption)) (by assumption)
      apply AtC.q
      · refine AtT.extract rfl trivial rfl (by rfl) (by decide) ?_
        exact At.knows
      · exact AtC.sub1 (by repeat (first | exact Pt.nil | refine Pt.cons (by repeat (first | exact Pick.here | apply Pick.there)) ?_)) (by first | exact Le.refl _ | assumption | exact Le.trans (by assumption) (by assumption)) (by assumption)
      apply AtC.q
      · refine AtT.extract rfl trivial rfl (by rfl) (by decide) ?_
        exact At.knows
      · exact AtC.sub1 (by repeat (first | exact Pt.nil | refine Pt.cons (by repeat (first | exact Pick.here | apply Pick.there)) ?_)) (by first | exact Le.refl _ | assumption | exact Le.trans (by assumption) (by assumption)) (by assumption)
      refine AtC.nz ?_
      refine AtT.storeA rfl trivial rfl rfl tk31 rfl rfl (by rfl) (by repeat (first | exact Upd.here | apply Upd.there)) ?_
      refine AtC.go (by repeat (first | exact Pt.nil | refine Pt.cons (by repeat (first | exact Pick.here | apply Pick.there)) ?_)) (by first | exact Le.refl _ | assumption | exact Le.trans (by assumption) (by assumption)) ?_
      apply AtC.q
      · refine AtT.assign rfl trivial rfl (by decide) ?_
        exact At.knows
      · exact AtC.sub1 (by repeat (first | exact Pt.nil | refine Pt.cons (by repeat (first | exact Pick.here | apply Pick.there)) ?_)) (by first | exact Le.refl _ | assumption | exact Le.trans (by assumption) (by assumption)) (by assumption)
      exact AtC.done (At.mid1 b5)
  intro b5
  refine At.nrm ?_
  refine At.text (.q 0 (.n false 1 (.q 2 (.q 3 (.q 4 (.n false 5 (.n true 6 (.q 7 .done)))))))) (by kernel_rfl) ?_
  first | refine AtT.loadOA rfl trivial rfl tk25 (by repeat (first | exact Pick.here | apply Pick.there)) (by rfl) (by decide) ?_ | refine AtT.loadA rfl trivial rfl tk25 (by first | assumption | exact Cells.le (by assumption) (by assumption)) (by rfl) (by decide) ?_ | refine AtT.loadOP rfl trivial rfl tk25 (by repeat (first | exact Pick.here | apply Pick.there)) (by rfl) (by rfl) (by decide) ?_
  refine AtT.callP rfl trivial rfl ok26 (by decide) (best_p26 LA _ _ hA) ?_
  rintro _ rfl; rw [bRA]
  refine AtT.move rfl trivial rfl (by decide) ?_
  refine AtT.extract rfl trivial rfl (by rfl) (by decide) ?_
  refine AtT.extract rfl trivial rfl (by rfl) (by decide) ?_
  refine AtT.alloc rfl trivial z31 rfl (by decide) ?_
  intro b7
  refine AtT.storeA rfl trivial rfl rfl tk31 rfl rfl (by rfl) (by repeat (first | exact Upd.here | apply Upd.there)) ?_
  refine AtT.assign rfl trivial rfl (by decide) ?_
  refine AtT.done ?_
  refine At.nrm ?_
  refine At.text (.q 0 (.n false 1 (.q 2 (.q 3 (.q 4 (.n false 5 (.n true 6 (.q 7 .done)))))))) (by kernel_rfl) ?_
  first | refine AtT.loadOA rfl trivial rfl tk25 (by repeat (first | exact Pick.here | apply Pick.there)) (by rfl) (by decide) ?_ | refine AtT.loadA rfl trivial rfl tk25 (by first | assumption | exact Cells.le (by assumption) (by assumption)) (by rfl) (by decide) ?_ | refine AtT.loadOP rfl trivial rfl tk25 (by repeat (first | exact Pick.here | apply Pick.there)) (by rfl) (by rfl) (by decide) ?_
  refine AtT.callP rfl trivial rfl ok26 (by decide) (best_p26 LB _ _ hB) ?_
  rintro _ rfl; rw [bRB]
  refine AtT.move rfl trivial rfl (by decide) ?_
  refine AtT.extract rfl trivial rfl (by rfl) (by decide) ?_
  refine AtT.extract rfl trivial rfl (by rfl) (by decide) ?_
  refine AtT.alloc rfl trivial z31 rfl (by decide) ?_
  intro b9
  refine AtT.storeA rfl trivial rfl rfl tk31 rfl rfl (by rfl) (by repeat (first | exact Upd.here | apply Upd.there)) ?_
  refine AtT.assign rfl trivial rfl (by decide) ?_
  refine AtT.done ?_
  refine At.nrm ?_
  refine At.text (.q 0 (.n false 1 (.q 2 (.q 3 (.q 4 (.n false 5 (.n true 6 (.q 7 .done)))))))) (by kernel_rfl) ?_
  first | refine AtT.loadOA rfl trivial rfl tk25 (by repeat (first | exact Pick.here | apply Pick.there)) (by rfl) (by decide) ?_ | refine AtT.loadA rfl trivial rfl tk25 (by first | assumption | exact Cells.le (by assumption) (by assumption)) (by rfl) (by decide) ?_ | refine AtT.loadOP rfl trivial rfl tk25 (by repeat (first | exact Pick.here | apply Pick.there)) (by rfl) (by rfl) (by decide) ?_
  refine AtT.callP rfl trivial rfl ok28 (by decide) (line_p28 LA _ _ hA) ?_
  rintro _ (⟨he, rfl⟩ | ⟨he, lx, rfl, hx1, hx2⟩); exact absurd eA he
  refine AtT.move rfl trivial rfl (by decide) ?_
  refine AtT.extract rfl trivial rfl (by rfl) (by decide) ?_
  refine AtT.extract rfl trivial rfl (by rfl) (by decide) ?_
  refine AtT.alloc rfl trivial z27 rfl (by decide) ?_
  intro b11
  refine AtT.storeA rfl trivial rfl rfl tk27 rfl rfl (by rfl) (by repeat (first | exact Upd.here | apply Upd.there)) ?_
  refine AtT.assign rfl trivial rfl (by decide) ?_
  refine AtT.done ?_
  refine At.nrm ?_
  apply At.draw1 (.q 0 (.two 1 (.two 2 (.q 3 (.q 4 (.q 5 (.n false 6 (.n false 7 (.q 8 .done)))))) 6 (.n false 2 (.q 3 (.q 4 (.q 5 (.n false 7 (.q 8 .done))))))) 6 (.n false 1 (.n false 2 (.q 3 (.q 4 (.q 5 (.n false 7 (.q 8 .done))))))))) ffm (by kernel_rfl)
  · refine AtC.start ?_
    refine AtC.pre (fun hle0 => ?_)
    apply AtC.q
    · first | refine AtT.loadOA rfl trivial rfl tk25 (by repeat (first | exact Pick.here | apply Pick.there)) (by rfl) (by decide) ?_ | refine AtT.loadA rfl trivial rfl tk25 (by first | assumption | exact Cells.le (by assumption) (by assumption)) (by rfl) (by decide) ?_ | refine AtT.loadOP rfl trivial rfl tk25 (by repeat (first | exact Pick.here | apply Pick.there)) (by rfl) (by rfl) (by decide) ?_
      exact At.knows
    · exact AtC.sub1 (by repeat (first | exact Pt.nil | refine Pt.cons (by repeat (first | exact Pick.here | apply Pick.there)) ?_)) (by first | exact Le.refl _ | assumption | exact Le.trans (by assumption) (by assumption)) (by assumption)
    refine AtC.two ?_ ?_
    focus
      refine AtC.nz ?_
      refine AtT.callP rfl trivial rfl ok44 (by decide) (proof44_f _ _ _ _ _) ?_
      rintro _ rfl
      refine AtC.go (by repeat (first | exact Pt.nil | refine Pt.cons (by repeat (first | exact Pick.here | apply Pick.there)) ?_)) (by first | exact Le.refl _ | assumption | exact Le.trans (by assumption) (by assumption)) ?_
      refine AtC.two ?_ ?_
      focus
        refine AtC.nz ?_
        refine AtT.callP rfl trivial rfl ok31 (by decide) (check_p LA ⟨0, 1, 2, 2⟩ _ _ hA) ?_
        rintro _ rfl; rw [kA1]
        refine AtC.go (by repeat (first | exact Pt.nil | refine Pt.cons (by repeat (first | exact Pick.here | apply Pick.there)) ?_)) (by first | exact Le.refl _ | assumption | exact Le.trans (by assumption) (by assumption)) ?_
        apply AtC.q
        · refine AtT.move rfl trivial rfl (by decide) ?_
          exact At.knows
        · exact AtC.sub1 (by repeat (first | exact Pt.nil | refine Pt.cons (by repeat (first | exact Pick.here | apply Pick.there)) ?_)) (by first | exact Le.refl _ | assumption | exact Le.trans (by assumption) (by assumption)) (by assumption)
        apply AtC.q
        · refine AtT.extract rfl trivial rfl (by rfl) (by decide) ?_
          exact At.knows
        · exact AtC.sub1 (by repeat (first | exact Pt.nil | refine Pt.cons (by repeat (first | exact Pick.here | apply Pick.there)) ?_)) (by first | exact Le.refl _ | assumption | exact Le.trans (by assumption) (by assumption)) (by assumption)
        apply AtC.q
        · refine AtT.extract rfl trivial rfl (by rfl) (by decide) ?_
          exact At.knows
        · exact AtC.sub1 (by repeat (first | exact Pt.nil | refine Pt.cons (by repeat (first | exact Pick.here | apply Pick.there)) ?_)) (by first | exact Le.refl _ | assumption | exact Le.trans (by assumption) (by assumption)) (by assumption)
        refine AtC.nz ?_
        refine AtT.alloc rfl trivial z31 rfl (by decide) ?_
        intro b13
        refine AtC.go (by repeat (first | exact Pt.nil | refine Pt.cons (by repeat (first | exact Pick.here | apply Pick.there)) ?_)) (by first | exact Le.refl _ | assumption | exact Le.trans (by assumption) (by assumption)) ?_
        refine AtC.nz ?_
        refine AtT.storeA rfl trivial rfl rfl tk31 rfl rfl (by rfl) (by repeat (first | exact Upd.here | apply Upd.there)) ?_
        refine AtC.go (by repeat (first | exact Pt.nil | refine Pt.cons (by repeat (first | exact Pick.here | apply Pick.there)) ?_)) (by first | exact Le.refl _ | assumption | exact Le.trans (by assumption) (by assumption)) ?_
        apply AtC.q
        · refine AtT.assign rfl trivial rfl (by decide) ?_
          exact At.knows
        · exact AtC.sub1 (by repeat (first | exact Pt.nil | refine Pt.cons (by repeat (first | exact Pick.here | apply Pick.there)) ?_)) (by first | exact Le.refl _ | assumption | exact Le.trans (by assumption) (by assumption)) (by assumption)
        exact AtC.done (fun a w hk hm => ⟨b13, hk, hm⟩)
      focus
        refine AtC.nz ?_
        refine AtT.alloc rfl trivial z31 rfl (by decide) ?_
        intro b13
        refine AtC.go (by repeat (first | exact Pt.nil | refine Pt.cons (by repeat (first | exact Pick.here | apply Pick.there)) ?_)) (by first | exact Le.refl _ | assumption | exact Le.trans (by assumption) (by assumption)) ?_
        refine AtC.nz ?_
        refine AtT.callP rfl trivial rfl ok31 (by decide) (check_p LA ⟨0, 1, 2, 2⟩ _ _ hA) ?_
        rintro _ rfl; rw [kA1]
        refine AtC.go (by repeat (first | exact Pt.nil | refine Pt.cons (by repeat (first | exact Pick.here | apply Pick.there)) ?_)) (by first | exact Le.refl _ | assumption | exact Le.trans (by assumption) (by assumption)) ?_
        apply AtC.q
        · refine AtT.move rfl trivial rfl (by decide) ?_
          exact At.knows
        · exact AtC.sub1 (by repeat (first | exact Pt.nil | refine Pt.cons (by repeat (first | exact Pick.here | apply Pick.there)) ?_)) (by first | exact Le.refl _ | assumption | exact Le.trans (by assumption) (by assumption)) (by assumption)
        apply AtC.q
        · refine AtT.extract rfl trivial rfl (by rfl) (by decide) ?_
          exact At.knows
        · exact AtC.sub1 (by repeat (first | exact Pt.nil | refine Pt.cons (by repeat (first | exact Pick.here | apply Pick.there)) ?_)) (by first | exact Le.refl _ | assumption | exact Le.trans (by assumption) (by assumption)) (by assumption)
        apply AtC.q
        · refine AtT.extract rfl trivial rfl (by rfl) (by decide) ?_
          exact At.knows
        · exact AtC.sub1 (by repeat (first | exact Pt.nil | refine Pt.cons (by repeat (first | exact Pick.here | apply Pick.there)) ?_)) (by first | exact Le.refl _ | assumption | exact Le.trans (by assumption) (by assumption)) (by assumption)
        refine AtC.nz ?_
        refine AtT.storeA rfl trivial rfl rfl tk31 rfl rfl (by rfl) (by repeat (first | exact Upd.here | apply Upd.there)) ?_
        refine AtC.go (by repeat (first | exact Pt.nil | refine Pt.cons (by repeat (first | exact Pick.here | apply Pick.there)) ?_)) (by first | exact Le.refl _ | assumption | exact Le.trans (by assumption) (by assumption)) ?_
        apply AtC.q
        · refine AtT.assign rfl trivial rfl (by decide) ?_
          exact At.knows
        · exact AtC.sub1 (by repeat (first | exact Pt.nil | refine Pt.cons (by repeat (first | exact Pick.here | apply Pick.there)) ?_)) (by first | exact Le.refl _ | assumption | exact Le.trans (by assumption) (by assumption)) (by assumption)
        exact AtC.done (At.mid1 b13)
    focus
      refine AtC.nz ?_
      refine AtT.alloc rfl trivial z31 rfl (by decide) ?_
      intro b13
      refine AtC.go (by repeat (first | exact Pt.nil | refine Pt.cons (by repeat (first | exact Pick.here | apply Pick.there)) ?_)) (by first | exact Le.refl _ | assumption | exact Le.trans (by assumption) (by assumption)) ?_
      refine AtC.nz ?_
      refine AtT.callP rfl trivial rfl ok44 (by decide) (proof44_f _ _ _ _ _) ?_
      rintro _ rfl
      refine AtC.go (by repeat (first | exact Pt.nil | refine Pt.cons (by repeat (first | exact Pick.here | apply Pick.there)) ?_)) (by first | exact Le.refl _ | assumption | exact Le.trans (by assumption) (by assumption)) ?_
      refine AtC.nz ?_
      refine AtT.callP rfl trivial rfl ok31 (by decide) (check_p LA ⟨0, 1, 2, 2⟩ _ _ hA) ?_
      rintro _ rfl; rw [kA1]
      refine AtC.go (by repeat (first | exact Pt.nil | refine Pt.cons (by repeat (first | exact Pick.here | apply Pick.there)) ?_)) (by first | exact Le.refl _ | assumption | exact Le.trans (by assumption) (by assumption)) ?_
      apply AtC.q
      · refine AtT.move rfl trivial rfl (by decide) ?_
        exact At.knows
      · exact AtC.sub1 (by repeat (first | exact Pt.nil | refine Pt.cons (by repeat (first | exact Pick.here | apply Pick.there)) ?_)) (by first | exact Le.refl _ | assumption | exact Le.trans (by assumption) (by assumption)) (by assumption)
      apply AtC.q
      · refine AtT.extract rfl trivial rfl (by rfl) (by decide) ?_
        exact At.knows
      · exact AtC.sub1 (by repeat (first | exact Pt.nil | refine Pt.cons (by repeat (first | exact Pick.here | apply Pick.there)) ?_)) (by first | exact Le.refl _ | assumption | exact Le.trans (by assumption) (by assumption)) (by assumption)
      apply AtC.q
      · refine AtT.extract rfl trivial rfl (by rfl) (by decide) ?_
        exact At.knows
      · exact AtC.sub1 (by repeat (first | exact Pt.nil | refine Pt.cons (by repeat (first | exact Pick.here | apply Pick.there)) ?_)) (by first | exact Le.refl _ | assumption | exact Le.trans (by assumption) (by assumption)) (by assumption)
      refine AtC.nz ?_
      refine AtT.storeA rfl trivial rfl rfl tk31 rfl rfl (by rfl) (by repeat (first | exact Upd.here | apply Upd.there)) ?_
      refine AtC.go (by repeat (first | exact Pt.nil | refine Pt.cons (by repeat (first | exact Pick.here | apply Pick.there)) ?_)) (by first | exact Le.refl _ | assumption | exact Le.trans (by assumption) (by assumption)) ?_
      apply AtC.q
      · refine AtT.assign rfl trivial rfl (by decide) ?_
        exact At.knows
      · exact AtC.sub1 (by repeat (first | exact Pt.nil | refine Pt.cons (by repeat (first | exact Pick.here | apply Pick.there)) ?_)) (by first | exact Le.refl _ | assumption | exact Le.trans (by assumption) (by assumption)) (by assumption)
      exact AtC.done (At.mid1 b13)
  intro b13
  refine At.nrm ?_
  apply At.draw1 (.q 0 (.two 1 (.two 2 (.q 3 (.q 4 (.q 5 (.n false 6 (.n false 7 (.q 8 .done)))))) 6 (.n false 2 (.q 3 (.q 4 (.q 5 (.n false 7 (.q 8 .done))))))) 6 (.n false 1 (.n false 2 (.q 3 (.q 4 (.q 5 (.n false 7 (.q 8 .done))))))))) ffm (by kernel_rfl)
  · refine AtC.start ?_
    refine AtC.pre (fun hle0 => ?_)
    apply AtC.q
    · first | refine AtT.loadOA rfl trivial rfl tk25 (by repeat (first | exact Pick.here | apply Pick.there)) (by rfl) (by decide) ?_ | refine AtT.loadA rfl trivial rfl tk25 (by first | assumption | exact Cells.le (by assumption) (by assumption)) (by rfl) (by decide) ?_ | refine AtT.loadOP rfl trivial rfl tk25 (by repeat (first | exact Pick.here | apply Pick.there)) (by rfl) (by rfl) (by decide) ?_
      exact At.knows
    · exact AtC.sub1 (by repeat (first | exact Pt.nil | refine Pt.cons (by repeat (first | exact Pick.here | apply Pick.there)) ?_)) (by first | exact Le.refl _ | assumption | exact Le.trans (by assumption) (by assumption)) (by assumption)
    refine AtC.two ?_ ?_
    focus
      refine AtC.nz ?_
      refine AtT.callP rfl trivial rfl ok44 (by decide) (proof44_f _ _ _ _ _) ?_
      rintro _ rfl
      refine AtC.go (by repeat (first | exact Pt.nil | refine Pt.cons (by repeat (first | exact Pick.here | apply Pick.there)) ?_)) (by first | exact Le.refl _ | assumption | exact Le.trans (by assumption) (by assumption)) ?_
      refine AtC.two ?_ ?_
      focus
        refine AtC.nz ?_
        refine AtT.callP rfl trivial rfl ok31 (by decide) (check_p LA ⟨0, 0, 1, 0⟩ _ _ hA) ?_
        rintro _ rfl; rw [kA2']
        refine AtC.go (by repeat (first | exact Pt.nil | refine Pt.cons (by repeat (first | exact Pick.here | apply Pick.there)) ?_)) (by first | exact Le.refl _ | assumption | exact Le.trans (by assumption) (by assumption)) ?_
        apply AtC.q
        · refine AtT.move rfl trivial rfl (by decide) ?_
          exact At.knows
        · exact AtC.sub1 (by repeat (first | exact Pt.nil | refine Pt.cons (by repeat (first | exact Pick.here | apply Pick.there)) ?_)) (by first | exact Le.refl _ | assumption | exact Le.trans (by assumption) (by assumption)) (by assumption)
        apply AtC.q
        · refine AtT.extract rfl trivial rfl (by rfl) (by decide) ?_
          exact At.knows
        · exact AtC.sub1 (by repeat (first | exact Pt.nil | refine Pt.cons (by repeat (first | exact Pick.here | apply Pick.there)) ?_)) (by first | exact Le.refl _ | assumption | exact Le.trans (by assumption) (by assumption)) (by assumption)
        apply AtC.q
        · refine AtT.extract rfl trivial rfl (by rfl) (by decide) ?_
          exact At.knows
        · exact AtC.sub1 (by repeat (first | exact Pt.nil | refine Pt.cons (by repeat (first | exact Pick.here | apply Pick.there)) ?_)) (by first | exact Le.refl _ | assumption | exact Le.trans (by assumption) (by assumption)) (by assumption)
        refine AtC.nz ?_
        refine AtT.alloc rfl trivial z31 rfl (by decide) ?_
        intro b15
        refine AtC.go (by repeat (first | exact Pt.nil | refine Pt.cons (by repeat (first | exact Pick.here | apply Pick.there)) ?_)) (by first | exact Le.refl _ | assumption | exact Le.trans (by assumption) (by assumption)) ?_
        refine AtC.nz ?_
        refine AtT.storeA rfl trivial rfl rfl tk31 rfl rfl (by rfl) (by repeat (first | exact Upd.here | apply Upd.there)) ?_
        refine AtC.go (by repeat (first | exact Pt.nil | refine Pt.cons (by repeat (first | exact Pick.here | apply Pick.there)) ?_)) (by first | exact Le.refl _ | assumption | exact Le.trans (by assumption) (by assumption)) ?_
        apply AtC.q
        · refine AtT.assign rfl trivial rfl (by decide) ?_
          exact At.knows
        · exact AtC.sub1 (by repeat (first | exact Pt.nil | refine Pt.cons (by repeat (first | exact Pick.here | apply Pick.there)) ?_)) (by first | exact Le.refl _ | assumption | exact Le.trans (by assumption) (by assumption)) (by assumption)
        exact AtC.done (fun a w hk hm => ⟨b15, hk, hm⟩)
      focus
        refine AtC.nz ?_
        refine AtT.alloc rfl trivial z31 rfl (by decide) ?_
        intro b15
        refine AtC.go (by repeat (first | exact Pt.nil | refine Pt.cons (by repeat (first | exact Pick.here | apply Pick.there)) ?_)) (by first | exact Le.refl _ | assumption | exact Le.trans (by assumption) (by assumption)) ?_
        refine AtC.nz ?_
        refine AtT.callP rfl trivial rfl ok31 (by decide) (check_p LA ⟨0, 0, 1, 0⟩ _ _ hA) ?_
        rintro _ rfl; rw [kA2']
        refine AtC.go (by repeat (first | exact Pt.nil | refine Pt.cons (by repeat (first | exact Pick.here | apply Pick.there)) ?_)) (by first | exact Le.refl _ | assumption | exact Le.trans (by assumption) (by assumption)) ?_
        apply AtC.q
        · refine AtT.move rfl trivial rfl (by decide) ?_
          exact At.knows
        · exact AtC.sub1 (by repeat (first | exact Pt.nil | refine Pt.cons (by repeat (first | exact Pick.here | apply Pick.there)) ?_)) (by first | exact Le.refl _ | assumption | exact Le.trans (by assumption) (by assumption)) (by assumption)
        apply AtC.q
        · refine AtT.extract rfl trivial rfl (by rfl) (by decide) ?_
          exact At.knows
        · exact AtC.sub1 (by repeat (first | exact Pt.nil | refine Pt.cons (by repeat (first | exact Pick.here | apply Pick.there)) ?_)) (by first | exact Le.refl _ | assumption | exact Le.trans (by assumption) (by assumption)) (by assumption)
        apply AtC.q
        · refine AtT.extract rfl trivial rfl (by rfl) (by decide) ?_
          exact At.knows
        · exact AtC.sub1 (by repeat (first | exact Pt.nil | refine Pt.cons (by repeat (first | exact Pick.here | apply Pick.there)) ?_)) (by first | exact Le.refl _ | assumption | exact Le.trans (by assumption) (by assumption)) (by assumption)
        refine AtC.nz ?_
        refine AtT.storeA rfl trivial rfl rfl tk31 rfl rfl (by rfl) (by repeat (first | exact Upd.here | apply Upd.there)) ?_
        refine AtC.go (by repeat (first | exact Pt.nil | refine Pt.cons (by repeat (first | exact Pick.here | apply Pick.there)) ?_)) (by first | exact Le.refl _ | assumption | exact Le.trans (by assumption) (by assumption)) ?_
        apply AtC.q
        · refine AtT.assign rfl trivial rfl (by decide) ?_
          exact At.knows
        · exact AtC.sub1 (by repeat (first | exact Pt.nil | refine Pt.cons (by repeat (first | exact Pick.here | apply Pick.there)) ?_)) (by first | exact Le.refl _ | assumption | exact Le.trans (by assumption) (by assumption)) (by assumption)
        exact AtC.done (At.mid1 b15)
    focus
      refine AtC.nz ?_
      refine AtT.alloc rfl trivial z31 rfl (by decide) ?_
      intro b15
      refine AtC.go (by repeat (first | exact Pt.nil | refine Pt.cons (by repeat (first | exact Pick.here | apply Pick.there)) ?_)) (by first | exact Le.refl _ | assumption | exact Le.trans (by assumption) (by assumption)) ?_
      refine AtC.nz ?_
      refine AtT.callP rfl trivial rfl ok44 (by decide) (proof44_f _ _ _ _ _) ?_
      rintro _ rfl
      refine AtC.go (by repeat (first | exact Pt.nil | refine Pt.cons (by repeat (first | exact Pick.here | apply Pick.there)) ?_)) (by first | exact Le.refl _ | assumption | exact Le.trans (by assumption) (by assumption)) ?_
      refine AtC.nz ?_
      refine AtT.callP rfl trivial rfl ok31 (by decide) (check_p LA ⟨0, 0, 1, 0⟩ _ _ hA) ?_
      rintro _ rfl; rw [kA2']
      refine AtC.go (by repeat (first | exact Pt.nil | refine Pt.cons (by repeat (first | exact Pick.here | apply Pick.there)) ?_)) (by first | exact Le.refl _ | assumption | exact Le.trans (by assumption) (by assumption)) ?_
      apply AtC.q
      · refine AtT.move rfl trivial rfl (by decide) ?_
        exact At.knows
      · exact AtC.sub1 (by repeat (first | exact Pt.nil | refine Pt.cons (by repeat (first | exact Pick.here | apply Pick.there)) ?_)) (by first | exact Le.refl _ | assumption | exact Le.trans (by assumption) (by assumption)) (by assumption)
      apply AtC.q
      · refine AtT.extract rfl trivial rfl (by rfl) (by decide) ?_
        exact At.knows
      · exact AtC.sub1 (by repeat (first | exact Pt.nil | refine Pt.cons (by repeat (first | exact Pick.here | apply Pick.there)) ?_)) (by first | exact Le.refl _ | assumption | exact Le.trans (by assumption) (by assumption)) (by assumption)
      apply AtC.q
      · refine AtT.extract rfl trivial rfl (by rfl) (by decide) ?_
        exact At.knows
      · exact AtC.sub1 (by repeat (first | exact Pt.nil | refine Pt.cons (by repeat (first | exact Pick.here | apply Pick.there)) ?_)) (by first | exact Le.refl _ | assumption | exact Le.trans (by assumption) (by assumption)) (by assumption)
      refine AtC.nz ?_
      refine AtT.storeA rfl trivial rfl rfl tk31 rfl rfl (by rfl) (by repeat (first | exact Upd.here | apply Upd.there)) ?_
      refine AtC.go (by repeat (first | exact Pt.nil | refine Pt.cons (by repeat (first | exact Pick.here | apply Pick.there)) ?_)) (by first | exact Le.refl _ | assumption | exact Le.trans (by assumption) (by assumption)) ?_
      apply AtC.q
      · refine AtT.assign rfl trivial rfl (by decide) ?_
        exact At.knows
      · exact AtC.sub1 (by repeat (first | exact Pt.nil | refine Pt.cons (by repeat (first | exact Pick.here | apply Pick.there)) ?_)) (by first | exact Le.refl _ | assumption | exact Le.trans (by assumption) (by assumption)) (by assumption)
      exact AtC.done (At.mid1 b15)
  intro b15
  refine At.nrm ?_
  refine At.text (.q 0 (.n false 1 (.q 2 (.q 3 (.q 4 (.n false 5 (.n true 6 (.q 7 .done)))))))) (by kernel_rfl) ?_
  first | refine AtT.loadOA rfl trivial rfl tk25 (by repeat (first | exact Pick.here | apply Pick.there)) (by rfl) (by decide) ?_ | refine AtT.loadA rfl trivial rfl tk25 (by first | assumption | exact Cells.le (by assumption) (by assumption)) (by rfl) (by decide) ?_ | refine AtT.loadOP rfl trivial rfl tk25 (by repeat (first | exact Pick.here | apply Pick.there)) (by rfl) (by rfl) (by decide) ?_
  refine AtT.callP rfl trivial rfl ok33 (by decide) (proof_p33 LA _ _ hA) ?_
  rintro _ rfl; rw [pA]
  refine AtT.move rfl trivial rfl (by decide) ?_
  refine AtT.extract rfl trivial rfl (by rfl) (by decide) ?_
  refine AtT.extract rfl trivial rfl (by rfl) (by decide) ?_
  refine AtT.alloc rfl trivial z45 rfl (by decide) ?_
  intro b17
  refine AtT.storeA rfl trivial rfl rfl tk45 rfl rfl (by rfl) (by repeat (first | exact Upd.here | apply Upd.there)) ?_
  refine AtT.assign rfl trivial rfl (by decide) ?_
  refine AtT.done ?_
  refine At.nrm ?_
  refine At.text (.q 0 (.n false 1 (.q 2 (.q 3 (.q 4 (.q 5 (.n false 6 (.n false 7 (.n true 8 (.n true 9 (.q 10 .done))))))))))) (by kernel_rfl) ?_
  first | refine AtT.loadOA rfl trivial rfl tk25 (by repeat (first | exact Pick.here | apply Pick.there)) (by rfl) (by decide) ?_ | refine AtT.loadA rfl trivial rfl tk25 (by first | assumption | exact Cells.le (by assumption) (by assumption)) (by rfl) (by decide) ?_ | refine AtT.loadOP rfl trivial rfl tk25 (by repeat (first | exact Pick.here | apply Pick.there)) (by rfl) (by rfl) (by decide) ?_
  refine AtT.callP rfl trivial rfl ok34 (by decide) (heights_p LA 2 2 _ _ hA) ?_
  rintro _ rfl; rw [hA1]
  refine AtT.move rfl trivial rfl (by decide) ?_
  refine AtT.extract rfl trivial rfl (by rfl) (by decide) ?_
  refine AtT.extract rfl trivial rfl (by rfl) (by decide) ?_
  refine AtT.extract rfl trivial rfl (by rfl) (by decide) ?_
  refine AtT.alloc rfl trivial z31 rfl (by decide) ?_
  intro b19
  refine AtT.alloc rfl trivial z31 rfl (by decide) ?_
  intro b20
  refine AtT.storeA rfl trivial rfl rfl tk31 rfl rfl (by rfl) (by repeat (first | exact Upd.here | apply Upd.there)) ?_
  refine AtT.storeA rfl trivial rfl rfl tk31 rfl rfl (by rfl) (by repeat (first | exact Upd.here | apply Upd.there)) ?_
  refine AtT.assign rfl trivial rfl (by decide) ?_
  refine AtT.done ?_
  refine At.nrm ?_
  refine At.text (.q 0 (.n false 1 (.q 2 (.q 3 (.q 4 (.q 5 (.n false 6 (.n false 7 (.n true 8 (.n true 9 (.q 10 .done))))))))))) (by kernel_rfl) ?_
  first | refine AtT.loadOA rfl trivial rfl tk25 (by repeat (first | exact Pick.here | apply Pick.there)) (by rfl) (by decide) ?_ | refine AtT.loadA rfl trivial rfl tk25 (by first | assumption | exact Cells.le (by assumption) (by assumption)) (by rfl) (by decide) ?_ | refine AtT.loadOP rfl trivial rfl tk25 (by repeat (first | exact Pick.here | apply Pick.there)) (by rfl) (by rfl) (by decide) ?_
  refine AtT.callP rfl trivial rfl ok34 (by decide) (heights_p LA 3 2 _ _ hA) ?_
  rintro _ rfl; rw [hA2']
  refine AtT.move rfl trivial rfl (by decide) ?_
  refine AtT.extract rfl trivial rfl (by rfl) (by decide) ?_
  refine AtT.extract rfl trivial rfl (by rfl) (by decide) ?_
  refine AtT.extract rfl trivial rfl (by rfl) (by decide) ?_
  refine AtT.alloc rfl trivial z31 rfl (by decide) ?_
  intro b22
  refine AtT.alloc rfl trivial z31 rfl (by decide) ?_
  intro b23
  refine AtT.storeA rfl trivial rfl rfl tk31 rfl rfl (by rfl) (by repeat (first | exact Upd.here | apply Upd.there)) ?_
  refine AtT.storeA rfl trivial rfl rfl tk31 rfl rfl (by rfl) (by repeat (first | exact Upd.here | apply Upd.there)) ?_
  refine AtT.assign rfl trivial rfl (by decide) ?_
  refine AtT.done ?_
  refine At.nrm ?_
  refine At.text (.q 0 (.n false 1 (.q 2 (.q 3 (.q 4 (.q 5 (.n false 6 (.n false 7 (.n true 8 (.n true 9 (.q 10 .done))))))))))) (by kernel_rfl) ?_
  first | refine AtT.loadOA rfl trivial rfl tk25 (by repeat (first | exact Pick.here | apply Pick.there)) (by rfl) (by decide) ?_ | refine AtT.loadA rfl trivial rfl tk25 (by first | assumption | exact Cells.le (by assumption) (by assumption)) (by rfl) (by decide) ?_ | refine AtT.loadOP rfl trivial rfl tk25 (by repeat (first | exact Pick.here | apply Pick.there)) (by rfl) (by rfl) (by decide) ?_
  refine AtT.callP rfl trivial rfl ok34 (by decide) (heights_p LB 2 2 _ _ hB) ?_
  rintro _ rfl; rw [hB1]
  refine AtT.move rfl trivial rfl (by decide) ?_
  refine AtT.extract rfl trivial rfl (by rfl) (by decide) ?_
  refine AtT.extract rfl trivial rfl (by rfl) (by decide) ?_
  refine AtT.extract rfl trivial rfl (by rfl) (by decide) ?_
  refine AtT.alloc rfl trivial z31 rfl (by decide) ?_
  intro b25
  refine AtT.alloc rfl trivial z31 rfl (by decide) ?_
  intro b26
  refine AtT.storeA rfl trivial rfl rfl tk31 rfl rfl (by rfl) (by repeat (first | exact Upd.here | apply Upd.there)) ?_
  refine AtT.storeA rfl trivial rfl rfl tk31 rfl rfl (by rfl) (by repeat (first | exact Upd.here | apply Upd.there)) ?_
  refine AtT.assign rfl trivial rfl (by decide) ?_
  refine AtT.done ?_
  refine At.nrm ?_
  refine At.text (.q 0 (.n false 1 (.q 2 (.q 3 (.q 4 (.q 5 (.q 6 .done))))))) (by kernel_rfl) ?_
  first | refine AtT.loadOA rfl trivial rfl tk25 (by repeat (first | exact Pick.here | apply Pick.there)) (by rfl) (by decide) ?_ | refine AtT.loadA rfl trivial rfl tk25 (by first | assumption | exact Cells.le (by assumption) (by assumption)) (by rfl) (by decide) ?_ | refine AtT.loadOP rfl trivial rfl tk25 (by repeat (first | exact Pick.here | apply Pick.there)) (by rfl) (by rfl) (by decide) ?_
  refine AtT.callP rfl trivial rfl ok29 (by decide) (turns_p LA 1 1 _ _ hA) ?_
  rintro _ rfl; rw [tA1]
  refine AtT.move rfl trivial rfl (by decide) ?_
  refine AtT.extract rfl trivial rfl (by rfl) (by decide) ?_
  refine AtT.extract rfl trivial rfl (by rfl) (by decide) ?_
  refine AtT.assign rfl trivial rfl (by decide) ?_
  refine AtT.assign rfl trivial rfl (by decide) ?_
  refine AtT.done ?_
  refine At.nrm ?_
  refine At.text (.q 0 (.n false 1 (.q 2 (.q 3 (.q 4 (.q 5 (.q 6 .done))))))) (by kernel_rfl) ?_
  first | refine AtT.loadOA rfl trivial rfl tk25 (by repeat (first | exact Pick.here | apply Pick.there)) (by rfl) (by decide) ?_ | refine AtT.loadA rfl trivial rfl tk25 (by first | assumption | exact Cells.le (by assumption) (by assumption)) (by rfl) (by decide) ?_ | refine AtT.loadOP rfl trivial rfl tk25 (by repeat (first | exact Pick.here | apply Pick.there)) (by rfl) (by rfl) (by decide) ?_
  refine AtT.callP rfl trivial rfl ok29 (by decide) (turns_p LA 3 1 _ _ hA) ?_
  rintro _ rfl; rw [tA2']
  refine AtT.move rfl trivial rfl (by decide) ?_
  refine AtT.extract rfl trivial rfl (by rfl) (by decide) ?_
  refine AtT.extract rfl trivial rfl (by rfl) (by decide) ?_
  refine AtT.assign rfl trivial rfl (by decide) ?_
  refine AtT.assign rfl trivial rfl (by decide) ?_
  refine AtT.done ?_
  refine At.nrm ?_
  refine At.text (.n false 0 (.n false 1 (.q 2 (.q 3 (.q 4 (.q 5 (.n false 6 (.n false 7 (.n true 8 (.n true 9 (.q 10 .done))))))))))) (by kernel_rfl) ?_
  refine AtT.call rfl trivial rfl ok58 (by decide) (rough_f _) ?_
  rintro _ V3 hV3 hR
  refine AtT.callP rfl trivial rfl ok37 (by decide) (span_p RA _ _ hR) ?_
  rintro _ rfl; rw [sA]
  refine AtT.move rfl trivial rfl (by decide) ?_
  refine AtT.extract rfl trivial rfl (by rfl) (by decide) ?_
  refine AtT.extract rfl trivial rfl (by rfl) (by decide) ?_
  refine AtT.extract rfl trivial rfl (by rfl) (by decide) ?_
  refine AtT.alloc rfl trivial z31 rfl (by decide) ?_
  intro b32
  refine AtT.alloc rfl trivial z31 rfl (by decide) ?_
  intro b33
  refine AtT.storeA rfl trivial rfl rfl tk31 rfl rfl (by rfl) (by repeat (first | exact Upd.here | apply Upd.there)) ?_
  refine AtT.storeA rfl trivial rfl rfl tk31 rfl rfl (by rfl) (by repeat (first | exact Upd.here | apply Upd.there)) ?_
  refine AtT.assign rfl trivial rfl (by decide) ?_
  refine AtT.done ?_
  refine At.nrm ?_
  have hA' := hA.le hV3
  refine At.text (.q 0 (.q 1 (.q 2 (.q 3 (.q 4 (.q 5 (.q 6 (.q 7 (.q 8 (.q 9 (.q 10 (.q 11 (.q 12 (.q 13 (.q 14 (.q 15 (.q 16 (.q 17 (.q 18 (.q 19 (.q 20 (.q 21 (.q 22 (.q 23 (.q 24 (.q 25 (.q 26 (.q 27 (.q 28 (.q 29 (.q 30 (.q 31 (.q 32 (.q 33 (.q 34 (.q 35 (.q 36 (.q 37 (.q 38 (.q 39 (.q 40 (.q 41 (.q 42 (.q 43 (.q 44 (.q 45 (.q 46 (.q 47 (.q 48 (.q 49 (.q 50 (.q 51 (.q 52 (.q 53 .done)))))))))))))))))))))))))))))))))))))))))))))))))))))) (by kernel_rfl) ?_
  refine AtT.move rfl trivial rfl (by decide) ?_
  refine AtT.neI rfl trivial rfl rfl (by decide) ?_
  refine AtT.move rfl trivial rfl (by decide) ?_
  all_goals (first | refine AtT.litT (d := 119) rfl ?_ | refine AtT.litF (d := 119) rfl ?_ | refine AtT.litU (d := 119) rfl ?_ | refine AtT.pcase (d := 119) rfl (fun hg119 => ?_) (fun hg119 => ?_) | refine AtT.bcase (d := 119) rfl (fun hg119 => ?_) (fun hg119 => ?_))
  all_goals (first | refine AtT.pass rfl rfl rfl rfl rfl rfl (by decide) ?_ | refine AtT.passU rfl rfl rfl rfl rfl rfl (by decide) ?_ | ((refine AtT.move rfl ⟨_, _, rfl, rfl, rfl⟩ rfl (by decide) ?_)))
  all_goals (first | refine AtT.pass rfl rfl rfl rfl rfl rfl (by decide) ?_ | refine AtT.passU rfl rfl rfl rfl rfl rfl (by decide) ?_ | ((refine AtT.neI rfl ⟨_, _, rfl, rfl, rfl⟩ rfl rfl (by decide) ?_)))
  all_goals (refine AtT.pick rfl trivial rfl rfl rfl (by decide) ?_)
  all_goals (refine AtT.move rfl trivial rfl (by decide) ?_)
  all_goals (first | refine AtT.litT (d := 123) rfl ?_ | refine AtT.litF (d := 123) rfl ?_ | refine AtT.litU (d := 123) rfl ?_ | refine AtT.pcase (d := 123) rfl (fun hg123 => ?_) (fun hg123 => ?_) | refine AtT.bcase (d := 123) rfl (fun hg123 => ?_) (fun hg123 => ?_))
  all_goals (first | refine AtT.pass rfl rfl rfl rfl rfl rfl (by decide) ?_ | refine AtT.passU rfl rfl rfl rfl rfl rfl (by decide) ?_ | ((refine AtT.move rfl ⟨_, _, rfl, rfl, rfl⟩ rfl (by decide) ?_)))
  all_goals (first | refine AtT.pass rfl rfl rfl rfl rfl rfl (by decide) ?_ | refine AtT.passU rfl rfl rfl rfl rfl rfl (by decide) ?_ | ((refine AtT.neI rfl ⟨_, _, rfl, rfl, rfl⟩ rfl rfl (by decide) ?_)))
  all_goals (refine AtT.pick rfl trivial rfl rfl rfl (by decide) ?_)
  all_goals (refine AtT.move rfl trivial rfl (by decide) ?_)
  all_goals (first | refine AtT.litT (d := 127) rfl ?_ | refine AtT.litF (d := 127) rfl ?_ | refine AtT.litU (d := 127) rfl ?_ | refine AtT.pcase (d := 127) rfl (fun hg127 => ?_) (fun hg127 => ?_) | refine AtT.bcase (d := 127) rfl (fun hg127 => ?_) (fun hg127 => ?_))
  all_goals (first | refine AtT.pass rfl rfl rfl rfl rfl rfl (by decide) ?_ | refine AtT.passU rfl rfl rfl rfl rfl rfl (by decide) ?_ | ((refine AtT.move rfl ⟨_, _, rfl, rfl, rfl⟩ rfl (by decide) ?_)))
  all_goals (first | refine AtT.pass rfl rfl rfl rfl rfl rfl (by decide) ?_ | refine AtT.passU rfl rfl rfl rfl rfl rfl (by decide) ?_ | ((refine AtT.neI rfl ⟨_, _, rfl, rfl, rfl⟩ rfl rfl (by decide) ?_)))
  all_goals (refine AtT.pick rfl trivial rfl rfl rfl (by decide) ?_)
  all_goals (refine AtT.move rfl trivial rfl (by decide) ?_)
  all_goals (first | refine AtT.litT (d := 131) rfl ?_ | refine AtT.litF (d := 131) rfl ?_ | refine AtT.litU (d := 131) rfl ?_ | refine AtT.pcase (d := 131) rfl (fun hg131 => ?_) (fun hg131 => ?_) | refine AtT.bcase (d := 131) rfl (fun hg131 => ?_) (fun hg131 => ?_))
  all_goals (first | refine AtT.pass rfl rfl rfl rfl rfl rfl (by decide) ?_ | refine AtT.passU rfl rfl rfl rfl rfl rfl (by decide) ?_ | ((refine AtT.move rfl ⟨_, _, rfl, rfl, rfl⟩ rfl (by decide) ?_)))
  all_goals (first | refine AtT.pass rfl rfl rfl rfl rfl rfl (by decide) ?_ | refine AtT.passU rfl rfl rfl rfl rfl rfl (by decide) ?_ | ((refine AtT.neI rfl ⟨_, _, rfl, rfl, rfl⟩ rfl rfl (by decide) ?_)))
  all_goals (refine AtT.pick rfl trivial rfl rfl rfl (by decide) ?_)
  all_goals (refine AtT.move rfl trivial rfl (by decide) ?_)
  all_goals (first | refine AtT.litT (d := 135) rfl ?_ | refine AtT.litF (d := 135) rfl ?_ | refine AtT.litU (d := 135) rfl ?_ | refine AtT.pcase (d := 135) rfl (fun hg135 => ?_) (fun hg135 => ?_) | refine AtT.bcase (d := 135) rfl (fun hg135 => ?_) (fun hg135 => ?_))
  all_goals (first | refine AtT.pass rfl rfl rfl rfl rfl rfl (by decide) ?_ | refine AtT.passU rfl rfl rfl rfl rfl rfl (by decide) ?_ | ((refine AtT.move rfl ⟨_, _, rfl, rfl, rfl⟩ rfl (by decide) ?_)))
  all_goals (first | refine AtT.pass rfl rfl rfl rfl rfl rfl (by decide) ?_ | refine AtT.passU rfl rfl rfl rfl rfl rfl (by decide) ?_ | ((refine AtT.neI rfl ⟨_, _, rfl, rfl, rfl⟩ rfl rfl (by decide) ?_)))
  all_goals (refine AtT.pick rfl trivial rfl rfl rfl (by decide) ?_)
  all_goals (refine AtT.move rfl trivial rfl (by decide) ?_)
  all_goals (first | refine AtT.litT (d := 139) rfl ?_ | refine AtT.litF (d := 139) rfl ?_ | refine AtT.litU (d := 139) rfl ?_ | refine AtT.pcase (d := 139) rfl (fun hg139 => ?_) (fun hg139 => ?_) | refine AtT.bcase (d := 139) rfl (fun hg139 => ?_) (fun hg139 => ?_))
  all_goals (first | refine AtT.pass rfl rfl rfl rfl rfl rfl (by decide) ?_ | refine AtT.passU rfl rfl rfl rfl rfl rfl (by decide) ?_ | ((refine AtT.move rfl ⟨_, _, rfl, rfl, rfl⟩ rfl (by decide) ?_)))
  all_goals (first | refine AtT.pass rfl rfl rfl rfl rfl rfl (by decide) ?_ | refine AtT.passU rfl rfl rfl rfl rfl rfl (by decide) ?_ | ((refine AtT.neI rfl ⟨_, _, rfl, rfl, rfl⟩ rfl rfl (by decide) ?_)))
  all_goals (refine AtT.pick rfl trivial rfl rfl rfl (by decide) ?_)
  all_goals (refine AtT.move rfl trivial rfl (by decide) ?_)
  all_goals (first | refine AtT.litT (d := 143) rfl ?_ | refine AtT.litF (d := 143) rfl ?_ | refine AtT.litU (d := 143) rfl ?_ | refine AtT.pcase (d := 143) rfl (fun hg143 => ?_) (fun hg143 => ?_) | refine AtT.bcase (d := 143) rfl (fun hg143 => ?_) (fun hg143 => ?_))
  all_goals (first | refine AtT.pass rfl rfl rfl rfl rfl rfl (by decide) ?_ | refine AtT.passU rfl rfl rfl rfl rfl rfl (by decide) ?_ | ((refine AtT.move rfl ⟨_, _, rfl, rfl, rfl⟩ rfl (by decide) ?_)))
  all_goals (first | refine AtT.pass rfl rfl rfl rfl rfl rfl (by decide) ?_ | refine AtT.passU rfl rfl rfl rfl rfl rfl (by decide) ?_ | ((refine AtT.neI rfl ⟨_, _, rfl, rfl, rfl⟩ rfl rfl (by decide) ?_)))
  all_goals (refine AtT.pick rfl trivial rfl rfl rfl (by decide) ?_)
  all_goals (refine AtT.move rfl trivial rfl (by decide) ?_)
  all_goals (first | refine AtT.litT (d := 147) rfl ?_ | refine AtT.litF (d := 147) rfl ?_ | refine AtT.litU (d := 147) rfl ?_ | refine AtT.pcase (d := 147) rfl (fun hg147 => ?_) (fun hg147 => ?_) | refine AtT.bcase (d := 147) rfl (fun hg147 => ?_) (fun hg147 => ?_))
  all_goals (first | refine AtT.pass rfl rfl rfl rfl rfl rfl (by decide) ?_ | refine AtT.passU rfl rfl rfl rfl rfl rfl (by decide) ?_ | ((refine AtT.move rfl ⟨_, _, rfl, rfl, rfl⟩ rfl (by decide) ?_)))
  all_goals (first | refine AtT.pass rfl rfl rfl rfl rfl rfl (by decide) ?_ | refine AtT.passU rfl rfl rfl rfl rfl rfl (by decide) ?_ | ((refine AtT.neI rfl ⟨_, _, rfl, rfl, rfl⟩ rfl rfl (by decide) ?_)))
  all_goals (refine AtT.pick rfl trivial rfl rfl rfl (by decide) ?_)
  all_goals (refine AtT.move rfl trivial rfl (by decide) ?_)
  all_goals (first | refine AtT.litT (d := 151) rfl ?_ | refine AtT.litF (d := 151) rfl ?_ | refine AtT.litU (d := 151) rfl ?_ | refine AtT.pcase (d := 151) rfl (fun hg151 => ?_) (fun hg151 => ?_) | refine AtT.bcase (d := 151) rfl (fun hg151 => ?_) (fun hg151 => ?_))
  all_goals (first | refine AtT.pass rfl rfl rfl rfl rfl rfl (by decide) ?_ | refine AtT.passU rfl rfl rfl rfl rfl rfl (by decide) ?_ | ((refine AtT.move rfl ⟨_, _, rfl, rfl, rfl⟩ rfl (by decide) ?_)))
  all_goals (first | refine AtT.pass rfl rfl rfl rfl rfl rfl (by decide) ?_ | refine AtT.passU rfl rfl rfl rfl rfl rfl (by decide) ?_ | ((refine AtT.neI rfl ⟨_, _, rfl, rfl, rfl⟩ rfl rfl (by decide) ?_)))
  all_goals (refine AtT.pick rfl trivial rfl rfl rfl (by decide) ?_)
  all_goals (refine AtT.move rfl trivial rfl (by decide) ?_)
  all_goals (first | refine AtT.litT (d := 155) rfl ?_ | refine AtT.litF (d := 155) rfl ?_ | refine AtT.litU (d := 155) rfl ?_ | refine AtT.pcase (d := 155) rfl (fun hg155 => ?_) (fun hg155 => ?_) | refine AtT.bcase (d := 155) rfl (fun hg155 => ?_) (fun hg155 => ?_))
  all_goals (first | refine AtT.pass rfl rfl rfl rfl rfl rfl (by decide) ?_ | refine AtT.passU rfl rfl rfl rfl rfl rfl (by decide) ?_ | ((refine AtT.move rfl ⟨_, _, rfl, rfl, rfl⟩ rfl (by decide) ?_)))
  all_goals (first | refine AtT.pass rfl rfl rfl rfl rfl rfl (by decide) ?_ | refine AtT.passU rfl rfl rfl rfl rfl rfl (by decide) ?_ | ((refine AtT.neI rfl ⟨_, _, rfl, rfl, rfl⟩ rfl rfl (by decide) ?_)))
  all_goals (refine AtT.pick rfl trivial rfl rfl rfl (by decide) ?_)
  all_goals (refine AtT.move rfl trivial rfl (by decide) ?_)
  all_goals (first | refine AtT.litT (d := 159) rfl ?_ | refine AtT.litF (d := 159) rfl ?_ | refine AtT.litU (d := 159) rfl ?_ | refine AtT.pcase (d := 159) rfl (fun hg159 => ?_) (fun hg159 => ?_) | refine AtT.bcase (d := 159) rfl (fun hg159 => ?_) (fun hg159 => ?_))
  all_goals (first | refine AtT.pass rfl rfl rfl rfl rfl rfl (by decide) ?_ | refine AtT.passU rfl rfl rfl rfl rfl rfl (by decide) ?_ | ((refine AtT.move rfl ⟨_, _, rfl, rfl, rfl⟩ rfl (by decide) ?_)))
  all_goals (first | refine AtT.pass rfl rfl rfl rfl rfl rfl (by decide) ?_ | refine AtT.passU rfl rfl rfl rfl rfl rfl (by decide) ?_ | ((refine AtT.neI rfl ⟨_, _, rfl, rfl, rfl⟩ rfl rfl (by decide) ?_)))
  all_goals (refine AtT.pick rfl trivial rfl rfl rfl (by decide) ?_)
  all_goals (refine AtT.move rfl trivial rfl (by decide) ?_)
  all_goals (first | refine AtT.litT (d := 163) rfl ?_ | refine AtT.litF (d := 163) rfl ?_ | refine AtT.litU (d := 163) rfl ?_ | refine AtT.pcase (d := 163) rfl (fun hg163 => ?_) (fun hg163 => ?_) | refine AtT.bcase (d := 163) rfl (fun hg163 => ?_) (fun hg163 => ?_))
  all_goals (first | refine AtT.pass rfl rfl rfl rfl rfl rfl (by decide) ?_ | refine AtT.passU rfl rfl rfl rfl rfl rfl (by decide) ?_ | ((refine AtT.move rfl ⟨_, _, rfl, rfl, rfl⟩ rfl (by decide) ?_)))
  all_goals (first | refine AtT.pass rfl rfl rfl rfl rfl rfl (by decide) ?_ | refine AtT.passU rfl rfl rfl rfl rfl rfl (by decide) ?_ | ((refine AtT.neI rfl ⟨_, _, rfl, rfl, rfl⟩ rfl rfl (by decide) ?_)))
  all_goals (refine AtT.pick rfl trivial rfl rfl rfl (by decide) ?_)
  all_goals (refine AtT.move rfl trivial rfl (by decide) ?_)
  all_goals (first | refine AtT.litT (d := 167) rfl ?_ | refine AtT.litF (d := 167) rfl ?_ | refine AtT.litU (d := 167) rfl ?_ | refine AtT.pcase (d := 167) rfl (fun hg167 => ?_) (fun hg167 => ?_) | refine AtT.bcase (d := 167) rfl (fun hg167 => ?_) (fun hg167 => ?_))
  all_goals (first | refine AtT.pass rfl rfl rfl rfl rfl rfl (by decide) ?_ | refine AtT.passU rfl rfl rfl rfl rfl rfl (by decide) ?_ | ((refine AtT.move rfl ⟨_, _, rfl, rfl, rfl⟩ rfl (by decide) ?_)))
  all_goals (first | refine AtT.pass rfl rfl rfl rfl rfl rfl (by decide) ?_ | refine AtT.passU rfl rfl rfl rfl rfl rfl (by decide) ?_ | ((refine AtT.neI rfl ⟨_, _, rfl, rfl, rfl⟩ rfl rfl (by decide) ?_)))
  all_goals (refine AtT.pick rfl trivial rfl rfl rfl (by decide) ?_)
  all_goals refine AtT.done ?_
  all_goals (refine At.nrm ?_)
  refine At.condF rfl rfl ?_
  refine At.nrm ?_
  refine At.text (.q 0 (.q 1 (.n false 2 (.q 3 (.q 4 (.q 5 (.n false 6 (.n true 7 (.q 8 .done))))))))) (by kernel_rfl) ?_
  first | refine AtT.loadOA rfl trivial rfl tk25 (by repeat (first | exact Pick.here | apply Pick.there)) (by rfl) (by decide) ?_ | refine AtT.loadA rfl trivial rfl tk25 (by first | assumption | exact Cells.le (by assumption) (by assumption)) (by rfl) (by decide) ?_ | refine AtT.loadOP rfl trivial rfl tk25 (by repeat (first | exact Pick.here | apply Pick.there)) (by rfl) (by rfl) (by decide) ?_
  first | refine AtT.loadOA rfl trivial rfl tk27 (by repeat (first | exact Pick.here | apply Pick.there)) (by rfl) (by decide) ?_ | refine AtT.loadA rfl trivial rfl tk27 (by first | assumption | exact Cells.le (by assumption) (by assumption)) (by rfl) (by decide) ?_ | refine AtT.loadOP rfl trivial rfl tk27 (by repeat (first | exact Pick.here | apply Pick.there)) (by rfl) (by rfl) (by decide) ?_
  refine AtT.callP rfl trivial rfl ok21 (by decide) (core_q LA lx _ _ hA') ?_
  rintro _ rfl; rw [cAx hx1 hx2]
  refine AtT.move rfl trivial rfl (by decide) ?_
  refine AtT.extract rfl trivial rfl (by rfl) (by decide) ?_
  refine AtT.extract rfl trivial rfl (by rfl) (by decide) ?_
  refine AtT.alloc rfl trivial z31 rfl (by decide) ?_
  intro b35
  refine AtT.storeA rfl trivial rfl rfl tk31 rfl rfl (by rfl) (by repeat (first | exact Upd.here | apply Upd.there)) ?_
  refine AtT.assign rfl trivial rfl (by decide) ?_
  refine AtT.done ?_
  refine At.nrm ?_
  refine At.text (.q 0 (.q 1 (.n false 2 (.q 3 (.q 4 (.q 5 (.n false 6 (.n true 7 (.q 8 .done))))))))) (by kernel_rfl) ?_
  first | refine AtT.loadOA rfl trivial rfl tk25 (by repeat (first | exact Pick.here | apply Pick.there)) (by rfl) (by decide) ?_ | refine AtT.loadA rfl trivial rfl tk25 (by first | assumption | exact Cells.le (by assumption) (by assumption)) (by rfl) (by decide) ?_ | refine AtT.loadOP rfl trivial rfl tk25 (by repeat (first | exact Pick.here | apply Pick.there)) (by rfl) (by rfl) (by decide) ?_
  first | refine AtT.loadOA rfl trivial rfl tk45 (by repeat (first | exact Pick.here | apply Pick.there)) (by rfl) (by decide) ?_ | refine AtT.loadA rfl trivial rfl tk45 (by first | assumption | exact Cells.le (by assumption) (by assumption)) (by rfl) (by decide) ?_ | refine AtT.loadOP rfl trivial rfl tk45 (by repeat (first | exact Pick.here | apply Pick.there)) (by rfl) (by rfl) (by decide) ?_
  refine AtT.callP rfl trivial rfl ok32 (by decide) (check_q LA ⟨0, 1, 2, 2⟩ _ _ hA') ?_
  rintro _ rfl; rw [kA1]
  refine AtT.move rfl trivial rfl (by decide) ?_
  refine AtT.extract rfl trivial rfl (by rfl) (by decide) ?_
  refine AtT.extract rfl trivial rfl (by rfl) (by decide) ?_
  refine AtT.alloc rfl trivial z31 rfl (by decide) ?_
  intro b36
  refine AtT.storeA rfl trivial rfl rfl tk31 rfl rfl (by rfl) (by repeat (first | exact Upd.here | apply Upd.there)) ?_
  refine AtT.assign rfl trivial rfl (by decide) ?_
  refine AtT.done ?_
  refine At.nrm ?_
  apply At.draw0 (.q 0 (.n false 1 (.q 2 (.q 3 (.q 4 (.q 5 (.q 6 (.q 7 (.q 8 (.q 9 (.n false 10 (.q 11 (.q 12 (.q 13 (.q 14 (.q 15 (.q 16 (.q 17 (.q 18 (.q 19 (.q 20 (.q 21 (.q 22 (.q 23 (.q 24 (.q 25 (.q 26 (.q 27 (.q 28 (.q 29 (.q 30 (.q 31 (.q 32 (.q 33 (.q 34 (.q 35 (.q 36 (.q 37 (.n false 38 (.q 39 (.q 40 (.q 41 (.q 42 (.n false 43 (.q 44 (.q 45 (.q 46 (.q 47 (.n false 48 (.q 49 (.q 50 (.q 51 (.q 52 (.n false 53 (.q 54 (.q 55 (.q 56 (.q 57 (.q 58 (.q 59 (.q 60 (.q 61 (.q 62 (.q 63 (.q 64 (.q 65 (.q 66 (.q 67 (.q 68 (.q 69 (.q 70 .done))))))))))))))))))))))))))))))))))))))))))))))))))))))))))))))))))))))) ffm (by kernel_rfl)
  · first | refine AtT.loadOA rfl trivial rfl tk31 (by repeat (first | exact Pick.here | apply Pick.there)) (by rfl) (by decide) ?_ | refine AtT.loadA rfl trivial rfl tk31 (by first | assumption | exact Cells.le (by assumption) (by assumption)) (by rfl) (by decide) ?_ | refine AtT.loadOP rfl trivial rfl tk31 (by repeat (first | exact Pick.here | apply Pick.there)) (by rfl) (by rfl) (by decide) ?_
    refine AtT.callP rfl trivial rfl ok57 (by decide) (by57_f _ _ _) ?_
    rintro _ rfl
    refine AtT.eqS rfl trivial rfl rfl (eqS31 _ _ _ _) (by decide) ?_
    refine AtT.move rfl trivial rfl (by decide) ?_
    all_goals (first | refine AtT.litT (d := 186) rfl ?_ | refine AtT.litF (d := 186) rfl ?_ | refine AtT.litU (d := 186) rfl ?_ | refine AtT.pcase (d := 186) rfl (fun hg186 => ?_) (fun hg186 => ?_) | refine AtT.bcase (d := 186) rfl (fun hg186 => ?_) (fun hg186 => ?_))
    all_goals (first | refine AtT.pass rfl rfl rfl rfl rfl rfl (by decide) ?_ | refine AtT.passU rfl rfl rfl rfl rfl rfl (by decide) ?_ | ((first | refine AtT.loadOA rfl ⟨_, _, rfl, rfl, rfl⟩ rfl tk31 (by repeat (first | exact Pick.here | apply Pick.there)) (by rfl) (by decide) ?_ | refine AtT.loadA rfl ⟨_, _, rfl, rfl, rfl⟩ rfl tk31 (by first | assumption | exact Cells.le (by assumption) (by assumption)) (by rfl) (by decide) ?_ | refine AtT.loadOP rfl ⟨_, _, rfl, rfl, rfl⟩ rfl tk31 (by repeat (first | exact Pick.here | apply Pick.there)) (by rfl) (by rfl) (by decide) ?_)))
    all_goals (first | refine AtT.pass rfl rfl rfl rfl rfl rfl (by decide) ?_ | refine AtT.passU rfl rfl rfl rfl rfl rfl (by decide) ?_ | ((first | refine AtT.loadOA rfl ⟨_, _, rfl, rfl, rfl⟩ rfl tk31 (by repeat (first | exact Pick.here | apply Pick.there)) (by rfl) (by decide) ?_ | refine AtT.loadA rfl ⟨_, _, rfl, rfl, rfl⟩ rfl tk31 (by first | assumption | exact Cells.le (by assumption) (by assumption)) (by rfl) (by decide) ?_ | refine AtT.loadOP rfl ⟨_, _, rfl, rfl, rfl⟩ rfl tk31 (by repeat (first | exact Pick.here | apply Pick.there)) (by rfl) (by rfl) (by decide) ?_)))
    all_goals (first | refine AtT.pass rfl rfl rfl rfl rfl rfl (by decide) ?_ | refine AtT.passU rfl rfl rfl rfl rfl rfl (by decide) ?_ | ((refine AtT.eqS rfl ⟨_, _, rfl, rfl, rfl⟩ rfl rfl (eqS31 _ _ _ _) (by decide) ?_)))
    all_goals (refine AtT.pick rfl trivial rfl rfl rfl (by decide) ?_)
    all_goals (refine AtT.move rfl trivial rfl (by decide) ?_)
    all_goals (first | refine AtT.litT (d := 191) rfl ?_ | refine AtT.litF (d := 191) rfl ?_ | refine AtT.litU (d := 191) rfl ?_ | refine AtT.pcase (d := 191) rfl (fun hg191 => ?_) (fun hg191 => ?_) | refine AtT.bcase (d := 191) rfl (fun hg191 => ?_) (fun hg191 => ?_))
    all_goals (first | refine AtT.pass rfl rfl rfl rfl rfl rfl (by decide) ?_ | refine AtT.passU rfl rfl rfl rfl rfl rfl (by decide) ?_ | ((first | refine AtT.loadOA rfl ⟨_, _, rfl, rfl, rfl⟩ rfl tk31 (by repeat (first | exact Pick.here | apply Pick.there)) (by rfl) (by decide) ?_ | refine AtT.loadA rfl ⟨_, _, rfl, rfl, rfl⟩ rfl tk31 (by first | assumption | exact Cells.le (by assumption) (by assumption)) (by rfl) (by decide) ?_ | refine AtT.loadOP rfl ⟨_, _, rfl, rfl, rfl⟩ rfl tk31 (by repeat (first | exact Pick.here | apply Pick.there)) (by rfl) (by rfl) (by decide) ?_)))
    all_goals (first | refine AtT.passN rfl rfl rfl rfl rfl rfl (by decide) ?_ | refine AtT.passNU rfl rfl rfl rfl rfl rfl (by decide) ?_ | ((refine AtT.callP rfl ⟨_, _, rfl, rfl, rfl⟩ rfl ok57 (by decide) (by57_f _ _ _) ?_) ; (rintro _ rfl)))
    all_goals (first | refine AtT.pass rfl rfl rfl rfl rfl rfl (by decide) ?_ | refine AtT.passU rfl rfl rfl rfl rfl rfl (by decide) ?_ | ((refine AtT.eqS rfl ⟨_, _, rfl, rfl, rfl⟩ rfl rfl (eqS31 _ _ _ _) (by decide) ?_)))
    all_goals (refine AtT.pick rfl trivial rfl rfl rfl (by decide) ?_)
    all_goals (refine AtT.move rfl trivial rfl (by decide) ?_)
    all_goals (first | refine AtT.litT (d := 196) rfl ?_ | refine AtT.litF (d := 196) rfl ?_ | refine AtT.litU (d := 196) rfl ?_ | refine AtT.pcase (d := 196) rfl (fun hg196 => ?_) (fun hg196 => ?_) | refine AtT.bcase (d := 196) rfl (fun hg196 => ?_) (fun hg196 => ?_))
    all_goals (first | refine AtT.pass rfl rfl rfl rfl rfl rfl (by decide) ?_ | refine AtT.passU rfl rfl rfl rfl rfl rfl (by decide) ?_ | ((refine AtT.move rfl ⟨_, _, rfl, rfl, rfl⟩ rfl (by decide) ?_)))
    all_goals (first | refine AtT.pass rfl rfl rfl rfl rfl rfl (by decide) ?_ | refine AtT.passU rfl rfl rfl rfl rfl rfl (by decide) ?_ | ((refine AtT.eqI rfl ⟨_, _, rfl, rfl, rfl⟩ rfl rfl (by decide) ?_)))
    all_goals (refine AtT.pick rfl trivial rfl rfl rfl (by decide) ?_)
    all_goals (refine AtT.move rfl trivial rfl (by decide) ?_)
    all_goals (first | refine AtT.litT (d := 200) rfl ?_ | refine AtT.litF (d := 200) rfl ?_ | refine AtT.litU (d := 200) rfl ?_ | refine AtT.pcase (d := 200) rfl (fun hg200 => ?_) (fun hg200 => ?_) | refine AtT.bcase (d := 200) rfl (fun hg200 => ?_) (fun hg200 => ?_))
    all_goals (first | refine AtT.pass rfl rfl rfl rfl rfl rfl (by decide) ?_ | refine AtT.passU rfl rfl rfl rfl rfl rfl (by decide) ?_ | ((first | refine AtT.loadOA rfl ⟨_, _, rfl, rfl, rfl⟩ rfl tk31 (by repeat (first | exact Pick.here | apply Pick.there)) (by rfl) (by decide) ?_ | refine AtT.loadA rfl ⟨_, _, rfl, rfl, rfl⟩ rfl tk31 (by first | assumption | exact Cells.le (by assumption) (by assumption)) (by rfl) (by decide) ?_ | refine AtT.loadOP rfl ⟨_, _, rfl, rfl, rfl⟩ rfl tk31 (by repeat (first | exact Pick.here | apply Pick.there)) (by rfl) (by rfl) (by decide) ?_)))
    all_goals (first | refine AtT.pass rfl rfl rfl rfl rfl rfl (by decide) ?_ | refine AtT.passU rfl rfl rfl rfl rfl rfl (by decide) ?_ | ((first | refine AtT.loadOA rfl ⟨_, _, rfl, rfl, rfl⟩ rfl tk31 (by repeat (first | exact Pick.here | apply Pick.there)) (by rfl) (by decide) ?_ | refine AtT.loadA rfl ⟨_, _, rfl, rfl, rfl⟩ rfl tk31 (by first | assumption | exact Cells.le (by assumption) (by assumption)) (by rfl) (by decide) ?_ | refine AtT.loadOP rfl ⟨_, _, rfl, rfl, rfl⟩ rfl tk31 (by repeat (first | exact Pick.here | apply Pick.there)) (by rfl) (by rfl) (by decide) ?_)))
    all_goals (first | refine AtT.pass rfl rfl rfl rfl rfl rfl (by decide) ?_ | refine AtT.passU rfl rfl rfl rfl rfl rfl (by decide) ?_ | ((refine AtT.eqS rfl ⟨_, _, rfl, rfl, rfl⟩ rfl rfl (eqS31 _ _ _ _) (by decide) ?_)))
    all_goals (refine AtT.pick rfl trivial rfl rfl rfl (by decide) ?_)
    all_goals (refine AtT.move rfl trivial rfl (by decide) ?_)
    all_goals (first | refine AtT.litT (d := 205) rfl ?_ | refine AtT.litF (d := 205) rfl ?_ | refine AtT.litU (d := 205) rfl ?_ | refine AtT.pcase (d := 205) rfl (fun hg205 => ?_) (fun hg205 => ?_) | refine AtT.bcase (d := 205) rfl (fun hg205 => ?_) (fun hg205 => ?_))
    all_goals (first | refine AtT.pass rfl rfl rfl rfl rfl rfl (by decide) ?_ | refine AtT.passU rfl rfl rfl rfl rfl rfl (by decide) ?_ | ((first | refine AtT.loadOA rfl ⟨_, _, rfl, rfl, rfl⟩ rfl tk31 (by repeat (first | exact Pick.here | apply Pick.there)) (by rfl) (by decide) ?_ | refine AtT.loadA rfl ⟨_, _, rfl, rfl, rfl⟩ rfl tk31 (by first | assumption | exact Cells.le (by assumption) (by assumption)) (by rfl) (by decide) ?_ | refine AtT.loadOP rfl ⟨_, _, rfl, rfl, rfl⟩ rfl tk31 (by repeat (first | exact Pick.here | apply Pick.there)) (by rfl) (by rfl) (by decide) ?_)))
    all_goals (first | refine AtT.pass rfl rfl rfl rfl rfl rfl (by decide) ?_ | refine AtT.passU rfl rfl rfl rfl rfl rfl (by decide) ?_ | ((first | refine AtT.loadOA rfl ⟨_, _, rfl, rfl, rfl⟩ rfl tk31 (by repeat (first | exact Pick.here | apply Pick.there)) (by rfl) (by decide) ?_ | refine AtT.loadA rfl ⟨_, _, rfl, rfl, rfl⟩ rfl tk31 (by first | assumption | exact Cells.le (by assumption) (by assumption)) (by rfl) (by decide) ?_ | refine AtT.loadOP rfl ⟨_, _, rfl, rfl, rfl⟩ rfl tk31 (by repeat (first | exact Pick.here | apply Pick.there)) (by rfl) (by rfl) (by decide) ?_)))
    all_goals (first | refine AtT.pass rfl rfl rfl rfl rfl rfl (by decide) ?_ | refine AtT.passU rfl rfl rfl rfl rfl rfl (by decide) ?_ | ((refine AtT.eqS rfl ⟨_, _, rfl, rfl, rfl⟩ rfl rfl (eqS31 _ _ _ _) (by decide) ?_)))
    all_goals (refine AtT.pick rfl trivial rfl rfl rfl (by decide) ?_)
    all_goals (refine AtT.move rfl trivial rfl (by decide) ?_)
    all_goals (first | refine AtT.litT (d := 210) rfl ?_ | refine AtT.litF (d := 210) rfl ?_ | refine AtT.litU (d := 210) rfl ?_ | refine AtT.pcase (d := 210) rfl (fun hg210 => ?_) (fun hg210 => ?_) | refine AtT.bcase (d := 210) rfl (fun hg210 => ?_) (fun hg210 => ?_))
    all_goals (first | refine AtT.pass rfl rfl rfl rfl rfl rfl (by decide) ?_ | refine AtT.passU rfl rfl rfl rfl rfl rfl (by decide) ?_ | ((refine AtT.move rfl ⟨_, _, rfl, rfl, rfl⟩ rfl (by decide) ?_)))
    all_goals (first | refine AtT.pass rfl rfl rfl rfl rfl rfl (by decide) ?_ | refine AtT.passU rfl rfl rfl rfl rfl rfl (by decide) ?_ | ((refine AtT.eqI rfl ⟨_, _, rfl, rfl, rfl⟩ rfl rfl (by decide) ?_)))
    all_goals (refine AtT.pick rfl trivial rfl rfl rfl (by decide) ?_)
    all_goals (refine AtT.move rfl trivial rfl (by decide) ?_)
    all_goals (first | refine AtT.litT (d := 214) rfl ?_ | refine AtT.litF (d := 214) rfl ?_ | refine AtT.litU (d := 214) rfl ?_ | refine AtT.pcase (d := 214) rfl (fun hg214 => ?_) (fun hg214 => ?_) | refine AtT.bcase (d := 214) rfl (fun hg214 => ?_) (fun hg214 => ?_))
    all_goals (first | refine AtT.pass rfl rfl rfl rfl rfl rfl (by decide) ?_ | refine AtT.passU rfl rfl rfl rfl rfl rfl (by decide) ?_ | ((first | refine AtT.loadOA rfl ⟨_, _, rfl, rfl, rfl⟩ rfl tk31 (by repeat (first | exact Pick.here | apply Pick.there)) (by rfl) (by decide) ?_ | refine AtT.loadA rfl ⟨_, _, rfl, rfl, rfl⟩ rfl tk31 (by first | assumption | exact Cells.le (by assumption) (by assumption)) (by rfl) (by decide) ?_ | refine AtT.loadOP rfl ⟨_, _, rfl, rfl, rfl⟩ rfl tk31 (by repeat (first | exact Pick.here | apply Pick.there)) (by rfl) (by rfl) (by decide) ?_)))
    all_goals (first | refine AtT.pass rfl rfl rfl rfl rfl rfl (by decide) ?_ | refine AtT.passU rfl rfl rfl rfl rfl rfl (by decide) ?_ | ((first | refine AtT.loadOA rfl ⟨_, _, rfl, rfl, rfl⟩ rfl tk31 (by repeat (first | exact Pick.here | apply Pick.there)) (by rfl) (by decide) ?_ | refine AtT.loadA rfl ⟨_, _, rfl, rfl, rfl⟩ rfl tk31 (by first | assumption | exact Cells.le (by assumption) (by assumption)) (by rfl) (by decide) ?_ | refine AtT.loadOP rfl ⟨_, _, rfl, rfl, rfl⟩ rfl tk31 (by repeat (first | exact Pick.here | apply Pick.there)) (by rfl) (by rfl) (by decide) ?_)))
    all_goals (first | refine AtT.pass rfl rfl rfl rfl rfl rfl (by decide) ?_ | refine AtT.passU rfl rfl rfl rfl rfl rfl (by decide) ?_ | ((refine AtT.eqS rfl ⟨_, _, rfl, rfl, rfl⟩ rfl rfl (eqS31 _ _ _ _) (by decide) ?_)))
    all_goals (refine AtT.pick rfl trivial rfl rfl rfl (by decide) ?_)
    all_goals (refine AtT.move rfl trivial rfl (by decide) ?_)
    all_goals (first | refine AtT.litT (d := 219) rfl ?_ | refine AtT.litF (d := 219) rfl ?_ | refine AtT.litU (d := 219) rfl ?_ | refine AtT.pcase (d := 219) rfl (fun hg219 => ?_) (fun hg219 => ?_) | refine AtT.bcase (d := 219) rfl (fun hg219 => ?_) (fun hg219 => ?_))
    all_goals (first | refine AtT.pass rfl rfl rfl rfl rfl rfl (by decide) ?_ | refine AtT.passU rfl rfl rfl rfl rfl rfl (by decide) ?_ | ((first | refine AtT.loadOA rfl ⟨_, _, rfl, rfl, rfl⟩ rfl tk31 (by repeat (first | exact Pick.here | apply Pick.there)) (by rfl) (by decide) ?_ | refine AtT.loadA rfl ⟨_, _, rfl, rfl, rfl⟩ rfl tk31 (by first | assumption | exact Cells.le (by assumption) (by assumption)) (by rfl) (by decide) ?_ | refine AtT.loadOP rfl ⟨_, _, rfl, rfl, rfl⟩ rfl tk31 (by repeat (first | exact Pick.here | apply Pick.there)) (by rfl) (by rfl) (by decide) ?_)))
    all_goals (first | refine AtT.passN rfl rfl rfl rfl rfl rfl (by decide) ?_ | refine AtT.passNU rfl rfl rfl rfl rfl rfl (by decide) ?_ | ((refine AtT.callP rfl ⟨_, _, rfl, rfl, rfl⟩ rfl ok57 (by decide) (by57_f _ _ _) ?_) ; (rintro _ rfl)))
    all_goals (first | refine AtT.pass rfl rfl rfl rfl rfl rfl (by decide) ?_ | refine AtT.passU rfl rfl rfl rfl rfl rfl (by decide) ?_ | ((refine AtT.eqS rfl ⟨_, _, rfl, rfl, rfl⟩ rfl rfl (eqS31 _ _ _ _) (by decide) ?_)))
    all_goals (refine AtT.pick rfl trivial rfl rfl rfl (by decide) ?_)
    all_goals (refine AtT.move rfl trivial rfl (by decide) ?_)
    all_goals (first | refine AtT.litT (d := 224) rfl ?_ | refine AtT.litF (d := 224) rfl ?_ | refine AtT.litU (d := 224) rfl ?_ | refine AtT.pcase (d := 224) rfl (fun hg224 => ?_) (fun hg224 => ?_) | refine AtT.bcase (d := 224) rfl (fun hg224 => ?_) (fun hg224 => ?_))
    all_goals (first | refine AtT.pass rfl rfl rfl rfl rfl rfl (by decide) ?_ | refine AtT.passU rfl rfl rfl rfl rfl rfl (by decide) ?_ | ((first | refine AtT.loadOA rfl ⟨_, _, rfl, rfl, rfl⟩ rfl tk31 (by repeat (first | exact Pick.here | apply Pick.there)) (by rfl) (by decide) ?_ | refine AtT.loadA rfl ⟨_, _, rfl, rfl, rfl⟩ rfl tk31 (by first | assumption | exact Cells.le (by assumption) (by assumption)) (by rfl) (by decide) ?_ | refine AtT.loadOP rfl ⟨_, _, rfl, rfl, rfl⟩ rfl tk31 (by repeat (first | exact Pick.here | apply Pick.there)) (by rfl) (by rfl) (by decide) ?_)))
    all_goals (first | refine AtT.passN rfl rfl rfl rfl rfl rfl (by decide) ?_ | refine AtT.passNU rfl rfl rfl rfl rfl rfl (by decide) ?_ | ((refine AtT.callP rfl ⟨_, _, rfl, rfl, rfl⟩ rfl ok57 (by decide) (by57_f _ _ _) ?_) ; (rintro _ rfl)))
    all_goals (first | refine AtT.pass rfl rfl rfl rfl rfl rfl (by decide) ?_ | refine AtT.passU rfl rfl rfl rfl rfl rfl (by decide) ?_ | ((refine AtT.eqS rfl ⟨_, _, rfl, rfl, rfl⟩ rfl rfl (eqS31 _ _ _ _) (by decide) ?_)))
    all_goals (refine AtT.pick rfl trivial rfl rfl rfl (by decide) ?_)
    all_goals (refine AtT.move rfl trivial rfl (by decide) ?_)
    all_goals (first | refine AtT.litT (d := 229) rfl ?_ | refine AtT.litF (d := 229) rfl ?_ | refine AtT.litU (d := 229) rfl ?_ | refine AtT.pcase (d := 229) rfl (fun hg229 => ?_) (fun hg229 => ?_) | refine AtT.bcase (d := 229) rfl (fun hg229 => ?_) (fun hg229 => ?_))
    all_goals (first | refine AtT.pass rfl rfl rfl rfl rfl rfl (by decide) ?_ | refine AtT.passU rfl rfl rfl rfl rfl rfl (by decide) ?_ | ((first | refine AtT.loadOA rfl ⟨_, _, rfl, rfl, rfl⟩ rfl tk31 (by repeat (first | exact Pick.here | apply Pick.there)) (by rfl) (by decide) ?_ | refine AtT.loadA rfl ⟨_, _, rfl, rfl, rfl⟩ rfl tk31 (by first | assumption | exact Cells.le (by assumption) (by assumption)) (by rfl) (by decide) ?_ | refine AtT.loadOP rfl ⟨_, _, rfl, rfl, rfl⟩ rfl tk31 (by repeat (first | exact Pick.here | apply Pick.there)) (by rfl) (by rfl) (by decide) ?_)))
    all_goals (first | refine AtT.passN rfl rfl rfl rfl rfl rfl (by decide) ?_ | refine AtT.passNU rfl rfl rfl rfl rfl rfl (by decide) ?_ | ((refine AtT.callP rfl ⟨_, _, rfl, rfl, rfl⟩ rfl ok57 (by decide) (by57_f _ _ _) ?_) ; (rintro _ rfl)))
    all_goals (first | refine AtT.pass rfl rfl rfl rfl rfl rfl (by decide) ?_ | refine AtT.passU rfl rfl rfl rfl rfl rfl (by decide) ?_ | ((refine AtT.eqS rfl ⟨_, _, rfl, rfl, rfl⟩ rfl rfl (eqS31 _ _ _ _) (by decide) ?_)))
    all_goals (refine AtT.pick rfl trivial rfl rfl rfl (by decide) ?_)
    all_goals (refine AtT.move rfl trivial rfl (by decide) ?_)
    all_goals (first | refine AtT.litT (d := 234) rfl ?_ | refine AtT.litF (d := 234) rfl ?_ | refine AtT.litU (d := 234) rfl ?_ | refine AtT.pcase (d := 234) rfl (fun hg234 => ?_) (fun hg234 => ?_) | refine AtT.bcase (d := 234) rfl (fun hg234 => ?_) (fun hg234 => ?_))
    all_goals (first | refine AtT.pass rfl rfl rfl rfl rfl rfl (by decide) ?_ | refine AtT.passU rfl rfl rfl rfl rfl rfl (by decide) ?_ | ((first | refine AtT.loadOA rfl ⟨_, _, rfl, rfl, rfl⟩ rfl tk31 (by repeat (first | exact Pick.here | apply Pick.there)) (by rfl) (by decide) ?_ | refine AtT.loadA rfl ⟨_, _, rfl, rfl, rfl⟩ rfl tk31 (by first | assumption | exact Cells.le (by assumption) (by assumption)) (by rfl) (by decide) ?_ | refine AtT.loadOP rfl ⟨_, _, rfl, rfl, rfl⟩ rfl tk31 (by repeat (first | exact Pick.here | apply Pick.there)) (by rfl) (by rfl) (by decide) ?_)))
    all_goals (first | refine AtT.passN rfl rfl rfl rfl rfl rfl (by decide) ?_ | refine AtT.passNU rfl rfl rfl rfl rfl rfl (by decide) ?_ | ((refine AtT.callP rfl ⟨_, _, rfl, rfl, rfl⟩ rfl ok57 (by decide) (by57_f _ _ _) ?_) ; (rintro _ rfl)))
    all_goals (first | refine AtT.pass rfl rfl rfl rfl rfl rfl (by decide) ?_ | refine AtT.passU rfl rfl rfl rfl rfl rfl (by decide) ?_ | ((refine AtT.eqS rfl ⟨_, _, rfl, rfl, rfl⟩ rfl rfl (eqS31 _ _ _ _) (by decide) ?_)))
    all_goals (refine AtT.pick rfl trivial rfl rfl rfl (by decide) ?_)
    all_goals (refine AtT.move rfl trivial rfl (by decide) ?_)
    all_goals (first | refine AtT.litT (d := 239) rfl ?_ | refine AtT.litF (d := 239) rfl ?_ | refine AtT.litU (d := 239) rfl ?_ | refine AtT.pcase (d := 239) rfl (fun hg239 => ?_) (fun hg239 => ?_) | refine AtT.bcase (d := 239) rfl (fun hg239 => ?_) (fun hg239 => ?_))
    all_goals (first | refine AtT.pass rfl rfl rfl rfl rfl rfl (by decide) ?_ | refine AtT.passU rfl rfl rfl rfl rfl rfl (by decide) ?_ | ((refine AtT.move rfl ⟨_, _, rfl, rfl, rfl⟩ rfl (by decide) ?_)))
    all_goals (first | refine AtT.pass rfl rfl rfl rfl rfl rfl (by decide) ?_ | refine AtT.passU rfl rfl rfl rfl rfl rfl (by decide) ?_ | ((refine AtT.eqI rfl ⟨_, _, rfl, rfl, rfl⟩ rfl rfl (by decide) ?_)))
    all_goals (refine AtT.pick rfl trivial rfl rfl rfl (by decide) ?_)
    all_goals (refine AtT.move rfl trivial rfl (by decide) ?_)
    all_goals (first | refine AtT.litT (d := 243) rfl ?_ | refine AtT.litF (d := 243) rfl ?_ | refine AtT.litU (d := 243) rfl ?_ | refine AtT.pcase (d := 243) rfl (fun hg243 => ?_) (fun hg243 => ?_) | refine AtT.bcase (d := 243) rfl (fun hg243 => ?_) (fun hg243 => ?_))
    all_goals (first | refine AtT.pass rfl rfl rfl rfl rfl rfl (by decide) ?_ | refine AtT.passU rfl rfl rfl rfl rfl rfl (by decide) ?_ | ((first | refine AtT.loadOA rfl ⟨_, _, rfl, rfl, rfl⟩ rfl tk31 (by repeat (first | exact Pick.here | apply Pick.there)) (by rfl) (by decide) ?_ | refine AtT.loadA rfl ⟨_, _, rfl, rfl, rfl⟩ rfl tk31 (by first | assumption | exact Cells.le (by assumption) (by assumption)) (by rfl) (by decide) ?_ | refine AtT.loadOP rfl ⟨_, _, rfl, rfl, rfl⟩ rfl tk31 (by repeat (first | exact Pick.here | apply Pick.there)) (by rfl) (by rfl) (by decide) ?_)))
    all_goals (first | refine AtT.pass rfl rfl rfl rfl rfl rfl (by decide) ?_ | refine AtT.passU rfl rfl rfl rfl rfl rfl (by decide) ?_ | ((first | refine AtT.loadOA rfl ⟨_, _, rfl, rfl, rfl⟩ rfl tk31 (by repeat (first | exact Pick.here | apply Pick.there)) (by rfl) (by decide) ?_ | refine AtT.loadA rfl ⟨_, _, rfl, rfl, rfl⟩ rfl tk31 (by first | assumption | exact Cells.le (by assumption) (by assumption)) (by rfl) (by decide) ?_ | refine AtT.loadOP rfl ⟨_, _, rfl, rfl, rfl⟩ rfl tk31 (by repeat (first | exact Pick.here | apply Pick.there)) (by rfl) (by rfl) (by decide) ?_)))
    all_goals (first | refine AtT.pass rfl rfl rfl rfl rfl rfl (by decide) ?_ | refine AtT.passU rfl rfl rfl rfl rfl rfl (by decide) ?_ | ((refine AtT.eqS rfl ⟨_, _, rfl, rfl, rfl⟩ rfl rfl (eqS31 _ _ _ _) (by decide) ?_)))
    all_goals (refine AtT.pick rfl trivial rfl rfl rfl (by decide) ?_)
    all_goals (refine AtT.move rfl trivial rfl (by decide) ?_)
    all_goals (first | refine AtT.litT (d := 248) rfl ?_ | refine AtT.litF (d := 248) rfl ?_ | refine AtT.litU (d := 248) rfl ?_ | refine AtT.pcase (d := 248) rfl (fun hg248 => ?_) (fun hg248 => ?_) | refine AtT.bcase (d := 248) rfl (fun hg248 => ?_) (fun hg248 => ?_))
    all_goals (first | refine AtT.pass rfl rfl rfl rfl rfl rfl (by decide) ?_ | refine AtT.passU rfl rfl rfl rfl rfl rfl (by decide) ?_ | ((first | refine AtT.loadOA rfl ⟨_, _, rfl, rfl, rfl⟩ rfl tk31 (by repeat (first | exact Pick.here | apply Pick.there)) (by rfl) (by decide) ?_ | refine AtT.loadA rfl ⟨_, _, rfl, rfl, rfl⟩ rfl tk31 (by first | assumption | exact Cells.le (by assumption) (by assumption)) (by rfl) (by decide) ?_ | refine AtT.loadOP rfl ⟨_, _, rfl, rfl, rfl⟩ rfl tk31 (by repeat (first | exact Pick.here | apply Pick.there)) (by rfl) (by rfl) (by decide) ?_)))
    all_goals (first | refine AtT.pass rfl rfl rfl rfl rfl rfl (by decide) ?_ | refine AtT.passU rfl rfl rfl rfl rfl rfl (by decide) ?_ | ((first | refine AtT.loadOA rfl ⟨_, _, rfl, rfl, rfl⟩ rfl tk31 (by repeat (first | exact Pick.here | apply Pick.there)) (by rfl) (by decide) ?_ | refine AtT.loadA rfl ⟨_, _, rfl, rfl, rfl⟩ rfl tk31 (by first | assumption | exact Cells.le (by assumption) (by assumption)) (by rfl) (by decide) ?_ | refine AtT.loadOP rfl ⟨_, _, rfl, rfl, rfl⟩ rfl tk31 (by repeat (first | exact Pick.here | apply Pick.there)) (by rfl) (by rfl) (by decide) ?_)))
    all_goals (first | refine AtT.pass rfl rfl rfl rfl rfl rfl (by decide) ?_ | refine AtT.passU rfl rfl rfl rfl rfl rfl (by decide) ?_ | ((refine AtT.eqS rfl ⟨_, _, rfl, rfl, rfl⟩ rfl rfl (eqS31 _ _ _ _) (by decide) ?_)))
    all_goals (refine AtT.pick rfl trivial rfl rfl rfl (by decide) ?_)
    all_goals (refine AtT.assign rfl trivial rfl (by decide) ?_)
    exact AtT.done (fun a w hk hm => ⟨hk, hm⟩)
  refine At.nrm ?_
  exact At.ret1 rfl (.tmp rfl) rfl
end Go.Proofs.Ytnionkopmncopaa
set_option linter.unusedVariables false
namespace Go.Proofs.Ytnionkopmncopaa
open Go.Lw Go.Pl Go.RowKit

theorem neR (a b : Int) : (!decide (a = a ∧ b = b)) = false := by simp
theorem eqR (a b : Int) : decide (a = a ∧ b = b) = true := by simp
theorem neI (a : Int) : decide (a ≠ a) = false := by simp
theorem eqI (a : Int) : decide (a = a) = true := by simp

theorem peelBests_f (L : Lg) (sp sh : Int) (V : View) (v : Value) (hv : LogV V v L) : Fnc Try.prog 4 [v, iv sp, iv sh] V fun r _ => r = .bool true := by
  have hv' := hv
  obtain ⟨a, c, a', c', rfl, h2, h3⟩ := hv
  refine fn_of Try.func4 rfl Try.ntmps4 (Nat.le_of_ble_eq_true rfl) ?_
  intro w0 hw0
  refine At.nrm ?_
  refine At.ktext (.n false 0 (.q 1 .done)) ?_
  refine AtT.kbox ?_
  intro b3
  refine AtT.kassign ?_
  refine AtT.done ?_
  refine At.nrm ?_
  refine At.ktext (.q 0 (.n false 1 .done)) ?_
  first | refine AtT.kloadOA tk25 ?_ | refine AtT.kloadA tk25 ?_ | refine AtT.kloadOP tk25 ?_
  refine AtT.kcallP rfl rfl ok18 (great_f L _ _ hv') ?_
  rintro _ rfl
  refine AtT.done ?_
  refine At.nrm ?_
  refine At.condP rfl (fun hb => ?_) (fun hb => ?_)
  · refine At.nrm ?_
    refine At.ktext (.n false 0 (.q 1 .done)) ?_
    refine AtT.kcallP rfl rfl ok19 (works_f _) ?_
    rintro _ rfl
    refine AtT.kassign ?_
    refine AtT.done ?_
    refine At.nrm ?_
    exact At.ret1 rfl (.tmp rfl) rfl
  · refine At.nrm ?_
    by_cases he : logE L = 0
    · have hbe : bestR L = (bestV L, 0) := by unfold bestR; rw [if_neg (by simp [he])]
      refine At.ktext (.q 0 (.n false 1 (.q 2 (.q 3 (.q 4 (.n false 5 (.n true 6 (.q 7 .done)))))))) ?_
      first | refine AtT.kloadOA tk25 ?_ | refine AtT.kloadA tk25 ?_ | refine AtT.kloadOP tk25 ?_
      refine AtT.kcallP rfl rfl ok26 (best_p26 L _ _ hv') ?_
      rintro _ rfl; rw [hbe]
      refine AtT.kmove ?_
      refine AtT.kextract ?_
      refine AtT.kextract ?_
      refine AtT.kalloc z31 ?_
      intro b7
      refine AtT.kstoreA tk31 ?_
      refine AtT.kassign ?_
      refine AtT.done ?_
      refine At.nrm ?_
      refine At.ktext (.q 0 (.n false 1 (.q 2 (.q 3 (.q 4 (.n false 5 (.n true 6 (.q 7 .done)))))))) ?_
      first | refine AtT.kloadOA tk25 ?_ | refine AtT.kloadA tk25 ?_ | refine AtT.kloadOP tk25 ?_
      refine AtT.kcallP rfl rfl ok27 (best_q L _ _ hv') ?_
      rintro _ rfl; rw [hbe]
      refine AtT.kmove ?_
      refine AtT.kextract ?_
      refine AtT.kextract ?_
      refine AtT.kalloc z31 ?_
      intro b9
      refine AtT.kstoreA tk31 ?_
      refine AtT.kassign ?_
      refine AtT.done ?_
      refine At.nrm ?_
      refine At.ktext (.q 0 (.n false 1 (.q 2 (.q 3 (.q 4 (.n false 5 (.n true 6 (.q 7 .done)))))))) ?_
      first | refine AtT.kloadOA tk25 ?_ | refine AtT.kloadA tk25 ?_ | refine AtT.kloadOP tk25 ?_
      refine AtT.kcallP rfl rfl ok28 (line_p28 L _ _ hv') ?_
      rintro _ (⟨he', rfl⟩ | ⟨he', lx, rfl, hx1, hx2⟩); exact absurd he he'
      refine AtT.kmove ?_
      refine AtT.kextract ?_
      refine AtT.kextract ?_
      refine AtT.kalloc z27 ?_
      intro b11
      refine AtT.kstoreA tk27 ?_
      refine AtT.kassign ?_
      refine AtT.done ?_
      refine At.nrm ?_
      have hcx : coreR L lx = (bestV L, 0) := by
        unfold coreR
        rw [if_neg (by simp [he]), if_neg (by simp [(cand_ok (logE_ok he) hx1).2]), hx2]
      refine At.ktext (.q 0 (.q 1 (.q 2 (.n false 3 (.q 4 (.q 5 (.q 6 (.q 7 (.q 8 .done))))))))) ?_
      first | refine AtT.kloadOA tk25 ?_ | refine AtT.kloadA tk25 ?_ | refine AtT.kloadOP tk25 ?_
      refine AtT.kmove ?_
      refine AtT.kmove ?_
      refine AtT.kcallP rfl rfl ok29 (turns_p L sp sh _ _ hv') ?_
      rintro _ rfl
      refine AtT.kmove ?_
      refine AtT.kextract ?_
      refine AtT.kextract ?_
      refine AtT.kassign ?_
      refine AtT.kassign ?_
      refine AtT.done ?_
      refine At.nrm ?_
      refine At.ktext (.q 0 (.q 1 (.q 2 (.n false 3 (.q 4 (.q 5 (.q 6 (.q 7 (.q 8 .done))))))))) ?_
      first | refine AtT.kloadOA tk25 ?_ | refine AtT.kloadA tk25 ?_ | refine AtT.kloadOP tk25 ?_
      refine AtT.kmove ?_
      refine AtT.kmove ?_
      refine AtT.kcallP rfl rfl ok30 (turns_q L sp sh _ _ hv') ?_
      rintro _ rfl
      refine AtT.kmove ?_
      refine AtT.kextract ?_
      refine AtT.kextract ?_
      refine AtT.kassign ?_
      refine AtT.kassign ?_
      refine AtT.done ?_
      refine At.nrm ?_
      refine At.ktext (.q 0 (.q 1 (.q 2 (.q 3 (.q 4 (.q 5 (.q 6 (.q 7 (.q 8 (.q 9 (.q 10 (.q 11 (.q 12 (.q 13 (.q 14 (.q 15 (.q 16 (.q 17 (.q 18 (.q 19 (.q 20 (.q 21 (.q 22 .done))))))))))))))))))))))) ?_
      first | refine AtT.kloadOA tk31 ?_ | refine AtT.kloadA tk31 ?_ | refine AtT.kloadOP tk31 ?_
      first | refine AtT.kloadOA tk31 ?_ | refine AtT.kloadA tk31 ?_ | refine AtT.kloadOP tk31 ?_
      refine AtT.kneS (eqS31 _ _ _ _) ?_
      rw [neR]
      refine AtT.kmove ?_
      all_goals (first | refine AtT.kL 53 ?_ | refine AtT.pcase (d := 53) rfl (fun hg53 => ?_) (fun hg53 => ?_) | refine AtT.bcase (d := 53) rfl (fun hg53 => ?_) (fun hg53 => ?_))
      all_goals (first | refine AtT.kpass ?_ | refine AtT.kpassU ?_ | ((refine AtT.kmove ?_)))
      all_goals (first | refine AtT.kpass ?_ | refine AtT.kpassU ?_ | ((refine AtT.kmove ?_)))
      all_goals (first | refine AtT.kpass ?_ | refine AtT.kpassU ?_ | ((refine AtT.kneI ?_)))
      all_goals (refine AtT.kpick ?_)
      all_goals (refine AtT.kmove ?_)
      all_goals (first | refine AtT.kL 58 ?_ | refine AtT.pcase (d := 58) rfl (fun hg58 => ?_) (fun hg58 => ?_) | refine AtT.bcase (d := 58) rfl (fun hg58 => ?_) (fun hg58 => ?_))
      all_goals (first | refine AtT.kpass ?_ | refine AtT.kpassU ?_ | ((refine AtT.kmove ?_)))
      all_goals (first | refine AtT.kpass ?_ | refine AtT.kpassU ?_ | ((refine AtT.kmove ?_)))
      all_goals (first | refine AtT.kpass ?_ | refine AtT.kpassU ?_ | ((refine AtT.kneI ?_)))
      all_goals (refine AtT.kpick ?_)
      all_goals (refine AtT.kmove ?_)
      all_goals (first | refine AtT.kL 63 ?_ | refine AtT.pcase (d := 63) rfl (fun hg63 => ?_) (fun hg63 => ?_) | refine AtT.bcase (d := 63) rfl (fun hg63 => ?_) (fun hg63 => ?_))
      all_goals (first | refine AtT.kpass ?_ | refine AtT.kpassU ?_ | ((refine AtT.kmove ?_)))
      all_goals (first | refine AtT.kpass ?_ | refine AtT.kpassU ?_ | ((refine AtT.kmove ?_)))
      all_goals (first | refine AtT.kpass ?_ | refine AtT.kpassU ?_ | ((refine AtT.kneI ?_)))
      all_goals (rw [neI])
      all_goals (refine AtT.kpick ?_)
      all_goals (refine AtT.kmove ?_)
      all_goals (first | refine AtT.kL 68 ?_ | refine AtT.pcase (d := 68) rfl (fun hg68 => ?_) (fun hg68 => ?_) | refine AtT.bcase (d := 68) rfl (fun hg68 => ?_) (fun hg68 => ?_))
      all_goals (first | refine AtT.kpass ?_ | refine AtT.kpassU ?_ | ((refine AtT.kmove ?_)))
      all_goals (first | refine AtT.kpass ?_ | refine AtT.kpassU ?_ | ((refine AtT.kmove ?_)))
      all_goals (first | refine AtT.kpass ?_ | refine AtT.kpassU ?_ | ((refine AtT.kneI ?_)))
      all_goals (rw [neI])
      all_goals (refine AtT.kpick ?_)
      all_goals refine AtT.done ?_
      all_goals (refine At.nrm ?_)
      refine At.condF rfl rfl ?_
      refine At.nrm ?_
      refine At.ktext (.q 0 (.q 1 .done)) ?_
      refine AtT.kmove ?_
      refine AtT.kneI ?_
      refine AtT.done ?_
      refine At.nrm ?_
      refine At.condF rfl rfl ?_
      refine At.nrm ?_
      refine At.ktext (.q 0 (.q 1 (.n false 2 (.q 3 (.q 4 (.q 5 (.n false 6 (.n true 7 (.q 8 .done))))))))) ?_
      first | refine AtT.kloadOA tk25 ?_ | refine AtT.kloadA tk25 ?_ | refine AtT.kloadOP tk25 ?_
      first | refine AtT.kloadOA tk27 ?_ | refine AtT.kloadA tk27 ?_ | refine AtT.kloadOP tk27 ?_
      refine AtT.kcallP rfl rfl ok21 (core_q L lx _ _ hv') ?_
      rintro _ rfl; rw [hcx]
      refine AtT.kmove ?_
      refine AtT.kextract ?_
      refine AtT.kextract ?_
      refine AtT.kalloc z31 ?_
      intro b17
      refine AtT.kstoreA tk31 ?_
      refine AtT.kassign ?_
      refine AtT.done ?_
      refine At.nrm ?_
      refine At.ktext (.q 0 (.q 1 (.q 2 (.q 3 (.q 4 (.q 5 (.q 6 (.q 7 (.n false 8 (.q 9 (.q 10 .done))))))))))) ?_
      refine AtT.kmove ?_
      refine AtT.keqI ?_
      refine AtT.kmove ?_
      all_goals (first | refine AtT.kL 89 ?_ | refine AtT.pcase (d := 89) rfl (fun hg89 => ?_) (fun hg89 => ?_) | refine AtT.bcase (d := 89) rfl (fun hg89 => ?_) (fun hg89 => ?_))
      all_goals (first | refine AtT.kpass ?_ | refine AtT.kpassU ?_ | ((first | refine AtT.kloadOA tk31 ?_ | refine AtT.kloadA tk31 ?_ | refine AtT.kloadOP tk31 ?_)))
      all_goals (first | refine AtT.kpass ?_ | refine AtT.kpassU ?_ | ((first | refine AtT.kloadOA tk31 ?_ | refine AtT.kloadA tk31 ?_ | refine AtT.kloadOP tk31 ?_)))
      all_goals (first | refine AtT.kpass ?_ | refine AtT.kpassU ?_ | ((refine AtT.keqS (eqS31 _ _ _ _) ?_)))
      all_goals (rw [eqR])
      all_goals (refine AtT.kpick ?_)
      all_goals (refine AtT.kmove ?_)
      all_goals (first | refine AtT.kL 94 ?_ | refine AtT.pcase (d := 94) rfl (fun hg94 => ?_) (fun hg94 => ?_) | refine AtT.bcase (d := 94) rfl (fun hg94 => ?_) (fun hg94 => ?_))
      all_goals (first | refine AtT.kpassN ?_ | refine AtT.kpassNU ?_ | ((refine AtT.kcallP rfl rfl ok19 (works_f _) ?_) ; (rintro _ rfl)))
      all_goals (refine AtT.kpick ?_)
      all_goals (refine AtT.kassign ?_)
      all_goals refine AtT.done ?_
      all_goals (refine At.nrm ?_)
      exact At.ret1 rfl (.tmp rfl) rfl
    · have hbe : bestR L = (⟨0, 0⟩, logE L) := by unfold bestR; rw [if_pos he]
      refine At.ktext (.q 0 (.n false 1 (.q 2 (.q 3 (.q 4 (.n false 5 (.n true 6 (.q 7 .done)))))))) ?_
      first | refine AtT.kloadOA tk25 ?_ | refine AtT.kloadA tk25 ?_ | refine AtT.kloadOP tk25 ?_
      refine AtT.kcallP rfl rfl ok26 (best_p26 L _ _ hv') ?_
      rintro _ rfl; rw [hbe]
      refine AtT.kmove ?_
      refine AtT.kextract ?_
      refine AtT.kextract ?_
      refine AtT.kalloc z31 ?_
      intro b7
      refine AtT.kstoreA tk31 ?_
      refine AtT.kassign ?_
      refine AtT.done ?_
      refine At.nrm ?_
      refine At.ktext (.q 0 (.n false 1 (.q 2 (.q 3 (.q 4 (.n false 5 (.n true 6 (.q 7 .done)))))))) ?_
      first | refine AtT.kloadOA tk25 ?_ | refine AtT.kloadA tk25 ?_ | refine AtT.kloadOP tk25 ?_
      refine AtT.kcallP rfl rfl ok27 (best_q L _ _ hv') ?_
      rintro _ rfl; rw [hbe]
      refine AtT.kmove ?_
      refine AtT.kextract ?_
      refine AtT.kextract ?_
      refine AtT.kalloc z31 ?_
      intro b9
      refine AtT.kstoreA tk31 ?_
      refine AtT.kassign ?_
      refine AtT.done ?_
      refine At.nrm ?_
      refine At.ktext (.q 0 (.n false 1 (.q 2 (.q 3 (.q 4 (.n false 5 (.n true 6 (.q 7 .done)))))))) ?_
      first | refine AtT.kloadOA tk25 ?_ | refine AtT.kloadA tk25 ?_ | refine AtT.kloadOP tk25 ?_
      refine AtT.kcallP rfl rfl ok28 (line_p28 L _ _ hv') ?_
      rintro _ (⟨he', rfl⟩ | ⟨he', lx, rfl, hx1, hx2⟩); rotate_left; exact absurd he' he
      refine AtT.kmove ?_
      refine AtT.kextract ?_
      refine AtT.kextract ?_
      refine AtT.kalloc z27 ?_
      intro b11
      refine AtT.kstoreA tk27 ?_
      refine AtT.kassign ?_
      refine AtT.done ?_
      refine At.nrm ?_
      refine At.ktext (.q 0 (.q 1 (.q 2 (.n false 3 (.q 4 (.q 5 (.q 6 (.q 7 (.q 8 .done))))))))) ?_
      first | refine AtT.kloadOA tk25 ?_ | refine AtT.kloadA tk25 ?_ | refine AtT.kloadOP tk25 ?_
      refine AtT.kmove ?_
      refine AtT.kmove ?_
      refine AtT.kcallP rfl rfl ok29 (turns_p L sp sh _ _ hv') ?_
      rintro _ rfl
      refine AtT.kmove ?_
      refine AtT.kextract ?_
      refine AtT.kextract ?_
      refine AtT.kassign ?_
      refine AtT.kassign ?_
      refine AtT.done ?_
      refine At.nrm ?_
      refine At.ktext (.q 0 (.q 1 (.q 2 (.n false 3 (.q 4 (.q 5 (.q 6 (.q 7 (.q 8 .done))))))))) ?_
      first | refine AtT.kloadOA tk25 ?_ | refine AtT.kloadA tk25 ?_ | refine AtT.kloadOP tk25 ?_
      refine AtT.kmove ?_
      refine AtT.kmove ?_
      refine AtT.kcallP rfl rfl ok30 (turns_q L sp sh _ _ hv') ?_
      rintro _ rfl
      refine AtT.kmove ?_
      refine AtT.kextract ?_
      refine AtT.kextract ?_
      refine AtT.kassign ?_
      refine AtT.kassign ?_
      refine AtT.done ?_
      refine At.nrm ?_
      refine At.ktext (.q 0 (.q 1 (.q 2 (.q 3 (.q 4 (.q 5 (.q 6 (.q 7 (.q 8 (.q 9 (.q 10 (.q 11 (.q 12 (.q 13 (.q 14 (.q 15 (.q 16 (.q 17 (.q 18 (.q 19 (.q 20 (.q 21 (.q 22 .done))))))))))))))))))))))) ?_
      first | refine AtT.kloadOA tk31 ?_ | refine AtT.kloadA tk31 ?_ | refine AtT.kloadOP tk31 ?_
      first | refine AtT.kloadOA tk31 ?_ | refine AtT.kloadA tk31 ?_ | refine AtT.kloadOP tk31 ?_
      refine AtT.kneS (eqS31 _ _ _ _) ?_
      rw [neR]
      refine AtT.kmove ?_
      all_goals (first | refine AtT.kL 53 ?_ | refine AtT.pcase (d := 53) rfl (fun hg53 => ?_) (fun hg53 => ?_) | refine AtT.bcase (d := 53) rfl (fun hg53 => ?_) (fun hg53 => ?_))
      all_goals (first | refine AtT.kpass ?_ | refine AtT.kpassU ?_ | ((refine AtT.kmove ?_)))
      all_goals (first | refine AtT.kpass ?_ | refine AtT.kpassU ?_ | ((refine AtT.kmove ?_)))
      all_goals (first | refine AtT.kpass ?_ | refine AtT.kpassU ?_ | ((refine AtT.kneI ?_)))
      all_goals (rw [neI])
      all_goals (refine AtT.kpick ?_)
      all_goals (refine AtT.kmove ?_)
      all_goals (first | refine AtT.kL 58 ?_ | refine AtT.pcase (d := 58) rfl (fun hg58 => ?_) (fun hg58 => ?_) | refine AtT.bcase (d := 58) rfl (fun hg58 => ?_) (fun hg58 => ?_))
      all_goals (first | refine AtT.kpass ?_ | refine AtT.kpassU ?_ | ((refine AtT.kmove ?_)))
      all_goals (first | refine AtT.kpass ?_ | refine AtT.kpassU ?_ | ((refine AtT.kmove ?_)))
      all_goals (first | refine AtT.kpass ?_ | refine AtT.kpassU ?_ | ((refine AtT.kneI ?_)))
      all_goals (rw [neI])
      all_goals (refine AtT.kpick ?_)
      all_goals (refine AtT.kmove ?_)
      all_goals (first | refine AtT.kL 63 ?_ | refine AtT.pcase (d := 63) rfl (fun hg63 => ?_) (fun hg63 => ?_) | refine AtT.bcase (d := 63) rfl (fun hg63 => ?_) (fun hg63 => ?_))
      all_goals (first | refine AtT.kpass ?_ | refine AtT.kpassU ?_ | ((refine AtT.kmove ?_)))
      all_goals (first | refine AtT.kpass ?_ | refine AtT.kpassU ?_ | ((refine AtT.kmove ?_)))
      all_goals (first | refine AtT.kpass ?_ | refine AtT.kpassU ?_ | ((refine AtT.kneI ?_)))
      all_goals (rw [neI])
      all_goals (refine AtT.kpick ?_)
      all_goals (refine AtT.kmove ?_)
      all_goals (first | refine AtT.kL 68 ?_ | refine AtT.pcase (d := 68) rfl (fun hg68 => ?_) (fun hg68 => ?_) | refine AtT.bcase (d := 68) rfl (fun hg68 => ?_) (fun hg68 => ?_))
      all_goals (first | refine AtT.kpass ?_ | refine AtT.kpassU ?_ | ((refine AtT.kmove ?_)))
      all_goals (first | refine AtT.kpass ?_ | refine AtT.kpassU ?_ | ((refine AtT.kmove ?_)))
      all_goals (first | refine AtT.kpass ?_ | refine AtT.kpassU ?_ | ((refine AtT.kneI ?_)))
      all_goals (rw [neI])
      all_goals (refine AtT.kpick ?_)
      all_goals refine AtT.done ?_
      all_goals (refine At.nrm ?_)
      refine At.condF rfl rfl ?_
      refine At.nrm ?_
      refine At.ktext (.q 0 (.q 1 .done)) ?_
      refine AtT.kmove ?_
      refine AtT.kneI ?_
      refine AtT.done ?_
      refine At.nrm ?_
      refine At.condT rfl (decide_eq_true he) ?_
      refine At.nrm ?_
      refine At.ktext (.q 0 (.q 1 (.q 2 (.q 3 (.n false 4 (.q 5 (.q 6 .done))))))) ?_
      first | refine AtT.kloadOA tk27 ?_ | refine AtT.kloadA tk27 ?_ | refine AtT.kloadOP tk27 ?_
      refine AtT.kbuild (bd27) ?_
      refine AtT.keqS (eqS27 _ _ _ _ _ _) ?_
      refine AtT.kmove ?_
      all_goals (first | refine AtT.kL 78 ?_ | refine AtT.pcase (d := 78) rfl (fun hg78 => ?_) (fun hg78 => ?_) | refine AtT.bcase (d := 78) rfl (fun hg78 => ?_) (fun hg78 => ?_))
      all_goals (first | refine AtT.kpassN ?_ | refine AtT.kpassNU ?_ | ((refine AtT.kcallP rfl rfl ok19 (works_f _) ?_) ; (rintro _ rfl)))
      all_goals (refine AtT.kpick ?_)
      all_goals (refine AtT.kassign ?_)
      all_goals refine AtT.done ?_
      all_goals (refine At.nrm ?_)
      exact At.ret1 rfl (.tmp rfl) rfl

theorem proofR_core {L : Lg} (he : logE L = 0) : checkR L (proofR L).1 = (bestV L, 0) ∧ (proofR L).2 = 0 := by
  have e : proofR L = (firstP L, 0) := by unfold proofR; rw [if_neg (by simp [he])]
  have hL := logE_ok he
  have hf := firstP_spec (L := L) (by have := hL.n2; omega)
  rw [e]
  refine ⟨?_, rfl⟩
  unfold checkR
  rw [if_neg (by simp [he]), if_neg (by rw [(shapedB_iff L _).2 (proofs_ok hf.1)]; simp), hf.2]

theorem peelProofs_f (L : Lg) (p : Pf) (V : View) (v : Value) (hv : LogV V v L) : Fnc Try.prog 5 [v, pfv p] V fun r _ => r = .bool true := by
  have hv' := hv
  obtain ⟨a, c, a', c', rfl, h2, h3⟩ := hv
  refine fn_of Try.func5 rfl Try.ntmps5 (Nat.le_of_ble_eq_true rfl) ?_
  intro w0 hw0
  refine At.nrm ?_
  refine At.ktext (.n false 0 (.n false 1 (.q 2 .done))) ?_
  refine AtT.kbox ?_
  intro b2
  refine AtT.kbox ?_
  intro b3
  refine AtT.kassign ?_
  refine AtT.done ?_
  refine At.nrm ?_
  refine At.ktext (.q 0 (.n false 1 .done)) ?_
  first | refine AtT.kloadOA tk25 ?_ | refine AtT.kloadA tk25 ?_ | refine AtT.kloadOP tk25 ?_
  refine AtT.kcallP rfl rfl ok18 (great_f L _ _ hv') ?_
  rintro _ rfl
  refine AtT.done ?_
  refine At.nrm ?_
  refine At.condP rfl (fun hb => ?_) (fun hb => ?_)
  · refine At.nrm ?_
    refine At.ktext (.n false 0 (.q 1 .done)) ?_
    refine AtT.kcallP rfl rfl ok19 (works_f _) ?_
    rintro _ rfl
    refine AtT.kassign ?_
    refine AtT.done ?_
    refine At.nrm ?_
    exact At.ret1 rfl (.tmp rfl) rfl
  · refine At.nrm ?_
    refine At.ktext (.q 0 (.q 1 (.n false 2 (.q 3 (.q 4 (.q 5 (.n false 6 (.n true 7 (.q 8 .done))))))))) ?_
    first | refine AtT.kloadOA tk25 ?_ | refine AtT.kloadA tk25 ?_ | refine AtT.kloadOP tk25 ?_
    first | refine AtT.kloadOA tk45 ?_ | refine AtT.kloadA tk45 ?_ | refine AtT.kloadOP tk45 ?_
    refine AtT.kcallP rfl rfl ok31 (check_p L p _ _ hv') ?_
    rintro _ rfl
    refine AtT.kmove ?_
    refine AtT.kextract ?_
    refine AtT.kextract ?_
    refine AtT.kalloc z31 ?_
    intro b5
    refine AtT.kstoreA tk31 ?_
    refine AtT.kassign ?_
    refine AtT.done ?_
    refine At.nrm ?_
    refine At.ktext (.q 0 (.q 1 (.n false 2 (.q 3 (.q 4 (.q 5 (.n false 6 (.n true 7 (.q 8 .done))))))))) ?_
    first | refine AtT.kloadOA tk25 ?_ | refine AtT.kloadA tk25 ?_ | refine AtT.kloadOP tk25 ?_
    first | refine AtT.kloadOA tk45 ?_ | refine AtT.kloadA tk45 ?_ | refine AtT.kloadOP tk45 ?_
    refine AtT.kcallP rfl rfl ok32 (check_q L p _ _ hv') ?_
    rintro _ rfl
    refine AtT.kmove ?_
    refine AtT.kextract ?_
    refine AtT.kextract ?_
    refine AtT.kalloc z31 ?_
    intro b7
    refine AtT.kstoreA tk31 ?_
    refine AtT.kassign ?_
    refine AtT.done ?_
    refine At.nrm ?_
    by_cases he : logE L = 0
    · have hbe : bestR L = (bestV L, 0) := by unfold bestR; rw [if_neg (by simp [he])]
      obtain ⟨hp1, hp2⟩ := proofR_core he
      refine At.ktext (.q 0 (.n false 1 (.q 2 (.q 3 (.q 4 (.n false 5 (.n true 6 (.q 7 .done)))))))) ?_
      first | refine AtT.kloadOA tk25 ?_ | refine AtT.kloadA tk25 ?_ | refine AtT.kloadOP tk25 ?_
      refine AtT.kcallP rfl rfl ok33 (proof_p33 L _ _ hv') ?_
      rintro _ rfl; rw [hp2]
      refine AtT.kmove ?_
      refine AtT.kextract ?_
      refine AtT.kextract ?_
      refine AtT.kalloc z45 ?_
      intro b9
      refine AtT.kstoreA tk45 ?_
      refine AtT.kassign ?_
      refine AtT.done ?_
      refine At.nrm ?_
      refine At.ktext (.q 0 (.n false 1 (.q 2 (.q 3 (.q 4 (.n false 5 (.n true 6 (.q 7 .done)))))))) ?_
      first | refine AtT.kloadOA tk25 ?_ | refine AtT.kloadA tk25 ?_ | refine AtT.kloadOP tk25 ?_
      refine AtT.kcallP rfl rfl ok27 (best_q L _ _ hv') ?_
      rintro _ rfl; rw [hbe]
      refine AtT.kmove ?_
      refine AtT.kextract ?_
      refine AtT.kextract ?_
      refine AtT.kalloc z31 ?_
      intro b11
      refine AtT.kstoreA tk31 ?_
      refine AtT.kassign ?_
      refine AtT.done ?_
      refine At.nrm ?_
      refine At.ktext (.q 0 (.q 1 (.q 2 (.q 3 (.q 4 (.q 5 (.q 6 (.q 7 (.q 8 (.q 9 (.q 10 (.q 11 (.q 12 .done))))))))))))) ?_
      first | refine AtT.kloadOA tk31 ?_ | refine AtT.kloadA tk31 ?_ | refine AtT.kloadOP tk31 ?_
      first | refine AtT.kloadOA tk31 ?_ | refine AtT.kloadA tk31 ?_ | refine AtT.kloadOP tk31 ?_
      refine AtT.kneS (eqS31 _ _ _ _) ?_
      rw [neR]
      refine AtT.kmove ?_
      all_goals (first | refine AtT.kL 42 ?_ | refine AtT.pcase (d := 42) rfl (fun hg42 => ?_) (fun hg42 => ?_) | refine AtT.bcase (d := 42) rfl (fun hg42 => ?_) (fun hg42 => ?_))
      all_goals (first | refine AtT.kpass ?_ | refine AtT.kpassU ?_ | ((refine AtT.kmove ?_)))
      all_goals (first | refine AtT.kpass ?_ | refine AtT.kpassU ?_ | ((refine AtT.kmove ?_)))
      all_goals (first | refine AtT.kpass ?_ | refine AtT.kpassU ?_ | ((refine AtT.kneI ?_)))
      all_goals (rw [neI])
      all_goals (refine AtT.kpick ?_)
      all_goals (refine AtT.kmove ?_)
      all_goals (first | refine AtT.kL 47 ?_ | refine AtT.pcase (d := 47) rfl (fun hg47 => ?_) (fun hg47 => ?_) | refine AtT.bcase (d := 47) rfl (fun hg47 => ?_) (fun hg47 => ?_))
      all_goals (first | refine AtT.kpass ?_ | refine AtT.kpassU ?_ | ((refine AtT.kmove ?_)))
      all_goals (first | refine AtT.kpass ?_ | refine AtT.kpassU ?_ | ((refine AtT.kmove ?_)))
      all_goals (first | refine AtT.kpass ?_ | refine AtT.kpassU ?_ | ((refine AtT.kneI ?_)))
      all_goals (refine AtT.kpick ?_)
      all_goals refine AtT.done ?_
      all_goals (refine At.nrm ?_)
      refine At.condF rfl rfl ?_
      refine At.nrm ?_
      refine At.ktext (.q 0 (.q 1 .done)) ?_
      refine AtT.kmove ?_
      refine AtT.kneI ?_
      refine AtT.done ?_
      refine At.nrm ?_
      refine At.condF rfl rfl ?_
      refine At.nrm ?_
      refine At.ktext (.q 0 (.q 1 (.n false 2 (.q 3 (.q 4 (.q 5 (.n false 6 (.n true 7 (.q 8 .done))))))))) ?_
      first | refine AtT.kloadOA tk25 ?_ | refine AtT.kloadA tk25 ?_ | refine AtT.kloadOP tk25 ?_
      first | refine AtT.kloadOA tk45 ?_ | refine AtT.kloadA tk45 ?_ | refine AtT.kloadOP tk45 ?_
      refine AtT.kcallP rfl rfl ok32 (check_q L (proofR L).1 _ _ hv') ?_
      rintro _ rfl; rw [hp1]
      refine AtT.kmove ?_
      refine AtT.kextract ?_
      refine AtT.kextract ?_
      refine AtT.kalloc z31 ?_
      intro b13
      refine AtT.kstoreA tk31 ?_
      refine AtT.kassign ?_
      refine AtT.done ?_
      refine At.nrm ?_
      refine At.ktext (.q 0 (.q 1 (.q 2 (.q 3 (.q 4 (.q 5 (.q 6 (.q 7 (.n false 8 (.q 9 (.q 10 .done))))))))))) ?_
      refine AtT.kmove ?_
      refine AtT.keqI ?_
      refine AtT.kmove ?_
      all_goals (first | refine AtT.kL 68 ?_ | refine AtT.pcase (d := 68) rfl (fun hg68 => ?_) (fun hg68 => ?_) | refine AtT.bcase (d := 68) rfl (fun hg68 => ?_) (fun hg68 => ?_))
      all_goals (first | refine AtT.kpass ?_ | refine AtT.kpassU ?_ | ((first | refine AtT.kloadOA tk31 ?_ | refine AtT.kloadA tk31 ?_ | refine AtT.kloadOP tk31 ?_)))
      all_goals (first | refine AtT.kpass ?_ | refine AtT.kpassU ?_ | ((first | refine AtT.kloadOA tk31 ?_ | refine AtT.kloadA tk31 ?_ | refine AtT.kloadOP tk31 ?_)))
      all_goals (first | refine AtT.kpass ?_ | refine AtT.kpassU ?_ | ((refine AtT.keqS (eqS31 _ _ _ _) ?_)))
      all_goals (rw [eqR])
      all_goals (refine AtT.kpick ?_)
      all_goals (refine AtT.kmove ?_)
      all_goals (first | refine AtT.kL 73 ?_ | refine AtT.pcase (d := 73) rfl (fun hg73 => ?_) (fun hg73 => ?_) | refine AtT.bcase (d := 73) rfl (fun hg73 => ?_) (fun hg73 => ?_))
      all_goals (first | refine AtT.kpassN ?_ | refine AtT.kpassNU ?_ | ((refine AtT.kcallP rfl rfl ok19 (works_f _) ?_) ; (rintro _ rfl)))
      all_goals (refine AtT.kpick ?_)
      all_goals (refine AtT.kassign ?_)
      all_goals refine AtT.done ?_
      all_goals (refine At.nrm ?_)
      exact At.ret1 rfl (.tmp rfl) rfl
    · have hbe : bestR L = (⟨0, 0⟩, logE L) := by unfold bestR; rw [if_pos he]
      have hpe : proofR L = (⟨0, 0, 0, 0⟩, logE L) := by unfold proofR; rw [if_pos he]
      refine At.ktext (.q 0 (.n false 1 (.q 2 (.q 3 (.q 4 (.n false 5 (.n true 6 (.q 7 .done)))))))) ?_
      first | refine AtT.kloadOA tk25 ?_ | refine AtT.kloadA tk25 ?_ | refine AtT.kloadOP tk25 ?_
      refine AtT.kcallP rfl rfl ok33 (proof_p33 L _ _ hv') ?_
      rintro _ rfl; rw [hpe]
      refine AtT.kmove ?_
      refine AtT.kextract ?_
      refine AtT.kextract ?_
      refine AtT.kalloc z45 ?_
      intro b9
      refine AtT.kstoreA tk45 ?_
      refine AtT.kassign ?_
      refine AtT.done ?_
      refine At.nrm ?_
      refine At.ktext (.q 0 (.n false 1 (.q 2 (.q 3 (.q 4 (.n false 5 (.n true 6 (.q 7 .done)))))))) ?_
      first | refine AtT.kloadOA tk25 ?_ | refine AtT.kloadA tk25 ?_ | refine AtT.kloadOP tk25 ?_
      refine AtT.kcallP rfl rfl ok27 (best_q L _ _ hv') ?_
      rintro _ rfl; rw [hbe]
      refine AtT.kmove ?_
      refine AtT.kextract ?_
      refine AtT.kextract ?_
      refine AtT.kalloc z31 ?_
      intro b11
      refine AtT.kstoreA tk31 ?_
      refine AtT.kassign ?_
      refine AtT.done ?_
      refine At.nrm ?_
      refine At.ktext (.q 0 (.q 1 (.q 2 (.q 3 (.q 4 (.q 5 (.q 6 (.q 7 (.q 8 (.q 9 (.q 10 (.q 11 (.q 12 .done))))))))))))) ?_
      first | refine AtT.kloadOA tk31 ?_ | refine AtT.kloadA tk31 ?_ | refine AtT.kloadOP tk31 ?_
      first | refine AtT.kloadOA tk31 ?_ | refine AtT.kloadA tk31 ?_ | refine AtT.kloadOP tk31 ?_
      refine AtT.kneS (eqS31 _ _ _ _) ?_
      rw [neR]
      refine AtT.kmove ?_
      all_goals (first | refine AtT.kL 42 ?_ | refine AtT.pcase (d := 42) rfl (fun hg42 => ?_) (fun hg42 => ?_) | refine AtT.bcase (d := 42) rfl (fun hg42 => ?_) (fun hg42 => ?_))
      all_goals (first | refine AtT.kpass ?_ | refine AtT.kpassU ?_ | ((refine AtT.kmove ?_)))
      all_goals (first | refine AtT.kpass ?_ | refine AtT.kpassU ?_ | ((refine AtT.kmove ?_)))
      all_goals (first | refine AtT.kpass ?_ | refine AtT.kpassU ?_ | ((refine AtT.kneI ?_)))
      all_goals (rw [neI])
      all_goals (refine AtT.kpick ?_)
      all_goals (refine AtT.kmove ?_)
      all_goals (first | refine AtT.kL 47 ?_ | refine AtT.pcase (d := 47) rfl (fun hg47 => ?_) (fun hg47 => ?_) | refine AtT.bcase (d := 47) rfl (fun hg47 => ?_) (fun hg47 => ?_))
      all_goals (first | refine AtT.kpass ?_ | refine AtT.kpassU ?_ | ((refine AtT.kmove ?_)))
      all_goals (first | refine AtT.kpass ?_ | refine AtT.kpassU ?_ | ((refine AtT.kmove ?_)))
      all_goals (first | refine AtT.kpass ?_ | refine AtT.kpassU ?_ | ((refine AtT.kneI ?_)))
      all_goals (rw [neI])
      all_goals (refine AtT.kpick ?_)
      all_goals refine AtT.done ?_
      all_goals (refine At.nrm ?_)
      refine At.condF rfl rfl ?_
      refine At.nrm ?_
      refine At.ktext (.q 0 (.q 1 .done)) ?_
      refine AtT.kmove ?_
      refine AtT.kneI ?_
      refine AtT.done ?_
      refine At.nrm ?_
      refine At.condT rfl (decide_eq_true he) ?_
      refine At.nrm ?_
      refine At.ktext (.q 0 (.q 1 (.q 2 (.q 3 (.n false 4 (.q 5 (.q 6 .done))))))) ?_
      first | refine AtT.kloadOA tk45 ?_ | refine AtT.kloadA tk45 ?_ | refine AtT.kloadOP tk45 ?_
      refine AtT.kbuild (bd45) ?_
      refine AtT.keqS (eqS45 _ _ _ _ _ _ _ _) ?_
      refine AtT.kmove ?_
      all_goals (first | refine AtT.kL 57 ?_ | refine AtT.pcase (d := 57) rfl (fun hg57 => ?_) (fun hg57 => ?_) | refine AtT.bcase (d := 57) rfl (fun hg57 => ?_) (fun hg57 => ?_))
      all_goals (first | refine AtT.kpassN ?_ | refine AtT.kpassNU ?_ | ((refine AtT.kcallP rfl rfl ok19 (works_f _) ?_) ; (rintro _ rfl)))
      all_goals (refine AtT.kpick ?_)
      all_goals (refine AtT.kassign ?_)
      all_goals refine AtT.done ?_
      all_goals (refine At.nrm ?_)
      exact At.ret1 rfl (.tmp rfl) rfl

theorem peelRoughs_f (R : Rough) (V : View) (v : Value) (hv : RoughV V v R) : Fnc Try.prog 7 [v] V fun r _ => r = .bool true := by
  have hv' := hv
  obtain ⟨a, c, a1, c1, a2, c2, rfl, h2, h3, h4⟩ := hv
  refine fn_of Try.func7 rfl Try.ntmps7 (Nat.le_of_ble_eq_true rfl) ?_
  intro w0 hw0
  refine At.nrm ?_
  refine At.ktext (.n false 0 (.q 1 .done)) ?_
  refine AtT.kbox ?_
  intro b1
  refine AtT.kassign ?_
  refine AtT.done ?_
  refine At.nrm ?_
  refine At.ktext (.q 0 (.n false 1 .done)) ?_
  first | refine AtT.kloadOA tk53 ?_ | refine AtT.kloadA tk53 ?_ | refine AtT.kloadOP tk53 ?_
  refine AtT.kcallP rfl rfl ok36 (wide_f R _ _ hv') ?_
  rintro _ rfl
  refine AtT.done ?_
  refine At.nrm ?_
  refine At.condP rfl (fun hb => ?_) (fun hb => ?_)
  · refine At.nrm ?_
    refine At.ktext (.n false 0 (.q 1 .done)) ?_
    refine AtT.kcallP rfl rfl ok19 (works_f _) ?_
    rintro _ rfl
    refine AtT.kassign ?_
    refine AtT.done ?_
    refine At.nrm ?_
    exact At.ret1 rfl (.tmp rfl) rfl
  · refine At.nrm ?_
    refine At.ktext (.q 0 (.n false 1 (.q 2 (.q 3 (.q 4 (.q 5 (.n false 6 (.n false 7 (.n true 8 (.n true 9 (.q 10 .done))))))))))) ?_
    first | refine AtT.kloadOA tk53 ?_ | refine AtT.kloadA tk53 ?_ | refine AtT.kloadOP tk53 ?_
    refine AtT.kcallP rfl rfl ok37 (span_p R _ _ hv') ?_
    rintro _ rfl
    refine AtT.kmove ?_
    refine AtT.kextract ?_
    refine AtT.kextract ?_
    refine AtT.kextract ?_
    refine AtT.kalloc z31 ?_
    intro b3
    refine AtT.kalloc z31 ?_
    intro b4
    refine AtT.kstoreA tk31 ?_
    refine AtT.kstoreA tk31 ?_
    refine AtT.kassign ?_
    refine AtT.done ?_
    refine At.nrm ?_
    refine At.ktext (.q 0 (.n false 1 (.q 2 (.q 3 (.q 4 (.q 5 (.n false 6 (.n false 7 (.n true 8 (.n true 9 (.q 10 .done))))))))))) ?_
    first | refine AtT.kloadOA tk53 ?_ | refine AtT.kloadA tk53 ?_ | refine AtT.kloadOP tk53 ?_
    refine AtT.kcallP rfl rfl ok38 (span_q R _ _ hv') ?_
    rintro _ rfl
    refine AtT.kmove ?_
    refine AtT.kextract ?_
    refine AtT.kextract ?_
    refine AtT.kextract ?_
    refine AtT.kalloc z31 ?_
    intro b6
    refine AtT.kalloc z31 ?_
    intro b7
    refine AtT.kstoreA tk31 ?_
    refine AtT.kstoreA tk31 ?_
    refine AtT.kassign ?_
    refine AtT.done ?_
    refine At.nrm ?_
    apply At.draw0 (.q 0 (.q 2 (.n false 1 (.n false 3 (.q 4 (.q 5 (.q 6 (.q 7 (.q 8 (.q 9 (.q 10 (.q 11 (.q 12 (.q 13 (.q 14 (.q 15 (.q 16 (.q 17 (.q 18 (.q 19 (.q 20 (.n false 21 (.q 22 (.q 23 .done)))))))))))))))))))))))) ffm (by kernel_rfl)
    · first | refine AtT.kloadOA tk53 ?_ | refine AtT.kloadA tk53 ?_ | refine AtT.kloadOP tk53 ?_
      first | refine AtT.kloadOA tk53 ?_ | refine AtT.kloadA tk53 ?_ | refine AtT.kloadOP tk53 ?_
      refine AtT.kcallP rfl rfl ok39 (checkRough_f R _ _ hv') ?_
      rintro _ rfl
      refine AtT.kcallP rfl rfl ok40 (rcheckRough_f R _ _ hv') ?_
      rintro _ rfl
      refine AtT.keqI ?_
      rw [eqI]
      refine AtT.kmove ?_
      all_goals (first | refine AtT.kL 29 ?_ | refine AtT.pcase (d := 29) rfl (fun hg29 => ?_) (fun hg29 => ?_) | refine AtT.bcase (d := 29) rfl (fun hg29 => ?_) (fun hg29 => ?_))
      all_goals (first | refine AtT.kpass ?_ | refine AtT.kpassU ?_ | ((first | refine AtT.kloadOA tk31 ?_ | refine AtT.kloadA tk31 ?_ | refine AtT.kloadOP tk31 ?_)))
      all_goals (first | refine AtT.kpass ?_ | refine AtT.kpassU ?_ | ((first | refine AtT.kloadOA tk31 ?_ | refine AtT.kloadA tk31 ?_ | refine AtT.kloadOP tk31 ?_)))
      all_goals (first | refine AtT.kpass ?_ | refine AtT.kpassU ?_ | ((refine AtT.keqS (eqS31 _ _ _ _) ?_)))
      all_goals (rw [eqR])
      all_goals (refine AtT.kpick ?_)
      all_goals (refine AtT.kmove ?_)
      all_goals (first | refine AtT.kL 34 ?_ | refine AtT.pcase (d := 34) rfl (fun hg34 => ?_) (fun hg34 => ?_) | refine AtT.bcase (d := 34) rfl (fun hg34 => ?_) (fun hg34 => ?_))
      all_goals (first | refine AtT.kpass ?_ | refine AtT.kpassU ?_ | ((first | refine AtT.kloadOA tk31 ?_ | refine AtT.kloadA tk31 ?_ | refine AtT.kloadOP tk31 ?_)))
      all_goals (first | refine AtT.kpass ?_ | refine AtT.kpassU ?_ | ((first | refine AtT.kloadOA tk31 ?_ | refine AtT.kloadA tk31 ?_ | refine AtT.kloadOP tk31 ?_)))
      all_goals (first | refine AtT.kpass ?_ | refine AtT.kpassU ?_ | ((refine AtT.keqS (eqS31 _ _ _ _) ?_)))
      all_goals (rw [eqR])
      all_goals (refine AtT.kpick ?_)
      all_goals (refine AtT.kmove ?_)
      all_goals (first | refine AtT.kL 39 ?_ | refine AtT.pcase (d := 39) rfl (fun hg39 => ?_) (fun hg39 => ?_) | refine AtT.bcase (d := 39) rfl (fun hg39 => ?_) (fun hg39 => ?_))
      all_goals (first | refine AtT.kpass ?_ | refine AtT.kpassU ?_ | ((refine AtT.kmove ?_)))
      all_goals (first | refine AtT.kpass ?_ | refine AtT.kpassU ?_ | ((refine AtT.kmove ?_)))
      all_goals (first | refine AtT.kpass ?_ | refine AtT.kpassU ?_ | ((refine AtT.keqI ?_)))
      all_goals (rw [eqI])
      all_goals (refine AtT.kpick ?_)
      all_goals (refine AtT.kmove ?_)
      all_goals (first | refine AtT.kL 44 ?_ | refine AtT.pcase (d := 44) rfl (fun hg44 => ?_) (fun hg44 => ?_) | refine AtT.bcase (d := 44) rfl (fun hg44 => ?_) (fun hg44 => ?_))
      all_goals (first | refine AtT.kpassN ?_ | refine AtT.kpassNU ?_ | ((refine AtT.kcallP rfl rfl ok19 (works_f _) ?_) ; (rintro _ rfl)))
      all_goals (refine AtT.kpick ?_)
      all_goals (refine AtT.kassign ?_)
      exact AtT.done (fun a w hk hm => ⟨hk, hm⟩)
    refine At.nrm ?_
    exact At.ret1 rfl (.tmp rfl) rfl
end Go.Proofs.Ytnionkopmncopaa
namespace Go.Pl

structure Bd where
  den : Int
  start : Int
  slope : Int
  deriving DecidableEq
abbrev bde (b : Bd) : List Value := [iv b.den, iv b.start, iv b.slope]
theorem bde_len (b : Bd) : (bde b).length = 3 := rfl

def leastO (L : Lg) (core x : Int) (i : Nat) : List Bd :=
  if 0 < plP L i - x then [⟨plP L i - x, (edP L i).lo + core, -1⟩] else if plP L i - x < 0 then [⟨-(plP L i - x), -((edP L i).hi - core), 1⟩] else []
def mostO (L : Lg) (core x : Int) (i : Nat) : List Bd :=
  if 0 < plP L i - x then [⟨plP L i - x, (edP L i).hi - core, -1⟩] else if plP L i - x < 0 then [⟨-(plP L i - x), -((edP L i).lo + core), 1⟩] else []
def leastK (L : Lg) (core x : Int) : Nat → List Bd
  | 0 => []
  | k + 1 => leastK L core x k ++ leastO L core x k
def mostK (L : Lg) (core x : Int) : Nat → List Bd
  | 0 => []
  | k + 1 => mostK L core x k ++ mostO L core x k
theorem leastK_len (L : Lg) (core x : Int) : ∀ k, (leastK L core x k).length ≤ k
  | 0 => Nat.le_refl _
  | k + 1 => by
    have := leastK_len L core x k
    have : (leastO L core x k).length ≤ 1 := by unfold leastO; split <;> (try split) <;> simp
    simp only [leastK, List.length_append]; omega
theorem mostK_len (L : Lg) (core x : Int) : ∀ k, (mostK L core x k).length ≤ k
  | 0 => Nat.le_refl _
  | k + 1 => by
    have := mostK_len L core x k
    have : (mostO L core x k).length ≤ 1 := by unfold mostO; split <;> (try split) <;> simp
    simp only [mostK, List.length_append]; omega
theorem leastK_of {L : Lg} {core x : Int} : ∀ {k : Nat} {b : Bd}, b ∈ leastK L core x k → ∃ i, i < k ∧ b ∈ leastO L core x i
  | 0, b, h => by cases h
  | k + 1, b, h => by
    rcases List.mem_append.1 h with h | h
    · obtain ⟨i, h1, h2⟩ := leastK_of h; exact ⟨i, by omega, h2⟩
    · exact ⟨k, by omega, h⟩
theorem mostK_of {L : Lg} {core x : Int} : ∀ {k : Nat} {b : Bd}, b ∈ mostK L core x k → ∃ i, i < k ∧ b ∈ mostO L core x i
  | 0, b, h => by cases h
  | k + 1, b, h => by
    rcases List.mem_append.1 h with h | h
    · obtain ⟨i, h1, h2⟩ := mostK_of h; exact ⟨i, by omega, h2⟩
    · exact ⟨k, by omega, h⟩
theorem leastK_has {L : Lg} {core x : Int} {i : Nat} {b : Bd} (h : b ∈ leastO L core x i) : ∀ {k : Nat}, i < k → b ∈ leastK L core x k
  | k + 1, hk => by
    by_cases c : i = k
    · subst c; exact List.mem_append_right _ h
    · exact List.mem_append_left _ (leastK_has h (by omega))
theorem mostK_has {L : Lg} {core x : Int} {i : Nat} {b : Bd} (h : b ∈ mostO L core x i) : ∀ {k : Nat}, i < k → b ∈ mostK L core x k
  | k + 1, hk => by
    by_cases c : i = k
    · subst c; exact List.mem_append_right _ h
    · exact List.mem_append_left _ (mostK_has h (by omega))

/-- A bound whose numbers are small. -/
def BdB (b : Bd) : Prop := 0 < b.den ∧ b.den ≤ 100 ∧ -3000 ≤ b.start ∧ b.start ≤ 3000 ∧ (b.slope = 1 ∨ b.slope = -1)
theorem leastO_bd {L : Lg} (hL : LgOk L) {core x : Int} (hc : -2000 ≤ core ∧ core ≤ 2000) (hx : 0 ≤ x ∧ x ≤ 100) {i : Nat} (hi : i < L.pl.length) {b : Bd} (h : b ∈ leastO L core x i) : BdB b := by
  have p := hL.plB (i := (i : Int)) (by omega) (by omega)
  have e := hL.edB (i := (i : Int)) (by omega) (by omega)
  unfold leastO at h
  split at h
  · simp at h; subst h; unfold BdB; dsimp only; omega
  · split at h
    · simp at h; subst h; unfold BdB; dsimp only; omega
    · cases h
theorem mostO_bd {L : Lg} (hL : LgOk L) {core x : Int} (hc : -2000 ≤ core ∧ core ≤ 2000) (hx : 0 ≤ x ∧ x ≤ 100) {i : Nat} (hi : i < L.pl.length) {b : Bd} (h : b ∈ mostO L core x i) : BdB b := by
  have p := hL.plB (i := (i : Int)) (by omega) (by omega)
  have e := hL.edB (i := (i : Int)) (by omega) (by omega)
  unfold mostO at h
  split at h
  · simp at h; subst h; unfold BdB; dsimp only; omega
  · split at h
    · simp at h; subst h; unfold BdB; dsimp only; omega
    · cases h
theorem leastK_bd {L : Lg} (hL : LgOk L) {core x : Int} (hc : -2000 ≤ core ∧ core ≤ 2000) (hx : 0 ≤ x ∧ x ≤ 100) {b : Bd} (h : b ∈ leastK L core x L.pl.length) : BdB b := by
  obtain ⟨i, h1, h2⟩ := leastK_of h; exact leastO_bd hL hc hx h1 h2
theorem mostK_bd {L : Lg} (hL : LgOk L) {core x : Int} (hc : -2000 ≤ core ∧ core ≤ 2000) (hx : 0 ≤ x ∧ x ≤ 100) {b : Bd} (h : b ∈ mostK L core x L.pl.length) : BdB b := by
  obtain ⟨i, h1, h2⟩ := mostK_of h; exact mostO_bd hL hc hx h1 h2

/-- h times a is at most b: of a least and a most step. -/
def prA (p q : Bd) : Int := p.slope * q.den - q.slope * p.den
def prB (p q : Bd) : Int := q.start * p.den - p.start * q.den
/-- What is known of the least and of the greatest height behind one more pair. -/
def stepH (p q : Bd) (s : Rt × Rt) : Rt × Rt :=
  (if prA p q < 0 ∧ (s.1.den = 0 ∨ lessB s.1 (rat (-prB p q) (-prA p q)) = true) then rat (-prB p q) (-prA p q) else s.1,
   if 0 < prA p q ∧ (s.2.den = 0 ∨ lessB (rat (prB p q) (prA p q)) s.2 = true) then rat (prB p q) (prA p q) else s.2)
def rowH (p : Bd) : List Bd → Rt × Rt → Rt × Rt
  | [], s => s
  | q :: l, s => rowH p l (stepH p q s)
def allR (qs : List Bd) : List Bd → Rt × Rt → Rt × Rt
  | [], s => s
  | p :: l, s => allR qs l (rowH p qs s)
/-- What places that lie there say. -/
def zeroK (L : Lg) (core x : Int) : Nat → Rt × Rt
  | 0 => (⟨0, 0⟩, ⟨0, 0⟩)
  | k + 1 => if plP L k = x then (rat ((edP L k).lo + core) 1, rat ((edP L k).hi - core) 1) else zeroK L core x k
def defH (L : Lg) (core x : Int) : Rt × Rt := allR (mostK L core x L.pl.length) (leastK L core x L.pl.length) (zeroK L core x L.pl.length)
theorem rowH_snoc (p : Bd) : ∀ (l : List Bd) (q : Bd) (s : Rt × Rt), rowH p (l ++ [q]) s = stepH p q (rowH p l s)
  | [], _, _ => rfl
  | r :: l, q, s => rowH_snoc p l q (stepH p r s)
theorem allR_snoc (qs : List Bd) : ∀ (l : List Bd) (p : Bd) (s : Rt × Rt), allR qs (l ++ [p]) s = rowH p qs (allR qs l s)
  | [], _, _ => rfl
  | r :: l, p, s => allR_snoc qs l p (rowH r qs s)

/-- A height whose numbers are small, or none. -/
def HgB (r : Rt) : Prop := -1000000 ≤ r.num ∧ r.num ≤ 1000000 ∧ 0 ≤ r.den ∧ r.den ≤ 200
theorem pr_bd {p q : Bd} (hp : BdB p) (hq : BdB q) : -200 ≤ prA p q ∧ prA p q ≤ 200 ∧ -600000 ≤ prB p q ∧ prB p q ≤ 600000 ∧ (-300000 ≤ q.start * p.den ∧ q.start * p.den ≤ 300000) ∧ (-300000 ≤ p.start * q.den ∧ p.start * q.den ≤ 300000) := by
  obtain ⟨p1, p2, p3, p4, p5⟩ := hp
  obtain ⟨q1, q2, q3, q4, q5⟩ := hq
  have m1 := mul_bd (a := q.start) (b := p.den) (A := 3000) (B := 100) (by decide) (by decide) (by omega) (by omega) (by omega) (by omega)
  have m2 := mul_bd (a := p.start) (b := q.den) (A := 3000) (B := 100) (by decide) (by decide) (by omega) (by omega) (by omega) (by omega)
  unfold prA prB
  rcases p5 with e | e <;> rcases q5 with e' | e' <;> rw [e, e'] <;> omega
theorem rat_hg {n d : Int} (h1 : -1000000 ≤ n) (h2 : n ≤ 1000000) (h3 : 0 < d) (h4 : d ≤ 200) : HgB (rat n d) ∧ 0 < (rat n d).den := by
  have := rat_bd n d h3
  unfold HgB; omega
theorem stepH_bd {p q : Bd} (hp : BdB p) (hq : BdB q) {s : Rt × Rt} (h1 : HgB s.1) (h2 : HgB s.2) : HgB (stepH p q s).1 ∧ HgB (stepH p q s).2 := by
  have b := pr_bd hp hq
  unfold stepH
  constructor
  · dsimp only; split
    · rename_i c; exact (rat_hg (by omega) (by omega) (by omega) (by omega)).1
    · exact h1
  · dsimp only; split
    · rename_i c; exact (rat_hg (by omega) (by omega) (by omega) (by omega)).1
    · exact h2
theorem rowH_bd {p : Bd} (hp : BdB p) : ∀ {l : List Bd}, (∀ q ∈ l, BdB q) → ∀ {s : Rt × Rt}, HgB s.1 → HgB s.2 → HgB (rowH p l s).1 ∧ HgB (rowH p l s).2
  | [], _, _, h1, h2 => ⟨h1, h2⟩
  | q :: l, hl, s, h1, h2 => by
    have := stepH_bd hp (hl q (by simp)) h1 h2
    exact rowH_bd hp (fun r hr => hl r (List.mem_cons_of_mem _ hr)) this.1 this.2
theorem allR_bd {qs : List Bd} (hq : ∀ q ∈ qs, BdB q) : ∀ {l : List Bd}, (∀ q ∈ l, BdB q) → ∀ {s : Rt × Rt}, HgB s.1 → HgB s.2 → HgB (allR qs l s).1 ∧ HgB (allR qs l s).2
  | [], _, _, h1, h2 => ⟨h1, h2⟩
  | p :: l, hl, s, h1, h2 => by
    have := rowH_bd (hl p (by simp)) hq h1 h2
    exact allR_bd hq (fun r hr => hl r (List.mem_cons_of_mem _ hr)) this.1 this.2
theorem hg_zero : HgB ⟨0, 0⟩ := ⟨by decide, by decide, by decide, by decide⟩
theorem zeroK_bd {L : Lg} (hL : LgOk L) {core x : Int} (hc : -2000 ≤ core ∧ core ≤ 2000) : ∀ k, k ≤ L.pl.length → HgB (zeroK L core x k).1 ∧ HgB (zeroK L core x k).2
  | 0, _ => ⟨hg_zero, hg_zero⟩
  | k + 1, hk => by
    have e := hL.edB (i := (k : Int)) (by omega) (by omega)
    unfold zeroK
    split
    · exact ⟨(rat_hg (by omega) (by omega) (by omega) (by omega)).1, (rat_hg (by omega) (by omega) (by omega) (by omega)).1⟩
    · exact zeroK_bd hL hc k (by omega)
theorem hg_fit {a b : Rt} (ha : HgB a) (hb : HgB b) : Go.Lw.Fit (a.num * b.den) := by
  unfold HgB at *
  have m := mul_bd (a := a.num) (b := b.den) (A := 1000000) (B := 200) (by decide) (by decide) (by omega) (by omega) (by omega) (by omega)
  exact ⟨by omega, by omega⟩
end Go.Pl
set_option linter.unusedVariables false
namespace Go.Proofs.Ytnionkopmncopaa
open Go.Lw Go.Pl Go.RowKit

theorem bounds_f (L : Lg) (core x : Int) (V : View) (v : Value) (hv : LogV V v L) (hL : LgOk L) (hcb : -2000 ≤ core ∧ core ≤ 2000) (hxb : 0 ≤ x ∧ x ≤ 100) :
    Fnc Try.prog 72 [v, iv core, iv x] V fun r V' => ∃ v1 v2, r = .tuple #[v1, v2] ∧ Sl V' bde 3 v1 (leastK L core x L.pl.length) ∧ Sl V' bde 3 v2 (mostK L core x L.pl.length) := by
  obtain ⟨a, c, a', c', rfl, h2, h3⟩ := hv
  have hn8 := hL.n8
  have el := hL.el
  refine fn_of Try.func72 rfl Try.ntmps72 (Nat.le_of_ble_eq_true rfl) ?_
  intro w0 hw0
  refine At.nrm ?_
  refine At.ktext (.n false 0 (.q 1 (.q 2 .done))) ?_
  refine AtT.kbox ?_
  intro b3
  refine AtT.kassign ?_
  refine AtT.kassign ?_
  refine AtT.done ?_
  refine At.nrm ?_
  refine At.ktext (.q 0 (.q 1 .done)) ?_
  refine AtT.kassign ?_
  refine AtT.kassign ?_
  refine AtT.done ?_
  refine At.nrm ?_
  refine At.ktext (.q 0 .done) ?_
  refine AtT.kassign ?_
  refine AtT.done ?_
  refine At.nrm ?_
  refine At.newRow 104 3 ?_
  refine At.newRow 104 3 ?_
  refine At.lp (ι := Nat × (Option Addr × Nat) × (Option Addr × Nat)) (KS := fun g => [(1, iv core), (2, iv x), (3, .pointer (some ⟨b3, 0, none⟩)), (8, .slice g.2.1.1 (leastK L core x g.1).length g.2.1.2), (9, .slice g.2.2.1 (mostK L core x g.1).length g.2.2.2), (10, iv g.1)])
    (OS := fun g => [.blk b3 (LC [.slice a L.pl.length c, .slice a' L.ed.length c'] 25), .row (.slice g.2.1.1 (leastK L core x g.1).length g.2.1.2) 104 3 (leastK L core x g.1).length (flat bde (leastK L core x g.1)), .row (.slice g.2.2.1 (mostK L core x g.1).length g.2.2.2) 104 3 (mostK L core x g.1).length (flat bde (mostK L core x g.1))])
    (VS := fun g V' => Le V V' ∧ g.1 ≤ L.pl.length) (μ := fun g => L.pl.length - g.1) (0, (none, 0), (none, 0)) ?_ ?_ ?_ ?_
  · exact ⟨rfl, rfl, rfl, rfl, rfl, rfl, trivial⟩
  · exact Pt.auto
  · exact ⟨Le.refl _, Nat.zero_le _⟩
  · rintro ⟨k, ⟨ao, co⟩, ⟨ao', co'⟩⟩ V' ks' O' ⟨hVV, hkl⟩ hk hO hl2
    dsimp only at hkl hk hO
    subst hk hO
    have h2' := h2.le hVV
    have h3' := h3.le hVV
    have hll := leastK_len L core x k
    have hml := mostK_len L core x k
    refine At.nrm ?_
    refine At.ktext (.q 0 (.q 1 (.q 2 (.q 3 (.q 4 .done))))) ?_
    refine AtT.kmove ?_
    first | refine AtT.kfieldO fo25_0 ?_ | with_reducible refine AtT.kfield2 fo25_0 ?_ | refine AtT.kfield fo25_0 ?_
    first | refine AtT.kloadO tk22 ?_ | refine AtT.kload tk22 ?_
    first | refine AtT.klenS Try.underlying22 ?_ | refine AtT.klenR Try.underlying22 ?_
    refine AtT.klss ?_
    refine AtT.done ?_
    refine At.nrm ?_
    refine At.condP rfl (fun hb => ?_) (fun hb => ?_)
    · have hkn : k < L.pl.length := by omega
      have pb := hL.plB (i := (k : Int)) (by omega) (by omega)
      have eb := hL.edB (i := (k : Int)) (by omega) (by omega)
      refine At.nrm ?_
      refine At.draw (.q 0 (.q 1 (.q 2 (.q 3 (.q 4 (.q 5 (.q 6 (.q 7 (.q 8 (.q 9 (.q 10 (.q 11 (.q 12 (.q 13 (.q 14 (.q 15 (.q 16 (.q 17 (.q 18 (.q 19 (.q 20 (.q 21 (.q 22 (.q 23 (.q 24 (.q 25 .done)))))))))))))))))))))))))) ffm (by kernel_rfl) ?_
      first | refine AtT.kfieldO fo25_0 ?_ | with_reducible refine AtT.kfield2 fo25_0 ?_ | refine AtT.kfield fo25_0 ?_
      first | refine AtT.kloadO tk22 ?_ | refine AtT.kload tk22 ?_
      refine AtT.kmove ?_
      refine AtT.kidx Try.underlying22 tk2 ?_
      intro p24 e24 he24 hc24
      obtain rfl : e24 = plP L k := plP_some he24
      first | refine AtT.kloadO tk2 ?_ | refine AtT.kload tk2 ?_
      refine AtT.kmove ?_
      first | refine AtT.ksubt ?_ | refine AtT.ksubW ?_
      first | refine AtT.kfieldO fo25_1 ?_ | with_reducible refine AtT.kfield2 fo25_1 ?_ | refine AtT.kfield fo25_1 ?_
      first | refine AtT.kloadO tk23 ?_ | refine AtT.kload tk23 ?_
      refine AtT.kmove ?_
      refine AtT.kidx Try.underlying23 tk69 ?_
      intro p31 e31 he31 hc31
      obtain rfl : e31 = edP L k := edP_some he31
      first | refine AtT.kfieldO fo69_0 ?_ | with_reducible refine AtT.kfield2 fo69_0 ?_ | refine AtT.kfield fo69_0 ?_
      first | refine AtT.kloadO tk2 ?_ | refine AtT.kload tk2 ?_
      refine AtT.kmove ?_
      first | refine AtT.kadd ?_ | refine AtT.kaddW ?_
      first | refine AtT.kfieldO fo25_1 ?_ | with_reducible refine AtT.kfield2 fo25_1 ?_ | refine AtT.kfield fo25_1 ?_
      first | refine AtT.kloadO tk23 ?_ | refine AtT.kload tk23 ?_
      refine AtT.kmove ?_
      refine AtT.kidx Try.underlying23 tk69 ?_
      intro p39 e39 he39 hc39
      obtain rfl : e39 = edP L k := edP_some he39
      first | refine AtT.kfieldO fo69_1 ?_ | with_reducible refine AtT.kfield2 fo69_1 ?_ | refine AtT.kfield fo69_1 ?_
      first | refine AtT.kloadO tk2 ?_ | refine AtT.kload tk2 ?_
      refine AtT.kmove ?_
      first | refine AtT.ksubt ?_ | refine AtT.ksubW ?_
      refine AtT.kassign ?_
      refine AtT.kassign ?_
      refine AtT.kassign ?_
      refine AtT.done ?_
      refine At.nrm ?_
      refine At.ktext (.q 0 (.q 1 .done)) ?_
      refine AtT.kmove ?_
      refine AtT.kgtr ?_
      refine AtT.done ?_
      refine At.nrm ?_
      refine At.condP rfl (fun hd => ?_) (fun hd => ?_)
      · have e1 : leastK L core x (k + 1) = leastK L core x k ++ [⟨plP L k - x, (edP L k).lo + core, -1⟩] := by simp only [leastK, leastO, if_pos hd]
        have e2 : mostK L core x (k + 1) = mostK L core x k ++ [⟨plP L k - x, (edP L k).hi - core, -1⟩] := by simp only [mostK, mostO, if_pos hd]
        refine At.nrm ?_
        refine At.ktext (.q 0 (.q 1 (.q 2 (.q 3 (.n false 4 (.n true 5 (.q 6 (.q 7 (.q 8 (.q 9 (.n false 10 (.n true 11 (.q 12 (.q 13 .done)))))))))))))) ?_
        refine AtT.kmove ?_
        refine AtT.kmove ?_
        refine AtT.kmove ?_
        refine AtT.kbuild (bd104_0_1_2 _ _ _) ?_
        refine AtT.kbsliceG (bs100_1_0 _ _ _) ?_
        intro q50 V50 hV50 hq50
        have g50 : Le V V50 := by first | exact hV50 | exact Le.trans (by assumption) hV50
        first | refine AtT.kappend Try.underlying100 rw104 ?_
        intro a51 c51
        refine AtT.kmove ?_
        refine AtT.kmove ?_
        refine AtT.kmove ?_
        refine AtT.kbuild (bd104_0_1_2 _ _ _) ?_
        refine AtT.kbsliceG (bs100_1_0 _ _ _) ?_
        intro q56 V56 hV56 hq56
        have g56 : Le V V56 := by first | exact hV56 | exact Le.trans (by assumption) hV56
        first | refine AtT.kappend Try.underlying100 rw104 ?_
        intro a57 c57
        refine AtT.kassign ?_
        refine AtT.kassign ?_
        refine AtT.done ?_
        refine At.nrm ?_
        refine At.ktext (.q 0 (.q 1 .done)) ?_
        refine AtT.kmove ?_
        refine AtT.klss ?_
        refine AtT.done ?_
        refine At.nrm ?_
        refine At.condF rfl (decide_eq_false (by omega)) ?_
        refine At.nrm ?_
        refine At.ktext (.q 0 (.q 1 (.q 2 .done))) ?_
        refine AtT.kmove ?_
        first | refine AtT.kadd ?_ | refine AtT.kaddW ?_
        refine AtT.kassign ?_
        refine AtT.done ?_
        refine At.nrm ?_
        refine At.round (k + 1, (a51, c51), (a57, c57)) ?_ ?_ ?_ ?_
        · show L.pl.length - (k + 1) < L.pl.length - k; omega
        · exact ⟨(hVV.trans hV50).trans hV56, by dsimp only; omega⟩
        · exact ⟨rfl, rfl, rfl, slv (by dsimp only; rw [e1, List.length_append]; rfl), slv (by dsimp only; rw [e2, List.length_append]; rfl), ivs (by dsimp only; omega), trivial⟩
        dsimp only
        rw [e1, e2, flat_snoc, flat_snoc, List.length_append, List.length_append]
        · exact Pt.auto
      · by_cases hd2 : plP L k - x < 0
        · have e1 : leastK L core x (k + 1) = leastK L core x k ++ [⟨-(plP L k - x), -((edP L k).hi - core), 1⟩] := by simp only [leastK, leastO, if_neg hd, if_pos hd2]
          have e2 : mostK L core x (k + 1) = mostK L core x k ++ [⟨-(plP L k - x), -((edP L k).lo + core), 1⟩] := by simp only [mostK, mostO, if_neg hd, if_pos hd2]
          refine At.nrm ?_
          refine At.ktext (.q 0 (.q 1 .done)) ?_
          refine AtT.kmove ?_
          refine AtT.klss ?_
          refine AtT.done ?_
          refine At.nrm ?_
          refine At.condT rfl (decide_eq_true hd2) ?_
          refine At.nrm ?_
          refine At.ktext (.q 0 (.q 1 (.q 2 (.q 3 (.q 4 (.q 5 (.n false 6 (.n true 7 (.q 8 (.q 9 (.q 10 (.q 11 (.q 12 (.q 13 (.n false 14 (.n true 15 (.q 16 (.q 17 .done)))))))))))))))))) ?_
          refine AtT.kmove ?_
          refine AtT.kmove ?_
          first | refine AtT.kneg ?_ | refine AtT.knegW ?_
          refine AtT.kmove ?_
          first | refine AtT.kneg ?_ | refine AtT.knegW ?_
          refine AtT.kbuild (bd104_0_1_2 _ _ _) ?_
          refine AtT.kbsliceG (bs100_1_0 _ _ _) ?_
          intro q66 V66 hV66 hq66
          have g66 : Le V V66 := by first | exact hV66 | exact Le.trans (by assumption) hV66
          first | refine AtT.kappend Try.underlying100 rw104 ?_
          intro a67 c67
          refine AtT.kmove ?_
          refine AtT.kmove ?_
          first | refine AtT.kneg ?_ | refine AtT.knegW ?_
          refine AtT.kmove ?_
          first | refine AtT.kneg ?_ | refine AtT.knegW ?_
          refine AtT.kbuild (bd104_0_1_2 _ _ _) ?_
          refine AtT.kbsliceG (bs100_1_0 _ _ _) ?_
          intro q74 V74 hV74 hq74
          have g74 : Le V V74 := by first | exact hV74 | exact Le.trans (by assumption) hV74
          first | refine AtT.kappend Try.underlying100 rw104 ?_
          intro a75 c75
          refine AtT.kassign ?_
          refine AtT.kassign ?_
          refine AtT.done ?_
          refine At.nrm ?_
          refine At.ktext (.q 0 (.q 1 (.q 2 .done))) ?_
          refine AtT.kmove ?_
          first | refine AtT.kadd ?_ | refine AtT.kaddW ?_
          refine AtT.kassign ?_
          refine AtT.done ?_
          refine At.nrm ?_
          refine At.round (k + 1, (a67, c67), (a75, c75)) ?_ ?_ ?_ ?_
          · show L.pl.length - (k + 1) < L.pl.length - k; omega
          · exact ⟨(hVV.trans hV66).trans hV74, by dsimp only; omega⟩
          · exact ⟨rfl, rfl, rfl, slv (by dsimp only; rw [e1, List.length_append]; rfl), slv (by dsimp only; rw [e2, List.length_append]; rfl), ivs (by dsimp only; omega), trivial⟩
          dsimp only
          rw [e1, e2, flat_snoc, flat_snoc, List.length_append, List.length_append]
          · exact Pt.auto
        · have e1 : leastK L core x (k + 1) = leastK L core x k := by simp only [leastK, leastO, if_neg hd, if_neg hd2, List.append_nil]
          have e2 : mostK L core x (k + 1) = mostK L core x k := by simp only [mostK, mostO, if_neg hd, if_neg hd2, List.append_nil]
          refine At.nrm ?_
          refine At.ktext (.q 0 (.q 1 .done)) ?_
          refine AtT.kmove ?_
          refine AtT.klss ?_
          refine AtT.done ?_
          refine At.nrm ?_
          refine At.condF rfl (decide_eq_false hd2) ?_
          refine At.nrm ?_
          refine At.ktext (.q 0 (.q 1 (.q 2 .done))) ?_
          refine AtT.kmove ?_
          first | refine AtT.kadd ?_ | refine AtT.kaddW ?_
          refine AtT.kassign ?_
          refine AtT.done ?_
          refine At.nrm ?_
          refine At.round (k + 1, (ao, co), (ao', co')) ?_ ?_ ?_ ?_
          · show L.pl.length - (k + 1) < L.pl.length - k; omega
          · exact ⟨hVV, by dsimp only; omega⟩
          · exact ⟨rfl, rfl, rfl, slv (by dsimp only; rw [e1]), slv (by dsimp only; rw [e2]), ivs (by dsimp only; omega), trivial⟩
          dsimp only
          rw [e1, e2]
          · exact Pt.auto
    · obtain rfl : k = L.pl.length := by omega
      refine At.nrm ?_
      refine At.ktext (.q 0 (.q 1 (.q 2 (.q 3 .done)))) ?_
      refine AtT.kmove ?_
      refine AtT.kmove ?_
      refine AtT.kassign ?_
      refine AtT.kassign ?_
      refine AtT.done ?_
      refine At.nrm ?_
      refine At.giveSl bde_len rfl rfl (l := leastK L core x L.pl.length) Pick.auto (fun V4 hV4 hs4 => ?_)
      refine At.giveSl bde_len rfl rfl (l := mostK L core x L.pl.length) Pick.auto (fun V5 hV5 hs5 => ?_)
      exact At.ret2 rfl (.tmp rfl) (.tmp rfl) ⟨_, _, rfl, hs4.le hV5, hs5⟩
end Go.Proofs.Ytnionkopmncopaa
set_option linter.unusedVariables false
namespace Go.Proofs.Ytnionkopmncopaa
open Go.Lw Go.Pl Go.RowKit

def defR (L : Lg) (core x : Int) : Rt × Rt × Int :=
  if logE L ≠ 0 then (⟨0, 0⟩, ⟨0, 0⟩, logE L) else if ¬ (-2000 ≤ core ∧ core ≤ 2000 ∧ 0 ≤ x ∧ x ≤ 100) then (⟨0, 0⟩, ⟨0, 0⟩, 3)
  else if lessB (bestV L) (rat core 1) = true then (⟨0, 0⟩, ⟨0, 0⟩, 17) else ((defH L core x).1, (defH L core x).2, 0)

theorem aggv {a b : Int} {c d : Int} (h1 : a = c) (h2 : b = d) : [iv a, iv b] = [iv c, iv d] := by rw [h1, h2]
theorem stepA {p q : Bd} {s : Rt × Rt} (h : 0 < prA p q) (hc : s.2.den = 0 ∨ lessB (rat (prB p q) (prA p q)) s.2 = true) : stepH p q s = (s.1, rat (prB p q) (prA p q)) := by
  unfold stepH; rw [if_neg (by omega), if_pos ⟨h, hc⟩]
theorem stepB {p q : Bd} {s : Rt × Rt} (h : 0 < prA p q) (h1 : s.2.den ≠ 0) (h2 : lessB (rat (prB p q) (prA p q)) s.2 = false) : stepH p q s = s := by
  unfold stepH; rw [if_neg (by omega), if_neg (by rintro ⟨_, h | h⟩; exact h1 h; rw [h2] at h; cases h)]
theorem stepC {p q : Bd} {s : Rt × Rt} (h : prA p q < 0) (hc : s.1.den = 0 ∨ lessB s.1 (rat (-prB p q) (-prA p q)) = true) : stepH p q s = (rat (-prB p q) (-prA p q), s.2) := by
  unfold stepH; rw [if_pos ⟨h, hc⟩, if_neg (by omega)]
theorem stepD {p q : Bd} {s : Rt × Rt} (h : prA p q < 0) (h1 : s.1.den ≠ 0) (h2 : lessB s.1 (rat (-prB p q) (-prA p q)) = false) : stepH p q s = s := by
  unfold stepH; rw [if_neg (by rintro ⟨_, h | h⟩; exact h1 h; rw [h2] at h; cases h), if_neg (by omega)]
theorem stepE {p q : Bd} {s : Rt × Rt} (h1 : ¬ 0 < prA p q) (h2 : ¬ prA p q < 0) : stepH p q s = s := by
  unfold stepH; rw [if_neg (by omega), if_neg (by omega)]

theorem heights_q (L : Lg) (core x : Int) (V : View) (v : Value) (hv : LogV V v L) : Fnc Try.prog 35 [v, iv core, iv x] V fun r _ => r = .tuple #[rtv (defR L core x).1, rtv (defR L core x).2.1, iv (defR L core x).2.2] := by
  have hv' := hv
  obtain ⟨a, c, a', c', rfl, h2, h3⟩ := hv
  refine fn_of Try.func35 rfl Try.ntmps35 (Nat.le_of_ble_eq_true rfl) ?_
  intro w0 hw0
  refine At.nrm ?_
  refine At.ktext (.n false 0 (.n false 1 (.n false 2 (.q 3 .done)))) ?_
  refine AtT.kbox ?_
  intro b3
  refine AtT.kalloc z31 ?_
  intro b6
  refine AtT.kalloc z31 ?_
  intro b7
  refine AtT.kassign ?_
  refine AtT.done ?_
  refine At.nrm ?_
  refine At.ktext (.q 0 (.n false 1 (.q 2 .done))) ?_
  first | refine AtT.kloadOA tk25 ?_ | refine AtT.kloadA tk25 ?_ | refine AtT.kloadOP tk25 ?_
  refine AtT.kcallP rfl rfl ok23 (rcheckLog_f L _ _ hv') ?_
  rintro _ rfl
  refine AtT.kneI ?_
  refine AtT.done ?_
  refine At.nrm ?_
  refine At.condP rfl (fun he => ?_) (fun he => ?_)
  · refine At.nrm ?_
    refine At.ktext (.q 0 (.q 1 (.q 2 (.n false 3 (.n true 4 (.n true 5 (.q 6 .done))))))) ?_
    refine AtT.kbuild (bd31) ?_
    refine AtT.kbuild (bd31) ?_
    first | refine AtT.kloadOA tk25 ?_ | refine AtT.kloadA tk25 ?_ | refine AtT.kloadOP tk25 ?_
    refine AtT.kcallP rfl rfl ok23 (rcheckLog_f L _ _ hv') ?_
    rintro _ rfl
    refine AtT.kstoreA tk31 ?_
    refine AtT.kstoreA tk31 ?_
    refine AtT.kassign ?_
    refine AtT.done ?_
    refine At.nrm ?_
    refine At.ret3 rfl (.agg rfl tk31 Pick.auto rfl) (.agg rfl tk31 Pick.auto rfl) (.tmp rfl) ?_
    rw [defR, if_pos he]
  have he0 : logE L = 0 := by omega
  have hL := logE_ok he0
  have hn8 := hL.n8
  have el := hL.el
  refine At.nrm ?_
  refine At.cutG (ι := Unit) (fun _ => [(1, iv core), (2, iv x), (3, .pointer (some ⟨b3, 0, none⟩)), (6, .pointer (some ⟨b6, 0, none⟩)), (7, .pointer (some ⟨b7, 0, none⟩)), (38, .bool (decide ¬ (-2000 ≤ core ∧ core ≤ 2000 ∧ 0 ≤ x ∧ x ≤ 100)))]) (fun _ => [.blk b3 (LC [.slice a L.pl.length c, .slice a' L.ed.length c'] 25), .blk b6 (LC [iv 0, iv 0] 31), .blk b7 (LC [iv 0, iv 0] 31)]) (fun _ V' => Le V V') ?_ ?_
  · refine At.ktext (.q 0 (.q 1 (.q 2 (.q 3 (.q 4 (.q 5 (.q 6 (.q 7 (.q 8 (.q 9 (.q 10 (.q 11 (.q 12 (.q 13 .done)))))))))))))) ?_
    refine AtT.kmove ?_
    refine AtT.klss ?_
    refine AtT.kmove ?_
    all_goals (first | refine AtT.kL 27 ?_ | refine AtT.pcase (d := 27) rfl (fun hg27 => ?_) (fun hg27 => ?_) | refine AtT.bcase (d := 27) rfl (fun hg27 => ?_) (fun hg27 => ?_))
    all_goals (first | refine AtT.kpass ?_ | refine AtT.kpassU ?_ | ((refine AtT.kmove ?_)))
    all_goals (first | refine AtT.kpass ?_ | refine AtT.kpassU ?_ | ((refine AtT.kgtr ?_)))
    all_goals (refine AtT.kpick ?_)
    all_goals (refine AtT.kmove ?_)
    all_goals (first | refine AtT.kL 31 ?_ | refine AtT.pcase (d := 31) rfl (fun hg31 => ?_) (fun hg31 => ?_) | refine AtT.bcase (d := 31) rfl (fun hg31 => ?_) (fun hg31 => ?_))
    all_goals (first | refine AtT.kpass ?_ | refine AtT.kpassU ?_ | ((refine AtT.kmove ?_)))
    all_goals (first | refine AtT.kpass ?_ | refine AtT.kpassU ?_ | ((refine AtT.klss ?_)))
    all_goals (refine AtT.kpick ?_)
    all_goals (refine AtT.kmove ?_)
    all_goals (first | refine AtT.kL 35 ?_ | refine AtT.pcase (d := 35) rfl (fun hg35 => ?_) (fun hg35 => ?_) | refine AtT.bcase (d := 35) rfl (fun hg35 => ?_) (fun hg35 => ?_))
    all_goals (first | refine AtT.kpass ?_ | refine AtT.kpassU ?_ | ((refine AtT.kmove ?_)))
    all_goals (first | refine AtT.kpass ?_ | refine AtT.kpassU ?_ | ((refine AtT.kgtr ?_)))
    all_goals (refine AtT.kpick ?_)
    all_goals refine AtT.done ?_
    all_goals (refine At.nrm ?_)
    all_goals (refine At.meetG () (Le.refl _) ⟨rfl, rfl, rfl, rfl, rfl, bsome ?_, trivial⟩ Pt.auto)
    all_goals (rw [Bool.eq_iff_iff]; simp [*]; try omega)
  rintro _ V2 ks' O' hV2 hk hO hl
  subst hk hO
  have hv2 := hv'.le hV2
  have h2' := h2.le hV2
  have h3' := h3.le hV2
  refine At.condP rfl (fun hb => ?_) (fun hb => ?_)
  · refine At.nrm ?_
    refine At.ktext (.q 0 (.q 1 (.n true 2 (.n true 3 (.q 4 .done))))) ?_
    refine AtT.kbuild (bd31) ?_
    refine AtT.kbuild (bd31) ?_
    refine AtT.kstoreA tk31 ?_
    refine AtT.kstoreA tk31 ?_
    refine AtT.kassign ?_
    refine AtT.done ?_
    refine At.nrm ?_
    refine At.ret3 rfl (.agg rfl tk31 Pick.auto rfl) (.agg rfl tk31 Pick.auto rfl) (.tmp rfl) ?_
    rw [defR, if_neg (by simp [he0]), if_pos hb]
  have hb0 := hb
  have hr : -2000 ≤ core ∧ core ≤ 2000 ∧ 0 ≤ x ∧ x ≤ 100 := Decidable.not_not.1 hb
  have hcb : -2000 ≤ core ∧ core ≤ 2000 := ⟨hr.1, hr.2.1⟩
  have hxb : 0 ≤ x ∧ x ≤ 100 := hr.2.2
  have bb := best_bd hL
  have rb := rat_bd core 1 (by decide)
  have m1 := mul_bd (a := (bestV L).num) (b := (rat core 1).den) (A := 400000) (B := 1) (by decide) (by decide) (by omega) (by omega) (by omega) (by omega)
  have m2 := mul_bd (a := (rat core 1).num) (b := (bestV L).den) (A := 2000) (B := 400) (by decide) (by decide) (by omega) (by omega) (by omega) (by omega)
  refine At.nrm ?_
  refine At.ktext (.q 0 (.n false 1 (.q 2 (.n false 3 (.n false 4 .done))))) ?_
  first | refine AtT.kloadOA tk25 ?_ | refine AtT.kloadA tk25 ?_ | refine AtT.kloadOP tk25 ?_
  refine AtT.kcallP rfl rfl ok65 (bestOf_f L _ _ hv2 hL) ?_
  rintro _ rfl
  refine AtT.kmove ?_
  refine AtT.kcallP rfl rfl ok51 (by_r core 1 _ (by omega) (by omega) (by omega) (by omega)) ?_
  rintro _ rfl
  refine AtT.kcallP rfl rfl ok45 (rless_f (bestV L) (rat core 1) _ (Fit.of (by omega) (by omega)) (Fit.of (by omega) (by omega))) ?_
  rintro _ rfl
  refine AtT.done ?_
  refine At.nrm ?_
  refine At.cond rfl (fun hlt => ?_) (fun hlt => ?_)
  · refine At.nrm ?_
    refine At.ktext (.q 0 (.q 1 (.n true 2 (.n true 3 (.q 4 .done))))) ?_
    refine AtT.kbuild (bd31) ?_
    refine AtT.kbuild (bd31) ?_
    refine AtT.kstoreA tk31 ?_
    refine AtT.kstoreA tk31 ?_
    refine AtT.kassign ?_
    refine AtT.done ?_
    refine At.nrm ?_
    refine At.ret3 rfl (.agg rfl tk31 Pick.auto rfl) (.agg rfl tk31 Pick.auto rfl) (.tmp rfl) ?_
    rw [defR, if_neg (by simp [he0]), if_neg hb, if_pos hlt]
  refine At.nrm ?_
  refine At.ktext (.q 0 (.q 1 (.n false 2 (.n false 3 (.n true 4 (.n true 5 .done)))))) ?_
  refine AtT.kbuild (bd31) ?_
  refine AtT.kbuild (bd31) ?_
  refine AtT.kalloc z31 ?_
  intro b9
  refine AtT.kalloc z31 ?_
  intro b10
  refine AtT.kstoreA tk31 ?_
  refine AtT.kstoreA tk31 ?_
  refine AtT.done ?_
  refine At.nrm ?_
  refine At.ktext (.q 0 (.q 1 (.q 2 (.n false 3 (.q 4 (.q 5 (.q 6 (.q 7 (.q 8 .done))))))))) ?_
  first | refine AtT.kloadOA tk25 ?_ | refine AtT.kloadA tk25 ?_ | refine AtT.kloadOP tk25 ?_
  refine AtT.kmove ?_
  refine AtT.kmove ?_
  refine AtT.kcall rfl rfl ok72 (bounds_f L core x _ _ hv2 hL hcb hxb) ?_
  rintro _ V3 hV3 ⟨v1, v2, rfl, hs1, hs2⟩; obtain ⟨a1, c1, rfl⟩ := hs1.form; obtain ⟨a2, c2, rfl⟩ := hs2.form
  refine AtT.kmove ?_
  refine AtT.kextract ?_
  refine AtT.kextract ?_
  refine AtT.kassign ?_
  refine AtT.kassign ?_
  refine AtT.done ?_
  refine At.nrm ?_
  refine At.ktext (.q 0 .done) ?_
  refine AtT.kassign ?_
  refine AtT.done ?_
  refine At.nrm ?_
  have hps : ∀ q ∈ leastK L core x L.pl.length, BdB q := fun q hq => leastK_bd hL hcb hxb hq
  have hqs : ∀ q ∈ mostK L core x L.pl.length, BdB q := fun q hq => mostK_bd hL hcb hxb hq
  have hll := leastK_len L core x L.pl.length
  have hml := mostK_len L core x L.pl.length
  refine At.lp (ι := Nat) (KS := fun k => [(1, iv core), (2, iv x), (3, .pointer (some ⟨b3, 0, none⟩)), (6, .pointer (some ⟨b6, 0, none⟩)), (7, .pointer (some ⟨b7, 0, none⟩)), (9, .pointer (some ⟨b9, 0, none⟩)), (10, .pointer (some ⟨b10, 0, none⟩)), (11, .slice a1 (leastK L core x L.pl.length).length c1), (12, .slice a2 (mostK L core x L.pl.length).length c2), (13, iv k)])
    (OS := fun k => [.blk b3 (LC [.slice a L.pl.length c, .slice a' L.ed.length c'] 25), .blk b6 (LC [iv 0, iv 0] 31), .blk b7 (LC [iv 0, iv 0] 31), .blk b9 (LC (rte (zeroK L core x k).1) 31), .blk b10 (LC (rte (zeroK L core x k).2) 31)])
    (VS := fun k V' => V3 = V' ∧ k ≤ L.pl.length) (μ := fun k => L.pl.length - k) 0 ?_ ?_ ?_ ?_
  · exact ⟨rfl, rfl, rfl, rfl, rfl, rfl, rfl, rfl, rfl, rfl, trivial⟩
  · exact Pt.auto
  · exact ⟨rfl, Nat.zero_le _⟩
  · rintro k V' ks' O' ⟨rfl, hkl⟩ hk hO hl2
    try dsimp only at hkl hk hO
    subst hk hO
    have h2'' := h2'.le hV3
    have h3'' := h3'.le hV3
    refine At.nrm ?_
    refine At.ktext (.q 0 (.q 1 (.q 2 (.q 3 (.q 4 .done))))) ?_
    refine AtT.kmove ?_
    first | refine AtT.kfieldO fo25_0 ?_ | with_reducible refine AtT.kfield2 fo25_0 ?_ | refine AtT.kfield fo25_0 ?_
    first | refine AtT.kloadO tk22 ?_ | refine AtT.kload tk22 ?_
    first | refine AtT.klenS Try.underlying22 ?_ | refine AtT.klenR Try.underlying22 ?_
    refine AtT.klss ?_
    refine AtT.done ?_
    refine At.nrm ?_
    refine At.condP rfl (fun hb => ?_) (fun hb => ?_)
    · have pb := hL.plB (i := (k : Int)) (by omega) (by omega)
      have eb := hL.edB (i := (k : Int)) (by omega) (by omega)
      refine At.nrm ?_
      refine At.ktext (.q 0 (.q 1 (.q 2 (.q 3 (.q 4 (.q 5 (.q 6 .done))))))) ?_
      first | refine AtT.kfieldO fo25_0 ?_ | with_reducible refine AtT.kfield2 fo25_0 ?_ | refine AtT.kfield fo25_0 ?_
      first | refine AtT.kloadO tk22 ?_ | refine AtT.kload tk22 ?_
      refine AtT.kmove ?_
      refine AtT.kidx Try.underlying22 tk2 ?_
      intro p67 e67 he67 hc67
      obtain rfl : e67 = plP L k := plP_some he67
      first | refine AtT.kloadO tk2 ?_ | refine AtT.kload tk2 ?_
      refine AtT.kmove ?_
      refine AtT.keqI ?_
      refine AtT.done ?_
      refine At.nrm ?_
      refine At.condP rfl (fun hx => ?_) (fun hx => ?_)
      · have ez : zeroK L core x (k + 1) = (rat ((edP L k).lo + core) 1, rat ((edP L k).hi - core) 1) := by simp only [zeroK, if_pos hx]
        refine At.nrm ?_
        refine At.cutG (ι := Unit) (fun _ => [(1, iv core), (2, iv x), (3, .pointer (some ⟨b3, 0, none⟩)), (6, .pointer (some ⟨b6, 0, none⟩)), (7, .pointer (some ⟨b7, 0, none⟩)), (9, .pointer (some ⟨b9, 0, none⟩)), (10, .pointer (some ⟨b10, 0, none⟩)), (11, .slice a1 (leastK L core x L.pl.length).length c1), (12, .slice a2 (mostK L core x L.pl.length).length c2), (13, iv k)])
          (fun _ => [.blk b3 (LC [.slice a L.pl.length c, .slice a' L.ed.length c'] 25), .blk b6 (LC [iv 0, iv 0] 31), .blk b7 (LC [iv 0, iv 0] 31), .blk b9 (LC (rte (rat ((edP L k).lo + core) 1)) 31), .blk b10 (LC (rte (rat ((edP L k).hi - core) 1)) 31)]) (fun _ V' => V3 = V') ?_ ?_
        · refine At.draw (.q 0 (.q 1 (.q 2 (.q 3 (.q 4 (.q 5 (.q 6 (.q 7 (.q 9 (.q 10 (.q 11 (.q 12 (.q 13 (.q 14 (.q 15 (.q 16 (.n false 8 (.n false 17 (.n true 18 (.n true 19 .done)))))))))))))))))))) ffm (by kernel_rfl) ?_
          first | refine AtT.kfieldO fo25_1 ?_ | with_reducible refine AtT.kfield2 fo25_1 ?_ | refine AtT.kfield fo25_1 ?_
          first | refine AtT.kloadO tk23 ?_ | refine AtT.kload tk23 ?_
          refine AtT.kmove ?_
          refine AtT.kidx Try.underlying23 tk69 ?_
          intro p74 e74 he74 hc74
          obtain rfl : e74 = edP L k := edP_some he74
          first | refine AtT.kfieldO fo69_0 ?_ | with_reducible refine AtT.kfield2 fo69_0 ?_ | refine AtT.kfield fo69_0 ?_
          first | refine AtT.kloadO tk2 ?_ | refine AtT.kload tk2 ?_
          refine AtT.kmove ?_
          first | refine AtT.kadd ?_ | refine AtT.kaddW ?_
          first | refine AtT.kfieldO fo25_1 ?_ | with_reducible refine AtT.kfield2 fo25_1 ?_ | refine AtT.kfield fo25_1 ?_
          first | refine AtT.kloadO tk23 ?_ | refine AtT.kload tk23 ?_
          refine AtT.kmove ?_
          refine AtT.kidx Try.underlying23 tk69 ?_
          intro p83 e83 he83 hc83
          obtain rfl : e83 = edP L k := edP_some he83
          first | refine AtT.kfieldO fo69_1 ?_ | with_reducible refine AtT.kfield2 fo69_1 ?_ | refine AtT.kfield fo69_1 ?_
          first | refine AtT.kloadO tk2 ?_ | refine AtT.kload tk2 ?_
          refine AtT.kmove ?_
          first | refine AtT.ksubt ?_ | refine AtT.ksubW ?_
          refine AtT.kcallP rfl rfl ok51 (by_r ((edP L k).lo + core) 1 _ (by omega) (by omega) (by omega) (by omega)) ?_
          rintro _ rfl
          refine AtT.kcallP rfl rfl ok51 (by_r ((edP L k).hi - core) 1 _ (by omega) (by omega) (by omega) (by omega)) ?_
          rintro _ rfl
          refine AtT.kstoreA tk31 ?_
          refine AtT.kstoreA tk31 ?_
          refine AtT.done ?_
          refine At.nrm ?_
          all_goals (refine At.meetG () rfl ⟨rfl, rfl, rfl, rfl, rfl, rfl, rfl, rfl, rfl, rfl, trivial⟩ Pt.auto)
        rintro _ V' ks' O' rfl hk hO hl3
        subst hk hO
        refine At.nrm ?_
        refine At.ktext (.q 0 (.q 1 (.q 2 .done))) ?_
        refine AtT.kmove ?_
        first | refine AtT.kadd ?_ | refine AtT.kaddW ?_
        refine AtT.kassign ?_
        refine AtT.done ?_
        refine At.nrm ?_
        refine At.round (k + 1) (by first | omega | (dsimp only; omega)) ⟨rfl, by first | omega | (dsimp only; omega)⟩ ⟨rfl, rfl, rfl, rfl, rfl, rfl, rfl, rfl, rfl, ivs (by first | omega | (dsimp only; omega)), trivial⟩ ?_
        try dsimp only
        rw [ez]
        · exact Pt.auto
      · have ez : zeroK L core x (k + 1) = zeroK L core x k := by simp only [zeroK, if_neg hx]
        refine At.nrm ?_
        refine At.ktext (.q 0 (.q 1 (.q 2 .done))) ?_
        refine AtT.kmove ?_
        first | refine AtT.kadd ?_ | refine AtT.kaddW ?_
        refine AtT.kassign ?_
        refine AtT.done ?_
        refine At.nrm ?_
        refine At.round (k + 1) (by first | omega | (dsimp only; omega)) ⟨rfl, by first | omega | (dsimp only; omega)⟩ ⟨rfl, rfl, rfl, rfl, rfl, rfl, rfl, rfl, rfl, ivs (by first | omega | (dsimp only; omega)), trivial⟩ ?_
        try dsimp only
        rw [ez]
        · exact Pt.auto
    · obtain rfl : k = L.pl.length := by omega
      have zb := zeroK_bd hL hcb (core := core) (x := x) L.pl.length (Nat.le_refl _)
      refine At.nrm ?_
      refine At.ktext (.q 0 .done) ?_
      refine AtT.kassign ?_
      refine AtT.done ?_
      refine At.nrm ?_
      refine At.lp (ι := Nat) (KS := fun i => [(1, iv core), (2, iv x), (3, .pointer (some ⟨b3, 0, none⟩)), (6, .pointer (some ⟨b6, 0, none⟩)), (7, .pointer (some ⟨b7, 0, none⟩)), (9, .pointer (some ⟨b9, 0, none⟩)), (10, .pointer (some ⟨b10, 0, none⟩)), (11, .slice a1 (leastK L core x L.pl.length).length c1), (12, .slice a2 (mostK L core x L.pl.length).length c2), (14, iv i)])
        (OS := fun i => [.blk b3 (LC [.slice a L.pl.length c, .slice a' L.ed.length c'] 25), .blk b6 (LC [iv 0, iv 0] 31), .blk b7 (LC [iv 0, iv 0] 31), .blk b9 (LC (rte (allR (mostK L core x L.pl.length) ((leastK L core x L.pl.length).take i) (zeroK L core x L.pl.length)).1) 31), .blk b10 (LC (rte (allR (mostK L core x L.pl.length) ((leastK L core x L.pl.length).take i) (zeroK L core x L.pl.length)).2) 31)])
        (VS := fun i V' => V3 = V' ∧ i ≤ (leastK L core x L.pl.length).length) (μ := fun i => (leastK L core x L.pl.length).length - i) 0 ?_ ?_ ?_ ?_
      · exact ⟨rfl, rfl, rfl, rfl, rfl, rfl, rfl, rfl, rfl, rfl, trivial⟩
      · exact Pt.auto
      · exact ⟨rfl, Nat.zero_le _⟩
      · rintro i V' ks' O' ⟨rfl, hil⟩ hk hO hl2
        try dsimp only at hil hk hO
        subst hk hO
        refine At.nrm ?_
        refine At.ktext (.q 0 (.q 1 (.q 2 (.q 3 .done)))) ?_
        refine AtT.kmove ?_
        refine AtT.kmove ?_
        first | refine AtT.klenS Try.underlying100 ?_ | refine AtT.klenR Try.underlying100 ?_
        refine AtT.klss ?_
        refine AtT.done ?_
        refine At.nrm ?_
        refine At.condP rfl (fun hb => ?_) (fun hb => ?_)
        · obtain ⟨p, hp⟩ : ∃ p, (leastK L core x L.pl.length)[i]? = some p := ⟨_, List.getElem?_eq_getElem (by omega)⟩
          have hpB := hps p (List.mem_of_getElem? hp)
          have htk := take_snoc' hp
          have sb := allR_bd hqs (l := (leastK L core x L.pl.length).take i) (fun q hq => hps q (List.mem_of_mem_take hq)) zb.1 zb.2
          generalize hS : allR (mostK L core x L.pl.length) ((leastK L core x L.pl.length).take i) (zeroK L core x L.pl.length) = S at sb
          refine At.nrm ?_
          refine At.ktext (.q 0 .done) ?_
          refine AtT.kassign ?_
          refine AtT.done ?_
          refine At.nrm ?_
          refine At.lp (ι := Nat) (KS := fun k => [(1, iv core), (2, iv x), (3, .pointer (some ⟨b3, 0, none⟩)), (6, .pointer (some ⟨b6, 0, none⟩)), (7, .pointer (some ⟨b7, 0, none⟩)), (9, .pointer (some ⟨b9, 0, none⟩)), (10, .pointer (some ⟨b10, 0, none⟩)), (11, .slice a1 (leastK L core x L.pl.length).length c1), (12, .slice a2 (mostK L core x L.pl.length).length c2), (14, iv i), (15, iv k)])
            (OS := fun k => [.blk b3 (LC [.slice a L.pl.length c, .slice a' L.ed.length c'] 25), .blk b6 (LC [iv 0, iv 0] 31), .blk b7 (LC [iv 0, iv 0] 31), .blk b9 (LC (rte (rowH p ((mostK L core x L.pl.length).take k) S).1) 31), .blk b10 (LC (rte (rowH p ((mostK L core x L.pl.length).take k) S).2) 31)])
            (VS := fun k V' => V3 = V' ∧ k ≤ (mostK L core x L.pl.length).length) (μ := fun k => (mostK L core x L.pl.length).length - k) 0 ?_ ?_ ?_ ?_
          · exact ⟨rfl, rfl, rfl, rfl, rfl, rfl, rfl, rfl, rfl, rfl, rfl, trivial⟩
          · exact Pt.auto
          · exact ⟨rfl, Nat.zero_le _⟩
          · rintro k V' ks' O' ⟨rfl, hkl2⟩ hk hO hl3
            try dsimp only at hkl2 hk hO
            subst hk hO
            refine At.nrm ?_
            refine At.ktext (.q 0 (.q 1 (.q 2 (.q 3 .done)))) ?_
            refine AtT.kmove ?_
            refine AtT.kmove ?_
            first | refine AtT.klenS Try.underlying100 ?_ | refine AtT.klenR Try.underlying100 ?_
            refine AtT.klss ?_
            refine AtT.done ?_
            refine At.nrm ?_
            refine At.condP rfl (fun hb2 => ?_) (fun hb2 => ?_)
            · obtain ⟨q, hq⟩ : ∃ q, (mostK L core x L.pl.length)[k]? = some q := ⟨_, List.getElem?_eq_getElem (by omega)⟩
              have hqB := hqs q (List.mem_of_getElem? hq)
              have htq := take_snoc' hq
              have tb := rowH_bd hpB (l := (mostK L core x L.pl.length).take k) (fun q hq => hqs q (List.mem_of_mem_take hq)) sb.1 sb.2
              have pb := pr_bd hpB hqB
              have ps : (-100 ≤ p.slope * q.den ∧ p.slope * q.den ≤ 100) ∧ (-100 ≤ q.slope * p.den ∧ q.slope * p.den ≤ 100) := by
                obtain ⟨p1, p2, p3, p4, p5⟩ := hpB
                obtain ⟨q1, q2, q3, q4, q5⟩ := hqB
                rcases p5 with e | e <;> rcases q5 with e' | e' <;> rw [e, e'] <;> omega
              generalize hT : rowH p ((mostK L core x L.pl.length).take k) S = T at tb
              have hstep : rowH p ((mostK L core x L.pl.length).take (k + 1)) S = stepH p q T := by rw [htq, rowH_snoc, hT]
              refine At.nrm ?_
              refine At.draw (.q 0 (.q 1 (.q 2 (.q 3 (.q 4 (.q 5 (.q 6 (.q 7 (.q 8 (.q 9 (.q 10 (.q 11 (.q 12 (.q 13 (.q 14 (.q 15 (.q 16 (.q 17 (.q 18 (.q 19 (.q 20 (.q 21 (.q 22 (.q 23 .done)))))))))))))))))))))))) ffm (by kernel_rfl) ?_
              refine AtT.kmove ?_
              refine AtT.kmove ?_
              refine AtT.kidx Try.underlying100 tk104 ?_
              intro p103 e103 he103 hc103
              obtain rfl : p = e103 := by rw [Int.toNat_natCast, hp] at he103; exact Option.some.inj he103
              first | refine AtT.kfieldO fo104_2 ?_ | with_reducible refine AtT.kfield2 fo104_2 ?_ | refine AtT.kfield fo104_2 ?_
              first | refine AtT.kloadO tk2 ?_ | refine AtT.kload tk2 ?_
              refine AtT.kmove ?_
              refine AtT.kmove ?_
              refine AtT.kidx Try.underlying100 tk104 ?_
              intro p108 e108 he108 hc108
              obtain rfl : q = e108 := by rw [Int.toNat_natCast, hq] at he108; exact Option.some.inj he108
              first | refine AtT.kfieldO fo104_0 ?_ | with_reducible refine AtT.kfield2 fo104_0 ?_ | refine AtT.kfield fo104_0 ?_
              first | refine AtT.kloadO tk2 ?_ | refine AtT.kload tk2 ?_
              first | refine AtT.kmul ?_ | refine AtT.kmulW ?_
              refine AtT.kmove ?_
              refine AtT.kmove ?_
              refine AtT.kidx Try.underlying100 tk104 ?_
              intro p114 e114 he114 hc114
              obtain rfl : q = e114 := by rw [Int.toNat_natCast, hq] at he114; exact Option.some.inj he114
              first | refine AtT.kfieldO fo104_2 ?_ | with_reducible refine AtT.kfield2 fo104_2 ?_ | refine AtT.kfield fo104_2 ?_
              first | refine AtT.kloadO tk2 ?_ | refine AtT.kload tk2 ?_
              refine AtT.kmove ?_
              refine AtT.kmove ?_
              refine AtT.kidx Try.underlying100 tk104 ?_
              intro p119 e119 he119 hc119
              obtain rfl : p = e119 := by rw [Int.toNat_natCast, hp] at he119; exact Option.some.inj he119
              first | refine AtT.kfieldO fo104_0 ?_ | with_reducible refine AtT.kfield2 fo104_0 ?_ | refine AtT.kfield fo104_0 ?_
              first | refine AtT.kloadO tk2 ?_ | refine AtT.kload tk2 ?_
              first | refine AtT.kmul ?_ | refine AtT.kmulW ?_
              first | refine AtT.ksubt ?_ | refine AtT.ksubW ?_
              refine AtT.kassign ?_
              refine AtT.done ?_
              refine At.nrm ?_
              refine At.re (d := 16) rfl (show iv (p.slope * q.den - q.slope * p.den) = iv (prA p q) from rfl) ?_
              refine At.draw (.q 0 (.q 1 (.q 2 (.q 3 (.q 4 (.q 5 (.q 6 (.q 7 (.q 8 (.q 9 (.q 10 (.q 11 (.q 12 (.q 13 (.q 14 (.q 15 (.q 16 (.q 17 (.q 18 (.q 19 (.q 20 (.q 21 (.q 22 (.q 23 .done)))))))))))))))))))))))) ffm (by kernel_rfl) ?_
              refine AtT.kmove ?_
              refine AtT.kmove ?_
              refine AtT.kidx Try.underlying100 tk104 ?_
              intro p126 e126 he126 hc126
              obtain rfl : q = e126 := by rw [Int.toNat_natCast, hq] at he126; exact Option.some.inj he126
              first | refine AtT.kfieldO fo104_1 ?_ | with_reducible refine AtT.kfield2 fo104_1 ?_ | refine AtT.kfield fo104_1 ?_
              first | refine AtT.kloadO tk2 ?_ | refine AtT.kload tk2 ?_
              refine AtT.kmove ?_
              refine AtT.kmove ?_
              refine AtT.kidx Try.underlying100 tk104 ?_
              intro p131 e131 he131 hc131
              obtain rfl : p = e131 := by rw [Int.toNat_natCast, hp] at he131; exact Option.some.inj he131
              first | refine AtT.kfieldO fo104_0 ?_ | with_reducible refine AtT.kfield2 fo104_0 ?_ | refine AtT.kfield fo104_0 ?_
              first | refine AtT.kloadO tk2 ?_ | refine AtT.kload tk2 ?_
              first | refine AtT.kmul ?_ | refine AtT.kmulW ?_
              refine AtT.kmove ?_
              refine AtT.kmove ?_
              refine AtT.kidx Try.underlying100 tk104 ?_
              intro p137 e137 he137 hc137
              obtain rfl : p = e137 := by rw [Int.toNat_natCast, hp] at he137; exact Option.some.inj he137
              first | refine AtT.kfieldO fo104_1 ?_ | with_reducible refine AtT.kfield2 fo104_1 ?_ | refine AtT.kfield fo104_1 ?_
              first | refine AtT.kloadO tk2 ?_ | refine AtT.kload tk2 ?_
              refine AtT.kmove ?_
              refine AtT.kmove ?_
              refine AtT.kidx Try.underlying100 tk104 ?_
              intro p142 e142 he142 hc142
              obtain rfl : q = e142 := by rw [Int.toNat_natCast, hq] at he142; exact Option.some.inj he142
              first | refine AtT.kfieldO fo104_0 ?_ | with_reducible refine AtT.kfield2 fo104_0 ?_ | refine AtT.kfield fo104_0 ?_
              first | refine AtT.kloadO tk2 ?_ | refine AtT.kload tk2 ?_
              first | refine AtT.kmul ?_ | refine AtT.kmulW ?_
              first | refine AtT.ksubt ?_ | refine AtT.ksubW ?_
              refine AtT.kassign ?_
              refine AtT.done ?_
              refine At.nrm ?_
              refine At.re (d := 17) rfl (show iv (q.start * p.den - p.start * q.den) = iv (prB p q) from rfl) ?_
              refine At.cutG (ι := Unit) (fun _ => [(1, iv core), (2, iv x), (3, .pointer (some ⟨b3, 0, none⟩)), (6, .pointer (some ⟨b6, 0, none⟩)), (7, .pointer (some ⟨b7, 0, none⟩)), (9, .pointer (some ⟨b9, 0, none⟩)), (10, .pointer (some ⟨b10, 0, none⟩)), (11, .slice a1 (leastK L core x L.pl.length).length c1), (12, .slice a2 (mostK L core x L.pl.length).length c2), (14, iv i), (15, iv k), (16, iv (prA p q)), (17, iv (prB p q)), (160, .bool (decide (0 < prA p q ∧ (T.2.den = 0 ∨ lessB (rat (prB p q) (prA p q)) T.2 = true))))]) (fun _ => [.blk b3 (LC [.slice a L.pl.length c, .slice a' L.ed.length c'] 25), .blk b6 (LC [iv 0, iv 0] 31), .blk b7 (LC [iv 0, iv 0] 31), .blk b9 (LC (rte T.1) 31), .blk b10 (LC (rte T.2) 31)]) (fun _ V' => V3 = V') ?_ ?_
              · refine At.draw (.q 0 (.q 1 (.q 2 (.q 3 (.q 4 (.q 5 (.q 6 (.q 7 (.q 8 (.q 10 (.n false 9 (.n false 11 (.q 12 (.q 13 .done)))))))))))))) ffm (by kernel_rfl) ?_
                refine AtT.kmove ?_
                refine AtT.kgtr ?_
                refine AtT.kmove ?_
                all_goals (first | refine AtT.kL 149 ?_ | refine AtT.pcase (d := 149) rfl (fun hg149 => ?_) (fun hg149 => ?_) | refine AtT.bcase (d := 149) rfl (fun hg149 => ?_) (fun hg149 => ?_))
                all_goals (first | refine AtT.kpass ?_ | refine AtT.kpassU ?_ | ((first | refine AtT.kfieldO fo31_1 ?_ | with_reducible refine AtT.kfield2 fo31_1 ?_ | refine AtT.kfield fo31_1 ?_)))
                all_goals (first | refine AtT.kpass ?_ | refine AtT.kpassU ?_ | ((first | refine AtT.kloadO tk2 ?_ | refine AtT.kload tk2 ?_)))
                all_goals (first | refine AtT.kpass ?_ | refine AtT.kpassU ?_ | ((refine AtT.keqI ?_)))
                all_goals (first | refine AtT.kpass ?_ | refine AtT.kpassU ?_ | ((refine AtT.kmove ?_)))
                all_goals (first | refine AtT.kL 153 ?_ | refine AtT.pcase (d := 153) rfl (fun hg153 => ?_) (fun hg153 => ?_) | refine AtT.bcase (d := 153) rfl (fun hg153 => ?_) (fun hg153 => ?_))
                all_goals (first | refine AtT.kpass ?_ | refine AtT.kpassU ?_ | ((refine AtT.kmove ?_)))
                all_goals (first | refine AtT.kpass ?_ | refine AtT.kpassU ?_ | ((refine AtT.kmove ?_)))
                all_goals (first | refine AtT.kpass ?_ | refine AtT.kpassU ?_ | ((first | refine AtT.kloadOA tk31 ?_ | refine AtT.kloadA tk31 ?_ | refine AtT.kloadOP tk31 ?_)))
                all_goals (first | refine AtT.kpassN ?_ | refine AtT.kpassNU ?_ | ((refine AtT.kcallP rfl rfl ok51 (by_r (prB p q) (prA p q) _ (by omega) (by omega) hg149 (by omega)) ?_) ; (rintro _ rfl)))
                all_goals (first | refine AtT.kpassN ?_ | refine AtT.kpassNU ?_ | ((refine AtT.kcallP rfl rfl ok45 (rless_f (rat (prB p q) (prA p q)) T.2 _ (hg_fit (rat_hg (by omega) (by omega) hg149 (by omega)).1 tb.2) (hg_fit tb.2 (rat_hg (by omega) (by omega) hg149 (by omega)).1)) ?_) ; (rintro _ rfl)))
                all_goals (first | refine AtT.kpass ?_ | refine AtT.kpassU ?_ | ((refine AtT.kpick ?_)))
                all_goals (refine AtT.kpick ?_)
                all_goals refine AtT.done ?_
                all_goals (refine At.nrm ?_)
                all_goals (refine At.meetG () rfl ⟨rfl, rfl, rfl, rfl, rfl, rfl, rfl, rfl, rfl, rfl, rfl, rfl, rfl, bsome ?_, trivial⟩ Pt.auto)
                all_goals (rw [Bool.eq_iff_iff]; simp [*])
              rintro _ V' ks' O' rfl hk hO hl4
              subst hk hO
              refine At.nrm ?_
              refine At.cutG (ι := Unit) (fun _ => [(1, iv core), (2, iv x), (3, .pointer (some ⟨b3, 0, none⟩)), (6, .pointer (some ⟨b6, 0, none⟩)), (7, .pointer (some ⟨b7, 0, none⟩)), (9, .pointer (some ⟨b9, 0, none⟩)), (10, .pointer (some ⟨b10, 0, none⟩)), (11, .slice a1 (leastK L core x L.pl.length).length c1), (12, .slice a2 (mostK L core x L.pl.length).length c2), (14, iv i), (15, iv k), (16, iv (prA p q)), (17, iv (prB p q))]) (fun _ => [.blk b3 (LC [.slice a L.pl.length c, .slice a' L.ed.length c'] 25), .blk b6 (LC [iv 0, iv 0] 31), .blk b7 (LC [iv 0, iv 0] 31), .blk b9 (LC (rte T.1) 31), .blk b10 (LC (rte (stepH p q T).2) 31)]) (fun _ V' => V3 = V') ?_ ?_
              · refine At.condP rfl (fun hc => ?_) (fun hc => ?_)
                · have e2 : (stepH p q T).2 = rat (prB p q) (prA p q) := by unfold stepH; exact if_pos hc
                  refine At.nrm ?_
                  refine At.ktext (.q 0 (.q 1 (.n false 2 (.n true 3 .done)))) ?_
                  refine AtT.kmove ?_
                  refine AtT.kmove ?_
                  refine AtT.kcallP rfl rfl ok51 (by_r (prB p q) (prA p q) _ (by omega) (by omega) hc.1 (by omega)) ?_
                  rintro _ rfl
                  refine AtT.kstoreA tk31 ?_
                  refine AtT.done ?_
                  refine At.nrm ?_
                  refine At.meetG () rfl ⟨rfl, rfl, rfl, rfl, rfl, rfl, rfl, rfl, rfl, rfl, rfl, rfl, rfl, trivial⟩ ?_
                  rw [e2]
                  · exact Pt.auto
                · have e2 : (stepH p q T).2 = T.2 := by unfold stepH; exact if_neg hc
                  refine At.nrm ?_
                  refine At.meetG () rfl ⟨rfl, rfl, rfl, rfl, rfl, rfl, rfl, rfl, rfl, rfl, rfl, rfl, rfl, trivial⟩ ?_
                  rw [e2]
                  · exact Pt.auto
              rintro _ V' ks' O' rfl hk hO hl5
              subst hk hO
              refine At.nrm ?_
              refine At.cutG (ι := Unit) (fun _ => [(1, iv core), (2, iv x), (3, .pointer (some ⟨b3, 0, none⟩)), (6, .pointer (some ⟨b6, 0, none⟩)), (7, .pointer (some ⟨b7, 0, none⟩)), (9, .pointer (some ⟨b9, 0, none⟩)), (10, .pointer (some ⟨b10, 0, none⟩)), (11, .slice a1 (leastK L core x L.pl.length).length c1), (12, .slice a2 (mostK L core x L.pl.length).length c2), (14, iv i), (15, iv k), (16, iv (prA p q)), (17, iv (prB p q)), (179, .bool (decide (prA p q < 0 ∧ (T.1.den = 0 ∨ lessB T.1 (rat (-prB p q) (-prA p q)) = true))))]) (fun _ => [.blk b3 (LC [.slice a L.pl.length c, .slice a' L.ed.length c'] 25), .blk b6 (LC [iv 0, iv 0] 31), .blk b7 (LC [iv 0, iv 0] 31), .blk b9 (LC (rte T.1) 31), .blk b10 (LC (rte (stepH p q T).2) 31)]) (fun _ V' => V3 = V') ?_ ?_
              · refine At.draw (.q 0 (.q 1 (.q 2 (.q 3 (.q 4 (.q 5 (.q 6 (.q 7 (.q 8 (.q 9 (.q 10 (.q 11 (.n false 12 (.n false 13 (.q 14 (.q 15 .done)))))))))))))))) ffm (by kernel_rfl) ?_
                refine AtT.kmove ?_
                refine AtT.klss ?_
                refine AtT.kmove ?_
                all_goals (first | refine AtT.kL 166 ?_ | refine AtT.pcase (d := 166) rfl (fun hg166 => ?_) (fun hg166 => ?_) | refine AtT.bcase (d := 166) rfl (fun hg166 => ?_) (fun hg166 => ?_))
                all_goals (first | refine AtT.kpass ?_ | refine AtT.kpassU ?_ | ((first | refine AtT.kfieldO fo31_1 ?_ | with_reducible refine AtT.kfield2 fo31_1 ?_ | refine AtT.kfield fo31_1 ?_)))
                all_goals (first | refine AtT.kpass ?_ | refine AtT.kpassU ?_ | ((first | refine AtT.kloadO tk2 ?_ | refine AtT.kload tk2 ?_)))
                all_goals (first | refine AtT.kpass ?_ | refine AtT.kpassU ?_ | ((refine AtT.keqI ?_)))
                all_goals (first | refine AtT.kpass ?_ | refine AtT.kpassU ?_ | ((refine AtT.kmove ?_)))
                all_goals (first | refine AtT.kL 170 ?_ | refine AtT.pcase (d := 170) rfl (fun hg170 => ?_) (fun hg170 => ?_) | refine AtT.bcase (d := 170) rfl (fun hg170 => ?_) (fun hg170 => ?_))
                all_goals (first | refine AtT.kpass ?_ | refine AtT.kpassU ?_ | ((first | refine AtT.kloadOA tk31 ?_ | refine AtT.kloadA tk31 ?_ | refine AtT.kloadOP tk31 ?_)))
                all_goals (first | refine AtT.kpass ?_ | refine AtT.kpassU ?_ | ((refine AtT.kmove ?_)))
                all_goals (first | refine AtT.kpass ?_ | refine AtT.kpassU ?_ | ((first | refine AtT.kneg ?_ | refine AtT.knegW ?_)))
                all_goals (first | refine AtT.kpass ?_ | refine AtT.kpassU ?_ | ((refine AtT.kmove ?_)))
                all_goals (first | refine AtT.kpass ?_ | refine AtT.kpassU ?_ | ((first | refine AtT.kneg ?_ | refine AtT.knegW ?_)))
                all_goals (first | refine AtT.kpassN ?_ | refine AtT.kpassNU ?_ | ((refine AtT.kcallP rfl rfl ok51 (by_r (-prB p q) (-prA p q) _ (by omega) (by omega) (by omega) (by omega)) ?_) ; (rintro _ rfl)))
                all_goals (first | refine AtT.kpassN ?_ | refine AtT.kpassNU ?_ | ((refine AtT.kcallP rfl rfl ok45 (rless_f T.1 (rat (-prB p q) (-prA p q)) _ (hg_fit tb.1 (rat_hg (by omega) (by omega) (by omega) (by omega)).1) (hg_fit (rat_hg (by omega) (by omega) (by omega) (by omega)).1 tb.1)) ?_) ; (rintro _ rfl)))
                all_goals (first | refine AtT.kpass ?_ | refine AtT.kpassU ?_ | ((refine AtT.kpick ?_)))
                all_goals (refine AtT.kpick ?_)
                all_goals refine AtT.done ?_
                all_goals (refine At.nrm ?_)
                all_goals (refine At.meetG () rfl ⟨rfl, rfl, rfl, rfl, rfl, rfl, rfl, rfl, rfl, rfl, rfl, rfl, rfl, bsome ?_, trivial⟩ Pt.auto)
                all_goals (rw [Bool.eq_iff_iff]; simp [*])
              rintro _ V' ks' O' rfl hk hO hl6
              subst hk hO
              refine At.nrm ?_
              refine At.cutG (ι := Unit) (fun _ => [(1, iv core), (2, iv x), (3, .pointer (some ⟨b3, 0, none⟩)), (6, .pointer (some ⟨b6, 0, none⟩)), (7, .pointer (some ⟨b7, 0, none⟩)), (9, .pointer (some ⟨b9, 0, none⟩)), (10, .pointer (some ⟨b10, 0, none⟩)), (11, .slice a1 (leastK L core x L.pl.length).length c1), (12, .slice a2 (mostK L core x L.pl.length).length c2), (14, iv i), (15, iv k), (16, iv (prA p q)), (17, iv (prB p q))]) (fun _ => [.blk b3 (LC [.slice a L.pl.length c, .slice a' L.ed.length c'] 25), .blk b6 (LC [iv 0, iv 0] 31), .blk b7 (LC [iv 0, iv 0] 31), .blk b9 (LC (rte (stepH p q T).1) 31), .blk b10 (LC (rte (stepH p q T).2) 31)]) (fun _ V' => V3 = V') ?_ ?_
              · refine At.condP rfl (fun hc => ?_) (fun hc => ?_)
                · have e1 : (stepH p q T).1 = rat (-prB p q) (-prA p q) := by unfold stepH; exact if_pos hc
                  refine At.nrm ?_
                  refine At.ktext (.q 0 (.q 1 (.q 2 (.q 3 (.n false 4 (.n true 5 .done)))))) ?_
                  refine AtT.kmove ?_
                  first | refine AtT.kneg ?_ | refine AtT.knegW ?_
                  refine AtT.kmove ?_
                  first | refine AtT.kneg ?_ | refine AtT.knegW ?_
                  refine AtT.kcallP rfl rfl ok51 (by_r (-prB p q) (-prA p q) _ (by omega) (by omega) (by omega) (by omega)) ?_
                  rintro _ rfl
                  refine AtT.kstoreA tk31 ?_
                  refine AtT.done ?_
                  refine At.nrm ?_
                  refine At.meetG () rfl ⟨rfl, rfl, rfl, rfl, rfl, rfl, rfl, rfl, rfl, rfl, rfl, rfl, rfl, trivial⟩ ?_
                  rw [e1]
                  · exact Pt.auto
                · have e1 : (stepH p q T).1 = T.1 := by unfold stepH; exact if_neg hc
                  refine At.nrm ?_
                  refine At.meetG () rfl ⟨rfl, rfl, rfl, rfl, rfl, rfl, rfl, rfl, rfl, rfl, rfl, rfl, rfl, trivial⟩ ?_
                  rw [e1]
                  · exact Pt.auto
              rintro _ V' ks' O' rfl hk hO hl7
              subst hk hO
              refine At.nrm ?_
              refine At.ktext (.q 0 (.q 1 (.q 2 .done))) ?_
              refine AtT.kmove ?_
              first | refine AtT.kadd ?_ | refine AtT.kaddW ?_
              refine AtT.kassign ?_
              refine AtT.done ?_
              refine At.nrm ?_
              refine At.round (k + 1) (by first | omega | (dsimp only; omega)) ⟨rfl, by first | omega | (dsimp only; omega)⟩ ⟨rfl, rfl, rfl, rfl, rfl, rfl, rfl, rfl, rfl, rfl, ivs (by first | omega | (dsimp only; omega)), trivial⟩ ?_
              try dsimp only
              rw [hstep]
              · exact Pt.auto
            · obtain rfl : k = (mostK L core x L.pl.length).length := by omega
              have hstep : allR (mostK L core x L.pl.length) ((leastK L core x L.pl.length).take (i + 1)) (zeroK L core x L.pl.length) = rowH p (mostK L core x L.pl.length) S := by rw [htk, allR_snoc, hS]
              rw [List.take_length]
              refine At.nrm ?_
              refine At.ktext (.q 0 (.q 1 (.q 2 .done))) ?_
              refine AtT.kmove ?_
              first | refine AtT.kadd ?_ | refine AtT.kaddW ?_
              refine AtT.kassign ?_
              refine AtT.done ?_
              refine At.nrm ?_
              refine At.round (i + 1) (by first | omega | (dsimp only; omega)) ⟨rfl, by first | omega | (dsimp only; omega)⟩ ⟨rfl, rfl, rfl, rfl, rfl, rfl, rfl, rfl, rfl, ivs (by first | omega | (dsimp only; omega)), trivial⟩ ?_
              try dsimp only
              rw [hstep]
              · exact Pt.auto
        · obtain rfl : i = (leastK L core x L.pl.length).length := by omega
          rw [List.take_length]
          refine At.nrm ?_
          refine At.drawC [.blk b9 (LC (rte (allR (mostK L core x L.pl.length) (leastK L core x L.pl.length) (zeroK L core x L.pl.length)).1) 31), .blk b10 (LC (rte (allR (mostK L core x L.pl.length) (leastK L core x L.pl.length) (zeroK L core x L.pl.length)).2) 31)] (.q 0 (.q 1 (.n false 2 (.n false 3 (.q 4 .done))))) ffm (by kernel_rfl) Pt.auto ?_
          refine AtC.pre (fun hle0 => ?_)
          refine AtC.kq (by (first | refine AtT.kloadOA tk31 ?_ | refine AtT.kloadA tk31 ?_ | refine AtT.kloadOP tk31 ?_); exact At.knows) ?_
          refine AtC.kq (by (first | refine AtT.kloadOA tk31 ?_ | refine AtT.kloadA tk31 ?_ | refine AtT.kloadOP tk31 ?_); exact At.knows) ?_
          refine AtC.nz ?_
          refine AtT.kstoreA tk31 ?_
          refine AtC.kgo ?_
          refine AtC.nz ?_
          refine AtT.kstoreA tk31 ?_
          refine AtC.kgo ?_
          refine AtC.kq (by (refine AtT.kassign ?_); exact At.knows) ?_
          refine AtC.done ?_
          refine At.nrm ?_
          refine At.ret3 rfl (.agg rfl tk31 Pick.auto rfl) (.agg rfl tk31 Pick.auto rfl) (.tmp rfl) ?_
          rw [defR, if_neg (by simp [he0]), if_neg hb0, if_neg (by simp [hlt])]
          rfl
end Go.Proofs.Ytnionkopmncopaa
