/- Texts that the last one of this claim imports. -/
import Derived.ChangeKeysEq
import Derived.Test.YtfcpmblmklibjaaGreatB4
set_option linter.unusedVariables false
set_option linter.unusedSimpArgs false
set_option linter.unusedSectionVars false
set_option linter.unusedVariables false
namespace Go.Proofs.YtfcpmblmklibjaaGreat
open Go.Lw Go.Gl Go.Bl Go.RowKit

theorem notF_f (ts : List Tq) (i : Int) (hi : 0 ≤ i ∧ i < ts.length) (V : View) (q : Addr) (a : Option Addr) (c : Nat) (hq : Cells V q [.slice a ts.length c]) (hs : Sl V tqe 4 (.slice a ts.length c) ts) : Fnc Tryz.prog 71 ([] ++ [iv i] ++ [.pointer (some q)]) V fun r _ => r = .bool (decide ((lfL ts).getD i.toNat 0 < 0)) := by
  have hlen := hs.lenLe
  obtain ⟨t, ht⟩ : ∃ t, ts[i.toNat]? = some t := ⟨_, List.getElem?_eq_getElem (by omega)⟩
  have hl := lf_at ht
  have hg : (lfL ts).getD i.toNat 0 = lfI (clA ts) t := by simp [List.getD, hl]
  have hb : (!t.f) = decide ((lfL ts).getD i.toNat 0 < 0) := by
    rw [hg]
    cases c : t.f with
    | false => rw [decide_eq_true (lfI_neg.2 c)]; rfl
    | true => rw [decide_eq_false (fun h => by rw [lfI_neg.1 h] at c; cases c)]; rfl
  refine fn_of Tryz.func71 rfl Tryz.ntmps71 (Nat.le_of_ble_eq_true rfl) ?_
  intro w0 hw0
  refine At.nrm ?_
  refine At.ktext (.q 0 .done) ?_
  refine AtT.kassign ?_
  refine AtT.done ?_
  refine At.nrm ?_
  refine At.ktext (.q 0 (.q 1 (.q 2 (.q 3 (.q 4 (.q 5 (.q 6 .done))))))) ?_
  first | refine AtT.kloadO tk22 ?_ | refine AtT.kload tk22 ?_
  refine AtT.kmove ?_
  refine AtT.kidx Tryz.underlying22 tk81 ?_
  intro p6 e6 he6 hc6
  obtain rfl : t = e6 := by rw [ht] at he6; simpa using he6
  first | refine AtT.kfieldO fo81_1 ?_ | with_reducible refine AtT.kfield2 fo81_1 ?_ | refine AtT.kfield fo81_1 ?_
  first | refine AtT.kloadO tk4 ?_ | refine AtT.kload tk4 ?_
  refine AtT.knot ?_
  refine AtT.kassign ?_
  refine AtT.done ?_
  refine At.nrm ?_
  exact At.ret1 rfl (.tmp rfl) (by rw [← hb])
theorem ckAp_f (ts : List Tq) (l : List Int) (V : View) (v u : Value) (hs : Sl V tqe 4 v ts) (hu : SlI V u l) : Fnc Tryz.prog 32 [v, u] V fun r _ => r = iv (ckR ts l) := by
  have hlen := hs.lenLe
  have hlen2 := hu.lenLe
  obtain ⟨a, c, rfl, k1, k2, _⟩ := id hs
  obtain ⟨a1, c1, rfl, k3, k4, _⟩ := id hu
  clear k1 k2 k3 k4
  refine fn_of Tryz.func32 rfl Tryz.ntmps32 (Nat.le_of_ble_eq_true rfl) ?_
  intro w0 hw0
  refine At.nrm ?_
  refine At.ktext (.n false 0 (.q 1 .done)) ?_
  refine AtT.kbox ?_
  intro b2
  refine AtT.kassign ?_
  refine AtT.done ?_
  refine At.nrm ?_
  by_cases h0 : trE ts = 0
  rotate_left
  · refine At.ktext (.q 0 (.n false 1 (.q 2 (.q 3 (.q 4 (.q 5 (.q 6 .done))))))) ?_
    first | refine AtT.kloadO tk22 ?_ | refine AtT.kload tk22 ?_
    refine AtT.kcallP rfl rfl ok57 (open_bad ts h0 _ _ hs) ?_
    rintro _ rfl
    refine AtT.kmove ?_
    refine AtT.kextract ?_
    refine AtT.kextract ?_
    refine AtT.kassign ?_
    refine AtT.kassign ?_
    refine AtT.done ?_
    refine At.nrm ?_
    refine At.ktext (.q 0 (.q 1 (.q 2 .done))) ?_
    refine AtT.kmove ?_
    refine AtT.kneI ?_
    refine AtT.kassign ?_
    refine AtT.done ?_
    refine At.nrm ?_
    refine At.condT rfl (decide_eq_true h0) ?_
    refine At.nrm ?_
    refine At.ktext (.q 0 (.q 1 .done)) ?_
    refine AtT.kmove ?_
    refine AtT.kassign ?_
    refine AtT.done ?_
    refine At.nrm ?_
    exact At.ret1 rfl (.tmp rfl) (by rw [ckR_tr h0])
  obtain ⟨h16, ht⟩ := trE_ok h0
  have hll : (lfL ts).length = ts.length := by unfold lfL; rw [List.length_map]
  have hbd := lf_bd ht
  refine At.ktext (.q 0 (.n false 1 (.q 2 (.q 3 (.q 4 (.q 5 (.q 6 .done))))))) ?_
  first | refine AtT.kloadO tk22 ?_ | refine AtT.kload tk22 ?_
  refine AtT.kcall rfl rfl ok57 (open_ok ts h0 _ _ hs) ?_
  rintro _ V1 hV1 ⟨p, rfl, hb⟩
  refine AtT.kmove ?_
  refine AtT.kextract ?_
  refine AtT.kextract ?_
  refine AtT.kassign ?_
  refine AtT.kassign ?_
  refine AtT.done ?_
  refine At.nrm ?_
  have hu1 := hu.le hV1
  have hs1 := hs.le hV1
  refine At.ktext (.q 0 (.q 1 (.q 2 .done))) ?_
  refine AtT.kmove ?_
  refine AtT.kneI ?_
  refine AtT.kassign ?_
  refine AtT.done ?_
  refine At.nrm ?_
  refine At.condF rfl (decide_eq_false (by simp)) ?_
  refine At.nrm ?_
  cases h1 : lstB l ts.length with
  | false =>
    refine At.ktext (.q 0 (.q 1 (.q 2 (.n false 3 (.q 4 (.q 5 .done)))))) ?_
    refine AtT.kmove ?_
    first | refine AtT.kloadO tk22 ?_ | refine AtT.kload tk22 ?_
    first | refine AtT.klenS Tryz.underlying22 ?_ | refine AtT.klenR Tryz.underlying22 ?_
    refine AtT.kcallP rfl rfl ok58 (rising_f l ts.length (by omega) _ _ hu1) ?_
    rintro _ rfl; rw [h1]
    refine AtT.knot ?_
    refine AtT.kassign ?_
    refine AtT.done ?_
    refine At.nrm ?_
    refine At.condT rfl rfl ?_
    refine At.nrm ?_
    refine At.ktext (.q 0 .done) ?_
    refine AtT.kassign ?_
    refine AtT.done ?_
    refine At.nrm ?_
    exact At.ret1 rfl (.tmp rfl) (by rw [ckR_arg h0 h1])
  | true =>
  have hin := lstB_in h1
  refine At.ktext (.q 0 (.q 1 (.q 2 (.n false 3 (.q 4 (.q 5 .done)))))) ?_
  refine AtT.kmove ?_
  first | refine AtT.kloadO tk22 ?_ | refine AtT.kload tk22 ?_
  first | refine AtT.klenS Tryz.underlying22 ?_ | refine AtT.klenR Tryz.underlying22 ?_
  refine AtT.kcallP rfl rfl ok58 (rising_f l ts.length (by omega) _ _ hu1) ?_
  rintro _ rfl; rw [h1]
  refine AtT.knot ?_
  refine AtT.kassign ?_
  refine AtT.done ?_
  refine At.nrm ?_
  refine At.condF rfl rfl ?_
  refine At.nrm ?_
  refine At.giveB (b := b2) Pick.auto (fun V2 hV2 hb2 => ?_)
  have hu2 := hu1.le hV2
  have hs2 := hs1.le hV2
  have hbb := hb.le hV2
  cases h2 : ngB (lfL ts) l with
  | true =>
    refine At.ktext (.q 0 (.q 1 (.n false 2 (.q 3 .done)))) ?_
    refine AtT.kmove ?_
    refine AtT.kfn ?_
    refine AtT.kcallP rfl rfl ok70 (contains_n 71 [.pointer (some ⟨b2, 0, none⟩)] (fun i => decide ((lfL ts).getD i.toNat 0 < 0)) _ _ l hu2 ok71 (fun x hx => notF_f ts x (hin x hx) _ _ a c (cells_blk hb2) hs2)) ?_
    rintro _ rfl
    refine AtT.kassign ?_
    refine AtT.done ?_
    refine At.nrm ?_
    refine At.condT rfl h2 ?_
    refine At.nrm ?_
    refine At.ktext (.q 0 .done) ?_
    refine AtT.kassign ?_
    refine AtT.done ?_
    refine At.nrm ?_
    exact At.ret1 rfl (.tmp rfl) (by rw [ckR_range h0 h1 h2])
  | false =>
  refine At.ktext (.q 0 (.q 1 (.n false 2 (.q 3 .done)))) ?_
  refine AtT.kmove ?_
  refine AtT.kfn ?_
  refine AtT.kcallP rfl rfl ok70 (contains_n 71 [.pointer (some ⟨b2, 0, none⟩)] (fun i => decide ((lfL ts).getD i.toNat 0 < 0)) _ _ l hu2 ok71 (fun x hx => notF_f ts x (hin x hx) _ _ a c (cells_blk hb2) hs2)) ?_
  rintro _ rfl
  refine AtT.kassign ?_
  refine AtT.done ?_
  refine At.nrm ?_
  refine At.condF rfl h2 ?_
  refine At.nrm ?_
  refine At.ktext (.n false 0 .done) ?_
  refine AtT.kalloc z86 ?_
  intro b7
  refine AtT.done ?_
  refine At.nrm ?_
  refine At.ktext (.q 0 (.q 1 (.q 2 .done))) ?_
  refine AtT.kmove ?_
  first | refine AtT.klenS Tryz.underlying38 ?_ | refine AtT.klenR Tryz.underlying38 ?_
  refine AtT.kmove ?_
  refine AtT.done ?_
  refine At.nrm ?_
  obtain ⟨a3, c3, hc3, hs3⟩ := bc_failed hbb
  obtain ⟨a4, c4, hc4, hs4⟩ := bc_left hbb
  have hlt := ls_lt (no := clA ts) ht ts.length
  have hfle := fl_ls (clA ts) ts ts.length
  have hfl1 : (flL ts).length = (lsL ts).length := hfle.1
  refine At.lp (ι := Nat) (KS := fun k => [(5, .pointer (some p)), (7, .pointer (some ⟨b7, 0, none⟩)), (30, .slice a1 l.length c1), (31, iv l.length), (32, iv k)]) (OS := fun k => [.blk b7 (LC (ste (hdK (lfL ts) l k)) 86)]) (VS := fun k V'' => Le V2 V'' ∧ k ≤ l.length ∧ ∀ (j : Nat) (x : Int), j < k → l[j]? = some x → mtB (gtL (lfL ts) x) (hdK (lfL ts) l j) = false) (μ := fun k => l.length - k) 0 ?_ ?_ ?_ ?_
  · exact ⟨rfl, rfl, rfl, rfl, rfl, trivial⟩
  · exact Pt.auto
  · exact ⟨by first | assumption | exact Le.refl _, Nat.zero_le _, fun j y hj => absurd hj (Nat.not_lt_zero j)⟩
  rintro k V3 ks' O' ⟨hV3, hkl, hok⟩ hk hO hl3
  subst hk hO
  have hu3 := hu2.le hV3
  have hcc3 := hc3.le hV3
  have hss3 := hs3.le hV3
  have hcc4 := hc4.le hV3
  have hss4 := hs4.le hV3
  refine At.nrm ?_
  refine At.ktext (.q 0 .done) ?_
  refine AtT.klss ?_
  refine AtT.done ?_
  refine At.nrm ?_
  refine At.condP rfl (fun hp2 => ?_) (fun hp2 => ?_)
  rotate_left
  · have hd : disB (lfL ts) l = true := dis_true fun j x hx => hok j x (by have := (List.getElem?_eq_some_iff.1 hx).1; omega) hx
    refine At.nrm ?_
    refine At.ktext (.q 0 .done) ?_
    refine AtT.kassign ?_
    refine AtT.done ?_
    refine At.nrm ?_
    exact At.ret1 rfl (.tmp rfl) (by rw [ckR_ok h0 h1 h2 hd])
  obtain ⟨x, hx⟩ : ∃ x, l[k]? = some x := ⟨_, List.getElem?_eq_getElem (by omega)⟩
  have hxi := hin x (List.mem_of_getElem? hx)
  obtain ⟨t, htx⟩ : ∃ t, ts[x.toNat]? = some t := ⟨_, List.getElem?_eq_getElem (by omega)⟩
  have hgd : (lfL ts).getD x.toNat 0 = lfI (clA ts) t := by simp [List.getD, lf_at htx]
  have hy0 := ng_at h2 (List.mem_of_getElem? hx)
  rw [hgd] at hy0
  have htf : t.f = true := by
    cases c : t.f with
    | true => rfl
    | false => have := (lfI_neg (no := clA ts)).2 c; omega
  obtain ⟨m, hm1, hm2, hm3⟩ := flK_find (clA ts) htx htf ts.length (by omega) (Nat.le_refl _)
  have hxx : ((x.toNat : Nat) : Int) = x := by omega
  rw [hxx] at hm1 hm3
  have hm1' : (flL ts)[m]? = some x := hm1
  obtain ⟨s, hse⟩ : ∃ s, s = clrB (cbN t.p) (clA ts) := ⟨_, rfl⟩
  rw [← hse] at hm2
  have hm2' : (lsL ts)[m]? = some s := hm2
  have hfx : (flL ts).findIdx? (· == x) = some m := fi_hit hm1' (by simp) hm3
  have hml := (List.getElem?_eq_some_iff.1 hm2').1
  have hgt : gtL (lfL ts) x = s := by
    unfold gtL; rw [hgd]; unfold lfI; rw [if_pos htf, hse]; simp
  have hslt := hlt s (List.mem_of_getElem? hm2')
  have hhd := hdK_lt (l := l) hbd k
  have hnx := hdK_succ (L := lfL ts) hx
  rw [hgt] at hnx
  refine At.nrm ?_
  refine At.ktext (.q 0 (.q 1 (.q 2 .done))) ?_
  refine AtT.kidx Tryz.underlying38 tk3 ?_
  intro p34 e34 he34 hc34
  obtain rfl : x = e34 := by have : l[k]? = some e34 := (by simpa using he34); rw [hx] at this; simpa using this
  first | refine AtT.kloadO tk3 ?_ | refine AtT.kload tk3 ?_
  refine AtT.kassign ?_
  refine AtT.done ?_
  refine At.nrm ?_
  refine At.cutG (ι := Nat) (fun b10 => [(5, .pointer (some p)), (7, .pointer (some ⟨b7, 0, none⟩)), (30, .slice a1 l.length c1), (31, iv l.length), (32, iv k), (10, .pointer (some ⟨b10, 0, none⟩))]) (fun b10 => [.blk b10 (LC (ste s) 86), .blk b7 (LC (ste (hdK (lfL ts) l k)) 86)]) (fun _ V'' => V'' = V3) ?_ ?_
  · refine At.draw (.q 0 (.q 1 (.q 2 (.q 3 (.q 4 (.q 5 (.q 6 (.q 7 (.q 8 (.two 9 (.q 10 (.q 11 (.n false 12 (.n true 13 .done)))) 12 (.n false 9 (.q 10 (.q 11 (.n true 13 .done)))))))))))))) ffm (by kernel_rfl) ?_
    refine AtT.kmove ?_
    refine AtT.knil ?_
    first | refine AtT.kfieldO fo92_2 ?_ | with_reducible refine AtT.kfield2 fo92_2 ?_ | refine AtT.kfield fo92_2 ?_
    first | refine AtT.kloadO tk61 ?_ | refine AtT.kload tk61 ?_
    refine AtT.kmove ?_
    refine AtT.knil ?_
    first | refine AtT.kfieldO fo92_1 ?_ | with_reducible refine AtT.kfield2 fo92_1 ?_ | refine AtT.kfield fo92_1 ?_
    first | refine AtT.kloadO tk38 ?_ | refine AtT.kload tk38 ?_
    refine AtT.kmove ?_
    refine AtT.two ?_ ?_
    focus
      refine AtT.kcallP rfl rfl ok72 (indexI_f (flL ts) x _ _ hss3) ?_
      rintro _ rfl; rw [hfx]; have hix0 : ixI (some m) = (m : Int) := rfl; rw [hix0]
      refine AtT.kidx Tryz.underlying61 tk86 ?_
      intro p46 e46 he46 hc46
      obtain rfl : s = e46 := by have : (lsL ts)[m]? = some e46 := (by simpa using he46); rw [hm2'] at this; simpa using this
      first | refine AtT.kloadOA tk86 ?_ | refine AtT.kloadA tk86 ?_ | refine AtT.kloadOP tk86 ?_
      refine AtT.kalloc z86 ?_
      intro b10
      refine AtT.kstoreA tk86 ?_
      refine AtT.done ?_
    rotate_right
    focus
      refine AtT.kalloc z86 ?_
      intro b10
      refine AtT.kcallP rfl rfl ok72 (indexI_f (flL ts) x _ _ hss3) ?_
      rintro _ rfl; rw [hfx]; have hix0 : ixI (some m) = (m : Int) := rfl; rw [hix0]
      refine AtT.kidx Tryz.underlying61 tk86 ?_
      intro p46 e46 he46 hc46
      obtain rfl : s = e46 := by have : (lsL ts)[m]? = some e46 := (by simpa using he46); rw [hm2'] at this; simpa using this
      first | refine AtT.kloadOA tk86 ?_ | refine AtT.kloadA tk86 ?_ | refine AtT.kloadOP tk86 ?_
      refine AtT.kstoreA tk86 ?_
      refine AtT.done ?_
    all_goals (refine At.nrm ?_)
    all_goals (exact At.meetG b10 rfl ⟨rfl, rfl, rfl, rfl, rfl, rfl, trivial⟩ Pt.auto)
  rintro b10 V4 ks' O' rfl hk hO hl4
  subst hk hO
  refine At.nrm ?_
  cases hm : mtB s (hdK (lfL ts) l k) with
  | true =>
    refine At.ktext (.q 0 (.q 1 (.n false 2 .done))) ?_
    first | refine AtT.kloadOA tk86 ?_ | refine AtT.kloadA tk86 ?_ | refine AtT.kloadOP tk86 ?_
    first | refine AtT.kloadOA tk86 ?_ | refine AtT.kloadA tk86 ?_ | refine AtT.kloadOP tk86 ?_
    refine AtT.kcallP rfl rfl ok60 (meets_f s (hdK (lfL ts) l k) (by omega) (by omega) _) ?_
    rintro _ rfl; rw [hm]
    refine AtT.done ?_
    refine At.nrm ?_
    refine At.condT rfl rfl ?_
    refine At.nrm ?_
    refine At.ktext (.q 0 .done) ?_
    refine AtT.kassign ?_
    refine AtT.done ?_
    refine At.nrm ?_
    exact At.ret1 rfl (.tmp rfl) (by rw [ckR_rule h0 h1 h2 (dis_false hx (by rw [hgt]; exact hm))])
  | false =>
    refine At.ktext (.q 0 (.q 1 (.n false 2 .done))) ?_
    first | refine AtT.kloadOA tk86 ?_ | refine AtT.kloadA tk86 ?_ | refine AtT.kloadOP tk86 ?_
    first | refine AtT.kloadOA tk86 ?_ | refine AtT.kloadA tk86 ?_ | refine AtT.kloadOP tk86 ?_
    refine AtT.kcallP rfl rfl ok60 (meets_f s (hdK (lfL ts) l k) (by omega) (by omega) _) ?_
    rintro _ rfl; rw [hm]
    refine AtT.done ?_
    refine At.nrm ?_
    refine At.condF rfl rfl ?_
    refine At.nrm ?_
    refine At.ktext (.q 0 (.q 1 (.q 2 (.q 3 (.q 4 (.q 5 (.n true 6 .done))))))) ?_
    first | refine AtT.kfieldO fo86_0 ?_ | with_reducible refine AtT.kfield2 fo86_0 ?_ | refine AtT.kfield fo86_0 ?_
    first | refine AtT.kloadO tk3 ?_ | refine AtT.kload tk3 ?_
    first | refine AtT.kfieldO fo86_0 ?_ | with_reducible refine AtT.kfield2 fo86_0 ?_ | refine AtT.kfield fo86_0 ?_
    first | refine AtT.kloadO tk3 ?_ | refine AtT.kload tk3 ?_
    refine AtT.orN rfl trivial rfl rfl rfl rfl (by omega) (by omega) (by decide) (A := hdK (lfL ts) l k) (B := s) ?_
    refine AtT.kbuild (bd86_0 _) ?_
    refine AtT.kstoreA tk86 ?_
    refine AtT.done ?_
    refine At.nrm ?_
    refine At.ktext (.q 0 (.q 1 .done)) ?_
    first | refine AtT.kadd ?_ | refine AtT.kaddW ?_
    refine AtT.kmove ?_
    refine AtT.done ?_
    refine At.nrm ?_
    refine At.round (k + 1) ?_ ?_ ?_ ?_
    · show l.length - (k + 1) < l.length - k; omega
    · refine ⟨hV3, by omega, fun j y' hj hy' => ?_⟩
      by_cases hjk : j = k
      · subst hjk; rw [hx] at hy'; cases hy'; rw [hgt]; exact hm
      · exact hok j y' (by omega) hy'
    · exact ⟨rfl, rfl, rfl, rfl, ivs (by omega), trivial⟩
    rw [hnx]
    · exact Pt.auto
end Go.Proofs.YtfcpmblmklibjaaGreat
set_option linter.unusedVariables false
namespace Go.Proofs.YtfcpmblmklibjaaGreat
open Go.Lw Go.Gl Go.Bl Go.RowKit

theorem arr_at {l : List Int} {i : Nat} {x : Int} (h : l[i]? = some x) : (flat ei l)[i]? = some (iv x) := by rw [flat_ei, List.getElem?_map, h]; rfl
theorem plain3 : Tryz.prog.plainKey 3 = true := by kernel_rfl
theorem cells3 : Tryz.prog.cellsOf 3 = 1 := by kernel_rfl
theorem eqItems3 (w : World) (l m : List Int) : ∀ is : List Nat, (∀ i ∈ is, i < l.length ∧ i < m.length) → (Op.eqItems 9999 3 1 (flat ei l).toArray (flat ei m).toArray is).run Tryz.prog w = .ok (is.all fun i => decide (l.getD i 0 = m.getD i 0)) w
  | [], _ => by simp [Op.eqItems]
  | i :: is, h => by
    obtain ⟨h1, h2⟩ := h i (by simp)
    obtain ⟨x, hx⟩ : ∃ x, l[i]? = some x := ⟨_, List.getElem?_eq_getElem h1⟩
    obtain ⟨y, hy⟩ : ∃ y, m[i]? = some y := ⟨_, List.getElem?_eq_getElem h2⟩
    have ih := eqItems3 w l m is fun j hj => h j (by simp [hj])
    have p1 : (part 3 (flat ei l).toArray (i * 1)).run Tryz.prog w = .ok (iv x) w := run_part_plain w plain3 (by rw [Nat.mul_one]; simpa using arr_at hx)
    have p2 : (part 3 (flat ei m).toArray (i * 1)).run Tryz.prog w = .ok (iv y) w := run_part_plain w plain3 (by rw [Nat.mul_one]; simpa using arr_at hy)
    have e1 : l.getD i 0 = x := by simp [List.getD, hx]
    have e2 : m.getD i 0 = y := by simp [List.getD, hy]
    have p3 : (Op.equalIn 9999 3 (iv x) (iv y)).run Tryz.prog w = .ok (x == y) w := run_equalIn_int w 9998 3 .i64 .i64 x y Tryz.underlying3
    simp only [Op.eqItems, Sem.run_bind, p1, p2, p3, Result.andThen_ok, List.all_cons, e1, e2]
    by_cases c : x = y
    · subst c
      simp [ih]
    · simp [c]
theorem eqS65 (l m : List Int) (h1 : l.length = 15) (h2 : m.length = 15) : EqS Tryz.prog 65 (flat ei l) (flat ei m) (decide (l = m)) := by
  refine ⟨by first | exact Tryz.eqGuardType65 | kernel_rfl, fun w => ?_⟩
  obtain ⟨i3, hi3, _⟩ : ∃ i, Tryz.prog.info? 3 = some i ∧ True := by
    obtain ⟨i, hi, _⟩ := rowB_info rw3
    exact ⟨i, hi, trivial⟩
  have hb : ((List.range 15).all fun i => decide (l.getD i 0 = m.getD i 0)) = decide (l = m) := by
    rw [Bool.eq_iff_iff, List.all_eq_true, decide_eq_true_eq]
    constructor
    · intro h
      apply List.ext_getElem?
      intro i
      by_cases hi : i < 15
      · have := of_decide_eq_true (h i (List.mem_range.2 hi))
        obtain ⟨x, hx⟩ : ∃ x, l[i]? = some x := ⟨_, List.getElem?_eq_getElem (by omega)⟩
        obtain ⟨y, hy⟩ : ∃ y, m[i]? = some y := ⟨_, List.getElem?_eq_getElem (by omega)⟩
        simp only [List.getD, hx, hy, Option.getD_some] at this
        rw [hx, hy, this]
      · rw [List.getElem?_eq_none (by omega), List.getElem?_eq_none (by omega)]
    · rintro rfl i _; simp
  rw [show (10000 : Nat) = 9999 + 1 from rfl, run_equalIn_array w 9999 _ _ Tryz.underlying65 hi3, cells3, eqItems3 w l m _ (fun i hi => by rw [List.mem_range] at hi; omega), hb]
theorem slice101 (b : Nat) (w : World) : (Instr.sliceAt 65 (.pointer (some ⟨b, 0, none⟩)) none none none).run Tryz.prog w = .ok (.slice (some ⟨b, 0, none⟩) 15 15) w := by kernel_rfl
/-- How many sets have each cause. -/
theorem tally_f (L : List Nat) (hlt : ∀ x ∈ L, x < 32768) (hlen : L.length ≤ 32768) (V : View) (v : Value) (hs : Sl V ste 1 v L) : Fnc Tryz.prog 39 [v] V fun r _ => r = .agg (flat ei (tlL L)).toArray := by
  obtain ⟨al, cl, rfl, hx1, hx2, _⟩ := id hs
  clear hx1 hx2
  refine fn_of Tryz.func39 rfl Tryz.ntmps39 (Nat.le_of_ble_eq_true rfl) ?_
  intro w0 hw0
  refine At.nrm ?_
  refine At.ktext (.n false 0 .done) ?_
  refine AtT.kalloc z65 ?_
  intro b2
  refine AtT.done ?_
  refine At.nrm ?_
  refine At.ktext (.n false 0 .done) ?_
  refine AtT.kalloc z65 ?_
  intro b3
  refine AtT.done ?_
  refine At.nrm ?_
  refine At.ktext (.q 0 (.n true 1 .done)) ?_
  refine AtT.slV rfl trivial rfl (slice101 b3) (by decide) ?_
  refine AtT.clearO rfl trivial Tryz.underlying38 z3 rfl (by kernel_rfl) rfl rfl (by repeat (first | exact Upd.here | apply Upd.there)) ?_ (us := flat ei (tlL (L.take 0)))
  refine AtT.done ?_
  refine At.nrm ?_
  refine At.ktext (.q 0 (.q 1 (.q 2 .done))) ?_
  refine AtT.kmove ?_
  first | refine AtT.klenS Tryz.underlying61 ?_ | refine AtT.klenR Tryz.underlying61 ?_
  refine AtT.kmove ?_
  refine AtT.done ?_
  refine At.nrm ?_
  refine At.lp (ι := Nat) (KS := fun k => [(2, .pointer (some ⟨b2, 0, none⟩)), (3, .pointer (some ⟨b3, 0, none⟩)), (9, .slice al L.length cl), (10, iv L.length), (11, iv k)])
    (OS := fun k => [.blk b2 (LC (flat ei (List.replicate 15 0)) 65), .blk b3 (LC (flat ei (tlL (L.take k))) 65)])
    (VS := fun k V' => Le V V' ∧ k ≤ L.length) (μ := fun k => L.length - k) 0 ?_ ?_ ?_ ?_
  · exact ⟨rfl, rfl, rfl, rfl, rfl, trivial⟩
  · exact Pt.auto
  · exact ⟨Le.refl _, Nat.zero_le _⟩
  rintro k V' ks' O' ⟨hVV, hkl⟩ hk hO hl2
  subst hk hO
  have hsv := hs.le hVV
  refine At.nrm ?_
  refine At.ktext (.q 0 .done) ?_
  refine AtT.klss ?_
  refine AtT.done ?_
  refine At.nrm ?_
  refine At.condP rfl (fun hp => ?_) (fun hp => ?_)
  rotate_left
  · obtain rfl : k = L.length := by omega
    rw [List.take_length]
    have hfl : (flat ei (tlL L)).length = 15 := by rw [flat_len Lw.ei_len, tlL_len]
    have hall : (flat ei (tlL L)).all Value.oneCell' = true := by rw [flat_ei, List.all_map, List.all_eq_true]; intro x _; rfl
    refine At.nrm ?_
    refine At.ktext (.q 0 (.n true 1 .done)) ?_
    refine AtT.loadOA rfl trivial rfl tk65 Pick.auto hfl (by decide) ?_
    refine AtT.storeA rfl trivial rfl rfl tk65 hfl rfl hall (by repeat (first | exact Upd.here | apply Upd.there)) ?_
    refine AtT.done ?_
    refine At.nrm ?_
    exact At.ret1 rfl (.agg rfl tk65 Pick.auto hfl) rfl
  obtain ⟨x, hx⟩ : ∃ x, L[k]? = some x := ⟨_, List.getElem?_eq_getElem (by omega)⟩
  have hxb := hlt x (List.mem_of_getElem? hx)
  have hbl := cntK_le x 15
  unfold cntK at hbl
  refine At.nrm ?_
  refine At.cutG (ι := Nat) (fun b5 => [(2, .pointer (some ⟨b2, 0, none⟩)), (3, .pointer (some ⟨b3, 0, none⟩)), (9, .slice al L.length cl), (10, iv L.length), (11, iv k), (5, .pointer (some ⟨b5, 0, none⟩))]) (fun b5 => [.blk b5 (LC (ste x) 86), .blk b2 (LC (flat ei (List.replicate 15 0)) 65), .blk b3 (LC (flat ei (tlL (L.take k))) 65)]) (fun _ V'' => V'' = V') ?_ ?_
  · refine At.ktext (.q 0 (.q 1 (.n false 2 (.n true 3 .done)))) ?_
    refine AtT.kidx Tryz.underlying61 tk86 ?_
    intro p13 e13 he13 hc13
    obtain rfl : x = e13 := by have : L[k]? = some e13 := (by simpa using he13); rw [hx] at this; simpa using this
    first | refine AtT.kloadOA tk86 ?_ | refine AtT.kloadA tk86 ?_ | refine AtT.kloadOP tk86 ?_
    refine AtT.kalloc z86 ?_
    intro b5
    refine AtT.kstoreA tk86 ?_
    refine AtT.done ?_
    refine At.nrm ?_
    all_goals (exact At.meetG b5 rfl ⟨rfl, rfl, rfl, rfl, rfl, rfl, trivial⟩ Pt.auto)
  rintro b5 V4 ks' O' rfl hk hO hl4
  subst hk hO
  refine At.nrm ?_
  refine At.ktext (.q 0 (.n false 1 (.q 2 (.q 3 .done)))) ?_
  first | refine AtT.kloadOA tk86 ?_ | refine AtT.kloadA tk86 ?_ | refine AtT.kloadOP tk86 ?_
  refine AtT.kcall rfl rfl ok67 (list_f x (by omega) _) ?_
  rintro v16 V16 hV16 hs16; obtain ⟨a16, c16, rfl, _⟩ := id hs16
  first | refine AtT.klenS Tryz.underlying38 ?_ | refine AtT.klenR Tryz.underlying38 ?_
  refine AtT.kmove ?_
  refine AtT.done ?_
  refine At.nrm ?_
  refine At.lp (ι := Nat × List Int) (KS := fun g => [(2, .pointer (some ⟨b2, 0, none⟩)), (3, .pointer (some ⟨b3, 0, none⟩)), (9, .slice al L.length cl), (10, iv L.length), (11, iv k), (16, .slice a16 (bitL x 15).length c16), (17, iv (bitL x 15).length), (18, iv g.1)])
    (OS := fun g => [.blk b2 (LC (flat ei (List.replicate 15 0)) 65), .blk b3 (LC (flat ei g.2) 65)])
    (VS := fun g V'' => Le V16 V'' ∧ g.1 ≤ (bitL x 15).length ∧ TlI L k x g.1 g.2) (μ := fun g => (bitL x 15).length - g.1) (0, tlL (L.take k)) ?_ ?_ ?_ ?_
  · exact ⟨rfl, rfl, rfl, rfl, rfl, rfl, rfl, rfl, trivial⟩
  · exact Pt.auto
  · exact ⟨Le.refl _, Nat.zero_le _, tlI_start⟩
  rintro ⟨j, g⟩ V5 ks' O' ⟨hV5, hjl, hti⟩ hk hO hl5
  dsimp only at hjl hti hk hO
  subst hk hO
  have hs5 := hs16.le hV5
  refine At.nrm ?_
  refine At.ktext (.q 0 .done) ?_
  refine AtT.klss ?_
  refine AtT.done ?_
  refine At.nrm ?_
  refine At.condP rfl (fun hp3 => ?_) (fun hp3 => ?_)
  rotate_left
  · obtain rfl : j = (bitL x 15).length := by omega
    have hge := tlI_end hx hti
    subst hge
    refine At.nrm ?_
    refine At.ktext (.q 0 (.q 1 .done)) ?_
    first | refine AtT.kadd ?_ | refine AtT.kaddW ?_
    refine AtT.kmove ?_
    refine AtT.done ?_
    refine At.nrm ?_
    refine At.round (k + 1) ?_ ?_ ?_ ?_
    · show L.length - (k + 1) < L.length - k; omega
    · exact ⟨(hVV.trans hV16).trans hV5, by omega⟩
    · exact ⟨rfl, rfl, rfl, rfl, ivs (by omega), trivial⟩
    · exact Pt.auto
  obtain ⟨z, hz⟩ : ∃ z, (bitL x 15)[j]? = some z := ⟨_, List.getElem?_eq_getElem (by omega)⟩
  obtain ⟨i, hi15, rfl, hib⟩ := bitL_mem.1 (List.mem_of_getElem? hz)
  have hgl := hti.len
  obtain ⟨y, hy⟩ : ∃ y, g[i]? = some y := ⟨_, List.getElem?_eq_getElem (by omega)⟩
  have hyb := tlI_bd hti hy
  have hoff : 0 + (i : Int).toNat * 1 = i := by simp
  have hat : (flat ei g)[0 + (i : Int).toNat * 1]? = some (iv y) := by rw [hoff]; exact arr_at hy
  have hgf : (flat ei g).length = 15 := by rw [flat_len Lw.ei_len, hgl]
  have hset : (flat ei g).set (0 + (i : Int).toNat * 1) (iv (y + 1)) = flat ei (g.set i (y + 1)) := by
    rw [hoff, flat_ei, flat_ei, List.map_set]
  refine At.nrm ?_
  refine At.ktext (.q 0 (.q 1 (.q 2 .done))) ?_
  refine AtT.kidx Tryz.underlying38 tk3 ?_
  intro p20 e20 he20 hc20
  obtain rfl : (i : Int) = e20 := by have : (bitL x 15)[j]? = some e20 := (by simpa using he20); rw [hz] at this; simpa using this
  first | refine AtT.kloadO tk3 ?_ | refine AtT.kload tk3 ?_
  refine AtT.kassign ?_
  refine AtT.done ?_
  refine At.nrm ?_
  refine At.ktext (.q 0 (.q 1 (.q 2 (.q 3 (.q 4 (.n true 5 .done)))))) ?_
  refine AtT.kmove ?_
  refine AtT.kidxA Tryz.underlying65 tk3 ?_
  refine AtT.loadO rfl trivial rfl tk3 Pick.auto hat (by decide) ?_
  first | refine AtT.kadd ?_ | refine AtT.kaddW ?_
  refine AtT.kidxA Tryz.underlying65 tk3 ?_
  refine AtT.store1 rfl trivial rfl rfl tk3 rfl rfl (by repeat (first | exact Upd.here | apply Upd.there)) (setAt_of (by rw [hoff, hgf]; exact hi15) hset) ?_
  refine AtT.done ?_
  refine At.nrm ?_
  refine At.ktext (.q 0 (.q 1 .done)) ?_
  first | refine AtT.kadd ?_ | refine AtT.kaddW ?_
  refine AtT.kmove ?_
  refine AtT.done ?_
  refine At.nrm ?_
  refine At.round (j + 1, g.set i (y + 1)) ?_ ?_ ?_ ?_
  · show (bitL x 15).length - (j + 1) < (bitL x 15).length - j; omega
  · exact ⟨hV5, by dsimp only; omega, tlI_step hti hz hi15 hy⟩
  · exact ⟨rfl, rfl, rfl, rfl, rfl, rfl, rfl, ivs (by dsimp only; omega), trivial⟩
  · exact Pt.auto
end Go.Proofs.YtfcpmblmklibjaaGreat
set_option linter.unusedVariables false
namespace Go.Proofs.YtfcpmblmklibjaaGreat
open Go.Lw Go.Gl Go.Bl Go.RowKit

theorem fails_f (L : List Nat) (hlt : ∀ x ∈ L, x < 32768) (hlen : L.length ≤ 32768) (p : Pq) (hp : sndB p = true) (V : View) (v : Value) (hs : Sl V ste 1 v L) : Fnc Tryz.prog 44 [v, pqv p] V fun r _ => r = iv (flN L p) := by
  obtain ⟨al, cl, rfl, hx1, hx2, _⟩ := id hs
  clear hx1 hx2
  have hcb := cbN_lt hp
  refine fn_of Tryz.func44 rfl Tryz.ntmps44 (Nat.le_of_ble_eq_true rfl) ?_
  intro w0 hw0
  refine At.nrm ?_
  refine At.ktext (.n false 0 (.q 1 .done)) ?_
  refine AtT.kbox ?_
  intro b3
  refine AtT.kassign ?_
  refine AtT.done ?_
  refine At.nrm ?_
  refine At.ktext (.q 0 .done) ?_
  refine AtT.kassign ?_
  refine AtT.done ?_
  refine At.nrm ?_
  by_cases hz : tlL L = List.replicate 15 0
  · refine At.ktext (.q 0 (.n false 1 (.q 2 (.q 3 .done)))) ?_
    refine AtT.kmove ?_
    refine AtT.kcallP rfl rfl ok39 (tally_f L hlt hlen _ _ hs) ?_
    rintro _ rfl
    refine AtT.kbuild (bd65) ?_
    refine AtT.keqS (eqS65 (tlL L) (List.replicate 15 0) (tlL_len L) rfl) ?_
    refine AtT.done ?_
    refine At.nrm ?_
    refine At.condT rfl (decide_eq_true hz) ?_
    refine At.nrm ?_
    refine At.ktext (.q 0 (.q 1 .done)) ?_
    refine AtT.kmove ?_
    refine AtT.kassign ?_
    refine AtT.done ?_
    refine At.nrm ?_
    exact At.ret1 rfl (.tmp rfl) (by rw [fl_none hp hz]; rfl)
  refine At.ktext (.q 0 (.n false 1 (.q 2 (.q 3 .done)))) ?_
  refine AtT.kmove ?_
  refine AtT.kcallP rfl rfl ok39 (tally_f L hlt hlen _ _ hs) ?_
  rintro _ rfl
  refine AtT.kbuild (bd65) ?_
  refine AtT.keqS (eqS65 (tlL L) (List.replicate 15 0) (tlL_len L) rfl) ?_
  refine AtT.done ?_
  refine At.nrm ?_
  refine At.condF rfl (decide_eq_false hz) ?_
  refine At.nrm ?_
  refine At.ktext (.q 0 (.n false 1 (.q 2 (.q 3 .done)))) ?_
  first | refine AtT.kloadOA tk24 ?_ | refine AtT.kloadA tk24 ?_ | refine AtT.kloadOP tk24 ?_
  refine AtT.kcallP rfl rfl ok66 (causes_f p hp _) ?_
  rintro _ rfl
  refine AtT.kfn ?_
  refine AtT.kassign ?_
  refine AtT.done ?_
  refine At.nrm ?_
  refine At.ktext (.q 0 (.q 1 (.q 2 .done))) ?_
  refine AtT.kmove ?_
  first | refine AtT.klenS Tryz.underlying61 ?_ | refine AtT.klenR Tryz.underlying61 ?_
  refine AtT.kmove ?_
  refine AtT.done ?_
  refine At.nrm ?_
  refine At.lp (ι := Nat) (KS := fun k => [(5, iv (flN (L.take k) p)), (6, .func (.func 60) #[stv (cbN p)] #[]), (17, .slice al L.length cl), (18, iv L.length), (19, iv k)])
    (OS := fun k => [])
    (VS := fun k V' => V' = V ∧ k ≤ L.length) (μ := fun k => L.length - k) 0 ?_ ?_ ?_ ?_
  · exact ⟨rfl, rfl, rfl, rfl, rfl, trivial⟩
  · exact Pt.auto
  · exact ⟨rfl, Nat.zero_le _⟩
  rintro k V' ks' O' ⟨rfl, hkl⟩ hk hO hl2
  subst hk hO
  refine At.nrm ?_
  refine At.ktext (.q 0 .done) ?_
  refine AtT.klss ?_
  refine AtT.done ?_
  refine At.nrm ?_
  refine At.condP rfl (fun hp2 => ?_) (fun hp2 => ?_)
  rotate_left
  · obtain rfl : k = L.length := by omega
    rw [List.take_length]
    refine At.nrm ?_
    refine At.ktext (.q 0 (.q 1 .done)) ?_
    refine AtT.kmove ?_
    refine AtT.kassign ?_
    refine AtT.done ?_
    refine At.nrm ?_
    exact At.ret1 rfl (.tmp rfl) rfl
  obtain ⟨x, hx⟩ : ∃ x, L[k]? = some x := ⟨_, List.getElem?_eq_getElem (by omega)⟩
  have hxb := hlt x (List.mem_of_getElem? hx)
  have hst := flN_take (p := p) hx
  have hfl := flN_le (L.take k) p
  rw [List.length_take] at hfl
  have hmeet : Fnc Tryz.prog 60 ([stv (cbN p)] ++ [stv x] ++ []) V' fun r _ => r = .bool (mtB (cbN p) x) := meets_f (cbN p) x (by omega) (by omega) V'
  refine At.nrmB ?_
  refine At.cutG (ι := Unit) (fun _ => [(5, iv (flN (L.take (k + 1)) p)), (6, .func (.func 60) #[stv (cbN p)] #[]), (17, .slice al L.length cl), (18, iv L.length), (19, iv k)]) (fun _ => []) (fun _ V'' => V'' = V') ?_ ?_
  · refine At.nrm ?_
    refine At.ktext (.q 0 (.q 1 (.n false 2 (.n true 3 .done)))) ?_
    refine AtT.kidx Tryz.underlying61 tk86 ?_
    intro p21 e21 he21 hc21
    obtain rfl : x = e21 := by have : L[k]? = some e21 := (by simpa using he21); rw [hx] at this; simpa using this
    first | refine AtT.kloadOA tk86 ?_ | refine AtT.kloadA tk86 ?_ | refine AtT.kloadOP tk86 ?_
    refine AtT.kalloc z86 ?_
    intro b8
    refine AtT.kstoreA tk86 ?_
    refine AtT.done ?_
    refine At.nrm ?_
    refine At.ktext (.q 0 (.q 1 (.n false 2 .done))) ?_
    refine AtT.kmove ?_
    first | refine AtT.kloadOA tk86 ?_ | refine AtT.kloadA tk86 ?_ | refine AtT.kloadOP tk86 ?_
    refine AtT.kcallV rfl rfl rfl ok60 (hmeet) ?_
    rintro _ rfl
    refine AtT.done ?_
    refine At.nrm ?_
    cases hm : mtB (cbN p) x with
    | true =>
      rw [hm, if_pos rfl] at hst
      refine At.condT rfl rfl ?_
      refine At.nrm ?_
      refine At.ktext (.q 0 (.q 1 (.q 2 .done))) ?_
      refine AtT.kmove ?_
      first | refine AtT.kadd ?_ | refine AtT.kaddW ?_
      refine AtT.kassign ?_
      refine AtT.done ?_
      refine At.nrm ?_
      refine At.meetG () rfl ⟨?_, rfl, rfl, rfl, rfl, trivial⟩ Pt.auto
      exact ivs (by omega)
    | false =>
      rw [hm, if_neg (by decide)] at hst
      refine At.condF rfl rfl ?_
      refine At.nrm ?_
      refine At.meetG () rfl ⟨?_, rfl, rfl, rfl, rfl, trivial⟩ Pt.auto
      exact ivs (by omega)
  rintro _ V3 ks' O' rfl hk hO hl3
  subst hk hO
  refine At.nrm ?_
  refine At.ktext (.q 0 (.q 1 .done)) ?_
  first | refine AtT.kadd ?_ | refine AtT.kaddW ?_
  refine AtT.kmove ?_
  refine AtT.done ?_
  refine At.nrm ?_
  refine At.round (k + 1) ?_ ?_ ?_ ?_
  · show L.length - (k + 1) < L.length - k; omega
  · exact ⟨rfl, by omega⟩
  · exact ⟨rfl, rfl, rfl, rfl, ivs (by omega), trivial⟩
  · exact Pt.auto
theorem failsF_tr (ts : List Tq) (h : trE ts ≠ 0) (p : Pq) (V : View) (v : Value) (hs : Sl V tqe 4 v ts) : Fnc Tryz.prog 9 [v, pqv p] V fun r _ => r = .tuple #[iv 0, iv (trE ts)] := by
  refine fn_of Tryz.func9 rfl Tryz.ntmps9 (Nat.le_of_ble_eq_true rfl) ?_
  intro w0 hw0
  refine At.nrm ?_
  refine At.ktext (.n false 0 (.q 1 (.q 2 .done))) ?_
  refine AtT.kbox ?_
  intro b3
  refine AtT.kassign ?_
  refine AtT.kassign ?_
  refine AtT.done ?_
  refine At.nrm ?_
  refine At.ktext (.q 0 (.n false 1 (.q 2 .done))) ?_
  refine AtT.kmove ?_
  refine AtT.kcallP rfl rfl ok36 (trials_f ts _ _ hs) ?_
  rintro _ rfl
  refine AtT.kassign ?_
  refine AtT.done ?_
  refine At.nrm ?_
  refine At.ktext (.q 0 (.q 1 .done)) ?_
  refine AtT.kmove ?_
  refine AtT.kneI ?_
  refine AtT.done ?_
  refine At.nrm ?_
  refine At.condT rfl (decide_eq_true h) ?_
  refine At.nrm ?_
  refine At.ktext (.q 0 (.q 1 (.q 2 .done))) ?_
  refine AtT.kmove ?_
  refine AtT.kassign ?_
  refine AtT.kassign ?_
  refine AtT.done ?_
  refine At.nrm ?_
  exact At.ret2 rfl (.tmp rfl) (.tmp rfl) rfl
theorem failsF_bad (ts : List Tq) (h : trE ts = 0) (p : Pq) (hp : sndB p = false) (V : View) (v : Value) (hs : Sl V tqe 4 v ts) : Fnc Tryz.prog 9 [v, pqv p] V fun r _ => r = .tuple #[iv 0, iv 3] := by
  refine fn_of Tryz.func9 rfl Tryz.ntmps9 (Nat.le_of_ble_eq_true rfl) ?_
  intro w0 hw0
  refine At.nrm ?_
  refine At.ktext (.n false 0 (.q 1 (.q 2 .done))) ?_
  refine AtT.kbox ?_
  intro b3
  refine AtT.kassign ?_
  refine AtT.kassign ?_
  refine AtT.done ?_
  refine At.nrm ?_
  refine At.ktext (.q 0 (.n false 1 (.q 2 .done))) ?_
  refine AtT.kmove ?_
  refine AtT.kcallP rfl rfl ok36 (trials_f ts _ _ hs) ?_
  rintro _ rfl; rw [h]
  refine AtT.kassign ?_
  refine AtT.done ?_
  refine At.nrm ?_
  refine At.ktext (.q 0 (.q 1 .done)) ?_
  refine AtT.kmove ?_
  refine AtT.kneI ?_
  refine AtT.done ?_
  refine At.nrm ?_
  refine At.condF rfl (decide_eq_false (by simp)) ?_
  refine At.nrm ?_
  refine At.ktext (.q 0 (.n false 1 (.q 2 .done))) ?_
  first | refine AtT.kloadOA tk24 ?_ | refine AtT.kloadA tk24 ?_ | refine AtT.kloadOP tk24 ?_
  refine AtT.kcallP rfl rfl ok43 (sound_f p _) ?_
  rintro _ rfl; rw [hp]
  refine AtT.knot ?_
  refine AtT.done ?_
  refine At.nrm ?_
  refine At.condT rfl rfl ?_
  refine At.nrm ?_
  refine At.ktext (.q 0 (.q 1 .done)) ?_
  refine AtT.kassign ?_
  refine AtT.kassign ?_
  refine AtT.done ?_
  refine At.nrm ?_
  exact At.ret2 rfl (.tmp rfl) (.tmp rfl) rfl
theorem failsF_no (ts : List Tq) (h : trE ts = 0) (h2 : alE ts ≠ 0) (p : Pq) (hp : sndB p = true) (V : View) (v : Value) (hs : Sl V tqe 4 v ts) : Fnc Tryz.prog 9 [v, pqv p] V fun r _ => r = .tuple #[iv 0, iv (alE ts)] := by
  refine fn_of Tryz.func9 rfl Tryz.ntmps9 (Nat.le_of_ble_eq_true rfl) ?_
  intro w0 hw0
  refine At.nrm ?_
  refine At.ktext (.n false 0 (.q 1 (.q 2 .done))) ?_
  refine AtT.kbox ?_
  intro b3
  refine AtT.kassign ?_
  refine AtT.kassign ?_
  refine AtT.done ?_
  refine At.nrm ?_
  refine At.ktext (.q 0 (.n false 1 (.q 2 .done))) ?_
  refine AtT.kmove ?_
  refine AtT.kcallP rfl rfl ok36 (trials_f ts _ _ hs) ?_
  rintro _ rfl; rw [h]
  refine AtT.kassign ?_
  refine AtT.done ?_
  refine At.nrm ?_
  refine At.ktext (.q 0 (.q 1 .done)) ?_
  refine AtT.kmove ?_
  refine AtT.kneI ?_
  refine AtT.done ?_
  refine At.nrm ?_
  refine At.condF rfl (decide_eq_false (by simp)) ?_
  refine At.nrm ?_
  refine At.ktext (.q 0 (.n false 1 (.q 2 .done))) ?_
  first | refine AtT.kloadOA tk24 ?_ | refine AtT.kloadA tk24 ?_ | refine AtT.kloadOP tk24 ?_
  refine AtT.kcallP rfl rfl ok43 (sound_f p _) ?_
  rintro _ rfl; rw [hp]
  refine AtT.knot ?_
  refine AtT.done ?_
  refine At.nrm ?_
  refine At.condF rfl rfl ?_
  refine At.nrm ?_
  refine At.ktext (.q 0 (.n false 1 (.q 2 (.q 3 (.q 4 (.q 5 (.q 6 (.q 7 (.q 8 .done))))))))) ?_
  refine AtT.kmove ?_
  refine AtT.kcallP rfl rfl ok38 (explained_bad ts h2 _ _ hs) ?_
  rintro _ rfl
  refine AtT.kmove ?_
  refine AtT.kextract ?_
  refine AtT.kextract ?_
  refine AtT.kextract ?_
  refine AtT.kassign ?_
  refine AtT.kassign ?_
  refine AtT.kassign ?_
  refine AtT.done ?_
  refine At.nrm ?_
  refine At.ktext (.q 0 (.q 1 .done)) ?_
  refine AtT.kmove ?_
  refine AtT.kneI ?_
  refine AtT.done ?_
  refine At.nrm ?_
  refine At.condT rfl (decide_eq_true h2) ?_
  refine At.nrm ?_
  refine At.ktext (.q 0 (.q 1 (.q 2 .done))) ?_
  refine AtT.kmove ?_
  refine AtT.kassign ?_
  refine AtT.kassign ?_
  refine AtT.done ?_
  refine At.nrm ?_
  exact At.ret2 rfl (.tmp rfl) (.tmp rfl) rfl
theorem failsF_ok (ts : List Tq) (h2 : alE ts = 0) (p : Pq) (hp : sndB p = true) (V : View) (v : Value) (hs : Sl V tqe 4 v ts) : Fnc Tryz.prog 9 [v, pqv p] V fun r _ => ∃ L, AlS ts L ∧ r = .tuple #[iv (flN L p), iv 0] := by
  have h := (alE_zero h2).1
  refine fn_of Tryz.func9 rfl Tryz.ntmps9 (Nat.le_of_ble_eq_true rfl) ?_
  intro w0 hw0
  refine At.nrm ?_
  refine At.ktext (.n false 0 (.q 1 (.q 2 .done))) ?_
  refine AtT.kbox ?_
  intro b3
  refine AtT.kassign ?_
  refine AtT.kassign ?_
  refine AtT.done ?_
  refine At.nrm ?_
  refine At.ktext (.q 0 (.n false 1 (.q 2 .done))) ?_
  refine AtT.kmove ?_
  refine AtT.kcallP rfl rfl ok36 (trials_f ts _ _ hs) ?_
  rintro _ rfl; rw [h]
  refine AtT.kassign ?_
  refine AtT.done ?_
  refine At.nrm ?_
  refine At.ktext (.q 0 (.q 1 .done)) ?_
  refine AtT.kmove ?_
  refine AtT.kneI ?_
  refine AtT.done ?_
  refine At.nrm ?_
  refine At.condF rfl (decide_eq_false (by simp)) ?_
  refine At.nrm ?_
  refine At.ktext (.q 0 (.n false 1 (.q 2 .done))) ?_
  first | refine AtT.kloadOA tk24 ?_ | refine AtT.kloadA tk24 ?_ | refine AtT.kloadOP tk24 ?_
  refine AtT.kcallP rfl rfl ok43 (sound_f p _) ?_
  rintro _ rfl; rw [hp]
  refine AtT.knot ?_
  refine AtT.done ?_
  refine At.nrm ?_
  refine At.condF rfl rfl ?_
  refine At.nrm ?_
  refine At.ktext (.q 0 (.n false 1 (.q 2 (.q 3 (.q 4 (.q 5 (.q 6 (.q 7 (.q 8 .done))))))))) ?_
  refine AtT.kmove ?_
  refine AtT.kcall rfl rfl ok38 (explainedA ts h2 _ _ hs) ?_
  rintro _ V20 hV20 ⟨q, u, L, rfl, hbc, hsl, hal⟩
  refine AtT.kmove ?_
  refine AtT.kextract ?_
  refine AtT.kextract ?_
  refine AtT.kextract ?_
  refine AtT.kassign ?_
  refine AtT.kassign ?_
  refine AtT.kassign ?_
  refine AtT.done ?_
  refine At.nrm ?_
  refine At.ktext (.q 0 (.q 1 .done)) ?_
  refine AtT.kmove ?_
  refine AtT.kneI ?_
  refine AtT.done ?_
  refine At.nrm ?_
  refine At.condF rfl (decide_eq_false (by simp)) ?_
  refine At.nrm ?_
  refine At.ktext (.q 0 (.q 1 (.n false 2 (.q 3 (.q 4 .done))))) ?_
  refine AtT.kmove ?_
  first | refine AtT.kloadOA tk24 ?_ | refine AtT.kloadA tk24 ?_ | refine AtT.kloadOP tk24 ?_
  refine AtT.kcallP rfl rfl ok44 (fails_f L (als_lt hal) (als_len hal) p hp _ _ hsl) ?_
  rintro _ rfl
  refine AtT.kassign ?_
  refine AtT.kassign ?_
  refine AtT.done ?_
  refine At.nrm ?_
  exact At.ret2 rfl (.tmp rfl) (.tmp rfl) ⟨L, hal, rfl⟩
/-- When a cause is to blame. -/
def bmN (L : List Nat) (c : Nat) : Int := if tN L c = 0 then 0 else if tN L c = L.length then 2 else 1
theorem index101 (l : List Int) (hl : l.length = 15) (c : Nat) (x : Int) (h : l[c]? = some x) (w : World) : (Instr.index 65 (.agg (flat ei l).toArray) (iv c)).run Tryz.prog w = .ok (iv x) w := by
  have hc : c < 15 := by have := (List.getElem?_eq_some_iff.1 h).1; omega
  have h0 : (0 : Int) ≤ (c : Int) ∧ (c : Int) < ((15 : Nat) : Int) := by omega
  have p1 : (part 3 (flat ei l).toArray (c * 1)).run Tryz.prog w = .ok (iv x) w := run_part_plain w plain3 (by rw [Nat.mul_one]; simpa using arr_at h)
  simp only [Instr.index, run_underlying Tryz.underlying65, asIntOf, Sem.run_bind, Sem.run_pure, Result.andThen_ok, if_pos h0, Go.Lw.run_sizeOf tk3, Int.toNat_natCast]
  exact p1
theorem blame_tr (ts : List Tq) (h : trE ts ≠ 0) (c : Int) (V : View) (v : Value) (hs : Sl V tqe 4 v ts) : Fnc Tryz.prog 7 [v, iv c] V fun r _ => r = .tuple #[iv 0, iv (trE ts)] := by
  refine fn_of Tryz.func7 rfl Tryz.ntmps7 (Nat.le_of_ble_eq_true rfl) ?_
  intro w0 hw0
  refine At.nrm ?_
  refine At.ktext (.q 0 (.q 1 .done)) ?_
  refine AtT.kassign ?_
  refine AtT.kassign ?_
  refine AtT.done ?_
  refine At.nrm ?_
  refine At.ktext (.q 0 (.n false 1 (.q 2 .done))) ?_
  refine AtT.kmove ?_
  refine AtT.kcallP rfl rfl ok36 (trials_f ts _ _ hs) ?_
  rintro _ rfl
  refine AtT.kassign ?_
  refine AtT.done ?_
  refine At.nrm ?_
  refine At.ktext (.q 0 (.q 1 (.q 2 .done))) ?_
  refine AtT.kmove ?_
  refine AtT.kneI ?_
  refine AtT.kassign ?_
  refine AtT.done ?_
  refine At.nrm ?_
  refine At.condT rfl (decide_eq_true h) ?_
  refine At.nrm ?_
  refine At.ktext (.q 0 (.q 1 (.q 2 .done))) ?_
  refine AtT.kmove ?_
  refine AtT.kassign ?_
  refine AtT.kassign ?_
  refine AtT.done ?_
  refine At.nrm ?_
  exact At.ret2 rfl (.tmp rfl) (.tmp rfl) rfl
theorem wi_one (c : Int) : wi 0 14 [c] = decide (0 ≤ c ∧ c ≤ 14) := by
  simp only [wi, List.any_cons, List.any_nil, outB]
  by_cases h1 : c < 0 <;> by_cases h2 : 14 < c <;> simp [h1, h2] <;> omega
theorem blame_bad (ts : List Tq) (h : trE ts = 0) (c : Int) (hc : ¬ (0 ≤ c ∧ c ≤ 14)) (V : View) (v : Value) (hs : Sl V tqe 4 v ts) : Fnc Tryz.prog 7 [v, iv c] V fun r _ => r = .tuple #[iv 0, iv 2] := by
  refine fn_of Tryz.func7 rfl Tryz.ntmps7 (Nat.le_of_ble_eq_true rfl) ?_
  intro w0 hw0
  refine At.nrm ?_
  refine At.ktext (.q 0 (.q 1 .done)) ?_
  refine AtT.kassign ?_
  refine AtT.kassign ?_
  refine AtT.done ?_
  refine At.nrm ?_
  refine At.ktext (.q 0 (.n false 1 (.q 2 .done))) ?_
  refine AtT.kmove ?_
  refine AtT.kcallP rfl rfl ok36 (trials_f ts _ _ hs) ?_
  rintro _ rfl; rw [h]
  refine AtT.kassign ?_
  refine AtT.done ?_
  refine At.nrm ?_
  refine At.ktext (.q 0 (.q 1 (.q 2 .done))) ?_
  refine AtT.kmove ?_
  refine AtT.kneI ?_
  refine AtT.kassign ?_
  refine AtT.done ?_
  refine At.nrm ?_
  refine At.condF rfl (decide_eq_false (by simp)) ?_
  refine At.nrm ?_
  refine At.ktext (.q 0 (.n false 1 (.n false 2 (.q 3 (.q 4 .done))))) ?_
  refine AtT.kmove ?_
  refine AtT.kbsliceG (bs38_1_0 _) ?_
  intro q17 V17 hV17 hq17
  have g17 : Le V V17 := by first | exact hV17 | exact Le.trans (by assumption) hV17
  refine AtT.kcallP rfl rfl ok37 (within_f 0 14 [c] _ _ (Sl.lit hq17 rfl (by simp))) ?_
  rintro _ rfl; rw [wi_one, decide_eq_false hc]
  refine AtT.knot ?_
  refine AtT.kassign ?_
  refine AtT.done ?_
  refine At.nrm ?_
  refine At.condT rfl rfl ?_
  refine At.nrm ?_
  refine At.ktext (.q 0 (.q 1 .done)) ?_
  refine AtT.kassign ?_
  refine AtT.kassign ?_
  refine AtT.done ?_
  refine At.nrm ?_
  exact At.ret2 rfl (.tmp rfl) (.tmp rfl) rfl
theorem blame_no (ts : List Tq) (h : trE ts = 0) (h2 : alE ts ≠ 0) (c : Int) (hc : 0 ≤ c ∧ c ≤ 14) (V : View) (v : Value) (hs : Sl V tqe 4 v ts) : Fnc Tryz.prog 7 [v, iv c] V fun r _ => r = .tuple #[iv 0, iv (alE ts)] := by
  refine fn_of Tryz.func7 rfl Tryz.ntmps7 (Nat.le_of_ble_eq_true rfl) ?_
  intro w0 hw0
  refine At.nrm ?_
  refine At.ktext (.q 0 (.q 1 .done)) ?_
  refine AtT.kassign ?_
  refine AtT.kassign ?_
  refine AtT.done ?_
  refine At.nrm ?_
  refine At.ktext (.q 0 (.n false 1 (.q 2 .done))) ?_
  refine AtT.kmove ?_
  refine AtT.kcallP rfl rfl ok36 (trials_f ts _ _ hs) ?_
  rintro _ rfl; rw [h]
  refine AtT.kassign ?_
  refine AtT.done ?_
  refine At.nrm ?_
  refine At.ktext (.q 0 (.q 1 (.q 2 .done))) ?_
  refine AtT.kmove ?_
  refine AtT.kneI ?_
  refine AtT.kassign ?_
  refine AtT.done ?_
  refine At.nrm ?_
  refine At.condF rfl (decide_eq_false (by simp)) ?_
  refine At.nrm ?_
  refine At.ktext (.q 0 (.n false 1 (.n false 2 (.q 3 (.q 4 .done))))) ?_
  refine AtT.kmove ?_
  refine AtT.kbsliceG (bs38_1_0 _) ?_
  intro q17 V17 hV17 hq17
  have g17 : Le V V17 := by first | exact hV17 | exact Le.trans (by assumption) hV17
  refine AtT.kcallP rfl rfl ok37 (within_f 0 14 [c] _ _ (Sl.lit hq17 rfl (by simp))) ?_
  rintro _ rfl; rw [wi_one, decide_eq_true hc]
  refine AtT.knot ?_
  refine AtT.kassign ?_
  refine AtT.done ?_
  refine At.nrm ?_
  refine At.condF rfl rfl ?_
  refine At.nrm ?_
  refine At.ktext (.q 0 (.n false 1 (.q 2 (.q 3 (.q 4 (.q 5 (.q 6 (.q 7 (.q 8 .done))))))))) ?_
  refine AtT.kmove ?_
  refine AtT.kcallP rfl rfl ok38 (explained_bad ts h2 _ _ (hs.le hV17)) ?_
  rintro _ rfl
  refine AtT.kmove ?_
  refine AtT.kextract ?_
  refine AtT.kextract ?_
  refine AtT.kextract ?_
  refine AtT.kassign ?_
  refine AtT.kassign ?_
  refine AtT.kassign ?_
  refine AtT.done ?_
  refine At.nrm ?_
  refine At.ktext (.q 0 (.q 1 .done)) ?_
  refine AtT.kmove ?_
  refine AtT.kneI ?_
  refine AtT.done ?_
  refine At.nrm ?_
  refine At.condT rfl (decide_eq_true h2) ?_
  refine At.nrm ?_
  refine At.ktext (.q 0 (.q 1 (.q 2 .done))) ?_
  refine AtT.kmove ?_
  refine AtT.kassign ?_
  refine AtT.kassign ?_
  refine AtT.done ?_
  refine At.nrm ?_
  exact At.ret2 rfl (.tmp rfl) (.tmp rfl) rfl
theorem blame_ok (ts : List Tq) (h2 : alE ts = 0) (c : Nat) (hc : c < 15) (V : View) (v : Value) (hs : Sl V tqe 4 v ts) : Fnc Tryz.prog 7 [v, iv c] V fun r _ => ∃ L, AlS ts L ∧ r = .tuple #[iv (bmN L c), iv 0] := by
  have h := (alE_zero h2).1
  refine fn_of Tryz.func7 rfl Tryz.ntmps7 (Nat.le_of_ble_eq_true rfl) ?_
  intro w0 hw0
  refine At.nrm ?_
  refine At.ktext (.q 0 (.q 1 .done)) ?_
  refine AtT.kassign ?_
  refine AtT.kassign ?_
  refine AtT.done ?_
  refine At.nrm ?_
  refine At.ktext (.q 0 (.n false 1 (.q 2 .done))) ?_
  refine AtT.kmove ?_
  refine AtT.kcallP rfl rfl ok36 (trials_f ts _ _ hs) ?_
  rintro _ rfl; rw [h]
  refine AtT.kassign ?_
  refine AtT.done ?_
  refine At.nrm ?_
  refine At.ktext (.q 0 (.q 1 (.q 2 .done))) ?_
  refine AtT.kmove ?_
  refine AtT.kneI ?_
  refine AtT.kassign ?_
  refine AtT.done ?_
  refine At.nrm ?_
  refine At.condF rfl (decide_eq_false (by simp)) ?_
  refine At.nrm ?_
  refine At.ktext (.q 0 (.n false 1 (.n false 2 (.q 3 (.q 4 .done))))) ?_
  refine AtT.kmove ?_
  refine AtT.kbsliceG (bs38_1_0 _) ?_
  intro q17 V17 hV17 hq17
  have g17 : Le V V17 := by first | exact hV17 | exact Le.trans (by assumption) hV17
  refine AtT.kcallP rfl rfl ok37 (within_f 0 14 [(c : Int)] _ _ (Sl.lit hq17 rfl (by simp))) ?_
  rintro _ rfl; rw [wi_one, decide_eq_true (by omega)]
  refine AtT.knot ?_
  refine AtT.kassign ?_
  refine AtT.done ?_
  refine At.nrm ?_
  refine At.condF rfl rfl ?_
  refine At.nrm ?_
  refine At.ktext (.q 0 (.n false 1 (.q 2 (.q 3 (.q 4 (.q 5 (.q 6 (.q 7 (.q 8 .done))))))))) ?_
  refine AtT.kmove ?_
  refine AtT.kcall rfl rfl ok38 (explainedA ts h2 _ _ (hs.le hV17)) ?_
  rintro _ V20 hV20 ⟨q, u, L, rfl, hbc, hsl, hal⟩
  refine AtT.kmove ?_
  refine AtT.kextract ?_
  refine AtT.kextract ?_
  refine AtT.kextract ?_
  refine AtT.kassign ?_
  refine AtT.kassign ?_
  refine AtT.kassign ?_
  refine AtT.done ?_
  refine At.nrm ?_
  obtain ⟨a24, c24, rfl, k1, k2, _⟩ := id hsl
  clear k1 k2
  have htn := tN_le L c
  refine At.ktext (.q 0 (.q 1 .done)) ?_
  refine AtT.kmove ?_
  refine AtT.kneI ?_
  refine AtT.done ?_
  refine At.nrm ?_
  refine At.condF rfl (decide_eq_false (by simp)) ?_
  refine At.nrm ?_
  refine At.ktext (.q 0 (.n false 1 (.q 2 (.q 3 .done)))) ?_
  refine AtT.kmove ?_
  refine AtT.kcallP rfl rfl ok39 (tally_f L (als_lt hal) (als_len hal) _ _ hsl) ?_
  rintro _ rfl
  refine AtT.kmove ?_
  refine AtT.ixV rfl trivial rfl rfl (index101 (tlL L) (tlL_len L) c _ (tlL_at hc)) (by decide) ?_
  refine AtT.done ?_
  refine At.nrm ?_
  refine At.ktext (.q 0 (.q 1 .done)) ?_
  refine AtT.keqI ?_
  refine AtT.kassign ?_
  refine AtT.done ?_
  refine At.nrm ?_
  refine At.condP rfl (fun h3 => ?_) (fun h3 => ?_)
  · refine At.nrm ?_
    refine At.ktext (.q 0 (.q 1 .done)) ?_
    refine AtT.kassign ?_
    refine AtT.kassign ?_
    refine AtT.done ?_
    refine At.nrm ?_
    exact At.ret2 rfl (.tmp rfl) (.tmp rfl) ⟨L, hal, by unfold bmN; rw [if_pos (by omega)]⟩
  refine At.nrm ?_
  refine At.ktext (.q 0 (.q 1 (.q 2 (.q 3 .done)))) ?_
  refine AtT.kmove ?_
  first | refine AtT.klenS Tryz.underlying61 ?_ | refine AtT.klenR Tryz.underlying61 ?_
  refine AtT.keqI ?_
  refine AtT.kassign ?_
  refine AtT.done ?_
  refine At.nrm ?_
  refine At.condP rfl (fun h4 => ?_) (fun h4 => ?_)
  · refine At.nrm ?_
    refine At.ktext (.q 0 (.q 1 .done)) ?_
    refine AtT.kassign ?_
    refine AtT.kassign ?_
    refine AtT.done ?_
    refine At.nrm ?_
    exact At.ret2 rfl (.tmp rfl) (.tmp rfl) ⟨L, hal, by unfold bmN; rw [if_neg (by omega), if_pos (by omega)]⟩
  refine At.nrm ?_
  refine At.ktext (.q 0 (.q 1 .done)) ?_
  refine AtT.kassign ?_
  refine AtT.kassign ?_
  refine AtT.done ?_
  refine At.nrm ?_
  exact At.ret2 rfl (.tmp rfl) (.tmp rfl) ⟨L, hal, by unfold bmN; rw [if_neg (by omega), if_neg (by omega)]⟩
end Go.Proofs.YtfcpmblmklibjaaGreat
set_option linter.unusedVariables false
namespace Go.Proofs.YtfcpmblmklibjaaGreat
open Go.Lw Go.Gl Go.Bl Go.RowKit

theorem tells_f (L : List Nat) (hlt : ∀ x ∈ L, x < 32768) (hlen : L.length ≤ 32768) (p : Pq) (hp : sndB p = true) (V : View) (q : Addr) (u : Value) (hq : Cells V q [u]) (hs : Sl V ste 1 u L) : Fnc Tryz.prog 47 ([] ++ [pqv p] ++ [.pointer (some q)]) V fun r _ => r = iv (tel L p) := by
  have hfl := flN_le L p
  obtain ⟨a, c, rfl, k1, k2, _⟩ := id hs
  clear k1 k2
  refine fn_of Tryz.func47 rfl Tryz.ntmps47 (Nat.le_of_ble_eq_true rfl) ?_
  intro w0 hw0
  refine At.nrm ?_
  refine At.ktext (.n false 0 (.q 1 .done)) ?_
  refine AtT.kbox ?_
  intro b2
  refine AtT.kassign ?_
  refine AtT.done ?_
  refine At.nrm ?_
  refine At.ktext (.q 0 (.q 1 (.n false 2 (.q 3 .done)))) ?_
  first | refine AtT.kloadO tk61 ?_ | refine AtT.kload tk61 ?_
  first | refine AtT.kloadOA tk24 ?_ | refine AtT.kloadA tk24 ?_ | refine AtT.kloadOP tk24 ?_
  refine AtT.kcallP rfl rfl ok44 (fails_f L hlt hlen p hp _ _ hs) ?_
  rintro _ rfl
  refine AtT.kassign ?_
  refine AtT.done ?_
  refine At.nrm ?_
  refine At.ktext (.q 0 (.q 1 (.q 2 (.q 3 (.q 4 (.q 5 (.q 6 .done))))))) ?_
  refine AtT.kmove ?_
  first | refine AtT.kloadO tk61 ?_ | refine AtT.kload tk61 ?_
  first | refine AtT.klenS Tryz.underlying61 ?_ | refine AtT.klenR Tryz.underlying61 ?_
  refine AtT.kmove ?_
  first | refine AtT.ksubt ?_ | refine AtT.ksubW ?_
  refine AtT.kmin2 ?_
  refine AtT.kassign ?_
  refine AtT.done ?_
  refine At.nrm ?_
  exact At.ret1 rfl (.tmp rfl) rfl
theorem more_f (L : List Nat) (hlt : ∀ x ∈ L, x < 32768) (hlen : L.length ≤ 32768) (p p' : Pq) (hp : sndB p = true) (hp' : sndB p' = true) (V : View) (q q2 : Addr) (u : Value) (hq2 : Cells V q2 [.func (.func 47) #[] #[.pointer (some q)]]) (hq : Cells V q [u]) (hs : Sl V ste 1 u L) : Fnc Tryz.prog 51 ([] ++ [pqv p, pqv p'] ++ [.pointer (some q2)]) V fun r _ => r = .bool (decide (tel L p' < tel L p)) := by
  have t1 := fun V' hV => tells_f L hlt hlen p hp V' q u (hq.le (V := V) hV) (hs.le hV)
  have t2 := fun V' hV => tells_f L hlt hlen p' hp' V' q u (hq.le (V := V) hV) (hs.le hV)
  refine fn_of Tryz.func51 rfl Tryz.ntmps51 (Nat.le_of_ble_eq_true rfl) ?_
  intro w0 hw0
  refine At.nrm ?_
  refine At.ktext (.n false 0 (.n false 1 (.q 2 .done))) ?_
  refine AtT.kbox ?_
  intro b3
  refine AtT.kbox ?_
  intro b4
  refine AtT.kassign ?_
  refine AtT.done ?_
  refine At.nrm ?_
  refine At.draw (.q 0 (.q 1 (.q 3 (.q 4 (.n false 2 (.n false 5 (.q 6 (.q 7 .done)))))))) ffm (by kernel_rfl) ?_
  first | refine AtT.kloadO tk70 ?_ | refine AtT.kload tk70 ?_
  first | refine AtT.kloadOA tk24 ?_ | refine AtT.kloadA tk24 ?_ | refine AtT.kloadOP tk24 ?_
  first | refine AtT.kloadO tk70 ?_ | refine AtT.kload tk70 ?_
  first | refine AtT.kloadOA tk24 ?_ | refine AtT.kloadA tk24 ?_ | refine AtT.kloadOP tk24 ?_
  refine AtT.kcallV rfl rfl rfl ok47 (t1 _ (Le.refl _)) ?_
  rintro _ rfl
  refine AtT.kcallV rfl rfl rfl ok47 (t2 _ (Le.refl _)) ?_
  rintro _ rfl
  refine AtT.kgtr ?_
  refine AtT.kassign ?_
  refine AtT.done ?_
  refine At.nrm ?_
  all_goals (exact At.ret1 rfl (.tmp rfl) rfl)
theorem best_b (g : FuncId) (cap : List Value) (lt : Pq → Pq → Bool) (V : View) (vl : Value) (x0 : Pq) (l : List Pq) (hs : Sl V pqe 3 vl (x0 :: l)) (hok : CallOk Tryz.prog g)
    (hc : ∀ x y, x ∈ x0 :: l → y ∈ x0 :: l → Fnc Tryz.prog g ([] ++ [pqv x, pqv y] ++ cap) V (fun v _ => v = .bool (lt x y))) :
    Fnc Tryz.prog 48 [vl, .func (.func g) #[] cap.toArray] V fun v _ => v = pqv (bst lt x0 l) := by
  have hlen := hs.lenLe
  simp only [List.length_cons] at hlen
  refine fn_of Tryz.func48 rfl Tryz.ntmps48 (Nat.le_of_ble_eq_true rfl) ?_
  intro w0 hw0
  refine At.nrm ?_
  refine At.ktext (.n false 0 .done) ?_
  refine AtT.kalloc z24 ?_
  intro b4
  refine AtT.done ?_
  refine At.nrm ?_
  refine At.ktext (.q 0 (.q 1 (.q 2 (.n false 3 (.n true 4 .done))))) ?_
  refine AtT.kmove ?_
  have hpos : (0 : Int) < ((x0 :: l).length : Int) := by simp only [List.length_cons]; omega
  refine AtT.kidx Tryz.underlying72 tk24 ?_
  intro p9 e9 he9 hc9
  obtain rfl : x0 = e9 := by simpa using he9
  first | refine AtT.kloadOA tk24 ?_ | refine AtT.kloadA tk24 ?_ | refine AtT.kloadOP tk24 ?_
  refine AtT.kalloc z24 ?_
  intro b5
  refine AtT.kstoreA tk24 ?_
  refine AtT.done ?_
  refine At.nrm ?_
  refine At.ktext (.q 0 (.q 1 (.q 2 (.q 3 .done)))) ?_
  refine AtT.kmove ?_
  have hpos1 : (1 : Int) ≤ ((x0 :: l).length : Int) := by simp only [List.length_cons]; omega
  refine AtT.ktail Tryz.underlying72 tk24 ?_
  intro a12 c12 hs12
  first | refine AtT.klenS Tryz.underlying72 ?_ | refine AtT.klenR Tryz.underlying72 ?_
  refine AtT.kmove ?_
  refine AtT.done ?_
  refine At.nrm ?_
  refine At.lp (ι := Nat) (KS := fun k => [(1, .func (.func g) #[] cap.toArray), (4, .pointer (some ⟨b4, 0, none⟩)), (5, .pointer (some ⟨b5, 0, none⟩)), (12, .slice a12 l.length c12), (13, iv l.length), (14, iv k)])
    (OS := fun k => [.blk b5 (LC (pqe (bst lt x0 (l.take k))) 24), .blk b4 (LC [iv 0, iv 0, iv 0] 24)])
    (VS := fun k V' => V' = V ∧ k ≤ l.length) (μ := fun k => l.length - k) 0 ?_ ?_ ?_ ?_
  · exact ⟨rfl, rfl, rfl, rfl, rfl, rfl, trivial⟩
  · exact Pt.auto
  · exact ⟨rfl, Nat.zero_le _⟩
  rintro k V' ks' O' ⟨rfl, hkl⟩ hk hO hl
  subst hk hO
  have hs' : Sl V' pqe 3 (.slice a12 l.length c12) l := hs12
  refine At.nrm ?_
  refine At.ktext (.q 0 .done) ?_
  refine AtT.klss ?_
  refine AtT.done ?_
  refine At.nrm ?_
  refine At.condP rfl (fun hp => ?_) (fun hp => ?_)
  rotate_left
  · obtain rfl : k = l.length := by omega
    rw [List.take_length]
    refine At.nrm ?_
    refine At.ktext (.q 0 (.n true 1 .done)) ?_
    first | refine AtT.kloadOA tk24 ?_ | refine AtT.kloadA tk24 ?_ | refine AtT.kloadOP tk24 ?_
    refine AtT.kstoreA tk24 ?_
    refine AtT.done ?_
    refine At.nrm ?_
    exact At.ret1 rfl (.agg rfl tk24 Pick.auto rfl) rfl
  obtain ⟨x, hx⟩ : ∃ x, l[k]? = some x := ⟨_, List.getElem?_eq_getElem (by omega)⟩
  have hmem : bst lt x0 (l.take k) ∈ x0 :: l := bst_memT lt l x0 k
  have hnx := bst_take lt (out := x0) hx
  refine At.nrmB ?_
  refine At.cutG (ι := Unit) (fun _ => [(1, .func (.func g) #[] cap.toArray), (4, .pointer (some ⟨b4, 0, none⟩)), (5, .pointer (some ⟨b5, 0, none⟩)), (12, .slice a12 l.length c12), (13, iv l.length), (14, iv k)]) (fun _ => [.blk b5 (LC (pqe (bst lt x0 (l.take (k + 1)))) 24), .blk b4 (LC [iv 0, iv 0, iv 0] 24)]) (fun _ V'' => V'' = V') ?_ ?_
  · refine At.nrm ?_
    refine At.ktext (.q 0 (.q 1 (.n false 2 (.n true 3 .done)))) ?_
    refine AtT.kidx Tryz.underlying72 tk24 ?_
    intro p16 e16 he16 hc16
    obtain rfl : x = e16 := by have : l[k]? = some e16 := (by simpa using he16); rw [hx] at this; simpa using this
    first | refine AtT.kloadOA tk24 ?_ | refine AtT.kloadA tk24 ?_ | refine AtT.kloadOP tk24 ?_
    refine AtT.kalloc z24 ?_
    intro b7
    refine AtT.kstoreA tk24 ?_
    refine AtT.done ?_
    refine At.nrm ?_
    refine At.ktext (.q 0 (.q 1 (.q 2 (.n false 3 .done)))) ?_
    refine AtT.kmove ?_
    first | refine AtT.kloadOA tk24 ?_ | refine AtT.kloadA tk24 ?_ | refine AtT.kloadOP tk24 ?_
    first | refine AtT.kloadOA tk24 ?_ | refine AtT.kloadA tk24 ?_ | refine AtT.kloadOP tk24 ?_
    refine AtT.kcallV rfl rfl rfl hok (hc x (bst lt x0 (l.take k)) (List.mem_cons_of_mem _ (List.mem_of_getElem? hx)) hmem) ?_
    rintro _ rfl
    refine AtT.done ?_
    refine At.nrm ?_
    refine At.cond rfl (fun hb => ?_) (fun hb => ?_)
    · rw [if_pos hb] at hnx
      refine At.nrm ?_
      refine At.ktext (.q 0 (.n true 1 .done)) ?_
      first | refine AtT.kloadOA tk24 ?_ | refine AtT.kloadA tk24 ?_ | refine AtT.kloadOP tk24 ?_
      refine AtT.kstoreA tk24 ?_
      refine AtT.done ?_
      refine At.nrm ?_
      refine At.meetG () rfl ⟨rfl, rfl, rfl, rfl, rfl, rfl, trivial⟩ ?_
      rw [hnx]
      · exact Pt.auto
    · rw [if_neg (by rw [hb]; simp)] at hnx
      refine At.nrm ?_
      refine At.meetG () rfl ⟨rfl, rfl, rfl, rfl, rfl, rfl, trivial⟩ ?_
      rw [hnx]
      · exact Pt.auto
  rintro _ V3 ks' O' rfl hk hO hl3
  subst hk hO
  refine At.nrm ?_
  refine At.ktext (.q 0 (.q 1 .done)) ?_
  first | refine AtT.kadd ?_ | refine AtT.kaddW ?_
  refine AtT.kmove ?_
  refine AtT.done ?_
  refine At.nrm ?_
  refine At.round (k + 1) ?_ ?_ ?_ ?_
  · show l.length - (k + 1) < l.length - k; omega
  · exact ⟨rfl, by omega⟩
  · exact ⟨rfl, rfl, rfl, rfl, rfl, ivs (by omega), trivial⟩
  · exact Pt.auto
abbrev ysP : List (List Value) := panL.map fun p => [pqv p]
theorem ysP_at {k : Nat} (h : k < 125) : ysP[k]? = some [pqv (pnK k)] := by simp only [ysP, List.getElem?_map, panL_at h]; rfl
theorem ysP_len : ysP.length = 125 := by rw [ysP, List.length_map, panL_len]
/-- The function that runs over all panels. -/
theorem iterP_f (V : View) : It Tryz.prog 81 [] V ysP := by
  refine it_of Tryz.func81 rfl Tryz.ntmps81 (Nat.le_of_ble_eq_true rfl) rfl ?_
  intro l J E w0 H hJ
  refine At.nrm ?_
  refine At.ktext (.q 0 .done) ?_
  refine AtT.kassign ?_
  refine AtT.done ?_
  refine At.nrm ?_
  refine At.ktext (.q 0 (.q 1 (.q 2 (.q 3 (.q 4 (.q 5 .done)))))) ?_
  refine AtT.kmove ?_
  refine AtT.kmove ?_
  first | refine AtT.kmul ?_ | refine AtT.kmulW ?_
  refine AtT.kmove ?_
  first | refine AtT.kmul ?_ | refine AtT.kmulW ?_
  refine AtT.kmove ?_
  refine AtT.done ?_
  refine At.nrm ?_
  refine At.lpY H (ι := Nat) (fun k => k ≤ 125) (fun k => [(0, .func (.yield l) #[] #[]), (2, iv 5), (8, iv 125), (9, iv k)]) (fun k => k) (fun k => 125 - k) 0 (Nat.zero_le _) ⟨rfl, rfl, rfl, rfl, trivial⟩ hJ ?_
  rintro k w ks' hkl hJ rfl
  refine At.nrm ?_
  refine At.ktext (.q 0 .done) ?_
  refine AtT.klss ?_
  refine AtT.done ?_
  refine At.nrm ?_
  refine At.condP rfl (fun hp => ?_) (fun hp => ?_)
  · have hk : k < 125 := by omega
    have q1 : (k : Int).tdiv 5 = ((k / 5 : Nat) : Int) := rfl
    have q2 : ((k / 5 : Nat) : Int).tdiv 5 = ((k / 25 : Nat) : Int) := by rw [show k / 25 = k / 5 / 5 by omega]; rfl
    have q3 : ((k / 5 : Nat) : Int).tmod 5 = ((k / 5 % 5 : Nat) : Int) := rfl
    have q4 : (k : Int).tmod 5 = ((k % 5 : Nat) : Int) := rfl
    have hy := ysP_at hk
    refine At.nrm ?_
    refine At.ktext (.q 0 (.q 1 .done)) ?_
    refine AtT.kmove ?_
    refine AtT.kassign ?_
    refine AtT.done ?_
    refine At.nrm ?_
    refine At.draw (.q 0 (.q 1 (.q 2 (.q 3 (.q 4 (.q 5 (.q 6 (.q 7 (.q 8 (.q 9 (.q 10 (.q 11 (.q 12 (.q 13 (.q 14 (.n true 15 (.q 16 .done))))))))))))))))) ffm (by kernel_rfl) ?_
    refine AtT.kmove ?_
    refine AtT.kmove ?_
    refine AtT.kmove ?_
    refine AtT.kquo ?_
    rw [q1]
    refine AtT.kmove ?_
    refine AtT.kquo ?_
    rw [q2]
    refine AtT.kmove ?_
    refine AtT.kmove ?_
    refine AtT.kquo ?_
    rw [q1]
    refine AtT.kmove ?_
    refine AtT.krem ?_
    rw [q3]
    refine AtT.kmove ?_
    refine AtT.kmove ?_
    refine AtT.krem ?_
    rw [q4]
    refine AtT.kbuild (bd24_0_1_2 _ _ _) ?_
    refine AtT.yield rfl trivial rfl rfl H (hy) (hJ) (by decide) ?_ ?_
    all_goals (intro w27 hJ27)
    all_goals (refine AtT.knot ?_)
    all_goals refine AtT.done ?_
    all_goals (refine At.nrm ?_)
    · refine At.condF rfl rfl ?_
      refine At.nrm ?_
      refine At.ktext (.q 0 (.q 1 .done)) ?_
      first | refine AtT.kadd ?_ | refine AtT.kaddW ?_
      refine AtT.kmove ?_
      refine AtT.done ?_
      refine At.nrm ?_
      refine At.roundY H (k + 1) ?_ (by omega) ?_ hJ27
      · show 125 - (k + 1) < 125 - k; omega
      · exact ⟨rfl, rfl, rfl, ivs (by omega), trivial⟩
    · refine At.condT rfl rfl ?_
      refine At.nrm ?_
      exact At.itEnd H (.inr rfl) rfl (.inr hJ27)
  · obtain rfl : k = 125 := by omega
    refine At.nrm ?_
    exact At.itEnd H (.inl rfl) rfl (.inl (by rw [ysP_len]; exact hJ))
end Go.Proofs.YtfcpmblmklibjaaGreat
set_option linter.unusedVariables false
namespace Go.Proofs.YtfcpmblmklibjaaGreat
open Go.Lw Go.Gl Go.Bl Go.RowKit

theorem pqe_all (p : Pq) : (pqe p).all Value.oneCell' = true := rfl
theorem appendSeq_f (V : View) : Fnc Tryz.prog 80 [.slice none 0 0, .func (.func 81) #[] #[]] V fun r V' => Sl V' pqe 3 r panL := by
  refine fn_ofM Tryz.func80 rfl Tryz.ntmps80 (Nat.le_of_ble_eq_true rfl) ?_
  intro w0 hw0
  refine At.nrm ?_
  refine At.ktext (.n false 0 (.q 1 .done)) ?_
  refine AtT.kbox ?_
  intro b2
  refine AtT.kassign ?_
  refine AtT.done ?_
  refine At.nrm ?_
  refine At.ktext (.q 0 .done) ?_
  refine AtT.kmove ?_
  refine AtT.done ?_
  refine At.nrm ?_
  refine At.newRow 24 3 ?_
  refine At.rangeFunc (Vi := V) (ys := ysP) (caps := []) (ι := Nat × Option Addr × Nat) (fun g => g.1)
    (fun g => [.blk b2 (LC [.slice g.2.1 g.1 g.2.2] 72), .row (.slice g.2.1 g.1 g.2.2) 24 3 g.1 (flat pqe (panL.take g.1))])
    (fun g V' => Le V V') (fun _ _ _ => False) rfl ok81 (0, none, 0) rfl ?_ (Le.refl _) (iterP_f V) (fun _ _ h => h) (by decide) (fun y hy => by obtain ⟨p, _, rfl⟩ := List.mem_map.1 hy; rfl) rfl ?_ ?_ (fun _ _ _ _ h => h.elim)
  · exact Pt.auto
  · rintro ⟨k, ao, co⟩ y l D r V' ks' O' hy hVV hl rfl rfl
    dsimp only at hy ⊢
    have hk : k < 125 := by
      have := (List.getElem?_eq_some_iff.1 hy).1
      rwa [ysP_len] at this
    obtain rfl : y = [pqv (pnK k)] := by rw [ysP_at hk] at hy; exact (Option.some.inj hy).symm
    have htk := take_snoc' (panL_at hk)
    have htl : (panL.take k).length = k := by rw [List.length_take, panL_len]; omega
    show At _ _ ((7, pqv (pnK k)) :: _) _ _ _
    refine At.nrm ?_
    refine At.ktext (.n false 0 (.n true 1 .done)) ?_
    refine AtT.kalloc z24 ?_
    intro b5
    refine AtT.kstoreA tk24 ?_
    refine AtT.done ?_
    refine At.nrm ?_
    refine At.begin Pick.auto ?_
    refine At.nrm ?_
    refine At.ktext (.q 0 (.q 1 (.n false 2 (.n true 3 (.n true 4 .done))))) ?_
    first | refine AtT.kloadO tk72 ?_ | refine AtT.kload tk72 ?_
    first | refine AtT.kloadOA tk24 ?_ | refine AtT.kloadA tk24 ?_ | refine AtT.kloadOP tk24 ?_
    refine AtT.kbsliceG (bs72_1_0 _ _ _) ?_
    intro q10 V10 hV10 hq10
    have g10 : Le V V10 := by first | exact hV10 | exact Le.trans (by assumption) hV10
    first | refine AtT.kappend Tryz.underlying72 rw24 ?_
    intro a11 c11
    first | refine AtT.kstore1 tk72 ?_ | refine AtT.kstoreA tk72 ?_
    refine AtT.done ?_
    refine At.nrm ?_
    refine At.roundN (k + 1, a11, c11) rfl (hVV.trans (by first | assumption | exact Le.refl _)) Pick.auto ?_
    dsimp only
    rw [htk, flat_snoc]
    · exact Pt.auto
  rintro ⟨k, ao, co⟩ D V3 O' hk hVV hl rfl
  dsimp only at hk ⊢
  rw [ysP_len] at hk
  subst hk
  rw [show panL.take 125 = panL from List.take_of_length_le (by rw [panL_len]; exact Nat.le_refl _)]
  refine At.giveSl (l := panL) pqe_len rfl panL_len.symm Pick.auto (fun V4 hV4 hs4 => ?_)
  refine At.sub (ks' := [(2, .pointer (some ⟨b2, 0, none⟩))]) ⟨rfl, trivial⟩ ?_
  refine At.nrm ?_
  refine At.ktext (.q 0 (.q 1 .done)) ?_
  first | refine AtT.kloadO tk72 ?_ | refine AtT.kload tk72 ?_
  refine AtT.kassign ?_
  refine AtT.done ?_
  refine At.nrm ?_
  refine At.unmark (.inl rfl) rfl Pick.auto ?_
  exact At.ret1 rfl (.tmp rfl) hs4
theorem collect_f (V : View) : Fnc Tryz.prog 49 [.func (.func 81) #[] #[]] V fun r V' => Sl V' pqe 3 r panL := by
  refine fn_of Tryz.func49 rfl Tryz.ntmps49 (Nat.le_of_ble_eq_true rfl) ?_
  intro w0 hw0
  refine At.nrm ?_
  refine At.ktext (.q 0 .done) ?_
  refine AtT.kassign ?_
  refine AtT.done ?_
  refine At.nrm ?_
  refine At.ktext (.q 0 (.n false 1 (.q 2 .done))) ?_
  refine AtT.kmove ?_
  refine AtT.kcall rfl rfl ok80 (appendSeq_f _) ?_
  rintro v4 V4 hV4 hs4
  refine AtT.kassign ?_
  refine AtT.done ?_
  refine At.nrm ?_
  exact At.ret1 rfl (.tmp rfl) hs4
theorem panels_f (V : View) : Fnc Tryz.prog 50 [] V fun r _ => r = .func (.func 81) #[] #[] := by
  refine fn_of Tryz.func50 rfl Tryz.ntmps50 (Nat.le_of_ble_eq_true rfl) ?_
  intro w0 hw0
  refine At.nrm ?_
  refine At.ktext (.q 0 .done) ?_
  refine AtT.kassign ?_
  refine AtT.done ?_
  refine At.nrm ?_
  refine At.ktext (.q 0 .done) ?_
  refine AtT.kassign ?_
  refine AtT.done ?_
  refine At.nrm ?_
  exact At.ret1 rfl (.tmp rfl) rfl
theorem next_bad (ts : List Tq) (h : alE ts ≠ 0) (V : View) (v : Value) (hs : Sl V tqe 4 v ts) : Fnc Tryz.prog 11 [v] V fun r _ => r = .tuple #[pqv ⟨0, 0, 0⟩, iv 0, iv (alE ts)] := by
  refine fn_of Tryz.func11 rfl Tryz.ntmps11 (Nat.le_of_ble_eq_true rfl) ?_
  intro w0 hw0
  refine At.nrm ?_
  refine At.ktext (.n false 0 (.q 1 (.q 2 .done))) ?_
  refine AtT.kalloc z24 ?_
  intro b2
  refine AtT.kassign ?_
  refine AtT.kassign ?_
  refine AtT.done ?_
  refine At.nrm ?_
  refine At.ktext (.q 0 (.n false 1 (.q 2 (.q 3 (.q 4 (.q 5 (.n false 6 (.q 7 (.n true 8 (.q 9 .done)))))))))) ?_
  refine AtT.kmove ?_
  refine AtT.kcallP rfl rfl ok38 (explained_bad ts h _ _ hs) ?_
  rintro _ rfl
  refine AtT.kmove ?_
  refine AtT.kextract ?_
  refine AtT.kextract ?_
  refine AtT.kextract ?_
  refine AtT.kalloc z61 ?_
  intro b6
  refine AtT.kassign ?_
  first | refine AtT.kstore1 tk61 ?_ | refine AtT.kstoreA tk61 ?_
  refine AtT.kassign ?_
  refine AtT.done ?_
  refine At.nrm ?_
  refine At.ktext (.q 0 (.q 1 .done)) ?_
  refine AtT.kmove ?_
  refine AtT.kneI ?_
  refine AtT.done ?_
  refine At.nrm ?_
  refine At.condT rfl (decide_eq_true h) ?_
  refine At.nrm ?_
  refine At.ktext (.q 0 (.q 1 (.n true 2 (.q 3 (.q 4 .done))))) ?_
  refine AtT.kbuild (bd24) ?_
  refine AtT.kmove ?_
  refine AtT.kstoreA tk24 ?_
  refine AtT.kassign ?_
  refine AtT.kassign ?_
  refine AtT.done ?_
  refine At.nrm ?_
  exact At.ret3 rfl (.agg rfl tk24 Pick.auto rfl) (.tmp rfl) (.tmp rfl) rfl
/-- The panel that tells most, how much it tells, and the error. -/
def nxR (L : List Nat) : Pq × Int × Int := if tel L (mostP L) = 0 then (⟨0, 0, 0⟩, 0, 5) else (mostP L, tel L (mostP L), 0)
theorem next_ok (ts : List Tq) (h : alE ts = 0) (V : View) (v : Value) (hs : Sl V tqe 4 v ts) : Fnc Tryz.prog 11 [v] V fun r _ => ∃ L, AlS ts L ∧ r = .tuple #[pqv (nxR L).1, iv (nxR L).2.1, iv (nxR L).2.2] := by
  refine fn_of Tryz.func11 rfl Tryz.ntmps11 (Nat.le_of_ble_eq_true rfl) ?_
  intro w0 hw0
  refine At.nrm ?_
  refine At.ktext (.n false 0 (.q 1 (.q 2 .done))) ?_
  refine AtT.kalloc z24 ?_
  intro b2
  refine AtT.kassign ?_
  refine AtT.kassign ?_
  refine AtT.done ?_
  refine At.nrm ?_
  refine At.ktext (.q 0 (.n false 1 (.q 2 (.q 3 (.q 4 (.q 5 (.n false 6 (.q 7 (.n true 8 (.q 9 .done)))))))))) ?_
  refine AtT.kmove ?_
  refine AtT.kcall rfl rfl ok38 (explainedA ts h _ _ hs) ?_
  rintro _ V12 hV12 ⟨p, u, L, rfl, hbc, hsl, hal⟩; obtain ⟨au, cu, rfl, _⟩ := id hsl
  refine AtT.kmove ?_
  refine AtT.kextract ?_
  refine AtT.kextract ?_
  refine AtT.kextract ?_
  refine AtT.kalloc z61 ?_
  intro b6
  refine AtT.kassign ?_
  first | refine AtT.kstore1 tk61 ?_ | refine AtT.kstoreA tk61 ?_
  refine AtT.kassign ?_
  refine AtT.done ?_
  refine At.nrm ?_
  have hlt := als_lt hal
  have hlen := als_len hal
  have hms := panL_snd _ (mostP_mem L)
  refine At.giveB (b := b6) Pick.auto (fun V1 hV1 hb6 => ?_)
  have hsl1 := hsl.le hV1
  refine At.ktext (.q 0 (.q 1 .done)) ?_
  refine AtT.kmove ?_
  refine AtT.kneI ?_
  refine AtT.done ?_
  refine At.nrm ?_
  refine At.condF rfl (decide_eq_false (by simp)) ?_
  refine At.nrm ?_
  refine At.ktext (.q 0 (.n false 1 (.n true 2 .done))) ?_
  refine AtT.kfn ?_
  refine AtT.kalloc z70 ?_
  intro b8
  first | refine AtT.kstore1 tk70 ?_ | refine AtT.kstoreA tk70 ?_
  refine AtT.done ?_
  refine At.nrm ?_
  refine At.giveB (b := b8) Pick.auto (fun V2 hV2 hb8 => ?_)
  have hc6 := (cells_blk hb6).le hV2
  have hc8 := cells_blk hb8
  have hsl2 := hsl1.le hV2
  have tl : ∀ (V' : View) (hV : Le V2 V') (p : Pq), sndB p = true → Fnc Tryz.prog 47 ([] ++ [pqv p] ++ [.pointer (some ⟨b6, 0, none⟩)]) V' fun r _ => r = iv (tel L p) := fun V' hV p hp => tells_f L hlt hlen p hp V' _ _ (hc6.le hV) (hsl2.le hV)
  refine At.ktext (.n false 0 (.n false 1 (.q 2 (.n false 3 (.n false 4 (.n true 5 .done)))))) ?_
  refine AtT.kcallP rfl rfl ok50 (panels_f _) ?_
  rintro _ rfl
  refine AtT.kcall rfl rfl ok49 (collect_f _) ?_
  rintro v22 V22 hV22 hs22
  refine AtT.kfn ?_
  refine AtT.kcallP rfl rfl ok48 (best_b 51 [.pointer (some ⟨b8, 0, none⟩)] (fun p q => decide (tel L q < tel L p)) _ _ (pnK 0) panL.tail (by rw [← panL_cons]; exact hs22) ok51 (fun x y hx hy => by rw [← panL_cons] at hx hy; exact more_f L hlt hlen x y (panL_snd x hx) (panL_snd y hy) _ _ _ _ (hc8.le hV22) (hc6.le hV22) (hsl2.le hV22))) ?_
  rintro _ rfl
  refine AtT.kalloc z24 ?_
  intro b9
  refine AtT.kstoreA tk24 ?_
  refine AtT.done ?_
  refine At.nrm ?_
  have t22 := tl _ hV22 (mostP L) hms
  have hc8' := hc8.le hV22
  show At _ _ _ (.blk b9 (LC (pqe (mostP L)) 24) :: _) _ _
  by_cases hz : tel L (mostP L) = 0
  · refine At.ktext (.q 0 (.q 1 (.n false 2 (.q 3 .done)))) ?_
    first | refine AtT.kloadO tk70 ?_ | refine AtT.kload tk70 ?_
    first | refine AtT.kloadOA tk24 ?_ | refine AtT.kloadA tk24 ?_ | refine AtT.kloadOP tk24 ?_
    refine AtT.kcallV rfl rfl rfl ok47 (t22) ?_
    rintro _ rfl
    refine AtT.keqI ?_
    refine AtT.done ?_
    refine At.nrm ?_
    refine At.condT rfl (decide_eq_true hz) ?_
    refine At.nrm ?_
    refine At.ktext (.q 0 (.n true 1 (.q 2 (.q 3 .done)))) ?_
    refine AtT.kbuild (bd24) ?_
    refine AtT.kstoreA tk24 ?_
    refine AtT.kassign ?_
    refine AtT.kassign ?_
    refine AtT.done ?_
    refine At.nrm ?_
    exact At.ret3 rfl (.agg rfl tk24 Pick.auto rfl) (.tmp rfl) (.tmp rfl) ⟨L, hal, by unfold nxR; rw [if_pos hz]⟩
  · refine At.ktext (.q 0 (.q 1 (.n false 2 (.q 3 .done)))) ?_
    first | refine AtT.kloadO tk70 ?_ | refine AtT.kload tk70 ?_
    first | refine AtT.kloadOA tk24 ?_ | refine AtT.kloadA tk24 ?_ | refine AtT.kloadOP tk24 ?_
    refine AtT.kcallV rfl rfl rfl ok47 (t22) ?_
    rintro _ rfl
    refine AtT.keqI ?_
    refine AtT.done ?_
    refine At.nrm ?_
    refine At.condF rfl (decide_eq_false hz) ?_
    refine At.nrm ?_
    refine At.draw (.q 0 (.q 1 (.q 2 (.n false 3 (.n true 4 (.q 5 (.q 6 .done))))))) ffm (by kernel_rfl) ?_
    first | refine AtT.kloadOA tk24 ?_ | refine AtT.kloadA tk24 ?_ | refine AtT.kloadOP tk24 ?_
    first | refine AtT.kloadO tk70 ?_ | refine AtT.kload tk70 ?_
    first | refine AtT.kloadOA tk24 ?_ | refine AtT.kloadA tk24 ?_ | refine AtT.kloadOP tk24 ?_
    refine AtT.kcallV rfl rfl rfl ok47 (t22) ?_
    rintro _ rfl
    refine AtT.kstoreA tk24 ?_
    refine AtT.kassign ?_
    refine AtT.kassign ?_
    refine AtT.done ?_
    refine At.nrm ?_
    all_goals (exact At.ret3 rfl (.agg rfl tk24 Pick.auto rfl) (.tmp rfl) (.tmp rfl) ⟨L, hal, by unfold nxR; rw [if_neg hz]⟩)
end Go.Proofs.YtfcpmblmklibjaaGreat
set_option linter.unusedVariables false
namespace Go.Proofs.YtfcpmblmklibjaaGreat
open Go.Lw Go.Gl Go.Bl Go.RowKit

theorem given_f (ts : List Tq) (he : trE ts = 0) (by' : List U8) (bits : Int) (hb0 : 0 ≤ bits ∧ bits ≤ 65535) (V : View) (v vb : Value) (hs : Sl V tqe 4 v ts) (hy : Sl V e8 1 vb by') (hy1 : by'.length ≤ 1000) : Fnc Tryz.prog 19 [v, vb, .int .u16 bits] V fun r V' =>
    ∃ A, A < 32768 ∧ mtB A (clA ts) = false ∧ (∀ s ∈ lsL ts, s ≠ 0 → mtB A s = true) ∧ SlI V' r (bitL A 15) := by
  obtain ⟨h16, ht⟩ := trE_ok he
  have hll : (lfL ts).length = ts.length := by unfold lfL; rw [List.length_map]
  have hbd := lf_bd ht
  have hcl : clA ts < 32768 := clN_lt ht _
  obtain ⟨ab, cb, rfl, k3, k4, _⟩ := id hy
  clear k3 k4
  have hclr : clR ts = bitL (clA ts) 15 := by unfold clR; rw [if_pos he]
  have hbt : btL (bitL (clA ts) 15) = clA ts := btL_bitL (n := 15) hcl
  have hin : ∀ x ∈ bitL (clA ts) 15, 0 ≤ x ∧ x < 15 := fun x hx => by
    obtain ⟨i, h1, rfl, _⟩ := bitL_mem.1 hx; omega
  obtain ⟨bn, rfl⟩ : ∃ n : Nat, bits = (n : Int) := ⟨bits.toNat, by omega⟩
  have hand : bn &&& 32767 < 32768 := Nat.lt_of_le_of_lt Nat.and_le_right (by decide)
  refine fn_of Tryz.func19 rfl Tryz.ntmps19 (Nat.le_of_ble_eq_true rfl) ?_
  intro w0 hw0
  refine At.nrm ?_
  refine At.ktext (.q 0 .done) ?_
  refine AtT.kassign ?_
  refine AtT.done ?_
  refine At.nrm ?_
  refine At.ktext (.q 0 (.n false 1 (.q 2 .done))) ?_
  refine AtT.kmove ?_
  refine AtT.kcall rfl rfl ok15 (left_f ts ht (by omega) _ _ hs) ?_
  rintro v15 V15 hV15 hs15; obtain ⟨a7, c7, rfl, _⟩ := id hs15
  refine AtT.kassign ?_
  refine AtT.done ?_
  refine At.nrm ?_
  refine At.ktext (.q 0 (.n false 1 (.q 2 (.q 3 (.q 4 (.q 5 (.q 6 .done))))))) ?_
  refine AtT.kmove ?_
  refine AtT.kcall rfl rfl ok63 (rclear_f ts _ _ (hs.le hV15)) ?_
  rintro _ V18 hV18 ⟨u, rfl, hs18⟩
  refine AtT.kmove ?_
  refine AtT.kextract ?_
  refine AtT.kextract ?_
  refine AtT.kassign ?_
  refine AtT.kassign ?_
  refine AtT.done ?_
  refine At.nrm ?_
  rw [hclr] at hs18
  refine At.ktext (.q 0 (.q 1 (.q 2 (.q 3 (.n false 4 (.q 5 (.q 6 .done))))))) ?_
  refine AtT.kmove ?_
  refine AtT.kconv un43 Tryz.underlying3 ?_
  rw [wrap_fit (Fit.of (by omega) (by omega))]
  refine AtT.andN rfl trivial rfl rfl rfl rfl (by omega) (by decide) (by decide) (A := bn) (B := 32767) ?_
  refine AtT.kmove ?_
  refine AtT.kcallP rfl rfl ok18 (bitsOf_f (bitL (clA ts) 15) hin _ _ hs18) ?_
  rintro _ rfl; rw [hbt]
  refine AtT.clrN rfl trivial rfl rfl rfl rfl (by omega) (by omega) (by decide) (A := bn &&& 32767) (B := clA ts) ?_
  refine AtT.kassign ?_
  refine AtT.done ?_
  refine At.nrm ?_
  have hs7 := hs15.le hV18
  have hy7 := (hy.le hV15).le hV18
  refine At.ktext (.q 0 .done) ?_
  refine AtT.kassign ?_
  refine AtT.done ?_
  refine At.nrm ?_
  refine At.lp (ι := Nat × Nat) (KS := fun g => [(1, .slice ab by'.length cb), (7, .slice a7 (lfL ts).length c7), (10, iv g.2), (11, iv g.1)]) (OS := fun _ => [])
    (VS := fun g V' => Le V18 V' ∧ g.1 ≤ (lfL ts).length ∧ GvI (clA ts) (lfL ts) g.1 g.2) (μ := fun g => (lfL ts).length - g.1) (0, clrB (bn &&& 32767) (clA ts)) ?_ ?_ ?_ ?_
  · exact ⟨rfl, rfl, rfl, rfl, trivial⟩
  · exact Pt.auto
  · exact ⟨Le.refl _, Nat.zero_le _, gv_start hcl⟩
  rintro ⟨k, out⟩ V' ks' O' ⟨hVV, hkl, hgv⟩ hk hO hl2
  dsimp only at hkl hgv hk hO
  subst hk hO
  have hol := hgv.lt
  have hs7' := hs7.le hVV
  have hy7' := hy7.le hVV
  refine At.nrm ?_
  refine At.ktext (.q 0 (.q 1 (.q 2 (.q 3 .done)))) ?_
  refine AtT.kmove ?_
  refine AtT.kmove ?_
  first | refine AtT.klenS Tryz.underlying38 ?_ | refine AtT.klenR Tryz.underlying38 ?_
  refine AtT.klss ?_
  refine AtT.done ?_
  refine At.nrm ?_
  refine At.condP rfl (fun hp => ?_) (fun hp => ?_)
  rotate_left
  · obtain rfl : k = (lfL ts).length := by omega
    refine At.nrm ?_
    refine At.ktext (.q 0 (.n false 1 (.q 2 .done))) ?_
    refine AtT.kmove ?_
    refine AtT.kcall rfl rfl ok64 (bits_f out 15 (by omega) (by decide) _) ?_
    rintro v74 V74 hV74 hs74
    refine AtT.kassign ?_
    refine AtT.done ?_
    refine At.nrm ?_
    refine At.ret1 rfl (.tmp rfl) ⟨out, hol, hgv.no_, fun s hs' h0 => ?_, hs74⟩
    obtain ⟨j, hj⟩ := lf_ls.2 hs'
    exact hgv.hit j s (List.getElem?_eq_some_iff.1 hj).1 hj h0
  obtain ⟨x, hx⟩ : ∃ x, (lfL ts)[k]? = some x := ⟨_, List.getElem?_eq_getElem (by omega)⟩
  have hxb := hbd x (List.mem_of_getElem? hx)
  refine At.nrm ?_
  by_cases c0 : x ≤ 0
  · refine At.ktext (.q 0 (.q 1 (.q 2 (.q 3 (.q 4 (.q 5 (.q 6 (.q 7 (.q 8 (.q 9 (.q 10 (.q 11 (.q 12 (.q 13 .done)))))))))))))) ?_
    refine AtT.kmove ?_
    refine AtT.kmove ?_
    refine AtT.kidx Tryz.underlying38 tk3 ?_
    intro p35 e35 he35 hc35
    obtain rfl : x = e35 := by have : (lfL ts)[k]? = some e35 := (by simpa using he35); rw [hx] at this; simpa using this
    first | refine AtT.kloadO tk3 ?_ | refine AtT.kload tk3 ?_
    refine AtT.kleq ?_
    refine AtT.setT (d := 37) rfl (c0) ?_
    refine AtT.kmove ?_
    all_goals (first | refine AtT.kL 38 ?_ | refine AtT.pcase (d := 38) rfl (fun hg38 => ?_) (fun hg38 => ?_) | refine AtT.bcase (d := 38) rfl (fun hg38 => ?_) (fun hg38 => ?_))
    all_goals (first | refine AtT.kpass ?_ | refine AtT.kpassU ?_ | ((refine AtT.kmove ?_)))
    all_goals (first | refine AtT.kpass ?_ | refine AtT.kpassU ?_ | ((refine AtT.kmove ?_)))
    all_goals (first | refine AtT.kpass ?_ | refine AtT.kpassU ?_ | ((refine AtT.kidx Tryz.underlying38 tk3 ?_) ; (intro p41 e41 he41 hc41)))
    all_goals (first | refine AtT.kpass ?_ | refine AtT.kpassU ?_ | ((first | refine AtT.kloadO tk3 ?_ | refine AtT.kload tk3 ?_)))
    all_goals (first | refine AtT.kpass ?_ | refine AtT.kpassU ?_ | ((refine AtT.kmove ?_)))
    all_goals (first | refine AtT.kpass ?_ | refine AtT.kpassU ?_ | ((fail)))
    all_goals (first | refine AtT.kpass ?_ | refine AtT.kpassU ?_ | ((refine AtT.kneI ?_)))
    all_goals (refine AtT.kpick ?_)
    all_goals refine AtT.done ?_
    all_goals (refine At.nrm ?_)
    refine At.condT rfl rfl ?_
    refine At.nrm ?_
    refine At.ktext (.q 0 (.q 1 (.q 2 .done))) ?_
    refine AtT.kmove ?_
    first | refine AtT.kadd ?_ | refine AtT.kaddW ?_
    refine AtT.kassign ?_
    refine AtT.done ?_
    refine At.nrm ?_
    refine At.round (k + 1, out) ?_ ?_ ?_ ?_
    · show (lfL ts).length - (k + 1) < (lfL ts).length - k; omega
    · exact ⟨hVV, by dsimp only; omega, gv_skip hgv hx (.inl c0)⟩
    · exact ⟨rfl, rfl, rfl, ivs (by dsimp only; omega), trivial⟩
    · exact Pt.auto
  obtain ⟨s, rfl⟩ : ∃ s : Nat, x = (s : Int) := ⟨x.toNat, by omega⟩
  by_cases c1 : s &&& out = 0
  rotate_left
  · refine At.ktext (.q 0 (.q 1 (.q 2 (.q 3 (.q 4 (.q 5 (.q 6 (.q 7 (.q 8 (.q 9 (.q 10 (.q 11 (.q 12 (.q 13 .done)))))))))))))) ?_
    refine AtT.kmove ?_
    refine AtT.kmove ?_
    refine AtT.kidx Tryz.underlying38 tk3 ?_
    intro p35 e35 he35 hc35
    obtain rfl : (s : Int) = e35 := by have : (lfL ts)[k]? = some e35 := (by simpa using he35); rw [hx] at this; simpa using this
    first | refine AtT.kloadO tk3 ?_ | refine AtT.kload tk3 ?_
    refine AtT.kleq ?_
    refine AtT.setF (d := 37) rfl (c0) ?_
    refine AtT.kmove ?_
    all_goals (first | refine AtT.kL 38 ?_ | refine AtT.pcase (d := 38) rfl (fun hg38 => ?_) (fun hg38 => ?_) | refine AtT.bcase (d := 38) rfl (fun hg38 => ?_) (fun hg38 => ?_))
    all_goals (first | refine AtT.kpass ?_ | refine AtT.kpassU ?_ | ((refine AtT.kmove ?_)))
    all_goals (first | refine AtT.kpass ?_ | refine AtT.kpassU ?_ | ((refine AtT.kmove ?_)))
    all_goals (first | refine AtT.kpass ?_ | refine AtT.kpassU ?_ | ((refine AtT.kidx Tryz.underlying38 tk3 ?_) ; (intro p41 e41 he41 hc41)))
    all_goals (obtain rfl : (s : Int) = e41 := by have : (lfL ts)[k]? = some e41 := (by simpa using he41); rw [hx] at this; simpa using this)
    all_goals (first | refine AtT.kpass ?_ | refine AtT.kpassU ?_ | ((first | refine AtT.kloadO tk3 ?_ | refine AtT.kload tk3 ?_)))
    all_goals (first | refine AtT.kpass ?_ | refine AtT.kpassU ?_ | ((refine AtT.kmove ?_)))
    all_goals (first | refine AtT.kpass ?_ | refine AtT.kpassU ?_ | ((refine AtT.andN rfl ⟨_, _, rfl, rfl, rfl⟩ rfl rfl rfl rfl (by omega) (by omega) (by decide) (A := s) (B := out) ?_)))
    all_goals (first | refine AtT.kpass ?_ | refine AtT.kpassU ?_ | ((refine AtT.kneI ?_)))
    all_goals (refine AtT.setT (d := 45) rfl ((by omega)) ?_)
    all_goals (refine AtT.kpick ?_)
    all_goals refine AtT.done ?_
    all_goals (refine At.nrm ?_)
    refine At.condT rfl rfl ?_
    refine At.nrm ?_
    refine At.ktext (.q 0 (.q 1 (.q 2 .done))) ?_
    refine AtT.kmove ?_
    first | refine AtT.kadd ?_ | refine AtT.kaddW ?_
    refine AtT.kassign ?_
    refine AtT.done ?_
    refine At.nrm ?_
    refine At.round (k + 1, out) ?_ ?_ ?_ ?_
    · show (lfL ts).length - (k + 1) < (lfL ts).length - k; omega
    · exact ⟨hVV, by dsimp only; omega, gv_skip hgv hx (.inr ⟨s, rfl, c1⟩)⟩
    · exact ⟨rfl, rfl, rfl, ivs (by dsimp only; omega), trivial⟩
    · exact Pt.auto
  have hsb := cntK_le s 15
  unfold cntK at hsb
  have hpos : 0 < (bitL s 15).length := by
    have h0 : s ≠ 0 := by omega
    obtain ⟨i, hi⟩ : ∃ i, s.testBit i = true := Nat.exists_testBit_of_ne_zero h0
    exact List.length_pos_iff.2 (List.ne_nil_of_mem (bitL_mem.2 ⟨i, lt15_bit (by omega) hi, rfl, hi⟩))
  refine At.ktext (.q 0 (.q 1 (.q 2 (.q 3 (.q 4 (.q 5 (.q 6 (.q 7 (.q 8 (.q 9 (.q 10 (.q 11 (.q 12 (.q 13 .done)))))))))))))) ?_
  refine AtT.kmove ?_
  refine AtT.kmove ?_
  refine AtT.kidx Tryz.underlying38 tk3 ?_
  intro p35 e35 he35 hc35
  obtain rfl : (s : Int) = e35 := by have : (lfL ts)[k]? = some e35 := (by simpa using he35); rw [hx] at this; simpa using this
  first | refine AtT.kloadO tk3 ?_ | refine AtT.kload tk3 ?_
  refine AtT.kleq ?_
  refine AtT.setF (d := 37) rfl (c0) ?_
  refine AtT.kmove ?_
  all_goals (first | refine AtT.kL 38 ?_ | refine AtT.pcase (d := 38) rfl (fun hg38 => ?_) (fun hg38 => ?_) | refine AtT.bcase (d := 38) rfl (fun hg38 => ?_) (fun hg38 => ?_))
  all_goals (first | refine AtT.kpass ?_ | refine AtT.kpassU ?_ | ((refine AtT.kmove ?_)))
  all_goals (first | refine AtT.kpass ?_ | refine AtT.kpassU ?_ | ((refine AtT.kmove ?_)))
  all_goals (first | refine AtT.kpass ?_ | refine AtT.kpassU ?_ | ((refine AtT.kidx Tryz.underlying38 tk3 ?_) ; (intro p41 e41 he41 hc41)))
  all_goals (obtain rfl : (s : Int) = e41 := by have : (lfL ts)[k]? = some e41 := (by simpa using he41); rw [hx] at this; simpa using this)
  all_goals (first | refine AtT.kpass ?_ | refine AtT.kpassU ?_ | ((first | refine AtT.kloadO tk3 ?_ | refine AtT.kload tk3 ?_)))
  all_goals (first | refine AtT.kpass ?_ | refine AtT.kpassU ?_ | ((refine AtT.kmove ?_)))
  all_goals (first | refine AtT.kpass ?_ | refine AtT.kpassU ?_ | ((refine AtT.andN rfl ⟨_, _, rfl, rfl, rfl⟩ rfl rfl rfl rfl (by omega) (by omega) (by decide) (A := s) (B := out) ?_)))
  all_goals (first | refine AtT.kpass ?_ | refine AtT.kpassU ?_ | ((refine AtT.kneI ?_)))
  all_goals (refine AtT.setF (d := 45) rfl ((by omega)) ?_)
  all_goals (refine AtT.kpick ?_)
  all_goals refine AtT.done ?_
  all_goals (refine At.nrm ?_)
  refine At.condF rfl rfl ?_
  refine At.nrm ?_
  refine At.ktext (.q 0 (.q 1 (.q 2 (.q 3 (.n false 4 (.q 5 (.q 6 .done))))))) ?_
  refine AtT.kmove ?_
  refine AtT.kmove ?_
  refine AtT.kidx Tryz.underlying38 tk3 ?_
  intro p49 e49 he49 hc49
  obtain rfl : (s : Int) = e49 := by have : (lfL ts)[k]? = some e49 := (by simpa using he49); rw [hx] at this; simpa using this
  first | refine AtT.kloadO tk3 ?_ | refine AtT.kload tk3 ?_
  refine AtT.kcall rfl rfl ok64 (bits_f s 15 (by omega) (by decide) _) ?_
  rintro v51 V51 hV51 hs51; obtain ⟨a12, c12, rfl, _⟩ := id hs51
  refine AtT.kassign ?_
  refine AtT.kassign ?_
  refine AtT.done ?_
  refine At.nrm ?_
  have hy5 := hy7'.le hV51
  refine At.ktext (.q 0 (.q 1 (.q 2 .done))) ?_
  refine AtT.kmove ?_
  first | refine AtT.klenS Tryz.underlying34 ?_ | refine AtT.klenR Tryz.underlying34 ?_
  refine AtT.kgtr ?_
  refine AtT.done ?_
  refine At.nrm ?_
  refine At.cutG (ι := Int) (fun f => [(1, .slice ab by'.length cb), (7, .slice a7 (lfL ts).length c7), (10, iv out), (11, iv k), (12, .slice a12 (bitL s 15).length c12), (13, iv f)]) (fun _ => [])
    (fun f V'' => V'' = V51 ∧ 0 ≤ f ∧ f ≤ 255) ?_ ?_
  · refine At.condP rfl (fun hc => ?_) (fun hc => ?_)
    · have t0 := Int.tmod_nonneg (by'.length : Int) (show 0 ≤ (k : Int) by omega)
      have t1 := Int.tmod_lt_of_pos (k : Int) (b := (by'.length : Int)) (by omega)
      refine At.nrm ?_
      refine At.ktext (.q 0 (.q 1 (.q 2 (.q 3 (.q 4 (.q 5 (.q 6 (.q 7 (.q 8 .done))))))))) ?_
      refine AtT.kmove ?_
      refine AtT.kmove ?_
      refine AtT.kmove ?_
      first | refine AtT.klenS Tryz.underlying34 ?_ | refine AtT.klenR Tryz.underlying34 ?_
      refine AtT.krem ?_
      refine AtT.kidx Tryz.underlying34 tk5 ?_
      intro p60 e60 he60 hc60
      first | refine AtT.kloadO tk5 ?_ | refine AtT.kload tk5 ?_
      refine AtT.kconv un5 Tryz.underlying3 ?_
      have hu := e60.h
      rw [wrap_fit (Fit.of (by omega) (by omega))]
      refine AtT.kassign ?_
      refine AtT.done ?_
      refine At.nrm ?_
      exact At.meetG e60.n ⟨rfl, e60.h.1, e60.h.2⟩ ⟨rfl, rfl, rfl, rfl, rfl, rfl, trivial⟩ Pt.auto
    · refine At.nrm ?_
      exact At.meetG 0 ⟨rfl, Int.le_refl _, by decide⟩ ⟨rfl, rfl, rfl, rfl, rfl, rfl, trivial⟩ Pt.auto
  rintro f V3 ks' O' ⟨rfl, hf0, hf1⟩ hk2 hO hl3
  subst hk2 hO
  have t2 := Int.tmod_nonneg ((bitL s 15).length : Int) hf0
  have t3 := Int.tmod_lt_of_pos f (b := ((bitL s 15).length : Int)) (by omega)
  obtain ⟨z, hz⟩ : ∃ z, (bitL s 15)[(f.tmod (bitL s 15).length).toNat]? = some z := ⟨_, List.getElem?_eq_getElem (by omega)⟩
  obtain ⟨i, hi15, rfl, hib⟩ := bitL_mem.1 (List.mem_of_getElem? hz)
  have hpw : 2 ^ i < 32768 := Nat.pow_lt_pow_right (n := 15) (by decide) hi15
  have hnx := gv_add hgv hx hi15 hib (ls_no ht s (lf_ls.1 ⟨k, hx⟩))
  refine At.nrm ?_
  refine At.ktext (.q 0 (.q 1 (.q 2 (.q 3 (.q 4 (.q 5 (.q 6 (.q 7 (.q 8 (.q 9 (.q 10 .done))))))))))) ?_
  refine AtT.kmove ?_
  refine AtT.kmove ?_
  refine AtT.kmove ?_
  refine AtT.kmove ?_
  first | refine AtT.klenS Tryz.underlying38 ?_ | refine AtT.klenR Tryz.underlying38 ?_
  refine AtT.krem ?_
  refine AtT.kidx Tryz.underlying38 tk3 ?_
  intro p69 e69 he69 hc69
  obtain rfl : (i : Int) = e69 := by have := he69; rw [hz] at this; simpa using this
  first | refine AtT.kloadO tk3 ?_ | refine AtT.kload tk3 ?_
  refine AtT.shlN rfl trivial rfl rfl rfl (by omega) (by decide) (N := i) ?_
  refine AtT.orN rfl trivial rfl rfl rfl rfl (by omega) (by omega) (by decide) (A := out) (B := 2 ^ i) ?_
  refine AtT.kassign ?_
  refine AtT.done ?_
  refine At.nrm ?_
  refine At.ktext (.q 0 (.q 1 (.q 2 .done))) ?_
  refine AtT.kmove ?_
  first | refine AtT.kadd ?_ | refine AtT.kaddW ?_
  refine AtT.kassign ?_
  refine AtT.done ?_
  refine At.nrm ?_
  refine At.round (k + 1, out ||| 2 ^ i) ?_ ?_ ?_ ?_
  · show (lfL ts).length - (k + 1) < (lfL ts).length - k; omega
  · exact ⟨hVV.trans hV51, by dsimp only; omega, hnx⟩
  · exact ⟨rfl, rfl, rfl, ivs (by dsimp only; omega), trivial⟩
  · exact Pt.auto
end Go.Proofs.YtfcpmblmklibjaaGreat
namespace Go.Bl
open Go.Gl Go.Lw
/-- A property holds of all numbers below a power of two. -/
def allB (p : Nat → Bool) : Nat → Nat → Bool
  | 0, b => p b
  | n + 1, b => allB p n (2 * b) && allB p n (2 * b + 1)
theorem allB_at {p : Nat → Bool} : ∀ {n b : Nat}, allB p n b = true → ∀ x, b * 2 ^ n ≤ x → x < (b + 1) * 2 ^ n → p x = true
  | 0, b, h, x, h1, h2 => by
    obtain rfl : x = b := by omega
    exact h
  | n + 1, b, h, x, h1, h2 => by
    simp only [allB, Bool.and_eq_true] at h
    have e : 2 ^ (n + 1) = 2 ^ n + 2 ^ n := by rw [Nat.pow_succ]; omega
    by_cases c : x < (2 * b + 1) * 2 ^ n
    · refine allB_at h.1 x ?_ c
      rw [e, Nat.mul_add] at h1; rw [Nat.mul_comm 2 b, Nat.mul_assoc, Nat.two_mul, Nat.mul_add]; omega
    · refine allB_at h.2 x (by omega) ?_
      rw [e] at h2
      have : (2 * b + 1 + 1) * 2 ^ n = (b + 1) * (2 ^ n + 2 ^ n) := by rw [show 2 * b + 1 + 1 = (b + 1) * 2 by omega, Nat.mul_assoc, Nat.two_mul]
      omega
def exN (no : Nat) (ls : List Nat) (x : Nat) : Bool := !mtB x no && ls.all fun s => mtB x s
theorem exN_iff {no : Nat} {ls : List Nat} {x : Nat} (h : x < 32768) : exN no ls x = true ↔ Ex no ls x := by
  unfold exN Ex
  rw [Bool.and_eq_true, List.all_eq_true]
  constructor
  · rintro ⟨a, b⟩; exact ⟨h, by simpa using a, b⟩
  · rintro ⟨_, a, b⟩; exact ⟨by simp [a], b⟩
def smN (no : Nat) (ls L : List Nat) (m : Nat) (x : Nat) : Bool := (exN no ls x && decide (cnt x ≤ m)) == L.contains x && (!exN no ls x || decide (m ≤ cnt x))
theorem smN_mem {no : Nat} {ls L : List Nat} {m : Nat} (h : allB (smN no ls L m) 15 0 = true) (hL : ∀ x ∈ L, x < 32768 ∧ cnt x = m) (hne : L ≠ []) (x : Nat) : x ∈ L ↔ Ex no ls x ∧ ∀ y, Ex no ls y → cnt x ≤ cnt y := by
  have at_ : ∀ y, y < 32768 → smN no ls L m y = true := fun y hy => allB_at h y (by omega) (by omega)
  have e1 : ∀ y, y < 32768 → (Ex no ls y → m ≤ cnt y) ∧ ((Ex no ls y ∧ cnt y ≤ m) ↔ y ∈ L) := fun y hy => by
    have := at_ y hy
    unfold smN at this
    rw [Bool.and_eq_true, beq_iff_eq, Bool.or_eq_true] at this
    obtain ⟨a, b⟩ := this
    rw [← exN_iff hy]
    constructor
    · intro he
      rcases b with b | b
      · rw [he] at b; cases b
      · exact of_decide_eq_true b
    · rw [← List.contains_iff_mem, ← a, Bool.and_eq_true, decide_eq_true_eq]
  constructor
  · intro hx
    obtain ⟨h1, h2⟩ := hL x hx
    exact ⟨((e1 x h1).2.2 hx).1, fun y hy => by have := (e1 y hy.1).1 hy; omega⟩
  · rintro ⟨hx, hm⟩
    obtain ⟨y, hy⟩ := List.exists_mem_of_ne_nil L hne
    obtain ⟨h1, h2⟩ := hL y hy
    have := hm y ((e1 y h1).2.2 hy).1
    exact (e1 x hx.1).2.1 ⟨hx, by omega⟩
def tW : List Tq := [⟨⟨0, 1, 2⟩, true⟩, ⟨⟨0, 0, 0⟩, false⟩, ⟨⟨1, 1, 0⟩, true⟩, ⟨⟨1, 2, 2⟩, true⟩, ⟨⟨2, 2, 0⟩, false⟩]
def uW : List Tq := tW ++ [⟨⟨0, 0, 2⟩, false⟩]
def vW : List Tq := uW ++ [⟨⟨1, 1, 1⟩, false⟩]
theorem wT0 : trE tW = 0 := by decide +kernel
theorem wTa : alE tW = 0 := by decide +kernel
theorem wUa : alE uW = 0 := by decide +kernel
theorem wVa : alE vW = 26 := by decide +kernel
theorem wC1 : clR tW = [0, 2, 5, 7, 10] := by decide +kernel
theorem wK1 : ccR tW [1, 6] = 0 := by decide +kernel
theorem wK2 : ccR tW [6] = 26 := by decide +kernel
theorem wK3 : ccR tW [0, 1, 6] = 16 := by decide +kernel
theorem wK4 : ccR tW [6, 1] = 2 := by decide +kernel
theorem wU1 : unR tW = (0, 5) := by decide +kernel
theorem wU2 : unR vW = (0, 0) := by decide +kernel
theorem wA1 : aG (prP tW) [] [] 0 = [0] := by decide +kernel
theorem wA2 : ckR tW [0, 2] = 16 := by decide +kernel
theorem wA3 : ckR tW [0, 1] = 3 := by decide +kernel
theorem wA4 : ckR tW [2, 0] = 2 := by decide +kernel
theorem wLno : clA tW = 1189 := by decide +kernel
theorem wLls : lsL tW = [4160, 66, 4098] := by decide +kernel
theorem wMno : clA uW = 5285 := by decide +kernel
theorem wMls : lsL uW = [64, 66, 2] := by decide +kernel
theorem wSm1 : allB (smN 1189 [4160, 66, 4098] [66, 4098, 4160] 2) 15 0 = true := by decide +kernel
theorem wSm2 : allB (smN 5285 [64, 66, 2] [66] 2) 15 0 = true := by decide +kernel
theorem wF1 : flN [66, 4098, 4160] ⟨0, 0, 2⟩ = 2 := by decide +kernel
theorem wN1 : tel [66, 4098, 4160] (mostP [66, 4098, 4160]) = 1 ∧ mostP [66, 4098, 4160] = ⟨0, 0, 2⟩ := by decide +kernel
theorem wN2 : tel [66] (mostP [66]) = 0 := by decide +kernel
theorem wMem1 (x : Nat) : x ∈ [66, 4098, 4160] ↔ Ex (clA tW) (lsL tW) x ∧ ∀ y, Ex (clA tW) (lsL tW) y → cnt x ≤ cnt y := by
  rw [wLno, wLls]; exact smN_mem wSm1 (by decide +kernel) (by simp) x
theorem wMem2 (x : Nat) : x ∈ [66] ↔ Ex (clA uW) (lsL uW) x ∧ ∀ y, Ex (clA uW) (lsL uW) y → cnt x ≤ cnt y := by
  rw [wMno, wMls]; exact smN_mem wSm2 (by decide +kernel) (by simp) x
theorem lex_of {A B : Nat} (hA : A < 32768) (hB : B < 32768) (hc : cnt A = cnt B) (h : befB (bitL A 15) (bitL B 15) = true) : LexB A B := (bef_lex hA hB hc).1 h
theorem wOrd1 : [66, 4098, 4160].Pairwise LexB := by
  refine List.Pairwise.cons ?_ (List.Pairwise.cons ?_ (List.Pairwise.cons ?_ List.Pairwise.nil))
  · intro y hy
    simp only [List.mem_cons, List.not_mem_nil, or_false] at hy
    rcases hy with rfl | rfl
    · exact lex_of (by decide) (by decide) (by decide +kernel) (by decide +kernel)
    · exact lex_of (by decide) (by decide) (by decide +kernel) (by decide +kernel)
  · intro y hy
    simp only [List.mem_cons, List.not_mem_nil, or_false] at hy
    subst hy
    exact lex_of (by decide) (by decide) (by decide +kernel) (by decide +kernel)
  · intro y hy; cases hy
theorem wOrd2 : [66].Pairwise LexB := List.pairwise_singleton _ _
theorem wBl1 : ([66, 4098, 4160].map fun s => bitL s 15) = [[1, 6], [1, 12], [6, 12]] := by decide +kernel
theorem wBl2 : ([66].map fun s => bitL s 15) = [[1, 6]] := by decide +kernel
theorem wCnt : cnt 66 = 2 := by decide +kernel
theorem wT1 : tN [66, 4098, 4160] 1 = 2 := by decide +kernel
theorem wT2 : tN [66] 1 = 1 := by decide +kernel
end Go.Bl
set_option linter.unusedVariables false
namespace Go.Proofs.YtfcpmblmklibjaaGreat
open Go.Lw Go.Gl Go.Bl Go.RowKit

theorem tqe_all (t : Tq) : (tqe t).all Value.oneCell' = true := rfl
theorem five_own (V : View) : Fnc Tryz.prog 21 [] V fun r V' => ∃ ao co, r = .slice ao 5 co ∧ Lent V V' ao co 81 4 5 (flat tqe tW) := by
  refine fn_of Tryz.func21 rfl Tryz.ntmps21 (Nat.le_of_ble_eq_true rfl) ?_
  intro w0 hw0
  refine At.nrm ?_
  refine At.ktext (.q 0 .done) ?_
  refine AtT.kassign ?_
  refine AtT.done ?_
  refine At.nrm ?_
  refine At.ktext (.n false 0 (.n false 1 (.n false 2 (.n false 3 (.n false 4 (.n false 5 (.q 6 .done))))))) ?_
  refine AtT.kcallP rfl rfl ok65 (trial_f 0 1 2 true _) ?_
  rintro _ rfl
  refine AtT.kcallP rfl rfl ok65 (trial_f 0 0 0 false _) ?_
  rintro _ rfl
  refine AtT.kcallP rfl rfl ok65 (trial_f 1 1 0 true _) ?_
  rintro _ rfl
  refine AtT.kcallP rfl rfl ok65 (trial_f 1 2 2 true _) ?_
  rintro _ rfl
  refine AtT.kcallP rfl rfl ok65 (trial_f 2 2 0 false _) ?_
  rintro _ rfl
  refine AtT.kbslice (bs22_5_0_1_2_3_4 _ _ _ _ _ _ _ _ _ _ _ _ _ _ _ _ _ _ _ _) ?_
  intro b6
  refine AtT.kassign ?_
  refine AtT.done ?_
  refine At.nrm ?_
  refine At.blkRow (b := b6) (m := 5) (cap := 5) (s := 4) (xs := flat tqe tW) (rest := []) Pick.auto rfl rfl (Nat.le_refl _) (by decide) ?_
  refine At.lend Pick.auto (fun V2 hV2 hL => ?_)
  exact At.ret1 rfl (.tmp rfl) ⟨_, _, rfl, hL⟩
theorem six_own (V : View) : Fnc Tryz.prog 22 [] V fun r V' => ∃ ao co, r = .slice ao 6 co ∧ Lent V V' ao co 81 4 6 (flat tqe uW) := by
  refine fn_of Tryz.func22 rfl Tryz.ntmps22 (Nat.le_of_ble_eq_true rfl) ?_
  intro w0 hw0
  refine At.nrm ?_
  refine At.ktext (.q 0 .done) ?_
  refine AtT.kassign ?_
  refine AtT.done ?_
  refine At.nrm ?_
  refine At.ktext (.n false 0 (.n false 1 (.n false 2 (.n true 3 (.q 4 .done))))) ?_
  refine AtT.callR rfl trivial rfl ok21 (by decide) (five_own _) (fun a1 c1 => ?_)
  refine AtT.kcallP rfl rfl ok65 (trial_f 0 0 2 false _) ?_
  rintro _ rfl
  refine AtT.kbsliceG (bs22_1_0 _ _ _ _) ?_
  intro q3 V3 hV3 hq3
  have g3 : Le V V3 := by first | exact hV3 | exact Le.trans (by assumption) hV3
  first | refine AtT.kappend Tryz.underlying22 rw81 ?_
  intro a4 c4
  refine AtT.kassign ?_
  refine AtT.done ?_
  refine At.nrm ?_
  refine At.lend (xs := flat tqe uW) Pick.auto (fun V2 hV2 hL => ?_)
  exact At.ret1 rfl (.tmp rfl) ⟨_, _, rfl, hL.entry (by first | assumption | exact Le.refl _)⟩
theorem seven_own (V : View) : Fnc Tryz.prog 23 [] V fun r V' => ∃ ao co, r = .slice ao 7 co ∧ Lent V V' ao co 81 4 7 (flat tqe vW) := by
  refine fn_of Tryz.func23 rfl Tryz.ntmps23 (Nat.le_of_ble_eq_true rfl) ?_
  intro w0 hw0
  refine At.nrm ?_
  refine At.ktext (.q 0 .done) ?_
  refine AtT.kassign ?_
  refine AtT.done ?_
  refine At.nrm ?_
  refine At.ktext (.n false 0 (.n false 1 (.n false 2 (.n true 3 (.q 4 .done))))) ?_
  refine AtT.callR rfl trivial rfl ok22 (by decide) (six_own _) (fun a1 c1 => ?_)
  refine AtT.kcallP rfl rfl ok65 (trial_f 1 1 1 false _) ?_
  rintro _ rfl
  refine AtT.kbsliceG (bs22_1_0 _ _ _ _) ?_
  intro q3 V3 hV3 hq3
  have g3 : Le V V3 := by first | exact hV3 | exact Le.trans (by assumption) hV3
  first | refine AtT.kappend Tryz.underlying22 rw81 ?_
  intro a4 c4
  refine AtT.kassign ?_
  refine AtT.done ?_
  refine At.nrm ?_
  refine At.lend (xs := flat tqe vW) Pick.auto (fun V2 hV2 hL => ?_)
  exact At.ret1 rfl (.tmp rfl) ⟨_, _, rfl, hL.entry (by first | assumption | exact Le.refl _)⟩
theorem five_f (V : View) : Fnc Tryz.prog 21 [] V fun r V' => ∃ a c, r = .slice a tW.length c ∧ Sl V' tqe 4 (.slice a tW.length c) tW := (five_own V).mono fun r V' _ ⟨a, c, h1, h2⟩ => ⟨a, c, h1, Lent.sl (l := tW) tqe_len h2⟩
theorem six_f (V : View) : Fnc Tryz.prog 22 [] V fun r V' => ∃ a c, r = .slice a uW.length c ∧ Sl V' tqe 4 (.slice a uW.length c) uW := (six_own V).mono fun r V' _ ⟨a, c, h1, h2⟩ => ⟨a, c, h1, Lent.sl (l := uW) tqe_len h2⟩
theorem seven_f (V : View) : Fnc Tryz.prog 23 [] V fun r V' => ∃ a c, r = .slice a vW.length c ∧ Sl V' tqe 4 (.slice a vW.length c) vW := (seven_own V).mono fun r V' _ ⟨a, c, h1, h2⟩ => ⟨a, c, h1, Lent.sl (l := vW) tqe_len h2⟩
theorem SL.lit {V : View} {q : Addr} (qs : List (Option Addr × Nat × Nat)) (ll : List (List Int)) (m : Nat) (h : Cells V q (flat sle qs)) (hm : m = qs.length) (hl : qs.length = ll.length) (h1 : qs.length ≤ 1000000) (hq : ∀ (i : Nat) (q : Option Addr × Nat × Nat) (l : List Int), qs[i]? = some q → ll[i]? = some l → SlI V (.slice q.1 q.2.1 q.2.2) l) : SL V (.slice (some q) m m) ll :=
  ⟨qs, by subst hm; exact Sl.of_cells sle_len h (Nat.le_refl _) (by unfold maxLen; omega), hl, hq⟩
theorem alsT : AlS tW [66, 4098, 4160] := ⟨by decide, wOrd1, wMem1⟩
theorem alsU : AlS uW [66] := ⟨by decide, wOrd2, wMem2⟩
end Go.Proofs.YtfcpmblmklibjaaGreat
set_option linter.unusedVariables false
namespace Go.Proofs.YtfcpmblmklibjaaGreat
open Go.Lw Go.Gl Go.Bl Go.RowKit

theorem nx1 : nxR [66, 4098, 4160] = (⟨0, 0, 2⟩, 1, 0) := by unfold nxR; rw [wN1.2, if_neg (by rw [← wN1.2, wN1.1]; decide)]; rw [show tel [66, 4098, 4160] ⟨0, 0, 2⟩ = 1 by rw [← wN1.2]; exact wN1.1]
theorem nx2 : nxR [66] = (⟨0, 0, 0⟩, 0, 5) := by unfold nxR; rw [if_pos wN2]
theorem bm1 : bmN [66, 4098, 4160] 1 = 1 := by decide +kernel
theorem bm2 : bmN [66] 1 = 2 := by decide +kernel
set_option maxHeartbeats 3200000 in
set_option maxRecDepth 20000 in
theorem works_f (V : View) : Fnc Tryz.prog 6 [] V fun r _ => r = .bool true := by
  refine fn_of Tryz.func6 rfl Tryz.ntmps6 (Nat.le_of_ble_eq_true rfl) ?_
  intro w0 hw0
  refine At.nrm ?_
  refine At.ktext (.q 0 .done) ?_
  refine AtT.kassign ?_
  refine AtT.done ?_
  refine At.nrm ?_
  refine At.ktext (.n false 0 (.n false 1 (.n false 2 (.q 3 (.q 4 (.q 5 .done)))))) ?_
  refine AtT.kcall rfl rfl ok21 (five_f _) ?_
  rintro _ V45 hV45 ⟨a1, c1, rfl, hs1⟩
  refine AtT.kcall rfl rfl ok22 (six_f _) ?_
  rintro _ V46 hV46 ⟨a2, c2, rfl, hs2⟩
  refine AtT.kcall rfl rfl ok23 (seven_f _) ?_
  rintro _ V47 hV47 ⟨a3, c3, rfl, hs3⟩
  refine AtT.kassign ?_
  refine AtT.kassign ?_
  refine AtT.kassign ?_
  refine AtT.done ?_
  refine At.nrm ?_
  replace hs1 := (hs1.le hV46).le hV47
  replace hs2 := hs2.le hV47
  clear hV45 hV46 hV47
  refine At.ktext (.n false 0 (.n false 1 (.q 2 (.q 3 (.q 4 (.q 5 (.q 6 .done))))))) ?_
  refine AtT.kcallP rfl rfl ok25 (panel_f 1 2 2 _) ?_
  rintro _ rfl
  refine AtT.kcall rfl rfl ok24 (causes17_f ⟨1, 2, 2⟩ _) ?_
  rintro _ V50 hV50 ⟨u50, rfl, hu50⟩; rw [show caE ⟨1, 2, 2⟩ = 0 by decide +kernel]
  refine AtT.kmove ?_
  refine AtT.kextract ?_
  refine AtT.kextract ?_
  refine AtT.kassign ?_
  refine AtT.kassign ?_
  refine AtT.done ?_
  refine At.nrm ?_
  rw [show caR ⟨1, 2, 2⟩ = [1, 7, 12] by decide +kernel] at hu50
  replace hs1 := hs1.le hV50
  replace hs2 := hs2.le hV50
  replace hs3 := hs3.le hV50
  clear hV50
  refine At.ktext (.n false 0 (.n false 1 (.q 2 (.q 3 (.q 4 (.q 5 (.q 6 .done))))))) ?_
  refine AtT.kcallP rfl rfl ok25 (panel_f 5 0 0 _) ?_
  rintro _ rfl
  refine AtT.kcall rfl rfl ok24 (causes17_f ⟨5, 0, 0⟩ _) ?_
  rintro _ V55 hV55 ⟨u55, rfl, hu55⟩; rw [show caE ⟨5, 0, 0⟩ = 3 by decide +kernel]
  refine AtT.kmove ?_
  refine AtT.kextract ?_
  refine AtT.kextract ?_
  refine AtT.kassign ?_
  refine AtT.kassign ?_
  refine AtT.done ?_
  refine At.nrm ?_
  replace hs1 := hs1.le hV55
  replace hs2 := hs2.le hV55
  replace hs3 := hs3.le hV55
  replace hu50 := hu50.le hV55
  clear hV55
  refine At.ktext (.q 0 (.n false 1 (.q 2 (.q 3 (.q 4 (.q 5 (.q 6 .done))))))) ?_
  refine AtT.kmove ?_
  refine AtT.kcall rfl rfl ok26 (clear_f tW _ _ hs1) ?_
  rintro _ V60 hV60 ⟨u60, rfl, hu60⟩; rw [wT0]
  refine AtT.kmove ?_
  refine AtT.kextract ?_
  refine AtT.kextract ?_
  refine AtT.kassign ?_
  refine AtT.kassign ?_
  refine AtT.done ?_
  refine At.nrm ?_
  rw [wC1] at hu60
  replace hs1 := hs1.le hV60
  replace hs2 := hs2.le hV60
  replace hs3 := hs3.le hV60
  replace hu50 := hu50.le hV60
  clear hV60
  refine At.ktext (.q 0 (.n false 1 (.n false 2 (.n false 3 (.q 4 (.n false 5 (.n false 6 (.n false 7 (.q 8 (.n false 9 (.n false 10 (.n false 11 (.q 12 (.n false 13 (.n false 14 (.n false 15 (.q 16 (.q 17 (.q 18 (.q 19 .done)))))))))))))))))))) ?_
  refine AtT.kmove ?_
  refine AtT.kbsliceG (bs38_2_0_1 _ _) ?_
  intro q64 V64 hV64 hq64
  refine AtT.kcallP rfl rfl ok27 (of_f _ _) ?_
  rintro _ rfl
  refine AtT.kcallP rfl rfl ok17 (checkCauses_f tW [1, 6] _ _ _ (hs1.le hV64) (Sl.lit hq64 rfl (by decide))) ?_
  rintro _ rfl; rw [wK1]
  refine AtT.kmove ?_
  refine AtT.kbsliceG (bs38_1_0 _) ?_
  intro q68 V68 hV68 hq68
  refine AtT.kcallP rfl rfl ok27 (of_f _ _) ?_
  rintro _ rfl
  refine AtT.kcallP rfl rfl ok17 (checkCauses_f tW [6] _ _ _ ((hs1.le hV64).le hV68) (Sl.lit hq68 rfl (by decide))) ?_
  rintro _ rfl; rw [wK2]
  refine AtT.kmove ?_
  refine AtT.kbsliceG (bs38_3_0_1_2 _ _ _) ?_
  intro q72 V72 hV72 hq72
  refine AtT.kcallP rfl rfl ok27 (of_f _ _) ?_
  rintro _ rfl
  refine AtT.kcallP rfl rfl ok17 (checkCauses_f tW [0, 1, 6] _ _ _ (((hs1.le hV64).le hV68).le hV72) (Sl.lit hq72 rfl (by decide))) ?_
  rintro _ rfl; rw [wK3]
  refine AtT.kmove ?_
  refine AtT.kbsliceG (bs38_2_0_1 _ _) ?_
  intro q76 V76 hV76 hq76
  refine AtT.kcallP rfl rfl ok27 (of_f _ _) ?_
  rintro _ rfl
  refine AtT.kcallP rfl rfl ok17 (checkCauses_f tW [6, 1] _ _ _ ((((hs1.le hV64).le hV68).le hV72).le hV76) (Sl.lit hq76 rfl (by decide))) ?_
  rintro _ rfl; rw [wK4]
  refine AtT.kassign ?_
  refine AtT.kassign ?_
  refine AtT.kassign ?_
  refine AtT.kassign ?_
  refine AtT.done ?_
  refine At.nrm ?_
  replace hs1 := hs1.le hV64
  replace hs2 := hs2.le hV64
  replace hs3 := hs3.le hV64
  replace hu50 := hu50.le hV64
  replace hu60 := hu60.le hV64
  clear hV64
  replace hs1 := hs1.le hV68
  replace hs2 := hs2.le hV68
  replace hs3 := hs3.le hV68
  replace hu50 := hu50.le hV68
  replace hu60 := hu60.le hV68
  clear hV68
  replace hs1 := hs1.le hV72
  replace hs2 := hs2.le hV72
  replace hs3 := hs3.le hV72
  replace hu50 := hu50.le hV72
  replace hu60 := hu60.le hV72
  clear hV72
  replace hs1 := hs1.le hV76
  replace hs2 := hs2.le hV76
  replace hs3 := hs3.le hV76
  replace hu50 := hu50.le hV76
  replace hu60 := hu60.le hV76
  clear hV76
  refine At.ktext (.q 0 (.n false 1 (.q 2 (.q 3 (.q 4 (.q 5 (.q 6 .done))))))) ?_
  refine AtT.kmove ?_
  refine AtT.kcallP rfl rfl ok28 (fewestA tW wTa _ _ hs1) ?_
  rintro _ ⟨L81, x81, hal81, hx81, rfl⟩; obtain rfl := alS_uniq hal81 alsT; obtain rfl : 66 = x81 := (by simpa using hx81); rw [wCnt]
  refine AtT.kmove ?_
  refine AtT.kextract ?_
  refine AtT.kextract ?_
  refine AtT.kassign ?_
  refine AtT.kassign ?_
  refine AtT.done ?_
  refine At.nrm ?_
  refine At.ktext (.q 0 (.n false 1 (.q 2 (.q 3 (.q 4 (.q 5 (.q 6 .done))))))) ?_
  refine AtT.kmove ?_
  refine AtT.kcallP rfl rfl ok28 (fewest_bad vW (by rw [wVa]; decide) _ _ hs3) ?_
  rintro _ rfl; rw [wVa]
  refine AtT.kmove ?_
  refine AtT.kextract ?_
  refine AtT.kextract ?_
  refine AtT.kassign ?_
  refine AtT.kassign ?_
  refine AtT.done ?_
  refine At.nrm ?_
  refine At.ktext (.q 0 (.n false 1 (.q 2 (.q 3 (.q 4 (.q 5 (.q 6 .done))))))) ?_
  refine AtT.kmove ?_
  refine AtT.kcall rfl rfl ok29 (allA tW wTa _ _ hs1) ?_
  rintro _ V91 hV91 ⟨u91, L91, rfl, hal91, hu91⟩; obtain rfl := alS_uniq hal91 alsT; rw [wBl1] at hu91
  refine AtT.kmove ?_
  refine AtT.kextract ?_
  refine AtT.kextract ?_
  refine AtT.kassign ?_
  refine AtT.kassign ?_
  refine AtT.done ?_
  refine At.nrm ?_
  replace hs1 := hs1.le hV91
  replace hs2 := hs2.le hV91
  replace hs3 := hs3.le hV91
  replace hu50 := hu50.le hV91
  replace hu60 := hu60.le hV91
  clear hV91
  refine At.ktext (.q 0 (.n false 1 (.q 2 (.q 3 (.q 4 (.q 5 (.q 6 .done))))))) ?_
  refine AtT.kmove ?_
  refine AtT.kcall rfl rfl ok29 (allA uW wUa _ _ hs2) ?_
  rintro _ V96 hV96 ⟨u96, L96, rfl, hal96, hu96⟩; obtain rfl := alS_uniq hal96 alsU; rw [wBl2] at hu96
  refine AtT.kmove ?_
  refine AtT.kextract ?_
  refine AtT.kextract ?_
  refine AtT.kassign ?_
  refine AtT.kassign ?_
  refine AtT.done ?_
  refine At.nrm ?_
  replace hs1 := hs1.le hV96
  replace hs2 := hs2.le hV96
  replace hs3 := hs3.le hV96
  replace hu50 := hu50.le hV96
  replace hu60 := hu60.le hV96
  replace hu91 := hu91.le hV96
  clear hV96
  refine At.ktext (.q 0 (.n false 1 (.q 2 (.q 3 (.q 4 (.q 5 (.q 6 .done))))))) ?_
  refine AtT.kmove ?_
  refine AtT.kcallP rfl rfl ok30 (unclear_f tW _ _ hs1) ?_
  rintro _ rfl; rw [wU1]
  refine AtT.kmove ?_
  refine AtT.kextract ?_
  refine AtT.kextract ?_
  refine AtT.kassign ?_
  refine AtT.kassign ?_
  refine AtT.done ?_
  refine At.nrm ?_
  refine At.ktext (.q 0 (.n false 1 (.q 2 (.q 3 (.q 4 (.q 5 (.q 6 .done))))))) ?_
  refine AtT.kmove ?_
  refine AtT.kcallP rfl rfl ok30 (unclear_f vW _ _ hs3) ?_
  rintro _ rfl; rw [wU2]
  refine AtT.kmove ?_
  refine AtT.kextract ?_
  refine AtT.kextract ?_
  refine AtT.kassign ?_
  refine AtT.kassign ?_
  refine AtT.done ?_
  refine At.nrm ?_
  refine At.ktext (.q 0 (.n false 1 (.q 2 (.q 3 (.q 4 (.q 5 (.q 6 .done))))))) ?_
  refine AtT.kmove ?_
  refine AtT.kcall rfl rfl ok31 (apF_f tW _ _ hs1) ?_
  rintro _ V111 hV111 ⟨u111, rfl, hu111⟩; rw [wT0]
  refine AtT.kmove ?_
  refine AtT.kextract ?_
  refine AtT.kextract ?_
  refine AtT.kassign ?_
  refine AtT.kassign ?_
  refine AtT.done ?_
  refine At.nrm ?_
  unfold apR at hu111
  rw [if_pos wT0, wA1] at hu111
  replace hs1 := hs1.le hV111
  replace hs2 := hs2.le hV111
  replace hs3 := hs3.le hV111
  replace hu50 := hu50.le hV111
  replace hu60 := hu60.le hV111
  replace hu91 := hu91.le hV111
  replace hu96 := hu96.le hV111
  clear hV111
  refine At.ktext (.q 0 (.n false 1 (.n false 2 (.n false 3 (.q 4 (.n false 5 (.n false 6 (.n false 7 (.q 8 (.n false 9 (.n false 10 (.n false 11 (.q 12 (.q 13 (.q 14 .done))))))))))))))) ?_
  refine AtT.kmove ?_
  refine AtT.kbsliceG (bs38_2_0_1 _ _) ?_
  intro q115 V115 hV115 hq115
  refine AtT.kcallP rfl rfl ok27 (of_f _ _) ?_
  rintro _ rfl
  refine AtT.kcallP rfl rfl ok32 (ckAp_f tW [0, 2] _ _ _ (hs1.le hV115) (Sl.lit hq115 rfl (by decide))) ?_
  rintro _ rfl; rw [wA2]
  refine AtT.kmove ?_
  refine AtT.kbsliceG (bs38_2_0_1 _ _) ?_
  intro q119 V119 hV119 hq119
  refine AtT.kcallP rfl rfl ok27 (of_f _ _) ?_
  rintro _ rfl
  refine AtT.kcallP rfl rfl ok32 (ckAp_f tW [0, 1] _ _ _ ((hs1.le hV115).le hV119) (Sl.lit hq119 rfl (by decide))) ?_
  rintro _ rfl; rw [wA3]
  refine AtT.kmove ?_
  refine AtT.kbsliceG (bs38_2_0_1 _ _) ?_
  intro q123 V123 hV123 hq123
  refine AtT.kcallP rfl rfl ok27 (of_f _ _) ?_
  rintro _ rfl
  refine AtT.kcallP rfl rfl ok32 (ckAp_f tW [2, 0] _ _ _ (((hs1.le hV115).le hV119).le hV123) (Sl.lit hq123 rfl (by decide))) ?_
  rintro _ rfl; rw [wA4]
  refine AtT.kassign ?_
  refine AtT.kassign ?_
  refine AtT.kassign ?_
  refine AtT.done ?_
  refine At.nrm ?_
  replace hs1 := hs1.le hV115
  replace hs2 := hs2.le hV115
  replace hs3 := hs3.le hV115
  replace hu50 := hu50.le hV115
  replace hu60 := hu60.le hV115
  replace hu91 := hu91.le hV115
  replace hu96 := hu96.le hV115
  replace hu111 := hu111.le hV115
  clear hV115
  replace hs1 := hs1.le hV119
  replace hs2 := hs2.le hV119
  replace hs3 := hs3.le hV119
  replace hu50 := hu50.le hV119
  replace hu60 := hu60.le hV119
  replace hu91 := hu91.le hV119
  replace hu96 := hu96.le hV119
  replace hu111 := hu111.le hV119
  clear hV119
  replace hs1 := hs1.le hV123
  replace hs2 := hs2.le hV123
  replace hs3 := hs3.le hV123
  replace hu50 := hu50.le hV123
  replace hu60 := hu60.le hV123
  replace hu91 := hu91.le hV123
  replace hu96 := hu96.le hV123
  replace hu111 := hu111.le hV123
  clear hV123
  refine At.ktext (.q 0 (.n false 1 (.q 2 (.q 3 (.q 4 (.q 5 (.q 6 .done))))))) ?_
  refine AtT.kmove ?_
  refine AtT.kcallP rfl rfl ok7 (blame_ok tW wTa 1 (by decide) _ _ hs1) ?_
  rintro _ ⟨L, hal, rfl⟩; obtain rfl := alS_uniq hal alsT; rw [bm1]
  refine AtT.kmove ?_
  refine AtT.kextract ?_
  refine AtT.kextract ?_
  refine AtT.kassign ?_
  refine AtT.kassign ?_
  refine AtT.done ?_
  refine At.nrm ?_
  refine At.ktext (.q 0 (.n false 1 (.q 2 (.q 3 (.q 4 (.q 5 (.q 6 .done))))))) ?_
  refine AtT.kmove ?_
  refine AtT.kcallP rfl rfl ok7 (blame_ok uW wUa 1 (by decide) _ _ hs2) ?_
  rintro _ ⟨L, hal, rfl⟩; obtain rfl := alS_uniq hal alsU; rw [bm2]
  refine AtT.kmove ?_
  refine AtT.kextract ?_
  refine AtT.kextract ?_
  refine AtT.kassign ?_
  refine AtT.kassign ?_
  refine AtT.done ?_
  refine At.nrm ?_
  refine At.ktext (.q 0 (.n false 1 (.q 2 (.q 3 (.q 4 (.q 5 (.q 6 .done))))))) ?_
  refine AtT.kmove ?_
  refine AtT.kcallP rfl rfl ok7 (blame_bad tW wT0 15 (by decide) _ _ hs1) ?_
  rintro _ rfl
  refine AtT.kmove ?_
  refine AtT.kextract ?_
  refine AtT.kextract ?_
  refine AtT.kassign ?_
  refine AtT.kassign ?_
  refine AtT.done ?_
  refine At.nrm ?_
  refine At.ktext (.q 0 (.n false 1 (.n false 2 (.q 3 (.q 4 (.q 5 (.q 6 (.q 7 .done)))))))) ?_
  refine AtT.kmove ?_
  refine AtT.kcallP rfl rfl ok25 (panel_f 0 0 2 _) ?_
  rintro _ rfl
  refine AtT.kcallP rfl rfl ok9 (failsF_ok tW wTa ⟨0, 0, 2⟩ (by decide +kernel) _ _ hs1) ?_
  rintro _ ⟨L, hal, rfl⟩; obtain rfl := alS_uniq hal alsT; rw [wF1]
  refine AtT.kmove ?_
  refine AtT.kextract ?_
  refine AtT.kextract ?_
  refine AtT.kassign ?_
  refine AtT.kassign ?_
  refine AtT.done ?_
  refine At.nrm ?_
  refine At.ktext (.q 0 (.n false 1 (.q 2 (.q 3 (.q 4 (.q 5 (.n false 6 (.n true 7 (.q 8 (.q 9 .done)))))))))) ?_
  refine AtT.kmove ?_
  refine AtT.kcallP rfl rfl ok11 (next_ok tW wTa _ _ hs1) ?_
  rintro _ ⟨L, hal, rfl⟩; obtain rfl := alS_uniq hal alsT; rw [nx1]
  refine AtT.kmove ?_
  refine AtT.kextract ?_
  refine AtT.kextract ?_
  refine AtT.kextract ?_
  refine AtT.kalloc z24 ?_
  intro b39
  refine AtT.kstoreA tk24 ?_
  refine AtT.kassign ?_
  refine AtT.kassign ?_
  refine AtT.done ?_
  refine At.nrm ?_
  refine At.ktext (.q 0 (.n false 1 (.q 2 (.q 3 (.q 4 (.q 5 (.n false 6 (.n true 7 (.q 8 (.q 9 .done)))))))))) ?_
  refine AtT.kmove ?_
  refine AtT.kcallP rfl rfl ok11 (next_ok uW wUa _ _ hs2) ?_
  rintro _ ⟨L, hal, rfl⟩; obtain rfl := alS_uniq hal alsU; rw [nx2]
  refine AtT.kmove ?_
  refine AtT.kextract ?_
  refine AtT.kextract ?_
  refine AtT.kextract ?_
  refine AtT.kalloc z24 ?_
  intro b42
  refine AtT.kstoreA tk24 ?_
  refine AtT.kassign ?_
  refine AtT.kassign ?_
  refine AtT.done ?_
  refine At.nrm ?_
  refine At.ktext (.q 0 (.q 1 (.q 2 (.q 3 (.q 4 (.q 5 (.q 6 (.q 7 (.q 8 (.q 9 (.q 10 (.q 11 (.q 12 (.q 13 (.q 14 (.q 15 (.q 16 (.q 17 (.q 18 (.q 19 (.q 20 (.q 21 (.q 22 (.q 23 (.q 24 (.q 25 (.q 26 (.q 27 (.q 28 (.q 29 (.q 30 (.q 31 (.q 32 (.q 33 (.q 34 (.q 35 (.q 36 (.q 37 (.q 38 (.q 39 (.q 40 (.q 41 (.q 42 (.q 43 (.q 44 (.q 45 (.q 46 (.q 47 (.q 48 (.q 49 (.q 50 (.q 51 (.q 52 (.q 53 (.q 54 (.q 55 (.q 56 (.q 57 (.q 58 (.q 59 (.q 60 (.q 61 (.q 62 (.q 63 (.q 64 (.q 65 (.q 66 (.q 67 (.q 68 (.q 69 (.q 70 (.q 71 (.q 72 (.q 73 (.q 74 (.q 75 (.q 76 (.q 77 (.q 78 (.q 79 (.q 80 (.q 81 (.q 82 (.q 83 (.q 84 (.q 85 (.q 86 (.q 87 (.q 88 (.q 89 .done)))))))))))))))))))))))))))))))))))))))))))))))))))))))))))))))))))))))))))))))))))))))))) ?_
  refine AtT.kmove ?_
  refine AtT.kneI ?_
  refine AtT.kmove ?_
  all_goals (first | refine AtT.kL 161 ?_ | refine AtT.pcase (d := 161) rfl (fun hg161 => ?_) (fun hg161 => ?_) | refine AtT.bcase (d := 161) rfl (fun hg161 => ?_) (fun hg161 => ?_))
  all_goals (first | refine AtT.kpass ?_ | refine AtT.kpassU ?_ | ((refine AtT.kmove ?_)))
  all_goals (first | refine AtT.kpass ?_ | refine AtT.kpassU ?_ | ((refine AtT.kneI ?_)))
  all_goals (refine AtT.kpick ?_)
  all_goals (refine AtT.kmove ?_)
  all_goals (first | refine AtT.kL 165 ?_ | refine AtT.pcase (d := 165) rfl (fun hg165 => ?_) (fun hg165 => ?_) | refine AtT.bcase (d := 165) rfl (fun hg165 => ?_) (fun hg165 => ?_))
  all_goals (first | refine AtT.kpass ?_ | refine AtT.kpassU ?_ | ((refine AtT.kmove ?_)))
  all_goals (first | refine AtT.kpass ?_ | refine AtT.kpassU ?_ | ((refine AtT.kneI ?_)))
  all_goals (refine AtT.kpick ?_)
  all_goals (refine AtT.kmove ?_)
  all_goals (first | refine AtT.kL 169 ?_ | refine AtT.pcase (d := 169) rfl (fun hg169 => ?_) (fun hg169 => ?_) | refine AtT.bcase (d := 169) rfl (fun hg169 => ?_) (fun hg169 => ?_))
  all_goals (first | refine AtT.kpass ?_ | refine AtT.kpassU ?_ | ((refine AtT.kmove ?_)))
  all_goals (first | refine AtT.kpass ?_ | refine AtT.kpassU ?_ | ((refine AtT.kneI ?_)))
  all_goals (refine AtT.kpick ?_)
  all_goals (refine AtT.kmove ?_)
  all_goals (first | refine AtT.kL 173 ?_ | refine AtT.pcase (d := 173) rfl (fun hg173 => ?_) (fun hg173 => ?_) | refine AtT.bcase (d := 173) rfl (fun hg173 => ?_) (fun hg173 => ?_))
  all_goals (first | refine AtT.kpass ?_ | refine AtT.kpassU ?_ | ((refine AtT.kmove ?_)))
  all_goals (first | refine AtT.kpass ?_ | refine AtT.kpassU ?_ | ((refine AtT.kneI ?_)))
  all_goals (refine AtT.kpick ?_)
  all_goals (refine AtT.kmove ?_)
  all_goals (first | refine AtT.kL 177 ?_ | refine AtT.pcase (d := 177) rfl (fun hg177 => ?_) (fun hg177 => ?_) | refine AtT.bcase (d := 177) rfl (fun hg177 => ?_) (fun hg177 => ?_))
  all_goals (first | refine AtT.kpass ?_ | refine AtT.kpassU ?_ | ((refine AtT.kmove ?_)))
  all_goals (first | refine AtT.kpass ?_ | refine AtT.kpassU ?_ | ((refine AtT.kneI ?_)))
  all_goals (refine AtT.kpick ?_)
  all_goals (refine AtT.kmove ?_)
  all_goals (first | refine AtT.kL 181 ?_ | refine AtT.pcase (d := 181) rfl (fun hg181 => ?_) (fun hg181 => ?_) | refine AtT.bcase (d := 181) rfl (fun hg181 => ?_) (fun hg181 => ?_))
  all_goals (first | refine AtT.kpass ?_ | refine AtT.kpassU ?_ | ((refine AtT.kmove ?_)))
  all_goals (first | refine AtT.kpass ?_ | refine AtT.kpassU ?_ | ((refine AtT.kneI ?_)))
  all_goals (refine AtT.kpick ?_)
  all_goals (refine AtT.kmove ?_)
  all_goals (first | refine AtT.kL 185 ?_ | refine AtT.pcase (d := 185) rfl (fun hg185 => ?_) (fun hg185 => ?_) | refine AtT.bcase (d := 185) rfl (fun hg185 => ?_) (fun hg185 => ?_))
  all_goals (first | refine AtT.kpass ?_ | refine AtT.kpassU ?_ | ((refine AtT.kmove ?_)))
  all_goals (first | refine AtT.kpass ?_ | refine AtT.kpassU ?_ | ((refine AtT.kneI ?_)))
  all_goals (refine AtT.kpick ?_)
  all_goals (refine AtT.kmove ?_)
  all_goals (first | refine AtT.kL 189 ?_ | refine AtT.pcase (d := 189) rfl (fun hg189 => ?_) (fun hg189 => ?_) | refine AtT.bcase (d := 189) rfl (fun hg189 => ?_) (fun hg189 => ?_))
  all_goals (first | refine AtT.kpass ?_ | refine AtT.kpassU ?_ | ((refine AtT.kmove ?_)))
  all_goals (first | refine AtT.kpass ?_ | refine AtT.kpassU ?_ | ((refine AtT.kneI ?_)))
  all_goals (refine AtT.kpick ?_)
  all_goals (refine AtT.kmove ?_)
  all_goals (first | refine AtT.kL 193 ?_ | refine AtT.pcase (d := 193) rfl (fun hg193 => ?_) (fun hg193 => ?_) | refine AtT.bcase (d := 193) rfl (fun hg193 => ?_) (fun hg193 => ?_))
  all_goals (first | refine AtT.kpass ?_ | refine AtT.kpassU ?_ | ((refine AtT.kmove ?_)))
  all_goals (first | refine AtT.kpass ?_ | refine AtT.kpassU ?_ | ((refine AtT.kneI ?_)))
  all_goals (refine AtT.kpick ?_)
  all_goals (refine AtT.kmove ?_)
  all_goals (first | refine AtT.kL 197 ?_ | refine AtT.pcase (d := 197) rfl (fun hg197 => ?_) (fun hg197 => ?_) | refine AtT.bcase (d := 197) rfl (fun hg197 => ?_) (fun hg197 => ?_))
  all_goals (first | refine AtT.kpass ?_ | refine AtT.kpassU ?_ | ((refine AtT.kmove ?_)))
  all_goals (first | refine AtT.kpass ?_ | refine AtT.kpassU ?_ | ((refine AtT.kneI ?_)))
  all_goals (refine AtT.kpick ?_)
  all_goals (refine AtT.kmove ?_)
  all_goals (first | refine AtT.kL 201 ?_ | refine AtT.pcase (d := 201) rfl (fun hg201 => ?_) (fun hg201 => ?_) | refine AtT.bcase (d := 201) rfl (fun hg201 => ?_) (fun hg201 => ?_))
  all_goals (first | refine AtT.kpass ?_ | refine AtT.kpassU ?_ | ((refine AtT.kmove ?_)))
  all_goals (first | refine AtT.kpass ?_ | refine AtT.kpassU ?_ | ((refine AtT.kneI ?_)))
  all_goals (refine AtT.kpick ?_)
  all_goals (refine AtT.kmove ?_)
  all_goals (first | refine AtT.kL 205 ?_ | refine AtT.pcase (d := 205) rfl (fun hg205 => ?_) (fun hg205 => ?_) | refine AtT.bcase (d := 205) rfl (fun hg205 => ?_) (fun hg205 => ?_))
  all_goals (first | refine AtT.kpass ?_ | refine AtT.kpassU ?_ | ((refine AtT.kmove ?_)))
  all_goals (first | refine AtT.kpass ?_ | refine AtT.kpassU ?_ | ((refine AtT.kneI ?_)))
  all_goals (refine AtT.kpick ?_)
  all_goals (refine AtT.kmove ?_)
  all_goals (first | refine AtT.kL 209 ?_ | refine AtT.pcase (d := 209) rfl (fun hg209 => ?_) (fun hg209 => ?_) | refine AtT.bcase (d := 209) rfl (fun hg209 => ?_) (fun hg209 => ?_))
  all_goals (first | refine AtT.kpass ?_ | refine AtT.kpassU ?_ | ((refine AtT.kmove ?_)))
  all_goals (first | refine AtT.kpass ?_ | refine AtT.kpassU ?_ | ((refine AtT.kneI ?_)))
  all_goals (refine AtT.kpick ?_)
  all_goals (refine AtT.kmove ?_)
  all_goals (first | refine AtT.kL 213 ?_ | refine AtT.pcase (d := 213) rfl (fun hg213 => ?_) (fun hg213 => ?_) | refine AtT.bcase (d := 213) rfl (fun hg213 => ?_) (fun hg213 => ?_))
  all_goals (first | refine AtT.kpass ?_ | refine AtT.kpassU ?_ | ((refine AtT.kmove ?_)))
  all_goals (first | refine AtT.kpass ?_ | refine AtT.kpassU ?_ | ((refine AtT.kneI ?_)))
  all_goals (refine AtT.kpick ?_)
  all_goals (refine AtT.kmove ?_)
  all_goals (first | refine AtT.kL 217 ?_ | refine AtT.pcase (d := 217) rfl (fun hg217 => ?_) (fun hg217 => ?_) | refine AtT.bcase (d := 217) rfl (fun hg217 => ?_) (fun hg217 => ?_))
  all_goals (first | refine AtT.kpass ?_ | refine AtT.kpassU ?_ | ((refine AtT.kmove ?_)))
  all_goals (first | refine AtT.kpass ?_ | refine AtT.kpassU ?_ | ((refine AtT.kneI ?_)))
  all_goals (refine AtT.kpick ?_)
  all_goals (refine AtT.kmove ?_)
  all_goals (first | refine AtT.kL 221 ?_ | refine AtT.pcase (d := 221) rfl (fun hg221 => ?_) (fun hg221 => ?_) | refine AtT.bcase (d := 221) rfl (fun hg221 => ?_) (fun hg221 => ?_))
  all_goals (first | refine AtT.kpass ?_ | refine AtT.kpassU ?_ | ((refine AtT.kmove ?_)))
  all_goals (first | refine AtT.kpass ?_ | refine AtT.kpassU ?_ | ((refine AtT.kneI ?_)))
  all_goals (refine AtT.kpick ?_)
  all_goals (refine AtT.kmove ?_)
  all_goals (first | refine AtT.kL 225 ?_ | refine AtT.pcase (d := 225) rfl (fun hg225 => ?_) (fun hg225 => ?_) | refine AtT.bcase (d := 225) rfl (fun hg225 => ?_) (fun hg225 => ?_))
  all_goals (first | refine AtT.kpass ?_ | refine AtT.kpassU ?_ | ((refine AtT.kmove ?_)))
  all_goals (first | refine AtT.kpass ?_ | refine AtT.kpassU ?_ | ((refine AtT.kneI ?_)))
  all_goals (refine AtT.kpick ?_)
  all_goals (refine AtT.kmove ?_)
  all_goals (first | refine AtT.kL 229 ?_ | refine AtT.pcase (d := 229) rfl (fun hg229 => ?_) (fun hg229 => ?_) | refine AtT.bcase (d := 229) rfl (fun hg229 => ?_) (fun hg229 => ?_))
  all_goals (first | refine AtT.kpass ?_ | refine AtT.kpassU ?_ | ((refine AtT.kmove ?_)))
  all_goals (first | refine AtT.kpass ?_ | refine AtT.kpassU ?_ | ((refine AtT.kneI ?_)))
  all_goals (refine AtT.kpick ?_)
  all_goals (refine AtT.kmove ?_)
  all_goals (first | refine AtT.kL 233 ?_ | refine AtT.pcase (d := 233) rfl (fun hg233 => ?_) (fun hg233 => ?_) | refine AtT.bcase (d := 233) rfl (fun hg233 => ?_) (fun hg233 => ?_))
  all_goals (first | refine AtT.kpass ?_ | refine AtT.kpassU ?_ | ((refine AtT.kmove ?_)))
  all_goals (first | refine AtT.kpass ?_ | refine AtT.kpassU ?_ | ((refine AtT.kneI ?_)))
  all_goals (refine AtT.kpick ?_)
  all_goals (refine AtT.kmove ?_)
  all_goals (first | refine AtT.kL 237 ?_ | refine AtT.pcase (d := 237) rfl (fun hg237 => ?_) (fun hg237 => ?_) | refine AtT.bcase (d := 237) rfl (fun hg237 => ?_) (fun hg237 => ?_))
  all_goals (first | refine AtT.kpass ?_ | refine AtT.kpassU ?_ | ((refine AtT.kmove ?_)))
  all_goals (first | refine AtT.kpass ?_ | refine AtT.kpassU ?_ | ((refine AtT.kneI ?_)))
  all_goals (refine AtT.kpick ?_)
  all_goals (refine AtT.kmove ?_)
  all_goals (first | refine AtT.kL 241 ?_ | refine AtT.pcase (d := 241) rfl (fun hg241 => ?_) (fun hg241 => ?_) | refine AtT.bcase (d := 241) rfl (fun hg241 => ?_) (fun hg241 => ?_))
  all_goals (first | refine AtT.kpass ?_ | refine AtT.kpassU ?_ | ((refine AtT.kmove ?_)))
  all_goals (first | refine AtT.kpass ?_ | refine AtT.kpassU ?_ | ((refine AtT.kneI ?_)))
  all_goals (refine AtT.kpick ?_)
  all_goals (refine AtT.kmove ?_)
  all_goals (first | refine AtT.kL 245 ?_ | refine AtT.pcase (d := 245) rfl (fun hg245 => ?_) (fun hg245 => ?_) | refine AtT.bcase (d := 245) rfl (fun hg245 => ?_) (fun hg245 => ?_))
  all_goals (first | refine AtT.kpass ?_ | refine AtT.kpassU ?_ | ((refine AtT.kmove ?_)))
  all_goals (first | refine AtT.kpass ?_ | refine AtT.kpassU ?_ | ((refine AtT.kneI ?_)))
  all_goals (refine AtT.kpick ?_)
  all_goals refine AtT.done ?_
  all_goals (refine At.nrm ?_)
  refine At.condF rfl rfl ?_
  refine At.nrm ?_
  refine At.sub (ks' := [(4, u50), (8, u60), (14, iv 2), (18, u91), (20, u96), (24, iv 0), (26, u111), (31, iv 1), (33, iv 2), (37, iv 2), (39, .pointer (some ⟨b39, 0, none⟩)), (40, iv 1)]) ⟨rfl, rfl, rfl, rfl, rfl, rfl, rfl, rfl, rfl, rfl, rfl, rfl, trivial⟩ ?_
  clear hs2 hs3
  refine At.drawF [(0, 16, 904625697166532776746648320380374280103671755200316906558262375061821325312), (0, 0, 1809251394333065553493296640760748560207343510400633813116524750123642650624), (2, 1809251394333065553493296640760748560207343510400633813116524750123642650624, 3618502788666131106986593281521497120414687020801267626233049500247285301248), (5, 4523128485832663883733241601901871400518358776001584532791311875309106626560, 7237005577332262213973186563042994240829374041602535252466099000494570602496), (8, 7237005577332262213973186563042994240829374041602535252466099000494570602496, 14474011154664524427946373126085988481658748083205070504932198000989141204992), (16, 14474011154664524427946373126085988481658748083205070504932198000989141205248, 28948022309329048855892746252171976963317496166410141009864396001978282409984), (16, 14474011154664524427946373126085988481658748083205070504932198000989141204992, 57896044618658097711785492504343953926634992332820282019728792003956564819968), (80, 72370055773322622139731865630429942408293740416025352524660990004945706024960, 115792089237316195423570985008687907853269984665640564039457584007913129639936), (176, 159214122701309768707410104386945873298246228915255775554254178010880553254912, 231584178474632390847141970017375815706539969331281128078915168015826259279872), (272, 246058189629296915275088343143461804188198717414486198583847366016815400484864, 463168356949264781694283940034751631413079938662562256157830336031652518559744), (768, 463168356949264781694283940034751631413079938662562256157830336031652518559744, 926336713898529563388567880069503262826159877325124512315660672063305037119488), (1024, 926336713898529563388567880069503262826159877325124512315660672063305037135872, 1852673427797059126777135760139006525652319754650249024631321344126610074238976), (3072, 2779010141695588690165703640208509788478479631975373536946982016189915111358464, 3705346855594118253554271520278013051304639509300498049262642688253220148477952), (5120, 4631683569492647816942839400347516314130799386625622561578303360316525185597440, 7410693711188236507108543040556026102609279018600996098525285376506440296955904), (9216, 7410693711188236507108543040556026102609279018600996098525285376506440296955904, 14821387422376473014217086081112052205218558037201992197050570753012880593911808), (16384, 14821387422376473014217086081112052205218558037201992197050570753012880594173952, 29642774844752946028434172162224104410437116074403984394101141506025761187823616), (16384, 14821387422376473014217086081112052205218558037201992197050570753012880593911808, 59285549689505892056868344324448208820874232148807968788202283012051522375647232), (81920, 74106937111882365071085430405560261026092790186009960985252853765064402969559040, 118571099379011784113736688648896417641748464297615937576404566024103044751294464), (16384, 14821387422376473014217086081112052205218558037201992197050570753012880593911808, 237142198758023568227473377297792835283496928595231875152809132048206089502588928), (409600, 251963586180400041241690463378904887488715486632433867349859702801218970096500736, 474284397516047136454946754595585670566993857190463750305618264096412179005177856), (16384, 14821387422376473014217086081112052205218558037201992197050570753012880593911808, 948568795032094272909893509191171341133987714380927500611236528192824358010355712), (1589248, 963390182454470745924110595272283393339206272418129492808287098945837238604267520, 1897137590064188545819787018382342682267975428761855001222473056385648716020711424), (2768896, 2504814474381623939402687547707936822681936308287136681301546457259176820371095552, 3794275180128377091639574036764685364535950857523710002444946112771297432041422848), (6307840, 3809096567550753564653791122845797416741169415560911994641996683524310312635334656, 7588550360256754183279148073529370729071901715047420004889892225542594864082845696), (8437760, 7633014522523883602321799331772706885687557389159025981481043937801633505864581120, 15177100720513508366558296147058741458143803430094840009779784451085189728165691392), (16793600, 15191922107935884839572513233139853510349021988132042001976835021838202608759603200, 30354201441027016733116592294117482916287606860189680019559568902170379456331382784), (50331648, 30354201441027016733116592294117482916287606860189680019559568902170379456331382784, 60708402882054033466233184588234965832575213720379360039119137804340758912662765568), (67108864, 60708402882054033466233184588234965832575213720379360039119137804340758912663814144, 121416805764108066932466369176469931665150427440758720078238275608681517825325531136), (67108864, 60708402882054033466233184588234965832575213720379360039119137804340758912662765568, 242833611528216133864932738352939863330300854881517440156476551217363035650651062272), (335544320, 303542014410270167331165922941174829162876068601896800195595689021703794563313827840, 485667223056432267729865476705879726660601709763034880312953102434726071301302124544), (603979776, 546375625938486301196098661294114692493176923483414240352072240239066830213964890112, 971334446112864535459730953411759453321203419526069760625906204869452142602604249088), (1677721600, 1032042848994918568925964137999994419153778633246449120665025342673792901515267014656, 1942668892225729070919461906823518906642406839052139521251812409738904285205208498176), (2348810240, 2124794100871891171318161460588223804140132480213277601369169823151926561943196794880, 3885337784451458141838923813647037813284813678104279042503624819477808570410416996352), (4362076160, 3946046187333512175305156998235272779117388891824658402542743957282149329323079761920, 7770675568902916283677847627294075626569627356208558085007249638955617140820833992704), (12884901888, 7770675568902916283677847627294075626569627356208558085007249638955617140820833992704, 15541351137805832567355695254588151253139254712417116170014499277911234281641667985408), (17179869184, 15541351137805832567355695254588151253139254712417116170014499277911234281641684762624, 31082702275611665134711390509176302506278509424834232340028998555822468563283335970816), (51539607552, 46624053413417497702067085763764453759417764137251348510043497833733702844925003956224, 62165404551223330269422781018352605012557018849668464680057997111644937126566671941632), (85899345920, 77706755689029162836778476272940756265696273562085580850072496389556171408208339927040, 124330809102446660538845562036705210025114037699336929360115994223289874253133343883264), (154618822656, 124330809102446660538845562036705210025114037699336929360115994223289874253133343883264, 248661618204893321077691124073410420050228075398673858720231988446579748506266687766528), (274877906944, 248661618204893321077691124073410420050228075398673858720231988446579748506266754875392, 497323236409786642155382248146820840100456150797347717440463976893159497012533375533056), (274877906944, 248661618204893321077691124073410420050228075398673858720231988446579748506266687766528, 994646472819573284310764496293641680200912301594695434880927953786318994025066751066112), (1374389534720, 1243308091024466605388455620367052100251140376993369293601159942232898742531333438832640, 1989292945639146568621528992587283360401824603189390869761855907572637988050133502132224), (3023656976384, 2735277800253826531854602364807514620552508829385412445922551872912377233568933565431808, 3978585891278293137243057985174566720803649206378781739523711815145275976100267004264448), (4672924418048, 4227247509483186458320749109247977140853877281777455598243943803591855724606533692030976, 7957171782556586274486115970349133441607298412757563479047423630290551952200534008528896), (13194139533312, 7957171782556586274486115970349133441607298412757563479047423630290551952200534008528896, 15914343565113172548972231940698266883214596825515126958094847260581103904401068017057792), (17592186044416, 15914343565113172548972231940698266883214596825515126958094847260581103904401070164541440, 31828687130226345097944463881396533766429193651030253916189694521162207808802136034115584), (52776558133248, 47743030695339517646916695822094800649643790476545380874284541781743311713203204051173376, 63657374260452690195888927762793067532858387302060507832379389042324415617604272068231168), (87960930222080, 79571717825565862744861159703491334416072984127575634790474236302905519522005340085288960, 127314748520905380391777855525586135065716774604121015664758778084648831235208544136462336), (158329674399744, 127314748520905380391777855525586135065716774604121015664758778084648831235208544136462336, 254629497041810760783555711051172270131433549208242031329517556169297662470417088272924672), (281474976710656, 254629497041810760783555711051172270131433549208242031329517556169297662470417096862859264, 509258994083621521567111422102344540262867098416484062659035112338595324940834176545849344), (844424930131968, 763888491125432282350667133153516810394300647624726093988552668507892987411251264818774016, 1018517988167243043134222844204689080525734196832968125318070224677190649881668353091698688), (1407374883553280, 1273147485209053803917778555255861350657167746041210156647587780846488312352085441364623360, 2037035976334486086268445688409378161051468393665936250636140449354381299763336706183397376), (2533274790395904, 2037035976334486086268445688409378161051468393665936250636140449354381299763336706183397376, 4074071952668972172536891376818756322102936787331872501272280898708762599526673412366794752), (4503599627370496, 4074071952668972172536891376818756322102936787331872501272280898708762599526673549805748224, 8148143905337944345073782753637512644205873574663745002544561797417525199053346824733589504), (13510798882111488, 12222215858006916517610674130456268966308810361995617503816842696126287798580020237100384256, 16296287810675888690147565507275025288411747149327490005089123594835050398106693649467179008), (22517998136852480, 20370359763344860862684456884093781610514683936659362506361404493543812997633367061833973760, 32592575621351777380295131014550050576823494298654980010178247189670100796213387298934358016), (40532396646334464, 32592575621351777380295131014550050576823494298654980010178247189670100796213387298934358016, 65185151242703554760590262029100101153646988597309960020356494379340201592426774597868716032), (72057594037927936, 65185151242703554760590262029100101153646988597309960020356494379340201592426775147624529920, 130370302485407109521180524058200202307293977194619920040712988758680403184853549195737432064), (72057594037927936, 65185151242703554760590262029100101153646988597309960020356494379340201592426774597868716032, 260740604970814219042361048116400404614587954389239840081425977517360806369707098391474864128), (504403158265495552, 456296058698924883324131834203700708075528920181169720142495460655381411146987422185081012224, 521481209941628438084722096232800809229175908778479680162851955034721612739414196782949728256), (648518346341351424, 586666361184331992845312358261900910382822897375789640183208449414061814331840971380818444288, 1042962419883256876169444192465601618458351817556959360325703910069443225478828393565899456512), (1441151880758558720, 1042962419883256876169444192465601618458351817556959360325703910069443225478828393565899456512, 2085924839766513752338888384931203236916703635113918720651407820138886450957656787131798913024), (2305843009213693952, 2085924839766513752338888384931203236916703635113918720651407820138886450957656788231310540800, 4171849679533027504677776769862406473833407270227837441302815640277772901915313574263597826048), (6917529027641081856, 6257774519299541257016665154793609710750110905341756161954223460416659352872970361395396739072, 8343699359066055009355553539724812947666814540455674882605631280555545803830627148527195652096), (11529215046068469760, 10429624198832568761694441924656016184583518175569593603257039100694432254788283935658994565120, 16687398718132110018711107079449625895333629080911349765211262561111091607661254297054391304192), (36893488147419103231, 16687398718132110018711107079449625895333629080911349765211262561111091607661254297054391304192, 1)] (.q 0 (.n false 1 (.n false 2 (.n false 3 (.q 4 (.q 5 (.n false 6 (.n false 7 (.n false 8 (.q 9 (.q 10 (.q 11 (.q 12 (.q 13 (.q 14 (.q 15 (.br [16, 18, 20] (fun i => bif Nat.beq i 16 then (.br [17, 18, 20] (fun i => bif Nat.beq i 17 then (.two 18 (.two 19 (.n false 20 (.n false 21 (.n false 22 (.n false 23 (.n false 24 (.q 25 (.q 26 (.q 27 (.n false 28 (.n false 29 (.n false 30 (.n false 31 (.n false 32 (.q 33 (.q 34 (.q 35 (.q 36 (.q 37 (.q 38 (.q 39 (.n false 40 (.n false 41 (.n false 42 (.q 43 (.q 44 (.q 45 (.q 46 (.q 47 (.q 48 (.q 49 (.q 50 (.q 51 (.q 52 (.q 53 (.q 54 (.q 55 (.q 56 (.q 57 (.n false 58 (.q 59 (.q 60 (.q 61 (.q 62 (.q 63 (.q 64 (.q 65 .done)))))))))))))))))))))))))))))))))))))))))))))) 20 (.n false 19 (.n false 21 (.n false 22 (.n false 23 (.n false 24 (.q 25 (.q 26 (.q 27 (.n false 28 (.n false 29 (.n false 30 (.n false 31 (.n false 32 (.q 33 (.q 34 (.q 35 (.q 36 (.q 37 (.q 38 (.q 39 (.n false 40 (.n false 41 (.n false 42 (.q 43 (.q 44 (.q 45 (.q 46 (.q 47 (.q 48 (.q 49 (.q 50 (.q 51 (.q 52 (.q 53 (.q 54 (.q 55 (.q 56 (.q 57 (.n false 58 (.q 59 (.q 60 (.q 61 (.q 62 (.q 63 (.q 64 (.q 65 .done))))))))))))))))))))))))))))))))))))))))))))))) 20 (.n false 18 (.n false 19 (.n false 21 (.n false 22 (.n false 23 (.n false 24 (.q 25 (.q 26 (.q 27 (.n false 28 (.n false 29 (.n false 30 (.n false 31 (.n false 32 (.q 33 (.q 34 (.q 35 (.q 36 (.q 37 (.q 38 (.q 39 (.n false 40 (.n false 41 (.n false 42 (.q 43 (.q 44 (.q 45 (.q 46 (.q 47 (.q 48 (.q 49 (.q 50 (.q 51 (.q 52 (.q 53 (.q 54 (.q 55 (.q 56 (.q 57 (.n false 58 (.q 59 (.q 60 (.q 61 (.q 62 (.q 63 (.q 64 (.q 65 .done)))))))))))))))))))))))))))))))))))))))))))))))) else bif Nat.beq i 18 then (.two 17 (.two 19 (.n false 20 (.n false 21 (.n false 22 (.n false 23 (.n false 24 (.q 25 (.q 26 (.q 27 (.n false 28 (.n false 29 (.n false 30 (.n false 31 (.n false 32 (.q 33 (.q 34 (.q 35 (.q 36 (.q 37 (.q 38 (.q 39 (.n false 40 (.n false 41 (.n false 42 (.q 43 (.q 44 (.q 45 (.q 46 (.q 47 (.q 48 (.q 49 (.q 50 (.q 51 (.q 52 (.q 53 (.q 54 (.q 55 (.q 56 (.q 57 (.n false 58 (.q 59 (.q 60 (.q 61 (.q 62 (.q 63 (.q 64 (.q 65 .done)))))))))))))))))))))))))))))))))))))))))))))) 20 (.n false 19 (.n false 21 (.n false 22 (.n false 23 (.n false 24 (.q 25 (.q 26 (.q 27 (.n false 28 (.n false 29 (.n false 30 (.n false 31 (.n false 32 (.q 33 (.q 34 (.q 35 (.q 36 (.q 37 (.q 38 (.q 39 (.n false 40 (.n false 41 (.n false 42 (.q 43 (.q 44 (.q 45 (.q 46 (.q 47 (.q 48 (.q 49 (.q 50 (.q 51 (.q 52 (.q 53 (.q 54 (.q 55 (.q 56 (.q 57 (.n false 58 (.q 59 (.q 60 (.q 61 (.q 62 (.q 63 (.q 64 (.q 65 .done))))))))))))))))))))))))))))))))))))))))))))))) 20 (.n false 17 (.n false 19 (.n false 21 (.n false 22 (.n false 23 (.n false 24 (.q 25 (.q 26 (.q 27 (.n false 28 (.n false 29 (.n false 30 (.n false 31 (.n false 32 (.q 33 (.q 34 (.q 35 (.q 36 (.q 37 (.q 38 (.q 39 (.n false 40 (.n false 41 (.n false 42 (.q 43 (.q 44 (.q 45 (.q 46 (.q 47 (.q 48 (.q 49 (.q 50 (.q 51 (.q 52 (.q 53 (.q 54 (.q 55 (.q 56 (.q 57 (.n false 58 (.q 59 (.q 60 (.q 61 (.q 62 (.q 63 (.q 64 (.q 65 .done)))))))))))))))))))))))))))))))))))))))))))))))) else bif Nat.beq i 20 then (.two 17 (.n false 18 (.n false 19 (.n false 21 (.n false 22 (.n false 23 (.n false 24 (.q 25 (.q 26 (.q 27 (.n false 28 (.n false 29 (.n false 30 (.n false 31 (.n false 32 (.q 33 (.q 34 (.q 35 (.q 36 (.q 37 (.q 38 (.q 39 (.n false 40 (.n false 41 (.n false 42 (.q 43 (.q 44 (.q 45 (.q 46 (.q 47 (.q 48 (.q 49 (.q 50 (.q 51 (.q 52 (.q 53 (.q 54 (.q 55 (.q 56 (.q 57 (.n false 58 (.q 59 (.q 60 (.q 61 (.q 62 (.q 63 (.q 64 (.q 65 .done))))))))))))))))))))))))))))))))))))))))))))))) 18 (.n false 17 (.n false 19 (.n false 21 (.n false 22 (.n false 23 (.n false 24 (.q 25 (.q 26 (.q 27 (.n false 28 (.n false 29 (.n false 30 (.n false 31 (.n false 32 (.q 33 (.q 34 (.q 35 (.q 36 (.q 37 (.q 38 (.q 39 (.n false 40 (.n false 41 (.n false 42 (.q 43 (.q 44 (.q 45 (.q 46 (.q 47 (.q 48 (.q 49 (.q 50 (.q 51 (.q 52 (.q 53 (.q 54 (.q 55 (.q 56 (.q 57 (.n false 58 (.q 59 (.q 60 (.q 61 (.q 62 (.q 63 (.q 64 (.q 65 .done)))))))))))))))))))))))))))))))))))))))))))))))) else .done)) else bif Nat.beq i 18 then (.two 16 (.two 17 (.two 19 (.n false 20 (.n false 21 (.n false 22 (.n false 23 (.n false 24 (.q 25 (.q 26 (.q 27 (.n false 28 (.n false 29 (.n false 30 (.n false 31 (.n false 32 (.q 33 (.q 34 (.q 35 (.q 36 (.q 37 (.q 38 (.q 39 (.n false 40 (.n false 41 (.n false 42 (.q 43 (.q 44 (.q 45 (.q 46 (.q 47 (.q 48 (.q 49 (.q 50 (.q 51 (.q 52 (.q 53 (.q 54 (.q 55 (.q 56 (.q 57 (.n false 58 (.q 59 (.q 60 (.q 61 (.q 62 (.q 63 (.q 64 (.q 65 .done)))))))))))))))))))))))))))))))))))))))))))))) 20 (.n false 19 (.n false 21 (.n false 22 (.n false 23 (.n false 24 (.q 25 (.q 26 (.q 27 (.n false 28 (.n false 29 (.n false 30 (.n false 31 (.n false 32 (.q 33 (.q 34 (.q 35 (.q 36 (.q 37 (.q 38 (.q 39 (.n false 40 (.n false 41 (.n false 42 (.q 43 (.q 44 (.q 45 (.q 46 (.q 47 (.q 48 (.q 49 (.q 50 (.q 51 (.q 52 (.q 53 (.q 54 (.q 55 (.q 56 (.q 57 (.n false 58 (.q 59 (.q 60 (.q 61 (.q 62 (.q 63 (.q 64 (.q 65 .done))))))))))))))))))))))))))))))))))))))))))))))) 20 (.n false 17 (.n false 19 (.n false 21 (.n false 22 (.n false 23 (.n false 24 (.q 25 (.q 26 (.q 27 (.n false 28 (.n false 29 (.n false 30 (.n false 31 (.n false 32 (.q 33 (.q 34 (.q 35 (.q 36 (.q 37 (.q 38 (.q 39 (.n false 40 (.n false 41 (.n false 42 (.q 43 (.q 44 (.q 45 (.q 46 (.q 47 (.q 48 (.q 49 (.q 50 (.q 51 (.q 52 (.q 53 (.q 54 (.q 55 (.q 56 (.q 57 (.n false 58 (.q 59 (.q 60 (.q 61 (.q 62 (.q 63 (.q 64 (.q 65 .done)))))))))))))))))))))))))))))))))))))))))))))))) 20 (.n false 16 (.n false 17 (.n false 19 (.n false 21 (.n false 22 (.n false 23 (.n false 24 (.q 25 (.q 26 (.q 27 (.n false 28 (.n false 29 (.n false 30 (.n false 31 (.n false 32 (.q 33 (.q 34 (.q 35 (.q 36 (.q 37 (.q 38 (.q 39 (.n false 40 (.n false 41 (.n false 42 (.q 43 (.q 44 (.q 45 (.q 46 (.q 47 (.q 48 (.q 49 (.q 50 (.q 51 (.q 52 (.q 53 (.q 54 (.q 55 (.q 56 (.q 57 (.n false 58 (.q 59 (.q 60 (.q 61 (.q 62 (.q 63 (.q 64 (.q 65 .done))))))))))))))))))))))))))))))))))))))))))))))))) else bif Nat.beq i 20 then (.two 16 (.two 17 (.n false 18 (.n false 19 (.n false 21 (.n false 22 (.n false 23 (.n false 24 (.q 25 (.q 26 (.q 27 (.n false 28 (.n false 29 (.n false 30 (.n false 31 (.n false 32 (.q 33 (.q 34 (.q 35 (.q 36 (.q 37 (.q 38 (.q 39 (.n false 40 (.n false 41 (.n false 42 (.q 43 (.q 44 (.q 45 (.q 46 (.q 47 (.q 48 (.q 49 (.q 50 (.q 51 (.q 52 (.q 53 (.q 54 (.q 55 (.q 56 (.q 57 (.n false 58 (.q 59 (.q 60 (.q 61 (.q 62 (.q 63 (.q 64 (.q 65 .done))))))))))))))))))))))))))))))))))))))))))))))) 18 (.n false 17 (.n false 19 (.n false 21 (.n false 22 (.n false 23 (.n false 24 (.q 25 (.q 26 (.q 27 (.n false 28 (.n false 29 (.n false 30 (.n false 31 (.n false 32 (.q 33 (.q 34 (.q 35 (.q 36 (.q 37 (.q 38 (.q 39 (.n false 40 (.n false 41 (.n false 42 (.q 43 (.q 44 (.q 45 (.q 46 (.q 47 (.q 48 (.q 49 (.q 50 (.q 51 (.q 52 (.q 53 (.q 54 (.q 55 (.q 56 (.q 57 (.n false 58 (.q 59 (.q 60 (.q 61 (.q 62 (.q 63 (.q 64 (.q 65 .done)))))))))))))))))))))))))))))))))))))))))))))))) 18 (.n false 16 (.n false 17 (.n false 19 (.n false 21 (.n false 22 (.n false 23 (.n false 24 (.q 25 (.q 26 (.q 27 (.n false 28 (.n false 29 (.n false 30 (.n false 31 (.n false 32 (.q 33 (.q 34 (.q 35 (.q 36 (.q 37 (.q 38 (.q 39 (.n false 40 (.n false 41 (.n false 42 (.q 43 (.q 44 (.q 45 (.q 46 (.q 47 (.q 48 (.q 49 (.q 50 (.q 51 (.q 52 (.q 53 (.q 54 (.q 55 (.q 56 (.q 57 (.n false 58 (.q 59 (.q 60 (.q 61 (.q 62 (.q 63 (.q 64 (.q 65 .done))))))))))))))))))))))))))))))))))))))))))))))))) else .done)))))))))))))))))) ffm (by kernel_rfl) (by kernel_rfl) (by kernel_rfl) ?_
  refine AtT.kmove ?_
  refine AtT.kbsliceG (bs38_3_0_1_2 _ _ _) ?_
  intro q250 V250 hV250 hq250
  (try replace hu50 := hu50.le hV250) ; (try replace hu60 := hu60.le hV250) ; (try replace hu91 := hu91.le hV250) ; (try replace hu96 := hu96.le hV250) ; (try replace hu111 := hu111.le hV250)
  have s250 : SlI V250 _ [1, 7, 12] := Sl.lit hq250 rfl (by decide)
  refine AtT.kcallP rfl rfl ok27 (of_f _ _) ?_
  rintro _ rfl
  refine AtT.kcallP rfl rfl ok33 (ints_f [1, 7, 12] [1, 7, 12] _ _ _ hu50 s250) ?_
  rintro _ rfl
  refine AtT.setT (d := 252) rfl (rfl) ?_
  refine AtT.kmove ?_
  all_goals (first | refine AtT.kL 253 ?_ | refine AtT.pcase (d := 253) rfl (fun hg253 => ?_) (fun hg253 => ?_) | refine AtT.bcase (d := 253) rfl (fun hg253 => ?_) (fun hg253 => ?_))
  all_goals (first | refine AtT.kpass ?_ | refine AtT.kpassU ?_ | ((refine AtT.kmove ?_)))
  all_goals (first | refine AtT.kpassN ?_ | refine AtT.kpassNU ?_ | ((refine AtT.kbsliceG (bs38_5_0_1_2_3_4 _ _ _ _ _) ?_) ; (intro q255 V255 hV255 hq255)))
  all_goals ((try replace hu60 := hu60.le hV255) ; (try replace hu91 := hu91.le hV255) ; (try replace hu96 := hu96.le hV255) ; (try replace hu111 := hu111.le hV255))
  all_goals (have s255 : SlI V255 _ [0, 2, 5, 7, 10] := Sl.lit hq255 rfl (by decide))
  all_goals (first | refine AtT.kpassN ?_ | refine AtT.kpassNU ?_ | ((refine AtT.kcallP rfl rfl ok27 (of_f _ _) ?_) ; (rintro _ rfl)))
  all_goals (first | refine AtT.kpassN ?_ | refine AtT.kpassNU ?_ | ((refine AtT.kcallP rfl rfl ok33 (ints_f [0, 2, 5, 7, 10] [0, 2, 5, 7, 10] _ _ _ hu60 s255) ?_) ; (rintro _ rfl)))
  all_goals (refine AtT.setT (d := 257) rfl (rfl) ?_)
  all_goals (refine AtT.kpick ?_)
  all_goals (refine AtT.kmove ?_)
  all_goals (first | refine AtT.kL 259 ?_ | refine AtT.pcase (d := 259) rfl (fun hg259 => ?_) (fun hg259 => ?_) | refine AtT.bcase (d := 259) rfl (fun hg259 => ?_) (fun hg259 => ?_))
  all_goals (first | refine AtT.kpass ?_ | refine AtT.kpassU ?_ | ((refine AtT.kmove ?_)))
  all_goals (first | refine AtT.kpass ?_ | refine AtT.kpassU ?_ | ((refine AtT.keqI ?_)))
  all_goals (refine AtT.setT (d := 261) rfl (rfl) ?_)
  all_goals (refine AtT.kpick ?_)
  all_goals (refine AtT.kmove ?_)
  all_goals (first | refine AtT.kL 263 ?_ | refine AtT.pcase (d := 263) rfl (fun hg263 => ?_) (fun hg263 => ?_) | refine AtT.bcase (d := 263) rfl (fun hg263 => ?_) (fun hg263 => ?_))
  all_goals (first | refine AtT.kpass ?_ | refine AtT.kpassU ?_ | ((refine AtT.kmove ?_)))
  refine AtT.br (fun i hi => ?_)
  simp only [List.mem_cons, List.not_mem_nil, or_false] at hi
  rcases hi with rfl | rfl | rfl
  rotate_right
  focus
    all_goals (first | refine AtT.kpassN ?_ | refine AtT.kpassNU ?_ | ((refine AtT.kbsliceG (bs38_2_0_1 _ _) ?_) ; (intro q269 V269 hV269 hq269)))
    all_goals ((try replace hu91 := hu91.le hV269) ; (try replace hu96 := hu96.le hV269) ; (try replace hu111 := hu111.le hV269) ; (try replace s265 := s265.le hV269) ; (try replace s267 := s267.le hV269) ; (try replace s269 := s269.le hV269))
    all_goals (have s269 : SlI V269 _ [6, 12] := Sl.lit hq269 rfl (by decide))
    refine AtT.two ?_ ?_
    focus
      all_goals (first | refine AtT.kpassN ?_ | refine AtT.kpassNU ?_ | ((refine AtT.kbsliceG (bs38_2_0_1 _ _) ?_) ; (intro q265 V265 hV265 hq265)))
      all_goals ((try replace hu91 := hu91.le hV265) ; (try replace hu96 := hu96.le hV265) ; (try replace hu111 := hu111.le hV265) ; (try replace s265 := s265.le hV265) ; (try replace s267 := s267.le hV265) ; (try replace s269 := s269.le hV265))
      all_goals (have s265 : SlI V265 _ [1, 6] := Sl.lit hq265 rfl (by decide))
      refine AtT.two ?_ ?_
      focus
        all_goals (first | refine AtT.kpassN ?_ | refine AtT.kpassNU ?_ | ((refine AtT.kcallP rfl rfl ok27 (of_f _ _) ?_) ; (rintro _ rfl)))
        all_goals (first | refine AtT.kpassN ?_ | refine AtT.kpassNU ?_ | ((refine AtT.kbsliceG (bs38_2_0_1 _ _) ?_) ; (intro q267 V267 hV267 hq267)))
        all_goals ((try replace hu91 := hu91.le hV267) ; (try replace hu96 := hu96.le hV267) ; (try replace hu111 := hu111.le hV267) ; (try replace s265 := s265.le hV267) ; (try replace s267 := s267.le hV267) ; (try replace s269 := s269.le hV267))
        all_goals (have s267 : SlI V267 _ [1, 12] := Sl.lit hq267 rfl (by decide))
        all_goals (first | refine AtT.kpassN ?_ | refine AtT.kpassNU ?_ | ((refine AtT.kcallP rfl rfl ok27 (of_f _ _) ?_) ; (rintro _ rfl)))
        all_goals (first | refine AtT.kpassN ?_ | refine AtT.kpassNU ?_ | ((refine AtT.kcallP rfl rfl ok27 (of_f _ _) ?_) ; (rintro _ rfl)))
        all_goals (first | refine AtT.kpassN ?_ | refine AtT.kpassNU ?_ | ((refine AtT.kbsliceG (bs35_3_0_1_2 _ _ _ _ _ _ _ _ _) ?_) ; (intro q271 V271 hV271 hq271)))
        all_goals ((try replace hu91 := hu91.le hV271) ; (try replace hu96 := hu96.le hV271) ; (try replace hu111 := hu111.le hV271) ; (try replace s265 := s265.le hV271) ; (try replace s267 := s267.le hV271) ; (try replace s269 := s269.le hV271))
        all_goals (first | refine AtT.kpassN ?_ | refine AtT.kpassNU ?_ | ((refine AtT.kcallP rfl rfl ok35 (lists_f _ _) ?_) ; (rintro _ rfl)))
        all_goals (first | refine AtT.kpassN ?_ | refine AtT.kpassNU ?_ | ((refine AtT.kcallP rfl rfl ok34 (lists_eq_f [[1, 6], [1, 12], [6, 12]] [[1, 6], [1, 12], [6, 12]] _ _ _ hu91 (SL.lit [(some q265, 2, 2), (some q267, 2, 2), (some q269, 2, 2)] [[1, 6], [1, 12], [6, 12]] 3 hq271 rfl rfl (by simp) (fun i q l h1 h2 => by match i, h1, h2 with | 0, h1, h2 => (cases h1; cases h2; exact s265) | 1, h1, h2 => (cases h1; cases h2; exact s267) | 2, h1, h2 => (cases h1; cases h2; exact s269)))) ?_) ; (rintro _ rfl)))
        all_goals (refine AtT.setT (d := 273) rfl (rfl) ?_)
        all_goals (refine AtT.kpick ?_)
        all_goals (refine AtT.kmove ?_)
        all_goals (first | refine AtT.kL 275 ?_ | refine AtT.pcase (d := 275) rfl (fun hg275 => ?_) (fun hg275 => ?_) | refine AtT.bcase (d := 275) rfl (fun hg275 => ?_) (fun hg275 => ?_))
        all_goals (first | refine AtT.kpass ?_ | refine AtT.kpassU ?_ | ((refine AtT.kmove ?_)))
        all_goals (first | refine AtT.kpassN ?_ | refine AtT.kpassNU ?_ | ((refine AtT.kbsliceG (bs38_2_0_1 _ _) ?_) ; (intro q277 V277 hV277 hq277)))
        all_goals ((try replace hu96 := hu96.le hV277) ; (try replace hu111 := hu111.le hV277))
        all_goals (have s277 : SlI V277 _ [1, 6] := Sl.lit hq277 rfl (by decide))
        all_goals (first | refine AtT.kpassN ?_ | refine AtT.kpassNU ?_ | ((refine AtT.kcallP rfl rfl ok27 (of_f _ _) ?_) ; (rintro _ rfl)))
        all_goals (first | refine AtT.kpassN ?_ | refine AtT.kpassNU ?_ | ((refine AtT.kbsliceG (bs35_1_0 _ _ _) ?_) ; (intro q279 V279 hV279 hq279)))
        all_goals ((try replace hu96 := hu96.le hV279) ; (try replace hu111 := hu111.le hV279) ; (try replace s277 := s277.le hV279))
        all_goals (first | refine AtT.kpassN ?_ | refine AtT.kpassNU ?_ | ((refine AtT.kcallP rfl rfl ok35 (lists_f _ _) ?_) ; (rintro _ rfl)))
        all_goals (first | refine AtT.kpassN ?_ | refine AtT.kpassNU ?_ | ((refine AtT.kcallP rfl rfl ok34 (lists_eq_f [[1, 6]] [[1, 6]] _ _ _ hu96 (SL.lit [(some q277, 2, 2)] [[1, 6]] 1 hq279 rfl rfl (by simp) (fun i q l h1 h2 => by match i, h1, h2 with | 0, h1, h2 => (cases h1; cases h2; exact s277)))) ?_) ; (rintro _ rfl)))
        all_goals (refine AtT.setT (d := 281) rfl (rfl) ?_)
        all_goals (refine AtT.kpick ?_)
        all_goals (refine AtT.kmove ?_)
        all_goals (first | refine AtT.kL 283 ?_ | refine AtT.pcase (d := 283) rfl (fun hg283 => ?_) (fun hg283 => ?_) | refine AtT.bcase (d := 283) rfl (fun hg283 => ?_) (fun hg283 => ?_))
        all_goals (first | refine AtT.kpass ?_ | refine AtT.kpassU ?_ | ((refine AtT.kmove ?_)))
        all_goals (first | refine AtT.kpass ?_ | refine AtT.kpassU ?_ | ((refine AtT.keqI ?_)))
        all_goals (refine AtT.setT (d := 285) rfl (rfl) ?_)
        all_goals (refine AtT.kpick ?_)
        all_goals (refine AtT.kmove ?_)
        all_goals (first | refine AtT.kL 287 ?_ | refine AtT.pcase (d := 287) rfl (fun hg287 => ?_) (fun hg287 => ?_) | refine AtT.bcase (d := 287) rfl (fun hg287 => ?_) (fun hg287 => ?_))
        all_goals (first | refine AtT.kpass ?_ | refine AtT.kpassU ?_ | ((refine AtT.kmove ?_)))
        all_goals (first | refine AtT.kpassN ?_ | refine AtT.kpassNU ?_ | ((refine AtT.kbsliceG (bs38_1_0 _) ?_) ; (intro q289 V289 hV289 hq289)))
        all_goals ((try replace hu111 := hu111.le hV289))
        all_goals (have s289 : SlI V289 _ [0] := Sl.lit hq289 rfl (by decide))
        all_goals (first | refine AtT.kpassN ?_ | refine AtT.kpassNU ?_ | ((refine AtT.kcallP rfl rfl ok27 (of_f _ _) ?_) ; (rintro _ rfl)))
        all_goals (first | refine AtT.kpassN ?_ | refine AtT.kpassNU ?_ | ((refine AtT.kcallP rfl rfl ok33 (ints_f [0] [0] _ _ _ hu111 s289) ?_) ; (rintro _ rfl)))
        all_goals (refine AtT.setT (d := 291) rfl (rfl) ?_)
        all_goals (refine AtT.kpick ?_)
        all_goals (refine AtT.kmove ?_)
        all_goals (first | refine AtT.kL 293 ?_ | refine AtT.pcase (d := 293) rfl (fun hg293 => ?_) (fun hg293 => ?_) | refine AtT.bcase (d := 293) rfl (fun hg293 => ?_) (fun hg293 => ?_))
        all_goals (first | refine AtT.kpass ?_ | refine AtT.kpassU ?_ | ((refine AtT.kmove ?_)))
        all_goals (first | refine AtT.kpass ?_ | refine AtT.kpassU ?_ | ((refine AtT.keqI ?_)))
        all_goals (refine AtT.setT (d := 295) rfl (rfl) ?_)
        all_goals (refine AtT.kpick ?_)
        all_goals (refine AtT.kmove ?_)
        all_goals (first | refine AtT.kL 297 ?_ | refine AtT.pcase (d := 297) rfl (fun hg297 => ?_) (fun hg297 => ?_) | refine AtT.bcase (d := 297) rfl (fun hg297 => ?_) (fun hg297 => ?_))
        all_goals (first | refine AtT.kpass ?_ | refine AtT.kpassU ?_ | ((refine AtT.kmove ?_)))
        all_goals (first | refine AtT.kpass ?_ | refine AtT.kpassU ?_ | ((refine AtT.keqI ?_)))
        all_goals (refine AtT.setT (d := 299) rfl (rfl) ?_)
        all_goals (refine AtT.kpick ?_)
        all_goals (refine AtT.kmove ?_)
        all_goals (first | refine AtT.kL 301 ?_ | refine AtT.pcase (d := 301) rfl (fun hg301 => ?_) (fun hg301 => ?_) | refine AtT.bcase (d := 301) rfl (fun hg301 => ?_) (fun hg301 => ?_))
        all_goals (first | refine AtT.kpass ?_ | refine AtT.kpassU ?_ | ((refine AtT.kmove ?_)))
        all_goals (first | refine AtT.kpass ?_ | refine AtT.kpassU ?_ | ((refine AtT.keqI ?_)))
        all_goals (refine AtT.setT (d := 303) rfl (rfl) ?_)
        all_goals (refine AtT.kpick ?_)
        all_goals (refine AtT.kmove ?_)
        all_goals (first | refine AtT.kL 305 ?_ | refine AtT.pcase (d := 305) rfl (fun hg305 => ?_) (fun hg305 => ?_) | refine AtT.bcase (d := 305) rfl (fun hg305 => ?_) (fun hg305 => ?_))
        all_goals (first | refine AtT.kpass ?_ | refine AtT.kpassU ?_ | ((first | refine AtT.kloadOA tk24 ?_ | refine AtT.kloadA tk24 ?_ | refine AtT.kloadOP tk24 ?_)))
        all_goals (first | refine AtT.kpassN ?_ | refine AtT.kpassNU ?_ | ((refine AtT.kcallP rfl rfl ok25 (panel_f 0 0 2 _) ?_) ; (rintro _ rfl)))
        all_goals (first | refine AtT.kpass ?_ | refine AtT.kpassU ?_ | ((refine AtT.keqS (eqS24 _ _ _ _ _ _) ?_)))
        all_goals (refine AtT.setT (d := 308) rfl (⟨rfl, rfl, rfl⟩) ?_)
        all_goals (refine AtT.kpick ?_)
        all_goals (refine AtT.kmove ?_)
        all_goals (first | refine AtT.kL 310 ?_ | refine AtT.pcase (d := 310) rfl (fun hg310 => ?_) (fun hg310 => ?_) | refine AtT.bcase (d := 310) rfl (fun hg310 => ?_) (fun hg310 => ?_))
        all_goals (first | refine AtT.kpass ?_ | refine AtT.kpassU ?_ | ((refine AtT.kmove ?_)))
        all_goals (first | refine AtT.kpass ?_ | refine AtT.kpassU ?_ | ((refine AtT.keqI ?_)))
        all_goals (refine AtT.setT (d := 312) rfl (rfl) ?_)
        all_goals (refine AtT.kpick ?_)
        all_goals (refine AtT.kassign ?_)
        all_goals refine AtT.done ?_
      rotate_right
      focus
        all_goals (first | refine AtT.kpassN ?_ | refine AtT.kpassNU ?_ | ((refine AtT.kbsliceG (bs38_2_0_1 _ _) ?_) ; (intro q267 V267 hV267 hq267)))
        all_goals ((try replace hu91 := hu91.le hV267) ; (try replace hu96 := hu96.le hV267) ; (try replace hu111 := hu111.le hV267) ; (try replace s265 := s265.le hV267) ; (try replace s267 := s267.le hV267) ; (try replace s269 := s269.le hV267))
        all_goals (have s267 : SlI V267 _ [1, 12] := Sl.lit hq267 rfl (by decide))
        all_goals (first | refine AtT.kpassN ?_ | refine AtT.kpassNU ?_ | ((refine AtT.kcallP rfl rfl ok27 (of_f _ _) ?_) ; (rintro _ rfl)))
        all_goals (first | refine AtT.kpassN ?_ | refine AtT.kpassNU ?_ | ((refine AtT.kcallP rfl rfl ok27 (of_f _ _) ?_) ; (rintro _ rfl)))
        all_goals (first | refine AtT.kpassN ?_ | refine AtT.kpassNU ?_ | ((refine AtT.kcallP rfl rfl ok27 (of_f _ _) ?_) ; (rintro _ rfl)))
        all_goals (first | refine AtT.kpassN ?_ | refine AtT.kpassNU ?_ | ((refine AtT.kbsliceG (bs35_3_0_1_2 _ _ _ _ _ _ _ _ _) ?_) ; (intro q271 V271 hV271 hq271)))
        all_goals ((try replace hu91 := hu91.le hV271) ; (try replace hu96 := hu96.le hV271) ; (try replace hu111 := hu111.le hV271) ; (try replace s265 := s265.le hV271) ; (try replace s267 := s267.le hV271) ; (try replace s269 := s269.le hV271))
        all_goals (first | refine AtT.kpassN ?_ | refine AtT.kpassNU ?_ | ((refine AtT.kcallP rfl rfl ok35 (lists_f _ _) ?_) ; (rintro _ rfl)))
        all_goals (first | refine AtT.kpassN ?_ | refine AtT.kpassNU ?_ | ((refine AtT.kcallP rfl rfl ok34 (lists_eq_f [[1, 6], [1, 12], [6, 12]] [[1, 6], [1, 12], [6, 12]] _ _ _ hu91 (SL.lit [(some q265, 2, 2), (some q267, 2, 2), (some q269, 2, 2)] [[1, 6], [1, 12], [6, 12]] 3 hq271 rfl rfl (by simp) (fun i q l h1 h2 => by match i, h1, h2 with | 0, h1, h2 => (cases h1; cases h2; exact s265) | 1, h1, h2 => (cases h1; cases h2; exact s267) | 2, h1, h2 => (cases h1; cases h2; exact s269)))) ?_) ; (rintro _ rfl)))
        all_goals (refine AtT.setT (d := 273) rfl (rfl) ?_)
        all_goals (refine AtT.kpick ?_)
        all_goals (refine AtT.kmove ?_)
        all_goals (first | refine AtT.kpass ?_ | refine AtT.kpassU ?_ | ((refine AtT.kmove ?_)))
        all_goals (first | refine AtT.kpassN ?_ | refine AtT.kpassNU ?_ | ((refine AtT.kbsliceG (bs38_2_0_1 _ _) ?_) ; (intro q277 V277 hV277 hq277)))
        all_goals ((try replace hu96 := hu96.le hV277) ; (try replace hu111 := hu111.le hV277))
        all_goals (have s277 : SlI V277 _ [1, 6] := Sl.lit hq277 rfl (by decide))
        all_goals (first | refine AtT.kpassN ?_ | refine AtT.kpassNU ?_ | ((refine AtT.kcallP rfl rfl ok27 (of_f _ _) ?_) ; (rintro _ rfl)))
        all_goals (first | refine AtT.kpassN ?_ | refine AtT.kpassNU ?_ | ((refine AtT.kbsliceG (bs35_1_0 _ _ _) ?_) ; (intro q279 V279 hV279 hq279)))
        all_goals ((try replace hu96 := hu96.le hV279) ; (try replace hu111 := hu111.le hV279) ; (try replace s277 := s277.le hV279))
        all_goals (first | refine AtT.kpassN ?_ | refine AtT.kpassNU ?_ | ((refine AtT.kcallP rfl rfl ok35 (lists_f _ _) ?_) ; (rintro _ rfl)))
        all_goals (first | refine AtT.kpassN ?_ | refine AtT.kpassNU ?_ | ((refine AtT.kcallP rfl rfl ok34 (lists_eq_f [[1, 6]] [[1, 6]] _ _ _ hu96 (SL.lit [(some q277, 2, 2)] [[1, 6]] 1 hq279 rfl rfl (by simp) (fun i q l h1 h2 => by match i, h1, h2 with | 0, h1, h2 => (cases h1; cases h2; exact s277)))) ?_) ; (rintro _ rfl)))
        all_goals (refine AtT.setT (d := 281) rfl (rfl) ?_)
        all_goals (refine AtT.kpick ?_)
        all_goals (refine AtT.kmove ?_)
        all_goals (first | refine AtT.kpass ?_ | refine AtT.kpassU ?_ | ((refine AtT.kmove ?_)))
        all_goals (first | refine AtT.kpass ?_ | refine AtT.kpassU ?_ | ((refine AtT.keqI ?_)))
        all_goals (refine AtT.setT (d := 285) rfl (rfl) ?_)
        all_goals (refine AtT.kpick ?_)
        all_goals (refine AtT.kmove ?_)
        all_goals (first | refine AtT.kpass ?_ | refine AtT.kpassU ?_ | ((refine AtT.kmove ?_)))
        all_goals (first | refine AtT.kpassN ?_ | refine AtT.kpassNU ?_ | ((refine AtT.kbsliceG (bs38_1_0 _) ?_) ; (intro q289 V289 hV289 hq289)))
        all_goals ((try replace hu111 := hu111.le hV289))
        all_goals (have s289 : SlI V289 _ [0] := Sl.lit hq289 rfl (by decide))
        all_goals (first | refine AtT.kpassN ?_ | refine AtT.kpassNU ?_ | ((refine AtT.kcallP rfl rfl ok27 (of_f _ _) ?_) ; (rintro _ rfl)))
        all_goals (first | refine AtT.kpassN ?_ | refine AtT.kpassNU ?_ | ((refine AtT.kcallP rfl rfl ok33 (ints_f [0] [0] _ _ _ hu111 s289) ?_) ; (rintro _ rfl)))
        all_goals (refine AtT.setT (d := 291) rfl (rfl) ?_)
        all_goals (refine AtT.kpick ?_)
        all_goals (refine AtT.kmove ?_)
        all_goals (first | refine AtT.kpass ?_ | refine AtT.kpassU ?_ | ((refine AtT.kmove ?_)))
        all_goals (first | refine AtT.kpass ?_ | refine AtT.kpassU ?_ | ((refine AtT.keqI ?_)))
        all_goals (refine AtT.setT (d := 295) rfl (rfl) ?_)
        all_goals (refine AtT.kpick ?_)
        all_goals (refine AtT.kmove ?_)
        all_goals (first | refine AtT.kpass ?_ | refine AtT.kpassU ?_ | ((refine AtT.kmove ?_)))
        all_goals (first | refine AtT.kpass ?_ | refine AtT.kpassU ?_ | ((refine AtT.keqI ?_)))
        all_goals (refine AtT.setT (d := 299) rfl (rfl) ?_)
        all_goals (refine AtT.kpick ?_)
        all_goals (refine AtT.kmove ?_)
        all_goals (first | refine AtT.kpass ?_ | refine AtT.kpassU ?_ | ((refine AtT.kmove ?_)))
        all_goals (first | refine AtT.kpass ?_ | refine AtT.kpassU ?_ | ((refine AtT.keqI ?_)))
        all_goals (refine AtT.setT (d := 303) rfl (rfl) ?_)
        all_goals (refine AtT.kpick ?_)
        all_goals (refine AtT.kmove ?_)
        all_goals (first | refine AtT.kpass ?_ | refine AtT.kpassU ?_ | ((first | refine AtT.kloadOA tk24 ?_ | refine AtT.kloadA tk24 ?_ | refine AtT.kloadOP tk24 ?_)))
        all_goals (first | refine AtT.kpassN ?_ | refine AtT.kpassNU ?_ | ((refine AtT.kcallP rfl rfl ok25 (panel_f 0 0 2 _) ?_) ; (rintro _ rfl)))
        all_goals (first | refine AtT.kpass ?_ | refine AtT.kpassU ?_ | ((refine AtT.keqS (eqS24 _ _ _ _ _ _) ?_)))
        all_goals (refine AtT.setT (d := 308) rfl (⟨rfl, rfl, rfl⟩) ?_)
        all_goals (refine AtT.kpick ?_)
        all_goals (refine AtT.kmove ?_)
        all_goals (first | refine AtT.kpass ?_ | refine AtT.kpassU ?_ | ((refine AtT.kmove ?_)))
        all_goals (first | refine AtT.kpass ?_ | refine AtT.kpassU ?_ | ((refine AtT.keqI ?_)))
        all_goals (refine AtT.setT (d := 312) rfl (rfl) ?_)
        all_goals (refine AtT.kpick ?_)
        all_goals (refine AtT.kassign ?_)
        all_goals refine AtT.done ?_
    rotate_right
    focus
      all_goals (first | refine AtT.kpassN ?_ | refine AtT.kpassNU ?_ | ((refine AtT.kbsliceG (bs38_2_0_1 _ _) ?_) ; (intro q267 V267 hV267 hq267)))
      all_goals ((try replace hu91 := hu91.le hV267) ; (try replace hu96 := hu96.le hV267) ; (try replace hu111 := hu111.le hV267) ; (try replace s265 := s265.le hV267) ; (try replace s267 := s267.le hV267) ; (try replace s269 := s269.le hV267))
      all_goals (have s267 : SlI V267 _ [1, 12] := Sl.lit hq267 rfl (by decide))
      all_goals (first | refine AtT.kpassN ?_ | refine AtT.kpassNU ?_ | ((refine AtT.kbsliceG (bs38_2_0_1 _ _) ?_) ; (intro q265 V265 hV265 hq265)))
      all_goals ((try replace hu91 := hu91.le hV265) ; (try replace hu96 := hu96.le hV265) ; (try replace hu111 := hu111.le hV265) ; (try replace s265 := s265.le hV265) ; (try replace s267 := s267.le hV265) ; (try replace s269 := s269.le hV265))
      all_goals (have s265 : SlI V265 _ [1, 6] := Sl.lit hq265 rfl (by decide))
      all_goals (first | refine AtT.kpassN ?_ | refine AtT.kpassNU ?_ | ((refine AtT.kcallP rfl rfl ok27 (of_f _ _) ?_) ; (rintro _ rfl)))
      all_goals (first | refine AtT.kpassN ?_ | refine AtT.kpassNU ?_ | ((refine AtT.kcallP rfl rfl ok27 (of_f _ _) ?_) ; (rintro _ rfl)))
      all_goals (first | refine AtT.kpassN ?_ | refine AtT.kpassNU ?_ | ((refine AtT.kcallP rfl rfl ok27 (of_f _ _) ?_) ; (rintro _ rfl)))
      all_goals (first | refine AtT.kpassN ?_ | refine AtT.kpassNU ?_ | ((refine AtT.kbsliceG (bs35_3_0_1_2 _ _ _ _ _ _ _ _ _) ?_) ; (intro q271 V271 hV271 hq271)))
      all_goals ((try replace hu91 := hu91.le hV271) ; (try replace hu96 := hu96.le hV271) ; (try replace hu111 := hu111.le hV271) ; (try replace s265 := s265.le hV271) ; (try replace s267 := s267.le hV271) ; (try replace s269 := s269.le hV271))
      all_goals (first | refine AtT.kpassN ?_ | refine AtT.kpassNU ?_ | ((refine AtT.kcallP rfl rfl ok35 (lists_f _ _) ?_) ; (rintro _ rfl)))
      all_goals (first | refine AtT.kpassN ?_ | refine AtT.kpassNU ?_ | ((refine AtT.kcallP rfl rfl ok34 (lists_eq_f [[1, 6], [1, 12], [6, 12]] [[1, 6], [1, 12], [6, 12]] _ _ _ hu91 (SL.lit [(some q265, 2, 2), (some q267, 2, 2), (some q269, 2, 2)] [[1, 6], [1, 12], [6, 12]] 3 hq271 rfl rfl (by simp) (fun i q l h1 h2 => by match i, h1, h2 with | 0, h1, h2 => (cases h1; cases h2; exact s265) | 1, h1, h2 => (cases h1; cases h2; exact s267) | 2, h1, h2 => (cases h1; cases h2; exact s269)))) ?_) ; (rintro _ rfl)))
      all_goals (refine AtT.setT (d := 273) rfl (rfl) ?_)
      all_goals (refine AtT.kpick ?_)
      all_goals (refine AtT.kmove ?_)
      all_goals (first | refine AtT.kpass ?_ | refine AtT.kpassU ?_ | ((refine AtT.kmove ?_)))
      all_goals (first | refine AtT.kpassN ?_ | refine AtT.kpassNU ?_ | ((refine AtT.kbsliceG (bs38_2_0_1 _ _) ?_) ; (intro q277 V277 hV277 hq277)))
      all_goals ((try replace hu96 := hu96.le hV277) ; (try replace hu111 := hu111.le hV277))
      all_goals (have s277 : SlI V277 _ [1, 6] := Sl.lit hq277 rfl (by decide))
      all_goals (first | refine AtT.kpassN ?_ | refine AtT.kpassNU ?_ | ((refine AtT.kcallP rfl rfl ok27 (of_f _ _) ?_) ; (rintro _ rfl)))
      all_goals (first | refine AtT.kpassN ?_ | refine AtT.kpassNU ?_ | ((refine AtT.kbsliceG (bs35_1_0 _ _ _) ?_) ; (intro q279 V279 hV279 hq279)))
      all_goals ((try replace hu96 := hu96.le hV279) ; (try replace hu111 := hu111.le hV279) ; (try replace s277 := s277.le hV279))
      all_goals (first | refine AtT.kpassN ?_ | refine AtT.kpassNU ?_ | ((refine AtT.kcallP rfl rfl ok35 (lists_f _ _) ?_) ; (rintro _ rfl)))
      all_goals (first | refine AtT.kpassN ?_ | refine AtT.kpassNU ?_ | ((refine AtT.kcallP rfl rfl ok34 (lists_eq_f [[1, 6]] [[1, 6]] _ _ _ hu96 (SL.lit [(some q277, 2, 2)] [[1, 6]] 1 hq279 rfl rfl (by simp) (fun i q l h1 h2 => by match i, h1, h2 with | 0, h1, h2 => (cases h1; cases h2; exact s277)))) ?_) ; (rintro _ rfl)))
      all_goals (refine AtT.setT (d := 281) rfl (rfl) ?_)
      all_goals (refine AtT.kpick ?_)
      all_goals (refine AtT.kmove ?_)
      all_goals (first | refine AtT.kpass ?_ | refine AtT.kpassU ?_ | ((refine AtT.kmove ?_)))
      all_goals (first | refine AtT.kpass ?_ | refine AtT.kpassU ?_ | ((refine AtT.keqI ?_)))
      all_goals (refine AtT.setT (d := 285) rfl (rfl) ?_)
      all_goals (refine AtT.kpick ?_)
      all_goals (refine AtT.kmove ?_)
      all_goals (first | refine AtT.kpass ?_ | refine AtT.kpassU ?_ | ((refine AtT.kmove ?_)))
      all_goals (first | refine AtT.kpassN ?_ | refine AtT.kpassNU ?_ | ((refine AtT.kbsliceG (bs38_1_0 _) ?_) ; (intro q289 V289 hV289 hq289)))
      all_goals ((try replace hu111 := hu111.le hV289))
      all_goals (have s289 : SlI V289 _ [0] := Sl.lit hq289 rfl (by decide))
      all_goals (first | refine AtT.kpassN ?_ | refine AtT.kpassNU ?_ | ((refine AtT.kcallP rfl rfl ok27 (of_f _ _) ?_) ; (rintro _ rfl)))
      all_goals (first | refine AtT.kpassN ?_ | refine AtT.kpassNU ?_ | ((refine AtT.kcallP rfl rfl ok33 (ints_f [0] [0] _ _ _ hu111 s289) ?_) ; (rintro _ rfl)))
      all_goals (refine AtT.setT (d := 291) rfl (rfl) ?_)
      all_goals (refine AtT.kpick ?_)
      all_goals (refine AtT.kmove ?_)
      all_goals (first | refine AtT.kpass ?_ | refine AtT.kpassU ?_ | ((refine AtT.kmove ?_)))
      all_goals (first | refine AtT.kpass ?_ | refine AtT.kpassU ?_ | ((refine AtT.keqI ?_)))
      all_goals (refine AtT.setT (d := 295) rfl (rfl) ?_)
      all_goals (refine AtT.kpick ?_)
      all_goals (refine AtT.kmove ?_)
      all_goals (first | refine AtT.kpass ?_ | refine AtT.kpassU ?_ | ((refine AtT.kmove ?_)))
      all_goals (first | refine AtT.kpass ?_ | refine AtT.kpassU ?_ | ((refine AtT.keqI ?_)))
      all_goals (refine AtT.setT (d := 299) rfl (rfl) ?_)
      all_goals (refine AtT.kpick ?_)
      all_goals (refine AtT.kmove ?_)
      all_goals (first | refine AtT.kpass ?_ | refine AtT.kpassU ?_ | ((refine AtT.kmove ?_)))
      all_goals (first | refine AtT.kpass ?_ | refine AtT.kpassU ?_ | ((refine AtT.keqI ?_)))
      all_goals (refine AtT.setT (d := 303) rfl (rfl) ?_)
      all_goals (refine AtT.kpick ?_)
      all_goals (refine AtT.kmove ?_)
      all_goals (first | refine AtT.kpass ?_ | refine AtT.kpassU ?_ | ((first | refine AtT.kloadOA tk24 ?_ | refine AtT.kloadA tk24 ?_ | refine AtT.kloadOP tk24 ?_)))
      all_goals (first | refine AtT.kpassN ?_ | refine AtT.kpassNU ?_ | ((refine AtT.kcallP rfl rfl ok25 (panel_f 0 0 2 _) ?_) ; (rintro _ rfl)))
      all_goals (first | refine AtT.kpass ?_ | refine AtT.kpassU ?_ | ((refine AtT.keqS (eqS24 _ _ _ _ _ _) ?_)))
      all_goals (refine AtT.setT (d := 308) rfl (⟨rfl, rfl, rfl⟩) ?_)
      all_goals (refine AtT.kpick ?_)
      all_goals (refine AtT.kmove ?_)
      all_goals (first | refine AtT.kpass ?_ | refine AtT.kpassU ?_ | ((refine AtT.kmove ?_)))
      all_goals (first | refine AtT.kpass ?_ | refine AtT.kpassU ?_ | ((refine AtT.keqI ?_)))
      all_goals (refine AtT.setT (d := 312) rfl (rfl) ?_)
      all_goals (refine AtT.kpick ?_)
      all_goals (refine AtT.kassign ?_)
      all_goals refine AtT.done ?_
  rotate_right
  focus
    all_goals (first | refine AtT.kpassN ?_ | refine AtT.kpassNU ?_ | ((refine AtT.kbsliceG (bs38_2_0_1 _ _) ?_) ; (intro q267 V267 hV267 hq267)))
    all_goals ((try replace hu91 := hu91.le hV267) ; (try replace hu96 := hu96.le hV267) ; (try replace hu111 := hu111.le hV267) ; (try replace s265 := s265.le hV267) ; (try replace s267 := s267.le hV267) ; (try replace s269 := s269.le hV267))
    all_goals (have s267 : SlI V267 _ [1, 12] := Sl.lit hq267 rfl (by decide))
    refine AtT.two ?_ ?_
    focus
      all_goals (first | refine AtT.kpassN ?_ | refine AtT.kpassNU ?_ | ((refine AtT.kbsliceG (bs38_2_0_1 _ _) ?_) ; (intro q265 V265 hV265 hq265)))
      all_goals ((try replace hu91 := hu91.le hV265) ; (try replace hu96 := hu96.le hV265) ; (try replace hu111 := hu111.le hV265) ; (try replace s265 := s265.le hV265) ; (try replace s267 := s267.le hV265) ; (try replace s269 := s269.le hV265))
      all_goals (have s265 : SlI V265 _ [1, 6] := Sl.lit hq265 rfl (by decide))
      refine AtT.two ?_ ?_
      focus
        all_goals (first | refine AtT.kpassN ?_ | refine AtT.kpassNU ?_ | ((refine AtT.kcallP rfl rfl ok27 (of_f _ _) ?_) ; (rintro _ rfl)))
        refine AtT.two ?_ ?_
        focus
          all_goals (first | refine AtT.kpassN ?_ | refine AtT.kpassNU ?_ | ((refine AtT.kcallP rfl rfl ok27 (of_f _ _) ?_) ; (rintro _ rfl)))
          all_goals (first | refine AtT.kpassN ?_ | refine AtT.kpassNU ?_ | ((refine AtT.kbsliceG (bs38_2_0_1 _ _) ?_) ; (intro q269 V269 hV269 hq269)))
          all_goals ((try replace hu91 := hu91.le hV269) ; (try replace hu96 := hu96.le hV269) ; (try replace hu111 := hu111.le hV269) ; (try replace s265 := s265.le hV269) ; (try replace s267 := s267.le hV269) ; (try replace s269 := s269.le hV269))
          all_goals (have s269 : SlI V269 _ [6, 12] := Sl.lit hq269 rfl (by decide))
          all_goals (first | refine AtT.kpassN ?_ | refine AtT.kpassNU ?_ | ((refine AtT.kcallP rfl rfl ok27 (of_f _ _) ?_) ; (rintro _ rfl)))
          all_goals (first | refine AtT.kpassN ?_ | refine AtT.kpassNU ?_ | ((refine AtT.kbsliceG (bs35_3_0_1_2 _ _ _ _ _ _ _ _ _) ?_) ; (intro q271 V271 hV271 hq271)))
          all_goals ((try replace hu91 := hu91.le hV271) ; (try replace hu96 := hu96.le hV271) ; (try replace hu111 := hu111.le hV271) ; (try replace s265 := s265.le hV271) ; (try replace s267 := s267.le hV271) ; (try replace s269 := s269.le hV271))
          all_goals (first | refine AtT.kpassN ?_ | refine AtT.kpassNU ?_ | ((refine AtT.kcallP rfl rfl ok35 (lists_f _ _) ?_) ; (rintro _ rfl)))
          all_goals (first | refine AtT.kpassN ?_ | refine AtT.kpassNU ?_ | ((refine AtT.kcallP rfl rfl ok34 (lists_eq_f [[1, 6], [1, 12], [6, 12]] [[1, 6], [1, 12], [6, 12]] _ _ _ hu91 (SL.lit [(some q265, 2, 2), (some q267, 2, 2), (some q269, 2, 2)] [[1, 6], [1, 12], [6, 12]] 3 hq271 rfl rfl (by simp) (fun i q l h1 h2 => by match i, h1, h2 with | 0, h1, h2 => (cases h1; cases h2; exact s265) | 1, h1, h2 => (cases h1; cases h2; exact s267) | 2, h1, h2 => (cases h1; cases h2; exact s269)))) ?_) ; (rintro _ rfl)))
          all_goals (refine AtT.setT (d := 273) rfl (rfl) ?_)
          all_goals (refine AtT.kpick ?_)
          all_goals (refine AtT.kmove ?_)
          all_goals (first | refine AtT.kpass ?_ | refine AtT.kpassU ?_ | ((refine AtT.kmove ?_)))
          all_goals (first | refine AtT.kpassN ?_ | refine AtT.kpassNU ?_ | ((refine AtT.kbsliceG (bs38_2_0_1 _ _) ?_) ; (intro q277 V277 hV277 hq277)))
          all_goals ((try replace hu96 := hu96.le hV277) ; (try replace hu111 := hu111.le hV277))
          all_goals (have s277 : SlI V277 _ [1, 6] := Sl.lit hq277 rfl (by decide))
          all_goals (first | refine AtT.kpassN ?_ | refine AtT.kpassNU ?_ | ((refine AtT.kcallP rfl rfl ok27 (of_f _ _) ?_) ; (rintro _ rfl)))
          all_goals (first | refine AtT.kpassN ?_ | refine AtT.kpassNU ?_ | ((refine AtT.kbsliceG (bs35_1_0 _ _ _) ?_) ; (intro q279 V279 hV279 hq279)))
          all_goals ((try replace hu96 := hu96.le hV279) ; (try replace hu111 := hu111.le hV279) ; (try replace s277 := s277.le hV279))
          all_goals (first | refine AtT.kpassN ?_ | refine AtT.kpassNU ?_ | ((refine AtT.kcallP rfl rfl ok35 (lists_f _ _) ?_) ; (rintro _ rfl)))
          all_goals (first | refine AtT.kpassN ?_ | refine AtT.kpassNU ?_ | ((refine AtT.kcallP rfl rfl ok34 (lists_eq_f [[1, 6]] [[1, 6]] _ _ _ hu96 (SL.lit [(some q277, 2, 2)] [[1, 6]] 1 hq279 rfl rfl (by simp) (fun i q l h1 h2 => by match i, h1, h2 with | 0, h1, h2 => (cases h1; cases h2; exact s277)))) ?_) ; (rintro _ rfl)))
          all_goals (refine AtT.setT (d := 281) rfl (rfl) ?_)
          all_goals (refine AtT.kpick ?_)
          all_goals (refine AtT.kmove ?_)
          all_goals (first | refine AtT.kpass ?_ | refine AtT.kpassU ?_ | ((refine AtT.kmove ?_)))
          all_goals (first | refine AtT.kpass ?_ | refine AtT.kpassU ?_ | ((refine AtT.keqI ?_)))
          all_goals (refine AtT.setT (d := 285) rfl (rfl) ?_)
          all_goals (refine AtT.kpick ?_)
          all_goals (refine AtT.kmove ?_)
          all_goals (first | refine AtT.kpass ?_ | refine AtT.kpassU ?_ | ((refine AtT.kmove ?_)))
          all_goals (first | refine AtT.kpassN ?_ | refine AtT.kpassNU ?_ | ((refine AtT.kbsliceG (bs38_1_0 _) ?_) ; (intro q289 V289 hV289 hq289)))
          all_goals ((try replace hu111 := hu111.le hV289))
          all_goals (have s289 : SlI V289 _ [0] := Sl.lit hq289 rfl (by decide))
          all_goals (first | refine AtT.kpassN ?_ | refine AtT.kpassNU ?_ | ((refine AtT.kcallP rfl rfl ok27 (of_f _ _) ?_) ; (rintro _ rfl)))
          all_goals (first | refine AtT.kpassN ?_ | refine AtT.kpassNU ?_ | ((refine AtT.kcallP rfl rfl ok33 (ints_f [0] [0] _ _ _ hu111 s289) ?_) ; (rintro _ rfl)))
          all_goals (refine AtT.setT (d := 291) rfl (rfl) ?_)
          all_goals (refine AtT.kpick ?_)
          all_goals (refine AtT.kmove ?_)
          all_goals (first | refine AtT.kpass ?_ | refine AtT.kpassU ?_ | ((refine AtT.kmove ?_)))
          all_goals (first | refine AtT.kpass ?_ | refine AtT.kpassU ?_ | ((refine AtT.keqI ?_)))
          all_goals (refine AtT.setT (d := 295) rfl (rfl) ?_)
          all_goals (refine AtT.kpick ?_)
          all_goals (refine AtT.kmove ?_)
          all_goals (first | refine AtT.kpass ?_ | refine AtT.kpassU ?_ | ((refine AtT.kmove ?_)))
          all_goals (first | refine AtT.kpass ?_ | refine AtT.kpassU ?_ | ((refine AtT.keqI ?_)))
          all_goals (refine AtT.setT (d := 299) rfl (rfl) ?_)
          all_goals (refine AtT.kpick ?_)
          all_goals (refine AtT.kmove ?_)
          all_goals (first | refine AtT.kpass ?_ | refine AtT.kpassU ?_ | ((refine AtT.kmove ?_)))
          all_goals (first | refine AtT.kpass ?_ | refine AtT.kpassU ?_ | ((refine AtT.keqI ?_)))
          all_goals (refine AtT.setT (d := 303) rfl (rfl) ?_)
          all_goals (refine AtT.kpick ?_)
          all_goals (refine AtT.kmove ?_)
          all_goals (first | refine AtT.kpass ?_ | refine AtT.kpassU ?_ | ((first | refine AtT.kloadOA tk24 ?_ | refine AtT.kloadA tk24 ?_ | refine AtT.kloadOP tk24 ?_)))
          all_goals (first | refine AtT.kpassN ?_ | refine AtT.kpassNU ?_ | ((refine AtT.kcallP rfl rfl ok25 (panel_f 0 0 2 _) ?_) ; (rintro _ rfl)))
          all_goals (first | refine AtT.kpass ?_ | refine AtT.kpassU ?_ | ((refine AtT.keqS (eqS24 _ _ _ _ _ _) ?_)))
          all_goals (refine AtT.setT (d := 308) rfl (⟨rfl, rfl, rfl⟩) ?_)
          all_goals (refine AtT.kpick ?_)
          all_goals (refine AtT.kmove ?_)
          all_goals (first | refine AtT.kpass ?_ | refine AtT.kpassU ?_ | ((refine AtT.kmove ?_)))
          all_goals (first | refine AtT.kpass ?_ | refine AtT.kpassU ?_ | ((refine AtT.keqI ?_)))
          all_goals (refine AtT.setT (d := 312) rfl (rfl) ?_)
          all_goals (refine AtT.kpick ?_)
          all_goals (refine AtT.kassign ?_)
          all_goals refine AtT.done ?_
        rotate_right
        focus
          all_goals (first | refine AtT.kpassN ?_ | refine AtT.kpassNU ?_ | ((refine AtT.kbsliceG (bs38_2_0_1 _ _) ?_) ; (intro q269 V269 hV269 hq269)))
          all_goals ((try replace hu91 := hu91.le hV269) ; (try replace hu96 := hu96.le hV269) ; (try replace hu111 := hu111.le hV269) ; (try replace s265 := s265.le hV269) ; (try replace s267 := s267.le hV269) ; (try replace s269 := s269.le hV269))
          all_goals (have s269 : SlI V269 _ [6, 12] := Sl.lit hq269 rfl (by decide))
          all_goals (first | refine AtT.kpassN ?_ | refine AtT.kpassNU ?_ | ((refine AtT.kcallP rfl rfl ok27 (of_f _ _) ?_) ; (rintro _ rfl)))
          all_goals (first | refine AtT.kpassN ?_ | refine AtT.kpassNU ?_ | ((refine AtT.kcallP rfl rfl ok27 (of_f _ _) ?_) ; (rintro _ rfl)))
          all_goals (first | refine AtT.kpassN ?_ | refine AtT.kpassNU ?_ | ((refine AtT.kbsliceG (bs35_3_0_1_2 _ _ _ _ _ _ _ _ _) ?_) ; (intro q271 V271 hV271 hq271)))
          all_goals ((try replace hu91 := hu91.le hV271) ; (try replace hu96 := hu96.le hV271) ; (try replace hu111 := hu111.le hV271) ; (try replace s265 := s265.le hV271) ; (try replace s267 := s267.le hV271) ; (try replace s269 := s269.le hV271))
          all_goals (first | refine AtT.kpassN ?_ | refine AtT.kpassNU ?_ | ((refine AtT.kcallP rfl rfl ok35 (lists_f _ _) ?_) ; (rintro _ rfl)))
          all_goals (first | refine AtT.kpassN ?_ | refine AtT.kpassNU ?_ | ((refine AtT.kcallP rfl rfl ok34 (lists_eq_f [[1, 6], [1, 12], [6, 12]] [[1, 6], [1, 12], [6, 12]] _ _ _ hu91 (SL.lit [(some q265, 2, 2), (some q267, 2, 2), (some q269, 2, 2)] [[1, 6], [1, 12], [6, 12]] 3 hq271 rfl rfl (by simp) (fun i q l h1 h2 => by match i, h1, h2 with | 0, h1, h2 => (cases h1; cases h2; exact s265) | 1, h1, h2 => (cases h1; cases h2; exact s267) | 2, h1, h2 => (cases h1; cases h2; exact s269)))) ?_) ; (rintro _ rfl)))
          all_goals (refine AtT.setT (d := 273) rfl (rfl) ?_)
          all_goals (refine AtT.kpick ?_)
          all_goals (refine AtT.kmove ?_)
          all_goals (first | refine AtT.kpass ?_ | refine AtT.kpassU ?_ | ((refine AtT.kmove ?_)))
          all_goals (first | refine AtT.kpassN ?_ | refine AtT.kpassNU ?_ | ((refine AtT.kbsliceG (bs38_2_0_1 _ _) ?_) ; (intro q277 V277 hV277 hq277)))
          all_goals ((try replace hu96 := hu96.le hV277) ; (try replace hu111 := hu111.le hV277))
          all_goals (have s277 : SlI V277 _ [1, 6] := Sl.lit hq277 rfl (by decide))
          all_goals (first | refine AtT.kpassN ?_ | refine AtT.kpassNU ?_ | ((refine AtT.kcallP rfl rfl ok27 (of_f _ _) ?_) ; (rintro _ rfl)))
          all_goals (first | refine AtT.kpassN ?_ | refine AtT.kpassNU ?_ | ((refine AtT.kbsliceG (bs35_1_0 _ _ _) ?_) ; (intro q279 V279 hV279 hq279)))
          all_goals ((try replace hu96 := hu96.le hV279) ; (try replace hu111 := hu111.le hV279) ; (try replace s277 := s277.le hV279))
          all_goals (first | refine AtT.kpassN ?_ | refine AtT.kpassNU ?_ | ((refine AtT.kcallP rfl rfl ok35 (lists_f _ _) ?_) ; (rintro _ rfl)))
          all_goals (first | refine AtT.kpassN ?_ | refine AtT.kpassNU ?_ | ((refine AtT.kcallP rfl rfl ok34 (lists_eq_f [[1, 6]] [[1, 6]] _ _ _ hu96 (SL.lit [(some q277, 2, 2)] [[1, 6]] 1 hq279 rfl rfl (by simp) (fun i q l h1 h2 => by match i, h1, h2 with | 0, h1, h2 => (cases h1; cases h2; exact s277)))) ?_) ; (rintro _ rfl)))
          all_goals (refine AtT.setT (d := 281) rfl (rfl) ?_)
          all_goals (refine AtT.kpick ?_)
          all_goals (refine AtT.kmove ?_)
          all_goals (first | refine AtT.kpass ?_ | refine AtT.kpassU ?_ | ((refine AtT.kmove ?_)))
          all_goals (first | refine AtT.kpass ?_ | refine AtT.kpassU ?_ | ((refine AtT.keqI ?_)))
          all_goals (refine AtT.setT (d := 285) rfl (rfl) ?_)
          all_goals (refine AtT.kpick ?_)
          all_goals (refine AtT.kmove ?_)
          all_goals (first | refine AtT.kpass ?_ | refine AtT.kpassU ?_ | ((refine AtT.kmove ?_)))
          all_goals (first | refine AtT.kpassN ?_ | refine AtT.kpassNU ?_ | ((refine AtT.kbsliceG (bs38_1_0 _) ?_) ; (intro q289 V289 hV289 hq289)))
          all_goals ((try replace hu111 := hu111.le hV289))
          all_goals (have s289 : SlI V289 _ [0] := Sl.lit hq289 rfl (by decide))
          all_goals (first | refine AtT.kpassN ?_ | refine AtT.kpassNU ?_ | ((refine AtT.kcallP rfl rfl ok27 (of_f _ _) ?_) ; (rintro _ rfl)))
          all_goals (first | refine AtT.kpassN ?_ | refine AtT.kpassNU ?_ | ((refine AtT.kcallP rfl rfl ok33 (ints_f [0] [0] _ _ _ hu111 s289) ?_) ; (rintro _ rfl)))
          all_goals (refine AtT.setT (d := 291) rfl (rfl) ?_)
          all_goals (refine AtT.kpick ?_)
          all_goals (refine AtT.kmove ?_)
          all_goals (first | refine AtT.kpass ?_ | refine AtT.kpassU ?_ | ((refine AtT.kmove ?_)))
          all_goals (first | refine AtT.kpass ?_ | refine AtT.kpassU ?_ | ((refine AtT.keqI ?_)))
          all_goals (refine AtT.setT (d := 295) rfl (rfl) ?_)
          all_goals (refine AtT.kpick ?_)
          all_goals (refine AtT.kmove ?_)
          all_goals (first | refine AtT.kpass ?_ | refine AtT.kpassU ?_ | ((refine AtT.kmove ?_)))
          all_goals (first | refine AtT.kpass ?_ | refine AtT.kpassU ?_ | ((refine AtT.keqI ?_)))
          all_goals (refine AtT.setT (d := 299) rfl (rfl) ?_)
          all_goals (refine AtT.kpick ?_)
          all_goals (refine AtT.kmove ?_)
          all_goals (first | refine AtT.kpass ?_ | refine AtT.kpassU ?_ | ((refine AtT.kmove ?_)))
          all_goals (first | refine AtT.kpass ?_ | refine AtT.kpassU ?_ | ((refine AtT.keqI ?_)))
          all_goals (refine AtT.setT (d := 303) rfl (rfl) ?_)
          all_goals (refine AtT.kpick ?_)
          all_goals (refine AtT.kmove ?_)
          all_goals (first | refine AtT.kpass ?_ | refine AtT.kpassU ?_ | ((first | refine AtT.kloadOA tk24 ?_ | refine AtT.kloadA tk24 ?_ | refine AtT.kloadOP tk24 ?_)))
          all_goals (first | refine AtT.kpassN ?_ | refine AtT.kpassNU ?_ | ((refine AtT.kcallP rfl rfl ok25 (panel_f 0 0 2 _) ?_) ; (rintro _ rfl)))
          all_goals (first | refine AtT.kpass ?_ | refine AtT.kpassU ?_ | ((refine AtT.keqS (eqS24 _ _ _ _ _ _) ?_)))
          all_goals (refine AtT.setT (d := 308) rfl (⟨rfl, rfl, rfl⟩) ?_)
          all_goals (refine AtT.kpick ?_)
          all_goals (refine AtT.kmove ?_)
          all_goals (first | refine AtT.kpass ?_ | refine AtT.kpassU ?_ | ((refine AtT.kmove ?_)))
          all_goals (first | refine AtT.kpass ?_ | refine AtT.kpassU ?_ | ((refine AtT.keqI ?_)))
          all_goals (refine AtT.setT (d := 312) rfl (rfl) ?_)
          all_goals (refine AtT.kpick ?_)
          all_goals (refine AtT.kassign ?_)
          all_goals refine AtT.done ?_
      rotate_right
      focus
        all_goals (first | refine AtT.kpassN ?_ | refine AtT.kpassNU ?_ | ((refine AtT.kbsliceG (bs38_2_0_1 _ _) ?_) ; (intro q269 V269 hV269 hq269)))
        all_goals ((try replace hu91 := hu91.le hV269) ; (try replace hu96 := hu96.le hV269) ; (try replace hu111 := hu111.le hV269) ; (try replace s265 := s265.le hV269) ; (try replace s267 := s267.le hV269) ; (try replace s269 := s269.le hV269))
        all_goals (have s269 : SlI V269 _ [6, 12] := Sl.lit hq269 rfl (by decide))
        all_goals (first | refine AtT.kpassN ?_ | refine AtT.kpassNU ?_ | ((refine AtT.kcallP rfl rfl ok27 (of_f _ _) ?_) ; (rintro _ rfl)))
        all_goals (first | refine AtT.kpassN ?_ | refine AtT.kpassNU ?_ | ((refine AtT.kcallP rfl rfl ok27 (of_f _ _) ?_) ; (rintro _ rfl)))
        all_goals (first | refine AtT.kpassN ?_ | refine AtT.kpassNU ?_ | ((refine AtT.kcallP rfl rfl ok27 (of_f _ _) ?_) ; (rintro _ rfl)))
        all_goals (first | refine AtT.kpassN ?_ | refine AtT.kpassNU ?_ | ((refine AtT.kbsliceG (bs35_3_0_1_2 _ _ _ _ _ _ _ _ _) ?_) ; (intro q271 V271 hV271 hq271)))
        all_goals ((try replace hu91 := hu91.le hV271) ; (try replace hu96 := hu96.le hV271) ; (try replace hu111 := hu111.le hV271) ; (try replace s265 := s265.le hV271) ; (try replace s267 := s267.le hV271) ; (try replace s269 := s269.le hV271))
        all_goals (first | refine AtT.kpassN ?_ | refine AtT.kpassNU ?_ | ((refine AtT.kcallP rfl rfl ok35 (lists_f _ _) ?_) ; (rintro _ rfl)))
        all_goals (first | refine AtT.kpassN ?_ | refine AtT.kpassNU ?_ | ((refine AtT.kcallP rfl rfl ok34 (lists_eq_f [[1, 6], [1, 12], [6, 12]] [[1, 6], [1, 12], [6, 12]] _ _ _ hu91 (SL.lit [(some q265, 2, 2), (some q267, 2, 2), (some q269, 2, 2)] [[1, 6], [1, 12], [6, 12]] 3 hq271 rfl rfl (by simp) (fun i q l h1 h2 => by match i, h1, h2 with | 0, h1, h2 => (cases h1; cases h2; exact s265) | 1, h1, h2 => (cases h1; cases h2; exact s267) | 2, h1, h2 => (cases h1; cases h2; exact s269)))) ?_) ; (rintro _ rfl)))
        all_goals (refine AtT.setT (d := 273) rfl (rfl) ?_)
        all_goals (refine AtT.kpick ?_)
        all_goals (refine AtT.kmove ?_)
        all_goals (first | refine AtT.kpass ?_ | refine AtT.kpassU ?_ | ((refine AtT.kmove ?_)))
        all_goals (first | refine AtT.kpassN ?_ | refine AtT.kpassNU ?_ | ((refine AtT.kbsliceG (bs38_2_0_1 _ _) ?_) ; (intro q277 V277 hV277 hq277)))
        all_goals ((try replace hu96 := hu96.le hV277) ; (try replace hu111 := hu111.le hV277))
        all_goals (have s277 : SlI V277 _ [1, 6] := Sl.lit hq277 rfl (by decide))
        all_goals (first | refine AtT.kpassN ?_ | refine AtT.kpassNU ?_ | ((refine AtT.kcallP rfl rfl ok27 (of_f _ _) ?_) ; (rintro _ rfl)))
        all_goals (first | refine AtT.kpassN ?_ | refine AtT.kpassNU ?_ | ((refine AtT.kbsliceG (bs35_1_0 _ _ _) ?_) ; (intro q279 V279 hV279 hq279)))
        all_goals ((try replace hu96 := hu96.le hV279) ; (try replace hu111 := hu111.le hV279) ; (try replace s277 := s277.le hV279))
        all_goals (first | refine AtT.kpassN ?_ | refine AtT.kpassNU ?_ | ((refine AtT.kcallP rfl rfl ok35 (lists_f _ _) ?_) ; (rintro _ rfl)))
        all_goals (first | refine AtT.kpassN ?_ | refine AtT.kpassNU ?_ | ((refine AtT.kcallP rfl rfl ok34 (lists_eq_f [[1, 6]] [[1, 6]] _ _ _ hu96 (SL.lit [(some q277, 2, 2)] [[1, 6]] 1 hq279 rfl rfl (by simp) (fun i q l h1 h2 => by match i, h1, h2 with | 0, h1, h2 => (cases h1; cases h2; exact s277)))) ?_) ; (rintro _ rfl)))
        all_goals (refine AtT.setT (d := 281) rfl (rfl) ?_)
        all_goals (refine AtT.kpick ?_)
        all_goals (refine AtT.kmove ?_)
        all_goals (first | refine AtT.kpass ?_ | refine AtT.kpassU ?_ | ((refine AtT.kmove ?_)))
        all_goals (first | refine AtT.kpass ?_ | refine AtT.kpassU ?_ | ((refine AtT.keqI ?_)))
        all_goals (refine AtT.setT (d := 285) rfl (rfl) ?_)
        all_goals (refine AtT.kpick ?_)
        all_goals (refine AtT.kmove ?_)
        all_goals (first | refine AtT.kpass ?_ | refine AtT.kpassU ?_ | ((refine AtT.kmove ?_)))
        all_goals (first | refine AtT.kpassN ?_ | refine AtT.kpassNU ?_ | ((refine AtT.kbsliceG (bs38_1_0 _) ?_) ; (intro q289 V289 hV289 hq289)))
        all_goals ((try replace hu111 := hu111.le hV289))
        all_goals (have s289 : SlI V289 _ [0] := Sl.lit hq289 rfl (by decide))
        all_goals (first | refine AtT.kpassN ?_ | refine AtT.kpassNU ?_ | ((refine AtT.kcallP rfl rfl ok27 (of_f _ _) ?_) ; (rintro _ rfl)))
        all_goals (first | refine AtT.kpassN ?_ | refine AtT.kpassNU ?_ | ((refine AtT.kcallP rfl rfl ok33 (ints_f [0] [0] _ _ _ hu111 s289) ?_) ; (rintro _ rfl)))
        all_goals (refine AtT.setT (d := 291) rfl (rfl) ?_)
        all_goals (refine AtT.kpick ?_)
        all_goals (refine AtT.kmove ?_)
        all_goals (first | refine AtT.kpass ?_ | refine AtT.kpassU ?_ | ((refine AtT.kmove ?_)))
        all_goals (first | refine AtT.kpass ?_ | refine AtT.kpassU ?_ | ((refine AtT.keqI ?_)))
        all_goals (refine AtT.setT (d := 295) rfl (rfl) ?_)
        all_goals (refine AtT.kpick ?_)
        all_goals (refine AtT.kmove ?_)
        all_goals (first | refine AtT.kpass ?_ | refine AtT.kpassU ?_ | ((refine AtT.kmove ?_)))
        all_goals (first | refine AtT.kpass ?_ | refine AtT.kpassU ?_ | ((refine AtT.keqI ?_)))
        all_goals (refine AtT.setT (d := 299) rfl (rfl) ?_)
        all_goals (refine AtT.kpick ?_)
        all_goals (refine AtT.kmove ?_)
        all_goals (first | refine AtT.kpass ?_ | refine AtT.kpassU ?_ | ((refine AtT.kmove ?_)))
        all_goals (first | refine AtT.kpass ?_ | refine AtT.kpassU ?_ | ((refine AtT.keqI ?_)))
        all_goals (refine AtT.setT (d := 303) rfl (rfl) ?_)
        all_goals (refine AtT.kpick ?_)
        all_goals (refine AtT.kmove ?_)
        all_goals (first | refine AtT.kpass ?_ | refine AtT.kpassU ?_ | ((first | refine AtT.kloadOA tk24 ?_ | refine AtT.kloadA tk24 ?_ | refine AtT.kloadOP tk24 ?_)))
        all_goals (first | refine AtT.kpassN ?_ | refine AtT.kpassNU ?_ | ((refine AtT.kcallP rfl rfl ok25 (panel_f 0 0 2 _) ?_) ; (rintro _ rfl)))
        all_goals (first | refine AtT.kpass ?_ | refine AtT.kpassU ?_ | ((refine AtT.keqS (eqS24 _ _ _ _ _ _) ?_)))
        all_goals (refine AtT.setT (d := 308) rfl (⟨rfl, rfl, rfl⟩) ?_)
        all_goals (refine AtT.kpick ?_)
        all_goals (refine AtT.kmove ?_)
        all_goals (first | refine AtT.kpass ?_ | refine AtT.kpassU ?_ | ((refine AtT.kmove ?_)))
        all_goals (first | refine AtT.kpass ?_ | refine AtT.kpassU ?_ | ((refine AtT.keqI ?_)))
        all_goals (refine AtT.setT (d := 312) rfl (rfl) ?_)
        all_goals (refine AtT.kpick ?_)
        all_goals (refine AtT.kassign ?_)
        all_goals refine AtT.done ?_
    rotate_right
    focus
      all_goals (first | refine AtT.kpassN ?_ | refine AtT.kpassNU ?_ | ((refine AtT.kbsliceG (bs38_2_0_1 _ _) ?_) ; (intro q269 V269 hV269 hq269)))
      all_goals ((try replace hu91 := hu91.le hV269) ; (try replace hu96 := hu96.le hV269) ; (try replace hu111 := hu111.le hV269) ; (try replace s265 := s265.le hV269) ; (try replace s267 := s267.le hV269) ; (try replace s269 := s269.le hV269))
      all_goals (have s269 : SlI V269 _ [6, 12] := Sl.lit hq269 rfl (by decide))
      all_goals (first | refine AtT.kpassN ?_ | refine AtT.kpassNU ?_ | ((refine AtT.kbsliceG (bs38_2_0_1 _ _) ?_) ; (intro q265 V265 hV265 hq265)))
      all_goals ((try replace hu91 := hu91.le hV265) ; (try replace hu96 := hu96.le hV265) ; (try replace hu111 := hu111.le hV265) ; (try replace s265 := s265.le hV265) ; (try replace s267 := s267.le hV265) ; (try replace s269 := s269.le hV265))
      all_goals (have s265 : SlI V265 _ [1, 6] := Sl.lit hq265 rfl (by decide))
      all_goals (first | refine AtT.kpassN ?_ | refine AtT.kpassNU ?_ | ((refine AtT.kcallP rfl rfl ok27 (of_f _ _) ?_) ; (rintro _ rfl)))
      all_goals (first | refine AtT.kpassN ?_ | refine AtT.kpassNU ?_ | ((refine AtT.kcallP rfl rfl ok27 (of_f _ _) ?_) ; (rintro _ rfl)))
      all_goals (first | refine AtT.kpassN ?_ | refine AtT.kpassNU ?_ | ((refine AtT.kcallP rfl rfl ok27 (of_f _ _) ?_) ; (rintro _ rfl)))
      all_goals (first | refine AtT.kpassN ?_ | refine AtT.kpassNU ?_ | ((refine AtT.kbsliceG (bs35_3_0_1_2 _ _ _ _ _ _ _ _ _) ?_) ; (intro q271 V271 hV271 hq271)))
      all_goals ((try replace hu91 := hu91.le hV271) ; (try replace hu96 := hu96.le hV271) ; (try replace hu111 := hu111.le hV271) ; (try replace s265 := s265.le hV271) ; (try replace s267 := s267.le hV271) ; (try replace s269 := s269.le hV271))
      all_goals (first | refine AtT.kpassN ?_ | refine AtT.kpassNU ?_ | ((refine AtT.kcallP rfl rfl ok35 (lists_f _ _) ?_) ; (rintro _ rfl)))
      all_goals (first | refine AtT.kpassN ?_ | refine AtT.kpassNU ?_ | ((refine AtT.kcallP rfl rfl ok34 (lists_eq_f [[1, 6], [1, 12], [6, 12]] [[1, 6], [1, 12], [6, 12]] _ _ _ hu91 (SL.lit [(some q265, 2, 2), (some q267, 2, 2), (some q269, 2, 2)] [[1, 6], [1, 12], [6, 12]] 3 hq271 rfl rfl (by simp) (fun i q l h1 h2 => by match i, h1, h2 with | 0, h1, h2 => (cases h1; cases h2; exact s265) | 1, h1, h2 => (cases h1; cases h2; exact s267) | 2, h1, h2 => (cases h1; cases h2; exact s269)))) ?_) ; (rintro _ rfl)))
      all_goals (refine AtT.setT (d := 273) rfl (rfl) ?_)
      all_goals (refine AtT.kpick ?_)
      all_goals (refine AtT.kmove ?_)
      all_goals (first | refine AtT.kpass ?_ | refine AtT.kpassU ?_ | ((refine AtT.kmove ?_)))
      all_goals (first | refine AtT.kpassN ?_ | refine AtT.kpassNU ?_ | ((refine AtT.kbsliceG (bs38_2_0_1 _ _) ?_) ; (intro q277 V277 hV277 hq277)))
      all_goals ((try replace hu96 := hu96.le hV277) ; (try replace hu111 := hu111.le hV277))
      all_goals (have s277 : SlI V277 _ [1, 6] := Sl.lit hq277 rfl (by decide))
      all_goals (first | refine AtT.kpassN ?_ | refine AtT.kpassNU ?_ | ((refine AtT.kcallP rfl rfl ok27 (of_f _ _) ?_) ; (rintro _ rfl)))
      all_goals (first | refine AtT.kpassN ?_ | refine AtT.kpassNU ?_ | ((refine AtT.kbsliceG (bs35_1_0 _ _ _) ?_) ; (intro q279 V279 hV279 hq279)))
      all_goals ((try replace hu96 := hu96.le hV279) ; (try replace hu111 := hu111.le hV279) ; (try replace s277 := s277.le hV279))
      all_goals (first | refine AtT.kpassN ?_ | refine AtT.kpassNU ?_ | ((refine AtT.kcallP rfl rfl ok35 (lists_f _ _) ?_) ; (rintro _ rfl)))
      all_goals (first | refine AtT.kpassN ?_ | refine AtT.kpassNU ?_ | ((refine AtT.kcallP rfl rfl ok34 (lists_eq_f [[1, 6]] [[1, 6]] _ _ _ hu96 (SL.lit [(some q277, 2, 2)] [[1, 6]] 1 hq279 rfl rfl (by simp) (fun i q l h1 h2 => by match i, h1, h2 with | 0, h1, h2 => (cases h1; cases h2; exact s277)))) ?_) ; (rintro _ rfl)))
      all_goals (refine AtT.setT (d := 281) rfl (rfl) ?_)
      all_goals (refine AtT.kpick ?_)
      all_goals (refine AtT.kmove ?_)
      all_goals (first | refine AtT.kpass ?_ | refine AtT.kpassU ?_ | ((refine AtT.kmove ?_)))
      all_goals (first | refine AtT.kpass ?_ | refine AtT.kpassU ?_ | ((refine AtT.keqI ?_)))
      all_goals (refine AtT.setT (d := 285) rfl (rfl) ?_)
      all_goals (refine AtT.kpick ?_)
      all_goals (refine AtT.kmove ?_)
      all_goals (first | refine AtT.kpass ?_ | refine AtT.kpassU ?_ | ((refine AtT.kmove ?_)))
      all_goals (first | refine AtT.kpassN ?_ | refine AtT.kpassNU ?_ | ((refine AtT.kbsliceG (bs38_1_0 _) ?_) ; (intro q289 V289 hV289 hq289)))
      all_goals ((try replace hu111 := hu111.le hV289))
      all_goals (have s289 : SlI V289 _ [0] := Sl.lit hq289 rfl (by decide))
      all_goals (first | refine AtT.kpassN ?_ | refine AtT.kpassNU ?_ | ((refine AtT.kcallP rfl rfl ok27 (of_f _ _) ?_) ; (rintro _ rfl)))
      all_goals (first | refine AtT.kpassN ?_ | refine AtT.kpassNU ?_ | ((refine AtT.kcallP rfl rfl ok33 (ints_f [0] [0] _ _ _ hu111 s289) ?_) ; (rintro _ rfl)))
      all_goals (refine AtT.setT (d := 291) rfl (rfl) ?_)
      all_goals (refine AtT.kpick ?_)
      all_goals (refine AtT.kmove ?_)
      all_goals (first | refine AtT.kpass ?_ | refine AtT.kpassU ?_ | ((refine AtT.kmove ?_)))
      all_goals (first | refine AtT.kpass ?_ | refine AtT.kpassU ?_ | ((refine AtT.keqI ?_)))
      all_goals (refine AtT.setT (d := 295) rfl (rfl) ?_)
      all_goals (refine AtT.kpick ?_)
      all_goals (refine AtT.kmove ?_)
      all_goals (first | refine AtT.kpass ?_ | refine AtT.kpassU ?_ | ((refine AtT.kmove ?_)))
      all_goals (first | refine AtT.kpass ?_ | refine AtT.kpassU ?_ | ((refine AtT.keqI ?_)))
      all_goals (refine AtT.setT (d := 299) rfl (rfl) ?_)
      all_goals (refine AtT.kpick ?_)
      all_goals (refine AtT.kmove ?_)
      all_goals (first | refine AtT.kpass ?_ | refine AtT.kpassU ?_ | ((refine AtT.kmove ?_)))
      all_goals (first | refine AtT.kpass ?_ | refine AtT.kpassU ?_ | ((refine AtT.keqI ?_)))
      all_goals (refine AtT.setT (d := 303) rfl (rfl) ?_)
      all_goals (refine AtT.kpick ?_)
      all_goals (refine AtT.kmove ?_)
      all_goals (first | refine AtT.kpass ?_ | refine AtT.kpassU ?_ | ((first | refine AtT.kloadOA tk24 ?_ | refine AtT.kloadA tk24 ?_ | refine AtT.kloadOP tk24 ?_)))
      all_goals (first | refine AtT.kpassN ?_ | refine AtT.kpassNU ?_ | ((refine AtT.kcallP rfl rfl ok25 (panel_f 0 0 2 _) ?_) ; (rintro _ rfl)))
      all_goals (first | refine AtT.kpass ?_ | refine AtT.kpassU ?_ | ((refine AtT.keqS (eqS24 _ _ _ _ _ _) ?_)))
      all_goals (refine AtT.setT (d := 308) rfl (⟨rfl, rfl, rfl⟩) ?_)
      all_goals (refine AtT.kpick ?_)
      all_goals (refine AtT.kmove ?_)
      all_goals (first | refine AtT.kpass ?_ | refine AtT.kpassU ?_ | ((refine AtT.kmove ?_)))
      all_goals (first | refine AtT.kpass ?_ | refine AtT.kpassU ?_ | ((refine AtT.keqI ?_)))
      all_goals (refine AtT.setT (d := 312) rfl (rfl) ?_)
      all_goals (refine AtT.kpick ?_)
      all_goals (refine AtT.kassign ?_)
      all_goals refine AtT.done ?_
  rotate_right
  focus
    all_goals (first | refine AtT.kpassN ?_ | refine AtT.kpassNU ?_ | ((refine AtT.kbsliceG (bs38_2_0_1 _ _) ?_) ; (intro q265 V265 hV265 hq265)))
    all_goals ((try replace hu91 := hu91.le hV265) ; (try replace hu96 := hu96.le hV265) ; (try replace hu111 := hu111.le hV265) ; (try replace s265 := s265.le hV265) ; (try replace s267 := s267.le hV265) ; (try replace s269 := s269.le hV265))
    all_goals (have s265 : SlI V265 _ [1, 6] := Sl.lit hq265 rfl (by decide))
    refine AtT.br (fun i hi => ?_)
    simp only [List.mem_cons, List.not_mem_nil, or_false] at hi
    rcases hi with rfl | rfl | rfl
    rotate_right
    focus
      all_goals (first | refine AtT.kpassN ?_ | refine AtT.kpassNU ?_ | ((refine AtT.kbsliceG (bs38_2_0_1 _ _) ?_) ; (intro q269 V269 hV269 hq269)))
      all_goals ((try replace hu91 := hu91.le hV269) ; (try replace hu96 := hu96.le hV269) ; (try replace hu111 := hu111.le hV269) ; (try replace s265 := s265.le hV269) ; (try replace s267 := s267.le hV269) ; (try replace s269 := s269.le hV269))
      all_goals (have s269 : SlI V269 _ [6, 12] := Sl.lit hq269 rfl (by decide))
      refine AtT.two ?_ ?_
      focus
        all_goals (first | refine AtT.kpassN ?_ | refine AtT.kpassNU ?_ | ((refine AtT.kcallP rfl rfl ok27 (of_f _ _) ?_) ; (rintro _ rfl)))
        all_goals (first | refine AtT.kpassN ?_ | refine AtT.kpassNU ?_ | ((refine AtT.kbsliceG (bs38_2_0_1 _ _) ?_) ; (intro q267 V267 hV267 hq267)))
        all_goals ((try replace hu91 := hu91.le hV267) ; (try replace hu96 := hu96.le hV267) ; (try replace hu111 := hu111.le hV267) ; (try replace s265 := s265.le hV267) ; (try replace s267 := s267.le hV267) ; (try replace s269 := s269.le hV267))
        all_goals (have s267 : SlI V267 _ [1, 12] := Sl.lit hq267 rfl (by decide))
        all_goals (first | refine AtT.kpassN ?_ | refine AtT.kpassNU ?_ | ((refine AtT.kcallP rfl rfl ok27 (of_f _ _) ?_) ; (rintro _ rfl)))
        all_goals (first | refine AtT.kpassN ?_ | refine AtT.kpassNU ?_ | ((refine AtT.kcallP rfl rfl ok27 (of_f _ _) ?_) ; (rintro _ rfl)))
        all_goals (first | refine AtT.kpassN ?_ | refine AtT.kpassNU ?_ | ((refine AtT.kbsliceG (bs35_3_0_1_2 _ _ _ _ _ _ _ _ _) ?_) ; (intro q271 V271 hV271 hq271)))
        all_goals ((try replace hu91 := hu91.le hV271) ; (try replace hu96 := hu96.le hV271) ; (try replace hu111 := hu111.le hV271) ; (try replace s265 := s265.le hV271) ; (try replace s267 := s267.le hV271) ; (try replace s269 := s269.le hV271))
        all_goals (first | refine AtT.kpassN ?_ | refine AtT.kpassNU ?_ | ((refine AtT.kcallP rfl rfl ok35 (lists_f _ _) ?_) ; (rintro _ rfl)))
        all_goals (first | refine AtT.kpassN ?_ | refine AtT.kpassNU ?_ | ((refine AtT.kcallP rfl rfl ok34 (lists_eq_f [[1, 6], [1, 12], [6, 12]] [[1, 6], [1, 12], [6, 12]] _ _ _ hu91 (SL.lit [(some q265, 2, 2), (some q267, 2, 2), (some q269, 2, 2)] [[1, 6], [1, 12], [6, 12]] 3 hq271 rfl rfl (by simp) (fun i q l h1 h2 => by match i, h1, h2 with | 0, h1, h2 => (cases h1; cases h2; exact s265) | 1, h1, h2 => (cases h1; cases h2; exact s267) | 2, h1, h2 => (cases h1; cases h2; exact s269)))) ?_) ; (rintro _ rfl)))
        all_goals (refine AtT.setT (d := 273) rfl (rfl) ?_)
        all_goals (refine AtT.kpick ?_)
        all_goals (refine AtT.kmove ?_)
        all_goals (first | refine AtT.kpass ?_ | refine AtT.kpassU ?_ | ((refine AtT.kmove ?_)))
        all_goals (first | refine AtT.kpassN ?_ | refine AtT.kpassNU ?_ | ((refine AtT.kbsliceG (bs38_2_0_1 _ _) ?_) ; (intro q277 V277 hV277 hq277)))
        all_goals ((try replace hu96 := hu96.le hV277) ; (try replace hu111 := hu111.le hV277))
        all_goals (have s277 : SlI V277 _ [1, 6] := Sl.lit hq277 rfl (by decide))
        all_goals (first | refine AtT.kpassN ?_ | refine AtT.kpassNU ?_ | ((refine AtT.kcallP rfl rfl ok27 (of_f _ _) ?_) ; (rintro _ rfl)))
        all_goals (first | refine AtT.kpassN ?_ | refine AtT.kpassNU ?_ | ((refine AtT.kbsliceG (bs35_1_0 _ _ _) ?_) ; (intro q279 V279 hV279 hq279)))
        all_goals ((try replace hu96 := hu96.le hV279) ; (try replace hu111 := hu111.le hV279) ; (try replace s277 := s277.le hV279))
        all_goals (first | refine AtT.kpassN ?_ | refine AtT.kpassNU ?_ | ((refine AtT.kcallP rfl rfl ok35 (lists_f _ _) ?_) ; (rintro _ rfl)))
        all_goals (first | refine AtT.kpassN ?_ | refine AtT.kpassNU ?_ | ((refine AtT.kcallP rfl rfl ok34 (lists_eq_f [[1, 6]] [[1, 6]] _ _ _ hu96 (SL.lit [(some q277, 2, 2)] [[1, 6]] 1 hq279 rfl rfl (by simp) (fun i q l h1 h2 => by match i, h1, h2 with | 0, h1, h2 => (cases h1; cases h2; exact s277)))) ?_) ; (rintro _ rfl)))
        all_goals (refine AtT.setT (d := 281) rfl (rfl) ?_)
        all_goals (refine AtT.kpick ?_)
        all_goals (refine AtT.kmove ?_)
        all_goals (first | refine AtT.kpass ?_ | refine AtT.kpassU ?_ | ((refine AtT.kmove ?_)))
        all_goals (first | refine AtT.kpass ?_ | refine AtT.kpassU ?_ | ((refine AtT.keqI ?_)))
        all_goals (refine AtT.setT (d := 285) rfl (rfl) ?_)
        all_goals (refine AtT.kpick ?_)
        all_goals (refine AtT.kmove ?_)
        all_goals (first | refine AtT.kpass ?_ | refine AtT.kpassU ?_ | ((refine AtT.kmove ?_)))
        all_goals (first | refine AtT.kpassN ?_ | refine AtT.kpassNU ?_ | ((refine AtT.kbsliceG (bs38_1_0 _) ?_) ; (intro q289 V289 hV289 hq289)))
        all_goals ((try replace hu111 := hu111.le hV289))
        all_goals (have s289 : SlI V289 _ [0] := Sl.lit hq289 rfl (by decide))
        all_goals (first | refine AtT.kpassN ?_ | refine AtT.kpassNU ?_ | ((refine AtT.kcallP rfl rfl ok27 (of_f _ _) ?_) ; (rintro _ rfl)))
        all_goals (first | refine AtT.kpassN ?_ | refine AtT.kpassNU ?_ | ((refine AtT.kcallP rfl rfl ok33 (ints_f [0] [0] _ _ _ hu111 s289) ?_) ; (rintro _ rfl)))
        all_goals (refine AtT.setT (d := 291) rfl (rfl) ?_)
        all_goals (refine AtT.kpick ?_)
        all_goals (refine AtT.kmove ?_)
        all_goals (first | refine AtT.kpass ?_ | refine AtT.kpassU ?_ | ((refine AtT.kmove ?_)))
        all_goals (first | refine AtT.kpass ?_ | refine AtT.kpassU ?_ | ((refine AtT.keqI ?_)))
        all_goals (refine AtT.setT (d := 295) rfl (rfl) ?_)
        all_goals (refine AtT.kpick ?_)
        all_goals (refine AtT.kmove ?_)
        all_goals (first | refine AtT.kpass ?_ | refine AtT.kpassU ?_ | ((refine AtT.kmove ?_)))
        all_goals (first | refine AtT.kpass ?_ | refine AtT.kpassU ?_ | ((refine AtT.keqI ?_)))
        all_goals (refine AtT.setT (d := 299) rfl (rfl) ?_)
        all_goals (refine AtT.kpick ?_)
        all_goals (refine AtT.kmove ?_)
        all_goals (first | refine AtT.kpass ?_ | refine AtT.kpassU ?_ | ((refine AtT.kmove ?_)))
        all_goals (first | refine AtT.kpass ?_ | refine AtT.kpassU ?_ | ((refine AtT.keqI ?_)))
        all_goals (refine AtT.setT (d := 303) rfl (rfl) ?_)
        all_goals (refine AtT.kpick ?_)
        all_goals (refine AtT.kmove ?_)
        all_goals (first | refine AtT.kpass ?_ | refine AtT.kpassU ?_ | ((first | refine AtT.kloadOA tk24 ?_ | refine AtT.kloadA tk24 ?_ | refine AtT.kloadOP tk24 ?_)))
        all_goals (first | refine AtT.kpassN ?_ | refine AtT.kpassNU ?_ | ((refine AtT.kcallP rfl rfl ok25 (panel_f 0 0 2 _) ?_) ; (rintro _ rfl)))
        all_goals (first | refine AtT.kpass ?_ | refine AtT.kpassU ?_ | ((refine AtT.keqS (eqS24 _ _ _ _ _ _) ?_)))
        all_goals (refine AtT.setT (d := 308) rfl (⟨rfl, rfl, rfl⟩) ?_)
        all_goals (refine AtT.kpick ?_)
        all_goals (refine AtT.kmove ?_)
        all_goals (first | refine AtT.kpass ?_ | refine AtT.kpassU ?_ | ((refine AtT.kmove ?_)))
        all_goals (first | refine AtT.kpass ?_ | refine AtT.kpassU ?_ | ((refine AtT.keqI ?_)))
        all_goals (refine AtT.setT (d := 312) rfl (rfl) ?_)
        all_goals (refine AtT.kpick ?_)
        all_goals (refine AtT.kassign ?_)
        all_goals refine AtT.done ?_
      rotate_right
      focus
        all_goals (first | refine AtT.kpassN ?_ | refine AtT.kpassNU ?_ | ((refine AtT.kbsliceG (bs38_2_0_1 _ _) ?_) ; (intro q267 V267 hV267 hq267)))
        all_goals ((try replace hu91 := hu91.le hV267) ; (try replace hu96 := hu96.le hV267) ; (try replace hu111 := hu111.le hV267) ; (try replace s265 := s265.le hV267) ; (try replace s267 := s267.le hV267) ; (try replace s269 := s269.le hV267))
        all_goals (have s267 : SlI V267 _ [1, 12] := Sl.lit hq267 rfl (by decide))
        all_goals (first | refine AtT.kpassN ?_ | refine AtT.kpassNU ?_ | ((refine AtT.kcallP rfl rfl ok27 (of_f _ _) ?_) ; (rintro _ rfl)))
        all_goals (first | refine AtT.kpassN ?_ | refine AtT.kpassNU ?_ | ((refine AtT.kcallP rfl rfl ok27 (of_f _ _) ?_) ; (rintro _ rfl)))
        all_goals (first | refine AtT.kpassN ?_ | refine AtT.kpassNU ?_ | ((refine AtT.kcallP rfl rfl ok27 (of_f _ _) ?_) ; (rintro _ rfl)))
        all_goals (first | refine AtT.kpassN ?_ | refine AtT.kpassNU ?_ | ((refine AtT.kbsliceG (bs35_3_0_1_2 _ _ _ _ _ _ _ _ _) ?_) ; (intro q271 V271 hV271 hq271)))
        all_goals ((try replace hu91 := hu91.le hV271) ; (try replace hu96 := hu96.le hV271) ; (try replace hu111 := hu111.le hV271) ; (try replace s265 := s265.le hV271) ; (try replace s267 := s267.le hV271) ; (try replace s269 := s269.le hV271))
        all_goals (first | refine AtT.kpassN ?_ | refine AtT.kpassNU ?_ | ((refine AtT.kcallP rfl rfl ok35 (lists_f _ _) ?_) ; (rintro _ rfl)))
        all_goals (first | refine AtT.kpassN ?_ | refine AtT.kpassNU ?_ | ((refine AtT.kcallP rfl rfl ok34 (lists_eq_f [[1, 6], [1, 12], [6, 12]] [[1, 6], [1, 12], [6, 12]] _ _ _ hu91 (SL.lit [(some q265, 2, 2), (some q267, 2, 2), (some q269, 2, 2)] [[1, 6], [1, 12], [6, 12]] 3 hq271 rfl rfl (by simp) (fun i q l h1 h2 => by match i, h1, h2 with | 0, h1, h2 => (cases h1; cases h2; exact s265) | 1, h1, h2 => (cases h1; cases h2; exact s267) | 2, h1, h2 => (cases h1; cases h2; exact s269)))) ?_) ; (rintro _ rfl)))
        all_goals (refine AtT.setT (d := 273) rfl (rfl) ?_)
        all_goals (refine AtT.kpick ?_)
        all_goals (refine AtT.kmove ?_)
        all_goals (first | refine AtT.kpass ?_ | refine AtT.kpassU ?_ | ((refine AtT.kmove ?_)))
        all_goals (first | refine AtT.kpassN ?_ | refine AtT.kpassNU ?_ | ((refine AtT.kbsliceG (bs38_2_0_1 _ _) ?_) ; (intro q277 V277 hV277 hq277)))
        all_goals ((try replace hu96 := hu96.le hV277) ; (try replace hu111 := hu111.le hV277))
        all_goals (have s277 : SlI V277 _ [1, 6] := Sl.lit hq277 rfl (by decide))
        all_goals (first | refine AtT.kpassN ?_ | refine AtT.kpassNU ?_ | ((refine AtT.kcallP rfl rfl ok27 (of_f _ _) ?_) ; (rintro _ rfl)))
        all_goals (first | refine AtT.kpassN ?_ | refine AtT.kpassNU ?_ | ((refine AtT.kbsliceG (bs35_1_0 _ _ _) ?_) ; (intro q279 V279 hV279 hq279)))
        all_goals ((try replace hu96 := hu96.le hV279) ; (try replace hu111 := hu111.le hV279) ; (try replace s277 := s277.le hV279))
        all_goals (first | refine AtT.kpassN ?_ | refine AtT.kpassNU ?_ | ((refine AtT.kcallP rfl rfl ok35 (lists_f _ _) ?_) ; (rintro _ rfl)))
        all_goals (first | refine AtT.kpassN ?_ | refine AtT.kpassNU ?_ | ((refine AtT.kcallP rfl rfl ok34 (lists_eq_f [[1, 6]] [[1, 6]] _ _ _ hu96 (SL.lit [(some q277, 2, 2)] [[1, 6]] 1 hq279 rfl rfl (by simp) (fun i q l h1 h2 => by match i, h1, h2 with | 0, h1, h2 => (cases h1; cases h2; exact s277)))) ?_) ; (rintro _ rfl)))
        all_goals (refine AtT.setT (d := 281) rfl (rfl) ?_)
        all_goals (refine AtT.kpick ?_)
        all_goals (refine AtT.kmove ?_)
        all_goals (first | refine AtT.kpass ?_ | refine AtT.kpassU ?_ | ((refine AtT.kmove ?_)))
        all_goals (first | refine AtT.kpass ?_ | refine AtT.kpassU ?_ | ((refine AtT.keqI ?_)))
        all_goals (refine AtT.setT (d := 285) rfl (rfl) ?_)
        all_goals (refine AtT.kpick ?_)
        all_goals (refine AtT.kmove ?_)
        all_goals (first | refine AtT.kpass ?_ | refine AtT.kpassU ?_ | ((refine AtT.kmove ?_)))
        all_goals (first | refine AtT.kpassN ?_ | refine AtT.kpassNU ?_ | ((refine AtT.kbsliceG (bs38_1_0 _) ?_) ; (intro q289 V289 hV289 hq289)))
        all_goals ((try replace hu111 := hu111.le hV289))
        all_goals (have s289 : SlI V289 _ [0] := Sl.lit hq289 rfl (by decide))
        all_goals (first | refine AtT.kpassN ?_ | refine AtT.kpassNU ?_ | ((refine AtT.kcallP rfl rfl ok27 (of_f _ _) ?_) ; (rintro _ rfl)))
        all_goals (first | refine AtT.kpassN ?_ | refine AtT.kpassNU ?_ | ((refine AtT.kcallP rfl rfl ok33 (ints_f [0] [0] _ _ _ hu111 s289) ?_) ; (rintro _ rfl)))
        all_goals (refine AtT.setT (d := 291) rfl (rfl) ?_)
        all_goals (refine AtT.kpick ?_)
        all_goals (refine AtT.kmove ?_)
        all_goals (first | refine AtT.kpass ?_ | refine AtT.kpassU ?_ | ((refine AtT.kmove ?_)))
        all_goals (first | refine AtT.kpass ?_ | refine AtT.kpassU ?_ | ((refine AtT.keqI ?_)))
        all_goals (refine AtT.setT (d := 295) rfl (rfl) ?_)
        all_goals (refine AtT.kpick ?_)
        all_goals (refine AtT.kmove ?_)
        all_goals (first | refine AtT.kpass ?_ | refine AtT.kpassU ?_ | ((refine AtT.kmove ?_)))
        all_goals (first | refine AtT.kpass ?_ | refine AtT.kpassU ?_ | ((refine AtT.keqI ?_)))
        all_goals (refine AtT.setT (d := 299) rfl (rfl) ?_)
        all_goals (refine AtT.kpick ?_)
        all_goals (refine AtT.kmove ?_)
        all_goals (first | refine AtT.kpass ?_ | refine AtT.kpassU ?_ | ((refine AtT.kmove ?_)))
        all_goals (first | refine AtT.kpass ?_ | refine AtT.kpassU ?_ | ((refine AtT.keqI ?_)))
        all_goals (refine AtT.setT (d := 303) rfl (rfl) ?_)
        all_goals (refine AtT.kpick ?_)
        all_goals (refine AtT.kmove ?_)
        all_goals (first | refine AtT.kpass ?_ | refine AtT.kpassU ?_ | ((first | refine AtT.kloadOA tk24 ?_ | refine AtT.kloadA tk24 ?_ | refine AtT.kloadOP tk24 ?_)))
        all_goals (first | refine AtT.kpassN ?_ | refine AtT.kpassNU ?_ | ((refine AtT.kcallP rfl rfl ok25 (panel_f 0 0 2 _) ?_) ; (rintro _ rfl)))
        all_goals (first | refine AtT.kpass ?_ | refine AtT.kpassU ?_ | ((refine AtT.keqS (eqS24 _ _ _ _ _ _) ?_)))
        all_goals (refine AtT.setT (d := 308) rfl (⟨rfl, rfl, rfl⟩) ?_)
        all_goals (refine AtT.kpick ?_)
        all_goals (refine AtT.kmove ?_)
        all_goals (first | refine AtT.kpass ?_ | refine AtT.kpassU ?_ | ((refine AtT.kmove ?_)))
        all_goals (first | refine AtT.kpass ?_ | refine AtT.kpassU ?_ | ((refine AtT.keqI ?_)))
        all_goals (refine AtT.setT (d := 312) rfl (rfl) ?_)
        all_goals (refine AtT.kpick ?_)
        all_goals (refine AtT.kassign ?_)
        all_goals refine AtT.done ?_
    rotate_right
    focus
      all_goals (first | refine AtT.kpassN ?_ | refine AtT.kpassNU ?_ | ((refine AtT.kbsliceG (bs38_2_0_1 _ _) ?_) ; (intro q267 V267 hV267 hq267)))
      all_goals ((try replace hu91 := hu91.le hV267) ; (try replace hu96 := hu96.le hV267) ; (try replace hu111 := hu111.le hV267) ; (try replace s265 := s265.le hV267) ; (try replace s267 := s267.le hV267) ; (try replace s269 := s269.le hV267))
      all_goals (have s267 : SlI V267 _ [1, 12] := Sl.lit hq267 rfl (by decide))
      refine AtT.two ?_ ?_
      focus
        all_goals (first | refine AtT.kpassN ?_ | refine AtT.kpassNU ?_ | ((refine AtT.kcallP rfl rfl ok27 (of_f _ _) ?_) ; (rintro _ rfl)))
        refine AtT.two ?_ ?_
        focus
          all_goals (first | refine AtT.kpassN ?_ | refine AtT.kpassNU ?_ | ((refine AtT.kcallP rfl rfl ok27 (of_f _ _) ?_) ; (rintro _ rfl)))
          all_goals (first | refine AtT.kpassN ?_ | refine AtT.kpassNU ?_ | ((refine AtT.kbsliceG (bs38_2_0_1 _ _) ?_) ; (intro q269 V269 hV269 hq269)))
          all_goals ((try replace hu91 := hu91.le hV269) ; (try replace hu96 := hu96.le hV269) ; (try replace hu111 := hu111.le hV269) ; (try replace s265 := s265.le hV269) ; (try replace s267 := s267.le hV269) ; (try replace s269 := s269.le hV269))
          all_goals (have s269 : SlI V269 _ [6, 12] := Sl.lit hq269 rfl (by decide))
          all_goals (first | refine AtT.kpassN ?_ | refine AtT.kpassNU ?_ | ((refine AtT.kcallP rfl rfl ok27 (of_f _ _) ?_) ; (rintro _ rfl)))
          all_goals (first | refine AtT.kpassN ?_ | refine AtT.kpassNU ?_ | ((refine AtT.kbsliceG (bs35_3_0_1_2 _ _ _ _ _ _ _ _ _) ?_) ; (intro q271 V271 hV271 hq271)))
          all_goals ((try replace hu91 := hu91.le hV271) ; (try replace hu96 := hu96.le hV271) ; (try replace hu111 := hu111.le hV271) ; (try replace s265 := s265.le hV271) ; (try replace s267 := s267.le hV271) ; (try replace s269 := s269.le hV271))
          all_goals (first | refine AtT.kpassN ?_ | refine AtT.kpassNU ?_ | ((refine AtT.kcallP rfl rfl ok35 (lists_f _ _) ?_) ; (rintro _ rfl)))
          all_goals (first | refine AtT.kpassN ?_ | refine AtT.kpassNU ?_ | ((refine AtT.kcallP rfl rfl ok34 (lists_eq_f [[1, 6], [1, 12], [6, 12]] [[1, 6], [1, 12], [6, 12]] _ _ _ hu91 (SL.lit [(some q265, 2, 2), (some q267, 2, 2), (some q269, 2, 2)] [[1, 6], [1, 12], [6, 12]] 3 hq271 rfl rfl (by simp) (fun i q l h1 h2 => by match i, h1, h2 with | 0, h1, h2 => (cases h1; cases h2; exact s265) | 1, h1, h2 => (cases h1; cases h2; exact s267) | 2, h1, h2 => (cases h1; cases h2; exact s269)))) ?_) ; (rintro _ rfl)))
          all_goals (refine AtT.setT (d := 273) rfl (rfl) ?_)
          all_goals (refine AtT.kpick ?_)
          all_goals (refine AtT.kmove ?_)
          all_goals (first | refine AtT.kpass ?_ | refine AtT.kpassU ?_ | ((refine AtT.kmove ?_)))
          all_goals (first | refine AtT.kpassN ?_ | refine AtT.kpassNU ?_ | ((refine AtT.kbsliceG (bs38_2_0_1 _ _) ?_) ; (intro q277 V277 hV277 hq277)))
          all_goals ((try replace hu96 := hu96.le hV277) ; (try replace hu111 := hu111.le hV277))
          all_goals (have s277 : SlI V277 _ [1, 6] := Sl.lit hq277 rfl (by decide))
          all_goals (first | refine AtT.kpassN ?_ | refine AtT.kpassNU ?_ | ((refine AtT.kcallP rfl rfl ok27 (of_f _ _) ?_) ; (rintro _ rfl)))
          all_goals (first | refine AtT.kpassN ?_ | refine AtT.kpassNU ?_ | ((refine AtT.kbsliceG (bs35_1_0 _ _ _) ?_) ; (intro q279 V279 hV279 hq279)))
          all_goals ((try replace hu96 := hu96.le hV279) ; (try replace hu111 := hu111.le hV279) ; (try replace s277 := s277.le hV279))
          all_goals (first | refine AtT.kpassN ?_ | refine AtT.kpassNU ?_ | ((refine AtT.kcallP rfl rfl ok35 (lists_f _ _) ?_) ; (rintro _ rfl)))
          all_goals (first | refine AtT.kpassN ?_ | refine AtT.kpassNU ?_ | ((refine AtT.kcallP rfl rfl ok34 (lists_eq_f [[1, 6]] [[1, 6]] _ _ _ hu96 (SL.lit [(some q277, 2, 2)] [[1, 6]] 1 hq279 rfl rfl (by simp) (fun i q l h1 h2 => by match i, h1, h2 with | 0, h1, h2 => (cases h1; cases h2; exact s277)))) ?_) ; (rintro _ rfl)))
          all_goals (refine AtT.setT (d := 281) rfl (rfl) ?_)
          all_goals (refine AtT.kpick ?_)
          all_goals (refine AtT.kmove ?_)
          all_goals (first | refine AtT.kpass ?_ | refine AtT.kpassU ?_ | ((refine AtT.kmove ?_)))
          all_goals (first | refine AtT.kpass ?_ | refine AtT.kpassU ?_ | ((refine AtT.keqI ?_)))
          all_goals (refine AtT.setT (d := 285) rfl (rfl) ?_)
          all_goals (refine AtT.kpick ?_)
          all_goals (refine AtT.kmove ?_)
          all_goals (first | refine AtT.kpass ?_ | refine AtT.kpassU ?_ | ((refine AtT.kmove ?_)))
          all_goals (first | refine AtT.kpassN ?_ | refine AtT.kpassNU ?_ | ((refine AtT.kbsliceG (bs38_1_0 _) ?_) ; (intro q289 V289 hV289 hq289)))
          all_goals ((try replace hu111 := hu111.le hV289))
          all_goals (have s289 : SlI V289 _ [0] := Sl.lit hq289 rfl (by decide))
          all_goals (first | refine AtT.kpassN ?_ | refine AtT.kpassNU ?_ | ((refine AtT.kcallP rfl rfl ok27 (of_f _ _) ?_) ; (rintro _ rfl)))
          all_goals (first | refine AtT.kpassN ?_ | refine AtT.kpassNU ?_ | ((refine AtT.kcallP rfl rfl ok33 (ints_f [0] [0] _ _ _ hu111 s289) ?_) ; (rintro _ rfl)))
          all_goals (refine AtT.setT (d := 291) rfl (rfl) ?_)
          all_goals (refine AtT.kpick ?_)
          all_goals (refine AtT.kmove ?_)
          all_goals (first | refine AtT.kpass ?_ | refine AtT.kpassU ?_ | ((refine AtT.kmove ?_)))
          all_goals (first | refine AtT.kpass ?_ | refine AtT.kpassU ?_ | ((refine AtT.keqI ?_)))
          all_goals (refine AtT.setT (d := 295) rfl (rfl) ?_)
          all_goals (refine AtT.kpick ?_)
          all_goals (refine AtT.kmove ?_)
          all_goals (first | refine AtT.kpass ?_ | refine AtT.kpassU ?_ | ((refine AtT.kmove ?_)))
          all_goals (first | refine AtT.kpass ?_ | refine AtT.kpassU ?_ | ((refine AtT.keqI ?_)))
          all_goals (refine AtT.setT (d := 299) rfl (rfl) ?_)
          all_goals (refine AtT.kpick ?_)
          all_goals (refine AtT.kmove ?_)
          all_goals (first | refine AtT.kpass ?_ | refine AtT.kpassU ?_ | ((refine AtT.kmove ?_)))
          all_goals (first | refine AtT.kpass ?_ | refine AtT.kpassU ?_ | ((refine AtT.keqI ?_)))
          all_goals (refine AtT.setT (d := 303) rfl (rfl) ?_)
          all_goals (refine AtT.kpick ?_)
          all_goals (refine AtT.kmove ?_)
          all_goals (first | refine AtT.kpass ?_ | refine AtT.kpassU ?_ | ((first | refine AtT.kloadOA tk24 ?_ | refine AtT.kloadA tk24 ?_ | refine AtT.kloadOP tk24 ?_)))
          all_goals (first | refine AtT.kpassN ?_ | refine AtT.kpassNU ?_ | ((refine AtT.kcallP rfl rfl ok25 (panel_f 0 0 2 _) ?_) ; (rintro _ rfl)))
          all_goals (first | refine AtT.kpass ?_ | refine AtT.kpassU ?_ | ((refine AtT.keqS (eqS24 _ _ _ _ _ _) ?_)))
          all_goals (refine AtT.setT (d := 308) rfl (⟨rfl, rfl, rfl⟩) ?_)
          all_goals (refine AtT.kpick ?_)
          all_goals (refine AtT.kmove ?_)
          all_goals (first | refine AtT.kpass ?_ | refine AtT.kpassU ?_ | ((refine AtT.kmove ?_)))
          all_goals (first | refine AtT.kpass ?_ | refine AtT.kpassU ?_ | ((refine AtT.keqI ?_)))
          all_goals (refine AtT.setT (d := 312) rfl (rfl) ?_)
          all_goals (refine AtT.kpick ?_)
          all_goals (refine AtT.kassign ?_)
          all_goals refine AtT.done ?_
        rotate_right
        focus
          all_goals (first | refine AtT.kpassN ?_ | refine AtT.kpassNU ?_ | ((refine AtT.kbsliceG (bs38_2_0_1 _ _) ?_) ; (intro q269 V269 hV269 hq269)))
          all_goals ((try replace hu91 := hu91.le hV269) ; (try replace hu96 := hu96.le hV269) ; (try replace hu111 := hu111.le hV269) ; (try replace s265 := s265.le hV269) ; (try replace s267 := s267.le hV269) ; (try replace s269 := s269.le hV269))
          all_goals (have s269 : SlI V269 _ [6, 12] := Sl.lit hq269 rfl (by decide))
          all_goals (first | refine AtT.kpassN ?_ | refine AtT.kpassNU ?_ | ((refine AtT.kcallP rfl rfl ok27 (of_f _ _) ?_) ; (rintro _ rfl)))
          all_goals (first | refine AtT.kpassN ?_ | refine AtT.kpassNU ?_ | ((refine AtT.kcallP rfl rfl ok27 (of_f _ _) ?_) ; (rintro _ rfl)))
          all_goals (first | refine AtT.kpassN ?_ | refine AtT.kpassNU ?_ | ((refine AtT.kbsliceG (bs35_3_0_1_2 _ _ _ _ _ _ _ _ _) ?_) ; (intro q271 V271 hV271 hq271)))
          all_goals ((try replace hu91 := hu91.le hV271) ; (try replace hu96 := hu96.le hV271) ; (try replace hu111 := hu111.le hV271) ; (try replace s265 := s265.le hV271) ; (try replace s267 := s267.le hV271) ; (try replace s269 := s269.le hV271))
          all_goals (first | refine AtT.kpassN ?_ | refine AtT.kpassNU ?_ | ((refine AtT.kcallP rfl rfl ok35 (lists_f _ _) ?_) ; (rintro _ rfl)))
          all_goals (first | refine AtT.kpassN ?_ | refine AtT.kpassNU ?_ | ((refine AtT.kcallP rfl rfl ok34 (lists_eq_f [[1, 6], [1, 12], [6, 12]] [[1, 6], [1, 12], [6, 12]] _ _ _ hu91 (SL.lit [(some q265, 2, 2), (some q267, 2, 2), (some q269, 2, 2)] [[1, 6], [1, 12], [6, 12]] 3 hq271 rfl rfl (by simp) (fun i q l h1 h2 => by match i, h1, h2 with | 0, h1, h2 => (cases h1; cases h2; exact s265) | 1, h1, h2 => (cases h1; cases h2; exact s267) | 2, h1, h2 => (cases h1; cases h2; exact s269)))) ?_) ; (rintro _ rfl)))
          all_goals (refine AtT.setT (d := 273) rfl (rfl) ?_)
          all_goals (refine AtT.kpick ?_)
          all_goals (refine AtT.kmove ?_)
          all_goals (first | refine AtT.kpass ?_ | refine AtT.kpassU ?_ | ((refine AtT.kmove ?_)))
          all_goals (first | refine AtT.kpassN ?_ | refine AtT.kpassNU ?_ | ((refine AtT.kbsliceG (bs38_2_0_1 _ _) ?_) ; (intro q277 V277 hV277 hq277)))
          all_goals ((try replace hu96 := hu96.le hV277) ; (try replace hu111 := hu111.le hV277))
          all_goals (have s277 : SlI V277 _ [1, 6] := Sl.lit hq277 rfl (by decide))
          all_goals (first | refine AtT.kpassN ?_ | refine AtT.kpassNU ?_ | ((refine AtT.kcallP rfl rfl ok27 (of_f _ _) ?_) ; (rintro _ rfl)))
          all_goals (first | refine AtT.kpassN ?_ | refine AtT.kpassNU ?_ | ((refine AtT.kbsliceG (bs35_1_0 _ _ _) ?_) ; (intro q279 V279 hV279 hq279)))
          all_goals ((try replace hu96 := hu96.le hV279) ; (try replace hu111 := hu111.le hV279) ; (try replace s277 := s277.le hV279))
          all_goals (first | refine AtT.kpassN ?_ | refine AtT.kpassNU ?_ | ((refine AtT.kcallP rfl rfl ok35 (lists_f _ _) ?_) ; (rintro _ rfl)))
          all_goals (first | refine AtT.kpassN ?_ | refine AtT.kpassNU ?_ | ((refine AtT.kcallP rfl rfl ok34 (lists_eq_f [[1, 6]] [[1, 6]] _ _ _ hu96 (SL.lit [(some q277, 2, 2)] [[1, 6]] 1 hq279 rfl rfl (by simp) (fun i q l h1 h2 => by match i, h1, h2 with | 0, h1, h2 => (cases h1; cases h2; exact s277)))) ?_) ; (rintro _ rfl)))
          all_goals (refine AtT.setT (d := 281) rfl (rfl) ?_)
          all_goals (refine AtT.kpick ?_)
          all_goals (refine AtT.kmove ?_)
          all_goals (first | refine AtT.kpass ?_ | refine AtT.kpassU ?_ | ((refine AtT.kmove ?_)))
          all_goals (first | refine AtT.kpass ?_ | refine AtT.kpassU ?_ | ((refine AtT.keqI ?_)))
          all_goals (refine AtT.setT (d := 285) rfl (rfl) ?_)
          all_goals (refine AtT.kpick ?_)
          all_goals (refine AtT.kmove ?_)
          all_goals (first | refine AtT.kpass ?_ | refine AtT.kpassU ?_ | ((refine AtT.kmove ?_)))
          all_goals (first | refine AtT.kpassN ?_ | refine AtT.kpassNU ?_ | ((refine AtT.kbsliceG (bs38_1_0 _) ?_) ; (intro q289 V289 hV289 hq289)))
          all_goals ((try replace hu111 := hu111.le hV289))
          all_goals (have s289 : SlI V289 _ [0] := Sl.lit hq289 rfl (by decide))
          all_goals (first | refine AtT.kpassN ?_ | refine AtT.kpassNU ?_ | ((refine AtT.kcallP rfl rfl ok27 (of_f _ _) ?_) ; (rintro _ rfl)))
          all_goals (first | refine AtT.kpassN ?_ | refine AtT.kpassNU ?_ | ((refine AtT.kcallP rfl rfl ok33 (ints_f [0] [0] _ _ _ hu111 s289) ?_) ; (rintro _ rfl)))
          all_goals (refine AtT.setT (d := 291) rfl (rfl) ?_)
          all_goals (refine AtT.kpick ?_)
          all_goals (refine AtT.kmove ?_)
          all_goals (first | refine AtT.kpass ?_ | refine AtT.kpassU ?_ | ((refine AtT.kmove ?_)))
          all_goals (first | refine AtT.kpass ?_ | refine AtT.kpassU ?_ | ((refine AtT.keqI ?_)))
          all_goals (refine AtT.setT (d := 295) rfl (rfl) ?_)
          all_goals (refine AtT.kpick ?_)
          all_goals (refine AtT.kmove ?_)
          all_goals (first | refine AtT.kpass ?_ | refine AtT.kpassU ?_ | ((refine AtT.kmove ?_)))
          all_goals (first | refine AtT.kpass ?_ | refine AtT.kpassU ?_ | ((refine AtT.keqI ?_)))
          all_goals (refine AtT.setT (d := 299) rfl (rfl) ?_)
          all_goals (refine AtT.kpick ?_)
          all_goals (refine AtT.kmove ?_)
          all_goals (first | refine AtT.kpass ?_ | refine AtT.kpassU ?_ | ((refine AtT.kmove ?_)))
          all_goals (first | refine AtT.kpass ?_ | refine AtT.kpassU ?_ | ((refine AtT.keqI ?_)))
          all_goals (refine AtT.setT (d := 303) rfl (rfl) ?_)
          all_goals (refine AtT.kpick ?_)
          all_goals (refine AtT.kmove ?_)
          all_goals (first | refine AtT.kpass ?_ | refine AtT.kpassU ?_ | ((first | refine AtT.kloadOA tk24 ?_ | refine AtT.kloadA tk24 ?_ | refine AtT.kloadOP tk24 ?_)))
          all_goals (first | refine AtT.kpassN ?_ | refine AtT.kpassNU ?_ | ((refine AtT.kcallP rfl rfl ok25 (panel_f 0 0 2 _) ?_) ; (rintro _ rfl)))
          all_goals (first | refine AtT.kpass ?_ | refine AtT.kpassU ?_ | ((refine AtT.keqS (eqS24 _ _ _ _ _ _) ?_)))
          all_goals (refine AtT.setT (d := 308) rfl (⟨rfl, rfl, rfl⟩) ?_)
          all_goals (refine AtT.kpick ?_)
          all_goals (refine AtT.kmove ?_)
          all_goals (first | refine AtT.kpass ?_ | refine AtT.kpassU ?_ | ((refine AtT.kmove ?_)))
          all_goals (first | refine AtT.kpass ?_ | refine AtT.kpassU ?_ | ((refine AtT.keqI ?_)))
          all_goals (refine AtT.setT (d := 312) rfl (rfl) ?_)
          all_goals (refine AtT.kpick ?_)
          all_goals (refine AtT.kassign ?_)
          all_goals refine AtT.done ?_
      rotate_right
      focus
        all_goals (first | refine AtT.kpassN ?_ | refine AtT.kpassNU ?_ | ((refine AtT.kbsliceG (bs38_2_0_1 _ _) ?_) ; (intro q269 V269 hV269 hq269)))
        all_goals ((try replace hu91 := hu91.le hV269) ; (try replace hu96 := hu96.le hV269) ; (try replace hu111 := hu111.le hV269) ; (try replace s265 := s265.le hV269) ; (try replace s267 := s267.le hV269) ; (try replace s269 := s269.le hV269))
        all_goals (have s269 : SlI V269 _ [6, 12] := Sl.lit hq269 rfl (by decide))
        all_goals (first | refine AtT.kpassN ?_ | refine AtT.kpassNU ?_ | ((refine AtT.kcallP rfl rfl ok27 (of_f _ _) ?_) ; (rintro _ rfl)))
        all_goals (first | refine AtT.kpassN ?_ | refine AtT.kpassNU ?_ | ((refine AtT.kcallP rfl rfl ok27 (of_f _ _) ?_) ; (rintro _ rfl)))
        all_goals (first | refine AtT.kpassN ?_ | refine AtT.kpassNU ?_ | ((refine AtT.kcallP rfl rfl ok27 (of_f _ _) ?_) ; (rintro _ rfl)))
        all_goals (first | refine AtT.kpassN ?_ | refine AtT.kpassNU ?_ | ((refine AtT.kbsliceG (bs35_3_0_1_2 _ _ _ _ _ _ _ _ _) ?_) ; (intro q271 V271 hV271 hq271)))
        all_goals ((try replace hu91 := hu91.le hV271) ; (try replace hu96 := hu96.le hV271) ; (try replace hu111 := hu111.le hV271) ; (try replace s265 := s265.le hV271) ; (try replace s267 := s267.le hV271) ; (try replace s269 := s269.le hV271))
        all_goals (first | refine AtT.kpassN ?_ | refine AtT.kpassNU ?_ | ((refine AtT.kcallP rfl rfl ok35 (lists_f _ _) ?_) ; (rintro _ rfl)))
        all_goals (first | refine AtT.kpassN ?_ | refine AtT.kpassNU ?_ | ((refine AtT.kcallP rfl rfl ok34 (lists_eq_f [[1, 6], [1, 12], [6, 12]] [[1, 6], [1, 12], [6, 12]] _ _ _ hu91 (SL.lit [(some q265, 2, 2), (some q267, 2, 2), (some q269, 2, 2)] [[1, 6], [1, 12], [6, 12]] 3 hq271 rfl rfl (by simp) (fun i q l h1 h2 => by match i, h1, h2 with | 0, h1, h2 => (cases h1; cases h2; exact s265) | 1, h1, h2 => (cases h1; cases h2; exact s267) | 2, h1, h2 => (cases h1; cases h2; exact s269)))) ?_) ; (rintro _ rfl)))
        all_goals (refine AtT.setT (d := 273) rfl (rfl) ?_)
        all_goals (refine AtT.kpick ?_)
        all_goals (refine AtT.kmove ?_)
        all_goals (first | refine AtT.kpass ?_ | refine AtT.kpassU ?_ | ((refine AtT.kmove ?_)))
        all_goals (first | refine AtT.kpassN ?_ | refine AtT.kpassNU ?_ | ((refine AtT.kbsliceG (bs38_2_0_1 _ _) ?_) ; (intro q277 V277 hV277 hq277)))
        all_goals ((try replace hu96 := hu96.le hV277) ; (try replace hu111 := hu111.le hV277))
        all_goals (have s277 : SlI V277 _ [1, 6] := Sl.lit hq277 rfl (by decide))
        all_goals (first | refine AtT.kpassN ?_ | refine AtT.kpassNU ?_ | ((refine AtT.kcallP rfl rfl ok27 (of_f _ _) ?_) ; (rintro _ rfl)))
        all_goals (first | refine AtT.kpassN ?_ | refine AtT.kpassNU ?_ | ((refine AtT.kbsliceG (bs35_1_0 _ _ _) ?_) ; (intro q279 V279 hV279 hq279)))
        all_goals ((try replace hu96 := hu96.le hV279) ; (try replace hu111 := hu111.le hV279) ; (try replace s277 := s277.le hV279))
        all_goals (first | refine AtT.kpassN ?_ | refine AtT.kpassNU ?_ | ((refine AtT.kcallP rfl rfl ok35 (lists_f _ _) ?_) ; (rintro _ rfl)))
        all_goals (first | refine AtT.kpassN ?_ | refine AtT.kpassNU ?_ | ((refine AtT.kcallP rfl rfl ok34 (lists_eq_f [[1, 6]] [[1, 6]] _ _ _ hu96 (SL.lit [(some q277, 2, 2)] [[1, 6]] 1 hq279 rfl rfl (by simp) (fun i q l h1 h2 => by match i, h1, h2 with | 0, h1, h2 => (cases h1; cases h2; exact s277)))) ?_) ; (rintro _ rfl)))
        all_goals (refine AtT.setT (d := 281) rfl (rfl) ?_)
        all_goals (refine AtT.kpick ?_)
        all_goals (refine AtT.kmove ?_)
        all_goals (first | refine AtT.kpass ?_ | refine AtT.kpassU ?_ | ((refine AtT.kmove ?_)))
        all_goals (first | refine AtT.kpass ?_ | refine AtT.kpassU ?_ | ((refine AtT.keqI ?_)))
        all_goals (refine AtT.setT (d := 285) rfl (rfl) ?_)
        all_goals (refine AtT.kpick ?_)
        all_goals (refine AtT.kmove ?_)
        all_goals (first | refine AtT.kpass ?_ | refine AtT.kpassU ?_ | ((refine AtT.kmove ?_)))
        all_goals (first | refine AtT.kpassN ?_ | refine AtT.kpassNU ?_ | ((refine AtT.kbsliceG (bs38_1_0 _) ?_) ; (intro q289 V289 hV289 hq289)))
        all_goals ((try replace hu111 := hu111.le hV289))
        all_goals (have s289 : SlI V289 _ [0] := Sl.lit hq289 rfl (by decide))
        all_goals (first | refine AtT.kpassN ?_ | refine AtT.kpassNU ?_ | ((refine AtT.kcallP rfl rfl ok27 (of_f _ _) ?_) ; (rintro _ rfl)))
        all_goals (first | refine AtT.kpassN ?_ | refine AtT.kpassNU ?_ | ((refine AtT.kcallP rfl rfl ok33 (ints_f [0] [0] _ _ _ hu111 s289) ?_) ; (rintro _ rfl)))
        all_goals (refine AtT.setT (d := 291) rfl (rfl) ?_)
        all_goals (refine AtT.kpick ?_)
        all_goals (refine AtT.kmove ?_)
        all_goals (first | refine AtT.kpass ?_ | refine AtT.kpassU ?_ | ((refine AtT.kmove ?_)))
        all_goals (first | refine AtT.kpass ?_ | refine AtT.kpassU ?_ | ((refine AtT.keqI ?_)))
        all_goals (refine AtT.setT (d := 295) rfl (rfl) ?_)
        all_goals (refine AtT.kpick ?_)
        all_goals (refine AtT.kmove ?_)
        all_goals (first | refine AtT.kpass ?_ | refine AtT.kpassU ?_ | ((refine AtT.kmove ?_)))
        all_goals (first | refine AtT.kpass ?_ | refine AtT.kpassU ?_ | ((refine AtT.keqI ?_)))
        all_goals (refine AtT.setT (d := 299) rfl (rfl) ?_)
        all_goals (refine AtT.kpick ?_)
        all_goals (refine AtT.kmove ?_)
        all_goals (first | refine AtT.kpass ?_ | refine AtT.kpassU ?_ | ((refine AtT.kmove ?_)))
        all_goals (first | refine AtT.kpass ?_ | refine AtT.kpassU ?_ | ((refine AtT.keqI ?_)))
        all_goals (refine AtT.setT (d := 303) rfl (rfl) ?_)
        all_goals (refine AtT.kpick ?_)
        all_goals (refine AtT.kmove ?_)
        all_goals (first | refine AtT.kpass ?_ | refine AtT.kpassU ?_ | ((first | refine AtT.kloadOA tk24 ?_ | refine AtT.kloadA tk24 ?_ | refine AtT.kloadOP tk24 ?_)))
        all_goals (first | refine AtT.kpassN ?_ | refine AtT.kpassNU ?_ | ((refine AtT.kcallP rfl rfl ok25 (panel_f 0 0 2 _) ?_) ; (rintro _ rfl)))
        all_goals (first | refine AtT.kpass ?_ | refine AtT.kpassU ?_ | ((refine AtT.keqS (eqS24 _ _ _ _ _ _) ?_)))
        all_goals (refine AtT.setT (d := 308) rfl (⟨rfl, rfl, rfl⟩) ?_)
        all_goals (refine AtT.kpick ?_)
        all_goals (refine AtT.kmove ?_)
        all_goals (first | refine AtT.kpass ?_ | refine AtT.kpassU ?_ | ((refine AtT.kmove ?_)))
        all_goals (first | refine AtT.kpass ?_ | refine AtT.kpassU ?_ | ((refine AtT.keqI ?_)))
        all_goals (refine AtT.setT (d := 312) rfl (rfl) ?_)
        all_goals (refine AtT.kpick ?_)
        all_goals (refine AtT.kassign ?_)
        all_goals refine AtT.done ?_
    rotate_right
    focus
      all_goals (first | refine AtT.kpassN ?_ | refine AtT.kpassNU ?_ | ((refine AtT.kcallP rfl rfl ok27 (of_f _ _) ?_) ; (rintro _ rfl)))
      refine AtT.two ?_ ?_
      focus
        all_goals (first | refine AtT.kpassN ?_ | refine AtT.kpassNU ?_ | ((refine AtT.kbsliceG (bs38_2_0_1 _ _) ?_) ; (intro q267 V267 hV267 hq267)))
        all_goals ((try replace hu91 := hu91.le hV267) ; (try replace hu96 := hu96.le hV267) ; (try replace hu111 := hu111.le hV267) ; (try replace s265 := s265.le hV267) ; (try replace s267 := s267.le hV267) ; (try replace s269 := s269.le hV267))
        all_goals (have s267 : SlI V267 _ [1, 12] := Sl.lit hq267 rfl (by decide))
        refine AtT.two ?_ ?_
        focus
          all_goals (first | refine AtT.kpassN ?_ | refine AtT.kpassNU ?_ | ((refine AtT.kcallP rfl rfl ok27 (of_f _ _) ?_) ; (rintro _ rfl)))
          all_goals (first | refine AtT.kpassN ?_ | refine AtT.kpassNU ?_ | ((refine AtT.kbsliceG (bs38_2_0_1 _ _) ?_) ; (intro q269 V269 hV269 hq269)))
          all_goals ((try replace hu91 := hu91.le hV269) ; (try replace hu96 := hu96.le hV269) ; (try replace hu111 := hu111.le hV269) ; (try replace s265 := s265.le hV269) ; (try replace s267 := s267.le hV269) ; (try replace s269 := s269.le hV269))
          all_goals (have s269 : SlI V269 _ [6, 12] := Sl.lit hq269 rfl (by decide))
          all_goals (first | refine AtT.kpassN ?_ | refine AtT.kpassNU ?_ | ((refine AtT.kcallP rfl rfl ok27 (of_f _ _) ?_) ; (rintro _ rfl)))
          all_goals (first | refine AtT.kpassN ?_ | refine AtT.kpassNU ?_ | ((refine AtT.kbsliceG (bs35_3_0_1_2 _ _ _ _ _ _ _ _ _) ?_) ; (intro q271 V271 hV271 hq271)))
          all_goals ((try replace hu91 := hu91.le hV271) ; (try replace hu96 := hu96.le hV271) ; (try replace hu111 := hu111.le hV271) ; (try replace s265 := s265.le hV271) ; (try replace s267 := s267.le hV271) ; (try replace s269 := s269.le hV271))
          all_goals (first | refine AtT.kpassN ?_ | refine AtT.kpassNU ?_ | ((refine AtT.kcallP rfl rfl ok35 (lists_f _ _) ?_) ; (rintro _ rfl)))
          all_goals (first | refine AtT.kpassN ?_ | refine AtT.kpassNU ?_ | ((refine AtT.kcallP rfl rfl ok34 (lists_eq_f [[1, 6], [1, 12], [6, 12]] [[1, 6], [1, 12], [6, 12]] _ _ _ hu91 (SL.lit [(some q265, 2, 2), (some q267, 2, 2), (some q269, 2, 2)] [[1, 6], [1, 12], [6, 12]] 3 hq271 rfl rfl (by simp) (fun i q l h1 h2 => by match i, h1, h2 with | 0, h1, h2 => (cases h1; cases h2; exact s265) | 1, h1, h2 => (cases h1; cases h2; exact s267) | 2, h1, h2 => (cases h1; cases h2; exact s269)))) ?_) ; (rintro _ rfl)))
          all_goals (refine AtT.setT (d := 273) rfl (rfl) ?_)
          all_goals (refine AtT.kpick ?_)
          all_goals (refine AtT.kmove ?_)
          all_goals (first | refine AtT.kpass ?_ | refine AtT.kpassU ?_ | ((refine AtT.kmove ?_)))
          all_goals (first | refine AtT.kpassN ?_ | refine AtT.kpassNU ?_ | ((refine AtT.kbsliceG (bs38_2_0_1 _ _) ?_) ; (intro q277 V277 hV277 hq277)))
          all_goals ((try replace hu96 := hu96.le hV277) ; (try replace hu111 := hu111.le hV277))
          all_goals (have s277 : SlI V277 _ [1, 6] := Sl.lit hq277 rfl (by decide))
          all_goals (first | refine AtT.kpassN ?_ | refine AtT.kpassNU ?_ | ((refine AtT.kcallP rfl rfl ok27 (of_f _ _) ?_) ; (rintro _ rfl)))
          all_goals (first | refine AtT.kpassN ?_ | refine AtT.kpassNU ?_ | ((refine AtT.kbsliceG (bs35_1_0 _ _ _) ?_) ; (intro q279 V279 hV279 hq279)))
          all_goals ((try replace hu96 := hu96.le hV279) ; (try replace hu111 := hu111.le hV279) ; (try replace s277 := s277.le hV279))
          all_goals (first | refine AtT.kpassN ?_ | refine AtT.kpassNU ?_ | ((refine AtT.kcallP rfl rfl ok35 (lists_f _ _) ?_) ; (rintro _ rfl)))
          all_goals (first | refine AtT.kpassN ?_ | refine AtT.kpassNU ?_ | ((refine AtT.kcallP rfl rfl ok34 (lists_eq_f [[1, 6]] [[1, 6]] _ _ _ hu96 (SL.lit [(some q277, 2, 2)] [[1, 6]] 1 hq279 rfl rfl (by simp) (fun i q l h1 h2 => by match i, h1, h2 with | 0, h1, h2 => (cases h1; cases h2; exact s277)))) ?_) ; (rintro _ rfl)))
          all_goals (refine AtT.setT (d := 281) rfl (rfl) ?_)
          all_goals (refine AtT.kpick ?_)
          all_goals (refine AtT.kmove ?_)
          all_goals (first | refine AtT.kpass ?_ | refine AtT.kpassU ?_ | ((refine AtT.kmove ?_)))
          all_goals (first | refine AtT.kpass ?_ | refine AtT.kpassU ?_ | ((refine AtT.keqI ?_)))
          all_goals (refine AtT.setT (d := 285) rfl (rfl) ?_)
          all_goals (refine AtT.kpick ?_)
          all_goals (refine AtT.kmove ?_)
          all_goals (first | refine AtT.kpass ?_ | refine AtT.kpassU ?_ | ((refine AtT.kmove ?_)))
          all_goals (first | refine AtT.kpassN ?_ | refine AtT.kpassNU ?_ | ((refine AtT.kbsliceG (bs38_1_0 _) ?_) ; (intro q289 V289 hV289 hq289)))
          all_goals ((try replace hu111 := hu111.le hV289))
          all_goals (have s289 : SlI V289 _ [0] := Sl.lit hq289 rfl (by decide))
          all_goals (first | refine AtT.kpassN ?_ | refine AtT.kpassNU ?_ | ((refine AtT.kcallP rfl rfl ok27 (of_f _ _) ?_) ; (rintro _ rfl)))
          all_goals (first | refine AtT.kpassN ?_ | refine AtT.kpassNU ?_ | ((refine AtT.kcallP rfl rfl ok33 (ints_f [0] [0] _ _ _ hu111 s289) ?_) ; (rintro _ rfl)))
          all_goals (refine AtT.setT (d := 291) rfl (rfl) ?_)
          all_goals (refine AtT.kpick ?_)
          all_goals (refine AtT.kmove ?_)
          all_goals (first | refine AtT.kpass ?_ | refine AtT.kpassU ?_ | ((refine AtT.kmove ?_)))
          all_goals (first | refine AtT.kpass ?_ | refine AtT.kpassU ?_ | ((refine AtT.keqI ?_)))
          all_goals (refine AtT.setT (d := 295) rfl (rfl) ?_)
          all_goals (refine AtT.kpick ?_)
          all_goals (refine AtT.kmove ?_)
          all_goals (first | refine AtT.kpass ?_ | refine AtT.kpassU ?_ | ((refine AtT.kmove ?_)))
          all_goals (first | refine AtT.kpass ?_ | refine AtT.kpassU ?_ | ((refine AtT.keqI ?_)))
          all_goals (refine AtT.setT (d := 299) rfl (rfl) ?_)
          all_goals (refine AtT.kpick ?_)
          all_goals (refine AtT.kmove ?_)
          all_goals (first | refine AtT.kpass ?_ | refine AtT.kpassU ?_ | ((refine AtT.kmove ?_)))
          all_goals (first | refine AtT.kpass ?_ | refine AtT.kpassU ?_ | ((refine AtT.keqI ?_)))
          all_goals (refine AtT.setT (d := 303) rfl (rfl) ?_)
          all_goals (refine AtT.kpick ?_)
          all_goals (refine AtT.kmove ?_)
          all_goals (first | refine AtT.kpass ?_ | refine AtT.kpassU ?_ | ((first | refine AtT.kloadOA tk24 ?_ | refine AtT.kloadA tk24 ?_ | refine AtT.kloadOP tk24 ?_)))
          all_goals (first | refine AtT.kpassN ?_ | refine AtT.kpassNU ?_ | ((refine AtT.kcallP rfl rfl ok25 (panel_f 0 0 2 _) ?_) ; (rintro _ rfl)))
          all_goals (first | refine AtT.kpass ?_ | refine AtT.kpassU ?_ | ((refine AtT.keqS (eqS24 _ _ _ _ _ _) ?_)))
          all_goals (refine AtT.setT (d := 308) rfl (⟨rfl, rfl, rfl⟩) ?_)
          all_goals (refine AtT.kpick ?_)
          all_goals (refine AtT.kmove ?_)
          all_goals (first | refine AtT.kpass ?_ | refine AtT.kpassU ?_ | ((refine AtT.kmove ?_)))
          all_goals (first | refine AtT.kpass ?_ | refine AtT.kpassU ?_ | ((refine AtT.keqI ?_)))
          all_goals (refine AtT.setT (d := 312) rfl (rfl) ?_)
          all_goals (refine AtT.kpick ?_)
          all_goals (refine AtT.kassign ?_)
          all_goals refine AtT.done ?_
        rotate_right
        focus
          all_goals (first | refine AtT.kpassN ?_ | refine AtT.kpassNU ?_ | ((refine AtT.kbsliceG (bs38_2_0_1 _ _) ?_) ; (intro q269 V269 hV269 hq269)))
          all_goals ((try replace hu91 := hu91.le hV269) ; (try replace hu96 := hu96.le hV269) ; (try replace hu111 := hu111.le hV269) ; (try replace s265 := s265.le hV269) ; (try replace s267 := s267.le hV269) ; (try replace s269 := s269.le hV269))
          all_goals (have s269 : SlI V269 _ [6, 12] := Sl.lit hq269 rfl (by decide))
          all_goals (first | refine AtT.kpassN ?_ | refine AtT.kpassNU ?_ | ((refine AtT.kcallP rfl rfl ok27 (of_f _ _) ?_) ; (rintro _ rfl)))
          all_goals (first | refine AtT.kpassN ?_ | refine AtT.kpassNU ?_ | ((refine AtT.kcallP rfl rfl ok27 (of_f _ _) ?_) ; (rintro _ rfl)))
          all_goals (first | refine AtT.kpassN ?_ | refine AtT.kpassNU ?_ | ((refine AtT.kbsliceG (bs35_3_0_1_2 _ _ _ _ _ _ _ _ _) ?_) ; (intro q271 V271 hV271 hq271)))
          all_goals ((try replace hu91 := hu91.le hV271) ; (try replace hu96 := hu96.le hV271) ; (try replace hu111 := hu111.le hV271) ; (try replace s265 := s265.le hV271) ; (try replace s267 := s267.le hV271) ; (try replace s269 := s269.le hV271))
          all_goals (first | refine AtT.kpassN ?_ | refine AtT.kpassNU ?_ | ((refine AtT.kcallP rfl rfl ok35 (lists_f _ _) ?_) ; (rintro _ rfl)))
          all_goals (first | refine AtT.kpassN ?_ | refine AtT.kpassNU ?_ | ((refine AtT.kcallP rfl rfl ok34 (lists_eq_f [[1, 6], [1, 12], [6, 12]] [[1, 6], [1, 12], [6, 12]] _ _ _ hu91 (SL.lit [(some q265, 2, 2), (some q267, 2, 2), (some q269, 2, 2)] [[1, 6], [1, 12], [6, 12]] 3 hq271 rfl rfl (by simp) (fun i q l h1 h2 => by match i, h1, h2 with | 0, h1, h2 => (cases h1; cases h2; exact s265) | 1, h1, h2 => (cases h1; cases h2; exact s267) | 2, h1, h2 => (cases h1; cases h2; exact s269)))) ?_) ; (rintro _ rfl)))
          all_goals (refine AtT.setT (d := 273) rfl (rfl) ?_)
          all_goals (refine AtT.kpick ?_)
          all_goals (refine AtT.kmove ?_)
          all_goals (first | refine AtT.kpass ?_ | refine AtT.kpassU ?_ | ((refine AtT.kmove ?_)))
          all_goals (first | refine AtT.kpassN ?_ | refine AtT.kpassNU ?_ | ((refine AtT.kbsliceG (bs38_2_0_1 _ _) ?_) ; (intro q277 V277 hV277 hq277)))
          all_goals ((try replace hu96 := hu96.le hV277) ; (try replace hu111 := hu111.le hV277))
          all_goals (have s277 : SlI V277 _ [1, 6] := Sl.lit hq277 rfl (by decide))
          all_goals (first | refine AtT.kpassN ?_ | refine AtT.kpassNU ?_ | ((refine AtT.kcallP rfl rfl ok27 (of_f _ _) ?_) ; (rintro _ rfl)))
          all_goals (first | refine AtT.kpassN ?_ | refine AtT.kpassNU ?_ | ((refine AtT.kbsliceG (bs35_1_0 _ _ _) ?_) ; (intro q279 V279 hV279 hq279)))
          all_goals ((try replace hu96 := hu96.le hV279) ; (try replace hu111 := hu111.le hV279) ; (try replace s277 := s277.le hV279))
          all_goals (first | refine AtT.kpassN ?_ | refine AtT.kpassNU ?_ | ((refine AtT.kcallP rfl rfl ok35 (lists_f _ _) ?_) ; (rintro _ rfl)))
          all_goals (first | refine AtT.kpassN ?_ | refine AtT.kpassNU ?_ | ((refine AtT.kcallP rfl rfl ok34 (lists_eq_f [[1, 6]] [[1, 6]] _ _ _ hu96 (SL.lit [(some q277, 2, 2)] [[1, 6]] 1 hq279 rfl rfl (by simp) (fun i q l h1 h2 => by match i, h1, h2 with | 0, h1, h2 => (cases h1; cases h2; exact s277)))) ?_) ; (rintro _ rfl)))
          all_goals (refine AtT.setT (d := 281) rfl (rfl) ?_)
          all_goals (refine AtT.kpick ?_)
          all_goals (refine AtT.kmove ?_)
          all_goals (first | refine AtT.kpass ?_ | refine AtT.kpassU ?_ | ((refine AtT.kmove ?_)))
          all_goals (first | refine AtT.kpass ?_ | refine AtT.kpassU ?_ | ((refine AtT.keqI ?_)))
          all_goals (refine AtT.setT (d := 285) rfl (rfl) ?_)
          all_goals (refine AtT.kpick ?_)
          all_goals (refine AtT.kmove ?_)
          all_goals (first | refine AtT.kpass ?_ | refine AtT.kpassU ?_ | ((refine AtT.kmove ?_)))
          all_goals (first | refine AtT.kpassN ?_ | refine AtT.kpassNU ?_ | ((refine AtT.kbsliceG (bs38_1_0 _) ?_) ; (intro q289 V289 hV289 hq289)))
          all_goals ((try replace hu111 := hu111.le hV289))
          all_goals (have s289 : SlI V289 _ [0] := Sl.lit hq289 rfl (by decide))
          all_goals (first | refine AtT.kpassN ?_ | refine AtT.kpassNU ?_ | ((refine AtT.kcallP rfl rfl ok27 (of_f _ _) ?_) ; (rintro _ rfl)))
          all_goals (first | refine AtT.kpassN ?_ | refine AtT.kpassNU ?_ | ((refine AtT.kcallP rfl rfl ok33 (ints_f [0] [0] _ _ _ hu111 s289) ?_) ; (rintro _ rfl)))
          all_goals (refine AtT.setT (d := 291) rfl (rfl) ?_)
          all_goals (refine AtT.kpick ?_)
          all_goals (refine AtT.kmove ?_)
          all_goals (first | refine AtT.kpass ?_ | refine AtT.kpassU ?_ | ((refine AtT.kmove ?_)))
          all_goals (first | refine AtT.kpass ?_ | refine AtT.kpassU ?_ | ((refine AtT.keqI ?_)))
          all_goals (refine AtT.setT (d := 295) rfl (rfl) ?_)
          all_goals (refine AtT.kpick ?_)
          all_goals (refine AtT.kmove ?_)
          all_goals (first | refine AtT.kpass ?_ | refine AtT.kpassU ?_ | ((refine AtT.kmove ?_)))
          all_goals (first | refine AtT.kpass ?_ | refine AtT.kpassU ?_ | ((refine AtT.keqI ?_)))
          all_goals (refine AtT.setT (d := 299) rfl (rfl) ?_)
          all_goals (refine AtT.kpick ?_)
          all_goals (refine AtT.kmove ?_)
          all_goals (first | refine AtT.kpass ?_ | refine AtT.kpassU ?_ | ((refine AtT.kmove ?_)))
          all_goals (first | refine AtT.kpass ?_ | refine AtT.kpassU ?_ | ((refine AtT.keqI ?_)))
          all_goals (refine AtT.setT (d := 303) rfl (rfl) ?_)
          all_goals (refine AtT.kpick ?_)
          all_goals (refine AtT.kmove ?_)
          all_goals (first | refine AtT.kpass ?_ | refine AtT.kpassU ?_ | ((first | refine AtT.kloadOA tk24 ?_ | refine AtT.kloadA tk24 ?_ | refine AtT.kloadOP tk24 ?_)))
          all_goals (first | refine AtT.kpassN ?_ | refine AtT.kpassNU ?_ | ((refine AtT.kcallP rfl rfl ok25 (panel_f 0 0 2 _) ?_) ; (rintro _ rfl)))
          all_goals (first | refine AtT.kpass ?_ | refine AtT.kpassU ?_ | ((refine AtT.keqS (eqS24 _ _ _ _ _ _) ?_)))
          all_goals (refine AtT.setT (d := 308) rfl (⟨rfl, rfl, rfl⟩) ?_)
          all_goals (refine AtT.kpick ?_)
          all_goals (refine AtT.kmove ?_)
          all_goals (first | refine AtT.kpass ?_ | refine AtT.kpassU ?_ | ((refine AtT.kmove ?_)))
          all_goals (first | refine AtT.kpass ?_ | refine AtT.kpassU ?_ | ((refine AtT.keqI ?_)))
          all_goals (refine AtT.setT (d := 312) rfl (rfl) ?_)
          all_goals (refine AtT.kpick ?_)
          all_goals (refine AtT.kassign ?_)
          all_goals refine AtT.done ?_
      rotate_right
      focus
        all_goals (first | refine AtT.kpassN ?_ | refine AtT.kpassNU ?_ | ((refine AtT.kbsliceG (bs38_2_0_1 _ _) ?_) ; (intro q269 V269 hV269 hq269)))
        all_goals ((try replace hu91 := hu91.le hV269) ; (try replace hu96 := hu96.le hV269) ; (try replace hu111 := hu111.le hV269) ; (try replace s265 := s265.le hV269) ; (try replace s267 := s267.le hV269) ; (try replace s269 := s269.le hV269))
        all_goals (have s269 : SlI V269 _ [6, 12] := Sl.lit hq269 rfl (by decide))
        all_goals (first | refine AtT.kpassN ?_ | refine AtT.kpassNU ?_ | ((refine AtT.kbsliceG (bs38_2_0_1 _ _) ?_) ; (intro q267 V267 hV267 hq267)))
        all_goals ((try replace hu91 := hu91.le hV267) ; (try replace hu96 := hu96.le hV267) ; (try replace hu111 := hu111.le hV267) ; (try replace s265 := s265.le hV267) ; (try replace s267 := s267.le hV267) ; (try replace s269 := s269.le hV267))
        all_goals (have s267 : SlI V267 _ [1, 12] := Sl.lit hq267 rfl (by decide))
        all_goals (first | refine AtT.kpassN ?_ | refine AtT.kpassNU ?_ | ((refine AtT.kcallP rfl rfl ok27 (of_f _ _) ?_) ; (rintro _ rfl)))
        all_goals (first | refine AtT.kpassN ?_ | refine AtT.kpassNU ?_ | ((refine AtT.kcallP rfl rfl ok27 (of_f _ _) ?_) ; (rintro _ rfl)))
        all_goals (first | refine AtT.kpassN ?_ | refine AtT.kpassNU ?_ | ((refine AtT.kbsliceG (bs35_3_0_1_2 _ _ _ _ _ _ _ _ _) ?_) ; (intro q271 V271 hV271 hq271)))
        all_goals ((try replace hu91 := hu91.le hV271) ; (try replace hu96 := hu96.le hV271) ; (try replace hu111 := hu111.le hV271) ; (try replace s265 := s265.le hV271) ; (try replace s267 := s267.le hV271) ; (try replace s269 := s269.le hV271))
        all_goals (first | refine AtT.kpassN ?_ | refine AtT.kpassNU ?_ | ((refine AtT.kcallP rfl rfl ok35 (lists_f _ _) ?_) ; (rintro _ rfl)))
        all_goals (first | refine AtT.kpassN ?_ | refine AtT.kpassNU ?_ | ((refine AtT.kcallP rfl rfl ok34 (lists_eq_f [[1, 6], [1, 12], [6, 12]] [[1, 6], [1, 12], [6, 12]] _ _ _ hu91 (SL.lit [(some q265, 2, 2), (some q267, 2, 2), (some q269, 2, 2)] [[1, 6], [1, 12], [6, 12]] 3 hq271 rfl rfl (by simp) (fun i q l h1 h2 => by match i, h1, h2 with | 0, h1, h2 => (cases h1; cases h2; exact s265) | 1, h1, h2 => (cases h1; cases h2; exact s267) | 2, h1, h2 => (cases h1; cases h2; exact s269)))) ?_) ; (rintro _ rfl)))
        all_goals (refine AtT.setT (d := 273) rfl (rfl) ?_)
        all_goals (refine AtT.kpick ?_)
        all_goals (refine AtT.kmove ?_)
        all_goals (first | refine AtT.kpass ?_ | refine AtT.kpassU ?_ | ((refine AtT.kmove ?_)))
        all_goals (first | refine AtT.kpassN ?_ | refine AtT.kpassNU ?_ | ((refine AtT.kbsliceG (bs38_2_0_1 _ _) ?_) ; (intro q277 V277 hV277 hq277)))
        all_goals ((try replace hu96 := hu96.le hV277) ; (try replace hu111 := hu111.le hV277))
        all_goals (have s277 : SlI V277 _ [1, 6] := Sl.lit hq277 rfl (by decide))
        all_goals (first | refine AtT.kpassN ?_ | refine AtT.kpassNU ?_ | ((refine AtT.kcallP rfl rfl ok27 (of_f _ _) ?_) ; (rintro _ rfl)))
        all_goals (first | refine AtT.kpassN ?_ | refine AtT.kpassNU ?_ | ((refine AtT.kbsliceG (bs35_1_0 _ _ _) ?_) ; (intro q279 V279 hV279 hq279)))
        all_goals ((try replace hu96 := hu96.le hV279) ; (try replace hu111 := hu111.le hV279) ; (try replace s277 := s277.le hV279))
        all_goals (first | refine AtT.kpassN ?_ | refine AtT.kpassNU ?_ | ((refine AtT.kcallP rfl rfl ok35 (lists_f _ _) ?_) ; (rintro _ rfl)))
        all_goals (first | refine AtT.kpassN ?_ | refine AtT.kpassNU ?_ | ((refine AtT.kcallP rfl rfl ok34 (lists_eq_f [[1, 6]] [[1, 6]] _ _ _ hu96 (SL.lit [(some q277, 2, 2)] [[1, 6]] 1 hq279 rfl rfl (by simp) (fun i q l h1 h2 => by match i, h1, h2 with | 0, h1, h2 => (cases h1; cases h2; exact s277)))) ?_) ; (rintro _ rfl)))
        all_goals (refine AtT.setT (d := 281) rfl (rfl) ?_)
        all_goals (refine AtT.kpick ?_)
        all_goals (refine AtT.kmove ?_)
        all_goals (first | refine AtT.kpass ?_ | refine AtT.kpassU ?_ | ((refine AtT.kmove ?_)))
        all_goals (first | refine AtT.kpass ?_ | refine AtT.kpassU ?_ | ((refine AtT.keqI ?_)))
        all_goals (refine AtT.setT (d := 285) rfl (rfl) ?_)
        all_goals (refine AtT.kpick ?_)
        all_goals (refine AtT.kmove ?_)
        all_goals (first | refine AtT.kpass ?_ | refine AtT.kpassU ?_ | ((refine AtT.kmove ?_)))
        all_goals (first | refine AtT.kpassN ?_ | refine AtT.kpassNU ?_ | ((refine AtT.kbsliceG (bs38_1_0 _) ?_) ; (intro q289 V289 hV289 hq289)))
        all_goals ((try replace hu111 := hu111.le hV289))
        all_goals (have s289 : SlI V289 _ [0] := Sl.lit hq289 rfl (by decide))
        all_goals (first | refine AtT.kpassN ?_ | refine AtT.kpassNU ?_ | ((refine AtT.kcallP rfl rfl ok27 (of_f _ _) ?_) ; (rintro _ rfl)))
        all_goals (first | refine AtT.kpassN ?_ | refine AtT.kpassNU ?_ | ((refine AtT.kcallP rfl rfl ok33 (ints_f [0] [0] _ _ _ hu111 s289) ?_) ; (rintro _ rfl)))
        all_goals (refine AtT.setT (d := 291) rfl (rfl) ?_)
        all_goals (refine AtT.kpick ?_)
        all_goals (refine AtT.kmove ?_)
        all_goals (first | refine AtT.kpass ?_ | refine AtT.kpassU ?_ | ((refine AtT.kmove ?_)))
        all_goals (first | refine AtT.kpass ?_ | refine AtT.kpassU ?_ | ((refine AtT.keqI ?_)))
        all_goals (refine AtT.setT (d := 295) rfl (rfl) ?_)
        all_goals (refine AtT.kpick ?_)
        all_goals (refine AtT.kmove ?_)
        all_goals (first | refine AtT.kpass ?_ | refine AtT.kpassU ?_ | ((refine AtT.kmove ?_)))
        all_goals (first | refine AtT.kpass ?_ | refine AtT.kpassU ?_ | ((refine AtT.keqI ?_)))
        all_goals (refine AtT.setT (d := 299) rfl (rfl) ?_)
        all_goals (refine AtT.kpick ?_)
        all_goals (refine AtT.kmove ?_)
        all_goals (first | refine AtT.kpass ?_ | refine AtT.kpassU ?_ | ((refine AtT.kmove ?_)))
        all_goals (first | refine AtT.kpass ?_ | refine AtT.kpassU ?_ | ((refine AtT.keqI ?_)))
        all_goals (refine AtT.setT (d := 303) rfl (rfl) ?_)
        all_goals (refine AtT.kpick ?_)
        all_goals (refine AtT.kmove ?_)
        all_goals (first | refine AtT.kpass ?_ | refine AtT.kpassU ?_ | ((first | refine AtT.kloadOA tk24 ?_ | refine AtT.kloadA tk24 ?_ | refine AtT.kloadOP tk24 ?_)))
        all_goals (first | refine AtT.kpassN ?_ | refine AtT.kpassNU ?_ | ((refine AtT.kcallP rfl rfl ok25 (panel_f 0 0 2 _) ?_) ; (rintro _ rfl)))
        all_goals (first | refine AtT.kpass ?_ | refine AtT.kpassU ?_ | ((refine AtT.keqS (eqS24 _ _ _ _ _ _) ?_)))
        all_goals (refine AtT.setT (d := 308) rfl (⟨rfl, rfl, rfl⟩) ?_)
        all_goals (refine AtT.kpick ?_)
        all_goals (refine AtT.kmove ?_)
        all_goals (first | refine AtT.kpass ?_ | refine AtT.kpassU ?_ | ((refine AtT.kmove ?_)))
        all_goals (first | refine AtT.kpass ?_ | refine AtT.kpassU ?_ | ((refine AtT.keqI ?_)))
        all_goals (refine AtT.setT (d := 312) rfl (rfl) ?_)
        all_goals (refine AtT.kpick ?_)
        all_goals (refine AtT.kassign ?_)
        all_goals refine AtT.done ?_
  all_goals (refine At.nrm ?_)
  all_goals (exact At.ret1 rfl (.tmp rfl) rfl)
end Go.Proofs.YtfcpmblmklibjaaGreat
set_option linter.unusedVariables false
namespace Go.Bl
open Go.Gl Go.Lw
theorem clN_bit {ts : List Tq} {i : Nat} : ∀ k, k ≤ ts.length → ((clN ts k).testBit i = true ↔ ∃ t ∈ ts.take k, t.f = false ∧ (cbN t.p).testBit i = true)
  | 0, _ => by simp [clN]
  | k + 1, h => by
    obtain ⟨t, ht⟩ : ∃ t, ts[k]? = some t := ⟨_, List.getElem?_eq_getElem (by omega)⟩
    have ih := clN_bit (ts := ts) (i := i) k (by omega)
    rw [clN_at ht, take_snoc' ht]
    by_cases c : t.f = false
    · rw [if_pos c, Nat.testBit_or, Bool.or_eq_true, ih]
      constructor
      · rintro (⟨u, h1, h2⟩ | h1)
        · exact ⟨u, List.mem_append_left _ h1, h2⟩
        · exact ⟨t, by simp, c, h1⟩
      · rintro ⟨u, h1, h2, h3⟩
        rcases List.mem_append.1 h1 with h1 | h1
        · exact .inl ⟨u, h1, h2, h3⟩
        · rw [List.mem_singleton] at h1; subst h1; exact .inr h3
    · rw [if_neg c, ih]
      constructor
      · rintro ⟨u, h1, h2⟩; exact ⟨u, List.mem_append_left _ h1, h2⟩
      · rintro ⟨u, h1, h2, h3⟩
        rcases List.mem_append.1 h1 with h1 | h1
        · exact ⟨u, h1, h2, h3⟩
        · rw [List.mem_singleton] at h1; subst h1; exact absurd h2 c
theorem clA_bit {ts : List Tq} {i : Nat} : (clA ts).testBit i = true ↔ ∃ t ∈ ts, t.f = false ∧ (cbN t.p).testBit i = true := by
  have := clN_bit (ts := ts) (i := i) ts.length (Nat.le_refl _)
  rw [List.take_length] at this; exact this
theorem mtB_symm (A B : Nat) : mtB A B = mtB B A := by unfold mtB; rw [Nat.and_comm]
theorem clr_bit {ts : List Tq} {t : Tq} {no i : Nat} (ht : sndB t.p = true) (hn : no < 32768) : (clrB (cbN t.p) no).testBit i = ((cbN t.p).testBit i && !no.testBit i) := by
  have := cbN_lt ht
  exact clrB_bit _ _ _ (by omega) (by omega)
/-- An explanation: it meets just the trials that failed. -/
def ExT (ts : List Tq) (x : Nat) : Prop := x < 32768 ∧ ∀ t ∈ ts, mtB x (cbN t.p) = t.f
theorem ex_ext {ts : List Tq} (ht : ∀ t ∈ ts, sndB t.p = true) {x : Nat} : Ex (clA ts) (lsL ts) x ↔ ExT ts x := by
  have hno : clA ts < 32768 := clN_lt ht _
  constructor
  · rintro ⟨h1, h2, h3⟩
    refine ⟨h1, fun t hm => ?_⟩
    cases c : t.f with
    | false =>
      refine mt_no fun i hi => ?_
      cases d : (cbN t.p).testBit i with
      | false => rfl
      | true => rw [(mtB_iff x (clA ts)).2 ⟨i, hi, clA_bit.2 ⟨t, hm, c, d⟩⟩] at h2; cases h2
    | true =>
      have hs : clrB (cbN t.p) (clA ts) ∈ lsL ts := by rw [lsL_map]; exact List.mem_map.2 ⟨t, List.mem_filter.2 ⟨hm, c⟩, rfl⟩
      obtain ⟨i, a, b⟩ := (mtB_iff _ _).1 (h3 _ hs)
      rw [clr_bit (ts := ts) (ht t hm) hno, Bool.and_eq_true] at b
      exact (mtB_iff _ _).2 ⟨i, a, b.1⟩
  · rintro ⟨h1, h2⟩
    have hz : ∀ i, x.testBit i = true → (clA ts).testBit i = false := fun i hi => by
      cases d : (clA ts).testBit i with
      | false => rfl
      | true =>
        obtain ⟨t, hm, hf, hb⟩ := clA_bit.1 d
        have := h2 t hm
        rw [hf, (mtB_iff _ _).2 ⟨i, hi, hb⟩] at this; cases this
    refine ⟨h1, mt_no hz, fun s hs => ?_⟩
    rw [lsL_map] at hs
    obtain ⟨t, hm, rfl⟩ := List.mem_map.1 hs
    obtain ⟨hm, hf⟩ := List.mem_filter.1 hm
    have := h2 t hm
    rw [show t.f = true from hf] at this
    obtain ⟨i, a, b⟩ := (mtB_iff _ _).1 this
    exact (mtB_iff _ _).2 ⟨i, a, by rw [clr_bit (ts := ts) (ht t hm) hno, b, hz i a]; rfl⟩
/-- The smallest explanations, in their order. -/
structure AlT (ts : List Tq) (L : List Nat) : Prop where
  nod : L.Nodup
  ord : L.Pairwise LexB
  mem : ∀ x, x ∈ L ↔ ExT ts x ∧ ∀ y, ExT ts y → cnt x ≤ cnt y
theorem alt_uniq {ts us : List Tq} (hc : ∀ x, ExT ts x ↔ ExT us x) {L M : List Nat} (h : AlT ts L) (k : AlT us M) : L = M := lex_ext h.ord k.ord fun x => by
  rw [h.mem, k.mem]
  constructor
  · rintro ⟨a, b⟩; exact ⟨(hc x).1 a, fun y hy => b y ((hc y).2 hy)⟩
  · rintro ⟨a, b⟩; exact ⟨(hc x).2 a, fun y hy => b y ((hc y).1 hy)⟩
theorem ext_snoc {ts : List Tq} {t : Tq} {x : Nat} : ExT (ts ++ [t]) x ↔ ExT ts x ∧ mtB x (cbN t.p) = t.f := by
  unfold ExT
  constructor
  · rintro ⟨a, b⟩; exact ⟨⟨a, fun u hu => b u (List.mem_append_left _ hu)⟩, b t (by simp)⟩
  · rintro ⟨⟨a, b⟩, c⟩
    refine ⟨a, fun u hu => ?_⟩
    rcases List.mem_append.1 hu with hu | hu
    · exact b u hu
    · rw [List.mem_singleton] at hu; subst hu; exact c
theorem ext_mem {ts us : List Tq} (h : ∀ t, t ∈ ts ↔ t ∈ us) (x : Nat) : ExT ts x ↔ ExT us x :=
  ⟨fun ⟨a, b⟩ => ⟨a, fun t ht => b t ((h t).2 ht)⟩, fun ⟨a, b⟩ => ⟨a, fun t ht => b t ((h t).1 ht)⟩⟩
theorem cl_mem {ts us : List Tq} (h : ∀ t, t ∈ ts ↔ t ∈ us) : clA ts = clA us := by
  refine Nat.eq_of_testBit_eq fun i => ?_
  rw [Bool.eq_iff_iff, clA_bit, clA_bit]
  constructor
  · rintro ⟨t, a, b⟩; exact ⟨t, (h t).1 a, b⟩
  · rintro ⟨t, a, b⟩; exact ⟨t, (h t).2 a, b⟩
/-- Of a panel that is boiled just some stay. -/
theorem alt_filter {ts : List Tq} {L : List Nat} {t : Tq} (h : AlT ts L) (hex : ∃ x ∈ L, mtB x (cbN t.p) = t.f) : AlT (ts ++ [t]) (L.filter fun x => mtB x (cbN t.p) == t.f) := by
  obtain ⟨w, hw, hwt⟩ := hex
  obtain ⟨w1, w2⟩ := (h.mem w).1 hw
  refine ⟨h.nod.filter _, h.ord.filter _, fun x => ?_⟩
  rw [List.mem_filter, beq_iff_eq, h.mem, ext_snoc]
  constructor
  · rintro ⟨⟨a, b⟩, c⟩; exact ⟨⟨a, c⟩, fun y hy => b y (ext_snoc.1 hy).1⟩
  · rintro ⟨⟨a, c⟩, b⟩
    refine ⟨⟨a, fun y hy => ?_⟩, c⟩
    have := b w (ext_snoc.2 ⟨w1, hwt⟩)
    have := w2 y hy
    omega
theorem alt_none {ts : List Tq} {L : List Nat} {t : Tq} (h : AlT ts L) (hno : ∀ x ∈ L, mtB x (cbN t.p) ≠ t.f) {x y : Nat} (hx : x ∈ L) (hy : ExT (ts ++ [t]) y) : cnt x < cnt y := by
  obtain ⟨a, b⟩ := ext_snoc.1 hy
  have h1 := ((h.mem x).1 hx).2 y a
  apply Classical.byContradiction
  intro hc
  refine hno y ((h.mem y).2 ⟨a, fun z hz => ?_⟩) b
  have := ((h.mem x).1 hx).2 z hz
  omega
theorem ext_add {ts : List Tq} {x i : Nat} (h : ExT ts x) (hi : i < 15) (hc : (clA ts).testBit i = false) : ExT ts (x ||| 2 ^ i) := by
  refine ⟨or_lt15 h.1 hi, fun t ht => ?_⟩
  have h0 := h.2 t ht
  cases c : t.f with
  | true =>
    rw [c] at h0
    obtain ⟨j, a, b⟩ := (mtB_iff _ _).1 h0
    exact (mtB_iff _ _).2 ⟨j, by rw [Nat.testBit_or, a]; rfl, b⟩
  | false =>
    rw [c] at h0
    refine mt_no fun j hj => ?_
    rw [Nat.testBit_or, Bool.or_eq_true, Nat.testBit_two_pow, decide_eq_true_eq] at hj
    rcases hj with hj | rfl
    · exact mtB_no h0 hj
    · cases d : (cbN t.p).testBit i with
      | false => rfl
      | true => rw [clA_bit.2 ⟨t, ht, c, d⟩] at hc; cases hc
theorem ext_cl {ts : List Tq} {x i : Nat} (h : ExT ts x) (hi : x.testBit i = true) : (clA ts).testBit i = false := by
  cases d : (clA ts).testBit i with
  | false => rfl
  | true =>
    obtain ⟨t, hm, hf, hb⟩ := clA_bit.1 d
    have := h.2 t hm
    rw [hf, (mtB_iff _ _).2 ⟨i, hi, hb⟩] at this; cases this
/-- One more trial that failed: if it has a cause that is not clear, one more cause is enough. -/
theorem more_ok {ts : List Tq} {t : Tq} {x : Nat} (ht : sndB t.p = true) (hno : clA ts < 32768) (hf : t.f = true) (h : ExT ts x) (hne : clrB (cbN t.p) (clA ts) ≠ 0) : ∃ y, ExT (ts ++ [t]) y ∧ cnt y ≤ cnt x + 1 := by
  obtain ⟨i, hi⟩ := Nat.exists_testBit_of_ne_zero hne
  rw [clr_bit (ts := ts) ht hno, Bool.and_eq_true, Bool.not_eq_true'] at hi
  have hi15 := lt15_bit (cbN_lt ht) hi.1
  refine ⟨x ||| 2 ^ i, ext_snoc.2 ⟨ext_add h hi15 hi.2, ?_⟩, ?_⟩
  · rw [hf]; exact (mtB_iff _ _).2 ⟨i, by rw [Nat.testBit_or, Nat.testBit_two_pow_self, Bool.or_true], hi.1⟩
  · cases c : x.testBit i with
    | false => rw [cnt_or c hi15]; omega
    | true =>
      have : x ||| 2 ^ i = x := Nat.eq_of_testBit_eq fun j => by
        rw [Nat.testBit_or, Nat.testBit_two_pow]
        by_cases e : i = j
        · subst e; rw [c]; rfl
        · simp [e]
      rw [this]; omega
theorem more_no {ts : List Tq} {t : Tq} (ht : sndB t.p = true) (hno : clA ts < 32768) (hf : t.f = true) (hz : clrB (cbN t.p) (clA ts) = 0) (x : Nat) : ¬ ExT (ts ++ [t]) x := fun h => by
  obtain ⟨a, b⟩ := ext_snoc.1 h
  rw [hf] at b
  obtain ⟨i, h1, h2⟩ := (mtB_iff _ _).1 b
  have := clr_bit (ts := ts) (i := i) ht hno
  rw [hz, h2, ext_cl a h1] at this
  simp at this
/-- Of each cause of a smallest explanation there is a trial that failed which has this cause alone. -/
theorem alone_ex {ts : List Tq} {L : List Nat} (ht : ∀ t ∈ ts, sndB t.p = true) (h : AlT ts L) {x i : Nat} (hx : x ∈ L) (hi : x.testBit i = true) : ∃ s ∈ lsL ts, s &&& x = 2 ^ i := by
  obtain ⟨a, b⟩ := (h.mem x).1 hx
  have hi15 := lt15_bit a.1 hi
  have hpw : 2 ^ i < 32768 := Nat.pow_lt_pow_right (n := 15) (by decide) hi15
  have hno : clA ts < 32768 := clN_lt ht _
  obtain ⟨y, hy⟩ : ∃ y, y = clrB x (2 ^ i) := ⟨_, rfl⟩
  have hyb : ∀ j, y.testBit j = (x.testBit j && !decide (i = j)) := fun j => by rw [hy, clrB_bit _ _ _ (by omega) (by have := a.1; omega), Nat.testBit_two_pow]
  have hyl : y < 32768 := by rw [hy]; exact Nat.lt_of_le_of_lt (clrB_le _ _) a.1
  have hxy : x = y ||| 2 ^ i := Nat.eq_of_testBit_eq fun j => by
    rw [Nat.testBit_or, hyb, Nat.testBit_two_pow]
    by_cases e : i = j
    · subst e; rw [hi]; simp
    · simp [e]
  have hyi : y.testBit i = false := by rw [hyb]; simp
  have hcy : cnt x = cnt y + 1 := by rw [hxy, cnt_or hyi hi15]
  have hey := (ex_ext ht).2 a
  apply Classical.byContradiction
  intro hc
  have : Ex (clA ts) (lsL ts) y := by
    refine ⟨hyl, mt_no fun j hj => ?_, fun s hs => ?_⟩
    · rw [hyb, Bool.and_eq_true] at hj; exact ext_cl a hj.1
    · obtain ⟨j, h1, h2⟩ := (mtB_iff _ _).1 (hey.2.2 s hs)
      by_cases e : i = j
      · subst e
        apply Classical.byContradiction
        intro hd
        refine hc ⟨s, hs, Nat.eq_of_testBit_eq fun k => ?_⟩
        rw [Nat.testBit_and, Nat.testBit_two_pow]
        by_cases e : i = k
        · subst e; rw [h2, h1]; simp
        · simp only [e, decide_false]
          cases f : s.testBit k with
          | false => rfl
          | true =>
            cases g : x.testBit k with
            | false => rfl
            | true => exact absurd ((mtB_iff _ _).2 ⟨k, by rw [hyb, g]; simp [e], f⟩) hd
      · exact (mtB_iff _ _).2 ⟨j, by rw [hyb, h1]; simp [e], h2⟩
  have := b y ((ex_ext ht).1 this)
  omega
theorem trE_mem {ts : List Tq} (h : ∀ t ∈ ts, sndB t.p = true) (hl : ts.length ≤ 16) : trE ts = 0 := by
  unfold trE
  rw [if_neg (by omega), if_neg]
  rw [List.any_eq_true]
  rintro ⟨t, ht, hb⟩
  unfold badT at hb
  rw [h t ht] at hb; cases hb
theorem trE_snoc {ts : List Tq} {p : Pq} {f : Bool} (h : ∀ t ∈ ts, sndB t.p = true) (hl : ts.length < 16) (hp : sndB p = true) : trE (ts ++ [(⟨p, f⟩ : Tq)]) = 0 :=
  trE_mem (fun t ht => by
    rcases List.mem_append.1 ht with ht | ht
    · exact h t ht
    · rw [List.mem_singleton] at ht; subst ht; exact hp) (by simp; omega)
/-- A panel, by its number. -/
theorem pnK_of {p : Pq} (h : sndB p = true) : ∃ k, k < 125 ∧ p = pnK k ∧ (k : Int) = 25 * p.m + 5 * p.o + p.h := by
  unfold sndB at h
  rw [decide_eq_true_eq] at h
  obtain ⟨m, o, hh⟩ := p
  dsimp only at h ⊢
  refine ⟨(25 * m + 5 * o + hh).toNat, by omega, ?_, by omega⟩
  unfold pnK
  congr 1 <;> omega
/-- The first one of the best. -/
theorem bst_best {α : Type} (f : α → Int) (x0 : α) (l : List α) : ∀ n, n ≤ l.length → ∃ k, k ≤ n ∧ (x0 :: l)[k]? = some (bst (fun p q => decide (f q < f p)) x0 (l.take n)) ∧
    (∀ (j : Nat) (y : α), j ≤ n → (x0 :: l)[j]? = some y → f y ≤ f (bst (fun p q => decide (f q < f p)) x0 (l.take n))) ∧ ∀ (j : Nat) (y : α), j < k → (x0 :: l)[j]? = some y → f y < f (bst (fun p q => decide (f q < f p)) x0 (l.take n))
  | 0, _ => ⟨0, Nat.le_refl _, by simp [bst], fun j y hj hy => by
      obtain rfl : j = 0 := by omega
      simp at hy; subst hy; simp [bst], fun j y hj => by omega⟩
  | n + 1, hn => by
    obtain ⟨k, h1, h2, h3, h4⟩ := bst_best f x0 l n (by omega)
    obtain ⟨x, hx⟩ : ∃ x, l[n]? = some x := ⟨_, List.getElem?_eq_getElem (by omega)⟩
    rw [bst_take _ hx]
    split
    · rename_i c
      rw [decide_eq_true_eq] at c
      refine ⟨n + 1, Nat.le_refl _, by simpa using hx, fun j y hj hy => ?_, fun j y hj hy => ?_⟩
      · by_cases e : j = n + 1
        · subst e
          rw [List.getElem?_cons_succ, hx] at hy; cases hy; exact Int.le_refl _
        · have := h3 j y (by omega) hy; omega
      · have := h3 j y (by omega) hy; omega
    · rename_i c
      rw [decide_eq_true_eq] at c
      refine ⟨k, by omega, h2, fun j y hj hy => ?_, h4⟩
      by_cases e : j = n + 1
      · subst e
        rw [List.getElem?_cons_succ, hx] at hy; cases hy; omega
      · exact h3 j y (by omega) hy
theorem most_best (L : List Nat) {p : Pq} (hp : sndB p = true) : tel L p ≤ tel L (mostP L) ∧ (tel L p = tel L (mostP L) → 25 * (mostP L).m + 5 * (mostP L).o + (mostP L).h ≤ 25 * p.m + 5 * p.o + p.h) := by
  have hl : panL.tail.length = 124 := by simp [panL_len]
  obtain ⟨k, h1, h2, h3, h4⟩ := bst_best (tel L) (pnK 0) panL.tail panL.tail.length (Nat.le_refl _)
  rw [List.take_length, ← panL_cons] at h2 h3 h4
  obtain ⟨j, hj, rfl, hj2⟩ := pnK_of hp
  have hm : mostP L = pnK k := by
    have := panL_at (k := k) (by omega)
    rw [h2] at this; simpa [mostP] using this
  have hsm := pnK_snd (k := k) (by omega)
  refine ⟨h3 j _ (by omega) (panL_at hj), fun he => ?_⟩
  have hk : k ≤ j := by
    apply Classical.byContradiction
    intro hc
    have h5 : tel L (pnK j) < tel L (mostP L) := h4 j _ (by omega) (panL_at hj)
    omega
  rw [hm, ← hj2]
  unfold pnK
  dsimp only
  omega
end Go.Bl
