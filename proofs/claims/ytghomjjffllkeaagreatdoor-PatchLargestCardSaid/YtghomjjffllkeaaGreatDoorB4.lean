/- Texts that the last one of this claim imports. -/
import Derived.Test.YtghomjjffllkeaaGreatDoorB3
set_option linter.unusedVariables false
set_option linter.unusedSimpArgs false
set_option linter.unusedSectionVars false
set_option linter.unusedVariables false
namespace Go.Pm
open Go.Gl Go.Lw
def arK (K : List Cl) (x : Int) : Int := arP (bbx (sel K x.toNat))
abbrev ksL (n : Nat) : List Int := (List.range (2 ^ n - 1)).map fun (k : Nat) => ((k + 1 : Nat) : Int)
theorem ksL_len (n : Nat) : (ksL n).length = 2 ^ n - 1 := by simp [ksL]
theorem ksL_nodup (n : Nat) : (ksL n).Nodup := by
 unfold ksL
 exact (List.pairwise_map.2 ((List.nodup_range (n := 2 ^ n - 1)).imp fun {a b} h e => h (by have := Int.ofNat.inj e; omega)))
theorem ksL_at {n k : Nat} (h : k < 2 ^ n - 1) : (ksL n)[k]? = some ((k + 1 : Nat) : Int) := by simp only [ksL, List.getElem?_map, List.getElem?_range h]; rfl
theorem ksL_mem {n : Nat} {x : Int} (h : x ∈ ksL n) : 1 ≤ x ∧ x < (2 ^ n : Nat) := by
 obtain ⟨k, hk, rfl⟩ := List.mem_map.1 h
 have := List.mem_range.1 hk
 omega
theorem bbx_bd {K : List Cl} (hK : ∀ k ∈ K, 0 ≤ k.r ∧ k.r ≤ 99 ∧ 0 ≤ k.c ∧ k.c ≤ 99) (hne : K ≠ []) : 1 ≤ (bbx K).h ∧ (bbx K).h ≤ 100 ∧ 1 ≤ (bbx K).w ∧ (bbx K).w ≤ 100 ∧ 1 ≤ arP (bbx K) ∧ arP (bbx K) ≤ 10000 := by
 have b1 := mnL_bd (f := (·.r)) (l := K) fun k hk => (hK k hk).1
 have b2 := mnL_bd (f := (·.c)) (l := K) fun k hk => (hK k hk).2.2.1
 have b3 := mxL_bd (f := (·.r)) (l := K) fun k hk => (hK k hk).2.1
 have b4 := mxL_bd (f := (·.c)) (l := K) fun k hk => (hK k hk).2.2.2
 have hp := bbx_pos hne
 have hh : (bbx K).h = mxL (·.r) K - mnL (·.r) K + 1 := rfl
 have hw : (bbx K).w = mxL (·.c) K - mnL (·.c) K + 1 := rfl
 have h1 : (bbx K).h * (bbx K).w ≤ 100 * 100 := Int.mul_le_mul (by omega) (by omega) (by omega) (by omega)
 have h2 : (1 : Int) * 1 ≤ (bbx K).h * (bbx K).w := Int.mul_le_mul (by omega) (by omega) (by omega) (by omega)
 unfold arP
 omega
end Go.Pm
namespace Go.Proofs.YtghomjjffllkeaaGreatDoor
open Go.Lw Go.Gl Go.Pm Go.RowKit
abbrev ekS (x : Int) : Value := .agg #[iv x]
theorem key129 : KeyL Tryz.prog 129 ekS where
 eq a b w := (eqS129 a b).2 w
 ck e a w := by
  have u3 := Tryz.underlying3
  have a3 := Tryz.isAgg3
  have z3 := Tryz.sizeOf3
  have ci : ∀ (x : Int) (w : World), (Instr.checkKey e 9999 3 (.int .i64 x)).run Tryz.prog w = .ok () w := fun x w => by
   rw [show (9999 : Nat) = 9998 + 1 from rfl, Instr.checkKey]
   simp [run_underlying u3, Sem.run_bind, Result.andThen_ok, Sem.run_pure]
  rw [show (10000 : Nat) = 9999 + 1 from rfl, Instr.checkKey]
  simp only [Sem.run_bind, run_underlying Tryz.underlying129, Result.andThen_ok]
  rw [← Array.forIn_toList]
  simp only [List.forIn_cons, List.forIn_nil, Sem.run_bind, Sem.run_pure, Result.andThen_ok]
  generalize (9999 : Nat) = q at ci ⊢
  go_simp
 sb a := by simp [Instr.sameBits]
 now := ⟨_, Tryz.underlying129, .inl fun a b => rfl⟩
structure UnV (s : Sh) (V : View) (b : Nat) : Prop where
 ex : ∃ (M : MM Int Int) (c : Nat), V b = some (mobj ekS iv M c) ∧ (∀ e ∈ M, e.2.1 = arK (knL s) e.1) ∧ ∀ k : Nat, 1 ≤ k → k < 2 ^ (knL s).length → mhas (k : Int) M = decide (peE (gdS s) (bbx (sel (knL s) k)) = 0)
theorem UnV.le {s : Sh} {V V' : View} {b : Nat} (h : UnV s V b) (hl : Le V V') : UnV s V' b := by
 obtain ⟨M, c, h1, h2, h3⟩ := h.ex
 exact ⟨M, c, hl _ _ h1, h2, h3⟩
theorem under_f (s : Sh) (hok : ShOk s) (V : View) (b : Nat) (hb : BnV V b s) : Fnc Tryz.prog 90 [.pointer (some ⟨b, 0, none⟩)] V fun r V' => ∃ mb, r = .map (some mb) ∧ UnV s V' mb := by
 obtain ⟨a, c, ak, ck, hc0, hc1, hc2, hc3, hs, hsk⟩ := bn_get hb
 have hkn := hok.kn
 have hp0 : 0 < 2 ^ (knL s).length := Nat.two_pow_pos _
 have hp10 : 2 ^ (knL s).length ≤ 1024 := Nat.pow_le_pow_right (n := 2) (by decide) hkn
 have hkl := ksL_len (knL s).length
 have hnd := ksL_nodup (knL s).length
 have hsn : ∀ k : Nat, 1 ≤ k → k < 2 ^ (knL s).length → sel (knL s) k ≠ [] := fun k h1 h2 => sel_ne (by omega) h2
 have hsb : ∀ k : Nat, ∀ x ∈ sel (knL s) k, 0 ≤ x.r ∧ x.r ≤ 99 ∧ 0 ≤ x.c ∧ x.c ≤ 99 := fun k x hx => kn_bd hok x (sel_in hx)
 refine qf Tryz.func90 rfl Tryz.ntmps90 (Nat.le_of_ble_eq_true rfl) ?_
 intro w0 hw0
 refine At.nrm ?_
 refine At.zl (.q 0 .done) ?_
 refine AtT.zf ?_
 refine AtT.done ?_
 refine At.nrm ?_
 refine At.zl (.n false 0 (.q 1 .done)) ?_
 refine AtT.makeMap rfl trivial ekS iv (by decide) ?_
 intro b7
 refine AtT.zf ?_
 refine AtT.done ?_
 refine At.nrm ?_
 refine At.zl (.q 0 .done) ?_
 refine AtT.zf ?_
 refine AtT.done ?_
 refine At.nrm ?_
 refine At.lp (ι := Nat) (KS := fun k => [(0, .pointer (some ⟨b, 0, none⟩)), (3, .map (some b7)), (4, iv (k + 1))]) (OS := fun k => [.blk b7 (mobj ekS iv (mOf (arK (knL s)) ((ksL (knL s).length).take k) 0) k)])
  (VS := fun k V' => V = V' ∧ k + 1 ≤ 2 ^ (knL s).length) (μ := fun k => 2 ^ (knL s).length - k) 0 ?_ ?_ ?_ ?_
 ·exact ⟨rfl, rfl, rfl, trivial⟩
 ·exact Pt.zO
 ·exact ⟨rfl, hp0⟩
 rintro k _ ks' O' ⟨rfl, hkl2⟩ hk hO hl2
 subst hk hO
 refine At.nrm ?_
 refine At.zl (.q 0 (.q 1 (.q 2 (.q 3 (.q 4 (.q 5 (.q 6 (.q 7 .done)))))))) ?_
 refine AtT.zh ?_
 refine AtT.zh ?_
 refine AtT.knil ?_
 first | refine AtT.zi qy ?_ | with_reducible refine AtT.zk qy ?_ | refine AtT.zn qy ?_
 first | refine AtT.zm tk84 ?_ | refine AtT.zo tk84 ?_
 first | refine AtT.zY Tryz.underlying84 ?_ | refine AtT.zZ Tryz.underlying84 ?_
 refine AtT.shlN rfl trivial rfl rfl rfl (by omega) (by decide) (N := (knL s).length) ?_
 refine AtT.qa ?_
 refine AtT.done ?_
 refine At.nrm ?_
 refine At.qc rfl (fun hp => ?_) (fun hp => ?_)
 ·have hk : k < 2 ^ (knL s).length - 1 := by omega
  have htk := take_snoc' (ksL_at hk)
  have htl : ((ksL (knL s).length).take k).length = k := by rw [List.length_take]; omega
  have hpn : ∀ e ∈ mOf (arK (knL s)) ((ksL (knL s).length).take k) 0, e.1 ≠ ((k + 1 : Nat) : Int) := fun e he h => by
   have h1 := (mOf_mem _ he).1
   rw [h] at h1
   obtain ⟨j, hj, hje⟩ := List.mem_take_iff_getElem.1 h1
   simp only [ksL, List.getElem_map, List.getElem_range] at hje
   omega
  have eM : mOf (arK (knL s)) ((ksL (knL s).length).take (k + 1)) 0 = mOf (arK (knL s)) ((ksL (knL s).length).take k) 0 ++ [(((k + 1 : Nat) : Int), arK (knL s) ((k + 1 : Nat) : Int), k)] := by
   rw [htk, mOf_snoc, htl, Nat.zero_add]
  have hak : arK (knL s) ((k + 1 : Nat) : Int) = (bbx (sel (knL s) (k + 1))).h * (bbx (sel (knL s) (k + 1))).w := by unfold arK; rw [Int.toNat_natCast]; rfl
  have hbb := bbx_bd (hsb (k + 1)) (hsn (k + 1) (by omega) (by omega))
  have hap : arP (bbx (sel (knL s) (k + 1))) = (bbx (sel (knL s) (k + 1))).h * (bbx (sel (knL s) (k + 1))).w := rfl
  have hfit : Fit ((bbx (sel (knL s) (k + 1))).h * (bbx (sel (knL s) (k + 1))).w) := Fit.of (by omega) (by omega)
  have hkk : ((k : Int) + 1) = ((k + 1 : Nat) : Int) := by omega
  rw [hkk]
  refine At.nrm ?_
  refine At.zl (.q 0 (.q 1 (.q 2 (.n false 3 (.n false 4 (.n true 5 .done)))))) ?_
  refine AtT.zh ?_
  refine AtT.zh ?_
  refine AtT.jc (bd129_0 _) ?_
  refine AtT.zq rfl rfl ok93 (least_f s hok hkn (k + 1) (by omega) (hsn (k + 1) (by omega) (by omega)) _ b hb) ?_
  rintro _ rfl
  refine AtT.qx z26 ?_
  intro b5
  refine AtT.zW zS ?_
  refine AtT.done ?_
  refine At.nrm ?_
  refine At.nrm ?_
  refine At.zl (.q 0 (.q 1 (.q 2 (.q 3 (.q 4 (.q 5 (.q 6 (.q 7 (.n true 8 .done))))))))) ?_
  refine AtT.zh ?_
  refine AtT.zh ?_
  refine AtT.jc (bd129_0 _) ?_
  first | refine AtT.zi zy ?_ | with_reducible refine AtT.zk zy ?_ | refine AtT.zn zy ?_
  first | refine AtT.zm tk3 ?_ | refine AtT.zo tk3 ?_
  first | refine AtT.zi zx ?_ | with_reducible refine AtT.zk zx ?_ | refine AtT.zn zx ?_
  first | refine AtT.zm tk3 ?_ | refine AtT.zo tk3 ?_
  first | refine AtT.kmul ?_ | refine AtT.kmulW ?_
  rw [← hak]
  refine AtT.mapNew rfl trivial key129 ((k + 1 : Nat) : Int) (arK (knL s) ((k + 1 : Nat) : Int))  Tryz.underlying125 rfl rfl rfl (fk_new hpn) (by repeat first|exact Upd.here|apply Upd.there) ?_
  refine AtT.done ?_
  refine At.nrm ?_
  refine At.nrm ?_
  refine At.zl (.q 0 (.q 1 (.q 2 .done))) ?_
  refine AtT.zh ?_
  first | refine AtT.qi ?_ | refine AtT.zT ?_
  refine AtT.zf ?_
  refine AtT.done ?_
  refine At.nrm ?_
  refine At.round (k + 1) ?_ ?_ ?_ ?_
  ·show 2 ^ (knL s).length - (k + 1) < 2 ^ (knL s).length - k; omega
  ·exact ⟨rfl, by omega⟩
  ·exact ⟨rfl, rfl, by congr 2, trivial⟩
  rw [eM]
  ·exact Pt.zO
 obtain rfl : k = 2 ^ (knL s).length - 1 := by omega
 rw [List.take_of_length_le (by omega)]
 obtain ⟨M, hM⟩ : ∃ M, M = mOf (arK (knL s)) (ksL (knL s).length) 0 := ⟨_, rfl⟩
 rw [← hM]
 have hborn : (M.map (·.2.2)).Nodup := by rw [hM]; exact mOf_born _ _ _
 have hkeys : (M.map (·.1)).Nodup := by rw [hM, mOf_keys]; exact hnd
 have hlt : ∀ e ∈ M, e.2.2 < 2 ^ (knL s).length - 1 := fun e he => by rw [hM] at he; have := (mOf_mem _ he).2.2; omega
 have hval : ∀ e ∈ M, e.1 ∈ ksL (knL s).length ∧ e.2.1 = arK (knL s) e.1 := fun e he => by rw [hM] at he; exact ⟨(mOf_mem _ he).1, (mOf_mem _ he).2.1⟩
 refine At.nrm ?_
 refine At.zl (.q 0 (.n false 1 .done)) ?_
 refine AtT.zh ?_
 refine AtT.range rfl trivial Tryz.underlying125 rfl zX.zO (by decide) ?_
 intro b31
 refine AtT.done ?_
 refine At.nrm ?_
 refine At.lp (ι := Array Nat) (KS := fun _ => [(0, .pointer (some ⟨b, 0, none⟩)), (3, .map (some b7)), (31, .pointer (some ⟨b31, 0, none⟩))])
  (OS := fun seen => [.blk b31 (.mapIter (some b7) (2 ^ (knL s).length - 1) seen (2 ^ (knL s).length - 1)), .blk b7 (mobj ekS iv (left (fun e => decide (peE (gdS s) (bbx (sel (knL s) e.1.toNat)) = 0)) M seen) (2 ^ (knL s).length - 1))])
  (VS := fun _ V' => V = V') (μ := fun seen => (M.filter fun e => !seen.contains e.2.2).length) #[] ?_ ?_ ?_ ?_
 ·exact ⟨rfl, rfl, rfl, trivial⟩
 ·rw [left_nil]
  ·exact Pt.zO
 ·rfl
 rintro seen _ ks' O' rfl hk hO hl3
 subst hk hO
 have hsub : ∀ e ∈ left (fun e => decide (peE (gdS s) (bbx (sel (knL s) e.1.toNat)) = 0)) M seen, e ∈ M := fun e he => (List.mem_filter.1 he).1
 refine At.nrm ?_
 refine At.zl (.n true 0 (.q 1 .done)) ?_
 all_goals (refine AtT.next rfl trivial rfl zX.zO zX.zO (fun e he => hlt e (hsub e he)) (Nat.le_refl _) (by decide) (fun hall => ?_) (fun e he hns => ?_))
 all_goals (refine AtT.zL ?_)
 all_goals refine AtT.done ?_
 all_goals (refine At.nrm ?_)
 ·refine At.qW rfl rfl ?_
  rw [left_end hall]
  refine At.nrm ?_
  refine At.zl (.q 0 (.q 1 .done)) ?_
  refine AtT.zh ?_
  refine AtT.zf ?_
  refine AtT.done ?_
  refine At.nrm ?_
  refine At.giveB (b := b7) zX.zO (fun V5 hV5 hb8 => ?_)
  refine At.qb rfl (.tmp rfl) ⟨b7, rfl, ⟨_, _, hb8, fun e he => (hval e (List.mem_filter.1 he).1).2, fun k hk1 hk => ?_⟩⟩
  rw [Bool.eq_iff_iff, mhas_iff, decide_eq_true_eq]
  constructor
  ·rintro ⟨e, he, hek⟩
   obtain ⟨h1, h2⟩ := List.mem_filter.1 he
   rw [decide_eq_true_eq, hek, Int.toNat_natCast] at h2
   exact h2
  ·intro hf
   have hm : (k : Int) ∈ ksL (knL s).length := by
    have := List.mem_of_getElem? (ksL_at (n := (knL s).length) (k := k - 1) (by omega))
    rwa [show k - 1 + 1 = k by omega] at this
   obtain ⟨j, hj⟩ := mOf_has (arK (knL s)) (i := 0) hm
   rw [← hM] at hj
   exact ⟨_, List.mem_filter.2 ⟨hj, by simpa using hf⟩, rfl⟩
 ·refine At.qB rfl rfl ?_
  have heM := hsub e he
  have hun := unseen_lt heM hns
  have hnd2 : ((left (fun e => decide (peE (gdS s) (bbx (sel (knL s) e.1.toNat)) = 0)) M seen).map (·.2.2)).Nodup := hborn.sublist (List.filter_sublist.map _)
  have hek := ksL_mem (hval e heM).1
  obtain ⟨k, hke⟩ : ∃ k : Nat, e.1 = (k : Int) := ⟨e.1.toNat, by omega⟩
  have hkt : e.1.toNat = k := by omega
  refine At.nrm ?_
  refine At.zl (.n false 0 (.q 1 (.n false 2 (.n true 3 .done)))) ?_
  refine AtT.entry rfl trivial rfl zX.zO zX.zO he hnd2 (by decide) ?_
  refine AtT.zL ?_
  refine AtT.qx z129 ?_
  intro b6
  refine AtT.zW tk129 ?_
  refine AtT.done ?_
  refine At.nrm ?_
  refine At.nrm ?_
  refine At.zl (.q 0 (.q 1 (.q 2 (.n false 3 (.n false 4 (.q 5 .done)))))) ?_
  refine AtT.zh ?_
  refine AtT.zh ?_
  first | refine AtT.zD tk129 ?_ | refine AtT.zJ tk129 ?_ | refine AtT.zC tk129 ?_
  refine AtT.zq rfl rfl ok93 ((by rw [hke]; exact least_f s hok hkn k (by omega) (hsn k (by omega) (by omega)) _ b hb)) ?_
  rintro _ rfl
  refine AtT.zq rfl rfl ok58 (lies_f s hok _ _ b hb) ?_
  rintro _ rfl
  refine AtT.qH ?_
  refine AtT.done ?_
  refine At.nrm ?_
  refine At.qc rfl (fun hm => ?_) (fun hm => ?_)
  ·have hg : decide (peE (gdS s) (bbx (sel (knL s) e.1.toNat)) = 0) = false := by rw [hkt]; exact decide_eq_false hm
   have hdel := left_del (g := fun e : Int × Int × Nat => decide (peE (gdS s) (bbx (sel (knL s) e.1.toNat)) = 0)) (seen := seen) hborn hkeys heM hg
   refine At.nrm ?_
   refine At.zl (.q 0 (.q 1 (.n true 2 .done))) ?_
   refine AtT.zh ?_
   first | refine AtT.zD tk129 ?_ | refine AtT.zJ tk129 ?_ | refine AtT.zC tk129 ?_
   refine AtT.mapDel rfl trivial key129 e.1 iv rfl Tryz.underlying125 rfl rfl (by repeat first|exact Upd.here|apply Upd.there) ?_
   refine AtT.done ?_
   refine At.nrm ?_
   refine At.round (seen.push e.2.2) hun rfl ⟨rfl, rfl, rfl, trivial⟩ ?_
   rw [hdel]
   ·exact Pt.zO
  ·have hg : decide (peE (gdS s) (bbx (sel (knL s) e.1.toNat)) = 0) = true := by rw [hkt]; exact decide_eq_true (Decidable.not_not.1 hm)
   have hkeep := left_keep (g := fun e : Int × Int × Nat => decide (peE (gdS s) (bbx (sel (knL s) e.1.toNat)) = 0)) (seen := seen) hborn heM hg
   refine At.nrm ?_
   refine At.round (seen.push e.2.2) hun rfl ⟨rfl, rfl, rfl, trivial⟩ ?_
   rw [hkeep]
   ·exact Pt.zO
end Go.Proofs.YtghomjjffllkeaaGreatDoor
set_option linter.unusedVariables false
namespace Go.Pm
open Go.Gl Go.Lw
structure Wy where
 m : Int
 c : Int
 q : Nat
 deriving DecidableEq
abbrev wye (w : Wy) : List Value := [iv w.m, iv w.c, iv w.q]
abbrev wyv (w : Wy) : Value := .agg #[iv w.m, iv w.c, iv w.q]
theorem wye_len (w : Wy) : (wye w).length = 3 := rfl
def fwB (a b : Wy) : Bool := decide (a.m < b.m ∨ a.m = b.m ∧ a.c < b.c)
variable {g : Gd} {K : List Cl} {b i : Nat}
structure DpW (g : Gd) (K : List Cl) (L : List Wy) (b : Nat) : Prop where
 len : L.length = 2 ^ K.length
 ok : ∀ r, r < b → r < 2 ^ K.length → ∃ (n : Nat) (c : Int) (q : Nat), L[r]? = some ⟨n, c, q⟩ ∧ jy g (sel K r) n c ∧ (r ≠ 0 → ∃ i m d q', Cand g K r i q ∧ L[qN r q]? = some ⟨(m : Nat), d, q'⟩ ∧ n = m + 1 ∧ c = d + arP (bbx (sel K q)))
 rest : ∀ r, b ≤ r → r < 2 ^ K.length → L[r]? = some ⟨0, 0, 0⟩
def wW (L : List Wy) (r : Nat) : Nat × Int := ((L.getD r ⟨0, 0, 0⟩).m.toNat, (L.getD r ⟨0, 0, 0⟩).c)
theorem dw_w {L : List Wy} (h : DpW g K L b) {r : Nat} (hr : r < b) (hl : r < 2 ^ K.length) : (∃ q, L[r]? = some ⟨((wW L r).1 : Int), (wW L r).2, q⟩) ∧ jy g (sel K r) (wW L r).1 (wW L r).2 := by
 obtain ⟨n, c, q, h1, h2, _⟩ := h.ok r hr hl
 have e1 : (wW L r).1 = n := by unfold wW; simp [List.getD, h1]
 have e2 : (wW L r).2 = c := by unfold wW; simp [List.getD, h1]
 rw [e1, e2]
 exact ⟨⟨q, h1⟩, h2⟩
theorem dw_start : DpW g K (List.replicate (2 ^ K.length) ⟨0, 0, 0⟩) 1 := by
 have hp : 0 < 2 ^ K.length := Nat.two_pow_pos _
 refine ⟨List.length_replicate, fun r hr hl => ?_, fun r _ hl => by rw [List.getElem?_replicate, if_pos hl]⟩
 obtain rfl : r = 0 := by omega
 refine ⟨0, 0, 0, by rw [List.getElem?_replicate, if_pos hp]; rfl, ?_, fun h => absurd rfl h⟩
 rw [sel_zero]
 exact best_nil
theorem dw_step {L : List Wy} (h : DpW g K L b) (hb : b < 2 ^ K.length) (hb1 : b < 1024) {n : Nat} {c : Int} {q : Nat} (hB : jy g (sel K b) n c) (hC : Cand g K b i q) (hn : n = (wW L (qN b q)).1 + 1) (hc : c = (wW L (qN b q)).2 + arP (bbx (sel K q))) : DpW g K (L.set b ⟨(n : Int), c, q⟩) (b + 1) := by
 have hsub := hC.sub
 have hq0 := big_bit hC.low
 have hql := sub_le hsub
 have hlt : ∀ r q', r < 1024 → SubB q' r → q' ≠ 0 → qN r q' < r := fun r q' h1 h2 h3 => rest_lt h1 (by have := sub_le h2; omega) h2 h3
 refine ⟨by rw [List.length_set]; exact h.len, fun r hr hl => ?_, fun r hr hl => ?_⟩
 ·by_cases e : b = r
  ·subst e
   have h1 := hlt b q hb1 hsub hq0
   obtain ⟨⟨q', hq'⟩, _⟩ := dw_w h h1 (by omega)
   exact ⟨n, c, q, by rw [List.getElem?_set, if_pos rfl, if_pos (by rw [h.len]; exact hl)], hB, fun _ => ⟨i, _, _, q', hC, by rw [List.getElem?_set, if_neg (by omega)]; exact hq', hn, hc⟩⟩
  ·obtain ⟨m, d, q1, h1, h2, h3⟩ := h.ok r (by omega) hl
   refine ⟨m, d, q1, by rw [List.getElem?_set, if_neg e]; exact h1, h2, fun h0 => ?_⟩
   obtain ⟨i', m', d', q', x1, x2, x3⟩ := h3 h0
   have := hlt r q1 (by omega) x1.sub (big_bit x1.low)
   exact ⟨i', m', d', q', x1, by rw [List.getElem?_set, if_neg (by omega)]; exact x2, x3⟩
 ·rw [List.getElem?_set, if_neg (by omega)]
  exact h.rest r (by omega) hl
structure TrW (g : Gd) (K : List Cl) (L : List Wy) (n : Nat) (c : Int) (b : Nat) (ps : List Pc) : Prop where
 at_ : ∃ (m : Nat) (d : Int) (q : Nat), L[b]? = some ⟨m, d, q⟩ ∧ n = ps.length + m ∧ c = arL ps + d
 pcs : ∀ p ∈ ps, Lies g p ∧ ∃ q, q ≠ 0 ∧ q < 2 ^ K.length ∧ p = bbx (sel K q)
 has : ∀ k ∈ K, k ∈ sel K b ∨ ∃ p ∈ ps, inP p k
theorem tr_start {L : List Wy} (hK : K.length ≤ 10) (h : DpW g K L (2 ^ K.length)) : ∃ n c, jy g K n c ∧ TrW g K L n c (2 ^ K.length - 1) [] := by
 have hp : 0 < 2 ^ K.length := Nat.two_pow_pos _
 obtain ⟨n, c, q, h1, h2, _⟩ := h.ok (2 ^ K.length - 1) (by omega) (by omega)
 have hm : ∀ k, k ∈ sel K (2 ^ K.length - 1) ↔ k ∈ K := fun k => by
  rw [ja]
  constructor
  ·rintro ⟨i, h, _⟩; exact List.mem_of_getElem? h
  ·intro h
   obtain ⟨i, hi⟩ := List.getElem?_of_mem h
   exact ⟨i, hi, by rw [Nat.testBit_two_pow_sub_one, decide_eq_true_eq]; exact (List.getElem?_eq_some_iff.1 hi).1⟩
 exact ⟨n, c, best_mem h2 hm, ⟨n, c, q, h1, by simp, by simp [arL]⟩, fun p hp => (by cases hp), fun k hk => .inl ((hm k).2 hk)⟩
theorem tr_step {L : List Wy} (hK : K.length ≤ 10) (h : DpW g K L (2 ^ K.length)) {n : Nat} {c : Int} {ps : List Pc} (ht : TrW g K L n c b ps) (hb : b ≠ 0) (hlt : b < 2 ^ K.length) :
  ∃ w : Wy, L[b]? = some w ∧ w.q ≠ 0 ∧ w.q < 2 ^ K.length ∧ qN b w.q < b ∧ TrW g K L n c (qN b w.q) (ps ++ [bbx (sel K w.q)]) := by
 have h10 : 2 ^ K.length ≤ 1024 := Nat.pow_le_pow_right (n := 2) (by decide) hK
 obtain ⟨n1, c1, q, e1, _, e3⟩ := h.ok b hlt hlt
 obtain ⟨i, m', d', q', x1, x2, x3, x4⟩ := e3 hb
 obtain ⟨m, d, q2, y1, y2, y3⟩ := ht.at_
 rw [e1] at y1
 have y1 := Option.some.inj y1
 have z1 : (n1 : Int) = (m : Int) := congrArg Wy.m y1
 have z2 : c1 = d := congrArg Wy.c y1
 have hq0 := big_bit x1.low
 have hql := sub_le x1.sub
 have hcl := rest_lt (b := b) (p := q) (by omega) (by omega) x1.sub hq0
 have hq2 : q < 2 ^ K.length := by omega
 refine ⟨⟨(n1 : Int), c1, q⟩, e1, hq0, hq2, hcl, ⟨m', d', q', x2, by rw [List.length_append, List.length_singleton]; omega, by rw [arL_snoc]; show c = arL ps + arP (bbx (sel K q)) + d'; omega⟩, fun p hp => ?_, fun k hk => ?_⟩
 ·rcases List.mem_append.1 hp with hp | hp
  ·exact ht.pcs p hp
  ·rw [List.mem_singleton] at hp
   subst hp
   exact ⟨x1.lies, q, hq0, by omega, rfl⟩
 ·rcases ht.has k hk with h1 | ⟨p, hp, hi⟩
  ·obtain ⟨j, j1, j2⟩ := ja.1 h1
   cases hj : q.testBit j with
   | true => exact .inr ⟨_, List.mem_append_right _ (List.mem_singleton.2 rfl), bbx_in (ja.2 ⟨j, j1, hj⟩)⟩
   | false => exact .inl (ja.2 ⟨j, j1, by rw [rest_bit (by omega) (show q < 1024 by omega), j2, hj]; rfl⟩)
  ·exact .inr ⟨p, List.mem_append_left _ hp, hi⟩
theorem tr_end {L : List Wy} (h : DpW g K L (2 ^ K.length)) {n : Nat} {c : Int} {ps : List Pc} (ht : TrW g K L n c 0 ps) : Mends g K ps ∧ ps.length = n ∧ arL ps = c := by
 have hp : 0 < 2 ^ K.length := Nat.two_pow_pos _
 obtain ⟨m, d, q, y1, y2, y3⟩ := ht.at_
 obtain ⟨n1, c1, q1, e1, e2, _⟩ := h.ok 0 hp hp
 rw [sel_zero] at e2
 obtain ⟨u1, u2⟩ := best_uniq e2 best_nil
 rw [e1] at y1
 have y1 := Option.some.inj y1
 have z1 : (n1 : Int) = (m : Int) := congrArg Wy.m y1
 have z2 : c1 = d := congrArg Wy.c y1
 refine ⟨⟨fun p hp => (ht.pcs p hp).1, fun k hk => ?_⟩, by omega, by omega⟩
 rcases ht.has k hk with h1 | h1
 ·rw [sel_zero] at h1; cases h1
 ·exact h1
structure MnR (g : Gd) (K : List Cl) (ps : List Pc) : Prop where
 best : jy g K ps.length (arL ps)
 mends : Mends g K ps
 least : ∀ p ∈ ps, ∃ q, q ≠ 0 ∧ q < 2 ^ K.length ∧ p = bbx (sel K q)
theorem tr_done {L : List Wy} (h : DpW g K L (2 ^ K.length)) {n : Nat} {c : Int} {ps : List Pc} (hB : jy g K n c) (ht : TrW g K L n c 0 ps) : MnR g K ps := by
 obtain ⟨h1, h2, h3⟩ := tr_end h ht
 subst h2 h3
 exact ⟨hB, h1, fun p hp => (ht.pcs p hp).2⟩
end Go.Pm
set_option linter.unusedVariables false
namespace Go.Pm
open Go.Gl Go.Lw
theorem bestOf_take {α : Type} (lt : α → α → Bool) {out : α} {l : List α} {k : Nat} {x : α} (h : l[k]? = some x) : qQ lt out (l.take (k + 1)) = if lt x (qQ lt out (l.take k)) = true then x else qQ lt out (l.take k) := by
 have hl := (List.getElem?_eq_some_iff.1 h).1
 rw [List.take_succ_eq_append_getElem hl, bestOf_snoc]
 rw [List.getElem?_eq_getElem hl] at h
 cases h; rfl
end Go.Pm
namespace Go.Proofs.YtghomjjffllkeaaGreatDoor
open Go.Lw Go.Gl Go.Pm Go.RowKit
theorem best_w (g : FuncId) (cap : List Value) (lt : Wy → Wy → Bool) (V : View) (vl : Value) (x0 : Wy) (l : List Wy) (hs : Sl V wye 3 vl (x0 :: l)) (hok : zN Tryz.prog g)
  (hc : ∀ x y, x ∈ x0 :: l → y ∈ x0 :: l → Fnc Tryz.prog g ([] ++ [wyv x, wyv y] ++ cap) V (fun v _ => v = .bool (lt x y))) :
  Fnc Tryz.prog 91 [vl, .func (.func g) #[] cap.toArray] V fun v _ => v = wyv (qQ lt x0 l) := by
 have hlen := hs.je
 simp only [List.length_cons] at hlen
 refine qf Tryz.func91 rfl Tryz.ntmps91 (Nat.le_of_ble_eq_true rfl) ?_
 intro w0 hw0
 refine At.nrm ?_
 refine At.zl (.n false 0 .done) ?_
 refine AtT.qx z131 ?_
 intro b4
 refine AtT.done ?_
 refine At.nrm ?_
 refine At.zl (.q 0 (.q 1 (.q 2 (.n false 3 (.n true 4 .done))))) ?_
 refine AtT.zh ?_
 have hpos : (0 : Int) < ((x0 :: l).length : Int) := by simp only [List.length_cons]; omega
 refine AtT.qp Tryz.underlying127 qV ?_
 intro p9 e9 he9 hc9
 obtain rfl : x0 = e9 := by simpa using he9
 first | refine AtT.zD qV ?_ | refine AtT.zJ qV ?_ | refine AtT.zC qV ?_
 refine AtT.qx z131 ?_
 intro b5
 refine AtT.zW qV ?_
 refine AtT.done ?_
 refine At.nrm ?_
 refine At.zl (.q 0 (.q 1 (.q 2 (.q 3 .done)))) ?_
 refine AtT.zh ?_
 have hpos1 : (1 : Int) ≤ ((x0 :: l).length : Int) := by simp only [List.length_cons]; omega
 refine AtT.ktail Tryz.underlying127 qV ?_
 intro a12 c12 hs12
 first | refine AtT.zY Tryz.underlying127 ?_ | refine AtT.zZ Tryz.underlying127 ?_
 refine AtT.zh ?_
 refine AtT.done ?_
 refine At.nrm ?_
 refine At.lp (ι := Nat) (KS := fun k => [(1, .func (.func g) #[] cap.toArray), (4, .pointer (some ⟨b4, 0, none⟩)), (5, .pointer (some ⟨b5, 0, none⟩)), (12, .slice a12 l.length c12), (13, iv l.length), (14, iv k)])
  (OS := fun k => [.blk b5 (LC (wye (qQ lt x0 (l.take k))) 131), .blk b4 (LC [iv 0, iv 0, iv 0] 131)])
  (VS := fun k V' => V' = V ∧ k ≤ l.length) (μ := fun k => l.length - k) 0 ?_ ?_ ?_ ?_
 ·exact ⟨rfl, rfl, rfl, rfl, rfl, rfl, trivial⟩
 ·exact Pt.zO
 ·exact ⟨rfl, Nat.zero_le _⟩
 rintro k V' ks' O' ⟨rfl, hkl⟩ hk hO hl
 subst hk hO
 have hs' : Sl V' wye 3 (.slice a12 l.length c12) l := hs12
 refine At.nrm ?_
 refine At.zl (.q 0 .done) ?_
 refine AtT.qa ?_
 refine AtT.done ?_
 refine At.nrm ?_
 refine At.qc rfl (fun hp => ?_) (fun hp => ?_)
 rotate_left
 ·obtain rfl : k = l.length := by omega
  rw [List.take_length]
  refine At.nrm ?_
  refine At.zl (.q 0 (.n true 1 .done)) ?_
  first | refine AtT.zD qV ?_ | refine AtT.zJ qV ?_ | refine AtT.zC qV ?_
  refine AtT.zW qV ?_
  refine AtT.done ?_
  refine At.nrm ?_
  exact At.qb rfl (.agg rfl qV zX.zO rfl) rfl
 obtain ⟨x, hx⟩ : ∃ x, l[k]? = some x := ⟨_, List.getElem?_eq_getElem (by omega)⟩
 have hmem : qQ lt x0 (l.take k) ∈ x0 :: l := bestOf_mem lt x0 l k
 have hnx := bestOf_take lt (out := x0) hx
 refine At.nrmB ?_
 refine At.jr (ι := Unit) (fun _ => [(1, .func (.func g) #[] cap.toArray), (4, .pointer (some ⟨b4, 0, none⟩)), (5, .pointer (some ⟨b5, 0, none⟩)), (12, .slice a12 l.length c12), (13, iv l.length), (14, iv k)]) (fun _ => [.blk b5 (LC (wye (qQ lt x0 (l.take (k + 1)))) 131), .blk b4 (LC [iv 0, iv 0, iv 0] 131)]) (fun _ V'' => V'' = V') ?_ ?_
 ·refine At.nrm ?_
  refine At.zl (.q 0 (.q 1 (.n false 2 (.n true 3 .done)))) ?_
  refine AtT.qp Tryz.underlying127 qV ?_
  intro p16 e16 he16 hc16
  obtain rfl : x = e16 := by have : l[k]? = some e16 := (by simpa using he16); rw [hx] at this; simpa using this
  first | refine AtT.zD qV ?_ | refine AtT.zJ qV ?_ | refine AtT.zC qV ?_
  refine AtT.qx z131 ?_
  intro b7
  refine AtT.zW qV ?_
  refine AtT.done ?_
  refine At.nrm ?_
  refine At.zl (.q 0 (.q 1 (.q 2 (.n false 3 .done)))) ?_
  refine AtT.zh ?_
  first | refine AtT.zD qV ?_ | refine AtT.zJ qV ?_ | refine AtT.zC qV ?_
  first | refine AtT.zD qV ?_ | refine AtT.zJ qV ?_ | refine AtT.zC qV ?_
  refine AtT.kcallV rfl rfl rfl hok (hc x (qQ lt x0 (l.take k)) (List.mem_cons_of_mem _ (List.mem_of_getElem? hx)) hmem) ?_
  rintro _ rfl
  refine AtT.done ?_
  refine At.nrm ?_
  refine At.cond rfl (fun hb => ?_) (fun hb => ?_)
  ·rw [if_pos hb] at hnx
   refine At.nrm ?_
   refine At.zl (.q 0 (.n true 1 .done)) ?_
   first | refine AtT.zD qV ?_ | refine AtT.zJ qV ?_ | refine AtT.zC qV ?_
   refine AtT.zW qV ?_
   refine AtT.done ?_
   refine At.nrm ?_
   refine At.qC () rfl ⟨rfl, rfl, rfl, rfl, rfl, rfl, trivial⟩ ?_
   rw [hnx]
   ·exact Pt.zO
  ·rw [if_neg (by rw [hb]; simp)] at hnx
   refine At.nrm ?_
   refine At.qC () rfl ⟨rfl, rfl, rfl, rfl, rfl, rfl, trivial⟩ ?_
   rw [hnx]
   ·exact Pt.zO
 rintro _ V3 ks' O' rfl hk hO hl3
 subst hk hO
 refine At.nrm ?_
 refine At.zl (.q 0 (.q 1 .done)) ?_
 first | refine AtT.qi ?_ | refine AtT.zT ?_
 refine AtT.zh ?_
 refine AtT.done ?_
 refine At.nrm ?_
 refine At.round (k + 1) ?_ ?_ ?_ ?_
 ·show l.length - (k + 1) < l.length - k; omega
 ·exact ⟨rfl, by omega⟩
 ·exact ⟨rfl, rfl, rfl, rfl, rfl, ivs (by omega), trivial⟩
 ·exact Pt.zO
theorem best_p (g : FuncId) (cap : List Value) (lt : Pc → Pc → Bool) (V : View) (vl : Value) (x0 : Pc) (l : List Pc) (hs : Sl V pce 4 vl (x0 :: l)) (hok : zN Tryz.prog g)
  (hc : ∀ x y, x ∈ x0 :: l → y ∈ x0 :: l → Fnc Tryz.prog g ([] ++ [pcv x, pcv y] ++ cap) V (fun v _ => v = .bool (lt x y))) :
  Fnc Tryz.prog 75 [vl, .func (.func g) #[] cap.toArray] V fun v _ => v = pcv (qQ lt x0 l) := by
 have hlen := hs.je
 simp only [List.length_cons] at hlen
 refine qf Tryz.func75 rfl Tryz.ntmps75 (Nat.le_of_ble_eq_true rfl) ?_
 intro w0 hw0
 refine At.nrm ?_
 refine At.zl (.n false 0 .done) ?_
 refine AtT.qx z26 ?_
 intro b4
 refine AtT.done ?_
 refine At.nrm ?_
 refine At.zl (.q 0 (.q 1 (.q 2 (.n false 3 (.n true 4 .done))))) ?_
 refine AtT.zh ?_
 have hpos : (0 : Int) < ((x0 :: l).length : Int) := by simp only [List.length_cons]; omega
 refine AtT.qp Tryz.underlying27 zS ?_
 intro p9 e9 he9 hc9
 obtain rfl : x0 = e9 := by simpa using he9
 first | refine AtT.zD zS ?_ | refine AtT.zJ zS ?_ | refine AtT.zC zS ?_
 refine AtT.qx z26 ?_
 intro b5
 refine AtT.zW zS ?_
 refine AtT.done ?_
 refine At.nrm ?_
 refine At.zl (.q 0 (.q 1 (.q 2 (.q 3 .done)))) ?_
 refine AtT.zh ?_
 have hpos1 : (1 : Int) ≤ ((x0 :: l).length : Int) := by simp only [List.length_cons]; omega
 refine AtT.ktail Tryz.underlying27 zS ?_
 intro a12 c12 hs12
 first | refine AtT.zY Tryz.underlying27 ?_ | refine AtT.zZ Tryz.underlying27 ?_
 refine AtT.zh ?_
 refine AtT.done ?_
 refine At.nrm ?_
 refine At.lp (ι := Nat) (KS := fun k => [(1, .func (.func g) #[] cap.toArray), (4, .pointer (some ⟨b4, 0, none⟩)), (5, .pointer (some ⟨b5, 0, none⟩)), (12, .slice a12 l.length c12), (13, iv l.length), (14, iv k)])
  (OS := fun k => [.blk b5 (LC (pce (qQ lt x0 (l.take k))) 26), .blk b4 (LC [iv 0, iv 0, iv 0, iv 0] 26)])
  (VS := fun k V' => V' = V ∧ k ≤ l.length) (μ := fun k => l.length - k) 0 ?_ ?_ ?_ ?_
 ·exact ⟨rfl, rfl, rfl, rfl, rfl, rfl, trivial⟩
 ·exact Pt.zO
 ·exact ⟨rfl, Nat.zero_le _⟩
 rintro k V' ks' O' ⟨rfl, hkl⟩ hk hO hl
 subst hk hO
 have hs' : Sl V' pce 4 (.slice a12 l.length c12) l := hs12
 refine At.nrm ?_
 refine At.zl (.q 0 .done) ?_
 refine AtT.qa ?_
 refine AtT.done ?_
 refine At.nrm ?_
 refine At.qc rfl (fun hp => ?_) (fun hp => ?_)
 rotate_left
 ·obtain rfl : k = l.length := by omega
  rw [List.take_length]
  refine At.nrm ?_
  refine At.zl (.q 0 (.n true 1 .done)) ?_
  first | refine AtT.zD zS ?_ | refine AtT.zJ zS ?_ | refine AtT.zC zS ?_
  refine AtT.zW zS ?_
  refine AtT.done ?_
  refine At.nrm ?_
  exact At.qb rfl (.agg rfl zS zX.zO rfl) rfl
 obtain ⟨x, hx⟩ : ∃ x, l[k]? = some x := ⟨_, List.getElem?_eq_getElem (by omega)⟩
 have hmem : qQ lt x0 (l.take k) ∈ x0 :: l := bestOf_mem lt x0 l k
 have hnx := bestOf_take lt (out := x0) hx
 refine At.nrmB ?_
 refine At.jr (ι := Unit) (fun _ => [(1, .func (.func g) #[] cap.toArray), (4, .pointer (some ⟨b4, 0, none⟩)), (5, .pointer (some ⟨b5, 0, none⟩)), (12, .slice a12 l.length c12), (13, iv l.length), (14, iv k)]) (fun _ => [.blk b5 (LC (pce (qQ lt x0 (l.take (k + 1)))) 26), .blk b4 (LC [iv 0, iv 0, iv 0, iv 0] 26)]) (fun _ V'' => V'' = V') ?_ ?_
 ·refine At.nrm ?_
  refine At.zl (.q 0 (.q 1 (.n false 2 (.n true 3 .done)))) ?_
  refine AtT.qp Tryz.underlying27 zS ?_
  intro p16 e16 he16 hc16
  obtain rfl : x = e16 := by have : l[k]? = some e16 := (by simpa using he16); rw [hx] at this; simpa using this
  first | refine AtT.zD zS ?_ | refine AtT.zJ zS ?_ | refine AtT.zC zS ?_
  refine AtT.qx z26 ?_
  intro b7
  refine AtT.zW zS ?_
  refine AtT.done ?_
  refine At.nrm ?_
  refine At.zl (.q 0 (.q 1 (.q 2 (.n false 3 .done)))) ?_
  refine AtT.zh ?_
  first | refine AtT.zD zS ?_ | refine AtT.zJ zS ?_ | refine AtT.zC zS ?_
  first | refine AtT.zD zS ?_ | refine AtT.zJ zS ?_ | refine AtT.zC zS ?_
  refine AtT.kcallV rfl rfl rfl hok (hc x (qQ lt x0 (l.take k)) (List.mem_cons_of_mem _ (List.mem_of_getElem? hx)) hmem) ?_
  rintro _ rfl
  refine AtT.done ?_
  refine At.nrm ?_
  refine At.cond rfl (fun hb => ?_) (fun hb => ?_)
  ·rw [if_pos hb] at hnx
   refine At.nrm ?_
   refine At.zl (.q 0 (.n true 1 .done)) ?_
   first | refine AtT.zD zS ?_ | refine AtT.zJ zS ?_ | refine AtT.zC zS ?_
   refine AtT.zW zS ?_
   refine AtT.done ?_
   refine At.nrm ?_
   refine At.qC () rfl ⟨rfl, rfl, rfl, rfl, rfl, rfl, trivial⟩ ?_
   rw [hnx]
   ·exact Pt.zO
  ·rw [if_neg (by rw [hb]; simp)] at hnx
   refine At.nrm ?_
   refine At.qC () rfl ⟨rfl, rfl, rfl, rfl, rfl, rfl, trivial⟩ ?_
   rw [hnx]
   ·exact Pt.zO
 rintro _ V3 ks' O' rfl hk hO hl3
 subst hk hO
 refine At.nrm ?_
 refine At.zl (.q 0 (.q 1 .done)) ?_
 first | refine AtT.qi ?_ | refine AtT.zT ?_
 refine AtT.zh ?_
 refine AtT.done ?_
 refine At.nrm ?_
 refine At.round (k + 1) ?_ ?_ ?_ ?_
 ·show l.length - (k + 1) < l.length - k; omega
 ·exact ⟨rfl, by omega⟩
 ·exact ⟨rfl, rfl, rfl, rfl, rfl, ivs (by omega), trivial⟩
 ·exact Pt.zO
theorem fewer_f (x y : Wy) (V : View) : Fnc Tryz.prog 92 ([] ++ [wyv x, wyv y] ++ []) V fun r _ => r = .bool (fwB x y) := by
 refine qf Tryz.func92 rfl Tryz.ntmps92 (Nat.le_of_ble_eq_true rfl) ?_
 intro w0 hw0
 refine At.nrm ?_
 refine At.zl (.n false 0 (.n false 1 (.q 2 .done))) ?_
 refine AtT.jb ?_
 intro b2
 refine AtT.jb ?_
 intro b3
 refine AtT.zf ?_
 refine AtT.done ?_
 refine At.nrm ?_
 by_cases k1 : x.m < y.m
 ·refine At.zl (.q 0 (.q 1 (.q 2 (.q 3 (.q 4 (.q 5 (.q 6 (.q 7 (.q 8 (.q 9 (.q 10 (.q 11 (.q 12 (.q 13 (.q 14 (.q 15 (.q 16 (.q 17 (.q 18 (.q 19 .done)))))))))))))))))))) ?_
  first | refine AtT.zi qd ?_ | with_reducible refine AtT.zk qd ?_ | refine AtT.zn qd ?_
  first | refine AtT.zm tk3 ?_ | refine AtT.zo tk3 ?_
  first | refine AtT.zi qd ?_ | with_reducible refine AtT.zk qd ?_ | refine AtT.zn qd ?_
  first | refine AtT.zm tk3 ?_ | refine AtT.zo tk3 ?_
  refine AtT.qa ?_
  refine AtT.qJ (d := 9) rfl (k1) ?_
  refine AtT.zh ?_
  all_goals (first | refine AtT.kL 10 ?_ | refine AtT.zB (d := 10) rfl (fun hg10 => ?_) (fun hg10 => ?_) | refine AtT.zA (d := 10) rfl (fun hg10 => ?_) (fun hg10 => ?_))
  all_goals first|refine AtT.zg ?_|refine AtT.ze ?_|(first | refine AtT.zi qd ?_ | with_reducible refine AtT.zk qd ?_ | refine AtT.zn qd ?_)
  all_goals first|refine AtT.zg ?_|refine AtT.ze ?_|(first | refine AtT.zm tk3 ?_ | refine AtT.zo tk3 ?_)
  all_goals first|refine AtT.zg ?_|refine AtT.ze ?_|(first | refine AtT.zi qd ?_ | with_reducible refine AtT.zk qd ?_ | refine AtT.zn qd ?_)
  all_goals first|refine AtT.zg ?_|refine AtT.ze ?_|(first | refine AtT.zm tk3 ?_ | refine AtT.zo tk3 ?_)
  all_goals first|refine AtT.zg ?_|refine AtT.ze ?_|(refine AtT.jg ?_)
  all_goals first|refine AtT.zg ?_|refine AtT.ze ?_|(refine AtT.zh ?_)
  all_goals (first | refine AtT.kL 16 ?_ | refine AtT.zB (d := 16) rfl (fun hg16 => ?_) (fun hg16 => ?_) | refine AtT.zA (d := 16) rfl (fun hg16 => ?_) (fun hg16 => ?_))
  all_goals first|refine AtT.zg ?_|refine AtT.ze ?_|(first | refine AtT.zi qX ?_ | with_reducible refine AtT.zk qX ?_ | refine AtT.zn qX ?_)
  all_goals first|refine AtT.zg ?_|refine AtT.ze ?_|(first | refine AtT.zm tk3 ?_ | refine AtT.zo tk3 ?_)
  all_goals first|refine AtT.zg ?_|refine AtT.ze ?_|(first | refine AtT.zi qX ?_ | with_reducible refine AtT.zk qX ?_ | refine AtT.zn qX ?_)
  all_goals first|refine AtT.zg ?_|refine AtT.ze ?_|(first | refine AtT.zm tk3 ?_ | refine AtT.zo tk3 ?_)
  all_goals first|refine AtT.zg ?_|refine AtT.ze ?_|(refine AtT.qa ?_)
  all_goals first|refine AtT.zg ?_|refine AtT.ze ?_|(refine AtT.zz ?_)
  all_goals (refine AtT.zz ?_)
  all_goals (refine AtT.zf ?_)
  all_goals refine AtT.done ?_
  all_goals (refine At.nrm ?_)
  exact At.qb rfl (.tmp rfl) (by unfold fwB; rw [decide_eq_true (.inl k1)]; rfl)
 by_cases k2 : x.m = y.m
 ·have e : fwB x y = decide (x.c < y.c) := by unfold fwB; simp [k2]
  rw [e]
  refine At.zl (.q 0 (.q 1 (.q 2 (.q 3 (.q 4 (.q 5 (.q 6 (.q 7 (.q 8 (.q 9 (.q 10 (.q 11 (.q 12 (.q 13 (.q 14 (.q 15 (.q 16 (.q 17 (.q 18 (.q 19 .done)))))))))))))))))))) ?_
  first | refine AtT.zi qd ?_ | with_reducible refine AtT.zk qd ?_ | refine AtT.zn qd ?_
  first | refine AtT.zm tk3 ?_ | refine AtT.zo tk3 ?_
  first | refine AtT.zi qd ?_ | with_reducible refine AtT.zk qd ?_ | refine AtT.zn qd ?_
  first | refine AtT.zm tk3 ?_ | refine AtT.zo tk3 ?_
  refine AtT.qa ?_
  refine AtT.qm (d := 9) rfl (k1) ?_
  refine AtT.zh ?_
  all_goals (first | refine AtT.kL 10 ?_ | refine AtT.zB (d := 10) rfl (fun hg10 => ?_) (fun hg10 => ?_) | refine AtT.zA (d := 10) rfl (fun hg10 => ?_) (fun hg10 => ?_))
  all_goals first|refine AtT.zg ?_|refine AtT.ze ?_|(first | refine AtT.zi qd ?_ | with_reducible refine AtT.zk qd ?_ | refine AtT.zn qd ?_)
  all_goals first|refine AtT.zg ?_|refine AtT.ze ?_|(first | refine AtT.zm tk3 ?_ | refine AtT.zo tk3 ?_)
  all_goals first|refine AtT.zg ?_|refine AtT.ze ?_|(first | refine AtT.zi qd ?_ | with_reducible refine AtT.zk qd ?_ | refine AtT.zn qd ?_)
  all_goals first|refine AtT.zg ?_|refine AtT.ze ?_|(first | refine AtT.zm tk3 ?_ | refine AtT.zo tk3 ?_)
  all_goals first|refine AtT.zg ?_|refine AtT.ze ?_|(refine AtT.jg ?_)
  all_goals (refine AtT.qJ (d := 15) rfl (k2) ?_)
  all_goals first|refine AtT.zg ?_|refine AtT.ze ?_|(refine AtT.zh ?_)
  all_goals (first | refine AtT.kL 16 ?_ | refine AtT.zB (d := 16) rfl (fun hg16 => ?_) (fun hg16 => ?_) | refine AtT.zA (d := 16) rfl (fun hg16 => ?_) (fun hg16 => ?_))
  all_goals first|refine AtT.zg ?_|refine AtT.ze ?_|(first | refine AtT.zi qX ?_ | with_reducible refine AtT.zk qX ?_ | refine AtT.zn qX ?_)
  all_goals first|refine AtT.zg ?_|refine AtT.ze ?_|(first | refine AtT.zm tk3 ?_ | refine AtT.zo tk3 ?_)
  all_goals first|refine AtT.zg ?_|refine AtT.ze ?_|(first | refine AtT.zi qX ?_ | with_reducible refine AtT.zk qX ?_ | refine AtT.zn qX ?_)
  all_goals first|refine AtT.zg ?_|refine AtT.ze ?_|(first | refine AtT.zm tk3 ?_ | refine AtT.zo tk3 ?_)
  all_goals first|refine AtT.zg ?_|refine AtT.ze ?_|(refine AtT.qa ?_)
  all_goals first|refine AtT.zg ?_|refine AtT.ze ?_|(refine AtT.zz ?_)
  all_goals (refine AtT.zz ?_)
  all_goals (refine AtT.zf ?_)
  all_goals refine AtT.done ?_
  all_goals (refine At.nrm ?_)
  exact At.qb rfl (.tmp rfl) rfl
 ·refine At.zl (.q 0 (.q 1 (.q 2 (.q 3 (.q 4 (.q 5 (.q 6 (.q 7 (.q 8 (.q 9 (.q 10 (.q 11 (.q 12 (.q 13 (.q 14 (.q 15 (.q 16 (.q 17 (.q 18 (.q 19 .done)))))))))))))))))))) ?_
  first | refine AtT.zi qd ?_ | with_reducible refine AtT.zk qd ?_ | refine AtT.zn qd ?_
  first | refine AtT.zm tk3 ?_ | refine AtT.zo tk3 ?_
  first | refine AtT.zi qd ?_ | with_reducible refine AtT.zk qd ?_ | refine AtT.zn qd ?_
  first | refine AtT.zm tk3 ?_ | refine AtT.zo tk3 ?_
  refine AtT.qa ?_
  refine AtT.qm (d := 9) rfl (k1) ?_
  refine AtT.zh ?_
  all_goals (first | refine AtT.kL 10 ?_ | refine AtT.zB (d := 10) rfl (fun hg10 => ?_) (fun hg10 => ?_) | refine AtT.zA (d := 10) rfl (fun hg10 => ?_) (fun hg10 => ?_))
  all_goals first|refine AtT.zg ?_|refine AtT.ze ?_|(first | refine AtT.zi qd ?_ | with_reducible refine AtT.zk qd ?_ | refine AtT.zn qd ?_)
  all_goals first|refine AtT.zg ?_|refine AtT.ze ?_|(first | refine AtT.zm tk3 ?_ | refine AtT.zo tk3 ?_)
  all_goals first|refine AtT.zg ?_|refine AtT.ze ?_|(first | refine AtT.zi qd ?_ | with_reducible refine AtT.zk qd ?_ | refine AtT.zn qd ?_)
  all_goals first|refine AtT.zg ?_|refine AtT.ze ?_|(first | refine AtT.zm tk3 ?_ | refine AtT.zo tk3 ?_)
  all_goals first|refine AtT.zg ?_|refine AtT.ze ?_|(refine AtT.jg ?_)
  all_goals (refine AtT.qm (d := 15) rfl (k2) ?_)
  all_goals first|refine AtT.zg ?_|refine AtT.ze ?_|(refine AtT.zh ?_)
  all_goals (first | refine AtT.kL 16 ?_ | refine AtT.zB (d := 16) rfl (fun hg16 => ?_) (fun hg16 => ?_) | refine AtT.zA (d := 16) rfl (fun hg16 => ?_) (fun hg16 => ?_))
  all_goals first|refine AtT.zg ?_|refine AtT.ze ?_|(first | refine AtT.zi qX ?_ | with_reducible refine AtT.zk qX ?_ | refine AtT.zn qX ?_)
  all_goals first|refine AtT.zg ?_|refine AtT.ze ?_|(first | refine AtT.zm tk3 ?_ | refine AtT.zo tk3 ?_)
  all_goals first|refine AtT.zg ?_|refine AtT.ze ?_|(first | refine AtT.zi qX ?_ | with_reducible refine AtT.zk qX ?_ | refine AtT.zn qX ?_)
  all_goals first|refine AtT.zg ?_|refine AtT.ze ?_|(first | refine AtT.zm tk3 ?_ | refine AtT.zo tk3 ?_)
  all_goals first|refine AtT.zg ?_|refine AtT.ze ?_|(refine AtT.qa ?_)
  all_goals first|refine AtT.zg ?_|refine AtT.ze ?_|(refine AtT.zz ?_)
  all_goals (refine AtT.zz ?_)
  all_goals (refine AtT.zf ?_)
  all_goals refine AtT.done ?_
  all_goals (refine At.nrm ?_)
  exact At.qb rfl (.tmp rfl) (by unfold fwB; rw [decide_eq_false (by omega)]; rfl)
end Go.Proofs.YtghomjjffllkeaaGreatDoor
set_option linter.unusedVariables false
namespace Go.Lw
theorem flat_part {α : Type} {enc : α → List Value} {s : Nat} (he : ∀ x, (enc x).length = s) : ∀ {l : List α} {i : Nat} {x : α}, l[i]? = some x → ((flat enc l).drop (i * s)).take s = enc x
 | y :: l, 0, x, h => by
  simp at h; subst h
  simp only [Nat.zero_mul, List.drop_zero, flat, List.flatMap_cons]
  rw [← he y, List.take_left]
 | y :: l, i + 1, x, h => by
  have ih := flat_part he (l := l) (i := i) (x := x) (by simpa using h)
  simp only [flat, List.flatMap_cons] at ih ⊢
  have e : (i + 1) * s = s + i * s := by rw [Nat.add_mul, Nat.one_mul, Nat.add_comm]
  rw [e, List.drop_append, he y, List.drop_eq_nil_of_le (by rw [he]; omega), List.nil_append, Nat.add_sub_cancel_left]
  exact ih
end Go.Lw
namespace Go.Pm
open Go.Gl Go.Lw
theorem fw_get {l : List Wy} {j : Nat} {w : Wy} (h : l[j]? = some w) : ((flat wye l).drop (j * 3)).take 3 = wye w := flat_part wye_len h
theorem fw_q {l : List Wy} {j : Nat} {w : Wy} (h : l[j]? = some w) : ((flat wye l).drop (j * 3 + 2)).take 1 = [iv w.q] := by
 have := fw_get h
 rw [← List.drop_drop]
 have e := congrArg (List.drop 2) this
 rw [List.drop_take] at e
 exact e
theorem fw_q1 {l : List Wy} {j : Nat} {w : Wy} (h : l[j]? = some w) : (flat wye l)[j * 3 + 2]? = some (iv w.q) := flat_at wye_len l j w h 2 _ rfl
theorem fw_set {l : List Wy} {j : Nat} (w : Wy) (h : j < l.length) : (flat wye l).take (j * 3) ++ wye w ++ (flat wye l).drop (j * 3 + (wye w).length) = flat wye (l.set j w) := flat_set wye_len l j w h
theorem fw_set2 {l : List Wy} {j : Nat} (w0 w : Wy) (h : j < l.length) : (flat wye (l.set j w0)).take (j * 3) ++ wye w ++ (flat wye (l.set j w0)).drop (j * 3 + (wye w).length) = flat wye (l.set j w) := by
 have := fw_set (l := l.set j w0) (j := j) w (by rw [List.length_set]; exact h)
 rwa [List.set_set] at this
theorem fw_m {l : List Wy} {j : Nat} {w : Wy} (x : Int) (h : l[j]? = some w) : SetAt (flat wye l) (j * 3 + 0) (iv x) (flat wye (l.set j ⟨x, w.c, w.q⟩)) := by
 have hj := (List.getElem?_eq_some_iff.1 h).1
 refine setAt_of (by rw [qU wye_len]; omega) ?_
 exact flat_set1 wye_len l j 0 w ⟨x, w.c, w.q⟩ (iv x) h (by decide) rfl
end Go.Pm
namespace Go.Proofs.YtghomjjffllkeaaGreatDoor
open Go.Lw Go.Gl Go.Pm Go.RowKit
theorem mend_f (s : Sh) (hok : ShOk s) (V : View) (b0 : Nat) (hb : BnV V b0 s) : Fnc Tryz.prog 63 [.pointer (some ⟨b0, 0, none⟩)] V fun r V' => ∃ ps : List Pc, Sl V' pce 4 r ps ∧ MnR (gdS s) (knL s) ps := by
 obtain ⟨a, c, ak, ck, hc0, hc1, hc2, hc3, hs, hsk⟩ := bn_get hb
 have hkn := hok.kn
 have hg := sh_gok hok
 have hon := kn_on hok
 have hfg := kn_fig hok
 have hp0 : 0 < 2 ^ (knL s).length := Nat.two_pow_pos _
 have hp10 : 2 ^ (knL s).length ≤ 1024 := Nat.pow_le_pow_right (n := 2) (by decide) hkn
 have hsn : ∀ k : Nat, 1 ≤ k → k < 2 ^ (knL s).length → sel (knL s) k ≠ [] := fun k h1 h2 => sel_ne (by omega) h2
 have hsb : ∀ k : Nat, ∀ x ∈ sel (knL s) k, 0 ≤ x.r ∧ x.r ≤ 99 ∧ 0 ≤ x.c ∧ x.c ≤ 99 := fun k x hx => kn_bd hok x (sel_in hx)
 refine qf Tryz.func63 rfl Tryz.ntmps63 (Nat.le_of_ble_eq_true rfl) ?_
 intro w0 hw0
 refine At.nrm ?_
 refine At.zl (.q 0 .done) ?_
 refine AtT.zf ?_
 refine AtT.done ?_
 refine At.nrm ?_
 refine At.zl (.q 0 (.n false 1 (.q 2 .done))) ?_
 refine AtT.zh ?_
 refine AtT.qg rfl rfl ok90 (under_f s hok _ b0 hb) ?_
 rintro _ V13 hV13 ⟨mb, rfl, hun⟩
 refine AtT.zf ?_
 refine AtT.done ?_
 refine At.nrm ?_
 have hc2a := hc2.le hV13
 refine At.zl (.q 0 (.q 1 (.q 2 (.q 3 (.q 4 (.q 5 (.n false 6 (.q 7 .done)))))))) ?_
 refine AtT.zh ?_
 refine AtT.knil ?_
 first | refine AtT.zi qy ?_ | with_reducible refine AtT.zk qy ?_ | refine AtT.zn qy ?_
 first | refine AtT.zm tk84 ?_ | refine AtT.zo tk84 ?_
 first | refine AtT.zY Tryz.underlying84 ?_ | refine AtT.zZ Tryz.underlying84 ?_
 refine AtT.shlN rfl trivial rfl rfl rfl (by omega) (by decide) (N := (knL s).length) ?_
 refine AtT.makeSl rfl trivial wye rfl Tryz.underlying127 rw131 rfl rfl (by decide) rfl rfl (by omega) (by omega) (by decide) (za := (⟨0, 0, 0⟩ : Wy)) ?_
 intro b20
 refine AtT.zf ?_
 refine AtT.done ?_
 refine At.nrm ?_
 refine At.zl (.q 0 .done) ?_
 refine AtT.zf ?_
 refine AtT.done ?_
 refine At.nrm ?_
 refine At.lp (ι := Nat × List Wy) (KS := fun g => [(0, .pointer (some ⟨b0, 0, none⟩)), (3, .map (some mb)), (4, .slice (some ⟨b20, 0, none⟩) (2 ^ (knL s).length) (2 ^ (knL s).length)), (5, iv g.1)]) (OS := fun g => [.blk b20 (LC (flat wye g.2) 131)])
  (VS := fun g V' => Le V13 V' ∧ 1 ≤ g.1 ∧ g.1 ≤ 2 ^ (knL s).length ∧ DpW (gdS s) (knL s) g.2 g.1) (μ := fun g => 2 ^ (knL s).length - g.1) (1, List.replicate (2 ^ (knL s).length) ⟨0, 0, 0⟩) ?_ ?_ ?_ ?_
 ·exact ⟨rfl, rfl, rfl, rfl, trivial⟩
 ·exact Pt.zO
 ·exact ⟨Le.refl _, Nat.le_refl _, hp0, dw_start⟩
 rintro ⟨b, L⟩ V' ks' O' ⟨hVV, hb1, hbl, hdp⟩ hk hO hl2
 dsimp only at hb1 hbl hdp hk hO
 subst hk hO
 have hb' := (hb.le hV13).le hVV
 have hc2b := hc2a.le hVV
 have hun' := hun.le hVV
 refine At.nrm ?_
 refine At.zl (.q 0 (.q 1 (.q 2 (.q 3 .done)))) ?_
 refine AtT.zh ?_
 refine AtT.zh ?_
 first | refine AtT.zY Tryz.underlying127 ?_ | refine AtT.zZ Tryz.underlying127 ?_
 refine AtT.qa ?_
 refine AtT.done ?_
 refine At.nrm ?_
 refine At.qc rfl (fun hp => ?_) (fun hp => ?_)
 rotate_left
 ·obtain rfl : b = 2 ^ (knL s).length := by omega
  obtain ⟨n, cs, hB, htr0⟩ := tr_start hkn hdp
  have hlL := hdp.len
  have hm1 : ((2 ^ (knL s).length : Nat) : Int) - 1 = ((2 ^ (knL s).length - 1 : Nat) : Int) := by omega
  refine At.nrm ?_
  refine At.zl (.q 0 .done) ?_
  refine AtT.zf ?_
  refine AtT.done ?_
  refine At.nrm ?_
  refine At.zl (.q 0 (.q 1 (.q 2 (.q 3 .done)))) ?_
  refine AtT.zh ?_
  first | refine AtT.zY Tryz.underlying127 ?_ | refine AtT.zZ Tryz.underlying127 ?_
  first | refine AtT.qD ?_ | refine AtT.qE ?_
  rw [hm1]
  refine AtT.zf ?_
  refine AtT.done ?_
  refine At.nrm ?_
  refine At.newRow 26 4 ?_
  refine At.lp (ι := Nat × List Pc × Option Addr × Nat) (KS := fun g => [(0, .pointer (some ⟨b0, 0, none⟩)), (4, .slice (some ⟨b20, 0, none⟩) (2 ^ (knL s).length) (2 ^ (knL s).length)), (10, .slice g.2.2.1 g.2.1.length g.2.2.2), (11, iv g.1)])
   (OS := fun g => [.blk b20 (LC (flat wye L) 131), .row (.slice g.2.2.1 g.2.1.length g.2.2.2) 26 4 g.2.1.length (flat pce g.2.1)])
   (VS := fun g V'' => Le V' V'' ∧ g.1 < 2 ^ (knL s).length ∧ g.1 + g.2.1.length < 2 ^ (knL s).length ∧ TrW (gdS s) (knL s) L n cs g.1 g.2.1) (μ := fun g => g.1) (2 ^ (knL s).length - 1, [], none, 0) ?_ ?_ ?_ ?_
  ·exact ⟨rfl, rfl, rfl, rfl, trivial⟩
  ·exact Pt.zO
  ·exact ⟨Le.refl _, by dsimp only; omega, by dsimp only; simp only [List.length_nil]; omega, htr0⟩
  rintro ⟨r, ps, ap, cp⟩ V2 ks' O' ⟨hV2, hrl, hrp, htr⟩ hk hO hl3
  dsimp only at hrl hrp htr hk hO
  subst hk hO
  have hb2 := hb'.le hV2
  refine At.nrm ?_
  refine At.zl (.q 0 (.q 1 .done)) ?_
  refine AtT.zh ?_
  refine AtT.qw ?_
  refine AtT.done ?_
  refine At.nrm ?_
  refine At.qc rfl (fun hp3 => ?_) (fun hp3 => ?_)
  rotate_left
  ·obtain rfl : r = 0 := by omega
   refine At.nrm ?_
   refine At.zl (.q 0 (.q 1 .done)) ?_
   refine AtT.zh ?_
   refine AtT.zf ?_
   refine AtT.done ?_
   refine At.nrm ?_
   refine At.giveSl (l := ps) pce_len rfl rfl zX.zO (fun V4 hV4 hs4 => ?_)
   exact At.qb rfl (.tmp rfl) ⟨ps, hs4, tr_done hdp hB htr⟩
  obtain ⟨w, hw1, hw2, hw3, hw4, htr2⟩ := tr_step hkn hdp htr (by omega) hrl
  have hu := fw_q hw1
  have hu1 := fw_q1 hw1
  refine At.nrm ?_
  refine At.zl (.q 0 (.q 1 (.q 2 (.q 3 (.q 4 (.q 5 (.q 6 (.n false 7 (.n false 8 (.n true 9 (.q 10 .done))))))))))) ?_
  refine AtT.zh ?_
  refine AtT.zh ?_
  refine AtT.zh ?_
  refine AtT.zh ?_
  refine AtT.idxZ rfl trivial Tryz.underlying127 qV rfl rfl (by omega) (by decide) ?_
  first | refine AtT.zi fo131_2 ?_ | with_reducible refine AtT.zk fo131_2 ?_ | refine AtT.zn fo131_2 ?_
  refine AtT.loadOP rfl trivial rfl tk129 zX.zO hu rfl (by decide) ?_
  refine AtT.zq rfl rfl ok93 (least_f s hok hkn w.q (by omega) (hsn w.q (by omega) (by omega)) _ b0 hb2) ?_
  rintro _ rfl
  refine AtT.zw (bs27_1_0 _ _ _ _) ?_
  intro q108 V108 hV108 hq108
  have g108 : Le V V108 := by first | exact hV108 | exact Le.trans (by assumption) hV108
  first | refine AtT.kappend Tryz.underlying27 rw26 ?_
  intro a109 c109
  refine AtT.zf ?_
  refine AtT.done ?_
  refine At.nrm ?_
  refine At.nrm ?_
  refine At.zl (.q 0 (.q 1 (.q 2 (.q 3 (.q 4 (.q 5 (.q 6 (.q 7 (.q 8 .done))))))))) ?_
  refine AtT.zh ?_
  refine AtT.zh ?_
  refine AtT.zh ?_
  refine AtT.idxZ rfl trivial Tryz.underlying127 qV rfl rfl (by omega) (by decide) ?_
  first | refine AtT.zi fo131_2 ?_ | with_reducible refine AtT.zk fo131_2 ?_ | refine AtT.zn fo131_2 ?_
  first | refine AtT.zi fo129_0 ?_ | with_reducible refine AtT.zk fo129_0 ?_ | refine AtT.zn fo129_0 ?_
  refine AtT.loadO rfl trivial rfl tk3 zX.zO hu1 (by decide) ?_
  refine AtT.clrN rfl trivial rfl rfl rfl rfl (by omega) (by omega) (by decide) (A := r) (B := w.q) ?_
  refine AtT.zf ?_
  refine AtT.done ?_
  refine At.nrm ?_
  have hpl : (ps ++ [bbx (sel (knL s) w.q)]).length = ps.length + 1 := by rw [List.length_append]; rfl
  refine At.round (qN r w.q, ps ++ [bbx (sel (knL s) w.q)], a109, c109) ?_ ?_ ?_ ?_
  ·exact hw4
  ·exact ⟨hV2.trans (by first | assumption | exact Le.trans (by assumption) (by assumption)), by dsimp only; omega, by dsimp only; omega, htr2⟩
  ·dsimp only; rw [hpl]; exact ⟨rfl, rfl, rfl, rfl, trivial⟩
  dsimp only
  rw [hpl, ji]
  ·exact Pt.zO
 obtain ⟨i, hi1, hi2⟩ := low_at (b := b) (by omega)
 have hW : ∀ r, r < b → jy (gdS s) (sel (knL s) r) (wW L r).1 (wW L r).2 := fun r hr => (dw_w hdp hr (by omega)).2
 have hlL := hdp.len
 have hL0 := hdp.rest b (Nat.le_refl _) (by omega)
 have hst0 := fw_m ((knL s).length + 1) hL0
 refine At.nrm ?_
 refine At.zl (.q 0 (.q 1 (.q 2 (.q 3 (.q 4 (.q 5 (.q 6 (.q 7 (.q 8 (.q 9 (.n true 10 .done))))))))))) ?_
 refine AtT.zh ?_
 refine AtT.zh ?_
 refine AtT.zh ?_
 refine AtT.knil ?_
 first | refine AtT.zi qy ?_ | with_reducible refine AtT.zk qy ?_ | refine AtT.zn qy ?_
 first | refine AtT.zm tk84 ?_ | refine AtT.zo tk84 ?_
 first | refine AtT.zY Tryz.underlying84 ?_ | refine AtT.zZ Tryz.underlying84 ?_
 first | refine AtT.qi ?_ | refine AtT.zT ?_
 refine AtT.idxZ rfl trivial Tryz.underlying127 qV rfl rfl (by omega) (by decide) ?_
 first | refine AtT.zi qd ?_ | with_reducible refine AtT.zk qd ?_ | refine AtT.zn qd ?_
 refine AtT.jf tk3 ?_ (hs := hst0)
 refine AtT.done ?_
 refine At.nrm ?_
 refine At.nrm ?_
 refine At.zl (.q 0 (.q 1 .done)) ?_
 refine AtT.zh ?_
 refine AtT.zf ?_
 refine AtT.done ?_
 refine At.nrm ?_
 refine At.lp (ι := Nat × Wy) (KS := fun g => [(0, .pointer (some ⟨b0, 0, none⟩)), (3, .map (some mb)), (4, .slice (some ⟨b20, 0, none⟩) (2 ^ (knL s).length) (2 ^ (knL s).length)), (5, iv b), (6, iv g.1)])
  (OS := fun g => [.blk b20 (LC (flat wye (L.set b g.2)) 131)])
  (VS := fun g V'' => Le V' V'' ∧ SubB g.1 b ∧ InI (gdS s) (knL s) b i (wW L) ((knL s).length + 1) g.1 g.2.m g.2.c g.2.q) (μ := fun g => g.1) (b, ⟨(knL s).length + 1, 0, 0⟩) ?_ ?_ ?_ ?_
 ·exact ⟨rfl, rfl, rfl, rfl, rfl, trivial⟩
 ·exact Pt.zO
 ·exact ⟨Le.refl _, fun j hj => hj, in_start⟩
 rintro ⟨part, w0⟩ V2 ks' O' ⟨hV2, hsub, hin⟩ hk hO hl4
 dsimp only at hsub hin hk hO
 subst hk hO
 have hb2 := hb'.le hV2
 obtain ⟨M, mc, hM, hMv, hMh⟩ := (hun'.le hV2).ex
 have hple := sub_le hsub
 refine At.nrm ?_
 refine At.zl (.q 0 (.q 1 .done)) ?_
 refine AtT.zh ?_
 refine AtT.qw ?_
 refine AtT.done ?_
 refine At.nrm ?_
 refine At.qc rfl (fun hp2 => ?_) (fun hp2 => ?_)
 rotate_left
 ·obtain rfl : part = 0 := by omega
  obtain ⟨hC, n, hn, hB, e1, e2⟩ := in_end hg hon hfg hkn (by omega) hi1 hW (by omega) hin
  have hds := dw_step hdp (by omega) (by omega) hB hC e1 e2
  rw [show (⟨(n : Int), w0.c, w0.q⟩ : Wy) = w0 by rw [← hn]] at hds
  refine At.nrm ?_
  refine At.zl (.q 0 (.q 1 (.q 2 .done))) ?_
  refine AtT.zh ?_
  first | refine AtT.qi ?_ | refine AtT.zT ?_
  refine AtT.zf ?_
  refine AtT.done ?_
  refine At.nrm ?_
  refine At.round (b + 1, L.set b w0) ?_ ?_ ?_ ?_
  ·show 2 ^ (knL s).length - (b + 1) < 2 ^ (knL s).length - b; omega
  ·exact ⟨hVV.trans hV2, by dsimp only; omega, by dsimp only; omega, hds⟩
  ·exact ⟨rfl, rfl, rfl, ivs (by dsimp only; omega), trivial⟩
  ·exact Pt.zO
 have hmh := hMh part (by omega) (by omega)
 refine At.nrmB ?_
 refine At.jr (ι := Wy) (fun _ => [(0, .pointer (some ⟨b0, 0, none⟩)), (3, .map (some mb)), (4, .slice (some ⟨b20, 0, none⟩) (2 ^ (knL s).length) (2 ^ (knL s).length)), (5, iv b), (6, iv part)])
  (fun g => [.blk b20 (LC (flat wye (L.set b g)) 131)])
  (fun g V'' => Le V2 V'' ∧ InI (gdS s) (knL s) b i (wW L) ((knL s).length + 1) ((part - 1) &&& b) g.m g.c g.q) ?_ ?_
 ·have hlb := low_and (p := part) (show b < 1024 by omega) hi1 hi2
  have hlow := lowB_le b (by omega)
  refine At.nrm ?_
  refine At.zl (.q 0 (.q 1 (.q 2 (.q 3 (.q 4 (.q 5 (.q 6 (.q 7 (.q 8 .done))))))))) ?_
  refine AtT.zh ?_
  refine AtT.zh ?_
  refine AtT.jc (bd129_0 _) ?_
  refine AtT.lookup2V rfl trivial key129 (part : Int) (0 : Int) Tryz.underlying125 z3 rfl rfl rfl hM (by decide) ?_
  refine AtT.zh ?_
  refine AtT.zL ?_
  refine AtT.zL ?_
  refine AtT.zf ?_
  refine AtT.zf ?_
  refine AtT.done ?_
  refine At.nrm ?_
  by_cases hpe : peE (gdS s) (bbx (sel (knL s) part)) = 0
  rotate_left
  ·have hms : mhas (part : Int) M = false := by rw [hmh]; exact decide_eq_false hpe
   refine At.nrm ?_
   refine At.zl (.q 0 (.q 1 (.q 2 (.q 3 (.q 4 (.q 5 (.q 6 (.q 7 (.q 8 (.q 9 (.q 10 .done))))))))))) ?_
   refine AtT.zh ?_
   refine AtT.qZ ?_
   refine AtT.setB (d := 52) rfl ((show (!mhas (part : Int) M) = true by rw [hms]; rfl)) ?_
   refine AtT.zh ?_
   all_goals (first | refine AtT.kL 53 ?_ | refine AtT.zB (d := 53) rfl (fun hg53 => ?_) (fun hg53 => ?_) | refine AtT.zA (d := 53) rfl (fun hg53 => ?_) (fun hg53 => ?_))
   all_goals first|refine AtT.zg ?_|refine AtT.ze ?_|(refine AtT.zh ?_)
   all_goals first|refine AtT.zg ?_|refine AtT.ze ?_|(refine AtT.zh ?_)
   all_goals first|refine AtT.zg ?_|refine AtT.ze ?_|(refine AtT.zh ?_)
   all_goals first|refine AtT.zg ?_|refine AtT.ze ?_|(first | refine AtT.kneg ?_ | refine AtT.knegW ?_)
   all_goals first|refine AtT.zg ?_|refine AtT.ze ?_|(fail)
   all_goals first|refine AtT.zg ?_|refine AtT.ze ?_|(fail)
   all_goals first|refine AtT.zg ?_|refine AtT.ze ?_|(refine AtT.jg ?_)
   all_goals (refine AtT.zz ?_)
   all_goals refine AtT.done ?_
   all_goals (refine At.nrm ?_)
   refine At.qB rfl rfl ?_
   refine At.nrm ?_
   exact At.qC w0 ⟨Le.refl _, in_skip hin hsub fun h => hpe (peE_iff.2 h.lies)⟩ ⟨rfl, rfl, rfl, rfl, rfl, trivial⟩ Pt.zO
  have hms : mhas (part : Int) M = true := by rw [hmh]; exact decide_eq_true hpe
  have hpl := peE_iff.1 hpe
  cases hbit : part.testBit i with
  | false =>
   have hz := hlb.2 hbit
   refine At.nrm ?_
   refine At.zl (.q 0 (.q 1 (.q 2 (.q 3 (.q 4 (.q 5 (.q 6 (.q 7 (.q 8 (.q 9 (.q 10 .done))))))))))) ?_
   refine AtT.zh ?_
   refine AtT.qZ ?_
   refine AtT.setB (d := 52) rfl ((show (!mhas (part : Int) M) = false by rw [hms]; rfl)) ?_
   refine AtT.zh ?_
   all_goals (first | refine AtT.kL 53 ?_ | refine AtT.zB (d := 53) rfl (fun hg53 => ?_) (fun hg53 => ?_) | refine AtT.zA (d := 53) rfl (fun hg53 => ?_) (fun hg53 => ?_))
   all_goals first|refine AtT.zg ?_|refine AtT.ze ?_|(refine AtT.zh ?_)
   all_goals first|refine AtT.zg ?_|refine AtT.ze ?_|(refine AtT.zh ?_)
   all_goals first|refine AtT.zg ?_|refine AtT.ze ?_|(refine AtT.zh ?_)
   all_goals first|refine AtT.zg ?_|refine AtT.ze ?_|(first | refine AtT.kneg ?_ | refine AtT.knegW ?_)
   all_goals first|refine AtT.zg ?_|refine AtT.ze ?_|(refine AtT.lowN rfl ⟨_, _, rfl, rfl, rfl⟩ rfl rfl rfl rfl (by omega) (by decide) (A := b) ?_)
   all_goals first|refine AtT.zg ?_|refine AtT.ze ?_|(refine AtT.andN rfl ⟨_, _, rfl, rfl, rfl⟩ rfl rfl rfl rfl (by omega) (by omega) (by decide) (A := part) (B := lowB b) ?_)
   all_goals first|refine AtT.zg ?_|refine AtT.ze ?_|(refine AtT.jg ?_)
   all_goals (refine AtT.qJ (d := 60) rfl ((show ((part &&& lowB b : Nat) : Int) = 0 by rw [hz]; rfl)) ?_)
   all_goals (refine AtT.zz ?_)
   all_goals refine AtT.done ?_
   all_goals (refine At.nrm ?_)
   refine At.qB rfl rfl ?_
   refine At.nrm ?_
   exact At.qC w0 ⟨Le.refl _, in_skip hin hsub fun h => by have := h.low; rw [hbit] at this; cases this⟩ ⟨rfl, rfl, rfl, rfl, rfl, trivial⟩ Pt.zO
  | true =>
   have hz : ¬ ((part &&& lowB b : Nat) : Int) = 0 := fun h => by
    have := hlb.1 (by omega); rw [hbit] at this; cases this
   have hcand : Cand (gdS s) (knL s) b i part := ⟨hsub, hbit, hpl⟩
   have hrl := rest_lt (b := b) (p := part) (by omega) (by omega) hsub (by omega)
   obtain ⟨⟨qr, w1⟩, w3⟩ := dw_w hdp (r := qN b part) hrl (by omega)
   have hbd := best_bd hg (fun k hk => hon k (sel_in hk)) (fun k hk => hfg k (sel_in hk)) w3
   have hsl := sel_len (K := knL s) (qN b part)
   have hpm := hpl.most
   have hpp := ar_pos hpl
   have hgm := hg.most
   have hmg : mget (part : Int) (0 : Int) M = arP (bbx (sel (knL s) part)) := by
    rw [mget_fn (f := arK (knL s)) hMv ((mhas_iff _ _).1 hms)]
    unfold arK; rw [Int.toNat_natCast]
   obtain ⟨wr, hwr⟩ : ∃ wr : Wy, wr = ⟨((wW L (qN b part)).1 : Int), (wW L (qN b part)).2, qr⟩ := ⟨_, rfl⟩
   have hwm : wr.m = ((wW L (qN b part)).1 : Int) := by rw [hwr]
   have hwc : wr.c = (wW L (qN b part)).2 := by rw [hwr]
   have hLr : (L.set b w0)[qN b part]? = some wr := by rw [List.getElem?_set, if_neg (by omega), hwr]; exact w1
   have hLb : (L.set b w0)[b]? = some w0 := by rw [List.getElem?_set, if_pos rfl, if_pos (by omega)]
   have hu1 := fw_get hLr
   have hu2 := fw_get hLb
   obtain ⟨wn, hwn⟩ : ∃ wn : Wy, wn = ⟨((wW L (qN b part)).1 : Int) + 1, (wW L (qN b part)).2 + arP (bbx (sel (knL s) part)), part⟩ := ⟨_, rfl⟩
   have hfl : (flat wye (L.set b w0)).length = 2 ^ (knL s).length * 3 := by rw [qU wye_len, List.length_set, hlL]
   have hfit2 : Fit (wr.c + arP (bbx (sel (knL s) part))) := Fit.of (by omega) (by omega)
   refine At.nrm ?_
   refine At.zl (.q 0 (.q 1 (.q 2 (.q 3 (.q 4 (.q 5 (.q 6 (.q 7 (.q 8 (.q 9 (.q 10 .done))))))))))) ?_
   refine AtT.zh ?_
   refine AtT.qZ ?_
   refine AtT.setB (d := 52) rfl ((show (!mhas (part : Int) M) = false by rw [hms]; rfl)) ?_
   refine AtT.zh ?_
   all_goals (first | refine AtT.kL 53 ?_ | refine AtT.zB (d := 53) rfl (fun hg53 => ?_) (fun hg53 => ?_) | refine AtT.zA (d := 53) rfl (fun hg53 => ?_) (fun hg53 => ?_))
   all_goals first|refine AtT.zg ?_|refine AtT.ze ?_|(refine AtT.zh ?_)
   all_goals first|refine AtT.zg ?_|refine AtT.ze ?_|(refine AtT.zh ?_)
   all_goals first|refine AtT.zg ?_|refine AtT.ze ?_|(refine AtT.zh ?_)
   all_goals first|refine AtT.zg ?_|refine AtT.ze ?_|(first | refine AtT.kneg ?_ | refine AtT.knegW ?_)
   all_goals first|refine AtT.zg ?_|refine AtT.ze ?_|(refine AtT.lowN rfl ⟨_, _, rfl, rfl, rfl⟩ rfl rfl rfl rfl (by omega) (by decide) (A := b) ?_)
   all_goals first|refine AtT.zg ?_|refine AtT.ze ?_|(refine AtT.andN rfl ⟨_, _, rfl, rfl, rfl⟩ rfl rfl rfl rfl (by omega) (by omega) (by decide) (A := part) (B := lowB b) ?_)
   all_goals first|refine AtT.zg ?_|refine AtT.ze ?_|(refine AtT.jg ?_)
   all_goals (refine AtT.qm (d := 60) rfl (hz) ?_)
   all_goals (refine AtT.zz ?_)
   all_goals refine AtT.done ?_
   all_goals (refine At.nrm ?_)
   refine At.qW rfl rfl ?_
   rw [hmg]
   refine At.nrm ?_
   refine At.zl (.q 0 (.q 1 (.q 2 (.q 3 (.q 4 (.q 5 (.n false 6 (.n true 7 .done)))))))) ?_
   refine AtT.zh ?_
   refine AtT.zh ?_
   refine AtT.zh ?_
   refine AtT.clrN rfl trivial rfl rfl rfl rfl (by omega) (by omega) (by decide) (A := b) (B := part) ?_
   refine AtT.idxZ rfl trivial Tryz.underlying127 qV rfl rfl (by omega) (by decide) ?_
   refine AtT.loadOP rfl trivial rfl qV zX.zO hu1 rfl (by decide) ?_
   refine AtT.qx z131 ?_
   intro b9
   refine AtT.zW qV ?_
   refine AtT.done ?_
   refine At.nrm ?_
   have hst := fw_set2 (l := L) (j := b) w0 (if fwB wn w0 = true then wn else w0) (by omega)
   have hbst : qQ fwB w0 [wn] = if fwB wn w0 = true then wn else w0 := rfl
   rw [← hbst] at hst
   refine At.nrm ?_
   refine At.jr (ι := Unit) (fun _ => [(0, .pointer (some ⟨b0, 0, none⟩)), (3, .map (some mb)), (4, .slice (some ⟨b20, 0, none⟩) (2 ^ (knL s).length) (2 ^ (knL s).length)), (5, iv b), (6, iv part)]) (fun _ => [.blk b20 (LC (flat wye (L.set b (qQ fwB w0 [wn]))) 131)]) (fun _ V'' => Le V2 V'') ?_ ?_
   ·refine At.draw (.q 0 (.q 1 (.q 2 (.q 3 (.q 4 (.q 5 (.q 6 (.q 7 (.q 8 (.q 9 (.q 10 (.q 11 (.q 12 (.q 13 (.q 14 (.q 15 (.n false 16 (.n false 17 (.q 18 (.n true 19 .done)))))))))))))))))))) ffm (by kernel_rfl) ?_
    refine AtT.zh ?_
    refine AtT.zh ?_
    refine AtT.zh ?_
    refine AtT.zh ?_
    refine AtT.idxZ rfl trivial Tryz.underlying127 qV rfl rfl (by omega) (by decide) ?_
    refine AtT.loadOP rfl trivial rfl qV zX.zO hu2 rfl (by decide) ?_
    first | refine AtT.zi qd ?_ | with_reducible refine AtT.zk qd ?_ | refine AtT.zn qd ?_
    first | refine AtT.zm tk3 ?_ | refine AtT.zo tk3 ?_
    first | refine AtT.qi ?_ | refine AtT.zT ?_
    first | refine AtT.zi qX ?_ | with_reducible refine AtT.zk qX ?_ | refine AtT.zn qX ?_
    first | refine AtT.zm tk3 ?_ | refine AtT.zo tk3 ?_
    refine AtT.zh ?_
    first | refine AtT.qi ?_ | refine AtT.zT ?_
    refine AtT.zh ?_
    refine AtT.jc (bd129_0 _) ?_
    refine AtT.jc (bd131_0_1_2 _ _ _) ?_
    refine AtT.zw (bs127_2_0_1 _ _ _ _ _ _) ?_
    intro q84 V84 hV84 hq84
    have g84 : Le V V84 := by first | exact hV84 | exact Le.trans (by assumption) hV84
    refine AtT.qg rfl rfl ok91 (best_w 92 [] fwB _ _ w0 [wn] (Sl.of_cells (l := [w0, wn]) wye_len (by rw [hwn, ← hwm, ← hwc]; exact hq84) (Nat.le_refl _) (by unfold maxLen; omega)) ok92 (fun x y _ _ => fewer_f x y _)) ?_
    rintro _ V85 hV85 rfl
    refine AtT.idxZ rfl trivial Tryz.underlying127 qV rfl rfl (by omega) (by decide) ?_
    refine AtT.store rfl trivial rfl rfl qV rfl rfl (by rw [hfl]; simp only [List.length_cons, List.length_nil]; omega) rfl hst (by repeat first|exact Upd.here|apply Upd.there) ?_
    refine AtT.done ?_
    refine At.nrm ?_
    all_goals (exact At.qC () (by first | assumption | exact Le.trans (by assumption) (by assumption)) ⟨rfl, rfl, rfl, rfl, rfl, trivial⟩ Pt.zO)
   rintro _ V5 ks' O' hV5 hk hO hl6
   subst hk hO
   rw [hbst]
   cases hfw : fwB wn w0 with
   | true =>
    rw [if_pos rfl]
    have hcond := of_decide_eq_true hfw
    rw [hwn] at hcond
    have hnw := in_new hin hsub hcand hcond
    refine At.nrm ?_
    exact At.qC wn ⟨hV5, by rw [hwn]; exact hnw⟩ ⟨rfl, rfl, rfl, rfl, rfl, trivial⟩ Pt.zO
   | false =>
    rw [if_neg (by simp)]
    have hcond := of_decide_eq_false hfw
    rw [hwn] at hcond
    refine At.nrm ?_
    exact At.qC w0 ⟨hV5, in_keep hin hsub hcond⟩ ⟨rfl, rfl, rfl, rfl, rfl, trivial⟩ Pt.zO
 rintro w2 V3 ks' O' ⟨hV3, hin3⟩ hk hO hl5
 subst hk hO
 have hq1 : ((part - 1 : Nat) : Int) = (part : Int) - 1 := by omega
 have hand : (part - 1) &&& b ≤ part - 1 := Nat.and_le_left
 refine At.nrm ?_
 refine At.zl (.q 0 (.q 1 (.q 2 (.q 3 (.q 4 .done))))) ?_
 refine AtT.zh ?_
 first | refine AtT.qD ?_ | refine AtT.qE ?_
 refine AtT.zh ?_
 refine AtT.andN rfl trivial rfl rfl hq1.symm rfl (by omega) (by omega) (by decide) (A := part - 1) (B := b) ?_
 refine AtT.zf ?_
 refine AtT.done ?_
 refine At.nrm ?_
 refine At.round ((part - 1) &&& b, w2) ?_ ?_ ?_ ?_
 ·show (part - 1) &&& b < part; omega
 ·exact ⟨hV2.trans hV3, and_sub _ _, hin3⟩
 ·exact ⟨rfl, rfl, rfl, rfl, rfl, trivial⟩
 ·exact Pt.zO
end Go.Proofs.YtghomjjffllkeaaGreatDoor
set_option linter.unusedVariables false
namespace Go.Pm
open Go.Gl Go.Lw
def FwS (s : Sh) (n e : Int) : Prop := (chE s ≠ 0 ∧ n = 0 ∧ e = chE s) ∨ (chE s = 0 ∧ e = 0 ∧ ∃ (m : Nat) (c : Int), n = m ∧ jy (gdS s) (knL s) m c)
def CeS (s : Sh) (n e : Int) : Prop := (chE s ≠ 0 ∧ n = 0 ∧ e = chE s) ∨ (chE s = 0 ∧ e = 0 ∧ ∃ (m : Nat), jy (gdS s) (knL s) m n)
end Go.Pm
namespace Go.Proofs.YtghomjjffllkeaaGreatDoor
open Go.Lw Go.Gl Go.Pm Go.RowKit
def PtR (s : Sh) (r : Value) (V' : View) : Prop := ∃ (a : Option Addr) (c : Nat) (ps : List Pc) (e : Int), r = .tuple #[.slice a ps.length c, iv e] ∧ Sl V' pce 4 (.slice a ps.length c) ps ∧ ((chE s ≠ 0 ∧ e = chE s ∧ ps = []) ∨ (chE s = 0 ∧ e = 0 ∧ MnR (gdS s) (knL s) ps))
theorem patches_f (s : Sh) (V : View) (v : Value) (hv : ShV V v s) : Fnc Tryz.prog 27 [v] V (PtR s) := by
 obtain ⟨a, c, rfl, hs⟩ := id hv
 refine qf Tryz.func27 rfl Tryz.ntmps27 (Nat.le_of_ble_eq_true rfl) ?_
 intro w0 hw0
 refine At.nrm ?_
 refine At.zl (.n false 0 (.q 1 (.q 2 .done))) ?_
 refine AtT.jb ?_
 intro b1
 refine AtT.zf ?_
 refine AtT.zf ?_
 refine AtT.done ?_
 refine At.nrm ?_
 by_cases h0 : chE s = 0
 rotate_left
 ·refine At.zl (.q 0 (.n false 1 (.q 2 (.q 3 (.q 4 (.q 5 (.q 6 .done))))))) ?_
  first | refine AtT.zD zM ?_ | refine AtT.zJ zM ?_ | refine AtT.zC zM ?_
  refine AtT.qg rfl rfl ok57 (open_bad s h0 _ _ hv) ?_
  rintro v10 V10 hV10 rfl
  refine AtT.zh ?_
  refine AtT.zL ?_
  refine AtT.zL ?_
  refine AtT.zf ?_
  refine AtT.zf ?_
  refine AtT.done ?_
  refine At.nrm ?_
  refine At.nrm ?_
  refine At.zl (.q 0 (.q 1 .done)) ?_
  refine AtT.zh ?_
  refine AtT.qH ?_
  refine AtT.done ?_
  refine At.nrm ?_
  refine At.qB rfl (decide_eq_true h0) ?_
  refine At.nrm ?_
  refine At.zl (.q 0 (.q 1 (.q 2 .done))) ?_
  refine AtT.zh ?_
  refine AtT.zf ?_
  refine AtT.zf ?_
  refine AtT.done ?_
  refine At.nrm ?_
  exact At.jh rfl (.tmp rfl) (.tmp rfl) ⟨none, 0, [], _, rfl, Sl.nil _ _ _, .inl ⟨h0, rfl, rfl⟩⟩
 have hok := jo h0
 have hkn := hok.kn
 refine At.zl (.q 0 (.n false 1 (.q 2 (.q 3 (.q 4 (.q 5 (.q 6 .done))))))) ?_
 first | refine AtT.zD zM ?_ | refine AtT.zJ zM ?_ | refine AtT.zC zM ?_
 refine AtT.qg rfl rfl ok57 (open_ok s h0 _ _ hv) ?_
 rintro v10 V10 hV10 ⟨b, rfl, hb⟩
 refine AtT.zh ?_
 refine AtT.zL ?_
 refine AtT.zL ?_
 refine AtT.zf ?_
 refine AtT.zf ?_
 refine AtT.done ?_
 refine At.nrm ?_
 refine At.nrm ?_
 refine At.zl (.q 0 (.q 1 .done)) ?_
 refine AtT.zh ?_
 refine AtT.qH ?_
 refine AtT.done ?_
 refine At.nrm ?_
 refine At.qW rfl rfl ?_
 refine At.nrm ?_
 refine At.zl (.q 0 (.n false 1 (.q 2 .done))) ?_
 refine AtT.zh ?_
 refine AtT.qg rfl rfl ok63 (mend_f s hok _ b hb) ?_
 rintro v17 V17 hV17 ⟨ps, hs17, hm⟩
 refine AtT.zf ?_
 refine AtT.done ?_
 refine At.nrm ?_
 obtain ⟨a17, c17, rfl, q1, q2, _⟩ := id hs17
 clear q1 q2
 have hbl := best_le_len (sh_gok hok) (kn_on hok) (kn_fig hok) hm.best
 have hlen0 : (flat pce (List.replicate ps.length (⟨0, 0, 0, 0⟩ : Pc))).length = ps.length * 4 := by rw [qU pce_len]; simp
 refine At.zl (.q 0 (.q 1 (.n false 2 (.q 3 .done)))) ?_
 refine AtT.zh ?_
 first | refine AtT.zY Tryz.underlying27 ?_ | refine AtT.zZ Tryz.underlying27 ?_
 refine AtT.makeSl rfl trivial pce rfl Tryz.underlying27 rw26 rfl rfl (by decide) rfl rfl (by omega) (by omega) (by decide) (za := (⟨0, 0, 0, 0⟩ : Pc)) ?_
 intro b20
 refine AtT.zf ?_
 refine AtT.done ?_
 refine At.nrm ?_
 refine At.zl (.q 0 (.q 1 (.n true 2 .done))) ?_
 refine AtT.zh ?_
 refine AtT.zh ?_
 refine AtT.copyO rfl trivial Tryz.underlying27 zS rfl rfl hs17 pce_len (fun _ => rfl) hlen0 (by repeat first|exact Upd.here|apply Upd.there) (by decide) ?_
 refine AtT.done ?_
 refine At.nrm ?_
 refine At.zl (.q 0 (.q 1 (.q 2 .done))) ?_
 refine AtT.zh ?_
 refine AtT.zf ?_
 refine AtT.zf ?_
 refine AtT.done ?_
 refine At.nrm ?_
 refine At.giveB (b := b20) zX.zO (fun V3 hV3 hb3 => ?_)
 exact At.jh rfl (.tmp rfl) (.tmp rfl) ⟨_, _, ps, 0, rfl, Sl.of_cells pce_len (qP hb3) (Nat.le_refl _) (by unfold maxLen; omega), .inr ⟨h0, rfl, hm⟩⟩
theorem fewest_f (s : Sh) (V : View) (v : Value) (hv : ShV V v s) : Fnc Tryz.prog 23 [v] V fun r _ => ∃ n e, r = .tuple #[iv n, iv e] ∧ FwS s n e := by
 obtain ⟨a, c, rfl, hs⟩ := id hv
 refine qf Tryz.func23 rfl Tryz.ntmps23 (Nat.le_of_ble_eq_true rfl) ?_
 intro w0 hw0
 refine At.nrm ?_
 refine At.zl (.n false 0 (.q 1 (.q 2 .done))) ?_
 refine AtT.jb ?_
 intro b1
 refine AtT.zf ?_
 refine AtT.zf ?_
 refine AtT.done ?_
 refine At.nrm ?_
 refine At.zl (.q 0 (.n false 1 (.q 2 (.q 3 (.q 4 (.q 5 (.q 6 .done))))))) ?_
 first | refine AtT.zD zM ?_ | refine AtT.zJ zM ?_ | refine AtT.zC zM ?_
 refine AtT.qg rfl rfl ok27 (patches_f s _ _ hv) ?_
 rintro v8 V8 hV8 ⟨a8, c8, ps, e8, rfl, hs8, hr⟩
 refine AtT.zh ?_
 refine AtT.zL ?_
 refine AtT.zL ?_
 refine AtT.zf ?_
 refine AtT.zf ?_
 refine AtT.done ?_
 refine At.nrm ?_
 refine At.zl (.q 0 (.q 1 (.q 2 (.q 3 (.q 4 .done))))) ?_
 refine AtT.zh ?_
 first | refine AtT.zY Tryz.underlying27 ?_ | refine AtT.zZ Tryz.underlying27 ?_
 refine AtT.zh ?_
 refine AtT.zf ?_
 refine AtT.zf ?_
 refine AtT.done ?_
 refine At.nrm ?_
 refine At.jh rfl (.tmp rfl) (.tmp rfl) ⟨_, _, rfl, ?_⟩
 rcases hr with ⟨h0, rfl, rfl⟩ | ⟨h0, rfl, hm⟩
 ·exact .inl ⟨h0, rfl, rfl⟩
 ·exact .inr ⟨h0, rfl, _, _, rfl, hm.best⟩
theorem cells_f (s : Sh) (V : View) (v : Value) (hv : ShV V v s) : Fnc Tryz.prog 25 [v] V fun r _ => ∃ n e, r = .tuple #[iv n, iv e] ∧ CeS s n e := by
 obtain ⟨a, c, rfl, hs⟩ := id hv
 refine qf Tryz.func25 rfl Tryz.ntmps25 (Nat.le_of_ble_eq_true rfl) ?_
 intro w0 hw0
 refine At.nrm ?_
 refine At.zl (.n false 0 (.q 1 (.q 2 .done))) ?_
 refine AtT.jb ?_
 intro b1
 refine AtT.zf ?_
 refine AtT.zf ?_
 refine AtT.done ?_
 refine At.nrm ?_
 refine At.zl (.q 0 (.n false 1 (.q 2 (.q 3 (.q 4 (.q 5 (.q 6 .done))))))) ?_
 first | refine AtT.zD zM ?_ | refine AtT.zJ zM ?_ | refine AtT.zC zM ?_
 refine AtT.qg rfl rfl ok27 (patches_f s _ _ hv) ?_
 rintro v11 V11 hV11 ⟨a11, c11, ps, e11, rfl, hs11, hr⟩
 refine AtT.zh ?_
 refine AtT.zL ?_
 refine AtT.zL ?_
 refine AtT.zf ?_
 refine AtT.zf ?_
 refine AtT.done ?_
 refine At.nrm ?_
 have hbd : (∀ p ∈ ps, 1 ≤ p.h ∧ p.h ≤ 6 ∧ 1 ≤ p.w ∧ p.w ≤ 6) ∧ ps.length ≤ 10 := by
  rcases hr with ⟨h0, rfl, rfl⟩ | ⟨h0, rfl, hm⟩
  ·exact ⟨fun p hp => (by cases hp), by simp⟩
  ·have hok := jo h0
   have hbl := best_le_len (sh_gok hok) (kn_on hok) (kn_fig hok) hm.best
   have hkn := hok.kn
   refine ⟨fun p hp => ?_, by omega⟩
   have hl := hm.mends.lies p hp
   have h1 := hl.h
   have h2 := hl.w
   have hn := hok.n
   have hw := hok.w
   have hR : (gdS s).R = (s.rows.length : Int) := rfl
   have hC : (gdS s).C = (wdS s : Int) := rfl
   omega
 have har : ∀ k, k ≤ ps.length → 0 ≤ arL (ps.take k) ∧ arL (ps.take k) ≤ 36 * k := by
  intro k
  induction k with
  | zero => intro _; simp [arL]
  | succ k ih =>
   intro hk
   have ih' := ih (by omega)
   have hp : ps[k]? = some ps[k] := List.getElem?_eq_getElem (by omega)
   have hb := hbd.1 _ (List.mem_of_getElem? hp)
   have := ar_bd (h := ps[k].h) (w := ps[k].w) ⟨by omega, by omega⟩ ⟨by omega, by omega⟩
   rw [arL_take hp]
   unfold arP
   push_cast
   omega
 refine At.zl (.q 0 .done) ?_
 refine AtT.zf ?_
 refine AtT.done ?_
 refine At.nrm ?_
 refine At.zl (.q 0 (.q 1 (.q 2 .done))) ?_
 refine AtT.zh ?_
 first | refine AtT.zY Tryz.underlying27 ?_ | refine AtT.zZ Tryz.underlying27 ?_
 refine AtT.zh ?_
 refine AtT.done ?_
 refine At.nrm ?_
 refine At.lp (ι := Nat) (KS := fun k => [(5, iv e11), (6, iv (arL (ps.take k))), (14, .slice a11 ps.length c11), (15, iv ps.length), (16, iv k)]) (OS := fun _ => [])
  (VS := fun k V' => V11 = V' ∧ k ≤ ps.length) (μ := fun k => ps.length - k) 0 ?_ ?_ ?_ ?_
 ·exact ⟨rfl, rfl, rfl, rfl, rfl, trivial⟩
 ·exact Pt.zO
 ·exact ⟨rfl, Nat.zero_le _⟩
 rintro k _ ks' O' ⟨rfl, hkl⟩ hk hO hl2
 subst hk hO
 refine At.nrm ?_
 refine At.zl (.q 0 .done) ?_
 refine AtT.qa ?_
 refine AtT.done ?_
 refine At.nrm ?_
 refine At.qc rfl (fun hp => ?_) (fun hp => ?_)
 ·obtain ⟨p, hpk⟩ : ∃ p, ps[k]? = some p := ⟨_, List.getElem?_eq_getElem (by omega)⟩
  have hb := hbd.1 _ (List.mem_of_getElem? hpk)
  have hab := ar_bd (h := p.h) (w := p.w) ⟨by omega, by omega⟩ ⟨by omega, by omega⟩
  have h1 := har k hkl
  have hfit : Fit (p.h * p.w) := Fit.of (by omega) (by omega)
  have hfit2 : Fit (arL (ps.take k) + p.h * p.w) := Fit.of (by omega) (by omega)
  have htk := arL_take hpk
  refine At.nrm ?_
  refine At.zl (.q 0 (.q 1 (.n false 2 (.n true 3 .done)))) ?_
  refine AtT.qp Tryz.underlying27 zS ?_
  intro p18 e18 he18 hc18
  obtain rfl : p = e18 := by have : ps[k]? = some e18 := (by simpa using he18); rw [hpk] at this; simpa using this
  first | refine AtT.zD zS ?_ | refine AtT.zJ zS ?_ | refine AtT.zC zS ?_
  refine AtT.qx z26 ?_
  intro b8
  refine AtT.zW zS ?_
  refine AtT.done ?_
  refine At.nrm ?_
  refine At.zl (.q 0 (.q 1 (.q 2 (.q 3 (.q 4 (.q 5 (.q 6 (.q 7 .done)))))))) ?_
  refine AtT.zh ?_
  first | refine AtT.zi zy ?_ | with_reducible refine AtT.zk zy ?_ | refine AtT.zn zy ?_
  first | refine AtT.zm tk3 ?_ | refine AtT.zo tk3 ?_
  first | refine AtT.zi zx ?_ | with_reducible refine AtT.zk zx ?_ | refine AtT.zn zx ?_
  first | refine AtT.zm tk3 ?_ | refine AtT.zo tk3 ?_
  first | refine AtT.kmul ?_ | refine AtT.kmulW ?_
  first | refine AtT.qi ?_ | refine AtT.zT ?_
  refine AtT.zf ?_
  refine AtT.done ?_
  refine At.nrm ?_
  refine At.zl (.q 0 (.q 1 .done)) ?_
  first | refine AtT.qi ?_ | refine AtT.zT ?_
  refine AtT.zh ?_
  refine AtT.done ?_
  refine At.nrm ?_
  refine At.round (k + 1) ?_ ?_ ?_ ?_
  ·show ps.length - (k + 1) < ps.length - k; omega
  ·exact ⟨rfl, by omega⟩
  ·rw [htk]; exact ⟨rfl, rfl, rfl, rfl, ivs (by omega), trivial⟩
  ·exact Pt.zO
 obtain rfl : k = ps.length := by omega
 rw [List.take_length]
 refine At.nrm ?_
 refine At.zl (.q 0 (.q 1 (.q 2 (.q 3 .done)))) ?_
 refine AtT.zh ?_
 refine AtT.zh ?_
 refine AtT.zf ?_
 refine AtT.zf ?_
 refine AtT.done ?_
 refine At.nrm ?_
 refine At.jh rfl (.tmp rfl) (.tmp rfl) ⟨_, _, rfl, ?_⟩
 rcases hr with ⟨h0, rfl, rfl⟩ | ⟨h0, rfl, hm⟩
 ·exact .inl ⟨h0, rfl, rfl⟩
 ·exact .inr ⟨h0, rfl, _, hm.best⟩
end Go.Proofs.YtghomjjffllkeaaGreatDoor
set_option linter.unusedVariables false
namespace Go.Pm
open Go.Gl Go.Lw
def InN (N : Nat) (l : List Int) : Prop := ∀ i ∈ l, 0 ≤ i ∧ i < (N : Int)
theorem alG_in (N : Nat) (S : Int → Int → Bool) : ∀ (t : Nat) (begun out : List Int), t ≤ N → begun.length + t ≤ N → out.length ≤ N → InN N begun → InN N out → InN N (alG N S t begun out) ∧ (alG N S t begun out).length ≤ N
 | 0, begun, out, _, _, h2, _, h4 => ⟨h4, h2⟩
 | t + 1, begun, out, h0, h1, h2, h3, h4 => by
  have hnew : InN N (begun ++ [(N : Int) - ((t + 1 : Nat) : Int)]) := fun i hi => by
   rcases List.mem_append.1 hi with h | h
   ·exact h3 i h
   ·rw [List.mem_singleton] at h; subst h; push_cast; omega
  have hln : (begun ++ [(N : Int) - ((t + 1 : Nat) : Int)]).length + t ≤ N := by rw [List.length_append]; simp only [List.length_cons, List.length_nil]; omega
  obtain ⟨a1, a2⟩ := alG_in N S t (begun ++ [(N : Int) - ((t + 1 : Nat) : Int)]) (begun ++ [(N : Int) - ((t + 1 : Nat) : Int)]) (by omega) hln (by omega) hnew hnew
  simp only [alG]
  split
  ·exact alG_in N S t begun out (by omega) (by omega) h2 h3 h4
  ·split
   ·exact alG_in N S t begun _ (by omega) (by omega) a2 h3 a1
   ·exact alG_in N S t begun out (by omega) (by omega) h2 h3 h4
end Go.Pm
set_option linter.unusedVariables false
namespace Go.Proofs.YtghomjjffllkeaaGreatDoor
open Go.Lw Go.Gl Go.Pm Go.RowKit
theorem share1_f (s : Sh) (hok : ShOk s) (z x : Int) (hz : 0 ≤ z ∧ z < ((knL s).length : Int)) (hx : 0 ≤ x ∧ x < ((knL s).length : Int)) (V : View) (b : Nat) (p3 p8 : Addr) (hb : BnV V b s) (q3 : Cells V p3 [.pointer (some ⟨b, 0, none⟩)]) (q8 : Cells V p8 [iv x]) :
  Fnc Tryz.prog 94 ([] ++ [iv z] ++ [.pointer (some p3), .pointer (some p8)]) V fun r _ => r = .bool (shI (gdS s) (knL s) z x) := by
 obtain ⟨i, rfl⟩ : ∃ i : Nat, z = (i : Int) := ⟨z.toNat, by omega⟩
 obtain ⟨k, rfl⟩ : ∃ k : Nat, x = (k : Int) := ⟨x.toNat, by omega⟩
 refine qf Tryz.func94 rfl Tryz.ntmps94 (Nat.le_of_ble_eq_true rfl) ?_
 intro w0 hw0
 refine At.nrm ?_
 refine At.zl (.q 0 .done) ?_
 refine AtT.zf ?_
 refine AtT.done ?_
 refine At.nrm ?_
 refine At.zl (.q 0 (.q 1 (.q 2 (.n false 3 (.q 4 .done))))) ?_
 first | refine AtT.zm tk80 ?_ | refine AtT.zo tk80 ?_
 refine AtT.zh ?_
 first | refine AtT.zm tk3 ?_ | refine AtT.zo tk3 ?_
 refine AtT.zq rfl rfl ok69 (share_f s hok i k (by omega) (by omega) _ b hb) ?_
 rintro _ rfl
 refine AtT.zf ?_
 refine AtT.done ?_
 refine At.nrm ?_
 exact At.qb rfl (.tmp rfl) (by unfold shI; rw [Int.toNat_natCast, Int.toNat_natCast])
theorem alone_f (s : Sh) (hok : ShOk s) (b : Nat) : ∀ (t : Nat) (begun : List Int) (from' : Int) (V : View) (vb : Value), ((knL s).length : Int) - from' = t → 0 ≤ from' → begun.length + t ≤ (knL s).length → InN (knL s).length begun → BnV V b s → SlI V vb begun →
  Fnc Tryz.prog 64 [.pointer (some ⟨b, 0, none⟩), vb, iv from'] V fun r V' => SlI V' r (alG (knL s).length (shI (gdS s) (knL s)) t begun begun) := by
 intro t
 induction t using Nat.strongRecOn with
 | _ t ih =>
 intro begun from' V vb hft hf0 hlen hin hb hs
 have n10 := hok.kn
 obtain ⟨a, c, rfl, k1, k2, _⟩ := id hs
 clear k1 k2
 refine qf Tryz.func64 rfl Tryz.ntmps64 (Nat.le_of_ble_eq_true rfl) ?_
 intro w0 hw0
 refine At.nrm ?_
 refine At.zl (.n false 0 (.q 1 .done)) ?_
 refine AtT.jb ?_
 intro b3
 refine AtT.zf ?_
 refine AtT.done ?_
 refine At.nrm ?_
 refine At.zl (.q 0 (.q 1 .done)) ?_
 refine AtT.zh ?_
 refine AtT.zf ?_
 refine AtT.done ?_
 refine At.nrm ?_
 refine At.zl (.q 0 (.n false 1 (.n true 2 .done))) ?_
 refine AtT.zh ?_
 refine AtT.qx z3 ?_
 intro b8
 first | refine AtT.jf tk3 ?_ | refine AtT.zW tk3 ?_
 refine AtT.done ?_
 refine At.nrm ?_
 refine At.giveB (b := b3) zX.zO (fun V1 hV1 hb3 => ?_)
 refine At.lp (ι := Nat × List Int × Option Addr × Nat × Nat) (KS := fun g => [(1, .slice a begun.length c), (3, .pointer (some ⟨b3, 0, none⟩)), (7, .slice g.2.2.1 g.2.1.length g.2.2.2.1), (8, .pointer (some ⟨g.2.2.2.2, 0, none⟩))])
  (OS := fun g => [.blk g.2.2.2.2 (LC [iv (((knL s).length : Int) - (g.1 : Int))] 3)])
  (VS := fun g V' => Le V1 V' ∧ g.1 ≤ t ∧ SlI V' (.slice g.2.2.1 g.2.1.length g.2.2.2.1) g.2.1 ∧ alG (knL s).length (shI (gdS s) (knL s)) g.1 begun g.2.1 = alG (knL s).length (shI (gdS s) (knL s)) t begun begun ∧ g.2.1.length ≤ (knL s).length) (μ := fun g => g.1) (t, begun, a, c, b8) ?_ ?_ ?_ ?_
 ·exact ⟨rfl, rfl, rfl, rfl, trivial⟩
 ·dsimp only
  rw [show ((knL s).length : Int) - (t : Int) = from' by omega]
  ·exact Pt.zO
 ·exact ⟨Le.refl _, Nat.le_refl _, hs.le hV1, rfl, by dsimp only; omega⟩
 ·rintro ⟨m, out, ao, co, b8⟩ V' ks' O' ⟨hVV, hst, hso, heq, hol⟩ hk2 hO hl3
  dsimp only at hst hso heq hk2 hO hol
  subst hk2 hO
  have hb' := (hb.le hV1).le hVV
  obtain ⟨ab, cb, ak, ck, hc0, hc1, hc2, hc3, hsb, hsk⟩ := bn_get hb'
  have q3 := (qP hb3).le hVV
  have hs1 := (hs.le hV1).le hVV
  refine At.nrm ?_
  refine At.jr (ι := Unit) (fun _ => [(1, .slice a begun.length c), (3, .pointer (some ⟨b3, 0, none⟩)), (7, .slice ao out.length co), (8, .pointer (some ⟨b8, 0, none⟩)), (18, .bool (decide (((knL s).length : Int) - (m : Int) < ((knL s).length : Int))))]) (fun _ => [.blk b8 (LC [iv (((knL s).length : Int) - (m : Int))] 3)]) (fun _ V'' => V' = V'') ?_ ?_
  ·refine At.draw (.q 0 (.q 1 (.q 2 (.q 3 (.q 4 (.q 5 (.q 6 .done))))))) ffm (by kernel_rfl) ?_
   first | refine AtT.zm tk3 ?_ | refine AtT.zo tk3 ?_
   first | refine AtT.zm tk80 ?_ | refine AtT.zo tk80 ?_
   refine AtT.knil ?_
   first | refine AtT.zi qy ?_ | with_reducible refine AtT.zk qy ?_ | refine AtT.zn qy ?_
   first | refine AtT.zm tk84 ?_ | refine AtT.zo tk84 ?_
   first | refine AtT.zY Tryz.underlying84 ?_ | refine AtT.zZ Tryz.underlying84 ?_
   refine AtT.qa ?_
   refine AtT.done ?_
   refine At.nrm ?_
   all_goals (exact At.qC () rfl ⟨rfl, rfl, rfl, rfl, rfl, trivial⟩ Pt.zO)
  rintro _ _ ks' O' rfl hk hO hl4
  subst hk hO
  refine At.qc rfl (fun hp => ?_) (fun hp => ?_)
  ·obtain ⟨m, rfl⟩ : ∃ s', m = s' + 1 := ⟨m - 1, by omega⟩
   have hxi : 0 ≤ ((knL s).length : Int) - ((m + 1 : Nat) : Int) ∧ ((knL s).length : Int) - ((m + 1 : Nat) : Int) < ((knL s).length : Int) := by push_cast; omega
   refine At.giveB (b := b8) zX.zO (fun V2 hV2 hb8 => ?_)
   have q8 := qP hb8
   have hb2 := hb'.le hV2
   have hs2 := hs1.le hV2
   have q3b := q3.le hV2
   have hg2 : Le V V2 := (hV1.trans hVV).trans hV2
   have hso2 := hso.le hV2
   simp only [alG] at heq
   obtain ⟨x, hxe⟩ : ∃ x, x = ((knL s).length : Int) - ((m + 1 : Nat) : Int) := ⟨_, rfl⟩
   rw [← hxe] at hxi heq q8
   refine At.nrmB ?_
   refine At.jr (ι := List Int × Option Addr × Nat) (fun g => [(1, .slice a begun.length c), (3, .pointer (some ⟨b3, 0, none⟩)), (7, .slice g.2.1 g.1.length g.2.2), (8, .pointer (some ⟨b8, 0, none⟩))]) (fun _ => [])
    (fun g V'' => Le V2 V'' ∧ SlI V'' (.slice g.2.1 g.1.length g.2.2) g.1 ∧ alG (knL s).length (shI (gdS s) (knL s)) m begun g.1 = alG (knL s).length (shI (gdS s) (knL s)) t begun begun ∧ g.1.length ≤ (knL s).length) ?_ ?_
   ·refine At.nrm ?_
    refine At.zl (.q 0 (.q 1 (.n false 2 .done))) ?_
    refine AtT.zh ?_
    refine AtT.kfn ?_
    refine AtT.zq rfl rfl ok70 (contains_n 94 [.pointer (some ⟨b3, 0, none⟩), .pointer (some ⟨b8, 0, none⟩)] (fun z => shI (gdS s) (knL s) z x) _ _ _ hs2 ok94 (fun z hz => share1_f s hok z x (hin z hz) hxi _ b _ _ hb2 q3b q8)) ?_
    rintro _ rfl
    refine AtT.done ?_
    refine At.nrm ?_
    refine At.cond rfl (fun hc => ?_) (fun hc => ?_)
    ·have hsh : shS (shI (gdS s) (knL s)) begun x = true := hc
     rw [if_pos hsh] at heq
     refine At.nrm ?_
     exact At.qC (out, ao, co) ⟨Le.refl _, hso2, heq, hol⟩ ⟨rfl, rfl, rfl, rfl, trivial⟩ Pt.zO
    ·have hsh : ¬ shS (shI (gdS s) (knL s)) begun x = true := fun h => by rw [show shS (shI (gdS s) (knL s)) begun x = false from hc] at h; cases h
     rw [if_neg hsh] at heq
     have hnin : InN (knL s).length (begun ++ [x]) := fun i hi => by
      rcases List.mem_append.1 hi with h | h
      ·exact hin i h
      ·rw [List.mem_singleton] at h; subst h; exact hxi
     have hnl : (begun ++ [x]).length = begun.length + 1 := by simp
     have hap := alG_in (knL s).length (shI (gdS s) (knL s)) m (begun ++ [x]) (begun ++ [x]) (by omega) (by omega) (by omega) hnin hnin
     refine At.nrm ?_
     refine At.jr (ι := Option Addr × Nat) (fun g => [(1, .slice a begun.length c), (3, .pointer (some ⟨b3, 0, none⟩)), (7, .slice ao out.length co), (8, .pointer (some ⟨b8, 0, none⟩)), (9, .slice g.1 (alG (knL s).length (shI (gdS s) (knL s)) m (begun ++ [x]) (begun ++ [x])).length g.2)]) (fun _ => [])
      (fun g V'' => Le V2 V'' ∧ SlI V'' (.slice g.1 (alG (knL s).length (shI (gdS s) (knL s)) m (begun ++ [x]) (begun ++ [x])).length g.2) (alG (knL s).length (shI (gdS s) (knL s)) m (begun ++ [x]) (begun ++ [x]))) ?_ ?_
     ·refine At.draw (.q 0 (.q 1 (.q 2 (.q 3 (.q 4 (.q 5 (.q 6 (.q 7 (.q 10 (.q 11 (.n false 8 (.n false 9 (.n false 12 (.q 13 .done)))))))))))))) ffm (by kernel_rfl) ?_
      first | refine AtT.zm tk80 ?_ | refine AtT.zo tk80 ?_
      refine AtT.zh ?_
      refine AtT.zh ?_
      first | refine AtT.zY Tryz.underlying39 ?_ | refine AtT.zZ Tryz.underlying39 ?_
      refine AtT.zh ?_
      first | refine AtT.zY Tryz.underlying39 ?_ | refine AtT.zZ Tryz.underlying39 ?_
      first | refine AtT.kclipAll Tryz.underlying39 tk3 ?_ | refine AtT.kclip Tryz.underlying39 tk3 ?_
      intro a30 hs30
      first | refine AtT.zm tk3 ?_ | refine AtT.zo tk3 ?_
      first | refine AtT.zm tk3 ?_ | refine AtT.zo tk3 ?_
      first | refine AtT.qi ?_ | refine AtT.zT ?_
      refine AtT.zw (zU _) ?_
      intro q32 V32 hV32 hq32
      have g32 : Le V V32 := by first | exact hV32 | exact Le.trans (by assumption) hV32
      refine AtT.appendC rfl trivial Tryz.underlying39 rw3 rfl (by decide) rfl (by first | assumption | exact Sl.le (by assumption) (by assumption)) rfl rfl (by first | assumption | exact Cells.le (by assumption) (by assumption)) (fun _ => rfl) (by simp) (by unfold maxLen; simp only [List.length_cons, List.length_nil]; omega) (by simp only [List.length_cons, List.length_nil]; omega) (by decide) (enc := ei) (m := [x]) ?_
      intro a33 c33 V33 hV33 hs33
      have g33 : Le V V33 := by first | exact hV33 | exact Le.trans (by assumption) hV33
      refine AtT.qg rfl rfl ok64 (ih m (by omega) (begun ++ [x]) (x + 1) _ _ (by omega) (by omega) (by omega) hnin (hb2.le (by first | assumption | exact Le.trans (by assumption) (by assumption))) hs33) ?_
      rintro v36 V36 hV36 hs36; obtain ⟨a36, c36, rfl, _⟩ := id hs36
      refine AtT.zf ?_
      refine AtT.done ?_
      refine At.nrm ?_
      all_goals (exact At.qC (a36, c36) ⟨by first | assumption | exact Le.trans (by assumption) (by assumption) | exact Le.trans (Le.trans (by assumption) (by assumption)) (by assumption), hs36⟩ ⟨rfl, rfl, rfl, rfl, rfl, trivial⟩ Pt.zO)
     rintro ⟨a36, c36⟩ V36 ks' O' ⟨hVV2, hs36⟩ hk hO hl5
     dsimp only at hk hO hs36
     subst hk hO
     have hso3 := hso2.le hVV2
     refine At.nrm ?_
     refine At.zl (.q 0 (.q 1 (.q 2 (.q 3 (.q 4 .done))))) ?_
     refine AtT.zh ?_
     first | refine AtT.zY Tryz.underlying39 ?_ | refine AtT.zZ Tryz.underlying39 ?_
     refine AtT.zh ?_
     first | refine AtT.zY Tryz.underlying39 ?_ | refine AtT.zZ Tryz.underlying39 ?_
     refine AtT.qw ?_
     refine AtT.done ?_
     refine At.nrm ?_
     refine At.qc rfl (fun hm => ?_) (fun hm => ?_)
     ·rw [if_pos (by omega)] at heq
      refine At.nrm ?_
      refine At.zl (.q 0 (.q 1 .done)) ?_
      refine AtT.zh ?_
      refine AtT.zf ?_
      refine AtT.done ?_
      refine At.nrm ?_
      exact At.qC (alG (knL s).length (shI (gdS s) (knL s)) m (begun ++ [x]) (begun ++ [x]), a36, c36) ⟨hVV2, hs36, heq, hap.2⟩ ⟨rfl, rfl, rfl, rfl, trivial⟩ Pt.zO
     ·rw [if_neg (by omega)] at heq
      refine At.nrm ?_
      exact At.qC (out, ao, co) ⟨hVV2, hso3, heq, hol⟩ ⟨rfl, rfl, rfl, rfl, trivial⟩ Pt.zO
   rintro ⟨out2, ao2, co2⟩ V3 ks' O' ⟨hV3, hso3, heq3, hol3⟩ hk2 hO hl4
   dsimp only at hk2 hO hso3 heq3 hol3
   subst hk2 hO
   have q83 := q8.le hV3
   refine At.nrm ?_
   refine At.zl (.q 0 .done) ?_
   first | refine AtT.zm tk3 ?_ | refine AtT.zo tk3 ?_
   refine AtT.done ?_
   refine At.nrm ?_
   refine At.zl (.n false 0 (.n true 1 .done)) ?_
   refine AtT.qx z3 ?_
   intro b8
   first | refine AtT.jf tk3 ?_ | refine AtT.zW tk3 ?_
   refine AtT.done ?_
   refine At.nrm ?_
   refine At.zl (.q 0 (.q 1 (.n true 2 .done))) ?_
   first | refine AtT.zm tk3 ?_ | refine AtT.zo tk3 ?_
   first | refine AtT.qi ?_ | refine AtT.zT ?_
   first | refine AtT.jf tk3 ?_ | refine AtT.zW tk3 ?_
   refine AtT.done ?_
   refine At.nrm ?_
   refine At.round (m, out2, ao2, co2, b8) ?_ ?_ ?_ ?_
   ·show m < m + 1; omega
   ·exact ⟨(hVV.trans hV2).trans hV3, by dsimp only; omega, hso3, heq3, hol3⟩
   ·exact ⟨rfl, rfl, rfl, rfl, trivial⟩
   dsimp only
   rw [show ((knL s).length : Int) - (m : Int) = x + 1 by omega]
   ·exact Pt.zO
  ·obtain rfl : m = 0 := by omega
   refine At.nrm ?_
   refine At.zl (.q 0 (.q 1 .done)) ?_
   refine AtT.zh ?_
   refine AtT.zf ?_
   refine AtT.done ?_
   refine At.nrm ?_
   refine At.qb rfl (.tmp rfl) ?_
   rw [← heq]; exact hso
end Go.Proofs.YtghomjjffllkeaaGreatDoor


set_option linter.unusedVariables false
namespace Go.Bl
open Go.Gl Go.Lw
structure Pq where
 m : Int
 o : Int
 h : Int
 deriving DecidableEq
structure Tq where
 p : Pq
 f : Bool
abbrev stv (s : Nat) : Value := .agg #[iv (s : Int)]
end Go.Bl

set_option linter.unusedVariables false
namespace Go.Pm
open Go.Gl Go.Lw
def cAe (s : Sh) (l : List Int) : Int :=
 if chE s ≠ 0 then chE s else if lstB l (knL s).length = false then 3 else if okS (shI (gdS s) (knL s)) l = false then 16 else 0
def aloL (s : Sh) : List Int := alG (knL s).length (shI (gdS s) (knL s)) (knL s).length [] []
theorem okS_no {S : Int → Int → Bool} {l : List Int} {k : Nat} {x : Int} (h : l[k]? = some x) (hs : shS S (l.take k) x = true) : okS S l = false := by
 unfold okS
 rw [decide_eq_false_iff_not]
 intro hp
 unfold shS at hs
 obtain ⟨y, hy, hS⟩ := List.any_eq_true.1 hs
 obtain ⟨i, hi, rfl⟩ := List.mem_take_iff_getElem.1 hy
 have hkl := (List.getElem?_eq_some_iff.1 h).1
 have e : l[k] = x := (List.getElem?_eq_some_iff.1 h).2
 have := List.pairwise_iff_getElem.1 hp i k (by omega) hkl (by omega)
 rw [e, hS] at this; cases this
theorem okS_yes {S : Int → Int → Bool} {l : List Int} (h : ∀ k x, l[k]? = some x → shS S (l.take k) x = false) : okS S l = true := by
 unfold okS
 rw [decide_eq_true_eq, List.pairwise_iff_getElem]
 intro i j hi hj hij
 have := h j _ (List.getElem?_eq_getElem hj)
 unfold shS at this
 cases c : S l[i] l[j] with
 | false => rfl
 | true =>
  rw [List.any_eq_true.2 ⟨l[i], List.mem_take_iff_getElem.2 ⟨i, by omega, rfl⟩, c⟩] at this; cases this
end Go.Pm
set_option linter.unusedVariables false
namespace Go.Proofs.YtghomjjffllkeaaGreatDoor
open Go.Lw Go.Gl Go.Pm Go.RowKit
theorem aloneP_f (s : Sh) (V : View) (v : Value) (hv : ShV V v s) : Fnc Tryz.prog 28 [v] V fun r V' => ∃ u, r = .tuple #[u, iv (chE s)] ∧ SlI V' u (if chE s = 0 then aloL s else []) := by
 obtain ⟨a, c, rfl, hs⟩ := id hv
 refine qf Tryz.func28 rfl Tryz.ntmps28 (Nat.le_of_ble_eq_true rfl) ?_
 intro w0 hw0
 refine At.nrm ?_
 refine At.zl (.n false 0 (.q 1 (.q 2 .done))) ?_
 refine AtT.jb ?_
 intro b1
 refine AtT.zf ?_
 refine AtT.zf ?_
 refine AtT.done ?_
 refine At.nrm ?_
 by_cases h0 : chE s = 0
 rotate_left
 ·refine At.zl (.q 0 (.n false 1 (.q 2 (.q 3 (.q 4 (.q 5 (.q 6 .done))))))) ?_
  first | refine AtT.zD zM ?_ | refine AtT.zJ zM ?_ | refine AtT.zC zM ?_
  refine AtT.qg rfl rfl ok57 (open_bad s h0 _ _ hv) ?_
  rintro v8 V8 hV8 rfl
  refine AtT.zh ?_
  refine AtT.zL ?_
  refine AtT.zL ?_
  refine AtT.zf ?_
  refine AtT.zf ?_
  refine AtT.done ?_
  refine At.nrm ?_
  refine At.nrm ?_
  refine At.zl (.q 0 (.q 1 .done)) ?_
  refine AtT.zh ?_
  refine AtT.qH ?_
  refine AtT.done ?_
  refine At.nrm ?_
  refine At.qB rfl (decide_eq_true h0) ?_
  refine At.nrm ?_
  refine At.zl (.q 0 (.q 1 (.q 2 .done))) ?_
  refine AtT.zh ?_
  refine AtT.zf ?_
  refine AtT.zf ?_
  refine AtT.done ?_
  refine At.nrm ?_
  exact At.jh rfl (.tmp rfl) (.tmp rfl) ⟨_, rfl, by rw [if_neg h0]; exact Sl.nil _ _ _⟩
 refine At.zl (.q 0 (.n false 1 (.q 2 (.q 3 (.q 4 (.q 5 (.q 6 .done))))))) ?_
 first | refine AtT.zD zM ?_ | refine AtT.zJ zM ?_ | refine AtT.zC zM ?_
 refine AtT.qg rfl rfl ok57 (open_ok s h0 _ _ hv) ?_
 rintro v8 V8 hV8 ⟨b, rfl, hb⟩
 refine AtT.zh ?_
 refine AtT.zL ?_
 refine AtT.zL ?_
 refine AtT.zf ?_
 refine AtT.zf ?_
 refine AtT.done ?_
 refine At.nrm ?_
 refine At.nrm ?_
 refine At.zl (.q 0 (.q 1 .done)) ?_
 refine AtT.zh ?_
 refine AtT.qH ?_
 refine AtT.done ?_
 refine At.nrm ?_
 refine At.qW rfl rfl ?_
 refine At.nrm ?_
 refine At.zl (.q 0 (.n false 1 (.q 2 (.q 3 .done)))) ?_
 refine AtT.zh ?_
 refine AtT.qg rfl rfl ok64 (alone_f s (jo h0) b (knL s).length [] 0 _ _ (by omega) (by omega) (by simp) (fun i hi => by cases hi) hb (Sl.nil _ _ _)) ?_
 rintro v15 V15 hV15 hs15
 refine AtT.zf ?_
 refine AtT.zf ?_
 refine AtT.done ?_
 refine At.nrm ?_
 exact At.jh rfl (.tmp rfl) (.tmp rfl) ⟨_, by rw [h0], by rw [if_pos h0]; exact hs15⟩
theorem share2_f (s : Sh) (hok : ShOk s) (z x : Int) (hz : 0 ≤ z ∧ z < ((knL s).length : Int)) (hx : 0 ≤ x ∧ x < ((knL s).length : Int)) (V : View) (b : Nat) (p3 p8 : Addr) (hb : BnV V b s) (q3 : Cells V p3 [.func (.func 69) #[.pointer (some ⟨b, 0, none⟩)] #[]]) (q8 : Cells V p8 [iv x]) :
  Fnc Tryz.prog 71 ([] ++ [iv z] ++ [.pointer (some p3), .pointer (some p8)]) V fun r _ => r = .bool (shI (gdS s) (knL s) z x) := by
 obtain ⟨i, rfl⟩ : ∃ i : Nat, z = (i : Int) := ⟨z.toNat, by omega⟩
 obtain ⟨k, rfl⟩ : ∃ k : Nat, x = (k : Int) := ⟨x.toNat, by omega⟩
 have hf := fun V' (hV : Le V V') => share_f s hok i k (by omega) (by omega) V' b (hb.le hV)
 refine qf Tryz.func71 rfl Tryz.ntmps71 (Nat.le_of_ble_eq_true rfl) ?_
 intro w0 hw0
 refine At.nrm ?_
 refine At.zl (.q 0 .done) ?_
 refine AtT.zf ?_
 refine AtT.done ?_
 refine At.nrm ?_
 refine At.zl (.q 0 (.q 1 (.q 2 (.n false 3 (.q 4 .done))))) ?_
 first | refine AtT.zm tk102 ?_ | refine AtT.zo tk102 ?_
 refine AtT.zh ?_
 first | refine AtT.zm tk3 ?_ | refine AtT.zo tk3 ?_
 refine AtT.kcallV rfl rfl rfl ok69 (hf _ (Le.refl _)) ?_
 rintro _ rfl
 refine AtT.zf ?_
 refine AtT.done ?_
 refine At.nrm ?_
 exact At.qb rfl (.tmp rfl) (by unfold shI; rw [Int.toNat_natCast, Int.toNat_natCast])
theorem zu (s : Sh) (l : List Int) (V : View) (v u : Value) (hv : ShV V v s) (hl : SlI V u l) : Fnc Tryz.prog 32 [v, u] V fun r _ => r = iv (cAe s l) := by
 obtain ⟨a, c, rfl, hs⟩ := id hv
 obtain ⟨a1, c1, rfl, k1, k2, _⟩ := id hl
 clear k1 k2
 have hlen := hl.je
 refine qf Tryz.func32 rfl Tryz.ntmps32 (Nat.le_of_ble_eq_true rfl) ?_
 intro w0 hw0
 refine At.nrm ?_
 refine At.zl (.n false 0 (.q 1 .done)) ?_
 refine AtT.jb ?_
 intro b2
 refine AtT.zf ?_
 refine AtT.done ?_
 refine At.nrm ?_
 by_cases h0 : chE s = 0
 rotate_left
 ·refine At.zl (.q 0 (.n false 1 (.q 2 (.q 3 (.q 4 (.q 5 (.q 6 .done))))))) ?_
  first | refine AtT.zD zM ?_ | refine AtT.zJ zM ?_ | refine AtT.zC zM ?_
  refine AtT.qg rfl rfl ok57 (open_bad s h0 _ _ hv) ?_
  rintro v15 V15 hV15 rfl
  refine AtT.zh ?_
  refine AtT.zL ?_
  refine AtT.zL ?_
  refine AtT.zf ?_
  refine AtT.zf ?_
  refine AtT.done ?_
  refine At.nrm ?_
  refine At.nrm ?_
  refine At.zl (.q 0 (.q 1 .done)) ?_
  refine AtT.zh ?_
  refine AtT.qH ?_
  refine AtT.done ?_
  refine At.nrm ?_
  refine At.qB rfl (decide_eq_true h0) ?_
  refine At.nrm ?_
  refine At.zl (.q 0 (.q 1 .done)) ?_
  refine AtT.zh ?_
  refine AtT.zf ?_
  refine AtT.done ?_
  refine At.nrm ?_
  exact At.qb rfl (.tmp rfl) (by unfold cAe; rw [if_pos h0])
 have hok := jo h0
 have hkn := hok.kn
 have e0 : ¬ chE s ≠ 0 := by simpa using h0
 refine At.zl (.q 0 (.n false 1 (.q 2 (.q 3 (.q 4 (.q 5 (.q 6 .done))))))) ?_
 first | refine AtT.zD zM ?_ | refine AtT.zJ zM ?_ | refine AtT.zC zM ?_
 refine AtT.qg rfl rfl ok57 (open_ok s h0 _ _ hv) ?_
 rintro v15 V15 hV15 ⟨b, rfl, hb⟩
 refine AtT.zh ?_
 refine AtT.zL ?_
 refine AtT.zL ?_
 refine AtT.zf ?_
 refine AtT.zf ?_
 refine AtT.done ?_
 refine At.nrm ?_
 obtain ⟨ab, cb, ak, ck, hc0, hc1, hc2, hc3, hsb, hsk⟩ := bn_get hb
 have hl2 := hl.le hV15
 refine At.nrm ?_
 refine At.zl (.q 0 (.q 1 .done)) ?_
 refine AtT.zh ?_
 refine AtT.qH ?_
 refine AtT.done ?_
 refine At.nrm ?_
 refine At.qW rfl rfl ?_
 refine At.nrm ?_
 refine At.zl (.q 0 .done) ?_
 refine AtT.zf ?_
 refine AtT.done ?_
 refine At.nrm ?_
 refine At.zl (.q 0 (.q 1 (.q 2 .done))) ?_
 refine AtT.zh ?_
 first | refine AtT.zY Tryz.underlying39 ?_ | refine AtT.zZ Tryz.underlying39 ?_
 refine AtT.zh ?_
 refine AtT.done ?_
 refine At.nrm ?_
 refine At.lp (ι := Nat) (KS := fun k => [(1, .slice a1 l.length c1), (5, .pointer (some ⟨b, 0, none⟩)), (7, iv (prevN l k)), (21, .slice a1 l.length c1), (22, iv l.length), (23, iv k)]) (OS := fun _ => [])
  (VS := fun k V' => Le V15 V' ∧ k ≤ l.length ∧ ∀ j, j < k → okAt l (knL s).length j = true) (μ := fun k => l.length - k) 0 ?_ ?_ ?_ ?_
 ·exact ⟨rfl, rfl, rfl, rfl, rfl, rfl, trivial⟩
 ·exact Pt.zO
 ·exact ⟨Le.refl _, Nat.zero_le _, fun j hj => absurd hj (Nat.not_lt_zero j)⟩
 rintro k V' ks' O' ⟨hVV, hkl, hokk⟩ hk hO hl3
 subst hk hO
 have hp0 := prevN_pos hokk
 have hl3 := hl2.le hVV
 have hc2' := hc2.le hVV
 have hsk' := hsk.le hVV
 refine At.nrm ?_
 refine At.zl (.q 0 .done) ?_
 refine AtT.qa ?_
 refine AtT.done ?_
 refine At.nrm ?_
 refine At.qc rfl (fun hp => ?_) (fun hp => ?_)
 ·obtain ⟨x, hx⟩ : ∃ x, l[k]? = some x := ⟨_, List.getElem?_eq_getElem (by omega)⟩
  have hgx : l.getD k 0 = x := by simp [List.getD, hx]
  refine At.nrm ?_
  refine At.zl (.q 0 (.q 1 (.q 2 .done))) ?_
  refine AtT.qp Tryz.underlying39 tk3 ?_
  intro p25 e25 he25 hc25
  first | refine AtT.zm tk3 ?_ | refine AtT.zo tk3 ?_
  obtain rfl : x = e25 := by have : l[k]? = some e25 := (by simpa using he25); rw [hx] at this; simpa using this
  refine AtT.zf ?_
  refine AtT.done ?_
  refine At.nrm ?_
  by_cases c1' : prevN l k ≤ x ∧ x ≤ ((knL s).length : Int) - 1
  ·refine At.nrm ?_
   refine At.zl (.q 0 (.q 1 (.q 2 (.q 3 (.q 4 (.q 5 (.q 6 (.q 7 (.n false 8 (.n false 9 (.q 10 .done))))))))))) ?_
   refine AtT.zh ?_
   refine AtT.zh ?_
   refine AtT.knil ?_
   first | refine AtT.zi qy ?_ | with_reducible refine AtT.zk qy ?_ | refine AtT.zn qy ?_
   first | refine AtT.zm tk84 ?_ | refine AtT.zo tk84 ?_
   first | refine AtT.zY Tryz.underlying84 ?_ | refine AtT.zZ Tryz.underlying84 ?_
   first | refine AtT.qD ?_ | refine AtT.qE ?_
   refine AtT.zh ?_
   refine AtT.zw (zU _) ?_
   intro q35 V35 hV35 hq35
   have g35 : Le V V35 := by first | exact hV35 | exact Le.trans (by assumption) hV35
   refine AtT.zq rfl rfl jq (qj (prevN l k) (((knL s).length : Int) - 1) [x] _ _ (Sl.lit hq35 rfl (by simp))) ?_
   rintro _ rfl; rw [jv, decide_eq_true c1']
   refine AtT.qZ ?_
   refine AtT.done ?_
   refine At.nrm ?_
   refine At.qW rfl rfl ?_
   refine At.nrm ?_
   refine At.zl (.q 0 (.q 1 (.q 2 .done))) ?_
   refine AtT.zh ?_
   first | refine AtT.qi ?_ | refine AtT.zT ?_
   refine AtT.zf ?_
   refine AtT.done ?_
   refine At.nrm ?_
   refine At.zl (.q 0 (.q 1 .done)) ?_
   first | refine AtT.qi ?_ | refine AtT.zT ?_
   refine AtT.zh ?_
   refine AtT.done ?_
   refine At.nrm ?_
   refine At.round (k + 1) ?_ ?_ ?_ ?_
   ·show l.length - (k + 1) < l.length - k; omega
   ·refine ⟨hVV.trans (by assumption), by omega, fun j hj => ?_⟩
    by_cases hjk : j = k
    ·subst hjk; unfold okAt; rw [hgx]; exact decide_eq_true (by omega)
    ·exact hokk j (by omega)
   ·exact ⟨rfl, rfl, ivs (by simp only [prevN]; rw [hgx]), rfl, rfl, ivs (by omega), trivial⟩
   ·exact Pt.zO
  ·refine At.nrm ?_
   refine At.zl (.q 0 (.q 1 (.q 2 (.q 3 (.q 4 (.q 5 (.q 6 (.q 7 (.n false 8 (.n false 9 (.q 10 .done))))))))))) ?_
   refine AtT.zh ?_
   refine AtT.zh ?_
   refine AtT.knil ?_
   first | refine AtT.zi qy ?_ | with_reducible refine AtT.zk qy ?_ | refine AtT.zn qy ?_
   first | refine AtT.zm tk84 ?_ | refine AtT.zo tk84 ?_
   first | refine AtT.zY Tryz.underlying84 ?_ | refine AtT.zZ Tryz.underlying84 ?_
   first | refine AtT.qD ?_ | refine AtT.qE ?_
   refine AtT.zh ?_
   refine AtT.zw (zU _) ?_
   intro q35 V35 hV35 hq35
   have g35 : Le V V35 := by first | exact hV35 | exact Le.trans (by assumption) hV35
   refine AtT.zq rfl rfl jq (qj (prevN l k) (((knL s).length : Int) - 1) [x] _ _ (Sl.lit hq35 rfl (by simp))) ?_
   rintro _ rfl; rw [jv, decide_eq_false c1']
   refine AtT.qZ ?_
   refine AtT.done ?_
   refine At.nrm ?_
   refine At.qB rfl rfl ?_
   have hno : lstB l (knL s).length = false := lstB_false (k := k) (by omega) (by unfold okAt; rw [hgx]; exact decide_eq_false (by omega))
   refine At.nrm ?_
   refine At.zl (.q 0 .done) ?_
   refine AtT.zf ?_
   refine AtT.done ?_
   refine At.nrm ?_
   exact At.qb rfl (.tmp rfl) (by unfold cAe; rw [if_neg e0, if_pos hno])
 obtain rfl : k = l.length := by omega
 have hlst := lstB_true hokk
 have hin := lstB_in hlst
 have e1 : ¬ lstB l (knL s).length = false := by rw [hlst]; simp
 have hb2 := hb.le hVV
 refine At.nrm ?_
 refine At.zl (.q 0 (.q 1 (.n false 2 (.n true 3 .done)))) ?_
 refine AtT.zh ?_
 refine AtT.kfn ?_
 refine AtT.qx z102 ?_
 intro b10
 first | refine AtT.jf tk102 ?_ | refine AtT.zW tk102 ?_
 refine AtT.done ?_
 refine At.nrm ?_
 refine At.giveB (b := b10) zX.zO (fun V2 hV2 hb10 => ?_)
 have q10 := qP hb10
 have hb3 := hb2.le hV2
 have hl4 := hl3.le hV2
 refine At.zl (.q 0 (.q 1 (.q 2 .done))) ?_
 refine AtT.zh ?_
 first | refine AtT.zY Tryz.underlying39 ?_ | refine AtT.zZ Tryz.underlying39 ?_
 refine AtT.zh ?_
 refine AtT.done ?_
 refine At.nrm ?_
 refine At.lp (ι := Nat) (KS := fun k => [(1, .slice a1 l.length c1), (10, .pointer (some ⟨b10, 0, none⟩)), (43, .slice a1 l.length c1), (44, iv l.length), (45, iv k)]) (OS := fun _ => [])
  (VS := fun k V' => Le V2 V' ∧ k ≤ l.length ∧ ∀ j x, j < k → l[j]? = some x → shS (shI (gdS s) (knL s)) (l.take j) x = false) (μ := fun k => l.length - k) 0 ?_ ?_ ?_ ?_
 ·exact ⟨rfl, rfl, rfl, rfl, rfl, trivial⟩
 ·exact Pt.zO
 ·exact ⟨Le.refl _, Nat.zero_le _, fun j x hj => absurd hj (Nat.not_lt_zero j)⟩
 rintro k V3 ks' O' ⟨hV3, hkl, hall⟩ hk hO hl5
 subst hk hO
 have hl5 := hl4.le hV3
 refine At.nrm ?_
 refine At.zl (.q 0 .done) ?_
 refine AtT.qa ?_
 refine AtT.done ?_
 refine At.nrm ?_
 refine At.qc rfl (fun hp2 => ?_) (fun hp2 => ?_)
 rotate_left
 ·obtain rfl : k = l.length := by omega
  have hyes := okS_yes (S := shI (gdS s) (knL s)) (l := l) fun j x hj => hall j x (List.getElem?_eq_some_iff.1 hj).1 hj
  refine At.nrm ?_
  refine At.zl (.q 0 .done) ?_
  refine AtT.zf ?_
  refine AtT.done ?_
  refine At.nrm ?_
  exact At.qb rfl (.tmp rfl) (by unfold cAe; rw [if_neg e0, if_neg e1, if_neg (by rw [hyes]; simp)])
 obtain ⟨x, hx⟩ : ∃ x, l[k]? = some x := ⟨_, List.getElem?_eq_getElem (by omega)⟩
 have hxin := hin x (List.mem_of_getElem? hx)
 refine At.nrm ?_
 refine At.zl (.q 0 (.q 1 (.q 2 (.n false 3 (.q 4 (.n true 5 .done)))))) ?_
 refine AtT.zh ?_
 refine AtT.qp Tryz.underlying39 tk3 ?_
 intro p48 e48 he48 hc48
 first | refine AtT.zm tk3 ?_ | refine AtT.zo tk3 ?_
 obtain rfl : x = e48 := by have : l[k]? = some e48 := (by simpa using he48); rw [hx] at this; simpa using this
 refine AtT.qx z3 ?_
 intro b12
 refine AtT.zf ?_
 first | refine AtT.jf tk3 ?_ | refine AtT.zW tk3 ?_
 refine AtT.done ?_
 refine At.nrm ?_
 refine At.giveB (b := b12) zX.zO (fun V4 hV4 hb12 => ?_)
 have q12 := qP hb12
 have hb5 := (hb3.le hV3).le hV4
 have q10' := (q10.le hV3).le hV4
 have hl6 := hl5.le hV4
 refine At.nrm ?_
 refine At.zl (.q 0 (.q 1 (.q 2 (.q 3 (.n false 4 .done))))) ?_
 refine AtT.zh ?_
 refine AtT.zh ?_
 refine AtT.khead Tryz.underlying39 tk3 ?_
 intro a52 c52 hs52
 refine AtT.kfn ?_
 refine AtT.zq rfl rfl ok70 (contains_n 71 [.pointer (some ⟨b10, 0, none⟩), .pointer (some ⟨b12, 0, none⟩)] (fun z => shI (gdS s) (knL s) z x) _ _ _ hs52 ok71 (fun z hz => share2_f s hok z x (hin z (List.mem_of_mem_take hz)) hxin _ b _ _ hb5 q10' q12)) ?_
 rintro _ rfl
 refine AtT.done ?_
 refine At.nrm ?_
 refine At.cond rfl (fun hc => ?_) (fun hc => ?_)
 ·have hno : okS (shI (gdS s) (knL s)) l = false := okS_no hx (by rw [Int.toNat_natCast] at hc; exact hc)
  refine At.nrm ?_
  refine At.zl (.q 0 .done) ?_
  refine AtT.zf ?_
  refine AtT.done ?_
  refine At.nrm ?_
  exact At.qb rfl (.tmp rfl) (by unfold cAe; rw [if_neg e0, if_neg e1, if_pos hno])
 ·refine At.nrm ?_
  refine At.zl (.q 0 (.q 1 .done)) ?_
  first | refine AtT.qi ?_ | refine AtT.zT ?_
  refine AtT.zh ?_
  refine AtT.done ?_
  refine At.nrm ?_
  refine At.round (k + 1) ?_ ?_ ?_ ?_
  ·show l.length - (k + 1) < l.length - k; omega
  ·refine ⟨hV3.trans hV4, by omega, fun j y hj hy => ?_⟩
   by_cases e : j = k
   ·subst e
    rw [hx] at hy; cases hy
    rw [Int.toNat_natCast] at hc; exact hc
   ·exact hall j y (by omega) hy
  ·exact ⟨rfl, rfl, rfl, rfl, ivs (by omega), trivial⟩
  ·exact Pt.zO
end Go.Proofs.YtghomjjffllkeaaGreatDoor

set_option linter.unusedVariables false
namespace Go.Proofs.YtghomjjffllkeaaGreatDoor
open Go.Lw Go.Gl Go.Pm Go.RowKit Go.Sort Go.Shelf
abbrev srtI (l : List Int) : List Int := l.mergeSort fun x y => decide (x ≤ y)
theorem sortI_f (l : List Int) (rest : List Value) (b cap : Nat) (w : World) (hb : w.heap[b]? = some (LC (flat ei l ++ rest) 3)) (hl : l.length < 4611686018427387904) :
  Calls Tryz.prog 100 #[.slice (some ⟨b, 0, none⟩) l.length cap] w fun e w' => e = .returned (.tuple #[]) ∧ w'.os = w.os ∧ w'.tape = w.tape ∧ w'.output = w.output ∧ w.heap.size ≤ w'.heap.size ∧ (∀ k, k < w.heap.size → k ≠ b → w'.heap[k]? = w.heap[k]?) ∧ w'.heap[b]? = some (LC (flat ei (srtI l) ++ rest) 3) := by
 have hbs : b < w.heap.size := (Array.getElem?_eq_some_iff.1 hb).1
 have hlen : (flat ei l).length = l.length * 1 := qU Lw.ei_len l
 have hH : Holds (Value.int .i64) w b 0 l.toArray := by
  intro j hj
  rw [List.size_toArray] at hj
  refine ⟨?_, ?_⟩
  ·rw [Nat.zero_add, cell_blk hb, List.getElem?_append_left (by rw [hlen]; omega), flat_ei, List.getElem?_map, List.getElem?_eq_getElem hj, getElem!_pos _ _ (by simpa using hj)]
   simp
  ·simp [World.frozen?, hb, LC]
 refine (Any.slices_Sort_int lay_sort b 0 cap l w hH hbs hl).mono fun e w' ⟨he, n, os, hw⟩ => ?_
 have hsz : (srtI l).length = l.length := List.length_mergeSort l
 have hf1 : (flat ei (srtI l)).length = (srtI l).length * 1 := qU Lw.ei_len _
 subst hw
 refine ⟨he, rfl, rfl, rfl, ?_, fun k hk hkb => ?_, ?_⟩
 ·show w.heap.size ≤ ((w.heap.modify b _) ++ os).size
  simp
 ·show ((w.heap.modify b _) ++ os)[k]? = _
  rw [Array.getElem?_append_left (by simpa using hk), Array.getElem?_modify, if_neg (fun h => hkb h.symm)]
 ·show ((w.heap.modify b _) ++ os)[b]? = _
  rw [Array.getElem?_append_left (by simpa using hbs), Array.getElem?_modify, if_pos rfl, hb]
  simp only [Option.map_some, onCells, LC]
  congr 2
  apply Array.ext
  ·simp [putCells]; omega
  ·intro t h1 h2
   simp only [putCells, Array.size_mapIdx, List.size_toArray] at h1
   simp only [putCells, Array.getElem_mapIdx, Nat.zero_le, true_and, Nat.zero_add, List.size_toArray, Nat.sub_zero, id]
   by_cases c : t < (srtI l).length
   ·rw [if_pos c, getElem!_pos _ _ (by simpa using c)]
    simp only [List.getElem_toArray]
    rw [List.getElem_append_left (by omega)]
    simp [flat_ei]
   ·rw [if_neg c]
    simp only [List.getElem_toArray]
    rw [List.getElem_append_right (by omega), List.getElem_append_right (by omega)]
    congr 1; omega
theorem srtI_perm (l : List Int) : (srtI l).Perm l := List.mergeSort_perm _ _
theorem srtI_sorted {l : List Int} (h : l.Nodup) : (srtI l).Pairwise (· < ·) := by
 have h1 : (srtI l).Pairwise (fun x y => decide (x ≤ y) = true) := List.pairwise_mergeSort (fun a b c h1 h2 => by simp only [decide_eq_true_eq] at *; omega) (fun a b => by simp only [Bool.or_eq_true, decide_eq_true_eq]; omega) l
 have h2 : (srtI l).Nodup := (srtI_perm l).nodup_iff.2 h
 refine (h1.and h2).imp fun {a b} hab => ?_
 have := of_decide_eq_true hab.1
 have := hab.2
 omega
theorem AtT.sortI {cx : Cx} {n : Nat} {ks : List (Nat × Value)} {O R : List Own} {V : View} {ops : Array Oper} {Qn : Act → World → Prop} {t : Tr} {i d : Nat} {T : TypeId} {pos : String} {after : Array Edge} {gd : Option (Nat × Bool)} {x : Operand} {ts : Array TypeId} {b cap : Nat} {l : List Int} {rest : List Value}
  (ho : ops[i]? = some ⟨some d, .call ⟨.value (.func 100), #[x], ts⟩, T, pos, after, gd⟩) (hg : Gd ks ops gd) (hx : ev ks x = some (.slice (some ⟨b, 0, none⟩) l.length cap)) (hl : l.length < 4611686018427387904) (hp : zX (.blk b (LC (flat ei l ++ rest) 3)) O R) (hn : d < n)
  (next : AtT cx n ((d, .tuple #[]) :: ks) (.blk b (LC (flat ei (srtI l) ++ rest) 3) :: R) V Tryz.prog ops Qn t) : AtT cx n ks O V Tryz.prog ops Qn (.n true i t) :=
 .x ho hg fun a w hk hm => by
  have hm1 := hm.pick hp
  have e : (#[x] : Array Operand).map a.eval = #[.slice (some ⟨b, 0, none⟩) l.length cap] := by simp [hk.ev hx]
  have e2 : a.eval (.func 100) = .func (.func 100) #[] #[] := rfl
  simp only [opW, execOp, resolve, e, e2, Deferred.ofValue, Sem.run_bind, Sem.run_pure, Result.andThen_ok, invoke, Array.empty_append, Array.append_empty]
  rw [ok100 _ w]
  refine (sortI_f l rest b cap w hm1.blk hl).mono fun e w' ⟨h0, h3, h4, h5, h6, h7, h8⟩ => ?_
  subst h0
  have hm2 := hm1.set (w' := w') ⟨h3, h4, h5, h6, fun k hk hne => h7 k hk (fun e => hne (by rw [e]))⟩ h8
  exact ⟨_, _, V, hk.put hn _, hm2, fun h => (by cases h), next⟩
theorem containsI_f (l : List Int) (x : Int) (V : View) (v : Value) (hs : SlI V v l) : Fnc Tryz.prog 99 [v, iv x] V fun r _ => r = .bool (l.any (· == x)) := by
 have hlen := hs.je
 obtain ⟨a, c, rfl, k1, k2, _⟩ := id hs
 clear k1 k2
 have hix : decide (0 ≤ ixI (l.findIdx? (· == x))) = l.any (· == x) := by
  cases h : l.findIdx? (· == x) with
  | none =>
   rw [List.findIdx?_eq_none_iff] at h
   have : l.any (· == x) = false := List.any_eq_false.2 fun y hy => by rw [h y hy]; simp
   rw [this]; rfl
  | some j =>
   obtain ⟨hj, hp, _⟩ := List.findIdx?_eq_some_iff_getElem.1 h
   have : l.any (· == x) = true := List.any_eq_true.2 ⟨_, List.getElem_mem hj, hp⟩
   rw [this]
   exact decide_eq_true (Int.natCast_nonneg _)
 refine qf Tryz.func99 rfl Tryz.ntmps99 (Nat.le_of_ble_eq_true rfl) ?_
 intro w0 hw0
 refine At.nrm ?_
 refine At.zl (.q 0 .done) ?_
 refine AtT.zf ?_
 refine AtT.done ?_
 refine At.nrm ?_
 refine At.zl (.q 0 (.q 1 (.n false 2 (.q 3 (.q 4 .done))))) ?_
 refine AtT.zh ?_
 refine AtT.zh ?_
 refine AtT.zq rfl rfl ok125 (indexI_f l x _ _ hs) ?_
 rintro _ rfl
 refine AtT.kgeq ?_
 refine AtT.zf ?_
 refine AtT.done ?_
 refine At.nrm ?_
 exact At.qb rfl (.tmp rfl) (by rw [← hix])
end Go.Proofs.YtghomjjffllkeaaGreatDoor
set_option linter.unusedVariables false
namespace Go.Pm
open Go.Gl Go.Lw
structure Gat (N : Nat) (S : Nat → Nat → Bool) (i : Nat) (P : List Int) : Prop where
 fst : (i : Int) ∈ P
 nd : P.Nodup
 rch : ∀ x ∈ P, ∃ k : Nat, x = (k : Int) ∧ k < N ∧ Rch N S i k
theorem gat_start {N : Nat} {S : Nat → Nat → Bool} {i : Nat} (hi : i < N) : Gat N S i [(i : Int)] := ⟨by simp, by simp, fun x hx => by
 rw [List.mem_singleton] at hx; exact ⟨i, hx, hi, .refl⟩⟩
theorem gat_len {N : Nat} {S : Nat → Nat → Bool} {i : Nat} {P : List Int} (h : Gat N S i P) : P.length ≤ N := by
 have h1 : (P.map Int.toNat).Nodup := by
  refine List.pairwise_map.2 (h.nd.imp_of_mem fun {a b} ha hb hne e => ?_)
  obtain ⟨k, rfl, _, _⟩ := h.rch a ha
  obtain ⟨m, rfl, _, _⟩ := h.rch b hb
  rw [Int.toNat_natCast, Int.toNat_natCast] at e
  exact hne (by rw [e])
 have := nodup_lt h1 (n := N) fun x hx => by
  obtain ⟨y, hy, rfl⟩ := List.mem_map.1 hx
  obtain ⟨k, rfl, hk, _⟩ := h.rch y hy
  rwa [Int.toNat_natCast]
 rwa [List.length_map] at this
theorem gat_add {N : Nat} {S : Nat → Nat → Bool} {i j k : Nat} {P : List Int} (h : Gat N S i P) (hj : (j : Int) ∈ P) (hk : k < N) (hS : S j k = true) (hn : (k : Int) ∉ P) : Gat N S i (P ++ [(k : Int)]) := by
 refine ⟨List.mem_append_left _ h.fst, List.nodup_append.2 ⟨h.nd, by simp, fun a ha b hb e => ?_⟩, fun x hx => ?_⟩
 ·rw [List.mem_singleton] at hb
  subst hb; subst e; exact hn ha
 ·rcases List.mem_append.1 hx with hx | hx
  ·exact h.rch x hx
  ·rw [List.mem_singleton] at hx
   obtain ⟨j', e, hj', hr⟩ := h.rch _ hj
   have : j' = j := by omega
   subst this
   exact ⟨k, hx, hk, .step hr hk hS⟩
def Cls (N : Nat) (S : Nat → Nat → Bool) (P : List Int) (j : Nat) : Prop := ∀ (u : Nat) (a : Nat), u < j → P[u]? = some (a : Int) → ∀ k, k < N → S a k = true → (k : Int) ∈ P
theorem cls_add {N : Nat} {S : Nat → Nat → Bool} {P : List Int} {j : Nat} {x : Int} (h : Cls N S P j) (hj : j ≤ P.length) : Cls N S (P ++ [x]) j := fun u a hu ha k hk hs => by
 rw [List.getElem?_append_left (by omega)] at ha
 exact List.mem_append_left _ (h u a hu ha k hk hs)
theorem gat_end {N : Nat} {S : Nat → Nat → Bool} {i : Nat} {P : List Int} (hi : i < N) (h : Gat N S i P) (hc : Cls N S P P.length) {l : List Int} (hp : l.Perm P) (hs : l.Pairwise (· < ·)) : IsPart N S i l := by
 refine ⟨hs, fun x => ⟨fun hx => ?_, ?_⟩⟩
 ·obtain ⟨k, e, _, hr⟩ := h.rch x (hp.mem_iff.1 hx)
  exact ⟨k, e, hr⟩
 ·rintro ⟨k, rfl, hr⟩
  rw [hp.mem_iff]
  induction hr with
  | refl => exact h.fst
  | step h1 hk hS ih =>
   obtain ⟨u, hu⟩ := List.getElem?_of_mem ih
   exact hc u _ (List.getElem?_eq_some_iff.1 hu).1 hu _ hk hS
end Go.Pm
set_option linter.unusedVariables false
namespace Go.Pm
open Go.Gl Go.Lw
theorem sl_det {V : View} {v : Value} {l m : List Int} (h : SlI V v l) (k : SlI V v m) : l = m := by
 obtain ⟨a, c, rfl, _, _, ha, hc⟩ := h
 obtain ⟨a', c', e, _, _, ha', hc'⟩ := k
 have e1 : a = a' := by injection e
 have e2 : l.length = m.length := by injection e
 subst e1
 apply List.ext_getElem e2
 intro i h1 h2
 have hne : l ≠ [] := fun h => by rw [h] at h1; simp at h1
 obtain ⟨p, rfl⟩ := Option.isSome_iff_exists.1 (ha hne)
 have x1 := hc p rfl i l[i] (List.getElem?_eq_getElem h1) 0 _ rfl
 have x2 := hc' p rfl i m[i] (List.getElem?_eq_getElem h2) 0 _ rfl
 rw [x1] at x2
 have x3 := Option.some.inj x2
 injection x3
end Go.Pm
namespace Go.Proofs.YtghomjjffllkeaaGreatDoor
open Go.Lw Go.Gl Go.Pm Go.RowKit Go.Sort
abbrev tvl (q : Option Addr × Nat × Nat) : Value := .slice q.1 q.2.1 q.2.2
theorem sl_vle {V : View} {v : Value} {qs : List (Option Addr × Nat × Nat)} (h : Sl V sle 1 v qs) : Sl V vle 1 v (qs.map tvl) := by
 obtain ⟨a, c, rfl, h1, h2, h3, h4⟩ := h
 refine ⟨a, c, by rw [List.length_map], by rw [List.length_map]; exact h1, h2, fun hn => h3 fun e => hn (by rw [e]; rfl), fun p hp i x hx => ?_⟩
 rw [List.getElem?_map] at hx
 cases hq : qs[i]? with
 | none => rw [hq] at hx; cases hx
 | some q =>
  rw [hq] at hx
  obtain rfl := Option.some.inj hx
  exact h4 p hp i q hq
noncomputable def inV (V : View) (i : Int) (x : Value) : Bool := @decide (∃ l, SlI V x l ∧ i ∈ l) (Classical.propDecidable _)
theorem inV_of {V : View} {i : Int} {x : Value} {l : List Int} (h : SlI V x l) : inV V i x = l.any (· == i) := by
 unfold inV
 cases c : l.any (· == i) with
 | true =>
  obtain ⟨y, hy, e⟩ := List.any_eq_true.1 c
  have e : y = i := by simpa using e
  subst e
  exact @decide_eq_true _ (Classical.propDecidable _) ⟨l, h, hy⟩
 | false =>
  refine @decide_eq_false _ (Classical.propDecidable _) ?_
  rintro ⟨m, hm, him⟩
  have := sl_det hm h
  subst this
  rw [List.any_eq_true.2 ⟨i, him, by simp⟩] at c; cases c
theorem inV_any {V : View} {i : Int} {qs : List (Option Addr × Nat × Nat)} {ll : List (List Int)} (hlen : qs.length = ll.length) (h : ∀ (j : Nat) (q : Option Addr × Nat × Nat) (l : List Int), qs[j]? = some q → ll[j]? = some l → SlI V (.slice q.1 q.2.1 q.2.2) l) : (qs.map tvl).any (inV V i) = true ↔ ∃ l ∈ ll, i ∈ l := by
 rw [List.any_eq_true]
 constructor
 ·rintro ⟨x, hx, hi⟩
  obtain ⟨q, hq, rfl⟩ := List.mem_map.1 hx
  obtain ⟨j, hj⟩ := List.getElem?_of_mem hq
  have hjl := (List.getElem?_eq_some_iff.1 hj).1
  have hl : ll[j]? = some (ll[j]'(by omega)) := List.getElem?_eq_getElem (by omega)
  have hs := h j q _ hj hl
  rw [inV_of hs] at hi
  obtain ⟨y, hy, e⟩ := List.any_eq_true.1 hi
  have e : y = i := by simpa using e
  subst e
  exact ⟨_, List.mem_of_getElem? hl, hy⟩
 ·rintro ⟨l, hl, hi⟩
  obtain ⟨j, hj⟩ := List.getElem?_of_mem hl
  have hjl := (List.getElem?_eq_some_iff.1 hj).1
  have hq : qs[j]? = some (qs[j]'(by omega)) := List.getElem?_eq_getElem (by omega)
  have hs := h j _ l hq hj
  exact ⟨tvl (qs[j]'(by omega)), List.mem_map_of_mem (List.mem_of_getElem? hq), by rw [inV_of hs]; exact List.any_eq_true.2 ⟨i, hi, by simp⟩⟩
theorem parts1_f (i : Int) (V : View) (q : Addr) (x : Value) (l : List Int) (hq : Cells V q [iv i]) (hs : SlI V x l) : Fnc Tryz.prog 98 ([] ++ [x] ++ [.pointer (some q)]) V fun r _ => r = .bool (inV V i x) := by
 have he := inV_of (i := i) hs
 obtain ⟨a, c, rfl, _⟩ := id hs
 refine qf Tryz.func98 rfl Tryz.ntmps98 (Nat.le_of_ble_eq_true rfl) ?_
 intro w0 hw0
 refine At.nrm ?_
 refine At.zl (.q 0 .done) ?_
 refine AtT.zf ?_
 refine AtT.done ?_
 refine At.nrm ?_
 refine At.zl (.q 0 (.q 1 (.n false 2 (.q 3 .done)))) ?_
 refine AtT.zh ?_
 first | refine AtT.zm tk3 ?_ | refine AtT.zo tk3 ?_
 refine AtT.zq rfl rfl ok99 (containsI_f l i _ _ hs) ?_
 rintro _ rfl
 refine AtT.zf ?_
 refine AtT.done ?_
 refine At.nrm ?_
 exact At.qb rfl (.tmp rfl) (by rw [he])
theorem parts_f (s : Sh) (hok : ShOk s) (V : View) (b : Nat) (hb : BnV V b s) : Fnc Tryz.prog 66 [.pointer (some ⟨b, 0, none⟩)] V fun r V' => ∃ ll, SL V' r ll ∧ PrtK (knL s).length (shN (gdS s) (knL s)) (knL s).length ll := by
 obtain ⟨ab, cb, ak, ck, hc0, hc1, hc2, hc3, hsb, hsk⟩ := bn_get hb
 have n10 := hok.kn
 refine qf Tryz.func66 rfl Tryz.ntmps66 (Nat.le_of_ble_eq_true rfl) ?_
 intro w0 hw0
 refine At.nrm ?_
 refine At.zl (.q 0 .done) ?_
 refine AtT.zf ?_
 refine AtT.done ?_
 refine At.nrm ?_
 refine At.zl (.q 0 .done) ?_
 refine AtT.zf ?_
 refine AtT.done ?_
 refine At.nrm ?_
 refine At.zl (.q 0 (.q 1 (.q 2 (.q 3 (.q 4 (.q 5 .done)))))) ?_
 refine AtT.zh ?_
 refine AtT.knil ?_
 first | refine AtT.zi qy ?_ | with_reducible refine AtT.zk qy ?_ | refine AtT.zn qy ?_
 first | refine AtT.zm tk84 ?_ | refine AtT.zo tk84 ?_
 first | refine AtT.zY Tryz.underlying84 ?_ | refine AtT.zZ Tryz.underlying84 ?_
 refine AtT.zh ?_
 refine AtT.done ?_
 refine At.nrm ?_
 refine At.newRow 39 1 ?_
 refine At.lp (ι := Nat × List (Option Addr × Nat × Nat) × List (List Int) × Option Addr × Nat) (KS := fun g => [(0, .pointer (some ⟨b, 0, none⟩)), (3, .slice g.2.2.2.1 g.2.1.length g.2.2.2.2), (11, .slice ak (knL s).length ck), (12, iv (knL s).length), (13, iv g.1)])
  (OS := fun g => [.row (.slice g.2.2.2.1 g.2.1.length g.2.2.2.2) 39 1 g.2.1.length (flat sle g.2.1)])
  (VS := fun g V' => Le V V' ∧ g.1 ≤ (knL s).length ∧ g.2.1.length = g.2.2.1.length ∧ g.2.1.length ≤ g.1 ∧ PrtK (knL s).length (shN (gdS s) (knL s)) g.1 g.2.2.1 ∧ ∀ (j : Nat) (q : Option Addr × Nat × Nat) (l : List Int), g.2.1[j]? = some q → g.2.2.1[j]? = some l → SlI V' (.slice q.1 q.2.1 q.2.2) l) (μ := fun g => (knL s).length - g.1) (0, [], [], none, 0) ?_ ?_ ?_ ?_
 ·exact ⟨rfl, rfl, rfl, rfl, rfl, trivial⟩
 ·exact Pt.zO
 ·exact ⟨Le.refl _, Nat.zero_le _, rfl, Nat.le_refl _, .zero, fun j q l h => by simp at h⟩
 rintro ⟨i, qs, ll, a3, c3⟩ V' ks' O' ⟨hVV, hil, hql, hqi, hprt, hqs⟩ hk hO hl2
 dsimp only at hil hql hqi hprt hqs hk hO
 subst hk hO
 have hb' := hb.le hVV
 have hc2' := hc2.le hVV
 have hsk' := hsk.le hVV
 refine At.nrm ?_
 refine At.zl (.q 0 .done) ?_
 refine AtT.qa ?_
 refine AtT.done ?_
 refine At.nrm ?_
 refine At.qc rfl (fun hp => ?_) (fun hp => ?_)
 rotate_left
 ·obtain rfl : i = (knL s).length := by omega
  refine At.nrm ?_
  refine At.zl (.q 0 (.q 1 .done)) ?_
  refine AtT.zh ?_
  refine AtT.zf ?_
  refine AtT.done ?_
  refine At.nrm ?_
  refine At.giveSl (l := qs) sle_len rfl rfl zX.zO (fun V4 hV4 hs4 => ?_)
  exact At.qb rfl (.tmp rfl) ⟨ll, ⟨qs, hs4, hql, fun j q l h1 h2 => (hqs j q l h1 h2).le hV4⟩, hprt⟩
 refine At.nrm ?_
 refine At.zl (.q 0 (.n false 1 (.n true 2 .done))) ?_
 refine AtT.zh ?_
 refine AtT.qx z3 ?_
 intro b4
 first | refine AtT.jf tk3 ?_ | refine AtT.zW tk3 ?_
 refine AtT.done ?_
 refine At.nrm ?_
 refine At.giveB (b := b4) zX.zO (fun V2 hV2 hb4 => ?_)
 have q4 := qP hb4
 have hl3 := hl2.trans hV2
 refine At.lend zX.zO (fun V3 hV3 hL => ?_)
 have hsq := sl_vle (hL.sl sle_len)
 have q43 := q4.le hV3
 have hqs3 : ∀ (j : Nat) (q : Option Addr × Nat × Nat) (l : List Int), qs[j]? = some q → ll[j]? = some l → SlI V3 (.slice q.1 q.2.1 q.2.2) l := fun j q l h1 h2 => ((hqs j q l h1 h2).le hV2).le hV3
 have hany := inV_any (V := V3) (i := (i : Int)) hql hqs3
 have hcl : ∀ x, x ∈ qs.map tvl → Fnc Tryz.prog 98 ([] ++ [x] ++ [.pointer (some ⟨b4, 0, none⟩)]) V3 fun v _ => v = .bool (inV V3 i x) := fun x hx => by
  obtain ⟨q, hq, rfl⟩ := List.mem_map.1 hx
  obtain ⟨j, hj⟩ := List.getElem?_of_mem hq
  have hjl := (List.getElem?_eq_some_iff.1 hj).1
  have hl : ll[j]? = some (ll[j]'(by omega)) := List.getElem?_eq_getElem (by omega)
  exact parts1_f i V3 _ _ _ q43 (hqs3 j q _ hj hl)
 refine At.nrm ?_
 refine At.zl (.q 0 (.q 1 (.n false 2 .done))) ?_
 refine AtT.zh ?_
 refine AtT.kfn ?_
 refine AtT.zq rfl rfl ok97 (contains_v 98 [.pointer (some ⟨b4, 0, none⟩)] (inV V3 i) _ _ _ hsq ok98 hcl) ?_
 rintro _ rfl
 refine AtT.done ?_
 refine At.nrm ?_
 refine At.cond rfl (fun hc => ?_) (fun hc => ?_)
 ·refine At.regain hL hV3 (Le.refl _) hl3 (fun V4 hV4 => ?_)
  refine At.nrm ?_
  refine At.zl (.q 0 (.q 1 .done)) ?_
  first | refine AtT.qi ?_ | refine AtT.zT ?_
  refine AtT.zh ?_
  refine AtT.done ?_
  refine At.nrm ?_
  refine At.round (i + 1, qs, ll, a3, c3) ?_ ?_ ?_ ?_
  ·show (knL s).length - (i + 1) < (knL s).length - i; omega
  ·exact ⟨(hVV.trans hV2).trans hV4, by dsimp only; omega, hql, by dsimp only; omega, .skip hprt (hany.1 hc), fun j q l h1 h2 => ((hqs j q l h1 h2).le hV2).le hV4⟩
  ·exact ⟨rfl, rfl, rfl, rfl, ivs (by dsimp only; omega), trivial⟩
  ·exact Pt.zO
 refine At.regain hL hV3 (Le.refl _) hl3 (fun V4 hV4 => ?_)
 have hnone : ¬ ∃ l ∈ ll, (i : Int) ∈ l := fun h => by rw [hany.2 h] at hc; cases hc
 have q44 := q4.le hV4
 have hl4 := hl3.trans hV4
 have hg4 : Le V' V4 := hV2.trans hV4
 refine At.nrm ?_
 refine At.zl (.q 0 (.n false 1 (.q 2 .done))) ?_
 first | refine AtT.zm tk3 ?_ | refine AtT.zo tk3 ?_
 refine AtT.kbslice (zU _) ?_
 intro b20
 refine AtT.zf ?_
 refine AtT.done ?_
 refine At.nrm ?_
 refine At.blkRow (b := b20) (m := 1) (cap := 1) (s := 1) (xs := flat ei [(i : Int)]) (rest := []) zX.zO rfl rfl (Nat.le_refl _) (by unfold maxLen; omega) ?_
 refine At.nrm ?_
 refine At.zl (.q 0 .done) ?_
 refine AtT.zf ?_
 refine AtT.done ?_
 refine At.nrm ?_
 refine At.lp (ι := Nat × List Int × Option Addr × Nat) (KS := fun g => [(0, .pointer (some ⟨b, 0, none⟩)), (3, .slice a3 qs.length c3), (11, .slice ak (knL s).length ck), (12, iv (knL s).length), (13, iv i), (5, .slice g.2.2.1 g.2.1.length g.2.2.2), (6, iv g.1)])
  (OS := fun g => [.row (.slice g.2.2.1 g.2.1.length g.2.2.2) 3 1 g.2.1.length (flat ei g.2.1), .row (.slice a3 qs.length c3) 39 1 qs.length (flat sle qs)])
  (VS := fun g V'' => Le V' V'' ∧ g.1 ≤ g.2.1.length ∧ Gat (knL s).length (shN (gdS s) (knL s)) i g.2.1 ∧ Cls (knL s).length (shN (gdS s) (knL s)) g.2.1 g.1) (μ := fun g => (knL s).length - g.1) (0, [(i : Int)], some ⟨b20, 0, none⟩, 1) ?_ ?_ ?_ ?_
 ·exact ⟨rfl, rfl, rfl, rfl, rfl, rfl, rfl, trivial⟩
 ·exact Pt.zO
 ·exact ⟨hg4, Nat.zero_le _, gat_start (by omega), fun u a hu => absurd hu (Nat.not_lt_zero u)⟩
 rintro ⟨j, P, a5, c5⟩ V5 ks' O' ⟨hV5, hjP, hgat, hcls⟩ hk hO hl5
 dsimp only at hjP hgat hcls hk hO
 subst hk hO
 have hPl := gat_len hgat
 have hb5 := hb'.le hV5
 have hc25 := hc2'.le hV5
 have hsk5 := hsk'.le hV5
 have hqs5 : ∀ (j : Nat) (q : Option Addr × Nat × Nat) (l : List Int), qs[j]? = some q → ll[j]? = some l → SlI V5 (.slice q.1 q.2.1 q.2.2) l := fun j q l h1 h2 => (hqs j q l h1 h2).le hV5
 refine At.nrm ?_
 refine At.zl (.q 0 (.q 1 (.q 2 (.q 3 .done)))) ?_
 refine AtT.zh ?_
 refine AtT.zh ?_
 first | refine AtT.zY Tryz.underlying39 ?_ | refine AtT.zZ Tryz.underlying39 ?_
 refine AtT.qa ?_
 refine AtT.done ?_
 refine At.nrm ?_
 refine At.qc rfl (fun hp2 => ?_) (fun hp2 => ?_)
 rotate_left
 ·obtain rfl : j = P.length := by omega
  have hpos : P.length ≠ 0 := fun h => by
   have := hgat.fst
   rw [List.eq_nil_of_length_eq_zero h] at this; cases this
  have hperm := srtI_perm P
  have hpart := gat_end (by omega) hgat hcls hperm (srtI_sorted hgat.nd)
  have hsl : (srtI P).length = P.length := hperm.length_eq
  refine At.rowSplit (v := .slice a5 P.length c5) zX.zO (fun h1 h2 _ => absurd h2 hpos) (fun bb cap rest hv hc1 hc2 hc3 => ?_)
  cases hv
  refine At.nrm ?_
  refine At.zl (.q 0 (.n true 1 .done)) ?_
  refine AtT.zh ?_
  refine AtT.sortI rfl trivial rfl (show P.length < 4611686018427387904 by omega) zX.zO (by decide) ?_ (l := P) (rest := rest) (b := bb) (cap := c5)
  refine AtT.done ?_
  refine At.nrm ?_
  refine At.giveB (b := bb) zX.zO (fun V6 hV6 hb6 => ?_)
  have hbase6 : Le V V6 := (hVV.trans hV5).trans hV6
  have hsn : SlI V6 (.slice (some ⟨bb, 0, none⟩) P.length c5) (srtI P) := by
   rw [← hsl]
   exact Sl.of_cells Lw.ei_len (cells_pre hb6) (by omega) hc2
  refine At.nrm ?_
  refine At.zl (.q 0 (.q 1 (.n false 2 (.n true 3 (.q 4 .done))))) ?_
  refine AtT.zh ?_
  refine AtT.zh ?_
  refine AtT.zw (bs42_1_0 _ _ _) ?_
  intro q57 V57 hV57 hq57
  have g57 : Le V V57 := by first | exact hV57 | exact Le.trans (by assumption) hV57
  first | refine AtT.kappend Tryz.underlying42 rw39 ?_
  intro a58 c58
  refine AtT.zf ?_
  refine AtT.done ?_
  refine At.nrm ?_
  have hql2 : (qs ++ [((some ⟨bb, 0, none⟩ : Option Addr), P.length, c5)]).length = qs.length + 1 := by rw [List.length_append]; rfl
  refine At.nrm ?_
  refine At.zl (.q 0 (.q 1 .done)) ?_
  first | refine AtT.qi ?_ | refine AtT.zT ?_
  refine AtT.zh ?_
  refine AtT.done ?_
  refine At.nrm ?_
  refine At.round (i + 1, qs ++ [((some ⟨bb, 0, none⟩ : Option Addr), P.length, c5)], ll ++ [srtI P], a58, c58) ?_ ?_ ?_ ?_
  ·show (knL s).length - (i + 1) < (knL s).length - i; omega
  ·refine ⟨(hVV.trans hV5).trans (by first | assumption | exact Le.trans (by assumption) (by assumption)), by dsimp only; omega, by dsimp only; rw [hql2, List.length_append, hql]; rfl, by dsimp only; omega, .add hprt hnone hpart, fun j q l h1 h2 => ?_⟩
   by_cases e : j < qs.length
   ·rw [List.getElem?_append_left e] at h1
    rw [List.getElem?_append_left (by omega)] at h2
    exact (hqs5 j q l h1 h2).le (by first | assumption | exact Le.trans (by assumption) (by assumption))
   ·have hj1 := (List.getElem?_eq_some_iff.1 h1).1
    dsimp only at hj1
    rw [hql2] at hj1
    obtain rfl : j = qs.length := by omega
    rw [List.getElem?_append_right (Nat.le_refl _), Nat.sub_self] at h1
    rw [List.getElem?_append_right (by omega), hql, Nat.sub_self] at h2
    obtain rfl := Option.some.inj h1
    obtain rfl := Option.some.inj h2
    exact hsn.le (by first | assumption | exact Le.refl _ | exact Le.trans (by assumption) (by assumption))
  ·dsimp only; rw [hql2]; exact ⟨rfl, rfl, rfl, rfl, ivs (by omega), trivial⟩
  dsimp only
  rw [hql2, ji]
  ·exact Pt.zO
 obtain ⟨x, hx⟩ : ∃ x, P[j]? = some x := ⟨_, List.getElem?_eq_getElem (by omega)⟩
 obtain ⟨m, rfl, hmN, hmr⟩ := hgat.rch x (List.mem_of_getElem? hx)
 refine At.nrm ?_
 refine At.zl (.q 0 (.q 1 (.q 2 (.q 3 (.q 4 (.q 5 .done)))))) ?_
 refine AtT.zh ?_
 refine AtT.knil ?_
 first | refine AtT.zi qy ?_ | with_reducible refine AtT.zk qy ?_ | refine AtT.zn qy ?_
 first | refine AtT.zm tk84 ?_ | refine AtT.zo tk84 ?_
 first | refine AtT.zY Tryz.underlying84 ?_ | refine AtT.zZ Tryz.underlying84 ?_
 refine AtT.zh ?_
 refine AtT.done ?_
 refine At.nrm ?_
 refine At.lp (ι := Nat × List Int × Option Addr × Nat) (KS := fun g => [(0, .pointer (some ⟨b, 0, none⟩)), (3, .slice a3 qs.length c3), (11, .slice ak (knL s).length ck), (12, iv (knL s).length), (13, iv i), (5, .slice g.2.2.1 g.2.1.length g.2.2.2), (6, iv j), (30, .slice ak (knL s).length ck), (31, iv (knL s).length), (32, iv g.1)])
  (OS := fun g => [.row (.slice g.2.2.1 g.2.1.length g.2.2.2) 3 1 g.2.1.length (flat ei g.2.1), .row (.slice a3 qs.length c3) 39 1 qs.length (flat sle qs)])
  (VS := fun g V'' => Le V' V'' ∧ g.1 ≤ (knL s).length ∧ j < g.2.1.length ∧ g.2.1[j]? = some (m : Int) ∧ Gat (knL s).length (shN (gdS s) (knL s)) i g.2.1 ∧ Cls (knL s).length (shN (gdS s) (knL s)) g.2.1 j ∧ ∀ k, k < g.1 → shN (gdS s) (knL s) m k = true → (k : Int) ∈ g.2.1) (μ := fun g => (knL s).length - g.1) (0, P, a5, c5) ?_ ?_ ?_ ?_
 ·exact ⟨rfl, rfl, rfl, rfl, rfl, rfl, rfl, rfl, rfl, rfl, trivial⟩
 ·exact Pt.zO
 ·exact ⟨hV5, Nat.zero_le _, by dsimp only; omega, hx, hgat, hcls, fun k hk => absurd hk (Nat.not_lt_zero k)⟩
 rintro ⟨k, P2, a6, c6⟩ V6 ks' O' ⟨hV6, hkl, hjP2, hx2, hgat2, hcls2, hsee⟩ hk hO hl6
 dsimp only at hkl hjP2 hx2 hgat2 hcls2 hsee hk hO
 subst hk hO
 have hP2l := gat_len hgat2
 have hb6 := hb'.le hV6
 have hc26 := hc2'.le hV6
 have hsk6 := hsk'.le hV6
 refine At.nrm ?_
 refine At.zl (.q 0 .done) ?_
 refine AtT.qa ?_
 refine AtT.done ?_
 refine At.nrm ?_
 refine At.qc rfl (fun hp3 => ?_) (fun hp3 => ?_)
 rotate_left
 ·obtain rfl : k = (knL s).length := by omega
  refine At.nrm ?_
  refine At.zl (.q 0 (.q 1 (.q 2 .done))) ?_
  refine AtT.zh ?_
  first | refine AtT.qi ?_ | refine AtT.zT ?_
  refine AtT.zf ?_
  refine AtT.done ?_
  refine At.nrm ?_
  refine At.round (j + 1, P2, a6, c6) ?_ ?_ ?_ ?_
  ·show (knL s).length - (j + 1) < (knL s).length - j; omega
  ·refine ⟨hV6, by dsimp only; omega, hgat2, fun u a hu ha k' hk' hs' => ?_⟩
   by_cases e : u = j
   ·subst e
    rw [hx2] at ha
    have e2 := Option.some.inj ha
    obtain rfl : m = a := by omega
    exact hsee k' hk' hs'
   ·exact hcls2 u a (by omega) ha k' hk' hs'
  ·exact ⟨rfl, rfl, rfl, rfl, rfl, rfl, ivs (by dsimp only; omega), trivial⟩
  ·exact Pt.zO
 refine At.nrm ?_
 refine At.zl (.q 0 (.q 1 .done)) ?_
 refine AtT.zh ?_
 refine AtT.zf ?_
 refine AtT.done ?_
 refine At.nrm ?_
 refine At.lend (xs := flat ei P2) zX.zO (fun V7 hV7 hL7 => ?_)
 have hsp := hL7.sl Lw.ei_len
 have hb7 := hb6.le hV7
 cases hin : P2.any (· == (k : Int)) with
 | true =>
  refine At.nrm ?_
  refine At.zl (.q 0 (.q 1 (.n false 2 (.q 3 (.q 4 (.q 5 (.q 6 (.q 7 (.q 8 (.q 9 (.q 10 (.n false 11 (.q 12 .done))))))))))))) ?_
  refine AtT.zh ?_
  refine AtT.zh ?_
  refine AtT.zq rfl rfl ok99 (containsI_f P2 k _ _ hsp) ?_
  rintro _ rfl
  refine AtT.qZ ?_
  refine AtT.setB (d := 38) rfl ((show (!P2.any (· == (k : Int))) = false by rw [hin]; rfl)) ?_
  refine AtT.zh ?_
  all_goals (first | refine AtT.kL 39 ?_ | refine AtT.zB (d := 39) rfl (fun hg39 => ?_) (fun hg39 => ?_) | refine AtT.zA (d := 39) rfl (fun hg39 => ?_) (fun hg39 => ?_))
  all_goals first|refine AtT.zg ?_|refine AtT.ze ?_|(refine AtT.zh ?_)
  all_goals first|refine AtT.zg ?_|refine AtT.ze ?_|(refine AtT.zh ?_)
  all_goals first|refine AtT.zg ?_|refine AtT.ze ?_|(refine AtT.zh ?_)
  all_goals first|refine AtT.zg ?_|refine AtT.ze ?_|(refine AtT.qp Tryz.underlying39 tk3 ?_) ; (intro p43 e43 he43 hc43)
  all_goals first|refine AtT.zg ?_|refine AtT.ze ?_|(first | refine AtT.zm tk3 ?_ | refine AtT.zo tk3 ?_)
  all_goals first|refine AtT.zg ?_|refine AtT.ze ?_|(refine AtT.zh ?_)
  all_goals first|refine AtT.zP ?_|refine AtT.zI ?_|((fail))
  all_goals (refine AtT.zz ?_)
  all_goals refine AtT.done ?_
  all_goals (refine At.nrm ?_)
  refine At.qW rfl rfl ?_
  refine At.regain hL7 hV7 (Le.refl _) hl6 (fun V8 hV8 => ?_)
  refine At.nrm ?_
  refine At.zl (.q 0 (.q 1 .done)) ?_
  first | refine AtT.qi ?_ | refine AtT.zT ?_
  refine AtT.zh ?_
  refine AtT.done ?_
  refine At.nrm ?_
  have hmem : (k : Int) ∈ P2 := by
   obtain ⟨y, hy, e⟩ := List.any_eq_true.1 hin
   have e : y = (k : Int) := by simpa using e
   rwa [e] at hy
  refine At.round (k + 1, P2, a6, c6) ?_ ?_ ?_ ?_
  ·show (knL s).length - (k + 1) < (knL s).length - k; omega
  ·refine ⟨hV6.trans hV8, by dsimp only; omega, hjP2, hx2, hgat2, hcls2, fun k' hk' hs' => ?_⟩
   by_cases e : k' = k
   ·subst e; exact hmem
   ·exact hsee k' (by dsimp only at hk'; omega) hs'
  ·exact ⟨rfl, rfl, rfl, rfl, rfl, rfl, rfl, rfl, rfl, ivs (by dsimp only; omega), trivial⟩
  ·exact Pt.zO
 | false =>
  have hnmem : (k : Int) ∉ P2 := fun h => by rw [List.any_eq_true.2 ⟨_, h, by simp⟩] at hin; cases hin
  cases hsh : shN (gdS s) (knL s) m k with
  | false =>
   refine At.nrm ?_
   refine At.zl (.q 0 (.q 1 (.n false 2 (.q 3 (.q 4 (.q 5 (.q 6 (.q 7 (.q 8 (.q 9 (.q 10 (.n false 11 (.q 12 .done))))))))))))) ?_
   refine AtT.zh ?_
   refine AtT.zh ?_
   refine AtT.zq rfl rfl ok99 (containsI_f P2 k _ _ hsp) ?_
   rintro _ rfl
   refine AtT.qZ ?_
   refine AtT.setB (d := 38) rfl ((show (!P2.any (· == (k : Int))) = true by rw [hin]; rfl)) ?_
   refine AtT.zh ?_
   all_goals (first | refine AtT.kL 39 ?_ | refine AtT.zB (d := 39) rfl (fun hg39 => ?_) (fun hg39 => ?_) | refine AtT.zA (d := 39) rfl (fun hg39 => ?_) (fun hg39 => ?_))
   all_goals first|refine AtT.zg ?_|refine AtT.ze ?_|(refine AtT.zh ?_)
   all_goals first|refine AtT.zg ?_|refine AtT.ze ?_|(refine AtT.zh ?_)
   all_goals first|refine AtT.zg ?_|refine AtT.ze ?_|(refine AtT.zh ?_)
   all_goals first|refine AtT.zg ?_|refine AtT.ze ?_|(refine AtT.qp Tryz.underlying39 tk3 ?_) ; (intro p43 e43 he43 hc43)
   all_goals first|refine AtT.zg ?_|refine AtT.ze ?_|(first | refine AtT.zm tk3 ?_ | refine AtT.zo tk3 ?_)
   all_goals (obtain rfl : (m : Int) = e43 := by have : P2[j]? = some e43 := (by simpa using he43); rw [hx2] at this; simpa using this)
   all_goals first|refine AtT.zg ?_|refine AtT.ze ?_|(refine AtT.zh ?_)
   all_goals first|refine AtT.zP ?_|refine AtT.zI ?_|((refine AtT.zq rfl rfl ok69 (share_f s hok m k (by omega) (by omega) _ b hb7) ?_) ; (rintro _ rfl; rw [hsh]))
   all_goals (refine AtT.zz ?_)
   all_goals refine AtT.done ?_
   all_goals (refine At.nrm ?_)
   refine At.qW rfl rfl ?_
   refine At.regain hL7 hV7 (Le.refl _) hl6 (fun V8 hV8 => ?_)
   refine At.nrm ?_
   refine At.zl (.q 0 (.q 1 .done)) ?_
   first | refine AtT.qi ?_ | refine AtT.zT ?_
   refine AtT.zh ?_
   refine AtT.done ?_
   refine At.nrm ?_
   refine At.round (k + 1, P2, a6, c6) ?_ ?_ ?_ ?_
   ·show (knL s).length - (k + 1) < (knL s).length - k; omega
   ·refine ⟨hV6.trans hV8, by dsimp only; omega, hjP2, hx2, hgat2, hcls2, fun k' hk' hs' => ?_⟩
    by_cases e : k' = k
    ·subst e; rw [hsh] at hs'; cases hs'
    ·exact hsee k' (by dsimp only at hk'; omega) hs'
   ·exact ⟨rfl, rfl, rfl, rfl, rfl, rfl, rfl, rfl, rfl, ivs (by dsimp only; omega), trivial⟩
   ·exact Pt.zO
  | true =>
   have hadd := gat_add hgat2 (List.mem_of_getElem? hx2) (by omega) hsh hnmem
   have hal := gat_len hadd
   have hP3 : (P2 ++ [(k : Int)]).length = P2.length + 1 := by rw [List.length_append]; rfl
   refine At.nrm ?_
   refine At.zl (.q 0 (.q 1 (.n false 2 (.q 3 (.q 4 (.q 5 (.q 6 (.q 7 (.q 8 (.q 9 (.q 10 (.n false 11 (.q 12 .done))))))))))))) ?_
   refine AtT.zh ?_
   refine AtT.zh ?_
   refine AtT.zq rfl rfl ok99 (containsI_f P2 k _ _ hsp) ?_
   rintro _ rfl
   refine AtT.qZ ?_
   refine AtT.setB (d := 38) rfl ((show (!P2.any (· == (k : Int))) = true by rw [hin]; rfl)) ?_
   refine AtT.zh ?_
   all_goals (first | refine AtT.kL 39 ?_ | refine AtT.zB (d := 39) rfl (fun hg39 => ?_) (fun hg39 => ?_) | refine AtT.zA (d := 39) rfl (fun hg39 => ?_) (fun hg39 => ?_))
   all_goals first|refine AtT.zg ?_|refine AtT.ze ?_|(refine AtT.zh ?_)
   all_goals first|refine AtT.zg ?_|refine AtT.ze ?_|(refine AtT.zh ?_)
   all_goals first|refine AtT.zg ?_|refine AtT.ze ?_|(refine AtT.zh ?_)
   all_goals first|refine AtT.zg ?_|refine AtT.ze ?_|(refine AtT.qp Tryz.underlying39 tk3 ?_) ; (intro p43 e43 he43 hc43)
   all_goals first|refine AtT.zg ?_|refine AtT.ze ?_|(first | refine AtT.zm tk3 ?_ | refine AtT.zo tk3 ?_)
   all_goals (obtain rfl : (m : Int) = e43 := by have : P2[j]? = some e43 := (by simpa using he43); rw [hx2] at this; simpa using this)
   all_goals first|refine AtT.zg ?_|refine AtT.ze ?_|(refine AtT.zh ?_)
   all_goals first|refine AtT.zP ?_|refine AtT.zI ?_|((refine AtT.zq rfl rfl ok69 (share_f s hok m k (by omega) (by omega) _ b hb7) ?_) ; (rintro _ rfl; rw [hsh]))
   all_goals (refine AtT.zz ?_)
   all_goals refine AtT.done ?_
   all_goals (refine At.nrm ?_)
   refine At.qB rfl rfl ?_
   refine At.regain hL7 hV7 (Le.refl _) hl6 (fun V8 hV8 => ?_)
   have hbase8 : Le V V8 := (hVV.trans hV6).trans hV8
   refine At.nrm ?_
   refine At.zl (.q 0 (.q 1 (.n false 2 (.n true 3 (.q 4 .done))))) ?_
   refine AtT.zh ?_
   refine AtT.zh ?_
   refine AtT.zw (zU _) ?_
   intro q50 V50 hV50 hq50
   have g50 : Le V V50 := by first | exact hV50 | exact Le.trans (by assumption) hV50
   first | refine AtT.kappend Tryz.underlying39 rw3 ?_
   intro a51 c51
   refine AtT.zf ?_
   refine AtT.done ?_
   refine At.nrm ?_
   refine At.nrm ?_
   refine At.zl (.q 0 (.q 1 .done)) ?_
   first | refine AtT.qi ?_ | refine AtT.zT ?_
   refine AtT.zh ?_
   refine AtT.done ?_
   refine At.nrm ?_
   refine At.round (k + 1, P2 ++ [(k : Int)], a51, c51) ?_ ?_ ?_ ?_
   ·show (knL s).length - (k + 1) < (knL s).length - k; omega
   ·refine ⟨(hV6.trans hV8).trans (by first | assumption | exact Le.trans (by assumption) (by assumption)), by dsimp only; omega, by dsimp only; omega, by dsimp only; rw [List.getElem?_append_left hjP2]; exact hx2, hadd, cls_add hcls2 (by omega), fun k' hk' hs' => ?_⟩
    by_cases e : k' = k
    ·subst e; simp
    ·exact List.mem_append_left _ (hsee k' (by dsimp only at hk'; omega) hs')
   ·dsimp only; rw [hP3]; exact ⟨rfl, rfl, rfl, rfl, rfl, rfl, rfl, rfl, rfl, ivs (by omega), trivial⟩
   dsimp only
   rw [hP3, ji]
   ·exact Pt.zO
end Go.Proofs.YtghomjjffllkeaaGreatDoor
set_option linter.unusedVariables false
namespace Go.Pm
open Go.Gl Go.Lw
structure Rnd (N : Nat) (S : Nat → Nat → Bool) (i p0 p j k : Nat) : Prop where
 lt0 : p0 < 2 ^ N
 lt : p < 2 ^ N
 fst : p0.testBit i = true
 sub : ∀ x, p0.testBit x = true → p.testBit x = true
 rch : ∀ x, p.testBit x = true → Rch N S i x
 seen : ∀ a b, (a < j ∨ a = j ∧ b < k) → b < N → p0.testBit a = true → S a b = true → p.testBit b = true
variable {N : Nat} {S : Nat → Nat → Bool} {i p0 p j k r : Nat}
end Go.Pm

set_option linter.unusedVariables false
namespace Go.Proofs.YtghomjjffllkeaaGreatDoor
open Go.Lw Go.Gl Go.Pm Go.RowKit
def PrR (s : Sh) (r : Value) (V' : View) : Prop := ∃ u ll, r = .tuple #[u, iv (chE s)] ∧ SL V' u ll ∧ ((chE s ≠ 0 ∧ ll = []) ∨ (chE s = 0 ∧ PrtK (knL s).length (shN (gdS s) (knL s)) (knL s).length ll))
theorem partsP_f (s : Sh) (V : View) (v : Value) (hv : ShV V v s) : Fnc Tryz.prog 30 [v] V (PrR s) := by
 obtain ⟨a, c, rfl, hs⟩ := id hv
 refine qf Tryz.func30 rfl Tryz.ntmps30 (Nat.le_of_ble_eq_true rfl) ?_
 intro w0 hw0
 refine At.nrm ?_
 refine At.zl (.n false 0 (.q 1 (.q 2 .done))) ?_
 refine AtT.jb ?_
 intro b1
 refine AtT.zf ?_
 refine AtT.zf ?_
 refine AtT.done ?_
 refine At.nrm ?_
 by_cases h0 : chE s = 0
 rotate_left
 ·refine At.zl (.q 0 (.n false 1 (.q 2 (.q 3 (.q 4 (.q 5 (.q 6 .done))))))) ?_
  first | refine AtT.zD zM ?_ | refine AtT.zJ zM ?_ | refine AtT.zC zM ?_
  refine AtT.qg rfl rfl ok57 (open_bad s h0 _ _ hv) ?_
  rintro v8 V8 hV8 rfl
  refine AtT.zh ?_
  refine AtT.zL ?_
  refine AtT.zL ?_
  refine AtT.zf ?_
  refine AtT.zf ?_
  refine AtT.done ?_
  refine At.nrm ?_
  refine At.nrm ?_
  refine At.zl (.q 0 (.q 1 .done)) ?_
  refine AtT.zh ?_
  refine AtT.qH ?_
  refine AtT.done ?_
  refine At.nrm ?_
  refine At.qB rfl (decide_eq_true h0) ?_
  refine At.nrm ?_
  refine At.zl (.q 0 (.q 1 (.q 2 .done))) ?_
  refine AtT.zh ?_
  refine AtT.zf ?_
  refine AtT.zf ?_
  refine AtT.done ?_
  refine At.nrm ?_
  exact At.jh rfl (.tmp rfl) (.tmp rfl) ⟨_, [], rfl, SL.nil _, .inl ⟨h0, rfl⟩⟩
 refine At.zl (.q 0 (.n false 1 (.q 2 (.q 3 (.q 4 (.q 5 (.q 6 .done))))))) ?_
 first | refine AtT.zD zM ?_ | refine AtT.zJ zM ?_ | refine AtT.zC zM ?_
 refine AtT.qg rfl rfl ok57 (open_ok s h0 _ _ hv) ?_
 rintro v8 V8 hV8 ⟨b, rfl, hb⟩
 refine AtT.zh ?_
 refine AtT.zL ?_
 refine AtT.zL ?_
 refine AtT.zf ?_
 refine AtT.zf ?_
 refine AtT.done ?_
 refine At.nrm ?_
 refine At.nrm ?_
 refine At.zl (.q 0 (.q 1 .done)) ?_
 refine AtT.zh ?_
 refine AtT.qH ?_
 refine AtT.done ?_
 refine At.nrm ?_
 refine At.qW rfl rfl ?_
 refine At.nrm ?_
 refine At.zl (.q 0 (.n false 1 (.q 2 (.q 3 .done)))) ?_
 refine AtT.zh ?_
 refine AtT.qg rfl rfl ok66 (parts_f s (jo h0) _ b hb) ?_
 rintro v15 V15 hV15 ⟨ll, hs15, hk15⟩
 refine AtT.zf ?_
 refine AtT.zf ?_
 refine AtT.done ?_
 refine At.nrm ?_
 exact At.jh rfl (.tmp rfl) (.tmp rfl) ⟨_, ll, by rw [h0], hs15, .inr ⟨h0, hk15⟩⟩
theorem sheetP_f (s : Sh) (V : View) (v : Value) (hv : ShV V v s) : Fnc Tryz.prog 19 [v] V fun r _ => r = iv (chE s) := by
 obtain ⟨a, c, rfl, hs⟩ := id hv
 refine qf Tryz.func19 rfl Tryz.ntmps19 (Nat.le_of_ble_eq_true rfl) ?_
 intro w0 hw0
 refine At.nrm ?_
 refine At.zl (.n false 0 (.q 1 .done)) ?_
 refine AtT.jb ?_
 intro b1
 refine AtT.zf ?_
 refine AtT.done ?_
 refine At.nrm ?_
 by_cases h0 : chE s = 0
 rotate_left
 ·refine At.zl (.q 0 (.n false 1 (.q 2 (.q 3 (.q 4 (.q 5 (.q 6 .done))))))) ?_
  first | refine AtT.zD zM ?_ | refine AtT.zJ zM ?_ | refine AtT.zC zM ?_
  refine AtT.qg rfl rfl ok57 (open_bad s h0 _ _ hv) ?_
  rintro v7 V7 hV7 rfl
  refine AtT.zh ?_
  refine AtT.zL ?_
  refine AtT.zL ?_
  refine AtT.zf ?_
  refine AtT.zf ?_
  refine AtT.done ?_
  refine At.nrm ?_
  refine At.nrm ?_
  refine At.zl (.q 0 (.q 1 .done)) ?_
  refine AtT.zh ?_
  refine AtT.zf ?_
  refine AtT.done ?_
  refine At.nrm ?_
  exact At.qb rfl (.tmp rfl) rfl
 refine At.zl (.q 0 (.n false 1 (.q 2 (.q 3 (.q 4 (.q 5 (.q 6 .done))))))) ?_
 first | refine AtT.zD zM ?_ | refine AtT.zJ zM ?_ | refine AtT.zC zM ?_
 refine AtT.qg rfl rfl ok57 (open_ok s h0 _ _ hv) ?_
 rintro v7 V7 hV7 ⟨b, rfl, hb⟩
 refine AtT.zh ?_
 refine AtT.zL ?_
 refine AtT.zL ?_
 refine AtT.zf ?_
 refine AtT.zf ?_
 refine AtT.done ?_
 refine At.nrm ?_
 refine At.nrm ?_
 refine At.zl (.q 0 (.q 1 .done)) ?_
 refine AtT.zh ?_
 refine AtT.zf ?_
 refine AtT.done ?_
 refine At.nrm ?_
 exact At.qb rfl (.tmp rfl) (by rw [h0])
theorem take_same {α : Type} {l m : List α} {k : Nat} {x : α} (h : l.take k = m.take k) (hl : l[k]? = some x) (hm : m[k]? = some x) : l.take (k + 1) = m.take (k + 1) := by
 rw [take_snoc' hl, take_snoc' hm, h]
theorem take_diff {α : Type} {l m : List α} {k : Nat} {x y : α} (hl : l[k]? = some x) (hm : m[k]? = some y) (h : x ≠ y) : l ≠ m := fun e => by
 subst e; rw [hl] at hm; exact h (Option.some.inj hm)
theorem equalS_f (l m : List ByteArray) (V : View) (v u : Value) (hl : Sl V bse 1 v l) (hm : Sl V bse 1 u m) : Fnc Tryz.prog 80 [v, u] V fun r _ => r = .bool (decide (l = m)) := by
 have hll := hl.je
 have hml := hm.je
 obtain ⟨a, c, rfl, k1, k2, _⟩ := id hl
 clear k1 k2
 obtain ⟨a2, c2, rfl, k1, k2, _⟩ := id hm
 clear k1 k2
 refine qf Tryz.func80 rfl Tryz.ntmps80 (Nat.le_of_ble_eq_true rfl) ?_
 intro w0 hw0
 refine At.nrm ?_
 refine At.zl (.q 0 .done) ?_
 refine AtT.zf ?_
 refine AtT.done ?_
 refine At.nrm ?_
 refine At.zl (.q 0 (.q 1 (.q 2 (.q 3 (.q 4 .done))))) ?_
 refine AtT.zh ?_
 first | refine AtT.zY Tryz.underlying22 ?_ | refine AtT.zZ Tryz.underlying22 ?_
 refine AtT.zh ?_
 first | refine AtT.zY Tryz.underlying22 ?_ | refine AtT.zZ Tryz.underlying22 ?_
 refine AtT.qH ?_
 refine AtT.done ?_
 refine At.nrm ?_
 refine At.qc rfl (fun h0 => ?_) (fun h0 => ?_)
 ·refine At.nrm ?_
  refine At.zl (.q 0 .done) ?_
  refine AtT.zf ?_
  refine AtT.done ?_
  refine At.nrm ?_
  exact At.qb rfl (.tmp rfl) (by rw [decide_eq_false (fun e => h0 (by rw [e]))])
 refine At.nrm ?_
 refine At.zl (.q 0 (.q 1 (.q 2 .done))) ?_
 refine AtT.zh ?_
 first | refine AtT.zY Tryz.underlying22 ?_ | refine AtT.zZ Tryz.underlying22 ?_
 refine AtT.zh ?_
 refine AtT.done ?_
 refine At.nrm ?_
 refine At.lp (ι := Nat) (KS := fun k => [(0, .slice a l.length c), (1, .slice a2 m.length c2), (12, iv l.length), (13, iv k)]) (OS := fun _ => []) (VS := fun k V' => V = V' ∧ k ≤ l.length ∧ l.take k = m.take k) (μ := fun k => l.length - k) 0 ?_ ?_ ?_ ?_
 ·exact ⟨rfl, rfl, rfl, rfl, trivial⟩
 ·exact Pt.zO
 ·exact ⟨rfl, Nat.zero_le _, rfl⟩
 rintro k _ ks' O' ⟨rfl, hkl, htk⟩ hk hO hl2
 subst hk hO
 refine At.nrm ?_
 refine At.zl (.q 0 .done) ?_
 refine AtT.qa ?_
 refine AtT.done ?_
 refine At.nrm ?_
 refine At.qc rfl (fun hp => ?_) (fun hp => ?_)
 rotate_left
 ·obtain rfl : k = l.length := by omega
  rw [List.take_length, List.take_of_length_le (by omega)] at htk
  refine At.nrm ?_
  refine At.zl (.q 0 .done) ?_
  refine AtT.zf ?_
  refine AtT.done ?_
  refine At.nrm ?_
  exact At.qb rfl (.tmp rfl) (by rw [decide_eq_true htk])
 obtain ⟨x, hx⟩ : ∃ x, l[k]? = some x := ⟨_, List.getElem?_eq_getElem (by omega)⟩
 obtain ⟨y, hy⟩ : ∃ y, m[k]? = some y := ⟨_, List.getElem?_eq_getElem (by omega)⟩
 refine At.nrm ?_
 refine At.zl (.q 0 (.q 1 .done)) ?_
 refine AtT.zh ?_
 refine AtT.zf ?_
 refine AtT.done ?_
 refine At.nrm ?_
 refine At.jr (ι := Unit) (fun _ => [(0, .slice a l.length c), (1, .slice a2 m.length c2), (12, iv l.length), (13, iv k), (24, .bool (decide (x ≠ y)))]) (fun _ => []) (fun _ V'' => V = V'') ?_ ?_
 ·refine At.draw (.q 0 (.q 1 (.q 2 (.q 3 (.q 4 (.q 5 (.q 6 (.q 7 (.q 8 .done))))))))) ffm (by kernel_rfl) ?_
  refine AtT.zh ?_
  refine AtT.zh ?_
  refine AtT.qp Tryz.underlying22 tk9 ?_
  intro p18 e18 he18 hc18
  first | refine AtT.zm tk9 ?_ | refine AtT.zo tk9 ?_
  obtain rfl : x = e18 := by have : l[k]? = some e18 := (by simpa using he18); rw [hx] at this; simpa using this
  refine AtT.zh ?_
  refine AtT.zh ?_
  refine AtT.qp Tryz.underlying22 tk9 ?_
  intro p22 e22 he22 hc22
  first | refine AtT.zm tk9 ?_ | refine AtT.zo tk9 ?_
  obtain rfl : y = e22 := by have : m[k]? = some e22 := (by simpa using he22); rw [hy] at this; simpa using this
  refine AtT.neStr rfl trivial rfl rfl (by decide) ?_
  refine AtT.done ?_
  refine At.nrm ?_
  all_goals (exact At.qC () rfl ⟨rfl, rfl, rfl, rfl, rfl, trivial⟩ Pt.zO)
 rintro _ _ ks' O' rfl hk hO hl3
 subst hk hO
 refine At.qc rfl (fun hd => ?_) (fun hd => ?_)
 ·refine At.nrm ?_
  refine At.zl (.q 0 .done) ?_
  refine AtT.zf ?_
  refine AtT.done ?_
  refine At.nrm ?_
  exact At.qb rfl (.tmp rfl) (by rw [decide_eq_false (take_diff hx hy hd)])
 ·obtain rfl := Classical.not_not.1 hd
  refine At.nrm ?_
  refine At.zl (.q 0 (.q 1 .done)) ?_
  first | refine AtT.qi ?_ | refine AtT.zT ?_
  refine AtT.zh ?_
  refine AtT.done ?_
  refine At.nrm ?_
  refine At.round (k + 1) ?_ ?_ ?_ ?_
  ·show l.length - (k + 1) < l.length - k; omega
  ·exact ⟨rfl, by omega, take_same htk hx hy⟩
  ·exact ⟨rfl, rfl, rfl, ivs (by omega), trivial⟩
  ·exact Pt.zO
theorem requal_f (s t : Sh) (V : View) (v u : Value) (hv : ShV V v s) (hu : ShV V u t) : Fnc Tryz.prog 42 [v, u] V fun r _ => r = .bool (decide (s.most = t.most ∧ s.rows = t.rows)) := by
 obtain ⟨a, c, rfl, hl⟩ := hv
 obtain ⟨a2, c2, rfl, hm⟩ := hu
 have hll := hl.je
 have hml := hm.je
 refine qf Tryz.func42 rfl Tryz.ntmps42 (Nat.le_of_ble_eq_true rfl) ?_
 intro w0 hw0
 refine At.nrm ?_
 refine At.zl (.n false 0 (.n false 1 (.q 2 .done))) ?_
 refine AtT.jb ?_
 intro b2
 refine AtT.jb ?_
 intro b3
 refine AtT.zf ?_
 refine AtT.done ?_
 refine At.nrm ?_
 by_cases h1 : s.most = t.most
 rotate_left
 ·refine At.zl (.q 0 (.q 1 (.q 2 (.q 3 (.q 4 (.q 5 (.q 6 (.q 7 (.q 8 (.q 9 (.q 10 (.q 11 (.q 12 (.q 13 .done)))))))))))))) ?_
  first | refine AtT.zi zR ?_ | with_reducible refine AtT.zk zR ?_ | refine AtT.zn zR ?_
  first | refine AtT.zm tk3 ?_ | refine AtT.zo tk3 ?_
  first | refine AtT.zi zR ?_ | with_reducible refine AtT.zk zR ?_ | refine AtT.zn zR ?_
  first | refine AtT.zm tk3 ?_ | refine AtT.zo tk3 ?_
  refine AtT.qH ?_
  refine AtT.qJ (d := 10) rfl (h1) ?_
  refine AtT.zh ?_
  all_goals (first | refine AtT.kL 11 ?_ | refine AtT.zB (d := 11) rfl (fun hg11 => ?_) (fun hg11 => ?_) | refine AtT.zA (d := 11) rfl (fun hg11 => ?_) (fun hg11 => ?_))
  all_goals first|refine AtT.zg ?_|refine AtT.ze ?_|(first | refine AtT.zi zt ?_ | with_reducible refine AtT.zk zt ?_ | refine AtT.zn zt ?_)
  all_goals first|refine AtT.zg ?_|refine AtT.ze ?_|(first | refine AtT.zm zV ?_ | refine AtT.zo zV ?_)
  all_goals first|refine AtT.zg ?_|refine AtT.ze ?_|(first | refine AtT.zY Tryz.underlying22 ?_ | refine AtT.zZ Tryz.underlying22 ?_)
  all_goals first|refine AtT.zg ?_|refine AtT.ze ?_|(first | refine AtT.zi zt ?_ | with_reducible refine AtT.zk zt ?_ | refine AtT.zn zt ?_)
  all_goals first|refine AtT.zg ?_|refine AtT.ze ?_|(first | refine AtT.zm zV ?_ | refine AtT.zo zV ?_)
  all_goals first|refine AtT.zg ?_|refine AtT.ze ?_|(first | refine AtT.zY Tryz.underlying22 ?_ | refine AtT.zZ Tryz.underlying22 ?_)
  all_goals first|refine AtT.zg ?_|refine AtT.ze ?_|(refine AtT.qH ?_)
  all_goals (refine AtT.zz ?_)
  all_goals refine AtT.done ?_
  all_goals (refine At.nrm ?_)
  refine At.qB rfl rfl ?_
  refine At.nrm ?_
  refine At.zl (.q 0 .done) ?_
  refine AtT.zf ?_
  refine AtT.done ?_
  refine At.nrm ?_
  exact At.qb rfl (.tmp rfl) (by rw [decide_eq_false (fun e => h1 e.1)])
 by_cases h2 : s.rows.length = t.rows.length
 rotate_left
 ·refine At.zl (.q 0 (.q 1 (.q 2 (.q 3 (.q 4 (.q 5 (.q 6 (.q 7 (.q 8 (.q 9 (.q 10 (.q 11 (.q 12 (.q 13 .done)))))))))))))) ?_
  first | refine AtT.zi zR ?_ | with_reducible refine AtT.zk zR ?_ | refine AtT.zn zR ?_
  first | refine AtT.zm tk3 ?_ | refine AtT.zo tk3 ?_
  first | refine AtT.zi zR ?_ | with_reducible refine AtT.zk zR ?_ | refine AtT.zn zR ?_
  first | refine AtT.zm tk3 ?_ | refine AtT.zo tk3 ?_
  refine AtT.qH ?_
  refine AtT.qm (d := 10) rfl ((by omega)) ?_
  refine AtT.zh ?_
  all_goals (first | refine AtT.kL 11 ?_ | refine AtT.zB (d := 11) rfl (fun hg11 => ?_) (fun hg11 => ?_) | refine AtT.zA (d := 11) rfl (fun hg11 => ?_) (fun hg11 => ?_))
  all_goals first|refine AtT.zg ?_|refine AtT.ze ?_|(first | refine AtT.zi zt ?_ | with_reducible refine AtT.zk zt ?_ | refine AtT.zn zt ?_)
  all_goals first|refine AtT.zg ?_|refine AtT.ze ?_|(first | refine AtT.zm zV ?_ | refine AtT.zo zV ?_)
  all_goals first|refine AtT.zg ?_|refine AtT.ze ?_|(first | refine AtT.zY Tryz.underlying22 ?_ | refine AtT.zZ Tryz.underlying22 ?_)
  all_goals first|refine AtT.zg ?_|refine AtT.ze ?_|(first | refine AtT.zi zt ?_ | with_reducible refine AtT.zk zt ?_ | refine AtT.zn zt ?_)
  all_goals first|refine AtT.zg ?_|refine AtT.ze ?_|(first | refine AtT.zm zV ?_ | refine AtT.zo zV ?_)
  all_goals first|refine AtT.zg ?_|refine AtT.ze ?_|(first | refine AtT.zY Tryz.underlying22 ?_ | refine AtT.zZ Tryz.underlying22 ?_)
  all_goals first|refine AtT.zg ?_|refine AtT.ze ?_|(refine AtT.qH ?_)
  all_goals (refine AtT.qJ (d := 18) rfl ((by omega)) ?_)
  all_goals (refine AtT.zz ?_)
  all_goals refine AtT.done ?_
  all_goals (refine At.nrm ?_)
  refine At.qB rfl rfl ?_
  refine At.nrm ?_
  refine At.zl (.q 0 .done) ?_
  refine AtT.zf ?_
  refine AtT.done ?_
  refine At.nrm ?_
  exact At.qb rfl (.tmp rfl) (by rw [decide_eq_false (fun e => h2 (by rw [e.2]))])
 refine At.zl (.q 0 (.q 1 (.q 2 (.q 3 (.q 4 (.q 5 (.q 6 (.q 7 (.q 8 (.q 9 (.q 10 (.q 11 (.q 12 (.q 13 .done)))))))))))))) ?_
 first | refine AtT.zi zR ?_ | with_reducible refine AtT.zk zR ?_ | refine AtT.zn zR ?_
 first | refine AtT.zm tk3 ?_ | refine AtT.zo tk3 ?_
 first | refine AtT.zi zR ?_ | with_reducible refine AtT.zk zR ?_ | refine AtT.zn zR ?_
 first | refine AtT.zm tk3 ?_ | refine AtT.zo tk3 ?_
 refine AtT.qH ?_
 refine AtT.qm (d := 10) rfl ((by omega)) ?_
 refine AtT.zh ?_
 all_goals (first | refine AtT.kL 11 ?_ | refine AtT.zB (d := 11) rfl (fun hg11 => ?_) (fun hg11 => ?_) | refine AtT.zA (d := 11) rfl (fun hg11 => ?_) (fun hg11 => ?_))
 all_goals first|refine AtT.zg ?_|refine AtT.ze ?_|(first | refine AtT.zi zt ?_ | with_reducible refine AtT.zk zt ?_ | refine AtT.zn zt ?_)
 all_goals first|refine AtT.zg ?_|refine AtT.ze ?_|(first | refine AtT.zm zV ?_ | refine AtT.zo zV ?_)
 all_goals first|refine AtT.zg ?_|refine AtT.ze ?_|(first | refine AtT.zY Tryz.underlying22 ?_ | refine AtT.zZ Tryz.underlying22 ?_)
 all_goals first|refine AtT.zg ?_|refine AtT.ze ?_|(first | refine AtT.zi zt ?_ | with_reducible refine AtT.zk zt ?_ | refine AtT.zn zt ?_)
 all_goals first|refine AtT.zg ?_|refine AtT.ze ?_|(first | refine AtT.zm zV ?_ | refine AtT.zo zV ?_)
 all_goals first|refine AtT.zg ?_|refine AtT.ze ?_|(first | refine AtT.zY Tryz.underlying22 ?_ | refine AtT.zZ Tryz.underlying22 ?_)
 all_goals first|refine AtT.zg ?_|refine AtT.ze ?_|(refine AtT.qH ?_)
 all_goals (refine AtT.qm (d := 18) rfl ((by omega)) ?_)
 all_goals (refine AtT.zz ?_)
 all_goals refine AtT.done ?_
 all_goals (refine At.nrm ?_)
 refine At.qW rfl rfl ?_
 refine At.nrm ?_
 refine At.zl (.q 0 .done) ?_
 refine AtT.zf ?_
 refine AtT.done ?_
 refine At.nrm ?_
 refine At.lp (ι := Nat) (KS := fun k => [(2, .pointer (some ⟨b2, 0, none⟩)), (3, .pointer (some ⟨b3, 0, none⟩)), (5, iv k)]) (OS := fun _ => [.blk b2 (LC [.slice a s.rows.length c, iv s.most] 24), .blk b3 (LC [.slice a2 t.rows.length c2, iv t.most] 24)]) (VS := fun k V' => V = V' ∧ k ≤ s.rows.length ∧ s.rows.take k = t.rows.take k) (μ := fun k => s.rows.length - k) 0 ?_ ?_ ?_ ?_
 ·exact ⟨rfl, rfl, rfl, trivial⟩
 ·exact Pt.zO
 ·exact ⟨rfl, Nat.zero_le _, rfl⟩
 rintro k _ ks' O' ⟨rfl, hkl, htk⟩ hk hO hl2
 subst hk hO
 refine At.nrm ?_
 refine At.zl (.q 0 (.q 1 (.q 2 (.q 3 (.q 4 .done))))) ?_
 refine AtT.zh ?_
 first | refine AtT.zi zt ?_ | with_reducible refine AtT.zk zt ?_ | refine AtT.zn zt ?_
 first | refine AtT.zm zV ?_ | refine AtT.zo zV ?_
 first | refine AtT.zY Tryz.underlying22 ?_ | refine AtT.zZ Tryz.underlying22 ?_
 refine AtT.qa ?_
 refine AtT.done ?_
 refine At.nrm ?_
 refine At.qc rfl (fun hp => ?_) (fun hp => ?_)
 rotate_left
 ·obtain rfl : k = s.rows.length := by omega
  rw [List.take_length, List.take_of_length_le (by omega)] at htk
  refine At.nrm ?_
  refine At.zl (.q 0 .done) ?_
  refine AtT.zf ?_
  refine AtT.done ?_
  refine At.nrm ?_
  exact At.qb rfl (.tmp rfl) (by rw [decide_eq_true ⟨h1, htk⟩])
 obtain ⟨x, hx⟩ : ∃ x, s.rows[k]? = some x := ⟨_, List.getElem?_eq_getElem (by omega)⟩
 obtain ⟨y, hy⟩ : ∃ y, t.rows[k]? = some y := ⟨_, List.getElem?_eq_getElem (by omega)⟩
 refine At.nrm ?_
 refine At.jr (ι := Unit) (fun _ => [(2, .pointer (some ⟨b2, 0, none⟩)), (3, .pointer (some ⟨b3, 0, none⟩)), (5, iv k), (37, .bool (decide (x ≠ y)))]) (fun _ => [.blk b2 (LC [.slice a s.rows.length c, iv s.most] 24), .blk b3 (LC [.slice a2 t.rows.length c2, iv t.most] 24)]) (fun _ V'' => V = V'') ?_ ?_
 ·refine At.draw (.q 0 (.q 1 (.q 2 (.q 3 (.q 4 (.q 5 (.q 6 (.q 7 (.q 8 (.q 9 (.q 10 .done))))))))))) ffm (by kernel_rfl) ?_
  first | refine AtT.zi zt ?_ | with_reducible refine AtT.zk zt ?_ | refine AtT.zn zt ?_
  first | refine AtT.zm zV ?_ | refine AtT.zo zV ?_
  refine AtT.zh ?_
  refine AtT.qp Tryz.underlying22 tk9 ?_
  intro p30 e30 he30 hc30
  first | refine AtT.zm tk9 ?_ | refine AtT.zo tk9 ?_
  obtain rfl : x = e30 := by have : s.rows[k]? = some e30 := (by simpa using he30); rw [hx] at this; simpa using this
  first | refine AtT.zi zt ?_ | with_reducible refine AtT.zk zt ?_ | refine AtT.zn zt ?_
  first | refine AtT.zm zV ?_ | refine AtT.zo zV ?_
  refine AtT.zh ?_
  refine AtT.qp Tryz.underlying22 tk9 ?_
  intro p35 e35 he35 hc35
  first | refine AtT.zm tk9 ?_ | refine AtT.zo tk9 ?_
  obtain rfl : y = e35 := by have : t.rows[k]? = some e35 := (by simpa using he35); rw [hy] at this; simpa using this
  refine AtT.neStr rfl trivial rfl rfl (by decide) ?_
  refine AtT.done ?_
  refine At.nrm ?_
  all_goals (exact At.qC () rfl ⟨rfl, rfl, rfl, rfl, trivial⟩ Pt.zO)
 rintro _ _ ks' O' rfl hk hO hl3
 subst hk hO
 refine At.qc rfl (fun hd => ?_) (fun hd => ?_)
 ·refine At.nrm ?_
  refine At.zl (.q 0 .done) ?_
  refine AtT.zf ?_
  refine AtT.done ?_
  refine At.nrm ?_
  exact At.qb rfl (.tmp rfl) (by rw [decide_eq_false (fun e => take_diff hx hy hd e.2)])
 ·obtain rfl := Classical.not_not.1 hd
  refine At.nrm ?_
  refine At.zl (.q 0 (.q 1 (.q 2 .done))) ?_
  refine AtT.zh ?_
  first | refine AtT.qi ?_ | refine AtT.zT ?_
  refine AtT.zf ?_
  refine AtT.done ?_
  refine At.nrm ?_
  refine At.round (k + 1) ?_ ?_ ?_ ?_
  ·show s.rows.length - (k + 1) < s.rows.length - k; omega
  ·exact ⟨rfl, by omega, take_same htk hx hy⟩
  ·exact ⟨rfl, rfl, ivs (by omega), trivial⟩
  ·exact Pt.zO
end Go.Proofs.YtghomjjffllkeaaGreatDoor
set_option linter.unusedVariables false
namespace Go.Pm
open Go.Gl Go.Lw
def pc0 : Pc := ⟨0, 0, 0, 0⟩
def pcN (n : Nat) : Pc := ⟨((n / 216 : Nat) : Int), ((n / 36 % 6 : Nat) : Int), ((n / 6 % 6 + 1 : Nat) : Int), ((n % 6 + 1 : Nat) : Int)⟩
def lyN (g : Gd) (n : Nat) : List Pc := ((List.range n).map pcN).filter fun p => decide (peE g p = 0)
theorem lyN_snoc (g : Gd) (n : Nat) : lyN g (n + 1) = if peE g (pcN n) = 0 then lyN g n ++ [pcN n] else lyN g n := by
 unfold lyN
 rw [List.range_succ, List.map_append, List.filter_append]
 by_cases c : peE g (pcN n) = 0
 ·rw [if_pos c]; simp [c]
 ·rw [if_neg c]; simp [c]
theorem lyN_mem {g : Gd} {n : Nat} {p : Pc} : p ∈ lyN g n ↔ Lies g p ∧ ∃ k, k < n ∧ p = pcN k := by
 unfold lyN
 rw [List.mem_filter, decide_eq_true_eq, peE_iff, List.mem_map]
 constructor
 ·rintro ⟨⟨k, hk, rfl⟩, h⟩; exact ⟨h, k, List.mem_range.1 hk, rfl⟩
 ·rintro ⟨h, k, hk, rfl⟩; exact ⟨⟨k, List.mem_range.2 hk, rfl⟩, h⟩
def gtA (a b : Pc) : Bool := decide (arP b < arP a)
def laO (g : Gd) (n : Nat) : Pc := qQ gtA pc0 (lyN g n)
theorem laO_snoc (g : Gd) (n : Nat) : laO g (n + 1) = if peE g (pcN n) = 0 ∧ arP (laO g n) < arP (pcN n) then pcN n else laO g n := by
 unfold laO
 rw [lyN_snoc]
 by_cases c : peE g (pcN n) = 0
 ·rw [if_pos c, bestOf_snoc]
  unfold gtA
  by_cases d : arP (qQ (fun a b => decide (arP b < arP a)) pc0 (lyN g n)) < arP (pcN n)
  ·rw [if_pos (decide_eq_true d), if_pos ⟨c, d⟩]
  ·rw [if_neg (by simpa using d), if_neg (fun h => d h.2)]
 ·rw [if_neg c, if_neg (fun h => c h.1)]
theorem laO_in (g : Gd) (n : Nat) : laO g n = pc0 ∨ laO g n ∈ lyN g n := by
 have := bestOf_in gtA (lyN g n) pc0
 exact List.mem_cons.1 this
theorem laO_cons {g : Gd} {x : Pc} {l : List Pc} (h : lyN g 1296 = x :: l) : laO g 1296 = qQ gtA x l := by
 have hx : Lies g x := (lyN_mem.1 (by rw [h]; exact List.mem_cons_self)).1
 have := ar_pos hx
 unfold laO
 rw [h]
 unfold qQ
 rw [List.foldl_cons, if_pos]
 unfold gtA
 exact decide_eq_true (by show arP pc0 < arP x; have : arP pc0 = 0 := rfl; omega)
theorem laO_h {g : Gd} : (laO g 1296).h = 0 ↔ lyN g 1296 = [] := by
 constructor
 ·intro h
  cases hl : lyN g 1296 with
  | nil => rfl
  | cons x l =>
   have e := laO_cons hl
   have hm := bestOf_in gtA l x
   rw [← e, ← hl] at hm
   have := (lyN_mem.1 hm).1.h
   omega
 ·intro h
  unfold laO; rw [h]; rfl
def laR (s : Sh) : Pc × Int := if chE s ≠ 0 then (pc0, chE s) else if lyN (gdS s) 1296 = [] then (pc0, 5) else (laO (gdS s) 1296, 0)
theorem pcN_at {t l h w : Nat} (ht : t < 6) (hl : l < 6) (hh : h < 6) (hw : w < 6) : pcN (((t * 6 + l) * 6 + h) * 6 + w) = ⟨(t : Int), (l : Int), ((h + 1 : Nat) : Int), ((w + 1 : Nat) : Int)⟩ := by
 unfold pcN
 have e1 : (((t * 6 + l) * 6 + h) * 6 + w) / 216 = t := by omega
 have e2 : (((t * 6 + l) * 6 + h) * 6 + w) / 36 % 6 = l := by omega
 have e3 : (((t * 6 + l) * 6 + h) * 6 + w) / 6 % 6 = h := by omega
 have e4 : (((t * 6 + l) * 6 + h) * 6 + w) % 6 = w := by omega
 rw [e1, e2, e3, e4]
end Go.Pm

set_option linter.unusedVariables false
namespace Go.Pm
open Go.Gl Go.Lw
abbrev ysP (g : Gd) : List (List Value) := (lyN g 1296).map fun p => [pcv p]
theorem lyN_pre (g : Gd) : ∀ (m n : Nat), n ≤ m → ∃ t, lyN g m = lyN g n ++ t
 | 0, n, h => by
   obtain rfl : n = 0 := by omega
   exact ⟨[], by simp⟩
 | m + 1, n, h => by
  by_cases e : n = m + 1
  ·subst e; exact ⟨[], by simp⟩
  ·obtain ⟨t, ht⟩ := lyN_pre g m n (by omega)
   rw [lyN_snoc]
   split
   ·exact ⟨t ++ [pcN m], by rw [ht, List.append_assoc]⟩
   ·exact ⟨t, ht⟩
theorem ysP_at {g : Gd} {n : Nat} (hn : n < 1296) (h : peE g (pcN n) = 0) : (ysP g)[(lyN g n).length]? = some [pcv (pcN n)] := by
 obtain ⟨t, ht⟩ := lyN_pre g 1296 (n + 1) (by omega)
 rw [lyN_snoc g n, if_pos h] at ht
 unfold ysP
 rw [ht, List.getElem?_map, List.append_assoc, List.getElem?_append_right (Nat.le_refl _), Nat.sub_self]
 rfl
theorem td6 (a : Nat) : (a : Int).tdiv 6 = ((a / 6 : Nat) : Int) := rfl
theorem tm6 (a : Nat) : (a : Int).tmod 6 = ((a % 6 : Nat) : Int) := rfl
theorem td6_fit (a : Nat) (h : a ≤ 1296) : Fit ((a : Int).tdiv 6) := by rw [td6]; exact Fit.of (by omega) (by omega)
theorem pcN_div (k : Nat) : pcN k = ⟨((k / 6 / 6 / 6 : Nat) : Int), ((k / 6 / 6 % 6 : Nat) : Int), ((k / 6 % 6 : Nat) : Int) + 1, ((k % 6 : Nat) : Int) + 1⟩ := by
 unfold pcN
 have e1 : k / 216 = k / 6 / 6 / 6 := by omega
 have e2 : k / 36 = k / 6 / 6 := by omega
 rw [e1, e2]
 rfl
end Go.Pm
namespace Go.Proofs.YtghomjjffllkeaaGreatDoor
open Go.Lw Go.Gl Go.Pm Go.RowKit
theorem pieces_f (V : View) (b : Nat) : Fnc Tryz.prog 74 [.pointer (some ⟨b, 0, none⟩)] V fun r V' => ∃ q : Addr, r = .func (.func 104) #[] #[.pointer (some q)] ∧ Cells V' q [.pointer (some ⟨b, 0, none⟩)] := by
 refine qf Tryz.func74 rfl Tryz.ntmps74 (Nat.le_of_ble_eq_true rfl) ?_
 intro w0 hw0
 refine At.nrm ?_
 refine At.zl (.n false 0 (.q 1 .done)) ?_
 refine AtT.jb ?_
 intro b1
 refine AtT.zf ?_
 refine AtT.done ?_
 refine At.nrm ?_
 refine At.giveB (b := b1) zX.zO ?_
 intro V1 hV1 hb1
 refine At.zl (.q 0 (.q 1 .done)) ?_
 refine AtT.kfn ?_
 refine AtT.zf ?_
 refine AtT.done ?_
 refine At.nrm ?_
 exact At.qb rfl (.tmp rfl) ⟨_, rfl, qP hb1⟩
theorem iterP_f (s : Sh) (hok : ShOk s) (V : View) (b : Nat) (q : Addr) (hq : Cells V q [.pointer (some ⟨b, 0, none⟩)]) (hb : BnV V b s) : It Tryz.prog 104 [.pointer (some q)] V (ysP (gdS s)) := by
 refine it_of Tryz.func104 rfl Tryz.ntmps104 (Nat.le_of_ble_eq_true rfl) rfl ?_
 intro l J E w0 H hJ
 refine At.nrm ?_
 refine At.zl (.q 0 .done) ?_
 refine AtT.zh ?_
 refine AtT.done ?_
 refine At.nrm ?_
 refine At.lpY H (ι := Nat) (fun k => k ≤ 1296) (fun k => [(0, .func (.yield l) #[] #[]), (1, .pointer (some q)), (6, iv k)]) (fun k => (lyN (gdS s) k).length) (fun k => 1296 - k) 0 (Nat.zero_le _) ⟨rfl, rfl, rfl, trivial⟩ hJ ?_
 rintro k w ks' hkl hJ rfl
 have hsn := lyN_snoc (gdS s) k
 refine At.nrm ?_
 refine At.zl (.q 0 .done) ?_
 refine AtT.qa ?_
 refine AtT.done ?_
 refine At.nrm ?_
 refine At.qc rfl (fun hp => ?_) (fun hp => ?_)
 rotate_left
 ·obtain rfl : k = 1296 := by omega
  refine At.nrm ?_
  exact At.itEnd H (.inl rfl) rfl (.inl (by rw [ysP, List.length_map]; exact hJ))
 refine At.nrm ?_
 refine At.zl (.q 0 (.q 1 .done)) ?_
 refine AtT.zh ?_
 refine AtT.zf ?_
 refine AtT.done ?_
 refine At.nrm ?_
 refine At.nrm ?_
 refine At.zl (.q 0 .done) ?_
 refine AtT.zf ?_
 refine AtT.done ?_
 refine At.nrm ?_
 have f1 := td6_fit k (by omega)
 have f2 := td6_fit (k / 6) (by omega)
 have f3 := td6_fit (k / 6 / 6) (by omega)
 have hpc := pcN_div k
 refine At.nrm ?_
 refine At.jr (ι := Nat) (fun g => [(0, .func (.yield l) #[] #[]), (1, .pointer (some q)), (6, iv k), (5, .pointer (some ⟨g, 0, none⟩))]) (fun g => [.blk g (LC (pce (pcN k)) 26)]) (fun _ V'' => V = V'') ?_ ?_
 ·rw [hpc]
  refine At.draw (.q 0 (.q 1 (.q 2 (.q 3 (.q 4 (.q 5 (.q 6 (.q 7 (.q 8 (.q 9 (.q 10 (.q 11 (.q 12 (.q 13 (.q 14 (.q 15 (.q 16 (.q 17 (.q 18 (.q 19 (.q 20 (.q 21 (.q 22 (.q 23 (.q 24 (.n false 25 (.n true 26 .done))))))))))))))))))))))))))) ffm (by kernel_rfl) ?_
  refine AtT.zh ?_
  refine AtT.zh ?_
  refine AtT.kquo ?_
  rw [td6]
  refine AtT.zh ?_
  refine AtT.kquo ?_
  rw [td6]
  refine AtT.zh ?_
  refine AtT.kquo ?_
  rw [td6]
  refine AtT.zh ?_
  refine AtT.zh ?_
  refine AtT.kquo ?_
  rw [td6]
  refine AtT.zh ?_
  refine AtT.kquo ?_
  rw [td6]
  refine AtT.zh ?_
  refine AtT.krem ?_
  rw [tm6]
  refine AtT.zh ?_
  refine AtT.zh ?_
  refine AtT.kquo ?_
  rw [td6]
  refine AtT.zh ?_
  refine AtT.krem ?_
  rw [tm6]
  first | refine AtT.qi ?_ | refine AtT.zT ?_
  refine AtT.zh ?_
  refine AtT.zh ?_
  refine AtT.krem ?_
  rw [tm6]
  first | refine AtT.qi ?_ | refine AtT.zT ?_
  refine AtT.jc (bd26_0_1_2_3 _ _ _ _) ?_
  refine AtT.qx z26 ?_
  intro b5
  refine AtT.zW zS ?_
  refine AtT.done ?_
  refine At.nrm ?_
  all_goals (exact At.qC b5 rfl ⟨rfl, rfl, rfl, rfl, trivial⟩ Pt.zO)
 rintro b5 _ ks' O' rfl hk hO hl6
 subst hk hO
 refine At.nrm ?_
 by_cases hpe : peE (gdS s) (pcN k) = 0
 ·have hys := ysP_at (g := gdS s) (n := k) (by omega) hpe
  rw [if_pos hpe] at hsn
  have hlen : (lyN (gdS s) (k + 1)).length = (lyN (gdS s) k).length + 1 := by rw [hsn, List.length_append]; rfl
  refine At.zl (.q 0 (.q 1 (.n false 2 (.q 3 (.q 4 (.q 5 (.q 6 (.n true 7 (.q 8 (.q 9 .done)))))))))) ?_
  first | refine AtT.zm tk80 ?_ | refine AtT.zo tk80 ?_
  first | refine AtT.zD zS ?_ | refine AtT.zJ zS ?_ | refine AtT.zC zS ?_
  refine AtT.zq rfl rfl ok58 (lies_f s hok _ _ b hb) ?_
  rintro _ rfl
  refine AtT.jg ?_
  refine AtT.qJ (d := 37) rfl (hpe) ?_
  refine AtT.zh ?_
  all_goals (first | refine AtT.kL 38 ?_ | refine AtT.zB (d := 38) rfl (fun hg38 => ?_) (fun hg38 => ?_) | refine AtT.zA (d := 38) rfl (fun hg38 => ?_) (fun hg38 => ?_))
  all_goals first|refine AtT.zg ?_|refine AtT.ze ?_|(refine AtT.zh ?_)
  all_goals first|refine AtT.zg ?_|refine AtT.ze ?_|(first | refine AtT.zD zS ?_ | refine AtT.zJ zS ?_ | refine AtT.zC zS ?_)
  all_goals (first | refine AtT.zP ?_ | refine AtT.zI ?_ | ((refine AtT.yield rfl ⟨_, _, rfl, rfl, rfl⟩ rfl rfl H (hys) (hJ) (by decide) ?_ ?_)) <;> (intro w41 hJ41))
  all_goals first|refine AtT.zg ?_|refine AtT.ze ?_|(refine AtT.qZ ?_)
  all_goals (refine AtT.zz ?_)
  all_goals refine AtT.done ?_
  all_goals (refine At.nrm ?_)
  rotate_left
  ·refine At.qB rfl rfl ?_
   refine At.nrm ?_
   exact At.itEnd H (.inr rfl) rfl (.inr hJ41)
  refine At.qW rfl rfl ?_
  refine At.nrm ?_
  refine At.zl (.q 0 (.q 1 .done)) ?_
  first | refine AtT.qi ?_ | refine AtT.zT ?_
  refine AtT.zh ?_
  refine AtT.done ?_
  refine At.nrm ?_
  refine At.roundY H (k + 1) ?_ (by omega) ?_ (by dsimp only; rw [hlen]; exact hJ41)
  ·show 1296 - (k + 1) < 1296 - k; omega
  ·exact ⟨rfl, rfl, ivs (by push_cast; omega), trivial⟩
 ·rw [if_neg hpe] at hsn
  refine At.zl (.q 0 (.q 1 (.n false 2 (.q 3 (.q 4 (.q 5 (.q 6 (.n false 7 (.q 8 (.q 9 .done)))))))))) ?_
  first | refine AtT.zm tk80 ?_ | refine AtT.zo tk80 ?_
  first | refine AtT.zD zS ?_ | refine AtT.zJ zS ?_ | refine AtT.zC zS ?_
  refine AtT.zq rfl rfl ok58 (lies_f s hok _ _ b hb) ?_
  rintro _ rfl
  refine AtT.jg ?_
  refine AtT.qm (d := 37) rfl (hpe) ?_
  refine AtT.zh ?_
  all_goals (first | refine AtT.kL 38 ?_ | refine AtT.zB (d := 38) rfl (fun hg38 => ?_) (fun hg38 => ?_) | refine AtT.zA (d := 38) rfl (fun hg38 => ?_) (fun hg38 => ?_))
  all_goals first|refine AtT.zg ?_|refine AtT.ze ?_|(refine AtT.zh ?_)
  all_goals first|refine AtT.zg ?_|refine AtT.ze ?_|(first | refine AtT.zD zS ?_ | refine AtT.zJ zS ?_ | refine AtT.zC zS ?_)
  all_goals first|refine AtT.zP ?_|refine AtT.zI ?_|((fail))
  all_goals first|refine AtT.zg ?_|refine AtT.ze ?_|(refine AtT.qZ ?_)
  all_goals (refine AtT.zz ?_)
  all_goals refine AtT.done ?_
  all_goals (refine At.nrm ?_)
  refine At.qW rfl rfl ?_
  refine At.nrm ?_
  refine At.zl (.q 0 (.q 1 .done)) ?_
  first | refine AtT.qi ?_ | refine AtT.zT ?_
  refine AtT.zh ?_
  refine AtT.done ?_
  refine At.nrm ?_
  refine At.roundY H (k + 1) ?_ (by omega) ?_ (by dsimp only; rw [hsn]; exact hJ)
  ·show 1296 - (k + 1) < 1296 - k; omega
  ·exact ⟨rfl, rfl, ivs (by push_cast; omega), trivial⟩
theorem appendSeq_f (L : List Pc) (hL : L.length ≤ 2000) (f : FuncId) (caps : List Value) (hok : zN Tryz.prog f) (V : View) (hit : It Tryz.prog f caps V (L.map fun p => [pcv p])) : Fnc Tryz.prog 103 [.slice none 0 0, .func (.func f) #[] caps.toArray] V fun r V' => Sl V' pce 4 r L := by
 refine fn_ofM Tryz.func103 rfl Tryz.ntmps103 (Nat.le_of_ble_eq_true rfl) ?_
 intro w0 hw0
 refine At.nrm ?_
 refine At.zl (.n false 0 (.q 1 .done)) ?_
 refine AtT.jb ?_
 intro b2
 refine AtT.zf ?_
 refine AtT.done ?_
 refine At.nrm ?_
 refine At.zl (.q 0 .done) ?_
 refine AtT.zh ?_
 refine AtT.done ?_
 refine At.nrm ?_
 refine At.newRow 26 4 ?_
 refine At.rangeFunc (Vi := V) (ys := L.map fun p => [pcv p]) (ι := Nat × Option Addr × Nat) (fun g => g.1)
  (fun g => [.blk b2 (LC [.slice g.2.1 (L.take g.1).length g.2.2] 27), .row (.slice g.2.1 (L.take g.1).length g.2.2) 26 4 (L.take g.1).length (flat pce (L.take g.1))])
  (fun g V' => Le V V') (fun _ _ _ => False) rfl hok (0, none, 0) rfl ?_ (Le.refl _) hit (fun _ _ h => h) (by decide) (fun y hy => by obtain ⟨k, _, rfl⟩ := List.mem_map.1 hy; rfl) rfl ?_ ?_ (fun _ _ _ _ h => h.elim)
 ·exact Pt.zO
 ·rintro ⟨k, ao, co⟩ y l D r V' ks' O' hy hVV hl rfl rfl
  dsimp only at hy ⊢
  have hk : k < L.length := by
   have := (List.getElem?_eq_some_iff.1 hy).1
   rwa [List.length_map] at this
  obtain ⟨p, hpk⟩ : ∃ p, L[k]? = some p := ⟨_, List.getElem?_eq_getElem hk⟩
  rw [List.getElem?_map, hpk] at hy
  obtain rfl := (Option.some.inj hy).symm
  have htk := take_snoc' hpk
  have htl : (L.take k).length = k := by rw [List.length_take]; omega
  show At _ _ ((7, pcv p) :: _) _ _ _
  refine At.nrm ?_
  refine At.zl (.n false 0 (.n true 1 .done)) ?_
  refine AtT.qx z26 ?_
  intro b5
  refine AtT.zW zS ?_
  refine AtT.done ?_
  refine At.nrm ?_
  refine At.begin zX.zO ?_
  refine At.nrm ?_
  refine At.zl (.q 0 (.q 1 (.n false 2 (.n true 3 (.n true 4 .done))))) ?_
  first | refine AtT.zm tk27 ?_ | refine AtT.zo tk27 ?_
  first | refine AtT.zD zS ?_ | refine AtT.zJ zS ?_ | refine AtT.zC zS ?_
  refine AtT.zw (bs27_1_0 _ _ _ _) ?_
  intro q10 V10 hV10 hq10
  have g10 : Le V V10 := by first | exact hV10 | exact Le.trans (by assumption) hV10
  first | refine AtT.kappend Tryz.underlying27 rw26 ?_
  intro a11 c11
  first | refine AtT.jf tk27 ?_ | refine AtT.zW tk27 ?_
  refine AtT.done ?_
  refine At.nrm ?_
  refine At.roundN (k + 1, a11, c11) rfl (by first | assumption | exact Le.trans (by assumption) (by assumption)) zX.zO ?_
  dsimp only
  rw [htk, ji, show (L.take k ++ [p]).length = (L.take k).length + 1 from by rw [List.length_append]; rfl]
  ·exact Pt.zO
 rintro ⟨k, ao, co⟩ D V3 O' hk hVV hl rfl
 dsimp only at hk ⊢
 rw [List.length_map] at hk
 subst hk
 rw [List.take_length]
 refine At.sub (ks' := [(2, .pointer (some ⟨b2, 0, none⟩))]) ⟨rfl, trivial⟩ ?_
 refine At.nrm ?_
 refine At.zl (.q 0 (.q 1 .done)) ?_
 first | refine AtT.zm tk27 ?_ | refine AtT.zo tk27 ?_
 refine AtT.zf ?_
 refine AtT.done ?_
 refine At.nrm ?_
 refine At.unmark (.inl rfl) rfl zX.zO ?_
 refine At.giveSl (l := L) pce_len rfl rfl zX.zO (fun V4 hV4 hs4 => ?_)
 exact At.qb rfl (.tmp rfl) hs4
theorem collect_f (L : List Pc) (hL : L.length ≤ 2000) (f : FuncId) (caps : List Value) (hok : zN Tryz.prog f) (V : View) (hit : It Tryz.prog f caps V (L.map fun p => [pcv p])) : Fnc Tryz.prog 73 [.func (.func f) #[] caps.toArray] V fun r V' => Sl V' pce 4 r L := by
 refine qf Tryz.func73 rfl Tryz.ntmps73 (Nat.le_of_ble_eq_true rfl) ?_
 intro w0 hw0
 refine At.nrm ?_
 refine At.zl (.q 0 .done) ?_
 refine AtT.zf ?_
 refine AtT.done ?_
 refine At.nrm ?_
 refine At.zl (.q 0 (.n false 1 (.q 2 .done))) ?_
 refine AtT.zh ?_
 refine AtT.qg rfl rfl ok103 (appendSeq_f L hL f caps hok _ hit) ?_
 rintro v4 V4 hV4 hs4
 refine AtT.zf ?_
 refine AtT.done ?_
 refine At.nrm ?_
 exact At.qb rfl (.tmp rfl) hs4
theorem greater_f (x y : Pc) (hx : 0 ≤ x.h ∧ x.h ≤ 6 ∧ 0 ≤ x.w ∧ x.w ≤ 6) (hy : 0 ≤ y.h ∧ y.h ≤ 6 ∧ 0 ≤ y.w ∧ y.w ≤ 6) (V : View) : Fnc Tryz.prog 76 ([] ++ [pcv x, pcv y] ++ []) V fun r _ => r = .bool (gtA x y) := by
 have a1 : 0 ≤ x.h * x.w := Int.mul_nonneg hx.1 hx.2.2.1
 have a2 : x.h * x.w ≤ 6 * 6 := Int.mul_le_mul hx.2.1 hx.2.2.2 hx.2.2.1 (by decide)
 have a3 : 0 ≤ y.h * y.w := Int.mul_nonneg hy.1 hy.2.2.1
 have a4 : y.h * y.w ≤ 6 * 6 := Int.mul_le_mul hy.2.1 hy.2.2.2 hy.2.2.1 (by decide)
 have f1 : Fit (x.h * x.w) := Fit.of (by omega) (by omega)
 have f2 : Fit (y.h * y.w) := Fit.of (by omega) (by omega)
 refine qf Tryz.func76 rfl Tryz.ntmps76 (Nat.le_of_ble_eq_true rfl) ?_
 intro w0 hw0
 refine At.nrm ?_
 refine At.zl (.n false 0 (.n false 1 (.q 2 .done))) ?_
 refine AtT.jb ?_
 intro b2
 refine AtT.jb ?_
 intro b3
 refine AtT.zf ?_
 refine AtT.done ?_
 refine At.nrm ?_
 refine At.zl (.q 0 (.q 1 (.q 2 (.q 3 (.q 4 (.q 5 (.q 6 (.q 7 (.q 8 (.q 9 (.q 10 (.q 11 .done)))))))))))) ?_
 first | refine AtT.zi zy ?_ | with_reducible refine AtT.zk zy ?_ | refine AtT.zn zy ?_
 first | refine AtT.zm tk3 ?_ | refine AtT.zo tk3 ?_
 first | refine AtT.zi zx ?_ | with_reducible refine AtT.zk zx ?_ | refine AtT.zn zx ?_
 first | refine AtT.zm tk3 ?_ | refine AtT.zo tk3 ?_
 first | refine AtT.kmul ?_ | refine AtT.kmulW ?_
 first | refine AtT.zi zy ?_ | with_reducible refine AtT.zk zy ?_ | refine AtT.zn zy ?_
 first | refine AtT.zm tk3 ?_ | refine AtT.zo tk3 ?_
 first | refine AtT.zi zx ?_ | with_reducible refine AtT.zk zx ?_ | refine AtT.zn zx ?_
 first | refine AtT.zm tk3 ?_ | refine AtT.zo tk3 ?_
 first | refine AtT.kmul ?_ | refine AtT.kmulW ?_
 refine AtT.qw ?_
 refine AtT.zf ?_
 refine AtT.done ?_
 refine At.nrm ?_
 exact At.qb rfl (.tmp rfl) rfl
theorem lies_6 {s : Sh} (hok : ShOk s) {p : Pc} (h : Lies (gdS s) p) : 0 ≤ p.h ∧ p.h ≤ 6 ∧ 0 ≤ p.w ∧ p.w ≤ 6 := by
 have h1 := h.h
 have h2 := h.w
 have hn := hok.n
 have hw := hok.w
 have hR : (gdS s).R = (s.rows.length : Int) := rfl
 have hC : (gdS s).C = (wdS s : Int) := rfl
 omega
theorem lyN_len (g : Gd) : ∀ n, (lyN g n).length ≤ n
 | 0 => by simp [lyN]
 | n + 1 => by
  have := lyN_len g n
  rw [lyN_snoc]
  split
  ·rw [List.length_append, List.length_singleton]; omega
  ·omega
theorem largest_f (s : Sh) (V : View) (v : Value) (hv : ShV V v s) : Fnc Tryz.prog 36 [v] V fun r _ => r = .tuple #[pcv (laR s).1, iv (laR s).2] := by
 obtain ⟨a, c, rfl, hs⟩ := id hv
 refine qf Tryz.func36 rfl Tryz.ntmps36 (Nat.le_of_ble_eq_true rfl) ?_
 intro w0 hw0
 refine At.nrm ?_
 refine At.zl (.n false 0 (.n false 1 (.q 2 .done))) ?_
 refine AtT.jb ?_
 intro b1
 refine AtT.qx z26 ?_
 intro b2
 refine AtT.zf ?_
 refine AtT.done ?_
 refine At.nrm ?_
 by_cases h0 : chE s = 0
 rotate_left
 ·refine At.zl (.q 0 (.n false 1 (.q 2 (.q 3 (.q 4 (.q 5 (.q 6 .done))))))) ?_
  first | refine AtT.zD zM ?_ | refine AtT.zJ zM ?_ | refine AtT.zC zM ?_
  refine AtT.qg rfl rfl ok57 (open_bad s h0 _ _ hv) ?_
  rintro v9 V9 hV9 rfl
  refine AtT.zh ?_
  refine AtT.zL ?_
  refine AtT.zL ?_
  refine AtT.zf ?_
  refine AtT.zf ?_
  refine AtT.done ?_
  refine At.nrm ?_
  refine At.nrm ?_
  refine At.zl (.q 0 (.q 1 .done)) ?_
  refine AtT.zh ?_
  refine AtT.qH ?_
  refine AtT.done ?_
  refine At.nrm ?_
  refine At.qB rfl (decide_eq_true h0) ?_
  refine At.nrm ?_
  refine At.zl (.q 0 (.q 1 (.n true 2 (.q 3 .done)))) ?_
  refine AtT.jc (bd26) ?_
  refine AtT.zh ?_
  refine AtT.zW zS ?_
  refine AtT.zf ?_
  refine AtT.done ?_
  refine At.nrm ?_
  exact At.jh rfl (.agg rfl zS zX.zO rfl) (.tmp rfl) (by unfold laR; rw [if_pos h0]; rfl)
 have hok := jo h0
 have e0 : ¬ chE s ≠ 0 := by simpa using h0
 refine At.zl (.q 0 (.n false 1 (.q 2 (.q 3 (.q 4 (.q 5 (.q 6 .done))))))) ?_
 first | refine AtT.zD zM ?_ | refine AtT.zJ zM ?_ | refine AtT.zC zM ?_
 refine AtT.qg rfl rfl ok57 (open_ok s h0 _ _ hv) ?_
 rintro v9 V9 hV9 ⟨b, rfl, hb⟩
 refine AtT.zh ?_
 refine AtT.zL ?_
 refine AtT.zL ?_
 refine AtT.zf ?_
 refine AtT.zf ?_
 refine AtT.done ?_
 refine At.nrm ?_
 refine At.nrm ?_
 refine At.zl (.q 0 (.q 1 .done)) ?_
 refine AtT.zh ?_
 refine AtT.qH ?_
 refine AtT.done ?_
 refine At.nrm ?_
 refine At.qW rfl rfl ?_
 refine At.nrm ?_
 refine At.zl (.q 0 (.n false 1 (.n false 2 (.q 3 .done)))) ?_
 refine AtT.zh ?_
 refine AtT.qg rfl rfl ok74 (pieces_f _ b) ?_
 rintro _ V17 hV17 ⟨q, rfl, hq⟩
 refine AtT.qg rfl rfl ok73 (collect_f (lyN (gdS s) 1296) (by have := lyN_len (gdS s) 1296; omega) 104 [.pointer (some q)] ok104 _ (iterP_f s hok _ b q hq (hb.le hV17))) ?_
 rintro v18 V18 hV18 hs18
 refine AtT.zf ?_
 refine AtT.done ?_
 refine At.nrm ?_
 obtain ⟨a18, c18, rfl, q1, q2, _⟩ := id hs18
 clear q1 q2
 refine At.nrm ?_
 refine At.zl (.q 0 (.q 1 (.q 2 .done))) ?_
 refine AtT.zh ?_
 first | refine AtT.zY Tryz.underlying27 ?_ | refine AtT.zZ Tryz.underlying27 ?_
 refine AtT.jg ?_
 refine AtT.done ?_
 refine At.nrm ?_
 refine At.qc rfl (fun hz => ?_) (fun hz => ?_)
 ·have hnil : lyN (gdS s) 1296 = [] := List.eq_nil_of_length_eq_zero (by omega)
  refine At.nrm ?_
  refine At.zl (.q 0 (.n true 1 (.q 2 .done))) ?_
  refine AtT.jc (bd26) ?_
  refine AtT.zW zS ?_
  refine AtT.zf ?_
  refine AtT.done ?_
  refine At.nrm ?_
  exact At.jh rfl (.agg rfl zS zX.zO rfl) (.tmp rfl) (by unfold laR; rw [if_neg e0, if_pos hnil]; rfl)
 cases hl : lyN (gdS s) 1296 with
 | nil => rw [hl] at hz; exact absurd rfl hz
 | cons x t =>
  have hla := laO_cons hl
  have hmem : ∀ p ∈ x :: t, 0 ≤ p.h ∧ p.h ≤ 6 ∧ 0 ≤ p.w ∧ p.w ≤ 6 := fun p hp => lies_6 hok (lyN_mem.1 (by rw [hl]; exact hp)).1
  rw [hl] at hs18
  refine At.nrm ?_
  refine At.zl (.q 0 (.n false 1 (.n true 2 (.q 3 .done)))) ?_
  refine AtT.zh ?_
  refine AtT.zq rfl rfl ok75 (best_p 76 [] gtA _ _ x t hs18 ok76 (fun p p' hp hp' => greater_f p p' (hmem p hp) (hmem p' hp') _)) ?_
  rintro _ rfl
  refine AtT.zW zS ?_
  refine AtT.zf ?_
  refine AtT.done ?_
  refine At.nrm ?_
  exact At.jh rfl (.agg rfl zS zX.zO rfl) (.tmp rfl) (by unfold laR; rw [if_neg e0, if_neg (by rw [hl]; simp), hla])
end Go.Proofs.YtghomjjffllkeaaGreatDoor
namespace Go.Lw
def FncM (P : Program) (cx : Cx) (f : FuncId) (args : List Value) (O : List Own) (V : View) (R : Value → List Own → View → Prop) : Prop :=
 ∀ w, Mem cx O V w → Calls P f args.toArray w fun e w' => ∃ v O' V', e = .returned v ∧ Mem cx O' V' w' ∧ R v O' V'
theorem Mem.ds {cx : Cx} {O : List Own} {V : View} {w : World} (h : Mem cx O V w) (ds : List Deferred) : Mem { cx with ds := ds } O V w := ⟨h.below, h.le0, h.fresh, h.view, h.own⟩
theorem Mem.ds' {cx : Cx} {O : List Own} {V : View} {w : World} {ds : List Deferred} (h : Mem { cx with ds := ds } O V w) : Mem cx O V w := ⟨h.below, h.le0, h.fresh, h.view, h.own⟩
abbrev PostM (cx : Cx) (R : Value → List Own → View → Prop) : Ending → World → Prop := fun e w' => ∃ v O' V', e = .returned v ∧ Mem cx O' V' w' ∧ R v O' V'
theorem fncM_of {P : Program} {cx : Cx} {f : FuncId} {fn : Func} {c : Code} {args : List Value} {O : List Own} {V : View} {R : Value → List Own → View → Prop} {n : Nat} (hf : P.funcs[f]? = some fn) (hb : fn.body = some c) (hn : fn.ntmps = n) (hl : args.length ≤ n)
  (h : At { cx with ds := [] } n (frame args 0) O V (c.wpIn (FW none) 0 P (bodyPost P fn (PostM cx R)))) : FncM P cx f args O V R := fun w hm => by
 refine (calls_FW (ro := none) (n := 0)).1 (callsIn_of_wp hf hb trivial (h _ w ⟨rfl, ?_, fun i v hi => ?_⟩ (hm.ds [])) rfl)
 ·simp [hn]; omega
 ·have := (frame_known args 0 i v hi).2
  simp only [Nat.sub_zero] at this
  have hlt := (List.getElem?_eq_some_iff.1 this).1
  rw [Array.getElem?_append_left (by simpa using hlt)]
  simpa using this
section
variable {cx : Cx} {n : Nat} {ks : List (Nat × Value)} {O O' R : List Own} {V : View} {P : Program} {fn : Func}
theorem At.retM1 {R : Value → List Own → View → Prop} {r : ResultVar} {v : Value} (hr : fn.results = #[r]) (h1 : Res P ks O V r v) (h : R v O V) : At { cx with ds := [] } n ks O V (bodyPost P fn (PostM cx R) .ret) := fun a w hk hm =>
 ⟨hk.defers, v, by
  rcases h1.spec hk hm with ⟨t, rfl, e⟩ | ⟨p, T, q, rfl, e, l⟩ <;> simp [results, hr, asAddr, *], _, O, V, rfl, hm.ds', h⟩
end
section
variable {cx : Cx} {n : Nat} {ks : List (Nat × Value)} {O O' : List Own} {V : View} {P : Program} {ops : Array Oper} {Qn : Act → World → Prop} {t : Tr} {i d : Nat} {T : TypeId} {pos : String} {after : Array Edge} {gd : Option (Nat × Bool)}
theorem AtT.callM {f : FuncId} {args : List Operand} {ts : Array TypeId} {vs : List Value} {R : Value → List Own → View → Prop} (ho : ops[i]? = some ⟨some d, .call ⟨.value (.func f), args.toArray, ts⟩, T, pos, after, gd⟩) (hg : Gd ks ops gd) (ha : evs ks args = some vs) (hf : zN P f) (hn : d < n)
  (hp : O.Perm O') (hc : FncM P cx f vs O' V R) (next : ∀ v O2 V2, R v O2 V2 → AtT cx n ((d, v) :: ks) O2 V2 P ops Qn t) : AtT cx n ks O V P ops Qn (.n true i t) :=
 .x ho hg fun a w hk hm => by
  have e : args.toArray.map a.eval = vs.toArray := by rw [← evs_map hk args vs ha]; simp
  have e2 : a.eval (.func f) = .func (.func f) #[] #[] := rfl
  simp only [opW, execOp, resolve, e, e2, Deferred.ofValue, Sem.run_bind, Sem.run_pure, Result.andThen_ok, invoke, Array.empty_append, Array.append_empty]
  rw [hf vs.toArray w]
  refine (hc w (hm.perm hp)).mono fun e w' ⟨v, O2, V2, h1, h2, h3⟩ => ?_
  subst h1
  exact ⟨_, O2, V2, hk.put hn v, h2, fun h => (by cases h), next v O2 V2 h3⟩
end
end Go.Lw
set_option linter.unusedVariables false
namespace Go.Proofs.YtghomjjffllkeaaGreatDoor
open Go.Lw Go.Gl Go.Pm Go.RowKit Go.Shelf
abbrev bye (u : UInt8) : List Value := [.int .u8 (u.toNat : Int)]
theorem bye_len (u : UInt8) : (bye u).length = 1 := rfl
theorem copyCheck_f {cx : Cx} {O : List Own} {V : View} (b : Nat) (buf : Value) (p : Option Addr) (hp : p = none ∨ p = some ⟨b, 0, none⟩) : FncM Tryz.prog cx 129 [.pointer (some ⟨b, 0, none⟩)] (.blk b (LC [.pointer p, buf] 145) :: O) V fun v O' V' => v = .tuple #[] ∧ O' = .blk b (LC [.pointer (some ⟨b, 0, none⟩), buf] 145) :: O ∧ V' = V := fun w hm => by
 have hb := hm.blk
 have hlt : b < w.heap.size := (Array.getElem?_eq_some_iff.1 hb).1
 rcases hp with rfl | rfl
 ·refine (Any.Builder_copyCheck_fresh { lay_join with } str_ext.toX72 b w (by simp [World.cell?, hb, LC]) (by simp [World.shape?, hb, LC]; rfl) (by simp [World.frozen?, hb, LC])).mono fun e w' ⟨h1, h2⟩ => ?_
  subst h2
  refine ⟨_, _, V, h1, hm.set (o' := LC [.pointer (some ⟨b, 0, none⟩), buf] 145) ⟨rfl, rfl, rfl, by simp [World.setCell], fun k _ hk => Below.heap_setCell _ _ _ _ (fun e => hk (by simp [e]))⟩ ?_, rfl, rfl, rfl⟩
  simp [World.setCell, Array.getElem?_modify, hb, LC]
 ·exact (Any.Builder_copyCheck_used { lay_join with } str_ext.toX72 b w (by simp [World.cell?, hb, LC])).mono fun e w' ⟨h1, h2⟩ => ⟨_, _, V, h1, h2 ▸ hm, rfl, rfl, rfl⟩
theorem writeByte_f {cx : Cx} {O : List Own} {V : View} (b : Nat) (p : Option Addr) (hp : p = none ∨ p = some ⟨b, 0, none⟩) (ao : Option Addr) (co : Nat) (l : List UInt8) (hl : l.length ≤ 100) (u : UInt8) :
  FncM Tryz.prog cx 106 [.pointer (some ⟨b, 0, none⟩), .int .u8 (u.toNat : Int)] (.blk b (LC [.pointer p, .slice ao l.length co] 145) :: .row (.slice ao l.length co) 5 1 l.length (flat bye l) :: O) V fun v O' V' =>
   v = .nilIface ∧ Le V V' ∧ ∃ a' c', O' = .row (.slice a' (l ++ [u]).length c') 5 1 (l ++ [u]).length (flat bye (l ++ [u])) :: .blk b (LC [.pointer (some ⟨b, 0, none⟩), .slice a' (l ++ [u]).length c'] 145) :: O := by
 have hlu : (l ++ [u]).length = l.length + 1 := by rw [List.length_append]; rfl
 refine fncM_of Tryz.func106 rfl Tryz.ntmps106 (Nat.le_of_ble_eq_true rfl) ?_
 refine At.nrm ?_
 refine At.zl (.q 0 .done) ?_
 refine AtT.zf ?_
 refine AtT.done ?_
 refine At.nrm ?_
 refine At.zl (.q 0 (.n true 1 .done)) ?_
 refine AtT.zh ?_
 refine AtT.callM rfl trivial rfl ok129 (by decide) (List.Perm.refl _) (copyCheck_f b _ p hp) ?_
 rintro _ _ _ ⟨rfl, rfl, rfl⟩
 refine AtT.done ?_
 refine At.nrm ?_
 refine At.zl (.q 0 (.q 1 (.q 2 (.q 3 (.q 4 (.q 5 (.n false 6 (.n true 7 (.q 8 (.q 9 (.n true 10 .done))))))))))) ?_
 refine AtT.zh ?_
 refine AtT.zh ?_
 refine AtT.knil ?_
 first | refine AtT.zi jk ?_ | with_reducible refine AtT.zk jk ?_ | refine AtT.zn jk ?_
 first | refine AtT.zm tk56 ?_ | refine AtT.zo tk56 ?_
 refine AtT.zh ?_
 refine AtT.zw (bs56_1_0 _) ?_
 intro q13 V13 hV13 hq13
 first | refine AtT.kappend Tryz.underlying56 rw5 ?_
 intro a14 c14
 refine AtT.knil ?_
 first | refine AtT.zi jk ?_ | with_reducible refine AtT.zk jk ?_ | refine AtT.zn jk ?_
 first | refine AtT.jf tk56 ?_ | refine AtT.zW tk56 ?_
 refine AtT.done ?_
 refine At.nrm ?_
 refine At.zl (.q 0 .done) ?_
 refine AtT.zf ?_
 refine AtT.done ?_
 refine At.nrm ?_
 exact At.retM1 rfl (.tmp rfl) ⟨rfl, by first | assumption | exact Le.trans (by assumption) (by assumption), a14, c14, by rw [hlu, ji]; rfl⟩
end Go.Proofs.YtghomjjffllkeaaGreatDoor
set_option linter.unusedVariables false
namespace Go.Proofs.YtghomjjffllkeaaGreatDoor
open Go.Lw Go.Gl Go.Pm Go.RowKit Go.Shelf
section
variable {cx : Cx} {n : Nat} {ks : List (Nat × Value)} {O R : List Own} {V : View} {ops : Array Oper} {Qn : Act → World → Prop} {t : Tr} {i d : Nat} {T : TypeId} {pos : String} {after : Array Edge} {gd : Option (Nat × Bool)} {x y : Operand} {wr : Bool}
theorem AtT.unsafeSD {X : TypeId} {a0 : Addr} {m c : Nat} (ho : ops[i]? = some ⟨some d, .call ⟨.builtin .unsafeSliceData, #[x], #[X]⟩, T, pos, after, gd⟩) (hg : Gd ks ops gd) (hx : ev ks x = some (.slice (some a0) m c)) (hc : c ≠ 0) (hn : d < n)
  (next : AtT cx n ((d, .pointer (some a0)) :: ks) O V Tryz.prog ops Qn t) : AtT cx n ks O V Tryz.prog ops Qn (.n wr i t) :=
 .x ho hg fun a w hk hm => by
  have e0 : (#[x] : Array Operand).map a.eval = #[.slice (some a0) m c] := by simp [hk.ev hx]
  have hr := Lib.run_unsafeSliceData_row (P := Tryz.prog) (w := w) #[X] T a0 m c hc
  simp only [opW, execOp, resolve, e0, Sem.run_bind, Sem.run_pure, Result.andThen_ok, invoke, builtin, hr]
  exact ⟨_, O, V, hk.put hn _, hm, fun _ u hu => hu, next⟩
theorem AtT.unsafeStr {g : Nat} {l : List UInt8} {rest : List Value} (ho : ops[i]? = some ⟨some d, .call ⟨.builtin .unsafeString, #[x, y], #[173, 3]⟩, T, pos, after, gd⟩) (hg : Gd ks ops gd) (hx : ev ks x = some (.pointer (some ⟨g, 0, none⟩))) (hy : ev ks y = some (.int .i64 l.length)) (h0 : l ≠ []) (h63 : l.length ≤ 9223372036854775807) (hp : zX (.blk g (LC (flat bye l ++ rest) 5)) O R) (hn : d < n)
  (next : AtT cx n ((d, .string ⟨l.toArray⟩) :: ks) R V Tryz.prog ops Qn t) : AtT cx n ks O V Tryz.prog ops Qn (.n true i t) :=
 .x ho hg fun a w hk hm => by
  have hm1 := hm.pick hp
  have hb := hm1.blk
  have hfl : (flat bye l).length = l.length := by rw [qU bye_len, Nat.mul_one]
  have e0 : (#[x, y] : Array Operand).map a.eval = #[.pointer (some ⟨g, 0, none⟩), .int .i64 l.length] := by simp [hk.ev hx, hk.ev hy]
  have hr := Lib.run_unsafeString_row (P := Tryz.prog) (w := w) 173 3 T 5 Tryz.underlying173 (by kernel_rfl) g (flat bye l ++ rest).length (by simp [World.shape?, hb, LC]) l h0 (by rw [List.length_append, hfl]; omega) h63 (fun j u hj => by
   rw [Addr.add_lit, cell_blk hb, Nat.zero_add, List.getElem?_append_left (by rw [hfl]; exact (List.getElem?_eq_some_iff.1 hj).1)]
   have := flat_at bye_len l j u hj 0 _ rfl
   simpa using this)
  simp only [opW, execOp, resolve, e0, Sem.run_bind, Sem.run_pure, Result.andThen_ok, invoke, builtin, hr]
  have hlen : l.length ≠ 0 := by simpa using h0
  refine ⟨_, R, V, hk.put hn _, (hm1.set (w' := w.freeze ⟨g, 0, none⟩ l.length) (o' := .cells (flat bye l ++ rest).toArray 5 (0, 0 + l.length)) ⟨?_, ?_, ?_, ?_, fun k _ hne => ?_⟩ ?_).drop, fun h => (by cases h), next⟩
  ·unfold World.freeze; rw [if_neg hlen]
  ·unfold World.freeze; rw [if_neg hlen]
  ·unfold World.freeze; rw [if_neg hlen]
  ·unfold World.freeze; rw [if_neg hlen]; simp
  ·unfold World.freeze; rw [if_neg hlen]
   simp only [Array.getElem?_modify]
   rw [if_neg (fun e => hne (by rw [e]))]
  ·unfold World.freeze; rw [if_neg hlen]
   simp only [Array.getElem?_modify, hb]
   simp [LC]
end
theorem bstring_f {cx : Cx} {O : List Own} {V : View} (b : Nat) (p : Option Addr) (ao : Option Addr) (co : Nat) (l : List UInt8) (h0 : l ≠ []) (hl : l.length ≤ 100) :
  FncM Tryz.prog cx 107 [.pointer (some ⟨b, 0, none⟩)] (.row (.slice ao l.length co) 5 1 l.length (flat bye l) :: .blk b (LC [.pointer p, .slice ao l.length co] 145) :: O) V fun v O' V' =>
   v = .string ⟨l.toArray⟩ ∧ V' = V ∧ O' = .blk b (LC [.pointer p, .slice ao l.length co] 145) :: O := by
 have hpos : l.length ≠ 0 := by simpa using h0
 refine fncM_of Tryz.func107 rfl Tryz.ntmps107 (Nat.le_of_ble_eq_true rfl) ?_
 refine At.nrm ?_
 refine At.zl (.q 0 .done) ?_
 refine AtT.zf ?_
 refine AtT.done ?_
 refine At.nrm ?_
 refine At.rowSplit (v := .slice ao l.length co) zX.zO (fun _ h _ => absurd h hpos) (fun g cap rest hv hc1 hc2 hc3 => ?_)
 cases hv
 refine At.nrm ?_
 refine At.draw (.q 0 (.q 1 (.q 2 (.q 3 (.q 5 (.q 6 (.q 7 (.q 8 (.q 9 (.n false 4 (.n true 10 (.q 11 .done)))))))))))) ffm (by kernel_rfl) ?_
 refine AtT.zh ?_
 refine AtT.knil ?_
 first | refine AtT.zi jk ?_ | with_reducible refine AtT.zk jk ?_ | refine AtT.zn jk ?_
 first | refine AtT.zm tk56 ?_ | refine AtT.zo tk56 ?_
 refine AtT.zh ?_
 refine AtT.knil ?_
 first | refine AtT.zi jk ?_ | with_reducible refine AtT.zk jk ?_ | refine AtT.zn jk ?_
 first | refine AtT.zm tk56 ?_ | refine AtT.zo tk56 ?_
 first | refine AtT.zY Tryz.underlying56 ?_ | refine AtT.zZ Tryz.underlying56 ?_
 refine AtT.unsafeSD rfl trivial rfl (by omega) (by decide) ?_
 refine AtT.unsafeStr rfl trivial rfl rfl h0 (by omega) zX.zO (by decide) ?_ (l := l) (rest := rest)
 refine AtT.zf ?_
 refine AtT.done ?_
 refine At.nrm ?_
 all_goals (exact At.retM1 rfl (.tmp rfl) ⟨rfl, rfl, rfl⟩)
end Go.Proofs.YtghomjjffllkeaaGreatDoor
set_option linter.unusedVariables false
namespace Go.Pm
open Go.Gl Go.Lw
def rwA (rows : List ByteArray) (k : Nat) : ByteArray := rows.getD k ByteArray.empty
def colB (rows : List ByteArray) (c : Nat) (m : Nat) : List UInt8 := (List.range m).map fun j => (bt (rwA rows (rows.length - 1 - j))).getD c 0
theorem colB_len (rows : List ByteArray) (c m : Nat) : (colB rows c m).length = m := by unfold colB; simp
theorem colB_snoc (rows : List ByteArray) (c m : Nat) : colB rows c (m + 1) = colB rows c m ++ [(bt (rwA rows (rows.length - 1 - m))).getD c 0] := by
 unfold colB; rw [List.range_succ, List.map_append]; rfl
def tnK (rows : List ByteArray) (k : Nat) : List ByteArray := (List.range k).map fun c => ⟨(colB rows c rows.length).toArray⟩
theorem tnK_len (rows : List ByteArray) (k : Nat) : (tnK rows k).length = k := by unfold tnK; simp
theorem tnK_snoc (rows : List ByteArray) (k : Nat) : tnK rows (k + 1) = tnK rows k ++ [⟨(colB rows k rows.length).toArray⟩] := by
 unfold tnK; rw [List.range_succ, List.map_append]; rfl
def tnS (s : Sh) : Sh := ⟨tnK s.rows (wdS s), s.most⟩
def tnN (s : Sh) : Nat → Sh
 | 0 => s
 | n + 1 => tnS (tnN s n)
abbrev ysB (rows : List ByteArray) : List (List Value) := (List.range rows.length).map fun (j : Nat) => [iv ((rows.length : Int) - 1 - (j : Int)), .string (rwA rows (rows.length - 1 - j))]
theorem ysB_at {rows : List ByteArray} {j : Nat} (h : j < rows.length) : (ysB rows)[j]? = some [iv ((rows.length : Int) - 1 - (j : Int)), .string (rwA rows (rows.length - 1 - j))] := by
 simp only [ysB, List.getElem?_map, List.getElem?_range h]; rfl
end Go.Pm
set_option linter.unusedVariables false
namespace Go.Proofs.YtghomjjffllkeaaGreatDoor
open Go.Lw Go.Gl Go.Pm Go.RowKit Go.Shelf
theorem backward_f (V : View) (a : Option Addr) (m c : Nat) : Fnc Tryz.prog 105 [.slice a m c] V fun r V' => ∃ q : Addr, r = .func (.func 128) #[] #[.pointer (some q)] ∧ Cells V' q [.slice a m c] := by
 refine qf Tryz.func105 rfl Tryz.ntmps105 (Nat.le_of_ble_eq_true rfl) ?_
 intro w0 hw0
 refine At.nrm ?_
 refine At.zl (.n false 0 (.q 1 .done)) ?_
 refine AtT.jb ?_
 intro b1
 refine AtT.zf ?_
 refine AtT.done ?_
 refine At.nrm ?_
 refine At.giveB (b := b1) zX.zO ?_
 intro V1 hV1 hb1
 refine At.zl (.q 0 (.q 1 .done)) ?_
 refine AtT.kfn ?_
 refine AtT.zf ?_
 refine AtT.done ?_
 refine At.nrm ?_
 exact At.qb rfl (.tmp rfl) ⟨_, rfl, qP hb1⟩
theorem iterB_f (rows : List ByteArray) (hn : rows.length ≤ 100) (V : View) (q : Addr) (a : Option Addr) (c : Nat) (hq : Cells V q [.slice a rows.length c]) (hs : Sl V bse 1 (.slice a rows.length c) rows) : It Tryz.prog 128 [.pointer (some q)] V (ysB rows) := by
 refine it_of Tryz.func128 rfl Tryz.ntmps128 (Nat.le_of_ble_eq_true rfl) rfl ?_
 intro l J E w0 H hJ
 refine At.nrm ?_
 refine At.zl (.q 0 (.q 1 (.q 2 (.q 3 .done)))) ?_
 first | refine AtT.zm zV ?_ | refine AtT.zo zV ?_
 first | refine AtT.zY Tryz.underlying22 ?_ | refine AtT.zZ Tryz.underlying22 ?_
 first | refine AtT.qD ?_ | refine AtT.qE ?_
 refine AtT.zf ?_
 refine AtT.done ?_
 refine At.nrm ?_
 refine At.lpY H (ι := Nat) (fun k => k ≤ rows.length) (fun k => [(0, .func (.yield l) #[] #[]), (1, .pointer (some q)), (3, iv ((rows.length : Int) - 1 - (k : Int)))]) (fun k => k) (fun k => rows.length - k) 0 (Nat.zero_le _) ⟨rfl, rfl, ivs (by omega), trivial⟩ hJ ?_
 rintro k w ks' hkl hJ rfl
 refine At.nrm ?_
 refine At.zl (.q 0 (.q 1 .done)) ?_
 refine AtT.zh ?_
 refine AtT.kgeq ?_
 refine AtT.done ?_
 refine At.nrm ?_
 refine At.qc rfl (fun hp => ?_) (fun hp => ?_)
 rotate_left
 ·obtain rfl : k = rows.length := by omega
  refine At.nrm ?_
  exact At.itEnd H (.inl rfl) rfl (.inl (by rw [ysB, List.length_map, List.length_range]; exact hJ))
 have hys := ysB_at (rows := rows) (j := k) (by omega)
 have hrw : rows[rows.length - 1 - k]? = some (rwA rows (rows.length - 1 - k)) := by
  unfold rwA
  simp [List.getD, List.getElem?_eq_getElem (show rows.length - 1 - k < rows.length by omega)]
 have hto : ((rows.length : Int) - 1 - (k : Int)).toNat = rows.length - 1 - k := by omega
 refine At.nrm ?_
 refine At.zl (.q 0 (.q 1 (.q 2 (.q 3 (.q 4 (.q 5 (.n true 6 (.q 7 .done)))))))) ?_
 refine AtT.zh ?_
 refine AtT.zh ?_
 first | refine AtT.zm zV ?_ | refine AtT.zo zV ?_
 refine AtT.zh ?_
 refine AtT.qp Tryz.underlying22 tk9 ?_
 intro p15 e15 he15 hc15
 first | refine AtT.zm tk9 ?_ | refine AtT.zo tk9 ?_
 obtain rfl : rwA rows (rows.length - 1 - k) = e15 := by have : rows[rows.length - 1 - k]? = some e15 := (by rw [hto] at he15; exact he15); rw [hrw] at this; simpa using this
 refine AtT.yield rfl trivial rfl rfl H (hys) (hJ) (by decide) ?_ ?_
 all_goals (intro w17 hJ17)
 all_goals (refine AtT.qZ ?_)
 all_goals refine AtT.done ?_
 all_goals (refine At.nrm ?_)
 rotate_left
 ·refine At.qB rfl rfl ?_
  refine At.nrm ?_
  exact At.itEnd H (.inr rfl) rfl (.inr hJ17)
 refine At.qW rfl rfl ?_
 refine At.nrm ?_
 refine At.zl (.q 0 (.q 1 (.q 2 .done))) ?_
 refine AtT.zh ?_
 first | refine AtT.qD ?_ | refine AtT.qE ?_
 refine AtT.zf ?_
 refine AtT.done ?_
 refine At.nrm ?_
 refine At.roundY H (k + 1) ?_ (by omega) ?_ hJ17
 ·show rows.length - (k + 1) < rows.length - k; omega
 ·exact ⟨rfl, rfl, ivs (by push_cast; omega), trivial⟩
theorem sl_emp {α : Type} {enc : α → List Value} {st : Nat} (V : View) (a : Option Addr) : Sl V enc st (.slice a 0 0) ([] : List α) := ⟨a, 0, rfl, Nat.le_refl _, Nat.zero_le _, fun h => absurd rfl h, fun p _ i x h => by simp at h⟩
theorem clone_f (l : List ByteArray) (h0 : l ≠ []) (hn : l.length ≤ 100) (V : View) (v : Value) (hs : Sl V bse 1 v l) : Fnc Tryz.prog 77 [v] V fun r V' => ∃ a c, r = .slice a l.length c ∧ Sl V' bse 1 (.slice a l.length c) l := by
 obtain ⟨a, c, rfl, k1, k2, ha, k3⟩ := id hs
 obtain ⟨p, rfl⟩ := Option.isSome_iff_exists.1 (ha h0)
 clear k1 k2 k3
 have hcl : Cells V p (flat bse l) := Sl.cells bse_len hs
 refine qf Tryz.func77 rfl Tryz.ntmps77 (Nat.le_of_ble_eq_true rfl) ?_
 intro w0 hw0
 refine At.nrm ?_
 refine At.zl (.q 0 .done) ?_
 refine AtT.zf ?_
 refine AtT.done ?_
 refine At.nrm ?_
 refine At.zl (.q 0 (.q 1 .done)) ?_
 refine AtT.zh ?_
 refine AtT.eqNil rfl trivial Tryz.underlying22 rfl rfl (by decide) ?_
 refine AtT.done ?_
 refine At.nrm ?_
 refine At.qW rfl rfl ?_
 refine At.nrm ?_
 refine At.zl (.n false 0 (.q 1 (.n true 2 (.q 3 .done)))) ?_
 refine AtT.zw (bs22_0) ?_
 intro q5 V5 hV5 hq5
 have g5 : Le V V5 := by first | exact hV5 | exact Le.trans (by assumption) hV5
 refine AtT.zh ?_
 refine AtT.appendC rfl trivial Tryz.underlying22 rw9 rfl (by decide) rfl (sl_emp _ _) rfl rfl (hcl.le hV5) (fun _ => rfl) h0 (by unfold maxLen; simp only [List.length_nil]; omega) (by simp only [List.length_nil]; omega) (by decide) (enc := bse) (l := []) (m := l) ?_
 intro a7 c7 V7 hV7 hs7
 refine AtT.zf ?_
 refine AtT.done ?_
 refine At.nrm ?_
 exact At.qb rfl (.tmp rfl) ⟨a7, c7, rfl, hs7⟩
end Go.Proofs.YtghomjjffllkeaaGreatDoor
set_option linter.unusedVariables false
set_option linter.unusedSimpArgs false
namespace Go.Lw
open Go.RowKit
section
variable {cx : Cx} {n : Nat} {ks : List (Nat × Value)} {O O' R : List Own} {V V0 : View} {P : Program} {ops : Array Oper} {Qn : Act → World → Prop} {t : Tr} {i d : Nat} {T : TypeId} {pos : String} {after : Array Edge} {gd : Option (Nat × Bool)} {x y : Operand} {u v : Value} {wr : Bool} {ro : Option Nat} {Q : Exit → Act → World → Prop} {K : Act → World → Prop}
 {l j : Nat} {J : Nat → World → Prop} {E : World → Prop} {ys : List (List Value)}
theorem At.rangeFuncD {g : Operand} {ps : Array Tmp} {assign body : Code} {f : FuncId} {caps : List Value} {Vi : View} {ι : Type} (idx : ι → Nat) (OS : ι → List Own) (VS : ι → View → Prop) (XS : Code → List Own → View → Prop)
  (hg : ev ks g = some (.func (.func f) #[] caps.toArray)) (hok : zN P f) (g0 : ι) (hg0 : idx g0 = 0) (hp : Pt (OS g0) O) (hv : VS g0 V) (hit : It P f caps Vi ys) (hVi : ∀ g V', VS g V' → Le Vi V')
  (hps : ∀ p ∈ ps.toList, p < n) (hlen : ∀ y ∈ ys, y.length = ps.size)
  (hround : ∀ i y l D r V' ks' O', ys[idx i]? = some y → VS i V' → Le cx.V0 V' → ks' = bindK ps.toList y ks → O' = OS i → At { cx with ds := [] } n ks' (.blk l (.loop { r with state := .ready, pending := none }) :: .blk D (.deferred (some [])) :: O') V'
   (assign.wpIn (FW (some l)) 0 P (Exit.then (fun a₁ w₁ => ∃ w₂, (Instr.beginRound l).run P w₁ = .ok () w₂ ∧ body.wpIn (FW (some l)) 0 P (roundPost P l (RR { cx with ds := [] } l D r idx OS VS XS (idx i))) a₁ w₂) (fun _ _ _ => False))))
  (hend : ∀ i D V' O', idx i = ys.length → VS i V' → Le cx.V0 V' → O' = OS i → At { cx with ds := mkD D :: cx.ds } n ks (.blk D (.deferred (some [])) :: O') V' (Q .normal))
  (hexit : ∀ D c O' V', XS c O' V' → Le cx.V0 V' → At { cx with ds := mkD D :: cx.ds } n ks (.blk D (.deferred (some [])) :: O') V' (c.wpIn (FW none) 0 P Q)) :
  At cx n ks O V ((Code.rangeFunc g ps assign body).wpIn (FW none) 0 P Q) := fun a w hk hm => by
 refine wpIn_rangeFunc fun fn _ => ?_
 let D := w.heap.size
 let r : Loop := { state := .ready, pending := none, fn := fn, tmps := a.tmps, params := ps, assign := assign, body := body, defers := D }
 let w1 := (w.alloc (.deferred (some []))).alloc (.loop r)
 have hm1 : Mem { cx with ds := [] } (.blk (D + 1) (.loop r) :: .blk D (.deferred (some [])) :: OS g0) V w1 := by
  have h1 := ((hm.part hp.part).ds []).alloc (.deferred (some []))
  have h2 := h1.alloc (.loop r)
  rwa [World.size_alloc] at h2
 have H : Yd P (D + 1) (RJ { cx with ds := [] } (D + 1) D r idx OS VS) (RE { cx with ds := [] } (D + 1) D r XS) Vi ys := by
  refine ⟨fun j w w' h hb => h.ext hb, fun w w' h hb => h.ext hb, fun j w h => ?_, fun j y w hy h => ?_⟩
  ·obtain ⟨g', V', h0, h1, h2⟩ := h
   exact (hVi _ _ h1).trans h2.view
  ·obtain ⟨g', V', rfl, h1, h2⟩ := h
   have hl := hlen y (List.mem_of_getElem? hy)
   refine ⟨_, _, _, _, run_yield h2.blk (by simpa using hl), ?_⟩
   rw [foldl_zip]
   refine roundIn_of_wpIn trivial ?_
   refine hround g' y (D + 1) D r V' _ _ hy h1 h2.le0 rfl rfl _ w ?_ h2
   have : Kn { cx with ds := [] } n ks { tmps := a.tmps, defers := [] } := ⟨rfl, hk.size, hk.known⟩
   have := Kn.bind ps.toList y ks a.tmps (by simpa using hl.symm) hps this
   exact ⟨this.defers, this.size, this.known⟩
 refine ⟨D + 1, [mkD D], w1, { target := .fn (.func f) caps.toArray, args := #[.func (.yield (D + 1)) #[] #[]] }, w1, f, (Value.func (.yield (D + 1)) #[] #[] :: caps).toArray, w1, run_enterLoop_outer _ _ _ _ _, ?_, fun _ _ => trivial, ?_, FW_dep none, ?_⟩
 ·have e1 : a.eval (.const (.func (.yield (D + 1)) #[] #[])) = .func (.yield (D + 1)) #[] #[] := rfl
  simp [resolve, hk.ev hg, Deferred.ofValue, e1]
 ·have e : (#[Value.func (.yield (D + 1)) #[] #[]] ++ caps.toArray) = (Value.func (.yield (D + 1)) #[] #[] :: caps).toArray := by simp
  simp only [invoke, e]
  exact hok _ _
 ·refine calls_FW.2 ((hit (D + 1) _ _ w1 H ⟨g0, V, hg0, hv, hm1⟩).mono fun e w' ⟨v, he, hh⟩ => ?_)
  subst he
  have hk' : Kn { cx with ds := mkD D :: cx.ds } n ks { a with defers := [mkD D] ++ a.defers } := ⟨by show [mkD D] ++ a.defers = mkD D :: cx.ds; rw [hk.defers]; rfl, hk.size, hk.known⟩
  rcases hh with ⟨g', V', h0, h1, h2⟩ | ⟨c, O', V', h1, h2⟩
  ·exact ⟨none, _, run_endLoop h2.blk (by simp), hend g' D V' _ h0 h1 h2.le0 rfl _ _ hk' (h2.put.drop.rebase rfl rfl)⟩
  ·exact ⟨some c, _, run_endLoop h2.blk (by simp), hexit D c O' V' h1 h2.le0 _ _ hk' (h2.put.drop.rebase rfl rfl)⟩
theorem At.lpD {ι : Type} {c : Code} (DS : ι → List Deferred) (KS : ι → List (Nat × Value)) (OS : ι → List Own) (VS : ι → View → Prop) (μ : ι → Nat) (i0 : ι)
  (hd : cx.ds = DS i0) (hs : Sub (KS i0) ks) (hp : Pt (OS i0) O) (hv : VS i0 V)
  (hbody : ∀ i V' ks' O', VS i V' → ks' = KS i → O' = OS i → Le cx.V0 V' → At { cx with ds := DS i } n ks' O' V' (c.wpIn (FW ro) 0 P (Exit.then (fun a w => ∃ i' V'', μ i' < μ i ∧ VS i' V'' ∧ Kn { cx with ds := DS i' } n (KS i') a ∧ Mem cx (OS i') V'' w) Q))) :
  At cx n ks O V ((Code.loop c).wpIn (FW ro) 0 P Q) := fun a w hk hm =>
 wpIn_loop_ghost (fun (i : ι) a w => ∃ V', VS i V' ∧ Kn { cx with ds := DS i } n (KS i) a ∧ Mem cx (OS i) V' w) μ
  (fun i a w ⟨V', hV, hk, hm⟩ => wpIn_mono (hbody i V' _ _ hV rfl rfl hm.le0 a w hk (hm.ds _)) (fun e a' w' hq => by
   cases e with
   | normal =>
    obtain ⟨i', V'', hlt, hV', hk', hm'⟩ := hq
    exact ⟨i', ⟨V'', hV', hk', hm'⟩, hlt⟩
   | exit id => exact hq
   | goto l => exact hq
   | ret => exact hq
   | panic ch => exact hq
   | outgrown => exact hq)) i0 a w ⟨V, hv, ⟨hk.defers.trans hd, hk.size, (hk.sub hs).known⟩, hm.part hp.part⟩
theorem At.roundD {ι : Type} {DS : ι → List Deferred} {KS : ι → List (Nat × Value)} {OS : ι → List Own} {VS : ι → View → Prop} {μ : ι → Nat} {i : ι} {ds : List Deferred} (i' : ι) (hμ : μ i' < μ i) (hv : VS i' V) (hd : ds = DS i') (hs : Sub (KS i') ks) (hp : Pt (OS i') O) :
  At { cx with ds := ds } n ks O V (fun a w => ∃ i' V'', μ i' < μ i ∧ VS i' V'' ∧ Kn { cx with ds := DS i' } n (KS i') a ∧ Mem cx (OS i') V'' w) := fun a w hk hm => ⟨i', V, hμ, hv, ⟨hk.defers.trans hd, hk.size, (hk.sub hs).known⟩, (hm.part hp.part).ds'⟩
abbrev dfB (D : Nat) : Own := .blk D (.deferred (some []))
theorem leaves_marks {fn : Func} {R' : Ending → World → Prop} {tmps : Array Value} {u : FrameMode} (hu : u ≠ .run) : ∀ (Ds : List Nat) (w : World), Mem cx (Ds.map dfB ++ R) V w → (∀ w', Mem cx R V w' → LeavesInM (FW none) 0 P fn tmps R' [] u w') → LeavesInM (FW none) 0 P fn tmps R' (Ds.map mkD) u w
 | [], w, hm, h => h w hm
 | D :: Ds, w, hm, h => by
  refine ⟨hu, .inl ⟨D, _, rfl, run_takeDeferred (Mem.blk hm), ?_⟩⟩
  exact leaves_marks hu Ds _ (Mem.put (o' := .deferred none) hm).drop h
theorem At.unmarks {fn : Func} {R' : Ending → World → Prop} {e : Exit} (Ds : List Nat) (he : e = .ret ∨ e = .normal) (hd : cx.ds = Ds.map mkD) (hp : O.Perm (Ds.map dfB ++ R)) (h : At { cx with ds := [] } n ks R V (bodyPost P fn R' e)) :
  At cx n ks O V (bodyPostM (FW none) 0 P fn R' e) := fun a w hk hm => by
 have key : ∀ w', Mem cx R V w' → LeavesInM (FW none) 0 P fn a.tmps R' [] .returning w' := fun w' hm' => by
  have := h { a with defers := [] } w' ⟨rfl, hk.size, hk.known⟩ (hm'.ds [])
  rcases he with rfl | rfl
  all_goals
   obtain ⟨_, h2⟩ := this
   exact h2
 rcases he with rfl | rfl
 all_goals
  show LeavesInM _ _ _ _ _ _ a.defers _ _
  rw [hk.defers, hd]
  exact leaves_marks (by simp) Ds w (hm.perm hp) key
end
end Go.Lw
set_option linter.unusedVariables false
namespace Go.Proofs.YtghomjjffllkeaaGreatDoor
open Go.Lw Go.Gl Go.Pm Go.RowKit Go.Shelf
theorem pt_self : ∀ L : List Own, Pt L L
 | [] => Pt.nil
 | x :: L => Pt.cons zX.here (pt_self L)
theorem pt_skip {L' L : List Own} {x : Own} (h : Pt L' L) : Pt L' (x :: L) := by
 induction h with
 | nil => exact Pt.nil
 | cons hx _ ih => exact Pt.cons (zX.there hx) ih
theorem turned_f (s : Sh) (hn : 1 ≤ s.rows.length ∧ s.rows.length ≤ 6) (hw : wdS s ≤ 6) (hsz : ∀ r ∈ s.rows, r.size = wdS s) (V : View) (v : Value) (hv : ShV V v s) : Fnc Tryz.prog 78 [v] V fun r V' => ShV V' r (tnS s) := by
 obtain ⟨a, c, rfl, hs⟩ := id hv
 obtain ⟨r0, hr0⟩ : ∃ r, s.rows[0]? = some r := ⟨_, List.getElem?_eq_getElem (by omega)⟩
 have hr0s : r0.size = wdS s := hsz r0 (List.mem_of_getElem? hr0)
 refine fn_ofM Tryz.func78 rfl Tryz.ntmps78 (Nat.le_of_ble_eq_true rfl) ?_
 intro w0 hw0
 refine At.nrm ?_
 refine At.zl (.n false 0 (.n false 1 .done)) ?_
 refine AtT.jb ?_
 intro b1
 refine AtT.qx z24 ?_
 intro b2
 refine AtT.done ?_
 refine At.nrm ?_
 refine At.zl (.q 0 (.q 1 (.q 2 (.n false 3 (.n true 4 .done))))) ?_
 first | refine AtT.zi zR ?_ | with_reducible refine AtT.zk zR ?_ | refine AtT.zn zR ?_
 first | refine AtT.zm tk3 ?_ | refine AtT.zo tk3 ?_
 refine AtT.jc (bd24_1 _) ?_
 refine AtT.qx z24 ?_
 intro b3
 refine AtT.zW zM ?_
 refine AtT.done ?_
 refine At.nrm ?_
 refine At.zl (.q 0 (.q 1 (.q 2 (.q 3 (.q 4 (.q 5 .done)))))) ?_
 first | refine AtT.zi zt ?_ | with_reducible refine AtT.zk zt ?_ | refine AtT.zn zt ?_
 first | refine AtT.zm zV ?_ | refine AtT.zo zV ?_
 refine AtT.qp Tryz.underlying22 tk9 ?_
 intro p13 e13 he13 hc13
 first | refine AtT.zm tk9 ?_ | refine AtT.zo tk9 ?_
 obtain rfl : r0 = e13 := by have : s.rows[0]? = some e13 := (by simpa using he13); rw [hr0] at this; simpa using this
 refine AtT.qM rfl trivial Tryz.underlying9 rfl (by decide) ?_
 rw [hr0s]
 refine AtT.zh ?_
 refine AtT.done ?_
 refine At.nrm ?_
 refine At.newRow 9 1 ?_
 refine At.lpD (ι := Nat × List Nat × Option Addr × Nat) (DS := fun g => g.2.1.map mkD) (KS := fun g => [(1, .pointer (some ⟨b1, 0, none⟩)), (2, .pointer (some ⟨b2, 0, none⟩)), (3, .pointer (some ⟨b3, 0, none⟩)), (15, iv (wdS s)), (16, iv g.1)])
  (OS := fun g => .blk b3 (LC [.slice g.2.2.1 (tnK s.rows g.1).length g.2.2.2, iv s.most] 24) :: .row (.slice g.2.2.1 (tnK s.rows g.1).length g.2.2.2) 9 1 (tnK s.rows g.1).length (flat bse (tnK s.rows g.1)) :: .blk b1 (LC [.slice a s.rows.length c, iv s.most] 24) :: .blk b2 (LC [.slice none 0 0, iv 0] 24) :: g.2.1.map dfB)
  (VS := fun g V' => Le V V' ∧ g.1 ≤ wdS s) (μ := fun g => wdS s - g.1) (0, [], none, 0) rfl ?_ ?_ ?_ ?_
 ·exact ⟨rfl, rfl, rfl, rfl, rfl, trivial⟩
 ·exact Pt.zO
 ·exact ⟨Le.refl _, Nat.zero_le _⟩
 rintro ⟨k, Ds, ao, co⟩ V' ks' O' ⟨hVV, hkl⟩ hk hO hl2
 dsimp only at hkl hk hO
 subst hk hO
 have hs' := hs.le hVV
 refine At.nrm ?_
 refine At.zl (.q 0 .done) ?_
 refine AtT.qa ?_
 refine AtT.done ?_
 refine At.nrm ?_
 refine At.qc rfl (fun hp => ?_) (fun hp => ?_)
 rotate_left
 ·obtain rfl : k = wdS s := by omega
  refine At.nrm ?_
  refine At.zl (.q 0 (.n true 1 .done)) ?_
  first | refine AtT.zD zM ?_ | refine AtT.zJ zM ?_ | refine AtT.zC zM ?_
  refine AtT.zW zM ?_
  refine AtT.done ?_
  refine At.nrm ?_
  refine At.giveSl (l := tnK s.rows (wdS s)) bse_len rfl rfl zX.zO (fun V4 hV4 hs4 => ?_)
  refine At.unmarks Ds (.inl rfl) rfl (List.perm_append_comm (l₁ := [_, _, _])) ?_
  exact At.qb rfl (.agg rfl zM zX.zO rfl) ⟨ao, co, rfl, hs4⟩
 refine At.nrm ?_
 refine At.zl (.q 0 (.n false 1 (.n true 2 .done))) ?_
 refine AtT.zh ?_
 refine AtT.qx z3 ?_
 intro b4
 first | refine AtT.jf tk3 ?_ | refine AtT.zW tk3 ?_
 refine AtT.done ?_
 refine At.nrm ?_
 refine At.nrm ?_
 refine At.zl (.n false 0 .done) ?_
 refine AtT.qx z145 ?_
 intro b5
 refine AtT.done ?_
 refine At.nrm ?_
 refine At.nrm ?_
 refine At.zl (.q 0 (.q 1 (.n false 2 .done))) ?_
 first | refine AtT.zi zt ?_ | with_reducible refine AtT.zk zt ?_ | refine AtT.zn zt ?_
 first | refine AtT.zm zV ?_ | refine AtT.zo zV ?_
 refine AtT.qg rfl rfl ok105 (backward_f _ a _ c) ?_
 rintro _ V21 hV21 ⟨q, rfl, hq⟩
 refine AtT.done ?_
 refine At.nrm ?_
 have hs2 := hs'.le hV21
 refine At.newRow 5 1 ?_
 refine At.rangeFuncD (Vi := V21) (ys := ysB s.rows) (ι := Nat × Option Addr × Nat × Option Addr) (fun g => g.1)
  (fun g => .row (.slice g.2.1 (colB s.rows k g.1).length g.2.2.1) 5 1 (colB s.rows k g.1).length (flat bye (colB s.rows k g.1)) :: .blk b5 (LC [.pointer g.2.2.2, .slice g.2.1 (colB s.rows k g.1).length g.2.2.1] 145) :: .blk b4 (LC [iv k] 3) :: .blk b3 (LC [.slice ao (tnK s.rows k).length co, iv s.most] 24) :: .row (.slice ao (tnK s.rows k).length co) 9 1 (tnK s.rows k).length (flat bse (tnK s.rows k)) :: .blk b1 (LC [.slice a s.rows.length c, iv s.most] 24) :: .blk b2 (LC [.slice none 0 0, iv 0] 24) :: Ds.map dfB)
  (fun g V'' => Le V21 V'' ∧ (g.2.2.2 = none ∨ g.2.2.2 = some ⟨b5, 0, none⟩)) (fun _ _ _ => False) rfl ok128 (0, none, 0, none) rfl ?_ ⟨Le.refl _, .inl rfl⟩ (iterB_f s.rows (by omega) V21 q a c hq hs2) (fun _ _ h => h.1) (by decide) (fun y hy => by obtain ⟨j, _, rfl⟩ := List.mem_map.1 hy; rfl) ?_ ?_ (fun _ _ _ _ h => h.elim)
 ·repeat (first | exact pt_self _ | refine Pt.cons zX.zO ?_ | refine pt_skip ?_)
 ·rintro ⟨m, a5, c5, p5⟩ y l D r V6 ks' O' hy ⟨hV6, hp5⟩ hl rfl rfl
  dsimp only at hy hp5 ⊢
  have hm : m < s.rows.length := by
   have := (List.getElem?_eq_some_iff.1 hy).1
   rwa [ysB, List.length_map, List.length_range] at this
  obtain rfl : y = [iv ((s.rows.length : Int) - 1 - (m : Int)), .string (rwA s.rows (s.rows.length - 1 - m))] := by rw [ysB_at hm] at hy; exact (Option.some.inj hy).symm
  obtain ⟨rw', hrw⟩ : ∃ rw', rw' = rwA s.rows (s.rows.length - 1 - m) := ⟨_, rfl⟩
  have hrm : s.rows[s.rows.length - 1 - m]? = some rw' := by
   rw [hrw]; unfold rwA
   simp [List.getD, List.getElem?_eq_getElem (show s.rows.length - 1 - m < s.rows.length by omega)]
  have hrsz := hsz rw' (List.mem_of_getElem? hrm)
  have hcs := colB_snoc s.rows k m
  rw [← hrw] at hcs ⊢
  have hcl := colB_len s.rows k m
  show At _ _ ((23, .string rw') :: (22, iv ((s.rows.length : Int) - 1 - (m : Int))) :: _) _ _ _
  refine At.nrm ?_
  refine At.zl (.q 0 .done) ?_
  refine AtT.zf ?_
  refine AtT.done ?_
  refine At.nrm ?_
  refine At.begin zX.zO ?_
  refine At.nrm ?_
  refine At.pt (O' := .blk b5 (LC [.pointer p5, .slice a5 (colB s.rows k m).length c5] 145) :: .row (.slice a5 (colB s.rows k m).length c5) 5 1 (colB s.rows k m).length (flat bye (colB s.rows k m)) :: .blk l (.loop { r with state := .busy, pending := none }) :: .blk D (.deferred (some [])) :: .blk b4 (LC [iv k] 3) :: .blk b3 (LC [.slice ao (tnK s.rows k).length co, iv s.most] 24) :: .row (.slice ao (tnK s.rows k).length co) 9 1 (tnK s.rows k).length (flat bse (tnK s.rows k)) :: .blk b1 (LC [.slice a s.rows.length c, iv s.most] 24) :: .blk b2 (LC [.slice none 0 0, iv 0] 24) :: Ds.map dfB) ?_ ?_
  ·repeat (first | exact pt_self _ | refine Pt.cons zX.zO ?_ | refine pt_skip ?_)
  refine At.zl (.q 0 (.q 1 (.q 2 (.n true 3 .done)))) ?_
  refine AtT.zh ?_
  first | refine AtT.zm tk3 ?_ | refine AtT.zo tk3 ?_
  refine AtT.ixS rfl trivial Tryz.underlying9 rfl rfl (by omega) (by omega) (by decide) ?_
  rw [Int.toNat_natCast]
  refine AtT.callM rfl trivial rfl ok106 (by decide) (List.Perm.refl _) (writeByte_f b5 p5 hp5 a5 c5 (colB s.rows k m) (by omega) ((bt rw').getD k 0)) ?_
  rintro _ _ V7 ⟨rfl, hV7, a', c', rfl⟩
  refine AtT.done ?_
  refine At.nrm ?_
  refine At.roundN (m + 1, a', c', some ⟨b5, 0, none⟩) rfl ⟨hV6.trans hV7, .inr rfl⟩ zX.zO ?_
  dsimp only
  rw [hcs]
  repeat (first | exact pt_self _ | refine Pt.cons zX.zO ?_ | refine pt_skip ?_)
 rintro ⟨m, a5, c5, p5⟩ D V6 O' hm ⟨hV6, hp5⟩ hl rfl
 dsimp only at hm ⊢
 rw [ysB, List.length_map, List.length_range] at hm
 subst hm
 have hcl := colB_len s.rows k s.rows.length
 have hcne : colB s.rows k s.rows.length ≠ [] := fun e => by rw [e] at hcl; simp at hcl; omega
 have htl := tnK_len s.rows k
 refine At.sub (ks' := [(1, .pointer (some ⟨b1, 0, none⟩)), (2, .pointer (some ⟨b2, 0, none⟩)), (3, .pointer (some ⟨b3, 0, none⟩)), (15, iv (wdS s)), (16, iv k), (5, .pointer (some ⟨b5, 0, none⟩))]) ⟨rfl, rfl, rfl, rfl, rfl, rfl, trivial⟩ ?_
 refine At.pt (O' := .row (.slice a5 (colB s.rows k s.rows.length).length c5) 5 1 (colB s.rows k s.rows.length).length (flat bye (colB s.rows k s.rows.length)) :: .blk b5 (LC [.pointer p5, .slice a5 (colB s.rows k s.rows.length).length c5] 145) :: .blk D (.deferred (some [])) :: .blk b4 (LC [iv k] 3) :: .blk b3 (LC [.slice ao (tnK s.rows k).length co, iv s.most] 24) :: .row (.slice ao (tnK s.rows k).length co) 9 1 (tnK s.rows k).length (flat bse (tnK s.rows k)) :: .blk b1 (LC [.slice a s.rows.length c, iv s.most] 24) :: .blk b2 (LC [.slice none 0 0, iv 0] 24) :: Ds.map dfB) ?_ ?_
 ·repeat (first | exact pt_self _ | refine Pt.cons zX.zO ?_ | refine pt_skip ?_)
 have hlk : (tnK s.rows (k + 1)).length = (tnK s.rows k).length + 1 := by rw [tnK_len, tnK_len]
 refine At.nrm ?_
 refine At.jr (ι := Option Addr × Nat) (fun _ => [(1, .pointer (some ⟨b1, 0, none⟩)), (2, .pointer (some ⟨b2, 0, none⟩)), (3, .pointer (some ⟨b3, 0, none⟩)), (15, iv (wdS s)), (16, iv k)])
  (fun g => .blk b3 (LC [.slice g.1 (tnK s.rows (k + 1)).length g.2, iv s.most] 24) :: .row (.slice g.1 (tnK s.rows (k + 1)).length g.2) 9 1 (tnK s.rows (k + 1)).length (flat bse (tnK s.rows (k + 1))) :: .blk b1 (LC [.slice a s.rows.length c, iv s.most] 24) :: .blk b2 (LC [.slice none 0 0, iv 0] 24) :: (D :: Ds).map dfB)
  (fun g V'' => Le V6 V'') ?_ ?_
 ·rw [hlk, tnK_snoc, ji]
  have hbase : Le V V6 := (hVV.trans hV21).trans hV6
  refine At.drawC [.blk b3 (LC [.slice ao (tnK s.rows k).length co, iv s.most] 24)] (.q 0 (.q 1 (.n false 2 (.n false 3 (.n true 4 (.q 5 (.n true 6 .done))))))) ffm (by kernel_rfl) Pt.zO ?_
  refine AtC.pre (fun hle0 => ?_)
  refine AtC.kq (by (first | refine AtT.zi zt ?_ | with_reducible refine AtT.zk zt ?_ | refine AtT.zn zt ?_); exact At.knows) ?_
  refine AtC.kq (by (first | refine AtT.zm zV ?_ | refine AtT.zo zV ?_); exact At.knows) ?_
  refine AtC.nz (AtT.callM rfl trivial rfl ok107 (by decide) (List.Perm.refl _) (bstring_f b5 p5 a5 c5 (colB s.rows k s.rows.length) hcne (by omega)) ?_)
  rintro _ _ _ ⟨rfl, rfl, rfl⟩
  refine AtC.go Pt.zO (Le.refl _) ?_
  refine AtC.nz (AtT.bsliceG rfl trivial rfl (bs22_1_0 _) (by decide) ?_)
  intro q31 V31 hV31 hq31
  have g31 : Le V V31 := by first | exact hV31 | exact Le.trans (by assumption) hV31
  refine AtC.go Pt.zO hV31 ?_
  refine AtC.toT ?_
  first | refine AtT.kappend Tryz.underlying22 rw9 ?_
  intro a32 c32
  first | refine AtT.zi zt ?_ | with_reducible refine AtT.zk zt ?_ | refine AtT.zn zt ?_
  first | refine AtT.jf zV ?_ | refine AtT.zW zV ?_
  refine AtT.done ?_
  refine At.nrm ?_
  all_goals (refine At.qC (a32, c32) (by first | assumption | exact Le.trans (by assumption) (by assumption)) ⟨rfl, rfl, rfl, rfl, rfl, trivial⟩ ?_; repeat (first | exact pt_self _ | refine Pt.cons zX.zO ?_ | refine pt_skip ?_))
 rintro ⟨a6, c6⟩ V7 ks' O' hV7 hk hO hl6
 dsimp only at hk hO
 subst hk hO
 refine At.nrm ?_
 refine At.zl (.q 0 (.q 1 .done)) ?_
 first | refine AtT.qi ?_ | refine AtT.zT ?_
 refine AtT.zh ?_
 refine AtT.done ?_
 refine At.nrm ?_
 refine At.roundD (cx := { w0 := w0, V0 := V }) (DS := fun g : Nat × List Nat × Option Addr × Nat => g.2.1.map mkD) (i := (k, Ds, ao, co)) (μ := fun g => wdS s - g.1) (k + 1, D :: Ds, a6, c6) ?_ ?_ rfl ?_ ?_
 ·show wdS s - (k + 1) < wdS s - k; omega
 ·exact ⟨((hVV.trans hV21).trans hV6).trans hV7, by dsimp only; omega⟩
 ·exact ⟨rfl, rfl, rfl, rfl, ivs (by dsimp only; omega), trivial⟩
 repeat (first | exact pt_self _ | refine Pt.cons zX.zO ?_ | refine pt_skip ?_)
end Go.Proofs.YtghomjjffllkeaaGreatDoor
set_option linter.unusedVariables false
namespace Go.Pm
open Go.Gl Go.Lw
abbrev cbB (rows : List ByteArray) (c m : Nat) : ByteArray := ⟨(colB rows c m).toArray⟩
theorem cbB_bt (rows : List ByteArray) (c m : Nat) : bt (cbB rows c m) = colB rows c m := by unfold bt; simp
theorem cbB_size (rows : List ByteArray) (c m : Nat) : (cbB rows c m).size = m := by rw [← bt_len, cbB_bt, colB_len]
theorem bt_app (a b : ByteArray) : bt (a ++ b) = bt a ++ bt b := by unfold bt; simp [ByteArray.data_append]
end Go.Pm
set_option linter.unusedVariables false
namespace Go.Pm
open Go.Gl Go.Lw
structure Rct (s : Sh) : Prop where
 n : 1 ≤ s.rows.length ∧ s.rows.length ≤ 6
 w : 1 ≤ wdS s ∧ wdS s ≤ 6
 sz : ∀ r ∈ s.rows, r.size = wdS s
theorem rct_ok {s : Sh} (h : ShOk s) : Rct s := ⟨h.n, h.w, h.sz⟩
theorem tnS_wd {s : Sh} (h : Rct s) : wdS (tnS s) = s.rows.length := by
 unfold wdS row0 tnS
 have hl : (tnK s.rows (wdS s))[0]? = some (cbB s.rows 0 s.rows.length) := by
  unfold tnK
  rw [List.getElem?_map, List.getElem?_range (by have := h.w; omega)]; rfl
 show ((tnK s.rows (wdS s)).getD 0 ByteArray.empty).size = _
 rw [show (tnK s.rows (wdS s)).getD 0 ByteArray.empty = cbB s.rows 0 s.rows.length by simp [List.getD, hl], cbB_size]
theorem rct_tn {s : Sh} (h : Rct s) : Rct (tnS s) := by
 have hw := tnS_wd h
 have hl : (tnS s).rows.length = wdS s := tnK_len _ _
 refine ⟨by rw [hl]; exact h.w, by rw [hw]; exact h.n, fun r hr => ?_⟩
 rw [hw]
 unfold tnS tnK at hr
 obtain ⟨c, _, rfl⟩ := List.mem_map.1 hr
 exact cbB_size _ _ _
theorem rct_tnN {s : Sh} (h : Rct s) : ∀ n, Rct (tnN s n)
 | 0 => h
 | n + 1 => rct_tn (rct_tnN h n)
end Go.Pm
set_option linter.unusedVariables false
namespace Go.Pm
open Go.Gl Go.Lw
def sh0 : Sh := ⟨[], 0⟩
def tuR (s : Sh) (t : Int) : Sh × Int := if chE s ≠ 0 then (sh0, chE s) else if t < 0 ∨ 3 < t then (sh0, 2) else (tnN s t.toNat, 0)
end Go.Pm
namespace Go.Proofs.YtghomjjffllkeaaGreatDoor
open Go.Lw Go.Gl Go.Pm Go.RowKit Go.Shelf
def TuV (s : Sh) (t : Int) (r : Value) (V' : View) : Prop := ∃ u, r = .tuple #[u, iv (tuR s t).2] ∧ ShV V' u (tuR s t).1
theorem sh0_v (V : View) : ShV V (.agg #[.slice none 0 0, iv 0]) sh0 := ⟨none, 0, rfl, Sl.nil _ _ _⟩
theorem turn_f (s : Sh) (t : Int) (V : View) (v : Value) (hv : ShV V v s) : Fnc Tryz.prog 38 [v, iv t] V (TuV s t) := by
 obtain ⟨a, c, rfl, hs⟩ := id hv
 refine qf Tryz.func38 rfl Tryz.ntmps38 (Nat.le_of_ble_eq_true rfl) ?_
 intro w0 hw0
 refine At.nrm ?_
 refine At.zl (.n false 0 (.n false 1 (.q 2 .done))) ?_
 refine AtT.jb ?_
 intro b2
 refine AtT.qx z24 ?_
 intro b4
 refine AtT.zf ?_
 refine AtT.done ?_
 refine At.nrm ?_
 refine At.zl (.q 0 (.n false 1 (.q 2 .done))) ?_
 first | refine AtT.zD zM ?_ | refine AtT.zJ zM ?_ | refine AtT.zC zM ?_
 refine AtT.zq rfl rfl ok19 (sheetP_f s _ _ hv) ?_
 rintro _ rfl
 refine AtT.zf ?_
 refine AtT.done ?_
 refine At.nrm ?_
 refine At.nrm ?_
 refine At.zl (.q 0 (.q 1 (.q 2 .done))) ?_
 refine AtT.zh ?_
 refine AtT.qH ?_
 refine AtT.zf ?_
 refine AtT.done ?_
 refine At.nrm ?_
 refine At.qc rfl (fun h0 => ?_) (fun h0 => ?_)
 ·have e : tuR s t = (sh0, chE s) := by unfold tuR; rw [if_pos h0]
  refine At.nrm ?_
  refine At.zl (.q 0 (.q 1 (.n true 2 (.q 3 .done)))) ?_
  refine AtT.jc (bd24) ?_
  refine AtT.zh ?_
  refine AtT.zW zM ?_
  refine AtT.zf ?_
  refine AtT.done ?_
  refine At.nrm ?_
  exact At.jh rfl (.agg rfl zM zX.zO rfl) (.tmp rfl) ⟨_, by rw [e], by rw [e]; exact sh0_v _⟩
 have h0' := Classical.not_not.1 h0
 have hok := jo h0'
 have hr := rct_ok hok
 have hrn := hr.n
 have hne : s.rows ≠ [] := fun e => by rw [e] at hrn; simp at hrn
 by_cases c1 : 0 ≤ t ∧ t ≤ 3
 rotate_left
 ·have e : tuR s t = (sh0, 2) := by unfold tuR; rw [if_neg h0, if_pos (by omega)]
  refine At.nrm ?_
  refine At.zl (.q 0 (.n false 1 (.n false 2 (.q 3 (.q 4 .done))))) ?_
  refine AtT.zh ?_
  refine AtT.zw (zU _) ?_
  intro q16 V16 hV16 hq16
  have g16 : Le V V16 := by first | exact hV16 | exact Le.trans (by assumption) hV16
  refine AtT.zq rfl rfl jq (qj 0 3 [t] _ _ (Sl.lit hq16 rfl (by simp))) ?_
  rintro _ rfl; rw [jv, decide_eq_false c1]
  refine AtT.qZ ?_
  refine AtT.zf ?_
  refine AtT.done ?_
  refine At.nrm ?_
  refine At.qB rfl rfl ?_
  refine At.nrm ?_
  refine At.zl (.q 0 (.n true 1 (.q 2 .done))) ?_
  refine AtT.jc (bd24) ?_
  refine AtT.zW zM ?_
  refine AtT.zf ?_
  refine AtT.done ?_
  refine At.nrm ?_
  exact At.jh rfl (.agg rfl zM zX.zO rfl) (.tmp rfl) ⟨_, by rw [e], by rw [e]; exact sh0_v _⟩
 have e : tuR s t = (tnN s t.toNat, 0) := by unfold tuR; rw [if_neg h0, if_neg (by omega)]
 obtain ⟨n, rfl⟩ : ∃ n : Nat, t = (n : Int) := ⟨t.toNat, by omega⟩
 rw [Int.toNat_natCast] at e
 refine At.nrm ?_
 refine At.zl (.q 0 (.n false 1 (.n false 2 (.q 3 (.q 4 .done))))) ?_
 refine AtT.zh ?_
 refine AtT.zw (zU _) ?_
 intro q16 V16 hV16 hq16
 have g16 : Le V V16 := by first | exact hV16 | exact Le.trans (by assumption) hV16
 refine AtT.zq rfl rfl jq (qj 0 3 [(n : Int)] _ _ (Sl.lit hq16 rfl (by simp))) ?_
 rintro _ rfl; rw [jv, decide_eq_true c1]
 refine AtT.qZ ?_
 refine AtT.zf ?_
 refine AtT.done ?_
 refine At.nrm ?_
 refine At.qW rfl rfl ?_
 refine At.nrm ?_
 refine At.zl (.q 0 (.q 1 (.n false 2 (.q 3 (.n true 4 .done))))) ?_
 first | refine AtT.zi zt ?_ | with_reducible refine AtT.zk zt ?_ | refine AtT.zn zt ?_
 first | refine AtT.zm zV ?_ | refine AtT.zo zV ?_
 refine AtT.qg rfl rfl ok77 (clone_f s.rows hne (by omega) _ _ (hs.le (by assumption))) ?_
 rintro _ V22 hV22 ⟨a22, c22, rfl, hs22⟩
 first | refine AtT.zi zt ?_ | with_reducible refine AtT.zk zt ?_ | refine AtT.zn zt ?_
 first | refine AtT.jf zV ?_ | refine AtT.zW zV ?_
 refine AtT.done ?_
 refine At.nrm ?_
 refine At.nrm ?_
 refine At.zl (.q 0 (.q 1 .done)) ?_
 refine AtT.zh ?_
 refine AtT.zh ?_
 refine AtT.done ?_
 refine At.nrm ?_
 refine At.lp (ι := Nat × Option Addr × Nat) (KS := fun g => [(2, .pointer (some ⟨b2, 0, none⟩)), (4, .pointer (some ⟨b4, 0, none⟩)), (24, iv n), (25, iv g.1)])
  (OS := fun g => [.blk b2 (LC [.slice g.2.1 (tnN s g.1).rows.length g.2.2, iv (tnN s g.1).most] 24), .blk b4 (LC [.slice none 0 0, iv 0] 24)]) (VS := fun g V' => Le V22 V' ∧ g.1 ≤ n ∧ Sl V' bse 1 (.slice g.2.1 (tnN s g.1).rows.length g.2.2) (tnN s g.1).rows) (μ := fun g => n - g.1) (0, a22, c22) ?_ ?_ ?_ ?_
 ·exact ⟨rfl, rfl, rfl, rfl, trivial⟩
 ·exact Pt.zO
 ·exact ⟨Le.refl _, Nat.zero_le _, hs22⟩
 rintro ⟨k, a6, c6⟩ V3 ks' O' ⟨hV3, hkn, hs6⟩ hk hO hl3
 dsimp only at hkn hk hO hs6
 subst hk hO
 have hrk := rct_tnN hr k
 refine At.nrm ?_
 refine At.zl (.q 0 .done) ?_
 refine AtT.qa ?_
 refine AtT.done ?_
 refine At.nrm ?_
 refine At.qc rfl (fun hp => ?_) (fun hp => ?_)
 rotate_left
 ·obtain rfl : k = n := by omega
  refine At.nrm ?_
  refine At.zl (.q 0 (.n true 1 (.q 2 .done))) ?_
  first | refine AtT.zD zM ?_ | refine AtT.zJ zM ?_ | refine AtT.zC zM ?_
  refine AtT.zW zM ?_
  refine AtT.zf ?_
  refine AtT.done ?_
  refine At.nrm ?_
  exact At.jh rfl (.agg rfl zM zX.zO rfl) (.tmp rfl) ⟨_, by rw [e], by rw [e]; exact ⟨a6, c6, rfl, hs6⟩⟩
 refine At.nrm ?_
 refine At.zl (.q 0 (.n false 1 (.n true 2 .done))) ?_
 first | refine AtT.zD zM ?_ | refine AtT.zJ zM ?_ | refine AtT.zC zM ?_
 refine AtT.qg rfl rfl ok78 (turned_f (tnN s k) hrk.n hrk.w.2 hrk.sz _ _ ⟨a6, c6, rfl, hs6⟩) ?_
 rintro _ V28 hV28 ⟨a7, c7, rfl, hs7⟩
 refine AtT.zW zM ?_
 refine AtT.done ?_
 refine At.nrm ?_
 refine At.nrm ?_
 refine At.zl (.q 0 (.q 1 .done)) ?_
 first | refine AtT.qi ?_ | refine AtT.zT ?_
 refine AtT.zh ?_
 refine AtT.done ?_
 refine At.nrm ?_
 refine At.round (k + 1, a7, c7) ?_ ?_ ?_ ?_
 ·show n - (k + 1) < n - k; omega
 ·exact ⟨hV3.trans (by first | assumption | exact Le.trans (by assumption) (by assumption)), by dsimp only; omega, hs7⟩
 ·exact ⟨rfl, rfl, rfl, ivs (by dsimp only; omega), trivial⟩
 ·exact Pt.zO
end Go.Proofs.YtghomjjffllkeaaGreatDoor
set_option linter.unusedVariables false
namespace Go.Pm
open Go.Gl Go.Lw
def eqK (s t : Sh) (k : Nat) : Prop := (tnN s k).most = t.most ∧ (tnN s k).rows = t.rows
instance (s t : Sh) (k : Nat) : Decidable (eqK s t k) := by unfold eqK; infer_instance
def saF (s t : Sh) : Nat → Nat → Int × Int
 | 0, _ => (0, 15)
 | f + 1, k => if eqK s t k then ((k : Int), 0) else saF s t f (k + 1)
def saR (s t : Sh) : Int × Int := if chE s ≠ 0 then (0, chE s) else if chE t ≠ 0 then (0, chE t) else saF s t 4 0
end Go.Pm
namespace Go.Proofs.YtghomjjffllkeaaGreatDoor
open Go.Lw Go.Gl Go.Pm Go.RowKit Go.Shelf
theorem same_f (s t : Sh) (V : View) (v u : Value) (hv : ShV V v s) (hu : ShV V u t) : Fnc Tryz.prog 40 [v, u] V fun r _ => r = .tuple #[iv (saR s t).1, iv (saR s t).2] := by
 obtain ⟨a, c, rfl, hs⟩ := id hv
 obtain ⟨a1, c1, rfl, ht⟩ := id hu
 refine qf Tryz.func40 rfl Tryz.ntmps40 (Nat.le_of_ble_eq_true rfl) ?_
 intro w0 hw0
 refine At.nrm ?_
 refine At.zl (.n false 0 (.n false 1 (.q 2 (.q 3 .done)))) ?_
 refine AtT.jb ?_
 intro b2
 refine AtT.jb ?_
 intro b3
 refine AtT.zf ?_
 refine AtT.zf ?_
 refine AtT.done ?_
 refine At.nrm ?_
 refine At.zl (.q 0 (.n false 1 (.q 2 .done))) ?_
 first | refine AtT.zD zM ?_ | refine AtT.zJ zM ?_ | refine AtT.zC zM ?_
 refine AtT.zq rfl rfl ok19 (sheetP_f s _ _ hv) ?_
 rintro _ rfl
 refine AtT.zf ?_
 refine AtT.done ?_
 refine At.nrm ?_
 refine At.nrm ?_
 refine At.zl (.q 0 (.q 1 .done)) ?_
 refine AtT.zh ?_
 refine AtT.qH ?_
 refine AtT.done ?_
 refine At.nrm ?_
 refine At.qc rfl (fun h0 => ?_) (fun h0 => ?_)
 ·refine At.nrm ?_
  refine At.zl (.q 0 (.q 1 (.q 2 .done))) ?_
  refine AtT.zh ?_
  refine AtT.zf ?_
  refine AtT.zf ?_
  refine AtT.done ?_
  refine At.nrm ?_
  exact At.jh rfl (.tmp rfl) (.tmp rfl) (by unfold saR; rw [if_pos h0])
 refine At.nrm ?_
 refine At.zl (.q 0 (.n false 1 (.q 2 .done))) ?_
 first | refine AtT.zD zM ?_ | refine AtT.zJ zM ?_ | refine AtT.zC zM ?_
 refine AtT.zq rfl rfl ok19 (sheetP_f t _ _ hu) ?_
 rintro _ rfl
 refine AtT.zf ?_
 refine AtT.done ?_
 refine At.nrm ?_
 refine At.nrm ?_
 refine At.zl (.q 0 (.q 1 .done)) ?_
 refine AtT.zh ?_
 refine AtT.qH ?_
 refine AtT.done ?_
 refine At.nrm ?_
 refine At.qc rfl (fun h1 => ?_) (fun h1 => ?_)
 ·refine At.nrm ?_
  refine At.zl (.q 0 (.q 1 (.q 2 .done))) ?_
  refine AtT.zh ?_
  refine AtT.zf ?_
  refine AtT.zf ?_
  refine AtT.done ?_
  refine At.nrm ?_
  exact At.jh rfl (.tmp rfl) (.tmp rfl) (by unfold saR; rw [if_neg h0, if_pos h1])
 have hr := rct_ok (jo (Classical.not_not.1 h0))
 have hres : saR s t = saF s t 4 0 := by unfold saR; rw [if_neg h0, if_neg h1]
 rw [hres]
 refine At.nrm ?_
 refine At.zl (.q 0 .done) ?_
 refine AtT.zh ?_
 refine AtT.done ?_
 refine At.nrm ?_
 refine At.lp (ι := Nat × Option Addr × Nat) (KS := fun g => [(2, .pointer (some ⟨b2, 0, none⟩)), (3, .pointer (some ⟨b3, 0, none⟩)), (19, iv g.1)]) (OS := fun g => [.blk b2 (LC [.slice g.2.1 (tnN s g.1).rows.length g.2.2, iv (tnN s g.1).most] 24), .blk b3 (LC [.slice a1 t.rows.length c1, iv t.most] 24)])
  (VS := fun g V' => Le V V' ∧ g.1 ≤ 4 ∧ Sl V' bse 1 (.slice g.2.1 (tnN s g.1).rows.length g.2.2) (tnN s g.1).rows ∧ saF s t (4 - g.1) g.1 = saF s t 4 0) (μ := fun g => 4 - g.1) (0, a, c) ?_ ?_ ?_ ?_
 ·exact ⟨rfl, rfl, rfl, trivial⟩
 ·exact Pt.zO
 ·exact ⟨Le.refl _, Nat.zero_le _, hs, rfl⟩
 rintro ⟨k, a6, c6⟩ V' ks' O' ⟨hVV, hk4, hs6, hsa⟩ hk hO hl2
 dsimp only at hk4 hs6 hsa hk hO
 subst hk hO
 rw [← hsa]
 have ht2 := ht.le hVV
 have hrk := rct_tnN hr k
 refine At.nrm ?_
 refine At.zl (.q 0 .done) ?_
 refine AtT.qa ?_
 refine AtT.done ?_
 refine At.nrm ?_
 refine At.qc rfl (fun hp => ?_) (fun hp => ?_)
 rotate_left
 ·obtain rfl : k = 4 := by omega
  refine At.nrm ?_
  refine At.zl (.q 0 (.q 1 .done)) ?_
  refine AtT.zf ?_
  refine AtT.zf ?_
  refine AtT.done ?_
  refine At.nrm ?_
  exact At.jh rfl (.tmp rfl) (.tmp rfl) rfl
 have hst : saF s t (4 - k) k = if eqK s t k then ((k : Int), 0) else saF s t (4 - (k + 1)) (k + 1) := by
  rw [show 4 - k = (4 - (k + 1)) + 1 by omega]; rfl
 refine At.nrm ?_
 refine At.zl (.q 0 (.q 1 .done)) ?_
 refine AtT.zh ?_
 refine AtT.zf ?_
 refine AtT.done ?_
 refine At.nrm ?_
 refine At.nrm ?_
 refine At.jr (ι := Unit) (fun _ => [(2, .pointer (some ⟨b2, 0, none⟩)), (3, .pointer (some ⟨b3, 0, none⟩)), (19, iv k), (8, iv k), (33, .bool (decide (eqK s t k)))]) (fun _ => [.blk b2 (LC [.slice a6 (tnN s k).rows.length c6, iv (tnN s k).most] 24), .blk b3 (LC [.slice a1 t.rows.length c1, iv t.most] 24)]) (fun _ V'' => V' = V'') ?_ ?_
 ·by_cases hm : (tnN s k).most = t.most
  ·have e : decide (eqK s t k) = decide ((tnN s k).rows = t.rows) := by unfold eqK; simp [hm]
   rw [e]
   refine At.zl (.q 0 (.q 1 (.q 2 (.q 3 (.q 4 (.q 5 (.q 6 (.q 7 (.q 8 (.q 9 (.n false 10 (.q 11 .done)))))))))))) ?_
   first | refine AtT.zi zR ?_ | with_reducible refine AtT.zk zR ?_ | refine AtT.zn zR ?_
   first | refine AtT.zm tk3 ?_ | refine AtT.zo tk3 ?_
   first | refine AtT.zi zR ?_ | with_reducible refine AtT.zk zR ?_ | refine AtT.zn zR ?_
   first | refine AtT.zm tk3 ?_ | refine AtT.zo tk3 ?_
   refine AtT.jg ?_
   refine AtT.qJ (d := 26) rfl (hm) ?_
   refine AtT.zh ?_
   all_goals (first | refine AtT.kL 27 ?_ | refine AtT.zB (d := 27) rfl (fun hg27 => ?_) (fun hg27 => ?_) | refine AtT.zA (d := 27) rfl (fun hg27 => ?_) (fun hg27 => ?_))
   all_goals first|refine AtT.zg ?_|refine AtT.ze ?_|(first | refine AtT.zi zt ?_ | with_reducible refine AtT.zk zt ?_ | refine AtT.zn zt ?_)
   all_goals first|refine AtT.zg ?_|refine AtT.ze ?_|(first | refine AtT.zm zV ?_ | refine AtT.zo zV ?_)
   all_goals first|refine AtT.zg ?_|refine AtT.ze ?_|(first | refine AtT.zi zt ?_ | with_reducible refine AtT.zk zt ?_ | refine AtT.zn zt ?_)
   all_goals first|refine AtT.zg ?_|refine AtT.ze ?_|(first | refine AtT.zm zV ?_ | refine AtT.zo zV ?_)
   all_goals first|refine AtT.zP ?_|refine AtT.zI ?_|((refine AtT.zq rfl rfl ok80 (equalS_f (tnN s k).rows t.rows _ _ _ hs6 ht2) ?_) ; (rintro _ rfl))
   all_goals (refine AtT.zz ?_)
   all_goals refine AtT.done ?_
   all_goals (refine At.nrm ?_)
   all_goals (exact At.qC () rfl ⟨rfl, rfl, rfl, rfl, rfl, trivial⟩ Pt.zO)
  ·rw [show decide (eqK s t k) = false from decide_eq_false (fun e => hm e.1)]
   refine At.zl (.q 0 (.q 1 (.q 2 (.q 3 (.q 4 (.q 5 (.q 6 (.q 7 (.q 8 (.q 9 (.n false 10 (.q 11 .done)))))))))))) ?_
   first | refine AtT.zi zR ?_ | with_reducible refine AtT.zk zR ?_ | refine AtT.zn zR ?_
   first | refine AtT.zm tk3 ?_ | refine AtT.zo tk3 ?_
   first | refine AtT.zi zR ?_ | with_reducible refine AtT.zk zR ?_ | refine AtT.zn zR ?_
   first | refine AtT.zm tk3 ?_ | refine AtT.zo tk3 ?_
   refine AtT.jg ?_
   refine AtT.qm (d := 26) rfl (hm) ?_
   refine AtT.zh ?_
   all_goals (first | refine AtT.kL 27 ?_ | refine AtT.zB (d := 27) rfl (fun hg27 => ?_) (fun hg27 => ?_) | refine AtT.zA (d := 27) rfl (fun hg27 => ?_) (fun hg27 => ?_))
   all_goals first|refine AtT.zg ?_|refine AtT.ze ?_|(first | refine AtT.zi zt ?_ | with_reducible refine AtT.zk zt ?_ | refine AtT.zn zt ?_)
   all_goals first|refine AtT.zg ?_|refine AtT.ze ?_|(first | refine AtT.zm zV ?_ | refine AtT.zo zV ?_)
   all_goals first|refine AtT.zg ?_|refine AtT.ze ?_|(first | refine AtT.zi zt ?_ | with_reducible refine AtT.zk zt ?_ | refine AtT.zn zt ?_)
   all_goals first|refine AtT.zg ?_|refine AtT.ze ?_|(first | refine AtT.zm zV ?_ | refine AtT.zo zV ?_)
   all_goals first|refine AtT.zP ?_|refine AtT.zI ?_|((fail))
   all_goals (refine AtT.zz ?_)
   all_goals refine AtT.done ?_
   all_goals (refine At.nrm ?_)
   all_goals (exact At.qC () rfl ⟨rfl, rfl, rfl, rfl, rfl, trivial⟩ Pt.zO)
 rintro _ _ ks' O' rfl hk hO hl3
 subst hk hO
 refine At.qc rfl (fun he => ?_) (fun he => ?_)
 ·rw [if_pos he] at hst
  rw [hst]
  refine At.nrm ?_
  refine At.zl (.q 0 (.q 1 (.q 2 .done))) ?_
  refine AtT.zh ?_
  refine AtT.zf ?_
  refine AtT.zf ?_
  refine AtT.done ?_
  refine At.nrm ?_
  exact At.jh rfl (.tmp rfl) (.tmp rfl) rfl
 ·rw [if_neg he] at hst
  refine At.nrm ?_
  refine At.zl (.q 0 (.n false 1 (.n true 2 .done))) ?_
  first | refine AtT.zD zM ?_ | refine AtT.zJ zM ?_ | refine AtT.zC zM ?_
  refine AtT.qg rfl rfl ok78 (turned_f (tnN s k) hrk.n hrk.w.2 hrk.sz _ _ ⟨a6, c6, rfl, hs6⟩) ?_
  rintro _ V36 hV36 ⟨a7, c7, rfl, hs7⟩
  refine AtT.zW zM ?_
  refine AtT.done ?_
  refine At.nrm ?_
  refine At.nrm ?_
  refine At.zl (.q 0 (.q 1 .done)) ?_
  first | refine AtT.qi ?_ | refine AtT.zT ?_
  refine AtT.zh ?_
  refine AtT.done ?_
  refine At.nrm ?_
  refine At.round (k + 1, a7, c7) ?_ ?_ ?_ ?_
  ·show 4 - (k + 1) < 4 - k; omega
  ·exact ⟨hVV.trans (by first | assumption | exact Le.trans (by assumption) (by assumption)), by dsimp only; omega, hs7, by dsimp only; rw [← hst, hsa]⟩
  ·exact ⟨rfl, rfl, ivs (by dsimp only; omega), trivial⟩
  ·exact Pt.zO
end Go.Proofs.YtghomjjffllkeaaGreatDoor
set_option linter.unusedVariables false
namespace Go.Proofs.YtghomjjffllkeaaGreatDoor
open Go.Lw Go.Gl Go.Pm Go.RowKit Go.Shelf
theorem sheet_f (m : Int) (a : Option Addr) (l : List ByteArray) (c : Nat) (V : View) (hs : Sl V bse 1 (.slice a l.length c) l) : Fnc Tryz.prog 81 [iv m, .slice a l.length c] V fun r V' => ShV V' r ⟨l, m⟩ := by
 refine qf Tryz.func81 rfl Tryz.ntmps81 (Nat.le_of_ble_eq_true rfl) ?_
 intro w0 hw0
 refine At.nrm ?_
 refine At.zl (.n false 0 .done) ?_
 refine AtT.qx z24 ?_
 intro b4
 refine AtT.done ?_
 refine At.nrm ?_
 refine At.zl (.q 0 (.q 1 (.q 2 (.n true 3 .done)))) ?_
 refine AtT.zh ?_
 refine AtT.zh ?_
 refine AtT.jc (bd24_0_1 _ _ _ _) ?_
 refine AtT.zW zM ?_
 refine AtT.done ?_
 refine At.nrm ?_
 exact At.qb rfl (.agg rfl zM zX.zO rfl) ⟨a, c, rfl, hs⟩
def rF1 : ByteArray := ⟨#[111, 46, 46, 111]⟩
def rF2 : ByteArray := ⟨#[46, 35, 46, 46]⟩
def zK (m : Int) : Sh := ⟨[rF1, rF2, rF1], m⟩
theorem four_f (m : Int) (V : View) : Fnc Tryz.prog 52 [iv m] V fun r V' => ShV V' r (zK m) := by
 refine qf Tryz.func52 rfl Tryz.ntmps52 (Nat.le_of_ble_eq_true rfl) ?_
 intro w0 hw0
 refine At.nrm ?_
 refine At.zl (.n false 0 .done) ?_
 refine AtT.qx z24 ?_
 intro b2
 refine AtT.done ?_
 refine At.nrm ?_
 refine At.zl (.q 0 (.n false 1 (.n false 2 (.n true 3 .done)))) ?_
 refine AtT.zh ?_
 refine AtT.zw (bs22_3_0_1_2 _ _ _) ?_
 intro q4 V4 hV4 hq4
 have g4 : Le V V4 := by first | exact hV4 | exact Le.trans (by assumption) hV4
 refine AtT.qg rfl rfl ok81 (sheet_f m _ [rF1, rF2, rF1] 3 _ (Sl.of_cells (l := [rF1, rF2, rF1]) bse_len hq4 (Nat.le_refl _) (by unfold maxLen; decide))) ?_
 rintro _ V5 hV5 ⟨a5, c5, rfl, hs5⟩
 refine AtT.zW zM ?_
 refine AtT.done ?_
 refine At.nrm ?_
 exact At.qb rfl (.agg rfl zM zX.zO rfl) ⟨a5, c5, rfl, hs5⟩
def rT1 : ByteArray := ⟨#[111, 46, 111]⟩
def rT2 : ByteArray := ⟨#[46, 35, 46]⟩
def rT3 : ByteArray := ⟨#[46, 46, 46]⟩
def qL : Sh := ⟨[rT1, rT2, rT3, rT1], 4⟩
theorem turned54_f (V : View) : Fnc Tryz.prog 54 [] V fun r V' => ShV V' r qL := by
 refine qf Tryz.func54 rfl Tryz.ntmps54 (Nat.le_of_ble_eq_true rfl) ?_
 intro w0 hw0
 refine At.nrm ?_
 refine At.zl (.n false 0 .done) ?_
 refine AtT.qx z24 ?_
 intro b0
 refine AtT.done ?_
 refine At.nrm ?_
 refine At.zl (.n false 0 (.n false 1 (.n true 2 .done))) ?_
 refine AtT.zw (bs22_4_0_1_2_3 _ _ _ _) ?_
 intro q1 V1 hV1 hq1
 have g1 : Le V V1 := by first | exact hV1 | exact Le.trans (by assumption) hV1
 refine AtT.qg rfl rfl ok81 (sheet_f 4 _ [rT1, rT2, rT3, rT1] 4 _ (Sl.of_cells (l := [rT1, rT2, rT3, rT1]) bse_len hq1 (Nat.le_refl _) (by unfold maxLen; decide))) ?_
 rintro _ V2 hV2 ⟨a5, c5, rfl, hs5⟩
 refine AtT.zW zM ?_
 refine AtT.done ?_
 refine At.nrm ?_
 exact At.qb rfl (.agg rfl zM zX.zO rfl) ⟨a5, c5, rfl, hs5⟩
end Go.Proofs.YtghomjjffllkeaaGreatDoor
set_option linter.unusedVariables false
set_option maxRecDepth 20000
namespace Go.Pm
open Go.Gl Go.Lw
def okT (g : Gd) (K : List Cl) (b i q : Nat) : Bool := decide (q &&& b = q) && q.testBit i && decide (peE g (bbx (sel K q)) = 0)
def wT (W : List (Nat × Int)) (r : Nat) : Nat × Int := W.getD r (0, 0)
def geT (g : Gd) (K : List Cl) (W : List (Nat × Int)) (b q : Nat) : Bool := decide ((wT W b).1 < (wT W (qN b q)).1 + 1 ∨ (wT W b).1 = (wT W (qN b q)).1 + 1 ∧ (wT W b).2 ≤ (wT W (qN b q)).2 + arP (bbx (sel K q)))
def eqT (g : Gd) (K : List Cl) (W : List (Nat × Int)) (b q : Nat) : Bool := decide ((wT W b).1 = (wT W (qN b q)).1 + 1 ∧ (wT W b).2 = (wT W (qN b q)).2 + arP (bbx (sel K q)))
def lwT (b : Nat) : Nat := (List.range b).findIdx fun i => b.testBit i
def ckT (g : Gd) (K : List Cl) (W : List (Nat × Int)) (b : Nat) : Bool :=
 if b = 0 then decide (wT W 0 = (0, 0)) else b.testBit (lwT b) && ((List.range (b + 1)).all fun q => !okT g K b (lwT b) q || geT g K W b q) && ((List.range (b + 1)).any fun q => okT g K b (lwT b) q && eqT g K W b q)
theorem and_eq_sub {q b : Nat} (h : q &&& b = q) : SubB q b := fun i hi => by
 rw [← h, Nat.testBit_and, Bool.and_eq_true] at hi; exact hi.2
theorem sub_and {q b : Nat} (h : SubB q b) : q &&& b = q := Nat.eq_of_testBit_eq fun i => by
 rw [Nat.testBit_and]
 cases c : q.testBit i with
 | false => rfl
 | true => rw [h i c]; rfl
theorem best_tab {g : Gd} (hg : GOk g) {K : List Cl} (hon : ∀ k ∈ K, OnG g k) (hK : K.length ≤ 10) {W : List (Nat × Int)} (h : ((List.range (2 ^ K.length)).all (ckT g K W)) = true) (b : Nat) (hb : b < 2 ^ K.length) : jy g (sel K b) (wT W b).1 (wT W b).2 := by
 induction b using Nat.strongRecOn with
 | ind b ih =>
  have hc := List.all_eq_true.1 h b (List.mem_range.2 hb)
  unfold ckT at hc
  by_cases h0 : b = 0
  ·rw [if_pos h0, decide_eq_true_eq] at hc
   subst h0
   rw [hc]
   have e : sel K 0 = [] := by
    cases e : sel K 0 with
    | nil => rfl
    | cons x l =>
     obtain ⟨i, _, hi⟩ := ja.1 (show x ∈ sel K 0 by rw [e]; exact List.mem_cons_self)
     rw [Nat.zero_testBit] at hi; cases hi
   rw [e]; exact best_nil
  ·rw [if_neg h0, Bool.and_eq_true, Bool.and_eq_true] at hc
   obtain ⟨⟨c1, c2⟩, c3⟩ := hc
   have hto : ∀ q, okT g K b (lwT b) q = true ↔ Cand g K b (lwT b) q := fun q => by
    unfold okT
    rw [Bool.and_eq_true, Bool.and_eq_true, decide_eq_true_eq, decide_eq_true_eq, peE_iff]
    exact ⟨fun ⟨⟨a, d⟩, e⟩ => ⟨and_eq_sub a, d, e⟩, fun ⟨a, d, e⟩ => ⟨⟨sub_and a, d⟩, e⟩⟩
   refine best_bits hg hon hK hb c1 (W := wT W) (fun r hr => ih r hr (by omega)) ?_ fun q hq => ?_
   ·obtain ⟨q, hq, hd⟩ := List.any_eq_true.1 c3
    rw [Bool.and_eq_true] at hd
    have := of_decide_eq_true hd.2
    exact ⟨q, (hto q).1 hd.1, this⟩
   ·have := List.all_eq_true.1 c2 q (List.mem_range.2 (by have := sub_le hq.sub; omega))
    rw [Bool.or_eq_true, Bool.not_eq_true', (hto q).2 hq] at this
    rcases this with h | h
    ·cases h
    ·exact of_decide_eq_true h
theorem isPart_of {N : Nat} {S : Nat → Nat → Bool} {i : Nat} {l : List Int} (hs : l.Pairwise (· < ·)) (h0 : (i : Int) ∈ l) (hr : ∀ x ∈ l, ∃ k : Nat, x = (k : Int) ∧ Rch N S i k) (hc : ∀ x ∈ l, ∀ k, k < N → S x.toNat k = true → (k : Int) ∈ l) : IsPart N S i l := by
 refine ⟨hs, fun x => ⟨hr x, ?_⟩⟩
 rintro ⟨k, rfl, h⟩
 induction h with
 | refl => exact h0
 | step h1 hk hS ih => exact hc _ ih _ hk (by rw [Int.toNat_natCast]; exact hS)
end Go.Pm
namespace Go.Proofs.YtghomjjffllkeaaGreatDoor
open Go.Gl Go.Lw Go.Pm
theorem w0 : chE (zK 4) = 0 := by decide +kernel
theorem w1 : ckR (zK 4) ⟨0, 0, 1, 4⟩ = 0 := by decide +kernel
theorem w2 : ckR (zK 4) ⟨0, 0, 2, 2⟩ = 20 := by decide +kernel
theorem w3 : ckR (zK 4) ⟨0, 1, 1, 4⟩ = 3 := by decide +kernel
theorem w4 : ckR (zK 4) ⟨0, 2, 3, 2⟩ = 4 := by decide +kernel
theorem w5 : cpR (zK 4) [⟨0, 0, 1, 4⟩, ⟨2, 0, 1, 4⟩] = (8, 0) := by decide +kernel
theorem w6 : cpR (zK 4) [⟨0, 0, 1, 4⟩] = (0, 14) := by decide +kernel
def tabW : List (Nat × Int) := [(0, 0), (1, 1), (1, 1), (1, 4), (1, 1), (1, 3), (2, 2), (2, 4), (1, 1), (2, 2), (1, 3), (2, 4), (1, 4), (2, 4), (2, 4), (2, 6)]
theorem wTab : ((List.range (2 ^ (knL (zK 4)).length)).all (ckT (gdS (zK 4)) (knL (zK 4)) tabW)) = true := by decide +kernel
theorem wB : jy (gdS (zK 4)) (knL (zK 4)) 2 6 := by
 have ho := jo w0
 have := best_tab (sh_gok ho) (kn_on ho) ho.kn wTab 15 (by decide +kernel)
 refine best_mem this fun k => ?_
 rw [show sel (knL (zK 4)) 15 = knL (zK 4) by decide +kernel]
theorem wA : aloL (zK 4) = [0, 3] := by decide +kernel
theorem wC1 : cAe (zK 4) [1, 2] = 0 := by decide +kernel
theorem wC2 : cAe (zK 4) [0, 1] = 16 := by decide +kernel
theorem wC3 : cAe (zK 4) [3, 0] = 3 := by decide +kernel
theorem w30 : chE (zK 3) = 0 := by decide +kernel
theorem wL : laR (zK 36) = (⟨0, 2, 3, 2⟩, 0) := by decide +kernel
theorem wT1 : (tuR (zK 4) 1).2 = 0 := by decide +kernel
theorem wT1e : (tuR (zK 4) 1).1.most = qL.most ∧ (tuR (zK 4) 1).1.rows = qL.rows := by decide +kernel
theorem wT4 : (tuR (zK 4) 4).2 = 2 := by decide +kernel
theorem wS1 : saR (zK 4) qL = (1, 0) := by decide +kernel
theorem wS2 : saR (zK 4) (zK 3) = (0, 15) := by decide +kernel
theorem rch1 {N : Nat} {S : Nat → Nat → Bool} {i k : Nat} (hk : k < N) (h : S i k = true) : Rch N S i k := .step .refl hk h
def clD (N : Nat) (S : Nat → Nat → Bool) (l : List Int) : Bool := l.all fun x => (List.range N).all fun k => !S x.toNat k || l.contains (k : Int)
theorem clD_h {N : Nat} {S : Nat → Nat → Bool} {l : List Int} (h : clD N S l = true) : ∀ x ∈ l, ∀ k, k < N → S x.toNat k = true → (k : Int) ∈ l := fun x hx k hk hs => by
 have := List.all_eq_true.1 (List.all_eq_true.1 h x hx) k (List.mem_range.2 hk)
 rw [hs] at this
 simpa using this
theorem wP : PrtK (knL (zK 3)).length (shN (gdS (zK 3)) (knL (zK 3))) (knL (zK 3)).length [[0, 2], [1, 3]] := by
 have e : (knL (zK 3)).length = 4 := by decide +kernel
 rw [e]
 have p0 : IsPart 4 (shN (gdS (zK 3)) (knL (zK 3))) 0 [0, 2] := isPart_of (by decide) (by decide) (fun x hx => by
  simp only [List.mem_cons, List.not_mem_nil, or_false] at hx
  rcases hx with rfl | rfl
  ·exact ⟨0, rfl, .refl⟩
  ·exact ⟨2, rfl, rch1 (by decide) (by decide +kernel)⟩) (clD_h (by decide +kernel))
 have p1 : IsPart 4 (shN (gdS (zK 3)) (knL (zK 3))) 1 [1, 3] := isPart_of (by decide) (by decide) (fun x hx => by
  simp only [List.mem_cons, List.not_mem_nil, or_false] at hx
  rcases hx with rfl | rfl
  ·exact ⟨1, rfl, .refl⟩
  ·exact ⟨3, rfl, rch1 (by decide) (by decide +kernel)⟩) (clD_h (by decide +kernel))
 exact .skip (.skip (.add (.add .zero (by decide) p0) (by decide) p1) (by decide)) (by decide)
end Go.Proofs.YtghomjjffllkeaaGreatDoor
set_option linter.unusedVariables false
namespace Go.Pm
open Go.Gl Go.Lw
def flP : List Pc → List Int
 | [] => []
 | p :: ps => p.t :: p.l :: p.h :: p.w :: flP ps
theorem flP_len : ∀ ps : List Pc, (flP ps).length = 4 * ps.length
 | [] => rfl
 | p :: ps => by simp only [flP, List.length_cons, flP_len ps]; omega
theorem flP_at : ∀ {ps : List Pc} {k : Nat} {p : Pc}, ps[k]? = some p → (flP ps)[4 * k]? = some p.t ∧ (flP ps)[4 * k + 1]? = some p.l ∧ (flP ps)[4 * k + 2]? = some p.h ∧ (flP ps)[4 * k + 3]? = some p.w
 | [], k, p, h => by simp at h
 | q :: ps, 0, p, h => by simp at h; subst h; exact ⟨rfl, rfl, rfl, rfl⟩
 | q :: ps, k + 1, p, h => by
  obtain ⟨a, b, c, d⟩ := flP_at (ps := ps) (k := k) (by simpa using h)
  rw [show 4 * (k + 1) = 4 * k + 1 + 1 + 1 + 1 by omega]
  simp only [flP, List.getElem?_cons_succ]
  exact ⟨a, b, c, d⟩
end Go.Pm
namespace Go.Proofs.YtghomjjffllkeaaGreatDoor
open Go.Lw Go.Gl Go.Pm Go.RowKit Go.Shelf
theorem qI (ps : List Pc) (h100 : ps.length ≤ 100) (V : View) (v : Value) (hv : SlI V v (flP ps)) : Fnc Tryz.prog 53 [v] V fun r V' => Sl V' pce 4 r ps := by
 have hln := flP_len ps
 obtain ⟨a, c, rfl, q1, q2, _⟩ := id hv
 clear q1 q2
 refine qf Tryz.func53 rfl Tryz.ntmps53 (Nat.le_of_ble_eq_true rfl) ?_
 intro w0 hw0
 refine At.nrm ?_
 refine At.zl (.q 0 .done) ?_
 refine AtT.zf ?_
 refine AtT.done ?_
 refine At.nrm ?_
 refine At.zl (.q 0 .done) ?_
 refine AtT.zf ?_
 refine AtT.done ?_
 refine At.nrm ?_
 refine At.newRow 26 4 ?_
 refine At.zl (.q 0 .done) ?_
 refine AtT.zf ?_
 refine AtT.done ?_
 refine At.nrm ?_
 refine At.lp (ι := Nat × Option Addr × Nat) (KS := fun g => [(0, .slice a (flP ps).length c), (3, .slice g.2.1 (ps.take g.1).length g.2.2), (4, iv ((4 * g.1 : Nat) : Int))])
  (OS := fun g => [.row (.slice g.2.1 (ps.take g.1).length g.2.2) 26 4 (ps.take g.1).length (flat pce (ps.take g.1))])
  (VS := fun g V' => Le V V' ∧ g.1 ≤ ps.length) (μ := fun g => ps.length - g.1) (0, none, 0) ?_ ?_ ?_ ?_
 ·exact ⟨rfl, rfl, rfl, trivial⟩
 ·exact Pt.zO
 ·exact ⟨Le.refl _, Nat.zero_le _⟩
 rintro ⟨k, ao, co⟩ V' ks' O' ⟨hVV, hkl⟩ hk hO hl2
 dsimp only at hkl hk hO
 subst hk hO
 have hs' := hv.le hVV
 refine At.nrm ?_
 refine At.zl (.q 0 (.q 1 (.q 2 (.q 3 (.q 4 .done))))) ?_
 refine AtT.zh ?_
 first | refine AtT.qi ?_ | refine AtT.zT ?_
 refine AtT.zh ?_
 first | refine AtT.zY Tryz.underlying39 ?_ | refine AtT.zZ Tryz.underlying39 ?_
 refine AtT.qa ?_
 refine AtT.done ?_
 refine At.nrm ?_
 refine At.qc rfl (fun hp => ?_) (fun hp => ?_)
 rotate_left
 ·obtain rfl : k = ps.length := by omega
  refine At.nrm ?_
  refine At.sub (ks' := [(3, .slice ao ps.length co)]) ⟨by rw [List.take_length]; rfl, trivial⟩ ?_
  rw [List.take_length]
  refine At.giveSl (l := ps) pce_len rfl rfl zX.zO (fun V6 hV6 hs6 => ?_)
  refine At.zl (.q 0 (.q 1 .done)) ?_
  refine AtT.zh ?_
  refine AtT.zf ?_
  refine AtT.done ?_
  refine At.nrm ?_
  exact At.qb rfl (.tmp rfl) hs6
 obtain ⟨p, hpk⟩ : ∃ p, ps[k]? = some p := ⟨_, List.getElem?_eq_getElem (by omega)⟩
 obtain ⟨e1, e2, e3, e4⟩ := flP_at hpk
 have htl : (ps.take k).length ≤ 100 := by rw [List.length_take]; omega
 have hsn : ps.take (k + 1) = ps.take k ++ [p] := by rw [List.take_add_one, hpk]; rfl
 refine At.nrm ?_
 refine At.draw (.q 0 (.q 1 (.q 2 (.q 3 (.q 4 (.q 5 (.q 6 (.q 7 (.q 8 (.q 9 (.q 10 (.q 11 (.q 12 (.q 13 (.q 14 (.q 15 (.q 16 (.q 17 (.q 18 (.q 19 (.q 20 (.n false 21 (.n true 22 (.q 23 .done)))))))))))))))))))))))) ffm (by kernel_rfl) ?_
 refine AtT.zh ?_
 refine AtT.zh ?_
 refine AtT.zh ?_
 refine AtT.qp Tryz.underlying39 tk3 ?_
 intro p15 e15 he15 hc15
 first | refine AtT.zm tk3 ?_ | refine AtT.zo tk3 ?_
 obtain rfl : p.t = e15 := by have : (flP ps)[4 * k]? = some e15 := (by rw [show 4 * k = (((4 * k : Nat) : Int)).toNat by omega]; exact he15); rw [e1] at this; simpa using this
 refine AtT.zh ?_
 refine AtT.zh ?_
 first | refine AtT.qi ?_ | refine AtT.zT ?_
 refine AtT.qp Tryz.underlying39 tk3 ?_
 intro p20 e20 he20 hc20
 first | refine AtT.zm tk3 ?_ | refine AtT.zo tk3 ?_
 obtain rfl : p.l = e20 := by have : (flP ps)[4 * k + 1]? = some e20 := (by rw [show 4 * k + 1 = (((4 * k : Nat) : Int) + 1).toNat by omega]; exact he20); rw [e2] at this; simpa using this
 refine AtT.zh ?_
 refine AtT.zh ?_
 first | refine AtT.qi ?_ | refine AtT.zT ?_
 refine AtT.qp Tryz.underlying39 tk3 ?_
 intro p25 e25 he25 hc25
 first | refine AtT.zm tk3 ?_ | refine AtT.zo tk3 ?_
 obtain rfl : p.h = e25 := by have : (flP ps)[4 * k + 2]? = some e25 := (by rw [show 4 * k + 2 = (((4 * k : Nat) : Int) + 2).toNat by omega]; exact he25); rw [e3] at this; simpa using this
 refine AtT.zh ?_
 refine AtT.zh ?_
 first | refine AtT.qi ?_ | refine AtT.zT ?_
 refine AtT.qp Tryz.underlying39 tk3 ?_
 intro p30 e30 he30 hc30
 first | refine AtT.zm tk3 ?_ | refine AtT.zo tk3 ?_
 obtain rfl : p.w = e30 := by have : (flP ps)[4 * k + 3]? = some e30 := (by rw [show 4 * k + 3 = (((4 * k : Nat) : Int) + 3).toNat by omega]; exact he30); rw [e4] at this; simpa using this
 refine AtT.jc (bd26_0_1_2_3 _ _ _ _) ?_
 refine AtT.zw (bs27_1_0 _ _ _ _) ?_
 intro q33 V33 hV33 hq33
 have g33 : Le V V33 := by first | exact hV33 | exact Le.trans (by assumption) hV33
 first | refine AtT.kappend Tryz.underlying27 rw26 ?_
 intro a34 c34
 refine AtT.zf ?_
 refine AtT.done ?_
 refine At.nrm ?_
 refine At.nrm ?_
 refine At.zl (.q 0 (.q 1 (.q 2 .done))) ?_
 refine AtT.zh ?_
 first | refine AtT.qi ?_ | refine AtT.zT ?_
 refine AtT.zf ?_
 refine AtT.done ?_
 refine At.nrm ?_
 all_goals refine At.round (k + 1, a34, c34) ?_ ?_ ?_ ?_
 ·show ps.length - (k + 1) < ps.length - k; omega
 ·exact ⟨hVV.trans (by first | assumption | exact Le.refl _), by dsimp only; omega⟩
 ·dsimp only; rw [hsn, List.length_append]; exact ⟨rfl, rfl, ivs (by omega), trivial⟩
 ·dsimp only; rw [hsn, ji, List.length_append]; exact Pt.zO
end Go.Proofs.YtghomjjffllkeaaGreatDoor
