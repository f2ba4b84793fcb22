/- Texts that the last one of this claim imports. -/
import Derived.Test.YtghomjjffllkeaaGreatDoorB3
set_option linter.unusedVariables false
set_option linter.unusedSimpArgs false
set_option linter.unusedSectionVars false
set_option linter.unusedVariables false
namespace Go.Proofs.YtghomjjffllkeaaGreatDoor
open Go.Lw Go.Gl Go.Pm Go.RowKit Go.Sort Go.Shelf
abbrev srtI (l : List Int) : List Int := l.mergeSort fun x y => decide (x ≤ y)
theorem sortI_f (l : List Int) (rest : List Value) (b cap : Nat) (w : World) (hb : w.heap[b]? = some (LC (flat ei l ++ rest) 3)) (hl : l.length < 4611686018427387904) :
  Calls Tryz.prog 100 #[.slice (some ⟨b, 0, none⟩) l.length cap] w fun e w' => e = .returned (.tuple #[]) ∧ w'.os = w.os ∧ w'.tape = w.tape ∧ w'.output = w.output ∧ w.heap.size ≤ w'.heap.size ∧ (∀ k, k < w.heap.size → k ≠ b → w'.heap[k]? = w.heap[k]?) ∧ w'.heap[b]? = some (LC (flat ei (srtI l) ++ rest) 3) := by
 have hbs : b < w.heap.size := (Array.getElem?_eq_some_iff.1 hb).1
 have hlen : (flat ei l).length = l.length * 1 := qV Lw.ei_len l
 have hH : Holds (Value.int .i64) w b 0 l.toArray := by
  intro j hj
  rw [List.size_toArray] at hj
  refine ⟨?_, ?_⟩
  ·rw [Nat.zero_add, cell_blk hb, List.getElem?_append_left (by rw [hlen]; omega), flat_ei, List.getElem?_map, List.getElem?_eq_getElem hj, getElem!_pos _ _ (by simpa using hj)]
   simp
  ·simp [World.frozen?, hb, LC]
 refine (Any.slices_Sort_int lay_sort b 0 cap l w hH hbs hl).mono fun e w' ⟨he, n, os, hw⟩ => ?_
 have hsz : (srtI l).length = l.length := List.length_mergeSort l
 have hf1 : (flat ei (srtI l)).length = (srtI l).length * 1 := qV Lw.ei_len _
 subst hw
 refine ⟨he, rfl, rfl, rfl, ?_, fun k hk hkb => ?_, ?_⟩
 ·show w.heap.size ≤ ((w.heap.modify b _) ++ os).size
  simp
 ·show ((w.heap.modify b _) ++ os)[k]? = _
  rw [Array.getElem?_append_left (by simpa using hk), Array.getElem?_modify, if_neg (fun h => hkb h.symm)]
 ·show ((w.heap.modify b _) ++ os)[b]? = _
  rw [Array.getElem?_append_left (by simpa using hbs), Array.getElem?_modify, if_pos rfl, hb]
  simp only [Option.map_some, onCells, LC]
  congr 2
  apply Array.ext
  ·simp [putCells]; omega
  ·intro t h1 h2
   simp only [putCells, Array.size_mapIdx, List.size_toArray] at h1
   simp only [putCells, Array.getElem_mapIdx, Nat.zero_le, true_and, Nat.zero_add, List.size_toArray, Nat.sub_zero, id]
   by_cases c : t < (srtI l).length
   ·rw [if_pos c, getElem!_pos _ _ (by simpa using c)]
    simp only [List.getElem_toArray]
    rw [List.getElem_append_left (by omega)]
    simp [flat_ei]
   ·rw [if_neg c]
    simp only [List.getElem_toArray]
    rw [List.getElem_append_right (by omega), List.getElem_append_right (by omega)]
    congr 1; omega
theorem srtI_perm (l : List Int) : (srtI l).Perm l := List.mergeSort_perm _ _
theorem srtI_sorted {l : List Int} (h : l.Nodup) : (srtI l).Pairwise (· < ·) := by
 have h1 : (srtI l).Pairwise (fun x y => decide (x ≤ y) = true) := List.pairwise_mergeSort (fun a b c h1 h2 => by simp only [decide_eq_true_eq] at *; omega) (fun a b => by simp only [Bool.or_eq_true, decide_eq_true_eq]; omega) l
 have h2 : (srtI l).Nodup := (srtI_perm l).nodup_iff.2 h
 refine (h1.and h2).imp fun {a b} hab => ?_
 have := of_decide_eq_true hab.1
 have := hab.2
 omega
theorem AtT.sortI {cx : Cx} {n : Nat} {ks : List (Nat × Value)} {O R : List Own} {V : View} {ops : Array Oper} {Qn : Act → World → Prop} {t : Tr} {i d : Nat} {T : TypeId} {pos : String} {after : Array Edge} {gd : Option (Nat × Bool)} {x : Operand} {ts : Array TypeId} {b cap : Nat} {l : List Int} {rest : List Value}
  (ho : ops[i]? = some ⟨some d, .call ⟨.value (.func 100), #[x], ts⟩, T, pos, after, gd⟩) (hg : Gd ks ops gd) (hx : ev ks x = some (.slice (some ⟨b, 0, none⟩) l.length cap)) (hl : l.length < 4611686018427387904) (hp : zX (.blk b (LC (flat ei l ++ rest) 3)) O R) (hn : d < n)
  (next : AtT cx n ((d, .tuple #[]) :: ks) (.blk b (LC (flat ei (srtI l) ++ rest) 3) :: R) V Tryz.prog ops Qn t) : AtT cx n ks O V Tryz.prog ops Qn (.n true i t) :=
 .x ho hg fun a w hk hm => by
  have hm1 := hm.pick hp
  have e : (#[x] : Array Operand).map a.eval = #[.slice (some ⟨b, 0, none⟩) l.length cap] := by simp [hk.ev hx]
  have e2 : a.eval (.func 100) = .func (.func 100) #[] #[] := rfl
  simp only [opW, execOp, resolve, e, e2, Deferred.ofValue, Sem.run_bind, Sem.run_pure, Result.andThen_ok, invoke, Array.empty_append, Array.append_empty]
  rw [ok100 _ w]
  refine (sortI_f l rest b cap w hm1.blk hl).mono fun e w' ⟨h0, h3, h4, h5, h6, h7, h8⟩ => ?_
  subst h0
  have hm2 := hm1.set (w' := w') ⟨h3, h4, h5, h6, fun k hk hne => h7 k hk (fun e => hne (by rw [e]))⟩ h8
  exact ⟨_, _, V, hk.put hn _, hm2, fun h => (by cases h), next⟩
theorem containsI_f (l : List Int) (x : Int) (V : View) (v : Value) (hs : SlI V v l) : Fnc Tryz.prog 99 [v, iv x] V fun r _ => r = .bool (l.any (· == x)) := by
 have hlen := hs.jf
 obtain ⟨a, c, rfl, k1, k2, _⟩ := id hs
 clear k1 k2
 have hix : decide (0 ≤ ixI (l.findIdx? (· == x))) = l.any (· == x) := by
  cases h : l.findIdx? (· == x) with
  | none =>
   rw [List.findIdx?_eq_none_iff] at h
   have : l.any (· == x) = false := List.any_eq_false.2 fun y hy => by rw [h y hy]; simp
   rw [this]; rfl
  | some j =>
   obtain ⟨hj, hp, _⟩ := List.findIdx?_eq_some_iff_getElem.1 h
   have : l.any (· == x) = true := List.any_eq_true.2 ⟨_, List.getElem_mem hj, hp⟩
   rw [this]
   exact decide_eq_true (Int.natCast_nonneg _)
 refine qh Tryz.func99 rfl Tryz.ntmps99 (Nat.le_of_ble_eq_true rfl) ?_
 intro w0 hw0
 refine At.nrm ?_
 refine At.zl (.q 0 .done) ?_
 refine AtT.zg ?_
 refine AtT.done ?_
 refine At.nrm ?_
 refine At.zl (.q 0 (.q 1 (.n false 2 (.q 3 (.q 4 .done))))) ?_
 refine AtT.zh ?_
 refine AtT.zh ?_
 refine AtT.zq rfl rfl ok125 (indexI_f l x _ _ hs) ?_
 rintro _ rfl
 refine AtT.kgeq ?_
 refine AtT.zg ?_
 refine AtT.done ?_
 refine At.nrm ?_
 exact At.qb rfl (.tmp rfl) (by rw [← hix])
end Go.Proofs.YtghomjjffllkeaaGreatDoor
set_option linter.unusedVariables false
namespace Go.Pm
open Go.Gl Go.Lw
structure Gat (N : Nat) (S : Nat → Nat → Bool) (i : Nat) (P : List Int) : Prop where
 fst : (i : Int) ∈ P
 nd : P.Nodup
 rch : ∀ x ∈ P, ∃ k : Nat, x = (k : Int) ∧ k < N ∧ Rch N S i k
theorem gat_start {N : Nat} {S : Nat → Nat → Bool} {i : Nat} (hi : i < N) : Gat N S i [(i : Int)] := ⟨by simp, by simp, fun x hx => by
 rw [List.mem_singleton] at hx; exact ⟨i, hx, hi, .refl⟩⟩
theorem gat_len {N : Nat} {S : Nat → Nat → Bool} {i : Nat} {P : List Int} (h : Gat N S i P) : P.length ≤ N := by
 have h1 : (P.map Int.toNat).Nodup := by
  refine List.pairwise_map.2 (h.nd.imp_of_mem fun {a b} ha hb hne e => ?_)
  obtain ⟨k, rfl, _, _⟩ := h.rch a ha
  obtain ⟨m, rfl, _, _⟩ := h.rch b hb
  rw [Int.toNat_natCast, Int.toNat_natCast] at e
  exact hne (by rw [e])
 have := nodup_lt h1 (n := N) fun x hx => by
  obtain ⟨y, hy, rfl⟩ := List.mem_map.1 hx
  obtain ⟨k, rfl, hk, _⟩ := h.rch y hy
  rwa [Int.toNat_natCast]
 rwa [List.length_map] at this
theorem gat_add {N : Nat} {S : Nat → Nat → Bool} {i j k : Nat} {P : List Int} (h : Gat N S i P) (hj : (j : Int) ∈ P) (hk : k < N) (hS : S j k = true) (hn : (k : Int) ∉ P) : Gat N S i (P ++ [(k : Int)]) := by
 refine ⟨List.mem_append_left _ h.fst, List.nodup_append.2 ⟨h.nd, by simp, fun a ha b hb e => ?_⟩, fun x hx => ?_⟩
 ·rw [List.mem_singleton] at hb
  subst hb; subst e; exact hn ha
 ·rcases List.mem_append.1 hx with hx | hx
  ·exact h.rch x hx
  ·rw [List.mem_singleton] at hx
   obtain ⟨j', e, hj', hr⟩ := h.rch _ hj
   have : j' = j := by omega
   subst this
   exact ⟨k, hx, hk, .step hr hk hS⟩
def Cls (N : Nat) (S : Nat → Nat → Bool) (P : List Int) (j : Nat) : Prop := ∀ (u : Nat) (a : Nat), u < j → P[u]? = some (a : Int) → ∀ k, k < N → S a k = true → (k : Int) ∈ P
theorem cls_add {N : Nat} {S : Nat → Nat → Bool} {P : List Int} {j : Nat} {x : Int} (h : Cls N S P j) (hj : j ≤ P.length) : Cls N S (P ++ [x]) j := fun u a hu ha k hk hs => by
 rw [List.getElem?_append_left (by omega)] at ha
 exact List.mem_append_left _ (h u a hu ha k hk hs)
theorem gat_end {N : Nat} {S : Nat → Nat → Bool} {i : Nat} {P : List Int} (hi : i < N) (h : Gat N S i P) (hc : Cls N S P P.length) {l : List Int} (hp : l.Perm P) (hs : l.Pairwise (· < ·)) : IsPart N S i l := by
 refine ⟨hs, fun x => ⟨fun hx => ?_, ?_⟩⟩
 ·obtain ⟨k, e, _, hr⟩ := h.rch x (hp.mem_iff.1 hx)
  exact ⟨k, e, hr⟩
 ·rintro ⟨k, rfl, hr⟩
  rw [hp.mem_iff]
  induction hr with
  | refl => exact h.fst
  | step h1 hk hS ih =>
   obtain ⟨u, hu⟩ := List.getElem?_of_mem ih
   exact hc u _ (List.getElem?_eq_some_iff.1 hu).1 hu _ hk hS
end Go.Pm
set_option linter.unusedVariables false
namespace Go.Pm
open Go.Gl Go.Lw
theorem sl_det {V : View} {v : Value} {l m : List Int} (h : SlI V v l) (k : SlI V v m) : l = m := by
 obtain ⟨a, c, rfl, _, _, ha, hc⟩ := h
 obtain ⟨a', c', e, _, _, ha', hc'⟩ := k
 have e1 : a = a' := by injection e
 have e2 : l.length = m.length := by injection e
 subst e1
 apply List.ext_getElem e2
 intro i h1 h2
 have hne : l ≠ [] := fun h => by rw [h] at h1; simp at h1
 obtain ⟨p, rfl⟩ := Option.isSome_iff_exists.1 (ha hne)
 have x1 := hc p rfl i l[i] (List.getElem?_eq_getElem h1) 0 _ rfl
 have x2 := hc' p rfl i m[i] (List.getElem?_eq_getElem h2) 0 _ rfl
 rw [x1] at x2
 have x3 := Option.some.inj x2
 injection x3
end Go.Pm
namespace Go.Proofs.YtghomjjffllkeaaGreatDoor
open Go.Lw Go.Gl Go.Pm Go.RowKit Go.Sort
abbrev tvl (q : Option Addr × Nat × Nat) : Value := .slice q.1 q.2.1 q.2.2
theorem sl_vle {V : View} {v : Value} {qs : List (Option Addr × Nat × Nat)} (h : Sl V sle 1 v qs) : Sl V vle 1 v (qs.map tvl) := by
 obtain ⟨a, c, rfl, h1, h2, h3, h4⟩ := h
 refine ⟨a, c, by rw [List.length_map], by rw [List.length_map]; exact h1, h2, fun hn => h3 fun e => hn (by rw [e]; rfl), fun p hp i x hx => ?_⟩
 rw [List.getElem?_map] at hx
 cases hq : qs[i]? with
 | none => rw [hq] at hx; cases hx
 | some q =>
  rw [hq] at hx
  obtain rfl := Option.some.inj hx
  exact h4 p hp i q hq
noncomputable def inV (V : View) (i : Int) (x : Value) : Bool := @decide (∃ l, SlI V x l ∧ i ∈ l) (Classical.propDecidable _)
theorem inV_of {V : View} {i : Int} {x : Value} {l : List Int} (h : SlI V x l) : inV V i x = l.any (· == i) := by
 unfold inV
 cases c : l.any (· == i) with
 | true =>
  obtain ⟨y, hy, e⟩ := List.any_eq_true.1 c
  have e : y = i := by simpa using e
  subst e
  exact @decide_eq_true _ (Classical.propDecidable _) ⟨l, h, hy⟩
 | false =>
  refine @decide_eq_false _ (Classical.propDecidable _) ?_
  rintro ⟨m, hm, him⟩
  have := sl_det hm h
  subst this
  rw [List.any_eq_true.2 ⟨i, him, by simp⟩] at c; cases c
theorem inV_any {V : View} {i : Int} {qs : List (Option Addr × Nat × Nat)} {ll : List (List Int)} (hlen : qs.length = ll.length) (h : ∀ (j : Nat) (q : Option Addr × Nat × Nat) (l : List Int), qs[j]? = some q → ll[j]? = some l → SlI V (.slice q.1 q.2.1 q.2.2) l) : (qs.map tvl).any (inV V i) = true ↔ ∃ l ∈ ll, i ∈ l := by
 rw [List.any_eq_true]
 constructor
 ·rintro ⟨x, hx, hi⟩
  obtain ⟨q, hq, rfl⟩ := List.mem_map.1 hx
  obtain ⟨j, hj⟩ := List.getElem?_of_mem hq
  have hjl := (List.getElem?_eq_some_iff.1 hj).1
  have hl : ll[j]? = some (ll[j]'(by omega)) := List.getElem?_eq_getElem (by omega)
  have hs := h j q _ hj hl
  rw [inV_of hs] at hi
  obtain ⟨y, hy, e⟩ := List.any_eq_true.1 hi
  have e : y = i := by simpa using e
  subst e
  exact ⟨_, List.mem_of_getElem? hl, hy⟩
 ·rintro ⟨l, hl, hi⟩
  obtain ⟨j, hj⟩ := List.getElem?_of_mem hl
  have hjl := (List.getElem?_eq_some_iff.1 hj).1
  have hq : qs[j]? = some (qs[j]'(by omega)) := List.getElem?_eq_getElem (by omega)
  have hs := h j _ l hq hj
  exact ⟨tvl (qs[j]'(by omega)), List.mem_map_of_mem (List.mem_of_getElem? hq), by rw [inV_of hs]; exact List.any_eq_true.2 ⟨i, hi, by simp⟩⟩
theorem parts1_f (i : Int) (V : View) (q : Addr) (x : Value) (l : List Int) (hq : Cells V q [iv i]) (hs : SlI V x l) : Fnc Tryz.prog 98 ([] ++ [x] ++ [.pointer (some q)]) V fun r _ => r = .bool (inV V i x) := by
 have he := inV_of (i := i) hs
 obtain ⟨a, c, rfl, _⟩ := id hs
 refine qh Tryz.func98 rfl Tryz.ntmps98 (Nat.le_of_ble_eq_true rfl) ?_
 intro w0 hw0
 refine At.nrm ?_
 refine At.zl (.q 0 .done) ?_
 refine AtT.zg ?_
 refine AtT.done ?_
 refine At.nrm ?_
 refine At.zl (.q 0 (.q 1 (.n false 2 (.q 3 .done)))) ?_
 refine AtT.zh ?_
 first | refine AtT.zm tk3 ?_ | refine AtT.zo tk3 ?_
 refine AtT.zq rfl rfl ok99 (containsI_f l i _ _ hs) ?_
 rintro _ rfl
 refine AtT.zg ?_
 refine AtT.done ?_
 refine At.nrm ?_
 exact At.qb rfl (.tmp rfl) (by rw [he])
theorem parts_f (s : Sh) (hok : ShOk s) (V : View) (b : Nat) (hb : BnV V b s) : Fnc Tryz.prog 66 [.pointer (some ⟨b, 0, none⟩)] V fun r V' => ∃ ll, SL V' r ll ∧ PrtK (knL s).length (shN (gdS s) (knL s)) (knL s).length ll := by
 obtain ⟨ab, cb, ak, ck, hc0, hc1, hc2, hc3, hsb, hsk⟩ := bn_get hb
 have n10 := hok.kn
 refine qh Tryz.func66 rfl Tryz.ntmps66 (Nat.le_of_ble_eq_true rfl) ?_
 intro w0 hw0
 refine At.nrm ?_
 refine At.zl (.q 0 .done) ?_
 refine AtT.zg ?_
 refine AtT.done ?_
 refine At.nrm ?_
 refine At.zl (.q 0 .done) ?_
 refine AtT.zg ?_
 refine AtT.done ?_
 refine At.nrm ?_
 refine At.zl (.q 0 (.q 1 (.q 2 (.q 3 (.q 4 (.q 5 .done)))))) ?_
 refine AtT.zh ?_
 refine AtT.knil ?_
 first | refine AtT.zi qp ?_ | with_reducible refine AtT.zk qp ?_ | refine AtT.zn qp ?_
 first | refine AtT.zm tk84 ?_ | refine AtT.zo tk84 ?_
 first | refine AtT.zZ Tryz.underlying84 ?_ | refine AtT.qa Tryz.underlying84 ?_
 refine AtT.zh ?_
 refine AtT.done ?_
 refine At.nrm ?_
 refine At.newRow 39 1 ?_
 refine At.lp (ι := Nat × List (Option Addr × Nat × Nat) × List (List Int) × Option Addr × Nat) (KS := fun g => [(0, .pointer (some ⟨b, 0, none⟩)), (3, .slice g.2.2.2.1 g.2.1.length g.2.2.2.2), (11, .slice ak (knL s).length ck), (12, iv (knL s).length), (13, iv g.1)])
  (OS := fun g => [.row (.slice g.2.2.2.1 g.2.1.length g.2.2.2.2) 39 1 g.2.1.length (flat sle g.2.1)])
  (VS := fun g V' => Le V V' ∧ g.1 ≤ (knL s).length ∧ g.2.1.length = g.2.2.1.length ∧ g.2.1.length ≤ g.1 ∧ PrtK (knL s).length (shN (gdS s) (knL s)) g.1 g.2.2.1 ∧ ∀ (j : Nat) (q : Option Addr × Nat × Nat) (l : List Int), g.2.1[j]? = some q → g.2.2.1[j]? = some l → SlI V' (.slice q.1 q.2.1 q.2.2) l) (μ := fun g => (knL s).length - g.1) (0, [], [], none, 0) ?_ ?_ ?_ ?_
 ·exact ⟨rfl, rfl, rfl, rfl, rfl, trivial⟩
 ·exact Pt.zM
 ·exact ⟨Le.refl _, Nat.zero_le _, rfl, Nat.le_refl _, .zero, fun j q l h => by simp at h⟩
 rintro ⟨i, qs, ll, a3, c3⟩ V' ks' O' ⟨hVV, hil, hql, hqi, hprt, hqs⟩ hk hO hl2
 dsimp only at hil hql hqi hprt hqs hk hO
 subst hk hO
 have hb' := hb.le hVV
 have hc2' := hc2.le hVV
 have hsk' := hsk.le hVV
 refine At.nrm ?_
 refine At.zl (.q 0 .done) ?_
 refine AtT.zY ?_
 refine AtT.done ?_
 refine At.nrm ?_
 refine At.qc rfl (fun hp => ?_) (fun hp => ?_)
 rotate_left
 ·obtain rfl : i = (knL s).length := by omega
  refine At.nrm ?_
  refine At.zl (.q 0 (.q 1 .done)) ?_
  refine AtT.zh ?_
  refine AtT.zg ?_
  refine AtT.done ?_
  refine At.nrm ?_
  refine At.giveSl (l := qs) sle_len rfl rfl zX.zM (fun V4 hV4 hs4 => ?_)
  exact At.qb rfl (.tmp rfl) ⟨ll, ⟨qs, hs4, hql, fun j q l h1 h2 => (hqs j q l h1 h2).le hV4⟩, hprt⟩
 refine At.nrm ?_
 refine At.zl (.q 0 (.n false 1 (.n true 2 .done))) ?_
 refine AtT.zh ?_
 refine AtT.qx z3 ?_
 intro b4
 first | refine AtT.jd tk3 ?_ | refine AtT.zW tk3 ?_
 refine AtT.done ?_
 refine At.nrm ?_
 refine At.giveB (b := b4) zX.zM (fun V2 hV2 hb4 => ?_)
 have q4 := qO hb4
 have hl3 := hl2.trans hV2
 refine At.lend zX.zM (fun V3 hV3 hL => ?_)
 have hsq := sl_vle (hL.sl sle_len)
 have q43 := q4.le hV3
 have hqs3 : ∀ (j : Nat) (q : Option Addr × Nat × Nat) (l : List Int), qs[j]? = some q → ll[j]? = some l → SlI V3 (.slice q.1 q.2.1 q.2.2) l := fun j q l h1 h2 => ((hqs j q l h1 h2).le hV2).le hV3
 have hany := inV_any (V := V3) (i := (i : Int)) hql hqs3
 have hcl : ∀ x, x ∈ qs.map tvl → Fnc Tryz.prog 98 ([] ++ [x] ++ [.pointer (some ⟨b4, 0, none⟩)]) V3 fun v _ => v = .bool (inV V3 i x) := fun x hx => by
  obtain ⟨q, hq, rfl⟩ := List.mem_map.1 hx
  obtain ⟨j, hj⟩ := List.getElem?_of_mem hq
  have hjl := (List.getElem?_eq_some_iff.1 hj).1
  have hl : ll[j]? = some (ll[j]'(by omega)) := List.getElem?_eq_getElem (by omega)
  exact parts1_f i V3 _ _ _ q43 (hqs3 j q _ hj hl)
 refine At.nrm ?_
 refine At.zl (.q 0 (.q 1 (.n false 2 .done))) ?_
 refine AtT.zh ?_
 refine AtT.kfn ?_
 refine AtT.zq rfl rfl ok97 (contains_v 98 [.pointer (some ⟨b4, 0, none⟩)] (inV V3 i) _ _ _ hsq ok98 hcl) ?_
 rintro _ rfl
 refine AtT.done ?_
 refine At.nrm ?_
 refine At.cond rfl (fun hc => ?_) (fun hc => ?_)
 ·refine At.regain hL hV3 (Le.refl _) hl3 (fun V4 hV4 => ?_)
  refine At.nrm ?_
  refine At.zl (.q 0 (.q 1 .done)) ?_
  first | refine AtT.qj ?_ | refine AtT.zU ?_
  refine AtT.zh ?_
  refine AtT.done ?_
  refine At.nrm ?_
  refine At.round (i + 1, qs, ll, a3, c3) ?_ ?_ ?_ ?_
  ·show (knL s).length - (i + 1) < (knL s).length - i; omega
  ·exact ⟨(hVV.trans hV2).trans hV4, by dsimp only; omega, hql, by dsimp only; omega, .skip hprt (hany.1 hc), fun j q l h1 h2 => ((hqs j q l h1 h2).le hV2).le hV4⟩
  ·exact ⟨rfl, rfl, rfl, rfl, ivs (by dsimp only; omega), trivial⟩
  ·exact Pt.zM
 refine At.regain hL hV3 (Le.refl _) hl3 (fun V4 hV4 => ?_)
 have hnone : ¬ ∃ l ∈ ll, (i : Int) ∈ l := fun h => by rw [hany.2 h] at hc; cases hc
 have q44 := q4.le hV4
 have hl4 := hl3.trans hV4
 have hg4 : Le V' V4 := hV2.trans hV4
 refine At.nrm ?_
 refine At.zl (.q 0 (.n false 1 (.q 2 .done))) ?_
 first | refine AtT.zm tk3 ?_ | refine AtT.zo tk3 ?_
 refine AtT.kbslice (zT _) ?_
 intro b20
 refine AtT.zg ?_
 refine AtT.done ?_
 refine At.nrm ?_
 refine At.blkRow (b := b20) (m := 1) (cap := 1) (s := 1) (xs := flat ei [(i : Int)]) (rest := []) zX.zM rfl rfl (Nat.le_refl _) (by unfold maxLen; omega) ?_
 refine At.nrm ?_
 refine At.zl (.q 0 .done) ?_
 refine AtT.zg ?_
 refine AtT.done ?_
 refine At.nrm ?_
 refine At.lp (ι := Nat × List Int × Option Addr × Nat) (KS := fun g => [(0, .pointer (some ⟨b, 0, none⟩)), (3, .slice a3 qs.length c3), (11, .slice ak (knL s).length ck), (12, iv (knL s).length), (13, iv i), (5, .slice g.2.2.1 g.2.1.length g.2.2.2), (6, iv g.1)])
  (OS := fun g => [.row (.slice g.2.2.1 g.2.1.length g.2.2.2) 3 1 g.2.1.length (flat ei g.2.1), .row (.slice a3 qs.length c3) 39 1 qs.length (flat sle qs)])
  (VS := fun g V'' => Le V' V'' ∧ g.1 ≤ g.2.1.length ∧ Gat (knL s).length (shN (gdS s) (knL s)) i g.2.1 ∧ Cls (knL s).length (shN (gdS s) (knL s)) g.2.1 g.1) (μ := fun g => (knL s).length - g.1) (0, [(i : Int)], some ⟨b20, 0, none⟩, 1) ?_ ?_ ?_ ?_
 ·exact ⟨rfl, rfl, rfl, rfl, rfl, rfl, rfl, trivial⟩
 ·exact Pt.zM
 ·exact ⟨hg4, Nat.zero_le _, gat_start (by omega), fun u a hu => absurd hu (Nat.not_lt_zero u)⟩
 rintro ⟨j, P, a5, c5⟩ V5 ks' O' ⟨hV5, hjP, hgat, hcls⟩ hk hO hl5
 dsimp only at hjP hgat hcls hk hO
 subst hk hO
 have hPl := gat_len hgat
 have hb5 := hb'.le hV5
 have hc25 := hc2'.le hV5
 have hsk5 := hsk'.le hV5
 have hqs5 : ∀ (j : Nat) (q : Option Addr × Nat × Nat) (l : List Int), qs[j]? = some q → ll[j]? = some l → SlI V5 (.slice q.1 q.2.1 q.2.2) l := fun j q l h1 h2 => (hqs j q l h1 h2).le hV5
 refine At.nrm ?_
 refine At.zl (.q 0 (.q 1 (.q 2 (.q 3 .done)))) ?_
 refine AtT.zh ?_
 refine AtT.zh ?_
 first | refine AtT.zZ Tryz.underlying39 ?_ | refine AtT.qa Tryz.underlying39 ?_
 refine AtT.zY ?_
 refine AtT.done ?_
 refine At.nrm ?_
 refine At.qc rfl (fun hp2 => ?_) (fun hp2 => ?_)
 rotate_left
 ·obtain rfl : j = P.length := by omega
  have hpos : P.length ≠ 0 := fun h => by
   have := hgat.fst
   rw [List.eq_nil_of_length_eq_zero h] at this; cases this
  have hperm := srtI_perm P
  have hpart := gat_end (by omega) hgat hcls hperm (srtI_sorted hgat.nd)
  have hsl : (srtI P).length = P.length := hperm.length_eq
  refine At.rowSplit (v := .slice a5 P.length c5) zX.zM (fun h1 h2 _ => absurd h2 hpos) (fun bb cap rest hv hc1 hc2 hc3 => ?_)
  cases hv
  refine At.nrm ?_
  refine At.zl (.q 0 (.n true 1 .done)) ?_
  refine AtT.zh ?_
  refine AtT.sortI rfl trivial rfl (show P.length < 4611686018427387904 by omega) zX.zM (by decide) ?_ (l := P) (rest := rest) (b := bb) (cap := c5)
  refine AtT.done ?_
  refine At.nrm ?_
  refine At.giveB (b := bb) zX.zM (fun V6 hV6 hb6 => ?_)
  have hbase6 : Le V V6 := (hVV.trans hV5).trans hV6
  have hsn : SlI V6 (.slice (some ⟨bb, 0, none⟩) P.length c5) (srtI P) := by
   rw [← hsl]
   exact Sl.of_cells Lw.ei_len (cells_pre hb6) (by omega) hc2
  refine At.nrm ?_
  refine At.zl (.q 0 (.q 1 (.n false 2 (.n true 3 (.q 4 .done))))) ?_
  refine AtT.zh ?_
  refine AtT.zh ?_
  refine AtT.zu (bs42_1_0 _ _ _) ?_
  intro q57 V57 hV57 hq57
  have g57 : Le V V57 := by first | exact hV57 | exact Le.trans (by assumption) hV57
  first | refine AtT.kappend Tryz.underlying42 rw39 ?_
  intro a58 c58
  refine AtT.zg ?_
  refine AtT.done ?_
  refine At.nrm ?_
  have hql2 : (qs ++ [((some ⟨bb, 0, none⟩ : Option Addr), P.length, c5)]).length = qs.length + 1 := by rw [List.length_append]; rfl
  refine At.nrm ?_
  refine At.zl (.q 0 (.q 1 .done)) ?_
  first | refine AtT.qj ?_ | refine AtT.zU ?_
  refine AtT.zh ?_
  refine AtT.done ?_
  refine At.nrm ?_
  refine At.round (i + 1, qs ++ [((some ⟨bb, 0, none⟩ : Option Addr), P.length, c5)], ll ++ [srtI P], a58, c58) ?_ ?_ ?_ ?_
  ·show (knL s).length - (i + 1) < (knL s).length - i; omega
  ·refine ⟨(hVV.trans hV5).trans (by first | assumption | exact Le.trans (by assumption) (by assumption)), by dsimp only; omega, by dsimp only; rw [hql2, List.length_append, hql]; rfl, by dsimp only; omega, .add hprt hnone hpart, fun j q l h1 h2 => ?_⟩
   by_cases e : j < qs.length
   ·rw [List.getElem?_append_left e] at h1
    rw [List.getElem?_append_left (by omega)] at h2
    exact (hqs5 j q l h1 h2).le (by first | assumption | exact Le.trans (by assumption) (by assumption))
   ·have hj1 := (List.getElem?_eq_some_iff.1 h1).1
    dsimp only at hj1
    rw [hql2] at hj1
    obtain rfl : j = qs.length := by omega
    rw [List.getElem?_append_right (Nat.le_refl _), Nat.sub_self] at h1
    rw [List.getElem?_append_right (by omega), hql, Nat.sub_self] at h2
    obtain rfl := Option.some.inj h1
    obtain rfl := Option.some.inj h2
    exact hsn.le (by first | assumption | exact Le.refl _ | exact Le.trans (by assumption) (by assumption))
  ·dsimp only; rw [hql2]; exact ⟨rfl, rfl, rfl, rfl, ivs (by omega), trivial⟩
  dsimp only
  rw [hql2, jg]
  ·exact Pt.zM
 obtain ⟨x, hx⟩ : ∃ x, P[j]? = some x := ⟨_, List.getElem?_eq_getElem (by omega)⟩
 obtain ⟨m, rfl, hmN, hmr⟩ := hgat.rch x (List.mem_of_getElem? hx)
 refine At.nrm ?_
 refine At.zl (.q 0 (.q 1 (.q 2 (.q 3 (.q 4 (.q 5 .done)))))) ?_
 refine AtT.zh ?_
 refine AtT.knil ?_
 first | refine AtT.zi qp ?_ | with_reducible refine AtT.zk qp ?_ | refine AtT.zn qp ?_
 first | refine AtT.zm tk84 ?_ | refine AtT.zo tk84 ?_
 first | refine AtT.zZ Tryz.underlying84 ?_ | refine AtT.qa Tryz.underlying84 ?_
 refine AtT.zh ?_
 refine AtT.done ?_
 refine At.nrm ?_
 refine At.lp (ι := Nat × List Int × Option Addr × Nat) (KS := fun g => [(0, .pointer (some ⟨b, 0, none⟩)), (3, .slice a3 qs.length c3), (11, .slice ak (knL s).length ck), (12, iv (knL s).length), (13, iv i), (5, .slice g.2.2.1 g.2.1.length g.2.2.2), (6, iv j), (30, .slice ak (knL s).length ck), (31, iv (knL s).length), (32, iv g.1)])
  (OS := fun g => [.row (.slice g.2.2.1 g.2.1.length g.2.2.2) 3 1 g.2.1.length (flat ei g.2.1), .row (.slice a3 qs.length c3) 39 1 qs.length (flat sle qs)])
  (VS := fun g V'' => Le V' V'' ∧ g.1 ≤ (knL s).length ∧ j < g.2.1.length ∧ g.2.1[j]? = some (m : Int) ∧ Gat (knL s).length (shN (gdS s) (knL s)) i g.2.1 ∧ Cls (knL s).length (shN (gdS s) (knL s)) g.2.1 j ∧ ∀ k, k < g.1 → shN (gdS s) (knL s) m k = true → (k : Int) ∈ g.2.1) (μ := fun g => (knL s).length - g.1) (0, P, a5, c5) ?_ ?_ ?_ ?_
 ·exact ⟨rfl, rfl, rfl, rfl, rfl, rfl, rfl, rfl, rfl, rfl, trivial⟩
 ·exact Pt.zM
 ·exact ⟨hV5, Nat.zero_le _, by dsimp only; omega, hx, hgat, hcls, fun k hk => absurd hk (Nat.not_lt_zero k)⟩
 rintro ⟨k, P2, a6, c6⟩ V6 ks' O' ⟨hV6, hkl, hjP2, hx2, hgat2, hcls2, hsee⟩ hk hO hl6
 dsimp only at hkl hjP2 hx2 hgat2 hcls2 hsee hk hO
 subst hk hO
 have hP2l := gat_len hgat2
 have hb6 := hb'.le hV6
 have hc26 := hc2'.le hV6
 have hsk6 := hsk'.le hV6
 refine At.nrm ?_
 refine At.zl (.q 0 .done) ?_
 refine AtT.zY ?_
 refine AtT.done ?_
 refine At.nrm ?_
 refine At.qc rfl (fun hp3 => ?_) (fun hp3 => ?_)
 rotate_left
 ·obtain rfl : k = (knL s).length := by omega
  refine At.nrm ?_
  refine At.zl (.q 0 (.q 1 (.q 2 .done))) ?_
  refine AtT.zh ?_
  first | refine AtT.qj ?_ | refine AtT.zU ?_
  refine AtT.zg ?_
  refine AtT.done ?_
  refine At.nrm ?_
  refine At.round (j + 1, P2, a6, c6) ?_ ?_ ?_ ?_
  ·show (knL s).length - (j + 1) < (knL s).length - j; omega
  ·refine ⟨hV6, by dsimp only; omega, hgat2, fun u a hu ha k' hk' hs' => ?_⟩
   by_cases e : u = j
   ·subst e
    rw [hx2] at ha
    have e2 := Option.some.inj ha
    obtain rfl : m = a := by omega
    exact hsee k' hk' hs'
   ·exact hcls2 u a (by omega) ha k' hk' hs'
  ·exact ⟨rfl, rfl, rfl, rfl, rfl, rfl, ivs (by dsimp only; omega), trivial⟩
  ·exact Pt.zM
 refine At.nrm ?_
 refine At.zl (.q 0 (.q 1 .done)) ?_
 refine AtT.zh ?_
 refine AtT.zg ?_
 refine AtT.done ?_
 refine At.nrm ?_
 refine At.lend (xs := flat ei P2) zX.zM (fun V7 hV7 hL7 => ?_)
 have hsp := hL7.sl Lw.ei_len
 have hb7 := hb6.le hV7
 cases hin : P2.any (· == (k : Int)) with
 | true =>
  refine At.nrm ?_
  refine At.zl (.q 0 (.q 1 (.n false 2 (.q 3 (.q 4 (.q 5 (.q 6 (.q 7 (.q 8 (.q 9 (.q 10 (.n false 11 (.q 12 .done))))))))))))) ?_
  refine AtT.zh ?_
  refine AtT.zh ?_
  refine AtT.zq rfl rfl ok99 (containsI_f P2 k _ _ hsp) ?_
  rintro _ rfl
  refine AtT.qW ?_
  refine AtT.setB (d := 38) rfl ((show (!P2.any (· == (k : Int))) = false by rw [hin]; rfl)) ?_
  refine AtT.zh ?_
  all_goals (first | refine AtT.kL 39 ?_ | refine AtT.zB (d := 39) rfl (fun hg39 => ?_) (fun hg39 => ?_) | refine AtT.zA (d := 39) rfl (fun hg39 => ?_) (fun hg39 => ?_))
  all_goals first|refine AtT.zf ?_|refine AtT.ze ?_|(refine AtT.zh ?_)
  all_goals first|refine AtT.zf ?_|refine AtT.ze ?_|(refine AtT.zh ?_)
  all_goals first|refine AtT.zf ?_|refine AtT.ze ?_|(refine AtT.zh ?_)
  all_goals first|refine AtT.zf ?_|refine AtT.ze ?_|(refine AtT.qo Tryz.underlying39 tk3 ?_) ; (intro p43 e43 he43 hc43)
  all_goals first|refine AtT.zf ?_|refine AtT.ze ?_|(first | refine AtT.zm tk3 ?_ | refine AtT.zo tk3 ?_)
  all_goals first|refine AtT.zf ?_|refine AtT.ze ?_|(refine AtT.zh ?_)
  all_goals first|refine AtT.zO ?_|refine AtT.zI ?_|((fail))
  all_goals (refine AtT.zz ?_)
  all_goals refine AtT.done ?_
  all_goals (refine At.nrm ?_)
  refine At.qX rfl rfl ?_
  refine At.regain hL7 hV7 (Le.refl _) hl6 (fun V8 hV8 => ?_)
  refine At.nrm ?_
  refine At.zl (.q 0 (.q 1 .done)) ?_
  first | refine AtT.qj ?_ | refine AtT.zU ?_
  refine AtT.zh ?_
  refine AtT.done ?_
  refine At.nrm ?_
  have hmem : (k : Int) ∈ P2 := by
   obtain ⟨y, hy, e⟩ := List.any_eq_true.1 hin
   have e : y = (k : Int) := by simpa using e
   rwa [e] at hy
  refine At.round (k + 1, P2, a6, c6) ?_ ?_ ?_ ?_
  ·show (knL s).length - (k + 1) < (knL s).length - k; omega
  ·refine ⟨hV6.trans hV8, by dsimp only; omega, hjP2, hx2, hgat2, hcls2, fun k' hk' hs' => ?_⟩
   by_cases e : k' = k
   ·subst e; exact hmem
   ·exact hsee k' (by dsimp only at hk'; omega) hs'
  ·exact ⟨rfl, rfl, rfl, rfl, rfl, rfl, rfl, rfl, rfl, ivs (by dsimp only; omega), trivial⟩
  ·exact Pt.zM
 | false =>
  have hnmem : (k : Int) ∉ P2 := fun h => by rw [List.any_eq_true.2 ⟨_, h, by simp⟩] at hin; cases hin
  cases hsh : shN (gdS s) (knL s) m k with
  | false =>
   refine At.nrm ?_
   refine At.zl (.q 0 (.q 1 (.n false 2 (.q 3 (.q 4 (.q 5 (.q 6 (.q 7 (.q 8 (.q 9 (.q 10 (.n false 11 (.q 12 .done))))))))))))) ?_
   refine AtT.zh ?_
   refine AtT.zh ?_
   refine AtT.zq rfl rfl ok99 (containsI_f P2 k _ _ hsp) ?_
   rintro _ rfl
   refine AtT.qW ?_
   refine AtT.setB (d := 38) rfl ((show (!P2.any (· == (k : Int))) = true by rw [hin]; rfl)) ?_
   refine AtT.zh ?_
   all_goals (first | refine AtT.kL 39 ?_ | refine AtT.zB (d := 39) rfl (fun hg39 => ?_) (fun hg39 => ?_) | refine AtT.zA (d := 39) rfl (fun hg39 => ?_) (fun hg39 => ?_))
   all_goals first|refine AtT.zf ?_|refine AtT.ze ?_|(refine AtT.zh ?_)
   all_goals first|refine AtT.zf ?_|refine AtT.ze ?_|(refine AtT.zh ?_)
   all_goals first|refine AtT.zf ?_|refine AtT.ze ?_|(refine AtT.zh ?_)
   all_goals first|refine AtT.zf ?_|refine AtT.ze ?_|(refine AtT.qo Tryz.underlying39 tk3 ?_) ; (intro p43 e43 he43 hc43)
   all_goals first|refine AtT.zf ?_|refine AtT.ze ?_|(first | refine AtT.zm tk3 ?_ | refine AtT.zo tk3 ?_)
   all_goals (obtain rfl : (m : Int) = e43 := by have : P2[j]? = some e43 := (by simpa using he43); rw [hx2] at this; simpa using this)
   all_goals first|refine AtT.zf ?_|refine AtT.ze ?_|(refine AtT.zh ?_)
   all_goals first|refine AtT.zO ?_|refine AtT.zI ?_|((refine AtT.zq rfl rfl ok69 (share_f s hok m k (by omega) (by omega) _ b hb7) ?_) ; (rintro _ rfl; rw [hsh]))
   all_goals (refine AtT.zz ?_)
   all_goals refine AtT.done ?_
   all_goals (refine At.nrm ?_)
   refine At.qX rfl rfl ?_
   refine At.regain hL7 hV7 (Le.refl _) hl6 (fun V8 hV8 => ?_)
   refine At.nrm ?_
   refine At.zl (.q 0 (.q 1 .done)) ?_
   first | refine AtT.qj ?_ | refine AtT.zU ?_
   refine AtT.zh ?_
   refine AtT.done ?_
   refine At.nrm ?_
   refine At.round (k + 1, P2, a6, c6) ?_ ?_ ?_ ?_
   ·show (knL s).length - (k + 1) < (knL s).length - k; omega
   ·refine ⟨hV6.trans hV8, by dsimp only; omega, hjP2, hx2, hgat2, hcls2, fun k' hk' hs' => ?_⟩
    by_cases e : k' = k
    ·subst e; rw [hsh] at hs'; cases hs'
    ·exact hsee k' (by dsimp only at hk'; omega) hs'
   ·exact ⟨rfl, rfl, rfl, rfl, rfl, rfl, rfl, rfl, rfl, ivs (by dsimp only; omega), trivial⟩
   ·exact Pt.zM
  | true =>
   have hadd := gat_add hgat2 (List.mem_of_getElem? hx2) (by omega) hsh hnmem
   have hal := gat_len hadd
   have hP3 : (P2 ++ [(k : Int)]).length = P2.length + 1 := by rw [List.length_append]; rfl
   refine At.nrm ?_
   refine At.zl (.q 0 (.q 1 (.n false 2 (.q 3 (.q 4 (.q 5 (.q 6 (.q 7 (.q 8 (.q 9 (.q 10 (.n false 11 (.q 12 .done))))))))))))) ?_
   refine AtT.zh ?_
   refine AtT.zh ?_
   refine AtT.zq rfl rfl ok99 (containsI_f P2 k _ _ hsp) ?_
   rintro _ rfl
   refine AtT.qW ?_
   refine AtT.setB (d := 38) rfl ((show (!P2.any (· == (k : Int))) = true by rw [hin]; rfl)) ?_
   refine AtT.zh ?_
   all_goals (first | refine AtT.kL 39 ?_ | refine AtT.zB (d := 39) rfl (fun hg39 => ?_) (fun hg39 => ?_) | refine AtT.zA (d := 39) rfl (fun hg39 => ?_) (fun hg39 => ?_))
   all_goals first|refine AtT.zf ?_|refine AtT.ze ?_|(refine AtT.zh ?_)
   all_goals first|refine AtT.zf ?_|refine AtT.ze ?_|(refine AtT.zh ?_)
   all_goals first|refine AtT.zf ?_|refine AtT.ze ?_|(refine AtT.zh ?_)
   all_goals first|refine AtT.zf ?_|refine AtT.ze ?_|(refine AtT.qo Tryz.underlying39 tk3 ?_) ; (intro p43 e43 he43 hc43)
   all_goals first|refine AtT.zf ?_|refine AtT.ze ?_|(first | refine AtT.zm tk3 ?_ | refine AtT.zo tk3 ?_)
   all_goals (obtain rfl : (m : Int) = e43 := by have : P2[j]? = some e43 := (by simpa using he43); rw [hx2] at this; simpa using this)
   all_goals first|refine AtT.zf ?_|refine AtT.ze ?_|(refine AtT.zh ?_)
   all_goals first|refine AtT.zO ?_|refine AtT.zI ?_|((refine AtT.zq rfl rfl ok69 (share_f s hok m k (by omega) (by omega) _ b hb7) ?_) ; (rintro _ rfl; rw [hsh]))
   all_goals (refine AtT.zz ?_)
   all_goals refine AtT.done ?_
   all_goals (refine At.nrm ?_)
   refine At.qA rfl rfl ?_
   refine At.regain hL7 hV7 (Le.refl _) hl6 (fun V8 hV8 => ?_)
   have hbase8 : Le V V8 := (hVV.trans hV6).trans hV8
   refine At.nrm ?_
   refine At.zl (.q 0 (.q 1 (.n false 2 (.n true 3 (.q 4 .done))))) ?_
   refine AtT.zh ?_
   refine AtT.zh ?_
   refine AtT.zu (zT _) ?_
   intro q50 V50 hV50 hq50
   have g50 : Le V V50 := by first | exact hV50 | exact Le.trans (by assumption) hV50
   first | refine AtT.kappend Tryz.underlying39 rw3 ?_
   intro a51 c51
   refine AtT.zg ?_
   refine AtT.done ?_
   refine At.nrm ?_
   refine At.nrm ?_
   refine At.zl (.q 0 (.q 1 .done)) ?_
   first | refine AtT.qj ?_ | refine AtT.zU ?_
   refine AtT.zh ?_
   refine AtT.done ?_
   refine At.nrm ?_
   refine At.round (k + 1, P2 ++ [(k : Int)], a51, c51) ?_ ?_ ?_ ?_
   ·show (knL s).length - (k + 1) < (knL s).length - k; omega
   ·refine ⟨(hV6.trans hV8).trans (by first | assumption | exact Le.trans (by assumption) (by assumption)), by dsimp only; omega, by dsimp only; omega, by dsimp only; rw [List.getElem?_append_left hjP2]; exact hx2, hadd, cls_add hcls2 (by omega), fun k' hk' hs' => ?_⟩
    by_cases e : k' = k
    ·subst e; simp
    ·exact List.mem_append_left _ (hsee k' (by dsimp only at hk'; omega) hs')
   ·dsimp only; rw [hP3]; exact ⟨rfl, rfl, rfl, rfl, rfl, rfl, rfl, rfl, rfl, ivs (by omega), trivial⟩
   dsimp only
   rw [hP3, jg]
   ·exact Pt.zM
end Go.Proofs.YtghomjjffllkeaaGreatDoor
set_option linter.unusedVariables false
namespace Go.Pm
open Go.Gl Go.Lw
structure Rnd (N : Nat) (S : Nat → Nat → Bool) (i p0 p j k : Nat) : Prop where
 lt0 : p0 < 2 ^ N
 lt : p < 2 ^ N
 fst : p0.testBit i = true
 sub : ∀ x, p0.testBit x = true → p.testBit x = true
 rch : ∀ x, p.testBit x = true → Rch N S i x
 seen : ∀ a b, (a < j ∨ a = j ∧ b < k) → b < N → p0.testBit a = true → S a b = true → p.testBit b = true
variable {N : Nat} {S : Nat → Nat → Bool} {i p0 p j k r : Nat}
end Go.Pm

set_option linter.unusedVariables false
namespace Go.Proofs.YtghomjjffllkeaaGreatDoor
open Go.Lw Go.Gl Go.Pm Go.RowKit
def PrR (s : Sh) (r : Value) (V' : View) : Prop := ∃ u ll, r = .tuple #[u, iv (chE s)] ∧ SL V' u ll ∧ ((chE s ≠ 0 ∧ ll = []) ∨ (chE s = 0 ∧ PrtK (knL s).length (shN (gdS s) (knL s)) (knL s).length ll))
theorem partsP_f (s : Sh) (V : View) (v : Value) (hv : ShV V v s) : Fnc Tryz.prog 30 [v] V (PrR s) := by
 obtain ⟨a, c, rfl, hs⟩ := id hv
 refine qh Tryz.func30 rfl Tryz.ntmps30 (Nat.le_of_ble_eq_true rfl) ?_
 intro w0 hw0
 refine At.nrm ?_
 refine At.zl (.n false 0 (.q 1 (.q 2 .done))) ?_
 refine AtT.qZ ?_
 intro b1
 refine AtT.zg ?_
 refine AtT.zg ?_
 refine AtT.done ?_
 refine At.nrm ?_
 by_cases h0 : chE s = 0
 rotate_left
 ·refine At.zl (.q 0 (.n false 1 (.q 2 (.q 3 (.q 4 (.q 5 (.q 6 .done))))))) ?_
  first | refine AtT.zD zP ?_ | refine AtT.zK zP ?_ | refine AtT.zC zP ?_
  refine AtT.qg rfl rfl ok57 (open_bad s h0 _ _ hv) ?_
  rintro v8 V8 hV8 rfl
  refine AtT.zh ?_
  refine AtT.zN ?_
  refine AtT.zN ?_
  refine AtT.zg ?_
  refine AtT.zg ?_
  refine AtT.done ?_
  refine At.nrm ?_
  refine At.nrm ?_
  refine At.zl (.q 0 (.q 1 .done)) ?_
  refine AtT.zh ?_
  refine AtT.qG ?_
  refine AtT.done ?_
  refine At.nrm ?_
  refine At.qA rfl (decide_eq_true h0) ?_
  refine At.nrm ?_
  refine At.zl (.q 0 (.q 1 (.q 2 .done))) ?_
  refine AtT.zh ?_
  refine AtT.zg ?_
  refine AtT.zg ?_
  refine AtT.done ?_
  refine At.nrm ?_
  exact At.je rfl (.tmp rfl) (.tmp rfl) ⟨_, [], rfl, SL.nil _, .inl ⟨h0, rfl⟩⟩
 refine At.zl (.q 0 (.n false 1 (.q 2 (.q 3 (.q 4 (.q 5 (.q 6 .done))))))) ?_
 first | refine AtT.zD zP ?_ | refine AtT.zK zP ?_ | refine AtT.zC zP ?_
 refine AtT.qg rfl rfl ok57 (open_ok s h0 _ _ hv) ?_
 rintro v8 V8 hV8 ⟨b, rfl, hb⟩
 refine AtT.zh ?_
 refine AtT.zN ?_
 refine AtT.zN ?_
 refine AtT.zg ?_
 refine AtT.zg ?_
 refine AtT.done ?_
 refine At.nrm ?_
 refine At.nrm ?_
 refine At.zl (.q 0 (.q 1 .done)) ?_
 refine AtT.zh ?_
 refine AtT.qG ?_
 refine AtT.done ?_
 refine At.nrm ?_
 refine At.qX rfl rfl ?_
 refine At.nrm ?_
 refine At.zl (.q 0 (.n false 1 (.q 2 (.q 3 .done)))) ?_
 refine AtT.zh ?_
 refine AtT.qg rfl rfl ok66 (parts_f s (jq h0) _ b hb) ?_
 rintro v15 V15 hV15 ⟨ll, hs15, hk15⟩
 refine AtT.zg ?_
 refine AtT.zg ?_
 refine AtT.done ?_
 refine At.nrm ?_
 exact At.je rfl (.tmp rfl) (.tmp rfl) ⟨_, ll, by rw [h0], hs15, .inr ⟨h0, hk15⟩⟩
theorem sheetP_f (s : Sh) (V : View) (v : Value) (hv : ShV V v s) : Fnc Tryz.prog 19 [v] V fun r _ => r = iv (chE s) := by
 obtain ⟨a, c, rfl, hs⟩ := id hv
 refine qh Tryz.func19 rfl Tryz.ntmps19 (Nat.le_of_ble_eq_true rfl) ?_
 intro w0 hw0
 refine At.nrm ?_
 refine At.zl (.n false 0 (.q 1 .done)) ?_
 refine AtT.qZ ?_
 intro b1
 refine AtT.zg ?_
 refine AtT.done ?_
 refine At.nrm ?_
 by_cases h0 : chE s = 0
 rotate_left
 ·refine At.zl (.q 0 (.n false 1 (.q 2 (.q 3 (.q 4 (.q 5 (.q 6 .done))))))) ?_
  first | refine AtT.zD zP ?_ | refine AtT.zK zP ?_ | refine AtT.zC zP ?_
  refine AtT.qg rfl rfl ok57 (open_bad s h0 _ _ hv) ?_
  rintro v7 V7 hV7 rfl
  refine AtT.zh ?_
  refine AtT.zN ?_
  refine AtT.zN ?_
  refine AtT.zg ?_
  refine AtT.zg ?_
  refine AtT.done ?_
  refine At.nrm ?_
  refine At.nrm ?_
  refine At.zl (.q 0 (.q 1 .done)) ?_
  refine AtT.zh ?_
  refine AtT.zg ?_
  refine AtT.done ?_
  refine At.nrm ?_
  exact At.qb rfl (.tmp rfl) rfl
 refine At.zl (.q 0 (.n false 1 (.q 2 (.q 3 (.q 4 (.q 5 (.q 6 .done))))))) ?_
 first | refine AtT.zD zP ?_ | refine AtT.zK zP ?_ | refine AtT.zC zP ?_
 refine AtT.qg rfl rfl ok57 (open_ok s h0 _ _ hv) ?_
 rintro v7 V7 hV7 ⟨b, rfl, hb⟩
 refine AtT.zh ?_
 refine AtT.zN ?_
 refine AtT.zN ?_
 refine AtT.zg ?_
 refine AtT.zg ?_
 refine AtT.done ?_
 refine At.nrm ?_
 refine At.nrm ?_
 refine At.zl (.q 0 (.q 1 .done)) ?_
 refine AtT.zh ?_
 refine AtT.zg ?_
 refine AtT.done ?_
 refine At.nrm ?_
 exact At.qb rfl (.tmp rfl) (by rw [h0])
theorem take_same {α : Type} {l m : List α} {k : Nat} {x : α} (h : l.take k = m.take k) (hl : l[k]? = some x) (hm : m[k]? = some x) : l.take (k + 1) = m.take (k + 1) := by
 rw [take_snoc' hl, take_snoc' hm, h]
theorem take_diff {α : Type} {l m : List α} {k : Nat} {x y : α} (hl : l[k]? = some x) (hm : m[k]? = some y) (h : x ≠ y) : l ≠ m := fun e => by
 subst e; rw [hl] at hm; exact h (Option.some.inj hm)
theorem equalS_f (l m : List ByteArray) (V : View) (v u : Value) (hl : Sl V bse 1 v l) (hm : Sl V bse 1 u m) : Fnc Tryz.prog 80 [v, u] V fun r _ => r = .bool (decide (l = m)) := by
 have hll := hl.jf
 have hml := hm.jf
 obtain ⟨a, c, rfl, k1, k2, _⟩ := id hl
 clear k1 k2
 obtain ⟨a2, c2, rfl, k1, k2, _⟩ := id hm
 clear k1 k2
 refine qh Tryz.func80 rfl Tryz.ntmps80 (Nat.le_of_ble_eq_true rfl) ?_
 intro w0 hw0
 refine At.nrm ?_
 refine At.zl (.q 0 .done) ?_
 refine AtT.zg ?_
 refine AtT.done ?_
 refine At.nrm ?_
 refine At.zl (.q 0 (.q 1 (.q 2 (.q 3 (.q 4 .done))))) ?_
 refine AtT.zh ?_
 first | refine AtT.zZ Tryz.underlying22 ?_ | refine AtT.qa Tryz.underlying22 ?_
 refine AtT.zh ?_
 first | refine AtT.zZ Tryz.underlying22 ?_ | refine AtT.qa Tryz.underlying22 ?_
 refine AtT.qG ?_
 refine AtT.done ?_
 refine At.nrm ?_
 refine At.qc rfl (fun h0 => ?_) (fun h0 => ?_)
 ·refine At.nrm ?_
  refine At.zl (.q 0 .done) ?_
  refine AtT.zg ?_
  refine AtT.done ?_
  refine At.nrm ?_
  exact At.qb rfl (.tmp rfl) (by rw [decide_eq_false (fun e => h0 (by rw [e]))])
 refine At.nrm ?_
 refine At.zl (.q 0 (.q 1 (.q 2 .done))) ?_
 refine AtT.zh ?_
 first | refine AtT.zZ Tryz.underlying22 ?_ | refine AtT.qa Tryz.underlying22 ?_
 refine AtT.zh ?_
 refine AtT.done ?_
 refine At.nrm ?_
 refine At.lp (ι := Nat) (KS := fun k => [(0, .slice a l.length c), (1, .slice a2 m.length c2), (12, iv l.length), (13, iv k)]) (OS := fun _ => []) (VS := fun k V' => V = V' ∧ k ≤ l.length ∧ l.take k = m.take k) (μ := fun k => l.length - k) 0 ?_ ?_ ?_ ?_
 ·exact ⟨rfl, rfl, rfl, rfl, trivial⟩
 ·exact Pt.zM
 ·exact ⟨rfl, Nat.zero_le _, rfl⟩
 rintro k _ ks' O' ⟨rfl, hkl, htk⟩ hk hO hl2
 subst hk hO
 refine At.nrm ?_
 refine At.zl (.q 0 .done) ?_
 refine AtT.zY ?_
 refine AtT.done ?_
 refine At.nrm ?_
 refine At.qc rfl (fun hp => ?_) (fun hp => ?_)
 rotate_left
 ·obtain rfl : k = l.length := by omega
  rw [List.take_length, List.take_of_length_le (by omega)] at htk
  refine At.nrm ?_
  refine At.zl (.q 0 .done) ?_
  refine AtT.zg ?_
  refine AtT.done ?_
  refine At.nrm ?_
  exact At.qb rfl (.tmp rfl) (by rw [decide_eq_true htk])
 obtain ⟨x, hx⟩ : ∃ x, l[k]? = some x := ⟨_, List.getElem?_eq_getElem (by omega)⟩
 obtain ⟨y, hy⟩ : ∃ y, m[k]? = some y := ⟨_, List.getElem?_eq_getElem (by omega)⟩
 refine At.nrm ?_
 refine At.zl (.q 0 (.q 1 .done)) ?_
 refine AtT.zh ?_
 refine AtT.zg ?_
 refine AtT.done ?_
 refine At.nrm ?_
 refine At.jo (ι := Unit) (fun _ => [(0, .slice a l.length c), (1, .slice a2 m.length c2), (12, iv l.length), (13, iv k), (24, .bool (decide (x ≠ y)))]) (fun _ => []) (fun _ V'' => V = V'') ?_ ?_
 ·refine At.draw (.q 0 (.q 1 (.q 2 (.q 3 (.q 4 (.q 5 (.q 6 (.q 7 (.q 8 .done))))))))) ffm (by kernel_rfl) ?_
  refine AtT.zh ?_
  refine AtT.zh ?_
  refine AtT.qo Tryz.underlying22 tk9 ?_
  intro p18 e18 he18 hc18
  first | refine AtT.zm tk9 ?_ | refine AtT.zo tk9 ?_
  obtain rfl : x = e18 := by have : l[k]? = some e18 := (by simpa using he18); rw [hx] at this; simpa using this
  refine AtT.zh ?_
  refine AtT.zh ?_
  refine AtT.qo Tryz.underlying22 tk9 ?_
  intro p22 e22 he22 hc22
  first | refine AtT.zm tk9 ?_ | refine AtT.zo tk9 ?_
  obtain rfl : y = e22 := by have : m[k]? = some e22 := (by simpa using he22); rw [hy] at this; simpa using this
  refine AtT.neStr rfl trivial rfl rfl (by decide) ?_
  refine AtT.done ?_
  refine At.nrm ?_
  all_goals (exact At.qC () rfl ⟨rfl, rfl, rfl, rfl, rfl, trivial⟩ Pt.zM)
 rintro _ _ ks' O' rfl hk hO hl3
 subst hk hO
 refine At.qc rfl (fun hd => ?_) (fun hd => ?_)
 ·refine At.nrm ?_
  refine At.zl (.q 0 .done) ?_
  refine AtT.zg ?_
  refine AtT.done ?_
  refine At.nrm ?_
  exact At.qb rfl (.tmp rfl) (by rw [decide_eq_false (take_diff hx hy hd)])
 ·obtain rfl := Classical.not_not.1 hd
  refine At.nrm ?_
  refine At.zl (.q 0 (.q 1 .done)) ?_
  first | refine AtT.qj ?_ | refine AtT.zU ?_
  refine AtT.zh ?_
  refine AtT.done ?_
  refine At.nrm ?_
  refine At.round (k + 1) ?_ ?_ ?_ ?_
  ·show l.length - (k + 1) < l.length - k; omega
  ·exact ⟨rfl, by omega, take_same htk hx hy⟩
  ·exact ⟨rfl, rfl, rfl, ivs (by omega), trivial⟩
  ·exact Pt.zM
theorem requal_f (s t : Sh) (V : View) (v u : Value) (hv : ShV V v s) (hu : ShV V u t) : Fnc Tryz.prog 42 [v, u] V fun r _ => r = .bool (decide (s.most = t.most ∧ s.rows = t.rows)) := by
 obtain ⟨a, c, rfl, hl⟩ := hv
 obtain ⟨a2, c2, rfl, hm⟩ := hu
 have hll := hl.jf
 have hml := hm.jf
 refine qh Tryz.func42 rfl Tryz.ntmps42 (Nat.le_of_ble_eq_true rfl) ?_
 intro w0 hw0
 refine At.nrm ?_
 refine At.zl (.n false 0 (.n false 1 (.q 2 .done))) ?_
 refine AtT.qZ ?_
 intro b2
 refine AtT.qZ ?_
 intro b3
 refine AtT.zg ?_
 refine AtT.done ?_
 refine At.nrm ?_
 by_cases h1 : s.most = t.most
 rotate_left
 ·refine At.zl (.q 0 (.q 1 (.q 2 (.q 3 (.q 4 (.q 5 (.q 6 (.q 7 (.q 8 (.q 9 (.q 10 (.q 11 (.q 12 (.q 13 .done)))))))))))))) ?_
  first | refine AtT.zi zR ?_ | with_reducible refine AtT.zk zR ?_ | refine AtT.zn zR ?_
  first | refine AtT.zm tk3 ?_ | refine AtT.zo tk3 ?_
  first | refine AtT.zi zR ?_ | with_reducible refine AtT.zk zR ?_ | refine AtT.zn zR ?_
  first | refine AtT.zm tk3 ?_ | refine AtT.zo tk3 ?_
  refine AtT.qG ?_
  refine AtT.qJ (d := 10) rfl (h1) ?_
  refine AtT.zh ?_
  all_goals (first | refine AtT.kL 11 ?_ | refine AtT.zB (d := 11) rfl (fun hg11 => ?_) (fun hg11 => ?_) | refine AtT.zA (d := 11) rfl (fun hg11 => ?_) (fun hg11 => ?_))
  all_goals first|refine AtT.zf ?_|refine AtT.ze ?_|(first | refine AtT.zi zw ?_ | with_reducible refine AtT.zk zw ?_ | refine AtT.zn zw ?_)
  all_goals first|refine AtT.zf ?_|refine AtT.ze ?_|(first | refine AtT.zm zV ?_ | refine AtT.zo zV ?_)
  all_goals first|refine AtT.zf ?_|refine AtT.ze ?_|(first | refine AtT.zZ Tryz.underlying22 ?_ | refine AtT.qa Tryz.underlying22 ?_)
  all_goals first|refine AtT.zf ?_|refine AtT.ze ?_|(first | refine AtT.zi zw ?_ | with_reducible refine AtT.zk zw ?_ | refine AtT.zn zw ?_)
  all_goals first|refine AtT.zf ?_|refine AtT.ze ?_|(first | refine AtT.zm zV ?_ | refine AtT.zo zV ?_)
  all_goals first|refine AtT.zf ?_|refine AtT.ze ?_|(first | refine AtT.zZ Tryz.underlying22 ?_ | refine AtT.qa Tryz.underlying22 ?_)
  all_goals first|refine AtT.zf ?_|refine AtT.ze ?_|(refine AtT.qG ?_)
  all_goals (refine AtT.zz ?_)
  all_goals refine AtT.done ?_
  all_goals (refine At.nrm ?_)
  refine At.qA rfl rfl ?_
  refine At.nrm ?_
  refine At.zl (.q 0 .done) ?_
  refine AtT.zg ?_
  refine AtT.done ?_
  refine At.nrm ?_
  exact At.qb rfl (.tmp rfl) (by rw [decide_eq_false (fun e => h1 e.1)])
 by_cases h2 : s.rows.length = t.rows.length
 rotate_left
 ·refine At.zl (.q 0 (.q 1 (.q 2 (.q 3 (.q 4 (.q 5 (.q 6 (.q 7 (.q 8 (.q 9 (.q 10 (.q 11 (.q 12 (.q 13 .done)))))))))))))) ?_
  first | refine AtT.zi zR ?_ | with_reducible refine AtT.zk zR ?_ | refine AtT.zn zR ?_
  first | refine AtT.zm tk3 ?_ | refine AtT.zo tk3 ?_
  first | refine AtT.zi zR ?_ | with_reducible refine AtT.zk zR ?_ | refine AtT.zn zR ?_
  first | refine AtT.zm tk3 ?_ | refine AtT.zo tk3 ?_
  refine AtT.qG ?_
  refine AtT.qm (d := 10) rfl ((by omega)) ?_
  refine AtT.zh ?_
  all_goals (first | refine AtT.kL 11 ?_ | refine AtT.zB (d := 11) rfl (fun hg11 => ?_) (fun hg11 => ?_) | refine AtT.zA (d := 11) rfl (fun hg11 => ?_) (fun hg11 => ?_))
  all_goals first|refine AtT.zf ?_|refine AtT.ze ?_|(first | refine AtT.zi zw ?_ | with_reducible refine AtT.zk zw ?_ | refine AtT.zn zw ?_)
  all_goals first|refine AtT.zf ?_|refine AtT.ze ?_|(first | refine AtT.zm zV ?_ | refine AtT.zo zV ?_)
  all_goals first|refine AtT.zf ?_|refine AtT.ze ?_|(first | refine AtT.zZ Tryz.underlying22 ?_ | refine AtT.qa Tryz.underlying22 ?_)
  all_goals first|refine AtT.zf ?_|refine AtT.ze ?_|(first | refine AtT.zi zw ?_ | with_reducible refine AtT.zk zw ?_ | refine AtT.zn zw ?_)
  all_goals first|refine AtT.zf ?_|refine AtT.ze ?_|(first | refine AtT.zm zV ?_ | refine AtT.zo zV ?_)
  all_goals first|refine AtT.zf ?_|refine AtT.ze ?_|(first | refine AtT.zZ Tryz.underlying22 ?_ | refine AtT.qa Tryz.underlying22 ?_)
  all_goals first|refine AtT.zf ?_|refine AtT.ze ?_|(refine AtT.qG ?_)
  all_goals (refine AtT.qJ (d := 18) rfl ((by omega)) ?_)
  all_goals (refine AtT.zz ?_)
  all_goals refine AtT.done ?_
  all_goals (refine At.nrm ?_)
  refine At.qA rfl rfl ?_
  refine At.nrm ?_
  refine At.zl (.q 0 .done) ?_
  refine AtT.zg ?_
  refine AtT.done ?_
  refine At.nrm ?_
  exact At.qb rfl (.tmp rfl) (by rw [decide_eq_false (fun e => h2 (by rw [e.2]))])
 refine At.zl (.q 0 (.q 1 (.q 2 (.q 3 (.q 4 (.q 5 (.q 6 (.q 7 (.q 8 (.q 9 (.q 10 (.q 11 (.q 12 (.q 13 .done)))))))))))))) ?_
 first | refine AtT.zi zR ?_ | with_reducible refine AtT.zk zR ?_ | refine AtT.zn zR ?_
 first | refine AtT.zm tk3 ?_ | refine AtT.zo tk3 ?_
 first | refine AtT.zi zR ?_ | with_reducible refine AtT.zk zR ?_ | refine AtT.zn zR ?_
 first | refine AtT.zm tk3 ?_ | refine AtT.zo tk3 ?_
 refine AtT.qG ?_
 refine AtT.qm (d := 10) rfl ((by omega)) ?_
 refine AtT.zh ?_
 all_goals (first | refine AtT.kL 11 ?_ | refine AtT.zB (d := 11) rfl (fun hg11 => ?_) (fun hg11 => ?_) | refine AtT.zA (d := 11) rfl (fun hg11 => ?_) (fun hg11 => ?_))
 all_goals first|refine AtT.zf ?_|refine AtT.ze ?_|(first | refine AtT.zi zw ?_ | with_reducible refine AtT.zk zw ?_ | refine AtT.zn zw ?_)
 all_goals first|refine AtT.zf ?_|refine AtT.ze ?_|(first | refine AtT.zm zV ?_ | refine AtT.zo zV ?_)
 all_goals first|refine AtT.zf ?_|refine AtT.ze ?_|(first | refine AtT.zZ Tryz.underlying22 ?_ | refine AtT.qa Tryz.underlying22 ?_)
 all_goals first|refine AtT.zf ?_|refine AtT.ze ?_|(first | refine AtT.zi zw ?_ | with_reducible refine AtT.zk zw ?_ | refine AtT.zn zw ?_)
 all_goals first|refine AtT.zf ?_|refine AtT.ze ?_|(first | refine AtT.zm zV ?_ | refine AtT.zo zV ?_)
 all_goals first|refine AtT.zf ?_|refine AtT.ze ?_|(first | refine AtT.zZ Tryz.underlying22 ?_ | refine AtT.qa Tryz.underlying22 ?_)
 all_goals first|refine AtT.zf ?_|refine AtT.ze ?_|(refine AtT.qG ?_)
 all_goals (refine AtT.qm (d := 18) rfl ((by omega)) ?_)
 all_goals (refine AtT.zz ?_)
 all_goals refine AtT.done ?_
 all_goals (refine At.nrm ?_)
 refine At.qX rfl rfl ?_
 refine At.nrm ?_
 refine At.zl (.q 0 .done) ?_
 refine AtT.zg ?_
 refine AtT.done ?_
 refine At.nrm ?_
 refine At.lp (ι := Nat) (KS := fun k => [(2, .pointer (some ⟨b2, 0, none⟩)), (3, .pointer (some ⟨b3, 0, none⟩)), (5, iv k)]) (OS := fun _ => [.blk b2 (LC [.slice a s.rows.length c, iv s.most] 24), .blk b3 (LC [.slice a2 t.rows.length c2, iv t.most] 24)]) (VS := fun k V' => V = V' ∧ k ≤ s.rows.length ∧ s.rows.take k = t.rows.take k) (μ := fun k => s.rows.length - k) 0 ?_ ?_ ?_ ?_
 ·exact ⟨rfl, rfl, rfl, trivial⟩
 ·exact Pt.zM
 ·exact ⟨rfl, Nat.zero_le _, rfl⟩
 rintro k _ ks' O' ⟨rfl, hkl, htk⟩ hk hO hl2
 subst hk hO
 refine At.nrm ?_
 refine At.zl (.q 0 (.q 1 (.q 2 (.q 3 (.q 4 .done))))) ?_
 refine AtT.zh ?_
 first | refine AtT.zi zw ?_ | with_reducible refine AtT.zk zw ?_ | refine AtT.zn zw ?_
 first | refine AtT.zm zV ?_ | refine AtT.zo zV ?_
 first | refine AtT.zZ Tryz.underlying22 ?_ | refine AtT.qa Tryz.underlying22 ?_
 refine AtT.zY ?_
 refine AtT.done ?_
 refine At.nrm ?_
 refine At.qc rfl (fun hp => ?_) (fun hp => ?_)
 rotate_left
 ·obtain rfl : k = s.rows.length := by omega
  rw [List.take_length, List.take_of_length_le (by omega)] at htk
  refine At.nrm ?_
  refine At.zl (.q 0 .done) ?_
  refine AtT.zg ?_
  refine AtT.done ?_
  refine At.nrm ?_
  exact At.qb rfl (.tmp rfl) (by rw [decide_eq_true ⟨h1, htk⟩])
 obtain ⟨x, hx⟩ : ∃ x, s.rows[k]? = some x := ⟨_, List.getElem?_eq_getElem (by omega)⟩
 obtain ⟨y, hy⟩ : ∃ y, t.rows[k]? = some y := ⟨_, List.getElem?_eq_getElem (by omega)⟩
 refine At.nrm ?_
 refine At.jo (ι := Unit) (fun _ => [(2, .pointer (some ⟨b2, 0, none⟩)), (3, .pointer (some ⟨b3, 0, none⟩)), (5, iv k), (37, .bool (decide (x ≠ y)))]) (fun _ => [.blk b2 (LC [.slice a s.rows.length c, iv s.most] 24), .blk b3 (LC [.slice a2 t.rows.length c2, iv t.most] 24)]) (fun _ V'' => V = V'') ?_ ?_
 ·refine At.draw (.q 0 (.q 1 (.q 2 (.q 3 (.q 4 (.q 5 (.q 6 (.q 7 (.q 8 (.q 9 (.q 10 .done))))))))))) ffm (by kernel_rfl) ?_
  first | refine AtT.zi zw ?_ | with_reducible refine AtT.zk zw ?_ | refine AtT.zn zw ?_
  first | refine AtT.zm zV ?_ | refine AtT.zo zV ?_
  refine AtT.zh ?_
  refine AtT.qo Tryz.underlying22 tk9 ?_
  intro p30 e30 he30 hc30
  first | refine AtT.zm tk9 ?_ | refine AtT.zo tk9 ?_
  obtain rfl : x = e30 := by have : s.rows[k]? = some e30 := (by simpa using he30); rw [hx] at this; simpa using this
  first | refine AtT.zi zw ?_ | with_reducible refine AtT.zk zw ?_ | refine AtT.zn zw ?_
  first | refine AtT.zm zV ?_ | refine AtT.zo zV ?_
  refine AtT.zh ?_
  refine AtT.qo Tryz.underlying22 tk9 ?_
  intro p35 e35 he35 hc35
  first | refine AtT.zm tk9 ?_ | refine AtT.zo tk9 ?_
  obtain rfl : y = e35 := by have : t.rows[k]? = some e35 := (by simpa using he35); rw [hy] at this; simpa using this
  refine AtT.neStr rfl trivial rfl rfl (by decide) ?_
  refine AtT.done ?_
  refine At.nrm ?_
  all_goals (exact At.qC () rfl ⟨rfl, rfl, rfl, rfl, trivial⟩ Pt.zM)
 rintro _ _ ks' O' rfl hk hO hl3
 subst hk hO
 refine At.qc rfl (fun hd => ?_) (fun hd => ?_)
 ·refine At.nrm ?_
  refine At.zl (.q 0 .done) ?_
  refine AtT.zg ?_
  refine AtT.done ?_
  refine At.nrm ?_
  exact At.qb rfl (.tmp rfl) (by rw [decide_eq_false (fun e => take_diff hx hy hd e.2)])
 ·obtain rfl := Classical.not_not.1 hd
  refine At.nrm ?_
  refine At.zl (.q 0 (.q 1 (.q 2 .done))) ?_
  refine AtT.zh ?_
  first | refine AtT.qj ?_ | refine AtT.zU ?_
  refine AtT.zg ?_
  refine AtT.done ?_
  refine At.nrm ?_
  refine At.round (k + 1) ?_ ?_ ?_ ?_
  ·show s.rows.length - (k + 1) < s.rows.length - k; omega
  ·exact ⟨rfl, by omega, take_same htk hx hy⟩
  ·exact ⟨rfl, rfl, ivs (by omega), trivial⟩
  ·exact Pt.zM
end Go.Proofs.YtghomjjffllkeaaGreatDoor
set_option linter.unusedVariables false
namespace Go.Pm
open Go.Gl Go.Lw
def pc0 : Pc := ⟨0, 0, 0, 0⟩
def pcN (n : Nat) : Pc := ⟨((n / 216 : Nat) : Int), ((n / 36 % 6 : Nat) : Int), ((n / 6 % 6 + 1 : Nat) : Int), ((n % 6 + 1 : Nat) : Int)⟩
def lyN (g : Gd) (n : Nat) : List Pc := ((List.range n).map pcN).filter fun p => decide (peE g p = 0)
theorem lyN_snoc (g : Gd) (n : Nat) : lyN g (n + 1) = if peE g (pcN n) = 0 then lyN g n ++ [pcN n] else lyN g n := by
 unfold lyN
 rw [List.range_succ, List.map_append, List.filter_append]
 by_cases c : peE g (pcN n) = 0
 ·rw [if_pos c]; simp [c]
 ·rw [if_neg c]; simp [c]
theorem lyN_mem {g : Gd} {n : Nat} {p : Pc} : p ∈ lyN g n ↔ Lies g p ∧ ∃ k, k < n ∧ p = pcN k := by
 unfold lyN
 rw [List.mem_filter, decide_eq_true_eq, peE_iff, List.mem_map]
 constructor
 ·rintro ⟨⟨k, hk, rfl⟩, h⟩; exact ⟨h, k, List.mem_range.1 hk, rfl⟩
 ·rintro ⟨h, k, hk, rfl⟩; exact ⟨⟨k, List.mem_range.2 hk, rfl⟩, h⟩
def gtA (a b : Pc) : Bool := decide (arP b < arP a)
def laO (g : Gd) (n : Nat) : Pc := qP gtA pc0 (lyN g n)
theorem laO_cons {g : Gd} {x : Pc} {l : List Pc} (h : lyN g 1296 = x :: l) : laO g 1296 = qP gtA x l := by
 have hx : Lies g x := (lyN_mem.1 (by rw [h]; exact List.mem_cons_self)).1
 have := ar_pos hx
 unfold laO
 rw [h]
 unfold qP
 rw [List.foldl_cons, if_pos]
 unfold gtA
 exact decide_eq_true (by show arP pc0 < arP x; have : arP pc0 = 0 := rfl; omega)
def laR (s : Sh) : Pc × Int := if chE s ≠ 0 then (pc0, chE s) else if lyN (gdS s) 1296 = [] then (pc0, 5) else (laO (gdS s) 1296, 0)
end Go.Pm

set_option linter.unusedVariables false
namespace Go.Pm
open Go.Gl Go.Lw
abbrev ysP (g : Gd) : List (List Value) := (lyN g 1296).map fun p => [pcv p]
theorem lyN_pre (g : Gd) : ∀ (m n : Nat), n ≤ m → ∃ t, lyN g m = lyN g n ++ t
 | 0, n, h => by
   obtain rfl : n = 0 := by omega
   exact ⟨[], by simp⟩
 | m + 1, n, h => by
  by_cases e : n = m + 1
  ·subst e; exact ⟨[], by simp⟩
  ·obtain ⟨t, ht⟩ := lyN_pre g m n (by omega)
   rw [lyN_snoc]
   split
   ·exact ⟨t ++ [pcN m], by rw [ht, List.append_assoc]⟩
   ·exact ⟨t, ht⟩
theorem ysP_at {g : Gd} {n : Nat} (hn : n < 1296) (h : peE g (pcN n) = 0) : (ysP g)[(lyN g n).length]? = some [pcv (pcN n)] := by
 obtain ⟨t, ht⟩ := lyN_pre g 1296 (n + 1) (by omega)
 rw [lyN_snoc g n, if_pos h] at ht
 unfold ysP
 rw [ht, List.getElem?_map, List.append_assoc, List.getElem?_append_right (Nat.le_refl _), Nat.sub_self]
 rfl
theorem td6 (a : Nat) : (a : Int).tdiv 6 = ((a / 6 : Nat) : Int) := rfl
theorem tm6 (a : Nat) : (a : Int).tmod 6 = ((a % 6 : Nat) : Int) := rfl
theorem td6_fit (a : Nat) (h : a ≤ 1296) : Fit ((a : Int).tdiv 6) := by rw [td6]; exact Fit.of (by omega) (by omega)
theorem pcN_div (k : Nat) : pcN k = ⟨((k / 6 / 6 / 6 : Nat) : Int), ((k / 6 / 6 % 6 : Nat) : Int), ((k / 6 % 6 : Nat) : Int) + 1, ((k % 6 : Nat) : Int) + 1⟩ := by
 unfold pcN
 have e1 : k / 216 = k / 6 / 6 / 6 := by omega
 have e2 : k / 36 = k / 6 / 6 := by omega
 rw [e1, e2]
 rfl
end Go.Pm
namespace Go.Proofs.YtghomjjffllkeaaGreatDoor
open Go.Lw Go.Gl Go.Pm Go.RowKit
theorem pieces_f (V : View) (b : Nat) : Fnc Tryz.prog 74 [.pointer (some ⟨b, 0, none⟩)] V fun r V' => ∃ q : Addr, r = .func (.func 104) #[] #[.pointer (some q)] ∧ Cells V' q [.pointer (some ⟨b, 0, none⟩)] := by
 refine qh Tryz.func74 rfl Tryz.ntmps74 (Nat.le_of_ble_eq_true rfl) ?_
 intro w0 hw0
 refine At.nrm ?_
 refine At.zl (.n false 0 (.q 1 .done)) ?_
 refine AtT.qZ ?_
 intro b1
 refine AtT.zg ?_
 refine AtT.done ?_
 refine At.nrm ?_
 refine At.giveB (b := b1) zX.zM ?_
 intro V1 hV1 hb1
 refine At.zl (.q 0 (.q 1 .done)) ?_
 refine AtT.kfn ?_
 refine AtT.zg ?_
 refine AtT.done ?_
 refine At.nrm ?_
 exact At.qb rfl (.tmp rfl) ⟨_, rfl, qO hb1⟩
theorem iterP_f (s : Sh) (hok : ShOk s) (V : View) (b : Nat) (q : Addr) (hq : Cells V q [.pointer (some ⟨b, 0, none⟩)]) (hb : BnV V b s) : It Tryz.prog 104 [.pointer (some q)] V (ysP (gdS s)) := by
 refine it_of Tryz.func104 rfl Tryz.ntmps104 (Nat.le_of_ble_eq_true rfl) rfl ?_
 intro l J E w0 H hJ
 refine At.nrm ?_
 refine At.zl (.q 0 .done) ?_
 refine AtT.zh ?_
 refine AtT.done ?_
 refine At.nrm ?_
 refine At.lpY H (ι := Nat) (fun k => k ≤ 1296) (fun k => [(0, .func (.yield l) #[] #[]), (1, .pointer (some q)), (6, iv k)]) (fun k => (lyN (gdS s) k).length) (fun k => 1296 - k) 0 (Nat.zero_le _) ⟨rfl, rfl, rfl, trivial⟩ hJ ?_
 rintro k w ks' hkl hJ rfl
 have hsn := lyN_snoc (gdS s) k
 refine At.nrm ?_
 refine At.zl (.q 0 .done) ?_
 refine AtT.zY ?_
 refine AtT.done ?_
 refine At.nrm ?_
 refine At.qc rfl (fun hp => ?_) (fun hp => ?_)
 rotate_left
 ·obtain rfl : k = 1296 := by omega
  refine At.nrm ?_
  exact At.itEnd H (.inl rfl) rfl (.inl (by rw [ysP, List.length_map]; exact hJ))
 refine At.nrm ?_
 refine At.zl (.q 0 (.q 1 .done)) ?_
 refine AtT.zh ?_
 refine AtT.zg ?_
 refine AtT.done ?_
 refine At.nrm ?_
 refine At.nrm ?_
 refine At.zl (.q 0 .done) ?_
 refine AtT.zg ?_
 refine AtT.done ?_
 refine At.nrm ?_
 have f1 := td6_fit k (by omega)
 have f2 := td6_fit (k / 6) (by omega)
 have f3 := td6_fit (k / 6 / 6) (by omega)
 have hpc := pcN_div k
 refine At.nrm ?_
 refine At.jo (ι := Nat) (fun g => [(0, .func (.yield l) #[] #[]), (1, .pointer (some q)), (6, iv k), (5, .pointer (some ⟨g, 0, none⟩))]) (fun g => [.blk g (LC (pce (pcN k)) 26)]) (fun _ V'' => V = V'') ?_ ?_
 ·rw [hpc]
  refine At.draw (.q 0 (.q 1 (.q 2 (.q 3 (.q 4 (.q 5 (.q 6 (.q 7 (.q 8 (.q 9 (.q 10 (.q 11 (.q 12 (.q 13 (.q 14 (.q 15 (.q 16 (.q 17 (.q 18 (.q 19 (.q 20 (.q 21 (.q 22 (.q 23 (.q 24 (.n false 25 (.n true 26 .done))))))))))))))))))))))))))) ffm (by kernel_rfl) ?_
  refine AtT.zh ?_
  refine AtT.zh ?_
  refine AtT.kquo ?_
  rw [td6]
  refine AtT.zh ?_
  refine AtT.kquo ?_
  rw [td6]
  refine AtT.zh ?_
  refine AtT.kquo ?_
  rw [td6]
  refine AtT.zh ?_
  refine AtT.zh ?_
  refine AtT.kquo ?_
  rw [td6]
  refine AtT.zh ?_
  refine AtT.kquo ?_
  rw [td6]
  refine AtT.zh ?_
  refine AtT.krem ?_
  rw [tm6]
  refine AtT.zh ?_
  refine AtT.zh ?_
  refine AtT.kquo ?_
  rw [td6]
  refine AtT.zh ?_
  refine AtT.krem ?_
  rw [tm6]
  first | refine AtT.qj ?_ | refine AtT.zU ?_
  refine AtT.zh ?_
  refine AtT.zh ?_
  refine AtT.krem ?_
  rw [tm6]
  first | refine AtT.qj ?_ | refine AtT.zU ?_
  refine AtT.ja (bd26_0_1_2_3 _ _ _ _) ?_
  refine AtT.qx z26 ?_
  intro b5
  refine AtT.zW zS ?_
  refine AtT.done ?_
  refine At.nrm ?_
  all_goals (exact At.qC b5 rfl ⟨rfl, rfl, rfl, rfl, trivial⟩ Pt.zM)
 rintro b5 _ ks' O' rfl hk hO hl6
 subst hk hO
 refine At.nrm ?_
 by_cases hpe : peE (gdS s) (pcN k) = 0
 ·have hys := ysP_at (g := gdS s) (n := k) (by omega) hpe
  rw [if_pos hpe] at hsn
  have hlen : (lyN (gdS s) (k + 1)).length = (lyN (gdS s) k).length + 1 := by rw [hsn, List.length_append]; rfl
  refine At.zl (.q 0 (.q 1 (.n false 2 (.q 3 (.q 4 (.q 5 (.q 6 (.n true 7 (.q 8 (.q 9 .done)))))))))) ?_
  first | refine AtT.zm tk80 ?_ | refine AtT.zo tk80 ?_
  first | refine AtT.zD zS ?_ | refine AtT.zK zS ?_ | refine AtT.zC zS ?_
  refine AtT.zq rfl rfl ok58 (lies_f s hok _ _ b hb) ?_
  rintro _ rfl
  refine AtT.keqI ?_
  refine AtT.qJ (d := 37) rfl (hpe) ?_
  refine AtT.zh ?_
  all_goals (first | refine AtT.kL 38 ?_ | refine AtT.zB (d := 38) rfl (fun hg38 => ?_) (fun hg38 => ?_) | refine AtT.zA (d := 38) rfl (fun hg38 => ?_) (fun hg38 => ?_))
  all_goals first|refine AtT.zf ?_|refine AtT.ze ?_|(refine AtT.zh ?_)
  all_goals first|refine AtT.zf ?_|refine AtT.ze ?_|(first | refine AtT.zD zS ?_ | refine AtT.zK zS ?_ | refine AtT.zC zS ?_)
  all_goals (first | refine AtT.zO ?_ | refine AtT.zI ?_ | ((refine AtT.yield rfl ⟨_, _, rfl, rfl, rfl⟩ rfl rfl H (hys) (hJ) (by decide) ?_ ?_)) <;> (intro w41 hJ41))
  all_goals first|refine AtT.zf ?_|refine AtT.ze ?_|(refine AtT.qW ?_)
  all_goals (refine AtT.zz ?_)
  all_goals refine AtT.done ?_
  all_goals (refine At.nrm ?_)
  rotate_left
  ·refine At.qA rfl rfl ?_
   refine At.nrm ?_
   exact At.itEnd H (.inr rfl) rfl (.inr hJ41)
  refine At.qX rfl rfl ?_
  refine At.nrm ?_
  refine At.zl (.q 0 (.q 1 .done)) ?_
  first | refine AtT.qj ?_ | refine AtT.zU ?_
  refine AtT.zh ?_
  refine AtT.done ?_
  refine At.nrm ?_
  refine At.roundY H (k + 1) ?_ (by omega) ?_ (by dsimp only; rw [hlen]; exact hJ41)
  ·show 1296 - (k + 1) < 1296 - k; omega
  ·exact ⟨rfl, rfl, ivs (by push_cast; omega), trivial⟩
 ·rw [if_neg hpe] at hsn
  refine At.zl (.q 0 (.q 1 (.n false 2 (.q 3 (.q 4 (.q 5 (.q 6 (.n false 7 (.q 8 (.q 9 .done)))))))))) ?_
  first | refine AtT.zm tk80 ?_ | refine AtT.zo tk80 ?_
  first | refine AtT.zD zS ?_ | refine AtT.zK zS ?_ | refine AtT.zC zS ?_
  refine AtT.zq rfl rfl ok58 (lies_f s hok _ _ b hb) ?_
  rintro _ rfl
  refine AtT.keqI ?_
  refine AtT.qm (d := 37) rfl (hpe) ?_
  refine AtT.zh ?_
  all_goals (first | refine AtT.kL 38 ?_ | refine AtT.zB (d := 38) rfl (fun hg38 => ?_) (fun hg38 => ?_) | refine AtT.zA (d := 38) rfl (fun hg38 => ?_) (fun hg38 => ?_))
  all_goals first|refine AtT.zf ?_|refine AtT.ze ?_|(refine AtT.zh ?_)
  all_goals first|refine AtT.zf ?_|refine AtT.ze ?_|(first | refine AtT.zD zS ?_ | refine AtT.zK zS ?_ | refine AtT.zC zS ?_)
  all_goals first|refine AtT.zO ?_|refine AtT.zI ?_|((fail))
  all_goals first|refine AtT.zf ?_|refine AtT.ze ?_|(refine AtT.qW ?_)
  all_goals (refine AtT.zz ?_)
  all_goals refine AtT.done ?_
  all_goals (refine At.nrm ?_)
  refine At.qX rfl rfl ?_
  refine At.nrm ?_
  refine At.zl (.q 0 (.q 1 .done)) ?_
  first | refine AtT.qj ?_ | refine AtT.zU ?_
  refine AtT.zh ?_
  refine AtT.done ?_
  refine At.nrm ?_
  refine At.roundY H (k + 1) ?_ (by omega) ?_ (by dsimp only; rw [hsn]; exact hJ)
  ·show 1296 - (k + 1) < 1296 - k; omega
  ·exact ⟨rfl, rfl, ivs (by push_cast; omega), trivial⟩
theorem appendSeq_f (L : List Pc) (hL : L.length ≤ 2000) (f : FuncId) (caps : List Value) (hok : zL Tryz.prog f) (V : View) (hit : It Tryz.prog f caps V (L.map fun p => [pcv p])) : Fnc Tryz.prog 103 [.slice none 0 0, .func (.func f) #[] caps.toArray] V fun r V' => Sl V' pce 4 r L := by
 refine fn_ofM Tryz.func103 rfl Tryz.ntmps103 (Nat.le_of_ble_eq_true rfl) ?_
 intro w0 hw0
 refine At.nrm ?_
 refine At.zl (.n false 0 (.q 1 .done)) ?_
 refine AtT.qZ ?_
 intro b2
 refine AtT.zg ?_
 refine AtT.done ?_
 refine At.nrm ?_
 refine At.zl (.q 0 .done) ?_
 refine AtT.zh ?_
 refine AtT.done ?_
 refine At.nrm ?_
 refine At.newRow 26 4 ?_
 refine At.rangeFunc (Vi := V) (ys := L.map fun p => [pcv p]) (ι := Nat × Option Addr × Nat) (fun g => g.1)
  (fun g => [.blk b2 (LC [.slice g.2.1 (L.take g.1).length g.2.2] 27), .row (.slice g.2.1 (L.take g.1).length g.2.2) 26 4 (L.take g.1).length (flat pce (L.take g.1))])
  (fun g V' => Le V V') (fun _ _ _ => False) rfl hok (0, none, 0) rfl ?_ (Le.refl _) hit (fun _ _ h => h) (by decide) (fun y hy => by obtain ⟨k, _, rfl⟩ := List.mem_map.1 hy; rfl) rfl ?_ ?_ (fun _ _ _ _ h => h.elim)
 ·exact Pt.zM
 ·rintro ⟨k, ao, co⟩ y l D r V' ks' O' hy hVV hl rfl rfl
  dsimp only at hy ⊢
  have hk : k < L.length := by
   have := (List.getElem?_eq_some_iff.1 hy).1
   rwa [List.length_map] at this
  obtain ⟨p, hpk⟩ : ∃ p, L[k]? = some p := ⟨_, List.getElem?_eq_getElem hk⟩
  rw [List.getElem?_map, hpk] at hy
  obtain rfl := (Option.some.inj hy).symm
  have htk := take_snoc' hpk
  have htl : (L.take k).length = k := by rw [List.length_take]; omega
  show At _ _ ((7, pcv p) :: _) _ _ _
  refine At.nrm ?_
  refine At.zl (.n false 0 (.n true 1 .done)) ?_
  refine AtT.qx z26 ?_
  intro b5
  refine AtT.zW zS ?_
  refine AtT.done ?_
  refine At.nrm ?_
  refine At.begin zX.zM ?_
  refine At.nrm ?_
  refine At.zl (.q 0 (.q 1 (.n false 2 (.n true 3 (.n true 4 .done))))) ?_
  first | refine AtT.zm tk27 ?_ | refine AtT.zo tk27 ?_
  first | refine AtT.zD zS ?_ | refine AtT.zK zS ?_ | refine AtT.zC zS ?_
  refine AtT.zu (bs27_1_0 _ _ _ _) ?_
  intro q10 V10 hV10 hq10
  have g10 : Le V V10 := by first | exact hV10 | exact Le.trans (by assumption) hV10
  first | refine AtT.kappend Tryz.underlying27 rw26 ?_
  intro a11 c11
  first | refine AtT.jd tk27 ?_ | refine AtT.zW tk27 ?_
  refine AtT.done ?_
  refine At.nrm ?_
  refine At.roundN (k + 1, a11, c11) rfl (by first | assumption | exact Le.trans (by assumption) (by assumption)) zX.zM ?_
  dsimp only
  rw [htk, jg, show (L.take k ++ [p]).length = (L.take k).length + 1 from by rw [List.length_append]; rfl]
  ·exact Pt.zM
 rintro ⟨k, ao, co⟩ D V3 O' hk hVV hl rfl
 dsimp only at hk ⊢
 rw [List.length_map] at hk
 subst hk
 rw [List.take_length]
 refine At.sub (ks' := [(2, .pointer (some ⟨b2, 0, none⟩))]) ⟨rfl, trivial⟩ ?_
 refine At.nrm ?_
 refine At.zl (.q 0 (.q 1 .done)) ?_
 first | refine AtT.zm tk27 ?_ | refine AtT.zo tk27 ?_
 refine AtT.zg ?_
 refine AtT.done ?_
 refine At.nrm ?_
 refine At.unmark (.inl rfl) rfl zX.zM ?_
 refine At.giveSl (l := L) pce_len rfl rfl zX.zM (fun V4 hV4 hs4 => ?_)
 exact At.qb rfl (.tmp rfl) hs4
theorem collect_f (L : List Pc) (hL : L.length ≤ 2000) (f : FuncId) (caps : List Value) (hok : zL Tryz.prog f) (V : View) (hit : It Tryz.prog f caps V (L.map fun p => [pcv p])) : Fnc Tryz.prog 73 [.func (.func f) #[] caps.toArray] V fun r V' => Sl V' pce 4 r L := by
 refine qh Tryz.func73 rfl Tryz.ntmps73 (Nat.le_of_ble_eq_true rfl) ?_
 intro w0 hw0
 refine At.nrm ?_
 refine At.zl (.q 0 .done) ?_
 refine AtT.zg ?_
 refine AtT.done ?_
 refine At.nrm ?_
 refine At.zl (.q 0 (.n false 1 (.q 2 .done))) ?_
 refine AtT.zh ?_
 refine AtT.qg rfl rfl ok103 (appendSeq_f L hL f caps hok _ hit) ?_
 rintro v4 V4 hV4 hs4
 refine AtT.zg ?_
 refine AtT.done ?_
 refine At.nrm ?_
 exact At.qb rfl (.tmp rfl) hs4
theorem greater_f (x y : Pc) (hx : 0 ≤ x.h ∧ x.h ≤ 6 ∧ 0 ≤ x.w ∧ x.w ≤ 6) (hy : 0 ≤ y.h ∧ y.h ≤ 6 ∧ 0 ≤ y.w ∧ y.w ≤ 6) (V : View) : Fnc Tryz.prog 76 ([] ++ [pcv x, pcv y] ++ []) V fun r _ => r = .bool (gtA x y) := by
 have a1 : 0 ≤ x.h * x.w := Int.mul_nonneg hx.1 hx.2.2.1
 have a2 : x.h * x.w ≤ 6 * 6 := Int.mul_le_mul hx.2.1 hx.2.2.2 hx.2.2.1 (by decide)
 have a3 : 0 ≤ y.h * y.w := Int.mul_nonneg hy.1 hy.2.2.1
 have a4 : y.h * y.w ≤ 6 * 6 := Int.mul_le_mul hy.2.1 hy.2.2.2 hy.2.2.1 (by decide)
 have f1 : Fit (x.h * x.w) := Fit.of (by omega) (by omega)
 have f2 : Fit (y.h * y.w) := Fit.of (by omega) (by omega)
 refine qh Tryz.func76 rfl Tryz.ntmps76 (Nat.le_of_ble_eq_true rfl) ?_
 intro w0 hw0
 refine At.nrm ?_
 refine At.zl (.n false 0 (.n false 1 (.q 2 .done))) ?_
 refine AtT.qZ ?_
 intro b2
 refine AtT.qZ ?_
 intro b3
 refine AtT.zg ?_
 refine AtT.done ?_
 refine At.nrm ?_
 refine At.zl (.q 0 (.q 1 (.q 2 (.q 3 (.q 4 (.q 5 (.q 6 (.q 7 (.q 8 (.q 9 (.q 10 (.q 11 .done)))))))))))) ?_
 first | refine AtT.zi zy ?_ | with_reducible refine AtT.zk zy ?_ | refine AtT.zn zy ?_
 first | refine AtT.zm tk3 ?_ | refine AtT.zo tk3 ?_
 first | refine AtT.zi zx ?_ | with_reducible refine AtT.zk zx ?_ | refine AtT.zn zx ?_
 first | refine AtT.zm tk3 ?_ | refine AtT.zo tk3 ?_
 first | refine AtT.kmul ?_ | refine AtT.kmulW ?_
 first | refine AtT.zi zy ?_ | with_reducible refine AtT.zk zy ?_ | refine AtT.zn zy ?_
 first | refine AtT.zm tk3 ?_ | refine AtT.zo tk3 ?_
 first | refine AtT.zi zx ?_ | with_reducible refine AtT.zk zx ?_ | refine AtT.zn zx ?_
 first | refine AtT.zm tk3 ?_ | refine AtT.zo tk3 ?_
 first | refine AtT.kmul ?_ | refine AtT.kmulW ?_
 refine AtT.qw ?_
 refine AtT.zg ?_
 refine AtT.done ?_
 refine At.nrm ?_
 exact At.qb rfl (.tmp rfl) rfl
theorem lies_6 {s : Sh} (hok : ShOk s) {p : Pc} (h : Lies (gdS s) p) : 0 ≤ p.h ∧ p.h ≤ 6 ∧ 0 ≤ p.w ∧ p.w ≤ 6 := by
 have h1 := h.h
 have h2 := h.w
 have hn := hok.n
 have hw := hok.w
 have hR : (gdS s).R = (s.rows.length : Int) := rfl
 have hC : (gdS s).C = (wdS s : Int) := rfl
 omega
theorem lyN_len (g : Gd) : ∀ n, (lyN g n).length ≤ n
 | 0 => by simp [lyN]
 | n + 1 => by
  have := lyN_len g n
  rw [lyN_snoc]
  split
  ·rw [List.length_append, List.length_singleton]; omega
  ·omega
theorem largest_f (s : Sh) (V : View) (v : Value) (hv : ShV V v s) : Fnc Tryz.prog 36 [v] V fun r _ => r = .tuple #[pcv (laR s).1, iv (laR s).2] := by
 obtain ⟨a, c, rfl, hs⟩ := id hv
 refine qh Tryz.func36 rfl Tryz.ntmps36 (Nat.le_of_ble_eq_true rfl) ?_
 intro w0 hw0
 refine At.nrm ?_
 refine At.zl (.n false 0 (.n false 1 (.q 2 .done))) ?_
 refine AtT.qZ ?_
 intro b1
 refine AtT.qx z26 ?_
 intro b2
 refine AtT.zg ?_
 refine AtT.done ?_
 refine At.nrm ?_
 by_cases h0 : chE s = 0
 rotate_left
 ·refine At.zl (.q 0 (.n false 1 (.q 2 (.q 3 (.q 4 (.q 5 (.q 6 .done))))))) ?_
  first | refine AtT.zD zP ?_ | refine AtT.zK zP ?_ | refine AtT.zC zP ?_
  refine AtT.qg rfl rfl ok57 (open_bad s h0 _ _ hv) ?_
  rintro v9 V9 hV9 rfl
  refine AtT.zh ?_
  refine AtT.zN ?_
  refine AtT.zN ?_
  refine AtT.zg ?_
  refine AtT.zg ?_
  refine AtT.done ?_
  refine At.nrm ?_
  refine At.nrm ?_
  refine At.zl (.q 0 (.q 1 .done)) ?_
  refine AtT.zh ?_
  refine AtT.qG ?_
  refine AtT.done ?_
  refine At.nrm ?_
  refine At.qA rfl (decide_eq_true h0) ?_
  refine At.nrm ?_
  refine At.zl (.q 0 (.q 1 (.n true 2 (.q 3 .done)))) ?_
  refine AtT.ja (bd26) ?_
  refine AtT.zh ?_
  refine AtT.zW zS ?_
  refine AtT.zg ?_
  refine AtT.done ?_
  refine At.nrm ?_
  exact At.je rfl (.agg rfl zS zX.zM rfl) (.tmp rfl) (by unfold laR; rw [if_pos h0]; rfl)
 have hok := jq h0
 have e0 : ¬ chE s ≠ 0 := by simpa using h0
 refine At.zl (.q 0 (.n false 1 (.q 2 (.q 3 (.q 4 (.q 5 (.q 6 .done))))))) ?_
 first | refine AtT.zD zP ?_ | refine AtT.zK zP ?_ | refine AtT.zC zP ?_
 refine AtT.qg rfl rfl ok57 (open_ok s h0 _ _ hv) ?_
 rintro v9 V9 hV9 ⟨b, rfl, hb⟩
 refine AtT.zh ?_
 refine AtT.zN ?_
 refine AtT.zN ?_
 refine AtT.zg ?_
 refine AtT.zg ?_
 refine AtT.done ?_
 refine At.nrm ?_
 refine At.nrm ?_
 refine At.zl (.q 0 (.q 1 .done)) ?_
 refine AtT.zh ?_
 refine AtT.qG ?_
 refine AtT.done ?_
 refine At.nrm ?_
 refine At.qX rfl rfl ?_
 refine At.nrm ?_
 refine At.zl (.q 0 (.n false 1 (.n false 2 (.q 3 .done)))) ?_
 refine AtT.zh ?_
 refine AtT.qg rfl rfl ok74 (pieces_f _ b) ?_
 rintro _ V17 hV17 ⟨q, rfl, hq⟩
 refine AtT.qg rfl rfl ok73 (collect_f (lyN (gdS s) 1296) (by have := lyN_len (gdS s) 1296; omega) 104 [.pointer (some q)] ok104 _ (iterP_f s hok _ b q hq (hb.le hV17))) ?_
 rintro v18 V18 hV18 hs18
 refine AtT.zg ?_
 refine AtT.done ?_
 refine At.nrm ?_
 obtain ⟨a18, c18, rfl, q1, q2, _⟩ := id hs18
 clear q1 q2
 refine At.nrm ?_
 refine At.zl (.q 0 (.q 1 (.q 2 .done))) ?_
 refine AtT.zh ?_
 first | refine AtT.zZ Tryz.underlying27 ?_ | refine AtT.qa Tryz.underlying27 ?_
 refine AtT.keqI ?_
 refine AtT.done ?_
 refine At.nrm ?_
 refine At.qc rfl (fun hz => ?_) (fun hz => ?_)
 ·have hnil : lyN (gdS s) 1296 = [] := List.eq_nil_of_length_eq_zero (by omega)
  refine At.nrm ?_
  refine At.zl (.q 0 (.n true 1 (.q 2 .done))) ?_
  refine AtT.ja (bd26) ?_
  refine AtT.zW zS ?_
  refine AtT.zg ?_
  refine AtT.done ?_
  refine At.nrm ?_
  exact At.je rfl (.agg rfl zS zX.zM rfl) (.tmp rfl) (by unfold laR; rw [if_neg e0, if_pos hnil]; rfl)
 cases hl : lyN (gdS s) 1296 with
 | nil => rw [hl] at hz; exact absurd rfl hz
 | cons x t =>
  have hla := laO_cons hl
  have hmem : ∀ p ∈ x :: t, 0 ≤ p.h ∧ p.h ≤ 6 ∧ 0 ≤ p.w ∧ p.w ≤ 6 := fun p hp => lies_6 hok (lyN_mem.1 (by rw [hl]; exact hp)).1
  rw [hl] at hs18
  refine At.nrm ?_
  refine At.zl (.q 0 (.n false 1 (.n true 2 (.q 3 .done)))) ?_
  refine AtT.zh ?_
  refine AtT.zq rfl rfl ok75 (best_p 76 [] gtA _ _ x t hs18 ok76 (fun p p' hp hp' => greater_f p p' (hmem p hp) (hmem p' hp') _)) ?_
  rintro _ rfl
  refine AtT.zW zS ?_
  refine AtT.zg ?_
  refine AtT.done ?_
  refine At.nrm ?_
  exact At.je rfl (.agg rfl zS zX.zM rfl) (.tmp rfl) (by unfold laR; rw [if_neg e0, if_neg (by rw [hl]; simp), hla])
end Go.Proofs.YtghomjjffllkeaaGreatDoor
namespace Go.Lw
def FncM (P : Program) (cx : Cx) (f : FuncId) (args : List Value) (O : List Own) (V : View) (R : Value → List Own → View → Prop) : Prop :=
 ∀ w, Mem cx O V w → Calls P f args.toArray w fun e w' => ∃ v O' V', e = .returned v ∧ Mem cx O' V' w' ∧ R v O' V'
theorem Mem.ds {cx : Cx} {O : List Own} {V : View} {w : World} (h : Mem cx O V w) (ds : List Deferred) : Mem { cx with ds := ds } O V w := ⟨h.below, h.le0, h.fresh, h.view, h.own⟩
theorem Mem.ds' {cx : Cx} {O : List Own} {V : View} {w : World} {ds : List Deferred} (h : Mem { cx with ds := ds } O V w) : Mem cx O V w := ⟨h.below, h.le0, h.fresh, h.view, h.own⟩
abbrev PostM (cx : Cx) (R : Value → List Own → View → Prop) : Ending → World → Prop := fun e w' => ∃ v O' V', e = .returned v ∧ Mem cx O' V' w' ∧ R v O' V'
theorem fncM_of {P : Program} {cx : Cx} {f : FuncId} {fn : Func} {c : Code} {args : List Value} {O : List Own} {V : View} {R : Value → List Own → View → Prop} {n : Nat} (hf : P.funcs[f]? = some fn) (hb : fn.body = some c) (hn : fn.ntmps = n) (hl : args.length ≤ n)
  (h : At { cx with ds := [] } n (frame args 0) O V (c.wpIn (FW none) 0 P (bodyPost P fn (PostM cx R)))) : FncM P cx f args O V R := fun w hm => by
 refine (calls_FW (ro := none) (n := 0)).1 (callsIn_of_wp hf hb trivial (h _ w ⟨rfl, ?_, fun i v hi => ?_⟩ (hm.ds [])) rfl)
 ·simp [hn]; omega
 ·have := (frame_known args 0 i v hi).2
  simp only [Nat.sub_zero] at this
  have hlt := (List.getElem?_eq_some_iff.1 this).1
  rw [Array.getElem?_append_left (by simpa using hlt)]
  simpa using this
section
variable {cx : Cx} {n : Nat} {ks : List (Nat × Value)} {O O' R : List Own} {V : View} {P : Program} {fn : Func}
theorem At.retM1 {R : Value → List Own → View → Prop} {r : ResultVar} {v : Value} (hr : fn.results = #[r]) (h1 : Res P ks O V r v) (h : R v O V) : At { cx with ds := [] } n ks O V (bodyPost P fn (PostM cx R) .ret) := fun a w hk hm =>
 ⟨hk.defers, v, by
  rcases h1.spec hk hm with ⟨t, rfl, e⟩ | ⟨p, T, q, rfl, e, l⟩ <;> simp [results, hr, asAddr, *], _, O, V, rfl, hm.ds', h⟩
end
section
variable {cx : Cx} {n : Nat} {ks : List (Nat × Value)} {O O' : List Own} {V : View} {P : Program} {ops : Array Oper} {Qn : Act → World → Prop} {t : Tr} {i d : Nat} {T : TypeId} {pos : String} {after : Array Edge} {gd : Option (Nat × Bool)}
theorem AtT.callM {f : FuncId} {args : List Operand} {ts : Array TypeId} {vs : List Value} {R : Value → List Own → View → Prop} (ho : ops[i]? = some ⟨some d, .call ⟨.value (.func f), args.toArray, ts⟩, T, pos, after, gd⟩) (hg : Gd ks ops gd) (ha : evs ks args = some vs) (hf : zL P f) (hn : d < n)
  (hp : O.Perm O') (hc : FncM P cx f vs O' V R) (next : ∀ v O2 V2, R v O2 V2 → AtT cx n ((d, v) :: ks) O2 V2 P ops Qn t) : AtT cx n ks O V P ops Qn (.n true i t) :=
 .x ho hg fun a w hk hm => by
  have e : args.toArray.map a.eval = vs.toArray := by rw [← evs_map hk args vs ha]; simp
  have e2 : a.eval (.func f) = .func (.func f) #[] #[] := rfl
  simp only [opW, execOp, resolve, e, e2, Deferred.ofValue, Sem.run_bind, Sem.run_pure, Result.andThen_ok, invoke, Array.empty_append, Array.append_empty]
  rw [hf vs.toArray w]
  refine (hc w (hm.perm hp)).mono fun e w' ⟨v, O2, V2, h1, h2, h3⟩ => ?_
  subst h1
  exact ⟨_, O2, V2, hk.put hn v, h2, fun h => (by cases h), next v O2 V2 h3⟩
end
end Go.Lw
set_option linter.unusedVariables false
namespace Go.Proofs.YtghomjjffllkeaaGreatDoor
open Go.Lw Go.Gl Go.Pm Go.RowKit Go.Shelf
abbrev bye (u : UInt8) : List Value := [.int .u8 (u.toNat : Int)]
theorem bye_len (u : UInt8) : (bye u).length = 1 := rfl
theorem copyCheck_f {cx : Cx} {O : List Own} {V : View} (b : Nat) (buf : Value) (p : Option Addr) (hp : p = none ∨ p = some ⟨b, 0, none⟩) : FncM Tryz.prog cx 129 [.pointer (some ⟨b, 0, none⟩)] (.blk b (LC [.pointer p, buf] 145) :: O) V fun v O' V' => v = .tuple #[] ∧ O' = .blk b (LC [.pointer (some ⟨b, 0, none⟩), buf] 145) :: O ∧ V' = V := fun w hm => by
 have hb := hm.blk
 have hlt : b < w.heap.size := (Array.getElem?_eq_some_iff.1 hb).1
 rcases hp with rfl | rfl
 ·refine (Any.Builder_copyCheck_fresh { lay_join with } str_ext.toX72 b w (by simp [World.cell?, hb, LC]) (by simp [World.shape?, hb, LC]; rfl) (by simp [World.frozen?, hb, LC])).mono fun e w' ⟨h1, h2⟩ => ?_
  subst h2
  refine ⟨_, _, V, h1, hm.set (o' := LC [.pointer (some ⟨b, 0, none⟩), buf] 145) ⟨rfl, rfl, rfl, by simp [World.setCell], fun k _ hk => Below.heap_setCell _ _ _ _ (fun e => hk (by simp [e]))⟩ ?_, rfl, rfl, rfl⟩
  simp [World.setCell, Array.getElem?_modify, hb, LC]
 ·exact (Any.Builder_copyCheck_used { lay_join with } str_ext.toX72 b w (by simp [World.cell?, hb, LC])).mono fun e w' ⟨h1, h2⟩ => ⟨_, _, V, h1, h2 ▸ hm, rfl, rfl, rfl⟩
theorem writeByte_f {cx : Cx} {O : List Own} {V : View} (b : Nat) (p : Option Addr) (hp : p = none ∨ p = some ⟨b, 0, none⟩) (ao : Option Addr) (co : Nat) (l : List UInt8) (hl : l.length ≤ 100) (u : UInt8) :
  FncM Tryz.prog cx 106 [.pointer (some ⟨b, 0, none⟩), .int .u8 (u.toNat : Int)] (.blk b (LC [.pointer p, .slice ao l.length co] 145) :: .row (.slice ao l.length co) 5 1 l.length (flat bye l) :: O) V fun v O' V' =>
   v = .nilIface ∧ Le V V' ∧ ∃ a' c', O' = .row (.slice a' (l ++ [u]).length c') 5 1 (l ++ [u]).length (flat bye (l ++ [u])) :: .blk b (LC [.pointer (some ⟨b, 0, none⟩), .slice a' (l ++ [u]).length c'] 145) :: O := by
 have hlu : (l ++ [u]).length = l.length + 1 := by rw [List.length_append]; rfl
 refine fncM_of Tryz.func106 rfl Tryz.ntmps106 (Nat.le_of_ble_eq_true rfl) ?_
 refine At.nrm ?_
 refine At.zl (.q 0 .done) ?_
 refine AtT.zg ?_
 refine AtT.done ?_
 refine At.nrm ?_
 refine At.zl (.q 0 (.n true 1 .done)) ?_
 refine AtT.zh ?_
 refine AtT.callM rfl trivial rfl ok129 (by decide) (List.Perm.refl _) (copyCheck_f b _ p hp) ?_
 rintro _ _ _ ⟨rfl, rfl, rfl⟩
 refine AtT.done ?_
 refine At.nrm ?_
 refine At.zl (.q 0 (.q 1 (.q 2 (.q 3 (.q 4 (.q 5 (.n false 6 (.n true 7 (.q 8 (.q 9 (.n true 10 .done))))))))))) ?_
 refine AtT.zh ?_
 refine AtT.zh ?_
 refine AtT.knil ?_
 first | refine AtT.zi jh ?_ | with_reducible refine AtT.zk jh ?_ | refine AtT.zn jh ?_
 first | refine AtT.zm tk56 ?_ | refine AtT.zo tk56 ?_
 refine AtT.zh ?_
 refine AtT.zu (bs56_1_0 _) ?_
 intro q13 V13 hV13 hq13
 first | refine AtT.kappend Tryz.underlying56 rw5 ?_
 intro a14 c14
 refine AtT.knil ?_
 first | refine AtT.zi jh ?_ | with_reducible refine AtT.zk jh ?_ | refine AtT.zn jh ?_
 first | refine AtT.jd tk56 ?_ | refine AtT.zW tk56 ?_
 refine AtT.done ?_
 refine At.nrm ?_
 refine At.zl (.q 0 .done) ?_
 refine AtT.zg ?_
 refine AtT.done ?_
 refine At.nrm ?_
 exact At.retM1 rfl (.tmp rfl) ⟨rfl, by first | assumption | exact Le.trans (by assumption) (by assumption), a14, c14, by rw [hlu, jg]; rfl⟩
end Go.Proofs.YtghomjjffllkeaaGreatDoor
set_option linter.unusedVariables false
namespace Go.Proofs.YtghomjjffllkeaaGreatDoor
open Go.Lw Go.Gl Go.Pm Go.RowKit Go.Shelf
section
variable {cx : Cx} {n : Nat} {ks : List (Nat × Value)} {O R : List Own} {V : View} {ops : Array Oper} {Qn : Act → World → Prop} {t : Tr} {i d : Nat} {T : TypeId} {pos : String} {after : Array Edge} {gd : Option (Nat × Bool)} {x y : Operand} {wr : Bool}
theorem AtT.unsafeSD {X : TypeId} {a0 : Addr} {m c : Nat} (ho : ops[i]? = some ⟨some d, .call ⟨.builtin .unsafeSliceData, #[x], #[X]⟩, T, pos, after, gd⟩) (hg : Gd ks ops gd) (hx : ev ks x = some (.slice (some a0) m c)) (hc : c ≠ 0) (hn : d < n)
  (next : AtT cx n ((d, .pointer (some a0)) :: ks) O V Tryz.prog ops Qn t) : AtT cx n ks O V Tryz.prog ops Qn (.n wr i t) :=
 .x ho hg fun a w hk hm => by
  have e0 : (#[x] : Array Operand).map a.eval = #[.slice (some a0) m c] := by simp [hk.ev hx]
  have hr := Lib.run_unsafeSliceData_row (P := Tryz.prog) (w := w) #[X] T a0 m c hc
  simp only [opW, execOp, resolve, e0, Sem.run_bind, Sem.run_pure, Result.andThen_ok, invoke, builtin, hr]
  exact ⟨_, O, V, hk.put hn _, hm, fun _ u hu => hu, next⟩
theorem AtT.unsafeStr {g : Nat} {l : List UInt8} {rest : List Value} (ho : ops[i]? = some ⟨some d, .call ⟨.builtin .unsafeString, #[x, y], #[173, 3]⟩, T, pos, after, gd⟩) (hg : Gd ks ops gd) (hx : ev ks x = some (.pointer (some ⟨g, 0, none⟩))) (hy : ev ks y = some (.int .i64 l.length)) (h0 : l ≠ []) (h63 : l.length ≤ 9223372036854775807) (hp : zX (.blk g (LC (flat bye l ++ rest) 5)) O R) (hn : d < n)
  (next : AtT cx n ((d, .string ⟨l.toArray⟩) :: ks) R V Tryz.prog ops Qn t) : AtT cx n ks O V Tryz.prog ops Qn (.n true i t) :=
 .x ho hg fun a w hk hm => by
  have hm1 := hm.pick hp
  have hb := hm1.blk
  have hfl : (flat bye l).length = l.length := by rw [qV bye_len, Nat.mul_one]
  have e0 : (#[x, y] : Array Operand).map a.eval = #[.pointer (some ⟨g, 0, none⟩), .int .i64 l.length] := by simp [hk.ev hx, hk.ev hy]
  have hr := Lib.run_unsafeString_row (P := Tryz.prog) (w := w) 173 3 T 5 Tryz.underlying173 (by kernel_rfl) g (flat bye l ++ rest).length (by simp [World.shape?, hb, LC]) l h0 (by rw [List.length_append, hfl]; omega) h63 (fun j u hj => by
   rw [Addr.add_lit, cell_blk hb, Nat.zero_add, List.getElem?_append_left (by rw [hfl]; exact (List.getElem?_eq_some_iff.1 hj).1)]
   have := flat_at bye_len l j u hj 0 _ rfl
   simpa using this)
  simp only [opW, execOp, resolve, e0, Sem.run_bind, Sem.run_pure, Result.andThen_ok, invoke, builtin, hr]
  have hlen : l.length ≠ 0 := by simpa using h0
  refine ⟨_, R, V, hk.put hn _, (hm1.set (w' := w.freeze ⟨g, 0, none⟩ l.length) (o' := .cells (flat bye l ++ rest).toArray 5 (0, 0 + l.length)) ⟨?_, ?_, ?_, ?_, fun k _ hne => ?_⟩ ?_).drop, fun h => (by cases h), next⟩
  ·unfold World.freeze; rw [if_neg hlen]
  ·unfold World.freeze; rw [if_neg hlen]
  ·unfold World.freeze; rw [if_neg hlen]
  ·unfold World.freeze; rw [if_neg hlen]; simp
  ·unfold World.freeze; rw [if_neg hlen]
   simp only [Array.getElem?_modify]
   rw [if_neg (fun e => hne (by rw [e]))]
  ·unfold World.freeze; rw [if_neg hlen]
   simp only [Array.getElem?_modify, hb]
   simp [LC]
end
theorem bstring_f {cx : Cx} {O : List Own} {V : View} (b : Nat) (p : Option Addr) (ao : Option Addr) (co : Nat) (l : List UInt8) (h0 : l ≠ []) (hl : l.length ≤ 100) :
  FncM Tryz.prog cx 107 [.pointer (some ⟨b, 0, none⟩)] (.row (.slice ao l.length co) 5 1 l.length (flat bye l) :: .blk b (LC [.pointer p, .slice ao l.length co] 145) :: O) V fun v O' V' =>
   v = .string ⟨l.toArray⟩ ∧ V' = V ∧ O' = .blk b (LC [.pointer p, .slice ao l.length co] 145) :: O := by
 have hpos : l.length ≠ 0 := by simpa using h0
 refine fncM_of Tryz.func107 rfl Tryz.ntmps107 (Nat.le_of_ble_eq_true rfl) ?_
 refine At.nrm ?_
 refine At.zl (.q 0 .done) ?_
 refine AtT.zg ?_
 refine AtT.done ?_
 refine At.nrm ?_
 refine At.rowSplit (v := .slice ao l.length co) zX.zM (fun _ h _ => absurd h hpos) (fun g cap rest hv hc1 hc2 hc3 => ?_)
 cases hv
 refine At.nrm ?_
 refine At.draw (.q 0 (.q 1 (.q 2 (.q 3 (.q 5 (.q 6 (.q 7 (.q 8 (.q 9 (.n false 4 (.n true 10 (.q 11 .done)))))))))))) ffm (by kernel_rfl) ?_
 refine AtT.zh ?_
 refine AtT.knil ?_
 first | refine AtT.zi jh ?_ | with_reducible refine AtT.zk jh ?_ | refine AtT.zn jh ?_
 first | refine AtT.zm tk56 ?_ | refine AtT.zo tk56 ?_
 refine AtT.zh ?_
 refine AtT.knil ?_
 first | refine AtT.zi jh ?_ | with_reducible refine AtT.zk jh ?_ | refine AtT.zn jh ?_
 first | refine AtT.zm tk56 ?_ | refine AtT.zo tk56 ?_
 first | refine AtT.zZ Tryz.underlying56 ?_ | refine AtT.qa Tryz.underlying56 ?_
 refine AtT.unsafeSD rfl trivial rfl (by omega) (by decide) ?_
 refine AtT.unsafeStr rfl trivial rfl rfl h0 (by omega) zX.zM (by decide) ?_ (l := l) (rest := rest)
 refine AtT.zg ?_
 refine AtT.done ?_
 refine At.nrm ?_
 all_goals (exact At.retM1 rfl (.tmp rfl) ⟨rfl, rfl, rfl⟩)
end Go.Proofs.YtghomjjffllkeaaGreatDoor
set_option linter.unusedVariables false
namespace Go.Pm
open Go.Gl Go.Lw
def rwA (rows : List ByteArray) (k : Nat) : ByteArray := rows.getD k ByteArray.empty
def colB (rows : List ByteArray) (c : Nat) (m : Nat) : List UInt8 := (List.range m).map fun j => (bt (rwA rows (rows.length - 1 - j))).getD c 0
theorem colB_len (rows : List ByteArray) (c m : Nat) : (colB rows c m).length = m := by unfold colB; simp
theorem colB_snoc (rows : List ByteArray) (c m : Nat) : colB rows c (m + 1) = colB rows c m ++ [(bt (rwA rows (rows.length - 1 - m))).getD c 0] := by
 unfold colB; rw [List.range_succ, List.map_append]; rfl
def tnK (rows : List ByteArray) (k : Nat) : List ByteArray := (List.range k).map fun c => ⟨(colB rows c rows.length).toArray⟩
theorem tnK_len (rows : List ByteArray) (k : Nat) : (tnK rows k).length = k := by unfold tnK; simp
theorem tnK_snoc (rows : List ByteArray) (k : Nat) : tnK rows (k + 1) = tnK rows k ++ [⟨(colB rows k rows.length).toArray⟩] := by
 unfold tnK; rw [List.range_succ, List.map_append]; rfl
def tnS (s : Sh) : Sh := ⟨tnK s.rows (wdS s), s.most⟩
def tnN (s : Sh) : Nat → Sh
 | 0 => s
 | n + 1 => tnS (tnN s n)
abbrev ysB (rows : List ByteArray) : List (List Value) := (List.range rows.length).map fun (j : Nat) => [iv ((rows.length : Int) - 1 - (j : Int)), .string (rwA rows (rows.length - 1 - j))]
theorem ysB_at {rows : List ByteArray} {j : Nat} (h : j < rows.length) : (ysB rows)[j]? = some [iv ((rows.length : Int) - 1 - (j : Int)), .string (rwA rows (rows.length - 1 - j))] := by
 simp only [ysB, List.getElem?_map, List.getElem?_range h]; rfl
end Go.Pm
set_option linter.unusedVariables false
namespace Go.Proofs.YtghomjjffllkeaaGreatDoor
open Go.Lw Go.Gl Go.Pm Go.RowKit Go.Shelf
theorem backward_f (V : View) (a : Option Addr) (m c : Nat) : Fnc Tryz.prog 105 [.slice a m c] V fun r V' => ∃ q : Addr, r = .func (.func 128) #[] #[.pointer (some q)] ∧ Cells V' q [.slice a m c] := by
 refine qh Tryz.func105 rfl Tryz.ntmps105 (Nat.le_of_ble_eq_true rfl) ?_
 intro w0 hw0
 refine At.nrm ?_
 refine At.zl (.n false 0 (.q 1 .done)) ?_
 refine AtT.qZ ?_
 intro b1
 refine AtT.zg ?_
 refine AtT.done ?_
 refine At.nrm ?_
 refine At.giveB (b := b1) zX.zM ?_
 intro V1 hV1 hb1
 refine At.zl (.q 0 (.q 1 .done)) ?_
 refine AtT.kfn ?_
 refine AtT.zg ?_
 refine AtT.done ?_
 refine At.nrm ?_
 exact At.qb rfl (.tmp rfl) ⟨_, rfl, qO hb1⟩
theorem iterB_f (rows : List ByteArray) (hn : rows.length ≤ 100) (V : View) (q : Addr) (a : Option Addr) (c : Nat) (hq : Cells V q [.slice a rows.length c]) (hs : Sl V bse 1 (.slice a rows.length c) rows) : It Tryz.prog 128 [.pointer (some q)] V (ysB rows) := by
 refine it_of Tryz.func128 rfl Tryz.ntmps128 (Nat.le_of_ble_eq_true rfl) rfl ?_
 intro l J E w0 H hJ
 refine At.nrm ?_
 refine At.zl (.q 0 (.q 1 (.q 2 (.q 3 .done)))) ?_
 first | refine AtT.zm zV ?_ | refine AtT.zo zV ?_
 first | refine AtT.zZ Tryz.underlying22 ?_ | refine AtT.qa Tryz.underlying22 ?_
 first | refine AtT.qD ?_ | refine AtT.qE ?_
 refine AtT.zg ?_
 refine AtT.done ?_
 refine At.nrm ?_
 refine At.lpY H (ι := Nat) (fun k => k ≤ rows.length) (fun k => [(0, .func (.yield l) #[] #[]), (1, .pointer (some q)), (3, iv ((rows.length : Int) - 1 - (k : Int)))]) (fun k => k) (fun k => rows.length - k) 0 (Nat.zero_le _) ⟨rfl, rfl, ivs (by omega), trivial⟩ hJ ?_
 rintro k w ks' hkl hJ rfl
 refine At.nrm ?_
 refine At.zl (.q 0 (.q 1 .done)) ?_
 refine AtT.zh ?_
 refine AtT.kgeq ?_
 refine AtT.done ?_
 refine At.nrm ?_
 refine At.qc rfl (fun hp => ?_) (fun hp => ?_)
 rotate_left
 ·obtain rfl : k = rows.length := by omega
  refine At.nrm ?_
  exact At.itEnd H (.inl rfl) rfl (.inl (by rw [ysB, List.length_map, List.length_range]; exact hJ))
 have hys := ysB_at (rows := rows) (j := k) (by omega)
 have hrw : rows[rows.length - 1 - k]? = some (rwA rows (rows.length - 1 - k)) := by
  unfold rwA
  simp [List.getD, List.getElem?_eq_getElem (show rows.length - 1 - k < rows.length by omega)]
 have hto : ((rows.length : Int) - 1 - (k : Int)).toNat = rows.length - 1 - k := by omega
 refine At.nrm ?_
 refine At.zl (.q 0 (.q 1 (.q 2 (.q 3 (.q 4 (.q 5 (.n true 6 (.q 7 .done)))))))) ?_
 refine AtT.zh ?_
 refine AtT.zh ?_
 first | refine AtT.zm zV ?_ | refine AtT.zo zV ?_
 refine AtT.zh ?_
 refine AtT.qo Tryz.underlying22 tk9 ?_
 intro p15 e15 he15 hc15
 first | refine AtT.zm tk9 ?_ | refine AtT.zo tk9 ?_
 obtain rfl : rwA rows (rows.length - 1 - k) = e15 := by have : rows[rows.length - 1 - k]? = some e15 := (by rw [hto] at he15; exact he15); rw [hrw] at this; simpa using this
 refine AtT.yield rfl trivial rfl rfl H (hys) (hJ) (by decide) ?_ ?_
 all_goals (intro w17 hJ17)
 all_goals (refine AtT.qW ?_)
 all_goals refine AtT.done ?_
 all_goals (refine At.nrm ?_)
 rotate_left
 ·refine At.qA rfl rfl ?_
  refine At.nrm ?_
  exact At.itEnd H (.inr rfl) rfl (.inr hJ17)
 refine At.qX rfl rfl ?_
 refine At.nrm ?_
 refine At.zl (.q 0 (.q 1 (.q 2 .done))) ?_
 refine AtT.zh ?_
 first | refine AtT.qD ?_ | refine AtT.qE ?_
 refine AtT.zg ?_
 refine AtT.done ?_
 refine At.nrm ?_
 refine At.roundY H (k + 1) ?_ (by omega) ?_ hJ17
 ·show rows.length - (k + 1) < rows.length - k; omega
 ·exact ⟨rfl, rfl, ivs (by push_cast; omega), trivial⟩
theorem sl_emp {α : Type} {enc : α → List Value} {st : Nat} (V : View) (a : Option Addr) : Sl V enc st (.slice a 0 0) ([] : List α) := ⟨a, 0, rfl, Nat.le_refl _, Nat.zero_le _, fun h => absurd rfl h, fun p _ i x h => by simp at h⟩
theorem clone_f (l : List ByteArray) (h0 : l ≠ []) (hn : l.length ≤ 100) (V : View) (v : Value) (hs : Sl V bse 1 v l) : Fnc Tryz.prog 77 [v] V fun r V' => ∃ a c, r = .slice a l.length c ∧ Sl V' bse 1 (.slice a l.length c) l := by
 obtain ⟨a, c, rfl, k1, k2, ha, k3⟩ := id hs
 obtain ⟨p, rfl⟩ := Option.isSome_iff_exists.1 (ha h0)
 clear k1 k2 k3
 have hcl : Cells V p (flat bse l) := Sl.cells bse_len hs
 refine qh Tryz.func77 rfl Tryz.ntmps77 (Nat.le_of_ble_eq_true rfl) ?_
 intro w0 hw0
 refine At.nrm ?_
 refine At.zl (.q 0 .done) ?_
 refine AtT.zg ?_
 refine AtT.done ?_
 refine At.nrm ?_
 refine At.zl (.q 0 (.q 1 .done)) ?_
 refine AtT.zh ?_
 refine AtT.eqNil rfl trivial Tryz.underlying22 rfl rfl (by decide) ?_
 refine AtT.done ?_
 refine At.nrm ?_
 refine At.qX rfl rfl ?_
 refine At.nrm ?_
 refine At.zl (.n false 0 (.q 1 (.n true 2 (.q 3 .done)))) ?_
 refine AtT.zu (bs22_0) ?_
 intro q5 V5 hV5 hq5
 have g5 : Le V V5 := by first | exact hV5 | exact Le.trans (by assumption) hV5
 refine AtT.zh ?_
 refine AtT.appendC rfl trivial Tryz.underlying22 rw9 rfl (by decide) rfl (sl_emp _ _) rfl rfl (hcl.le hV5) (fun _ => rfl) h0 (by unfold maxLen; simp only [List.length_nil]; omega) (by simp only [List.length_nil]; omega) (by decide) (enc := bse) (l := []) (m := l) ?_
 intro a7 c7 V7 hV7 hs7
 refine AtT.zg ?_
 refine AtT.done ?_
 refine At.nrm ?_
 exact At.qb rfl (.tmp rfl) ⟨a7, c7, rfl, hs7⟩
end Go.Proofs.YtghomjjffllkeaaGreatDoor
set_option linter.unusedVariables false
set_option linter.unusedSimpArgs false
namespace Go.Lw
open Go.RowKit
section
variable {cx : Cx} {n : Nat} {ks : List (Nat × Value)} {O O' R : List Own} {V V0 : View} {P : Program} {ops : Array Oper} {Qn : Act → World → Prop} {t : Tr} {i d : Nat} {T : TypeId} {pos : String} {after : Array Edge} {gd : Option (Nat × Bool)} {x y : Operand} {u v : Value} {wr : Bool} {ro : Option Nat} {Q : Exit → Act → World → Prop} {K : Act → World → Prop}
 {l j : Nat} {J : Nat → World → Prop} {E : World → Prop} {ys : List (List Value)}
theorem At.rangeFuncD {g : Operand} {ps : Array Tmp} {assign body : Code} {f : FuncId} {caps : List Value} {Vi : View} {ι : Type} (idx : ι → Nat) (OS : ι → List Own) (VS : ι → View → Prop) (XS : Code → List Own → View → Prop)
  (hg : ev ks g = some (.func (.func f) #[] caps.toArray)) (hok : zL P f) (g0 : ι) (hg0 : idx g0 = 0) (hp : Pt (OS g0) O) (hv : VS g0 V) (hit : It P f caps Vi ys) (hVi : ∀ g V', VS g V' → Le Vi V')
  (hps : ∀ p ∈ ps.toList, p < n) (hlen : ∀ y ∈ ys, y.length = ps.size)
  (hround : ∀ i y l D r V' ks' O', ys[idx i]? = some y → VS i V' → Le cx.V0 V' → ks' = bindK ps.toList y ks → O' = OS i → At { cx with ds := [] } n ks' (.blk l (.loop { r with state := .ready, pending := none }) :: .blk D (.deferred (some [])) :: O') V'
   (assign.wpIn (FW (some l)) 0 P (Exit.then (fun a₁ w₁ => ∃ w₂, (Instr.beginRound l).run P w₁ = .ok () w₂ ∧ body.wpIn (FW (some l)) 0 P (roundPost P l (RR { cx with ds := [] } l D r idx OS VS XS (idx i))) a₁ w₂) (fun _ _ _ => False))))
  (hend : ∀ i D V' O', idx i = ys.length → VS i V' → Le cx.V0 V' → O' = OS i → At { cx with ds := mkD D :: cx.ds } n ks (.blk D (.deferred (some [])) :: O') V' (Q .normal))
  (hexit : ∀ D c O' V', XS c O' V' → Le cx.V0 V' → At { cx with ds := mkD D :: cx.ds } n ks (.blk D (.deferred (some [])) :: O') V' (c.wpIn (FW none) 0 P Q)) :
  At cx n ks O V ((Code.rangeFunc g ps assign body).wpIn (FW none) 0 P Q) := fun a w hk hm => by
 refine wpIn_rangeFunc fun fn _ => ?_
 let D := w.heap.size
 let r : Loop := { state := .ready, pending := none, fn := fn, tmps := a.tmps, params := ps, assign := assign, body := body, defers := D }
 let w1 := (w.alloc (.deferred (some []))).alloc (.loop r)
 have hm1 : Mem { cx with ds := [] } (.blk (D + 1) (.loop r) :: .blk D (.deferred (some [])) :: OS g0) V w1 := by
  have h1 := ((hm.part hp.part).ds []).alloc (.deferred (some []))
  have h2 := h1.alloc (.loop r)
  rwa [World.size_alloc] at h2
 have H : Yd P (D + 1) (RJ { cx with ds := [] } (D + 1) D r idx OS VS) (RE { cx with ds := [] } (D + 1) D r XS) Vi ys := by
  refine ⟨fun j w w' h hb => h.ext hb, fun w w' h hb => h.ext hb, fun j w h => ?_, fun j y w hy h => ?_⟩
  ·obtain ⟨g', V', h0, h1, h2⟩ := h
   exact (hVi _ _ h1).trans h2.view
  ·obtain ⟨g', V', rfl, h1, h2⟩ := h
   have hl := hlen y (List.mem_of_getElem? hy)
   refine ⟨_, _, _, _, run_yield h2.blk (by simpa using hl), ?_⟩
   rw [foldl_zip]
   refine roundIn_of_wpIn trivial ?_
   refine hround g' y (D + 1) D r V' _ _ hy h1 h2.le0 rfl rfl _ w ?_ h2
   have : Kn { cx with ds := [] } n ks { tmps := a.tmps, defers := [] } := ⟨rfl, hk.size, hk.known⟩
   have := Kn.bind ps.toList y ks a.tmps (by simpa using hl.symm) hps this
   exact ⟨this.defers, this.size, this.known⟩
 refine ⟨D + 1, [mkD D], w1, { target := .fn (.func f) caps.toArray, args := #[.func (.yield (D + 1)) #[] #[]] }, w1, f, (Value.func (.yield (D + 1)) #[] #[] :: caps).toArray, w1, run_enterLoop_outer _ _ _ _ _, ?_, fun _ _ => trivial, ?_, FW_dep none, ?_⟩
 ·have e1 : a.eval (.const (.func (.yield (D + 1)) #[] #[])) = .func (.yield (D + 1)) #[] #[] := rfl
  simp [resolve, hk.ev hg, Deferred.ofValue, e1]
 ·have e : (#[Value.func (.yield (D + 1)) #[] #[]] ++ caps.toArray) = (Value.func (.yield (D + 1)) #[] #[] :: caps).toArray := by simp
  simp only [invoke, e]
  exact hok _ _
 ·refine calls_FW.2 ((hit (D + 1) _ _ w1 H ⟨g0, V, hg0, hv, hm1⟩).mono fun e w' ⟨v, he, hh⟩ => ?_)
  subst he
  have hk' : Kn { cx with ds := mkD D :: cx.ds } n ks { a with defers := [mkD D] ++ a.defers } := ⟨by show [mkD D] ++ a.defers = mkD D :: cx.ds; rw [hk.defers]; rfl, hk.size, hk.known⟩
  rcases hh with ⟨g', V', h0, h1, h2⟩ | ⟨c, O', V', h1, h2⟩
  ·exact ⟨none, _, run_endLoop h2.blk (by simp), hend g' D V' _ h0 h1 h2.le0 rfl _ _ hk' (h2.put.drop.rebase rfl rfl)⟩
  ·exact ⟨some c, _, run_endLoop h2.blk (by simp), hexit D c O' V' h1 h2.le0 _ _ hk' (h2.put.drop.rebase rfl rfl)⟩
theorem At.lpD {ι : Type} {c : Code} (DS : ι → List Deferred) (KS : ι → List (Nat × Value)) (OS : ι → List Own) (VS : ι → View → Prop) (μ : ι → Nat) (i0 : ι)
  (hd : cx.ds = DS i0) (hs : Sub (KS i0) ks) (hp : Pt (OS i0) O) (hv : VS i0 V)
  (hbody : ∀ i V' ks' O', VS i V' → ks' = KS i → O' = OS i → Le cx.V0 V' → At { cx with ds := DS i } n ks' O' V' (c.wpIn (FW ro) 0 P (Exit.then (fun a w => ∃ i' V'', μ i' < μ i ∧ VS i' V'' ∧ Kn { cx with ds := DS i' } n (KS i') a ∧ Mem cx (OS i') V'' w) Q))) :
  At cx n ks O V ((Code.loop c).wpIn (FW ro) 0 P Q) := fun a w hk hm =>
 wpIn_loop_ghost (fun (i : ι) a w => ∃ V', VS i V' ∧ Kn { cx with ds := DS i } n (KS i) a ∧ Mem cx (OS i) V' w) μ
  (fun i a w ⟨V', hV, hk, hm⟩ => wpIn_mono (hbody i V' _ _ hV rfl rfl hm.le0 a w hk (hm.ds _)) (fun e a' w' hq => by
   cases e with
   | normal =>
    obtain ⟨i', V'', hlt, hV', hk', hm'⟩ := hq
    exact ⟨i', ⟨V'', hV', hk', hm'⟩, hlt⟩
   | exit id => exact hq
   | goto l => exact hq
   | ret => exact hq
   | panic ch => exact hq
   | outgrown => exact hq)) i0 a w ⟨V, hv, ⟨hk.defers.trans hd, hk.size, (hk.sub hs).known⟩, hm.part hp.part⟩
theorem At.roundD {ι : Type} {DS : ι → List Deferred} {KS : ι → List (Nat × Value)} {OS : ι → List Own} {VS : ι → View → Prop} {μ : ι → Nat} {i : ι} {ds : List Deferred} (i' : ι) (hμ : μ i' < μ i) (hv : VS i' V) (hd : ds = DS i') (hs : Sub (KS i') ks) (hp : Pt (OS i') O) :
  At { cx with ds := ds } n ks O V (fun a w => ∃ i' V'', μ i' < μ i ∧ VS i' V'' ∧ Kn { cx with ds := DS i' } n (KS i') a ∧ Mem cx (OS i') V'' w) := fun a w hk hm => ⟨i', V, hμ, hv, ⟨hk.defers.trans hd, hk.size, (hk.sub hs).known⟩, (hm.part hp.part).ds'⟩
abbrev dfB (D : Nat) : Own := .blk D (.deferred (some []))
theorem leaves_marks {fn : Func} {R' : Ending → World → Prop} {tmps : Array Value} {u : FrameMode} (hu : u ≠ .run) : ∀ (Ds : List Nat) (w : World), Mem cx (Ds.map dfB ++ R) V w → (∀ w', Mem cx R V w' → LeavesInM (FW none) 0 P fn tmps R' [] u w') → LeavesInM (FW none) 0 P fn tmps R' (Ds.map mkD) u w
 | [], w, hm, h => h w hm
 | D :: Ds, w, hm, h => by
  refine ⟨hu, .inl ⟨D, _, rfl, run_takeDeferred (Mem.blk hm), ?_⟩⟩
  exact leaves_marks hu Ds _ (Mem.put (o' := .deferred none) hm).drop h
theorem At.unmarks {fn : Func} {R' : Ending → World → Prop} {e : Exit} (Ds : List Nat) (he : e = .ret ∨ e = .normal) (hd : cx.ds = Ds.map mkD) (hp : O.Perm (Ds.map dfB ++ R)) (h : At { cx with ds := [] } n ks R V (bodyPost P fn R' e)) :
  At cx n ks O V (bodyPostM (FW none) 0 P fn R' e) := fun a w hk hm => by
 have key : ∀ w', Mem cx R V w' → LeavesInM (FW none) 0 P fn a.tmps R' [] .returning w' := fun w' hm' => by
  have := h { a with defers := [] } w' ⟨rfl, hk.size, hk.known⟩ (hm'.ds [])
  rcases he with rfl | rfl
  all_goals
   obtain ⟨_, h2⟩ := this
   exact h2
 rcases he with rfl | rfl
 all_goals
  show LeavesInM _ _ _ _ _ _ a.defers _ _
  rw [hk.defers, hd]
  exact leaves_marks (by simp) Ds w (hm.perm hp) key
end
end Go.Lw
set_option linter.unusedVariables false
namespace Go.Proofs.YtghomjjffllkeaaGreatDoor
open Go.Lw Go.Gl Go.Pm Go.RowKit Go.Shelf
theorem pt_self : ∀ L : List Own, Pt L L
 | [] => Pt.nil
 | x :: L => Pt.cons zX.here (pt_self L)
theorem pt_skip {L' L : List Own} {x : Own} (h : Pt L' L) : Pt L' (x :: L) := by
 induction h with
 | nil => exact Pt.nil
 | cons hx _ ih => exact Pt.cons (zX.there hx) ih
theorem turned_f (s : Sh) (hn : 1 ≤ s.rows.length ∧ s.rows.length ≤ 6) (hw : wdS s ≤ 6) (hsz : ∀ r ∈ s.rows, r.size = wdS s) (V : View) (v : Value) (hv : ShV V v s) : Fnc Tryz.prog 78 [v] V fun r V' => ShV V' r (tnS s) := by
 obtain ⟨a, c, rfl, hs⟩ := id hv
 obtain ⟨r0, hr0⟩ : ∃ r, s.rows[0]? = some r := ⟨_, List.getElem?_eq_getElem (by omega)⟩
 have hr0s : r0.size = wdS s := hsz r0 (List.mem_of_getElem? hr0)
 refine fn_ofM Tryz.func78 rfl Tryz.ntmps78 (Nat.le_of_ble_eq_true rfl) ?_
 intro w0 hw0
 refine At.nrm ?_
 refine At.zl (.n false 0 (.n false 1 .done)) ?_
 refine AtT.qZ ?_
 intro b1
 refine AtT.qx z24 ?_
 intro b2
 refine AtT.done ?_
 refine At.nrm ?_
 refine At.zl (.q 0 (.q 1 (.q 2 (.n false 3 (.n true 4 .done))))) ?_
 first | refine AtT.zi zR ?_ | with_reducible refine AtT.zk zR ?_ | refine AtT.zn zR ?_
 first | refine AtT.zm tk3 ?_ | refine AtT.zo tk3 ?_
 refine AtT.ja (bd24_1 _) ?_
 refine AtT.qx z24 ?_
 intro b3
 refine AtT.zW zP ?_
 refine AtT.done ?_
 refine At.nrm ?_
 refine At.zl (.q 0 (.q 1 (.q 2 (.q 3 (.q 4 (.q 5 .done)))))) ?_
 first | refine AtT.zi zw ?_ | with_reducible refine AtT.zk zw ?_ | refine AtT.zn zw ?_
 first | refine AtT.zm zV ?_ | refine AtT.zo zV ?_
 refine AtT.qo Tryz.underlying22 tk9 ?_
 intro p13 e13 he13 hc13
 first | refine AtT.zm tk9 ?_ | refine AtT.zo tk9 ?_
 obtain rfl : r0 = e13 := by have : s.rows[0]? = some e13 := (by simpa using he13); rw [hr0] at this; simpa using this
 refine AtT.qL rfl trivial Tryz.underlying9 rfl (by decide) ?_
 rw [hr0s]
 refine AtT.zh ?_
 refine AtT.done ?_
 refine At.nrm ?_
 refine At.newRow 9 1 ?_
 refine At.lpD (ι := Nat × List Nat × Option Addr × Nat) (DS := fun g => g.2.1.map mkD) (KS := fun g => [(1, .pointer (some ⟨b1, 0, none⟩)), (2, .pointer (some ⟨b2, 0, none⟩)), (3, .pointer (some ⟨b3, 0, none⟩)), (15, iv (wdS s)), (16, iv g.1)])
  (OS := fun g => .blk b3 (LC [.slice g.2.2.1 (tnK s.rows g.1).length g.2.2.2, iv s.most] 24) :: .row (.slice g.2.2.1 (tnK s.rows g.1).length g.2.2.2) 9 1 (tnK s.rows g.1).length (flat bse (tnK s.rows g.1)) :: .blk b1 (LC [.slice a s.rows.length c, iv s.most] 24) :: .blk b2 (LC [.slice none 0 0, iv 0] 24) :: g.2.1.map dfB)
  (VS := fun g V' => Le V V' ∧ g.1 ≤ wdS s) (μ := fun g => wdS s - g.1) (0, [], none, 0) rfl ?_ ?_ ?_ ?_
 ·exact ⟨rfl, rfl, rfl, rfl, rfl, trivial⟩
 ·exact Pt.zM
 ·exact ⟨Le.refl _, Nat.zero_le _⟩
 rintro ⟨k, Ds, ao, co⟩ V' ks' O' ⟨hVV, hkl⟩ hk hO hl2
 dsimp only at hkl hk hO
 subst hk hO
 have hs' := hs.le hVV
 refine At.nrm ?_
 refine At.zl (.q 0 .done) ?_
 refine AtT.zY ?_
 refine AtT.done ?_
 refine At.nrm ?_
 refine At.qc rfl (fun hp => ?_) (fun hp => ?_)
 rotate_left
 ·obtain rfl : k = wdS s := by omega
  refine At.nrm ?_
  refine At.zl (.q 0 (.n true 1 .done)) ?_
  first | refine AtT.zD zP ?_ | refine AtT.zK zP ?_ | refine AtT.zC zP ?_
  refine AtT.zW zP ?_
  refine AtT.done ?_
  refine At.nrm ?_
  refine At.giveSl (l := tnK s.rows (wdS s)) bse_len rfl rfl zX.zM (fun V4 hV4 hs4 => ?_)
  refine At.unmarks Ds (.inl rfl) rfl (List.perm_append_comm (l₁ := [_, _, _])) ?_
  exact At.qb rfl (.agg rfl zP zX.zM rfl) ⟨ao, co, rfl, hs4⟩
 refine At.nrm ?_
 refine At.zl (.q 0 (.n false 1 (.n true 2 .done))) ?_
 refine AtT.zh ?_
 refine AtT.qx z3 ?_
 intro b4
 first | refine AtT.jd tk3 ?_ | refine AtT.zW tk3 ?_
 refine AtT.done ?_
 refine At.nrm ?_
 refine At.nrm ?_
 refine At.zl (.n false 0 .done) ?_
 refine AtT.qx z145 ?_
 intro b5
 refine AtT.done ?_
 refine At.nrm ?_
 refine At.nrm ?_
 refine At.zl (.q 0 (.q 1 (.n false 2 .done))) ?_
 first | refine AtT.zi zw ?_ | with_reducible refine AtT.zk zw ?_ | refine AtT.zn zw ?_
 first | refine AtT.zm zV ?_ | refine AtT.zo zV ?_
 refine AtT.qg rfl rfl ok105 (backward_f _ a _ c) ?_
 rintro _ V21 hV21 ⟨q, rfl, hq⟩
 refine AtT.done ?_
 refine At.nrm ?_
 have hs2 := hs'.le hV21
 refine At.newRow 5 1 ?_
 refine At.rangeFuncD (Vi := V21) (ys := ysB s.rows) (ι := Nat × Option Addr × Nat × Option Addr) (fun g => g.1)
  (fun g => .row (.slice g.2.1 (colB s.rows k g.1).length g.2.2.1) 5 1 (colB s.rows k g.1).length (flat bye (colB s.rows k g.1)) :: .blk b5 (LC [.pointer g.2.2.2, .slice g.2.1 (colB s.rows k g.1).length g.2.2.1] 145) :: .blk b4 (LC [iv k] 3) :: .blk b3 (LC [.slice ao (tnK s.rows k).length co, iv s.most] 24) :: .row (.slice ao (tnK s.rows k).length co) 9 1 (tnK s.rows k).length (flat bse (tnK s.rows k)) :: .blk b1 (LC [.slice a s.rows.length c, iv s.most] 24) :: .blk b2 (LC [.slice none 0 0, iv 0] 24) :: Ds.map dfB)
  (fun g V'' => Le V21 V'' ∧ (g.2.2.2 = none ∨ g.2.2.2 = some ⟨b5, 0, none⟩)) (fun _ _ _ => False) rfl ok128 (0, none, 0, none) rfl ?_ ⟨Le.refl _, .inl rfl⟩ (iterB_f s.rows (by omega) V21 q a c hq hs2) (fun _ _ h => h.1) (by decide) (fun y hy => by obtain ⟨j, _, rfl⟩ := List.mem_map.1 hy; rfl) ?_ ?_ (fun _ _ _ _ h => h.elim)
 ·repeat (first | exact pt_self _ | refine Pt.cons zX.zM ?_ | refine pt_skip ?_)
 ·rintro ⟨m, a5, c5, p5⟩ y l D r V6 ks' O' hy ⟨hV6, hp5⟩ hl rfl rfl
  dsimp only at hy hp5 ⊢
  have hm : m < s.rows.length := by
   have := (List.getElem?_eq_some_iff.1 hy).1
   rwa [ysB, List.length_map, List.length_range] at this
  obtain rfl : y = [iv ((s.rows.length : Int) - 1 - (m : Int)), .string (rwA s.rows (s.rows.length - 1 - m))] := by rw [ysB_at hm] at hy; exact (Option.some.inj hy).symm
  obtain ⟨rw', hrw⟩ : ∃ rw', rw' = rwA s.rows (s.rows.length - 1 - m) := ⟨_, rfl⟩
  have hrm : s.rows[s.rows.length - 1 - m]? = some rw' := by
   rw [hrw]; unfold rwA
   simp [List.getD, List.getElem?_eq_getElem (show s.rows.length - 1 - m < s.rows.length by omega)]
  have hrsz := hsz rw' (List.mem_of_getElem? hrm)
  have hcs := colB_snoc s.rows k m
  rw [← hrw] at hcs ⊢
  have hcl := colB_len s.rows k m
  show At _ _ ((23, .string rw') :: (22, iv ((s.rows.length : Int) - 1 - (m : Int))) :: _) _ _ _
  refine At.nrm ?_
  refine At.zl (.q 0 .done) ?_
  refine AtT.zg ?_
  refine AtT.done ?_
  refine At.nrm ?_
  refine At.begin zX.zM ?_
  refine At.nrm ?_
  refine At.pt (O' := .blk b5 (LC [.pointer p5, .slice a5 (colB s.rows k m).length c5] 145) :: .row (.slice a5 (colB s.rows k m).length c5) 5 1 (colB s.rows k m).length (flat bye (colB s.rows k m)) :: .blk l (.loop { r with state := .busy, pending := none }) :: .blk D (.deferred (some [])) :: .blk b4 (LC [iv k] 3) :: .blk b3 (LC [.slice ao (tnK s.rows k).length co, iv s.most] 24) :: .row (.slice ao (tnK s.rows k).length co) 9 1 (tnK s.rows k).length (flat bse (tnK s.rows k)) :: .blk b1 (LC [.slice a s.rows.length c, iv s.most] 24) :: .blk b2 (LC [.slice none 0 0, iv 0] 24) :: Ds.map dfB) ?_ ?_
  ·repeat (first | exact pt_self _ | refine Pt.cons zX.zM ?_ | refine pt_skip ?_)
  refine At.zl (.q 0 (.q 1 (.q 2 (.n true 3 .done)))) ?_
  refine AtT.zh ?_
  first | refine AtT.zm tk3 ?_ | refine AtT.zo tk3 ?_
  refine AtT.ixS rfl trivial Tryz.underlying9 rfl rfl (by omega) (by omega) (by decide) ?_
  rw [Int.toNat_natCast]
  refine AtT.callM rfl trivial rfl ok106 (by decide) (List.Perm.refl _) (writeByte_f b5 p5 hp5 a5 c5 (colB s.rows k m) (by omega) ((bt rw').getD k 0)) ?_
  rintro _ _ V7 ⟨rfl, hV7, a', c', rfl⟩
  refine AtT.done ?_
  refine At.nrm ?_
  refine At.roundN (m + 1, a', c', some ⟨b5, 0, none⟩) rfl ⟨hV6.trans hV7, .inr rfl⟩ zX.zM ?_
  dsimp only
  rw [hcs]
  repeat (first | exact pt_self _ | refine Pt.cons zX.zM ?_ | refine pt_skip ?_)
 rintro ⟨m, a5, c5, p5⟩ D V6 O' hm ⟨hV6, hp5⟩ hl rfl
 dsimp only at hm ⊢
 rw [ysB, List.length_map, List.length_range] at hm
 subst hm
 have hcl := colB_len s.rows k s.rows.length
 have hcne : colB s.rows k s.rows.length ≠ [] := fun e => by rw [e] at hcl; simp at hcl; omega
 have htl := tnK_len s.rows k
 refine At.sub (ks' := [(1, .pointer (some ⟨b1, 0, none⟩)), (2, .pointer (some ⟨b2, 0, none⟩)), (3, .pointer (some ⟨b3, 0, none⟩)), (15, iv (wdS s)), (16, iv k), (5, .pointer (some ⟨b5, 0, none⟩))]) ⟨rfl, rfl, rfl, rfl, rfl, rfl, trivial⟩ ?_
 refine At.pt (O' := .row (.slice a5 (colB s.rows k s.rows.length).length c5) 5 1 (colB s.rows k s.rows.length).length (flat bye (colB s.rows k s.rows.length)) :: .blk b5 (LC [.pointer p5, .slice a5 (colB s.rows k s.rows.length).length c5] 145) :: .blk D (.deferred (some [])) :: .blk b4 (LC [iv k] 3) :: .blk b3 (LC [.slice ao (tnK s.rows k).length co, iv s.most] 24) :: .row (.slice ao (tnK s.rows k).length co) 9 1 (tnK s.rows k).length (flat bse (tnK s.rows k)) :: .blk b1 (LC [.slice a s.rows.length c, iv s.most] 24) :: .blk b2 (LC [.slice none 0 0, iv 0] 24) :: Ds.map dfB) ?_ ?_
 ·repeat (first | exact pt_self _ | refine Pt.cons zX.zM ?_ | refine pt_skip ?_)
 have hlk : (tnK s.rows (k + 1)).length = (tnK s.rows k).length + 1 := by rw [tnK_len, tnK_len]
 refine At.nrm ?_
 refine At.jo (ι := Option Addr × Nat) (fun _ => [(1, .pointer (some ⟨b1, 0, none⟩)), (2, .pointer (some ⟨b2, 0, none⟩)), (3, .pointer (some ⟨b3, 0, none⟩)), (15, iv (wdS s)), (16, iv k)])
  (fun g => .blk b3 (LC [.slice g.1 (tnK s.rows (k + 1)).length g.2, iv s.most] 24) :: .row (.slice g.1 (tnK s.rows (k + 1)).length g.2) 9 1 (tnK s.rows (k + 1)).length (flat bse (tnK s.rows (k + 1))) :: .blk b1 (LC [.slice a s.rows.length c, iv s.most] 24) :: .blk b2 (LC [.slice none 0 0, iv 0] 24) :: (D :: Ds).map dfB)
  (fun g V'' => Le V6 V'') ?_ ?_
 ·rw [hlk, tnK_snoc, jg]
  have hbase : Le V V6 := (hVV.trans hV21).trans hV6
  refine At.drawC [.blk b3 (LC [.slice ao (tnK s.rows k).length co, iv s.most] 24)] (.q 0 (.q 1 (.n false 2 (.n false 3 (.n true 4 (.q 5 (.n true 6 .done))))))) ffm (by kernel_rfl) Pt.zM ?_
  refine AtC.pre (fun hle0 => ?_)
  refine AtC.kq (by (first | refine AtT.zi zw ?_ | with_reducible refine AtT.zk zw ?_ | refine AtT.zn zw ?_); exact At.knows) ?_
  refine AtC.kq (by (first | refine AtT.zm zV ?_ | refine AtT.zo zV ?_); exact At.knows) ?_
  refine AtC.nz (AtT.callM rfl trivial rfl ok107 (by decide) (List.Perm.refl _) (bstring_f b5 p5 a5 c5 (colB s.rows k s.rows.length) hcne (by omega)) ?_)
  rintro _ _ _ ⟨rfl, rfl, rfl⟩
  refine AtC.go Pt.zM (Le.refl _) ?_
  refine AtC.nz (AtT.bsliceG rfl trivial rfl (bs22_1_0 _) (by decide) ?_)
  intro q31 V31 hV31 hq31
  have g31 : Le V V31 := by first | exact hV31 | exact Le.trans (by assumption) hV31
  refine AtC.go Pt.zM hV31 ?_
  refine AtC.toT ?_
  first | refine AtT.kappend Tryz.underlying22 rw9 ?_
  intro a32 c32
  first | refine AtT.zi zw ?_ | with_reducible refine AtT.zk zw ?_ | refine AtT.zn zw ?_
  first | refine AtT.jd zV ?_ | refine AtT.zW zV ?_
  refine AtT.done ?_
  refine At.nrm ?_
  all_goals (refine At.qC (a32, c32) (by first | assumption | exact Le.trans (by assumption) (by assumption)) ⟨rfl, rfl, rfl, rfl, rfl, trivial⟩ ?_; repeat (first | exact pt_self _ | refine Pt.cons zX.zM ?_ | refine pt_skip ?_))
 rintro ⟨a6, c6⟩ V7 ks' O' hV7 hk hO hl6
 dsimp only at hk hO
 subst hk hO
 refine At.nrm ?_
 refine At.zl (.q 0 (.q 1 .done)) ?_
 first | refine AtT.qj ?_ | refine AtT.zU ?_
 refine AtT.zh ?_
 refine AtT.done ?_
 refine At.nrm ?_
 refine At.roundD (cx := { w0 := w0, V0 := V }) (DS := fun g : Nat × List Nat × Option Addr × Nat => g.2.1.map mkD) (i := (k, Ds, ao, co)) (μ := fun g => wdS s - g.1) (k + 1, D :: Ds, a6, c6) ?_ ?_ rfl ?_ ?_
 ·show wdS s - (k + 1) < wdS s - k; omega
 ·exact ⟨((hVV.trans hV21).trans hV6).trans hV7, by dsimp only; omega⟩
 ·exact ⟨rfl, rfl, rfl, rfl, ivs (by dsimp only; omega), trivial⟩
 repeat (first | exact pt_self _ | refine Pt.cons zX.zM ?_ | refine pt_skip ?_)
end Go.Proofs.YtghomjjffllkeaaGreatDoor
set_option linter.unusedVariables false
namespace Go.Pm
open Go.Gl Go.Lw
abbrev cbB (rows : List ByteArray) (c m : Nat) : ByteArray := ⟨(colB rows c m).toArray⟩
theorem cbB_bt (rows : List ByteArray) (c m : Nat) : bt (cbB rows c m) = colB rows c m := by unfold bt; simp
theorem cbB_size (rows : List ByteArray) (c m : Nat) : (cbB rows c m).size = m := by rw [← bt_len, cbB_bt, colB_len]
end Go.Pm
set_option linter.unusedVariables false
namespace Go.Pm
open Go.Gl Go.Lw
structure Rct (s : Sh) : Prop where
 n : 1 ≤ s.rows.length ∧ s.rows.length ≤ 6
 w : 1 ≤ wdS s ∧ wdS s ≤ 6
 sz : ∀ r ∈ s.rows, r.size = wdS s
theorem rct_ok {s : Sh} (h : ShOk s) : Rct s := ⟨h.n, h.w, h.sz⟩
theorem tnS_wd {s : Sh} (h : Rct s) : wdS (tnS s) = s.rows.length := by
 unfold wdS row0 tnS
 have hl : (tnK s.rows (wdS s))[0]? = some (cbB s.rows 0 s.rows.length) := by
  unfold tnK
  rw [List.getElem?_map, List.getElem?_range (by have := h.w; omega)]; rfl
 show ((tnK s.rows (wdS s)).getD 0 ByteArray.empty).size = _
 rw [show (tnK s.rows (wdS s)).getD 0 ByteArray.empty = cbB s.rows 0 s.rows.length by simp [List.getD, hl], cbB_size]
theorem rct_tn {s : Sh} (h : Rct s) : Rct (tnS s) := by
 have hw := tnS_wd h
 have hl : (tnS s).rows.length = wdS s := tnK_len _ _
 refine ⟨by rw [hl]; exact h.w, by rw [hw]; exact h.n, fun r hr => ?_⟩
 rw [hw]
 unfold tnS tnK at hr
 obtain ⟨c, _, rfl⟩ := List.mem_map.1 hr
 exact cbB_size _ _ _
theorem rct_tnN {s : Sh} (h : Rct s) : ∀ n, Rct (tnN s n)
 | 0 => h
 | n + 1 => rct_tn (rct_tnN h n)
end Go.Pm
set_option linter.unusedVariables false
namespace Go.Pm
open Go.Gl Go.Lw
def sh0 : Sh := ⟨[], 0⟩
def tuR (s : Sh) (t : Int) : Sh × Int := if chE s ≠ 0 then (sh0, chE s) else if t < 0 ∨ 3 < t then (sh0, 2) else (tnN s t.toNat, 0)
end Go.Pm
namespace Go.Proofs.YtghomjjffllkeaaGreatDoor
open Go.Lw Go.Gl Go.Pm Go.RowKit Go.Shelf
def TuV (s : Sh) (t : Int) (r : Value) (V' : View) : Prop := ∃ u, r = .tuple #[u, iv (tuR s t).2] ∧ ShV V' u (tuR s t).1
theorem sh0_v (V : View) : ShV V (.agg #[.slice none 0 0, iv 0]) sh0 := ⟨none, 0, rfl, Sl.nil _ _ _⟩
theorem turn_f (s : Sh) (t : Int) (V : View) (v : Value) (hv : ShV V v s) : Fnc Tryz.prog 38 [v, iv t] V (TuV s t) := by
 obtain ⟨a, c, rfl, hs⟩ := id hv
 refine qh Tryz.func38 rfl Tryz.ntmps38 (Nat.le_of_ble_eq_true rfl) ?_
 intro w0 hw0
 refine At.nrm ?_
 refine At.zl (.n false 0 (.n false 1 (.q 2 .done))) ?_
 refine AtT.qZ ?_
 intro b2
 refine AtT.qx z24 ?_
 intro b4
 refine AtT.zg ?_
 refine AtT.done ?_
 refine At.nrm ?_
 refine At.zl (.q 0 (.n false 1 (.q 2 .done))) ?_
 first | refine AtT.zD zP ?_ | refine AtT.zK zP ?_ | refine AtT.zC zP ?_
 refine AtT.zq rfl rfl ok19 (sheetP_f s _ _ hv) ?_
 rintro _ rfl
 refine AtT.zg ?_
 refine AtT.done ?_
 refine At.nrm ?_
 refine At.nrm ?_
 refine At.zl (.q 0 (.q 1 (.q 2 .done))) ?_
 refine AtT.zh ?_
 refine AtT.qG ?_
 refine AtT.zg ?_
 refine AtT.done ?_
 refine At.nrm ?_
 refine At.qc rfl (fun h0 => ?_) (fun h0 => ?_)
 ·have e : tuR s t = (sh0, chE s) := by unfold tuR; rw [if_pos h0]
  refine At.nrm ?_
  refine At.zl (.q 0 (.q 1 (.n true 2 (.q 3 .done)))) ?_
  refine AtT.ja (bd24) ?_
  refine AtT.zh ?_
  refine AtT.zW zP ?_
  refine AtT.zg ?_
  refine AtT.done ?_
  refine At.nrm ?_
  exact At.je rfl (.agg rfl zP zX.zM rfl) (.tmp rfl) ⟨_, by rw [e], by rw [e]; exact sh0_v _⟩
 have h0' := Classical.not_not.1 h0
 have hok := jq h0'
 have hr := rct_ok hok
 have hrn := hr.n
 have hne : s.rows ≠ [] := fun e => by rw [e] at hrn; simp at hrn
 by_cases c1 : 0 ≤ t ∧ t ≤ 3
 rotate_left
 ·have e : tuR s t = (sh0, 2) := by unfold tuR; rw [if_neg h0, if_pos (by omega)]
  refine At.nrm ?_
  refine At.zl (.q 0 (.n false 1 (.n false 2 (.q 3 (.q 4 .done))))) ?_
  refine AtT.zh ?_
  refine AtT.zu (zT _) ?_
  intro q16 V16 hV16 hq16
  have g16 : Le V V16 := by first | exact hV16 | exact Le.trans (by assumption) hV16
  refine AtT.zq rfl rfl jl (qi 0 3 [t] _ _ (Sl.lit hq16 rfl (by simp))) ?_
  rintro _ rfl; rw [jm, decide_eq_false c1]
  refine AtT.qW ?_
  refine AtT.zg ?_
  refine AtT.done ?_
  refine At.nrm ?_
  refine At.qA rfl rfl ?_
  refine At.nrm ?_
  refine At.zl (.q 0 (.n true 1 (.q 2 .done))) ?_
  refine AtT.ja (bd24) ?_
  refine AtT.zW zP ?_
  refine AtT.zg ?_
  refine AtT.done ?_
  refine At.nrm ?_
  exact At.je rfl (.agg rfl zP zX.zM rfl) (.tmp rfl) ⟨_, by rw [e], by rw [e]; exact sh0_v _⟩
 have e : tuR s t = (tnN s t.toNat, 0) := by unfold tuR; rw [if_neg h0, if_neg (by omega)]
 obtain ⟨n, rfl⟩ : ∃ n : Nat, t = (n : Int) := ⟨t.toNat, by omega⟩
 rw [Int.toNat_natCast] at e
 refine At.nrm ?_
 refine At.zl (.q 0 (.n false 1 (.n false 2 (.q 3 (.q 4 .done))))) ?_
 refine AtT.zh ?_
 refine AtT.zu (zT _) ?_
 intro q16 V16 hV16 hq16
 have g16 : Le V V16 := by first | exact hV16 | exact Le.trans (by assumption) hV16
 refine AtT.zq rfl rfl jl (qi 0 3 [(n : Int)] _ _ (Sl.lit hq16 rfl (by simp))) ?_
 rintro _ rfl; rw [jm, decide_eq_true c1]
 refine AtT.qW ?_
 refine AtT.zg ?_
 refine AtT.done ?_
 refine At.nrm ?_
 refine At.qX rfl rfl ?_
 refine At.nrm ?_
 refine At.zl (.q 0 (.q 1 (.n false 2 (.q 3 (.n true 4 .done))))) ?_
 first | refine AtT.zi zw ?_ | with_reducible refine AtT.zk zw ?_ | refine AtT.zn zw ?_
 first | refine AtT.zm zV ?_ | refine AtT.zo zV ?_
 refine AtT.qg rfl rfl ok77 (clone_f s.rows hne (by omega) _ _ (hs.le (by assumption))) ?_
 rintro _ V22 hV22 ⟨a22, c22, rfl, hs22⟩
 first | refine AtT.zi zw ?_ | with_reducible refine AtT.zk zw ?_ | refine AtT.zn zw ?_
 first | refine AtT.jd zV ?_ | refine AtT.zW zV ?_
 refine AtT.done ?_
 refine At.nrm ?_
 refine At.nrm ?_
 refine At.zl (.q 0 (.q 1 .done)) ?_
 refine AtT.zh ?_
 refine AtT.zh ?_
 refine AtT.done ?_
 refine At.nrm ?_
 refine At.lp (ι := Nat × Option Addr × Nat) (KS := fun g => [(2, .pointer (some ⟨b2, 0, none⟩)), (4, .pointer (some ⟨b4, 0, none⟩)), (24, iv n), (25, iv g.1)])
  (OS := fun g => [.blk b2 (LC [.slice g.2.1 (tnN s g.1).rows.length g.2.2, iv (tnN s g.1).most] 24), .blk b4 (LC [.slice none 0 0, iv 0] 24)]) (VS := fun g V' => Le V22 V' ∧ g.1 ≤ n ∧ Sl V' bse 1 (.slice g.2.1 (tnN s g.1).rows.length g.2.2) (tnN s g.1).rows) (μ := fun g => n - g.1) (0, a22, c22) ?_ ?_ ?_ ?_
 ·exact ⟨rfl, rfl, rfl, rfl, trivial⟩
 ·exact Pt.zM
 ·exact ⟨Le.refl _, Nat.zero_le _, hs22⟩
 rintro ⟨k, a6, c6⟩ V3 ks' O' ⟨hV3, hkn, hs6⟩ hk hO hl3
 dsimp only at hkn hk hO hs6
 subst hk hO
 have hrk := rct_tnN hr k
 refine At.nrm ?_
 refine At.zl (.q 0 .done) ?_
 refine AtT.zY ?_
 refine AtT.done ?_
 refine At.nrm ?_
 refine At.qc rfl (fun hp => ?_) (fun hp => ?_)
 rotate_left
 ·obtain rfl : k = n := by omega
  refine At.nrm ?_
  refine At.zl (.q 0 (.n true 1 (.q 2 .done))) ?_
  first | refine AtT.zD zP ?_ | refine AtT.zK zP ?_ | refine AtT.zC zP ?_
  refine AtT.zW zP ?_
  refine AtT.zg ?_
  refine AtT.done ?_
  refine At.nrm ?_
  exact At.je rfl (.agg rfl zP zX.zM rfl) (.tmp rfl) ⟨_, by rw [e], by rw [e]; exact ⟨a6, c6, rfl, hs6⟩⟩
 refine At.nrm ?_
 refine At.zl (.q 0 (.n false 1 (.n true 2 .done))) ?_
 first | refine AtT.zD zP ?_ | refine AtT.zK zP ?_ | refine AtT.zC zP ?_
 refine AtT.qg rfl rfl ok78 (turned_f (tnN s k) hrk.n hrk.w.2 hrk.sz _ _ ⟨a6, c6, rfl, hs6⟩) ?_
 rintro _ V28 hV28 ⟨a7, c7, rfl, hs7⟩
 refine AtT.zW zP ?_
 refine AtT.done ?_
 refine At.nrm ?_
 refine At.nrm ?_
 refine At.zl (.q 0 (.q 1 .done)) ?_
 first | refine AtT.qj ?_ | refine AtT.zU ?_
 refine AtT.zh ?_
 refine AtT.done ?_
 refine At.nrm ?_
 refine At.round (k + 1, a7, c7) ?_ ?_ ?_ ?_
 ·show n - (k + 1) < n - k; omega
 ·exact ⟨hV3.trans (by first | assumption | exact Le.trans (by assumption) (by assumption)), by dsimp only; omega, hs7⟩
 ·exact ⟨rfl, rfl, rfl, ivs (by dsimp only; omega), trivial⟩
 ·exact Pt.zM
end Go.Proofs.YtghomjjffllkeaaGreatDoor
set_option linter.unusedVariables false
namespace Go.Pm
open Go.Gl Go.Lw
def eqK (s t : Sh) (k : Nat) : Prop := (tnN s k).most = t.most ∧ (tnN s k).rows = t.rows
instance (s t : Sh) (k : Nat) : Decidable (eqK s t k) := by unfold eqK; infer_instance
def saF (s t : Sh) : Nat → Nat → Int × Int
 | 0, _ => (0, 15)
 | f + 1, k => if eqK s t k then ((k : Int), 0) else saF s t f (k + 1)
def saR (s t : Sh) : Int × Int := if chE s ≠ 0 then (0, chE s) else if chE t ≠ 0 then (0, chE t) else saF s t 4 0
end Go.Pm
namespace Go.Proofs.YtghomjjffllkeaaGreatDoor
open Go.Lw Go.Gl Go.Pm Go.RowKit Go.Shelf
theorem same_f (s t : Sh) (V : View) (v u : Value) (hv : ShV V v s) (hu : ShV V u t) : Fnc Tryz.prog 40 [v, u] V fun r _ => r = .tuple #[iv (saR s t).1, iv (saR s t).2] := by
 obtain ⟨a, c, rfl, hs⟩ := id hv
 obtain ⟨a1, c1, rfl, ht⟩ := id hu
 refine qh Tryz.func40 rfl Tryz.ntmps40 (Nat.le_of_ble_eq_true rfl) ?_
 intro w0 hw0
 refine At.nrm ?_
 refine At.zl (.n false 0 (.n false 1 (.q 2 (.q 3 .done)))) ?_
 refine AtT.qZ ?_
 intro b2
 refine AtT.qZ ?_
 intro b3
 refine AtT.zg ?_
 refine AtT.zg ?_
 refine AtT.done ?_
 refine At.nrm ?_
 refine At.zl (.q 0 (.n false 1 (.q 2 .done))) ?_
 first | refine AtT.zD zP ?_ | refine AtT.zK zP ?_ | refine AtT.zC zP ?_
 refine AtT.zq rfl rfl ok19 (sheetP_f s _ _ hv) ?_
 rintro _ rfl
 refine AtT.zg ?_
 refine AtT.done ?_
 refine At.nrm ?_
 refine At.nrm ?_
 refine At.zl (.q 0 (.q 1 .done)) ?_
 refine AtT.zh ?_
 refine AtT.qG ?_
 refine AtT.done ?_
 refine At.nrm ?_
 refine At.qc rfl (fun h0 => ?_) (fun h0 => ?_)
 ·refine At.nrm ?_
  refine At.zl (.q 0 (.q 1 (.q 2 .done))) ?_
  refine AtT.zh ?_
  refine AtT.zg ?_
  refine AtT.zg ?_
  refine AtT.done ?_
  refine At.nrm ?_
  exact At.je rfl (.tmp rfl) (.tmp rfl) (by unfold saR; rw [if_pos h0])
 refine At.nrm ?_
 refine At.zl (.q 0 (.n false 1 (.q 2 .done))) ?_
 first | refine AtT.zD zP ?_ | refine AtT.zK zP ?_ | refine AtT.zC zP ?_
 refine AtT.zq rfl rfl ok19 (sheetP_f t _ _ hu) ?_
 rintro _ rfl
 refine AtT.zg ?_
 refine AtT.done ?_
 refine At.nrm ?_
 refine At.nrm ?_
 refine At.zl (.q 0 (.q 1 .done)) ?_
 refine AtT.zh ?_
 refine AtT.qG ?_
 refine AtT.done ?_
 refine At.nrm ?_
 refine At.qc rfl (fun h1 => ?_) (fun h1 => ?_)
 ·refine At.nrm ?_
  refine At.zl (.q 0 (.q 1 (.q 2 .done))) ?_
  refine AtT.zh ?_
  refine AtT.zg ?_
  refine AtT.zg ?_
  refine AtT.done ?_
  refine At.nrm ?_
  exact At.je rfl (.tmp rfl) (.tmp rfl) (by unfold saR; rw [if_neg h0, if_pos h1])
 have hr := rct_ok (jq (Classical.not_not.1 h0))
 have hres : saR s t = saF s t 4 0 := by unfold saR; rw [if_neg h0, if_neg h1]
 rw [hres]
 refine At.nrm ?_
 refine At.zl (.q 0 .done) ?_
 refine AtT.zh ?_
 refine AtT.done ?_
 refine At.nrm ?_
 refine At.lp (ι := Nat × Option Addr × Nat) (KS := fun g => [(2, .pointer (some ⟨b2, 0, none⟩)), (3, .pointer (some ⟨b3, 0, none⟩)), (19, iv g.1)]) (OS := fun g => [.blk b2 (LC [.slice g.2.1 (tnN s g.1).rows.length g.2.2, iv (tnN s g.1).most] 24), .blk b3 (LC [.slice a1 t.rows.length c1, iv t.most] 24)])
  (VS := fun g V' => Le V V' ∧ g.1 ≤ 4 ∧ Sl V' bse 1 (.slice g.2.1 (tnN s g.1).rows.length g.2.2) (tnN s g.1).rows ∧ saF s t (4 - g.1) g.1 = saF s t 4 0) (μ := fun g => 4 - g.1) (0, a, c) ?_ ?_ ?_ ?_
 ·exact ⟨rfl, rfl, rfl, trivial⟩
 ·exact Pt.zM
 ·exact ⟨Le.refl _, Nat.zero_le _, hs, rfl⟩
 rintro ⟨k, a6, c6⟩ V' ks' O' ⟨hVV, hk4, hs6, hsa⟩ hk hO hl2
 dsimp only at hk4 hs6 hsa hk hO
 subst hk hO
 rw [← hsa]
 have ht2 := ht.le hVV
 have hrk := rct_tnN hr k
 refine At.nrm ?_
 refine At.zl (.q 0 .done) ?_
 refine AtT.zY ?_
 refine AtT.done ?_
 refine At.nrm ?_
 refine At.qc rfl (fun hp => ?_) (fun hp => ?_)
 rotate_left
 ·obtain rfl : k = 4 := by omega
  refine At.nrm ?_
  refine At.zl (.q 0 (.q 1 .done)) ?_
  refine AtT.zg ?_
  refine AtT.zg ?_
  refine AtT.done ?_
  refine At.nrm ?_
  exact At.je rfl (.tmp rfl) (.tmp rfl) rfl
 have hst : saF s t (4 - k) k = if eqK s t k then ((k : Int), 0) else saF s t (4 - (k + 1)) (k + 1) := by
  rw [show 4 - k = (4 - (k + 1)) + 1 by omega]; rfl
 refine At.nrm ?_
 refine At.zl (.q 0 (.q 1 .done)) ?_
 refine AtT.zh ?_
 refine AtT.zg ?_
 refine AtT.done ?_
 refine At.nrm ?_
 refine At.nrm ?_
 refine At.jo (ι := Unit) (fun _ => [(2, .pointer (some ⟨b2, 0, none⟩)), (3, .pointer (some ⟨b3, 0, none⟩)), (19, iv k), (8, iv k), (33, .bool (decide (eqK s t k)))]) (fun _ => [.blk b2 (LC [.slice a6 (tnN s k).rows.length c6, iv (tnN s k).most] 24), .blk b3 (LC [.slice a1 t.rows.length c1, iv t.most] 24)]) (fun _ V'' => V' = V'') ?_ ?_
 ·by_cases hm : (tnN s k).most = t.most
  ·have e : decide (eqK s t k) = decide ((tnN s k).rows = t.rows) := by unfold eqK; simp [hm]
   rw [e]
   refine At.zl (.q 0 (.q 1 (.q 2 (.q 3 (.q 4 (.q 5 (.q 6 (.q 7 (.q 8 (.q 9 (.n false 10 (.q 11 .done)))))))))))) ?_
   first | refine AtT.zi zR ?_ | with_reducible refine AtT.zk zR ?_ | refine AtT.zn zR ?_
   first | refine AtT.zm tk3 ?_ | refine AtT.zo tk3 ?_
   first | refine AtT.zi zR ?_ | with_reducible refine AtT.zk zR ?_ | refine AtT.zn zR ?_
   first | refine AtT.zm tk3 ?_ | refine AtT.zo tk3 ?_
   refine AtT.keqI ?_
   refine AtT.qJ (d := 26) rfl (hm) ?_
   refine AtT.zh ?_
   all_goals (first | refine AtT.kL 27 ?_ | refine AtT.zB (d := 27) rfl (fun hg27 => ?_) (fun hg27 => ?_) | refine AtT.zA (d := 27) rfl (fun hg27 => ?_) (fun hg27 => ?_))
   all_goals first|refine AtT.zf ?_|refine AtT.ze ?_|(first | refine AtT.zi zw ?_ | with_reducible refine AtT.zk zw ?_ | refine AtT.zn zw ?_)
   all_goals first|refine AtT.zf ?_|refine AtT.ze ?_|(first | refine AtT.zm zV ?_ | refine AtT.zo zV ?_)
   all_goals first|refine AtT.zf ?_|refine AtT.ze ?_|(first | refine AtT.zi zw ?_ | with_reducible refine AtT.zk zw ?_ | refine AtT.zn zw ?_)
   all_goals first|refine AtT.zf ?_|refine AtT.ze ?_|(first | refine AtT.zm zV ?_ | refine AtT.zo zV ?_)
   all_goals first|refine AtT.zO ?_|refine AtT.zI ?_|((refine AtT.zq rfl rfl ok80 (equalS_f (tnN s k).rows t.rows _ _ _ hs6 ht2) ?_) ; (rintro _ rfl))
   all_goals (refine AtT.zz ?_)
   all_goals refine AtT.done ?_
   all_goals (refine At.nrm ?_)
   all_goals (exact At.qC () rfl ⟨rfl, rfl, rfl, rfl, rfl, trivial⟩ Pt.zM)
  ·rw [show decide (eqK s t k) = false from decide_eq_false (fun e => hm e.1)]
   refine At.zl (.q 0 (.q 1 (.q 2 (.q 3 (.q 4 (.q 5 (.q 6 (.q 7 (.q 8 (.q 9 (.n false 10 (.q 11 .done)))))))))))) ?_
   first | refine AtT.zi zR ?_ | with_reducible refine AtT.zk zR ?_ | refine AtT.zn zR ?_
   first | refine AtT.zm tk3 ?_ | refine AtT.zo tk3 ?_
   first | refine AtT.zi zR ?_ | with_reducible refine AtT.zk zR ?_ | refine AtT.zn zR ?_
   first | refine AtT.zm tk3 ?_ | refine AtT.zo tk3 ?_
   refine AtT.keqI ?_
   refine AtT.qm (d := 26) rfl (hm) ?_
   refine AtT.zh ?_
   all_goals (first | refine AtT.kL 27 ?_ | refine AtT.zB (d := 27) rfl (fun hg27 => ?_) (fun hg27 => ?_) | refine AtT.zA (d := 27) rfl (fun hg27 => ?_) (fun hg27 => ?_))
   all_goals first|refine AtT.zf ?_|refine AtT.ze ?_|(first | refine AtT.zi zw ?_ | with_reducible refine AtT.zk zw ?_ | refine AtT.zn zw ?_)
   all_goals first|refine AtT.zf ?_|refine AtT.ze ?_|(first | refine AtT.zm zV ?_ | refine AtT.zo zV ?_)
   all_goals first|refine AtT.zf ?_|refine AtT.ze ?_|(first | refine AtT.zi zw ?_ | with_reducible refine AtT.zk zw ?_ | refine AtT.zn zw ?_)
   all_goals first|refine AtT.zf ?_|refine AtT.ze ?_|(first | refine AtT.zm zV ?_ | refine AtT.zo zV ?_)
   all_goals first|refine AtT.zO ?_|refine AtT.zI ?_|((fail))
   all_goals (refine AtT.zz ?_)
   all_goals refine AtT.done ?_
   all_goals (refine At.nrm ?_)
   all_goals (exact At.qC () rfl ⟨rfl, rfl, rfl, rfl, rfl, trivial⟩ Pt.zM)
 rintro _ _ ks' O' rfl hk hO hl3
 subst hk hO
 refine At.qc rfl (fun he => ?_) (fun he => ?_)
 ·rw [if_pos he] at hst
  rw [hst]
  refine At.nrm ?_
  refine At.zl (.q 0 (.q 1 (.q 2 .done))) ?_
  refine AtT.zh ?_
  refine AtT.zg ?_
  refine AtT.zg ?_
  refine AtT.done ?_
  refine At.nrm ?_
  exact At.je rfl (.tmp rfl) (.tmp rfl) rfl
 ·rw [if_neg he] at hst
  refine At.nrm ?_
  refine At.zl (.q 0 (.n false 1 (.n true 2 .done))) ?_
  first | refine AtT.zD zP ?_ | refine AtT.zK zP ?_ | refine AtT.zC zP ?_
  refine AtT.qg rfl rfl ok78 (turned_f (tnN s k) hrk.n hrk.w.2 hrk.sz _ _ ⟨a6, c6, rfl, hs6⟩) ?_
  rintro _ V36 hV36 ⟨a7, c7, rfl, hs7⟩
  refine AtT.zW zP ?_
  refine AtT.done ?_
  refine At.nrm ?_
  refine At.nrm ?_
  refine At.zl (.q 0 (.q 1 .done)) ?_
  first | refine AtT.qj ?_ | refine AtT.zU ?_
  refine AtT.zh ?_
  refine AtT.done ?_
  refine At.nrm ?_
  refine At.round (k + 1, a7, c7) ?_ ?_ ?_ ?_
  ·show 4 - (k + 1) < 4 - k; omega
  ·exact ⟨hVV.trans (by first | assumption | exact Le.trans (by assumption) (by assumption)), by dsimp only; omega, hs7, by dsimp only; rw [← hst, hsa]⟩
  ·exact ⟨rfl, rfl, ivs (by dsimp only; omega), trivial⟩
  ·exact Pt.zM
end Go.Proofs.YtghomjjffllkeaaGreatDoor
set_option linter.unusedVariables false
namespace Go.Proofs.YtghomjjffllkeaaGreatDoor
open Go.Lw Go.Gl Go.Pm Go.RowKit Go.Shelf
theorem sheet_f (m : Int) (a : Option Addr) (l : List ByteArray) (c : Nat) (V : View) (hs : Sl V bse 1 (.slice a l.length c) l) : Fnc Tryz.prog 81 [iv m, .slice a l.length c] V fun r V' => ShV V' r ⟨l, m⟩ := by
 refine qh Tryz.func81 rfl Tryz.ntmps81 (Nat.le_of_ble_eq_true rfl) ?_
 intro w0 hw0
 refine At.nrm ?_
 refine At.zl (.n false 0 .done) ?_
 refine AtT.qx z24 ?_
 intro b4
 refine AtT.done ?_
 refine At.nrm ?_
 refine At.zl (.q 0 (.q 1 (.q 2 (.n true 3 .done)))) ?_
 refine AtT.zh ?_
 refine AtT.zh ?_
 refine AtT.ja (bd24_0_1 _ _ _ _) ?_
 refine AtT.zW zP ?_
 refine AtT.done ?_
 refine At.nrm ?_
 exact At.qb rfl (.agg rfl zP zX.zM rfl) ⟨a, c, rfl, hs⟩
def rF1 : ByteArray := ⟨#[111, 46, 46, 111]⟩
def rF2 : ByteArray := ⟨#[46, 35, 46, 46]⟩
def zJ (m : Int) : Sh := ⟨[rF1, rF2, rF1], m⟩
theorem four_f (m : Int) (V : View) : Fnc Tryz.prog 52 [iv m] V fun r V' => ShV V' r (zJ m) := by
 refine qh Tryz.func52 rfl Tryz.ntmps52 (Nat.le_of_ble_eq_true rfl) ?_
 intro w0 hw0
 refine At.nrm ?_
 refine At.zl (.n false 0 .done) ?_
 refine AtT.qx z24 ?_
 intro b2
 refine AtT.done ?_
 refine At.nrm ?_
 refine At.zl (.q 0 (.n false 1 (.n false 2 (.n true 3 .done)))) ?_
 refine AtT.zh ?_
 refine AtT.zu (bs22_3_0_1_2 _ _ _) ?_
 intro q4 V4 hV4 hq4
 have g4 : Le V V4 := by first | exact hV4 | exact Le.trans (by assumption) hV4
 refine AtT.qg rfl rfl ok81 (sheet_f m _ [rF1, rF2, rF1] 3 _ (Sl.of_cells (l := [rF1, rF2, rF1]) bse_len hq4 (Nat.le_refl _) (by unfold maxLen; decide))) ?_
 rintro _ V5 hV5 ⟨a5, c5, rfl, hs5⟩
 refine AtT.zW zP ?_
 refine AtT.done ?_
 refine At.nrm ?_
 exact At.qb rfl (.agg rfl zP zX.zM rfl) ⟨a5, c5, rfl, hs5⟩
def rT1 : ByteArray := ⟨#[111, 46, 111]⟩
def rT2 : ByteArray := ⟨#[46, 35, 46]⟩
def rT3 : ByteArray := ⟨#[46, 46, 46]⟩
def qH : Sh := ⟨[rT1, rT2, rT3, rT1], 4⟩
theorem turned54_f (V : View) : Fnc Tryz.prog 54 [] V fun r V' => ShV V' r qH := by
 refine qh Tryz.func54 rfl Tryz.ntmps54 (Nat.le_of_ble_eq_true rfl) ?_
 intro w0 hw0
 refine At.nrm ?_
 refine At.zl (.n false 0 .done) ?_
 refine AtT.qx z24 ?_
 intro b0
 refine AtT.done ?_
 refine At.nrm ?_
 refine At.zl (.n false 0 (.n false 1 (.n true 2 .done))) ?_
 refine AtT.zu (bs22_4_0_1_2_3 _ _ _ _) ?_
 intro q1 V1 hV1 hq1
 have g1 : Le V V1 := by first | exact hV1 | exact Le.trans (by assumption) hV1
 refine AtT.qg rfl rfl ok81 (sheet_f 4 _ [rT1, rT2, rT3, rT1] 4 _ (Sl.of_cells (l := [rT1, rT2, rT3, rT1]) bse_len hq1 (Nat.le_refl _) (by unfold maxLen; decide))) ?_
 rintro _ V2 hV2 ⟨a5, c5, rfl, hs5⟩
 refine AtT.zW zP ?_
 refine AtT.done ?_
 refine At.nrm ?_
 exact At.qb rfl (.agg rfl zP zX.zM rfl) ⟨a5, c5, rfl, hs5⟩
end Go.Proofs.YtghomjjffllkeaaGreatDoor
set_option linter.unusedVariables false
set_option maxRecDepth 20000
namespace Go.Pm
open Go.Gl Go.Lw
def okT (g : Gd) (K : List Cl) (b i q : Nat) : Bool := decide (q &&& b = q) && q.testBit i && decide (peE g (bbx (sel K q)) = 0)
def wT (W : List (Nat × Int)) (r : Nat) : Nat × Int := W.getD r (0, 0)
def geT (g : Gd) (K : List Cl) (W : List (Nat × Int)) (b q : Nat) : Bool := decide ((wT W b).1 < (wT W (qI b q)).1 + 1 ∨ (wT W b).1 = (wT W (qI b q)).1 + 1 ∧ (wT W b).2 ≤ (wT W (qI b q)).2 + arP (bbx (sel K q)))
def eqT (g : Gd) (K : List Cl) (W : List (Nat × Int)) (b q : Nat) : Bool := decide ((wT W b).1 = (wT W (qI b q)).1 + 1 ∧ (wT W b).2 = (wT W (qI b q)).2 + arP (bbx (sel K q)))
def lwT (b : Nat) : Nat := (List.range b).findIdx fun i => b.testBit i
def ckT (g : Gd) (K : List Cl) (W : List (Nat × Int)) (b : Nat) : Bool :=
 if b = 0 then decide (wT W 0 = (0, 0)) else b.testBit (lwT b) && ((List.range (b + 1)).all fun q => !okT g K b (lwT b) q || geT g K W b q) && ((List.range (b + 1)).any fun q => okT g K b (lwT b) q && eqT g K W b q)
theorem and_eq_sub {q b : Nat} (h : q &&& b = q) : SubB q b := fun i hi => by
 rw [← h, Nat.testBit_and, Bool.and_eq_true] at hi; exact hi.2
theorem sub_and {q b : Nat} (h : SubB q b) : q &&& b = q := Nat.eq_of_testBit_eq fun i => by
 rw [Nat.testBit_and]
 cases c : q.testBit i with
 | false => rfl
 | true => rw [h i c]; rfl
theorem best_tab {g : Gd} (hg : GOk g) {K : List Cl} (hon : ∀ k ∈ K, OnG g k) (hK : K.length ≤ 10) {W : List (Nat × Int)} (h : ((List.range (2 ^ K.length)).all (ckT g K W)) = true) (b : Nat) (hb : b < 2 ^ K.length) : jr g (sel K b) (wT W b).1 (wT W b).2 := by
 induction b using Nat.strongRecOn with
 | ind b ih =>
  have hc := List.all_eq_true.1 h b (List.mem_range.2 hb)
  unfold ckT at hc
  by_cases h0 : b = 0
  ·rw [if_pos h0, decide_eq_true_eq] at hc
   subst h0
   rw [hc]
   have e : sel K 0 = [] := by
    cases e : sel K 0 with
    | nil => rfl
    | cons x l =>
     obtain ⟨i, _, hi⟩ := qY.1 (show x ∈ sel K 0 by rw [e]; exact List.mem_cons_self)
     rw [Nat.zero_testBit] at hi; cases hi
   rw [e]; exact best_nil
  ·rw [if_neg h0, Bool.and_eq_true, Bool.and_eq_true] at hc
   obtain ⟨⟨c1, c2⟩, c3⟩ := hc
   have hto : ∀ q, okT g K b (lwT b) q = true ↔ Cand g K b (lwT b) q := fun q => by
    unfold okT
    rw [Bool.and_eq_true, Bool.and_eq_true, decide_eq_true_eq, decide_eq_true_eq, peE_iff]
    exact ⟨fun ⟨⟨a, d⟩, e⟩ => ⟨and_eq_sub a, d, e⟩, fun ⟨a, d, e⟩ => ⟨⟨sub_and a, d⟩, e⟩⟩
   refine best_bits hg hon hK hb c1 (W := wT W) (fun r hr => ih r hr (by omega)) ?_ fun q hq => ?_
   ·obtain ⟨q, hq, hd⟩ := List.any_eq_true.1 c3
    rw [Bool.and_eq_true] at hd
    have := of_decide_eq_true hd.2
    exact ⟨q, (hto q).1 hd.1, this⟩
   ·have := List.all_eq_true.1 c2 q (List.mem_range.2 (by have := sub_le hq.sub; omega))
    rw [Bool.or_eq_true, Bool.not_eq_true', (hto q).2 hq] at this
    rcases this with h | h
    ·cases h
    ·exact of_decide_eq_true h
theorem isPart_of {N : Nat} {S : Nat → Nat → Bool} {i : Nat} {l : List Int} (hs : l.Pairwise (· < ·)) (h0 : (i : Int) ∈ l) (hr : ∀ x ∈ l, ∃ k : Nat, x = (k : Int) ∧ Rch N S i k) (hc : ∀ x ∈ l, ∀ k, k < N → S x.toNat k = true → (k : Int) ∈ l) : IsPart N S i l := by
 refine ⟨hs, fun x => ⟨hr x, ?_⟩⟩
 rintro ⟨k, rfl, h⟩
 induction h with
 | refl => exact h0
 | step h1 hk hS ih => exact hc _ ih _ hk (by rw [Int.toNat_natCast]; exact hS)
end Go.Pm
namespace Go.Proofs.YtghomjjffllkeaaGreatDoor
open Go.Gl Go.Lw Go.Pm
theorem w0 : chE (zJ 4) = 0 := by decide +kernel
theorem w1 : ckR (zJ 4) ⟨0, 0, 1, 4⟩ = 0 := by decide +kernel
theorem w2 : ckR (zJ 4) ⟨0, 0, 2, 2⟩ = 20 := by decide +kernel
theorem w3 : ckR (zJ 4) ⟨0, 1, 1, 4⟩ = 3 := by decide +kernel
theorem w4 : ckR (zJ 4) ⟨0, 2, 3, 2⟩ = 4 := by decide +kernel
theorem w5 : cpR (zJ 4) [⟨0, 0, 1, 4⟩, ⟨2, 0, 1, 4⟩] = (8, 0) := by decide +kernel
theorem w6 : cpR (zJ 4) [⟨0, 0, 1, 4⟩] = (0, 14) := by decide +kernel
def tabW : List (Nat × Int) := [(0, 0), (1, 1), (1, 1), (1, 4), (1, 1), (1, 3), (2, 2), (2, 4), (1, 1), (2, 2), (1, 3), (2, 4), (1, 4), (2, 4), (2, 4), (2, 6)]
theorem wTab : ((List.range (2 ^ (knL (zJ 4)).length)).all (ckT (gdS (zJ 4)) (knL (zJ 4)) tabW)) = true := by decide +kernel
theorem wB : jr (gdS (zJ 4)) (knL (zJ 4)) 2 6 := by
 have ho := jq w0
 have := best_tab (sh_gok ho) (kn_on ho) ho.kn wTab 15 (by decide +kernel)
 refine best_mem this fun k => ?_
 rw [show sel (knL (zJ 4)) 15 = knL (zJ 4) by decide +kernel]
theorem wA : aloL (zJ 4) = [0, 3] := by decide +kernel
theorem wC1 : cAe (zJ 4) [1, 2] = 0 := by decide +kernel
theorem wC2 : cAe (zJ 4) [0, 1] = 16 := by decide +kernel
theorem wC3 : cAe (zJ 4) [3, 0] = 3 := by decide +kernel
theorem w30 : chE (zJ 3) = 0 := by decide +kernel
theorem wL : laR (zJ 36) = (⟨0, 2, 3, 2⟩, 0) := by decide +kernel
theorem wT1 : (tuR (zJ 4) 1).2 = 0 := by decide +kernel
theorem wT1e : (tuR (zJ 4) 1).1.most = qH.most ∧ (tuR (zJ 4) 1).1.rows = qH.rows := by decide +kernel
theorem wT4 : (tuR (zJ 4) 4).2 = 2 := by decide +kernel
theorem wS1 : saR (zJ 4) qH = (1, 0) := by decide +kernel
theorem wS2 : saR (zJ 4) (zJ 3) = (0, 15) := by decide +kernel
theorem rch1 {N : Nat} {S : Nat → Nat → Bool} {i k : Nat} (hk : k < N) (h : S i k = true) : Rch N S i k := .step .refl hk h
def clD (N : Nat) (S : Nat → Nat → Bool) (l : List Int) : Bool := l.all fun x => (List.range N).all fun k => !S x.toNat k || l.contains (k : Int)
theorem clD_h {N : Nat} {S : Nat → Nat → Bool} {l : List Int} (h : clD N S l = true) : ∀ x ∈ l, ∀ k, k < N → S x.toNat k = true → (k : Int) ∈ l := fun x hx k hk hs => by
 have := List.all_eq_true.1 (List.all_eq_true.1 h x hx) k (List.mem_range.2 hk)
 rw [hs] at this
 simpa using this
theorem wP : PrtK (knL (zJ 3)).length (shN (gdS (zJ 3)) (knL (zJ 3))) (knL (zJ 3)).length [[0, 2], [1, 3]] := by
 have e : (knL (zJ 3)).length = 4 := by decide +kernel
 rw [e]
 have p0 : IsPart 4 (shN (gdS (zJ 3)) (knL (zJ 3))) 0 [0, 2] := isPart_of (by decide) (by decide) (fun x hx => by
  simp only [List.mem_cons, List.not_mem_nil, or_false] at hx
  rcases hx with rfl | rfl
  ·exact ⟨0, rfl, .refl⟩
  ·exact ⟨2, rfl, rch1 (by decide) (by decide +kernel)⟩) (clD_h (by decide +kernel))
 have p1 : IsPart 4 (shN (gdS (zJ 3)) (knL (zJ 3))) 1 [1, 3] := isPart_of (by decide) (by decide) (fun x hx => by
  simp only [List.mem_cons, List.not_mem_nil, or_false] at hx
  rcases hx with rfl | rfl
  ·exact ⟨1, rfl, .refl⟩
  ·exact ⟨3, rfl, rch1 (by decide) (by decide +kernel)⟩) (clD_h (by decide +kernel))
 exact .skip (.skip (.add (.add .zero (by decide) p0) (by decide) p1) (by decide)) (by decide)
end Go.Proofs.YtghomjjffllkeaaGreatDoor
set_option linter.unusedVariables false
namespace Go.Pm
open Go.Gl Go.Lw
def flP : List Pc → List Int
 | [] => []
 | p :: ps => p.t :: p.l :: p.h :: p.w :: flP ps
theorem flP_len : ∀ ps : List Pc, (flP ps).length = 4 * ps.length
 | [] => rfl
 | p :: ps => by simp only [flP, List.length_cons, flP_len ps]; omega
theorem flP_at : ∀ {ps : List Pc} {k : Nat} {p : Pc}, ps[k]? = some p → (flP ps)[4 * k]? = some p.t ∧ (flP ps)[4 * k + 1]? = some p.l ∧ (flP ps)[4 * k + 2]? = some p.h ∧ (flP ps)[4 * k + 3]? = some p.w
 | [], k, p, h => by simp at h
 | q :: ps, 0, p, h => by simp at h; subst h; exact ⟨rfl, rfl, rfl, rfl⟩
 | q :: ps, k + 1, p, h => by
  obtain ⟨a, b, c, d⟩ := flP_at (ps := ps) (k := k) (by simpa using h)
  rw [show 4 * (k + 1) = 4 * k + 1 + 1 + 1 + 1 by omega]
  simp only [flP, List.getElem?_cons_succ]
  exact ⟨a, b, c, d⟩
end Go.Pm
namespace Go.Proofs.YtghomjjffllkeaaGreatDoor
open Go.Lw Go.Gl Go.Pm Go.RowKit Go.Shelf
theorem qB (ps : List Pc) (h100 : ps.length ≤ 100) (V : View) (v : Value) (hv : SlI V v (flP ps)) : Fnc Tryz.prog 53 [v] V fun r V' => Sl V' pce 4 r ps := by
 have hln := flP_len ps
 obtain ⟨a, c, rfl, q1, q2, _⟩ := id hv
 clear q1 q2
 refine qh Tryz.func53 rfl Tryz.ntmps53 (Nat.le_of_ble_eq_true rfl) ?_
 intro w0 hw0
 refine At.nrm ?_
 refine At.zl (.q 0 .done) ?_
 refine AtT.zg ?_
 refine AtT.done ?_
 refine At.nrm ?_
 refine At.zl (.q 0 .done) ?_
 refine AtT.zg ?_
 refine AtT.done ?_
 refine At.nrm ?_
 refine At.newRow 26 4 ?_
 refine At.zl (.q 0 .done) ?_
 refine AtT.zg ?_
 refine AtT.done ?_
 refine At.nrm ?_
 refine At.lp (ι := Nat × Option Addr × Nat) (KS := fun g => [(0, .slice a (flP ps).length c), (3, .slice g.2.1 (ps.take g.1).length g.2.2), (4, iv ((4 * g.1 : Nat) : Int))])
  (OS := fun g => [.row (.slice g.2.1 (ps.take g.1).length g.2.2) 26 4 (ps.take g.1).length (flat pce (ps.take g.1))])
  (VS := fun g V' => Le V V' ∧ g.1 ≤ ps.length) (μ := fun g => ps.length - g.1) (0, none, 0) ?_ ?_ ?_ ?_
 ·exact ⟨rfl, rfl, rfl, trivial⟩
 ·exact Pt.zM
 ·exact ⟨Le.refl _, Nat.zero_le _⟩
 rintro ⟨k, ao, co⟩ V' ks' O' ⟨hVV, hkl⟩ hk hO hl2
 dsimp only at hkl hk hO
 subst hk hO
 have hs' := hv.le hVV
 refine At.nrm ?_
 refine At.zl (.q 0 (.q 1 (.q 2 (.q 3 (.q 4 .done))))) ?_
 refine AtT.zh ?_
 first | refine AtT.qj ?_ | refine AtT.zU ?_
 refine AtT.zh ?_
 first | refine AtT.zZ Tryz.underlying39 ?_ | refine AtT.qa Tryz.underlying39 ?_
 refine AtT.zY ?_
 refine AtT.done ?_
 refine At.nrm ?_
 refine At.qc rfl (fun hp => ?_) (fun hp => ?_)
 rotate_left
 ·obtain rfl : k = ps.length := by omega
  refine At.nrm ?_
  refine At.sub (ks' := [(3, .slice ao ps.length co)]) ⟨by rw [List.take_length]; rfl, trivial⟩ ?_
  rw [List.take_length]
  refine At.giveSl (l := ps) pce_len rfl rfl zX.zM (fun V6 hV6 hs6 => ?_)
  refine At.zl (.q 0 (.q 1 .done)) ?_
  refine AtT.zh ?_
  refine AtT.zg ?_
  refine AtT.done ?_
  refine At.nrm ?_
  exact At.qb rfl (.tmp rfl) hs6
 obtain ⟨p, hpk⟩ : ∃ p, ps[k]? = some p := ⟨_, List.getElem?_eq_getElem (by omega)⟩
 obtain ⟨e1, e2, e3, e4⟩ := flP_at hpk
 have htl : (ps.take k).length ≤ 100 := by rw [List.length_take]; omega
 have hsn : ps.take (k + 1) = ps.take k ++ [p] := by rw [List.take_add_one, hpk]; rfl
 refine At.nrm ?_
 refine At.draw (.q 0 (.q 1 (.q 2 (.q 3 (.q 4 (.q 5 (.q 6 (.q 7 (.q 8 (.q 9 (.q 10 (.q 11 (.q 12 (.q 13 (.q 14 (.q 15 (.q 16 (.q 17 (.q 18 (.q 19 (.q 20 (.n false 21 (.n true 22 (.q 23 .done)))))))))))))))))))))))) ffm (by kernel_rfl) ?_
 refine AtT.zh ?_
 refine AtT.zh ?_
 refine AtT.zh ?_
 refine AtT.qo Tryz.underlying39 tk3 ?_
 intro p15 e15 he15 hc15
 first | refine AtT.zm tk3 ?_ | refine AtT.zo tk3 ?_
 obtain rfl : p.t = e15 := by have : (flP ps)[4 * k]? = some e15 := (by rw [show 4 * k = (((4 * k : Nat) : Int)).toNat by omega]; exact he15); rw [e1] at this; simpa using this
 refine AtT.zh ?_
 refine AtT.zh ?_
 first | refine AtT.qj ?_ | refine AtT.zU ?_
 refine AtT.qo Tryz.underlying39 tk3 ?_
 intro p20 e20 he20 hc20
 first | refine AtT.zm tk3 ?_ | refine AtT.zo tk3 ?_
 obtain rfl : p.l = e20 := by have : (flP ps)[4 * k + 1]? = some e20 := (by rw [show 4 * k + 1 = (((4 * k : Nat) : Int) + 1).toNat by omega]; exact he20); rw [e2] at this; simpa using this
 refine AtT.zh ?_
 refine AtT.zh ?_
 first | refine AtT.qj ?_ | refine AtT.zU ?_
 refine AtT.qo Tryz.underlying39 tk3 ?_
 intro p25 e25 he25 hc25
 first | refine AtT.zm tk3 ?_ | refine AtT.zo tk3 ?_
 obtain rfl : p.h = e25 := by have : (flP ps)[4 * k + 2]? = some e25 := (by rw [show 4 * k + 2 = (((4 * k : Nat) : Int) + 2).toNat by omega]; exact he25); rw [e3] at this; simpa using this
 refine AtT.zh ?_
 refine AtT.zh ?_
 first | refine AtT.qj ?_ | refine AtT.zU ?_
 refine AtT.qo Tryz.underlying39 tk3 ?_
 intro p30 e30 he30 hc30
 first | refine AtT.zm tk3 ?_ | refine AtT.zo tk3 ?_
 obtain rfl : p.w = e30 := by have : (flP ps)[4 * k + 3]? = some e30 := (by rw [show 4 * k + 3 = (((4 * k : Nat) : Int) + 3).toNat by omega]; exact he30); rw [e4] at this; simpa using this
 refine AtT.ja (bd26_0_1_2_3 _ _ _ _) ?_
 refine AtT.zu (bs27_1_0 _ _ _ _) ?_
 intro q33 V33 hV33 hq33
 have g33 : Le V V33 := by first | exact hV33 | exact Le.trans (by assumption) hV33
 first | refine AtT.kappend Tryz.underlying27 rw26 ?_
 intro a34 c34
 refine AtT.zg ?_
 refine AtT.done ?_
 refine At.nrm ?_
 refine At.nrm ?_
 refine At.zl (.q 0 (.q 1 (.q 2 .done))) ?_
 refine AtT.zh ?_
 first | refine AtT.qj ?_ | refine AtT.zU ?_
 refine AtT.zg ?_
 refine AtT.done ?_
 refine At.nrm ?_
 all_goals refine At.round (k + 1, a34, c34) ?_ ?_ ?_ ?_
 ·show ps.length - (k + 1) < ps.length - k; omega
 ·exact ⟨hVV.trans (by first | assumption | exact Le.refl _), by dsimp only; omega⟩
 ·dsimp only; rw [hsn, List.length_append]; exact ⟨rfl, rfl, ivs (by omega), trivial⟩
 ·dsimp only; rw [hsn, jg, List.length_append]; exact Pt.zM
end Go.Proofs.YtghomjjffllkeaaGreatDoor
set_option linter.unusedVariables false
set_option maxRecDepth 20000
namespace Go.Pm
open Go.Gl Go.Lw
theorem qK {p q : Pc} {h : [p][(0 : Int).toNat]? = some q} : p = q := by simpa using h
theorem fw_ok {s : Sh} {n e : Int} (h0 : chE s = 0) (h : FwS s n e) : e = 0 ∧ ∃ (m : Nat) (c : Int), n = m ∧ jr (gdS s) (knL s) m c := by
 rcases h with ⟨h, _⟩ | ⟨_, h⟩
 ·exact absurd h0 h
 ·exact h
theorem ce_ok {s : Sh} {n e : Int} (h0 : chE s = 0) (h : CeS s n e) : e = 0 ∧ ∃ (m : Nat), jr (gdS s) (knL s) m n := by
 rcases h with ⟨h, _⟩ | ⟨_, h⟩
 ·exact absurd h0 h
 ·exact h
theorem pt_ok {s : Sh} {e : Int} {ps : List Pc} (h0 : chE s = 0) (h : (chE s ≠ 0 ∧ e = chE s ∧ ps = []) ∨ (chE s = 0 ∧ e = 0 ∧ MnR (gdS s) (knL s) ps)) : e = 0 ∧ MnR (gdS s) (knL s) ps := by
 rcases h with ⟨h, _⟩ | ⟨_, h⟩
 ·exact absurd h0 h
 ·exact h
end Go.Pm
namespace Go.Proofs.YtghomjjffllkeaaGreatDoor
open Go.Lw Go.Gl Go.Pm Go.RowKit Go.Shelf
theorem fourOk : chE (zJ 4) = 0 := w0
set_option maxHeartbeats 3200000 in
theorem works_f (V : View) : Fnc Tryz.prog 16 [] V fun r _ => r = .bool true := by
 refine qh Tryz.func16 rfl Tryz.ntmps16 (Nat.le_of_ble_eq_true rfl) ?_
 intro w0 hw0
 refine At.nrm ?_
 refine At.zl (.q 0 .done) ?_
 refine AtT.zg ?_
 refine AtT.done ?_
 refine At.nrm ?_
 refine At.zl (.n false 0 (.n false 1 (.n false 2 (.n false 3 (.n true 4 (.n true 5 .done)))))) ?_
 refine AtT.qg rfl rfl ok52 (four_f 4 _) ?_
 rintro _ V36 hV36 ⟨a1, c1, rfl, hs1⟩
 refine AtT.qg rfl rfl ok54 (turned54_f _) ?_
 rintro _ V37 hV37 ⟨a2, c2, rfl, hs2⟩
 refine AtT.qx z24 ?_
 intro b1
 refine AtT.qx z24 ?_
 intro b2
 refine AtT.zW zP ?_
 refine AtT.zW zP ?_
 refine AtT.done ?_
 refine At.nrm ?_
 replace hs1 := hs1.le hV37
 have sv1 : ∀ {V' : View}, Sl V' bse 1 (.slice a1 (zJ 4).rows.length c1) (zJ 4).rows → ShV V' (.agg #[.slice a1 (zJ 4).rows.length c1, iv (zJ 4).most]) (zJ 4) := fun h => ⟨a1, c1, rfl, h⟩
 have sv2 : ∀ {V' : View}, Sl V' bse 1 (.slice a2 qH.rows.length c2) qH.rows → ShV V' (.agg #[.slice a2 qH.rows.length c2, iv qH.most]) qH := fun h => ⟨a2, c2, rfl, h⟩
 clear hV36 hV37
 refine At.jo (ι := Unit) (fun _ => [(1, .pointer (some ⟨b1, 0, none⟩)), (2, .pointer (some ⟨b2, 0, none⟩)), (3, iv 0), (4, iv 20)]) (fun _ => [.blk b1 (LC [.slice a1 (zJ 4).rows.length c1, iv (zJ 4).most] 24), .blk b2 (LC [.slice a2 qH.rows.length c2, iv qH.most] 24)]) (fun _ V'' => Sl V'' bse 1 (.slice a1 (zJ 4).rows.length c1) (zJ 4).rows ∧ Sl V'' bse 1 (.slice a2 qH.rows.length c2) qH.rows) ?_ ?_
 ·refine At.draw (.q 0 (.q 6 (.two 1 (.two 2 (.q 3 (.q 4 (.two 5 (.n false 7 (.n false 8 (.q 9 (.q 10 (.n false 11 (.q 12 (.q 13 .done))))))) 7 (.n false 5 (.n false 8 (.q 9 (.q 10 (.n false 11 (.q 12 (.q 13 .done)))))))))) 7 (.n false 2 (.q 3 (.q 4 (.n false 5 (.n false 8 (.q 9 (.q 10 (.n false 11 (.q 12 (.q 13 .done))))))))))) 7 (.n false 1 (.n false 2 (.q 3 (.q 4 (.n false 5 (.n false 8 (.q 9 (.q 10 (.n false 11 (.q 12 (.q 13 .done)))))))))))))) ffm (by kernel_rfl) ?_
  first | refine AtT.zD zP ?_ | refine AtT.zK zP ?_ | refine AtT.zC zP ?_
  first | refine AtT.zD zP ?_ | refine AtT.zK zP ?_ | refine AtT.zC zP ?_
  refine AtT.two ?_ ?_
  focus
   refine AtT.zu (qf _ _ _ _) ?_
   intro q39 V39 hV39 hq39
   (try replace hs1:=hs1.le hV39);(try replace hs2:=hs2.le hV39);(try replace s45:=s45.le hV39)
   have s39 : SlI V39 _ [0, 0, 1, 4] := Sl.lit hq39 rfl (by decide)
   refine AtT.two ?_ ?_
   focus
    refine AtT.qg rfl rfl ok53 (qB [⟨0, 0, 1, 4⟩] (by decide) _ _ (show SlI _ _ [0, 0, 1, 4] from s39)) ?_
    rintro _ V40 hV40 hp40; (try replace hs1:=hs1.le hV40); (try replace hs2:=hs2.le hV40); (try replace s45:=s45.le hV40); obtain ⟨a40, c40, rfl, k40, k40', _⟩ := id hp40; clear k40 k40'
    refine AtT.idx rfl trivial Tryz.underlying27 zS rfl hp40 rfl (by decide) (by decide) (by decide) ?_
    intro p41 e41 he41 hc41
    first | refine AtT.zD zS ?_ | refine AtT.zK zS ?_ | refine AtT.zC zS ?_
    obtain rfl : (⟨0, 0, 1, 4⟩ : Pc) = e41 := qK (h := he41)
    refine AtT.two ?_ ?_
    focus
     refine AtT.zq rfl rfl ok21 (ql (zJ 4) ⟨0, 0, 1, 4⟩ _ _ (sv1 hs1)) ?_
     rintro _ rfl; rw [w1]
     refine AtT.zu (qf _ _ _ _) ?_
     intro q45 V45 hV45 hq45
     (try replace hs1:=hs1.le hV45);(try replace hs2:=hs2.le hV45);(try replace s39:=s39.le hV45)
     have s45 : SlI V45 _ [0, 0, 2, 2] := Sl.lit hq45 rfl (by decide)
     refine AtT.qg rfl rfl ok53 (qB [⟨0, 0, 2, 2⟩] (by decide) _ _ (show SlI _ _ [0, 0, 2, 2] from s45)) ?_
     rintro _ V46 hV46 hp46; (try replace hs1:=hs1.le hV46); (try replace hs2:=hs2.le hV46); (try replace s39:=s39.le hV46); obtain ⟨a46, c46, rfl, k46, k46', _⟩ := id hp46; clear k46 k46'
     refine AtT.idx rfl trivial Tryz.underlying27 zS rfl hp46 rfl (by decide) (by decide) (by decide) ?_
     intro p47 e47 he47 hc47
     first | refine AtT.zD zS ?_ | refine AtT.zK zS ?_ | refine AtT.zC zS ?_
     obtain rfl : (⟨0, 0, 2, 2⟩ : Pc) = e47 := qK (h := he47)
     refine AtT.zq rfl rfl ok21 (ql (zJ 4) ⟨0, 0, 2, 2⟩ _ _ (sv1 hs1)) ?_
     rintro _ rfl; rw [w2]
     refine AtT.zg ?_
     refine AtT.zg ?_
     refine AtT.done ?_
    rotate_right
    focus
     refine AtT.zu (qf _ _ _ _) ?_
     intro q45 V45 hV45 hq45
     (try replace hs1:=hs1.le hV45);(try replace hs2:=hs2.le hV45);(try replace s39:=s39.le hV45)
     have s45 : SlI V45 _ [0, 0, 2, 2] := Sl.lit hq45 rfl (by decide)
     refine AtT.zq rfl rfl ok21 (ql (zJ 4) ⟨0, 0, 1, 4⟩ _ _ (sv1 hs1)) ?_
     rintro _ rfl; rw [w1]
     refine AtT.qg rfl rfl ok53 (qB [⟨0, 0, 2, 2⟩] (by decide) _ _ (show SlI _ _ [0, 0, 2, 2] from s45)) ?_
     rintro _ V46 hV46 hp46; (try replace hs1:=hs1.le hV46); (try replace hs2:=hs2.le hV46); (try replace s39:=s39.le hV46); obtain ⟨a46, c46, rfl, k46, k46', _⟩ := id hp46; clear k46 k46'
     refine AtT.idx rfl trivial Tryz.underlying27 zS rfl hp46 rfl (by decide) (by decide) (by decide) ?_
     intro p47 e47 he47 hc47
     first | refine AtT.zD zS ?_ | refine AtT.zK zS ?_ | refine AtT.zC zS ?_
     obtain rfl : (⟨0, 0, 2, 2⟩ : Pc) = e47 := qK (h := he47)
     refine AtT.zq rfl rfl ok21 (ql (zJ 4) ⟨0, 0, 2, 2⟩ _ _ (sv1 hs1)) ?_
     rintro _ rfl; rw [w2]
     refine AtT.zg ?_
     refine AtT.zg ?_
     refine AtT.done ?_
   rotate_right
   focus
    refine AtT.zu (qf _ _ _ _) ?_
    intro q45 V45 hV45 hq45
    (try replace hs1:=hs1.le hV45);(try replace hs2:=hs2.le hV45);(try replace s39:=s39.le hV45)
    have s45 : SlI V45 _ [0, 0, 2, 2] := Sl.lit hq45 rfl (by decide)
    refine AtT.qg rfl rfl ok53 (qB [⟨0, 0, 1, 4⟩] (by decide) _ _ (show SlI _ _ [0, 0, 1, 4] from s39)) ?_
    rintro _ V40 hV40 hp40; (try replace hs1:=hs1.le hV40); (try replace hs2:=hs2.le hV40); (try replace s45:=s45.le hV40); obtain ⟨a40, c40, rfl, k40, k40', _⟩ := id hp40; clear k40 k40'
    refine AtT.idx rfl trivial Tryz.underlying27 zS rfl hp40 rfl (by decide) (by decide) (by decide) ?_
    intro p41 e41 he41 hc41
    first | refine AtT.zD zS ?_ | refine AtT.zK zS ?_ | refine AtT.zC zS ?_
    obtain rfl : (⟨0, 0, 1, 4⟩ : Pc) = e41 := qK (h := he41)
    refine AtT.zq rfl rfl ok21 (ql (zJ 4) ⟨0, 0, 1, 4⟩ _ _ (sv1 hs1)) ?_
    rintro _ rfl; rw [w1]
    refine AtT.qg rfl rfl ok53 (qB [⟨0, 0, 2, 2⟩] (by decide) _ _ (show SlI _ _ [0, 0, 2, 2] from s45)) ?_
    rintro _ V46 hV46 hp46; (try replace hs1:=hs1.le hV46); (try replace hs2:=hs2.le hV46); (try replace s39:=s39.le hV46); obtain ⟨a46, c46, rfl, k46, k46', _⟩ := id hp46; clear k46 k46'
    refine AtT.idx rfl trivial Tryz.underlying27 zS rfl hp46 rfl (by decide) (by decide) (by decide) ?_
    intro p47 e47 he47 hc47
    first | refine AtT.zD zS ?_ | refine AtT.zK zS ?_ | refine AtT.zC zS ?_
    obtain rfl : (⟨0, 0, 2, 2⟩ : Pc) = e47 := qK (h := he47)
    refine AtT.zq rfl rfl ok21 (ql (zJ 4) ⟨0, 0, 2, 2⟩ _ _ (sv1 hs1)) ?_
    rintro _ rfl; rw [w2]
    refine AtT.zg ?_
    refine AtT.zg ?_
    refine AtT.done ?_
  rotate_right
  focus
   refine AtT.zu (qf _ _ _ _) ?_
   intro q45 V45 hV45 hq45
   (try replace hs1:=hs1.le hV45);(try replace hs2:=hs2.le hV45);(try replace s39:=s39.le hV45)
   have s45 : SlI V45 _ [0, 0, 2, 2] := Sl.lit hq45 rfl (by decide)
   refine AtT.zu (qf _ _ _ _) ?_
   intro q39 V39 hV39 hq39
   (try replace hs1:=hs1.le hV39);(try replace hs2:=hs2.le hV39);(try replace s45:=s45.le hV39)
   have s39 : SlI V39 _ [0, 0, 1, 4] := Sl.lit hq39 rfl (by decide)
   refine AtT.qg rfl rfl ok53 (qB [⟨0, 0, 1, 4⟩] (by decide) _ _ (show SlI _ _ [0, 0, 1, 4] from s39)) ?_
   rintro _ V40 hV40 hp40; (try replace hs1:=hs1.le hV40); (try replace hs2:=hs2.le hV40); (try replace s45:=s45.le hV40); obtain ⟨a40, c40, rfl, k40, k40', _⟩ := id hp40; clear k40 k40'
   refine AtT.idx rfl trivial Tryz.underlying27 zS rfl hp40 rfl (by decide) (by decide) (by decide) ?_
   intro p41 e41 he41 hc41
   first | refine AtT.zD zS ?_ | refine AtT.zK zS ?_ | refine AtT.zC zS ?_
   obtain rfl : (⟨0, 0, 1, 4⟩ : Pc) = e41 := qK (h := he41)
   refine AtT.zq rfl rfl ok21 (ql (zJ 4) ⟨0, 0, 1, 4⟩ _ _ (sv1 hs1)) ?_
   rintro _ rfl; rw [w1]
   refine AtT.qg rfl rfl ok53 (qB [⟨0, 0, 2, 2⟩] (by decide) _ _ (show SlI _ _ [0, 0, 2, 2] from s45)) ?_
   rintro _ V46 hV46 hp46; (try replace hs1:=hs1.le hV46); (try replace hs2:=hs2.le hV46); (try replace s39:=s39.le hV46); obtain ⟨a46, c46, rfl, k46, k46', _⟩ := id hp46; clear k46 k46'
   refine AtT.idx rfl trivial Tryz.underlying27 zS rfl hp46 rfl (by decide) (by decide) (by decide) ?_
   intro p47 e47 he47 hc47
   first | refine AtT.zD zS ?_ | refine AtT.zK zS ?_ | refine AtT.zC zS ?_
   obtain rfl : (⟨0, 0, 2, 2⟩ : Pc) = e47 := qK (h := he47)
   refine AtT.zq rfl rfl ok21 (ql (zJ 4) ⟨0, 0, 2, 2⟩ _ _ (sv1 hs1)) ?_
   rintro _ rfl; rw [w2]
   refine AtT.zg ?_
   refine AtT.zg ?_
   refine AtT.done ?_
  all_goals (refine At.nrm ?_)
  all_goals exact At.qC () ⟨hs1, hs2⟩ ⟨rfl, rfl, rfl, rfl, trivial⟩ Pt.zM
 rintro - Vc1 ks' O' ⟨hs1, hs2⟩ hk hO hl1
 subst hk hO
 refine At.nrm ?_
 refine At.jo (ι := Unit) (fun _ => [(1, .pointer (some ⟨b1, 0, none⟩)), (2, .pointer (some ⟨b2, 0, none⟩)), (3, iv 0), (4, iv 20), (5, iv 3), (6, iv 4)]) (fun _ => [.blk b1 (LC [.slice a1 (zJ 4).rows.length c1, iv (zJ 4).most] 24), .blk b2 (LC [.slice a2 qH.rows.length c2, iv qH.most] 24)]) (fun _ V'' => Sl V'' bse 1 (.slice a1 (zJ 4).rows.length c1) (zJ 4).rows ∧ Sl V'' bse 1 (.slice a2 qH.rows.length c2) qH.rows) ?_ ?_
 ·refine At.draw (.q 0 (.q 6 (.two 1 (.two 2 (.q 3 (.q 4 (.two 5 (.n false 7 (.n false 8 (.q 9 (.q 10 (.n false 11 (.q 12 (.q 13 .done))))))) 7 (.n false 5 (.n false 8 (.q 9 (.q 10 (.n false 11 (.q 12 (.q 13 .done)))))))))) 7 (.n false 2 (.q 3 (.q 4 (.n false 5 (.n false 8 (.q 9 (.q 10 (.n false 11 (.q 12 (.q 13 .done))))))))))) 7 (.n false 1 (.n false 2 (.q 3 (.q 4 (.n false 5 (.n false 8 (.q 9 (.q 10 (.n false 11 (.q 12 (.q 13 .done)))))))))))))) ffm (by kernel_rfl) ?_
  first | refine AtT.zD zP ?_ | refine AtT.zK zP ?_ | refine AtT.zC zP ?_
  first | refine AtT.zD zP ?_ | refine AtT.zK zP ?_ | refine AtT.zC zP ?_
  refine AtT.two ?_ ?_
  focus
   refine AtT.zu (qf _ _ _ _) ?_
   intro q51 V51 hV51 hq51
   (try replace hs1:=hs1.le hV51);(try replace hs2:=hs2.le hV51);(try replace s57:=s57.le hV51)
   have s51 : SlI V51 _ [0, 1, 1, 4] := Sl.lit hq51 rfl (by decide)
   refine AtT.two ?_ ?_
   focus
    refine AtT.qg rfl rfl ok53 (qB [⟨0, 1, 1, 4⟩] (by decide) _ _ (show SlI _ _ [0, 1, 1, 4] from s51)) ?_
    rintro _ V52 hV52 hp52; (try replace hs1:=hs1.le hV52); (try replace hs2:=hs2.le hV52); (try replace s57:=s57.le hV52); obtain ⟨a52, c52, rfl, k52, k52', _⟩ := id hp52; clear k52 k52'
    refine AtT.idx rfl trivial Tryz.underlying27 zS rfl hp52 rfl (by decide) (by decide) (by decide) ?_
    intro p53 e53 he53 hc53
    first | refine AtT.zD zS ?_ | refine AtT.zK zS ?_ | refine AtT.zC zS ?_
    obtain rfl : (⟨0, 1, 1, 4⟩ : Pc) = e53 := qK (h := he53)
    refine AtT.two ?_ ?_
    focus
     refine AtT.zq rfl rfl ok21 (ql (zJ 4) ⟨0, 1, 1, 4⟩ _ _ (sv1 hs1)) ?_
     rintro _ rfl; rw [w3]
     refine AtT.zu (qf _ _ _ _) ?_
     intro q57 V57 hV57 hq57
     (try replace hs1:=hs1.le hV57);(try replace hs2:=hs2.le hV57);(try replace s51:=s51.le hV57)
     have s57 : SlI V57 _ [0, 2, 3, 2] := Sl.lit hq57 rfl (by decide)
     refine AtT.qg rfl rfl ok53 (qB [⟨0, 2, 3, 2⟩] (by decide) _ _ (show SlI _ _ [0, 2, 3, 2] from s57)) ?_
     rintro _ V58 hV58 hp58; (try replace hs1:=hs1.le hV58); (try replace hs2:=hs2.le hV58); (try replace s51:=s51.le hV58); obtain ⟨a58, c58, rfl, k58, k58', _⟩ := id hp58; clear k58 k58'
     refine AtT.idx rfl trivial Tryz.underlying27 zS rfl hp58 rfl (by decide) (by decide) (by decide) ?_
     intro p59 e59 he59 hc59
     first | refine AtT.zD zS ?_ | refine AtT.zK zS ?_ | refine AtT.zC zS ?_
     obtain rfl : (⟨0, 2, 3, 2⟩ : Pc) = e59 := qK (h := he59)
     refine AtT.zq rfl rfl ok21 (ql (zJ 4) ⟨0, 2, 3, 2⟩ _ _ (sv1 hs1)) ?_
     rintro _ rfl; rw [w4]
     refine AtT.zg ?_
     refine AtT.zg ?_
     refine AtT.done ?_
    rotate_right
    focus
     refine AtT.zu (qf _ _ _ _) ?_
     intro q57 V57 hV57 hq57
     (try replace hs1:=hs1.le hV57);(try replace hs2:=hs2.le hV57);(try replace s51:=s51.le hV57)
     have s57 : SlI V57 _ [0, 2, 3, 2] := Sl.lit hq57 rfl (by decide)
     refine AtT.zq rfl rfl ok21 (ql (zJ 4) ⟨0, 1, 1, 4⟩ _ _ (sv1 hs1)) ?_
     rintro _ rfl; rw [w3]
     refine AtT.qg rfl rfl ok53 (qB [⟨0, 2, 3, 2⟩] (by decide) _ _ (show SlI _ _ [0, 2, 3, 2] from s57)) ?_
     rintro _ V58 hV58 hp58; (try replace hs1:=hs1.le hV58); (try replace hs2:=hs2.le hV58); (try replace s51:=s51.le hV58); obtain ⟨a58, c58, rfl, k58, k58', _⟩ := id hp58; clear k58 k58'
     refine AtT.idx rfl trivial Tryz.underlying27 zS rfl hp58 rfl (by decide) (by decide) (by decide) ?_
     intro p59 e59 he59 hc59
     first | refine AtT.zD zS ?_ | refine AtT.zK zS ?_ | refine AtT.zC zS ?_
     obtain rfl : (⟨0, 2, 3, 2⟩ : Pc) = e59 := qK (h := he59)
     refine AtT.zq rfl rfl ok21 (ql (zJ 4) ⟨0, 2, 3, 2⟩ _ _ (sv1 hs1)) ?_
     rintro _ rfl; rw [w4]
     refine AtT.zg ?_
     refine AtT.zg ?_
     refine AtT.done ?_
   rotate_right
   focus
    refine AtT.zu (qf _ _ _ _) ?_
    intro q57 V57 hV57 hq57
    (try replace hs1:=hs1.le hV57);(try replace hs2:=hs2.le hV57);(try replace s51:=s51.le hV57)
    have s57 : SlI V57 _ [0, 2, 3, 2] := Sl.lit hq57 rfl (by decide)
    refine AtT.qg rfl rfl ok53 (qB [⟨0, 1, 1, 4⟩] (by decide) _ _ (show SlI _ _ [0, 1, 1, 4] from s51)) ?_
    rintro _ V52 hV52 hp52; (try replace hs1:=hs1.le hV52); (try replace hs2:=hs2.le hV52); (try replace s57:=s57.le hV52); obtain ⟨a52, c52, rfl, k52, k52', _⟩ := id hp52; clear k52 k52'
    refine AtT.idx rfl trivial Tryz.underlying27 zS rfl hp52 rfl (by decide) (by decide) (by decide) ?_
    intro p53 e53 he53 hc53
    first | refine AtT.zD zS ?_ | refine AtT.zK zS ?_ | refine AtT.zC zS ?_
    obtain rfl : (⟨0, 1, 1, 4⟩ : Pc) = e53 := qK (h := he53)
    refine AtT.zq rfl rfl ok21 (ql (zJ 4) ⟨0, 1, 1, 4⟩ _ _ (sv1 hs1)) ?_
    rintro _ rfl; rw [w3]
    refine AtT.qg rfl rfl ok53 (qB [⟨0, 2, 3, 2⟩] (by decide) _ _ (show SlI _ _ [0, 2, 3, 2] from s57)) ?_
    rintro _ V58 hV58 hp58; (try replace hs1:=hs1.le hV58); (try replace hs2:=hs2.le hV58); (try replace s51:=s51.le hV58); obtain ⟨a58, c58, rfl, k58, k58', _⟩ := id hp58; clear k58 k58'
    refine AtT.idx rfl trivial Tryz.underlying27 zS rfl hp58 rfl (by decide) (by decide) (by decide) ?_
    intro p59 e59 he59 hc59
    first | refine AtT.zD zS ?_ | refine AtT.zK zS ?_ | refine AtT.zC zS ?_
    obtain rfl : (⟨0, 2, 3, 2⟩ : Pc) = e59 := qK (h := he59)
    refine AtT.zq rfl rfl ok21 (ql (zJ 4) ⟨0, 2, 3, 2⟩ _ _ (sv1 hs1)) ?_
    rintro _ rfl; rw [w4]
    refine AtT.zg ?_
    refine AtT.zg ?_
    refine AtT.done ?_
  rotate_right
  focus
   refine AtT.zu (qf _ _ _ _) ?_
   intro q57 V57 hV57 hq57
   (try replace hs1:=hs1.le hV57);(try replace hs2:=hs2.le hV57);(try replace s51:=s51.le hV57)
   have s57 : SlI V57 _ [0, 2, 3, 2] := Sl.lit hq57 rfl (by decide)
   refine AtT.zu (qf _ _ _ _) ?_
   intro q51 V51 hV51 hq51
   (try replace hs1:=hs1.le hV51);(try replace hs2:=hs2.le hV51);(try replace s57:=s57.le hV51)
   have s51 : SlI V51 _ [0, 1, 1, 4] := Sl.lit hq51 rfl (by decide)
   refine AtT.qg rfl rfl ok53 (qB [⟨0, 1, 1, 4⟩] (by decide) _ _ (show SlI _ _ [0, 1, 1, 4] from s51)) ?_
   rintro _ V52 hV52 hp52; (try replace hs1:=hs1.le hV52); (try replace hs2:=hs2.le hV52); (try replace s57:=s57.le hV52); obtain ⟨a52, c52, rfl, k52, k52', _⟩ := id hp52; clear k52 k52'
   refine AtT.idx rfl trivial Tryz.underlying27 zS rfl hp52 rfl (by decide) (by decide) (by decide) ?_
   intro p53 e53 he53 hc53
   first | refine AtT.zD zS ?_ | refine AtT.zK zS ?_ | refine AtT.zC zS ?_
   obtain rfl : (⟨0, 1, 1, 4⟩ : Pc) = e53 := qK (h := he53)
   refine AtT.zq rfl rfl ok21 (ql (zJ 4) ⟨0, 1, 1, 4⟩ _ _ (sv1 hs1)) ?_
   rintro _ rfl; rw [w3]
   refine AtT.qg rfl rfl ok53 (qB [⟨0, 2, 3, 2⟩] (by decide) _ _ (show SlI _ _ [0, 2, 3, 2] from s57)) ?_
   rintro _ V58 hV58 hp58; (try replace hs1:=hs1.le hV58); (try replace hs2:=hs2.le hV58); (try replace s51:=s51.le hV58); obtain ⟨a58, c58, rfl, k58, k58', _⟩ := id hp58; clear k58 k58'
   refine AtT.idx rfl trivial Tryz.underlying27 zS rfl hp58 rfl (by decide) (by decide) (by decide) ?_
   intro p59 e59 he59 hc59
   first | refine AtT.zD zS ?_ | refine AtT.zK zS ?_ | refine AtT.zC zS ?_
   obtain rfl : (⟨0, 2, 3, 2⟩ : Pc) = e59 := qK (h := he59)
   refine AtT.zq rfl rfl ok21 (ql (zJ 4) ⟨0, 2, 3, 2⟩ _ _ (sv1 hs1)) ?_
   rintro _ rfl; rw [w4]
   refine AtT.zg ?_
   refine AtT.zg ?_
   refine AtT.done ?_
  all_goals (refine At.nrm ?_)
  all_goals exact At.qC () ⟨hs1, hs2⟩ ⟨rfl, rfl, rfl, rfl, rfl, rfl, trivial⟩ Pt.zM
 rintro - Vc2 ks' O' ⟨hs1, hs2⟩ hk hO hl2
 subst hk hO
 refine At.nrm ?_
 refine At.draw (.q 0 (.n false 1 (.n false 2 (.n false 3 (.q 4 (.q 5 (.q 6 (.q 7 (.q 8 .done))))))))) ffm (by kernel_rfl) ?_
 first | refine AtT.zD zP ?_ | refine AtT.zK zP ?_ | refine AtT.zC zP ?_
 refine AtT.zu (bs39_8_0_1_2_3_4_5_6_7 _ _ _ _ _ _ _ _) ?_
 intro q64 V64 hV64 hq64
 (try replace hs1:=hs1.le hV64);(try replace hs2:=hs2.le hV64)
 have s64 : SlI V64 _ [0, 0, 1, 4, 2, 0, 1, 4] := Sl.lit hq64 rfl (by decide)
 refine AtT.qg rfl rfl ok53 (qB [⟨0, 0, 1, 4⟩, ⟨2, 0, 1, 4⟩] (by decide) _ _ (show SlI _ _ [0, 0, 1, 4, 2, 0, 1, 4] from s64)) ?_
 rintro _ V65 hV65 hp65; (try replace hs1:=hs1.le hV65); (try replace hs2:=hs2.le hV65); obtain ⟨a65, c65, rfl, k65, k65', _⟩ := id hp65; clear k65 k65'
 refine AtT.zq rfl rfl ok17 (checkPatches_f (zJ 4) [⟨0, 0, 1, 4⟩, ⟨2, 0, 1, 4⟩] _ _ _ (sv1 hs1) hp65) ?_
 rintro _ rfl; rw [w5]
 refine AtT.zh ?_
 refine AtT.zN ?_
 refine AtT.zN ?_
 refine AtT.zg ?_
 refine AtT.zg ?_
 refine AtT.done ?_
 refine At.nrm ?_
 refine At.draw (.q 0 (.n false 1 (.n false 2 (.n false 3 (.q 4 (.q 5 (.q 6 (.q 7 (.q 8 .done))))))))) ffm (by kernel_rfl) ?_
 first | refine AtT.zD zP ?_ | refine AtT.zK zP ?_ | refine AtT.zC zP ?_
 refine AtT.zu (qf _ _ _ _) ?_
 intro q71 V71 hV71 hq71
 (try replace hs1:=hs1.le hV71);(try replace hs2:=hs2.le hV71)
 have s71 : SlI V71 _ [0, 0, 1, 4] := Sl.lit hq71 rfl (by decide)
 refine AtT.qg rfl rfl ok53 (qB [⟨0, 0, 1, 4⟩] (by decide) _ _ (show SlI _ _ [0, 0, 1, 4] from s71)) ?_
 rintro _ V72 hV72 hp72; (try replace hs1:=hs1.le hV72); (try replace hs2:=hs2.le hV72); obtain ⟨a72, c72, rfl, k72, k72', _⟩ := id hp72; clear k72 k72'
 refine AtT.zq rfl rfl ok17 (checkPatches_f (zJ 4) [⟨0, 0, 1, 4⟩] _ _ _ (sv1 hs1) hp72) ?_
 rintro _ rfl; rw [w6]
 refine AtT.zh ?_
 refine AtT.zN ?_
 refine AtT.zN ?_
 refine AtT.zg ?_
 refine AtT.zg ?_
 refine AtT.done ?_
 refine At.nrm ?_
 refine At.zl (.q 0 (.n false 1 (.q 2 (.q 3 (.q 4 (.q 5 (.q 6 .done))))))) ?_
 first | refine AtT.zD zP ?_ | refine AtT.zK zP ?_ | refine AtT.zC zP ?_
 refine AtT.zq rfl rfl ok23 (fewest_f (zJ 4) _ _ (sv1 hs1)) ?_
 rintro _ ⟨n78, e78, rfl, hF⟩; obtain ⟨rfl, m78, d78, rfl, hB78⟩ := fw_ok fourOk hF; obtain ⟨rfl, rfl⟩ := best_uniq hB78 wB
 refine AtT.zh ?_
 refine AtT.zN ?_
 refine AtT.zN ?_
 refine AtT.zg ?_
 refine AtT.zg ?_
 refine AtT.done ?_
 refine At.nrm ?_
 refine At.zl (.q 0 (.n false 1 (.q 2 (.q 3 (.q 4 (.q 5 (.q 6 .done))))))) ?_
 first | refine AtT.zD zP ?_ | refine AtT.zK zP ?_ | refine AtT.zC zP ?_
 refine AtT.zq rfl rfl ok25 (cells_f (zJ 4) _ _ (sv1 hs1)) ?_
 rintro _ ⟨n83, e83, rfl, hC⟩; obtain ⟨rfl, m83, hB83⟩ := ce_ok fourOk hC; obtain ⟨rfl, rfl⟩ := best_uniq hB83 wB
 refine AtT.zh ?_
 refine AtT.zN ?_
 refine AtT.zN ?_
 refine AtT.zg ?_
 refine AtT.zg ?_
 refine AtT.done ?_
 refine At.nrm ?_
 refine At.zl (.q 0 (.n false 1 (.q 2 (.q 3 (.q 4 (.q 5 (.q 6 .done))))))) ?_
 first | refine AtT.zD zP ?_ | refine AtT.zK zP ?_ | refine AtT.zC zP ?_
 refine AtT.qg rfl rfl ok27 (patches_f (zJ 4) _ _ (sv1 hs1)) ?_
 rintro _ V88 hV88 ⟨a88, c88, ps, e88, rfl, hps, hr⟩; obtain ⟨rfl, hm⟩ := pt_ok fourOk hr
 refine AtT.zh ?_
 refine AtT.zN ?_
 refine AtT.zN ?_
 refine AtT.zg ?_
 refine AtT.zg ?_
 refine AtT.done ?_
 refine At.nrm ?_
 obtain ⟨hpl, hpa⟩ := best_uniq hm.best wB
 have hcp : cpR (zJ 4) ps = (6, 0) := by rw [cpR_mends (jq fourOk) (by omega) hm.mends, hpa]
 replace hs1 := hs1.le hV88
 replace hs2 := hs2.le hV88
 clear hV88
 refine At.zl (.q 0 (.n false 1 (.q 2 (.q 3 (.q 4 (.q 5 (.q 6 .done))))))) ?_
 first | refine AtT.zD zP ?_ | refine AtT.zK zP ?_ | refine AtT.zC zP ?_
 refine AtT.qg rfl rfl ok28 (aloneP_f (zJ 4) _ _ (sv1 hs1)) ?_
 rintro _ V93 hV93 ⟨u93, rfl, hu93⟩; rw [fourOk]
 refine AtT.zh ?_
 refine AtT.zN ?_
 refine AtT.zN ?_
 refine AtT.zg ?_
 refine AtT.zg ?_
 refine AtT.done ?_
 refine At.nrm ?_
 rw [if_pos fourOk, wA] at hu93
 replace hs1 := hs1.le hV93
 replace hs2 := hs2.le hV93
 replace hps := hps.le hV93
 clear hV93
 refine At.jo (ι := Unit) (fun _ => [(1, .pointer (some ⟨b1, 0, none⟩)), (2, .pointer (some ⟨b2, 0, none⟩)), (3, iv 0), (4, iv 20), (5, iv 3), (6, iv 4), (7, iv 8), (8, iv 0), (10, iv 14), (11, iv ((2 : Nat) : Int)), (12, iv 0), (13, iv 6), (14, iv 0), (15, .slice a88 ps.length c88), (16, iv 0), (17, u93), (18, iv 0), (19, iv 0), (20, iv 16), (21, iv 3)]) (fun _ => [.blk b1 (LC [.slice a1 (zJ 4).rows.length c1, iv (zJ 4).most] 24), .blk b2 (LC [.slice a2 qH.rows.length c2, iv qH.most] 24)]) (fun _ V'' => Sl V'' bse 1 (.slice a1 (zJ 4).rows.length c1) (zJ 4).rows ∧ Sl V'' bse 1 (.slice a2 qH.rows.length c2) qH.rows ∧ Sl V'' pce 4 (.slice a88 ps.length c88) ps ∧ SlI V'' u93 [0, 3]) ?_ ?_
 ·refine At.draw (.q 0 (.q 4 (.q 8 (.br [1, 5, 9] (fun i => bif Nat.beq i 1 then (.br [2, 5, 9] (fun i => bif Nat.beq i 2 then (.br [3, 5, 9] (fun i => bif Nat.beq i 3 then (.two 5 (.two 6 (.two 7 (.n false 9 (.n false 10 (.n false 11 (.q 12 (.q 13 (.q 14 .done)))))) 9 (.n false 7 (.n false 10 (.n false 11 (.q 12 (.q 13 (.q 14 .done))))))) 9 (.n false 6 (.n false 7 (.n false 10 (.n false 11 (.q 12 (.q 13 (.q 14 .done)))))))) 9 (.n false 5 (.n false 6 (.n false 7 (.n false 10 (.n false 11 (.q 12 (.q 13 (.q 14 .done))))))))) else bif Nat.beq i 5 then (.two 3 (.two 6 (.two 7 (.n false 9 (.n false 10 (.n false 11 (.q 12 (.q 13 (.q 14 .done)))))) 9 (.n false 7 (.n false 10 (.n false 11 (.q 12 (.q 13 (.q 14 .done))))))) 9 (.n false 6 (.n false 7 (.n false 10 (.n false 11 (.q 12 (.q 13 (.q 14 .done)))))))) 9 (.n false 3 (.n false 6 (.n false 7 (.n false 10 (.n false 11 (.q 12 (.q 13 (.q 14 .done))))))))) else bif Nat.beq i 9 then (.two 3 (.n false 5 (.n false 6 (.n false 7 (.n false 10 (.n false 11 (.q 12 (.q 13 (.q 14 .done)))))))) 5 (.n false 3 (.n false 6 (.n false 7 (.n false 10 (.n false 11 (.q 12 (.q 13 (.q 14 .done))))))))) else .done)) else bif Nat.beq i 5 then (.two 2 (.two 3 (.two 6 (.two 7 (.n false 9 (.n false 10 (.n false 11 (.q 12 (.q 13 (.q 14 .done)))))) 9 (.n false 7 (.n false 10 (.n false 11 (.q 12 (.q 13 (.q 14 .done))))))) 9 (.n false 6 (.n false 7 (.n false 10 (.n false 11 (.q 12 (.q 13 (.q 14 .done)))))))) 9 (.n false 3 (.n false 6 (.n false 7 (.n false 10 (.n false 11 (.q 12 (.q 13 (.q 14 .done))))))))) 9 (.n false 2 (.n false 3 (.n false 6 (.n false 7 (.n false 10 (.n false 11 (.q 12 (.q 13 (.q 14 .done)))))))))) else bif Nat.beq i 9 then (.two 2 (.two 3 (.n false 5 (.n false 6 (.n false 7 (.n false 10 (.n false 11 (.q 12 (.q 13 (.q 14 .done)))))))) 5 (.n false 3 (.n false 6 (.n false 7 (.n false 10 (.n false 11 (.q 12 (.q 13 (.q 14 .done))))))))) 5 (.n false 2 (.n false 3 (.n false 6 (.n false 7 (.n false 10 (.n false 11 (.q 12 (.q 13 (.q 14 .done)))))))))) else .done)) else bif Nat.beq i 5 then (.two 1 (.two 2 (.two 3 (.two 6 (.two 7 (.n false 9 (.n false 10 (.n false 11 (.q 12 (.q 13 (.q 14 .done)))))) 9 (.n false 7 (.n false 10 (.n false 11 (.q 12 (.q 13 (.q 14 .done))))))) 9 (.n false 6 (.n false 7 (.n false 10 (.n false 11 (.q 12 (.q 13 (.q 14 .done)))))))) 9 (.n false 3 (.n false 6 (.n false 7 (.n false 10 (.n false 11 (.q 12 (.q 13 (.q 14 .done))))))))) 9 (.n false 2 (.n false 3 (.n false 6 (.n false 7 (.n false 10 (.n false 11 (.q 12 (.q 13 (.q 14 .done)))))))))) 9 (.n false 1 (.n false 2 (.n false 3 (.n false 6 (.n false 7 (.n false 10 (.n false 11 (.q 12 (.q 13 (.q 14 .done))))))))))) else bif Nat.beq i 9 then (.two 1 (.two 2 (.two 3 (.n false 5 (.n false 6 (.n false 7 (.n false 10 (.n false 11 (.q 12 (.q 13 (.q 14 .done)))))))) 5 (.n false 3 (.n false 6 (.n false 7 (.n false 10 (.n false 11 (.q 12 (.q 13 (.q 14 .done))))))))) 5 (.n false 2 (.n false 3 (.n false 6 (.n false 7 (.n false 10 (.n false 11 (.q 12 (.q 13 (.q 14 .done)))))))))) 5 (.n false 1 (.n false 2 (.n false 3 (.n false 6 (.n false 7 (.n false 10 (.n false 11 (.q 12 (.q 13 (.q 14 .done))))))))))) else .done))))) ffm (by kernel_rfl) ?_
  first | refine AtT.zD zP ?_ | refine AtT.zK zP ?_ | refine AtT.zC zP ?_
  first | refine AtT.zD zP ?_ | refine AtT.zK zP ?_ | refine AtT.zC zP ?_
  first | refine AtT.zD zP ?_ | refine AtT.zK zP ?_ | refine AtT.zC zP ?_
  refine AtT.br (fun i hi => ?_)
  simp only [List.mem_cons, List.not_mem_nil, or_false] at hi
  rcases hi with rfl | rfl | rfl
  rotate_right
  focus
   refine AtT.zu (zQ _ _) ?_
   intro q105 V105 hV105 hq105
   (try replace hs1:=hs1.le hV105);(try replace hs2:=hs2.le hV105);(try replace hps:=hps.le hV105);(try replace hu93:=hu93.le hV105);(try replace s97:=s97.le hV105);(try replace s101:=s101.le hV105)
   have s105 : SlI V105 _ [3, 0] := Sl.lit hq105 rfl (by decide)
   refine AtT.two ?_ ?_
   focus
    refine AtT.zu (zQ _ _) ?_
    intro q97 V97 hV97 hq97
    (try replace hs1:=hs1.le hV97);(try replace hs2:=hs2.le hV97);(try replace hps:=hps.le hV97);(try replace hu93:=hu93.le hV97);(try replace s101:=s101.le hV97);(try replace s105:=s105.le hV97)
    have s97 : SlI V97 _ [1, 2] := Sl.lit hq97 rfl (by decide)
    refine AtT.two ?_ ?_
    focus
     refine AtT.zq rfl rfl qy (qz _ _) ?_
     rintro _ rfl
     refine AtT.two ?_ ?_
     focus
      refine AtT.zq rfl rfl ok32 (zt (zJ 4) [1, 2] _ _ _ (sv1 hs1) s97) ?_
      rintro _ rfl; rw [wC1]
      refine AtT.zu (zQ _ _) ?_
      intro q101 V101 hV101 hq101
      (try replace hs1:=hs1.le hV101);(try replace hs2:=hs2.le hV101);(try replace hps:=hps.le hV101);(try replace hu93:=hu93.le hV101);(try replace s97:=s97.le hV101);(try replace s105:=s105.le hV101)
      have s101 : SlI V101 _ [0, 1] := Sl.lit hq101 rfl (by decide)
      refine AtT.zq rfl rfl qy (qz _ _) ?_
      rintro _ rfl
      refine AtT.zq rfl rfl ok32 (zt (zJ 4) [0, 1] _ _ _ (sv1 hs1) s101) ?_
      rintro _ rfl; rw [wC2]
      refine AtT.zq rfl rfl qy (qz _ _) ?_
      rintro _ rfl
      refine AtT.zq rfl rfl ok32 (zt (zJ 4) [3, 0] _ _ _ (sv1 hs1) s105) ?_
      rintro _ rfl; rw [wC3]
      refine AtT.zg ?_
      refine AtT.zg ?_
      refine AtT.zg ?_
      refine AtT.done ?_
     rotate_right
     focus
      refine AtT.zu (zQ _ _) ?_
      intro q101 V101 hV101 hq101
      (try replace hs1:=hs1.le hV101);(try replace hs2:=hs2.le hV101);(try replace hps:=hps.le hV101);(try replace hu93:=hu93.le hV101);(try replace s97:=s97.le hV101);(try replace s105:=s105.le hV101)
      have s101 : SlI V101 _ [0, 1] := Sl.lit hq101 rfl (by decide)
      refine AtT.zq rfl rfl ok32 (zt (zJ 4) [1, 2] _ _ _ (sv1 hs1) s97) ?_
      rintro _ rfl; rw [wC1]
      refine AtT.zq rfl rfl qy (qz _ _) ?_
      rintro _ rfl
      refine AtT.zq rfl rfl ok32 (zt (zJ 4) [0, 1] _ _ _ (sv1 hs1) s101) ?_
      rintro _ rfl; rw [wC2]
      refine AtT.zq rfl rfl qy (qz _ _) ?_
      rintro _ rfl
      refine AtT.zq rfl rfl ok32 (zt (zJ 4) [3, 0] _ _ _ (sv1 hs1) s105) ?_
      rintro _ rfl; rw [wC3]
      refine AtT.zg ?_
      refine AtT.zg ?_
      refine AtT.zg ?_
      refine AtT.done ?_
    rotate_right
    focus
     refine AtT.zu (zQ _ _) ?_
     intro q101 V101 hV101 hq101
     (try replace hs1:=hs1.le hV101);(try replace hs2:=hs2.le hV101);(try replace hps:=hps.le hV101);(try replace hu93:=hu93.le hV101);(try replace s97:=s97.le hV101);(try replace s105:=s105.le hV101)
     have s101 : SlI V101 _ [0, 1] := Sl.lit hq101 rfl (by decide)
     refine AtT.zq rfl rfl qy (qz _ _) ?_
     rintro _ rfl
     refine AtT.zq rfl rfl ok32 (zt (zJ 4) [1, 2] _ _ _ (sv1 hs1) s97) ?_
     rintro _ rfl; rw [wC1]
     refine AtT.zq rfl rfl qy (qz _ _) ?_
     rintro _ rfl
     refine AtT.zq rfl rfl ok32 (zt (zJ 4) [0, 1] _ _ _ (sv1 hs1) s101) ?_
     rintro _ rfl; rw [wC2]
     refine AtT.zq rfl rfl qy (qz _ _) ?_
     rintro _ rfl
     refine AtT.zq rfl rfl ok32 (zt (zJ 4) [3, 0] _ _ _ (sv1 hs1) s105) ?_
     rintro _ rfl; rw [wC3]
     refine AtT.zg ?_
     refine AtT.zg ?_
     refine AtT.zg ?_
     refine AtT.done ?_
   rotate_right
   focus
    refine AtT.zu (zQ _ _) ?_
    intro q101 V101 hV101 hq101
    (try replace hs1:=hs1.le hV101);(try replace hs2:=hs2.le hV101);(try replace hps:=hps.le hV101);(try replace hu93:=hu93.le hV101);(try replace s97:=s97.le hV101);(try replace s105:=s105.le hV101)
    have s101 : SlI V101 _ [0, 1] := Sl.lit hq101 rfl (by decide)
    refine AtT.zu (zQ _ _) ?_
    intro q97 V97 hV97 hq97
    (try replace hs1:=hs1.le hV97);(try replace hs2:=hs2.le hV97);(try replace hps:=hps.le hV97);(try replace hu93:=hu93.le hV97);(try replace s101:=s101.le hV97);(try replace s105:=s105.le hV97)
    have s97 : SlI V97 _ [1, 2] := Sl.lit hq97 rfl (by decide)
    refine AtT.zq rfl rfl qy (qz _ _) ?_
    rintro _ rfl
    refine AtT.zq rfl rfl ok32 (zt (zJ 4) [1, 2] _ _ _ (sv1 hs1) s97) ?_
    rintro _ rfl; rw [wC1]
    refine AtT.zq rfl rfl qy (qz _ _) ?_
    rintro _ rfl
    refine AtT.zq rfl rfl ok32 (zt (zJ 4) [0, 1] _ _ _ (sv1 hs1) s101) ?_
    rintro _ rfl; rw [wC2]
    refine AtT.zq rfl rfl qy (qz _ _) ?_
    rintro _ rfl
    refine AtT.zq rfl rfl ok32 (zt (zJ 4) [3, 0] _ _ _ (sv1 hs1) s105) ?_
    rintro _ rfl; rw [wC3]
    refine AtT.zg ?_
    refine AtT.zg ?_
    refine AtT.zg ?_
    refine AtT.done ?_
  rotate_right
  focus
   refine AtT.zu (zQ _ _) ?_
   intro q101 V101 hV101 hq101
   (try replace hs1:=hs1.le hV101);(try replace hs2:=hs2.le hV101);(try replace hps:=hps.le hV101);(try replace hu93:=hu93.le hV101);(try replace s97:=s97.le hV101);(try replace s105:=s105.le hV101)
   have s101 : SlI V101 _ [0, 1] := Sl.lit hq101 rfl (by decide)
   refine AtT.two ?_ ?_
   focus
    refine AtT.zu (zQ _ _) ?_
    intro q97 V97 hV97 hq97
    (try replace hs1:=hs1.le hV97);(try replace hs2:=hs2.le hV97);(try replace hps:=hps.le hV97);(try replace hu93:=hu93.le hV97);(try replace s101:=s101.le hV97);(try replace s105:=s105.le hV97)
    have s97 : SlI V97 _ [1, 2] := Sl.lit hq97 rfl (by decide)
    refine AtT.two ?_ ?_
    focus
     refine AtT.zq rfl rfl qy (qz _ _) ?_
     rintro _ rfl
     refine AtT.two ?_ ?_
     focus
      refine AtT.zq rfl rfl ok32 (zt (zJ 4) [1, 2] _ _ _ (sv1 hs1) s97) ?_
      rintro _ rfl; rw [wC1]
      refine AtT.two ?_ ?_
      focus
       refine AtT.zq rfl rfl qy (qz _ _) ?_
       rintro _ rfl
       refine AtT.two ?_ ?_
       focus
        refine AtT.zq rfl rfl ok32 (zt (zJ 4) [0, 1] _ _ _ (sv1 hs1) s101) ?_
        rintro _ rfl; rw [wC2]
        refine AtT.zu (zQ _ _) ?_
        intro q105 V105 hV105 hq105
        (try replace hs1:=hs1.le hV105);(try replace hs2:=hs2.le hV105);(try replace hps:=hps.le hV105);(try replace hu93:=hu93.le hV105);(try replace s97:=s97.le hV105);(try replace s101:=s101.le hV105)
        have s105 : SlI V105 _ [3, 0] := Sl.lit hq105 rfl (by decide)
        refine AtT.zq rfl rfl qy (qz _ _) ?_
        rintro _ rfl
        refine AtT.zq rfl rfl ok32 (zt (zJ 4) [3, 0] _ _ _ (sv1 hs1) s105) ?_
        rintro _ rfl; rw [wC3]
        refine AtT.zg ?_
        refine AtT.zg ?_
        refine AtT.zg ?_
        refine AtT.done ?_
       rotate_right
       focus
        refine AtT.zu (zQ _ _) ?_
        intro q105 V105 hV105 hq105
        (try replace hs1:=hs1.le hV105);(try replace hs2:=hs2.le hV105);(try replace hps:=hps.le hV105);(try replace hu93:=hu93.le hV105);(try replace s97:=s97.le hV105);(try replace s101:=s101.le hV105)
        have s105 : SlI V105 _ [3, 0] := Sl.lit hq105 rfl (by decide)
        refine AtT.zq rfl rfl ok32 (zt (zJ 4) [0, 1] _ _ _ (sv1 hs1) s101) ?_
        rintro _ rfl; rw [wC2]
        refine AtT.zq rfl rfl qy (qz _ _) ?_
        rintro _ rfl
        refine AtT.zq rfl rfl ok32 (zt (zJ 4) [3, 0] _ _ _ (sv1 hs1) s105) ?_
        rintro _ rfl; rw [wC3]
        refine AtT.zg ?_
        refine AtT.zg ?_
        refine AtT.zg ?_
        refine AtT.done ?_
      rotate_right
      focus
       refine AtT.zu (zQ _ _) ?_
       intro q105 V105 hV105 hq105
       (try replace hs1:=hs1.le hV105);(try replace hs2:=hs2.le hV105);(try replace hps:=hps.le hV105);(try replace hu93:=hu93.le hV105);(try replace s97:=s97.le hV105);(try replace s101:=s101.le hV105)
       have s105 : SlI V105 _ [3, 0] := Sl.lit hq105 rfl (by decide)
       refine AtT.zq rfl rfl qy (qz _ _) ?_
       rintro _ rfl
       refine AtT.zq rfl rfl ok32 (zt (zJ 4) [0, 1] _ _ _ (sv1 hs1) s101) ?_
       rintro _ rfl; rw [wC2]
       refine AtT.zq rfl rfl qy (qz _ _) ?_
       rintro _ rfl
       refine AtT.zq rfl rfl ok32 (zt (zJ 4) [3, 0] _ _ _ (sv1 hs1) s105) ?_
       rintro _ rfl; rw [wC3]
       refine AtT.zg ?_
       refine AtT.zg ?_
       refine AtT.zg ?_
       refine AtT.done ?_
     rotate_right
     focus
      refine AtT.zu (zQ _ _) ?_
      intro q105 V105 hV105 hq105
      (try replace hs1:=hs1.le hV105);(try replace hs2:=hs2.le hV105);(try replace hps:=hps.le hV105);(try replace hu93:=hu93.le hV105);(try replace s97:=s97.le hV105);(try replace s101:=s101.le hV105)
      have s105 : SlI V105 _ [3, 0] := Sl.lit hq105 rfl (by decide)
      refine AtT.zq rfl rfl ok32 (zt (zJ 4) [1, 2] _ _ _ (sv1 hs1) s97) ?_
      rintro _ rfl; rw [wC1]
      refine AtT.zq rfl rfl qy (qz _ _) ?_
      rintro _ rfl
      refine AtT.zq rfl rfl ok32 (zt (zJ 4) [0, 1] _ _ _ (sv1 hs1) s101) ?_
      rintro _ rfl; rw [wC2]
      refine AtT.zq rfl rfl qy (qz _ _) ?_
      rintro _ rfl
      refine AtT.zq rfl rfl ok32 (zt (zJ 4) [3, 0] _ _ _ (sv1 hs1) s105) ?_
      rintro _ rfl; rw [wC3]
      refine AtT.zg ?_
      refine AtT.zg ?_
      refine AtT.zg ?_
      refine AtT.done ?_
    rotate_right
    focus
     refine AtT.zu (zQ _ _) ?_
     intro q105 V105 hV105 hq105
     (try replace hs1:=hs1.le hV105);(try replace hs2:=hs2.le hV105);(try replace hps:=hps.le hV105);(try replace hu93:=hu93.le hV105);(try replace s97:=s97.le hV105);(try replace s101:=s101.le hV105)
     have s105 : SlI V105 _ [3, 0] := Sl.lit hq105 rfl (by decide)
     refine AtT.zq rfl rfl qy (qz _ _) ?_
     rintro _ rfl
     refine AtT.zq rfl rfl ok32 (zt (zJ 4) [1, 2] _ _ _ (sv1 hs1) s97) ?_
     rintro _ rfl; rw [wC1]
     refine AtT.zq rfl rfl qy (qz _ _) ?_
     rintro _ rfl
     refine AtT.zq rfl rfl ok32 (zt (zJ 4) [0, 1] _ _ _ (sv1 hs1) s101) ?_
     rintro _ rfl; rw [wC2]
     refine AtT.zq rfl rfl qy (qz _ _) ?_
     rintro _ rfl
     refine AtT.zq rfl rfl ok32 (zt (zJ 4) [3, 0] _ _ _ (sv1 hs1) s105) ?_
     rintro _ rfl; rw [wC3]
     refine AtT.zg ?_
     refine AtT.zg ?_
     refine AtT.zg ?_
     refine AtT.done ?_
   rotate_right
   focus
    refine AtT.zu (zQ _ _) ?_
    intro q105 V105 hV105 hq105
    (try replace hs1:=hs1.le hV105);(try replace hs2:=hs2.le hV105);(try replace hps:=hps.le hV105);(try replace hu93:=hu93.le hV105);(try replace s97:=s97.le hV105);(try replace s101:=s101.le hV105)
    have s105 : SlI V105 _ [3, 0] := Sl.lit hq105 rfl (by decide)
    refine AtT.zu (zQ _ _) ?_
    intro q97 V97 hV97 hq97
    (try replace hs1:=hs1.le hV97);(try replace hs2:=hs2.le hV97);(try replace hps:=hps.le hV97);(try replace hu93:=hu93.le hV97);(try replace s101:=s101.le hV97);(try replace s105:=s105.le hV97)
    have s97 : SlI V97 _ [1, 2] := Sl.lit hq97 rfl (by decide)
    refine AtT.zq rfl rfl qy (qz _ _) ?_
    rintro _ rfl
    refine AtT.zq rfl rfl ok32 (zt (zJ 4) [1, 2] _ _ _ (sv1 hs1) s97) ?_
    rintro _ rfl; rw [wC1]
    refine AtT.zq rfl rfl qy (qz _ _) ?_
    rintro _ rfl
    refine AtT.zq rfl rfl ok32 (zt (zJ 4) [0, 1] _ _ _ (sv1 hs1) s101) ?_
    rintro _ rfl; rw [wC2]
    refine AtT.zq rfl rfl qy (qz _ _) ?_
    rintro _ rfl
    refine AtT.zq rfl rfl ok32 (zt (zJ 4) [3, 0] _ _ _ (sv1 hs1) s105) ?_
    rintro _ rfl; rw [wC3]
    refine AtT.zg ?_
    refine AtT.zg ?_
    refine AtT.zg ?_
    refine AtT.done ?_
  rotate_right
  focus
   refine AtT.zu (zQ _ _) ?_
   intro q97 V97 hV97 hq97
   (try replace hs1:=hs1.le hV97);(try replace hs2:=hs2.le hV97);(try replace hps:=hps.le hV97);(try replace hu93:=hu93.le hV97);(try replace s101:=s101.le hV97);(try replace s105:=s105.le hV97)
   have s97 : SlI V97 _ [1, 2] := Sl.lit hq97 rfl (by decide)
   refine AtT.br (fun i hi => ?_)
   simp only [List.mem_cons, List.not_mem_nil, or_false] at hi
   rcases hi with rfl | rfl | rfl
   rotate_right
   focus
    refine AtT.zu (zQ _ _) ?_
    intro q105 V105 hV105 hq105
    (try replace hs1:=hs1.le hV105);(try replace hs2:=hs2.le hV105);(try replace hps:=hps.le hV105);(try replace hu93:=hu93.le hV105);(try replace s97:=s97.le hV105);(try replace s101:=s101.le hV105)
    have s105 : SlI V105 _ [3, 0] := Sl.lit hq105 rfl (by decide)
    refine AtT.two ?_ ?_
    focus
     refine AtT.zq rfl rfl qy (qz _ _) ?_
     rintro _ rfl
     refine AtT.two ?_ ?_
     focus
      refine AtT.zq rfl rfl ok32 (zt (zJ 4) [1, 2] _ _ _ (sv1 hs1) s97) ?_
      rintro _ rfl; rw [wC1]
      refine AtT.zu (zQ _ _) ?_
      intro q101 V101 hV101 hq101
      (try replace hs1:=hs1.le hV101);(try replace hs2:=hs2.le hV101);(try replace hps:=hps.le hV101);(try replace hu93:=hu93.le hV101);(try replace s97:=s97.le hV101);(try replace s105:=s105.le hV101)
      have s101 : SlI V101 _ [0, 1] := Sl.lit hq101 rfl (by decide)
      refine AtT.zq rfl rfl qy (qz _ _) ?_
      rintro _ rfl
      refine AtT.zq rfl rfl ok32 (zt (zJ 4) [0, 1] _ _ _ (sv1 hs1) s101) ?_
      rintro _ rfl; rw [wC2]
      refine AtT.zq rfl rfl qy (qz _ _) ?_
      rintro _ rfl
      refine AtT.zq rfl rfl ok32 (zt (zJ 4) [3, 0] _ _ _ (sv1 hs1) s105) ?_
      rintro _ rfl; rw [wC3]
      refine AtT.zg ?_
      refine AtT.zg ?_
      refine AtT.zg ?_
      refine AtT.done ?_
     rotate_right
     focus
      refine AtT.zu (zQ _ _) ?_
      intro q101 V101 hV101 hq101
      (try replace hs1:=hs1.le hV101);(try replace hs2:=hs2.le hV101);(try replace hps:=hps.le hV101);(try replace hu93:=hu93.le hV101);(try replace s97:=s97.le hV101);(try replace s105:=s105.le hV101)
      have s101 : SlI V101 _ [0, 1] := Sl.lit hq101 rfl (by decide)
      refine AtT.zq rfl rfl ok32 (zt (zJ 4) [1, 2] _ _ _ (sv1 hs1) s97) ?_
      rintro _ rfl; rw [wC1]
      refine AtT.zq rfl rfl qy (qz _ _) ?_
      rintro _ rfl
      refine AtT.zq rfl rfl ok32 (zt (zJ 4) [0, 1] _ _ _ (sv1 hs1) s101) ?_
      rintro _ rfl; rw [wC2]
      refine AtT.zq rfl rfl qy (qz _ _) ?_
      rintro _ rfl
      refine AtT.zq rfl rfl ok32 (zt (zJ 4) [3, 0] _ _ _ (sv1 hs1) s105) ?_
      rintro _ rfl; rw [wC3]
      refine AtT.zg ?_
      refine AtT.zg ?_
      refine AtT.zg ?_
      refine AtT.done ?_
    rotate_right
    focus
     refine AtT.zu (zQ _ _) ?_
     intro q101 V101 hV101 hq101
     (try replace hs1:=hs1.le hV101);(try replace hs2:=hs2.le hV101);(try replace hps:=hps.le hV101);(try replace hu93:=hu93.le hV101);(try replace s97:=s97.le hV101);(try replace s105:=s105.le hV101)
     have s101 : SlI V101 _ [0, 1] := Sl.lit hq101 rfl (by decide)
     refine AtT.zq rfl rfl qy (qz _ _) ?_
     rintro _ rfl
     refine AtT.zq rfl rfl ok32 (zt (zJ 4) [1, 2] _ _ _ (sv1 hs1) s97) ?_
     rintro _ rfl; rw [wC1]
     refine AtT.zq rfl rfl qy (qz _ _) ?_
     rintro _ rfl
     refine AtT.zq rfl rfl ok32 (zt (zJ 4) [0, 1] _ _ _ (sv1 hs1) s101) ?_
     rintro _ rfl; rw [wC2]
     refine AtT.zq rfl rfl qy (qz _ _) ?_
     rintro _ rfl
     refine AtT.zq rfl rfl ok32 (zt (zJ 4) [3, 0] _ _ _ (sv1 hs1) s105) ?_
     rintro _ rfl; rw [wC3]
     refine AtT.zg ?_
     refine AtT.zg ?_
     refine AtT.zg ?_
     refine AtT.done ?_
   rotate_right
   focus
    refine AtT.zu (zQ _ _) ?_
    intro q101 V101 hV101 hq101
    (try replace hs1:=hs1.le hV101);(try replace hs2:=hs2.le hV101);(try replace hps:=hps.le hV101);(try replace hu93:=hu93.le hV101);(try replace s97:=s97.le hV101);(try replace s105:=s105.le hV101)
    have s101 : SlI V101 _ [0, 1] := Sl.lit hq101 rfl (by decide)
    refine AtT.two ?_ ?_
    focus
     refine AtT.zq rfl rfl qy (qz _ _) ?_
     rintro _ rfl
     refine AtT.two ?_ ?_
     focus
      refine AtT.zq rfl rfl ok32 (zt (zJ 4) [1, 2] _ _ _ (sv1 hs1) s97) ?_
      rintro _ rfl; rw [wC1]
      refine AtT.two ?_ ?_
      focus
       refine AtT.zq rfl rfl qy (qz _ _) ?_
       rintro _ rfl
       refine AtT.two ?_ ?_
       focus
        refine AtT.zq rfl rfl ok32 (zt (zJ 4) [0, 1] _ _ _ (sv1 hs1) s101) ?_
        rintro _ rfl; rw [wC2]
        refine AtT.zu (zQ _ _) ?_
        intro q105 V105 hV105 hq105
        (try replace hs1:=hs1.le hV105);(try replace hs2:=hs2.le hV105);(try replace hps:=hps.le hV105);(try replace hu93:=hu93.le hV105);(try replace s97:=s97.le hV105);(try replace s101:=s101.le hV105)
        have s105 : SlI V105 _ [3, 0] := Sl.lit hq105 rfl (by decide)
        refine AtT.zq rfl rfl qy (qz _ _) ?_
        rintro _ rfl
        refine AtT.zq rfl rfl ok32 (zt (zJ 4) [3, 0] _ _ _ (sv1 hs1) s105) ?_
        rintro _ rfl; rw [wC3]
        refine AtT.zg ?_
        refine AtT.zg ?_
        refine AtT.zg ?_
        refine AtT.done ?_
       rotate_right
       focus
        refine AtT.zu (zQ _ _) ?_
        intro q105 V105 hV105 hq105
        (try replace hs1:=hs1.le hV105);(try replace hs2:=hs2.le hV105);(try replace hps:=hps.le hV105);(try replace hu93:=hu93.le hV105);(try replace s97:=s97.le hV105);(try replace s101:=s101.le hV105)
        have s105 : SlI V105 _ [3, 0] := Sl.lit hq105 rfl (by decide)
        refine AtT.zq rfl rfl ok32 (zt (zJ 4) [0, 1] _ _ _ (sv1 hs1) s101) ?_
        rintro _ rfl; rw [wC2]
        refine AtT.zq rfl rfl qy (qz _ _) ?_
        rintro _ rfl
        refine AtT.zq rfl rfl ok32 (zt (zJ 4) [3, 0] _ _ _ (sv1 hs1) s105) ?_
        rintro _ rfl; rw [wC3]
        refine AtT.zg ?_
        refine AtT.zg ?_
        refine AtT.zg ?_
        refine AtT.done ?_
      rotate_right
      focus
       refine AtT.zu (zQ _ _) ?_
       intro q105 V105 hV105 hq105
       (try replace hs1:=hs1.le hV105);(try replace hs2:=hs2.le hV105);(try replace hps:=hps.le hV105);(try replace hu93:=hu93.le hV105);(try replace s97:=s97.le hV105);(try replace s101:=s101.le hV105)
       have s105 : SlI V105 _ [3, 0] := Sl.lit hq105 rfl (by decide)
       refine AtT.zq rfl rfl qy (qz _ _) ?_
       rintro _ rfl
       refine AtT.zq rfl rfl ok32 (zt (zJ 4) [0, 1] _ _ _ (sv1 hs1) s101) ?_
       rintro _ rfl; rw [wC2]
       refine AtT.zq rfl rfl qy (qz _ _) ?_
       rintro _ rfl
       refine AtT.zq rfl rfl ok32 (zt (zJ 4) [3, 0] _ _ _ (sv1 hs1) s105) ?_
       rintro _ rfl; rw [wC3]
       refine AtT.zg ?_
       refine AtT.zg ?_
       refine AtT.zg ?_
       refine AtT.done ?_
     rotate_right
     focus
      refine AtT.zu (zQ _ _) ?_
      intro q105 V105 hV105 hq105
      (try replace hs1:=hs1.le hV105);(try replace hs2:=hs2.le hV105);(try replace hps:=hps.le hV105);(try replace hu93:=hu93.le hV105);(try replace s97:=s97.le hV105);(try replace s101:=s101.le hV105)
      have s105 : SlI V105 _ [3, 0] := Sl.lit hq105 rfl (by decide)
      refine AtT.zq rfl rfl ok32 (zt (zJ 4) [1, 2] _ _ _ (sv1 hs1) s97) ?_
      rintro _ rfl; rw [wC1]
      refine AtT.zq rfl rfl qy (qz _ _) ?_
      rintro _ rfl
      refine AtT.zq rfl rfl ok32 (zt (zJ 4) [0, 1] _ _ _ (sv1 hs1) s101) ?_
      rintro _ rfl; rw [wC2]
      refine AtT.zq rfl rfl qy (qz _ _) ?_
      rintro _ rfl
      refine AtT.zq rfl rfl ok32 (zt (zJ 4) [3, 0] _ _ _ (sv1 hs1) s105) ?_
      rintro _ rfl; rw [wC3]
      refine AtT.zg ?_
      refine AtT.zg ?_
      refine AtT.zg ?_
      refine AtT.done ?_
    rotate_right
    focus
     refine AtT.zu (zQ _ _) ?_
     intro q105 V105 hV105 hq105
     (try replace hs1:=hs1.le hV105);(try replace hs2:=hs2.le hV105);(try replace hps:=hps.le hV105);(try replace hu93:=hu93.le hV105);(try replace s97:=s97.le hV105);(try replace s101:=s101.le hV105)
     have s105 : SlI V105 _ [3, 0] := Sl.lit hq105 rfl (by decide)
     refine AtT.zq rfl rfl qy (qz _ _) ?_
     rintro _ rfl
     refine AtT.zq rfl rfl ok32 (zt (zJ 4) [1, 2] _ _ _ (sv1 hs1) s97) ?_
     rintro _ rfl; rw [wC1]
     refine AtT.zq rfl rfl qy (qz _ _) ?_
     rintro _ rfl
     refine AtT.zq rfl rfl ok32 (zt (zJ 4) [0, 1] _ _ _ (sv1 hs1) s101) ?_
     rintro _ rfl; rw [wC2]
     refine AtT.zq rfl rfl qy (qz _ _) ?_
     rintro _ rfl
     refine AtT.zq rfl rfl ok32 (zt (zJ 4) [3, 0] _ _ _ (sv1 hs1) s105) ?_
     rintro _ rfl; rw [wC3]
     refine AtT.zg ?_
     refine AtT.zg ?_
     refine AtT.zg ?_
     refine AtT.done ?_
   rotate_right
   focus
    refine AtT.zq rfl rfl qy (qz _ _) ?_
    rintro _ rfl
    refine AtT.br (fun i hi => ?_)
    simp only [List.mem_cons, List.not_mem_nil, or_false] at hi
    rcases hi with rfl | rfl | rfl
    rotate_right
    focus
     refine AtT.zu (zQ _ _) ?_
     intro q105 V105 hV105 hq105
     (try replace hs1:=hs1.le hV105);(try replace hs2:=hs2.le hV105);(try replace hps:=hps.le hV105);(try replace hu93:=hu93.le hV105);(try replace s97:=s97.le hV105);(try replace s101:=s101.le hV105)
     have s105 : SlI V105 _ [3, 0] := Sl.lit hq105 rfl (by decide)
     refine AtT.two ?_ ?_
     focus
      refine AtT.zq rfl rfl ok32 (zt (zJ 4) [1, 2] _ _ _ (sv1 hs1) s97) ?_
      rintro _ rfl; rw [wC1]
      refine AtT.zu (zQ _ _) ?_
      intro q101 V101 hV101 hq101
      (try replace hs1:=hs1.le hV101);(try replace hs2:=hs2.le hV101);(try replace hps:=hps.le hV101);(try replace hu93:=hu93.le hV101);(try replace s97:=s97.le hV101);(try replace s105:=s105.le hV101)
      have s101 : SlI V101 _ [0, 1] := Sl.lit hq101 rfl (by decide)
      refine AtT.zq rfl rfl qy (qz _ _) ?_
      rintro _ rfl
      refine AtT.zq rfl rfl ok32 (zt (zJ 4) [0, 1] _ _ _ (sv1 hs1) s101) ?_
      rintro _ rfl; rw [wC2]
      refine AtT.zq rfl rfl qy (qz _ _) ?_
      rintro _ rfl
      refine AtT.zq rfl rfl ok32 (zt (zJ 4) [3, 0] _ _ _ (sv1 hs1) s105) ?_
      rintro _ rfl; rw [wC3]
      refine AtT.zg ?_
      refine AtT.zg ?_
      refine AtT.zg ?_
      refine AtT.done ?_
     rotate_right
     focus
      refine AtT.zu (zQ _ _) ?_
      intro q101 V101 hV101 hq101
      (try replace hs1:=hs1.le hV101);(try replace hs2:=hs2.le hV101);(try replace hps:=hps.le hV101);(try replace hu93:=hu93.le hV101);(try replace s97:=s97.le hV101);(try replace s105:=s105.le hV101)
      have s101 : SlI V101 _ [0, 1] := Sl.lit hq101 rfl (by decide)
      refine AtT.zq rfl rfl ok32 (zt (zJ 4) [1, 2] _ _ _ (sv1 hs1) s97) ?_
      rintro _ rfl; rw [wC1]
      refine AtT.zq rfl rfl qy (qz _ _) ?_
      rintro _ rfl
      refine AtT.zq rfl rfl ok32 (zt (zJ 4) [0, 1] _ _ _ (sv1 hs1) s101) ?_
      rintro _ rfl; rw [wC2]
      refine AtT.zq rfl rfl qy (qz _ _) ?_
      rintro _ rfl
      refine AtT.zq rfl rfl ok32 (zt (zJ 4) [3, 0] _ _ _ (sv1 hs1) s105) ?_
      rintro _ rfl; rw [wC3]
      refine AtT.zg ?_
      refine AtT.zg ?_
      refine AtT.zg ?_
      refine AtT.done ?_
    rotate_right
    focus
     refine AtT.zu (zQ _ _) ?_
     intro q101 V101 hV101 hq101
     (try replace hs1:=hs1.le hV101);(try replace hs2:=hs2.le hV101);(try replace hps:=hps.le hV101);(try replace hu93:=hu93.le hV101);(try replace s97:=s97.le hV101);(try replace s105:=s105.le hV101)
     have s101 : SlI V101 _ [0, 1] := Sl.lit hq101 rfl (by decide)
     refine AtT.two ?_ ?_
     focus
      refine AtT.zq rfl rfl ok32 (zt (zJ 4) [1, 2] _ _ _ (sv1 hs1) s97) ?_
      rintro _ rfl; rw [wC1]
      refine AtT.two ?_ ?_
      focus
       refine AtT.zq rfl rfl qy (qz _ _) ?_
       rintro _ rfl
       refine AtT.two ?_ ?_
       focus
        refine AtT.zq rfl rfl ok32 (zt (zJ 4) [0, 1] _ _ _ (sv1 hs1) s101) ?_
        rintro _ rfl; rw [wC2]
        refine AtT.zu (zQ _ _) ?_
        intro q105 V105 hV105 hq105
        (try replace hs1:=hs1.le hV105);(try replace hs2:=hs2.le hV105);(try replace hps:=hps.le hV105);(try replace hu93:=hu93.le hV105);(try replace s97:=s97.le hV105);(try replace s101:=s101.le hV105)
        have s105 : SlI V105 _ [3, 0] := Sl.lit hq105 rfl (by decide)
        refine AtT.zq rfl rfl qy (qz _ _) ?_
        rintro _ rfl
        refine AtT.zq rfl rfl ok32 (zt (zJ 4) [3, 0] _ _ _ (sv1 hs1) s105) ?_
        rintro _ rfl; rw [wC3]
        refine AtT.zg ?_
        refine AtT.zg ?_
        refine AtT.zg ?_
        refine AtT.done ?_
       rotate_right
       focus
        refine AtT.zu (zQ _ _) ?_
        intro q105 V105 hV105 hq105
        (try replace hs1:=hs1.le hV105);(try replace hs2:=hs2.le hV105);(try replace hps:=hps.le hV105);(try replace hu93:=hu93.le hV105);(try replace s97:=s97.le hV105);(try replace s101:=s101.le hV105)
        have s105 : SlI V105 _ [3, 0] := Sl.lit hq105 rfl (by decide)
        refine AtT.zq rfl rfl ok32 (zt (zJ 4) [0, 1] _ _ _ (sv1 hs1) s101) ?_
        rintro _ rfl; rw [wC2]
        refine AtT.zq rfl rfl qy (qz _ _) ?_
        rintro _ rfl
        refine AtT.zq rfl rfl ok32 (zt (zJ 4) [3, 0] _ _ _ (sv1 hs1) s105) ?_
        rintro _ rfl; rw [wC3]
        refine AtT.zg ?_
        refine AtT.zg ?_
        refine AtT.zg ?_
        refine AtT.done ?_
      rotate_right
      focus
       refine AtT.zu (zQ _ _) ?_
       intro q105 V105 hV105 hq105
       (try replace hs1:=hs1.le hV105);(try replace hs2:=hs2.le hV105);(try replace hps:=hps.le hV105);(try replace hu93:=hu93.le hV105);(try replace s97:=s97.le hV105);(try replace s101:=s101.le hV105)
       have s105 : SlI V105 _ [3, 0] := Sl.lit hq105 rfl (by decide)
       refine AtT.zq rfl rfl qy (qz _ _) ?_
       rintro _ rfl
       refine AtT.zq rfl rfl ok32 (zt (zJ 4) [0, 1] _ _ _ (sv1 hs1) s101) ?_
       rintro _ rfl; rw [wC2]
       refine AtT.zq rfl rfl qy (qz _ _) ?_
       rintro _ rfl
       refine AtT.zq rfl rfl ok32 (zt (zJ 4) [3, 0] _ _ _ (sv1 hs1) s105) ?_
       rintro _ rfl; rw [wC3]
       refine AtT.zg ?_
       refine AtT.zg ?_
       refine AtT.zg ?_
       refine AtT.done ?_
     rotate_right
     focus
      refine AtT.zu (zQ _ _) ?_
      intro q105 V105 hV105 hq105
      (try replace hs1:=hs1.le hV105);(try replace hs2:=hs2.le hV105);(try replace hps:=hps.le hV105);(try replace hu93:=hu93.le hV105);(try replace s97:=s97.le hV105);(try replace s101:=s101.le hV105)
      have s105 : SlI V105 _ [3, 0] := Sl.lit hq105 rfl (by decide)
      refine AtT.zq rfl rfl ok32 (zt (zJ 4) [1, 2] _ _ _ (sv1 hs1) s97) ?_
      rintro _ rfl; rw [wC1]
      refine AtT.zq rfl rfl qy (qz _ _) ?_
      rintro _ rfl
      refine AtT.zq rfl rfl ok32 (zt (zJ 4) [0, 1] _ _ _ (sv1 hs1) s101) ?_
      rintro _ rfl; rw [wC2]
      refine AtT.zq rfl rfl qy (qz _ _) ?_
      rintro _ rfl
      refine AtT.zq rfl rfl ok32 (zt (zJ 4) [3, 0] _ _ _ (sv1 hs1) s105) ?_
      rintro _ rfl; rw [wC3]
      refine AtT.zg ?_
      refine AtT.zg ?_
      refine AtT.zg ?_
      refine AtT.done ?_
    rotate_right
    focus
     refine AtT.zq rfl rfl ok32 (zt (zJ 4) [1, 2] _ _ _ (sv1 hs1) s97) ?_
     rintro _ rfl; rw [wC1]
     refine AtT.two ?_ ?_
     focus
      refine AtT.zu (zQ _ _) ?_
      intro q101 V101 hV101 hq101
      (try replace hs1:=hs1.le hV101);(try replace hs2:=hs2.le hV101);(try replace hps:=hps.le hV101);(try replace hu93:=hu93.le hV101);(try replace s97:=s97.le hV101);(try replace s105:=s105.le hV101)
      have s101 : SlI V101 _ [0, 1] := Sl.lit hq101 rfl (by decide)
      refine AtT.two ?_ ?_
      focus
       refine AtT.zq rfl rfl qy (qz _ _) ?_
       rintro _ rfl
       refine AtT.two ?_ ?_
       focus
        refine AtT.zq rfl rfl ok32 (zt (zJ 4) [0, 1] _ _ _ (sv1 hs1) s101) ?_
        rintro _ rfl; rw [wC2]
        refine AtT.zu (zQ _ _) ?_
        intro q105 V105 hV105 hq105
        (try replace hs1:=hs1.le hV105);(try replace hs2:=hs2.le hV105);(try replace hps:=hps.le hV105);(try replace hu93:=hu93.le hV105);(try replace s97:=s97.le hV105);(try replace s101:=s101.le hV105)
        have s105 : SlI V105 _ [3, 0] := Sl.lit hq105 rfl (by decide)
        refine AtT.zq rfl rfl qy (qz _ _) ?_
        rintro _ rfl
        refine AtT.zq rfl rfl ok32 (zt (zJ 4) [3, 0] _ _ _ (sv1 hs1) s105) ?_
        rintro _ rfl; rw [wC3]
        refine AtT.zg ?_
        refine AtT.zg ?_
        refine AtT.zg ?_
        refine AtT.done ?_
       rotate_right
       focus
        refine AtT.zu (zQ _ _) ?_
        intro q105 V105 hV105 hq105
        (try replace hs1:=hs1.le hV105);(try replace hs2:=hs2.le hV105);(try replace hps:=hps.le hV105);(try replace hu93:=hu93.le hV105);(try replace s97:=s97.le hV105);(try replace s101:=s101.le hV105)
        have s105 : SlI V105 _ [3, 0] := Sl.lit hq105 rfl (by decide)
        refine AtT.zq rfl rfl ok32 (zt (zJ 4) [0, 1] _ _ _ (sv1 hs1) s101) ?_
        rintro _ rfl; rw [wC2]
        refine AtT.zq rfl rfl qy (qz _ _) ?_
        rintro _ rfl
        refine AtT.zq rfl rfl ok32 (zt (zJ 4) [3, 0] _ _ _ (sv1 hs1) s105) ?_
        rintro _ rfl; rw [wC3]
        refine AtT.zg ?_
        refine AtT.zg ?_
        refine AtT.zg ?_
        refine AtT.done ?_
      rotate_right
      focus
       refine AtT.zu (zQ _ _) ?_
       intro q105 V105 hV105 hq105
       (try replace hs1:=hs1.le hV105);(try replace hs2:=hs2.le hV105);(try replace hps:=hps.le hV105);(try replace hu93:=hu93.le hV105);(try replace s97:=s97.le hV105);(try replace s101:=s101.le hV105)
       have s105 : SlI V105 _ [3, 0] := Sl.lit hq105 rfl (by decide)
       refine AtT.zq rfl rfl qy (qz _ _) ?_
       rintro _ rfl
       refine AtT.zq rfl rfl ok32 (zt (zJ 4) [0, 1] _ _ _ (sv1 hs1) s101) ?_
       rintro _ rfl; rw [wC2]
       refine AtT.zq rfl rfl qy (qz _ _) ?_
       rintro _ rfl
       refine AtT.zq rfl rfl ok32 (zt (zJ 4) [3, 0] _ _ _ (sv1 hs1) s105) ?_
       rintro _ rfl; rw [wC3]
       refine AtT.zg ?_
       refine AtT.zg ?_
       refine AtT.zg ?_
       refine AtT.done ?_
     rotate_right
     focus
      refine AtT.zu (zQ _ _) ?_
      intro q105 V105 hV105 hq105
      (try replace hs1:=hs1.le hV105);(try replace hs2:=hs2.le hV105);(try replace hps:=hps.le hV105);(try replace hu93:=hu93.le hV105);(try replace s97:=s97.le hV105);(try replace s101:=s101.le hV105)
      have s105 : SlI V105 _ [3, 0] := Sl.lit hq105 rfl (by decide)
      refine AtT.zu (zQ _ _) ?_
      intro q101 V101 hV101 hq101
      (try replace hs1:=hs1.le hV101);(try replace hs2:=hs2.le hV101);(try replace hps:=hps.le hV101);(try replace hu93:=hu93.le hV101);(try replace s97:=s97.le hV101);(try replace s105:=s105.le hV101)
      have s101 : SlI V101 _ [0, 1] := Sl.lit hq101 rfl (by decide)
      refine AtT.zq rfl rfl qy (qz _ _) ?_
      rintro _ rfl
      refine AtT.zq rfl rfl ok32 (zt (zJ 4) [0, 1] _ _ _ (sv1 hs1) s101) ?_
      rintro _ rfl; rw [wC2]
      refine AtT.zq rfl rfl qy (qz _ _) ?_
      rintro _ rfl
      refine AtT.zq rfl rfl ok32 (zt (zJ 4) [3, 0] _ _ _ (sv1 hs1) s105) ?_
      rintro _ rfl; rw [wC3]
      refine AtT.zg ?_
      refine AtT.zg ?_
      refine AtT.zg ?_
      refine AtT.done ?_
  all_goals (refine At.nrm ?_)
  all_goals exact At.qC () ⟨hs1, hs2, hps, hu93⟩ ⟨rfl, rfl, rfl, rfl, rfl, rfl, rfl, rfl, rfl, rfl, rfl, rfl, rfl, rfl, rfl, rfl, rfl, rfl, rfl, rfl, trivial⟩ Pt.zM
 rintro - Vc3 ks' O' ⟨hs1, hs2, hps, hu93⟩ hk hO hl3
 subst hk hO
 refine At.nrm ?_
 refine At.zl (.n false 0 (.n false 1 (.q 2 (.q 3 (.q 4 (.q 5 (.q 6 .done))))))) ?_
 refine AtT.qg rfl rfl ok52 (four_f 3 _) ?_
 rintro _ V109 hV109 hv109
 refine AtT.qg rfl rfl ok30 (partsP_f (zJ 3) _ _ hv109) ?_
 rintro _ V110 hV110 ⟨u110, ll, rfl, hu110, hr110⟩; rw [w30]
 refine AtT.zh ?_
 refine AtT.zN ?_
 refine AtT.zN ?_
 refine AtT.zg ?_
 refine AtT.zg ?_
 refine AtT.done ?_
 refine At.nrm ?_
 obtain rfl : ll = [[0, 2], [1, 3]] := by
  rcases hr110 with ⟨h, _⟩ | ⟨_, h⟩
  ·exact absurd w30 h
  ·exact prtK_uniq h wP
 replace hs1 := hs1.le hV109
 replace hs2 := hs2.le hV109
 replace hps := hps.le hV109
 replace hu93 := hu93.le hV109
 replace hs1 := hs1.le hV110
 replace hs2 := hs2.le hV110
 replace hps := hps.le hV110
 replace hu93 := hu93.le hV110
 clear hV109 hV110 hv109
 refine At.zl (.n false 0 (.n false 1 (.q 2 (.q 3 (.q 4 (.n false 5 (.n true 6 (.q 7 .done)))))))) ?_
 refine AtT.qg rfl rfl ok52 (four_f 36 _) ?_
 rintro _ V114 hV114 hv114
 refine AtT.zq rfl rfl ok36 (largest_f (zJ 36) _ _ hv114) ?_
 rintro _ rfl; rw [wL]
 refine AtT.zh ?_
 refine AtT.zN ?_
 refine AtT.zN ?_
 refine AtT.qx z26 ?_
 intro b24
 refine AtT.zW zS ?_
 refine AtT.zg ?_
 refine AtT.done ?_
 refine At.nrm ?_
 replace hs1 := hs1.le hV114
 replace hs2 := hs2.le hV114
 replace hps := hps.le hV114
 replace hu93 := hu93.le hV114
 replace hu110 := hu110.le hV114
 clear hV114 hv114
 refine At.zl (.q 0 (.n false 1 (.q 2 (.q 3 (.q 4 (.n false 5 (.n true 6 (.q 7 .done)))))))) ?_
 first | refine AtT.zD zP ?_ | refine AtT.zK zP ?_ | refine AtT.zC zP ?_
 refine AtT.qg rfl rfl ok38 (turn_f (zJ 4) 1 _ _ (sv1 hs1)) ?_
 rintro _ V120 hV120 ⟨u120, rfl, hu120⟩; rw [wT1]; obtain ⟨a120, c120, rfl, ht120⟩ := hu120
 refine AtT.zh ?_
 refine AtT.zN ?_
 refine AtT.zN ?_
 refine AtT.qx z24 ?_
 intro b26
 refine AtT.zW zP ?_
 refine AtT.zg ?_
 refine AtT.done ?_
 refine At.nrm ?_
 replace hs1 := hs1.le hV120
 replace hs2 := hs2.le hV120
 replace hps := hps.le hV120
 replace hu93 := hu93.le hV120
 replace hu110 := hu110.le hV120
 clear hV120
 refine At.zl (.q 0 (.n false 1 (.q 2 (.q 3 (.q 4 (.n false 5 (.n true 6 (.q 7 .done)))))))) ?_
 first | refine AtT.zD zP ?_ | refine AtT.zK zP ?_ | refine AtT.zC zP ?_
 refine AtT.qg rfl rfl ok38 (turn_f (zJ 4) 4 _ _ (sv1 hs1)) ?_
 rintro _ V125 hV125 ⟨u125, rfl, hu125⟩; rw [wT4]; obtain ⟨a125, c125, rfl, ht125⟩ := hu125
 refine AtT.zh ?_
 refine AtT.zN ?_
 refine AtT.zN ?_
 refine AtT.qx z24 ?_
 intro b28
 refine AtT.zW zP ?_
 refine AtT.zg ?_
 refine AtT.done ?_
 refine At.nrm ?_
 replace hs1 := hs1.le hV125
 replace hs2 := hs2.le hV125
 replace hps := hps.le hV125
 replace hu93 := hu93.le hV125
 replace hu110 := hu110.le hV125
 replace ht120 := ht120.le hV125
 clear hV125
 refine At.zl (.q 0 (.q 1 (.n false 2 (.q 3 (.q 4 (.q 5 (.q 6 (.q 7 .done)))))))) ?_
 first | refine AtT.zD zP ?_ | refine AtT.zK zP ?_ | refine AtT.zC zP ?_
 first | refine AtT.zD zP ?_ | refine AtT.zK zP ?_ | refine AtT.zC zP ?_
 refine AtT.zq rfl rfl ok40 (same_f (zJ 4) qH _ _ _ (sv1 hs1) (sv2 hs2)) ?_
 rintro _ rfl; rw [wS1]
 refine AtT.zh ?_
 refine AtT.zN ?_
 refine AtT.zN ?_
 refine AtT.zg ?_
 refine AtT.zg ?_
 refine AtT.done ?_
 refine At.nrm ?_
 refine At.draw (.q 0 (.n false 1 (.n false 2 (.q 3 (.q 4 (.q 5 (.q 6 (.q 7 .done)))))))) ffm (by kernel_rfl) ?_
 first | refine AtT.zD zP ?_ | refine AtT.zK zP ?_ | refine AtT.zC zP ?_
 refine AtT.qg rfl rfl ok52 (four_f 3 _) ?_
 rintro _ V136 hV136 hv136; (try replace hs1:=hs1.le hV136)
 refine AtT.zq rfl rfl ok40 (same_f (zJ 4) (zJ 3) _ _ _ (sv1 hs1) hv136) ?_
 rintro _ rfl; rw [wS2]
 refine AtT.zh ?_
 refine AtT.zN ?_
 refine AtT.zN ?_
 refine AtT.zg ?_
 refine AtT.zg ?_
 refine AtT.done ?_
 refine At.nrm ?_
 replace hs2 := hs2.le hV136
 replace hps := hps.le hV136
 replace hu93 := hu93.le hV136
 replace hu110 := hu110.le hV136
 replace ht120 := ht120.le hV136
 refine At.zl (.q 0 (.q 1 (.q 2 (.q 3 (.q 4 (.q 5 (.q 6 (.q 7 (.q 8 (.q 9 (.q 10 (.q 11 (.q 12 (.q 13 (.q 14 (.q 15 (.q 16 (.q 17 (.q 18 (.q 19 (.q 20 (.q 21 (.q 22 (.q 23 (.q 24 (.q 25 (.q 26 (.q 27 (.q 28 (.q 29 (.q 30 (.q 31 (.q 32 (.q 33 (.q 34 (.q 35 (.q 36 (.q 37 (.q 38 (.q 39 (.q 40 (.q 41 (.q 42 (.q 43 (.q 44 (.q 45 (.q 46 (.q 47 (.q 48 (.q 49 (.q 50 (.q 51 (.q 52 (.q 53 (.q 54 (.q 55 (.q 56 (.q 57 (.q 58 (.q 59 (.q 60 (.q 61 (.q 62 (.q 63 (.q 64 (.q 65 (.q 66 (.q 67 (.q 68 (.q 69 (.q 70 (.q 71 (.q 72 (.q 73 .done)))))))))))))))))))))))))))))))))))))))))))))))))))))))))))))))))))))))))) ?_
 refine AtT.zh ?_
 refine AtT.qG ?_
 refine AtT.zh ?_
 all_goals (first | refine AtT.kL 142 ?_ | refine AtT.zB (d := 142) rfl (fun hg142 => ?_) (fun hg142 => ?_) | refine AtT.zA (d := 142) rfl (fun hg142 => ?_) (fun hg142 => ?_))
 all_goals first|refine AtT.zf ?_|refine AtT.ze ?_|(refine AtT.zh ?_)
 all_goals first|refine AtT.zf ?_|refine AtT.ze ?_|(refine AtT.qG ?_)
 all_goals (refine AtT.zz ?_)
 all_goals (refine AtT.zh ?_)
 all_goals (first | refine AtT.kL 146 ?_ | refine AtT.zB (d := 146) rfl (fun hg146 => ?_) (fun hg146 => ?_) | refine AtT.zA (d := 146) rfl (fun hg146 => ?_) (fun hg146 => ?_))
 all_goals first|refine AtT.zf ?_|refine AtT.ze ?_|(refine AtT.zh ?_)
 all_goals first|refine AtT.zf ?_|refine AtT.ze ?_|(refine AtT.qG ?_)
 all_goals (refine AtT.zz ?_)
 all_goals (refine AtT.zh ?_)
 all_goals (first | refine AtT.kL 150 ?_ | refine AtT.zB (d := 150) rfl (fun hg150 => ?_) (fun hg150 => ?_) | refine AtT.zA (d := 150) rfl (fun hg150 => ?_) (fun hg150 => ?_))
 all_goals first|refine AtT.zf ?_|refine AtT.ze ?_|(refine AtT.zh ?_)
 all_goals first|refine AtT.zf ?_|refine AtT.ze ?_|(refine AtT.qG ?_)
 all_goals (refine AtT.zz ?_)
 all_goals (refine AtT.zh ?_)
 all_goals (first | refine AtT.kL 154 ?_ | refine AtT.zB (d := 154) rfl (fun hg154 => ?_) (fun hg154 => ?_) | refine AtT.zA (d := 154) rfl (fun hg154 => ?_) (fun hg154 => ?_))
 all_goals first|refine AtT.zf ?_|refine AtT.ze ?_|(refine AtT.zh ?_)
 all_goals first|refine AtT.zf ?_|refine AtT.ze ?_|(refine AtT.qG ?_)
 all_goals (refine AtT.zz ?_)
 all_goals (refine AtT.zh ?_)
 all_goals (first | refine AtT.kL 158 ?_ | refine AtT.zB (d := 158) rfl (fun hg158 => ?_) (fun hg158 => ?_) | refine AtT.zA (d := 158) rfl (fun hg158 => ?_) (fun hg158 => ?_))
 all_goals first|refine AtT.zf ?_|refine AtT.ze ?_|(refine AtT.zh ?_)
 all_goals first|refine AtT.zf ?_|refine AtT.ze ?_|(refine AtT.qG ?_)
 all_goals (refine AtT.zz ?_)
 all_goals (refine AtT.zh ?_)
 all_goals (first | refine AtT.kL 162 ?_ | refine AtT.zB (d := 162) rfl (fun hg162 => ?_) (fun hg162 => ?_) | refine AtT.zA (d := 162) rfl (fun hg162 => ?_) (fun hg162 => ?_))
 all_goals first|refine AtT.zf ?_|refine AtT.ze ?_|(refine AtT.zh ?_)
 all_goals first|refine AtT.zf ?_|refine AtT.ze ?_|(refine AtT.qG ?_)
 all_goals (refine AtT.zz ?_)
 all_goals (refine AtT.zh ?_)
 all_goals (first | refine AtT.kL 166 ?_ | refine AtT.zB (d := 166) rfl (fun hg166 => ?_) (fun hg166 => ?_) | refine AtT.zA (d := 166) rfl (fun hg166 => ?_) (fun hg166 => ?_))
 all_goals first|refine AtT.zf ?_|refine AtT.ze ?_|(refine AtT.zh ?_)
 all_goals first|refine AtT.zf ?_|refine AtT.ze ?_|(refine AtT.qG ?_)
 all_goals (refine AtT.zz ?_)
 all_goals (refine AtT.zh ?_)
 all_goals (first | refine AtT.kL 170 ?_ | refine AtT.zB (d := 170) rfl (fun hg170 => ?_) (fun hg170 => ?_) | refine AtT.zA (d := 170) rfl (fun hg170 => ?_) (fun hg170 => ?_))
 all_goals first|refine AtT.zf ?_|refine AtT.ze ?_|(refine AtT.zh ?_)
 all_goals first|refine AtT.zf ?_|refine AtT.ze ?_|(refine AtT.qG ?_)
 all_goals (refine AtT.zz ?_)
 all_goals (refine AtT.zh ?_)
 all_goals (first | refine AtT.kL 174 ?_ | refine AtT.zB (d := 174) rfl (fun hg174 => ?_) (fun hg174 => ?_) | refine AtT.zA (d := 174) rfl (fun hg174 => ?_) (fun hg174 => ?_))
 all_goals first|refine AtT.zf ?_|refine AtT.ze ?_|(refine AtT.zh ?_)
 all_goals first|refine AtT.zf ?_|refine AtT.ze ?_|(refine AtT.qG ?_)
 all_goals (refine AtT.zz ?_)
 all_goals (refine AtT.zh ?_)
 all_goals (first | refine AtT.kL 178 ?_ | refine AtT.zB (d := 178) rfl (fun hg178 => ?_) (fun hg178 => ?_) | refine AtT.zA (d := 178) rfl (fun hg178 => ?_) (fun hg178 => ?_))
 all_goals first|refine AtT.zf ?_|refine AtT.ze ?_|(refine AtT.zh ?_)
 all_goals first|refine AtT.zf ?_|refine AtT.ze ?_|(refine AtT.qG ?_)
 all_goals (refine AtT.zz ?_)
 all_goals (refine AtT.zh ?_)
 all_goals (first | refine AtT.kL 182 ?_ | refine AtT.zB (d := 182) rfl (fun hg182 => ?_) (fun hg182 => ?_) | refine AtT.zA (d := 182) rfl (fun hg182 => ?_) (fun hg182 => ?_))
 all_goals first|refine AtT.zf ?_|refine AtT.ze ?_|(refine AtT.zh ?_)
 all_goals first|refine AtT.zf ?_|refine AtT.ze ?_|(refine AtT.qG ?_)
 all_goals (refine AtT.zz ?_)
 all_goals (refine AtT.zh ?_)
 all_goals (first | refine AtT.kL 186 ?_ | refine AtT.zB (d := 186) rfl (fun hg186 => ?_) (fun hg186 => ?_) | refine AtT.zA (d := 186) rfl (fun hg186 => ?_) (fun hg186 => ?_))
 all_goals first|refine AtT.zf ?_|refine AtT.ze ?_|(refine AtT.zh ?_)
 all_goals first|refine AtT.zf ?_|refine AtT.ze ?_|(refine AtT.qG ?_)
 all_goals (refine AtT.zz ?_)
 all_goals (refine AtT.zh ?_)
 all_goals (first | refine AtT.kL 190 ?_ | refine AtT.zB (d := 190) rfl (fun hg190 => ?_) (fun hg190 => ?_) | refine AtT.zA (d := 190) rfl (fun hg190 => ?_) (fun hg190 => ?_))
 all_goals first|refine AtT.zf ?_|refine AtT.ze ?_|(refine AtT.zh ?_)
 all_goals first|refine AtT.zf ?_|refine AtT.ze ?_|(refine AtT.qG ?_)
 all_goals (refine AtT.zz ?_)
 all_goals (refine AtT.zh ?_)
 all_goals (first | refine AtT.kL 194 ?_ | refine AtT.zB (d := 194) rfl (fun hg194 => ?_) (fun hg194 => ?_) | refine AtT.zA (d := 194) rfl (fun hg194 => ?_) (fun hg194 => ?_))
 all_goals first|refine AtT.zf ?_|refine AtT.ze ?_|(refine AtT.zh ?_)
 all_goals first|refine AtT.zf ?_|refine AtT.ze ?_|(refine AtT.qG ?_)
 all_goals (refine AtT.zz ?_)
 all_goals (refine AtT.zh ?_)
 all_goals (first | refine AtT.kL 198 ?_ | refine AtT.zB (d := 198) rfl (fun hg198 => ?_) (fun hg198 => ?_) | refine AtT.zA (d := 198) rfl (fun hg198 => ?_) (fun hg198 => ?_))
 all_goals first|refine AtT.zf ?_|refine AtT.ze ?_|(refine AtT.zh ?_)
 all_goals first|refine AtT.zf ?_|refine AtT.ze ?_|(refine AtT.qG ?_)
 all_goals (refine AtT.zz ?_)
 all_goals (refine AtT.zh ?_)
 all_goals (first | refine AtT.kL 202 ?_ | refine AtT.zB (d := 202) rfl (fun hg202 => ?_) (fun hg202 => ?_) | refine AtT.zA (d := 202) rfl (fun hg202 => ?_) (fun hg202 => ?_))
 all_goals first|refine AtT.zf ?_|refine AtT.ze ?_|(refine AtT.zh ?_)
 all_goals first|refine AtT.zf ?_|refine AtT.ze ?_|(refine AtT.qG ?_)
 all_goals (refine AtT.zz ?_)
 all_goals (refine AtT.zh ?_)
 all_goals (first | refine AtT.kL 206 ?_ | refine AtT.zB (d := 206) rfl (fun hg206 => ?_) (fun hg206 => ?_) | refine AtT.zA (d := 206) rfl (fun hg206 => ?_) (fun hg206 => ?_))
 all_goals first|refine AtT.zf ?_|refine AtT.ze ?_|(refine AtT.zh ?_)
 all_goals first|refine AtT.zf ?_|refine AtT.ze ?_|(refine AtT.qG ?_)
 all_goals (refine AtT.zz ?_)
 all_goals (refine AtT.zh ?_)
 all_goals (first | refine AtT.kL 210 ?_ | refine AtT.zB (d := 210) rfl (fun hg210 => ?_) (fun hg210 => ?_) | refine AtT.zA (d := 210) rfl (fun hg210 => ?_) (fun hg210 => ?_))
 all_goals first|refine AtT.zf ?_|refine AtT.ze ?_|(refine AtT.zh ?_)
 all_goals first|refine AtT.zf ?_|refine AtT.ze ?_|(refine AtT.qG ?_)
 all_goals (refine AtT.zz ?_)
 all_goals refine AtT.done ?_
 all_goals (refine At.nrm ?_)
 refine At.qX rfl rfl ?_
 refine At.nrm ?_
 refine At.zl (.q 0 (.q 1 (.n false 2 (.q 3 (.q 4 (.q 5 (.q 6 (.q 7 .done)))))))) ?_
 first | refine AtT.zD zP ?_ | refine AtT.zK zP ?_ | refine AtT.zC zP ?_
 refine AtT.zh ?_
 refine AtT.zq rfl rfl ok18 (rcheckPatches_f (zJ 4) ps _ _ _ (sv1 hs1) hps) ?_
 rintro _ rfl; rw [hcp]
 refine AtT.zh ?_
 refine AtT.zN ?_
 refine AtT.zN ?_
 refine AtT.zg ?_
 refine AtT.zg ?_
 refine AtT.done ?_
 refine At.nrm ?_
 refine At.drawF [(0, 128, 1684996666696914987166688442938726917102321526408785780068975640576), (1, 1684996666696914987166688442938726917102321526408785780068975640576, 3369993333393829974333376885877453834204643052817571560137951281152), (2, 3369993333393829974333376885877453834204643052817571560137951281152, 6739986666787659948666753771754907668409286105635143120275902562304), (4, 6739986666787659948666753771754907668409286105635143120275902564352, 13479973333575319897333507543509815336818572211270286240551805124608), (12, 20219960000362979846000261315264723005227858316905429360827707686912, 26959946667150639794667015087019630673637144422540572481103610249216), (20, 33699933333938299743333768858774538342046430528175715601379512811520, 53919893334301279589334030174039261347274288845081144962207220498432), (36, 53919893334301279589334030174039261347274288845081144962207220498432, 107839786668602559178668060348078522694548577690162289924414440996864), (64, 107839786668602559178668060348078522694548577690162289924414441005056, 215679573337205118357336120696157045389097155380324579848828881993728), (192, 323519360005807677536004181044235568083645733070486869773243322990592, 431359146674410236714672241392314090778194310760649159697657763987456), (320, 539198933343012795893340301740392613472742888450811449622072204984320, 862718293348820473429344482784628181556388621521298319395315527974912), (576, 862718293348820473429344482784628181556388621521298319395315527974912, 1725436586697640946858688965569256363112777243042596638790631055949824), (1024, 1725436586697640946858688965569256363112777243042596638790631055982592, 3450873173395281893717377931138512726225554486085193277581262111899648), (3072, 5176309760092922840576066896707769089338331729127789916371893167849472, 6901746346790563787434755862277025452451108972170386555162524223799296), (5120, 8627182933488204734293444827846281815563886215212983193953155279749120, 13803492693581127574869511724554050904902217944340773110325048447598592), (9216, 15528929280278768521728200690123307268014995187383369749115679503548416, 27606985387162255149739023449108101809804435888681546220650096895197184), (17408, 27606985387162255149739023449108101809804435888681546220650096895197184, 55213970774324510299478046898216203619608871777363092441300193790394368), (32768, 55213970774324510299478046898216203619608871777363092441300228150132736, 110427941548649020598956093796432407239217743554726184882600387580788736), (98304, 165641912322973530898434140694648610858826615332089277323900581371183104, 220855883097298041197912187592864814478435487109452369765200775161577472), (163840, 276069853871622551497390234491081018098044358886815462206500968951971840, 441711766194596082395824375185729628956870974218904739530401550323154944), (294912, 441711766194596082395824375185729628956870974218904739530401550323154944, 883423532389192164791648750371459257913741948437809479060803100646309888), (524288, 883423532389192164791648750371459257913741948437809479060803117826179072, 1766847064778384329583297500742918515827483896875618958121606201292619776), (1572864, 2650270597167576494374946251114377773741225845313428437182409301938929664, 3533694129556768659166595001485837031654967793751237916243212402585239552), (2621440, 4417117661945960823958243751857296289568709742189047395304015503231549440, 7067388259113537318333190002971674063309935587502475832486424805170479104), (4718592, 7067388259113537318333190002971674063309935587502475832486424805170479104, 14134776518227074636666380005943348126619871175004951664972849610340958208), (8388608, 14134776518227074636666380005943348126619871175004951664972849610341089280, 28269553036454149273332760011886696253239742350009903329945699220681916416), (8388608, 14134776518227074636666380005943348126619871175004951664972849610340958208, 56539106072908298546665520023773392506479484700019806659891398441363832832), (41943040, 70673882591135373183331900029716740633099355875024758324864248051704791040, 113078212145816597093331040047546785012958969400039613319782796882727665664), (92274688, 155482541700497821003330180065376829392818582925054468314701345713750540288, 226156424291633194186662080095093570025917938800079226639565593765455331328), (142606336, 240291200809860268823328460101036918152537809975084178304538443375796289536, 452312848583266388373324160190187140051835877600158453279131187530910662656), (402653184, 452312848583266388373324160190187140051835877600158453279131187530910662656, 904625697166532776746648320380374280103671755200316906558262375061821325312), (536870912, 904625697166532776746648320380374280103671755200316906558262375061825519616, 1809251394333065553493296640760748560207343510400633813116524750123642650624), (536870912, 904625697166532776746648320380374280103671755200316906558262375061821325312, 3618502788666131106986593281521497120414687020801267626233049500247285301248), (2684354560, 4523128485832663883733241601901871400518358776001584532791311875309106626560, 7237005577332262213973186563042994240829374041602535252466099000494570602496), (536870912, 904625697166532776746648320380374280103671755200316906558262375061821325312, 14474011154664524427946373126085988481658748083205070504932198000989141204992), (13421772800, 15378636851831057204693021446466362761762419838405387411490460376050962530304, 28948022309329048855892746252171976963317496166410141009864396001978282409984), (22011707392, 37089653583827843846612581135595345484250541963212993168888757377534674337792, 57896044618658097711785492504343953926634992332820282019728792003956564819968), (52076478464, 58800670315824630488532140824724328206738664088020598926287054379018386145280, 115792089237316195423570985008687907853269984665640564039457584007913129639936), (70330089472, 118505966328815793753810929969829030693580999931241514759132371133098593615872, 231584178474632390847141970017375815706539969331281128078915168015826259279872), (137975824384, 232488804171798923623888618337756189986643641086481444985473430390888080605184, 463168356949264781694283940034751631413079938662562256157830336031652518559744), (412316860416, 463168356949264781694283940034751631413079938662562256157830336031652518559744, 926336713898529563388567880069503262826159877325124512315660672063305037119488), (549755813888, 926336713898529563388567880069503262826159877325124512315660672063305053896704, 1852673427797059126777135760139006525652319754650249024631321344126610074238976), (549755813888, 926336713898529563388567880069503262826159877325124512315660672063305037119488, 3705346855594118253554271520278013051304639509300498049262642688253220148477952), (2748779069440, 4631683569492647816942839400347516314130799386625622561578303360316525185597440, 7410693711188236507108543040556026102609279018600996098525285376506440296955904), (4947802324992, 8337030425086766070497110920625529365435438895926120610840946048569745334075392, 14821387422376473014217086081112052205218558037201992197050570753012880593911808), (9345848836096, 15747724136275002577605653961181555468044717914527116709366231425076185631031296, 29642774844752946028434172162224104410437116074403984394101141506025761187823616), (19241453486080, 32421784986448534718599875802432614198915595706379357931048123522215676299182080, 59285549689505892056868344324448208820874232148807968788202283012051522375647232), (35734127902720, 60211886403404421620256912204517712083700392026133093300517943684114827412766720, 118571099379011784113736688648896417641748464297615937576404566024103044751294464), (74766790688768, 118571099379011784113736688648896417641748464297615937576404566024103044751294464, 237142198758023568227473377297792835283496928595231875152809132048206089502588928), (140737488355328, 237142198758023568227473377297792835283496928595231875152809132048206089569697792, 474284397516047136454946754595585670566993857190463750305618264096412179005177856), (140737488355328, 237142198758023568227473377297792835283496928595231875152809132048206089502588932, 948568795032094272909893509191171341133987714380927500611236528192824358010355712), (985162418487296, 1659995391306164977592313641084549846984478500166623126069663924337442626518122496, 1897137590064188545819787018382342682267975428761855001222473056385648716020711424), (1266637395197952, 2134279788822212114047260395680135517551472357357086876375282188433854805523300352, 3794275180128377091639574036764685364535950857523710002444946112771297432041422848), (3377699720527872, 3794275180128377091639574036764685364535950857523710002444946112771297432041422848, 7588550360256754183279148073529370729071901715047420004889892225542594864082845696), (4503599627370496, 7588550360256754183279148073529370729071901715047420004889892225542594865156587520, 15177100720513508366558296147058741458143803430094840009779784451085189728165691392), (13510798882111488, 22765651080770262549837444220588112187215705145142260014669676676627784592248537088, 30354201441027016733116592294117482916287606860189680019559568902170379456331382784), (22517998136852480, 37942751801283770916395740367646853645359508575237100024449461127712974320414228480, 60708402882054033466233184588234965832575213720379360039119137804340758912662765568), (72057594037927935, 60708402882054033466233184588234965832575213720379360039119137804340758912662765568, 1)] (.q 0 (.q 1 (.q 2 (.q 3 (.q 4 (.q 5 (.q 6 (.q 7 (.q 8 (.q 9 (.q 10 (.q 11 (.q 12 (.q 13 (.q 14 (.q 15 (.q 16 (.q 17 (.q 18 (.q 19 (.q 20 (.q 21 (.q 22 (.q 23 (.q 24 (.n false 25 (.n false 26 (.n false 27 (.q 28 (.q 29 (.q 30 (.two 31 (.two 32 (.n false 33 (.n false 34 (.n false 35 (.n false 36 (.n false 37 (.q 38 (.q 39 (.q 40 (.n false 41 (.n false 42 (.q 43 (.q 44 (.q 45 (.q 46 (.q 47 (.q 48 (.q 49 (.n false 50 (.q 51 (.q 52 (.q 53 (.q 54 (.q 55 (.q 56 .done)))))))))))))))))))))))) 33 (.n false 32 (.n false 34 (.n false 35 (.n false 36 (.n false 37 (.q 38 (.q 39 (.q 40 (.n false 41 (.n false 42 (.q 43 (.q 44 (.q 45 (.q 46 (.q 47 (.q 48 (.q 49 (.n false 50 (.q 51 (.q 52 (.q 53 (.q 54 (.q 55 (.q 56 .done))))))))))))))))))))))))) 33 (.n false 31 (.n false 32 (.n false 34 (.n false 35 (.n false 36 (.n false 37 (.q 38 (.q 39 (.q 40 (.n false 41 (.n false 42 (.q 43 (.q 44 (.q 45 (.q 46 (.q 47 (.q 48 (.q 49 (.n false 50 (.q 51 (.q 52 (.q 53 (.q 54 (.q 55 (.q 56 .done))))))))))))))))))))))))))))))))))))))))))))))))))))))))) ffm (by kernel_rfl) (by kernel_rfl) (by kernel_rfl) ?_
 refine AtT.zh ?_
 refine AtT.keqI ?_
 refine AtT.qJ (d := 221) rfl (rfl) ?_
 refine AtT.zh ?_
 all_goals (first | refine AtT.kL 222 ?_ | refine AtT.zB (d := 222) rfl (fun hg222 => ?_) (fun hg222 => ?_) | refine AtT.zA (d := 222) rfl (fun hg222 => ?_) (fun hg222 => ?_))
 all_goals first|refine AtT.zf ?_|refine AtT.ze ?_|(refine AtT.zh ?_)
 all_goals first|refine AtT.zf ?_|refine AtT.ze ?_|(refine AtT.keqI ?_)
 all_goals (refine AtT.qJ (d := 224) rfl (rfl) ?_)
 all_goals (refine AtT.zz ?_)
 all_goals (refine AtT.zh ?_)
 all_goals (first | refine AtT.kL 226 ?_ | refine AtT.zB (d := 226) rfl (fun hg226 => ?_) (fun hg226 => ?_) | refine AtT.zA (d := 226) rfl (fun hg226 => ?_) (fun hg226 => ?_))
 all_goals first|refine AtT.zf ?_|refine AtT.ze ?_|(refine AtT.zh ?_)
 all_goals first|refine AtT.zf ?_|refine AtT.ze ?_|(refine AtT.keqI ?_)
 all_goals (refine AtT.qJ (d := 228) rfl (rfl) ?_)
 all_goals (refine AtT.zz ?_)
 all_goals (refine AtT.zh ?_)
 all_goals (first | refine AtT.kL 230 ?_ | refine AtT.zB (d := 230) rfl (fun hg230 => ?_) (fun hg230 => ?_) | refine AtT.zA (d := 230) rfl (fun hg230 => ?_) (fun hg230 => ?_))
 all_goals first|refine AtT.zf ?_|refine AtT.ze ?_|(refine AtT.zh ?_)
 all_goals first|refine AtT.zf ?_|refine AtT.ze ?_|(first | refine AtT.zZ Tryz.underlying27 ?_ | refine AtT.qa Tryz.underlying27 ?_)
 all_goals first|refine AtT.zf ?_|refine AtT.ze ?_|(refine AtT.keqI ?_)
 all_goals (refine AtT.qJ (d := 233) rfl ((by omega)) ?_)
 all_goals (refine AtT.zz ?_)
 all_goals (refine AtT.zh ?_)
 all_goals (first | refine AtT.kL 235 ?_ | refine AtT.zB (d := 235) rfl (fun hg235 => ?_) (fun hg235 => ?_) | refine AtT.zA (d := 235) rfl (fun hg235 => ?_) (fun hg235 => ?_))
 all_goals first|refine AtT.zf ?_|refine AtT.ze ?_|(refine AtT.zh ?_)
 all_goals first|refine AtT.zf ?_|refine AtT.ze ?_|(refine AtT.keqI ?_)
 all_goals (refine AtT.qJ (d := 237) rfl (rfl) ?_)
 all_goals (refine AtT.zz ?_)
 all_goals (refine AtT.zh ?_)
 all_goals (first | refine AtT.kL 239 ?_ | refine AtT.zB (d := 239) rfl (fun hg239 => ?_) (fun hg239 => ?_) | refine AtT.zA (d := 239) rfl (fun hg239 => ?_) (fun hg239 => ?_))
 all_goals first|refine AtT.zf ?_|refine AtT.ze ?_|(refine AtT.zh ?_)
 all_goals first|refine AtT.zf ?_|refine AtT.ze ?_|(refine AtT.keqI ?_)
 all_goals (refine AtT.qJ (d := 241) rfl (rfl) ?_)
 all_goals (refine AtT.zz ?_)
 all_goals (refine AtT.zh ?_)
 all_goals (first | refine AtT.kL 243 ?_ | refine AtT.zB (d := 243) rfl (fun hg243 => ?_) (fun hg243 => ?_) | refine AtT.zA (d := 243) rfl (fun hg243 => ?_) (fun hg243 => ?_))
 all_goals first|refine AtT.zf ?_|refine AtT.ze ?_|(refine AtT.zh ?_)
 all_goals first|refine AtT.zO ?_|refine AtT.zI ?_|((refine AtT.zu (zQ _ _) ?_) ; (intro q245 V245 hV245 hq245))
 all_goals ((try replace hs1:=hs1.le hV245);(try replace hs2:=hs2.le hV245);(try replace hu93:=hu93.le hV245);(try replace hu110:=hu110.le hV245);(try replace ht120:=ht120.le hV245))
 all_goals first|refine AtT.zO ?_|refine AtT.zI ?_|((refine AtT.zq rfl rfl qy (qz _ _) ?_) ; (rintro _ rfl))
 all_goals first|refine AtT.zO ?_|refine AtT.zI ?_|((refine AtT.zq rfl rfl ok34 (ints_f [0, 3] [0, 3] _ _ _ hu93 (Sl.lit hq245 rfl (by decide))) ?_) ; (rintro _ rfl))
 all_goals (refine AtT.qJ (d := 247) rfl (rfl) ?_)
 all_goals (refine AtT.zz ?_)
 all_goals (refine AtT.zh ?_)
 all_goals (first | refine AtT.kL 249 ?_ | refine AtT.zB (d := 249) rfl (fun hg249 => ?_) (fun hg249 => ?_) | refine AtT.zA (d := 249) rfl (fun hg249 => ?_) (fun hg249 => ?_))
 all_goals first|refine AtT.zf ?_|refine AtT.ze ?_|(refine AtT.zh ?_)
 refine AtT.two ?_ ?_
 focus
  all_goals first|refine AtT.zO ?_|refine AtT.zI ?_|((refine AtT.zu (zQ _ _) ?_) ; (intro q251 V251 hV251 hq251))
  all_goals ((try replace hs1:=hs1.le hV251);(try replace hs2:=hs2.le hV251);(try replace hu93:=hu93.le hV251);(try replace hu110:=hu110.le hV251);(try replace ht120:=ht120.le hV251);(try replace s253:=s253.le hV251))
  all_goals (have s251 : SlI V251 _ [0, 2] := Sl.lit hq251 rfl (by decide))
  refine AtT.two ?_ ?_
  focus
   all_goals first|refine AtT.zO ?_|refine AtT.zI ?_|((refine AtT.zq rfl rfl qy (qz _ _) ?_) ; (rintro _ rfl))
   all_goals first|refine AtT.zO ?_|refine AtT.zI ?_|((refine AtT.zu (zQ _ _) ?_) ; (intro q253 V253 hV253 hq253))
   all_goals ((try replace hs1:=hs1.le hV253);(try replace hs2:=hs2.le hV253);(try replace hu93:=hu93.le hV253);(try replace hu110:=hu110.le hV253);(try replace ht120:=ht120.le hV253);(try replace s251:=s251.le hV253))
   all_goals (have s253 : SlI V253 _ [1, 3] := Sl.lit hq253 rfl (by decide))
   all_goals first|refine AtT.zO ?_|refine AtT.zI ?_|((refine AtT.zq rfl rfl qy (qz _ _) ?_) ; (rintro _ rfl))
   all_goals first|refine AtT.zO ?_|refine AtT.zI ?_|((refine AtT.zu (bs42_2_0_1 _ _ _ _ _ _) ?_) ; (intro q255 V255 hV255 hq255))
   all_goals ((try replace hs1:=hs1.le hV255);(try replace hs2:=hs2.le hV255);(try replace hu93:=hu93.le hV255);(try replace hu110:=hu110.le hV255);(try replace ht120:=ht120.le hV255);(try replace s251:=s251.le hV255);(try replace s253:=s253.le hV255))
   all_goals first|refine AtT.zO ?_|refine AtT.zI ?_|((refine AtT.zq rfl rfl ok55 (lists_f _ _) ?_) ; (rintro _ rfl))
   all_goals first|refine AtT.zO ?_|refine AtT.zI ?_|((refine AtT.zq rfl rfl ok35 (lists_eq_f [[0, 2], [1, 3]] [[0, 2], [1, 3]] _ _ _ hu110 (SL.lit [(some q251, 2, 2), (some q253, 2, 2)] [[0, 2], [1, 3]] 2 hq255 rfl rfl (by simp) (fun i q l h1 h2 => by match i, h1, h2 with | 0, h1, h2 => (cases h1; cases h2; exact s251) | 1, h1, h2 => (cases h1; cases h2; exact s253)))) ?_) ; (rintro _ rfl))
   all_goals (refine AtT.qJ (d := 257) rfl (rfl) ?_)
   all_goals (refine AtT.zz ?_)
   all_goals (refine AtT.zh ?_)
   all_goals (first | refine AtT.kL 259 ?_ | refine AtT.zB (d := 259) rfl (fun hg259 => ?_) (fun hg259 => ?_) | refine AtT.zA (d := 259) rfl (fun hg259 => ?_) (fun hg259 => ?_))
   all_goals first|refine AtT.zf ?_|refine AtT.ze ?_|(first | refine AtT.zD zS ?_ | refine AtT.zK zS ?_ | refine AtT.zC zS ?_)
   all_goals first|refine AtT.zO ?_|refine AtT.zI ?_|((refine AtT.zu (qf _ _ _ _) ?_) ; (intro q261 V261 hV261 hq261))
   all_goals ((try replace hs1:=hs1.le hV261);(try replace hs2:=hs2.le hV261);(try replace ht120:=ht120.le hV261))
   all_goals (have s261 : SlI V261 _ [0, 2, 3, 2] := Sl.lit hq261 rfl (by decide))
   all_goals first|refine AtT.zO ?_|refine AtT.zI ?_|((refine AtT.qg rfl rfl ok53 (qB [⟨0, 2, 3, 2⟩] (by decide) _ _ (show SlI _ _ [0, 2, 3, 2] from s261)) ?_) ; (rintro _ V262 hV262 hp262; (try replace hs1:=hs1.le hV262); (try replace hs2:=hs2.le hV262); (try replace ht120:=ht120.le hV262); obtain ⟨a262, c262, rfl, k262, k262', _⟩ := id hp262; clear k262 k262'))
   all_goals first|refine AtT.zf ?_|refine AtT.ze ?_|(refine AtT.idx rfl ⟨_, _, rfl, rfl, rfl⟩ Tryz.underlying27 zS rfl hp262 rfl (by decide) (by decide) (by decide) ?_) ; (intro p263 e263 he263 hc263)
   all_goals first|refine AtT.zf ?_|refine AtT.ze ?_|(first | refine AtT.zD zS ?_ | refine AtT.zK zS ?_ | refine AtT.zC zS ?_)
   all_goals (obtain rfl : (⟨0, 2, 3, 2⟩ : Pc) = e263 := qK (h := he263))
   all_goals first|refine AtT.zf ?_|refine AtT.ze ?_|(refine AtT.keqS (eqS26 _ _ _ _ _ _ _ _) ?_)
   all_goals (refine AtT.qJ (d := 265) rfl (⟨rfl, rfl, rfl, rfl⟩) ?_)
   all_goals (refine AtT.zz ?_)
   all_goals (refine AtT.zh ?_)
   all_goals (first | refine AtT.kL 267 ?_ | refine AtT.zB (d := 267) rfl (fun hg267 => ?_) (fun hg267 => ?_) | refine AtT.zA (d := 267) rfl (fun hg267 => ?_) (fun hg267 => ?_))
   all_goals first|refine AtT.zf ?_|refine AtT.ze ?_|(first | refine AtT.zD zP ?_ | refine AtT.zK zP ?_ | refine AtT.zC zP ?_)
   all_goals first|refine AtT.zf ?_|refine AtT.ze ?_|(first | refine AtT.zD zP ?_ | refine AtT.zK zP ?_ | refine AtT.zC zP ?_)
   all_goals first|refine AtT.zO ?_|refine AtT.zI ?_|((refine AtT.zq rfl rfl ok42 (requal_f (tuR (zJ 4) 1).1 qH _ _ _ ⟨a120, c120, rfl, ht120⟩ (sv2 hs2)) ?_) ; (rintro _ rfl))
   all_goals (refine AtT.qJ (d := 270) rfl (wT1e) ?_)
   all_goals (refine AtT.zz ?_)
   all_goals (refine AtT.zh ?_)
   all_goals (first | refine AtT.kL 272 ?_ | refine AtT.zB (d := 272) rfl (fun hg272 => ?_) (fun hg272 => ?_) | refine AtT.zA (d := 272) rfl (fun hg272 => ?_) (fun hg272 => ?_))
   all_goals first|refine AtT.zf ?_|refine AtT.ze ?_|(refine AtT.zh ?_)
   all_goals first|refine AtT.zf ?_|refine AtT.ze ?_|(refine AtT.keqI ?_)
   all_goals (refine AtT.qJ (d := 274) rfl (rfl) ?_)
   all_goals (refine AtT.zz ?_)
   all_goals (refine AtT.zg ?_)
   all_goals refine AtT.done ?_
  rotate_right
  focus
   all_goals first|refine AtT.zO ?_|refine AtT.zI ?_|((refine AtT.zu (zQ _ _) ?_) ; (intro q253 V253 hV253 hq253))
   all_goals ((try replace hs1:=hs1.le hV253);(try replace hs2:=hs2.le hV253);(try replace hu93:=hu93.le hV253);(try replace hu110:=hu110.le hV253);(try replace ht120:=ht120.le hV253);(try replace s251:=s251.le hV253))
   all_goals (have s253 : SlI V253 _ [1, 3] := Sl.lit hq253 rfl (by decide))
   all_goals first|refine AtT.zO ?_|refine AtT.zI ?_|((refine AtT.zq rfl rfl qy (qz _ _) ?_) ; (rintro _ rfl))
   all_goals first|refine AtT.zO ?_|refine AtT.zI ?_|((refine AtT.zq rfl rfl qy (qz _ _) ?_) ; (rintro _ rfl))
   all_goals first|refine AtT.zO ?_|refine AtT.zI ?_|((refine AtT.zu (bs42_2_0_1 _ _ _ _ _ _) ?_) ; (intro q255 V255 hV255 hq255))
   all_goals ((try replace hs1:=hs1.le hV255);(try replace hs2:=hs2.le hV255);(try replace hu93:=hu93.le hV255);(try replace hu110:=hu110.le hV255);(try replace ht120:=ht120.le hV255);(try replace s251:=s251.le hV255);(try replace s253:=s253.le hV255))
   all_goals first|refine AtT.zO ?_|refine AtT.zI ?_|((refine AtT.zq rfl rfl ok55 (lists_f _ _) ?_) ; (rintro _ rfl))
   all_goals first|refine AtT.zO ?_|refine AtT.zI ?_|((refine AtT.zq rfl rfl ok35 (lists_eq_f [[0, 2], [1, 3]] [[0, 2], [1, 3]] _ _ _ hu110 (SL.lit [(some q251, 2, 2), (some q253, 2, 2)] [[0, 2], [1, 3]] 2 hq255 rfl rfl (by simp) (fun i q l h1 h2 => by match i, h1, h2 with | 0, h1, h2 => (cases h1; cases h2; exact s251) | 1, h1, h2 => (cases h1; cases h2; exact s253)))) ?_) ; (rintro _ rfl))
   all_goals (refine AtT.qJ (d := 257) rfl (rfl) ?_)
   all_goals (refine AtT.zz ?_)
   all_goals (refine AtT.zh ?_)
   all_goals first|refine AtT.zf ?_|refine AtT.ze ?_|(first | refine AtT.zD zS ?_ | refine AtT.zK zS ?_ | refine AtT.zC zS ?_)
   all_goals first|refine AtT.zO ?_|refine AtT.zI ?_|((refine AtT.zu (qf _ _ _ _) ?_) ; (intro q261 V261 hV261 hq261))
   all_goals ((try replace hs1:=hs1.le hV261);(try replace hs2:=hs2.le hV261);(try replace ht120:=ht120.le hV261))
   all_goals (have s261 : SlI V261 _ [0, 2, 3, 2] := Sl.lit hq261 rfl (by decide))
   all_goals first|refine AtT.zO ?_|refine AtT.zI ?_|((refine AtT.qg rfl rfl ok53 (qB [⟨0, 2, 3, 2⟩] (by decide) _ _ (show SlI _ _ [0, 2, 3, 2] from s261)) ?_) ; (rintro _ V262 hV262 hp262; (try replace hs1:=hs1.le hV262); (try replace hs2:=hs2.le hV262); (try replace ht120:=ht120.le hV262); obtain ⟨a262, c262, rfl, k262, k262', _⟩ := id hp262; clear k262 k262'))
   all_goals first|refine AtT.zf ?_|refine AtT.ze ?_|(refine AtT.idx rfl ⟨_, _, rfl, rfl, rfl⟩ Tryz.underlying27 zS rfl hp262 rfl (by decide) (by decide) (by decide) ?_) ; (intro p263 e263 he263 hc263)
   all_goals first|refine AtT.zf ?_|refine AtT.ze ?_|(first | refine AtT.zD zS ?_ | refine AtT.zK zS ?_ | refine AtT.zC zS ?_)
   all_goals (obtain rfl : (⟨0, 2, 3, 2⟩ : Pc) = e263 := qK (h := he263))
   all_goals first|refine AtT.zf ?_|refine AtT.ze ?_|(refine AtT.keqS (eqS26 _ _ _ _ _ _ _ _) ?_)
   all_goals (refine AtT.qJ (d := 265) rfl (⟨rfl, rfl, rfl, rfl⟩) ?_)
   all_goals (refine AtT.zz ?_)
   all_goals (refine AtT.zh ?_)
   all_goals first|refine AtT.zf ?_|refine AtT.ze ?_|(first | refine AtT.zD zP ?_ | refine AtT.zK zP ?_ | refine AtT.zC zP ?_)
   all_goals first|refine AtT.zf ?_|refine AtT.ze ?_|(first | refine AtT.zD zP ?_ | refine AtT.zK zP ?_ | refine AtT.zC zP ?_)
   all_goals first|refine AtT.zO ?_|refine AtT.zI ?_|((refine AtT.zq rfl rfl ok42 (requal_f (tuR (zJ 4) 1).1 qH _ _ _ ⟨a120, c120, rfl, ht120⟩ (sv2 hs2)) ?_) ; (rintro _ rfl))
   all_goals (refine AtT.qJ (d := 270) rfl (wT1e) ?_)
   all_goals (refine AtT.zz ?_)
   all_goals (refine AtT.zh ?_)
   all_goals first|refine AtT.zf ?_|refine AtT.ze ?_|(refine AtT.zh ?_)
   all_goals first|refine AtT.zf ?_|refine AtT.ze ?_|(refine AtT.keqI ?_)
   all_goals (refine AtT.qJ (d := 274) rfl (rfl) ?_)
   all_goals (refine AtT.zz ?_)
   all_goals (refine AtT.zg ?_)
   all_goals refine AtT.done ?_
 rotate_right
 focus
  all_goals first|refine AtT.zO ?_|refine AtT.zI ?_|((refine AtT.zu (zQ _ _) ?_) ; (intro q253 V253 hV253 hq253))
  all_goals ((try replace hs1:=hs1.le hV253);(try replace hs2:=hs2.le hV253);(try replace hu93:=hu93.le hV253);(try replace hu110:=hu110.le hV253);(try replace ht120:=ht120.le hV253);(try replace s251:=s251.le hV253))
  all_goals (have s253 : SlI V253 _ [1, 3] := Sl.lit hq253 rfl (by decide))
  all_goals first|refine AtT.zO ?_|refine AtT.zI ?_|((refine AtT.zu (zQ _ _) ?_) ; (intro q251 V251 hV251 hq251))
  all_goals ((try replace hs1:=hs1.le hV251);(try replace hs2:=hs2.le hV251);(try replace hu93:=hu93.le hV251);(try replace hu110:=hu110.le hV251);(try replace ht120:=ht120.le hV251);(try replace s253:=s253.le hV251))
  all_goals (have s251 : SlI V251 _ [0, 2] := Sl.lit hq251 rfl (by decide))
  all_goals first|refine AtT.zO ?_|refine AtT.zI ?_|((refine AtT.zq rfl rfl qy (qz _ _) ?_) ; (rintro _ rfl))
  all_goals first|refine AtT.zO ?_|refine AtT.zI ?_|((refine AtT.zq rfl rfl qy (qz _ _) ?_) ; (rintro _ rfl))
  all_goals first|refine AtT.zO ?_|refine AtT.zI ?_|((refine AtT.zu (bs42_2_0_1 _ _ _ _ _ _) ?_) ; (intro q255 V255 hV255 hq255))
  all_goals ((try replace hs1:=hs1.le hV255);(try replace hs2:=hs2.le hV255);(try replace hu93:=hu93.le hV255);(try replace hu110:=hu110.le hV255);(try replace ht120:=ht120.le hV255);(try replace s251:=s251.le hV255);(try replace s253:=s253.le hV255))
  all_goals first|refine AtT.zO ?_|refine AtT.zI ?_|((refine AtT.zq rfl rfl ok55 (lists_f _ _) ?_) ; (rintro _ rfl))
  all_goals first|refine AtT.zO ?_|refine AtT.zI ?_|((refine AtT.zq rfl rfl ok35 (lists_eq_f [[0, 2], [1, 3]] [[0, 2], [1, 3]] _ _ _ hu110 (SL.lit [(some q251, 2, 2), (some q253, 2, 2)] [[0, 2], [1, 3]] 2 hq255 rfl rfl (by simp) (fun i q l h1 h2 => by match i, h1, h2 with | 0, h1, h2 => (cases h1; cases h2; exact s251) | 1, h1, h2 => (cases h1; cases h2; exact s253)))) ?_) ; (rintro _ rfl))
  all_goals (refine AtT.qJ (d := 257) rfl (rfl) ?_)
  all_goals (refine AtT.zz ?_)
  all_goals (refine AtT.zh ?_)
  all_goals first|refine AtT.zf ?_|refine AtT.ze ?_|(first | refine AtT.zD zS ?_ | refine AtT.zK zS ?_ | refine AtT.zC zS ?_)
  all_goals first|refine AtT.zO ?_|refine AtT.zI ?_|((refine AtT.zu (qf _ _ _ _) ?_) ; (intro q261 V261 hV261 hq261))
  all_goals ((try replace hs1:=hs1.le hV261);(try replace hs2:=hs2.le hV261);(try replace ht120:=ht120.le hV261))
  all_goals (have s261 : SlI V261 _ [0, 2, 3, 2] := Sl.lit hq261 rfl (by decide))
  all_goals first|refine AtT.zO ?_|refine AtT.zI ?_|((refine AtT.qg rfl rfl ok53 (qB [⟨0, 2, 3, 2⟩] (by decide) _ _ (show SlI _ _ [0, 2, 3, 2] from s261)) ?_) ; (rintro _ V262 hV262 hp262; (try replace hs1:=hs1.le hV262); (try replace hs2:=hs2.le hV262); (try replace ht120:=ht120.le hV262); obtain ⟨a262, c262, rfl, k262, k262', _⟩ := id hp262; clear k262 k262'))
  all_goals first|refine AtT.zf ?_|refine AtT.ze ?_|(refine AtT.idx rfl ⟨_, _, rfl, rfl, rfl⟩ Tryz.underlying27 zS rfl hp262 rfl (by decide) (by decide) (by decide) ?_) ; (intro p263 e263 he263 hc263)
  all_goals first|refine AtT.zf ?_|refine AtT.ze ?_|(first | refine AtT.zD zS ?_ | refine AtT.zK zS ?_ | refine AtT.zC zS ?_)
  all_goals (obtain rfl : (⟨0, 2, 3, 2⟩ : Pc) = e263 := qK (h := he263))
  all_goals first|refine AtT.zf ?_|refine AtT.ze ?_|(refine AtT.keqS (eqS26 _ _ _ _ _ _ _ _) ?_)
  all_goals (refine AtT.qJ (d := 265) rfl (⟨rfl, rfl, rfl, rfl⟩) ?_)
  all_goals (refine AtT.zz ?_)
  all_goals (refine AtT.zh ?_)
  all_goals first|refine AtT.zf ?_|refine AtT.ze ?_|(first | refine AtT.zD zP ?_ | refine AtT.zK zP ?_ | refine AtT.zC zP ?_)
  all_goals first|refine AtT.zf ?_|refine AtT.ze ?_|(first | refine AtT.zD zP ?_ | refine AtT.zK zP ?_ | refine AtT.zC zP ?_)
  all_goals first|refine AtT.zO ?_|refine AtT.zI ?_|((refine AtT.zq rfl rfl ok42 (requal_f (tuR (zJ 4) 1).1 qH _ _ _ ⟨a120, c120, rfl, ht120⟩ (sv2 hs2)) ?_) ; (rintro _ rfl))
  all_goals (refine AtT.qJ (d := 270) rfl (wT1e) ?_)
  all_goals (refine AtT.zz ?_)
  all_goals (refine AtT.zh ?_)
  all_goals first|refine AtT.zf ?_|refine AtT.ze ?_|(refine AtT.zh ?_)
  all_goals first|refine AtT.zf ?_|refine AtT.ze ?_|(refine AtT.keqI ?_)
  all_goals (refine AtT.qJ (d := 274) rfl (rfl) ?_)
  all_goals (refine AtT.zz ?_)
  all_goals (refine AtT.zg ?_)
  all_goals refine AtT.done ?_
 all_goals (refine At.nrm ?_)
 all_goals (exact At.qb rfl (.tmp rfl) rfl)
end Go.Proofs.YtghomjjffllkeaaGreatDoor


