/- Texts that the last one of this claim imports. -/
import Derived.Lib.SliceRun
import Derived.WideLaws
import Derived.Lib.SlTrimSet
import Derived.Test.YtpoignmclfdgpaaGreatDoorB3
set_option linter.unusedVariables false
set_option linter.unusedSimpArgs false
set_option linter.unusedSectionVars false
set_option linter.unusedVariables false
namespace Go.Proofs.YtpoignmclfdgpaaGreatDoor
open Go.Lw Go.Gl Go.Bk Go.RowKit
theorem stC_off (f : Nat → Int) {j : Nat} (h : j < 8) : (stC f)[0 + ((j : Nat) : Int).toNat * 1]? = some (iv (f j)) := by rw [Int.toNat_natCast, Nat.mul_one, Nat.zero_add]; exact stC_at f h
def stJ (rs : List Rc) (e : En) (f : Nat → Int) (j : Nat) : Nat → Int := fun s => if s < j then stB rs e f s else f s
theorem stJ_zero (rs : List Rc) (e : En) (f : Nat → Int) : stJ rs e f 0 = f := by funext s; simp [stJ]
theorem stJ_all (rs : List Rc) (e : En) (f : Nat → Int) : stC (stJ rs e f 8) = stC (stB rs e f) := stC_ext fun s hs => by simp [stJ, hs]
theorem stJ_at (rs : List Rc) (e : En) (f : Nat → Int) (j : Nat) : stJ rs e f j j = f j := by simp [stJ]
theorem stJ_set (rs : List Rc) (e : En) (f : Nat → Int) {j : Nat} (h : j < 8) : (stC (stJ rs e f j)).set (0 + ((j : Nat) : Int).toNat * 1) (iv (f j + (more e j - less rs e j))) = stC (stJ rs e f (j + 1)) := by
 rw [Int.toNat_natCast, Nat.mul_one, Nat.zero_add, stC_set _ _ h]
 refine stC_ext fun s hs => ?_
 rw [jB]
 unfold stJ
 by_cases c : s = j
 ·subst c; rw [if_pos rfl, if_pos (by omega)]; rfl
 ·rw [if_neg c]
  by_cases d : s < j
  ·rw [if_pos d, if_pos (by omega)]
  ·rw [if_neg d, if_neg (by omega)]
theorem okS_of {rs : List Rc} {e : En} {f : Nat → Int} (h : ∀ s, s < 8 → less rs e s ≤ f s) : okS rs e f = true := okS_iff.2 fun s hs => by have := h s hs; unfold stA; omega
theorem okS_not {rs : List Rc} {e : En} {f : Nat → Int} {j : Nat} (hj : j < 8) (h : f j < less rs e j) : okS rs e f = false := by
 cases ho : okS rs e f with
 | false => rfl
 | true => have := okS_iff.1 ho j hj; unfold stA at this; omega
def runT (b : Bo) (first : Nat) (day : Int) : Value := match runS b.rs b.es first day with
 | some st => .tuple #[.agg (stC st).toArray, .bool true]
 | none => .tuple #[.agg (stC fun _ => 0).toArray, .bool false]
theorem runT_some {b : Bo} {first : Nat} {day : Int} {st : Nat → Int} (h : runS b.rs b.es first day = some st) : runT b first day = .tuple #[.agg (stC st).toArray, .bool true] := by unfold runT; rw [h]
theorem runT_none {b : Bo} {first : Nat} {day : Int} (h : runS b.rs b.es first day = none) : runT b first day = .tuple #[.agg (stC fun _ => 0).toArray, .bool false] := by unfold runT; rw [h]
theorem run_f (b : Bo) (hb : BoG b) (first : Nat) (hf : first ≤ b.es.length) (hbk : BkOk b.es first) (day : Int) (p m1 m2 : Nat) (u1 : Value) (a : Option Addr) (c : Nat) (V : View) (hsto : StoV V p u1 (.slice a b.es.length c) m1 m2) (hes : Sl V ene 4 (.slice a b.es.length c) b.es) (hm1 : RMap V m1 b.rs) :
  Fnc Tryz.prog 68 [.pointer (some ⟨p, 0, none⟩), iv first, iv day] V fun r _ => r = runT b first day := by
 have h24 := hb.len
 have hc1 := hsto.c1
 have hcl : (cntI b.es first).length ≤ first := by rw [List.length_map]; exact cntJ_len b.es first first
 have hcI : (cntI b.es first).length = (cntS b.es first).length := List.length_map ..
 have hyl : (ysC b.es first).length = (cntI b.es first).length := List.length_map ..
 refine fn_ofM Tryz.func68 rfl Tryz.ntmps68 (Nat.le_of_ble_eq_true rfl) ?_
 intro w0 hw0
 refine At.nrm ?_
 refine At.zi (.n false 0 (.n false 1 (.n false 2 (.n false 3 .done)))) ?_
 refine AtT.jE ?_
 intro b3
 refine AtT.jE ?_
 intro b5
 refine AtT.zT z105 ?_
 intro b6
 refine AtT.zT z4 ?_
 intro b7
 refine AtT.done ?_
 refine At.nrm ?_
 refine At.zi (.n false 0 .done) ?_
 refine AtT.zT z105 ?_
 intro b8
 refine AtT.done ?_
 refine At.nrm ?_
 refine At.zi (.q 0 (.q 1 (.n false 2 (.n true 3 .done)))) ?_
 first | refine AtT.zm tk83 ?_ | refine AtT.zo tk83 ?_
 refine AtT.kfn ?_
 refine AtT.zT z138 ?_
 intro b9
 first | refine AtT.jc tk138 ?_ | refine AtT.zy tk138 ?_
 refine AtT.done ?_
 refine At.nrm ?_
 refine At.nrm ?_
 refine At.zi (.q 0 (.q 1 (.n false 2 .done))) ?_
 first | refine AtT.zm tk83 ?_ | refine AtT.zo tk83 ?_
 refine AtT.zf ?_
 refine AtT.qg rfl rfl ok64 (counting_f b.es first hf (by omega) hbk p m1 m2 u1 a c _ hsto hes) ?_
 rintro v19 V19 hV19 ⟨q, rfl, hit⟩
 refine AtT.done ?_
 refine At.nrm ?_
 refine At.rangeFunc (Vi := V19) (ys := ysC b.es first) (ι := Nat × (Nat → Int)) (fun g => g.1)
  (fun g => [.blk b3 (LC [.pointer (some ⟨p, 0, none⟩)] 83), .blk b5 (LC [iv day] 3), .blk b6 (LC (stC fun _ => 0) 105), .blk b7 (LC [.bool false] 4), .blk b8 (LC (stC g.2) 105), .blk b9 (LC [.func (.func 93) #[.pointer (some ⟨p, 0, none⟩)] #[]] 138)])
  (fun g V' => Le V19 V' ∧ g.1 ≤ (cntI b.es first).length ∧ runS b.rs b.es first day = runL b.rs day (((cntS b.es first).drop g.1).map (enA b.es)) g.2 ∧ ∀ s, s < 8 → 0 ≤ g.2 s ∧ g.2 s ≤ 1000 * (g.1 : Int))
  (fun cd O' V' => cd = .ret ∧ O' = [.blk b6 (LC (stC fun _ => 0) 105), .blk b7 (LC [.bool false] 4)] ∧ runS b.rs b.es first day = none) rfl ok91 (0, fun _ => 0) rfl ?_ ⟨Le.refl _, Nat.zero_le _, rfl, fun s _ => ⟨by simp, by simp⟩⟩ hit (fun _ _ h => h.1) (by decide) (fun y hy => by obtain ⟨k, _, rfl⟩ := List.mem_map.1 hy; rfl) rfl ?_ ?_ ?_
 ·exact Pt.zI
 ·rintro ⟨i, f⟩ y l D r V' ks' O' hy ⟨hVV, hil, hrun, hfb⟩ hl rfl rfl
  dsimp only at hy hil hrun hfb ⊢
  have hi : i < (cntI b.es first).length := by
   have := (List.getElem?_eq_some_iff.1 hy).1
   rwa [hyl] at this
  obtain ⟨k, hq⟩ : ∃ k, (cntS b.es first)[i]? = some k := ⟨_, List.getElem?_eq_getElem (by omega)⟩
  have hqI : (cntI b.es first)[i]? = some (k : Int) := by rw [List.getElem?_map, hq]; rfl
  rw [List.getElem?_map, hqI] at hy
  obtain rfl := (Option.some.inj hy).symm
  have hk24 := cntS_lt (List.mem_of_getElem? hq)
  obtain ⟨e, he⟩ : ∃ e, b.es[k]? = some e := ⟨_, List.getElem?_eq_getElem (by omega)⟩
  have hee := enA_at he
  have hg := hb.es e (List.mem_of_getElem? he)
  rw [drop_at hq, List.map_cons, hee, runL_step] at hrun
  have hf24 : ∀ s, s < 8 → 0 ≤ f s ∧ f s ≤ 24000 := fun s hs => by have := hfb s hs; omega
  have hVa := hV19.trans hVV
  have hsto' := hsto.le hVa
  have hc1' := hsto'.c1
  have hes' := hes.le hVa
  have hm1' := hm1.le hVa
  show At _ _ ((20, iv (k : Int)) :: _) _ _ _
  refine At.nrm ?_
  refine At.zi (.q 0 .done) ?_
  refine AtT.zg ?_
  refine AtT.done ?_
  refine At.nrm ?_
  refine At.begin zP.zI ?_
  refine At.nrm ?_
  refine At.zi (.q 0 (.q 1 (.q 2 (.q 3 (.q 4 (.q 5 (.q 6 (.q 7 (.n false 8 (.n true 9 .done)))))))))) ?_
  first | refine AtT.zm tk83 ?_ | refine AtT.zo tk83 ?_
  refine AtT.jM ?_
  first | refine AtT.zk kg ?_ | with_reducible refine AtT.zl kg ?_ | refine AtT.zn kg ?_
  first | refine AtT.zk zz ?_ | with_reducible refine AtT.zl zz ?_ | refine AtT.zn zz ?_
  first | refine AtT.zm qo ?_ | refine AtT.zo qo ?_
  refine AtT.zf ?_
  refine AtT.qm Tryz.underlying24 qH ?_
  intro p27 e27 he27 hc27
  obtain rfl : e = e27 := by have : b.es[k]? = some e27 := (by simpa using he27); rw [he] at this; simpa using this
  first | refine AtT.zF qH ?_ | refine AtT.zJ qH ?_ | refine AtT.zD qH ?_
  refine AtT.zT z36 ?_
  intro b11
  refine AtT.zy qH ?_
  refine AtT.done ?_
  refine At.nrm ?_
  refine At.nrm ?_
  refine At.zi (.q 0 (.q 1 (.q 2 (.q 3 .done)))) ?_
  first | refine AtT.zk qc ?_ | with_reducible refine AtT.zl qc ?_ | refine AtT.zn qc ?_
  first | refine AtT.zm tk3 ?_ | refine AtT.zo tk3 ?_
  first | refine AtT.zm tk3 ?_ | refine AtT.zo tk3 ?_
  refine AtT.qI ?_
  refine AtT.done ?_
  refine At.nrm ?_
  refine At.qb rfl (fun hd => ?_) (fun hd => ?_)
  ·rw [if_pos hd] at hrun
   refine At.nrm ?_
   refine At.roundN (i + 1, f) rfl ⟨hVV, by dsimp only; omega, hrun, fun s hs => by have := hfb s hs; dsimp only; push_cast; omega⟩ zP.zI ?_
   ·exact Pt.zI
  rw [if_neg hd] at hrun
  refine At.nrm ?_
  apply At.draw2 (.q 0 (.q 1 (.q 3 (.br [2, 5, 6] (fun i => bif Nat.beq i 2 then (.br [4, 5, 6] (fun i => bif Nat.beq i 4 then (Tr.al 2 [5, 6] (.n true 7 (.n true 8 .done))) else bif Nat.beq i 5 then (.two 4 (.n false 6 (.n true 7 (.n true 8 .done))) 6 (.n false 4 (.n true 7 (.n true 8 .done)))) else bif Nat.beq i 6 then (.two 4 (.n false 5 (.n true 7 (.n true 8 .done))) 5 (.n false 4 (.n true 7 (.n true 8 .done)))) else .done)) else bif Nat.beq i 5 then (.two 2 (.two 4 (.n false 6 (.n true 7 (.n true 8 .done))) 6 (.n false 4 (.n true 7 (.n true 8 .done)))) 6 (.n false 2 (.n false 4 (.n true 7 (.n true 8 .done))))) else bif Nat.beq i 6 then (.two 2 (.two 4 (.n false 5 (.n true 7 (.n true 8 .done))) 5 (.n false 4 (.n true 7 (.n true 8 .done)))) 5 (.n false 2 (.n false 4 (.n true 7 (.n true 8 .done))))) else .done))))) ffm (by kernel_rfl)
  ·first | refine AtT.zm tk138 ?_ | refine AtT.zo tk138 ?_
   first | refine AtT.zF qH ?_ | refine AtT.zJ qH ?_ | refine AtT.zD qH ?_
   first | refine AtT.zF qH ?_ | refine AtT.zJ qH ?_ | refine AtT.zD qH ?_
   refine AtT.br (fun i hi => ?_)
   simp only [List.mem_cons, List.not_mem_nil, or_false] at hi
   rcases hi with rfl | rfl | rfl
   focus
    refine AtT.kcallV rfl rfl rfl ok93 (taken_f b.rs hb.rs e hg p m1 m2 _ _ _ hsto' hm1') ?_
    rintro _ rfl
    refine AtT.br (fun i hi => ?_)
    simp only [List.mem_cons, List.not_mem_nil, or_false] at hi
    rcases hi with rfl | rfl | rfl
    focus
     refine AtT.zG rfl rfl ok94 (kG e hg _) ?_
     rintro _ rfl
     refine AtT.als2 ⟨⟨_, _, _, _, rfl, z105, rfl, by decide⟩, ⟨_, _, _, _, rfl, z105, rfl, by decide⟩, trivial⟩ (by decide) (by decide) ?_
     intro b12 b13
     refine AtT.zy qj ?_
     refine AtT.zy qj ?_
     exact AtT.done (fun a w hk hm => ⟨b12, b13, hk, hm⟩)
    focus
     refine AtT.zT z105 ?_
     intro b12
     refine AtT.two ?_ ?_
     focus
      refine AtT.zG rfl rfl ok94 (kG e hg _) ?_
      rintro _ rfl
      refine AtT.zT z105 ?_
      intro b13
      refine AtT.zy qj ?_
      refine AtT.zy qj ?_
      exact AtT.done (At.mid2 b12 b13)
     focus
      refine AtT.zT z105 ?_
      intro b13
      refine AtT.zG rfl rfl ok94 (kG e hg _) ?_
      rintro _ rfl
      refine AtT.zy qj ?_
      refine AtT.zy qj ?_
      exact AtT.done (At.mid2 b12 b13)
    focus
     refine AtT.zT z105 ?_
     intro b13
     refine AtT.two ?_ ?_
     focus
      refine AtT.zG rfl rfl ok94 (kG e hg _) ?_
      rintro _ rfl
      refine AtT.zT z105 ?_
      intro b12
      refine AtT.zy qj ?_
      refine AtT.zy qj ?_
      exact AtT.done (At.mid2 b12 b13)
     focus
      refine AtT.zT z105 ?_
      intro b12
      refine AtT.zG rfl rfl ok94 (kG e hg _) ?_
      rintro _ rfl
      refine AtT.zy qj ?_
      refine AtT.zy qj ?_
      exact AtT.done (At.mid2 b12 b13)
   focus
    refine AtT.zT z105 ?_
    intro b12
    refine AtT.two ?_ ?_
    focus
     refine AtT.kcallV rfl rfl rfl ok93 (taken_f b.rs hb.rs e hg p m1 m2 _ _ _ hsto' hm1') ?_
     rintro _ rfl
     refine AtT.two ?_ ?_
     focus
      refine AtT.zG rfl rfl ok94 (kG e hg _) ?_
      rintro _ rfl
      refine AtT.zT z105 ?_
      intro b13
      refine AtT.zy qj ?_
      refine AtT.zy qj ?_
      exact AtT.done (At.mid2 b12 b13)
     focus
      refine AtT.zT z105 ?_
      intro b13
      refine AtT.zG rfl rfl ok94 (kG e hg _) ?_
      rintro _ rfl
      refine AtT.zy qj ?_
      refine AtT.zy qj ?_
      exact AtT.done (At.mid2 b12 b13)
    focus
     refine AtT.zT z105 ?_
     intro b13
     refine AtT.kcallV rfl rfl rfl ok93 (taken_f b.rs hb.rs e hg p m1 m2 _ _ _ hsto' hm1') ?_
     rintro _ rfl
     refine AtT.zG rfl rfl ok94 (kG e hg _) ?_
     rintro _ rfl
     refine AtT.zy qj ?_
     refine AtT.zy qj ?_
     exact AtT.done (At.mid2 b12 b13)
   focus
    refine AtT.zT z105 ?_
    intro b13
    refine AtT.two ?_ ?_
    focus
     refine AtT.kcallV rfl rfl rfl ok93 (taken_f b.rs hb.rs e hg p m1 m2 _ _ _ hsto' hm1') ?_
     rintro _ rfl
     refine AtT.two ?_ ?_
     focus
      refine AtT.zG rfl rfl ok94 (kG e hg _) ?_
      rintro _ rfl
      refine AtT.zT z105 ?_
      intro b12
      refine AtT.zy qj ?_
      refine AtT.zy qj ?_
      exact AtT.done (At.mid2 b12 b13)
     focus
      refine AtT.zT z105 ?_
      intro b12
      refine AtT.zG rfl rfl ok94 (kG e hg _) ?_
      rintro _ rfl
      refine AtT.zy qj ?_
      refine AtT.zy qj ?_
      exact AtT.done (At.mid2 b12 b13)
    focus
     refine AtT.zT z105 ?_
     intro b12
     refine AtT.kcallV rfl rfl rfl ok93 (taken_f b.rs hb.rs e hg p m1 m2 _ _ _ hsto' hm1') ?_
     rintro _ rfl
     refine AtT.zG rfl rfl ok94 (kG e hg _) ?_
     rintro _ rfl
     refine AtT.zy qj ?_
     refine AtT.zy qj ?_
     exact AtT.done (At.mid2 b12 b13)
  intro b12 b13
  refine At.nrm ?_
  refine At.nrm ?_
  refine At.zi (.q 0 .done) ?_
  refine AtT.zf ?_
  refine AtT.done ?_
  refine At.nrm ?_
  refine At.lp (ι := Nat) (KS := fun j => [(3, .pointer (some ⟨b3, 0, none⟩)), (5, .pointer (some ⟨b5, 0, none⟩)), (6, .pointer (some ⟨b6, 0, none⟩)), (7, .pointer (some ⟨b7, 0, none⟩)), (8, .pointer (some ⟨b8, 0, none⟩)), (9, .pointer (some ⟨b9, 0, none⟩)), (12, .pointer (some ⟨b12, 0, none⟩)), (13, .pointer (some ⟨b13, 0, none⟩)), (38, iv j)])
   (OS := fun j => [.blk l (.loop { r with state := .busy, pending := none }), .blk D (.deferred (some [])), .blk b3 (LC [.pointer (some ⟨p, 0, none⟩)] 83), .blk b5 (LC [iv day] 3), .blk b6 (LC (stC fun _ => 0) 105), .blk b7 (LC [.bool false] 4), .blk b8 (LC (stC (stJ b.rs e f j)) 105), .blk b9 (LC [.func (.func 93) #[.pointer (some ⟨p, 0, none⟩)] #[]] 138), .blk b12 (LC (stC (less b.rs e)) 105), .blk b13 (LC (stC (more e)) 105)])
   (VS := fun j V'' => V'' = V' ∧ j ≤ 8 ∧ ∀ s, s < j → less b.rs e s ≤ f s) (μ := fun j => 8 - j) 0 ?_ ?_ ?_ ?_
  ·exact ⟨rfl, rfl, rfl, rfl, rfl, rfl, rfl, rfl, rfl, trivial⟩
  ·rw [stJ_zero]; exact Pt.zI
  ·exact ⟨rfl, Nat.zero_le _, fun s hs => absurd hs (Nat.not_lt_zero s)⟩
  rintro j V2 ks' O' ⟨rfl, hjl, hjs⟩ hk hO hl2
  subst hk hO
  refine At.nrm ?_
  refine At.zi (.q 0 .done) ?_
  refine AtT.qp ?_
  refine AtT.done ?_
  refine At.nrm ?_
  refine At.qb rfl (fun hp => ?_) (fun hp => ?_)
  rotate_left
  ·obtain rfl : j = 8 := by omega
   have ho := okS_of hjs
   rw [if_pos ho] at hrun
   have hbd := stB_bd hb.rs hg.n hfb ho
   rw [stJ_all]
   refine At.nrm ?_
   refine At.roundN (i + 1, stB b.rs e f) rfl ⟨hVV, by dsimp only; omega, hrun, fun s hs => by have := hbd s hs; dsimp only; push_cast; omega⟩ zP.zI ?_
   ·exact Pt.zI
  have hj8 : j < 8 := by omega
  have hn1 := stC_off (stJ b.rs e f j) hj8
  rw [stJ_at] at hn1
  have hn2 := stC_off (less b.rs e) hj8
  have hn3 := stC_off (more e) hj8
  have hfj := hf24 j hj8
  have hmj := more_bd hg.n j
  have hlj := less_nn8 hb.rs hg.n j
  refine At.nrm ?_
  refine At.zi (.q 0 (.q 1 .done)) ?_
  refine AtT.zf ?_
  refine AtT.zg ?_
  refine AtT.done ?_
  refine At.nrm ?_
  refine At.nrm ?_
  refine At.draw (.q 0 (.q 1 (.q 2 (.q 3 (.q 4 (.q 5 (.q 6 .done))))))) ffm (by kernel_rfl) ?_
  refine AtT.zf ?_
  refine AtT.kidxA Tryz.underlying105 tk2 ?_
  refine AtT.jQ rfl trivial rfl tk2 zP.zI hn1 (by decide) ?_
  refine AtT.zf ?_
  refine AtT.kidxA Tryz.underlying105 tk2 ?_
  refine AtT.jQ rfl trivial rfl tk2 zP.zI hn2 (by decide) ?_
  refine AtT.qp ?_
  refine AtT.done ?_
  refine At.nrm ?_
  refine At.qb rfl (fun hlt => ?_) (fun hlt => ?_)
  ·have ho := okS_not hj8 hlt
   rw [if_neg (by rw [ho]; simp)] at hrun
   refine At.nrm ?_
   refine At.zi (.q 0 (.n true 1 (.n true 2 .done))) ?_
   refine AtT.qy (bd105) ?_
   refine AtT.zy qj ?_
   first | refine AtT.jc tk4 ?_ | refine AtT.zy tk4 ?_
   refine AtT.done ?_
   refine At.nrm ?_
   refine At.roundR ⟨rfl, rfl, hrun⟩ zP.zI ?_
   ·exact Pt.zI
  have hset := stJ_set b.rs e f hj8
  refine At.nrm ?_
  refine At.draw (.q 0 (.q 1 (.q 2 (.q 3 (.q 4 (.q 5 (.q 6 (.q 7 (.q 8 (.q 9 (.q 10 (.q 11 (.n true 12 .done))))))))))))) ffm (by kernel_rfl) ?_
  refine AtT.zf ?_
  refine AtT.kidxA Tryz.underlying105 tk2 ?_
  refine AtT.jQ rfl trivial rfl tk2 zP.zI hn1 (by decide) ?_
  refine AtT.zf ?_
  refine AtT.kidxA Tryz.underlying105 tk2 ?_
  refine AtT.jQ rfl trivial rfl tk2 zP.zI hn3 (by decide) ?_
  refine AtT.zf ?_
  refine AtT.kidxA Tryz.underlying105 tk2 ?_
  refine AtT.jQ rfl trivial rfl tk2 zP.zI hn2 (by decide) ?_
  refine AtT.subt rfl trivial rfl rfl (by decide) (Fit.of (by omega) (by omega)) ?_
  refine AtT.add rfl trivial rfl rfl (by decide) (Fit.of (by omega) (by omega)) ?_
  refine AtT.kidxA Tryz.underlying105 tk2 ?_
  refine AtT.jK rfl trivial rfl rfl tk2 rfl rfl (by repeat first|exact Upd.here|apply Upd.there) (qU (by simp; omega) hset) ?_
  refine AtT.done ?_
  refine At.nrm ?_
  refine At.nrm ?_
  refine At.zi (.q 0 (.q 1 .done)) ?_
  first | refine AtT.qG ?_ | refine AtT.qd ?_
  refine AtT.zf ?_
  refine AtT.done ?_
  refine At.nrm ?_
  refine At.round (j + 1) ?_ ?_ ?_ ?_
  ·show 8 - (j + 1) < 8 - j; omega
  ·refine ⟨rfl, by omega, fun s hs => ?_⟩
   by_cases c : s = j
   ·subst c; omega
   ·exact hjs s (by omega)
  ·exact ⟨rfl, rfl, rfl, rfl, rfl, rfl, rfl, rfl, ivs (by omega), trivial⟩
  ·exact Pt.zI
 ·rintro ⟨i, f⟩ D V3 O' hk ⟨hVV, hil, hrun, hfb⟩ hl rfl
  dsimp only at hk hrun ⊢
  rw [hyl] at hk
  subst hk
  rw [hcI, List.drop_length] at hrun
  refine At.sub (ks' := [(6, .pointer (some ⟨b6, 0, none⟩)), (7, .pointer (some ⟨b7, 0, none⟩)), (8, .pointer (some ⟨b8, 0, none⟩))]) ⟨rfl, rfl, rfl, trivial⟩ ?_
  refine At.nrm ?_
  refine At.zi (.q 0 (.n true 1 (.n true 2 .done))) ?_
  first | refine AtT.zF qj ?_ | refine AtT.zJ qj ?_ | refine AtT.zD qj ?_
  refine AtT.zy qj ?_
  first | refine AtT.jc tk4 ?_ | refine AtT.zy tk4 ?_
  refine AtT.done ?_
  refine At.nrm ?_
  refine At.unmark (.inl rfl) rfl zP.zI ?_
  exact At.qN rfl (.agg rfl qj zP.zI rfl) (.cell rfl tk4 zP.zI rfl) (by rw [runT_some hrun])
 ·rintro D cd O' V3 ⟨rfl, rfl, hrun⟩ hl
  refine At.sub (ks' := [(6, .pointer (some ⟨b6, 0, none⟩)), (7, .pointer (some ⟨b7, 0, none⟩))]) ⟨rfl, rfl, trivial⟩ ?_
  refine At.nrm ?_
  refine At.unmark (.inl rfl) rfl zP.zI ?_
  exact At.qN rfl (.agg rfl qj zP.zI rfl) (.cell rfl tk4 zP.zI rfl) (by rw [runT_none hrun])
end Go.Proofs.YtpoignmclfdgpaaGreatDoor
set_option linter.unusedVariables false
namespace Go.Proofs.YtpoignmclfdgpaaGreatDoor
open Go.Lw Go.Gl Go.Bk Go.RowKit
def OpV (V : View) (p m1 m2 : Nat) (b : Bo) : Prop := ∃ u1 a c, StoV V p u1 (.slice a b.es.length c) m1 m2 ∧ RsV V u1 b.rs ∧ Sl V ene 4 (.slice a b.es.length c) b.es ∧ RMap V m1 b.rs
theorem OpV.le {V V' : View} {p m1 m2 : Nat} {b : Bo} (h : OpV V p m1 m2 b) (hl : Le V V') : OpV V' p m1 m2 b := by
 obtain ⟨u1, a, c, h1, h2, h3, h4⟩ := h
 exact ⟨u1, a, c, h1.le hl, h2.le hl, h3.le hl, h4.le hl⟩
def OpR (O : List Own) (b : Bo) (r : Value) (O' : List Own) (V' : View) : Prop :=
 (bkE b ≠ 0 ∧ r = .tuple #[.pointer none, iv (bkE b)] ∧ O' = O) ∨ (bkE b = 0 ∧ ∃ p m1 m2, r = .tuple #[.pointer (some ⟨p, 0, none⟩), iv 0] ∧ O' = .blk m2 (qV ekT iv [] 0) :: O ∧ OpV V' p m1 m2 b)
theorem open_f {cx : Cx} {O : List Own} (b : Bo) (V : View) (v : Value) (hv : BoV V v b) : FncM Tryz.prog cx 62 [v] O V fun r O' V' => Le V V' ∧ OpR O b r O' V' := by
 obtain ⟨v1, a, c, rfl, hr, hes⟩ := id hv
 obtain ⟨qs0, aq0, cq0, hqr0, rfl, hsq0, hq0⟩ := id hr
 have hlen := hes.jA
 refine fncM_of Tryz.func62 rfl Tryz.ntmps62 (Nat.le_of_ble_eq_true rfl) ?_
 refine At.nrm ?_
 refine At.zi (.n false 0 (.q 1 (.q 2 .done))) ?_
 refine AtT.jE ?_
 intro b1
 refine AtT.zg ?_
 refine AtT.zg ?_
 refine AtT.done ?_
 refine At.nrm ?_
 refine At.zi (.q 0 (.q 1 (.n false 2 (.q 3 .done)))) ?_
 first | refine AtT.zk zC ?_ | with_reducible refine AtT.zl zC ?_ | refine AtT.zn zC ?_
 first | refine AtT.zm qz ?_ | refine AtT.zo qz ?_
 refine AtT.zG rfl rfl ok20 (checkRecipes_f b.rs _ _ hr) ?_
 rintro _ rfl
 refine AtT.zg ?_
 refine AtT.done ?_
 refine At.nrm ?_
 refine At.nrm ?_
 refine At.zi (.q 0 (.q 1 .done)) ?_
 refine AtT.zf ?_
 refine AtT.qE ?_
 refine AtT.done ?_
 refine At.nrm ?_
 refine At.qb rfl (fun h0 => ?_) (fun h0 => ?_)
 ·refine At.nrm ?_
  refine At.zi (.q 0 (.q 1 (.q 2 .done))) ?_
  refine AtT.zf ?_
  refine AtT.zg ?_
  refine AtT.zg ?_
  refine AtT.done ?_
  refine At.nrm ?_
  refine At.pt (O' := O) Pt.zV ?_
  have hE : bkE b = crE b.rs := by unfold bkE; rw [if_pos h0]
  exact At.retM2 rfl (.tmp rfl) (.tmp rfl) ⟨Le.refl _, .inl ⟨by rw [hE]; exact h0, by rw [hE], rfl⟩⟩
 refine At.nrm ?_
 refine At.zi (.q 0 (.q 1 (.q 2 (.q 3 .done)))) ?_
 first | refine AtT.zk zz ?_ | with_reducible refine AtT.zl zz ?_ | refine AtT.zn zz ?_
 first | refine AtT.zm qo ?_ | refine AtT.zo qo ?_
 first | refine AtT.zR Tryz.underlying24 ?_ | refine AtT.zQ Tryz.underlying24 ?_
 refine AtT.qI ?_
 refine AtT.done ?_
 refine At.nrm ?_
 refine At.qb rfl (fun h1 => ?_) (fun h1 => ?_)
 ·refine At.nrm ?_
  refine At.zi (.q 0 (.q 1 .done)) ?_
  refine AtT.zg ?_
  refine AtT.zg ?_
  refine AtT.done ?_
  refine At.nrm ?_
  refine At.pt (O' := O) Pt.zV ?_
  have hE : bkE b = 6 := by unfold bkE; rw [if_neg h0, if_pos (by omega)]
  exact At.retM2 rfl (.tmp rfl) (.tmp rfl) ⟨Le.refl _, .inl ⟨by rw [hE]; decide, by rw [hE], rfl⟩⟩
 have h24 : ¬ 24 < b.es.length := by omega
 have hcr : crE b.rs = 0 := Classical.not_not.1 h0
 have hrs := recsE_iff.1 hcr
 refine At.nrm ?_
 refine At.zi (.q 0 (.q 1 (.n true 2 (.q 3 .done)))) ?_
 first | refine AtT.zk zC ?_ | with_reducible refine AtT.zl zC ?_ | refine AtT.zn zC ?_
 first | refine AtT.zm qz ?_ | refine AtT.zo qz ?_
 refine AtT.jb rfl trivial rfl ok56 (by decide) (List.Perm.refl _) (newStore_f b.rs hrs _ _ hr) ?_
 rintro _ _ V25 ⟨p, m1, m2, rfl, hV25, rfl, hrm⟩
 refine AtT.zg ?_
 refine AtT.done ?_
 refine At.nrm ?_
 have hes25 := hes.le hV25
 refine At.zi (.q 0 .done) ?_
 refine AtT.zg ?_
 refine AtT.done ?_
 refine At.nrm ?_
 refine At.zi (.q 0 (.q 1 (.q 2 (.q 3 .done)))) ?_
 first | refine AtT.zk zz ?_ | with_reducible refine AtT.zl zz ?_ | refine AtT.zn zz ?_
 first | refine AtT.zm qo ?_ | refine AtT.zo qo ?_
 first | refine AtT.zR Tryz.underlying24 ?_ | refine AtT.zQ Tryz.underlying24 ?_
 refine AtT.zf ?_
 refine AtT.done ?_
 refine At.nrm ?_
 refine At.lp (ι := Nat) (KS := fun k => [(1, .pointer (some ⟨b1, 0, none⟩)), (5, .pointer (some ⟨p, 0, none⟩)), (6, iv (lastE b.es k)), (27, .slice a b.es.length c), (28, iv b.es.length), (29, iv k)])
  (OS := fun _ => .blk p (LC [.slice none 0 0, .slice none 0 0, .map (some m1), .map (some m2)] 90) :: .blk m2 (qV ekT iv [] 0) :: .blk b1 (LC [.slice aq0 qs0.length cq0, .slice a b.es.length c] 26) :: O) (VS := fun k V' => V' = V25 ∧ k ≤ b.es.length ∧ entsE b.rs 0 0 b.es = entsE b.rs k (lastE b.es k) (b.es.drop k)) (μ := fun k => b.es.length - k) 0 ?_ ?_ ?_ ?_
 ·exact ⟨rfl, rfl, rfl, rfl, rfl, rfl, trivial⟩
 ·exact Pt.zV
 ·exact ⟨rfl, Nat.zero_le _, rfl⟩
 rintro k V' ks' O' ⟨rfl, hkl, hen⟩ hk hO hl2
 subst hk hO
 refine At.nrm ?_
 refine At.zi (.q 0 .done) ?_
 refine AtT.qp ?_
 refine AtT.done ?_
 refine At.nrm ?_
 refine At.qb rfl (fun hp => ?_) (fun hp => ?_)
 ·obtain ⟨e, he⟩ : ∃ e, b.es[k]? = some e := ⟨_, List.getElem?_eq_getElem (by omega)⟩
  rw [drop_at he] at hen
  simp only [entsE] at hen
  refine At.nrm ?_
  refine At.zi (.q 0 (.q 1 (.q 2 (.n false 3 (.q 4 (.n true 5 .done)))))) ?_
  refine AtT.zf ?_
  refine AtT.qm Tryz.underlying24 qH ?_
  intro p32 e32 he32 hc32
  obtain rfl : e = e32 := by have : b.es[k]? = some e32 := (by simpa using he32); rw [he] at this; simpa using this
  first | refine AtT.zF qH ?_ | refine AtT.zJ qH ?_ | refine AtT.zD qH ?_
  refine AtT.zT z36 ?_
  intro b8
  refine AtT.zg ?_
  refine AtT.zy qH ?_
  refine AtT.done ?_
  refine At.nrm ?_
  refine At.nrm ?_
  refine At.zi (.q 0 (.q 1 (.q 2 (.q 3 (.n false 4 (.q 5 .done)))))) ?_
  refine AtT.zf ?_
  first | refine AtT.zF qH ?_ | refine AtT.zJ qH ?_ | refine AtT.zD qH ?_
  refine AtT.zf ?_
  refine AtT.zf ?_
  refine AtT.kcallL rfl rfl ok89 (fun VL hVL hOL => entE_f b.rs e k (lastE b.es k) (by omega) p m1 m2 _ _ VL (StoV.of (hOL p _ (List.mem_cons_of_mem _ (List.mem_cons_self ..)))) (hrm.le hVL)) ?_
  rintro _ rfl
  refine AtT.zg ?_
  refine AtT.done ?_
  refine At.nrm ?_
  refine At.nrm ?_
  refine At.zi (.q 0 (.q 1 .done)) ?_
  refine AtT.zf ?_
  refine AtT.qE ?_
  refine AtT.done ?_
  refine At.nrm ?_
  refine At.qb rfl (fun h3 => ?_) (fun h3 => ?_)
  ·rw [if_pos h3] at hen
   refine At.nrm ?_
   refine At.zi (.q 0 (.q 1 (.q 2 .done))) ?_
   refine AtT.zf ?_
   refine AtT.zg ?_
   refine AtT.zg ?_
   refine AtT.done ?_
   refine At.nrm ?_
   refine At.pt (O' := O) Pt.zV ?_
   have hE : bkE b = kD b.rs e k (lastE b.es k) := by unfold bkE; rw [if_neg h0, if_neg h24, if_pos (by rw [hen]; exact h3), hen]
   exact At.retM2 rfl (.tmp rfl) (.tmp rfl) ⟨hV25, .inl ⟨by rw [hE]; exact h3, by rw [hE], rfl⟩⟩
  rw [if_neg h3] at hen
  refine At.nrm ?_
  refine At.zi (.q 0 (.q 1 (.q 2 .done))) ?_
  first | refine AtT.zk qc ?_ | with_reducible refine AtT.zl qc ?_ | refine AtT.zn qc ?_
  first | refine AtT.zm tk3 ?_ | refine AtT.zo tk3 ?_
  refine AtT.zg ?_
  refine AtT.done ?_
  refine At.nrm ?_
  refine At.nrm ?_
  refine At.zi (.q 0 (.q 1 .done)) ?_
  first | refine AtT.qG ?_ | refine AtT.qd ?_
  refine AtT.zf ?_
  refine AtT.done ?_
  refine At.nrm ?_
  refine At.round (k + 1) ?_ ?_ ?_ ?_
  ·show b.es.length - (k + 1) < b.es.length - k; omega
  ·exact ⟨rfl, by omega, by rw [lastE_at he]; push_cast; exact hen⟩
  ·rw [lastE_at he]; exact ⟨rfl, rfl, rfl, rfl, rfl, ivs (by omega), trivial⟩
  ·exact Pt.zV
 obtain rfl : k = b.es.length := by omega
 rw [List.drop_length] at hen
 have hen0 : entsE b.rs 0 0 b.es = 0 := hen
 have hbg := pre_bog hcr (by omega) hen0
 refine At.nrm ?_
 refine At.zi (.q 0 (.q 1 (.q 2 (.q 3 (.n true 4 .done))))) ?_
 refine AtT.zf ?_
 first | refine AtT.zF zH ?_ | refine AtT.zJ zH ?_ | refine AtT.zD zH ?_
 refine AtT.jM ?_
 first | refine AtT.zk kg ?_ | with_reducible refine AtT.zl kg ?_ | refine AtT.zn kg ?_
 refine AtT.store rfl trivial rfl rfl zH rfl rfl (by simp) rfl rfl (by repeat first|exact Upd.here|apply Upd.there) ?_ (cs := [.slice none 0 0, .slice none 0 0, .map (some m1), .map (some m2)]) (cs' := [.slice aq0 qs0.length cq0, .slice a b.es.length c, .map (some m1), .map (some m2)])
 refine AtT.done ?_
 refine At.nrm ?_
 refine At.giveB (b := p) zP.zI (fun V1 hV1 hbp => ?_)
 have hsto := StoV.of hbp
 have hes1 := hes25.le hV1
 have hrm1 := hrm.le hV1
 refine At.nrm ?_
 refine At.zi (.q 0 (.q 1 (.q 2 (.q 3 .done)))) ?_
 first | refine AtT.zk zz ?_ | with_reducible refine AtT.zl zz ?_ | refine AtT.zn zz ?_
 first | refine AtT.zm qo ?_ | refine AtT.zo qo ?_
 first | refine AtT.zR Tryz.underlying24 ?_ | refine AtT.zQ Tryz.underlying24 ?_
 refine AtT.zf ?_
 refine AtT.done ?_
 refine At.nrm ?_
 refine At.lp (ι := Nat) (KS := fun j => [(5, .pointer (some ⟨p, 0, none⟩)), (51, iv b.es.length), (52, iv j)]) (OS := fun _ => .blk m2 (qV ekT iv [] 0) :: O) (VS := fun j V2 => V2 = V1 ∧ j ≤ b.es.length ∧ ∀ i, i < j → (runS b.rs b.es (i + 1) 999).isSome = true) (μ := fun j => b.es.length - j) 0 ?_ ?_ ?_ ?_
 ·exact ⟨rfl, rfl, rfl, trivial⟩
 ·exact Pt.zV
 ·exact ⟨rfl, Nat.zero_le _, fun i hi => absurd hi (Nat.not_lt_zero i)⟩
 rintro j V2 ks' O' ⟨rfl, hjl, hall⟩ hk hO hl3
 subst hk hO
 refine At.nrm ?_
 refine At.zi (.q 0 .done) ?_
 refine AtT.qp ?_
 refine AtT.done ?_
 refine At.nrm ?_
 refine At.qb rfl (fun hp2 => ?_) (fun hp2 => ?_)
 ·have hj1 : (j : Int) + 1 = ((j + 1 : Nat) : Int) := by omega
  cases hrn : runS b.rs b.es (j + 1) 999 with
  | none =>
   have hT := runT_none hrn
   refine At.nrm ?_
   refine At.zi (.q 0 (.q 1 .done)) ?_
   refine AtT.zf ?_
   refine AtT.zg ?_
   refine AtT.done ?_
   refine At.nrm ?_
   refine At.nrm ?_
   refine At.zi (.q 0 (.q 1 (.q 2 (.n false 3 (.q 4 (.q 5 (.q 6 (.n false 7 (.n true 8 (.q 9 .done)))))))))) ?_
   refine AtT.zf ?_
   refine AtT.zf ?_
   first | refine AtT.qG ?_ | refine AtT.qd ?_
   rw [hj1]
   refine AtT.zG rfl rfl ok68 (run_f b hbg (j + 1) (by omega) (ents_bk hen0 (by omega)) 999 p m1 m2 _ a c _ hsto hes1 hrm1) ?_
   rintro _ rfl; rw [hT]
   refine AtT.zf ?_
   refine AtT.zt ?_
   refine AtT.zt ?_
   refine AtT.zT z105 ?_
   intro b11
   refine AtT.zy qj ?_
   refine AtT.zg ?_
   refine AtT.done ?_
   refine At.nrm ?_
   refine At.nrm ?_
   refine At.zi (.q 0 (.q 1 .done)) ?_
   refine AtT.zf ?_
   refine AtT.qC ?_
   refine AtT.done ?_
   refine At.nrm ?_
   refine At.zU rfl rfl ?_
   refine At.nrm ?_
   refine At.zi (.q 0 (.q 1 .done)) ?_
   refine AtT.zg ?_
   refine AtT.zg ?_
   refine AtT.done ?_
   refine At.nrm ?_
   refine At.pt (O' := O) Pt.zV ?_
   have hE : bkE b = 28 := by
    unfold bkE
    rw [if_neg h0, if_neg h24, if_neg (by rw [hen0]; simp), if_neg]
    intro h
    have := List.all_eq_true.1 h j (List.mem_range.2 (by omega))
    rw [hrn] at this; cases this
   exact At.retM2 rfl (.tmp rfl) (.tmp rfl) ⟨hV25.trans hV1, .inl ⟨by rw [hE]; decide, by rw [hE], rfl⟩⟩
  | some st =>
   have hT := runT_some hrn
   refine At.nrm ?_
   refine At.zi (.q 0 (.q 1 .done)) ?_
   refine AtT.zf ?_
   refine AtT.zg ?_
   refine AtT.done ?_
   refine At.nrm ?_
   refine At.nrm ?_
   refine At.zi (.q 0 (.q 1 (.q 2 (.n false 3 (.q 4 (.q 5 (.q 6 (.n false 7 (.n true 8 (.q 9 .done)))))))))) ?_
   refine AtT.zf ?_
   refine AtT.zf ?_
   first | refine AtT.qG ?_ | refine AtT.qd ?_
   rw [hj1]
   refine AtT.zG rfl rfl ok68 (run_f b hbg (j + 1) (by omega) (ents_bk hen0 (by omega)) 999 p m1 m2 _ a c _ hsto hes1 hrm1) ?_
   rintro _ rfl; rw [hT]
   refine AtT.zf ?_
   refine AtT.zt ?_
   refine AtT.zt ?_
   refine AtT.zT z105 ?_
   intro b11
   refine AtT.zy qj ?_
   refine AtT.zg ?_
   refine AtT.done ?_
   refine At.nrm ?_
   refine At.nrm ?_
   refine At.zi (.q 0 (.q 1 .done)) ?_
   refine AtT.zf ?_
   refine AtT.qC ?_
   refine AtT.done ?_
   refine At.nrm ?_
   refine At.zX rfl rfl ?_
   refine At.nrm ?_
   refine At.zi (.q 0 (.q 1 .done)) ?_
   first | refine AtT.qG ?_ | refine AtT.qd ?_
   refine AtT.zf ?_
   refine AtT.done ?_
   refine At.nrm ?_
   refine At.round (j + 1) ?_ ?_ ?_ ?_
   ·show b.es.length - (j + 1) < b.es.length - j; omega
   ·refine ⟨rfl, by omega, fun i hi => ?_⟩
    by_cases e : i = j
    ·subst e; rw [hrn]; rfl
    ·exact hall i (by omega)
   ·exact ⟨rfl, rfl, ivs (by omega), trivial⟩
   ·exact Pt.zV
 obtain rfl : j = b.es.length := by omega
 refine At.nrm ?_
 refine At.zi (.q 0 (.q 1 (.q 2 .done))) ?_
 refine AtT.zf ?_
 refine AtT.zg ?_
 refine AtT.zg ?_
 refine AtT.done ?_
 refine At.nrm ?_
 have hE := kF.2 ⟨hcr, by omega, hen0, hall⟩
 exact At.retM2 rfl (.tmp rfl) (.tmp rfl) ⟨hV25.trans hV1, .inr ⟨hE, p, m1, m2, rfl, rfl, _, a, c, hsto, (hr.le hV25).le hV1, hes1, hrm1⟩⟩
theorem open_bad {cx : Cx} {O : List Own} (b : Bo) (h : bkE b ≠ 0) (V : View) (v : Value) (hv : BoV V v b) : FncM Tryz.prog cx 62 [v] O V fun r O' V' => Le V V' ∧ r = .tuple #[.pointer none, iv (bkE b)] ∧ O' = O :=
 kv (open_f b V v hv) fun r O' V' ⟨h1, h2⟩ => by
  rcases h2 with ⟨_, a, c⟩ | ⟨e, _⟩
  ·exact ⟨h1, a, c⟩
  ·exact absurd e h
theorem open_ok {cx : Cx} {O : List Own} (b : Bo) (h : bkE b = 0) (V : View) (v : Value) (hv : BoV V v b) : FncM Tryz.prog cx 62 [v] O V fun r O' V' => Le V V' ∧ ∃ p m1 m2, r = .tuple #[.pointer (some ⟨p, 0, none⟩), iv 0] ∧ O' = .blk m2 (qV ekT iv [] 0) :: O ∧ OpV V' p m1 m2 b :=
 kv (open_f b V v hv) fun r O' V' ⟨h1, h2⟩ => by
  rcases h2 with ⟨e, _⟩ | ⟨_, a⟩
  ·exact absurd h e
  ·exact ⟨h1, a⟩
theorem checkBook_f (b : Bo) (V : View) (v : Value) (hv : BoV V v b) : Fnc Tryz.prog 27 [v] V fun r _ => r = iv (bkE b) := by
 obtain ⟨v1, a, c, rfl, hr, hes⟩ := id hv
 by_cases h : bkE b = 0
 ·rw [h]
  refine ql Tryz.func27 rfl Tryz.ntmps27 (Nat.le_of_ble_eq_true rfl) ?_
  intro w0 hw0
  refine At.nrm ?_
  refine At.zi (.n false 0 (.q 1 .done)) ?_
  refine AtT.jE ?_
  intro b1
  refine AtT.zg ?_
  refine AtT.done ?_
  refine At.nrm ?_
  refine At.zi (.q 0 (.n true 1 (.q 2 (.q 3 (.q 4 (.q 5 (.q 6 .done))))))) ?_
  first | refine AtT.zF zH ?_ | refine AtT.zJ zH ?_ | refine AtT.zD zH ?_
  refine AtT.jb rfl trivial rfl ok62 (by decide) (List.Perm.refl _) (open_ok b h _ _ hv) ?_
  rintro _ _ V7 ⟨hV7, p, m1, m2, rfl, rfl, hop⟩
  refine AtT.zf ?_
  refine AtT.zt ?_
  refine AtT.zt ?_
  refine AtT.zg ?_
  refine AtT.zg ?_
  refine AtT.done ?_
  refine At.nrm ?_
  refine At.zi (.q 0 (.q 1 .done)) ?_
  refine AtT.zf ?_
  refine AtT.zg ?_
  refine AtT.done ?_
  refine At.nrm ?_
  exact At.qh rfl (.tmp rfl) rfl
 ·refine ql Tryz.func27 rfl Tryz.ntmps27 (Nat.le_of_ble_eq_true rfl) ?_
  intro w0 hw0
  refine At.nrm ?_
  refine At.zi (.n false 0 (.q 1 .done)) ?_
  refine AtT.jE ?_
  intro b1
  refine AtT.zg ?_
  refine AtT.done ?_
  refine At.nrm ?_
  refine At.zi (.q 0 (.n true 1 (.q 2 (.q 3 (.q 4 (.q 5 (.q 6 .done))))))) ?_
  first | refine AtT.zF zH ?_ | refine AtT.zJ zH ?_ | refine AtT.zD zH ?_
  refine AtT.jb rfl trivial rfl ok62 (by decide) (List.Perm.refl _) (open_bad b h _ _ hv) ?_
  rintro _ _ V7 ⟨hV7, rfl, rfl⟩
  refine AtT.zf ?_
  refine AtT.zt ?_
  refine AtT.zt ?_
  refine AtT.zg ?_
  refine AtT.zg ?_
  refine AtT.done ?_
  refine At.nrm ?_
  refine At.zi (.q 0 (.q 1 .done)) ?_
  refine AtT.zf ?_
  refine AtT.zg ?_
  refine AtT.done ?_
  refine At.nrm ?_
  exact At.qh rfl (.tmp rfl) rfl
theorem pcounting_f (b : Bo) (first : Int) (V : View) (v : Value) (hv : BoV V v b) : Fnc Tryz.prog 23 [v, iv first] V fun r V' => ∃ u, r = .tuple #[u, iv (cntE b first)] ∧ SlI V' u (cntL b first) := by
 obtain ⟨v1, a, c, rfl, hr, hes⟩ := id hv
 have hlen := hes.jA
 by_cases h0 : bkE b = 0
 rotate_left
 ·have hE : cntE b first = bkE b := by unfold cntE; rw [if_pos h0]
  have hL : cntL b first = [] := by unfold cntL; rw [if_pos (by rw [hE]; exact h0)]
  rw [hE, hL]
  refine ql Tryz.func23 rfl Tryz.ntmps23 (Nat.le_of_ble_eq_true rfl) ?_
  intro w0 hw0
  refine At.nrm ?_
  refine At.zi (.n false 0 (.q 1 (.q 2 .done))) ?_
  refine AtT.jE ?_
  intro b2
  refine AtT.zg ?_
  refine AtT.zg ?_
  refine AtT.done ?_
  refine At.nrm ?_
  refine At.zi (.q 0 (.n true 1 (.q 2 (.q 3 (.q 4 (.q 5 (.q 6 .done))))))) ?_
  first | refine AtT.zF zH ?_ | refine AtT.zJ zH ?_ | refine AtT.zD zH ?_
  refine AtT.jb rfl trivial rfl ok62 (by decide) (List.Perm.refl _) (open_bad b h0 _ _ hv) ?_
  rintro _ _ V10 ⟨hV10, rfl, rfl⟩
  refine AtT.zf ?_
  refine AtT.zt ?_
  refine AtT.zt ?_
  refine AtT.zg ?_
  refine AtT.zg ?_
  refine AtT.done ?_
  refine At.nrm ?_
  refine At.nrm ?_
  refine At.zi (.q 0 (.q 1 (.q 2 .done))) ?_
  refine AtT.zf ?_
  refine AtT.qE ?_
  refine AtT.zg ?_
  refine AtT.done ?_
  refine At.nrm ?_
  refine At.zU rfl (decide_eq_true h0) ?_
  refine At.nrm ?_
  refine At.zi (.q 0 (.q 1 (.q 2 .done))) ?_
  refine AtT.zf ?_
  refine AtT.zg ?_
  refine AtT.zg ?_
  refine AtT.done ?_
  refine At.nrm ?_
  exact At.qN rfl (.tmp rfl) (.tmp rfl) ⟨_, rfl, Sl.nil _ _ _⟩
 have hR := kF.1 h0
 have h0' : ¬ bkE b ≠ 0 := fun h => h h0
 refine ql Tryz.func23 rfl Tryz.ntmps23 (Nat.le_of_ble_eq_true rfl) ?_
 intro w0 hw0
 refine At.nrm ?_
 refine At.zi (.n false 0 (.q 1 (.q 2 .done))) ?_
 refine AtT.jE ?_
 intro b2
 refine AtT.zg ?_
 refine AtT.zg ?_
 refine AtT.done ?_
 refine At.nrm ?_
 refine At.zi (.q 0 (.n true 1 (.q 2 (.q 3 (.q 4 (.q 5 (.q 6 .done))))))) ?_
 first | refine AtT.zF zH ?_ | refine AtT.zJ zH ?_ | refine AtT.zD zH ?_
 refine AtT.jb rfl trivial rfl ok62 (by decide) (List.Perm.refl _) (open_ok b h0 _ _ hv) ?_
 rintro _ _ V10 ⟨hV10, p, m1, m2, rfl, rfl, hop⟩
 refine AtT.zf ?_
 refine AtT.zt ?_
 refine AtT.zt ?_
 refine AtT.zg ?_
 refine AtT.zg ?_
 refine AtT.done ?_
 refine At.nrm ?_
 refine At.nrm ?_
 refine At.zi (.q 0 (.q 1 (.q 2 .done))) ?_
 refine AtT.zf ?_
 refine AtT.qE ?_
 refine AtT.zg ?_
 refine AtT.done ?_
 refine At.nrm ?_
 refine At.zX rfl rfl ?_
 refine At.nrm ?_
 by_cases hf : 0 ≤ first ∧ first ≤ (b.es.length : Int)
 rotate_left
 ·have hE : cntE b first = 2 := by unfold cntE; rw [if_neg h0', if_pos (by omega)]
  have hL : cntL b first = [] := by unfold cntL; rw [if_pos (by rw [hE]; decide)]
  rw [hE, hL]
  refine At.zi (.q 0 (.q 1 (.q 2 (.q 3 (.n false 4 (.n false 5 (.q 6 (.q 7 .done)))))))) ?_
  first | refine AtT.zk zz ?_ | with_reducible refine AtT.zl zz ?_ | refine AtT.zn zz ?_
  first | refine AtT.zm qo ?_ | refine AtT.zo qo ?_
  first | refine AtT.zR Tryz.underlying24 ?_ | refine AtT.zQ Tryz.underlying24 ?_
  refine AtT.zf ?_
  refine AtT.zN (qw _) ?_
  intro q22 V22 hV22 hq22
  have g22 : Le V V22 := by first | exact hV22 | exact Le.trans (by assumption) hV22
  refine AtT.qg rfl rfl jV (qB 0 b.es.length first _ _ (Sl.lit (l := [first]) hq22 rfl (by simp))) ?_
  rintro v23 V23 hV23 rfl
  refine AtT.zS (d := 23) rfl (hf) ?_
  refine AtT.qC ?_
  refine AtT.qJ (d := 24) rfl ((show (!false) = true from rfl)) ?_
  refine AtT.zg ?_
  refine AtT.done ?_
  refine At.nrm ?_
  refine At.zU rfl rfl ?_
  refine At.nrm ?_
  refine At.zi (.q 0 (.q 1 .done)) ?_
  refine AtT.zg ?_
  refine AtT.zg ?_
  refine AtT.done ?_
  refine At.nrm ?_
  exact At.qN rfl (.tmp rfl) (.tmp rfl) ⟨_, rfl, Sl.nil _ _ _⟩
 obtain ⟨n, rfl⟩ : ∃ n : Nat, first = (n : Int) := ⟨first.toNat, by omega⟩
 have hE : cntE b n = 0 := by unfold cntE; rw [if_neg h0', if_neg (by omega)]
 have hL : cntL b n = cntI b.es n := by unfold cntL; rw [if_neg (by rw [hE]; simp), Int.toNat_natCast]
 have h24 := hR.len
 have hcl : (cntI b.es n).length ≤ n := by rw [List.length_map]; exact cntJ_len b.es n n
 rw [hE, hL]
 refine At.zi (.q 0 (.q 1 (.q 2 (.q 3 (.n false 4 (.n false 5 (.q 6 (.q 7 .done)))))))) ?_
 first | refine AtT.zk zz ?_ | with_reducible refine AtT.zl zz ?_ | refine AtT.zn zz ?_
 first | refine AtT.zm qo ?_ | refine AtT.zo qo ?_
 first | refine AtT.zR Tryz.underlying24 ?_ | refine AtT.zQ Tryz.underlying24 ?_
 refine AtT.zf ?_
 refine AtT.zN (qw _) ?_
 intro q22 V22 hV22 hq22
 have g22 : Le V V22 := by first | exact hV22 | exact Le.trans (by assumption) hV22
 refine AtT.qg rfl rfl jV (qB 0 b.es.length n _ _ (Sl.lit (l := [(n : Int)]) hq22 rfl (by simp))) ?_
 rintro v23 V23 hV23 rfl
 refine AtT.qa (d := 23) rfl (hf) ?_
 refine AtT.qC ?_
 refine AtT.qJ (d := 24) rfl ((show (!true) = false from rfl)) ?_
 refine AtT.zg ?_
 refine AtT.done ?_
 refine At.nrm ?_
 refine At.zX rfl rfl ?_
 obtain ⟨u1, ae, ce, hsto, _, hes2, _⟩ := hop.le (hV22.trans hV23)
 refine At.nrm ?_
 refine At.zi (.q 0 (.q 1 (.n false 2 (.n false 3 (.q 4 (.q 5 .done)))))) ?_
 refine AtT.zf ?_
 refine AtT.zf ?_
 refine AtT.qg rfl rfl ok64 (counting_f b.es n (by omega) (by omega) (hR.bk (by omega)) p m1 m2 u1 ae ce _ hsto hes2) ?_
 rintro v27 V27 hV27 ⟨q, rfl, hit⟩
 refine AtT.qg rfl rfl ok63 (collect_f (cntI b.es n) (by omega) 91 [.pointer (some q)] ok91 _ hit) ?_
 rintro v28 V28 hV28 hs28
 refine AtT.zg ?_
 refine AtT.zg ?_
 refine AtT.done ?_
 refine At.nrm ?_
 exact At.qN rfl (.tmp rfl) (.tmp rfl) ⟨_, rfl, hs28⟩
theorem pstock_f (b : Bo) (first day : Int) (V : View) (v : Value) (hv : BoV V v b) : Fnc Tryz.prog 31 [v, iv first, iv day] V fun r V' => ∃ u, r = .tuple #[u, iv (stkE b first day)] ∧ SlI V' u (stkL b first day) := by
 obtain ⟨v1, a, c, rfl, hr, hes⟩ := id hv
 have hlen := hes.jA
 by_cases h0 : bkE b = 0
 rotate_left
 ·have hE : stkE b first day = bkE b := by unfold stkE; rw [if_pos h0]
  have hL : stkL b first day = [] := by unfold stkL; rw [if_pos (by rw [hE]; exact h0)]
  rw [hE, hL]
  refine ql Tryz.func31 rfl Tryz.ntmps31 (Nat.le_of_ble_eq_true rfl) ?_
  intro w0 hw0
  refine At.nrm ?_
  refine At.zi (.n false 0 (.q 1 (.q 2 .done))) ?_
  refine AtT.jE ?_
  intro b3
  refine AtT.zg ?_
  refine AtT.zg ?_
  refine AtT.done ?_
  refine At.nrm ?_
  refine At.zi (.q 0 (.n true 1 (.q 2 (.q 3 (.q 4 (.q 5 (.q 6 .done))))))) ?_
  first | refine AtT.zF zH ?_ | refine AtT.zJ zH ?_ | refine AtT.zD zH ?_
  refine AtT.jb rfl trivial rfl ok62 (by decide) (List.Perm.refl _) (open_bad b h0 _ _ hv) ?_
  rintro _ _ V15 ⟨hV15, rfl, rfl⟩
  refine AtT.zf ?_
  refine AtT.zt ?_
  refine AtT.zt ?_
  refine AtT.zg ?_
  refine AtT.zg ?_
  refine AtT.done ?_
  refine At.nrm ?_
  refine At.nrm ?_
  refine At.zi (.q 0 (.q 1 (.q 2 .done))) ?_
  refine AtT.zf ?_
  refine AtT.qE ?_
  refine AtT.zg ?_
  refine AtT.done ?_
  refine At.nrm ?_
  refine At.zU rfl (decide_eq_true h0) ?_
  refine At.nrm ?_
  refine At.zi (.q 0 (.q 1 (.q 2 .done))) ?_
  refine AtT.zf ?_
  refine AtT.zg ?_
  refine AtT.zg ?_
  refine AtT.done ?_
  refine At.nrm ?_
  exact At.qN rfl (.tmp rfl) (.tmp rfl) ⟨_, rfl, Sl.nil _ _ _⟩
 have hR := kF.1 h0
 have h0' : ¬ bkE b ≠ 0 := fun h => h h0
 refine ql Tryz.func31 rfl Tryz.ntmps31 (Nat.le_of_ble_eq_true rfl) ?_
 intro w0 hw0
 refine At.nrm ?_
 refine At.zi (.n false 0 (.q 1 (.q 2 .done))) ?_
 refine AtT.jE ?_
 intro b3
 refine AtT.zg ?_
 refine AtT.zg ?_
 refine AtT.done ?_
 refine At.nrm ?_
 refine At.zi (.q 0 (.n true 1 (.q 2 (.q 3 (.q 4 (.q 5 (.q 6 .done))))))) ?_
 first | refine AtT.zF zH ?_ | refine AtT.zJ zH ?_ | refine AtT.zD zH ?_
 refine AtT.jb rfl trivial rfl ok62 (by decide) (List.Perm.refl _) (open_ok b h0 _ _ hv) ?_
 rintro _ _ V15 ⟨hV15, p, m1, m2, rfl, rfl, hop⟩
 refine AtT.zf ?_
 refine AtT.zt ?_
 refine AtT.zt ?_
 refine AtT.zg ?_
 refine AtT.zg ?_
 refine AtT.done ?_
 refine At.nrm ?_
 refine At.nrm ?_
 refine At.zi (.q 0 (.q 1 (.q 2 .done))) ?_
 refine AtT.zf ?_
 refine AtT.qE ?_
 refine AtT.zg ?_
 refine AtT.done ?_
 refine At.nrm ?_
 refine At.zX rfl rfl ?_
 refine At.nrm ?_
 by_cases hf : 0 ≤ first ∧ first ≤ (b.es.length : Int)
 rotate_left
 ·have hE : stkE b first day = 2 := by unfold stkE; rw [if_neg h0', if_pos (by omega)]
  have hL : stkL b first day = [] := by unfold stkL; rw [if_pos (by rw [hE]; decide)]
  rw [hE, hL]
  refine At.zi (.q 0 (.q 1 (.q 2 (.q 3 (.n false 4 (.n false 5 (.q 6 (.q 7 .done)))))))) ?_
  first | refine AtT.zk zz ?_ | with_reducible refine AtT.zl zz ?_ | refine AtT.zn zz ?_
  first | refine AtT.zm qo ?_ | refine AtT.zo qo ?_
  first | refine AtT.zR Tryz.underlying24 ?_ | refine AtT.zQ Tryz.underlying24 ?_
  refine AtT.zf ?_
  refine AtT.zN (qw _) ?_
  intro q27 V27 hV27 hq27
  have g27 : Le V V27 := by first | exact hV27 | exact Le.trans (by assumption) hV27
  refine AtT.qg rfl rfl jV (qB 0 b.es.length first _ _ (Sl.lit (l := [first]) hq27 rfl (by simp))) ?_
  rintro v28 V28 hV28 rfl
  refine AtT.zS (d := 28) rfl (hf) ?_
  refine AtT.qC ?_
  refine AtT.qJ (d := 29) rfl ((show (!false) = true from rfl)) ?_
  refine AtT.zg ?_
  refine AtT.done ?_
  refine At.nrm ?_
  refine At.zU rfl rfl ?_
  refine At.nrm ?_
  refine At.zi (.q 0 (.q 1 .done)) ?_
  refine AtT.zg ?_
  refine AtT.zg ?_
  refine AtT.done ?_
  refine At.nrm ?_
  exact At.qN rfl (.tmp rfl) (.tmp rfl) ⟨_, rfl, Sl.nil _ _ _⟩
 refine At.zi (.q 0 (.q 1 (.q 2 (.q 3 (.n false 4 (.n false 5 (.q 6 (.q 7 .done)))))))) ?_
 first | refine AtT.zk zz ?_ | with_reducible refine AtT.zl zz ?_ | refine AtT.zn zz ?_
 first | refine AtT.zm qo ?_ | refine AtT.zo qo ?_
 first | refine AtT.zR Tryz.underlying24 ?_ | refine AtT.zQ Tryz.underlying24 ?_
 refine AtT.zf ?_
 refine AtT.zN (qw _) ?_
 intro q27 V27 hV27 hq27
 have g27 : Le V V27 := by first | exact hV27 | exact Le.trans (by assumption) hV27
 refine AtT.qg rfl rfl jV (qB 0 b.es.length first _ _ (Sl.lit (l := [first]) hq27 rfl (by simp))) ?_
 rintro v28 V28 hV28 rfl
 refine AtT.qa (d := 28) rfl (hf) ?_
 refine AtT.qC ?_
 refine AtT.qJ (d := 29) rfl ((show (!true) = false from rfl)) ?_
 refine AtT.zg ?_
 refine AtT.done ?_
 refine At.nrm ?_
 refine At.zX rfl rfl ?_
 have k28 := g27.trans hV28
 refine At.nrm ?_
 by_cases hd : 0 ≤ day ∧ day ≤ 999
 rotate_left
 ·have hE : stkE b first day = 3 := by unfold stkE; rw [if_neg h0', if_neg (by omega), if_pos (by omega)]
  have hL : stkL b first day = [] := by unfold stkL; rw [if_pos (by rw [hE]; decide)]
  rw [hE, hL]
  refine At.zi (.q 0 (.n false 1 (.n false 2 (.q 3 (.q 4 .done))))) ?_
  refine AtT.zf ?_
  refine AtT.zN (qw _) ?_
  intro q32 V32 hV32 hq32
  have g32 : Le V V32 := by first | exact hV32 | exact Le.trans (by assumption) hV32
  refine AtT.qg rfl rfl jV (qB 0 999 day _ _ (Sl.lit (l := [day]) hq32 rfl (by simp))) ?_
  rintro v33 V33 hV33 rfl
  refine AtT.zS (d := 33) rfl (hd) ?_
  refine AtT.qC ?_
  refine AtT.qJ (d := 34) rfl ((show (!false) = true from rfl)) ?_
  refine AtT.zg ?_
  refine AtT.done ?_
  refine At.nrm ?_
  refine At.zU rfl rfl ?_
  refine At.nrm ?_
  refine At.zi (.q 0 (.q 1 .done)) ?_
  refine AtT.zg ?_
  refine AtT.zg ?_
  refine AtT.done ?_
  refine At.nrm ?_
  exact At.qN rfl (.tmp rfl) (.tmp rfl) ⟨_, rfl, Sl.nil _ _ _⟩
 obtain ⟨n, rfl⟩ : ∃ n : Nat, first = (n : Int) := ⟨first.toNat, by omega⟩
 obtain ⟨st, hst⟩ := hR.st (first := n) (by omega) day
 have hT := runT_some hst
 have hE : stkE b n day = 0 := by unfold stkE; rw [if_neg h0', if_neg (by omega), if_neg (by omega)]
 have hL : stkL b n day = stL st := by unfold stkL; rw [if_neg (by rw [hE]; simp), Int.toNat_natCast, stkF_some hst]
 rw [hE, hL]
 refine At.zi (.q 0 (.n false 1 (.n false 2 (.q 3 (.q 4 .done))))) ?_
 refine AtT.zf ?_
 refine AtT.zN (qw _) ?_
 intro q32 V32 hV32 hq32
 have g32 : Le V V32 := by first | exact hV32 | exact Le.trans (by assumption) hV32
 refine AtT.qg rfl rfl jV (qB 0 999 day _ _ (Sl.lit (l := [day]) hq32 rfl (by simp))) ?_
 rintro v33 V33 hV33 rfl
 refine AtT.qa (d := 33) rfl (hd) ?_
 refine AtT.qC ?_
 refine AtT.qJ (d := 34) rfl ((show (!true) = false from rfl)) ?_
 refine AtT.zg ?_
 refine AtT.done ?_
 refine At.nrm ?_
 refine At.zX rfl rfl ?_
 obtain ⟨u1, ae, ce, hsto, _, hes2, hrm⟩ := hop.le (((hV27.trans hV28).trans hV32).trans hV33)
 refine At.nrm ?_
 refine At.zi (.q 0 (.q 1 (.q 2 (.n false 3 (.q 4 (.q 5 (.q 6 (.n false 7 (.n true 8 (.q 9 .done)))))))))) ?_
 refine AtT.zf ?_
 refine AtT.zf ?_
 refine AtT.zf ?_
 refine AtT.zG rfl rfl ok68 (run_f b hR.bog n (by omega) (hR.bk (by omega)) day p m1 m2 u1 ae ce _ hsto hes2 hrm) ?_
 rintro _ rfl; rw [hT]
 refine AtT.zf ?_
 refine AtT.zt ?_
 refine AtT.zt ?_
 refine AtT.zT z105 ?_
 intro b10
 refine AtT.zy qj ?_
 refine AtT.zg ?_
 refine AtT.done ?_
 refine At.nrm ?_
 refine At.giveB (b := b10) zP.zI (fun V1 hV1 hb10 => ?_)
 have hs10 := sl_stL (f := st) (b := b10) (V := V1) (E := 105) hb10
 refine At.zi (.n false 0 (.q 1 .done)) ?_
 refine AtT.makeSl rfl trivial ei rfl Tryz.underlying28 rw2 rfl rfl (by decide) rfl rfl (by omega) (by omega) (by decide) (m := 8) (za := (0 : Int)) ?_
 intro b42
 refine AtT.zg ?_
 refine AtT.done ?_
 refine At.nrm ?_
 refine At.zi (.q 0 (.q 1 (.n true 2 .done))) ?_
 refine AtT.zf ?_
 refine AtT.slV rfl trivial rfl (slice105 b10) (by decide) ?_
 refine AtT.copyO rfl trivial Tryz.underlying28 tk2 rfl rfl hs10 Lw.jU (fun _ => rfl) rfl (by repeat first|exact Upd.here|apply Upd.there) (by decide) ?_
 refine AtT.done ?_
 refine At.nrm ?_
 refine At.zi (.q 0 (.q 1 (.q 2 .done))) ?_
 refine AtT.zf ?_
 refine AtT.zg ?_
 refine AtT.zg ?_
 refine AtT.done ?_
 refine At.nrm ?_
 refine At.giveB (b := b42) zP.zI (fun V2 hV2 hb42 => ?_)
 exact At.qN rfl (.tmp rfl) (.tmp rfl) ⟨_, rfl, sl_stL hb42⟩
end Go.Proofs.YtpoignmclfdgpaaGreatDoor
set_option linter.unusedVariables false
namespace Go.Lw
open Go.RowKit
section
variable {cx : Cx} {n : Nat} {ks : List (Nat × Value)} {O R : List Own} {V : View} {w : World} {K : Act → World → Prop}
theorem At.rowSplit {v : Value} {e : TypeId} {s m : Nat} {xs : List Value} (hp : zP (.row v e s m xs) O R) (h0 : v = .slice none 0 0 → m = 0 → xs = [] → At cx n ks R V K)
  (h : ∀ b cap rest, v = .slice (some ⟨b, 0, none⟩) m cap → m ≤ cap → cap ≤ maxLen → (xs ++ rest).length = cap * s → At cx n ks (.blk b (LC (xs ++ rest) e) :: R) V K) : At cx n ks O V K := fun a w hk hmm => by
 have hm1 := hmm.pick hp
 obtain ⟨fp, ⟨f, g, rfl, ⟨rfl, hr⟩, hl⟩, h2, h3⟩ := hm1.own
 rcases hr.2 with ⟨rfl, hn0⟩ | ⟨b, cap, cur, rfl, hb, hh, hnc, hcm, hcs, htake⟩
 ·refine h0 rfl hn0 ?_ a w hk hm1.drop
  have := hr.1
  rw [hn0] at this
  exact List.eq_nil_of_length_eq_zero (by simpa using this)
 ·have hcat : xs ++ cur.toList.drop (m * s) = cur.toList := by rw [← htake, List.take_append_drop]
  have hcur : (LC (xs ++ cur.toList.drop (m * s)) e : Obj) = .cells cur e (0, 0) := by
   show Obj.cells _ e (0, 0) = Obj.cells cur e (0, 0)
   congr 1
   rw [hcat]
  refine h b cap (cur.toList.drop (m * s)) rfl hnc hcm (by rw [hcat]; simpa using hcs) a w hk ?_
  rw [hcur]
  exact ⟨hm1.below, hm1.le0, hm1.fresh, hm1.view, [b] ++ g, ⟨[b], g, rfl, ⟨rfl, hb, hh⟩, hl⟩, by simpa [Value.ownBlock] using h2, by simpa [Value.ownBlock] using h3⟩
end
section
variable {cx : Cx} {n : Nat} {ks : List (Nat × Value)} {O R : List Own} {V : View} {P : Program} {ops : Array Oper} {Qn : Act → World → Prop} {t : Tr} {i d : Nat} {T X Y E : TypeId} {pos : String} {after : Array Edge} {gd : Option (Nat × Bool)} {x y : Operand}
theorem AtT.eqNil {a : Option Addr} {m c : Nat} (ho : ops[i]? = some ⟨some d, .binOp .eql X x y Y, T, pos, after, gd⟩) (hg : Gd ks ops gd) (hX : P.underlying X = some (.slice E)) (hx : ev ks x = some (.slice a m c)) (hy : ev ks y = some (.slice none 0 0)) (hn : d < n)
  (next : AtT cx n ((d, .bool a.isNone) :: ks) O V P ops Qn t) : AtT cx n ks O V P ops Qn (.q i t) :=
 .q ho hg rfl hn (fun q w hk _ => by simp only [execOp, hk.ev hx, hk.ev hy, eqGuard_at_slice, Sem.run_bind, Sem.run_pure, Result.andThen_ok, Go.Lib.run_eql_slice_nil w X E a m c 0 0 hX]) next
end
end Go.Lw
set_option linter.unusedVariables false
namespace Go.Proofs.YtpoignmclfdgpaaGreatDoor
open Go.Lw Go.Gl Go.Bk Go.RowKit
def rcP (r : Rc) (j : Nat) : List Int := r.g :: (r.ps.take j).flatMap fun p => [p.t, p.n]
theorem rcP_all (r : Rc) : rcP r r.ps.length = rcN r := by unfold rcP rcN; rw [List.take_length]
theorem rcP_step {r : Rc} {j : Nat} {p : Pt} (h : r.ps[j]? = some p) : rcP r (j + 1) = rcP r j ++ [p.t, p.n] := by
 unfold rcP
 rw [List.take_add_one, h]; simp
theorem rcP_len {r : Rc} {j : Nat} (h : j ≤ r.ps.length) : (rcP r j).length = 1 + 2 * j := by
 unfold rcP
 rw [List.length_cons]
 have : ∀ l : List Pt, (l.flatMap fun p => [p.t, p.n]).length = 2 * l.length := by
  intro l
  induction l with
  | nil => rfl
  | cons a l ih => simp only [List.flatMap_cons, List.length_append, ih, List.length_cons, List.length_nil]; omega
 rw [this, List.length_take_of_le h]; omega
def rsP (b : Bo) (i : Nat) : List UInt8 := nlT ((b.rs.take i).map rcT)
def esP (b : Bo) (i : Nat) : List UInt8 := nlT (b.rs.map rcT) ++ nlT ((b.es.take i).map enT)
theorem rsP_step {b : Bo} {i : Nat} {r : Rc} (h : b.rs[i]? = some r) : rsP b (i + 1) = rsP b i ++ (rcT r ++ [10]) := by
 unfold rsP
 rw [List.take_add_one, h]; simp [nlT]
theorem esP_step {b : Bo} {i : Nat} {e : En} (h : b.es[i]? = some e) : esP b (i + 1) = esP b i ++ (enT e ++ [10]) := by
 unfold esP
 rw [List.take_add_one, h]; simp [nlT]
theorem rsP_all (b : Bo) : rsP b b.rs.length = esP b 0 := by unfold rsP esP; rw [List.take_length]; simp [nlT]
theorem esP_all (b : Bo) : esP b b.es.length = kw b := by unfold esP; rw [List.take_length, bodyT_eq]
theorem file_f (b : Bo) (V : View) (hg : GvV V) (v : Value) (hv : BoV V v b) : Fnc Tryz.prog 37 [v] V fun r _ => r = .tuple #[sT (if bkE b = 0 then fileT b else []), iv (bkE b)] := by
 obtain ⟨v1, a, c, rfl, hr, hes⟩ := id hv
 by_cases h0 : bkE b = 0
 rotate_left
 ·rw [if_neg h0]
  refine ql Tryz.func37 rfl Tryz.ntmps37 (Nat.le_of_ble_eq_true rfl) ?_
  intro w0 hw0
  refine At.nrm ?_
  refine At.zi (.n false 0 (.q 1 (.q 2 .done))) ?_
  refine AtT.jE ?_
  intro b1
  refine AtT.zg ?_
  refine AtT.zg ?_
  refine AtT.done ?_
  refine At.nrm ?_
  refine At.zi (.q 0 (.n true 1 (.q 2 (.q 3 (.q 4 (.q 5 (.q 6 .done))))))) ?_
  first | refine AtT.zF zH ?_ | refine AtT.zJ zH ?_ | refine AtT.zD zH ?_
  refine AtT.jb rfl trivial rfl ok62 (by decide) (List.Perm.refl _) (open_bad b h0 _ _ hv) ?_
  rintro _ _ V19 ⟨hV19, rfl, rfl⟩
  refine AtT.zf ?_
  refine AtT.zt ?_
  refine AtT.zt ?_
  refine AtT.zg ?_
  refine AtT.zg ?_
  refine AtT.done ?_
  refine At.nrm ?_
  refine At.nrm ?_
  refine At.zi (.q 0 (.q 1 .done)) ?_
  refine AtT.zf ?_
  refine AtT.qE ?_
  refine AtT.done ?_
  refine At.nrm ?_
  refine At.zU rfl (decide_eq_true h0) ?_
  refine At.nrm ?_
  refine At.zi (.q 0 (.q 1 (.q 2 .done))) ?_
  refine AtT.zf ?_
  refine AtT.zg ?_
  refine AtT.zg ?_
  refine AtT.done ?_
  refine At.nrm ?_
  exact At.qN rfl (.tmp rfl) (.tmp rfl) rfl
 have hR := kF.1 h0
 rw [if_pos h0, h0]
 obtain ⟨st, hst⟩ := hR.st (first := b.es.length) (Nat.le_refl _) 999
 have hT := runT_some hst
 have hl24 := hR.len
 have hl8 := rcsOk_len hR.bog.rs
 have hnm := hR.nm
 refine ql Tryz.func37 rfl Tryz.ntmps37 (Nat.le_of_ble_eq_true rfl) ?_
 intro w0 hw0
 refine At.nrm ?_
 refine At.zi (.n false 0 (.q 1 (.q 2 .done))) ?_
 refine AtT.jE ?_
 intro b1
 refine AtT.zg ?_
 refine AtT.zg ?_
 refine AtT.done ?_
 refine At.nrm ?_
 refine At.zi (.q 0 (.n true 1 (.q 2 (.q 3 (.q 4 (.q 5 (.q 6 .done))))))) ?_
 first | refine AtT.zF zH ?_ | refine AtT.zJ zH ?_ | refine AtT.zD zH ?_
 refine AtT.jb rfl trivial rfl ok62 (by decide) (List.Perm.refl _) (open_ok b h0 _ _ hv) ?_
 rintro _ _ V19 ⟨hV19, p, m1, m2, rfl, rfl, hop⟩
 refine AtT.zf ?_
 refine AtT.zt ?_
 refine AtT.zt ?_
 refine AtT.zg ?_
 refine AtT.zg ?_
 refine AtT.done ?_
 refine At.nrm ?_
 refine At.nrm ?_
 refine At.zi (.q 0 (.q 1 .done)) ?_
 refine AtT.zf ?_
 refine AtT.qE ?_
 refine AtT.done ?_
 refine At.nrm ?_
 refine At.zX rfl rfl ?_
 refine At.nrm ?_
 obtain ⟨u1, ae, ce, hsto, hrs, hes2, hrm⟩ := id hop
 obtain ⟨qs, aq, cq, hqr, rfl, hsq, hq⟩ := id hrs
 have hql : qs.length = b.rs.length := by rw [← hqr, List.length_map]
 have hg19 := hg.le hV19
 have hc0 := hsto.c0
 have hc1 := hsto.c1
 have hlen1 := hes.jA
 refine At.zi (.q 0 (.q 1 (.q 2 (.q 3 (.n false 4 (.q 5 (.q 6 (.q 7 (.n false 8 (.n true 9 (.q 10 .done))))))))))) ?_
 refine AtT.zf ?_
 first | refine AtT.zk zz ?_ | with_reducible refine AtT.zl zz ?_ | refine AtT.zn zz ?_
 first | refine AtT.zm qo ?_ | refine AtT.zo qo ?_
 first | refine AtT.zR Tryz.underlying24 ?_ | refine AtT.zQ Tryz.underlying24 ?_
 refine AtT.zG rfl rfl ok68 (run_f b hR.bog b.es.length (Nat.le_refl _) (hR.bk (Nat.le_refl _)) 999 p m1 m2 _ ae ce _ hsto hes2 hrm) ?_
 rintro _ rfl; rw [hT]
 refine AtT.zf ?_
 refine AtT.zt ?_
 refine AtT.zt ?_
 refine AtT.zT z105 ?_
 intro b6
 refine AtT.zy qj ?_
 refine AtT.zg ?_
 refine AtT.done ?_
 refine At.nrm ?_
 by_cases hemp : b.es.length + b.rs.length = 0
 ·have he0 : b.es = [] := List.length_eq_zero_iff.1 (by omega)
  have hr0 : b.rs = [] := List.length_eq_zero_iff.1 (by omega)
  have hst0 : st = fun _ => 0 := by
   have : runS b.rs b.es b.es.length 999 = some fun _ => 0 := by rw [he0, hr0]; rfl
   rw [this] at hst; exact (Option.some.inj hst).symm
  have hfile : fileT b = [99, 104, 101, 99, 107, 32] ++ chk [] ++ [10] := by
   unfold fileT; rw [bodyT_eq, he0, hr0]; rfl
  obtain ⟨qs0, aq0, cq0, hqr0, rfl, hsq0, hq0⟩ := id hr
  have hq00 : qs0.length = 0 := by rw [← List.length_map (f := (·.1)), hqr0]; omega
  subst hst0
  refine At.zi (.q 0 (.q 1 (.q 2 (.q 3 (.q 4 (.q 5 (.q 6 (.q 7 (.q 8 (.q 9 (.q 10 (.q 11 (.q 12 .done))))))))))))) ?_
  first | refine AtT.zF qj ?_ | refine AtT.zJ qj ?_ | refine AtT.zD qj ?_
  refine AtT.qy (bd105) ?_
  refine AtT.keqS (eqS105 0 0 0 0 0 0 0 0 0 0 0 0 0 0 0 0) ?_
  refine AtT.qa (d := 35) rfl ((by decide)) ?_
  refine AtT.zf ?_
  all_goals (first | refine AtT.kL 36 ?_ | refine AtT.zw (d := 36) rfl (fun hg36 => ?_) (fun hg36 => ?_) | refine AtT.zu (d := 36) rfl (fun hg36 => ?_) (fun hg36 => ?_))
  all_goals first|refine AtT.zh ?_|refine AtT.ze ?_|(first | refine AtT.zk zz ?_ | with_reducible refine AtT.zl zz ?_ | refine AtT.zn zz ?_)
  all_goals first|refine AtT.zh ?_|refine AtT.ze ?_|(first | refine AtT.zm qo ?_ | refine AtT.zo qo ?_)
  all_goals first|refine AtT.zh ?_|refine AtT.ze ?_|(first | refine AtT.zR Tryz.underlying24 ?_ | refine AtT.zQ Tryz.underlying24 ?_)
  all_goals first|refine AtT.zh ?_|refine AtT.ze ?_|(first | refine AtT.zk zC ?_ | with_reducible refine AtT.zl zC ?_ | refine AtT.zn zC ?_)
  all_goals first|refine AtT.zh ?_|refine AtT.ze ?_|(first | refine AtT.zm qz ?_ | refine AtT.zo qz ?_)
  all_goals first|refine AtT.zh ?_|refine AtT.ze ?_|(first | refine AtT.zR Tryz.underlying22 ?_ | refine AtT.zQ Tryz.underlying22 ?_)
  all_goals first|refine AtT.zh ?_|refine AtT.ze ?_|(first | refine AtT.qG ?_ | refine AtT.qd ?_)
  all_goals first|refine AtT.zh ?_|refine AtT.ze ?_|(refine AtT.qF ?_)
  all_goals (refine AtT.qa (d := 44) rfl ((by omega)) ?_)
  all_goals (refine AtT.zx ?_)
  all_goals refine AtT.done ?_
  all_goals (refine At.nrm ?_)
  all_goals refine At.zU rfl rfl ?_
  refine At.nrm ?_
  refine At.zi (.n false 0 (.q 1 (.q 2 (.q 3 (.q 4 .done))))) ?_
  refine AtT.zG rfl rfl ok72 (check_f [] (by decide) _ hg19) ?_
  rintro _ rfl
  refine AtT.catT rfl trivial rfl rfl (by decide) (by decide) ?_
  refine AtT.catT rfl trivial rfl rfl (by decide) (by decide) ?_
  refine AtT.zg ?_
  refine AtT.zg ?_
  refine AtT.done ?_
  refine At.nrm ?_
  exact At.qN rfl (.tmp rfl) (.tmp rfl) (by rw [hfile])
 obtain ⟨qs0, aq0, cq0, hqr0, rfl, hsq0, hq0⟩ := id hr
 have hq00 : qs0.length = b.rs.length := by rw [← hqr0, List.length_map]
 refine At.cutG (ι := Unit) (KS := fun _ => [(4, .pointer (some ⟨p, 0, none⟩)), (45, .bool false)]) (OS := fun _ => []) (VS := fun _ V' => V' = V19) ?_ ?_
 ·by_cases hz : st 0 = 0 ∧ st 1 = 0 ∧ st 2 = 0 ∧ st 3 = 0 ∧ st 4 = 0 ∧ st 5 = 0 ∧ st 6 = 0 ∧ st 7 = 0
  ·refine At.zi (.q 0 (.q 1 (.q 2 (.q 3 (.q 4 (.q 5 (.q 6 (.q 7 (.q 8 (.q 9 (.q 10 (.q 11 (.q 12 .done))))))))))))) ?_
   first | refine AtT.zF qj ?_ | refine AtT.zJ qj ?_ | refine AtT.zD qj ?_
   refine AtT.qy (bd105) ?_
   refine AtT.keqS (eqS105 (st 0) (st 1) (st 2) (st 3) (st 4) (st 5) (st 6) (st 7) 0 0 0 0 0 0 0 0) ?_
   refine AtT.qa (d := 35) rfl (hz) ?_
   refine AtT.zf ?_
   all_goals (first | refine AtT.kL 36 ?_ | refine AtT.zw (d := 36) rfl (fun hg36 => ?_) (fun hg36 => ?_) | refine AtT.zu (d := 36) rfl (fun hg36 => ?_) (fun hg36 => ?_))
   all_goals first|refine AtT.zh ?_|refine AtT.ze ?_|(first | refine AtT.zk zz ?_ | with_reducible refine AtT.zl zz ?_ | refine AtT.zn zz ?_)
   all_goals first|refine AtT.zh ?_|refine AtT.ze ?_|(first | refine AtT.zm qo ?_ | refine AtT.zo qo ?_)
   all_goals first|refine AtT.zh ?_|refine AtT.ze ?_|(first | refine AtT.zR Tryz.underlying24 ?_ | refine AtT.zQ Tryz.underlying24 ?_)
   all_goals first|refine AtT.zh ?_|refine AtT.ze ?_|(first | refine AtT.zk zC ?_ | with_reducible refine AtT.zl zC ?_ | refine AtT.zn zC ?_)
   all_goals first|refine AtT.zh ?_|refine AtT.ze ?_|(first | refine AtT.zm qz ?_ | refine AtT.zo qz ?_)
   all_goals first|refine AtT.zh ?_|refine AtT.ze ?_|(first | refine AtT.zR Tryz.underlying22 ?_ | refine AtT.zQ Tryz.underlying22 ?_)
   all_goals first|refine AtT.zh ?_|refine AtT.ze ?_|(first | refine AtT.qG ?_ | refine AtT.qd ?_)
   all_goals first|refine AtT.zh ?_|refine AtT.ze ?_|(refine AtT.qF ?_)
   all_goals (refine AtT.zS (d := 44) rfl ((by omega)) ?_)
   all_goals (refine AtT.zx ?_)
   all_goals refine AtT.done ?_
   all_goals (refine At.nrmB ?_)
   all_goals exact At.jP () rfl ⟨rfl, rfl, trivial⟩ Pt.zV
  ·refine At.zi (.q 0 (.q 1 (.q 2 (.q 3 (.q 4 (.q 5 (.q 6 (.q 7 (.q 8 (.q 9 (.q 10 (.q 11 (.q 12 .done))))))))))))) ?_
   first | refine AtT.zF qj ?_ | refine AtT.zJ qj ?_ | refine AtT.zD qj ?_
   refine AtT.qy (bd105) ?_
   refine AtT.keqS (eqS105 (st 0) (st 1) (st 2) (st 3) (st 4) (st 5) (st 6) (st 7) 0 0 0 0 0 0 0 0) ?_
   refine AtT.zS (d := 35) rfl (hz) ?_
   refine AtT.zf ?_
   all_goals (first | refine AtT.kL 36 ?_ | refine AtT.zw (d := 36) rfl (fun hg36 => ?_) (fun hg36 => ?_) | refine AtT.zu (d := 36) rfl (fun hg36 => ?_) (fun hg36 => ?_))
   all_goals first|refine AtT.zh ?_|refine AtT.ze ?_|(first | refine AtT.zk zz ?_ | with_reducible refine AtT.zl zz ?_ | refine AtT.zn zz ?_)
   all_goals first|refine AtT.zh ?_|refine AtT.ze ?_|(first | refine AtT.zm qo ?_ | refine AtT.zo qo ?_)
   all_goals first|refine AtT.zh ?_|refine AtT.ze ?_|(first | refine AtT.zR Tryz.underlying24 ?_ | refine AtT.zQ Tryz.underlying24 ?_)
   all_goals first|refine AtT.zh ?_|refine AtT.ze ?_|(first | refine AtT.zk zC ?_ | with_reducible refine AtT.zl zC ?_ | refine AtT.zn zC ?_)
   all_goals first|refine AtT.zh ?_|refine AtT.ze ?_|(first | refine AtT.zm qz ?_ | refine AtT.zo qz ?_)
   all_goals first|refine AtT.zh ?_|refine AtT.ze ?_|(first | refine AtT.zR Tryz.underlying22 ?_ | refine AtT.zQ Tryz.underlying22 ?_)
   all_goals first|refine AtT.zh ?_|refine AtT.ze ?_|(first | refine AtT.qG ?_ | refine AtT.qd ?_)
   all_goals first|refine AtT.zh ?_|refine AtT.ze ?_|(refine AtT.qF ?_)
   all_goals (refine AtT.zx ?_)
   all_goals refine AtT.done ?_
   all_goals (refine At.nrmB ?_)
   all_goals exact At.jP () rfl ⟨rfl, rfl, trivial⟩ Pt.zV
 rintro _ V1 ks1 O1 rfl rfl rfl hle1
 refine At.nrm ?_
 refine At.zX rfl rfl ?_
 refine At.nrm ?_
 refine At.zi (.n false 0 .done) ?_
 refine AtT.zT z114 ?_
 intro b8
 refine AtT.done ?_
 refine At.nrm ?_
 refine At.newRow 5 1 ?_
 have hb80 : ∀ x : Nat, (rsP b x).length ≤ 408 := fun x => hR.rs_len x
 have hb81 : ∀ x : Nat, (esP b x).length ≤ 1032 := fun x => by
  have h1 := hR.rs_len b.rs.length
  rw [List.take_length] at h1
  have h2 := hR.es_len x
  unfold esP
  rw [List.length_append]; omega
 refine At.zi (.q 0 (.q 1 (.q 2 (.q 3 (.q 4 (.q 5 (.q 6 .done))))))) ?_
 refine AtT.zf ?_
 refine AtT.jM ?_
 first | refine AtT.zk kg ?_ | with_reducible refine AtT.zl kg ?_ | refine AtT.zn kg ?_
 first | refine AtT.zk zC ?_ | with_reducible refine AtT.zl zC ?_ | refine AtT.zn zC ?_
 first | refine AtT.zm qz ?_ | refine AtT.zo qz ?_
 first | refine AtT.zR Tryz.underlying22 ?_ | refine AtT.zQ Tryz.underlying22 ?_
 refine AtT.zf ?_
 refine AtT.done ?_
 refine At.nrm ?_
 refine At.lp (ι := Nat × Option Addr × Nat × Option Addr) (KS := fun g => [(4, .pointer (some ⟨p, 0, none⟩)), (8, .pointer (some ⟨b8, 0, none⟩)), (53, .slice aq qs.length cq), (54, iv qs.length), (55, iv g.1)])
  (OS := fun g => [.blk b8 (LC [.pointer g.2.2.2, .slice g.2.1 (rsP b g.1).length g.2.2.1] 114), .row (.slice g.2.1 (rsP b g.1).length g.2.2.1) 5 1 (rsP b g.1).length (flat byE (rsP b g.1))])
  (VS := fun g V' => Le V1 V' ∧ g.1 ≤ qs.length ∧ (g.2.2.2 = none ∨ g.2.2.2 = some ⟨b8, 0, none⟩)) (μ := fun g => qs.length - g.1) (0, none, 0, none) ?_ ?_ ?_ ?_
 ·exact ⟨rfl, rfl, rfl, rfl, rfl, trivial⟩
 ·exact Pt.zI
 ·exact ⟨Le.refl _, Nat.zero_le _, .inl rfl⟩
 rintro ⟨i, ao, co, pp⟩ V' ks' O' ⟨hVV, hil, hpp⟩ hk hO hl
 dsimp only at hil hk hO hpp
 subst hk hO
 have hsq1 := hsq.le hVV
 have hq1 := hq.le hVV
 have hg1 := hg19.le hVV
 refine At.nrm ?_
 refine At.zi (.q 0 .done) ?_
 refine AtT.qp ?_
 refine AtT.done ?_
 refine At.nrm ?_
 refine At.qb rfl (fun hp1 => ?_) (fun hp1 => ?_)
 ·obtain ⟨x, hqx⟩ : ∃ x, qs[i]? = some x := ⟨_, List.getElem?_eq_getElem (by omega)⟩
  have hrx : b.rs[i]? = some x.1 := by rw [← hqr]; exact qs_at hqx
  have hxm := List.mem_of_getElem? hrx
  have hsx := hq1 x (qs_mem hqx)
  have hxn := (ky hR.bog.rs _ hxm).len
  have hrcn := rcN_in (hnm.rs _ hxm)
  refine At.nrm ?_
  refine At.zi (.q 0 (.q 1 (.n false 2 (.n true 3 .done)))) ?_
  refine AtT.qm Tryz.underlying22 qO ?_
  intro p57 e57 he57 hc57
  first | refine AtT.zF qO ?_ | refine AtT.zJ qO ?_ | refine AtT.zD qO ?_
  obtain rfl : x = e57 := by have : qs[i]? = some e57 := (by rw [Int.toNat_natCast] at he57; exact he57); rw [hqx] at this; exact Option.some.inj this
  refine AtT.zT z80 ?_
  intro b10
  refine AtT.zy qO ?_
  refine AtT.done ?_
  refine At.nrm ?_
  refine At.zi (.q 0 (.q 1 (.n false 2 (.q 3 .done)))) ?_
  first | refine AtT.zk zY ?_ | with_reducible refine AtT.zl zY ?_ | refine AtT.zn zY ?_
  first | refine AtT.zm tk3 ?_ | refine AtT.zo tk3 ?_
  refine AtT.kbslice (bs28_1_0 _) ?_
  intro b61
  refine AtT.zg ?_
  refine AtT.done ?_
  refine At.nrm ?_
  refine At.blkRow (b := b61) (m := 1) (cap := 1) (s := 1) (e := 2) (xs := [iv x.1.g]) (rest := []) zP.zI rfl rfl (Nat.le_refl _) (by unfold maxLen; decide) ?_
  refine At.zi (.q 0 (.q 1 (.q 2 (.q 3 .done)))) ?_
  first | refine AtT.zk zK ?_ | with_reducible refine AtT.zl zK ?_ | refine AtT.zn zK ?_
  first | refine AtT.zm qM ?_ | refine AtT.zo qM ?_
  first | refine AtT.zR Tryz.underlying66 ?_ | refine AtT.zQ Tryz.underlying66 ?_
  refine AtT.zf ?_
  refine AtT.done ?_
  refine At.nrm ?_
  refine At.lp (ι := Nat × Option Addr × Nat) (KS := fun j => [(4, .pointer (some ⟨p, 0, none⟩)), (8, .pointer (some ⟨b8, 0, none⟩)), (53, .slice aq qs.length cq), (54, iv qs.length), (55, iv i), (11, .slice j.2.1 (rcP x.1 j.1).length j.2.2), (63, .slice x.2.1 x.1.ps.length x.2.2), (64, iv x.1.ps.length), (65, iv j.1)])
   (OS := fun j => .row (.slice j.2.1 (rcP x.1 j.1).length j.2.2) 2 1 (rcP x.1 j.1).length (flat ei (rcP x.1 j.1)) :: [.blk b8 (LC [.pointer pp, .slice ao (rsP b i).length co] 114), .row (.slice ao (rsP b i).length co) 5 1 (rsP b i).length (flat byE (rsP b i))])
   (VS := fun j V'' => Le V' V'' ∧ j.1 ≤ x.1.ps.length) (μ := fun j => x.1.ps.length - j.1) (0, some ⟨b61, 0, none⟩, 1) ?_ ?_ ?_ ?_
  ·exact ⟨rfl, rfl, rfl, rfl, rfl, rfl, rfl, rfl, rfl, trivial⟩
  ·exact Pt.zI
  ·exact ⟨Le.refl _, Nat.zero_le _⟩
  rintro ⟨j, aj, cj⟩ V2 ks' O' ⟨hV2, hjl⟩ hk hO hl2
  dsimp only at hjl hk hO
  subst hk hO
  have hsx2 := hsx.le hV2
  have hrl := rcP_len hjl
  refine At.nrm ?_
  refine At.zi (.q 0 .done) ?_
  refine AtT.qp ?_
  refine AtT.done ?_
  refine At.nrm ?_
  refine At.qb rfl (fun hp2 => ?_) (fun hp2 => ?_)
  ·obtain ⟨y, hyj⟩ : ∃ y, x.1.ps[j]? = some y := ⟨_, List.getElem?_eq_getElem (by omega)⟩
   have hst1 := rcP_step hyj
   refine At.nrm ?_
   refine At.zi (.q 0 (.q 1 (.n false 2 (.n true 3 .done)))) ?_
   refine AtT.qm Tryz.underlying66 qZ ?_
   intro p67 e67 he67 hc67
   first | refine AtT.zF qZ ?_ | refine AtT.zJ qZ ?_ | refine AtT.zD qZ ?_
   obtain rfl : y = e67 := by have : x.1.ps[j]? = some e67 := (by rw [Int.toNat_natCast] at he67; exact he67); rw [hyj] at this; exact Option.some.inj this
   refine AtT.zT z69 ?_
   intro b13
   refine AtT.zy qZ ?_
   refine AtT.done ?_
   refine At.nrm ?_
   refine At.zi (.q 0 (.q 1 (.q 2 (.q 3 (.q 4 (.n false 5 (.n true 6 (.q 7 .done)))))))) ?_
   refine AtT.zf ?_
   first | refine AtT.zk zZ ?_ | with_reducible refine AtT.zl zZ ?_ | refine AtT.zn zZ ?_
   first | refine AtT.zm tk3 ?_ | refine AtT.zo tk3 ?_
   first | refine AtT.zk qi ?_ | with_reducible refine AtT.zl qi ?_ | refine AtT.zn qi ?_
   first | refine AtT.zm tk2 ?_ | refine AtT.zo tk2 ?_
   refine AtT.zN (bs28_2_0_1 _ _) ?_
   intro q74 V74 hV74 hq74
   have g74 : Le V V74 := by first | exact hV74 | exact Le.trans (by assumption) hV74
   first | refine AtT.qX Tryz.underlying28 rw2 ?_
   intro a75 c75
   refine AtT.zg ?_
   refine AtT.done ?_
   refine At.nrm ?_
   refine At.zi (.q 0 (.q 1 .done)) ?_
   first | refine AtT.qG ?_ | refine AtT.qd ?_
   refine AtT.zf ?_
   refine AtT.done ?_
   refine At.nrm ?_
   refine At.round (j + 1, a75, c75) ?_ ?_ ?_ ?_
   ·show x.1.ps.length - (j + 1) < x.1.ps.length - j; omega
   ·exact ⟨hV2.trans hV74, by dsimp only; omega⟩
   ·refine ⟨rfl, rfl, rfl, rfl, rfl, ?_, rfl, rfl, ivs (by dsimp only; omega), trivial⟩
    dsimp only; rw [hst1, List.length_append]; rfl
   ·dsimp only
    rw [hst1, show (rcP x.1 j ++ [y.t, y.n]).length = (rcP x.1 j).length + 2 from by rw [List.length_append]; rfl, show flat ei (rcP x.1 j ++ [y.t, y.n]) = flat ei (rcP x.1 j) ++ [iv y.t, iv y.n] from by unfold flat; rw [List.flatMap_append]; rfl]
    exact Pt.zI
  obtain rfl : j = x.1.ps.length := by omega
  rw [rcP_all] at hrl ⊢
  refine At.jF (l := rcN x.1) Lw.jU rfl rfl zP.zI (fun V3 hV3 hs3 => ?_)
  have hbl := hb80 i
  have hrc50 := hR.rcT_len hxm
  have hst2 := rsP_step hrx
  have hg3 := (hg1.le hV2).le hV3
  have hcat : (rsP b i).length + (rcT x.1 ++ [10]).length ≤ 1000000 := by rw [List.length_append]; simp only [List.length_cons, List.length_nil]; omega
  refine At.nrm ?_
  refine At.zi (.q 0 (.n false 1 (.n true 2 .done))) ?_
  refine AtT.zf ?_
  refine AtT.zG rfl rfl ok75 (line_f 0 (by decide) (rcN x.1) (by omega) hrcn _ hg3 _ hs3) ?_
  rintro _ rfl
  refine AtT.jb rfl trivial rfl ok74 (by decide) (List.Perm.refl _) (writeString_f b8 pp hpp ao co (rsP b i) (rcT x.1 ++ [10]) hcat) ?_
  rintro _ _ V79 ⟨rfl, hV79, a', c', rfl⟩
  refine AtT.done ?_
  refine At.nrm ?_
  refine At.zi (.q 0 (.q 1 .done)) ?_
  first | refine AtT.qG ?_ | refine AtT.qd ?_
  refine AtT.zf ?_
  refine AtT.done ?_
  refine At.nrm ?_
  refine At.round (i + 1, a', c', some ⟨b8, 0, none⟩) ?_ ?_ ?_ ?_
  ·show qs.length - (i + 1) < qs.length - i; omega
  ·exact ⟨((hVV.trans hV2).trans hV3).trans hV79, by dsimp only; omega, .inr rfl⟩
  ·exact ⟨rfl, rfl, rfl, rfl, ivs (by dsimp only; omega), trivial⟩
  ·dsimp only
   rw [hst2]
   exact Pt.zI
 obtain rfl : i = qs.length := by omega
 rw [hql, rsP_all]
 have hes1 := hes2.le hVV
 have hc1' := hc1.le hVV
 refine At.nrm ?_
 refine At.zi (.q 0 (.q 1 (.q 2 (.q 3 (.q 4 (.q 5 (.q 6 .done))))))) ?_
 refine AtT.zf ?_
 refine AtT.jM ?_
 first | refine AtT.zk kg ?_ | with_reducible refine AtT.zl kg ?_ | refine AtT.zn kg ?_
 first | refine AtT.zk zz ?_ | with_reducible refine AtT.zl zz ?_ | refine AtT.zn zz ?_
 first | refine AtT.zm qo ?_ | refine AtT.zo qo ?_
 first | refine AtT.zR Tryz.underlying24 ?_ | refine AtT.zQ Tryz.underlying24 ?_
 refine AtT.zf ?_
 refine AtT.done ?_
 refine At.nrm ?_
 refine At.lp (ι := Nat × Option Addr × Nat × Option Addr) (KS := fun g => [(8, .pointer (some ⟨b8, 0, none⟩)), (85, .slice ae b.es.length ce), (86, iv b.es.length), (87, iv g.1)])
  (OS := fun g => [.blk b8 (LC [.pointer g.2.2.2, .slice g.2.1 (esP b g.1).length g.2.2.1] 114), .row (.slice g.2.1 (esP b g.1).length g.2.2.1) 5 1 (esP b g.1).length (flat byE (esP b g.1))])
  (VS := fun g V' => Le V1 V' ∧ g.1 ≤ b.es.length ∧ (g.2.2.2 = none ∨ g.2.2.2 = some ⟨b8, 0, none⟩)) (μ := fun g => b.es.length - g.1) (0, ao, co, pp) ?_ ?_ ?_ ?_
 ·exact ⟨rfl, rfl, rfl, rfl, trivial⟩
 ·exact Pt.zI
 ·exact ⟨hVV, Nat.zero_le _, hpp⟩
 clear hpp hVV hsq1 hq1 hg1 hes1 hc1' hl
 rintro ⟨k, ao, co, pp⟩ V' ks' O' ⟨hVV, hkl, hpp⟩ hk hO hl
 dsimp only at hkl hk hO hpp
 subst hk hO
 have hes1 := hes2.le hVV
 have hg1 := hg19.le hVV
 refine At.nrm ?_
 refine At.zi (.q 0 .done) ?_
 refine AtT.qp ?_
 refine AtT.done ?_
 refine At.nrm ?_
 refine At.qb rfl (fun hp1 => ?_) (fun hp1 => ?_)
 ·obtain ⟨e, hek⟩ : ∃ e, b.es[k]? = some e := ⟨_, List.getElem?_eq_getElem (by omega)⟩
  have hem := List.mem_of_getElem? hek
  have hen := (hnm.es _ hem).k
  have henn := enN_in (hnm.es _ hem)
  have henl := enN_len e
  refine At.nrm ?_
  refine At.zi (.q 0 (.q 1 (.n false 2 (.n true 3 .done)))) ?_
  refine AtT.qm Tryz.underlying24 qH ?_
  intro p89 e89 he89 hc89
  first | refine AtT.zF qH ?_ | refine AtT.zJ qH ?_ | refine AtT.zD qH ?_
  obtain rfl : e = e89 := by have : b.es[k]? = some e89 := (by rw [Int.toNat_natCast] at he89; exact he89); rw [hek] at this; exact Option.some.inj this
  refine AtT.zT z36 ?_
  intro b15
  refine AtT.zy qH ?_
  refine AtT.done ?_
  refine At.nrm ?_
  refine At.zi (.q 0 (.q 1 (.q 2 (.q 3 (.q 4 (.q 5 (.n false 6 (.q 7 .done)))))))) ?_
  first | refine AtT.zk qc ?_ | with_reducible refine AtT.zl qc ?_ | refine AtT.zn qc ?_
  first | refine AtT.zm tk3 ?_ | refine AtT.zo tk3 ?_
  first | refine AtT.zk zL ?_ | with_reducible refine AtT.zl zL ?_ | refine AtT.zn zL ?_
  first | refine AtT.zm tk3 ?_ | refine AtT.zo tk3 ?_
  first | refine AtT.zk zO ?_ | with_reducible refine AtT.zl zO ?_ | refine AtT.zn zO ?_
  first | refine AtT.zm tk2 ?_ | refine AtT.zo tk2 ?_
  refine AtT.zN (bs28_3_0_1_2 _ _ _) ?_
  intro q97 V97 hV97 hq97
  have g97 : Le V V97 := by first | exact hV97 | exact Le.trans (by assumption) hV97
  refine AtT.zg ?_
  refine AtT.done ?_
  refine At.nrm ?_
  refine At.zi (.q 0 (.q 1 (.q 2 .done))) ?_
  first | refine AtT.zk zA ?_ | with_reducible refine AtT.zl zA ?_ | refine AtT.zn zA ?_
  first | refine AtT.zm tk3 ?_ | refine AtT.zo tk3 ?_
  refine AtT.qF ?_
  refine AtT.done ?_
  refine At.nrm ?_
  have hs3 : SlI V97 (.slice (some q97) 3 3) [e.d, e.t, e.n] := Sl.lit (l := [e.d, e.t, e.n]) hq97 rfl (by simp)
  have hg97 := hg1.le hV97
  refine At.qb rfl (fun k4 => ?_) (fun k4 => ?_)
  ·have hE4 : enN e = [e.d, e.t] := by unfold enN; rw [if_pos k4]
   refine At.nrm ?_
   refine At.zi (.q 0 (.q 1 (.q 2 .done))) ?_
   refine AtT.zf ?_
   refine AtT.khead Tryz.underlying28 tk2 ?_ (hv := hs3) (h1 := show (2 : Int) ≤ ((3 : Nat) : Int) from by decide)
   intro a102 c102 hs102
   refine AtT.zg ?_
   refine AtT.done ?_
   refine At.nrm ?_
   have hs2 : SlI V97 (.slice a102 2 c102) (enN e) := by rw [hE4]; exact hs102
   have hbl := hb81 k
   have heT := hR.enT_len hem
   have hst2 := esP_step hek
   have hcat : (esP b k).length + (enT e ++ [10]).length ≤ 1000000 := by rw [List.length_append]; simp only [List.length_cons, List.length_nil]; omega
   have hg9 := hg97
   have hsn := hs2
   have hkk : wd0 e.k = wd e.k := by unfold wd0; rw [if_neg (by have := hen.1; omega)]
   refine At.zi (.q 0 (.q 1 (.q 2 (.n false 3 (.n true 4 .done))))) ?_
   first | refine AtT.zk zA ?_ | with_reducible refine AtT.zl zA ?_ | refine AtT.zn zA ?_
   first | refine AtT.zm tk3 ?_ | refine AtT.zo tk3 ?_
   refine AtT.zf ?_
   refine AtT.zG rfl rfl ok75 (line_f e.k (by have := hen.1; omega) (enN e) (by omega) henn _ hg9 _ hsn) ?_
   rintro _ rfl; rw [hkk]
   refine AtT.jb rfl trivial rfl ok74 (by decide) (List.Perm.trans (List.Perm.swap _ _ _) (List.Perm.cons _ (List.Perm.swap _ _ _))) (writeString_f b8 pp hpp ao co (esP b k) (enT e ++ [10]) hcat) ?_
   rintro _ _ V107 ⟨rfl, hV107, a', c', rfl⟩
   refine AtT.done ?_
   refine At.nrm ?_
   refine At.zi (.q 0 (.q 1 .done)) ?_
   first | refine AtT.qG ?_ | refine AtT.qd ?_
   refine AtT.zf ?_
   refine AtT.done ?_
   refine At.nrm ?_
   refine At.round (k + 1, a', c', some ⟨b8, 0, none⟩) ?_ ?_ ?_ ?_
   ·show b.es.length - (k + 1) < b.es.length - k; omega
   ·exact ⟨(hVV.trans hV97).trans hV107, by dsimp only; omega, .inr rfl⟩
   ·exact ⟨rfl, rfl, rfl, ivs (by dsimp only; omega), trivial⟩
   ·dsimp only
    rw [hst2]
    exact Pt.zI
  ·have hE3 : enN e = [e.d, e.t, e.n] := by unfold enN; rw [if_neg k4]
   have hs2 : SlI V97 (.slice (some q97) 3 3) (enN e) := by rw [hE3]; exact hs3
   refine At.nrm ?_
   have hbl := hb81 k
   have heT := hR.enT_len hem
   have hst2 := esP_step hek
   have hcat : (esP b k).length + (enT e ++ [10]).length ≤ 1000000 := by rw [List.length_append]; simp only [List.length_cons, List.length_nil]; omega
   have hg9 := hg97
   have hsn := hs2
   have hkk : wd0 e.k = wd e.k := by unfold wd0; rw [if_neg (by have := hen.1; omega)]
   refine At.zi (.q 0 (.q 1 (.q 2 (.n false 3 (.n true 4 .done))))) ?_
   first | refine AtT.zk zA ?_ | with_reducible refine AtT.zl zA ?_ | refine AtT.zn zA ?_
   first | refine AtT.zm tk3 ?_ | refine AtT.zo tk3 ?_
   refine AtT.zf ?_
   refine AtT.zG rfl rfl ok75 (line_f e.k (by have := hen.1; omega) (enN e) (by omega) henn _ hg9 _ hsn) ?_
   rintro _ rfl; rw [hkk]
   refine AtT.jb rfl trivial rfl ok74 (by decide) (List.Perm.trans (List.Perm.swap _ _ _) (List.Perm.cons _ (List.Perm.swap _ _ _))) (writeString_f b8 pp hpp ao co (esP b k) (enT e ++ [10]) hcat) ?_
   rintro _ _ V107 ⟨rfl, hV107, a', c', rfl⟩
   refine AtT.done ?_
   refine At.nrm ?_
   refine At.zi (.q 0 (.q 1 .done)) ?_
   first | refine AtT.qG ?_ | refine AtT.qd ?_
   refine AtT.zf ?_
   refine AtT.done ?_
   refine At.nrm ?_
   refine At.round (k + 1, a', c', some ⟨b8, 0, none⟩) ?_ ?_ ?_ ?_
   ·show b.es.length - (k + 1) < b.es.length - k; omega
   ·exact ⟨(hVV.trans hV97).trans hV107, by dsimp only; omega, .inr rfl⟩
   ·exact ⟨rfl, rfl, rfl, ivs (by dsimp only; omega), trivial⟩
   ·dsimp only
    rw [hst2]
    exact Pt.zI
 obtain rfl : k = b.es.length := by omega
 rw [esP_all]
 have hbl := hR.body_len
 have hne := body_ne hemp
 have hpos : (kw b).length ≠ 0 := by simpa using hne
 refine At.rowSplit (v := .slice ao (kw b).length co) zP.zI (fun _ h _ => absurd h hpos) (fun g cap rest hv hc1 hc2 hc3 => ?_)
 cases hv
 refine At.nrm ?_
 refine At.zi (.n true 0 (.q 1 (.n true 2 (.n false 3 (.q 4 (.q 5 (.q 6 (.q 7 .done)))))))) ?_
 refine AtT.jb rfl trivial rfl ok76 (by decide) (List.Perm.refl _) (bstring_f b8 g pp co (kw b) rest (0, 0) hne (by omega) (by omega) (.inl rfl)) ?_
 rintro _ _ _ ⟨rfl, rfl, rfl⟩
 refine AtT.catT rfl trivial rfl rfl (by show _ + ((6 : Nat) : Int) ≤ _; omega) (by decide) ?_
 refine AtT.jb rfl trivial rfl ok76 (by decide) (List.Perm.refl _) (bstring_f b8 g pp co (kw b) rest (0, 0 + (kw b).length) hne (by omega) (by omega) (.inr rfl)) ?_
 rintro _ _ _ ⟨rfl, rfl, rfl⟩
 refine AtT.zG rfl rfl ok72 (check_f (kw b) (by omega) _ hg1) ?_
 rintro _ rfl
 refine AtT.catT rfl trivial rfl rfl (by rw [chk_len, List.length_append]; show (((kw b).length + 6 : Nat) : Int) + ((8 : Nat) : Int) ≤ _; omega) (by decide) ?_
 refine AtT.catT rfl trivial rfl rfl (by rw [List.length_append, List.length_append, chk_len]; show (((kw b).length + 6 + 8 : Nat) : Int) + ((1 : Nat) : Int) ≤ _; omega) (by decide) ?_
 refine AtT.zg ?_
 refine AtT.zg ?_
 refine AtT.done ?_
 refine At.nrm ?_
 exact At.qN rfl (.tmp rfl) (.tmp rfl) (by unfold fileT tailT; rw [List.append_assoc, List.append_assoc]; simp)
end Go.Proofs.YtpoignmclfdgpaaGreatDoor
set_option linter.unusedVariables false
namespace Go.Proofs.YtpoignmclfdgpaaGreatDoor
open Go.Lw Go.Gl Go.Bk Go.RowKit
theorem rline_f (w : List UInt8) (hw : w.length ≤ 10) (l : List Int) (hln : l.length ≤ 10000) (hl : ∀ n ∈ l, 0 ≤ n ∧ n < 1000000) (V : View) (hg : GvV V) (v : Value) (hs : SlI V v l) : Fnc Tryz.prog 84 [sT w, v] V fun r _ => r = sT (lnT w l ++ [10]) := by
 have hlen := hs.jA
 refine ql Tryz.func84 rfl Tryz.ntmps84 (Nat.le_of_ble_eq_true rfl) ?_
 intro w0 hw0
 refine At.nrm ?_
 refine At.zi (.q 0 .done) ?_
 refine AtT.zg ?_
 refine AtT.done ?_
 refine At.nrm ?_
 refine At.zi (.q 0 .done) ?_
 refine AtT.zg ?_
 refine AtT.done ?_
 refine At.nrm ?_
 refine At.lp (ι := Nat) (KS := fun i => [(0, sT (lnT w (l.take i))), (1, v), (5, iv i)]) (OS := fun _ => [])
  (VS := fun i V' => V' = V ∧ i ≤ l.length) (μ := fun i => l.length - i) 0 ?_ ?_ ?_ ?_
 ·exact ⟨by show some (sT w) = some (sT (w ++ [])); rw [List.append_nil], rfl, rfl, trivial⟩
 ·exact Pt.zI
 ·exact ⟨rfl, Nat.zero_le _⟩
 rintro i V' ks' O' ⟨rfl, hil⟩ hk' hO hl2
 subst hk' hO
 have hbd := lnT_len w (l := l.take i) fun x hx => hl x (List.mem_of_mem_take hx)
 rw [List.length_take_of_le hil] at hbd
 refine At.nrm ?_
 refine At.zi (.q 0 (.q 1 (.q 2 (.q 3 .done)))) ?_
 refine AtT.zf ?_
 refine AtT.zf ?_
 first | refine AtT.zR Tryz.underlying28 ?_ | refine AtT.zQ Tryz.underlying28 ?_
 refine AtT.qp ?_
 refine AtT.done ?_
 refine At.nrm ?_
 refine At.qb rfl (fun hp => ?_) (fun hp => ?_)
 ·obtain ⟨e, hee⟩ : ∃ e, l[i]? = some e := ⟨_, List.getElem?_eq_getElem (by omega)⟩
  have hen := hl e (List.mem_of_getElem? hee)
  have hil6 := itoa_len hen
  refine At.nrm ?_
  refine At.zi (.q 0 (.q 1 (.q 2 (.q 3 (.q 4 (.n false 5 (.q 6 (.q 7 (.q 8 .done))))))))) ?_
  refine AtT.zf ?_
  refine AtT.zf ?_
  refine AtT.zf ?_
  refine AtT.qm Tryz.underlying28 tk2 ?_
  intro p15 e15 he15 hc15
  first | refine AtT.zm tk2 ?_ | refine AtT.zo tk2 ?_
  obtain rfl : e = e15 := by have : l[i]? = some e15 := (by rw [Int.toNat_natCast] at he15; exact he15); rw [hee] at this; exact Option.some.inj this
  refine AtT.zG rfl rfl ok101 (fmt10_f e (by omega) (by omega) V' hg) ?_
  rintro _ rfl
  refine AtT.catT rfl trivial rfl rfl (by show ((1 : Nat) : Int) + _ ≤ _; omega) (by decide) ?_
  refine AtT.catT rfl trivial rfl rfl (by rw [List.length_append]; show _ + (((1 + (Lib.itoa e).length : Nat)) : Int) ≤ _; omega) (by decide) ?_
  refine AtT.zg ?_
  refine AtT.done ?_
  refine At.nrm ?_
  refine At.zi (.q 0 (.q 1 (.q 2 .done))) ?_
  refine AtT.zf ?_
  first | refine AtT.qG ?_ | refine AtT.qd ?_
  refine AtT.zg ?_
  refine AtT.done ?_
  refine At.nrm ?_
  refine At.round (i + 1) ?_ ?_ ?_ ?_
  ·show l.length - (i + 1) < l.length - i; omega
  ·exact ⟨rfl, by omega⟩
  ·refine ⟨?_, rfl, ivs (by omega), trivial⟩
   rw [jq hee, lnT_snoc]; rfl
  ·exact Pt.zI
 obtain rfl : i = l.length := by omega
 rw [List.take_length] at hbd ⊢
 refine At.nrm ?_
 refine At.zi (.q 0 (.q 1 (.q 2 .done))) ?_
 refine AtT.zf ?_
 refine AtT.catT rfl trivial rfl rfl (by show _ + ((1 : Nat) : Int) ≤ _; omega) (by decide) ?_
 refine AtT.zg ?_
 refine AtT.done ?_
 refine At.nrm ?_
 exact At.qh rfl (.tmp rfl) rfl
theorem word_f (k : Int) (V : View) : Fnc Tryz.prog 85 [iv k] V fun r _ => r = sT (wd k) := by
 refine ql Tryz.func85 rfl Tryz.ntmps85 (Nat.le_of_ble_eq_true rfl) ?_
 intro w0 hw0
 refine At.nrm ?_
 refine At.zi (.q 0 .done) ?_
 refine AtT.zg ?_
 refine AtT.done ?_
 refine At.nrm ?_
 refine At.zi (.q 0 (.q 1 .done)) ?_
 refine AtT.zf ?_
 refine AtT.qF ?_
 refine AtT.done ?_
 refine At.nrm ?_
 refine At.qb rfl (fun h1 => ?_) (fun h1 => ?_)
 ·refine At.nrm ?_
  refine At.zi (.q 0 .done) ?_
  refine AtT.zg ?_
  refine AtT.done ?_
  refine At.nrm ?_
  exact At.qh rfl (.tmp rfl) (by unfold wd; rw [if_pos h1])
 refine At.nrm ?_
 refine At.zi (.q 0 (.q 1 .done)) ?_
 refine AtT.zf ?_
 refine AtT.qF ?_
 refine AtT.done ?_
 refine At.nrm ?_
 refine At.qb rfl (fun h2 => ?_) (fun h2 => ?_)
 ·refine At.nrm ?_
  refine At.zi (.q 0 .done) ?_
  refine AtT.zg ?_
  refine AtT.done ?_
  refine At.nrm ?_
  exact At.qh rfl (.tmp rfl) (by unfold wd; rw [if_neg h1, if_pos h2])
 refine At.nrm ?_
 refine At.zi (.q 0 (.q 1 .done)) ?_
 refine AtT.zf ?_
 refine AtT.qF ?_
 refine AtT.done ?_
 refine At.nrm ?_
 refine At.qb rfl (fun h3 => ?_) (fun h3 => ?_)
 ·refine At.nrm ?_
  refine At.zi (.q 0 .done) ?_
  refine AtT.zg ?_
  refine AtT.done ?_
  refine At.nrm ?_
  exact At.qh rfl (.tmp rfl) (by unfold wd; rw [if_neg h1, if_neg h2, if_pos h3])
 refine At.nrm ?_
 refine At.zi (.q 0 .done) ?_
 refine AtT.zg ?_
 refine AtT.done ?_
 refine At.nrm ?_
 exact At.qh rfl (.tmp rfl) (by unfold wd; rw [if_neg h1, if_neg h2, if_neg h3])
end Go.Proofs.YtpoignmclfdgpaaGreatDoor
set_option linter.unusedVariables false
namespace Go.Proofs.YtpoignmclfdgpaaGreatDoor
open Go.Lw Go.Gl Go.Bk Go.RowKit
theorem rfileOf_f (b : Bo) (hR : Right b) (V : View) (hg : GvV V) (v : Value) (hv : BoV V v b) : Fnc Tryz.prog 50 [v] V fun r _ => r = sT (fileT b) := by
 obtain ⟨v1, a, c, rfl, hr, hes⟩ := id hv
 have hl24 := hR.len
 have hl8 := rcsOk_len hR.bog.rs
 have hnm := hR.nm
 obtain ⟨qs, aq, cq, hqr, rfl, hsq, hq⟩ := id hr
 have hql : qs.length = b.rs.length := by rw [← hqr, List.length_map]
 have hlen1 := hes.jA
 have hb80 : ∀ x : Nat, (rsP b x).length ≤ 408 := fun x => hR.rs_len x
 have hb81 : ∀ x : Nat, (esP b x).length ≤ 1032 := fun x => by
  have h1 := hR.rs_len b.rs.length
  rw [List.take_length] at h1
  have h2 := hR.es_len x
  unfold esP
  rw [List.length_append]; omega
 refine ql Tryz.func50 rfl Tryz.ntmps50 (Nat.le_of_ble_eq_true rfl) ?_
 intro w0 hw0
 refine At.nrm ?_
 refine At.zi (.n false 0 (.q 1 .done)) ?_
 refine AtT.jE ?_
 intro b1
 refine AtT.zg ?_
 refine AtT.done ?_
 refine At.nrm ?_
 refine At.zi (.q 0 .done) ?_
 refine AtT.zg ?_
 refine AtT.done ?_
 refine At.nrm ?_
 refine At.zi (.q 0 .done) ?_
 refine AtT.zg ?_
 refine AtT.done ?_
 refine At.nrm ?_
 refine At.lp (ι := Nat) (KS := fun i => [(1, .pointer (some ⟨b1, 0, none⟩)), (3, sT (rsP b i)), (4, iv i)])
  (OS := fun _ => [.blk b1 (LC [.slice aq qs.length cq, .slice a b.es.length c] 26)])
  (VS := fun i V' => Le V V' ∧ i ≤ qs.length) (μ := fun i => qs.length - i) 0 ?_ ?_ ?_ ?_
 ·exact ⟨rfl, rfl, rfl, trivial⟩
 ·exact Pt.zI
 ·exact ⟨Le.refl _, Nat.zero_le _⟩
 rintro i V' ks' O' ⟨hVV, hil⟩ hk hO hl
 subst hk hO
 have hsq1 := hsq.le hVV
 have hq1 := hq.le hVV
 have hg1 := hg.le hVV
 refine At.nrm ?_
 refine At.zi (.q 0 (.q 1 (.q 2 (.q 3 (.q 4 .done))))) ?_
 refine AtT.zf ?_
 first | refine AtT.zk zC ?_ | with_reducible refine AtT.zl zC ?_ | refine AtT.zn zC ?_
 first | refine AtT.zm qz ?_ | refine AtT.zo qz ?_
 first | refine AtT.zR Tryz.underlying22 ?_ | refine AtT.zQ Tryz.underlying22 ?_
 refine AtT.qp ?_
 refine AtT.done ?_
 refine At.nrm ?_
 refine At.qb rfl (fun hp1 => ?_) (fun hp1 => ?_)
 ·obtain ⟨x, hqx⟩ : ∃ x, qs[i]? = some x := ⟨_, List.getElem?_eq_getElem (by omega)⟩
  have hrx : b.rs[i]? = some x.1 := by rw [← hqr]; exact qs_at hqx
  have hxm := List.mem_of_getElem? hrx
  have hsx := hq1 x (qs_mem hqx)
  have hxn := (ky hR.bog.rs _ hxm).len
  have hrcn := rcN_in (hnm.rs _ hxm)
  refine At.nrm ?_
  refine At.zi (.q 0 (.q 1 (.q 2 (.q 3 (.q 4 (.q 5 (.n false 6 (.q 7 .done)))))))) ?_
  first | refine AtT.zk zC ?_ | with_reducible refine AtT.zl zC ?_ | refine AtT.zn zC ?_
  first | refine AtT.zm qz ?_ | refine AtT.zo qz ?_
  refine AtT.zf ?_
  refine AtT.qm Tryz.underlying22 qO ?_
  intro p20 e20 he20 hc20
  obtain rfl : x = e20 := by have : qs[i]? = some e20 := (by rw [Int.toNat_natCast] at he20; exact he20); rw [hqx] at this; exact Option.some.inj this
  first | refine AtT.zk zY ?_ | with_reducible refine AtT.zl zY ?_ | refine AtT.zn zY ?_
  first | refine AtT.zm tk3 ?_ | refine AtT.zo tk3 ?_
  refine AtT.kbslice (bs28_1_0 _) ?_
  intro b23
  refine AtT.zg ?_
  refine AtT.done ?_
  refine At.nrm ?_
  refine At.blkRow (b := b23) (m := 1) (cap := 1) (s := 1) (e := 2) (xs := [iv x.1.g]) (rest := []) zP.zI rfl rfl (Nat.le_refl _) (by unfold maxLen; decide) ?_
  refine At.zi (.q 0 .done) ?_
  refine AtT.zg ?_
  refine AtT.done ?_
  refine At.nrm ?_
  refine At.lp (ι := Nat × Option Addr × Nat) (KS := fun j => [(1, .pointer (some ⟨b1, 0, none⟩)), (3, sT (rsP b i)), (4, iv i), (5, .slice j.2.1 (rcP x.1 j.1).length j.2.2), (6, iv j.1)])
   (OS := fun j => [.row (.slice j.2.1 (rcP x.1 j.1).length j.2.2) 2 1 (rcP x.1 j.1).length (flat ei (rcP x.1 j.1)), .blk b1 (LC [.slice aq qs.length cq, .slice a b.es.length c] 26)])
   (VS := fun j V'' => Le V' V'' ∧ j.1 ≤ x.1.ps.length) (μ := fun j => x.1.ps.length - j.1) (0, some ⟨b23, 0, none⟩, 1) ?_ ?_ ?_ ?_
  ·exact ⟨rfl, rfl, rfl, rfl, rfl, trivial⟩
  ·exact Pt.zI
  ·exact ⟨Le.refl _, Nat.zero_le _⟩
  rintro ⟨j, aj, cj⟩ V2 ks' O' ⟨hV2, hjl⟩ hk hO hl2
  dsimp only at hjl hk hO
  subst hk hO
  have hsx2 := hsx.le hV2
  have hsq2 := hsq1.le hV2
  have hrl := rcP_len hjl
  refine At.nrm ?_
  refine At.zi (.q 0 (.q 1 (.q 2 (.q 3 (.q 4 (.q 5 (.q 6 (.q 7 (.q 8 .done))))))))) ?_
  refine AtT.zf ?_
  first | refine AtT.zk zC ?_ | with_reducible refine AtT.zl zC ?_ | refine AtT.zn zC ?_
  first | refine AtT.zm qz ?_ | refine AtT.zo qz ?_
  refine AtT.zf ?_
  refine AtT.qm Tryz.underlying22 qO ?_
  intro p28 e28 he28 hc28
  obtain rfl : x = e28 := by have : qs[i]? = some e28 := (by rw [Int.toNat_natCast] at he28; exact he28); rw [hqx] at this; exact Option.some.inj this
  first | refine AtT.zk zK ?_ | with_reducible refine AtT.zl zK ?_ | refine AtT.zn zK ?_
  first | refine AtT.zm qM ?_ | refine AtT.zo qM ?_
  first | refine AtT.zR Tryz.underlying66 ?_ | refine AtT.zQ Tryz.underlying66 ?_
  refine AtT.qp ?_
  refine AtT.done ?_
  refine At.nrm ?_
  refine At.qb rfl (fun hp2 => ?_) (fun hp2 => ?_)
  ·obtain ⟨y, hyj⟩ : ∃ y, x.1.ps[j]? = some y := ⟨_, List.getElem?_eq_getElem (by omega)⟩
   have hst1 := rcP_step hyj
   refine At.nrm ?_
   refine At.draw (.q 0 (.q 1 (.q 2 (.q 3 (.q 4 (.q 5 (.q 6 (.q 7 (.q 8 (.q 9 (.q 10 (.q 11 (.q 12 (.q 13 (.q 14 (.q 15 (.q 16 (.q 17 (.q 18 (.q 19 (.q 20 (.n false 21 (.n true 22 (.q 23 .done)))))))))))))))))))))))) ffm (by kernel_rfl) ?_
   refine AtT.zf ?_
   first | refine AtT.zk zC ?_ | with_reducible refine AtT.zl zC ?_ | refine AtT.zn zC ?_
   first | refine AtT.zm qz ?_ | refine AtT.zo qz ?_
   refine AtT.zf ?_
   refine AtT.qm Tryz.underlying22 qO ?_
   intro p39 e39 he39 hc39
   obtain rfl : x = e39 := by have : qs[i]? = some e39 := (by rw [Int.toNat_natCast] at he39; exact he39); rw [hqx] at this; exact Option.some.inj this
   first | refine AtT.zk zK ?_ | with_reducible refine AtT.zl zK ?_ | refine AtT.zn zK ?_
   first | refine AtT.zm qM ?_ | refine AtT.zo qM ?_
   refine AtT.zf ?_
   refine AtT.qm Tryz.underlying66 qZ ?_
   intro p43 e43 he43 hc43
   obtain rfl : y = e43 := by have : x.1.ps[j]? = some e43 := (by rw [Int.toNat_natCast] at he43; exact he43); rw [hyj] at this; exact Option.some.inj this
   first | refine AtT.zk zZ ?_ | with_reducible refine AtT.zl zZ ?_ | refine AtT.zn zZ ?_
   first | refine AtT.zm tk3 ?_ | refine AtT.zo tk3 ?_
   first | refine AtT.zk zC ?_ | with_reducible refine AtT.zl zC ?_ | refine AtT.zn zC ?_
   first | refine AtT.zm qz ?_ | refine AtT.zo qz ?_
   refine AtT.zf ?_
   refine AtT.qm Tryz.underlying22 qO ?_
   intro p49 e49 he49 hc49
   obtain rfl : x = e49 := by have : qs[i]? = some e49 := (by rw [Int.toNat_natCast] at he49; exact he49); rw [hqx] at this; exact Option.some.inj this
   first | refine AtT.zk zK ?_ | with_reducible refine AtT.zl zK ?_ | refine AtT.zn zK ?_
   first | refine AtT.zm qM ?_ | refine AtT.zo qM ?_
   refine AtT.zf ?_
   refine AtT.qm Tryz.underlying66 qZ ?_
   intro p53 e53 he53 hc53
   obtain rfl : y = e53 := by have : x.1.ps[j]? = some e53 := (by rw [Int.toNat_natCast] at he53; exact he53); rw [hyj] at this; exact Option.some.inj this
   first | refine AtT.zk qi ?_ | with_reducible refine AtT.zl qi ?_ | refine AtT.zn qi ?_
   first | refine AtT.zm tk2 ?_ | refine AtT.zo tk2 ?_
   refine AtT.zN (bs28_2_0_1 _ _) ?_
   intro q56 V56 hV56 hq56
   have g56 : Le V V56 := by first | exact hV56 | exact Le.trans (by assumption) hV56
   first | refine AtT.qX Tryz.underlying28 rw2 ?_
   intro a57 c57
   refine AtT.zg ?_
   refine AtT.done ?_
   refine At.nrm ?_
   refine At.nrm ?_
   refine At.zi (.q 0 (.q 1 (.q 2 .done))) ?_
   refine AtT.zf ?_
   first | refine AtT.qG ?_ | refine AtT.qd ?_
   refine AtT.zg ?_
   refine AtT.done ?_
   refine At.nrm ?_
   refine At.round (j + 1, a57, c57) ?_ ?_ ?_ ?_
   ·show x.1.ps.length - (j + 1) < x.1.ps.length - j; omega
   ·exact ⟨hV2.trans hV56, by dsimp only; omega⟩
   ·refine ⟨rfl, rfl, rfl, ?_, ivs (by dsimp only; omega), trivial⟩
    dsimp only; rw [hst1, List.length_append]; rfl
   ·dsimp only
    rw [hst1, show (rcP x.1 j ++ [y.t, y.n]).length = (rcP x.1 j).length + 2 from by rw [List.length_append]; rfl, show flat ei (rcP x.1 j ++ [y.t, y.n]) = flat ei (rcP x.1 j) ++ [iv y.t, iv y.n] from by unfold flat; rw [List.flatMap_append]; rfl]
    exact Pt.zI
  obtain rfl : j = x.1.ps.length := by omega
  rw [rcP_all] at hrl ⊢
  refine At.jF (l := rcN x.1) Lw.jU rfl rfl zP.zI (fun V3 hV3 hs3 => ?_)
  have hbl := hb80 i
  have hrc50 := hR.rcT_len hxm
  have hst2 := rsP_step hrx
  have hcat : (lnT [114] (rcN x.1) ++ [10]).length = (rcT x.1).length + 1 := by rw [List.length_append]; rfl
  have hg3 := (hg1.le hV2).le hV3
  refine At.nrm ?_
  refine At.zi (.q 0 (.q 1 (.n false 2 (.q 3 (.q 4 .done))))) ?_
  refine AtT.zf ?_
  refine AtT.zf ?_
  refine AtT.zG rfl rfl ok84 (rline_f [114] (by decide) (rcN x.1) (by omega) hrcn _ hg3 _ hs3) ?_
  rintro _ rfl
  refine AtT.catT rfl trivial rfl rfl (by rw [hcat]; omega) (by decide) ?_
  refine AtT.zg ?_
  refine AtT.done ?_
  refine At.nrm ?_
  refine At.zi (.q 0 (.q 1 (.q 2 .done))) ?_
  refine AtT.zf ?_
  first | refine AtT.qG ?_ | refine AtT.qd ?_
  refine AtT.zg ?_
  refine AtT.done ?_
  refine At.nrm ?_
  refine At.round (i + 1) ?_ ?_ ?_ ?_
  ·show qs.length - (i + 1) < qs.length - i; omega
  ·exact ⟨(hVV.trans hV2).trans hV3, by omega⟩
  ·refine ⟨rfl, ?_, ivs (by omega), trivial⟩
   rw [hst2]; rfl
  ·exact Pt.zI
 obtain rfl : i = qs.length := by omega
 rw [show rsP b qs.length = esP b 0 from by rw [hql, rsP_all]]
 refine At.nrm ?_
 refine At.zi (.q 0 .done) ?_
 refine AtT.zg ?_
 refine AtT.done ?_
 refine At.nrm ?_
 refine At.lp (ι := Nat) (KS := fun k => [(1, .pointer (some ⟨b1, 0, none⟩)), (3, sT (esP b k)), (7, iv k)])
  (OS := fun _ => [.blk b1 (LC [.slice aq qs.length cq, .slice a b.es.length c] 26)])
  (VS := fun k V' => Le V V' ∧ k ≤ b.es.length) (μ := fun k => b.es.length - k) 0 ?_ ?_ ?_ ?_
 ·exact ⟨rfl, rfl, rfl, trivial⟩
 ·exact Pt.zI
 ·exact ⟨hVV, Nat.zero_le _⟩
 clear hVV hsq1 hq1 hg1 hl
 rintro k V' ks' O' ⟨hVV, hkl⟩ hk hO hl
 subst hk hO
 have hes1 := hes.le hVV
 have hg1 := hg.le hVV
 refine At.nrm ?_
 refine At.zi (.q 0 (.q 1 (.q 2 (.q 3 (.q 4 .done))))) ?_
 refine AtT.zf ?_
 first | refine AtT.zk zz ?_ | with_reducible refine AtT.zl zz ?_ | refine AtT.zn zz ?_
 first | refine AtT.zm qo ?_ | refine AtT.zo qo ?_
 first | refine AtT.zR Tryz.underlying24 ?_ | refine AtT.zQ Tryz.underlying24 ?_
 refine AtT.qp ?_
 refine AtT.done ?_
 refine At.nrm ?_
 refine At.qb rfl (fun hp1 => ?_) (fun hp1 => ?_)
 ·obtain ⟨e, hek⟩ : ∃ e, b.es[k]? = some e := ⟨_, List.getElem?_eq_getElem (by omega)⟩
  have hem := List.mem_of_getElem? hek
  have hen := (hnm.es _ hem).k
  have henn := enN_in (hnm.es _ hem)
  have henl := enN_len e
  have hbl := hb81 k
  have heT := hR.enT_len hem
  have hst2 := esP_step hek
  have hcat : (lnT (wd e.k) (enN e) ++ [10]).length = (enT e).length + 1 := by rw [List.length_append]; rfl
  have hwl := wd_len e.k
  refine At.nrm ?_
  refine At.zi (.q 0 (.q 1 (.q 2 (.q 3 (.q 4 (.n false 5 (.n true 6 .done))))))) ?_
  first | refine AtT.zk zz ?_ | with_reducible refine AtT.zl zz ?_ | refine AtT.zn zz ?_
  first | refine AtT.zm qo ?_ | refine AtT.zo qo ?_
  refine AtT.zf ?_
  refine AtT.qm Tryz.underlying24 qH ?_
  intro p72 e72 he72 hc72
  first | refine AtT.zF qH ?_ | refine AtT.zJ qH ?_ | refine AtT.zD qH ?_
  obtain rfl : e = e72 := by have : b.es[k]? = some e72 := (by rw [Int.toNat_natCast] at he72; exact he72); rw [hek] at this; exact Option.some.inj this
  refine AtT.zT z36 ?_
  intro b8
  refine AtT.zy qH ?_
  refine AtT.done ?_
  refine At.nrm ?_
  refine At.zi (.q 0 (.q 1 (.q 2 (.q 3 (.n false 4 (.q 5 .done)))))) ?_
  first | refine AtT.zk qc ?_ | with_reducible refine AtT.zl qc ?_ | refine AtT.zn qc ?_
  first | refine AtT.zm tk3 ?_ | refine AtT.zo tk3 ?_
  first | refine AtT.zk zL ?_ | with_reducible refine AtT.zl zL ?_ | refine AtT.zn zL ?_
  first | refine AtT.zm tk3 ?_ | refine AtT.zo tk3 ?_
  refine AtT.kbslice (bs28_2_0_1 _ _) ?_
  intro b78
  refine AtT.zg ?_
  refine AtT.done ?_
  refine At.nrm ?_
  refine At.blkRow (b := b78) (m := 2) (cap := 2) (s := 1) (e := 2) (xs := [iv e.d, iv e.t]) (rest := []) zP.zI rfl rfl (Nat.le_refl _) (by unfold maxLen; decide) ?_
  refine At.zi (.q 0 (.q 1 (.q 2 .done))) ?_
  first | refine AtT.zk zA ?_ | with_reducible refine AtT.zl zA ?_ | refine AtT.zn zA ?_
  first | refine AtT.zm tk3 ?_ | refine AtT.zo tk3 ?_
  refine AtT.qE ?_
  refine AtT.done ?_
  refine At.nrm ?_
  refine At.qb rfl (fun k4 => ?_) (fun k4 => ?_)
  ·have hE3 : enN e = [e.d, e.t, e.n] := by unfold enN; rw [if_neg k4]
   refine At.nrm ?_
   refine At.zi (.q 0 (.q 1 (.q 2 (.n false 3 (.n true 4 (.q 5 .done)))))) ?_
   refine AtT.zf ?_
   first | refine AtT.zk zO ?_ | with_reducible refine AtT.zl zO ?_ | refine AtT.zn zO ?_
   first | refine AtT.zm tk2 ?_ | refine AtT.zo tk2 ?_
   refine AtT.zN (bs28_1_0 _) ?_
   intro q85 V85 hV85 hq85
   have g85 : Le V V85 := by first | exact hV85 | exact Le.trans (by assumption) hV85
   first | refine AtT.qX Tryz.underlying28 rw2 ?_
   intro a86 c86
   refine AtT.zg ?_
   refine AtT.done ?_
   refine At.nrm ?_
   refine At.jF (l := [e.d, e.t, e.n]) Lw.jU rfl rfl zP.zI (fun V3 hV3 hs3 => ?_)
   rw [← hE3] at hs3
   have hg3 := (hg1.le hV85).le hV3
   refine At.zi (.q 0 (.q 1 (.q 2 (.n false 3 (.q 4 (.n false 5 (.q 6 (.q 7 .done)))))))) ?_
   refine AtT.zf ?_
   first | refine AtT.zk zA ?_ | with_reducible refine AtT.zl zA ?_ | refine AtT.zn zA ?_
   first | refine AtT.zm tk3 ?_ | refine AtT.zo tk3 ?_
   refine AtT.zG rfl rfl ok85 (word_f e.k _) ?_
   rintro _ rfl
   refine AtT.zf ?_
   refine AtT.zG rfl rfl ok84 (rline_f (wd e.k) (by omega) (enN e) (by omega) henn _ hg3 _ hs3) ?_
   rintro _ rfl
   refine AtT.catT rfl trivial rfl rfl (by rw [hcat]; omega) (by decide) ?_
   refine AtT.zg ?_
   refine AtT.done ?_
   refine At.nrm ?_
   refine At.zi (.q 0 (.q 1 (.q 2 .done))) ?_
   refine AtT.zf ?_
   first | refine AtT.qG ?_ | refine AtT.qd ?_
   refine AtT.zg ?_
   refine AtT.done ?_
   refine At.nrm ?_
   refine At.round (k + 1) ?_ ?_ ?_ ?_
   ·show b.es.length - (k + 1) < b.es.length - k; omega
   ·exact ⟨(hVV.trans hV85).trans hV3, by omega⟩
   ·refine ⟨rfl, ?_, ivs (by omega), trivial⟩
    rw [hst2]; rfl
   ·exact Pt.zI
  ·have hE2 : enN e = [e.d, e.t] := by unfold enN; rw [if_pos (Classical.not_not.1 k4)]
   refine At.nrm ?_
   refine At.jF (l := [e.d, e.t]) Lw.jU rfl rfl zP.zI (fun V3 hV3 hs3 => ?_)
   rw [← hE2] at hs3
   have hg3 := hg1.le hV3
   refine At.zi (.q 0 (.q 1 (.q 2 (.n false 3 (.q 4 (.n false 5 (.q 6 (.q 7 .done)))))))) ?_
   refine AtT.zf ?_
   first | refine AtT.zk zA ?_ | with_reducible refine AtT.zl zA ?_ | refine AtT.zn zA ?_
   first | refine AtT.zm tk3 ?_ | refine AtT.zo tk3 ?_
   refine AtT.zG rfl rfl ok85 (word_f e.k _) ?_
   rintro _ rfl
   refine AtT.zf ?_
   refine AtT.zG rfl rfl ok84 (rline_f (wd e.k) (by omega) (enN e) (by omega) henn _ hg3 _ hs3) ?_
   rintro _ rfl
   refine AtT.catT rfl trivial rfl rfl (by rw [hcat]; omega) (by decide) ?_
   refine AtT.zg ?_
   refine AtT.done ?_
   refine At.nrm ?_
   refine At.zi (.q 0 (.q 1 (.q 2 .done))) ?_
   refine AtT.zf ?_
   first | refine AtT.qG ?_ | refine AtT.qd ?_
   refine AtT.zg ?_
   refine AtT.done ?_
   refine At.nrm ?_
   refine At.round (k + 1) ?_ ?_ ?_ ?_
   ·show b.es.length - (k + 1) < b.es.length - k; omega
   ·exact ⟨hVV.trans hV3, by omega⟩
   ·refine ⟨rfl, ?_, ivs (by omega), trivial⟩
    rw [hst2]; rfl
   ·exact Pt.zI
 obtain rfl : k = b.es.length := by omega
 rw [esP_all]
 have hbl := hR.body_len
 refine At.nrm ?_
 refine At.zi (.q 0 (.q 1 (.q 2 (.n false 3 (.q 4 (.q 5 (.q 6 .done))))))) ?_
 refine AtT.zf ?_
 refine AtT.catT rfl trivial rfl rfl (by show _ + ((6 : Nat) : Int) ≤ _; omega) (by decide) ?_
 refine AtT.zf ?_
 refine AtT.zG rfl rfl ok73 (rcheckOf_f (kw b) (by omega) _) ?_
 rintro _ rfl
 refine AtT.catT rfl trivial rfl rfl (by rw [chk_len, List.length_append]; show (((kw b).length + 6 : Nat) : Int) + ((8 : Nat) : Int) ≤ _; omega) (by decide) ?_
 refine AtT.catT rfl trivial rfl rfl (by rw [List.length_append, List.length_append, chk_len]; show (((kw b).length + 6 + 8 : Nat) : Int) + ((1 : Nat) : Int) ≤ _; omega) (by decide) ?_
 refine AtT.zg ?_
 refine AtT.done ?_
 refine At.nrm ?_
 exact At.qh rfl (.tmp rfl) (by unfold fileT tailT; rw [List.append_assoc, List.append_assoc]; simp)
theorem rfile_f (b : Bo) (V : View) (hg : GvV V) (v : Value) (hv : BoV V v b) : Fnc Tryz.prog 38 [v] V fun r _ => r = .tuple #[sT (if bkE b = 0 then fileT b else []), iv (bkE b)] := by
 obtain ⟨v1, a, c, rfl, hr, hes⟩ := id hv
 refine ql Tryz.func38 rfl Tryz.ntmps38 (Nat.le_of_ble_eq_true rfl) ?_
 intro w0 hw0
 refine At.nrm ?_
 refine At.zi (.n false 0 (.q 1 (.q 2 .done))) ?_
 refine AtT.jE ?_
 intro b1
 refine AtT.zg ?_
 refine AtT.zg ?_
 refine AtT.done ?_
 refine At.nrm ?_
 by_cases h0 : bkE b = 0
 ·refine At.zi (.q 0 (.n false 1 (.q 2 .done))) ?_
  first | refine AtT.zF zH ?_ | refine AtT.zJ zH ?_ | refine AtT.zD zH ?_
  refine AtT.zG rfl rfl ok28 (jD b _ _ hv) ?_
  rintro _ rfl
  refine AtT.qE ?_
  refine AtT.done ?_
  refine At.nrm ?_
  refine At.zX rfl (decide_eq_false (fun h => h h0)) ?_
  refine At.nrm ?_
  refine At.zi (.q 0 (.n false 1 (.q 2 (.q 3 .done)))) ?_
  first | refine AtT.zF zH ?_ | refine AtT.zJ zH ?_ | refine AtT.zD zH ?_
  refine AtT.zG rfl rfl ok50 (rfileOf_f b (kF.1 h0) _ hg _ hv) ?_
  rintro _ rfl
  refine AtT.zg ?_
  refine AtT.zg ?_
  refine AtT.done ?_
  refine At.nrm ?_
  exact At.qN rfl (.tmp rfl) (.tmp rfl) (by rw [if_pos h0, h0])
 ·refine At.zi (.q 0 (.n false 1 (.q 2 .done))) ?_
  first | refine AtT.zF zH ?_ | refine AtT.zJ zH ?_ | refine AtT.zD zH ?_
  refine AtT.zG rfl rfl ok28 (jD b _ _ hv) ?_
  rintro _ rfl
  refine AtT.qE ?_
  refine AtT.done ?_
  refine At.nrm ?_
  refine At.zU rfl (decide_eq_true h0) ?_
  refine At.nrm ?_
  refine At.zi (.q 0 (.n false 1 (.q 2 (.q 3 .done)))) ?_
  first | refine AtT.zF zH ?_ | refine AtT.zJ zH ?_ | refine AtT.zD zH ?_
  refine AtT.zG rfl rfl ok28 (jD b _ _ hv) ?_
  rintro _ rfl
  refine AtT.zg ?_
  refine AtT.zg ?_
  refine AtT.done ?_
  refine At.nrm ?_
  exact At.qN rfl (.tmp rfl) (.tmp rfl) (by rw [if_neg h0])
end Go.Proofs.YtpoignmclfdgpaaGreatDoor
set_option linter.unusedVariables false
namespace Go.Lw
open Go.Instr Go.RowKit
section
variable {cx : Cx} {n : Nat} {ks : List (Nat × Value)} {O R : List Own} {V : View} {P : Program} {ops : Array Oper} {Qn : Act → World → Prop} {t : Tr} {i d : Nat} {x y : Operand} {T : TypeId} {pos : String} {after : Array Edge} {gd : Option (Nat × Bool)} {X Y : TypeId} {v : Value}
theorem AtT.neIf {u : TypeId} {z : Value} (ho : ops[i]? = some ⟨some d, .binOp .neq X x y Y, T, pos, after, gd⟩) (hg : Gd ks ops gd) (hX : P.underlying X = some (.interface (P.methodsAt X))) (hx : ev ks x = some (.iface u z)) (hy : ev ks y = some .nilIface) (hn : d < n)
  (next : AtT cx n ((d, .bool true) :: ks) O V P ops Qn t) : AtT cx n ks O V P ops Qn (.q i t) :=
 .q ho hg rfl hn (fun a w hk hm => by
  have e : eqGuard .neq X x y (.iface u z) .nilIface = (pure () : Sem Unit) := by cases x <;> cases y <;> rfl
  simp only [execOp, hk.ev hx, hk.ev hy, e, Sem.run_bind, Sem.run_pure, Result.andThen_ok, run_neq_held_nil w X u z hX]) next
theorem AtT.neNN (ho : ops[i]? = some ⟨some d, .binOp .neq X x (.const .nilIface) Y, T, pos, after, gd⟩) (hg : Gd ks ops gd) (hX : P.underlying X = some (.interface (P.methodsAt X))) (hx : ev ks x = some .nilIface) (hn : d < n)
  (next : AtT cx n ((d, .bool false) :: ks) O V P ops Qn t) : AtT cx n ks O V P ops Qn (.q i t) :=
 .q ho hg rfl hn (fun a w hk hm => by
  have e : eqGuard .neq X x (.const .nilIface) .nilIface .nilIface = (pure () : Sem Unit) := by cases x <;> rfl
  have e2 : a.eval (.const .nilIface) = .nilIface := hk.ev (ks := ks) rfl
  simp only [execOp, hk.ev hx, e2, e, Sem.run_bind, Sem.run_pure, Result.andThen_ok, run_neq_nil_nil w X hX]) next
theorem AtT.slV3 {u l h m : Value} {lo' hi' mx' : Operand} (ho : ops[i]? = some ⟨some d, .slice X x (some lo') (some hi') (some mx'), T, pos, after, gd⟩) (hg : Gd ks ops gd) (hx : ev ks x = some v) (hl : ev ks lo' = some l) (hh : ev ks hi' = some h) (hm' : ev ks mx' = some m) (hr : ∀ w, (Instr.sliceAt X v (some l) (some h) (some m)).run P w = .ok u w) (hn : d < n)
  (next : AtT cx n ((d, u) :: ks) O V P ops Qn t) : AtT cx n ks O V P ops Qn (.q i t) :=
 .q ho hg rfl hn (fun a w hk hm => by simp only [execOp, hk.ev hx, hk.ev hl, hk.ev hh, hk.ev hm', Option.map_some, Sem.run_bind, hr, Result.andThen_ok, Sem.run_pure]) next
theorem slice_part {w : World} {E : TypeId} {s : Nat} {ag : Bool} {p : Addr} {m c : Nat} {k1 k2 k3 : IntKind} {lo hi : Int} (hX : P.underlying X = some (.slice E)) (hE : tkB P E = some (ag, s)) (h0 : 0 ≤ lo) (h1 : lo < hi) (h2 : hi ≤ c) :
  (Instr.sliceAt X (.slice (some p) m c) (some (.int k1 lo)) (some (.int k2 hi)) (some (.int k3 hi))).run P w = .ok (.slice (some (p.add (lo.toNat * s))) (hi - lo).toNat (hi - lo).toNat) w := by
 have hX' : P.underlying X = some (.slice (P.elem X)) := by simp [Program.elem, hX]
 have hEl : P.elem X = E := by simp [Program.elem, hX]
 rw [run_sliceAt_slice w X _ _ _ _ hX', run_slice_lhm w X (some p) m c hX' k1 k2 k3 lo hi hi h0 (by omega) (Int.le_refl _) (by omega), hEl, run_sizeOf hE]
 have e1 : hi.toNat - lo.toNat = (hi - lo).toNat := by omega
 have e2 : ¬ (hi.toNat = lo.toNat) := by omega
 simp only [Result.andThen_ok, sliced, e1, if_neg e2, Option.map_some]
end
end Go.Lw
set_option linter.unusedVariables false
namespace Go.Proofs.YtpoignmclfdgpaaGreatDoor
open Go.Lw Go.Gl Go.Bk Go.RowKit
theorem fmtU_f (u : Nat) (hu : u < 4294967296) (V : View) (hg : GvV V) : Fnc Tryz.prog 150 [uv u, iv 10] V fun r _ => r = sT (Lib.decDigits u) :=
 fnc_of fun w hw => (fmtU_go u hu w (pow_tab hg hw)).mono fun e w' ⟨h1, k, os, h2⟩ => ⟨h1, h2 ▸ Lib.below_grow _ _ (Nat.le_refl _) k os⟩
theorem fmtUp_f (u : Nat) (hu : u < 4294967296) (V : View) (hg : GvV V) : Fnc Tryz.prog 131 [uv u, iv 10] V fun r _ => r = sT (Lib.decDigits u) := by
 refine ql Tryz.func131 rfl Tryz.ntmps131 (Nat.le_of_ble_eq_true rfl) ?_
 intro w0 hw0
 refine At.nrm ?_
 refine At.zi (.q 0 .done) ?_
 refine AtT.zg ?_
 refine AtT.done ?_
 refine At.nrm ?_
 refine At.zi (.q 0 (.q 1 (.n false 2 (.q 3 .done)))) ?_
 refine AtT.zf ?_
 refine AtT.zf ?_
 refine AtT.zG rfl rfl ok150 (fmtU_f u hu V hg) ?_
 rintro _ rfl
 refine AtT.zg ?_
 refine AtT.done ?_
 refine At.nrm ?_
 exact At.qh rfl (.tmp rfl) rfl
theorem if116 : Tryz.prog.underlying 116 = some (.interface (Tryz.prog.methodsAt 116)) := by kernel_rfl
def numV (s : List UInt8) : Value := .tuple #[iv ((numR s).getD 0 : Nat), .bool (numR s).isSome]
theorem jv {s : List UInt8} (h : numR s = none) : numV s = .tuple #[iv 0, .bool false] := by unfold numV; rw [h]; rfl
theorem numV_some {s : List UInt8} {v : Nat} (h : numR s = some v) : numV s = .tuple #[iv v, .bool true] := by unfold numV; rw [h]; rfl
theorem number_f (s : List UInt8) (hs : s.length ≤ 1000000) (V : View) (hg : GvV V) : Fnc Tryz.prog 113 [sT s] V fun r _ => r = numV s := by
 rcases hp0 : Lib.parseUintB 32 s with u0 | _ | _
 rotate_left
 ·have hn : numR s = none := by rw [← numP_eq]; unfold numP; rw [hp0]
  rw [jv hn]
  refine ql Tryz.func113 rfl Tryz.ntmps113 (Nat.le_of_ble_eq_true rfl) ?_
  intro w0 hw0
  refine At.nrm ?_
  refine At.zi (.q 0 (.q 1 .done)) ?_
  refine AtT.zg ?_
  refine AtT.zg ?_
  refine AtT.done ?_
  refine At.nrm ?_
  refine At.zi (.q 0 (.n false 1 (.q 2 (.q 3 (.q 4 (.q 5 (.q 6 .done))))))) ?_
  refine AtT.zf ?_
  refine AtT.zG rfl rfl ok130 (parse32_f s (by omega) V hg) ?_
  rintro _ ⟨u, x, rfl, hu, hx⟩
  refine AtT.zf ?_
  refine AtT.zt ?_
  refine AtT.zt ?_
  refine AtT.zg ?_
  refine AtT.zg ?_
  refine AtT.done ?_
  refine At.nrm ?_
  rcases hx with ⟨hx1, rfl⟩ | ⟨hx1, t0, p0, rfl⟩
  ·rw [hp0] at hx1; cases hx1
  refine At.zi (.q 0 (.q 1 (.q 2 (.q 3 (.q 4 (.q 5 (.q 6 (.q 7 (.q 8 (.n false 9 (.q 10 (.q 11 (.q 12 .done))))))))))))) ?_
  refine AtT.zf ?_
  refine AtT.neIf rfl trivial if116 rfl rfl (by decide) ?_
  refine AtT.qJ (d := 12) rfl (rfl) ?_
  refine AtT.zf ?_
  all_goals (first | refine AtT.kL 13 ?_ | refine AtT.zw (d := 13) rfl (fun hg13 => ?_) (fun hg13 => ?_) | refine AtT.zu (d := 13) rfl (fun hg13 => ?_) (fun hg13 => ?_))
  all_goals first|refine AtT.zh ?_|refine AtT.ze ?_|(refine AtT.zf ?_)
  all_goals first|refine AtT.zh ?_|refine AtT.ze ?_|(refine AtT.qR rfl ⟨_, _, rfl, rfl, rfl⟩ Tryz.underlying9 rfl (by decide) ?_)
  all_goals first|refine AtT.zh ?_|refine AtT.ze ?_|(refine AtT.qI ?_)
  all_goals (refine AtT.zx ?_)
  all_goals (refine AtT.zf ?_)
  all_goals (first | refine AtT.kL 18 ?_ | refine AtT.zw (d := 18) rfl (fun hg18 => ?_) (fun hg18 => ?_) | refine AtT.zu (d := 18) rfl (fun hg18 => ?_) (fun hg18 => ?_))
  all_goals first|refine AtT.zh ?_|refine AtT.ze ?_|(refine AtT.zf ?_)
  all_goals first|refine AtT.qf ?_|refine AtT.zW ?_|((fail))
  all_goals first|refine AtT.zh ?_|refine AtT.ze ?_|(refine AtT.zf ?_)
  all_goals first|refine AtT.zh ?_|refine AtT.ze ?_|(refine AtT.neT rfl ⟨_, _, rfl, rfl, rfl⟩ rfl rfl (by decide) ?_)
  all_goals (refine AtT.zx ?_)
  all_goals refine AtT.done ?_
  all_goals (refine At.nrm ?_)
  all_goals refine At.zU rfl rfl ?_
  refine At.nrm ?_
  refine At.zi (.q 0 (.q 1 .done)) ?_
  refine AtT.zg ?_
  refine AtT.zg ?_
  refine AtT.done ?_
  refine At.nrm ?_
  exact At.qN rfl (.tmp rfl) (.tmp rfl) rfl
 ·have hn : numR s = none := by rw [← numP_eq]; unfold numP; rw [hp0]
  rw [jv hn]
  refine ql Tryz.func113 rfl Tryz.ntmps113 (Nat.le_of_ble_eq_true rfl) ?_
  intro w0 hw0
  refine At.nrm ?_
  refine At.zi (.q 0 (.q 1 .done)) ?_
  refine AtT.zg ?_
  refine AtT.zg ?_
  refine AtT.done ?_
  refine At.nrm ?_
  refine At.zi (.q 0 (.n false 1 (.q 2 (.q 3 (.q 4 (.q 5 (.q 6 .done))))))) ?_
  refine AtT.zf ?_
  refine AtT.zG rfl rfl ok130 (parse32_f s (by omega) V hg) ?_
  rintro _ ⟨u, x, rfl, hu, hx⟩
  refine AtT.zf ?_
  refine AtT.zt ?_
  refine AtT.zt ?_
  refine AtT.zg ?_
  refine AtT.zg ?_
  refine AtT.done ?_
  refine At.nrm ?_
  rcases hx with ⟨hx1, rfl⟩ | ⟨hx1, t0, p0, rfl⟩
  ·rw [hp0] at hx1; cases hx1
  refine At.zi (.q 0 (.q 1 (.q 2 (.q 3 (.q 4 (.q 5 (.q 6 (.q 7 (.q 8 (.n false 9 (.q 10 (.q 11 (.q 12 .done))))))))))))) ?_
  refine AtT.zf ?_
  refine AtT.neIf rfl trivial if116 rfl rfl (by decide) ?_
  refine AtT.qJ (d := 12) rfl (rfl) ?_
  refine AtT.zf ?_
  all_goals (first | refine AtT.kL 13 ?_ | refine AtT.zw (d := 13) rfl (fun hg13 => ?_) (fun hg13 => ?_) | refine AtT.zu (d := 13) rfl (fun hg13 => ?_) (fun hg13 => ?_))
  all_goals first|refine AtT.zh ?_|refine AtT.ze ?_|(refine AtT.zf ?_)
  all_goals first|refine AtT.zh ?_|refine AtT.ze ?_|(refine AtT.qR rfl ⟨_, _, rfl, rfl, rfl⟩ Tryz.underlying9 rfl (by decide) ?_)
  all_goals first|refine AtT.zh ?_|refine AtT.ze ?_|(refine AtT.qI ?_)
  all_goals (refine AtT.zx ?_)
  all_goals (refine AtT.zf ?_)
  all_goals (first | refine AtT.kL 18 ?_ | refine AtT.zw (d := 18) rfl (fun hg18 => ?_) (fun hg18 => ?_) | refine AtT.zu (d := 18) rfl (fun hg18 => ?_) (fun hg18 => ?_))
  all_goals first|refine AtT.zh ?_|refine AtT.ze ?_|(refine AtT.zf ?_)
  all_goals first|refine AtT.qf ?_|refine AtT.zW ?_|((fail))
  all_goals first|refine AtT.zh ?_|refine AtT.ze ?_|(refine AtT.zf ?_)
  all_goals first|refine AtT.zh ?_|refine AtT.ze ?_|(refine AtT.neT rfl ⟨_, _, rfl, rfl, rfl⟩ rfl rfl (by decide) ?_)
  all_goals (refine AtT.zx ?_)
  all_goals refine AtT.done ?_
  all_goals (refine At.nrm ?_)
  all_goals refine At.zU rfl rfl ?_
  refine At.nrm ?_
  refine At.zi (.q 0 (.q 1 .done)) ?_
  refine AtT.zg ?_
  refine AtT.zg ?_
  refine AtT.done ?_
  refine At.nrm ?_
  exact At.qN rfl (.tmp rfl) (.tmp rfl) rfl
 by_cases h6 : 6 < s.length
 ·have hn : numR s = none := by rw [← numP_eq]; unfold numP; rw [hp0]; simp only; rw [if_pos (.inl h6)]
  rw [jv hn]
  refine ql Tryz.func113 rfl Tryz.ntmps113 (Nat.le_of_ble_eq_true rfl) ?_
  intro w0 hw0
  refine At.nrm ?_
  refine At.zi (.q 0 (.q 1 .done)) ?_
  refine AtT.zg ?_
  refine AtT.zg ?_
  refine AtT.done ?_
  refine At.nrm ?_
  refine At.zi (.q 0 (.n false 1 (.q 2 (.q 3 (.q 4 (.q 5 (.q 6 .done))))))) ?_
  refine AtT.zf ?_
  refine AtT.zG rfl rfl ok130 (parse32_f s (by omega) V hg) ?_
  rintro _ ⟨u, x, rfl, hu, hx⟩
  refine AtT.zf ?_
  refine AtT.zt ?_
  refine AtT.zt ?_
  refine AtT.zg ?_
  refine AtT.zg ?_
  refine AtT.done ?_
  refine At.nrm ?_
  rcases hx with ⟨hx1, rfl⟩ | ⟨hx1, t0, p0, rfl⟩
  rotate_left
  ·exact absurd hp0 (hx1 u0)
  obtain rfl : u0 = u := by rw [hp0] at hx1; injection hx1
  refine At.zi (.q 0 (.q 1 (.q 2 (.q 3 (.q 4 (.q 5 (.q 6 (.q 7 (.q 8 (.n false 9 (.q 10 (.q 11 (.q 12 .done))))))))))))) ?_
  refine AtT.zf ?_
  refine AtT.neNN rfl trivial if116 rfl (by decide) ?_
  refine AtT.zf ?_
  all_goals (first | refine AtT.kL 13 ?_ | refine AtT.zw (d := 13) rfl (fun hg13 => ?_) (fun hg13 => ?_) | refine AtT.zu (d := 13) rfl (fun hg13 => ?_) (fun hg13 => ?_))
  all_goals first|refine AtT.zh ?_|refine AtT.ze ?_|(refine AtT.zf ?_)
  all_goals first|refine AtT.zh ?_|refine AtT.ze ?_|(refine AtT.qR rfl ⟨_, _, rfl, rfl, rfl⟩ Tryz.underlying9 rfl (by decide) ?_)
  all_goals first|refine AtT.zh ?_|refine AtT.ze ?_|(refine AtT.qI ?_)
  all_goals (refine AtT.qa (d := 16) rfl ((by omega)) ?_)
  all_goals (refine AtT.zx ?_)
  all_goals (refine AtT.zf ?_)
  all_goals (first | refine AtT.kL 18 ?_ | refine AtT.zw (d := 18) rfl (fun hg18 => ?_) (fun hg18 => ?_) | refine AtT.zu (d := 18) rfl (fun hg18 => ?_) (fun hg18 => ?_))
  all_goals first|refine AtT.zh ?_|refine AtT.ze ?_|(refine AtT.zf ?_)
  all_goals first|refine AtT.qf ?_|refine AtT.zW ?_|((fail))
  all_goals first|refine AtT.zh ?_|refine AtT.ze ?_|(refine AtT.zf ?_)
  all_goals first|refine AtT.zh ?_|refine AtT.ze ?_|(refine AtT.neT rfl ⟨_, _, rfl, rfl, rfl⟩ rfl rfl (by decide) ?_)
  all_goals (refine AtT.zx ?_)
  all_goals refine AtT.done ?_
  all_goals (refine At.nrm ?_)
  all_goals refine At.zU rfl rfl ?_
  refine At.nrm ?_
  refine At.zi (.q 0 (.q 1 .done)) ?_
  refine AtT.zg ?_
  refine AtT.zg ?_
  refine AtT.done ?_
  refine At.nrm ?_
  exact At.qN rfl (.tmp rfl) (.tmp rfl) rfl
 by_cases hd : Lib.decDigits u0 = s
 rotate_left
 ·have hn : numR s = none := by rw [← numP_eq]; unfold numP; rw [hp0]; simp only; rw [if_pos (.inr hd)]
  rw [jv hn]
  refine ql Tryz.func113 rfl Tryz.ntmps113 (Nat.le_of_ble_eq_true rfl) ?_
  intro w0 hw0
  refine At.nrm ?_
  refine At.zi (.q 0 (.q 1 .done)) ?_
  refine AtT.zg ?_
  refine AtT.zg ?_
  refine AtT.done ?_
  refine At.nrm ?_
  refine At.zi (.q 0 (.n false 1 (.q 2 (.q 3 (.q 4 (.q 5 (.q 6 .done))))))) ?_
  refine AtT.zf ?_
  refine AtT.zG rfl rfl ok130 (parse32_f s (by omega) V hg) ?_
  rintro _ ⟨u, x, rfl, hu, hx⟩
  refine AtT.zf ?_
  refine AtT.zt ?_
  refine AtT.zt ?_
  refine AtT.zg ?_
  refine AtT.zg ?_
  refine AtT.done ?_
  refine At.nrm ?_
  rcases hx with ⟨hx1, rfl⟩ | ⟨hx1, t0, p0, rfl⟩
  rotate_left
  ·exact absurd hp0 (hx1 u0)
  obtain rfl : u0 = u := by rw [hp0] at hx1; injection hx1
  refine At.zi (.q 0 (.q 1 (.q 2 (.q 3 (.q 4 (.q 5 (.q 6 (.q 7 (.q 8 (.n false 9 (.q 10 (.q 11 (.q 12 .done))))))))))))) ?_
  refine AtT.zf ?_
  refine AtT.neNN rfl trivial if116 rfl (by decide) ?_
  refine AtT.zf ?_
  all_goals (first | refine AtT.kL 13 ?_ | refine AtT.zw (d := 13) rfl (fun hg13 => ?_) (fun hg13 => ?_) | refine AtT.zu (d := 13) rfl (fun hg13 => ?_) (fun hg13 => ?_))
  all_goals first|refine AtT.zh ?_|refine AtT.ze ?_|(refine AtT.zf ?_)
  all_goals first|refine AtT.zh ?_|refine AtT.ze ?_|(refine AtT.qR rfl ⟨_, _, rfl, rfl, rfl⟩ Tryz.underlying9 rfl (by decide) ?_)
  all_goals first|refine AtT.zh ?_|refine AtT.ze ?_|(refine AtT.qI ?_)
  all_goals (refine AtT.zS (d := 16) rfl ((by omega)) ?_)
  all_goals (refine AtT.zx ?_)
  all_goals (refine AtT.zf ?_)
  all_goals (first | refine AtT.kL 18 ?_ | refine AtT.zw (d := 18) rfl (fun hg18 => ?_) (fun hg18 => ?_) | refine AtT.zu (d := 18) rfl (fun hg18 => ?_) (fun hg18 => ?_))
  all_goals first|refine AtT.zh ?_|refine AtT.ze ?_|(refine AtT.zf ?_)
  all_goals first|refine AtT.qf ?_|refine AtT.zW ?_|((refine AtT.zG rfl rfl ok131 (fmtUp_f u0 hu V hg) ?_) ; (rintro _ rfl))
  all_goals first|refine AtT.zh ?_|refine AtT.ze ?_|(refine AtT.zf ?_)
  all_goals first|refine AtT.zh ?_|refine AtT.ze ?_|(refine AtT.neT rfl ⟨_, _, rfl, rfl, rfl⟩ rfl rfl (by decide) ?_)
  all_goals (refine AtT.qa (d := 22) rfl (hd) ?_)
  all_goals (refine AtT.zx ?_)
  all_goals refine AtT.done ?_
  all_goals (refine At.nrm ?_)
  all_goals refine At.zU rfl rfl ?_
  refine At.nrm ?_
  refine At.zi (.q 0 (.q 1 .done)) ?_
  refine AtT.zg ?_
  refine AtT.zg ?_
  refine AtT.done ?_
  refine At.nrm ?_
  exact At.qN rfl (.tmp rfl) (.tmp rfl) rfl
 have hn : numR s = some u0 := by rw [← numP_eq]; unfold numP; rw [hp0]; simp only; rw [if_neg (fun h => h.elim h6 (fun h => h hd))]
 rw [numV_some hn]
 refine ql Tryz.func113 rfl Tryz.ntmps113 (Nat.le_of_ble_eq_true rfl) ?_
 intro w0 hw0
 refine At.nrm ?_
 refine At.zi (.q 0 (.q 1 .done)) ?_
 refine AtT.zg ?_
 refine AtT.zg ?_
 refine AtT.done ?_
 refine At.nrm ?_
 refine At.zi (.q 0 (.n false 1 (.q 2 (.q 3 (.q 4 (.q 5 (.q 6 .done))))))) ?_
 refine AtT.zf ?_
 refine AtT.zG rfl rfl ok130 (parse32_f s (by omega) V hg) ?_
 rintro _ ⟨u, x, rfl, hu, hx⟩
 refine AtT.zf ?_
 refine AtT.zt ?_
 refine AtT.zt ?_
 refine AtT.zg ?_
 refine AtT.zg ?_
 refine AtT.done ?_
 refine At.nrm ?_
 rcases hx with ⟨hx1, rfl⟩ | ⟨hx1, t0, p0, rfl⟩
 rotate_left
 ·exact absurd hp0 (hx1 u0)
 obtain rfl : u0 = u := by rw [hp0] at hx1; injection hx1
 refine At.zi (.q 0 (.q 1 (.q 2 (.q 3 (.q 4 (.q 5 (.q 6 (.q 7 (.q 8 (.n false 9 (.q 10 (.q 11 (.q 12 .done))))))))))))) ?_
 refine AtT.zf ?_
 refine AtT.neNN rfl trivial if116 rfl (by decide) ?_
 refine AtT.zf ?_
 all_goals (first | refine AtT.kL 13 ?_ | refine AtT.zw (d := 13) rfl (fun hg13 => ?_) (fun hg13 => ?_) | refine AtT.zu (d := 13) rfl (fun hg13 => ?_) (fun hg13 => ?_))
 all_goals first|refine AtT.zh ?_|refine AtT.ze ?_|(refine AtT.zf ?_)
 all_goals first|refine AtT.zh ?_|refine AtT.ze ?_|(refine AtT.qR rfl ⟨_, _, rfl, rfl, rfl⟩ Tryz.underlying9 rfl (by decide) ?_)
 all_goals first|refine AtT.zh ?_|refine AtT.ze ?_|(refine AtT.qI ?_)
 all_goals (refine AtT.zS (d := 16) rfl ((by omega)) ?_)
 all_goals (refine AtT.zx ?_)
 all_goals (refine AtT.zf ?_)
 all_goals (first | refine AtT.kL 18 ?_ | refine AtT.zw (d := 18) rfl (fun hg18 => ?_) (fun hg18 => ?_) | refine AtT.zu (d := 18) rfl (fun hg18 => ?_) (fun hg18 => ?_))
 all_goals first|refine AtT.zh ?_|refine AtT.ze ?_|(refine AtT.zf ?_)
 all_goals first|refine AtT.qf ?_|refine AtT.zW ?_|((refine AtT.zG rfl rfl ok131 (fmtUp_f u0 hu V hg) ?_) ; (rintro _ rfl))
 all_goals first|refine AtT.zh ?_|refine AtT.ze ?_|(refine AtT.zf ?_)
 all_goals first|refine AtT.zh ?_|refine AtT.ze ?_|(refine AtT.neT rfl ⟨_, _, rfl, rfl, rfl⟩ rfl rfl (by decide) ?_)
 all_goals (refine AtT.zS (d := 22) rfl ((fun h => h hd)) ?_)
 all_goals (refine AtT.zx ?_)
 all_goals refine AtT.done ?_
 all_goals (refine At.nrm ?_)
 all_goals refine At.zX rfl rfl ?_
 refine At.nrm ?_
 refine At.zi (.q 0 (.q 1 (.q 2 (.q 3 .done)))) ?_
 refine AtT.zf ?_
 refine AtT.kconv un174 Tryz.underlying2 ?_
 rw [Go.Lib.wrap_i64_small u0 (by omega)]
 refine AtT.zg ?_
 refine AtT.zg ?_
 refine AtT.done ?_
 refine At.nrm ?_
 exact At.qN rfl (.tmp rfl) (.tmp rfl) rfl
end Go.Proofs.YtpoignmclfdgpaaGreatDoor
set_option linter.unusedVariables false
namespace Go.Proofs.YtpoignmclfdgpaaGreatDoor
open Go.Lw Go.Gl Go.Bk Go.RowKit
theorem splitT_f (s : List UInt8) (c : UInt8) (hs : s.length < 4294967281) (V : View) : Fnc Tryz.prog 111 [sT s, sT [c]] V fun r V' => Sl V' stL 1 r (cutAt c s) := by
 refine ql Tryz.func111 rfl Tryz.ntmps111 (Nat.le_of_ble_eq_true rfl) ?_
 intro w0 hw0
 refine At.nrm ?_
 refine At.zi (.q 0 .done) ?_
 refine AtT.zg ?_
 refine AtT.done ?_
 refine At.nrm ?_
 refine At.zi (.q 0 (.q 1 (.n false 2 (.q 3 .done)))) ?_
 refine AtT.zf ?_
 refine AtT.zf ?_
 refine AtT.qg rfl rfl ok102 (genSplit_f s c 0 (by decide) hs V) ?_
 rintro v7 V7 hV7 hs7
 refine AtT.zg ?_
 refine AtT.done ?_
 refine At.nrm ?_
 exact At.qh rfl (.tmp rfl) (by rw [← split_cut]; exact hs7)
theorem splitAf_f (s : List UInt8) (c : UInt8) (hs : s.length < 4294967281) (V : View) : Fnc Tryz.prog 77 [sT s, sT [c]] V fun r V' => Sl V' stL 1 r (jl c s) := by
 refine ql Tryz.func77 rfl Tryz.ntmps77 (Nat.le_of_ble_eq_true rfl) ?_
 intro w0 hw0
 refine At.nrm ?_
 refine At.zi (.q 0 .done) ?_
 refine AtT.zg ?_
 refine AtT.done ?_
 refine At.nrm ?_
 refine At.zi (.q 0 (.q 1 (.q 2 (.q 3 (.n false 4 (.q 5 .done)))))) ?_
 refine AtT.zf ?_
 refine AtT.zf ?_
 refine AtT.zf ?_
 refine AtT.qR rfl trivial Tryz.underlying9 rfl (by decide) ?_
 refine AtT.qg rfl rfl ok102 (genSplit_f s c 1 (by decide) hs V) ?_
 rintro v9 V9 hV9 hs9
 refine AtT.zg ?_
 refine AtT.done ?_
 refine At.nrm ?_
 exact At.qh rfl (.tmp rfl) (by rw [← split_caf]; exact hs9)
theorem read1_f (f : Frm) (w : List UInt8) (ws : List (List UInt8)) (q : Addr) (v : Value) (V : View) (hq : Cells V q [v]) (hs : Sl V stL 1 v (w :: ws)) : Fnc Tryz.prog 112 ([] ++ [.agg #[sT f.w, iv f.k]] ++ [.pointer (some q)]) V fun r _ => r = .bool (decide (f.w = w)) := by
 have hlen := hs.jA
 have hl0 : 0 < (w :: ws).length := by simp
 refine ql Tryz.func112 rfl Tryz.ntmps112 (Nat.le_of_ble_eq_true rfl) ?_
 intro w0 hw0
 refine At.nrm ?_
 refine At.zi (.n false 0 (.q 1 .done)) ?_
 refine AtT.jE ?_
 intro b2
 refine AtT.zg ?_
 refine AtT.done ?_
 refine At.nrm ?_
 refine At.draw (.q 0 (.q 1 (.q 2 (.q 3 (.q 4 (.q 5 (.q 6 .done))))))) ffm (by kernel_rfl) ?_
 first | refine AtT.zk fo140_0 ?_ | with_reducible refine AtT.zl fo140_0 ?_ | refine AtT.zn fo140_0 ?_
 first | refine AtT.zm tk9 ?_ | refine AtT.zo tk9 ?_
 first | refine AtT.zm tk121 ?_ | refine AtT.zo tk121 ?_
 refine AtT.qm Tryz.underlying121 tk9 ?_
 intro p7 e7 he7 hc7
 first | refine AtT.zm tk9 ?_ | refine AtT.zo tk9 ?_
 obtain rfl : w = e7 := by have : (w :: ws)[0]? = some e7 := he7; exact Option.some.inj this
 refine AtT.eqT rfl trivial rfl rfl (by decide) ?_
 refine AtT.zg ?_
 refine AtT.done ?_
 refine At.nrm ?_
 all_goals (exact At.qh rfl (.tmp rfl) rfl)
def ysK (a : Option Addr) (n : Nat) : List (List Value) := (List.range n).map fun k => [.slice (a.map fun p => p.add (2 * k)) 2 2]
theorem ysK_len (a : Option Addr) (n : Nat) : (ysK a n).length = n := by simp [ysK]
theorem ysK_at (a : Option Addr) {n k : Nat} (h : k < n) : (ysK a n)[k]? = some [.slice (a.map fun p => p.add (2 * k)) 2 2] := by
 unfold ysK; rw [List.getElem?_map, List.getElem?_range h]; rfl
theorem chunk_f (a : Option Addr) (m c : Nat) (V : View) : Fnc Tryz.prog 114 [.slice a m c, iv 2] V fun r V' => ∃ q2 q3 : Addr, r = .func (.func 132) #[] #[.pointer (some q2), .pointer (some q3)] ∧ Cells V' q2 [.slice a m c] ∧ Cells V' q3 [iv 2] := by
 refine ql Tryz.func114 rfl Tryz.ntmps114 (Nat.le_of_ble_eq_true rfl) ?_
 intro w0 hw0
 refine At.nrm ?_
 refine At.zi (.n false 0 (.n false 1 (.q 2 .done))) ?_
 refine AtT.jE ?_
 intro b2
 refine AtT.jE ?_
 intro b3
 refine AtT.zg ?_
 refine AtT.done ?_
 refine At.nrm ?_
 refine At.zi (.q 0 (.q 1 .done)) ?_
 first | refine AtT.zm tk3 ?_ | refine AtT.zo tk3 ?_
 refine AtT.qp ?_
 refine AtT.done ?_
 refine At.nrm ?_
 refine At.zX rfl rfl ?_
 refine At.nrm ?_
 refine At.zi (.q 0 (.q 1 .done)) ?_
 refine AtT.kfn ?_
 refine AtT.zg ?_
 refine AtT.done ?_
 refine At.nrm ?_
 refine At.giveB (b := b2) zP.zI (fun V2 hV2 hb2 => ?_)
 refine At.giveB (b := b3) zP.zI (fun V3 hV3 hb3 => ?_)
 exact At.qh rfl (.tmp rfl) ⟨⟨b2, 0, none⟩, ⟨b3, 0, none⟩, rfl, (jy hb2).le hV3, jy hb3⟩
theorem itChunk_f (a : Option Addr) (n c : Nat) (l : List Int) (hl : l.length = 2 * n) (h100 : n ≤ 10000) (q2 q3 : Addr) (V : View) (h2 : Cells V q2 [.slice a l.length c]) (h3 : Cells V q3 [iv 2]) (hs : SlI V (.slice a l.length c) l) : It Tryz.prog 132 [.pointer (some q2), .pointer (some q3)] V (ysK a n) := by
 obtain ⟨a0, c0, he, hc1, hc2, hc3, _⟩ := id hs
 cases he
 refine it_of Tryz.func132 rfl Tryz.ntmps132 (Nat.le_of_ble_eq_true rfl) rfl ?_
 intro y J E w0 H hJ
 refine At.nrm ?_
 refine At.zi (.q 0 .done) ?_
 refine AtT.zg ?_
 refine AtT.done ?_
 refine At.nrm ?_
 refine At.lpY H (ι := Nat) (fun k => k ≤ n) (fun k => [(0, .func (.yield y) #[] #[]), (1, .pointer (some q2)), (2, .pointer (some q3)), (4, iv (2 * k : Nat))]) (fun k => k) (fun k => n - k) 0 (Nat.zero_le _) ⟨rfl, rfl, rfl, rfl, trivial⟩ hJ ?_
 rintro k w ks' hkl hJ rfl
 refine At.nrm ?_
 refine At.zi (.q 0 (.q 1 (.q 2 (.q 3 .done)))) ?_
 refine AtT.zf ?_
 first | refine AtT.zm tk28 ?_ | refine AtT.zo tk28 ?_
 first | refine AtT.zR Tryz.underlying28 ?_ | refine AtT.zQ Tryz.underlying28 ?_
 refine AtT.qp ?_
 refine AtT.done ?_
 refine At.nrm ?_
 refine At.qb rfl (fun hp => ?_) (fun hp => ?_)
 rotate_left
 ·obtain rfl : k = n := by omega
  refine At.nrm ?_
  exact At.itEnd H (.inl rfl) rfl (.inl (by rw [ysK_len]; exact hJ))
 have hk : k < n := by omega
 obtain ⟨p, rfl⟩ : ∃ p, a = some p := Option.isSome_iff_exists.1 (hc3 (fun h => by rw [h] at hl; simp at hl; omega))
 have hys := ysK_at (some p) hk
 have hmin : min (2 : Int) ((l.drop ((2 * k : Nat) : Int).toNat).length : Int) = 2 := by rw [List.length_drop, Int.toNat_natCast]; omega
 have hsl : ∀ w, (Instr.sliceAt 28 (.slice (some p) l.length c) (some (iv (2 * k : Nat))) (some (iv (((2 * k : Nat) : Int) + 2))) (some (iv (((2 * k : Nat) : Int) + 2)))).run Tryz.prog w = .ok (.slice (some (p.add (2 * k))) 2 2) w := fun w => by
  rw [slice_part Tryz.underlying28 tk2 (by omega) (by omega) (by omega), Int.toNat_natCast, Nat.mul_one, show (((2 * k : Nat) : Int) + 2 - ((2 * k : Nat) : Int)).toNat = 2 by omega]
 refine At.nrm ?_
 refine At.draw (.q 0 (.q 1 (.q 2 (.q 3 (.q 4 (.q 5 (.q 6 .done))))))) ffm (by kernel_rfl) ?_
 first | refine AtT.zm tk3 ?_ | refine AtT.zo tk3 ?_
 first | refine AtT.zm tk28 ?_ | refine AtT.zo tk28 ?_
 refine AtT.zf ?_
 refine AtT.ktail Tryz.underlying28 tk2 ?_
 intro a16 c16 hs16
 first | refine AtT.zR Tryz.underlying28 ?_ | refine AtT.zQ Tryz.underlying28 ?_
 refine AtT.kmin2 ?_
 rw [hmin]
 refine AtT.zg ?_
 refine AtT.done ?_
 refine At.nrm ?_
 refine At.nrm ?_
 refine At.zi (.q 0 (.q 1 (.q 2 (.q 3 (.q 4 (.q 5 (.q 6 (.q 7 (.q 8 (.q 9 (.n true 10 (.q 11 .done)))))))))))) ?_
 refine AtT.zf ?_
 first | refine AtT.zm tk28 ?_ | refine AtT.zo tk28 ?_
 refine AtT.zf ?_
 refine AtT.zf ?_
 refine AtT.zf ?_
 first | refine AtT.qG ?_ | refine AtT.qd ?_
 refine AtT.zf ?_
 refine AtT.zf ?_
 first | refine AtT.qG ?_ | refine AtT.qd ?_
 refine AtT.slV3 rfl trivial rfl rfl rfl rfl hsl (by decide) ?_
 refine AtT.yield rfl trivial rfl rfl H (hys) (hJ) (by decide) ?_ ?_
 all_goals (intro w29 hJ29)
 all_goals (refine AtT.qC ?_)
 all_goals refine AtT.done ?_
 all_goals (refine At.nrm ?_)
 rotate_left
 ·refine At.zU rfl rfl ?_
  refine At.nrm ?_
  exact At.itEnd H (.inr rfl) rfl (.inr hJ29)
 refine At.zX rfl rfl ?_
 refine At.nrm ?_
 refine At.zi (.q 0 (.q 1 (.q 2 (.q 3 .done)))) ?_
 refine AtT.zf ?_
 first | refine AtT.zm tk3 ?_ | refine AtT.zo tk3 ?_
 first | refine AtT.qG ?_ | refine AtT.qd ?_
 refine AtT.zg ?_
 refine AtT.done ?_
 refine At.nrm ?_
 refine At.roundY H (k + 1) ?_ (by omega) ?_ hJ29
 ·show n - (k + 1) < n - k; omega
 ·exact ⟨rfl, rfl, rfl, ivs (by omega), trivial⟩
end Go.Proofs.YtpoignmclfdgpaaGreatDoor
set_option linter.unusedVariables false
namespace Go.Bk
open Go.Lib
theorem cutAt_len (c : UInt8) : ∀ s : List UInt8, (cutAt c s).length ≤ s.length + 1 ∧ ∀ w ∈ cutAt c s, w.length ≤ s.length := by
 intro s
 have key : ∀ (k : Nat) (s : List UInt8), s.length ≤ k → (cutAt c s).length ≤ s.length + 1 ∧ ∀ w ∈ cutAt c s, w.length ≤ s.length := by
  intro k
  induction k with
  | zero =>
   intro s hs
   obtain rfl := List.length_eq_zero_iff.1 (Nat.le_zero.1 hs)
   rw [jN (by simp)]
   exact ⟨by simp, fun w hw => by simp at hw; subst hw; simp⟩
  | succ k ih =>
   intro s hs
   rcases first_of c s with h | ⟨u, v, rfl, h⟩
   ·rw [jN h]
    exact ⟨by simp, fun w hw => by simp at hw; subst hw; exact Nat.le_refl _⟩
   ·rw [jk v h]
    simp only [List.length_append, List.length_cons] at hs ⊢
    have := ih v (by omega)
    refine ⟨by omega, fun w hw => ?_⟩
    rcases List.mem_cons.1 hw with rfl | hw
    ·omega
    ·have := this.2 w hw; omega
 exact key _ s (Nat.le_refl _)
theorem nums_none : ∀ {ws : List (List UInt8)} {w : List UInt8}, w ∈ ws → numR w = none → jr ws = none
 | [], w, h, _ => by cases h
 | x :: ws, w, h, hn => by
  simp only [jr]
  rcases List.mem_cons.1 h with rfl | h
  ·rw [hn]
  ·rw [nums_none h hn]; split <;> simp_all
theorem nums_snoc : ∀ {u : List (List UInt8)} {l : List Nat} {w : List UInt8} {v : Nat}, jr u = some l → numR w = some v → jr (u ++ [w]) = some (l ++ [v])
 | [], l, w, v, h, hw => by simp only [jr, Option.some.injEq] at h; subst h; simp [jr, hw]
 | x :: u, l, w, v, h, hw => by
  simp only [jr] at h
  split at h
  ·rename_i a b ha hb
   simp only [Option.some.injEq] at h
   subst h
   simp only [List.cons_append, jr, ha, nums_snoc hb hw]
  ·cases h
theorem nums_len : ∀ {ws : List (List UInt8)} {l : List Nat}, jr ws = some l → l.length = ws.length
 | [], l, h => by simp only [jr, Option.some.injEq] at h; subst h; rfl
 | x :: u, l, h => by
  simp only [jr] at h
  split at h
  ·rename_i a b ha hb
   simp only [Option.some.injEq] at h
   subst h
   simp only [List.length_cons, nums_len hb]
  ·cases h
theorem nums_lt : ∀ {ws : List (List UInt8)} {l : List Nat}, jr ws = some l → ∀ v ∈ l, v < 1000000
 | [], l, h, v, hv => by simp only [jr, Option.some.injEq] at h; subst h; cases hv
 | x :: u, l, h, v, hv => by
  simp only [jr] at h
  split at h
  ·rename_i a b ha hb
   simp only [Option.some.injEq] at h
   subst h
   rcases List.mem_cons.1 hv with rfl | hv
   ·exact (dec_numR ha).2
   ·exact nums_lt hb v hv
  ·cases h
theorem rdL_cut {s w : List UInt8} {ws : List (List UInt8)} (h : cutAt 32 s = w :: ws) (b : Bo) : rdL b s = match jr ws with
  | none => none
  | some n => rdW b w n := by
 unfold rdL
 rw [h]; rfl
theorem rdL_none {s w : List UInt8} {ws : List (List UInt8)} (h : cutAt 32 s = w :: ws) (hn : jr ws = none) (b : Bo) : rdL b s = none := by rw [rdL_cut h, hn]
theorem rdL_some {s w : List UInt8} {ws : List (List UInt8)} {n : List Nat} (h : cutAt 32 s = w :: ws) (hn : jr ws = some n) (b : Bo) : rdL b s = rdW b w n := by rw [rdL_cut h, hn]
theorem rdL_word {s w : List UInt8} {ws : List (List UInt8)} (h : cutAt 32 s = w :: ws) (h1 : w ≠ [114]) (h2 : jf w = 0) (b : Bo) : rdL b s = none := by
 rw [rdL_cut h]
 cases jr ws with
 | none => rfl
 | some n => simp only [rdW]; rw [if_neg h1, if_pos h2]
theorem pairs_len : ∀ n : List Nat, (pairs n).length = n.length / 2
 | [] => rfl
 | [a] => by simp [pairs]
 | a :: b :: l => by simp only [pairs, List.length_cons, pairs_len l]; omega
theorem pairs_at : ∀ {n : List Nat} {k : Nat} {a b : Nat}, n[2 * k]? = some a → n[2 * k + 1]? = some b → (pairs n)[k]? = some ⟨a, b⟩
 | [], k, a, b, h, _ => by simp at h
 | [x], k, a, b, h, h2 => by
  cases k with
  | zero => simp at h2
  | succ k => rw [show 2 * (k + 1) = 2 * k + 1 + 1 by omega] at h; simp at h
 | x :: y :: l, 0, a, b, h, h2 => by
  simp at h h2
  subst h h2; rfl
 | x :: y :: l, k + 1, a, b, h, h2 => by
  rw [show 2 * (k + 1) = 2 * k + 1 + 1 by omega, List.getElem?_cons_succ, List.getElem?_cons_succ] at h
  rw [show 2 * (k + 1) + 1 = 2 * k + 1 + 1 + 1 by omega, List.getElem?_cons_succ, List.getElem?_cons_succ] at h2
  exact pairs_at (n := l) h h2
end Go.Bk
namespace Go.Lw
theorem fncM_ofM {P : Program} {cx : Cx} {f : FuncId} {fn : Func} {c : Code} {args : List Value} {O : List Own} {V : View} {R : Value → List Own → View → Prop} {n : Nat} (hf : P.funcs[f]? = some fn) (hb : fn.body = some c) (hn : fn.ntmps = n) (hl : args.length ≤ n)
  (h : At { cx with ds := [] } n (frame args 0) O V (c.wpIn (FW none) 0 P (bodyPostM (FW none) 0 P fn (PostM cx R)))) : FncM P cx f args O V R := fun w hm => by
 refine (calls_FW (ro := none) (n := 0)).1 (callsIn_of_wp_marks hf hb trivial (h _ w ⟨rfl, ?_, fun i v hi => ?_⟩ (hm.ds [])) rfl)
 ·simp [hn]; omega
 ·have := (ku args 0 i v hi).2
  simp only [Nat.sub_zero] at this
  have hlt := (List.getElem?_eq_some_iff.1 this).1
  rw [Array.getElem?_append_left (by simpa using hlt)]
  simpa using this
end Go.Lw
set_option linter.unusedVariables false
namespace Go.Proofs.YtpoignmclfdgpaaGreatDoor
open Go.Lw Go.Gl Go.Bk Go.RowKit
theorem form_w (w : List UInt8) : formsL.find? (fun f => decide (f.w = w)) = if w = [114] then some ⟨[114], 0⟩ else if jf w = 0 then none else some ⟨w, jf w⟩ := by
 by_cases h0 : w = [114]
 ·subst h0; rfl
 by_cases h1 : w = [105, 110]
 ·subst h1; rfl
 by_cases h2 : w = [111, 117, 116]
 ·subst h2; rfl
 by_cases h3 : w = [109, 97, 107, 101]
 ·subst h3; rfl
 by_cases h4 : w = [98, 97, 99, 107]
 ·subst h4; rfl
 have hk : jf w = 0 := by
  unfold jf
  rw [if_neg (show w ≠ wd 1 from h1), if_neg (show w ≠ wd 2 from h2), if_neg (show w ≠ wd 3 from h3), if_neg (show w ≠ wd 4 from h4)]
 rw [if_neg h0, if_pos hk]
 refine List.find?_eq_none.2 fun f hf => ?_
 have : f = ⟨[114], 0⟩ ∨ f = ⟨[105, 110], 1⟩ ∨ f = ⟨[111, 117, 116], 2⟩ ∨ f = ⟨[109, 97, 107, 101], 3⟩ ∨ f = ⟨[98, 97, 99, 107], 4⟩ := by simpa [formsL] using hf
 rcases this with rfl | rfl | rfl | rfl | rfl <;> simp <;> intro e <;> first | exact h0 e.symm | exact h1 e.symm | exact h2 e.symm | exact h3 e.symm | exact h4 e.symm
def BkO (b : Nat) (ar : Option Addr) (cr : Nat) (qs : List RcQ) (ae : Option Addr) (ce : Nat) (es : List En) (O : List Own) : List Own :=
 .blk b (LC [.slice ar qs.length cr, .slice ae es.length ce] 26) :: .row (.slice ar qs.length cr) 80 2 qs.length (flat rce qs) :: .row (.slice ae es.length ce) 36 4 es.length (flat ene es) :: O
def RdR (b : Nat) (qs : List RcQ) (es : List En) (s : List UInt8) (O : List Own) (V : View) (r : Value) (O' : List Own) (V' : View) : Prop :=
 Le V V' ∧ ((rdL ⟨qs.map (·.1), es⟩ s = none ∧ r = .bool false ∧ O' = O) ∨ ∃ (ar' : Option Addr) (cr' : Nat) (qs' : List RcQ) (ae' : Option Addr) (ce' : Nat) (es' : List En), rdL ⟨qs.map (·.1), es⟩ s = some ⟨qs'.map (·.1), es'⟩ ∧ r = .bool true ∧ O' = BkO b ar' cr' qs' ae' ce' es' O ∧ RsQ V' qs')
theorem nat_list (n : List Nat) (k : Nat) (x : Nat) (h : n[k]? = some x) : (n.map fun v : Nat => (v : Int))[k]? = some (x : Int) := by rw [List.getElem?_map, h]; rfl
theorem sl_sub2 {V : View} {p : Addr} {m c : Nat} {L : List Int} (hs : SlI V (.slice (some p) m c) L) {k : Nat} {x y : Int} (hx : L[2 * k]? = some x) (hy : L[2 * k + 1]? = some y) : SlI V (.slice (some (p.add (2 * k))) 2 2) [x, y] := by
 obtain ⟨a, cap, e, h1, h2, h3, h5⟩ := hs
 cases e
 refine ⟨_, 2, rfl, Nat.le_refl _, by unfold maxLen; decide, fun _ => rfl, fun q hq i z hz => ?_⟩
 cases hq
 rw [addr_add_add]
 match i, hz with
 | 0, hz => cases hz; have h := h5 p rfl (2 * k) _ hx; rw [Nat.mul_one] at h; exact h
 | 1, hz => cases hz; have h := h5 p rfl (2 * k + 1) _ hy; rw [Nat.mul_one] at h; exact h
set_option maxHeartbeats 4000000 in
theorem read_f {cx : Cx} {O : List Own} {V : View} (b : Nat) (ar : Option Addr) (cr : Nat) (qs : List RcQ) (ae : Option Addr) (ce : Nat) (es : List En) (s : List UInt8) (hs : s.length ≤ 4000) (hq1 : qs.length ≤ 5000) (he1 : es.length ≤ 5000) (hg : GvV V) (hq : RsQ V qs) :
  FncM Tryz.prog cx 80 [.pointer (some ⟨b, 0, none⟩), sT s] (BkO b ar cr qs ae ce es O) V fun r O' V' => RdR b qs es s O V r O' V' := by
 unfold BkO
 obtain ⟨w, ws, hcut⟩ : ∃ w ws, cutAt 32 s = w :: ws := by
  cases h : cutAt 32 s with
  | nil => exact absurd h (ja 32 s)
  | cons w ws => exact ⟨w, ws, rfl⟩
 have hcl := cutAt_len 32 s
 rw [hcut] at hcl
 have hwl : ws.length ≤ 4000 := by have := hcl.1; simp only [List.length_cons] at this; omega
 have hwi : ∀ x ∈ ws, x.length ≤ 4000 := fun x hx => by have := hcl.2 x (List.mem_cons_of_mem _ hx); omega
 refine fncM_ofM Tryz.func80 rfl Tryz.ntmps80 (Nat.le_of_ble_eq_true rfl) ?_
 refine At.nrm ?_
 refine At.zi (.q 0 .done) ?_
 refine AtT.zg ?_
 refine AtT.done ?_
 refine At.nrm ?_
 refine At.zi (.q 0 (.n false 1 (.n false 2 (.n true 3 .done)))) ?_
 refine AtT.zf ?_
 refine AtT.qg rfl rfl ok111 (splitT_f s 32 (by omega) V) ?_
 rintro v16 V16 hV16 hs16; rw [hcut] at hs16; obtain ⟨a16, c16, rfl, hcc1, hcc2, hcc3, hcc4⟩ := id hs16
 refine AtT.zT z121 ?_
 intro b5
 first | refine AtT.jc tk121 ?_ | refine AtT.zy tk121 ?_
 refine AtT.done ?_
 refine At.nrm ?_
 refine At.giveB (b := b5) zP.zI (fun V5 hV5 hb5 => ?_)
 have hc5 : Cells V5 ⟨b5, 0, none⟩ [.slice a16 (w :: ws).length c16] := jy hb5
 have hs5 := hs16.le hV5
 have k5 : Le V V5 := hV16.trans hV5
 refine At.nrm ?_
 refine At.zi (.n false 0 (.q 1 (.n false 2 (.q 3 (.q 4 (.q 5 (.n false 6 (.n true 7 (.q 8 .done))))))))) ?_
 refine AtT.qg rfl rfl ok99 (forms_f V5) ?_
 rintro v18 V18 hV18 hfm
 refine AtT.kfn ?_
 refine AtT.zG rfl rfl ok98 (find_f 112 [.pointer (some ⟨b5, 0, none⟩)] (fun f => decide (f.w = w)) V18 v18 formsL hfm ok112 (fun x _ => read1_f x w ws ⟨b5, 0, none⟩ _ V18 (hc5.le hV18) (hs5.le hV18))) ?_
 rintro _ rfl; rw [form_w]
 refine AtT.zf ?_
 refine AtT.zt ?_
 refine AtT.zt ?_
 refine AtT.zT z140 ?_
 intro b6
 refine AtT.zy ko ?_
 refine AtT.zg ?_
 refine AtT.done ?_
 refine At.nrm ?_
 have k18 := k5.trans hV18
 have hs18 := hs5.le hV18
 have hc18 := hc5.le hV18
 have hg18 := hg.le k18
 by_cases hbad : w ≠ [114] ∧ jf w = 0
 ·rw [if_neg hbad.1, if_pos hbad.2]
  refine At.nrm ?_
  refine At.zi (.q 0 (.q 1 .done)) ?_
  refine AtT.zf ?_
  refine AtT.qC ?_
  refine AtT.qJ (d := 24) rfl ((show (!false) = true from rfl)) ?_
  refine AtT.done ?_
  refine At.nrm ?_
  refine At.zU rfl rfl ?_
  refine At.nrm ?_
  refine At.zi (.q 0 .done) ?_
  refine AtT.zg ?_
  refine AtT.done ?_
  refine At.nrm ?_
  refine At.plain (.inl rfl) rfl ?_
  refine At.pt (O' := O) Pt.zV ?_
  exact At.kr rfl (.tmp rfl) ⟨k18, .inl ⟨rdL_word hcut hbad.1 hbad.2 _, rfl, rfl⟩⟩
 obtain ⟨K, hK, hK0, hKr⟩ : ∃ K : Int, (if w = [114] then some (⟨[114], 0⟩ : Frm) else if jf w = 0 then none else some ⟨w, jf w⟩) = some ⟨w, K⟩ ∧ (K = 0 → w = [114]) ∧ (K ≠ 0 → w ≠ [114] ∧ K = jf w) := by
  by_cases h : w = [114]
  ·exact ⟨0, by rw [if_pos h, h], fun _ => h, fun h => absurd rfl h⟩
  ·have hk : jf w ≠ 0 := fun hk => hbad ⟨h, hk⟩
   exact ⟨jf w, by rw [if_neg h, if_neg hk], fun h0 => absurd h0 hk, fun _ => ⟨h, rfl⟩⟩
 rw [hK]
 refine At.nrm ?_
 refine At.zi (.q 0 (.q 1 .done)) ?_
 refine AtT.zf ?_
 refine AtT.qC ?_
 refine AtT.qJ (d := 24) rfl ((show (!true) = false from rfl)) ?_
 refine AtT.done ?_
 refine At.nrm ?_
 refine At.zX rfl rfl ?_
 refine At.nrm ?_
 refine At.zi (.q 0 .done) ?_
 refine AtT.zg ?_
 refine AtT.done ?_
 refine At.nrm ?_
 refine At.newRow 2 1 ?_
 refine At.zi (.q 0 (.q 1 (.q 2 (.q 3 .done)))) ?_
 first | refine AtT.zm tk121 ?_ | refine AtT.zo tk121 ?_
 refine AtT.ktail Tryz.underlying121 tk9 ?_ (hv := hs18) (h1 := by show (1 : Int) ≤ ((ws.length + 1 : Nat) : Int); omega)
 intro a26 c26 hs26
 first | refine AtT.zR Tryz.underlying121 ?_ | refine AtT.zQ Tryz.underlying121 ?_
 refine AtT.zf ?_
 refine AtT.done ?_
 refine At.nrm ?_
 have hs26' : Sl V18 stL 1 (.slice a26 ws.length c26) ws := hs26
 refine At.lp (ι := Nat × List Nat × Option Addr × Nat) (KS := fun g => [(0, .pointer (some ⟨b, 0, none⟩)), (6, .pointer (some ⟨b6, 0, none⟩)), (8, .slice g.2.2.1 (g.2.1.map fun v : Nat => (v : Int)).length g.2.2.2), (26, .slice a26 ws.length c26), (27, iv ws.length), (28, iv g.1)])
  (OS := fun g => .blk b6 (LC [sT w, iv K] 140) :: .row (.slice g.2.2.1 (g.2.1.map fun v : Nat => (v : Int)).length g.2.2.2) 2 1 (g.2.1.map fun v : Nat => (v : Int)).length (flat ei (g.2.1.map fun v : Nat => (v : Int))) :: .blk b (LC [.slice ar qs.length cr, .slice ae es.length ce] 26) :: .row (.slice ar qs.length cr) 80 2 qs.length (flat rce qs) :: .row (.slice ae es.length ce) 36 4 es.length (flat ene es) :: O)
  (VS := fun g V' => Le V18 V' ∧ g.1 ≤ ws.length ∧ jr (ws.take g.1) = some g.2.1) (μ := fun g => ws.length - g.1) (0, [], none, 0) ?_ ?_ ?_ ?_
 ·exact ⟨rfl, rfl, rfl, rfl, rfl, rfl, trivial⟩
 ·exact Pt.zV
 ·exact ⟨Le.refl _, Nat.zero_le _, rfl⟩
 rintro ⟨i, n, an, cn⟩ V' ks' O' ⟨hVV, hil, hnum⟩ hk hO hl
 dsimp only at hil hnum hk hO
 subst hk hO
 have hnl := nums_len hnum
 rw [List.length_take_of_le hil] at hnl
 have hNl : (n.map fun v : Nat => (v : Int)).length = n.length := List.length_map _
 have hws := hs26'.le hVV
 have hgV := hg18.le hVV
 have kV := k18.trans hVV
 refine At.nrm ?_
 refine At.zi (.q 0 .done) ?_
 refine AtT.qp ?_
 refine AtT.done ?_
 refine At.nrm ?_
 refine At.qb rfl (fun hp => ?_) (fun hp => ?_)
 ·obtain ⟨x, hx⟩ : ∃ x, ws[i]? = some x := ⟨_, List.getElem?_eq_getElem (by omega)⟩
  have hxm := List.mem_of_getElem? hx
  have hxl := hwi x hxm
  refine At.nrm ?_
  refine At.zi (.q 0 (.q 1 (.q 2 .done))) ?_
  refine AtT.qm Tryz.underlying121 tk9 ?_
  intro p30 e30 he30 hc30
  first | refine AtT.zm tk9 ?_ | refine AtT.zo tk9 ?_
  obtain rfl : x = e30 := by have : ws[i]? = some e30 := (by rw [Int.toNat_natCast] at he30; exact he30); rw [hx] at this; exact Option.some.inj this
  refine AtT.zg ?_
  refine AtT.done ?_
  refine At.nrm ?_
  cases hn : numR x with
  | none =>
   refine At.zi (.q 0 (.n false 1 (.q 2 (.q 3 (.q 4 (.q 5 (.q 6 .done))))))) ?_
   refine AtT.zf ?_
   refine AtT.zG rfl rfl ok113 (number_f x (by omega) _ hgV) ?_
   rintro _ rfl; rw [jv hn]
   refine AtT.zf ?_
   refine AtT.zt ?_
   refine AtT.zt ?_
   refine AtT.zg ?_
   refine AtT.zg ?_
   refine AtT.done ?_
   refine At.nrm ?_
   refine At.nrm ?_
   refine At.zi (.q 0 (.q 1 .done)) ?_
   refine AtT.zf ?_
   refine AtT.qC ?_
   refine AtT.qJ (d := 38) rfl ((show (!false) = true from rfl)) ?_
   refine AtT.done ?_
   refine At.nrm ?_
   refine At.zU rfl rfl ?_
   refine At.nrm ?_
   refine At.zi (.q 0 .done) ?_
   refine AtT.zg ?_
   refine AtT.done ?_
   refine At.nrm ?_
   refine At.plain (.inl rfl) rfl ?_
   refine At.pt (O' := O) Pt.zV ?_
   exact At.kr rfl (.tmp rfl) ⟨k18.trans hVV, .inl ⟨rdL_none hcut (nums_none hxm hn) _, rfl, rfl⟩⟩
  | some u =>
   have hsn := nums_snoc hnum hn
   rw [← jq hx] at hsn
   refine At.zi (.q 0 (.n false 1 (.q 2 (.q 3 (.q 4 (.q 5 (.q 6 .done))))))) ?_
   refine AtT.zf ?_
   refine AtT.zG rfl rfl ok113 (number_f x (by omega) _ hgV) ?_
   rintro _ rfl; rw [numV_some hn]
   refine AtT.zf ?_
   refine AtT.zt ?_
   refine AtT.zt ?_
   refine AtT.zg ?_
   refine AtT.zg ?_
   refine AtT.done ?_
   refine At.nrm ?_
   refine At.nrm ?_
   refine At.zi (.q 0 (.q 1 .done)) ?_
   refine AtT.zf ?_
   refine AtT.qC ?_
   refine AtT.qJ (d := 38) rfl ((show (!true) = false from rfl)) ?_
   refine AtT.done ?_
   refine At.nrm ?_
   refine At.zX rfl rfl ?_
   refine At.nrm ?_
   refine At.zi (.q 0 (.q 1 (.n false 2 (.n true 3 (.q 4 .done))))) ?_
   refine AtT.zf ?_
   refine AtT.zf ?_
   refine AtT.zN (bs28_1_0 _) ?_
   intro q41 V41 hV41 hq41
   have g41 : Le V V41 := by first | exact hV41 | exact Le.trans (by assumption) hV41
   first | refine AtT.qX Tryz.underlying28 rw2 ?_
   intro a42 c42
   refine AtT.zg ?_
   refine AtT.done ?_
   refine At.nrm ?_
   refine At.zi (.q 0 (.q 1 .done)) ?_
   first | refine AtT.qG ?_ | refine AtT.qd ?_
   refine AtT.zf ?_
   refine AtT.done ?_
   refine At.nrm ?_
   refine At.round (i + 1, n ++ [u], a42, c42) ?_ ?_ ?_ ?_
   ·show ws.length - (i + 1) < ws.length - i; omega
   ·exact ⟨hVV.trans hV41, by dsimp only; omega, hsn⟩
   ·refine ⟨rfl, rfl, ?_, rfl, rfl, ivs (by dsimp only; omega), trivial⟩
    dsimp only; rw [List.map_append, List.length_append]; rfl
   ·dsimp only
    rw [List.map_append, show ((n.map fun v : Nat => (v : Int)) ++ [u].map fun v : Nat => (v : Int)).length = (n.map fun v : Nat => (v : Int)).length + 1 from by rw [List.length_append]; rfl, show flat ei ((n.map fun v : Nat => (v : Int)) ++ [u].map fun v : Nat => (v : Int)) = flat ei (n.map fun v : Nat => (v : Int)) ++ [iv u] from by unfold flat; rw [List.flatMap_append]; rfl]
    exact Pt.zV
 obtain rfl : i = ws.length := by omega
 rw [List.take_length] at hnum
 have hnlt := nums_lt hnum
 have hrd := rdL_some hcut hnum ⟨qs.map (·.1), es⟩
 have hqV := hq.le kV
 generalize hN : (n.map fun v : Nat => (v : Int)) = N at hNl ⊢
 refine At.nrm ?_
 refine At.zi (.q 0 (.q 1 (.q 2 .done))) ?_
 first | refine AtT.zk jG ?_ | with_reducible refine AtT.zl jG ?_ | refine AtT.zn jG ?_
 first | refine AtT.zm tk3 ?_ | refine AtT.zo tk3 ?_
 refine AtT.qF ?_
 refine AtT.done ?_
 refine At.nrm ?_
 refine At.qb rfl (fun hK1 => ?_) (fun hK1 => ?_)
 ·obtain rfl := hK0 hK1
  subst hK1
  refine At.jF (l := N) Lw.jU rfl rfl zP.zI (fun VN hVN hsN => ?_)
  have kN := kV.trans hVN
  have hqN := hqV.le hVN
  by_cases hev : n.length % 2 = 0
  ·have hrn : rdW ⟨qs.map (·.1), es⟩ [114] n = none := by unfold rdW; rw [if_pos rfl, if_pos (.inl hev)]
   refine At.nrm ?_
   refine At.zi (.q 0 (.q 1 (.q 2 (.q 3 (.q 4 (.q 5 (.q 6 (.q 7 (.q 8 (.q 9 (.q 10 (.q 11 .done)))))))))))) ?_
   refine AtT.zf ?_
   first | refine AtT.zR Tryz.underlying28 ?_ | refine AtT.zQ Tryz.underlying28 ?_
   refine AtT.krem ?_
   rw [show ((N.length : Nat) : Int).tmod 2 = ((N.length % 2 : Nat) : Int) from rfl]
   refine AtT.qF ?_
   refine AtT.qa (d := 50) rfl ((by rw [hNl]; omega)) ?_
   refine AtT.zf ?_
   all_goals (first | refine AtT.kL 51 ?_ | refine AtT.zw (d := 51) rfl (fun hg51 => ?_) (fun hg51 => ?_) | refine AtT.zu (d := 51) rfl (fun hg51 => ?_) (fun hg51 => ?_))
   all_goals first|refine AtT.zh ?_|refine AtT.ze ?_|(refine AtT.zf ?_)
   all_goals first|refine AtT.zh ?_|refine AtT.ze ?_|(refine AtT.jM ?_)
   all_goals first|refine AtT.zh ?_|refine AtT.ze ?_|(first | refine AtT.zk zz ?_ | with_reducible refine AtT.zl zz ?_ | refine AtT.zn zz ?_)
   all_goals first|refine AtT.zh ?_|refine AtT.ze ?_|(first | refine AtT.zm qo ?_ | refine AtT.zo qo ?_)
   all_goals first|refine AtT.zh ?_|refine AtT.ze ?_|(first | refine AtT.zR Tryz.underlying24 ?_ | refine AtT.zQ Tryz.underlying24 ?_)
   all_goals first|refine AtT.zh ?_|refine AtT.ze ?_|(refine AtT.qI ?_)
   all_goals (refine AtT.zx ?_)
   all_goals refine AtT.done ?_
   all_goals (refine At.nrm ?_)
   all_goals refine At.zU rfl rfl ?_
   refine At.nrm ?_
   refine At.zi (.q 0 .done) ?_
   refine AtT.zg ?_
   refine AtT.done ?_
   refine At.nrm ?_
   refine At.plain (.inl rfl) rfl ?_
   refine At.pt (O' := O) Pt.zV ?_
   exact At.kr rfl (.tmp rfl) ⟨kN, .inl ⟨hrd.trans hrn, rfl, rfl⟩⟩
  by_cases hesn : es = []
  rotate_left
  ·have hrn : rdW ⟨qs.map (·.1), es⟩ [114] n = none := by unfold rdW; rw [if_pos rfl, if_pos (.inr hesn)]
   have hesl : es.length ≠ 0 := fun h => hesn (List.length_eq_zero_iff.1 h)
   refine At.nrm ?_
   refine At.zi (.q 0 (.q 1 (.q 2 (.q 3 (.q 4 (.q 5 (.q 6 (.q 7 (.q 8 (.q 9 (.q 10 (.q 11 .done)))))))))))) ?_
   refine AtT.zf ?_
   first | refine AtT.zR Tryz.underlying28 ?_ | refine AtT.zQ Tryz.underlying28 ?_
   refine AtT.krem ?_
   rw [show ((N.length : Nat) : Int).tmod 2 = ((N.length % 2 : Nat) : Int) from rfl]
   refine AtT.qF ?_
   refine AtT.zS (d := 50) rfl ((by rw [hNl]; omega)) ?_
   refine AtT.zf ?_
   all_goals (first | refine AtT.kL 51 ?_ | refine AtT.zw (d := 51) rfl (fun hg51 => ?_) (fun hg51 => ?_) | refine AtT.zu (d := 51) rfl (fun hg51 => ?_) (fun hg51 => ?_))
   all_goals first|refine AtT.zh ?_|refine AtT.ze ?_|(refine AtT.zf ?_)
   all_goals first|refine AtT.zh ?_|refine AtT.ze ?_|(refine AtT.jM ?_)
   all_goals first|refine AtT.zh ?_|refine AtT.ze ?_|(first | refine AtT.zk zz ?_ | with_reducible refine AtT.zl zz ?_ | refine AtT.zn zz ?_)
   all_goals first|refine AtT.zh ?_|refine AtT.ze ?_|(first | refine AtT.zm qo ?_ | refine AtT.zo qo ?_)
   all_goals first|refine AtT.zh ?_|refine AtT.ze ?_|(first | refine AtT.zR Tryz.underlying24 ?_ | refine AtT.zQ Tryz.underlying24 ?_)
   all_goals first|refine AtT.zh ?_|refine AtT.ze ?_|(refine AtT.qI ?_)
   all_goals (refine AtT.qa (d := 57) rfl ((by omega)) ?_)
   all_goals (refine AtT.zx ?_)
   all_goals refine AtT.done ?_
   all_goals (refine At.nrm ?_)
   all_goals refine At.zU rfl rfl ?_
   refine At.nrm ?_
   refine At.zi (.q 0 .done) ?_
   refine AtT.zg ?_
   refine AtT.done ?_
   refine At.nrm ?_
   refine At.plain (.inl rfl) rfl ?_
   refine At.pt (O' := O) Pt.zV ?_
   exact At.kr rfl (.tmp rfl) ⟨kN, .inl ⟨hrd.trans hrn, rfl, rfl⟩⟩
  subst hesn
  obtain ⟨n0, nt, rfl⟩ : ∃ x t, n = x :: t := by cases n with | nil => exact absurd rfl hev | cons x t => exact ⟨x, t, rfl⟩
  have hrn : rdW ⟨qs.map (·.1), []⟩ [114] (n0 :: nt) = some ⟨qs.map (·.1) ++ [⟨(n0 : Nat), pairs nt⟩], []⟩ := by
   unfold rdW; rw [if_pos rfl, if_neg (fun h => h.elim hev (fun h => h rfl))]; rfl
  have hntl : nt.length = 2 * (nt.length / 2) := by simp only [List.length_cons] at hev; omega
  have hN2 : N = (n0 : Int) :: nt.map fun v : Nat => (v : Int) := hN.symm
  simp only [List.length_cons] at hNl hnl
  refine At.nrm ?_
  refine At.zi (.q 0 (.q 1 (.q 2 (.q 3 (.q 4 (.q 5 (.q 6 (.q 7 (.q 8 (.q 9 (.q 10 (.q 11 .done)))))))))))) ?_
  refine AtT.zf ?_
  first | refine AtT.zR Tryz.underlying28 ?_ | refine AtT.zQ Tryz.underlying28 ?_
  refine AtT.krem ?_
  rw [show ((N.length : Nat) : Int).tmod 2 = ((N.length % 2 : Nat) : Int) from rfl]
  refine AtT.qF ?_
  refine AtT.zS (d := 50) rfl ((by rw [hNl]; simp only [List.length_cons] at hev; omega)) ?_
  refine AtT.zf ?_
  all_goals (first | refine AtT.kL 51 ?_ | refine AtT.zw (d := 51) rfl (fun hg51 => ?_) (fun hg51 => ?_) | refine AtT.zu (d := 51) rfl (fun hg51 => ?_) (fun hg51 => ?_))
  all_goals first|refine AtT.zh ?_|refine AtT.ze ?_|(refine AtT.zf ?_)
  all_goals first|refine AtT.zh ?_|refine AtT.ze ?_|(refine AtT.jM ?_)
  all_goals first|refine AtT.zh ?_|refine AtT.ze ?_|(first | refine AtT.zk zz ?_ | with_reducible refine AtT.zl zz ?_ | refine AtT.zn zz ?_)
  all_goals first|refine AtT.zh ?_|refine AtT.ze ?_|(first | refine AtT.zm qo ?_ | refine AtT.zo qo ?_)
  all_goals first|refine AtT.zh ?_|refine AtT.ze ?_|(first | refine AtT.zR Tryz.underlying24 ?_ | refine AtT.zQ Tryz.underlying24 ?_)
  all_goals first|refine AtT.zh ?_|refine AtT.ze ?_|(refine AtT.qI ?_)
  all_goals (refine AtT.zS (d := 57) rfl ((by simp)) ?_)
  all_goals (refine AtT.zx ?_)
  all_goals refine AtT.done ?_
  all_goals (refine At.nrm ?_)
  all_goals refine At.zX rfl rfl ?_
  refine At.nrm ?_
  have hN0 : N[0]? = some (n0 : Int) := by rw [hN2]; rfl
  refine At.zi (.q 0 (.q 1 (.q 2 (.q 3 (.n false 4 (.n true 5 .done)))))) ?_
  refine AtT.zf ?_
  refine AtT.qm Tryz.underlying28 tk2 ?_
  intro p60 e60 he60 hc60
  first | refine AtT.zm tk2 ?_ | refine AtT.zo tk2 ?_
  obtain rfl : (n0 : Int) = e60 := by have : N[0]? = some e60 := he60; rw [hN0] at this; exact Option.some.inj this
  refine AtT.qy (bd80_0 _) ?_
  refine AtT.zT z80 ?_
  intro b13
  refine AtT.zy qO ?_
  refine AtT.done ?_
  refine At.nrm ?_
  refine At.nrm ?_
  refine At.zi (.q 0 (.q 1 (.n false 2 .done))) ?_
  refine AtT.zf ?_
  refine AtT.ktail Tryz.underlying28 tk2 ?_
  intro a64 c64 hs64
  refine AtT.qg rfl rfl ok114 (chunk_f _ _ _ _) ?_
  rintro v65 V65 hV65 ⟨q2, q3, rfl, hq2, hq3⟩
  refine AtT.done ?_
  refine At.nrm ?_
  have hdrop : N.drop (Int.toNat 1) = nt.map fun v : Nat => (v : Int) := by rw [hN2]; rfl
  have hs64' : SlI V65 (.slice a64 (N.drop (Int.toNat 1)).length c64) (N.drop (Int.toNat 1)) := hs64.le hV65
  have hDl : (N.drop (Int.toNat 1)).length = 2 * (nt.length / 2) := by rw [hdrop, List.length_map]; exact hntl
  have hit := itChunk_f a64 (nt.length / 2) c64 (N.drop (Int.toNat 1)) hDl (by omega) q2 q3 V65 hq2 hq3 hs64'
  have hpl : (pairs nt).length = nt.length / 2 := pairs_len nt
  have k65 := kN.trans hV65
  have hq65 := hqN.le hV65
  refine At.newRow 69 2 ?_
  refine At.rangeFunc (Vi := V65) (ys := ysK a64 (nt.length / 2)) (ι := Nat × Option Addr × Nat) (fun g => g.1)
   (fun g => .blk b13 (LC [iv (n0 : Int), .slice g.2.1 ((pairs nt).take g.1).length g.2.2] 80) :: .row (.slice g.2.1 ((pairs nt).take g.1).length g.2.2) 69 2 ((pairs nt).take g.1).length (flat pte ((pairs nt).take g.1)) :: .blk b (LC [.slice ar qs.length cr, .slice ae ([] : List En).length ce] 26) :: .row (.slice ar qs.length cr) 80 2 qs.length (flat rce qs) :: .row (.slice ae ([] : List En).length ce) 36 4 ([] : List En).length (flat ene ([] : List En)) :: O)
   (fun g V' => Le V65 V') (fun _ _ _ => False) rfl ok132 (0, none, 0) rfl ?_ (Le.refl _) hit (fun _ _ h => h) (by decide) (fun y hy => by obtain ⟨k, _, rfl⟩ := List.mem_map.1 hy; rfl) rfl ?_ ?_ (fun _ _ _ _ h => h.elim)
  ·exact Pt.zV
  ·rintro ⟨k, ap, cp⟩ y l D r V3 ks' O' hy hVV3 hl3 rfl rfl
   dsimp only at hy ⊢
   have hk : k < nt.length / 2 := by
    have := (List.getElem?_eq_some_iff.1 hy).1
    rwa [ysK_len] at this
   obtain ⟨p64, rfl⟩ : ∃ p, a64 = some p := by
    obtain ⟨a0, c0, he, _, _, hsome, _⟩ := id hs64'
    cases he
    exact Option.isSome_iff_exists.1 (hsome (fun h => by rw [h] at hDl; simp at hDl; omega))
   rw [ysK_at _ hk] at hy
   obtain rfl := (Option.some.inj hy).symm
   obtain ⟨x, hx⟩ : ∃ x, nt[2 * k]? = some x := ⟨_, List.getElem?_eq_getElem (by omega)⟩
   obtain ⟨z, hz⟩ : ∃ z, nt[2 * k + 1]? = some z := ⟨_, List.getElem?_eq_getElem (by omega)⟩
   have k3 := k65.trans hVV3
   have hpk := pairs_at hx hz
   have htk := jq hpk
   have htl : ((pairs nt).take k).length = k := by rw [List.length_take]; omega
   have hxz : SlI V3 (.slice (some (p64.add (2 * k))) 2 2) [(x : Int), (z : Int)] := sl_sub2 (hs64'.le hVV3) (by rw [hdrop]; exact nat_list _ _ _ hx) (by rw [hdrop]; exact nat_list _ _ _ hz)
   show At _ _ ((66, .slice (some (p64.add (2 * k))) 2 2) :: _) _ _ _
   refine At.nrm ?_
   refine At.zi (.q 0 .done) ?_
   refine AtT.zg ?_
   refine AtT.done ?_
   refine At.nrm ?_
   refine At.begin zP.zI ?_
   refine At.nrm ?_
   refine At.draw (.q 0 (.q 1 (.q 2 (.q 3 (.q 4 (.q 5 (.q 6 (.q 7 (.q 8 (.n false 9 (.n true 10 (.q 11 (.n true 12 .done))))))))))))) ffm (by kernel_rfl) ?_
   first | refine AtT.zk zK ?_ | with_reducible refine AtT.zl zK ?_ | refine AtT.zn zK ?_
   first | refine AtT.zm qM ?_ | refine AtT.zo qM ?_
   refine AtT.zf ?_
   refine AtT.idx rfl trivial Tryz.underlying28 tk2 rfl hxz rfl (by decide) (by show (0 : Int) < ((2 : Nat) : Int); decide) (by decide) ?_
   intro p70 e70 he70 hc70
   first | refine AtT.zm tk2 ?_ | refine AtT.zo tk2 ?_
   obtain rfl : (x : Int) = e70 := by have : [(x : Int), (z : Int)][0]? = some e70 := he70; exact Option.some.inj this
   refine AtT.zf ?_
   refine AtT.idx rfl trivial Tryz.underlying28 tk2 rfl hxz rfl (by decide) (by show (1 : Int) < ((2 : Nat) : Int); decide) (by decide) ?_
   intro p73 e73 he73 hc73
   first | refine AtT.zm tk2 ?_ | refine AtT.zo tk2 ?_
   obtain rfl : (z : Int) = e73 := by have : [(x : Int), (z : Int)][1]? = some e73 := he73; exact Option.some.inj this
   refine AtT.qy (bd69_0_1 _ _) ?_
   refine AtT.zN (bs66_1_0 _ _) ?_
   intro q76 V76 hV76 hq76
   have g76 : Le V V76 := by first | exact hV76 | exact Le.trans (by assumption) hV76
   first | refine AtT.qX Tryz.underlying66 rw69 ?_
   intro a77 c77
   first | refine AtT.zk zK ?_ | with_reducible refine AtT.zl zK ?_ | refine AtT.zn zK ?_
   first | refine AtT.jc qM ?_ | refine AtT.zy qM ?_
   refine AtT.done ?_
   refine At.nrm ?_
   refine At.roundN (k + 1, a77, c77) rfl (by first | assumption | exact Le.trans (by assumption) (by assumption)) zP.zI ?_
   dsimp only
   rw [htk, qY, show ((pairs nt).take k ++ [(⟨x, z⟩ : Pt)]).length = ((pairs nt).take k).length + 1 from by rw [List.length_append]; rfl]
   exact Pt.zV
  rintro ⟨k, ap, cp⟩ D V3 O' hk hVV3 hl3 rfl
  dsimp only at hk ⊢
  rw [ysK_len] at hk
  subst hk
  rw [show (pairs nt).take (nt.length / 2) = pairs nt from by rw [← hpl, List.take_length]]
  refine At.jF (l := pairs nt) pte_len rfl rfl zP.zI (fun V4 hV4 hsP => ?_)
  have hq4 := (hq65.le hVV3).le hV4
  have k4 := (k65.trans hVV3).trans hV4
  refine At.nrm ?_
  refine At.drawC (.blk b13 (LC [iv (n0 : Int), .slice ap (pairs nt).length cp] 80) :: .blk b (LC [.slice ar qs.length cr, .slice ae ([] : List En).length ce] 26) :: .row (.slice ae ([] : List En).length ce) 36 4 ([] : List En).length (flat ene ([] : List En)) :: O) (.q 0 (.q 1 (.q 2 (.q 3 (.q 4 (.q 5 (.n false 6 (.n false 7 (.q 8 (.q 9 (.n true 10 .done))))))))))) ffm (by kernel_rfl) Pt.zV ?_
  refine AtC.pre (fun hle0 => ?_)
  refine AtC.kq (hp := Pt.zV) (by (refine AtT.zf ?_); exact At.knows) ?_
  refine AtC.kq (hp := Pt.zV) (by (refine AtT.zf ?_); exact At.knows) ?_
  refine AtC.kq (hp := Pt.zV) (by (refine AtT.jM ?_); exact At.knows) ?_
  refine AtC.kq (hp := Pt.zV) (by (first | refine AtT.zk zC ?_ | with_reducible refine AtT.zl zC ?_ | refine AtT.zn zC ?_); exact At.knows) ?_
  refine AtC.kq (hp := Pt.zV) (by (first | refine AtT.zm qz ?_ | refine AtT.zo qz ?_); exact At.knows) ?_
  refine AtC.kq (hp := Pt.zV) (by (first | refine AtT.zF qO ?_ | refine AtT.zJ qO ?_ | refine AtT.zD qO ?_); exact At.knows) ?_
  refine AtC.nz ?_
  refine AtT.zN (bs22_1_0 _ _ _ _) ?_
  intro q85 V85 hV85 hq85
  have g85 : Le V V85 := by first | exact hV85 | exact Le.trans (by assumption) hV85
  refine AtC.kgo (hp := Pt.zV) ?_
  refine AtC.nz ?_
  first | refine AtT.qX Tryz.underlying22 rw80 ?_
  intro a86 c86
  refine AtC.kgo (hp := Pt.zV) ?_
  refine AtC.kq (hp := Pt.zV) (by (refine AtT.jM ?_); exact At.knows) ?_
  refine AtC.kq (hp := Pt.zV) (by (first | refine AtT.zk zC ?_ | with_reducible refine AtT.zl zC ?_ | refine AtT.zn zC ?_); exact At.knows) ?_
  refine AtC.toT ?_
  first | refine AtT.jc qz ?_ | refine AtT.zy qz ?_
  refine AtT.done ?_
  refine At.nrm ?_
  refine At.nrm ?_
  refine At.zi (.q 0 .done) ?_
  refine AtT.zg ?_
  refine AtT.done ?_
  refine At.nrm ?_
  refine At.unmark (.inl rfl) rfl zP.zI ?_
  refine At.pt (O' := BkO b a86 c86 (qs ++ [((⟨(n0 : Int), pairs nt⟩ : Rc), ap, cp)]) ae ce [] O) ?_ ?_
  ·unfold BkO
   rw [qY, show (qs ++ [((⟨(n0 : Int), pairs nt⟩ : Rc), ap, cp)]).length = qs.length + 1 from by rw [List.length_append]; rfl]
   exact Pt.zV
  refine At.kr (cx := cx) rfl (.tmp rfl) ⟨k4.trans hV85, .inr ⟨a86, c86, qs ++ [((⟨(n0 : Int), pairs nt⟩ : Rc), ap, cp)], ae, ce, [], ?_, rfl, rfl, fun x hx => ?_⟩⟩
  ·rw [List.map_append]; exact hrd.trans hrn
  ·rcases List.mem_append.1 hx with hx | hx
   ·exact (hq4.le hV85) x hx
   ·obtain rfl := List.mem_singleton.1 hx
    exact hsP.le hV85
 obtain ⟨hw1, hKw⟩ := hKr hK1
 have hkr : jf w ≠ 0 := fun h => hK1 (hKw.trans h)
 refine At.nrm ?_
 refine At.zi (.q 0 (.q 1 (.q 2 .done))) ?_
 first | refine AtT.zk jG ?_ | with_reducible refine AtT.zl jG ?_ | refine AtT.zn jG ?_
 first | refine AtT.zm tk3 ?_ | refine AtT.zo tk3 ?_
 refine AtT.qF ?_
 refine AtT.done ?_
 refine At.nrm ?_
 refine At.qb rfl (fun hK4 => ?_) (fun hK4 => ?_)
 ·refine At.nrm ?_
  refine At.zi (.q 0 (.n false 1 (.n true 2 (.q 3 .done)))) ?_
  refine AtT.zf ?_
  refine AtT.zN (bs28_1_0 _) ?_
  intro q93 V93 hV93 hq93
  have g93 : Le V V93 := by first | exact hV93 | exact Le.trans (by assumption) hV93
  first | refine AtT.qX Tryz.underlying28 rw2 ?_
  intro a94 c94
  refine AtT.zg ?_
  refine AtT.done ?_
  refine At.nrm ?_
  refine At.jF (l := N ++ [0]) Lw.jU (by unfold flat; rw [List.flatMap_append]) (by rw [List.length_append]) zP.zI (fun VN hVN hsN => ?_)
  have kN := (kV.trans hV93).trans hVN
  have hqN := (hqV.le hV93).le hVN
  have hML : (N ++ [0]).length = n.length + 1 := by rw [List.length_append, hNl]; rfl
  by_cases h3 : n.length = 2
  rotate_left
  ·have hrn : rdW ⟨qs.map (·.1), es⟩ w n = none := by unfold rdW; rw [if_neg hw1, if_neg hkr, if_pos (.inl ⟨by rw [← hKw]; exact hK4, h3⟩)]
   refine At.nrm ?_
   refine At.zi (.q 0 (.q 1 (.q 2 .done))) ?_
   refine AtT.zf ?_
   first | refine AtT.zR Tryz.underlying28 ?_ | refine AtT.zQ Tryz.underlying28 ?_
   refine AtT.qE ?_
   refine AtT.qa (d := 97) rfl ((by omega)) ?_
   refine AtT.done ?_
   refine At.nrm ?_
   all_goals refine At.zU rfl rfl ?_
   refine At.nrm ?_
   refine At.zi (.q 0 .done) ?_
   refine AtT.zg ?_
   refine AtT.done ?_
   refine At.nrm ?_
   refine At.plain (.inl rfl) rfl ?_
   refine At.pt (O' := O) Pt.zV ?_
   exact At.kr rfl (.tmp rfl) ⟨kN, .inl ⟨hrd.trans hrn, rfl, rfl⟩⟩
  have hrn : rdW ⟨qs.map (·.1), es⟩ w n = some ⟨qs.map (·.1), es ++ [⟨(n.getD 0 0 : Nat), K, (n.getD 1 0 : Nat), 0⟩]⟩ := by
   unfold rdW
   rw [if_neg hw1, if_neg hkr, if_neg (fun h => h.elim (fun h => h.2 h3) (fun h => h.1 (by rw [← hKw]; exact hK4))), ← hKw, if_pos hK4]
  obtain ⟨x, y, rfl⟩ : ∃ x y, n = [x, y] := by
   match n, h3 with
   | [x, y], _ => exact ⟨x, y, rfl⟩
  have hM0 : (N ++ [0])[0]? = some (x : Int) := by rw [← hN]; rfl
  have hM1 : (N ++ [0])[1]? = some (y : Int) := by rw [← hN]; rfl
  have hM2 : (N ++ [0])[2]? = some 0 := by rw [← hN]; rfl
  have hML3 : (N ++ [0]).length = 3 := hML
  refine At.nrm ?_
  refine At.zi (.q 0 (.q 1 (.q 2 .done))) ?_
  refine AtT.zf ?_
  first | refine AtT.zR Tryz.underlying28 ?_ | refine AtT.zQ Tryz.underlying28 ?_
  refine AtT.qE ?_
  refine AtT.zS (d := 97) rfl ((by omega)) ?_
  refine AtT.done ?_
  refine At.nrm ?_
  all_goals refine At.zX rfl rfl ?_
  refine At.nrm ?_
  refine At.drawC (.blk b6 (LC [sT w, iv K] 140) :: .blk b (LC [.slice ar qs.length cr, .slice ae es.length ce] 26) :: .row (.slice ar qs.length cr) 80 2 qs.length (flat rce qs) :: O) (.q 0 (.q 1 (.q 2 (.q 3 (.q 4 (.q 5 (.q 6 (.q 7 (.q 8 (.q 9 (.q 10 (.q 11 (.q 12 (.q 13 (.q 14 (.q 15 (.q 16 (.n false 17 (.n false 18 (.q 19 (.q 20 (.n true 21 .done)))))))))))))))))))))) ffm (by kernel_rfl) Pt.zV ?_
  refine AtC.pre (fun hle0 => ?_)
  refine AtC.kq (hp := Pt.zV) (by (refine AtT.zf ?_); exact At.knows) ?_
  refine AtC.kq (hp := Pt.zV) (by (refine AtT.zf ?_); exact At.knows) ?_
  refine AtC.kq (hp := Pt.zV) (by (refine AtT.jM ?_); exact At.knows) ?_
  refine AtC.kq (hp := Pt.zV) (by (first | refine AtT.zk zz ?_ | with_reducible refine AtT.zl zz ?_ | refine AtT.zn zz ?_); exact At.knows) ?_
  refine AtC.kq (hp := Pt.zV) (by (first | refine AtT.zm qo ?_ | refine AtT.zo qo ?_); exact At.knows) ?_
  refine AtC.kq (hp := Pt.zV) (by (refine AtT.zf ?_); exact At.knows) ?_
  refine AtC.qm (hp := Pt.zV) Tryz.underlying28 tk2 ?_
  intro p104 e104 he104 hc104
  refine AtC.kq (hp := Pt.zV) (by (first | refine AtT.zm tk2 ?_ | refine AtT.zo tk2 ?_); exact At.knows) ?_
  obtain rfl : (x : Int) = e104 := by have : (N ++ [0])[0]? = some e104 := he104; rw [hM0] at this; exact Option.some.inj this
  refine AtC.kq (hp := Pt.zV) (by (first | refine AtT.zk jG ?_ | with_reducible refine AtT.zl jG ?_ | refine AtT.zn jG ?_); exact At.knows) ?_
  refine AtC.kq (hp := Pt.zV) (by (first | refine AtT.zm tk3 ?_ | refine AtT.zo tk3 ?_); exact At.knows) ?_
  refine AtC.kq (hp := Pt.zV) (by (refine AtT.zf ?_); exact At.knows) ?_
  refine AtC.qm (hp := Pt.zV) Tryz.underlying28 tk2 ?_
  intro p109 e109 he109 hc109
  refine AtC.kq (hp := Pt.zV) (by (first | refine AtT.zm tk2 ?_ | refine AtT.zo tk2 ?_); exact At.knows) ?_
  obtain rfl : (y : Int) = e109 := by have : (N ++ [0])[1]? = some e109 := he109; rw [hM1] at this; exact Option.some.inj this
  refine AtC.kq (hp := Pt.zV) (by (refine AtT.zf ?_); exact At.knows) ?_
  refine AtC.qm (hp := Pt.zV) Tryz.underlying28 tk2 ?_
  intro p112 e112 he112 hc112
  refine AtC.kq (hp := Pt.zV) (by (first | refine AtT.zm tk2 ?_ | refine AtT.zo tk2 ?_); exact At.knows) ?_
  obtain rfl : (0 : Int) = e112 := by have : (N ++ [0])[2]? = some e112 := he112; rw [hM2] at this; exact Option.some.inj this
  refine AtC.kq (hp := Pt.zV) (by (refine AtT.qy (bd36_0_1_2_3 _ _ _ _) ?_); exact At.knows) ?_
  refine AtC.nz ?_
  refine AtT.zN (bs24_1_0 _ _ _ _) ?_
  intro q115 V115 hV115 hq115
  have g115 : Le V V115 := by first | exact hV115 | exact Le.trans (by assumption) hV115
  refine AtC.kgo (hp := Pt.zV) ?_
  refine AtC.nz ?_
  first | refine AtT.qX Tryz.underlying24 rw36 ?_
  intro a116 c116
  refine AtC.kgo (hp := Pt.zV) ?_
  refine AtC.kq (hp := Pt.zV) (by (refine AtT.jM ?_); exact At.knows) ?_
  refine AtC.kq (hp := Pt.zV) (by (first | refine AtT.zk zz ?_ | with_reducible refine AtT.zl zz ?_ | refine AtT.zn zz ?_); exact At.knows) ?_
  refine AtC.toT ?_
  first | refine AtT.jc qo ?_ | refine AtT.zy qo ?_
  refine AtT.done ?_
  refine At.nrm ?_
  refine At.nrm ?_
  refine At.zi (.q 0 .done) ?_
  refine AtT.zg ?_
  refine AtT.done ?_
  refine At.nrm ?_
  refine At.plain (.inl rfl) rfl ?_
  refine At.pt (O' := BkO b ar cr qs a116 c116 (es ++ [(⟨(x : Int), K, (y : Int), (0 : Int)⟩ : En)]) O) ?_ ?_
  ·unfold BkO
   rw [qY, show (es ++ [(⟨(x : Int), K, (y : Int), (0 : Int)⟩ : En)]).length = es.length + 1 from by rw [List.length_append]; rfl]
   exact Pt.zV
  exact At.kr (cx := cx) rfl (.tmp rfl) ⟨kN.trans hV115, .inr ⟨ar, cr, qs, a116, c116, es ++ [(⟨(x : Int), K, (y : Int), (0 : Int)⟩ : En)], hrd.trans hrn, rfl, rfl, hqN.le hV115⟩⟩
 refine At.jF (l := N) Lw.jU rfl rfl zP.zI (fun VN hVN hsN => ?_)
 have kN := kV.trans hVN
 have hqN := hqV.le hVN
 by_cases h3 : n.length = 3
 rotate_left
 ·have hML : N.length = n.length := hNl
  have hrn : rdW ⟨qs.map (·.1), es⟩ w n = none := by unfold rdW; rw [if_neg hw1, if_neg hkr, if_pos (.inr ⟨by rw [← hKw]; exact hK4, h3⟩)]
  refine At.nrm ?_
  refine At.zi (.q 0 (.q 1 (.q 2 .done))) ?_
  refine AtT.zf ?_
  first | refine AtT.zR Tryz.underlying28 ?_ | refine AtT.zQ Tryz.underlying28 ?_
  refine AtT.qE ?_
  refine AtT.qa (d := 97) rfl ((by omega)) ?_
  refine AtT.done ?_
  refine At.nrm ?_
  all_goals refine At.zU rfl rfl ?_
  refine At.nrm ?_
  refine At.zi (.q 0 .done) ?_
  refine AtT.zg ?_
  refine AtT.done ?_
  refine At.nrm ?_
  refine At.plain (.inl rfl) rfl ?_
  refine At.pt (O' := O) Pt.zV ?_
  exact At.kr rfl (.tmp rfl) ⟨kN, .inl ⟨hrd.trans hrn, rfl, rfl⟩⟩
 have hrn : rdW ⟨qs.map (·.1), es⟩ w n = some ⟨qs.map (·.1), es ++ [⟨(n.getD 0 0 : Nat), K, (n.getD 1 0 : Nat), (n.getD 2 0 : Nat)⟩]⟩ := by
  unfold rdW
  rw [if_neg hw1, if_neg hkr, if_neg (fun h => h.elim (fun h => hK4 (by rw [hKw]; exact h.1)) (fun h => h.2 h3)), ← hKw, if_neg hK4]
 obtain ⟨x, y, z, rfl⟩ : ∃ x y z, n = [x, y, z] := by
  match n, h3 with
  | [x, y, z], _ => exact ⟨x, y, z, rfl⟩
 have hM0 : N[0]? = some (x : Int) := by rw [← hN]; rfl
 have hM1 : N[1]? = some (y : Int) := by rw [← hN]; rfl
 have hM2 : N[2]? = some (z : Int) := by rw [← hN]; rfl
 have hML3 : N.length = 3 := hNl
 refine At.nrm ?_
 refine At.zi (.q 0 (.q 1 (.q 2 .done))) ?_
 refine AtT.zf ?_
 first | refine AtT.zR Tryz.underlying28 ?_ | refine AtT.zQ Tryz.underlying28 ?_
 refine AtT.qE ?_
 refine AtT.zS (d := 97) rfl ((by omega)) ?_
 refine AtT.done ?_
 refine At.nrm ?_
 all_goals refine At.zX rfl rfl ?_
 refine At.nrm ?_
 refine At.drawC (.blk b6 (LC [sT w, iv K] 140) :: .blk b (LC [.slice ar qs.length cr, .slice ae es.length ce] 26) :: .row (.slice ar qs.length cr) 80 2 qs.length (flat rce qs) :: O) (.q 0 (.q 1 (.q 2 (.q 3 (.q 4 (.q 5 (.q 6 (.q 7 (.q 8 (.q 9 (.q 10 (.q 11 (.q 12 (.q 13 (.q 14 (.q 15 (.q 16 (.n false 17 (.n false 18 (.q 19 (.q 20 (.n true 21 .done)))))))))))))))))))))) ffm (by kernel_rfl) Pt.zV ?_
 refine AtC.pre (fun hle0 => ?_)
 refine AtC.kq (hp := Pt.zV) (by (refine AtT.zf ?_); exact At.knows) ?_
 refine AtC.kq (hp := Pt.zV) (by (refine AtT.zf ?_); exact At.knows) ?_
 refine AtC.kq (hp := Pt.zV) (by (refine AtT.jM ?_); exact At.knows) ?_
 refine AtC.kq (hp := Pt.zV) (by (first | refine AtT.zk zz ?_ | with_reducible refine AtT.zl zz ?_ | refine AtT.zn zz ?_); exact At.knows) ?_
 refine AtC.kq (hp := Pt.zV) (by (first | refine AtT.zm qo ?_ | refine AtT.zo qo ?_); exact At.knows) ?_
 refine AtC.kq (hp := Pt.zV) (by (refine AtT.zf ?_); exact At.knows) ?_
 refine AtC.qm (hp := Pt.zV) Tryz.underlying28 tk2 ?_
 intro p104 e104 he104 hc104
 refine AtC.kq (hp := Pt.zV) (by (first | refine AtT.zm tk2 ?_ | refine AtT.zo tk2 ?_); exact At.knows) ?_
 obtain rfl : (x : Int) = e104 := by have : (N)[0]? = some e104 := he104; rw [hM0] at this; exact Option.some.inj this
 refine AtC.kq (hp := Pt.zV) (by (first | refine AtT.zk jG ?_ | with_reducible refine AtT.zl jG ?_ | refine AtT.zn jG ?_); exact At.knows) ?_
 refine AtC.kq (hp := Pt.zV) (by (first | refine AtT.zm tk3 ?_ | refine AtT.zo tk3 ?_); exact At.knows) ?_
 refine AtC.kq (hp := Pt.zV) (by (refine AtT.zf ?_); exact At.knows) ?_
 refine AtC.qm (hp := Pt.zV) Tryz.underlying28 tk2 ?_
 intro p109 e109 he109 hc109
 refine AtC.kq (hp := Pt.zV) (by (first | refine AtT.zm tk2 ?_ | refine AtT.zo tk2 ?_); exact At.knows) ?_
 obtain rfl : (y : Int) = e109 := by have : (N)[1]? = some e109 := he109; rw [hM1] at this; exact Option.some.inj this
 refine AtC.kq (hp := Pt.zV) (by (refine AtT.zf ?_); exact At.knows) ?_
 refine AtC.qm (hp := Pt.zV) Tryz.underlying28 tk2 ?_
 intro p112 e112 he112 hc112
 refine AtC.kq (hp := Pt.zV) (by (first | refine AtT.zm tk2 ?_ | refine AtT.zo tk2 ?_); exact At.knows) ?_
 obtain rfl : (z : Int) = e112 := by have : (N)[2]? = some e112 := he112; rw [hM2] at this; exact Option.some.inj this
 refine AtC.kq (hp := Pt.zV) (by (refine AtT.qy (bd36_0_1_2_3 _ _ _ _) ?_); exact At.knows) ?_
 refine AtC.nz ?_
 refine AtT.zN (bs24_1_0 _ _ _ _) ?_
 intro q115 V115 hV115 hq115
 have g115 : Le V V115 := by first | exact hV115 | exact Le.trans (by assumption) hV115
 refine AtC.kgo (hp := Pt.zV) ?_
 refine AtC.nz ?_
 first | refine AtT.qX Tryz.underlying24 rw36 ?_
 intro a116 c116
 refine AtC.kgo (hp := Pt.zV) ?_
 refine AtC.kq (hp := Pt.zV) (by (refine AtT.jM ?_); exact At.knows) ?_
 refine AtC.kq (hp := Pt.zV) (by (first | refine AtT.zk zz ?_ | with_reducible refine AtT.zl zz ?_ | refine AtT.zn zz ?_); exact At.knows) ?_
 refine AtC.toT ?_
 first | refine AtT.jc qo ?_ | refine AtT.zy qo ?_
 refine AtT.done ?_
 refine At.nrm ?_
 refine At.nrm ?_
 refine At.zi (.q 0 .done) ?_
 refine AtT.zg ?_
 refine AtT.done ?_
 refine At.nrm ?_
 refine At.plain (.inl rfl) rfl ?_
 refine At.pt (O' := BkO b ar cr qs a116 c116 (es ++ [(⟨(x : Int), K, (y : Int), (z : Int)⟩ : En)]) O) ?_ ?_
 ·unfold BkO
  rw [qY, show (es ++ [(⟨(x : Int), K, (y : Int), (z : Int)⟩ : En)]).length = es.length + 1 from by rw [List.length_append]; rfl]
  exact Pt.zV
 exact At.kr (cx := cx) rfl (.tmp rfl) ⟨kN.trans hV115, .inr ⟨ar, cr, qs, a116, c116, es ++ [(⟨(x : Int), K, (y : Int), (z : Int)⟩ : En)], hrd.trans hrn, rfl, rfl, hqN.le hV115⟩⟩
end Go.Proofs.YtpoignmclfdgpaaGreatDoor
set_option linter.unusedVariables false
namespace Go.Bk
open Go.Lib
def ckP : List UInt8 := [99, 104, 101, 99, 107, 32]
def qA (s : List UInt8) : List (List UInt8) := (cutAt 10 s).dropLast
def resP (s : List UInt8) : List UInt8 := (cutAt 10 s).getLastD []
theorem lin_res (s : List UInt8) : cutAt 10 s = qA s ++ [resP s] := by
 unfold qA resP
 obtain ⟨x, xs, hx⟩ := List.exists_cons_of_ne_nil (ja 10 s)
 rw [hx, List.getLastD_cons, ← List.getLast_eq_getLastD (by simp : x :: xs ≠ []), List.dropLast_concat_getLast]
theorem lin_of {s : List UInt8} {D : List (List UInt8)} {z : List UInt8} (h : cutAt 10 s = D ++ [z]) : qA s = D ∧ resP s = z := by
 unfold qA resP
 rw [h, List.dropLast_concat, List.getLastD_concat]; exact ⟨rfl, rfl⟩
def badP (s : List UInt8) : Prop := qA s = [] ∨ resP s ≠ [] ∨ ((qA s).getLastD []).length ≠ 14 ∨ ckP.isPrefixOf ((qA s).getLastD [] ++ [10]) = false
def sumP (s : List UInt8) : List UInt8 := (((qA s).getLastD []).drop 6).take 8
instance (s : List UInt8) : Decidable (badP s) := by unfold badP; infer_instance
def loadP (s : List UInt8) : Bo × Int :=
 if 4000 < s.length then (bo0, 7) else if badP s then (bo0, 8) else if (sumP s).all jT = false then (bo0, 8)
 else match je bo0 (qA s).dropLast with
  | none => (bo0, 8)
  | some b => endR b (s.take (s.length - 15)) (sumP s)
theorem cutAt_app2 (c : UInt8) (v : List UInt8) (hv : c ∉ v) : ∀ (n : Nat) (s : List UInt8), s.length ≤ n → cutAt c (s ++ (v ++ [c])) = (cutAt c s).dropLast ++ [(cutAt c s).getLastD [] ++ v, []] := by
 intro n
 induction n with
 | zero =>
  intro s hs
  obtain rfl := List.length_eq_zero_iff.1 (Nat.le_zero.1 hs)
  rw [List.nil_append, jk [] hv, jN (by simp)]; rfl
 | succ n ih =>
  intro s hs
  rcases first_of c s with h | ⟨u, t, rfl, h⟩
  ·have hn : c ∉ s ++ v := fun hm => (List.mem_append.1 hm).elim h hv
   rw [← List.append_assoc, jk [] hn, jN h, jN (by simp)]; rfl
  ·rw [List.append_assoc, List.cons_append, jk _ h, jk t h]
   simp only [List.length_append, List.length_cons] at hs
   rw [ih t (by omega)]
   obtain ⟨x, xs, hx⟩ := List.exists_cons_of_ne_nil (ja c t)
   rw [hx, List.dropLast_cons_cons, List.getLastD_cons, List.getLastD_cons, List.getLastD_cons]; rfl
theorem hx_no {l : List UInt8} (h : l.all jT = true) : (10 : UInt8) ∉ l := fun hm => by
 have := List.all_eq_true.1 h 10 hm
 exact absurd this (by decide)
theorem pre_ck {t : List UInt8} (h : ckP.isPrefixOf t = true) : t.take 6 = ckP := by
 rw [List.isPrefixOf_iff_prefix] at h
 obtain ⟨r, rfl⟩ := h; rfl
theorem loadP_eq (s : List UInt8) : loadP s = loadR s := by
 unfold loadP loadR
 by_cases h4 : 4000 < s.length
 ·rw [if_pos h4, if_pos h4]
 rw [if_neg h4, if_neg h4]
 by_cases hb : badP s ∨ (sumP s).all jT = false
 ·have hL : (if badP s then (bo0, (8 : Int)) else if (sumP s).all jT = false then (bo0, 8) else match je bo0 (qA s).dropLast with
    | none => (bo0, 8)
    | some b => endR b (s.take (s.length - 15)) (sumP s)) = (bo0, 8) := by
   rcases hb with h | h
   ·rw [if_pos h]
   ·by_cases h' : badP s
    ·rw [if_pos h']
    ·rw [if_neg h', if_pos h]
  rw [hL]
  by_cases h15 : s.length < 15
  ·rw [if_pos h15]
  rw [if_neg h15]
  by_cases ht : jY (s.drop (s.length - 15)) = false
  ·rw [if_pos ht]
  rw [if_neg ht]
  have ht : jY (s.drop (s.length - 15)) = true := by simpa using ht
  have hs : s = s.take (s.length - 15) ++ s.drop (s.length - 15) := (List.take_append_drop _ _).symm
  have htl : (s.drop (s.length - 15)).length = 15 := by rw [List.length_drop]; omega
  generalize s.take (s.length - 15) = B at hs ⊢
  generalize s.drop (s.length - 15) = t at hs ht htl ⊢
  unfold jY at ht
  simp only [Bool.and_eq_true, decide_eq_true_eq] at ht
  obtain ⟨⟨t1, t2⟩, t3⟩ := ht
  have et : t = (t.take 6 ++ (t.drop 6).take 8) ++ [10] := by
   have : t.drop 14 = (t.drop 6).drop 8 := by rw [List.drop_drop]
   rw [← t2, this, List.append_assoc, List.take_append_drop, List.take_append_drop]
  have hu : (10 : UInt8) ∉ t.take 6 ++ (t.drop 6).take 8 := fun hm => by
   rcases List.mem_append.1 hm with hm | hm
   ·rw [t1] at hm; exact absurd hm (by decide)
   ·exact hx_no t3 hm
  have hul : (t.take 6 ++ (t.drop 6).take 8).length = 14 := by
   have := congrArg List.length et
   rw [List.length_append, htl] at this
   simp only [List.length_cons, List.length_nil] at this
   omega
  have hsum : ((t.take 6 ++ (t.drop 6).take 8).drop 6).take 8 = (t.drop 6).take 8 := by
   rw [t1]
   show ((t.drop 6).take 8).take 8 = _
   rw [List.take_take]; rfl
  have hpre : ckP.isPrefixOf (t.take 6 ++ (t.drop 6).take 8 ++ [10]) = true := by
   rw [t1, List.append_assoc]; exact List.isPrefixOf_iff_prefix.2 ⟨_, rfl⟩
  generalize t.take 6 ++ (t.drop 6).take 8 = u at et hu hul hsum hpre
  rw [et] at hs
  have hc := cutAt_app2 10 u hu _ B (Nat.le_refl _)
  rw [← hs] at hc
  have hcut : cutAt 10 s = ((cutAt 10 B).dropLast ++ [(cutAt 10 B).getLastD [] ++ u]) ++ [[]] := by rw [hc, List.append_assoc]; rfl
  obtain ⟨hl, hr⟩ := lin_of hcut
  have hy : (cutAt 10 B).getLastD [] ≠ [] := fun hy => by
   rw [hy, List.nil_append] at hl
   have hlast : (qA s).getLastD [] = u := by rw [hl, List.getLastD_concat]
   rcases hb with h | h
   ·unfold badP at h
    rw [hlast, hr] at h
    rcases h with h | h | h | h
    ·rw [hl] at h; simp at h
    ·exact h rfl
    ·exact h hul
    ·rw [hpre] at h; cases h
   ·unfold sumP at h
    rw [hlast, hsum, t3] at h; cases h
  cases je bo0 (cutAt 10 B).dropLast with
  | none => rfl
  | some b => simp only; rw [if_pos hy]
 have hb1 : ¬ badP s := fun h => hb (.inl h)
 have hb2 : ¬ (sumP s).all jT = false := fun h => hb (.inr h)
 rw [if_neg hb1, if_neg hb2]
 have hb2 : (sumP s).all jT = true := by simpa using hb2
 unfold badP at hb1
 have hne : qA s ≠ [] := fun h => hb1 (.inl h)
 have hz : resP s = [] := Classical.not_not.1 fun h => hb1 (.inr (.inl h))
 have hl14 : ((qA s).getLastD []).length = 14 := Classical.not_not.1 fun h => hb1 (.inr (.inr (.inl h)))
 have hpre : ckP.isPrefixOf ((qA s).getLastD [] ++ [10]) = true := by
  cases h : ckP.isPrefixOf ((qA s).getLastD [] ++ [10]) with
  | true => rfl
  | false => exact absurd (.inr (.inr (.inr h))) hb1
 have hD : qA s = (qA s).dropLast ++ [(qA s).getLastD []] := by
  obtain ⟨x, xs, hx⟩ := List.exists_cons_of_ne_nil hne
  rw [hx, List.getLastD_cons, ← List.getLast_eq_getLastD (by simp : x :: xs ≠ []), List.dropLast_concat_getLast]
 have hfree := cutAt_free 10 s
 have hs : s = nlT (qA s) := by
  have := nl_cut (s := s) hz
  exact this.symm
 unfold sumP at hb2 ⊢
 have hfr : ∀ l ∈ (qA s).dropLast, (10 : UInt8) ∉ l := fun l hl => hfree l (List.dropLast_subset _ (List.dropLast_subset _ hl))
 generalize (qA s).getLastD [] = u at hD hl14 hpre hb2 ⊢
 generalize (qA s).dropLast = D at hD hfr ⊢
 rw [hD] at hs
 have hs2 : s = nlT D ++ (u ++ [10]) := by rw [hs, nlT_snoc]
 have hsl : s.length = (nlT D).length + 15 := by
  rw [hs2, List.length_append, List.length_append, hl14]; rfl
 have htk : s.take (s.length - 15) = nlT D ∧ s.drop (s.length - 15) = u ++ [10] := by
  rw [show s.length - 15 = (nlT D).length by omega]
  constructor
  ·conv => lhs; rw [hs2]
   exact List.take_left
  ·conv => lhs; rw [hs2]
   exact List.drop_left
 rw [if_neg (by omega), htk.1, htk.2]
 have h6 : (u ++ [10]).take 6 = ckP := pre_ck hpre
 have hd6 : ((u ++ [10]).drop 6).take 8 = (u.drop 6).take 8 := by
  rw [List.drop_append_of_le_length (by omega), List.take_append_of_le_length (by rw [List.length_drop]; omega)]
 have hd14 : (u ++ [10]).drop 14 = [10] := by
  rw [show 14 = u.length from hl14.symm]; exact List.drop_left
 have htail : jY (u ++ [10]) = true := by
  unfold jY
  simp only [Bool.and_eq_true, decide_eq_true_eq]
  exact ⟨⟨h6, hd14⟩, by rw [hd6]; exact hb2⟩
 rw [if_neg (by rw [htail]; simp), cut_nl hfr, List.dropLast_concat, hd6]
 cases je bo0 D with
 | none => rfl
 | some b => simp only; rw [if_neg (by rw [List.getLastD_concat]; simp)]
theorem dw_nil (p : UInt8 → Bool) : ∀ l : List UInt8, l.dropWhile p = [] ↔ ∀ x ∈ l, p x = true
 | [] => by simp
 | a :: l => by
  rw [List.dropWhile_cons]
  cases h : p a with
  | true => simp [h, dw_nil p l]
  | false => simp [h]
theorem dw_head (p : UInt8 → Bool) : ∀ {l : List UInt8} {x : UInt8} {xs : List UInt8}, l.dropWhile p = x :: xs → p x = false
 | [], x, xs, h => by simp at h
 | a :: l, x, xs, h => by
  rw [List.dropWhile_cons] at h
  cases ha : p a with
  | true => rw [ha] at h; exact dw_head p (l := l) h
  | false => rw [ha] at h; simp at h; rw [← h.1]; exact ha
theorem trim_hx (l : List UInt8) : (trimS l [48, 49, 50, 51, 52, 53, 54, 55, 56, 57, 97, 98, 99, 100, 101, 102] = []) ↔ l.all jT = true := by
 have key : ∀ b : UInt8, ([48, 49, 50, 51, 52, 53, 54, 55, 56, 57, 97, 98, 99, 100, 101, 102] : List UInt8).contains b = jT b := by
  have : ∀ n : Fin 256, ([48, 49, 50, 51, 52, 53, 54, 55, 56, 57, 97, 98, 99, 100, 101, 102] : List UInt8).contains (UInt8.ofNat n.val) = jT (UInt8.ofNat n.val) := by decide +kernel
  intro b
  have hb := this ⟨b.toNat, b.toNat_lt⟩
  simpa using hb
 unfold trimS trimLeftS trimRightS
 simp only [key]
 show List.dropWhile jT (List.dropWhile jT l.reverse).reverse = [] ↔ _
 rw [dw_nil]
 constructor
 ·intro h
  cases hd : l.reverse.dropWhile jT with
  | nil => exact List.all_eq_true.2 fun x hx => (dw_nil jT _).1 hd x (List.mem_reverse.2 hx)
  | cons a r =>
   have h3 := dw_head jT hd
   have h4 := h a (by rw [hd]; simp)
   rw [h3] at h4; cases h4
 ·intro h x hx
  have hm : x ∈ l.reverse.dropWhile jT := List.mem_reverse.1 hx
  have := (List.dropWhile_sublist _).subset hm
  exact List.all_eq_true.1 h x (List.mem_reverse.1 this)
theorem trimSuf_nl (u : List UInt8) : trimSuffix (u ++ [10]) [10] = u := by
 unfold trimSuffix hasSuffix
 rw [if_pos (by rw [List.isSuffixOf_iff_suffix]; exact ⟨u, rfl⟩)]
 simp
end Go.Bk
set_option linter.unusedVariables false
namespace Go.Proofs.YtpoignmclfdgpaaGreatDoor
open Go.Lw Go.Gl Go.Bk Go.RowKit
theorem read_bad {cx : Cx} {O : List Own} {V : View} (b : Nat) (ar : Option Addr) (cr : Nat) (qs : List RcQ) (ae : Option Addr) (ce : Nat) (es : List En) (s : List UInt8) (hs : s.length ≤ 4000) (hq1 : qs.length ≤ 5000) (he1 : es.length ≤ 5000) (hg : GvV V) (hq : RsQ V qs) (h : rdL ⟨qs.map (·.1), es⟩ s = none) :
  FncM Tryz.prog cx 80 [.pointer (some ⟨b, 0, none⟩), sT s] (BkO b ar cr qs ae ce es O) V fun r O' V' => Le V V' ∧ r = .bool false ∧ O' = O :=
 kv (read_f b ar cr qs ae ce es s hs hq1 he1 hg hq) fun r O' V' ⟨h1, h2⟩ => by
  rcases h2 with ⟨_, a, c⟩ | ⟨ar', cr', qs', ae', ce', es', e, _⟩
  ·exact ⟨h1, a, c⟩
  ·rw [h] at e; cases e
theorem read_ok {cx : Cx} {O : List Own} {V : View} (b : Nat) (ar : Option Addr) (cr : Nat) (qs : List RcQ) (ae : Option Addr) (ce : Nat) (es : List En) (s : List UInt8) (hs : s.length ≤ 4000) (hq1 : qs.length ≤ 5000) (he1 : es.length ≤ 5000) (hg : GvV V) (hq : RsQ V qs) {b' : Bo} (h : rdL ⟨qs.map (·.1), es⟩ s = some b') :
  FncM Tryz.prog cx 80 [.pointer (some ⟨b, 0, none⟩), sT s] (BkO b ar cr qs ae ce es O) V fun r O' V' => Le V V' ∧ r = .bool true ∧ ∃ (ar' : Option Addr) (cr' : Nat) (qs' : List RcQ) (ae' : Option Addr) (ce' : Nat) (es' : List En), b' = ⟨qs'.map (·.1), es'⟩ ∧ O' = BkO b ar' cr' qs' ae' ce' es' O ∧ RsQ V' qs' :=
 kv (read_f b ar cr qs ae ce es s hs hq1 he1 hg hq) fun r O' V' ⟨h1, h2⟩ => by
  rcases h2 with ⟨e, _⟩ | ⟨ar', cr', qs', ae', ce', es', e, hr, ho, hq'⟩
  ·rw [h] at e; cases e
  ·rw [h] at e; exact ⟨h1, hr, ar', cr', qs', ae', ce', es', Option.some.inj e, ho, hq'⟩
theorem rdAll_app : ∀ (u v : List (List UInt8)) (b : Bo), je b (u ++ v) = match je b u with
  | none => none
  | some b' => je b' v
 | [], v, b => rfl
 | x :: u, v, b => by
  simp only [List.cons_append, je]
  cases rdL b x with
  | none => rfl
  | some b' => exact rdAll_app u v b'
theorem rdL_grow {b b' : Bo} {s : List UInt8} (h : rdL b s = some b') : b'.rs.length ≤ b.rs.length + 1 ∧ b'.es.length ≤ b.es.length + 1 := by
 unfold Bk.rdL at h
 split at h
 ·cases h
 ·unfold rdW at h
  split at h
  ·split at h
   ·cases h
   ·cases h; simp
  ·split at h
   ·cases h
   ·split at h
    ·cases h
    ·cases h; simp
theorem good_len {s : List UInt8} (h : ¬ badP s) : 15 ≤ s.length ∧ (qA s).length ≠ 0 ∧ resP s = [] ∧ ((qA s).getLastD []).length = 14 ∧ ckP.isPrefixOf ((qA s).getLastD [] ++ [10]) = true := by
 unfold badP at h
 have hne : qA s ≠ [] := fun h' => h (.inl h')
 have hz : resP s = [] := Classical.not_not.1 fun h' => h (.inr (.inl h'))
 have hl14 : ((qA s).getLastD []).length = 14 := Classical.not_not.1 fun h' => h (.inr (.inr (.inl h')))
 have hpre : ckP.isPrefixOf ((qA s).getLastD [] ++ [10]) = true := by
  cases h' : ckP.isPrefixOf ((qA s).getLastD [] ++ [10]) with
  | true => rfl
  | false => exact absurd (.inr (.inr (.inr h'))) h
 refine ⟨?_, fun h' => hne (List.length_eq_zero_iff.1 h'), hz, hl14, hpre⟩
 have hD : qA s = (qA s).dropLast ++ [(qA s).getLastD []] := by
  obtain ⟨x, xs, hx⟩ := List.exists_cons_of_ne_nil hne
  rw [hx, List.getLastD_cons, ← List.getLast_eq_getLastD (by simp : x :: xs ≠ []), List.dropLast_concat_getLast]
 have hs : nlT (qA s) = s := nl_cut (s := s) hz
 have := congrArg List.length hs
 rw [hD, nlT_snoc, List.length_append, List.length_append, hl14] at this
 simp only [List.length_cons, List.length_nil] at this
 omega
theorem caf_eq (s : List UInt8) : jl 10 s = (qA s).map (· ++ [10]) ++ [resP s] := cutAf_eq 10 s
theorem caf_last (s : List UInt8) : (jl 10 s)[(qA s).length]? = some (resP s) := by rw [caf_eq, List.getElem?_append_right (by simp)]; simp
theorem caf_at {s : List UInt8} {k : Nat} (h : k < (qA s).length) : (jl 10 s)[k]? = some ((qA s)[k] ++ [10]) := by
 rw [caf_eq, List.getElem?_append_left (by simpa using h), List.getElem?_map, List.getElem?_eq_getElem h]; rfl
theorem lin_last {s : List UInt8} (h : (qA s).length ≠ 0) : (qA s)[(qA s).length - 1]'(by omega) = (qA s).getLastD [] := by
 obtain ⟨x, xs, hx⟩ := List.exists_cons_of_ne_nil (fun h' => h (by rw [h']; rfl) : qA s ≠ [])
 simp only [hx, List.getLastD_cons, ← List.getLast_eq_getLastD (by simp : x :: xs ≠ []), List.getLast_eq_getElem]
theorem caf_len (s : List UInt8) : (jl 10 s).length = (qA s).length + 1 := by rw [caf_eq]; simp
structure Lg where
 k : Nat
 qs : List RcQ
 es : List En
 ar : Option Addr
 cr : Nat
 ae : Option Addr
 ce : Nat
theorem rdAll_none {D : List (List UInt8)} {k : Nat} {x : List UInt8} {b b' : Bo} (hx : D[k]? = some x) (h1 : je b (D.take k) = some b') (h2 : rdL b' x = none) : je b D = none := by
 have hk : k < D.length := (List.getElem?_eq_some_iff.1 hx).1
 have hs : D = D.take k ++ x :: D.drop (k + 1) := by
  rw [List.getElem?_eq_getElem hk] at hx
  have : D[k] = x := by simpa using hx
  rw [← this, ← List.drop_eq_getElem_cons hk, List.take_append_drop]
 rw [hs, rdAll_app, h1]
 simp only [je, h2]
theorem rdAll_step {D : List (List UInt8)} {k : Nat} {x : List UInt8} {b b' b2 : Bo} (hx : D[k]? = some x) (h1 : je b (D.take k) = some b') (h2 : rdL b' x = some b2) : je b (D.take (k + 1)) = some b2 := by
 rw [List.take_add_one, hx]
 show je b (D.take k ++ [x]) = _
 rw [rdAll_app, h1]
 simp only [je, h2]
theorem load_f (s : List UInt8) (hsl : s.length ≤ 1000000) (V : View) (hg : GvV V) : Fnc Tryz.prog 39 [sT s] V fun r V' => ∃ u, r = .tuple #[u, iv (loadR s).2] ∧ BoV V' u (loadR s).1 := by
 rw [← loadP_eq]
 refine ql Tryz.func39 rfl Tryz.ntmps39 (Nat.le_of_ble_eq_true rfl) ?_
 intro w0 hw0
 refine At.nrm ?_
 refine At.zi (.n false 0 (.q 1 .done)) ?_
 refine AtT.zT z26 ?_
 intro b2
 refine AtT.zg ?_
 refine AtT.done ?_
 refine At.nrm ?_
 by_cases h4 : 4000 < s.length
 ·have hL : loadP s = (bo0, 7) := by unfold loadP; rw [if_pos h4]
  rw [hL]
  refine At.zi (.q 0 (.q 1 (.q 2 .done))) ?_
  refine AtT.zf ?_
  refine AtT.qR rfl trivial Tryz.underlying9 rfl (by decide) ?_
  refine AtT.qI ?_
  refine AtT.qa (d := 13) rfl ((by omega)) ?_
  refine AtT.done ?_
  refine At.nrm ?_
  all_goals refine At.zU rfl rfl ?_
  refine At.nrm ?_
  refine At.zi (.q 0 (.n true 1 (.q 2 .done))) ?_
  refine AtT.qy (bd26) ?_
  refine AtT.zy zH ?_
  refine AtT.zg ?_
  refine AtT.done ?_
  refine At.nrm ?_
  exact At.qN rfl (.agg rfl zH zP.zI rfl) (.tmp rfl) ⟨_, rfl, BoV.nil _⟩
 refine At.zi (.q 0 (.q 1 (.q 2 .done))) ?_
 refine AtT.zf ?_
 refine AtT.qR rfl trivial Tryz.underlying9 rfl (by decide) ?_
 refine AtT.qI ?_
 refine AtT.zS (d := 13) rfl ((by omega)) ?_
 refine AtT.done ?_
 refine At.nrm ?_
 all_goals refine At.zX rfl rfl ?_
 refine At.nrm ?_
 refine At.zi (.q 0 (.n false 1 (.q 2 .done))) ?_
 refine AtT.zf ?_
 refine AtT.qg rfl rfl ok77 (splitAf_f s 10 (by omega) V) ?_
 rintro v16 V16 hV16 hs16; obtain ⟨a16, c16, rfl, _, _, _, _⟩ := id hs16
 refine AtT.zg ?_
 refine AtT.done ?_
 refine At.nrm ?_
 have hcl := caf_len s
 have hlinl := (cutAt_len 10 s).1
 rw [lin_res, List.length_append] at hlinl
 simp only [List.length_cons, List.length_nil] at hlinl
 refine At.nrm ?_
 refine At.zi (.q 0 (.q 1 (.q 2 (.q 3 .done)))) ?_
 refine AtT.zf ?_
 first | refine AtT.zR Tryz.underlying121 ?_ | refine AtT.zQ Tryz.underlying121 ?_
 first | refine AtT.ji ?_ | refine AtT.jh ?_
 rw [hcl, show (((qA s).length + 1 : Nat) : Int) - 2 = ((qA s).length : Int) - 1 by omega]
 refine AtT.zg ?_
 refine AtT.done ?_
 refine At.nrm ?_
 rw [hcl] at hs16
 by_cases hbad : badP s
 ·have hL : loadP s = (bo0, 8) := by unfold loadP; rw [if_neg h4, if_pos hbad]
  rw [hL]
  by_cases c1 : (qA s).length = 0
  ·refine At.zi (.q 0 (.q 1 (.q 2 (.q 3 (.q 4 (.q 5 (.q 6 (.q 7 (.q 8 (.q 9 (.q 10 (.q 11 (.q 12 (.q 13 (.q 14 (.q 15 (.q 16 (.q 17 (.q 18 (.q 19 (.q 20 (.q 21 (.q 22 (.n false 23 (.q 24 (.q 25 .done)))))))))))))))))))))))))) ?_
   refine AtT.zf ?_
   refine AtT.qp ?_
   refine AtT.qa (d := 21) rfl ((by omega)) ?_
   refine AtT.zf ?_
   all_goals (first | refine AtT.kL 22 ?_ | refine AtT.zw (d := 22) rfl (fun hg22 => ?_) (fun hg22 => ?_) | refine AtT.zu (d := 22) rfl (fun hg22 => ?_) (fun hg22 => ?_))
   all_goals first|refine AtT.zh ?_|refine AtT.ze ?_|(refine AtT.zf ?_)
   all_goals first|refine AtT.zh ?_|refine AtT.ze ?_|(refine AtT.zf ?_)
   all_goals first|refine AtT.zh ?_|refine AtT.ze ?_|(first | refine AtT.qG ?_ | refine AtT.qd ?_)
   all_goals first|refine AtT.zh ?_|refine AtT.ze ?_|(refine AtT.qm Tryz.underlying121 tk9 ?_) ; (intro p26 e26 he26 hc26)
   all_goals first|refine AtT.zh ?_|refine AtT.ze ?_|(first | refine AtT.zm tk9 ?_ | refine AtT.zo tk9 ?_)
   all_goals first|refine AtT.zh ?_|refine AtT.ze ?_|(refine AtT.neT rfl ⟨_, _, rfl, rfl, rfl⟩ rfl rfl (by decide) ?_)
   all_goals (refine AtT.zx ?_)
   all_goals (refine AtT.zf ?_)
   all_goals (first | refine AtT.kL 30 ?_ | refine AtT.zw (d := 30) rfl (fun hg30 => ?_) (fun hg30 => ?_) | refine AtT.zu (d := 30) rfl (fun hg30 => ?_) (fun hg30 => ?_))
   all_goals first|refine AtT.zh ?_|refine AtT.ze ?_|(refine AtT.zf ?_)
   all_goals first|refine AtT.zh ?_|refine AtT.ze ?_|(refine AtT.zf ?_)
   all_goals first|refine AtT.zh ?_|refine AtT.ze ?_|(refine AtT.qm Tryz.underlying121 tk9 ?_) ; (intro p33 e33 he33 hc33)
   all_goals first|refine AtT.zh ?_|refine AtT.ze ?_|(first | refine AtT.zm tk9 ?_ | refine AtT.zo tk9 ?_)
   all_goals first|refine AtT.zh ?_|refine AtT.ze ?_|(refine AtT.qR rfl ⟨_, _, rfl, rfl, rfl⟩ Tryz.underlying9 rfl (by decide) ?_)
   all_goals first|refine AtT.zh ?_|refine AtT.ze ?_|(refine AtT.qE ?_)
   all_goals (refine AtT.zx ?_)
   all_goals (refine AtT.zf ?_)
   all_goals (first | refine AtT.kL 38 ?_ | refine AtT.zw (d := 38) rfl (fun hg38 => ?_) (fun hg38 => ?_) | refine AtT.zu (d := 38) rfl (fun hg38 => ?_) (fun hg38 => ?_))
   all_goals first|refine AtT.zh ?_|refine AtT.ze ?_|(refine AtT.zf ?_)
   all_goals first|refine AtT.zh ?_|refine AtT.ze ?_|(refine AtT.zf ?_)
   all_goals first|refine AtT.zh ?_|refine AtT.ze ?_|(refine AtT.qm Tryz.underlying121 tk9 ?_) ; (intro p41 e41 he41 hc41)
   all_goals first|refine AtT.zh ?_|refine AtT.ze ?_|(first | refine AtT.zm tk9 ?_ | refine AtT.zo tk9 ?_)
   all_goals first|refine AtT.qf ?_|refine AtT.zW ?_|((fail))
   all_goals first|refine AtT.zh ?_|refine AtT.ze ?_|(refine AtT.qC ?_)
   all_goals (refine AtT.zx ?_)
   all_goals refine AtT.done ?_
   all_goals (refine At.nrm ?_)
   all_goals refine At.zU rfl rfl ?_
   refine At.nrm ?_
   refine At.zi (.q 0 (.n true 1 (.q 2 .done))) ?_
   refine AtT.qy (bd26) ?_
   refine AtT.zy zH ?_
   refine AtT.zg ?_
   refine AtT.done ?_
   refine At.nrm ?_
   exact At.qN rfl (.agg rfl zH zP.zI rfl) (.tmp rfl) ⟨_, rfl, BoV.nil _⟩
  by_cases c2 : resP s ≠ []
  ·refine At.zi (.q 0 (.q 1 (.q 2 (.q 3 (.q 4 (.q 5 (.q 6 (.q 7 (.q 8 (.q 9 (.q 10 (.q 11 (.q 12 (.q 13 (.q 14 (.q 15 (.q 16 (.q 17 (.q 18 (.q 19 (.q 20 (.q 21 (.q 22 (.n false 23 (.q 24 (.q 25 .done)))))))))))))))))))))))))) ?_
   refine AtT.zf ?_
   refine AtT.qp ?_
   refine AtT.zS (d := 21) rfl ((by omega)) ?_
   refine AtT.zf ?_
   all_goals (first | refine AtT.kL 22 ?_ | refine AtT.zw (d := 22) rfl (fun hg22 => ?_) (fun hg22 => ?_) | refine AtT.zu (d := 22) rfl (fun hg22 => ?_) (fun hg22 => ?_))
   all_goals first|refine AtT.zh ?_|refine AtT.ze ?_|(refine AtT.zf ?_)
   all_goals first|refine AtT.zh ?_|refine AtT.ze ?_|(refine AtT.zf ?_)
   all_goals first|refine AtT.zh ?_|refine AtT.ze ?_|(first | refine AtT.qG ?_ | refine AtT.qd ?_)
   all_goals first|refine AtT.zh ?_|refine AtT.ze ?_|(refine AtT.qm Tryz.underlying121 tk9 ?_) ; (intro p26 e26 he26 hc26)
   all_goals first|refine AtT.zh ?_|refine AtT.ze ?_|(first | refine AtT.zm tk9 ?_ | refine AtT.zo tk9 ?_)
   all_goals (obtain rfl : resP s = e26 := by have : (jl 10 s)[(qA s).length]? = some e26 := (by rw [show ((qA s).length : Int) - 1 + 1 = ((qA s).length : Int) by omega, Int.toNat_natCast] at he26; exact he26); rw [caf_last] at this; exact Option.some.inj this)
   all_goals first|refine AtT.zh ?_|refine AtT.ze ?_|(refine AtT.neT rfl ⟨_, _, rfl, rfl, rfl⟩ rfl rfl (by decide) ?_)
   all_goals (refine AtT.qa (d := 28) rfl (c2) ?_)
   all_goals (refine AtT.zx ?_)
   all_goals (refine AtT.zf ?_)
   all_goals (first | refine AtT.kL 30 ?_ | refine AtT.zw (d := 30) rfl (fun hg30 => ?_) (fun hg30 => ?_) | refine AtT.zu (d := 30) rfl (fun hg30 => ?_) (fun hg30 => ?_))
   all_goals first|refine AtT.zh ?_|refine AtT.ze ?_|(refine AtT.zf ?_)
   all_goals first|refine AtT.zh ?_|refine AtT.ze ?_|(refine AtT.zf ?_)
   all_goals first|refine AtT.zh ?_|refine AtT.ze ?_|(refine AtT.qm Tryz.underlying121 tk9 ?_) ; (intro p33 e33 he33 hc33)
   all_goals first|refine AtT.zh ?_|refine AtT.ze ?_|(first | refine AtT.zm tk9 ?_ | refine AtT.zo tk9 ?_)
   all_goals first|refine AtT.zh ?_|refine AtT.ze ?_|(refine AtT.qR rfl ⟨_, _, rfl, rfl, rfl⟩ Tryz.underlying9 rfl (by decide) ?_)
   all_goals first|refine AtT.zh ?_|refine AtT.ze ?_|(refine AtT.qE ?_)
   all_goals (refine AtT.zx ?_)
   all_goals (refine AtT.zf ?_)
   all_goals (first | refine AtT.kL 38 ?_ | refine AtT.zw (d := 38) rfl (fun hg38 => ?_) (fun hg38 => ?_) | refine AtT.zu (d := 38) rfl (fun hg38 => ?_) (fun hg38 => ?_))
   all_goals first|refine AtT.zh ?_|refine AtT.ze ?_|(refine AtT.zf ?_)
   all_goals first|refine AtT.zh ?_|refine AtT.ze ?_|(refine AtT.zf ?_)
   all_goals first|refine AtT.zh ?_|refine AtT.ze ?_|(refine AtT.qm Tryz.underlying121 tk9 ?_) ; (intro p41 e41 he41 hc41)
   all_goals first|refine AtT.zh ?_|refine AtT.ze ?_|(first | refine AtT.zm tk9 ?_ | refine AtT.zo tk9 ?_)
   all_goals first|refine AtT.qf ?_|refine AtT.zW ?_|((fail))
   all_goals first|refine AtT.zh ?_|refine AtT.ze ?_|(refine AtT.qC ?_)
   all_goals (refine AtT.zx ?_)
   all_goals refine AtT.done ?_
   all_goals (refine At.nrm ?_)
   all_goals refine At.zU rfl rfl ?_
   refine At.nrm ?_
   refine At.zi (.q 0 (.n true 1 (.q 2 .done))) ?_
   refine AtT.qy (bd26) ?_
   refine AtT.zy zH ?_
   refine AtT.zg ?_
   refine AtT.done ?_
   refine At.nrm ?_
   exact At.qN rfl (.agg rfl zH zP.zI rfl) (.tmp rfl) ⟨_, rfl, BoV.nil _⟩
  by_cases c3 : ((qA s).getLastD []).length ≠ 14
  ·refine At.zi (.q 0 (.q 1 (.q 2 (.q 3 (.q 4 (.q 5 (.q 6 (.q 7 (.q 8 (.q 9 (.q 10 (.q 11 (.q 12 (.q 13 (.q 14 (.q 15 (.q 16 (.q 17 (.q 18 (.q 19 (.q 20 (.q 21 (.q 22 (.n false 23 (.q 24 (.q 25 .done)))))))))))))))))))))))))) ?_
   refine AtT.zf ?_
   refine AtT.qp ?_
   refine AtT.zS (d := 21) rfl ((by omega)) ?_
   refine AtT.zf ?_
   all_goals (first | refine AtT.kL 22 ?_ | refine AtT.zw (d := 22) rfl (fun hg22 => ?_) (fun hg22 => ?_) | refine AtT.zu (d := 22) rfl (fun hg22 => ?_) (fun hg22 => ?_))
   all_goals first|refine AtT.zh ?_|refine AtT.ze ?_|(refine AtT.zf ?_)
   all_goals first|refine AtT.zh ?_|refine AtT.ze ?_|(refine AtT.zf ?_)
   all_goals first|refine AtT.zh ?_|refine AtT.ze ?_|(first | refine AtT.qG ?_ | refine AtT.qd ?_)
   all_goals first|refine AtT.zh ?_|refine AtT.ze ?_|(refine AtT.qm Tryz.underlying121 tk9 ?_) ; (intro p26 e26 he26 hc26)
   all_goals first|refine AtT.zh ?_|refine AtT.ze ?_|(first | refine AtT.zm tk9 ?_ | refine AtT.zo tk9 ?_)
   all_goals (obtain rfl : resP s = e26 := by have : (jl 10 s)[(qA s).length]? = some e26 := (by rw [show ((qA s).length : Int) - 1 + 1 = ((qA s).length : Int) by omega, Int.toNat_natCast] at he26; exact he26); rw [caf_last] at this; exact Option.some.inj this)
   all_goals first|refine AtT.zh ?_|refine AtT.ze ?_|(refine AtT.neT rfl ⟨_, _, rfl, rfl, rfl⟩ rfl rfl (by decide) ?_)
   all_goals (refine AtT.zS (d := 28) rfl ((fun h => c2 h)) ?_)
   all_goals (refine AtT.zx ?_)
   all_goals (refine AtT.zf ?_)
   all_goals (first | refine AtT.kL 30 ?_ | refine AtT.zw (d := 30) rfl (fun hg30 => ?_) (fun hg30 => ?_) | refine AtT.zu (d := 30) rfl (fun hg30 => ?_) (fun hg30 => ?_))
   all_goals first|refine AtT.zh ?_|refine AtT.ze ?_|(refine AtT.zf ?_)
   all_goals first|refine AtT.zh ?_|refine AtT.ze ?_|(refine AtT.zf ?_)
   all_goals first|refine AtT.zh ?_|refine AtT.ze ?_|(refine AtT.qm Tryz.underlying121 tk9 ?_) ; (intro p33 e33 he33 hc33)
   all_goals first|refine AtT.zh ?_|refine AtT.ze ?_|(first | refine AtT.zm tk9 ?_ | refine AtT.zo tk9 ?_)
   all_goals (obtain rfl : (qA s).getLastD [] ++ [10] = e33 := by have : (jl 10 s)[(qA s).length - 1]? = some e33 := (by rw [show (((qA s).length : Int) - 1).toNat = (qA s).length - 1 by omega] at he33; exact he33); rw [caf_at (by omega), lin_last (by omega)] at this; exact Option.some.inj this)
   all_goals first|refine AtT.zh ?_|refine AtT.ze ?_|(refine AtT.qR rfl ⟨_, _, rfl, rfl, rfl⟩ Tryz.underlying9 rfl (by decide) ?_)
   all_goals first|refine AtT.zh ?_|refine AtT.ze ?_|(refine AtT.qE ?_)
   all_goals (refine AtT.qa (d := 36) rfl ((by rw [List.length_append]; simp only [List.length_cons, List.length_nil]; omega)) ?_)
   all_goals (refine AtT.zx ?_)
   all_goals (refine AtT.zf ?_)
   all_goals (first | refine AtT.kL 38 ?_ | refine AtT.zw (d := 38) rfl (fun hg38 => ?_) (fun hg38 => ?_) | refine AtT.zu (d := 38) rfl (fun hg38 => ?_) (fun hg38 => ?_))
   all_goals first|refine AtT.zh ?_|refine AtT.ze ?_|(refine AtT.zf ?_)
   all_goals first|refine AtT.zh ?_|refine AtT.ze ?_|(refine AtT.zf ?_)
   all_goals first|refine AtT.zh ?_|refine AtT.ze ?_|(refine AtT.qm Tryz.underlying121 tk9 ?_) ; (intro p41 e41 he41 hc41)
   all_goals first|refine AtT.zh ?_|refine AtT.ze ?_|(first | refine AtT.zm tk9 ?_ | refine AtT.zo tk9 ?_)
   all_goals first|refine AtT.qf ?_|refine AtT.zW ?_|((fail))
   all_goals first|refine AtT.zh ?_|refine AtT.ze ?_|(refine AtT.qC ?_)
   all_goals (refine AtT.zx ?_)
   all_goals refine AtT.done ?_
   all_goals (refine At.nrm ?_)
   all_goals refine At.zU rfl rfl ?_
   refine At.nrm ?_
   refine At.zi (.q 0 (.n true 1 (.q 2 .done))) ?_
   refine AtT.qy (bd26) ?_
   refine AtT.zy zH ?_
   refine AtT.zg ?_
   refine AtT.done ?_
   refine At.nrm ?_
   exact At.qN rfl (.agg rfl zH zP.zI rfl) (.tmp rfl) ⟨_, rfl, BoV.nil _⟩
  have c4 : ckP.isPrefixOf ((qA s).getLastD [] ++ [10]) = false := by
   unfold badP at hbad
   rcases hbad with h' | h' | h' | h'
   ·exact absurd (by rw [h']; rfl) c1
   ·exact absurd h' c2
   ·exact absurd h' c3
   ·exact h'
  refine At.zi (.q 0 (.q 1 (.q 2 (.q 3 (.q 4 (.q 5 (.q 6 (.q 7 (.q 8 (.q 9 (.q 10 (.q 11 (.q 12 (.q 13 (.q 14 (.q 15 (.q 16 (.q 17 (.q 18 (.q 19 (.q 20 (.q 21 (.q 22 (.n false 23 (.q 24 (.q 25 .done)))))))))))))))))))))))))) ?_
  refine AtT.zf ?_
  refine AtT.qp ?_
  refine AtT.zS (d := 21) rfl ((by omega)) ?_
  refine AtT.zf ?_
  all_goals (first | refine AtT.kL 22 ?_ | refine AtT.zw (d := 22) rfl (fun hg22 => ?_) (fun hg22 => ?_) | refine AtT.zu (d := 22) rfl (fun hg22 => ?_) (fun hg22 => ?_))
  all_goals first|refine AtT.zh ?_|refine AtT.ze ?_|(refine AtT.zf ?_)
  all_goals first|refine AtT.zh ?_|refine AtT.ze ?_|(refine AtT.zf ?_)
  all_goals first|refine AtT.zh ?_|refine AtT.ze ?_|(first | refine AtT.qG ?_ | refine AtT.qd ?_)
  all_goals first|refine AtT.zh ?_|refine AtT.ze ?_|(refine AtT.qm Tryz.underlying121 tk9 ?_) ; (intro p26 e26 he26 hc26)
  all_goals first|refine AtT.zh ?_|refine AtT.ze ?_|(first | refine AtT.zm tk9 ?_ | refine AtT.zo tk9 ?_)
  all_goals (obtain rfl : resP s = e26 := by have : (jl 10 s)[(qA s).length]? = some e26 := (by rw [show ((qA s).length : Int) - 1 + 1 = ((qA s).length : Int) by omega, Int.toNat_natCast] at he26; exact he26); rw [caf_last] at this; exact Option.some.inj this)
  all_goals first|refine AtT.zh ?_|refine AtT.ze ?_|(refine AtT.neT rfl ⟨_, _, rfl, rfl, rfl⟩ rfl rfl (by decide) ?_)
  all_goals (refine AtT.zS (d := 28) rfl ((fun h => c2 h)) ?_)
  all_goals (refine AtT.zx ?_)
  all_goals (refine AtT.zf ?_)
  all_goals (first | refine AtT.kL 30 ?_ | refine AtT.zw (d := 30) rfl (fun hg30 => ?_) (fun hg30 => ?_) | refine AtT.zu (d := 30) rfl (fun hg30 => ?_) (fun hg30 => ?_))
  all_goals first|refine AtT.zh ?_|refine AtT.ze ?_|(refine AtT.zf ?_)
  all_goals first|refine AtT.zh ?_|refine AtT.ze ?_|(refine AtT.zf ?_)
  all_goals first|refine AtT.zh ?_|refine AtT.ze ?_|(refine AtT.qm Tryz.underlying121 tk9 ?_) ; (intro p33 e33 he33 hc33)
  all_goals first|refine AtT.zh ?_|refine AtT.ze ?_|(first | refine AtT.zm tk9 ?_ | refine AtT.zo tk9 ?_)
  all_goals (obtain rfl : (qA s).getLastD [] ++ [10] = e33 := by have : (jl 10 s)[(qA s).length - 1]? = some e33 := (by rw [show (((qA s).length : Int) - 1).toNat = (qA s).length - 1 by omega] at he33; exact he33); rw [caf_at (by omega), lin_last (by omega)] at this; exact Option.some.inj this)
  all_goals first|refine AtT.zh ?_|refine AtT.ze ?_|(refine AtT.qR rfl ⟨_, _, rfl, rfl, rfl⟩ Tryz.underlying9 rfl (by decide) ?_)
  all_goals first|refine AtT.zh ?_|refine AtT.ze ?_|(refine AtT.qE ?_)
  all_goals (refine AtT.zS (d := 36) rfl ((by rw [List.length_append]; simp only [List.length_cons, List.length_nil]; omega)) ?_)
  all_goals (refine AtT.zx ?_)
  all_goals (refine AtT.zf ?_)
  all_goals (first | refine AtT.kL 38 ?_ | refine AtT.zw (d := 38) rfl (fun hg38 => ?_) (fun hg38 => ?_) | refine AtT.zu (d := 38) rfl (fun hg38 => ?_) (fun hg38 => ?_))
  all_goals first|refine AtT.zh ?_|refine AtT.ze ?_|(refine AtT.zf ?_)
  all_goals first|refine AtT.zh ?_|refine AtT.ze ?_|(refine AtT.zf ?_)
  all_goals first|refine AtT.zh ?_|refine AtT.ze ?_|(refine AtT.qm Tryz.underlying121 tk9 ?_) ; (intro p41 e41 he41 hc41)
  all_goals first|refine AtT.zh ?_|refine AtT.ze ?_|(first | refine AtT.zm tk9 ?_ | refine AtT.zo tk9 ?_)
  all_goals (obtain rfl : (qA s).getLastD [] ++ [10] = e41 := by have : (jl 10 s)[(qA s).length - 1]? = some e41 := (by rw [show (((qA s).length : Int) - 1).toNat = (qA s).length - 1 by omega] at he41; exact he41); rw [caf_at (by omega), lin_last (by omega)] at this; exact Option.some.inj this)
  all_goals first|refine AtT.qf ?_|refine AtT.zW ?_|((refine AtT.zG rfl rfl ok78 (hasPrefix_f ((qA s).getLastD [] ++ [10]) ckP _) ?_) ; (rintro _ rfl; rw [c4]))
  all_goals first|refine AtT.zh ?_|refine AtT.ze ?_|(refine AtT.qC ?_)
  all_goals (refine AtT.qJ (d := 44) rfl ((show (!false) = true from rfl)) ?_)
  all_goals (refine AtT.zx ?_)
  all_goals refine AtT.done ?_
  all_goals (refine At.nrm ?_)
  all_goals refine At.zU rfl rfl ?_
  refine At.nrm ?_
  refine At.zi (.q 0 (.n true 1 (.q 2 .done))) ?_
  refine AtT.qy (bd26) ?_
  refine AtT.zy zH ?_
  refine AtT.zg ?_
  refine AtT.done ?_
  refine At.nrm ?_
  exact At.qN rfl (.agg rfl zH zP.zI rfl) (.tmp rfl) ⟨_, rfl, BoV.nil _⟩
 obtain ⟨h15, hD0, hz, hl14, hpre⟩ := good_len hbad
 have hu15 : ((qA s).getLastD [] ++ [10]).length = 15 := by rw [List.length_append, hl14]; rfl
 have hsum : (((qA s).getLastD [] ++ [10]).take (14 : Int).toNat).drop (6 : Int).toNat = sumP s := by
  unfold sumP
  show (((qA s).getLastD [] ++ [10]).take 14).drop 6 = _
  rw [← hl14, List.take_left, List.take_of_length_le]
  rw [List.length_drop]; omega
 have hsul : (sumP s).length = 8 := by unfold sumP; rw [List.length_take, List.length_drop]; omega
 refine At.zi (.q 0 (.q 1 (.q 2 (.q 3 (.q 4 (.q 5 (.q 6 (.q 7 (.q 8 (.q 9 (.q 10 (.q 11 (.q 12 (.q 13 (.q 14 (.q 15 (.q 16 (.q 17 (.q 18 (.q 19 (.q 20 (.q 21 (.q 22 (.n false 23 (.q 24 (.q 25 .done)))))))))))))))))))))))))) ?_
 refine AtT.zf ?_
 refine AtT.qp ?_
 refine AtT.zS (d := 21) rfl ((by omega)) ?_
 refine AtT.zf ?_
 all_goals (first | refine AtT.kL 22 ?_ | refine AtT.zw (d := 22) rfl (fun hg22 => ?_) (fun hg22 => ?_) | refine AtT.zu (d := 22) rfl (fun hg22 => ?_) (fun hg22 => ?_))
 all_goals first|refine AtT.zh ?_|refine AtT.ze ?_|(refine AtT.zf ?_)
 all_goals first|refine AtT.zh ?_|refine AtT.ze ?_|(refine AtT.zf ?_)
 all_goals first|refine AtT.zh ?_|refine AtT.ze ?_|(first | refine AtT.qG ?_ | refine AtT.qd ?_)
 all_goals first|refine AtT.zh ?_|refine AtT.ze ?_|(refine AtT.qm Tryz.underlying121 tk9 ?_) ; (intro p26 e26 he26 hc26)
 all_goals first|refine AtT.zh ?_|refine AtT.ze ?_|(first | refine AtT.zm tk9 ?_ | refine AtT.zo tk9 ?_)
 all_goals (obtain rfl : resP s = e26 := by have : (jl 10 s)[(qA s).length]? = some e26 := (by rw [show ((qA s).length : Int) - 1 + 1 = ((qA s).length : Int) by omega, Int.toNat_natCast] at he26; exact he26); rw [caf_last] at this; exact Option.some.inj this)
 all_goals first|refine AtT.zh ?_|refine AtT.ze ?_|(refine AtT.neT rfl ⟨_, _, rfl, rfl, rfl⟩ rfl rfl (by decide) ?_)
 all_goals (refine AtT.zS (d := 28) rfl ((fun h => h hz)) ?_)
 all_goals (refine AtT.zx ?_)
 all_goals (refine AtT.zf ?_)
 all_goals (first | refine AtT.kL 30 ?_ | refine AtT.zw (d := 30) rfl (fun hg30 => ?_) (fun hg30 => ?_) | refine AtT.zu (d := 30) rfl (fun hg30 => ?_) (fun hg30 => ?_))
 all_goals first|refine AtT.zh ?_|refine AtT.ze ?_|(refine AtT.zf ?_)
 all_goals first|refine AtT.zh ?_|refine AtT.ze ?_|(refine AtT.zf ?_)
 all_goals first|refine AtT.zh ?_|refine AtT.ze ?_|(refine AtT.qm Tryz.underlying121 tk9 ?_) ; (intro p33 e33 he33 hc33)
 all_goals first|refine AtT.zh ?_|refine AtT.ze ?_|(first | refine AtT.zm tk9 ?_ | refine AtT.zo tk9 ?_)
 all_goals (obtain rfl : (qA s).getLastD [] ++ [10] = e33 := by have : (jl 10 s)[(qA s).length - 1]? = some e33 := (by rw [show (((qA s).length : Int) - 1).toNat = (qA s).length - 1 by omega] at he33; exact he33); rw [caf_at (by omega), lin_last (by omega)] at this; exact Option.some.inj this)
 all_goals first|refine AtT.zh ?_|refine AtT.ze ?_|(refine AtT.qR rfl ⟨_, _, rfl, rfl, rfl⟩ Tryz.underlying9 rfl (by decide) ?_)
 all_goals first|refine AtT.zh ?_|refine AtT.ze ?_|(refine AtT.qE ?_)
 all_goals (refine AtT.zS (d := 36) rfl ((by omega)) ?_)
 all_goals (refine AtT.zx ?_)
 all_goals (refine AtT.zf ?_)
 all_goals (first | refine AtT.kL 38 ?_ | refine AtT.zw (d := 38) rfl (fun hg38 => ?_) (fun hg38 => ?_) | refine AtT.zu (d := 38) rfl (fun hg38 => ?_) (fun hg38 => ?_))
 all_goals first|refine AtT.zh ?_|refine AtT.ze ?_|(refine AtT.zf ?_)
 all_goals first|refine AtT.zh ?_|refine AtT.ze ?_|(refine AtT.zf ?_)
 all_goals first|refine AtT.zh ?_|refine AtT.ze ?_|(refine AtT.qm Tryz.underlying121 tk9 ?_) ; (intro p41 e41 he41 hc41)
 all_goals first|refine AtT.zh ?_|refine AtT.ze ?_|(first | refine AtT.zm tk9 ?_ | refine AtT.zo tk9 ?_)
 all_goals (obtain rfl : (qA s).getLastD [] ++ [10] = e41 := by have : (jl 10 s)[(qA s).length - 1]? = some e41 := (by rw [show (((qA s).length : Int) - 1).toNat = (qA s).length - 1 by omega] at he41; exact he41); rw [caf_at (by omega), lin_last (by omega)] at this; exact Option.some.inj this)
 all_goals first|refine AtT.qf ?_|refine AtT.zW ?_|((refine AtT.zG rfl rfl ok78 (hasPrefix_f ((qA s).getLastD [] ++ [10]) ckP _) ?_) ; (rintro _ rfl; rw [hpre]))
 all_goals first|refine AtT.zh ?_|refine AtT.ze ?_|(refine AtT.qC ?_)
 all_goals (refine AtT.qJ (d := 44) rfl ((show (!true) = false from rfl)) ?_)
 all_goals (refine AtT.zx ?_)
 all_goals refine AtT.done ?_
 all_goals (refine At.nrm ?_)
 all_goals refine At.zX rfl rfl ?_
 refine At.nrm ?_
 refine At.zi (.q 0 (.q 1 (.q 2 (.q 3 (.q 4 (.q 5 .done)))))) ?_
 refine AtT.zf ?_
 refine AtT.zf ?_
 refine AtT.qm Tryz.underlying121 tk9 ?_
 intro p49 e49 he49 hc49
 first | refine AtT.zm tk9 ?_ | refine AtT.zo tk9 ?_
 obtain rfl : (qA s).getLastD [] ++ [10] = e49 := by have : (jl 10 s)[(qA s).length - 1]? = some e49 := (by rw [show (((qA s).length : Int) - 1).toNat = (qA s).length - 1 by omega] at he49; exact he49); rw [caf_at (by omega), lin_last (by omega)] at this; exact Option.some.inj this
 refine AtT.subT rfl trivial Tryz.underlying9 rfl rfl rfl (by decide) (by decide) (by rw [hu15]; decide) (by decide) ?_
 rw [hsum]
 refine AtT.zg ?_
 refine AtT.done ?_
 refine At.nrm ?_
 by_cases hx : (sumP s).all jT = true
 rotate_left
 ·have hL : loadP s = (bo0, 8) := by unfold loadP; rw [if_neg h4, if_neg hbad, if_pos (by simpa using hx)]
  rw [hL]
  refine At.zi (.q 0 (.n false 1 (.q 2 .done))) ?_
  refine AtT.zf ?_
  refine AtT.zG rfl rfl ok79 (trim_f (sumP s) (by omega) _) ?_
  rintro _ rfl
  refine AtT.neT rfl trivial rfl rfl (by decide) ?_
  refine AtT.qa (d := 54) rfl ((fun h => hx ((trim_hx _).1 h))) ?_
  refine AtT.done ?_
  refine At.nrm ?_
  all_goals refine At.zU rfl rfl ?_
  refine At.nrm ?_
  refine At.zi (.q 0 (.n true 1 (.q 2 .done))) ?_
  refine AtT.qy (bd26) ?_
  refine AtT.zy zH ?_
  refine AtT.zg ?_
  refine AtT.done ?_
  refine At.nrm ?_
  exact At.qN rfl (.agg rfl zH zP.zI rfl) (.tmp rfl) ⟨_, rfl, BoV.nil _⟩
 refine At.zi (.q 0 (.n false 1 (.q 2 .done))) ?_
 refine AtT.zf ?_
 refine AtT.zG rfl rfl ok79 (trim_f (sumP s) (by omega) _) ?_
 rintro _ rfl
 refine AtT.neT rfl trivial rfl rfl (by decide) ?_
 refine AtT.zS (d := 54) rfl ((fun h => h ((trim_hx _).2 hx))) ?_
 refine AtT.done ?_
 refine At.nrm ?_
 all_goals refine At.zX rfl rfl ?_
 refine At.nrm ?_
 refine At.zi (.n false 0 .done) ?_
 refine AtT.zT z26 ?_
 intro b7
 refine AtT.done ?_
 refine At.nrm ?_
 have hLL : (jl 10 s).take (((qA s).length : Int) - 1).toNat = (qA s).dropLast.map (· ++ [10]) := by
  rw [show (((qA s).length : Int) - 1).toNat = (qA s).length - 1 by omega, caf_eq, List.take_append_of_le_length (by rw [List.length_map]; omega), ← List.map_take, ← List.dropLast_eq_take]
 have hLLl : ((qA s).dropLast.map (· ++ [10])).length = (qA s).length - 1 := by rw [List.length_map, List.length_dropLast]
 refine At.zi (.q 0 (.q 1 (.q 2 (.q 3 (.q 4 .done))))) ?_
 refine AtT.zf ?_
 refine AtT.zf ?_
 refine AtT.khead Tryz.underlying121 tk9 ?_
 intro a58 c58 hs58
 rw [hLL] at hs58 ⊢
 first | refine AtT.zR Tryz.underlying121 ?_ | refine AtT.zQ Tryz.underlying121 ?_
 refine AtT.zf ?_
 refine AtT.done ?_
 refine At.nrm ?_
 refine At.newRow 80 2 ?_
 refine At.newRow 36 4 ?_
 refine At.lp (ι := Lg) (KS := fun g => [(0, sT s), (2, .pointer (some ⟨b2, 0, none⟩)), (6, sT (sumP s)), (7, .pointer (some ⟨b7, 0, none⟩)), (58, .slice a58 ((qA s).dropLast.map (· ++ [10])).length c58), (59, iv ((qA s).dropLast.map (· ++ [10])).length), (60, iv g.k)])
  (OS := fun g => BkO b7 g.ar g.cr g.qs g.ae g.ce g.es [.blk b2 (LC [.slice none 0 0, .slice none 0 0] 26)])
  (VS := fun g V' => Le V16 V' ∧ g.k ≤ ((qA s).dropLast.map (· ++ [10])).length ∧ je bo0 ((qA s).dropLast.take g.k) = some ⟨g.qs.map (·.1), g.es⟩ ∧ RsQ V' g.qs ∧ g.qs.length ≤ g.k ∧ g.es.length ≤ g.k) (μ := fun g => ((qA s).dropLast.map (· ++ [10])).length - g.k) ⟨0, [], [], none, 0, none, 0⟩ ?_ ?_ ?_ ?_
 ·exact ⟨rfl, rfl, rfl, rfl, rfl, rfl, rfl, trivial⟩
 ·unfold BkO; exact Pt.zI
 ·exact ⟨Le.refl _, Nat.zero_le _, rfl, (fun x hx => by cases hx), Nat.le_refl _, Nat.le_refl _⟩
 rintro ⟨k, qs, es, ar, cr, ae, ce⟩ V' ks' O' ⟨hVV, hkl, hrd, hq, hq1, he1⟩ hk hO hl
 dsimp only at hkl hk hO hrd hq hq1 he1
 subst hk hO
 have hs58' := hs58.le hVV
 have hgV := (hg.le hV16).le hVV
 have kV := hV16.trans hVV
 refine At.nrm ?_
 refine At.zi (.q 0 .done) ?_
 refine AtT.qp ?_
 refine AtT.done ?_
 refine At.nrm ?_
 refine At.qb rfl (fun hp => ?_) (fun hp => ?_)
 ·obtain ⟨x, hxk⟩ : ∃ x, (qA s).dropLast[k]? = some x := ⟨_, List.getElem?_eq_getElem (by rw [List.length_map] at hp; omega)⟩
  have hxl : x.length ≤ 4000 := by
   have hm : x ∈ cutAt 10 s := List.dropLast_subset _ (List.dropLast_subset _ (List.mem_of_getElem? hxk))
   have := (cutAt_len 10 s).2 x hm
   omega
  have hLx : ((qA s).dropLast.map (· ++ [10]))[k]? = some (x ++ [10]) := by rw [List.getElem?_map, hxk]; rfl
  refine At.nrm ?_
  refine At.zi (.q 0 (.q 1 (.q 2 .done))) ?_
  refine AtT.qm Tryz.underlying121 tk9 ?_
  intro p62 e62 he62 hc62
  first | refine AtT.zm tk9 ?_ | refine AtT.zo tk9 ?_
  obtain rfl : x ++ [10] = e62 := by have : ((qA s).dropLast.map (· ++ [10]))[k]? = some e62 := (by rw [Int.toNat_natCast] at he62; exact he62); rw [hLx] at this; exact Option.some.inj this
  refine AtT.zg ?_
  refine AtT.done ?_
  refine At.nrm ?_
  cases hr : rdL ⟨qs.map (·.1), es⟩ x with
  | none =>
   have hL : loadP s = (bo0, 8) := by unfold loadP; rw [if_neg h4, if_neg hbad, if_neg (by rw [hx]; simp), rdAll_none hxk hrd hr]
   rw [hL]
   refine At.zi (.q 0 (.n false 1 (.n true 2 (.q 3 .done)))) ?_
   refine AtT.zf ?_
   refine AtT.zG rfl rfl ok81 (trimSuffix_f (x ++ [10]) [10] (by rw [List.length_append]; simp only [List.length_cons, List.length_nil]; omega) _) ?_
   rintro _ rfl; rw [trimSuf_nl]
   refine AtT.jb rfl trivial rfl ok80 (by decide) (List.Perm.refl _) (read_bad b7 ar cr qs ae ce es x hxl (by omega) (by omega) hgV hq hr) ?_
   rintro _ _ V66 ⟨hV66, rfl, rfl⟩
   refine AtT.qC ?_
   refine AtT.qJ (d := 67) rfl ((show (!false) = true from rfl)) ?_
   refine AtT.done ?_
   refine At.nrm ?_
   all_goals refine At.zU rfl rfl ?_
   refine At.nrm ?_
   refine At.zi (.q 0 (.n true 1 (.q 2 .done))) ?_
   refine AtT.qy (bd26) ?_
   refine AtT.zy zH ?_
   refine AtT.zg ?_
   refine AtT.done ?_
   refine At.nrm ?_
   exact At.qN rfl (.agg rfl zH zP.zI rfl) (.tmp rfl) ⟨_, rfl, BoV.nil _⟩
  | some b' =>
   have hgr := rdL_grow hr
   have hst := rdAll_step hxk hrd hr
   refine At.zi (.q 0 (.n false 1 (.n true 2 (.q 3 .done)))) ?_
   refine AtT.zf ?_
   refine AtT.zG rfl rfl ok81 (trimSuffix_f (x ++ [10]) [10] (by rw [List.length_append]; simp only [List.length_cons, List.length_nil]; omega) _) ?_
   rintro _ rfl; rw [trimSuf_nl]
   refine AtT.jb rfl trivial rfl ok80 (by decide) (List.Perm.refl _) (read_ok b7 ar cr qs ae ce es x hxl (by omega) (by omega) hgV hq hr) ?_
   rintro _ _ V66 ⟨hV66, rfl, ar', cr', qs', ae', ce', es', rfl, rfl, hq'⟩
   refine AtT.qC ?_
   refine AtT.qJ (d := 67) rfl ((show (!true) = false from rfl)) ?_
   refine AtT.done ?_
   refine At.nrm ?_
   all_goals refine At.zX rfl rfl ?_
   dsimp only at hgr
   rw [List.length_map, List.length_map] at hgr
   refine At.nrm ?_
   refine At.zi (.q 0 (.q 1 .done)) ?_
   first | refine AtT.qG ?_ | refine AtT.qd ?_
   refine AtT.zf ?_
   refine AtT.done ?_
   refine At.nrm ?_
   refine At.round ⟨k + 1, qs', es', ar', cr', ae', ce'⟩ ?_ ?_ ?_ ?_
   ·show ((qA s).dropLast.map (· ++ [10])).length - (k + 1) < ((qA s).dropLast.map (· ++ [10])).length - k; omega
   ·exact ⟨hVV.trans hV66, by dsimp only; omega, hst, hq', by dsimp only; omega, by dsimp only; omega⟩
   ·exact ⟨rfl, rfl, rfl, rfl, rfl, rfl, ivs (by dsimp only; omega), trivial⟩
   ·exact pt_all _
 obtain rfl : k = ((qA s).dropLast.map (· ++ [10])).length := by omega
 rw [List.take_of_length_le (by rw [List.length_map]; exact Nat.le_refl _)] at hrd
 unfold BkO
 refine At.jF (l := qs) rce_len rfl rfl zP.zI (fun V3 hV3 hsq => ?_)
 refine At.jF (l := es) ene_len rfl rfl zP.zI (fun V4 hV4 hse => ?_)
 have hbo : BoV V4 (.agg #[.slice ar qs.length cr, .slice ae es.length ce]) ⟨qs.map (·.1), es⟩ := ⟨_, ae, ce, rfl, ⟨qs, ar, cr, rfl, rfl, hsq.le hV4, (hq.le hV3).le hV4⟩, hse⟩
 have hg4 := (hgV.le hV3).le hV4
 have k4 := (kV.trans hV3).trans hV4
 have hLs : loadP s = endR ⟨qs.map (·.1), es⟩ (s.take (s.length - 15)) (sumP s) := by unfold loadP; rw [if_neg h4, if_neg hbad, if_neg (by rw [hx]; simp), hrd]
 rw [hLs]
 unfold endR
 by_cases hc : chk (s.take (s.length - 15)) = sumP s
 rotate_left
 ·rw [if_pos hc]
  refine At.nrm ?_
  refine At.zi (.q 0 (.q 1 (.q 2 (.q 3 (.q 4 (.n false 5 (.q 6 (.q 7 .done)))))))) ?_
  refine AtT.zf ?_
  refine AtT.zf ?_
  refine AtT.qR rfl trivial Tryz.underlying9 rfl (by decide) ?_
  first | refine AtT.ji ?_ | refine AtT.jh ?_
  refine AtT.subHT rfl trivial Tryz.underlying9 rfl rfl (by omega) (by omega) (by decide) ?_
  rw [show ((s.length : Int) - 15).toNat = s.length - 15 by omega]
  refine AtT.zG rfl rfl ok72 (check_f (s.take (s.length - 15)) (by rw [List.length_take]; omega) _ hg4) ?_
  rintro _ rfl
  refine AtT.zf ?_
  refine AtT.neT rfl trivial rfl rfl (by decide) ?_
  refine AtT.qa (d := 77) rfl (hc) ?_
  refine AtT.done ?_
  refine At.nrm ?_
  all_goals refine At.zU rfl rfl ?_
  refine At.nrm ?_
  refine At.zi (.q 0 (.n true 1 (.q 2 .done))) ?_
  refine AtT.qy (bd26) ?_
  refine AtT.zy zH ?_
  refine AtT.zg ?_
  refine AtT.done ?_
  refine At.nrm ?_
  exact At.qN rfl (.agg rfl zH zP.zI rfl) (.tmp rfl) ⟨_, rfl, BoV.nil _⟩
 rw [if_neg (fun h => h hc)]
 refine At.nrm ?_
 refine At.zi (.q 0 (.q 1 (.q 2 (.q 3 (.q 4 (.n false 5 (.q 6 (.q 7 .done)))))))) ?_
 refine AtT.zf ?_
 refine AtT.zf ?_
 refine AtT.qR rfl trivial Tryz.underlying9 rfl (by decide) ?_
 first | refine AtT.ji ?_ | refine AtT.jh ?_
 refine AtT.subHT rfl trivial Tryz.underlying9 rfl rfl (by omega) (by omega) (by decide) ?_
 rw [show ((s.length : Int) - 15).toNat = s.length - 15 by omega]
 refine AtT.zG rfl rfl ok72 (check_f (s.take (s.length - 15)) (by rw [List.length_take]; omega) _ hg4) ?_
 rintro _ rfl
 refine AtT.zf ?_
 refine AtT.neT rfl trivial rfl rfl (by decide) ?_
 refine AtT.zS (d := 77) rfl ((fun h => h hc)) ?_
 refine AtT.done ?_
 refine At.nrm ?_
 all_goals refine At.zX rfl rfl ?_
 refine At.nrm ?_
 by_cases hb0 : bkE ⟨qs.map (·.1), es⟩ = 0
 rotate_left
 ·rw [if_pos hb0]
  refine At.zi (.q 0 (.n false 1 (.q 2 .done))) ?_
  first | refine AtT.zF zH ?_ | refine AtT.zJ zH ?_ | refine AtT.zD zH ?_
  refine AtT.zG rfl rfl ok27 (checkBook_f ⟨qs.map (·.1), es⟩ _ _ hbo) ?_
  rintro _ rfl
  refine AtT.zg ?_
  refine AtT.done ?_
  refine At.nrm ?_
  refine At.nrm ?_
  refine At.zi (.q 0 (.q 1 .done)) ?_
  refine AtT.zf ?_
  refine AtT.qE ?_
  refine AtT.done ?_
  refine At.nrm ?_
  refine At.zU rfl (decide_eq_true hb0) ?_
  refine At.nrm ?_
  refine At.zi (.q 0 (.q 1 (.n true 2 (.q 3 .done)))) ?_
  refine AtT.qy (bd26) ?_
  refine AtT.zf ?_
  refine AtT.zy zH ?_
  refine AtT.zg ?_
  refine AtT.done ?_
  refine At.nrm ?_
  exact At.qN rfl (.agg rfl zH zP.zI rfl) (.tmp rfl) ⟨_, rfl, BoV.nil _⟩
 rw [if_neg (fun h => h hb0)]
 refine At.zi (.q 0 (.n false 1 (.q 2 .done))) ?_
 first | refine AtT.zF zH ?_ | refine AtT.zJ zH ?_ | refine AtT.zD zH ?_
 refine AtT.zG rfl rfl ok27 (checkBook_f ⟨qs.map (·.1), es⟩ _ _ hbo) ?_
 rintro _ rfl
 refine AtT.zg ?_
 refine AtT.done ?_
 refine At.nrm ?_
 refine At.nrm ?_
 refine At.zi (.q 0 (.q 1 .done)) ?_
 refine AtT.zf ?_
 refine AtT.qE ?_
 refine AtT.done ?_
 refine At.nrm ?_
 refine At.zX rfl (decide_eq_false (fun h => h hb0)) ?_
 refine At.nrm ?_
 refine At.zi (.q 0 (.n true 1 (.q 2 .done))) ?_
 first | refine AtT.zF zH ?_ | refine AtT.zJ zH ?_ | refine AtT.zD zH ?_
 refine AtT.zy zH ?_
 refine AtT.zg ?_
 refine AtT.done ?_
 refine At.nrm ?_
 exact At.qN rfl (.agg rfl zH zP.zI rfl) (.tmp rfl) ⟨_, rfl, hbo⟩
end Go.Proofs.YtpoignmclfdgpaaGreatDoor
set_option linter.unusedVariables false
namespace Go.Proofs.YtpoignmclfdgpaaGreatDoor
open Go.Lw Go.Gl Go.Bk Go.RowKit
theorem kind_no {w : List UInt8} (h : ∀ j : Int, 1 ≤ j → j < 5 → wd j ≠ w) : jf w = 0 := by
 unfold jf
 rw [if_neg (fun e => h 1 (by decide) (by decide) e.symm), if_neg (fun e => h 2 (by decide) (by decide) e.symm), if_neg (fun e => h 3 (by decide) (by decide) e.symm), if_neg (fun e => h 4 (by decide) (by decide) e.symm)]
theorem kindOf_f (w : List UInt8) (V : View) : Fnc Tryz.prog 118 [sT w] V fun r _ => r = iv (jf w) := by
 refine ql Tryz.func118 rfl Tryz.ntmps118 (Nat.le_of_ble_eq_true rfl) ?_
 intro w0 hw0
 refine At.nrm ?_
 refine At.zi (.q 0 .done) ?_
 refine AtT.zg ?_
 refine AtT.done ?_
 refine At.nrm ?_
 refine At.zi (.q 0 .done) ?_
 refine AtT.zg ?_
 refine AtT.done ?_
 refine At.nrm ?_
 refine At.lp (ι := Nat) (KS := fun k => [(0, sT w), (3, iv k)]) (OS := fun _ => [])
  (VS := fun k V' => V' = V ∧ 1 ≤ k ∧ k ≤ 5 ∧ ∀ j : Int, 1 ≤ j → j < k → wd j ≠ w) (μ := fun k => 5 - k) 1 ?_ ?_ ?_ ?_
 ·exact ⟨rfl, rfl, trivial⟩
 ·exact Pt.zI
 ·exact ⟨rfl, Nat.le_refl _, by decide, fun j h1 h2 => absurd h1 (by omega)⟩
 rintro k V' ks' O' ⟨rfl, hk1, hk5, hno⟩ hk hO hl
 subst hk hO
 refine At.nrm ?_
 refine At.zi (.q 0 (.q 1 .done)) ?_
 refine AtT.zf ?_
 refine AtT.kleq ?_
 refine AtT.done ?_
 refine At.nrm ?_
 refine At.qb rfl (fun hp => ?_) (fun hp => ?_)
 ·by_cases he : wd k = w
  ·refine At.nrm ?_
   refine At.zi (.q 0 (.n false 1 (.q 2 (.q 3 .done)))) ?_
   refine AtT.zf ?_
   refine AtT.zG rfl rfl ok85 (word_f k _) ?_
   rintro _ rfl
   refine AtT.zf ?_
   refine AtT.eqT rfl trivial rfl rfl (by decide) ?_
   refine AtT.qa (d := 11) rfl (he) ?_
   refine AtT.done ?_
   refine At.nrm ?_
   all_goals refine At.zU rfl rfl ?_
   refine At.nrm ?_
   refine At.zi (.q 0 (.q 1 .done)) ?_
   refine AtT.zf ?_
   refine AtT.zg ?_
   refine AtT.done ?_
   refine At.nrm ?_
   exact At.qh rfl (.tmp rfl) (by rw [← he, (kind_wd (k := (k : Int)) (by omega)).1])
  ·refine At.nrm ?_
   refine At.zi (.q 0 (.n false 1 (.q 2 (.q 3 .done)))) ?_
   refine AtT.zf ?_
   refine AtT.zG rfl rfl ok85 (word_f k _) ?_
   rintro _ rfl
   refine AtT.zf ?_
   refine AtT.eqT rfl trivial rfl rfl (by decide) ?_
   refine AtT.zS (d := 11) rfl (he) ?_
   refine AtT.done ?_
   refine At.nrm ?_
   all_goals refine At.zX rfl rfl ?_
   refine At.nrm ?_
   refine At.zi (.q 0 (.q 1 (.q 2 .done))) ?_
   refine AtT.zf ?_
   first | refine AtT.qG ?_ | refine AtT.qd ?_
   refine AtT.zg ?_
   refine AtT.done ?_
   refine At.nrm ?_
   refine At.round (k + 1) ?_ ?_ ?_ ?_
   ·show 5 - (k + 1) < 5 - k; omega
   ·refine ⟨rfl, by omega, by omega, fun j h1 h2 => ?_⟩
    by_cases hj : j < k
    ·exact hno j h1 hj
    ·obtain rfl : j = (k : Int) := by omega
     exact he
   ·exact ⟨rfl, ivs (by omega), trivial⟩
   ·exact Pt.zI
 obtain rfl : k = 5 := by omega
 refine At.nrm ?_
 refine At.zi (.q 0 .done) ?_
 refine AtT.zg ?_
 refine AtT.done ?_
 refine At.nrm ?_
 exact At.qh rfl (.tmp rfl) (by rw [kind_no hno])
theorem gd_at {s : List UInt8} {i : Nat} {c : UInt8} (h : s[i]? = some c) : s.getD (i : Int).toNat 0 = c := by
 rw [List.getD_eq_getElem?_getD, show (i : Int).toNat = i from rfl, h]; rfl
theorem isHx_in (c : UInt8) : jT c = true ↔ (48 ≤ (c.toNat : Int) ∧ (c.toNat : Int) ≤ 57) ∨ (97 ≤ (c.toNat : Int) ∧ (c.toNat : Int) ≤ 102) := by
 unfold jT
 simp only [Bool.or_eq_true, Bool.and_eq_true, decide_eq_true_eq]
 omega
theorem isCheck_f (s : List UInt8) (hs : s.length ≤ 1000000) (V : View) : Fnc Tryz.prog 82 [sT s] V fun r _ => r = .bool (s.all jT && decide (s.length = 8)) := by
 refine ql Tryz.func82 rfl Tryz.ntmps82 (Nat.le_of_ble_eq_true rfl) ?_
 intro w0 hw0
 refine At.nrm ?_
 refine At.zi (.q 0 .done) ?_
 refine AtT.zg ?_
 refine AtT.done ?_
 refine At.nrm ?_
 refine At.zi (.q 0 .done) ?_
 refine AtT.zg ?_
 refine AtT.done ?_
 refine At.nrm ?_
 refine At.lp (ι := Nat) (KS := fun i => [(0, sT s), (3, iv i)]) (OS := fun _ => [])
  (VS := fun i V' => V' = V ∧ i ≤ s.length ∧ (s.take i).all jT = true) (μ := fun i => s.length - i) 0 ?_ ?_ ?_ ?_
 ·exact ⟨rfl, rfl, trivial⟩
 ·exact Pt.zI
 ·exact ⟨rfl, Nat.zero_le _, rfl⟩
 rintro i V' ks' O' ⟨rfl, hi, hall⟩ hk hO hl
 subst hk hO
 refine At.nrm ?_
 refine At.zi (.q 0 (.q 1 (.q 2 (.q 3 .done)))) ?_
 refine AtT.zf ?_
 refine AtT.zf ?_
 refine AtT.qR rfl trivial Tryz.underlying9 rfl (by decide) ?_
 refine AtT.qp ?_
 refine AtT.done ?_
 refine At.nrm ?_
 refine At.qb rfl (fun hp => ?_) (fun hp => ?_)
 ·obtain ⟨c, hc⟩ : ∃ c, s[i]? = some c := ⟨_, List.getElem?_eq_getElem (by omega)⟩
  have hgd := gd_at hc
  have hin := isHx_in c
  have hbadc : jT c = false → s.all jT = false := fun h => by
   cases ha : s.all jT with
   | false => rfl
   | true => rw [List.all_eq_true.1 ha c (List.mem_of_getElem? hc)] at h; cases h
  have hokc : jT c = true → (s.take (i + 1)).all jT = true := fun h => by rw [jq hc, List.all_append, hall]; simp [h]
  by_cases h1 : 48 ≤ (c.toNat : Int)
  rotate_left
  ·refine At.nrm ?_
   refine At.zi (.q 0 (.q 1 (.q 2 (.q 3 (.q 4 (.q 5 (.q 6 (.q 7 (.q 8 (.q 9 (.q 10 (.q 11 (.q 12 (.q 13 (.q 14 (.q 15 (.q 16 (.q 17 (.q 18 (.q 19 (.q 20 (.q 21 (.q 22 .done))))))))))))))))))))))) ?_
   refine AtT.zf ?_
   refine AtT.zf ?_
   refine AtT.ixT rfl trivial Tryz.underlying9 rfl rfl (by omega) (by omega) (by decide) ?_
   rw [hgd]
   refine AtT.kgeq ?_
   refine AtT.zS (d := 13) rfl (h1) ?_
   refine AtT.zf ?_
   all_goals (first | refine AtT.kL 14 ?_ | refine AtT.zw (d := 14) rfl (fun hg14 => ?_) (fun hg14 => ?_) | refine AtT.zu (d := 14) rfl (fun hg14 => ?_) (fun hg14 => ?_))
   all_goals first|refine AtT.zh ?_|refine AtT.ze ?_|(refine AtT.zf ?_)
   all_goals first|refine AtT.zh ?_|refine AtT.ze ?_|(refine AtT.zf ?_)
   all_goals first|refine AtT.zh ?_|refine AtT.ze ?_|(refine AtT.ixT rfl ⟨_, _, rfl, rfl, rfl⟩ Tryz.underlying9 rfl rfl (by omega) (by omega) (by decide) ?_)
   all_goals first|refine AtT.zh ?_|refine AtT.ze ?_|(refine AtT.kleq ?_)
   all_goals (refine AtT.zx ?_)
   all_goals (refine AtT.zf ?_)
   all_goals (first | refine AtT.kL 20 ?_ | refine AtT.zw (d := 20) rfl (fun hg20 => ?_) (fun hg20 => ?_) | refine AtT.zu (d := 20) rfl (fun hg20 => ?_) (fun hg20 => ?_))
   all_goals first|refine AtT.zh ?_|refine AtT.ze ?_|(refine AtT.zf ?_)
   all_goals first|refine AtT.zh ?_|refine AtT.ze ?_|(refine AtT.zf ?_)
   all_goals first|refine AtT.zh ?_|refine AtT.ze ?_|(refine AtT.ixT rfl ⟨_, _, rfl, rfl, rfl⟩ Tryz.underlying9 rfl rfl (by omega) (by omega) (by decide) ?_)
   all_goals (rw [hgd])
   all_goals first|refine AtT.zh ?_|refine AtT.ze ?_|(refine AtT.kgeq ?_)
   all_goals (refine AtT.zS (d := 24) rfl ((by omega)) ?_)
   all_goals first|refine AtT.zh ?_|refine AtT.ze ?_|(refine AtT.zf ?_)
   all_goals (first | refine AtT.kL 25 ?_ | refine AtT.zw (d := 25) rfl (fun hg25 => ?_) (fun hg25 => ?_) | refine AtT.zu (d := 25) rfl (fun hg25 => ?_) (fun hg25 => ?_))
   all_goals first|refine AtT.zh ?_|refine AtT.ze ?_|(refine AtT.zf ?_)
   all_goals first|refine AtT.zh ?_|refine AtT.ze ?_|(refine AtT.zf ?_)
   all_goals first|refine AtT.zh ?_|refine AtT.ze ?_|(refine AtT.ixT rfl ⟨_, _, rfl, rfl, rfl⟩ Tryz.underlying9 rfl rfl (by omega) (by omega) (by decide) ?_)
   all_goals first|refine AtT.zh ?_|refine AtT.ze ?_|(refine AtT.kleq ?_)
   all_goals first|refine AtT.zh ?_|refine AtT.ze ?_|(refine AtT.zx ?_)
   all_goals (refine AtT.zx ?_)
   all_goals (refine AtT.qC ?_)
   all_goals (refine AtT.qJ (d := 32) rfl ((show (!false) = true from rfl)) ?_)
   all_goals refine AtT.done ?_
   all_goals (refine At.nrm ?_)
   all_goals refine At.zU rfl rfl ?_
   refine At.nrm ?_
   refine At.zi (.q 0 .done) ?_
   refine AtT.zg ?_
   refine AtT.done ?_
   refine At.nrm ?_
   exact At.qh rfl (.tmp rfl) (by rw [hbadc (by cases h : jT c with | false => rfl | true => (have := hin.1 h; omega))]; rfl)
  by_cases h2 : (c.toNat : Int) ≤ 57
  ·refine At.nrm ?_
   refine At.zi (.q 0 (.q 1 (.q 2 (.q 3 (.q 4 (.q 5 (.q 6 (.q 7 (.q 8 (.q 9 (.q 10 (.q 11 (.q 12 (.q 13 (.q 14 (.q 15 (.q 16 (.q 17 (.q 18 (.q 19 (.q 20 (.q 21 (.q 22 .done))))))))))))))))))))))) ?_
   refine AtT.zf ?_
   refine AtT.zf ?_
   refine AtT.ixT rfl trivial Tryz.underlying9 rfl rfl (by omega) (by omega) (by decide) ?_
   rw [hgd]
   refine AtT.kgeq ?_
   refine AtT.qa (d := 13) rfl (h1) ?_
   refine AtT.zf ?_
   all_goals (first | refine AtT.kL 14 ?_ | refine AtT.zw (d := 14) rfl (fun hg14 => ?_) (fun hg14 => ?_) | refine AtT.zu (d := 14) rfl (fun hg14 => ?_) (fun hg14 => ?_))
   all_goals first|refine AtT.zh ?_|refine AtT.ze ?_|(refine AtT.zf ?_)
   all_goals first|refine AtT.zh ?_|refine AtT.ze ?_|(refine AtT.zf ?_)
   all_goals first|refine AtT.zh ?_|refine AtT.ze ?_|(refine AtT.ixT rfl ⟨_, _, rfl, rfl, rfl⟩ Tryz.underlying9 rfl rfl (by omega) (by omega) (by decide) ?_)
   all_goals (rw [hgd])
   all_goals first|refine AtT.zh ?_|refine AtT.ze ?_|(refine AtT.kleq ?_)
   all_goals (refine AtT.qa (d := 18) rfl (h2) ?_)
   all_goals (refine AtT.zx ?_)
   all_goals (refine AtT.zf ?_)
   all_goals (first | refine AtT.kL 20 ?_ | refine AtT.zw (d := 20) rfl (fun hg20 => ?_) (fun hg20 => ?_) | refine AtT.zu (d := 20) rfl (fun hg20 => ?_) (fun hg20 => ?_))
   all_goals first|refine AtT.zh ?_|refine AtT.ze ?_|(refine AtT.zf ?_)
   all_goals first|refine AtT.zh ?_|refine AtT.ze ?_|(refine AtT.zf ?_)
   all_goals first|refine AtT.zh ?_|refine AtT.ze ?_|(refine AtT.ixT rfl ⟨_, _, rfl, rfl, rfl⟩ Tryz.underlying9 rfl rfl (by omega) (by omega) (by decide) ?_)
   all_goals first|refine AtT.zh ?_|refine AtT.ze ?_|(refine AtT.kgeq ?_)
   all_goals first|refine AtT.zh ?_|refine AtT.ze ?_|(refine AtT.zf ?_)
   all_goals (first | refine AtT.kL 25 ?_ | refine AtT.zw (d := 25) rfl (fun hg25 => ?_) (fun hg25 => ?_) | refine AtT.zu (d := 25) rfl (fun hg25 => ?_) (fun hg25 => ?_))
   all_goals first|refine AtT.zh ?_|refine AtT.ze ?_|(refine AtT.zf ?_)
   all_goals first|refine AtT.zh ?_|refine AtT.ze ?_|(refine AtT.zf ?_)
   all_goals first|refine AtT.zh ?_|refine AtT.ze ?_|(refine AtT.ixT rfl ⟨_, _, rfl, rfl, rfl⟩ Tryz.underlying9 rfl rfl (by omega) (by omega) (by decide) ?_)
   all_goals first|refine AtT.zh ?_|refine AtT.ze ?_|(refine AtT.kleq ?_)
   all_goals first|refine AtT.zh ?_|refine AtT.ze ?_|(refine AtT.zx ?_)
   all_goals (refine AtT.zx ?_)
   all_goals (refine AtT.qC ?_)
   all_goals (refine AtT.qJ (d := 32) rfl ((show (!true) = false from rfl)) ?_)
   all_goals refine AtT.done ?_
   all_goals (refine At.nrm ?_)
   all_goals refine At.zX rfl rfl ?_
   refine At.nrm ?_
   refine At.zi (.q 0 (.q 1 (.q 2 .done))) ?_
   refine AtT.zf ?_
   first | refine AtT.qG ?_ | refine AtT.qd ?_
   refine AtT.zg ?_
   refine AtT.done ?_
   refine At.nrm ?_
   refine At.round (i + 1) ?_ ?_ ?_ ?_
   ·show s.length - (i + 1) < s.length - i; omega
   ·exact ⟨rfl, by omega, hokc (hin.2 (by omega))⟩
   ·exact ⟨rfl, ivs (by omega), trivial⟩
   ·exact Pt.zI
  by_cases h3 : 97 ≤ (c.toNat : Int)
  rotate_left
  ·refine At.nrm ?_
   refine At.zi (.q 0 (.q 1 (.q 2 (.q 3 (.q 4 (.q 5 (.q 6 (.q 7 (.q 8 (.q 9 (.q 10 (.q 11 (.q 12 (.q 13 (.q 14 (.q 15 (.q 16 (.q 17 (.q 18 (.q 19 (.q 20 (.q 21 (.q 22 .done))))))))))))))))))))))) ?_
   refine AtT.zf ?_
   refine AtT.zf ?_
   refine AtT.ixT rfl trivial Tryz.underlying9 rfl rfl (by omega) (by omega) (by decide) ?_
   rw [hgd]
   refine AtT.kgeq ?_
   refine AtT.qa (d := 13) rfl (h1) ?_
   refine AtT.zf ?_
   all_goals (first | refine AtT.kL 14 ?_ | refine AtT.zw (d := 14) rfl (fun hg14 => ?_) (fun hg14 => ?_) | refine AtT.zu (d := 14) rfl (fun hg14 => ?_) (fun hg14 => ?_))
   all_goals first|refine AtT.zh ?_|refine AtT.ze ?_|(refine AtT.zf ?_)
   all_goals first|refine AtT.zh ?_|refine AtT.ze ?_|(refine AtT.zf ?_)
   all_goals first|refine AtT.zh ?_|refine AtT.ze ?_|(refine AtT.ixT rfl ⟨_, _, rfl, rfl, rfl⟩ Tryz.underlying9 rfl rfl (by omega) (by omega) (by decide) ?_)
   all_goals (rw [hgd])
   all_goals first|refine AtT.zh ?_|refine AtT.ze ?_|(refine AtT.kleq ?_)
   all_goals (refine AtT.zS (d := 18) rfl (h2) ?_)
   all_goals (refine AtT.zx ?_)
   all_goals (refine AtT.zf ?_)
   all_goals (first | refine AtT.kL 20 ?_ | refine AtT.zw (d := 20) rfl (fun hg20 => ?_) (fun hg20 => ?_) | refine AtT.zu (d := 20) rfl (fun hg20 => ?_) (fun hg20 => ?_))
   all_goals first|refine AtT.zh ?_|refine AtT.ze ?_|(refine AtT.zf ?_)
   all_goals first|refine AtT.zh ?_|refine AtT.ze ?_|(refine AtT.zf ?_)
   all_goals first|refine AtT.zh ?_|refine AtT.ze ?_|(refine AtT.ixT rfl ⟨_, _, rfl, rfl, rfl⟩ Tryz.underlying9 rfl rfl (by omega) (by omega) (by decide) ?_)
   all_goals (rw [hgd])
   all_goals first|refine AtT.zh ?_|refine AtT.ze ?_|(refine AtT.kgeq ?_)
   all_goals (refine AtT.zS (d := 24) rfl (h3) ?_)
   all_goals first|refine AtT.zh ?_|refine AtT.ze ?_|(refine AtT.zf ?_)
   all_goals (first | refine AtT.kL 25 ?_ | refine AtT.zw (d := 25) rfl (fun hg25 => ?_) (fun hg25 => ?_) | refine AtT.zu (d := 25) rfl (fun hg25 => ?_) (fun hg25 => ?_))
   all_goals first|refine AtT.zh ?_|refine AtT.ze ?_|(refine AtT.zf ?_)
   all_goals first|refine AtT.zh ?_|refine AtT.ze ?_|(refine AtT.zf ?_)
   all_goals first|refine AtT.zh ?_|refine AtT.ze ?_|(refine AtT.ixT rfl ⟨_, _, rfl, rfl, rfl⟩ Tryz.underlying9 rfl rfl (by omega) (by omega) (by decide) ?_)
   all_goals first|refine AtT.zh ?_|refine AtT.ze ?_|(refine AtT.kleq ?_)
   all_goals first|refine AtT.zh ?_|refine AtT.ze ?_|(refine AtT.zx ?_)
   all_goals (refine AtT.zx ?_)
   all_goals (refine AtT.qC ?_)
   all_goals (refine AtT.qJ (d := 32) rfl ((show (!false) = true from rfl)) ?_)
   all_goals refine AtT.done ?_
   all_goals (refine At.nrm ?_)
   all_goals refine At.zU rfl rfl ?_
   refine At.nrm ?_
   refine At.zi (.q 0 .done) ?_
   refine AtT.zg ?_
   refine AtT.done ?_
   refine At.nrm ?_
   exact At.qh rfl (.tmp rfl) (by rw [hbadc (by cases h : jT c with | false => rfl | true => (have := hin.1 h; omega))]; rfl)
  by_cases h4 : (c.toNat : Int) ≤ 102
  ·refine At.nrm ?_
   refine At.zi (.q 0 (.q 1 (.q 2 (.q 3 (.q 4 (.q 5 (.q 6 (.q 7 (.q 8 (.q 9 (.q 10 (.q 11 (.q 12 (.q 13 (.q 14 (.q 15 (.q 16 (.q 17 (.q 18 (.q 19 (.q 20 (.q 21 (.q 22 .done))))))))))))))))))))))) ?_
   refine AtT.zf ?_
   refine AtT.zf ?_
   refine AtT.ixT rfl trivial Tryz.underlying9 rfl rfl (by omega) (by omega) (by decide) ?_
   rw [hgd]
   refine AtT.kgeq ?_
   refine AtT.qa (d := 13) rfl (h1) ?_
   refine AtT.zf ?_
   all_goals (first | refine AtT.kL 14 ?_ | refine AtT.zw (d := 14) rfl (fun hg14 => ?_) (fun hg14 => ?_) | refine AtT.zu (d := 14) rfl (fun hg14 => ?_) (fun hg14 => ?_))
   all_goals first|refine AtT.zh ?_|refine AtT.ze ?_|(refine AtT.zf ?_)
   all_goals first|refine AtT.zh ?_|refine AtT.ze ?_|(refine AtT.zf ?_)
   all_goals first|refine AtT.zh ?_|refine AtT.ze ?_|(refine AtT.ixT rfl ⟨_, _, rfl, rfl, rfl⟩ Tryz.underlying9 rfl rfl (by omega) (by omega) (by decide) ?_)
   all_goals (rw [hgd])
   all_goals first|refine AtT.zh ?_|refine AtT.ze ?_|(refine AtT.kleq ?_)
   all_goals (refine AtT.zS (d := 18) rfl (h2) ?_)
   all_goals (refine AtT.zx ?_)
   all_goals (refine AtT.zf ?_)
   all_goals (first | refine AtT.kL 20 ?_ | refine AtT.zw (d := 20) rfl (fun hg20 => ?_) (fun hg20 => ?_) | refine AtT.zu (d := 20) rfl (fun hg20 => ?_) (fun hg20 => ?_))
   all_goals first|refine AtT.zh ?_|refine AtT.ze ?_|(refine AtT.zf ?_)
   all_goals first|refine AtT.zh ?_|refine AtT.ze ?_|(refine AtT.zf ?_)
   all_goals first|refine AtT.zh ?_|refine AtT.ze ?_|(refine AtT.ixT rfl ⟨_, _, rfl, rfl, rfl⟩ Tryz.underlying9 rfl rfl (by omega) (by omega) (by decide) ?_)
   all_goals (rw [hgd])
   all_goals first|refine AtT.zh ?_|refine AtT.ze ?_|(refine AtT.kgeq ?_)
   all_goals (refine AtT.qa (d := 24) rfl (h3) ?_)
   all_goals first|refine AtT.zh ?_|refine AtT.ze ?_|(refine AtT.zf ?_)
   all_goals (first | refine AtT.kL 25 ?_ | refine AtT.zw (d := 25) rfl (fun hg25 => ?_) (fun hg25 => ?_) | refine AtT.zu (d := 25) rfl (fun hg25 => ?_) (fun hg25 => ?_))
   all_goals first|refine AtT.zh ?_|refine AtT.ze ?_|(refine AtT.zf ?_)
   all_goals first|refine AtT.zh ?_|refine AtT.ze ?_|(refine AtT.zf ?_)
   all_goals first|refine AtT.zh ?_|refine AtT.ze ?_|(refine AtT.ixT rfl ⟨_, _, rfl, rfl, rfl⟩ Tryz.underlying9 rfl rfl (by omega) (by omega) (by decide) ?_)
   all_goals (rw [hgd])
   all_goals first|refine AtT.zh ?_|refine AtT.ze ?_|(refine AtT.kleq ?_)
   all_goals (refine AtT.qa (d := 29) rfl (h4) ?_)
   all_goals first|refine AtT.zh ?_|refine AtT.ze ?_|(refine AtT.zx ?_)
   all_goals (refine AtT.zx ?_)
   all_goals (refine AtT.qC ?_)
   all_goals (refine AtT.qJ (d := 32) rfl ((show (!true) = false from rfl)) ?_)
   all_goals refine AtT.done ?_
   all_goals (refine At.nrm ?_)
   all_goals refine At.zX rfl rfl ?_
   refine At.nrm ?_
   refine At.zi (.q 0 (.q 1 (.q 2 .done))) ?_
   refine AtT.zf ?_
   first | refine AtT.qG ?_ | refine AtT.qd ?_
   refine AtT.zg ?_
   refine AtT.done ?_
   refine At.nrm ?_
   refine At.round (i + 1) ?_ ?_ ?_ ?_
   ·show s.length - (i + 1) < s.length - i; omega
   ·exact ⟨rfl, by omega, hokc (hin.2 (by omega))⟩
   ·exact ⟨rfl, ivs (by omega), trivial⟩
   ·exact Pt.zI
  refine At.nrm ?_
  refine At.zi (.q 0 (.q 1 (.q 2 (.q 3 (.q 4 (.q 5 (.q 6 (.q 7 (.q 8 (.q 9 (.q 10 (.q 11 (.q 12 (.q 13 (.q 14 (.q 15 (.q 16 (.q 17 (.q 18 (.q 19 (.q 20 (.q 21 (.q 22 .done))))))))))))))))))))))) ?_
  refine AtT.zf ?_
  refine AtT.zf ?_
  refine AtT.ixT rfl trivial Tryz.underlying9 rfl rfl (by omega) (by omega) (by decide) ?_
  rw [hgd]
  refine AtT.kgeq ?_
  refine AtT.qa (d := 13) rfl (h1) ?_
  refine AtT.zf ?_
  all_goals (first | refine AtT.kL 14 ?_ | refine AtT.zw (d := 14) rfl (fun hg14 => ?_) (fun hg14 => ?_) | refine AtT.zu (d := 14) rfl (fun hg14 => ?_) (fun hg14 => ?_))
  all_goals first|refine AtT.zh ?_|refine AtT.ze ?_|(refine AtT.zf ?_)
  all_goals first|refine AtT.zh ?_|refine AtT.ze ?_|(refine AtT.zf ?_)
  all_goals first|refine AtT.zh ?_|refine AtT.ze ?_|(refine AtT.ixT rfl ⟨_, _, rfl, rfl, rfl⟩ Tryz.underlying9 rfl rfl (by omega) (by omega) (by decide) ?_)
  all_goals (rw [hgd])
  all_goals first|refine AtT.zh ?_|refine AtT.ze ?_|(refine AtT.kleq ?_)
  all_goals (refine AtT.zS (d := 18) rfl (h2) ?_)
  all_goals (refine AtT.zx ?_)
  all_goals (refine AtT.zf ?_)
  all_goals (first | refine AtT.kL 20 ?_ | refine AtT.zw (d := 20) rfl (fun hg20 => ?_) (fun hg20 => ?_) | refine AtT.zu (d := 20) rfl (fun hg20 => ?_) (fun hg20 => ?_))
  all_goals first|refine AtT.zh ?_|refine AtT.ze ?_|(refine AtT.zf ?_)
  all_goals first|refine AtT.zh ?_|refine AtT.ze ?_|(refine AtT.zf ?_)
  all_goals first|refine AtT.zh ?_|refine AtT.ze ?_|(refine AtT.ixT rfl ⟨_, _, rfl, rfl, rfl⟩ Tryz.underlying9 rfl rfl (by omega) (by omega) (by decide) ?_)
  all_goals (rw [hgd])
  all_goals first|refine AtT.zh ?_|refine AtT.ze ?_|(refine AtT.kgeq ?_)
  all_goals (refine AtT.qa (d := 24) rfl (h3) ?_)
  all_goals first|refine AtT.zh ?_|refine AtT.ze ?_|(refine AtT.zf ?_)
  all_goals (first | refine AtT.kL 25 ?_ | refine AtT.zw (d := 25) rfl (fun hg25 => ?_) (fun hg25 => ?_) | refine AtT.zu (d := 25) rfl (fun hg25 => ?_) (fun hg25 => ?_))
  all_goals first|refine AtT.zh ?_|refine AtT.ze ?_|(refine AtT.zf ?_)
  all_goals first|refine AtT.zh ?_|refine AtT.ze ?_|(refine AtT.zf ?_)
  all_goals first|refine AtT.zh ?_|refine AtT.ze ?_|(refine AtT.ixT rfl ⟨_, _, rfl, rfl, rfl⟩ Tryz.underlying9 rfl rfl (by omega) (by omega) (by decide) ?_)
  all_goals (rw [hgd])
  all_goals first|refine AtT.zh ?_|refine AtT.ze ?_|(refine AtT.kleq ?_)
  all_goals (refine AtT.zS (d := 29) rfl (h4) ?_)
  all_goals first|refine AtT.zh ?_|refine AtT.ze ?_|(refine AtT.zx ?_)
  all_goals (refine AtT.zx ?_)
  all_goals (refine AtT.qC ?_)
  all_goals (refine AtT.qJ (d := 32) rfl ((show (!false) = true from rfl)) ?_)
  all_goals refine AtT.done ?_
  all_goals (refine At.nrm ?_)
  all_goals refine At.zU rfl rfl ?_
  refine At.nrm ?_
  refine At.zi (.q 0 .done) ?_
  refine AtT.zg ?_
  refine AtT.done ?_
  refine At.nrm ?_
  exact At.qh rfl (.tmp rfl) (by rw [hbadc (by cases h : jT c with | false => rfl | true => (have := hin.1 h; omega))]; rfl)
 obtain rfl : i = s.length := by omega
 rw [List.take_length] at hall
 refine At.nrm ?_
 refine At.zi (.q 0 (.q 1 (.q 2 (.q 3 .done)))) ?_
 refine AtT.zf ?_
 refine AtT.qR rfl trivial Tryz.underlying9 rfl (by decide) ?_
 refine AtT.qF ?_
 refine AtT.zg ?_
 refine AtT.done ?_
 refine At.nrm ?_
 exact At.qh rfl (.tmp rfl) (by rw [hall]; simp only [Bool.true_and]; congr 2; exact propext (by omega))
end Go.Proofs.YtpoignmclfdgpaaGreatDoor
set_option linter.unusedVariables false
namespace Go.Proofs.YtpoignmclfdgpaaGreatDoor
open Go.Lw Go.Gl Go.Bk Go.RowKit
theorem isDg_in (c : UInt8) : isDg c = true ↔ 48 ≤ (c.toNat : Int) ∧ (c.toNat : Int) ≤ 57 := by
 unfold isDg
 simp only [Bool.and_eq_true, decide_eq_true_eq]
 omega
theorem numR_bad {s : List UInt8} (h : s.length < 1 ∨ 6 < s.length ∨ (1 < s.length ∧ s.headD 0 = 48) ∨ s.all isDg = false) : numR s = none := by unfold numR; rw [if_pos h]
theorem rnumber_f (s : List UInt8) (hs : s.length ≤ 1000000) (V : View) : Fnc Tryz.prog 134 [sT s] V fun r _ => r = numV s := by
 refine ql Tryz.func134 rfl Tryz.ntmps134 (Nat.le_of_ble_eq_true rfl) ?_
 intro w0 hw0
 refine At.nrm ?_
 refine At.zi (.q 0 (.q 1 .done)) ?_
 refine AtT.zg ?_
 refine AtT.zg ?_
 refine AtT.done ?_
 refine At.nrm ?_
 by_cases h1 : s.length < 1
 ·rw [jv (numR_bad (.inl h1))]
  refine At.zi (.q 0 (.q 1 (.q 2 (.q 3 (.q 4 (.q 5 (.q 6 (.q 7 (.q 8 (.q 9 (.q 10 (.q 11 (.q 12 (.q 13 (.q 14 (.q 15 (.q 16 (.q 17 .done)))))))))))))))))) ?_
  refine AtT.zf ?_
  refine AtT.qR rfl trivial Tryz.underlying9 rfl (by decide) ?_
  refine AtT.qp ?_
  refine AtT.qa (d := 8) rfl ((by omega)) ?_
  refine AtT.zf ?_
  all_goals (first | refine AtT.kL 9 ?_ | refine AtT.zw (d := 9) rfl (fun hg9 => ?_) (fun hg9 => ?_) | refine AtT.zu (d := 9) rfl (fun hg9 => ?_) (fun hg9 => ?_))
  all_goals first|refine AtT.zh ?_|refine AtT.ze ?_|(refine AtT.zf ?_)
  all_goals first|refine AtT.zh ?_|refine AtT.ze ?_|(refine AtT.qR rfl ⟨_, _, rfl, rfl, rfl⟩ Tryz.underlying9 rfl (by decide) ?_)
  all_goals first|refine AtT.zh ?_|refine AtT.ze ?_|(refine AtT.qI ?_)
  all_goals (refine AtT.zx ?_)
  all_goals (refine AtT.zf ?_)
  all_goals (first | refine AtT.kL 14 ?_ | refine AtT.zw (d := 14) rfl (fun hg14 => ?_) (fun hg14 => ?_) | refine AtT.zu (d := 14) rfl (fun hg14 => ?_) (fun hg14 => ?_))
  all_goals first|refine AtT.zh ?_|refine AtT.ze ?_|(refine AtT.zf ?_)
  all_goals first|refine AtT.zh ?_|refine AtT.ze ?_|(refine AtT.qR rfl ⟨_, _, rfl, rfl, rfl⟩ Tryz.underlying9 rfl (by decide) ?_)
  all_goals first|refine AtT.zh ?_|refine AtT.ze ?_|(refine AtT.qI ?_)
  all_goals first|refine AtT.zh ?_|refine AtT.ze ?_|(refine AtT.zf ?_)
  all_goals (first | refine AtT.kL 18 ?_ | refine AtT.zw (d := 18) rfl (fun hg18 => ?_) (fun hg18 => ?_) | refine AtT.zu (d := 18) rfl (fun hg18 => ?_) (fun hg18 => ?_))
  all_goals first|refine AtT.zh ?_|refine AtT.ze ?_|(refine AtT.zf ?_)
  all_goals first|refine AtT.zh ?_|refine AtT.ze ?_|(refine AtT.ixT rfl ⟨_, _, rfl, rfl, rfl⟩ Tryz.underlying9 rfl rfl (by omega) (by omega) (by decide) ?_)
  all_goals first|refine AtT.zh ?_|refine AtT.ze ?_|(refine AtT.qF ?_)
  all_goals first|refine AtT.zh ?_|refine AtT.ze ?_|(refine AtT.zx ?_)
  all_goals (refine AtT.zx ?_)
  all_goals refine AtT.done ?_
  all_goals (refine At.nrm ?_)
  all_goals refine At.zU rfl rfl ?_
  refine At.nrm ?_
  refine At.zi (.q 0 (.q 1 .done)) ?_
  refine AtT.zg ?_
  refine AtT.zg ?_
  refine AtT.done ?_
  refine At.nrm ?_
  exact At.qN rfl (.tmp rfl) (.tmp rfl) rfl
 by_cases h6 : 6 < s.length
 ·rw [jv (numR_bad (.inr (.inl h6)))]
  refine At.zi (.q 0 (.q 1 (.q 2 (.q 3 (.q 4 (.q 5 (.q 6 (.q 7 (.q 8 (.q 9 (.q 10 (.q 11 (.q 12 (.q 13 (.q 14 (.q 15 (.q 16 (.q 17 .done)))))))))))))))))) ?_
  refine AtT.zf ?_
  refine AtT.qR rfl trivial Tryz.underlying9 rfl (by decide) ?_
  refine AtT.qp ?_
  refine AtT.zS (d := 8) rfl ((by omega)) ?_
  refine AtT.zf ?_
  all_goals (first | refine AtT.kL 9 ?_ | refine AtT.zw (d := 9) rfl (fun hg9 => ?_) (fun hg9 => ?_) | refine AtT.zu (d := 9) rfl (fun hg9 => ?_) (fun hg9 => ?_))
  all_goals first|refine AtT.zh ?_|refine AtT.ze ?_|(refine AtT.zf ?_)
  all_goals first|refine AtT.zh ?_|refine AtT.ze ?_|(refine AtT.qR rfl ⟨_, _, rfl, rfl, rfl⟩ Tryz.underlying9 rfl (by decide) ?_)
  all_goals first|refine AtT.zh ?_|refine AtT.ze ?_|(refine AtT.qI ?_)
  all_goals (refine AtT.qa (d := 12) rfl ((by omega)) ?_)
  all_goals (refine AtT.zx ?_)
  all_goals (refine AtT.zf ?_)
  all_goals (first | refine AtT.kL 14 ?_ | refine AtT.zw (d := 14) rfl (fun hg14 => ?_) (fun hg14 => ?_) | refine AtT.zu (d := 14) rfl (fun hg14 => ?_) (fun hg14 => ?_))
  all_goals first|refine AtT.zh ?_|refine AtT.ze ?_|(refine AtT.zf ?_)
  all_goals first|refine AtT.zh ?_|refine AtT.ze ?_|(refine AtT.qR rfl ⟨_, _, rfl, rfl, rfl⟩ Tryz.underlying9 rfl (by decide) ?_)
  all_goals first|refine AtT.zh ?_|refine AtT.ze ?_|(refine AtT.qI ?_)
  all_goals first|refine AtT.zh ?_|refine AtT.ze ?_|(refine AtT.zf ?_)
  all_goals (first | refine AtT.kL 18 ?_ | refine AtT.zw (d := 18) rfl (fun hg18 => ?_) (fun hg18 => ?_) | refine AtT.zu (d := 18) rfl (fun hg18 => ?_) (fun hg18 => ?_))
  all_goals first|refine AtT.zh ?_|refine AtT.ze ?_|(refine AtT.zf ?_)
  all_goals first|refine AtT.zh ?_|refine AtT.ze ?_|(refine AtT.ixT rfl ⟨_, _, rfl, rfl, rfl⟩ Tryz.underlying9 rfl rfl (by omega) (by omega) (by decide) ?_)
  all_goals first|refine AtT.zh ?_|refine AtT.ze ?_|(refine AtT.qF ?_)
  all_goals first|refine AtT.zh ?_|refine AtT.ze ?_|(refine AtT.zx ?_)
  all_goals (refine AtT.zx ?_)
  all_goals refine AtT.done ?_
  all_goals (refine At.nrm ?_)
  all_goals refine At.zU rfl rfl ?_
  refine At.nrm ?_
  refine At.zi (.q 0 (.q 1 .done)) ?_
  refine AtT.zg ?_
  refine AtT.zg ?_
  refine AtT.done ?_
  refine At.nrm ?_
  exact At.qN rfl (.tmp rfl) (.tmp rfl) rfl
 obtain ⟨c0, t0, hcs⟩ : ∃ c t, s = c :: t := by
  cases hss : s with
  | nil => rw [hss] at h1; exact absurd (by simp) h1
  | cons c t => exact ⟨c, t, rfl⟩
 have hgd0 : s.getD (0 : Int).toNat 0 = c0 := by rw [hcs]; rfl
 have hd0 : s.headD 0 = c0 := by rw [hcs]; rfl
 have hc48 : ((c0.toNat : Int) = 48) ↔ c0 = 48 := by
  constructor
  ·intro h; exact UInt8.toNat_inj.1 (by have : (48 : UInt8).toNat = 48 := rfl; omega)
  ·rintro rfl; rfl
 refine At.cutG (ι := Unit) (fun _ => [(0, sT s), (23, .bool (decide (1 < s.length ∧ c0 = 48)))]) (fun _ => []) (fun _ V' => V' = V) ?_ ?_
 ·by_cases hl1 : 1 < s.length
  ·by_cases h48 : c0 = 48
   ·refine At.zi (.q 0 (.q 1 (.q 2 (.q 3 (.q 4 (.q 5 (.q 6 (.q 7 (.q 8 (.q 9 (.q 10 (.q 11 (.q 12 (.q 13 (.q 14 (.q 15 (.q 16 (.q 17 .done)))))))))))))))))) ?_
    refine AtT.zf ?_
    refine AtT.qR rfl trivial Tryz.underlying9 rfl (by decide) ?_
    refine AtT.qp ?_
    refine AtT.zS (d := 8) rfl ((by omega)) ?_
    refine AtT.zf ?_
    all_goals (first | refine AtT.kL 9 ?_ | refine AtT.zw (d := 9) rfl (fun hg9 => ?_) (fun hg9 => ?_) | refine AtT.zu (d := 9) rfl (fun hg9 => ?_) (fun hg9 => ?_))
    all_goals first|refine AtT.zh ?_|refine AtT.ze ?_|(refine AtT.zf ?_)
    all_goals first|refine AtT.zh ?_|refine AtT.ze ?_|(refine AtT.qR rfl ⟨_, _, rfl, rfl, rfl⟩ Tryz.underlying9 rfl (by decide) ?_)
    all_goals first|refine AtT.zh ?_|refine AtT.ze ?_|(refine AtT.qI ?_)
    all_goals (refine AtT.zS (d := 12) rfl ((by omega)) ?_)
    all_goals (refine AtT.zx ?_)
    all_goals (refine AtT.zf ?_)
    all_goals (first | refine AtT.kL 14 ?_ | refine AtT.zw (d := 14) rfl (fun hg14 => ?_) (fun hg14 => ?_) | refine AtT.zu (d := 14) rfl (fun hg14 => ?_) (fun hg14 => ?_))
    all_goals first|refine AtT.zh ?_|refine AtT.ze ?_|(refine AtT.zf ?_)
    all_goals first|refine AtT.zh ?_|refine AtT.ze ?_|(refine AtT.qR rfl ⟨_, _, rfl, rfl, rfl⟩ Tryz.underlying9 rfl (by decide) ?_)
    all_goals first|refine AtT.zh ?_|refine AtT.ze ?_|(refine AtT.qI ?_)
    all_goals (refine AtT.qa (d := 17) rfl ((by omega)) ?_)
    all_goals first|refine AtT.zh ?_|refine AtT.ze ?_|(refine AtT.zf ?_)
    all_goals (first | refine AtT.kL 18 ?_ | refine AtT.zw (d := 18) rfl (fun hg18 => ?_) (fun hg18 => ?_) | refine AtT.zu (d := 18) rfl (fun hg18 => ?_) (fun hg18 => ?_))
    all_goals first|refine AtT.zh ?_|refine AtT.ze ?_|(refine AtT.zf ?_)
    all_goals first|refine AtT.zh ?_|refine AtT.ze ?_|(refine AtT.ixT rfl ⟨_, _, rfl, rfl, rfl⟩ Tryz.underlying9 rfl rfl (by omega) (by omega) (by decide) ?_)
    all_goals (rw [hgd0])
    all_goals first|refine AtT.zh ?_|refine AtT.ze ?_|(refine AtT.qF ?_)
    all_goals (refine AtT.qa (d := 21) rfl ((hc48.2 h48)) ?_)
    all_goals first|refine AtT.zh ?_|refine AtT.ze ?_|(refine AtT.zx ?_)
    all_goals (refine AtT.zx ?_)
    all_goals refine AtT.done ?_
    all_goals (refine At.nrmB ?_)
    all_goals exact At.jP () rfl ⟨rfl, by rw [decide_eq_true (show 1 < s.length ∧ c0 = 48 from ⟨hl1, h48⟩)]; rfl, trivial⟩ Pt.zI
   ·refine At.zi (.q 0 (.q 1 (.q 2 (.q 3 (.q 4 (.q 5 (.q 6 (.q 7 (.q 8 (.q 9 (.q 10 (.q 11 (.q 12 (.q 13 (.q 14 (.q 15 (.q 16 (.q 17 .done)))))))))))))))))) ?_
    refine AtT.zf ?_
    refine AtT.qR rfl trivial Tryz.underlying9 rfl (by decide) ?_
    refine AtT.qp ?_
    refine AtT.zS (d := 8) rfl ((by omega)) ?_
    refine AtT.zf ?_
    all_goals (first | refine AtT.kL 9 ?_ | refine AtT.zw (d := 9) rfl (fun hg9 => ?_) (fun hg9 => ?_) | refine AtT.zu (d := 9) rfl (fun hg9 => ?_) (fun hg9 => ?_))
    all_goals first|refine AtT.zh ?_|refine AtT.ze ?_|(refine AtT.zf ?_)
    all_goals first|refine AtT.zh ?_|refine AtT.ze ?_|(refine AtT.qR rfl ⟨_, _, rfl, rfl, rfl⟩ Tryz.underlying9 rfl (by decide) ?_)
    all_goals first|refine AtT.zh ?_|refine AtT.ze ?_|(refine AtT.qI ?_)
    all_goals (refine AtT.zS (d := 12) rfl ((by omega)) ?_)
    all_goals (refine AtT.zx ?_)
    all_goals (refine AtT.zf ?_)
    all_goals (first | refine AtT.kL 14 ?_ | refine AtT.zw (d := 14) rfl (fun hg14 => ?_) (fun hg14 => ?_) | refine AtT.zu (d := 14) rfl (fun hg14 => ?_) (fun hg14 => ?_))
    all_goals first|refine AtT.zh ?_|refine AtT.ze ?_|(refine AtT.zf ?_)
    all_goals first|refine AtT.zh ?_|refine AtT.ze ?_|(refine AtT.qR rfl ⟨_, _, rfl, rfl, rfl⟩ Tryz.underlying9 rfl (by decide) ?_)
    all_goals first|refine AtT.zh ?_|refine AtT.ze ?_|(refine AtT.qI ?_)
    all_goals (refine AtT.qa (d := 17) rfl ((by omega)) ?_)
    all_goals first|refine AtT.zh ?_|refine AtT.ze ?_|(refine AtT.zf ?_)
    all_goals (first | refine AtT.kL 18 ?_ | refine AtT.zw (d := 18) rfl (fun hg18 => ?_) (fun hg18 => ?_) | refine AtT.zu (d := 18) rfl (fun hg18 => ?_) (fun hg18 => ?_))
    all_goals first|refine AtT.zh ?_|refine AtT.ze ?_|(refine AtT.zf ?_)
    all_goals first|refine AtT.zh ?_|refine AtT.ze ?_|(refine AtT.ixT rfl ⟨_, _, rfl, rfl, rfl⟩ Tryz.underlying9 rfl rfl (by omega) (by omega) (by decide) ?_)
    all_goals (rw [hgd0])
    all_goals first|refine AtT.zh ?_|refine AtT.ze ?_|(refine AtT.qF ?_)
    all_goals (refine AtT.zS (d := 21) rfl ((fun h => h48 (hc48.1 h))) ?_)
    all_goals first|refine AtT.zh ?_|refine AtT.ze ?_|(refine AtT.zx ?_)
    all_goals (refine AtT.zx ?_)
    all_goals refine AtT.done ?_
    all_goals (refine At.nrmB ?_)
    all_goals exact At.jP () rfl ⟨rfl, by rw [decide_eq_false (fun h : 1 < s.length ∧ c0 = 48 => h48 h.2)]; rfl, trivial⟩ Pt.zI
  ·refine At.zi (.q 0 (.q 1 (.q 2 (.q 3 (.q 4 (.q 5 (.q 6 (.q 7 (.q 8 (.q 9 (.q 10 (.q 11 (.q 12 (.q 13 (.q 14 (.q 15 (.q 16 (.q 17 .done)))))))))))))))))) ?_
   refine AtT.zf ?_
   refine AtT.qR rfl trivial Tryz.underlying9 rfl (by decide) ?_
   refine AtT.qp ?_
   refine AtT.zS (d := 8) rfl ((by omega)) ?_
   refine AtT.zf ?_
   all_goals (first | refine AtT.kL 9 ?_ | refine AtT.zw (d := 9) rfl (fun hg9 => ?_) (fun hg9 => ?_) | refine AtT.zu (d := 9) rfl (fun hg9 => ?_) (fun hg9 => ?_))
   all_goals first|refine AtT.zh ?_|refine AtT.ze ?_|(refine AtT.zf ?_)
   all_goals first|refine AtT.zh ?_|refine AtT.ze ?_|(refine AtT.qR rfl ⟨_, _, rfl, rfl, rfl⟩ Tryz.underlying9 rfl (by decide) ?_)
   all_goals first|refine AtT.zh ?_|refine AtT.ze ?_|(refine AtT.qI ?_)
   all_goals (refine AtT.zS (d := 12) rfl ((by omega)) ?_)
   all_goals (refine AtT.zx ?_)
   all_goals (refine AtT.zf ?_)
   all_goals (first | refine AtT.kL 14 ?_ | refine AtT.zw (d := 14) rfl (fun hg14 => ?_) (fun hg14 => ?_) | refine AtT.zu (d := 14) rfl (fun hg14 => ?_) (fun hg14 => ?_))
   all_goals first|refine AtT.zh ?_|refine AtT.ze ?_|(refine AtT.zf ?_)
   all_goals first|refine AtT.zh ?_|refine AtT.ze ?_|(refine AtT.qR rfl ⟨_, _, rfl, rfl, rfl⟩ Tryz.underlying9 rfl (by decide) ?_)
   all_goals first|refine AtT.zh ?_|refine AtT.ze ?_|(refine AtT.qI ?_)
   all_goals (refine AtT.zS (d := 17) rfl ((by omega)) ?_)
   all_goals first|refine AtT.zh ?_|refine AtT.ze ?_|(refine AtT.zf ?_)
   all_goals (first | refine AtT.kL 18 ?_ | refine AtT.zw (d := 18) rfl (fun hg18 => ?_) (fun hg18 => ?_) | refine AtT.zu (d := 18) rfl (fun hg18 => ?_) (fun hg18 => ?_))
   all_goals first|refine AtT.zh ?_|refine AtT.ze ?_|(refine AtT.zf ?_)
   all_goals first|refine AtT.zh ?_|refine AtT.ze ?_|(refine AtT.ixT rfl ⟨_, _, rfl, rfl, rfl⟩ Tryz.underlying9 rfl rfl (by omega) (by omega) (by decide) ?_)
   all_goals first|refine AtT.zh ?_|refine AtT.ze ?_|(refine AtT.qF ?_)
   all_goals first|refine AtT.zh ?_|refine AtT.ze ?_|(refine AtT.zx ?_)
   all_goals (refine AtT.zx ?_)
   all_goals refine AtT.done ?_
   all_goals (refine At.nrmB ?_)
   all_goals exact At.jP () rfl ⟨rfl, by rw [decide_eq_false (fun h : 1 < s.length ∧ c0 = 48 => hl1 h.1)]; rfl, trivial⟩ Pt.zI
 rintro _ V1 ks1 O1 rfl rfl rfl hle1
 refine At.nrm ?_
 refine At.qb rfl (fun hz => ?_) (fun hz => ?_)
 ·rw [jv (numR_bad (.inr (.inr (.inl ⟨hz.1, hd0.trans hz.2⟩))))]
  refine At.nrm ?_
  refine At.zi (.q 0 (.q 1 .done)) ?_
  refine AtT.zg ?_
  refine AtT.zg ?_
  refine AtT.done ?_
  refine At.nrm ?_
  exact At.qN rfl (.tmp rfl) (.tmp rfl) rfl
 refine At.nrm ?_
 refine At.zi (.q 0 .done) ?_
 refine AtT.zg ?_
 refine AtT.done ?_
 refine At.nrm ?_
 refine At.zi (.q 0 .done) ?_
 refine AtT.zg ?_
 refine AtT.done ?_
 refine At.nrm ?_
 refine At.lp (ι := Nat) (KS := fun i => [(0, sT s), (4, iv (valF 0 (s.take i) : Nat)), (5, iv i)]) (OS := fun _ => [])
  (VS := fun i V' => V' = V1 ∧ i ≤ s.length ∧ (s.take i).all isDg = true) (μ := fun i => s.length - i) 0 ?_ ?_ ?_ ?_
 ·exact ⟨rfl, rfl, rfl, trivial⟩
 ·exact Pt.zI
 ·exact ⟨rfl, Nat.zero_le _, rfl⟩
 rintro i V' ks' O' ⟨rfl, hi, hall⟩ hk hO hl
 subst hk hO
 have hvl := valF_lt (acc := 0) (k := 0) hall (by decide)
 have hpow : 10 ^ (0 + (s.take i).length) ≤ 10 ^ 6 := Nat.pow_le_pow_right (by decide) (by rw [List.length_take]; omega)
 have hp6 : (10 : Nat) ^ 6 = 1000000 := by decide
 refine At.nrm ?_
 refine At.zi (.q 0 (.q 1 (.q 2 (.q 3 .done)))) ?_
 refine AtT.zf ?_
 refine AtT.zf ?_
 refine AtT.qR rfl trivial Tryz.underlying9 rfl (by decide) ?_
 refine AtT.qp ?_
 refine AtT.done ?_
 refine At.nrm ?_
 refine At.qb rfl (fun hp => ?_) (fun hp => ?_)
 ·obtain ⟨c, hc⟩ : ∃ c, s[i]? = some c := ⟨_, List.getElem?_eq_getElem (by omega)⟩
  have hgd := gd_at hc
  have hin := isDg_in c
  have hcl := c.toNat_lt
  have hbadc : isDg c = false → s.all isDg = false := fun h => by
   cases ha : s.all isDg with
   | false => rfl
   | true => rw [List.all_eq_true.1 ha c (List.mem_of_getElem? hc)] at h; cases h
  by_cases h3 : (c.toNat : Int) < 48
  ·rw [jv (numR_bad (.inr (.inr (.inr (hbadc (by cases h : isDg c with | false => rfl | true => (have := hin.1 h; omega)))))))]
   refine At.nrm ?_
   refine At.zi (.q 0 (.q 1 (.q 2 (.q 3 (.q 4 (.q 5 (.q 6 (.q 7 (.q 8 (.q 9 .done)))))))))) ?_
   refine AtT.zf ?_
   refine AtT.zf ?_
   refine AtT.ixT rfl trivial Tryz.underlying9 rfl rfl (by omega) (by omega) (by decide) ?_
   rw [hgd]
   refine AtT.qp ?_
   refine AtT.qa (d := 33) rfl (h3) ?_
   refine AtT.zf ?_
   all_goals (first | refine AtT.kL 34 ?_ | refine AtT.zw (d := 34) rfl (fun hg34 => ?_) (fun hg34 => ?_) | refine AtT.zu (d := 34) rfl (fun hg34 => ?_) (fun hg34 => ?_))
   all_goals first|refine AtT.zh ?_|refine AtT.ze ?_|(refine AtT.zf ?_)
   all_goals first|refine AtT.zh ?_|refine AtT.ze ?_|(refine AtT.zf ?_)
   all_goals first|refine AtT.zh ?_|refine AtT.ze ?_|(refine AtT.ixT rfl ⟨_, _, rfl, rfl, rfl⟩ Tryz.underlying9 rfl rfl (by omega) (by omega) (by decide) ?_)
   all_goals first|refine AtT.zh ?_|refine AtT.ze ?_|(refine AtT.qI ?_)
   all_goals (refine AtT.zx ?_)
   all_goals refine AtT.done ?_
   all_goals (refine At.nrm ?_)
   all_goals refine At.zU rfl rfl ?_
   refine At.nrm ?_
   refine At.zi (.q 0 (.q 1 .done)) ?_
   refine AtT.zg ?_
   refine AtT.zg ?_
   refine AtT.done ?_
   refine At.nrm ?_
   exact At.qN rfl (.tmp rfl) (.tmp rfl) rfl
  by_cases h4 : 57 < (c.toNat : Int)
  ·rw [jv (numR_bad (.inr (.inr (.inr (hbadc (by cases h : isDg c with | false => rfl | true => (have := hin.1 h; omega)))))))]
   refine At.nrm ?_
   refine At.zi (.q 0 (.q 1 (.q 2 (.q 3 (.q 4 (.q 5 (.q 6 (.q 7 (.q 8 (.q 9 .done)))))))))) ?_
   refine AtT.zf ?_
   refine AtT.zf ?_
   refine AtT.ixT rfl trivial Tryz.underlying9 rfl rfl (by omega) (by omega) (by decide) ?_
   rw [hgd]
   refine AtT.qp ?_
   refine AtT.zS (d := 33) rfl (h3) ?_
   refine AtT.zf ?_
   all_goals (first | refine AtT.kL 34 ?_ | refine AtT.zw (d := 34) rfl (fun hg34 => ?_) (fun hg34 => ?_) | refine AtT.zu (d := 34) rfl (fun hg34 => ?_) (fun hg34 => ?_))
   all_goals first|refine AtT.zh ?_|refine AtT.ze ?_|(refine AtT.zf ?_)
   all_goals first|refine AtT.zh ?_|refine AtT.ze ?_|(refine AtT.zf ?_)
   all_goals first|refine AtT.zh ?_|refine AtT.ze ?_|(refine AtT.ixT rfl ⟨_, _, rfl, rfl, rfl⟩ Tryz.underlying9 rfl rfl (by omega) (by omega) (by decide) ?_)
   all_goals (rw [hgd])
   all_goals first|refine AtT.zh ?_|refine AtT.ze ?_|(refine AtT.qI ?_)
   all_goals (refine AtT.qa (d := 38) rfl (h4) ?_)
   all_goals (refine AtT.zx ?_)
   all_goals refine AtT.done ?_
   all_goals (refine At.nrm ?_)
   all_goals refine At.zU rfl rfl ?_
   refine At.nrm ?_
   refine At.zi (.q 0 (.q 1 .done)) ?_
   refine AtT.zg ?_
   refine AtT.zg ?_
   refine AtT.done ?_
   refine At.nrm ?_
   exact At.qN rfl (.tmp rfl) (.tmp rfl) rfl
  have hw8 : IntKind.u8.wrap ((c.toNat : Int) - 48) = ((c.toNat - 48 : Nat) : Int) := by simp [IntKind.wrap, IntKind.signed, IntKind.bits]; omega
  have hdc : isDg c = true := hin.2 (by omega)
  have hst : valF 0 (s.take (i + 1)) = 10 * valF 0 (s.take i) + (c.toNat - 48) := by rw [jq hc, valF_app]
  refine At.nrm ?_
  refine At.zi (.q 0 (.q 1 (.q 2 (.q 3 (.q 4 (.q 5 (.q 6 (.q 7 (.q 8 (.q 9 .done)))))))))) ?_
  refine AtT.zf ?_
  refine AtT.zf ?_
  refine AtT.ixT rfl trivial Tryz.underlying9 rfl rfl (by omega) (by omega) (by decide) ?_
  rw [hgd]
  refine AtT.qp ?_
  refine AtT.zS (d := 33) rfl (h3) ?_
  refine AtT.zf ?_
  all_goals (first | refine AtT.kL 34 ?_ | refine AtT.zw (d := 34) rfl (fun hg34 => ?_) (fun hg34 => ?_) | refine AtT.zu (d := 34) rfl (fun hg34 => ?_) (fun hg34 => ?_))
  all_goals first|refine AtT.zh ?_|refine AtT.ze ?_|(refine AtT.zf ?_)
  all_goals first|refine AtT.zh ?_|refine AtT.ze ?_|(refine AtT.zf ?_)
  all_goals first|refine AtT.zh ?_|refine AtT.ze ?_|(refine AtT.ixT rfl ⟨_, _, rfl, rfl, rfl⟩ Tryz.underlying9 rfl rfl (by omega) (by omega) (by decide) ?_)
  all_goals (rw [hgd])
  all_goals first|refine AtT.zh ?_|refine AtT.ze ?_|(refine AtT.qI ?_)
  all_goals (refine AtT.zS (d := 38) rfl (h4) ?_)
  all_goals (refine AtT.zx ?_)
  all_goals refine AtT.done ?_
  all_goals (refine At.nrm ?_)
  all_goals refine At.zX rfl rfl ?_
  refine At.nrm ?_
  refine At.zi (.q 0 (.q 1 (.q 2 (.q 3 (.q 4 (.q 5 (.q 6 (.q 7 (.q 8 .done))))))))) ?_
  refine AtT.zf ?_
  first | refine AtT.kmul ?_ | refine AtT.kmulW ?_
  refine AtT.zf ?_
  refine AtT.zf ?_
  refine AtT.ixT rfl trivial Tryz.underlying9 rfl rfl (by omega) (by omega) (by decide) ?_
  rw [hgd]
  refine AtT.jh ?_
  rw [hw8]
  refine AtT.kconv un5 Tryz.underlying2 ?_
  rw [Go.Lib.wrap_i64_small (c.toNat - 48) (by omega)]
  first | refine AtT.qG ?_ | refine AtT.qd ?_
  refine AtT.zg ?_
  refine AtT.done ?_
  refine At.nrm ?_
  refine At.zi (.q 0 (.q 1 (.q 2 .done))) ?_
  refine AtT.zf ?_
  first | refine AtT.qG ?_ | refine AtT.qd ?_
  refine AtT.zg ?_
  refine AtT.done ?_
  refine At.nrm ?_
  refine At.round (i + 1) ?_ ?_ ?_ ?_
  ·show s.length - (i + 1) < s.length - i; omega
  ·exact ⟨rfl, by omega, by rw [jq hc, List.all_append, hall]; simp [hdc]⟩
  ·refine ⟨rfl, ?_, ivs (by omega), trivial⟩
   rw [hst]; rfl
  ·exact Pt.zI
 obtain rfl : i = s.length := by omega
 rw [List.take_length] at hall ⊢
 have hn : numR s = some (valF 0 s) := by
  unfold numR
  rw [if_neg]
  rintro (h | h | h | h)
  ·exact h1 h
  ·exact h6 h
  ·exact hz ⟨h.1, hd0.symm.trans h.2⟩
  ·rw [hall] at h; cases h
 rw [numV_some hn]
 refine At.nrm ?_
 refine At.zi (.q 0 (.q 1 (.q 2 .done))) ?_
 refine AtT.zf ?_
 refine AtT.zg ?_
 refine AtT.zg ?_
 refine AtT.done ?_
 refine At.nrm ?_
 exact At.qN rfl (.tmp rfl) (.tmp rfl) rfl
theorem rnumbers_f (ws : List (List UInt8)) (hwl : ws.length ≤ 5000) (hwi : ∀ x ∈ ws, x.length ≤ 4000) (V : View) (v : Value) (hs : Sl V stL 1 v ws) : Fnc Tryz.prog 117 [v] V fun r V' => ∃ u, r = .tuple #[u, .bool (jr ws).isSome] ∧ SlI V' u (((jr ws).getD []).map fun n : Nat => (n : Int)) := by
 refine ql Tryz.func117 rfl Tryz.ntmps117 (Nat.le_of_ble_eq_true rfl) ?_
 intro w0 hw0
 refine At.nrm ?_
 refine At.zi (.q 0 (.q 1 .done)) ?_
 refine AtT.zg ?_
 refine AtT.zg ?_
 refine AtT.done ?_
 refine At.nrm ?_
 refine At.zi (.q 0 .done) ?_
 refine AtT.zg ?_
 refine AtT.done ?_
 refine At.nrm ?_
 refine At.newRow 2 1 ?_
 refine At.zi (.q 0 .done) ?_
 refine AtT.zg ?_
 refine AtT.done ?_
 refine At.nrm ?_
 refine At.lp (ι := Nat × List Nat × Option Addr × Nat) (KS := fun g => [(0, v), (4, .slice g.2.2.1 (g.2.1.map fun v : Nat => (v : Int)).length g.2.2.2), (5, iv g.1)])
  (OS := fun g => [.row (.slice g.2.2.1 (g.2.1.map fun v : Nat => (v : Int)).length g.2.2.2) 2 1 (g.2.1.map fun v : Nat => (v : Int)).length (flat ei (g.2.1.map fun v : Nat => (v : Int)))])
  (VS := fun g V' => Le V V' ∧ g.1 ≤ ws.length ∧ jr (ws.take g.1) = some g.2.1) (μ := fun g => ws.length - g.1) (0, [], none, 0) ?_ ?_ ?_ ?_
 ·exact ⟨rfl, rfl, rfl, trivial⟩
 ·exact Pt.zI
 ·exact ⟨Le.refl _, Nat.zero_le _, rfl⟩
 rintro ⟨i, n, an, cn⟩ V' ks' O' ⟨hVV, hil, hnum⟩ hk hO hl
 dsimp only at hil hnum hk hO
 subst hk hO
 have hnl := nums_len hnum
 rw [List.length_take_of_le hil] at hnl
 have hNl : (n.map fun v : Nat => (v : Int)).length = n.length := List.length_map _
 have hws := hs.le hVV
 refine At.nrm ?_
 refine At.zi (.q 0 (.q 1 (.q 2 (.q 3 .done)))) ?_
 refine AtT.zf ?_
 refine AtT.zf ?_
 first | refine AtT.zR Tryz.underlying121 ?_ | refine AtT.zQ Tryz.underlying121 ?_
 refine AtT.qp ?_
 refine AtT.done ?_
 refine At.nrm ?_
 refine At.qb rfl (fun hp => ?_) (fun hp => ?_)
 ·obtain ⟨x, hx⟩ : ∃ x, ws[i]? = some x := ⟨_, List.getElem?_eq_getElem (by omega)⟩
  have hxm := List.mem_of_getElem? hx
  have hxl := hwi x hxm
  have hPX : ∀ e, ws[(i : Int).toNat]? = some e → x = e := fun e he => by rw [Int.toNat_natCast, hx] at he; exact Option.some.inj he
  cases hn : numR x with
  | none =>
   have hno := nums_none hxm hn
   refine At.nrm ?_
   refine At.zi (.q 0 (.q 1 (.q 2 (.q 3 (.n false 4 (.q 5 (.q 6 (.q 7 (.q 8 (.q 9 .done)))))))))) ?_
   refine AtT.zf ?_
   refine AtT.zf ?_
   refine AtT.qm Tryz.underlying121 tk9 ?_
   intro p17 e17 he17 hc17
   first | refine AtT.zm tk9 ?_ | refine AtT.zo tk9 ?_
   obtain rfl := hPX _ he17
   refine AtT.zG rfl rfl ok134 (rnumber_f x (by omega) _) ?_
   rintro _ rfl; rw [jv hn]
   refine AtT.zf ?_
   refine AtT.zt ?_
   refine AtT.zt ?_
   refine AtT.zg ?_
   refine AtT.zg ?_
   refine AtT.done ?_
   refine At.nrm ?_
   refine At.nrm ?_
   refine At.zi (.q 0 (.q 1 .done)) ?_
   refine AtT.zf ?_
   refine AtT.qC ?_
   refine AtT.qJ (d := 23) rfl ((show (!false) = true from rfl)) ?_
   refine AtT.done ?_
   refine At.nrm ?_
   refine At.zU rfl rfl ?_
   refine At.nrm ?_
   refine At.zi (.q 0 (.q 1 .done)) ?_
   refine AtT.zg ?_
   refine AtT.zg ?_
   refine AtT.done ?_
   refine At.nrm ?_
   exact At.qN rfl (.tmp rfl) (.tmp rfl) (by rw [hno]; exact ⟨_, rfl, Sl.nil _ _ _⟩)
  | some u =>
   have hsn := nums_snoc hnum hn
   rw [← jq hx] at hsn
   refine At.nrm ?_
   refine At.zi (.q 0 (.q 1 (.q 2 (.q 3 (.n false 4 (.q 5 (.q 6 (.q 7 (.q 8 (.q 9 .done)))))))))) ?_
   refine AtT.zf ?_
   refine AtT.zf ?_
   refine AtT.qm Tryz.underlying121 tk9 ?_
   intro p17 e17 he17 hc17
   first | refine AtT.zm tk9 ?_ | refine AtT.zo tk9 ?_
   obtain rfl := hPX _ he17
   refine AtT.zG rfl rfl ok134 (rnumber_f x (by omega) _) ?_
   rintro _ rfl; rw [numV_some hn]
   refine AtT.zf ?_
   refine AtT.zt ?_
   refine AtT.zt ?_
   refine AtT.zg ?_
   refine AtT.zg ?_
   refine AtT.done ?_
   refine At.nrm ?_
   refine At.nrm ?_
   refine At.zi (.q 0 (.q 1 .done)) ?_
   refine AtT.zf ?_
   refine AtT.qC ?_
   refine AtT.qJ (d := 23) rfl ((show (!true) = false from rfl)) ?_
   refine AtT.done ?_
   refine At.nrm ?_
   refine At.zX rfl rfl ?_
   refine At.nrm ?_
   refine At.zi (.q 0 (.q 1 (.n false 2 (.n true 3 (.q 4 .done))))) ?_
   refine AtT.zf ?_
   refine AtT.zf ?_
   refine AtT.zN (bs28_1_0 _) ?_
   intro q26 V26 hV26 hq26
   have g26 : Le V V26 := by first | exact hV26 | exact Le.trans (by assumption) hV26
   first | refine AtT.qX Tryz.underlying28 rw2 ?_
   intro a27 c27
   refine AtT.zg ?_
   refine AtT.done ?_
   refine At.nrm ?_
   refine At.zi (.q 0 (.q 1 (.q 2 .done))) ?_
   refine AtT.zf ?_
   first | refine AtT.qG ?_ | refine AtT.qd ?_
   refine AtT.zg ?_
   refine AtT.done ?_
   refine At.nrm ?_
   refine At.round (i + 1, n ++ [u], a27, c27) ?_ ?_ ?_ ?_
   ·show ws.length - (i + 1) < ws.length - i; omega
   ·exact ⟨hVV.trans hV26, by dsimp only; omega, hsn⟩
   ·refine ⟨rfl, ?_, ivs (by dsimp only; omega), trivial⟩
    dsimp only; rw [List.map_append, List.length_append]; rfl
   ·dsimp only
    rw [List.map_append, show ((n.map fun v : Nat => (v : Int)) ++ [u].map fun v : Nat => (v : Int)).length = (n.map fun v : Nat => (v : Int)).length + 1 from by rw [List.length_append]; rfl, show flat ei ((n.map fun v : Nat => (v : Int)) ++ [u].map fun v : Nat => (v : Int)) = flat ei (n.map fun v : Nat => (v : Int)) ++ [iv u] from by unfold flat; rw [List.flatMap_append]; rfl]
    exact Pt.zI
 obtain rfl : i = ws.length := by omega
 rw [List.take_length] at hnum
 refine At.jF (l := n.map fun v : Nat => (v : Int)) Lw.jU rfl rfl zP.zI (fun V3 hV3 hs3 => ?_)
 refine At.nrm ?_
 refine At.zi (.q 0 (.q 1 (.q 2 .done))) ?_
 refine AtT.zf ?_
 refine AtT.zg ?_
 refine AtT.zg ?_
 refine AtT.done ?_
 refine At.nrm ?_
 exact At.qN rfl (.tmp rfl) (.tmp rfl) (by rw [hnum]; exact ⟨_, rfl, hs3⟩)
end Go.Proofs.YtpoignmclfdgpaaGreatDoor
