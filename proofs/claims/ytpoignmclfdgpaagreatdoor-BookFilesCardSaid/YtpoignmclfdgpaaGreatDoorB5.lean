/- Texts that the last one of this claim imports. -/
import Derived.Lib.AppendZerosOnto
import Derived.Test.YtpoignmclfdgpaaGreatDoorB4
set_option linter.unusedVariables false
set_option linter.unusedSimpArgs false
set_option linter.unusedSectionVars false
set_option linter.unusedVariables false
namespace Go.Proofs.YtpoignmclfdgpaaGreatDoor
open Go.Lw Go.Gl Go.Bk Go.RowKit
theorem cut_snoc (c b : UInt8) : ∀ (n : Nat) (s : List UInt8), s.length ≤ n → cutAt c (s ++ [b]) = if b = c then cutAt c s ++ [[]] else (cutAt c s).dropLast ++ [(cutAt c s).getLastD [] ++ [b]] := by
 intro n
 induction n with
 | zero =>
  intro s hs
  obtain rfl := List.length_eq_zero_iff.1 (Nat.le_zero.1 hs)
  show cutAt c [b] = _
  by_cases h : b = c
  ·rw [if_pos h]; simp only [cutAt]; rw [if_pos h]; rfl
  ·rw [if_neg h]; simp only [cutAt]; rw [if_neg h]; rfl
 | succ n ih =>
  intro s hs
  rcases first_of c s with h | ⟨u, t, rfl, h⟩
  ·by_cases hb : b = c
   ·subst hb
    rw [if_pos rfl, jk [] h, jN h]; rfl
   ·rw [if_neg hb, jN h, jN (fun hm => (List.mem_append.1 hm).elim h (fun hm => hb (List.mem_singleton.1 hm).symm))]; rfl
  ·simp only [List.length_append, List.length_cons] at hs
   rw [List.append_assoc, List.cons_append, jk _ h, jk t h, ih t (by omega)]
   obtain ⟨x, xs, hx⟩ := List.exists_cons_of_ne_nil (ja c t)
   by_cases hb : b = c
   ·rw [if_pos hb, if_pos hb]; rfl
   ·rw [if_neg hb, if_neg hb, hx, List.dropLast_cons_cons, List.getLastD_cons, List.getLastD_cons, List.getLastD_cons]; rfl
theorem words_f (s : List UInt8) (hs : s.length ≤ 1000000) (V : View) : Fnc Tryz.prog 116 [sT s] V fun r V' => Sl V' stL 1 r (cutAt 32 s) := by
 refine ql Tryz.func116 rfl Tryz.ntmps116 (Nat.le_of_ble_eq_true rfl) ?_
 intro w0 hw0
 refine At.nrm ?_
 refine At.zi (.q 0 .done) ?_
 refine AtT.zg ?_
 refine AtT.done ?_
 refine At.nrm ?_
 refine At.zi (.q 0 .done) ?_
 refine AtT.zg ?_
 refine AtT.done ?_
 refine At.nrm ?_
 refine At.newRow 9 1 ?_
 refine At.zi (.q 0 .done) ?_
 refine AtT.zg ?_
 refine AtT.done ?_
 refine At.nrm ?_
 refine At.zi (.q 0 .done) ?_
 refine AtT.zg ?_
 refine AtT.done ?_
 refine At.nrm ?_
 refine At.lp (ι := Nat × Nat × List (List UInt8) × Option Addr × Nat) (KS := fun g => [(0, sT s), (3, .slice g.2.2.2.1 g.2.2.1.length g.2.2.2.2), (4, iv g.2.1), (5, iv g.1)])
  (OS := fun g => [.row (.slice g.2.2.2.1 g.2.2.1.length g.2.2.2.2) 9 1 g.2.2.1.length (flat stL g.2.2.1)])
  (VS := fun g V' => Le V V' ∧ g.1 ≤ s.length + 1 ∧ g.2.2.1.length ≤ g.1 ∧ (g.1 ≤ s.length → g.2.1 ≤ g.1 ∧ cutAt 32 (s.take g.1) = g.2.2.1 ++ [(s.take g.1).drop g.2.1]) ∧ (g.1 = s.length + 1 → cutAt 32 s = g.2.2.1)) (μ := fun g => s.length + 1 - g.1) (0, 0, [], none, 0) ?_ ?_ ?_ ?_
 ·exact ⟨rfl, rfl, rfl, rfl, trivial⟩
 ·exact Pt.zI
 ·exact ⟨Le.refl _, Nat.zero_le _, Nat.le_refl _, fun _ => ⟨Nat.le_refl _, rfl⟩, fun h => by dsimp only at h; omega⟩
 rintro ⟨i, j, P, an, cn⟩ V' ks' O' ⟨hVV, hil, hPl, hcut, hend⟩ hk hO hl
 dsimp only at hil hPl hcut hend hk hO
 subst hk hO
 refine At.nrm ?_
 refine At.zi (.q 0 (.q 1 (.q 2 (.q 3 .done)))) ?_
 refine AtT.zf ?_
 refine AtT.zf ?_
 refine AtT.qR rfl trivial Tryz.underlying9 rfl (by decide) ?_
 refine AtT.kleq ?_
 refine AtT.done ?_
 refine At.nrm ?_
 refine At.qb rfl (fun hp => ?_) (fun hp => ?_)
 ·obtain ⟨hji, hc⟩ := hcut (by omega)
  have hsub : ∀ a b : Nat, ((s.take (b : Int).toNat).drop (a : Int).toNat) = (s.take b).drop a := fun a b => rfl
  by_cases he : i = s.length
  ·subst he
   rw [List.take_length] at hc
   refine At.nrm ?_
   refine At.zi (.q 0 (.q 1 (.q 2 (.q 3 (.q 4 (.q 5 (.q 6 (.q 7 (.q 8 (.q 9 .done)))))))))) ?_
   refine AtT.zf ?_
   refine AtT.zf ?_
   refine AtT.qR rfl trivial Tryz.underlying9 rfl (by decide) ?_
   refine AtT.qF ?_
   refine AtT.qa (d := 15) rfl ((by omega)) ?_
   refine AtT.zf ?_
   all_goals (first | refine AtT.kL 16 ?_ | refine AtT.zw (d := 16) rfl (fun hg16 => ?_) (fun hg16 => ?_) | refine AtT.zu (d := 16) rfl (fun hg16 => ?_) (fun hg16 => ?_))
   all_goals first|refine AtT.zh ?_|refine AtT.ze ?_|(refine AtT.zf ?_)
   all_goals first|refine AtT.zh ?_|refine AtT.ze ?_|(refine AtT.zf ?_)
   all_goals first|refine AtT.zh ?_|refine AtT.ze ?_|(refine AtT.ixT rfl ⟨_, _, rfl, rfl, rfl⟩ Tryz.underlying9 rfl rfl (by omega) (by omega) (by decide) ?_)
   all_goals first|refine AtT.zh ?_|refine AtT.ze ?_|(refine AtT.qF ?_)
   all_goals (refine AtT.zx ?_)
   all_goals refine AtT.done ?_
   all_goals (refine At.nrm ?_)
   all_goals refine At.zU rfl rfl ?_
   refine At.nrm ?_
   refine At.zi (.q 0 (.q 1 (.q 2 (.q 3 (.q 4 (.n false 5 (.n true 6 (.q 7 .done)))))))) ?_
   refine AtT.zf ?_
   refine AtT.zf ?_
   refine AtT.zf ?_
   refine AtT.zf ?_
   refine AtT.subT rfl trivial Tryz.underlying9 rfl rfl rfl (by omega) (by omega) (by omega) (by decide) ?_
   rw [hsub, List.take_length]
   refine AtT.zN (bs121_1_0 _) ?_
   intro q27 V27 hV27 hq27
   have g27 : Le V V27 := by first | exact hV27 | exact Le.trans (by assumption) hV27
   first | refine AtT.qX Tryz.underlying121 rw9 ?_
   intro a28 c28
   refine AtT.zg ?_
   refine AtT.done ?_
   refine At.nrm ?_
   refine At.zi (.q 0 (.q 1 (.q 2 .done))) ?_
   refine AtT.zf ?_
   first | refine AtT.qG ?_ | refine AtT.qd ?_
   refine AtT.zg ?_
   refine AtT.done ?_
   refine At.nrm ?_
   refine At.zi (.q 0 (.q 1 (.q 2 .done))) ?_
   refine AtT.zf ?_
   first | refine AtT.qG ?_ | refine AtT.qd ?_
   refine AtT.zg ?_
   refine AtT.done ?_
   refine At.nrm ?_
   refine At.round (s.length + 1, s.length + 1, P ++ [s.drop j], a28, c28) ?_ ?_ ?_ ?_
   ·show s.length + 1 - (s.length + 1) < s.length + 1 - s.length; omega
   ·exact ⟨hVV.trans hV27, by dsimp only; omega, by dsimp only; rw [List.length_append]; simp only [List.length_cons, List.length_nil]; omega, fun h => by dsimp only at h; omega, fun _ => hc⟩
   ·refine ⟨rfl, ?_, ivs (by dsimp only; omega), ivs (by dsimp only; omega), trivial⟩
    dsimp only; rw [List.length_append]; rfl
   ·dsimp only
    rw [qY, show (P ++ [s.drop j]).length = P.length + 1 from by rw [List.length_append]; rfl]
    exact Pt.zI
  obtain ⟨c, hci⟩ : ∃ c, s[i]? = some c := ⟨_, List.getElem?_eq_getElem (by omega)⟩
  have hgd := gd_at hci
  have hcl := c.toNat_lt
  have hsn := cut_snoc 32 c _ (s.take i) (Nat.le_refl _)
  rw [← jq hci, hc] at hsn
  have hc32 : ((c.toNat : Int) = 32) ↔ c = 32 := by
   constructor
   ·intro h; exact UInt8.toNat_inj.1 (by have : (32 : UInt8).toNat = 32 := rfl; omega)
   ·rintro rfl; rfl
  have hil2 : (s.take i).length = i := by rw [List.length_take]; omega
  by_cases h32 : c = 32
  ·rw [if_pos h32] at hsn
   refine At.nrm ?_
   refine At.zi (.q 0 (.q 1 (.q 2 (.q 3 (.q 4 (.q 5 (.q 6 (.q 7 (.q 8 (.q 9 .done)))))))))) ?_
   refine AtT.zf ?_
   refine AtT.zf ?_
   refine AtT.qR rfl trivial Tryz.underlying9 rfl (by decide) ?_
   refine AtT.qF ?_
   refine AtT.zS (d := 15) rfl ((by omega)) ?_
   refine AtT.zf ?_
   all_goals (first | refine AtT.kL 16 ?_ | refine AtT.zw (d := 16) rfl (fun hg16 => ?_) (fun hg16 => ?_) | refine AtT.zu (d := 16) rfl (fun hg16 => ?_) (fun hg16 => ?_))
   all_goals first|refine AtT.zh ?_|refine AtT.ze ?_|(refine AtT.zf ?_)
   all_goals first|refine AtT.zh ?_|refine AtT.ze ?_|(refine AtT.zf ?_)
   all_goals first|refine AtT.zh ?_|refine AtT.ze ?_|(refine AtT.ixT rfl ⟨_, _, rfl, rfl, rfl⟩ Tryz.underlying9 rfl rfl (by omega) (by omega) (by decide) ?_)
   all_goals (rw [hgd])
   all_goals first|refine AtT.zh ?_|refine AtT.ze ?_|(refine AtT.qF ?_)
   all_goals (refine AtT.qa (d := 20) rfl ((hc32.2 h32)) ?_)
   all_goals (refine AtT.zx ?_)
   all_goals refine AtT.done ?_
   all_goals (refine At.nrm ?_)
   all_goals refine At.zU rfl rfl ?_
   refine At.nrm ?_
   refine At.zi (.q 0 (.q 1 (.q 2 (.q 3 (.q 4 (.n false 5 (.n true 6 (.q 7 .done)))))))) ?_
   refine AtT.zf ?_
   refine AtT.zf ?_
   refine AtT.zf ?_
   refine AtT.zf ?_
   refine AtT.subT rfl trivial Tryz.underlying9 rfl rfl rfl (by omega) (by omega) (by omega) (by decide) ?_
   rw [hsub]
   refine AtT.zN (bs121_1_0 _) ?_
   intro q27 V27 hV27 hq27
   have g27 : Le V V27 := by first | exact hV27 | exact Le.trans (by assumption) hV27
   first | refine AtT.qX Tryz.underlying121 rw9 ?_
   intro a28 c28
   refine AtT.zg ?_
   refine AtT.done ?_
   refine At.nrm ?_
   refine At.zi (.q 0 (.q 1 (.q 2 .done))) ?_
   refine AtT.zf ?_
   first | refine AtT.qG ?_ | refine AtT.qd ?_
   refine AtT.zg ?_
   refine AtT.done ?_
   refine At.nrm ?_
   refine At.zi (.q 0 (.q 1 (.q 2 .done))) ?_
   refine AtT.zf ?_
   first | refine AtT.qG ?_ | refine AtT.qd ?_
   refine AtT.zg ?_
   refine AtT.done ?_
   refine At.nrm ?_
   refine At.round (i + 1, i + 1, P ++ [(s.take i).drop j], a28, c28) ?_ ?_ ?_ ?_
   ·show s.length + 1 - (i + 1) < s.length + 1 - i; omega
   ·refine ⟨hVV.trans hV27, by dsimp only; omega, by dsimp only; rw [List.length_append]; simp only [List.length_cons, List.length_nil]; omega, fun h => ⟨Nat.le_refl _, ?_⟩, fun h => by dsimp only at h; omega⟩
    dsimp only
    rw [hsn, List.drop_of_length_le (l := s.take (i + 1)) (by rw [List.length_take]; omega)]
   ·refine ⟨rfl, ?_, ivs (by dsimp only; omega), ivs (by dsimp only; omega), trivial⟩
    dsimp only; rw [List.length_append]; rfl
   ·dsimp only
    rw [qY, show (P ++ [(s.take i).drop j]).length = P.length + 1 from by rw [List.length_append]; rfl]
    exact Pt.zI
  ·rw [if_neg h32, List.dropLast_concat, List.getLastD_concat] at hsn
   refine At.nrm ?_
   refine At.zi (.q 0 (.q 1 (.q 2 (.q 3 (.q 4 (.q 5 (.q 6 (.q 7 (.q 8 (.q 9 .done)))))))))) ?_
   refine AtT.zf ?_
   refine AtT.zf ?_
   refine AtT.qR rfl trivial Tryz.underlying9 rfl (by decide) ?_
   refine AtT.qF ?_
   refine AtT.zS (d := 15) rfl ((by omega)) ?_
   refine AtT.zf ?_
   all_goals (first | refine AtT.kL 16 ?_ | refine AtT.zw (d := 16) rfl (fun hg16 => ?_) (fun hg16 => ?_) | refine AtT.zu (d := 16) rfl (fun hg16 => ?_) (fun hg16 => ?_))
   all_goals first|refine AtT.zh ?_|refine AtT.ze ?_|(refine AtT.zf ?_)
   all_goals first|refine AtT.zh ?_|refine AtT.ze ?_|(refine AtT.zf ?_)
   all_goals first|refine AtT.zh ?_|refine AtT.ze ?_|(refine AtT.ixT rfl ⟨_, _, rfl, rfl, rfl⟩ Tryz.underlying9 rfl rfl (by omega) (by omega) (by decide) ?_)
   all_goals (rw [hgd])
   all_goals first|refine AtT.zh ?_|refine AtT.ze ?_|(refine AtT.qF ?_)
   all_goals (refine AtT.zS (d := 20) rfl ((fun h => h32 (hc32.1 h))) ?_)
   all_goals (refine AtT.zx ?_)
   all_goals refine AtT.done ?_
   all_goals (refine At.nrm ?_)
   all_goals refine At.zX rfl rfl ?_
   refine At.nrm ?_
   refine At.zi (.q 0 (.q 1 (.q 2 .done))) ?_
   refine AtT.zf ?_
   first | refine AtT.qG ?_ | refine AtT.qd ?_
   refine AtT.zg ?_
   refine AtT.done ?_
   refine At.nrm ?_
   refine At.round (i + 1, j, P, an, cn) ?_ ?_ ?_ ?_
   ·show s.length + 1 - (i + 1) < s.length + 1 - i; omega
   ·refine ⟨hVV, by dsimp only; omega, by dsimp only; omega, fun h => ⟨by dsimp only; omega, ?_⟩, fun h => by dsimp only at h; omega⟩
    dsimp only
    rw [hsn, jq hci, List.drop_append_of_le_length (by omega)]
   ·exact ⟨rfl, rfl, rfl, ivs (by dsimp only; omega), trivial⟩
   ·exact Pt.zI
 obtain rfl : i = s.length + 1 := by omega
 have hP := hend rfl
 refine At.jF (enc := stL) (l := P) (fun _ => rfl) rfl rfl zP.zI (fun V3 hV3 hs3 => ?_)
 refine At.nrm ?_
 refine At.zi (.q 0 (.q 1 .done)) ?_
 refine AtT.zf ?_
 refine AtT.zg ?_
 refine AtT.done ?_
 refine At.nrm ?_
 exact At.qh rfl (.tmp rfl) (by rw [hP]; exact hs3)
end Go.Proofs.YtpoignmclfdgpaaGreatDoor
set_option linter.unusedVariables false
namespace Go.Proofs.YtpoignmclfdgpaaGreatDoor
open Go.Lw Go.Gl Go.Bk Go.RowKit
def RwO (ar : Option Addr) (cr : Nat) (qs : List RcQ) (ae : Option Addr) (ce : Nat) (es : List En) (O : List Own) : List Own :=
 .row (.slice ar qs.length cr) 80 2 qs.length (flat rce qs) :: .row (.slice ae es.length ce) 36 4 es.length (flat ene es) :: O
abbrev bkv (ar : Option Addr) (cr : Nat) (qs : List RcQ) (ae : Option Addr) (ce : Nat) (es : List En) : Value := .agg #[.slice ar qs.length cr, .slice ae es.length ce]
def RrR (ar : Option Addr) (cr : Nat) (qs : List RcQ) (ae : Option Addr) (ce : Nat) (es : List En) (s : List UInt8) (O : List Own) (V : View) (r : Value) (O' : List Own) (V' : View) : Prop :=
 Le V V' ∧ ((rdL ⟨qs.map (·.1), es⟩ s = none ∧ r = .tuple #[bkv ar cr qs ae ce es, .bool false] ∧ ∃ (b : Nat) (o : Obj), O' = .blk b o :: O) ∨ ∃ (ar' : Option Addr) (cr' : Nat) (qs' : List RcQ) (ae' : Option Addr) (ce' : Nat) (es' : List En), rdL ⟨qs.map (·.1), es⟩ s = some ⟨qs'.map (·.1), es'⟩ ∧ r = .tuple #[bkv ar' cr' qs' ae' ce' es', .bool true] ∧ (∃ (b : Nat) (o : Obj), O' = .blk b o :: RwO ar' cr' qs' ae' ce' es' O) ∧ RsQ V' qs')
set_option maxHeartbeats 4000000 in
theorem rread_f {cx : Cx} {O : List Own} {V : View} (ar : Option Addr) (cr : Nat) (qs : List RcQ) (ae : Option Addr) (ce : Nat) (es : List En) (s : List UInt8) (hs : s.length ≤ 4000) (hq1 : qs.length ≤ 5000) (he1 : es.length ≤ 5000) (hq : RsQ V qs) :
  FncM Tryz.prog cx 83 [bkv ar cr qs ae ce es, sT s] (RwO ar cr qs ae ce es O) V fun r O' V' => RrR ar cr qs ae ce es s O V r O' V' := by
 unfold RwO
 obtain ⟨w, ws, hcut⟩ : ∃ w ws, cutAt 32 s = w :: ws := by
  cases h : cutAt 32 s with
  | nil => exact absurd h (ja 32 s)
  | cons w ws => exact ⟨w, ws, rfl⟩
 have hcl := cutAt_len 32 s
 rw [hcut] at hcl
 have hwl : ws.length ≤ 4000 := by have := hcl.1; simp only [List.length_cons] at this; omega
 have hwi : ∀ x ∈ ws, x.length ≤ 4000 := fun x hx => by have := hcl.2 x (List.mem_cons_of_mem _ hx); omega
 have hl0 : (w :: ws).length ≠ 0 := by simp
 refine fncM_of Tryz.func83 rfl Tryz.ntmps83 (Nat.le_of_ble_eq_true rfl) ?_
 refine At.nrm ?_
 refine At.zi (.n false 0 (.n false 1 (.q 2 .done))) ?_
 refine AtT.jE ?_
 intro b2
 refine AtT.zT z26 ?_
 intro b4
 refine AtT.zg ?_
 refine AtT.done ?_
 refine At.nrm ?_
 refine At.zi (.q 0 (.n false 1 (.q 2 .done))) ?_
 refine AtT.zf ?_
 refine AtT.qg rfl rfl ok116 (words_f s (by omega) V) ?_
 rintro v14 V14 hV14 hs14; rw [hcut] at hs14; obtain ⟨a14, c14, rfl, _, _, _, _⟩ := id hs14
 refine AtT.zg ?_
 refine AtT.done ?_
 refine At.nrm ?_
 have hw0 : ∀ e, (w :: ws)[0]? = some e → w = e := fun e he => Option.some.inj he
 refine At.zi (.q 0 (.q 1 (.n false 2 (.q 3 (.q 4 (.q 5 (.q 6 (.q 7 .done)))))))) ?_
 refine AtT.zf ?_
 refine AtT.ktail Tryz.underlying121 tk9 ?_ (hv := hs14) (h1 := by show (1 : Int) ≤ ((ws.length + 1 : Nat) : Int); omega)
 intro a17 c17 hs17
 refine AtT.qg rfl rfl ok117 (rnumbers_f ws (by omega) hwi _ _ hs17) ?_
 rintro v18 V18 hV18 ⟨u18, rfl, hs18⟩
 refine AtT.zf ?_
 refine AtT.zt ?_
 refine AtT.zt ?_
 refine AtT.zg ?_
 refine AtT.zg ?_
 refine AtT.done ?_
 refine At.nrm ?_
 have k18 := hV14.trans hV18
 have hs14' := hs14.le hV18
 have hq18 := hq.le k18
 refine At.zi (.q 0 (.q 1 (.q 2 (.n false 3 (.q 4 .done))))) ?_
 refine AtT.zf ?_
 refine AtT.qm Tryz.underlying121 tk9 ?_
 intro p22 e22 he22 hc22
 first | refine AtT.zm tk9 ?_ | refine AtT.zo tk9 ?_
 obtain rfl := hw0 _ he22
 refine AtT.zG rfl rfl ok118 (kindOf_f w _) ?_
 rintro _ rfl
 refine AtT.zg ?_
 refine AtT.done ?_
 refine At.nrm ?_
 cases hnum : jr ws with
 | none =>
  have hno := rdL_none hcut hnum ⟨qs.map (·.1), es⟩
  refine At.zi (.q 0 (.q 1 (.q 2 (.q 3 (.q 4 (.q 5 (.q 6 (.q 7 (.q 8 (.q 9 (.q 10 (.q 11 .done)))))))))))) ?_
  refine AtT.zf ?_
  refine AtT.qC ?_
  refine AtT.qJ (d := 26) rfl ((show (!false) = true from rfl)) ?_
  refine AtT.zf ?_
  all_goals (first | refine AtT.kL 27 ?_ | refine AtT.zw (d := 27) rfl (fun hg27 => ?_) (fun hg27 => ?_) | refine AtT.zu (d := 27) rfl (fun hg27 => ?_) (fun hg27 => ?_))
  all_goals first|refine AtT.zh ?_|refine AtT.ze ?_|(refine AtT.zf ?_)
  all_goals first|refine AtT.zh ?_|refine AtT.ze ?_|(refine AtT.qm Tryz.underlying121 tk9 ?_) ; (intro p29 e29 he29 hc29)
  all_goals first|refine AtT.zh ?_|refine AtT.ze ?_|(first | refine AtT.zm tk9 ?_ | refine AtT.zo tk9 ?_)
  all_goals first|refine AtT.zh ?_|refine AtT.ze ?_|(refine AtT.neT rfl ⟨_, _, rfl, rfl, rfl⟩ rfl rfl (by decide) ?_)
  all_goals first|refine AtT.zh ?_|refine AtT.ze ?_|(refine AtT.zf ?_)
  all_goals (first | refine AtT.kL 32 ?_ | refine AtT.zw (d := 32) rfl (fun hg32 => ?_) (fun hg32 => ?_) | refine AtT.zu (d := 32) rfl (fun hg32 => ?_) (fun hg32 => ?_))
  all_goals first|refine AtT.zh ?_|refine AtT.ze ?_|(refine AtT.zf ?_)
  all_goals first|refine AtT.zh ?_|refine AtT.ze ?_|(refine AtT.qF ?_)
  all_goals first|refine AtT.zh ?_|refine AtT.ze ?_|(refine AtT.zx ?_)
  all_goals (refine AtT.zx ?_)
  all_goals refine AtT.done ?_
  all_goals (refine At.nrm ?_)
  all_goals refine At.zU rfl rfl ?_
  refine At.nrm ?_
  refine At.zi (.q 0 (.n true 1 (.q 2 .done))) ?_
  first | refine AtT.zF zH ?_ | refine AtT.zJ zH ?_ | refine AtT.zD zH ?_
  refine AtT.zy zH ?_
  refine AtT.zg ?_
  refine AtT.done ?_
  refine At.nrm ?_
  refine At.pt (O' := .blk b4 (LC [.slice ar qs.length cr, .slice ae es.length ce] 26) :: O) Pt.zV ?_
  exact At.retM2 (cx := cx) rfl (.agg rfl zH zP.zI rfl) (.tmp rfl) ⟨k18, .inl ⟨hno, rfl, _, _, rfl⟩⟩
 | some n =>
  rw [hnum] at hs18
  have hnl := nums_len hnum
  have hrd := rdL_some hcut hnum ⟨qs.map (·.1), es⟩
  by_cases hbad : w ≠ [114] ∧ jf w = 0
  ·have hno := rdL_word hcut hbad.1 hbad.2 ⟨qs.map (·.1), es⟩
   refine At.zi (.q 0 (.q 1 (.q 2 (.q 3 (.q 4 (.q 5 (.q 6 (.q 7 (.q 8 (.q 9 (.q 10 (.q 11 .done)))))))))))) ?_
   refine AtT.zf ?_
   refine AtT.qC ?_
   refine AtT.qJ (d := 26) rfl ((show (!true) = false from rfl)) ?_
   refine AtT.zf ?_
   all_goals (first | refine AtT.kL 27 ?_ | refine AtT.zw (d := 27) rfl (fun hg27 => ?_) (fun hg27 => ?_) | refine AtT.zu (d := 27) rfl (fun hg27 => ?_) (fun hg27 => ?_))
   all_goals first|refine AtT.zh ?_|refine AtT.ze ?_|(refine AtT.zf ?_)
   all_goals first|refine AtT.zh ?_|refine AtT.ze ?_|(refine AtT.qm Tryz.underlying121 tk9 ?_) ; (intro p29 e29 he29 hc29)
   all_goals first|refine AtT.zh ?_|refine AtT.ze ?_|(first | refine AtT.zm tk9 ?_ | refine AtT.zo tk9 ?_)
   all_goals (obtain rfl := hw0 _ he29)
   all_goals first|refine AtT.zh ?_|refine AtT.ze ?_|(refine AtT.neT rfl ⟨_, _, rfl, rfl, rfl⟩ rfl rfl (by decide) ?_)
   all_goals (refine AtT.qa (d := 31) rfl (hbad.1) ?_)
   all_goals first|refine AtT.zh ?_|refine AtT.ze ?_|(refine AtT.zf ?_)
   all_goals (first | refine AtT.kL 32 ?_ | refine AtT.zw (d := 32) rfl (fun hg32 => ?_) (fun hg32 => ?_) | refine AtT.zu (d := 32) rfl (fun hg32 => ?_) (fun hg32 => ?_))
   all_goals first|refine AtT.zh ?_|refine AtT.ze ?_|(refine AtT.zf ?_)
   all_goals first|refine AtT.zh ?_|refine AtT.ze ?_|(refine AtT.qF ?_)
   all_goals (refine AtT.qa (d := 34) rfl (hbad.2) ?_)
   all_goals first|refine AtT.zh ?_|refine AtT.ze ?_|(refine AtT.zx ?_)
   all_goals (refine AtT.zx ?_)
   all_goals refine AtT.done ?_
   all_goals (refine At.nrm ?_)
   all_goals refine At.zU rfl rfl ?_
   refine At.nrm ?_
   refine At.zi (.q 0 (.n true 1 (.q 2 .done))) ?_
   first | refine AtT.zF zH ?_ | refine AtT.zJ zH ?_ | refine AtT.zD zH ?_
   refine AtT.zy zH ?_
   refine AtT.zg ?_
   refine AtT.done ?_
   refine At.nrm ?_
   refine At.pt (O' := .blk b4 (LC [.slice ar qs.length cr, .slice ae es.length ce] 26) :: O) Pt.zV ?_
   exact At.retM2 (cx := cx) rfl (.agg rfl zH zP.zI rfl) (.tmp rfl) ⟨k18, .inl ⟨hno, rfl, _, _, rfl⟩⟩
  obtain ⟨N, hN⟩ : ∃ N, N = n.map fun v : Nat => (v : Int) := ⟨_, rfl⟩
  have hNl : N.length = n.length := by rw [hN]; exact List.length_map _
  have hsN : SlI V18 u18 N := by rw [hN]; exact hs18
  obtain ⟨aN, cN, rfl, _, _, _, _⟩ := id hsN
  clear hs18
  by_cases hw : w = [114]
  ·subst hw
   refine At.zi (.q 0 (.q 1 (.q 2 (.q 3 (.q 4 (.q 5 (.q 6 (.q 7 (.q 8 (.q 9 (.q 10 (.q 11 .done)))))))))))) ?_
   refine AtT.zf ?_
   refine AtT.qC ?_
   refine AtT.qJ (d := 26) rfl ((show (!true) = false from rfl)) ?_
   refine AtT.zf ?_
   all_goals (first | refine AtT.kL 27 ?_ | refine AtT.zw (d := 27) rfl (fun hg27 => ?_) (fun hg27 => ?_) | refine AtT.zu (d := 27) rfl (fun hg27 => ?_) (fun hg27 => ?_))
   all_goals first|refine AtT.zh ?_|refine AtT.ze ?_|(refine AtT.zf ?_)
   all_goals first|refine AtT.zh ?_|refine AtT.ze ?_|(refine AtT.qm Tryz.underlying121 tk9 ?_) ; (intro p29 e29 he29 hc29)
   all_goals first|refine AtT.zh ?_|refine AtT.ze ?_|(first | refine AtT.zm tk9 ?_ | refine AtT.zo tk9 ?_)
   all_goals (obtain rfl := hw0 _ he29)
   all_goals first|refine AtT.zh ?_|refine AtT.ze ?_|(refine AtT.neT rfl ⟨_, _, rfl, rfl, rfl⟩ rfl rfl (by decide) ?_)
   all_goals (refine AtT.zS (d := 31) rfl ((fun h => h rfl)) ?_)
   all_goals first|refine AtT.zh ?_|refine AtT.ze ?_|(refine AtT.zf ?_)
   all_goals (first | refine AtT.kL 32 ?_ | refine AtT.zw (d := 32) rfl (fun hg32 => ?_) (fun hg32 => ?_) | refine AtT.zu (d := 32) rfl (fun hg32 => ?_) (fun hg32 => ?_))
   all_goals first|refine AtT.zh ?_|refine AtT.ze ?_|(refine AtT.zf ?_)
   all_goals first|refine AtT.zh ?_|refine AtT.ze ?_|(refine AtT.qF ?_)
   all_goals first|refine AtT.zh ?_|refine AtT.ze ?_|(refine AtT.zx ?_)
   all_goals (refine AtT.zx ?_)
   all_goals refine AtT.done ?_
   all_goals (refine At.nrm ?_)
   all_goals refine At.zX rfl rfl ?_
   refine At.nrm ?_
   refine At.zi (.q 0 (.q 1 (.q 2 (.q 3 .done)))) ?_
   refine AtT.zf ?_
   refine AtT.qm Tryz.underlying121 tk9 ?_
   intro p39 e39 he39 hc39
   first | refine AtT.zm tk9 ?_ | refine AtT.zo tk9 ?_
   obtain rfl := hw0 _ he39
   refine AtT.eqT rfl trivial rfl rfl (by decide) ?_
   refine AtT.qa (d := 41) rfl (rfl) ?_
   refine AtT.done ?_
   refine At.nrm ?_
   all_goals refine At.zU rfl rfl ?_
   refine At.nrm ?_
   by_cases hev : n.length % 2 = 0
   ·have hrn : rdW ⟨qs.map (·.1), es⟩ [114] n = none := by unfold rdW; rw [if_pos rfl, if_pos (.inl hev)]
    refine At.zi (.q 0 (.q 1 (.q 2 (.q 3 (.q 4 (.q 5 (.q 6 (.q 7 (.q 8 (.q 9 .done)))))))))) ?_
    refine AtT.zf ?_
    first | refine AtT.zR Tryz.underlying28 ?_ | refine AtT.zQ Tryz.underlying28 ?_
    refine AtT.krem ?_
    rw [show ((N.length : Nat) : Int).tmod 2 = ((N.length % 2 : Nat) : Int) from rfl]
    refine AtT.qF ?_
    refine AtT.qa (d := 45) rfl ((by rw [hNl]; omega)) ?_
    refine AtT.zf ?_
    all_goals (first | refine AtT.kL 46 ?_ | refine AtT.zw (d := 46) rfl (fun hg46 => ?_) (fun hg46 => ?_) | refine AtT.zu (d := 46) rfl (fun hg46 => ?_) (fun hg46 => ?_))
    all_goals first|refine AtT.zh ?_|refine AtT.ze ?_|(first | refine AtT.zk zz ?_ | with_reducible refine AtT.zl zz ?_ | refine AtT.zn zz ?_)
    all_goals first|refine AtT.zh ?_|refine AtT.ze ?_|(first | refine AtT.zm qo ?_ | refine AtT.zo qo ?_)
    all_goals first|refine AtT.zh ?_|refine AtT.ze ?_|(first | refine AtT.zR Tryz.underlying24 ?_ | refine AtT.zQ Tryz.underlying24 ?_)
    all_goals first|refine AtT.zh ?_|refine AtT.ze ?_|(refine AtT.qI ?_)
    all_goals (refine AtT.zx ?_)
    all_goals refine AtT.done ?_
    all_goals (refine At.nrm ?_)
    all_goals refine At.zU rfl rfl ?_
    refine At.nrm ?_
    refine At.zi (.q 0 (.n true 1 (.q 2 .done))) ?_
    first | refine AtT.zF zH ?_ | refine AtT.zJ zH ?_ | refine AtT.zD zH ?_
    refine AtT.zy zH ?_
    refine AtT.zg ?_
    refine AtT.done ?_
    refine At.nrm ?_
    refine At.pt (O' := .blk b4 (LC [.slice ar qs.length cr, .slice ae es.length ce] 26) :: O) Pt.zV ?_
    exact At.retM2 (cx := cx) rfl (.agg rfl zH zP.zI rfl) (.tmp rfl) ⟨k18, .inl ⟨hrd.trans hrn, rfl, _, _, rfl⟩⟩
   by_cases hesn : es = []
   rotate_left
   ·have hrn : rdW ⟨qs.map (·.1), es⟩ [114] n = none := by unfold rdW; rw [if_pos rfl, if_pos (.inr hesn)]
    have hesl : es.length ≠ 0 := fun h => hesn (List.length_eq_zero_iff.1 h)
    refine At.zi (.q 0 (.q 1 (.q 2 (.q 3 (.q 4 (.q 5 (.q 6 (.q 7 (.q 8 (.q 9 .done)))))))))) ?_
    refine AtT.zf ?_
    first | refine AtT.zR Tryz.underlying28 ?_ | refine AtT.zQ Tryz.underlying28 ?_
    refine AtT.krem ?_
    rw [show ((N.length : Nat) : Int).tmod 2 = ((N.length % 2 : Nat) : Int) from rfl]
    refine AtT.qF ?_
    refine AtT.zS (d := 45) rfl ((by rw [hNl]; omega)) ?_
    refine AtT.zf ?_
    all_goals (first | refine AtT.kL 46 ?_ | refine AtT.zw (d := 46) rfl (fun hg46 => ?_) (fun hg46 => ?_) | refine AtT.zu (d := 46) rfl (fun hg46 => ?_) (fun hg46 => ?_))
    all_goals first|refine AtT.zh ?_|refine AtT.ze ?_|(first | refine AtT.zk zz ?_ | with_reducible refine AtT.zl zz ?_ | refine AtT.zn zz ?_)
    all_goals first|refine AtT.zh ?_|refine AtT.ze ?_|(first | refine AtT.zm qo ?_ | refine AtT.zo qo ?_)
    all_goals first|refine AtT.zh ?_|refine AtT.ze ?_|(first | refine AtT.zR Tryz.underlying24 ?_ | refine AtT.zQ Tryz.underlying24 ?_)
    all_goals first|refine AtT.zh ?_|refine AtT.ze ?_|(refine AtT.qI ?_)
    all_goals (refine AtT.qa (d := 50) rfl ((by omega)) ?_)
    all_goals (refine AtT.zx ?_)
    all_goals refine AtT.done ?_
    all_goals (refine At.nrm ?_)
    all_goals refine At.zU rfl rfl ?_
    refine At.nrm ?_
    refine At.zi (.q 0 (.n true 1 (.q 2 .done))) ?_
    first | refine AtT.zF zH ?_ | refine AtT.zJ zH ?_ | refine AtT.zD zH ?_
    refine AtT.zy zH ?_
    refine AtT.zg ?_
    refine AtT.done ?_
    refine At.nrm ?_
    refine At.pt (O' := .blk b4 (LC [.slice ar qs.length cr, .slice ae es.length ce] 26) :: O) Pt.zV ?_
    exact At.retM2 (cx := cx) rfl (.agg rfl zH zP.zI rfl) (.tmp rfl) ⟨k18, .inl ⟨hrd.trans hrn, rfl, _, _, rfl⟩⟩
   subst hesn
   obtain ⟨n0, nt, rfl⟩ : ∃ x t, n = x :: t := by cases n with | nil => exact absurd rfl hev | cons x t => exact ⟨x, t, rfl⟩
   have hrn : rdW ⟨qs.map (·.1), []⟩ [114] (n0 :: nt) = some ⟨qs.map (·.1) ++ [⟨(n0 : Nat), pairs nt⟩], []⟩ := by
    unfold rdW; rw [if_pos rfl, if_neg (fun h => h.elim hev (fun h => h rfl))]; rfl
   have hntl : nt.length = 2 * (nt.length / 2) := by simp only [List.length_cons] at hev; omega
   have hN2 : N = (n0 : Int) :: nt.map fun v : Nat => (v : Int) := hN
   simp only [List.length_cons] at hNl hnl
   have hpl : (pairs nt).length = nt.length / 2 := pairs_len nt
   refine At.zi (.q 0 (.q 1 (.q 2 (.q 3 (.q 4 (.q 5 (.q 6 (.q 7 (.q 8 (.q 9 .done)))))))))) ?_
   refine AtT.zf ?_
   first | refine AtT.zR Tryz.underlying28 ?_ | refine AtT.zQ Tryz.underlying28 ?_
   refine AtT.krem ?_
   rw [show ((N.length : Nat) : Int).tmod 2 = ((N.length % 2 : Nat) : Int) from rfl]
   refine AtT.qF ?_
   refine AtT.zS (d := 45) rfl ((by rw [hNl]; simp only [List.length_cons] at hev; omega)) ?_
   refine AtT.zf ?_
   all_goals (first | refine AtT.kL 46 ?_ | refine AtT.zw (d := 46) rfl (fun hg46 => ?_) (fun hg46 => ?_) | refine AtT.zu (d := 46) rfl (fun hg46 => ?_) (fun hg46 => ?_))
   all_goals first|refine AtT.zh ?_|refine AtT.ze ?_|(first | refine AtT.zk zz ?_ | with_reducible refine AtT.zl zz ?_ | refine AtT.zn zz ?_)
   all_goals first|refine AtT.zh ?_|refine AtT.ze ?_|(first | refine AtT.zm qo ?_ | refine AtT.zo qo ?_)
   all_goals first|refine AtT.zh ?_|refine AtT.ze ?_|(first | refine AtT.zR Tryz.underlying24 ?_ | refine AtT.zQ Tryz.underlying24 ?_)
   all_goals first|refine AtT.zh ?_|refine AtT.ze ?_|(refine AtT.qI ?_)
   all_goals (refine AtT.zS (d := 50) rfl ((by simp)) ?_)
   all_goals (refine AtT.zx ?_)
   all_goals refine AtT.done ?_
   all_goals (refine At.nrm ?_)
   all_goals refine At.zX rfl rfl ?_
   refine At.nrm ?_
   have hN0 : N[0]? = some (n0 : Int) := by rw [hN2]; rfl
   refine At.zi (.q 0 (.q 1 (.q 2 (.q 3 (.n false 4 (.n true 5 .done)))))) ?_
   refine AtT.zf ?_
   refine AtT.qm Tryz.underlying28 tk2 ?_
   intro p54 e54 he54 hc54
   first | refine AtT.zm tk2 ?_ | refine AtT.zo tk2 ?_
   obtain rfl : (n0 : Int) = e54 := by have : N[0]? = some e54 := he54; rw [hN0] at this; exact Option.some.inj this
   refine AtT.qy (bd80_0 _) ?_
   refine AtT.zT z80 ?_
   intro b10
   refine AtT.zy qO ?_
   refine AtT.done ?_
   refine At.nrm ?_
   refine At.newRow 69 2 ?_
   refine At.zi (.q 0 .done) ?_
   refine AtT.zg ?_
   refine AtT.done ?_
   refine At.nrm ?_
   refine At.lp (ι := Nat × Option Addr × Nat) (KS := fun g => [(2, .pointer (some ⟨b2, 0, none⟩)), (4, .pointer (some ⟨b4, 0, none⟩)), (7, .slice aN N.length cN), (10, .pointer (some ⟨b10, 0, none⟩)), (11, iv (1 + 2 * g.1 : Nat))])
    (OS := fun g => .blk b10 (LC [iv (n0 : Int), .slice g.2.1 ((pairs nt).take g.1).length g.2.2] 80) :: .row (.slice g.2.1 ((pairs nt).take g.1).length g.2.2) 69 2 ((pairs nt).take g.1).length (flat pte ((pairs nt).take g.1)) :: .blk b4 (LC [.slice none 0 0, .slice none 0 0] 26) :: .blk b2 (LC [.slice ar qs.length cr, .slice ae ([] : List En).length ce] 26) :: .row (.slice ar qs.length cr) 80 2 qs.length (flat rce qs) :: .row (.slice ae ([] : List En).length ce) 36 4 ([] : List En).length (flat ene ([] : List En)) :: O)
    (VS := fun g V' => Le V18 V' ∧ g.1 ≤ nt.length / 2) (μ := fun g => nt.length / 2 - g.1) (0, none, 0) ?_ ?_ ?_ ?_
   ·exact ⟨rfl, rfl, rfl, rfl, rfl, trivial⟩
   ·exact Pt.zV
   ·exact ⟨Le.refl _, Nat.zero_le _⟩
   rintro ⟨k, ap, cp⟩ V3 ks' O' ⟨hVV, hkl⟩ hk hO hl
   dsimp only at hkl hk hO
   subst hk hO
   have hs3 := hsN.le hVV
   have k3 := k18.trans hVV
   refine At.nrm ?_
   refine At.zi (.q 0 (.q 1 (.q 2 (.q 3 .done)))) ?_
   refine AtT.zf ?_
   refine AtT.zf ?_
   first | refine AtT.zR Tryz.underlying28 ?_ | refine AtT.zQ Tryz.underlying28 ?_
   refine AtT.qp ?_
   refine AtT.done ?_
   refine At.nrm ?_
   refine At.qb rfl (fun hp => ?_) (fun hp => ?_)
   ·obtain ⟨x, hx⟩ : ∃ x, nt[2 * k]? = some x := ⟨_, List.getElem?_eq_getElem (by omega)⟩
    obtain ⟨z, hz⟩ : ∃ z, nt[2 * k + 1]? = some z := ⟨_, List.getElem?_eq_getElem (by omega)⟩
    have hpk := pairs_at hx hz
    have htk := jq hpk
    have htl : ((pairs nt).take k).length = k := by rw [List.length_take]; omega
    have hNx : N[((1 + 2 * k : Nat) : Int).toNat]? = some (x : Int) := by rw [hN2, Int.toNat_natCast, show 1 + 2 * k = 2 * k + 1 by omega, List.getElem?_cons_succ]; exact nat_list _ _ _ hx
    have hNz : N[(((1 + 2 * k : Nat) : Int) + 1).toNat]? = some (z : Int) := by rw [hN2, show (((1 + 2 * k : Nat) : Int) + 1).toNat = 2 * k + 1 + 1 by omega, List.getElem?_cons_succ]; exact nat_list _ _ _ hz
    refine At.nrm ?_
    refine At.draw (.q 0 (.q 1 (.q 2 (.q 3 (.q 4 (.q 5 (.q 6 (.q 7 (.q 8 (.q 9 (.q 10 (.q 11 (.n false 12 (.n true 13 (.q 14 (.n true 15 .done)))))))))))))))) ffm (by kernel_rfl) ?_
    first | refine AtT.zk zK ?_ | with_reducible refine AtT.zl zK ?_ | refine AtT.zn zK ?_
    first | refine AtT.zm qM ?_ | refine AtT.zo qM ?_
    refine AtT.zf ?_
    refine AtT.zf ?_
    refine AtT.qm Tryz.underlying28 tk2 ?_
    intro p67 e67 he67 hc67
    first | refine AtT.zm tk2 ?_ | refine AtT.zo tk2 ?_
    obtain rfl : (x : Int) = e67 := by rw [hNx] at he67; exact Option.some.inj he67
    refine AtT.zf ?_
    refine AtT.zf ?_
    first | refine AtT.qG ?_ | refine AtT.qd ?_
    refine AtT.qm Tryz.underlying28 tk2 ?_
    intro p72 e72 he72 hc72
    first | refine AtT.zm tk2 ?_ | refine AtT.zo tk2 ?_
    obtain rfl : (z : Int) = e72 := by rw [hNz] at he72; exact Option.some.inj he72
    refine AtT.qy (bd69_0_1 _ _) ?_
    refine AtT.zN (bs66_1_0 _ _) ?_
    intro q75 V75 hV75 hq75
    have g75 : Le V V75 := by first | exact hV75 | exact Le.trans (by assumption) hV75
    first | refine AtT.qX Tryz.underlying66 rw69 ?_
    intro a76 c76
    first | refine AtT.zk zK ?_ | with_reducible refine AtT.zl zK ?_ | refine AtT.zn zK ?_
    first | refine AtT.jc qM ?_ | refine AtT.zy qM ?_
    refine AtT.done ?_
    refine At.nrm ?_
    refine At.nrm ?_
    refine At.zi (.q 0 (.q 1 (.q 2 .done))) ?_
    refine AtT.zf ?_
    first | refine AtT.qG ?_ | refine AtT.qd ?_
    refine AtT.zg ?_
    refine AtT.done ?_
    refine At.nrm ?_
    refine At.round (k + 1, a76, c76) ?_ ?_ ?_ ?_
    ·show nt.length / 2 - (k + 1) < nt.length / 2 - k; omega
    ·exact ⟨hVV.trans hV75, by dsimp only; omega⟩
    ·exact ⟨rfl, rfl, rfl, rfl, ivs (by dsimp only; omega), trivial⟩
    ·dsimp only
     rw [htk, qY, show ((pairs nt).take k ++ [(⟨x, z⟩ : Pt)]).length = ((pairs nt).take k).length + 1 from by rw [List.length_append]; rfl]
     exact Pt.zV
   obtain rfl : k = nt.length / 2 := by omega
   rw [show (pairs nt).take (nt.length / 2) = pairs nt from by rw [← hpl, List.take_length]]
   refine At.jF (l := pairs nt) pte_len rfl rfl zP.zI (fun V4 hV4 hsP => ?_)
   have k4 := k3.trans hV4
   have hq4 := (hq18.le hVV).le hV4
   refine At.nrm ?_
   refine At.zi (.q 0 (.q 1 (.q 2 (.n false 3 (.n true 4 (.q 5 (.n true 6 .done))))))) ?_
   first | refine AtT.zk zC ?_ | with_reducible refine AtT.zl zC ?_ | refine AtT.zn zC ?_
   first | refine AtT.zm qz ?_ | refine AtT.zo qz ?_
   first | refine AtT.zF qO ?_ | refine AtT.zJ qO ?_ | refine AtT.zD qO ?_
   refine AtT.zN (bs22_1_0 _ _ _ _) ?_
   intro q81 V81 hV81 hq81
   have g81 : Le V V81 := by first | exact hV81 | exact Le.trans (by assumption) hV81
   first | refine AtT.qX Tryz.underlying22 rw80 ?_
   intro a82 c82
   first | refine AtT.zk zC ?_ | with_reducible refine AtT.zl zC ?_ | refine AtT.zn zC ?_
   first | refine AtT.jc qz ?_ | refine AtT.zy qz ?_
   refine AtT.done ?_
   refine At.nrm ?_
   refine At.zi (.q 0 (.n true 1 (.q 2 .done))) ?_
   first | refine AtT.zF zH ?_ | refine AtT.zJ zH ?_ | refine AtT.zD zH ?_
   refine AtT.zy zH ?_
   refine AtT.zg ?_
   refine AtT.done ?_
   refine At.nrm ?_
   refine At.pt (O' := .blk b4 (LC [.slice a82 (qs.length + 1) c82, .slice ae ([] : List En).length ce] 26) :: RwO a82 c82 (qs ++ [((⟨(n0 : Int), pairs nt⟩ : Rc), ap, cp)]) ae ce [] O) ?_ ?_
   ·unfold RwO
    rw [qY, show (qs ++ [((⟨(n0 : Int), pairs nt⟩ : Rc), ap, cp)]).length = qs.length + 1 from by rw [List.length_append]; rfl]
    exact Pt.zV
   refine At.retM2 (cx := cx) rfl (.agg rfl zH zP.zI rfl) (.tmp rfl) ⟨k4.trans hV81, .inr ⟨a82, c82, qs ++ [((⟨(n0 : Int), pairs nt⟩ : Rc), ap, cp)], ae, ce, [], ?_, ?_, ⟨_, _, rfl⟩, fun x hx => ?_⟩⟩
   ·rw [List.map_append]; exact hrd.trans hrn
   ·rw [bkv, List.length_append]; rfl
   ·rcases List.mem_append.1 hx with hx | hx
    ·exact (hq4.le hV81) x hx
    ·obtain rfl := List.mem_singleton.1 hx
     exact hsP.le hV81
  have hkr : jf w ≠ 0 := fun h => hbad ⟨hw, h⟩
  refine At.zi (.q 0 (.q 1 (.q 2 (.q 3 (.q 4 (.q 5 (.q 6 (.q 7 (.q 8 (.q 9 (.q 10 (.q 11 .done)))))))))))) ?_
  refine AtT.zf ?_
  refine AtT.qC ?_
  refine AtT.qJ (d := 26) rfl ((show (!true) = false from rfl)) ?_
  refine AtT.zf ?_
  all_goals (first | refine AtT.kL 27 ?_ | refine AtT.zw (d := 27) rfl (fun hg27 => ?_) (fun hg27 => ?_) | refine AtT.zu (d := 27) rfl (fun hg27 => ?_) (fun hg27 => ?_))
  all_goals first|refine AtT.zh ?_|refine AtT.ze ?_|(refine AtT.zf ?_)
  all_goals first|refine AtT.zh ?_|refine AtT.ze ?_|(refine AtT.qm Tryz.underlying121 tk9 ?_) ; (intro p29 e29 he29 hc29)
  all_goals first|refine AtT.zh ?_|refine AtT.ze ?_|(first | refine AtT.zm tk9 ?_ | refine AtT.zo tk9 ?_)
  all_goals (obtain rfl := hw0 _ he29)
  all_goals first|refine AtT.zh ?_|refine AtT.ze ?_|(refine AtT.neT rfl ⟨_, _, rfl, rfl, rfl⟩ rfl rfl (by decide) ?_)
  all_goals (refine AtT.qa (d := 31) rfl (hw) ?_)
  all_goals first|refine AtT.zh ?_|refine AtT.ze ?_|(refine AtT.zf ?_)
  all_goals (first | refine AtT.kL 32 ?_ | refine AtT.zw (d := 32) rfl (fun hg32 => ?_) (fun hg32 => ?_) | refine AtT.zu (d := 32) rfl (fun hg32 => ?_) (fun hg32 => ?_))
  all_goals first|refine AtT.zh ?_|refine AtT.ze ?_|(refine AtT.zf ?_)
  all_goals first|refine AtT.zh ?_|refine AtT.ze ?_|(refine AtT.qF ?_)
  all_goals (refine AtT.zS (d := 34) rfl (hkr) ?_)
  all_goals first|refine AtT.zh ?_|refine AtT.ze ?_|(refine AtT.zx ?_)
  all_goals (refine AtT.zx ?_)
  all_goals refine AtT.done ?_
  all_goals (refine At.nrm ?_)
  all_goals refine At.zX rfl rfl ?_
  refine At.nrm ?_
  refine At.zi (.q 0 (.q 1 (.q 2 (.q 3 .done)))) ?_
  refine AtT.zf ?_
  refine AtT.qm Tryz.underlying121 tk9 ?_
  intro p39 e39 he39 hc39
  first | refine AtT.zm tk9 ?_ | refine AtT.zo tk9 ?_
  obtain rfl := hw0 _ he39
  refine AtT.eqT rfl trivial rfl rfl (by decide) ?_
  refine AtT.zS (d := 41) rfl (hw) ?_
  refine AtT.done ?_
  refine At.nrm ?_
  all_goals refine At.zX rfl rfl ?_
  refine At.nrm ?_
  by_cases hK4 : jf w = 4
  ·by_cases h3 : n.length = 2
   rotate_left
   ·have hrn : rdW ⟨qs.map (·.1), es⟩ w n = none := by unfold rdW; rw [if_neg hw, if_neg hkr, if_pos (.inl ⟨hK4, h3⟩)]
    refine At.zi (.q 0 (.q 1 (.q 2 (.q 3 (.q 4 (.q 5 (.q 6 (.q 7 (.q 8 (.q 9 (.q 10 (.q 11 (.q 12 (.q 13 (.q 14 (.q 15 .done)))))))))))))))) ?_
    refine AtT.zf ?_
    refine AtT.qF ?_
    refine AtT.qa (d := 86) rfl (hK4) ?_
    refine AtT.zf ?_
    all_goals (first | refine AtT.kL 87 ?_ | refine AtT.zw (d := 87) rfl (fun hg87 => ?_) (fun hg87 => ?_) | refine AtT.zu (d := 87) rfl (fun hg87 => ?_) (fun hg87 => ?_))
    all_goals first|refine AtT.zh ?_|refine AtT.ze ?_|(refine AtT.zf ?_)
    all_goals first|refine AtT.zh ?_|refine AtT.ze ?_|(first | refine AtT.zR Tryz.underlying28 ?_ | refine AtT.zQ Tryz.underlying28 ?_)
    all_goals first|refine AtT.zh ?_|refine AtT.ze ?_|(refine AtT.qE ?_)
    all_goals (refine AtT.qa (d := 90) rfl ((by omega)) ?_)
    all_goals (refine AtT.zx ?_)
    all_goals (refine AtT.zf ?_)
    all_goals (first | refine AtT.kL 92 ?_ | refine AtT.zw (d := 92) rfl (fun hg92 => ?_) (fun hg92 => ?_) | refine AtT.zu (d := 92) rfl (fun hg92 => ?_) (fun hg92 => ?_))
    all_goals first|refine AtT.zh ?_|refine AtT.ze ?_|(refine AtT.zf ?_)
    all_goals first|refine AtT.zh ?_|refine AtT.ze ?_|(refine AtT.qE ?_)
    all_goals first|refine AtT.zh ?_|refine AtT.ze ?_|(refine AtT.zf ?_)
    all_goals (first | refine AtT.kL 95 ?_ | refine AtT.zw (d := 95) rfl (fun hg95 => ?_) (fun hg95 => ?_) | refine AtT.zu (d := 95) rfl (fun hg95 => ?_) (fun hg95 => ?_))
    all_goals first|refine AtT.zh ?_|refine AtT.ze ?_|(refine AtT.zf ?_)
    all_goals first|refine AtT.zh ?_|refine AtT.ze ?_|(first | refine AtT.zR Tryz.underlying28 ?_ | refine AtT.zQ Tryz.underlying28 ?_)
    all_goals first|refine AtT.zh ?_|refine AtT.ze ?_|(refine AtT.qE ?_)
    all_goals first|refine AtT.zh ?_|refine AtT.ze ?_|(refine AtT.zx ?_)
    all_goals (refine AtT.zx ?_)
    all_goals refine AtT.done ?_
    all_goals (refine At.nrm ?_)
    all_goals refine At.zU rfl rfl ?_
    refine At.nrm ?_
    refine At.zi (.q 0 (.n true 1 (.q 2 .done))) ?_
    first | refine AtT.zF zH ?_ | refine AtT.zJ zH ?_ | refine AtT.zD zH ?_
    refine AtT.zy zH ?_
    refine AtT.zg ?_
    refine AtT.done ?_
    refine At.nrm ?_
    refine At.pt (O' := .blk b4 (LC [.slice ar qs.length cr, .slice ae es.length ce] 26) :: O) Pt.zV ?_
    exact At.retM2 (cx := cx) rfl (.agg rfl zH zP.zI rfl) (.tmp rfl) ⟨k18, .inl ⟨hrd.trans hrn, rfl, _, _, rfl⟩⟩
   have hrn : rdW ⟨qs.map (·.1), es⟩ w n = some ⟨qs.map (·.1), es ++ [⟨(n.getD 0 0 : Nat), jf w, (n.getD 1 0 : Nat), 0⟩]⟩ := by
    unfold rdW
    rw [if_neg hw, if_neg hkr, if_neg (fun h => h.elim (fun h => h.2 h3) (fun h => h.1 hK4)), if_pos hK4]
   obtain ⟨x, y, rfl⟩ : ∃ x y, n = [x, y] := by
    match n, h3 with
    | [x, y], _ => exact ⟨x, y, rfl⟩
   have hM0 : N[0]? = some (x : Int) := by rw [hN]; rfl
   have hM1 : N[1]? = some (y : Int) := by rw [hN]; rfl
   have hML : N.length = 2 := hNl
   refine At.zi (.q 0 (.q 1 (.q 2 (.q 3 (.q 4 (.q 5 (.q 6 (.q 7 (.q 8 (.q 9 (.q 10 (.q 11 (.q 12 (.q 13 (.q 14 (.q 15 .done)))))))))))))))) ?_
   refine AtT.zf ?_
   refine AtT.qF ?_
   refine AtT.qa (d := 86) rfl (hK4) ?_
   refine AtT.zf ?_
   all_goals (first | refine AtT.kL 87 ?_ | refine AtT.zw (d := 87) rfl (fun hg87 => ?_) (fun hg87 => ?_) | refine AtT.zu (d := 87) rfl (fun hg87 => ?_) (fun hg87 => ?_))
   all_goals first|refine AtT.zh ?_|refine AtT.ze ?_|(refine AtT.zf ?_)
   all_goals first|refine AtT.zh ?_|refine AtT.ze ?_|(first | refine AtT.zR Tryz.underlying28 ?_ | refine AtT.zQ Tryz.underlying28 ?_)
   all_goals first|refine AtT.zh ?_|refine AtT.ze ?_|(refine AtT.qE ?_)
   all_goals (refine AtT.zS (d := 90) rfl ((by omega)) ?_)
   all_goals (refine AtT.zx ?_)
   all_goals (refine AtT.zf ?_)
   all_goals (first | refine AtT.kL 92 ?_ | refine AtT.zw (d := 92) rfl (fun hg92 => ?_) (fun hg92 => ?_) | refine AtT.zu (d := 92) rfl (fun hg92 => ?_) (fun hg92 => ?_))
   all_goals first|refine AtT.zh ?_|refine AtT.ze ?_|(refine AtT.zf ?_)
   all_goals first|refine AtT.zh ?_|refine AtT.ze ?_|(refine AtT.qE ?_)
   all_goals (refine AtT.zS (d := 94) rfl ((fun h => h hK4)) ?_)
   all_goals first|refine AtT.zh ?_|refine AtT.ze ?_|(refine AtT.zf ?_)
   all_goals (first | refine AtT.kL 95 ?_ | refine AtT.zw (d := 95) rfl (fun hg95 => ?_) (fun hg95 => ?_) | refine AtT.zu (d := 95) rfl (fun hg95 => ?_) (fun hg95 => ?_))
   all_goals first|refine AtT.zh ?_|refine AtT.ze ?_|(refine AtT.zf ?_)
   all_goals first|refine AtT.zh ?_|refine AtT.ze ?_|(first | refine AtT.zR Tryz.underlying28 ?_ | refine AtT.zQ Tryz.underlying28 ?_)
   all_goals first|refine AtT.zh ?_|refine AtT.ze ?_|(refine AtT.qE ?_)
   all_goals first|refine AtT.zh ?_|refine AtT.ze ?_|(refine AtT.zx ?_)
   all_goals (refine AtT.zx ?_)
   all_goals refine AtT.done ?_
   all_goals (refine At.nrm ?_)
   all_goals refine At.zX rfl rfl ?_
   refine At.nrm ?_
   refine At.draw (.q 0 (.q 1 (.q 2 (.q 3 (.q 4 (.q 5 (.q 6 (.q 7 (.n false 8 (.n true 9 .done)))))))))) ffm (by kernel_rfl) ?_
   refine AtT.zf ?_
   refine AtT.qm Tryz.underlying28 tk2 ?_
   intro p103 e103 he103 hc103
   first | refine AtT.zm tk2 ?_ | refine AtT.zo tk2 ?_
   obtain rfl : (x : Int) = e103 := by have : N[0]? = some e103 := he103; rw [hM0] at this; exact Option.some.inj this
   refine AtT.zf ?_
   refine AtT.zf ?_
   refine AtT.qm Tryz.underlying28 tk2 ?_
   intro p107 e107 he107 hc107
   first | refine AtT.zm tk2 ?_ | refine AtT.zo tk2 ?_
   obtain rfl : (y : Int) = e107 := by have : N[1]? = some e107 := he107; rw [hM1] at this; exact Option.some.inj this
   refine AtT.qy (bd36_0_1_2 _ _ _) ?_
   refine AtT.zT z36 ?_
   intro b12
   refine AtT.zy qH ?_
   refine AtT.done ?_
   refine At.nrm ?_
   refine At.nrm ?_
   refine At.zi (.q 0 (.q 1 .done)) ?_
   refine AtT.zf ?_
   refine AtT.qE ?_
   refine AtT.done ?_
   refine At.nrm ?_
   refine At.zX rfl (decide_eq_false (fun h => h hK4)) ?_
   refine At.nrm ?_
   refine At.zi (.q 0 (.q 1 (.q 2 (.n false 3 (.n true 4 (.q 5 (.n true 6 .done))))))) ?_
   first | refine AtT.zk zz ?_ | with_reducible refine AtT.zl zz ?_ | refine AtT.zn zz ?_
   first | refine AtT.zm qo ?_ | refine AtT.zo qo ?_
   first | refine AtT.zF qH ?_ | refine AtT.zJ qH ?_ | refine AtT.zD qH ?_
   refine AtT.zN (bs24_1_0 _ _ _ _) ?_
   intro q119 V119 hV119 hq119
   have g119 : Le V V119 := by first | exact hV119 | exact Le.trans (by assumption) hV119
   first | refine AtT.qX Tryz.underlying24 rw36 ?_
   intro a120 c120
   first | refine AtT.zk zz ?_ | with_reducible refine AtT.zl zz ?_ | refine AtT.zn zz ?_
   first | refine AtT.jc qo ?_ | refine AtT.zy qo ?_
   refine AtT.done ?_
   refine At.nrm ?_
   refine At.zi (.q 0 (.n true 1 (.q 2 .done))) ?_
   first | refine AtT.zF zH ?_ | refine AtT.zJ zH ?_ | refine AtT.zD zH ?_
   refine AtT.zy zH ?_
   refine AtT.zg ?_
   refine AtT.done ?_
   refine At.nrm ?_
   refine At.pt (O' := .blk b4 (LC [.slice ar qs.length cr, .slice a120 (es.length + 1) c120] 26) :: RwO ar cr qs a120 c120 (es ++ [(⟨(x : Int), jf w, (y : Int), (0 : Int)⟩ : En)]) O) ?_ ?_
   ·unfold RwO
    rw [qY, show (es ++ [(⟨(x : Int), jf w, (y : Int), (0 : Int)⟩ : En)]).length = es.length + 1 from by rw [List.length_append]; rfl]
    exact Pt.zV
   exact At.retM2 (cx := cx) rfl (.agg rfl zH zP.zI rfl) (.tmp rfl) ⟨k18.trans hV119, .inr ⟨ar, cr, qs, a120, c120, es ++ [(⟨(x : Int), jf w, (y : Int), (0 : Int)⟩ : En)], hrd.trans hrn, by rw [bkv, List.length_append]; rfl, ⟨_, _, rfl⟩, hq18.le hV119⟩⟩
  by_cases h3 : n.length = 3
  rotate_left
  ·have hrn : rdW ⟨qs.map (·.1), es⟩ w n = none := by unfold rdW; rw [if_neg hw, if_neg hkr, if_pos (.inr ⟨hK4, h3⟩)]
   refine At.zi (.q 0 (.q 1 (.q 2 (.q 3 (.q 4 (.q 5 (.q 6 (.q 7 (.q 8 (.q 9 (.q 10 (.q 11 (.q 12 (.q 13 (.q 14 (.q 15 .done)))))))))))))))) ?_
   refine AtT.zf ?_
   refine AtT.qF ?_
   refine AtT.zS (d := 86) rfl (hK4) ?_
   refine AtT.zf ?_
   all_goals (first | refine AtT.kL 87 ?_ | refine AtT.zw (d := 87) rfl (fun hg87 => ?_) (fun hg87 => ?_) | refine AtT.zu (d := 87) rfl (fun hg87 => ?_) (fun hg87 => ?_))
   all_goals first|refine AtT.zh ?_|refine AtT.ze ?_|(refine AtT.zf ?_)
   all_goals first|refine AtT.zh ?_|refine AtT.ze ?_|(first | refine AtT.zR Tryz.underlying28 ?_ | refine AtT.zQ Tryz.underlying28 ?_)
   all_goals first|refine AtT.zh ?_|refine AtT.ze ?_|(refine AtT.qE ?_)
   all_goals (refine AtT.zx ?_)
   all_goals (refine AtT.zf ?_)
   all_goals (first | refine AtT.kL 92 ?_ | refine AtT.zw (d := 92) rfl (fun hg92 => ?_) (fun hg92 => ?_) | refine AtT.zu (d := 92) rfl (fun hg92 => ?_) (fun hg92 => ?_))
   all_goals first|refine AtT.zh ?_|refine AtT.ze ?_|(refine AtT.zf ?_)
   all_goals first|refine AtT.zh ?_|refine AtT.ze ?_|(refine AtT.qE ?_)
   all_goals (refine AtT.qa (d := 94) rfl (hK4) ?_)
   all_goals first|refine AtT.zh ?_|refine AtT.ze ?_|(refine AtT.zf ?_)
   all_goals (first | refine AtT.kL 95 ?_ | refine AtT.zw (d := 95) rfl (fun hg95 => ?_) (fun hg95 => ?_) | refine AtT.zu (d := 95) rfl (fun hg95 => ?_) (fun hg95 => ?_))
   all_goals first|refine AtT.zh ?_|refine AtT.ze ?_|(refine AtT.zf ?_)
   all_goals first|refine AtT.zh ?_|refine AtT.ze ?_|(first | refine AtT.zR Tryz.underlying28 ?_ | refine AtT.zQ Tryz.underlying28 ?_)
   all_goals first|refine AtT.zh ?_|refine AtT.ze ?_|(refine AtT.qE ?_)
   all_goals (refine AtT.qa (d := 98) rfl ((by omega)) ?_)
   all_goals first|refine AtT.zh ?_|refine AtT.ze ?_|(refine AtT.zx ?_)
   all_goals (refine AtT.zx ?_)
   all_goals refine AtT.done ?_
   all_goals (refine At.nrm ?_)
   all_goals refine At.zU rfl rfl ?_
   refine At.nrm ?_
   refine At.zi (.q 0 (.n true 1 (.q 2 .done))) ?_
   first | refine AtT.zF zH ?_ | refine AtT.zJ zH ?_ | refine AtT.zD zH ?_
   refine AtT.zy zH ?_
   refine AtT.zg ?_
   refine AtT.done ?_
   refine At.nrm ?_
   refine At.pt (O' := .blk b4 (LC [.slice ar qs.length cr, .slice ae es.length ce] 26) :: O) Pt.zV ?_
   exact At.retM2 (cx := cx) rfl (.agg rfl zH zP.zI rfl) (.tmp rfl) ⟨k18, .inl ⟨hrd.trans hrn, rfl, _, _, rfl⟩⟩
  have hrn : rdW ⟨qs.map (·.1), es⟩ w n = some ⟨qs.map (·.1), es ++ [⟨(n.getD 0 0 : Nat), jf w, (n.getD 1 0 : Nat), (n.getD 2 0 : Nat)⟩]⟩ := by
   unfold rdW
   rw [if_neg hw, if_neg hkr, if_neg (fun h => h.elim (fun h => hK4 h.1) (fun h => h.2 h3)), if_neg hK4]
  obtain ⟨x, y, z, rfl⟩ : ∃ x y z, n = [x, y, z] := by
   match n, h3 with
   | [x, y, z], _ => exact ⟨x, y, z, rfl⟩
  have hM0 : N[0]? = some (x : Int) := by rw [hN]; rfl
  have hM1 : N[1]? = some (y : Int) := by rw [hN]; rfl
  have hM2 : N[2]? = some (z : Int) := by rw [hN]; rfl
  have hML : N.length = 3 := hNl
  refine At.zi (.q 0 (.q 1 (.q 2 (.q 3 (.q 4 (.q 5 (.q 6 (.q 7 (.q 8 (.q 9 (.q 10 (.q 11 (.q 12 (.q 13 (.q 14 (.q 15 .done)))))))))))))))) ?_
  refine AtT.zf ?_
  refine AtT.qF ?_
  refine AtT.zS (d := 86) rfl (hK4) ?_
  refine AtT.zf ?_
  all_goals (first | refine AtT.kL 87 ?_ | refine AtT.zw (d := 87) rfl (fun hg87 => ?_) (fun hg87 => ?_) | refine AtT.zu (d := 87) rfl (fun hg87 => ?_) (fun hg87 => ?_))
  all_goals first|refine AtT.zh ?_|refine AtT.ze ?_|(refine AtT.zf ?_)
  all_goals first|refine AtT.zh ?_|refine AtT.ze ?_|(first | refine AtT.zR Tryz.underlying28 ?_ | refine AtT.zQ Tryz.underlying28 ?_)
  all_goals first|refine AtT.zh ?_|refine AtT.ze ?_|(refine AtT.qE ?_)
  all_goals (refine AtT.zx ?_)
  all_goals (refine AtT.zf ?_)
  all_goals (first | refine AtT.kL 92 ?_ | refine AtT.zw (d := 92) rfl (fun hg92 => ?_) (fun hg92 => ?_) | refine AtT.zu (d := 92) rfl (fun hg92 => ?_) (fun hg92 => ?_))
  all_goals first|refine AtT.zh ?_|refine AtT.ze ?_|(refine AtT.zf ?_)
  all_goals first|refine AtT.zh ?_|refine AtT.ze ?_|(refine AtT.qE ?_)
  all_goals (refine AtT.qa (d := 94) rfl (hK4) ?_)
  all_goals first|refine AtT.zh ?_|refine AtT.ze ?_|(refine AtT.zf ?_)
  all_goals (first | refine AtT.kL 95 ?_ | refine AtT.zw (d := 95) rfl (fun hg95 => ?_) (fun hg95 => ?_) | refine AtT.zu (d := 95) rfl (fun hg95 => ?_) (fun hg95 => ?_))
  all_goals first|refine AtT.zh ?_|refine AtT.ze ?_|(refine AtT.zf ?_)
  all_goals first|refine AtT.zh ?_|refine AtT.ze ?_|(first | refine AtT.zR Tryz.underlying28 ?_ | refine AtT.zQ Tryz.underlying28 ?_)
  all_goals first|refine AtT.zh ?_|refine AtT.ze ?_|(refine AtT.qE ?_)
  all_goals (refine AtT.zS (d := 98) rfl ((by omega)) ?_)
  all_goals first|refine AtT.zh ?_|refine AtT.ze ?_|(refine AtT.zx ?_)
  all_goals (refine AtT.zx ?_)
  all_goals refine AtT.done ?_
  all_goals (refine At.nrm ?_)
  all_goals refine At.zX rfl rfl ?_
  refine At.nrm ?_
  refine At.draw (.q 0 (.q 1 (.q 2 (.q 3 (.q 4 (.q 5 (.q 6 (.q 7 (.n false 8 (.n true 9 .done)))))))))) ffm (by kernel_rfl) ?_
  refine AtT.zf ?_
  refine AtT.qm Tryz.underlying28 tk2 ?_
  intro p103 e103 he103 hc103
  first | refine AtT.zm tk2 ?_ | refine AtT.zo tk2 ?_
  obtain rfl : (x : Int) = e103 := by have : N[0]? = some e103 := he103; rw [hM0] at this; exact Option.some.inj this
  refine AtT.zf ?_
  refine AtT.zf ?_
  refine AtT.qm Tryz.underlying28 tk2 ?_
  intro p107 e107 he107 hc107
  first | refine AtT.zm tk2 ?_ | refine AtT.zo tk2 ?_
  obtain rfl : (y : Int) = e107 := by have : N[1]? = some e107 := he107; rw [hM1] at this; exact Option.some.inj this
  refine AtT.qy (bd36_0_1_2 _ _ _) ?_
  refine AtT.zT z36 ?_
  intro b12
  refine AtT.zy qH ?_
  refine AtT.done ?_
  refine At.nrm ?_
  refine At.nrm ?_
  refine At.zi (.q 0 (.q 1 .done)) ?_
  refine AtT.zf ?_
  refine AtT.qE ?_
  refine AtT.done ?_
  refine At.nrm ?_
  refine At.zU rfl (decide_eq_true hK4) ?_
  refine At.nrm ?_
  refine At.zi (.q 0 (.q 1 (.q 2 (.q 3 (.n true 4 .done))))) ?_
  refine AtT.zf ?_
  refine AtT.qm Tryz.underlying28 tk2 ?_
  intro p113 e113 he113 hc113
  first | refine AtT.zm tk2 ?_ | refine AtT.zo tk2 ?_
  obtain rfl : (z : Int) = e113 := by have : N[2]? = some e113 := he113; rw [hM2] at this; exact Option.some.inj this
  first | refine AtT.zk zO ?_ | with_reducible refine AtT.zl zO ?_ | refine AtT.zn zO ?_
  first | refine AtT.jc tk2 ?_ | refine AtT.zy tk2 ?_
  refine AtT.done ?_
  refine At.nrm ?_
  refine At.zi (.q 0 (.q 1 (.q 2 (.n false 3 (.n true 4 (.q 5 (.n true 6 .done))))))) ?_
  first | refine AtT.zk zz ?_ | with_reducible refine AtT.zl zz ?_ | refine AtT.zn zz ?_
  first | refine AtT.zm qo ?_ | refine AtT.zo qo ?_
  first | refine AtT.zF qH ?_ | refine AtT.zJ qH ?_ | refine AtT.zD qH ?_
  refine AtT.zN (bs24_1_0 _ _ _ _) ?_
  intro q119 V119 hV119 hq119
  have g119 : Le V V119 := by first | exact hV119 | exact Le.trans (by assumption) hV119
  first | refine AtT.qX Tryz.underlying24 rw36 ?_
  intro a120 c120
  first | refine AtT.zk zz ?_ | with_reducible refine AtT.zl zz ?_ | refine AtT.zn zz ?_
  first | refine AtT.jc qo ?_ | refine AtT.zy qo ?_
  refine AtT.done ?_
  refine At.nrm ?_
  refine At.zi (.q 0 (.n true 1 (.q 2 .done))) ?_
  first | refine AtT.zF zH ?_ | refine AtT.zJ zH ?_ | refine AtT.zD zH ?_
  refine AtT.zy zH ?_
  refine AtT.zg ?_
  refine AtT.done ?_
  refine At.nrm ?_
  refine At.pt (O' := .blk b4 (LC [.slice ar qs.length cr, .slice a120 (es.length + 1) c120] 26) :: RwO ar cr qs a120 c120 (es ++ [(⟨(x : Int), jf w, (y : Int), (z : Int)⟩ : En)]) O) ?_ ?_
  ·unfold RwO
   rw [qY, show (es ++ [(⟨(x : Int), jf w, (y : Int), (z : Int)⟩ : En)]).length = es.length + 1 from by rw [List.length_append]; rfl]
   exact Pt.zV
  exact At.retM2 (cx := cx) rfl (.agg rfl zH zP.zI rfl) (.tmp rfl) ⟨k18.trans hV119, .inr ⟨ar, cr, qs, a120, c120, es ++ [(⟨(x : Int), jf w, (y : Int), (z : Int)⟩ : En)], hrd.trans hrn, by rw [bkv, List.length_append]; rfl, ⟨_, _, rfl⟩, hq18.le hV119⟩⟩
end Go.Proofs.YtpoignmclfdgpaaGreatDoor
set_option linter.unusedVariables false
namespace Go.Proofs.YtpoignmclfdgpaaGreatDoor
open Go.Lw Go.Gl Go.Bk Go.RowKit
theorem rread_bad {cx : Cx} {O : List Own} {V : View} (ar : Option Addr) (cr : Nat) (qs : List RcQ) (ae : Option Addr) (ce : Nat) (es : List En) (s : List UInt8) (hs : s.length ≤ 4000) (hq1 : qs.length ≤ 5000) (he1 : es.length ≤ 5000) (hq : RsQ V qs) (h : rdL ⟨qs.map (·.1), es⟩ s = none) :
  FncM Tryz.prog cx 83 [bkv ar cr qs ae ce es, sT s] (RwO ar cr qs ae ce es O) V fun r O' V' => Le V V' ∧ r = .tuple #[bkv ar cr qs ae ce es, .bool false] ∧ ∃ (b : Nat) (o : Obj), O' = .blk b o :: O :=
 kv (rread_f ar cr qs ae ce es s hs hq1 he1 hq) fun r O' V' ⟨h1, h2⟩ => by
  rcases h2 with ⟨_, a, c⟩ | ⟨ar', cr', qs', ae', ce', es', e, _⟩
  ·exact ⟨h1, a, c⟩
  ·rw [h] at e; cases e
theorem rread_ok {cx : Cx} {O : List Own} {V : View} (ar : Option Addr) (cr : Nat) (qs : List RcQ) (ae : Option Addr) (ce : Nat) (es : List En) (s : List UInt8) (hs : s.length ≤ 4000) (hq1 : qs.length ≤ 5000) (he1 : es.length ≤ 5000) (hq : RsQ V qs) {b' : Bo} (h : rdL ⟨qs.map (·.1), es⟩ s = some b') :
  FncM Tryz.prog cx 83 [bkv ar cr qs ae ce es, sT s] (RwO ar cr qs ae ce es O) V fun r O' V' => Le V V' ∧ ∃ (ar' : Option Addr) (cr' : Nat) (qs' : List RcQ) (ae' : Option Addr) (ce' : Nat) (es' : List En), b' = ⟨qs'.map (·.1), es'⟩ ∧ r = .tuple #[bkv ar' cr' qs' ae' ce' es', .bool true] ∧ (∃ (b : Nat) (o : Obj), O' = .blk b o :: RwO ar' cr' qs' ae' ce' es' O) ∧ RsQ V' qs' :=
 kv (rread_f ar cr qs ae ce es s hs hq1 he1 hq) fun r O' V' ⟨h1, h2⟩ => by
  rcases h2 with ⟨e, _⟩ | ⟨ar', cr', qs', ae', ce', es', e, hr, ho, hq'⟩
  ·rw [h] at e; cases e
  ·rw [h] at e; exact ⟨h1, ar', cr', qs', ae', ce', es', Option.some.inj e, hr, ho, hq'⟩
theorem cut_pre (c : UInt8) : ∀ (n : Nat) (u v : List UInt8), v.length ≤ n → ∃ Z, Z ≠ [] ∧ cutAt c (u ++ v) = (cutAt c u).dropLast ++ Z := by
 intro n
 induction n with
 | zero =>
  intro u v hv
  obtain rfl := List.length_eq_zero_iff.1 (Nat.le_zero.1 hv)
  rw [List.append_nil]
  obtain ⟨x, xs, hx⟩ := List.exists_cons_of_ne_nil (ja c u)
  exact ⟨[(cutAt c u).getLast (ja c u)], by simp, (List.dropLast_concat_getLast (ja c u)).symm⟩
 | succ n ih =>
  intro u v hv
  cases v with
  | nil =>
   rw [List.append_nil]
   exact ⟨[(cutAt c u).getLast (ja c u)], by simp, (List.dropLast_concat_getLast (ja c u)).symm⟩
  | cons b v =>
   simp only [List.length_cons] at hv
   obtain ⟨Z, hZ, e⟩ := ih (u ++ [b]) v (by omega)
   rw [List.append_assoc] at e
   have hs := cut_snoc c b _ u (Nat.le_refl _)
   by_cases hb : b = c
   ·rw [if_pos hb] at hs
    rw [hs, List.dropLast_concat] at e
    refine ⟨(cutAt c u).getLast (ja c u) :: Z, by simp, ?_⟩
    rw [show u ++ b :: v = u ++ ([b] ++ v) from rfl, e]
    conv => lhs; rw [← List.dropLast_concat_getLast (ja c u)]
    rw [List.append_assoc]; rfl
   ·rw [if_neg hb] at hs
    rw [hs, List.dropLast_concat] at e
    exact ⟨Z, hZ, e⟩
structure Lh where
 i : Nat
 st : Nat
 D : List (List UInt8)
 qs : List RcQ
 es : List En
 ar : Option Addr
 cr : Nat
 ae : Option Addr
 ce : Nat
theorem rload_f (s : List UInt8) (hsl : s.length ≤ 1000000) (V : View) : Fnc Tryz.prog 40 [sT s] V fun r V' => ∃ u, r = .tuple #[u, iv (loadR s).2] ∧ BoV V' u (loadR s).1 := by
 refine ql Tryz.func40 rfl Tryz.ntmps40 (Nat.le_of_ble_eq_true rfl) ?_
 intro w0 hw0
 refine At.nrm ?_
 refine At.zi (.n false 0 (.q 1 .done)) ?_
 refine AtT.zT z26 ?_
 intro b2
 refine AtT.zg ?_
 refine AtT.done ?_
 refine At.nrm ?_
 by_cases h4 : 4000 < s.length
 ·have hL : loadR s = (bo0, 7) := by unfold loadR; rw [if_pos h4]
  rw [hL]
  refine At.zi (.q 0 (.q 1 (.q 2 .done))) ?_
  refine AtT.zf ?_
  refine AtT.qR rfl trivial Tryz.underlying9 rfl (by decide) ?_
  refine AtT.qI ?_
  refine AtT.qa (d := 13) rfl ((by omega)) ?_
  refine AtT.done ?_
  refine At.nrm ?_
  all_goals refine At.zU rfl rfl ?_
  refine At.nrm ?_
  refine At.zi (.q 0 (.n true 1 (.q 2 .done))) ?_
  refine AtT.qy (bd26) ?_
  refine AtT.zy zH ?_
  refine AtT.zg ?_
  refine AtT.done ?_
  refine At.nrm ?_
  exact At.qN rfl (.agg rfl zH zP.zI rfl) (.tmp rfl) ⟨_, rfl, BoV.nil _⟩
 refine At.zi (.q 0 (.q 1 (.q 2 .done))) ?_
 refine AtT.zf ?_
 refine AtT.qR rfl trivial Tryz.underlying9 rfl (by decide) ?_
 refine AtT.qI ?_
 refine AtT.zS (d := 13) rfl ((by omega)) ?_
 refine AtT.done ?_
 refine At.nrm ?_
 all_goals refine At.zX rfl rfl ?_
 refine At.nrm ?_
 by_cases h15 : s.length < 15
 ·have hL : loadR s = (bo0, 8) := by unfold loadR; rw [if_neg h4, if_pos h15]
  rw [hL]
  refine At.zi (.q 0 (.q 1 (.q 2 .done))) ?_
  refine AtT.zf ?_
  refine AtT.qR rfl trivial Tryz.underlying9 rfl (by decide) ?_
  refine AtT.qp ?_
  refine AtT.qa (d := 17) rfl ((by omega)) ?_
  refine AtT.done ?_
  refine At.nrm ?_
  all_goals refine At.zU rfl rfl ?_
  refine At.nrm ?_
  refine At.zi (.q 0 (.n true 1 (.q 2 .done))) ?_
  refine AtT.qy (bd26) ?_
  refine AtT.zy zH ?_
  refine AtT.zg ?_
  refine AtT.done ?_
  refine At.nrm ?_
  exact At.qN rfl (.agg rfl zH zP.zI rfl) (.tmp rfl) ⟨_, rfl, BoV.nil _⟩
 refine At.zi (.q 0 (.q 1 (.q 2 .done))) ?_
 refine AtT.zf ?_
 refine AtT.qR rfl trivial Tryz.underlying9 rfl (by decide) ?_
 refine AtT.qp ?_
 refine AtT.zS (d := 17) rfl ((by omega)) ?_
 refine AtT.done ?_
 refine At.nrm ?_
 all_goals refine At.zX rfl rfl ?_
 refine At.nrm ?_
 have hd15 : ((s.length : Int) - 15).toNat = s.length - 15 := by omega
 refine At.draw (.q 0 (.q 1 (.q 2 (.q 3 (.q 4 (.q 5 (.q 6 (.q 7 (.q 8 (.q 9 (.q 10 (.q 11 .done)))))))))))) ffm (by kernel_rfl) ?_
 refine AtT.zf ?_
 refine AtT.zf ?_
 refine AtT.qR rfl trivial Tryz.underlying9 rfl (by decide) ?_
 first | refine AtT.ji ?_ | refine AtT.jh ?_
 refine AtT.subHT rfl trivial Tryz.underlying9 rfl rfl (by omega) (by omega) (by decide) ?_
 rw [hd15]
 refine AtT.zf ?_
 refine AtT.zf ?_
 refine AtT.qR rfl trivial Tryz.underlying9 rfl (by decide) ?_
 first | refine AtT.ji ?_ | refine AtT.jh ?_
 refine AtT.subLT rfl trivial Tryz.underlying9 rfl rfl (by omega) (by omega) (by decide) ?_
 rw [hd15]
 refine AtT.zg ?_
 refine AtT.zg ?_
 refine AtT.done ?_
 refine At.nrm ?_
 generalize hB : s.take (s.length - 15) = B
 generalize ht : s.drop (s.length - 15) = t
 have htl : t.length = 15 := by rw [← ht, List.length_drop]; omega
 have hBl : B.length = s.length - 15 := by rw [← hB, List.length_take]; omega
 have hS : (t.take (14 : Int).toNat).drop (6 : Int).toNat = (t.drop 6).take 8 := by
  show (t.take 14).drop 6 = _
  rw [List.drop_take]
 have hSl : ((t.drop 6).take 8).length = 8 := by rw [List.length_take, List.length_drop]; omega
 have hbadL : jY t = false → loadR s = (bo0, 8) := fun h => by unfold loadR; rw [if_neg h4, if_neg h15, ht, if_pos h]
 have hneL : ∀ h : jY t = true, loadR s = (match je bo0 (cutAt 10 B).dropLast with
   | none => (bo0, 8)
   | some b => if (cutAt 10 B).getLastD [] ≠ [] then (bo0, 8) else endR b B ((t.drop 6).take 8)) := fun h => by
  unfold loadR; rw [if_neg h4, if_neg h15, ht, if_neg (by rw [h]; simp), hB]; cases je bo0 (cutAt 10 B).dropLast <;> rfl
 by_cases c1 : t.take 6 = ckP
 rotate_left
 ·rw [hbadL (by unfold jY; rw [decide_eq_false (show ¬ t.take 6 = [99, 104, 101, 99, 107, 32] from c1)]; rfl)]
  refine At.zi (.q 0 (.q 1 (.q 2 (.q 3 (.q 4 (.q 5 (.q 6 (.q 7 (.q 8 (.q 9 (.q 10 (.n false 11 (.q 12 (.q 13 .done)))))))))))))) ?_
  refine AtT.zf ?_
  refine AtT.subHT rfl trivial Tryz.underlying9 rfl rfl (by omega) (by omega) (by decide) ?_
  refine AtT.neT rfl trivial rfl rfl (by decide) ?_
  refine AtT.qa (d := 31) rfl ((show t.take 6 ≠ ckP from c1)) ?_
  refine AtT.zf ?_
  all_goals (first | refine AtT.kL 32 ?_ | refine AtT.zw (d := 32) rfl (fun hg32 => ?_) (fun hg32 => ?_) | refine AtT.zu (d := 32) rfl (fun hg32 => ?_) (fun hg32 => ?_))
  all_goals first|refine AtT.zh ?_|refine AtT.ze ?_|(refine AtT.zf ?_)
  all_goals first|refine AtT.zh ?_|refine AtT.ze ?_|(refine AtT.subLT rfl ⟨_, _, rfl, rfl, rfl⟩ Tryz.underlying9 rfl rfl (by omega) (by omega) (by decide) ?_)
  all_goals first|refine AtT.zh ?_|refine AtT.ze ?_|(refine AtT.neT rfl ⟨_, _, rfl, rfl, rfl⟩ rfl rfl (by decide) ?_)
  all_goals (refine AtT.zx ?_)
  all_goals (refine AtT.zf ?_)
  all_goals (first | refine AtT.kL 37 ?_ | refine AtT.zw (d := 37) rfl (fun hg37 => ?_) (fun hg37 => ?_) | refine AtT.zu (d := 37) rfl (fun hg37 => ?_) (fun hg37 => ?_))
  all_goals first|refine AtT.zh ?_|refine AtT.ze ?_|(refine AtT.zf ?_)
  all_goals first|refine AtT.zh ?_|refine AtT.ze ?_|(refine AtT.subT rfl ⟨_, _, rfl, rfl, rfl⟩ Tryz.underlying9 rfl rfl rfl (by omega) (by omega) (by omega) (by decide) ?_)
  all_goals first|refine AtT.qf ?_|refine AtT.zW ?_|((fail))
  all_goals first|refine AtT.zh ?_|refine AtT.ze ?_|(refine AtT.qC ?_)
  all_goals (refine AtT.zx ?_)
  all_goals refine AtT.done ?_
  all_goals (refine At.nrm ?_)
  all_goals refine At.zU rfl rfl ?_
  refine At.nrm ?_
  refine At.zi (.q 0 (.n true 1 (.q 2 .done))) ?_
  refine AtT.qy (bd26) ?_
  refine AtT.zy zH ?_
  refine AtT.zg ?_
  refine AtT.done ?_
  refine At.nrm ?_
  exact At.qN rfl (.agg rfl zH zP.zI rfl) (.tmp rfl) ⟨_, rfl, BoV.nil _⟩
 by_cases c2 : t.drop 14 = [10]
 rotate_left
 ·rw [hbadL (by unfold jY; rw [decide_eq_false c2, Bool.and_false]; rfl)]
  refine At.zi (.q 0 (.q 1 (.q 2 (.q 3 (.q 4 (.q 5 (.q 6 (.q 7 (.q 8 (.q 9 (.q 10 (.n false 11 (.q 12 (.q 13 .done)))))))))))))) ?_
  refine AtT.zf ?_
  refine AtT.subHT rfl trivial Tryz.underlying9 rfl rfl (by omega) (by omega) (by decide) ?_
  refine AtT.neT rfl trivial rfl rfl (by decide) ?_
  refine AtT.zS (d := 31) rfl ((fun h : t.take 6 ≠ ckP => h c1)) ?_
  refine AtT.zf ?_
  all_goals (first | refine AtT.kL 32 ?_ | refine AtT.zw (d := 32) rfl (fun hg32 => ?_) (fun hg32 => ?_) | refine AtT.zu (d := 32) rfl (fun hg32 => ?_) (fun hg32 => ?_))
  all_goals first|refine AtT.zh ?_|refine AtT.ze ?_|(refine AtT.zf ?_)
  all_goals first|refine AtT.zh ?_|refine AtT.ze ?_|(refine AtT.subLT rfl ⟨_, _, rfl, rfl, rfl⟩ Tryz.underlying9 rfl rfl (by omega) (by omega) (by decide) ?_)
  all_goals first|refine AtT.zh ?_|refine AtT.ze ?_|(refine AtT.neT rfl ⟨_, _, rfl, rfl, rfl⟩ rfl rfl (by decide) ?_)
  all_goals (refine AtT.qa (d := 35) rfl ((show t.drop 14 ≠ [10] from c2)) ?_)
  all_goals (refine AtT.zx ?_)
  all_goals (refine AtT.zf ?_)
  all_goals (first | refine AtT.kL 37 ?_ | refine AtT.zw (d := 37) rfl (fun hg37 => ?_) (fun hg37 => ?_) | refine AtT.zu (d := 37) rfl (fun hg37 => ?_) (fun hg37 => ?_))
  all_goals first|refine AtT.zh ?_|refine AtT.ze ?_|(refine AtT.zf ?_)
  all_goals first|refine AtT.zh ?_|refine AtT.ze ?_|(refine AtT.subT rfl ⟨_, _, rfl, rfl, rfl⟩ Tryz.underlying9 rfl rfl rfl (by omega) (by omega) (by omega) (by decide) ?_)
  all_goals first|refine AtT.qf ?_|refine AtT.zW ?_|((fail))
  all_goals first|refine AtT.zh ?_|refine AtT.ze ?_|(refine AtT.qC ?_)
  all_goals (refine AtT.zx ?_)
  all_goals refine AtT.done ?_
  all_goals (refine At.nrm ?_)
  all_goals refine At.zU rfl rfl ?_
  refine At.nrm ?_
  refine At.zi (.q 0 (.n true 1 (.q 2 .done))) ?_
  refine AtT.qy (bd26) ?_
  refine AtT.zy zH ?_
  refine AtT.zg ?_
  refine AtT.done ?_
  refine At.nrm ?_
  exact At.qN rfl (.agg rfl zH zP.zI rfl) (.tmp rfl) ⟨_, rfl, BoV.nil _⟩
 cases c3 : ((t.drop 6).take 8).all jT with
 | false =>
  rw [hbadL (by unfold jY; rw [c3, Bool.and_false])]
  refine At.zi (.q 0 (.q 1 (.q 2 (.q 3 (.q 4 (.q 5 (.q 6 (.q 7 (.q 8 (.q 9 (.q 10 (.n false 11 (.q 12 (.q 13 .done)))))))))))))) ?_
  refine AtT.zf ?_
  refine AtT.subHT rfl trivial Tryz.underlying9 rfl rfl (by omega) (by omega) (by decide) ?_
  refine AtT.neT rfl trivial rfl rfl (by decide) ?_
  refine AtT.zS (d := 31) rfl ((fun h : t.take 6 ≠ ckP => h c1)) ?_
  refine AtT.zf ?_
  all_goals (first | refine AtT.kL 32 ?_ | refine AtT.zw (d := 32) rfl (fun hg32 => ?_) (fun hg32 => ?_) | refine AtT.zu (d := 32) rfl (fun hg32 => ?_) (fun hg32 => ?_))
  all_goals first|refine AtT.zh ?_|refine AtT.ze ?_|(refine AtT.zf ?_)
  all_goals first|refine AtT.zh ?_|refine AtT.ze ?_|(refine AtT.subLT rfl ⟨_, _, rfl, rfl, rfl⟩ Tryz.underlying9 rfl rfl (by omega) (by omega) (by decide) ?_)
  all_goals first|refine AtT.zh ?_|refine AtT.ze ?_|(refine AtT.neT rfl ⟨_, _, rfl, rfl, rfl⟩ rfl rfl (by decide) ?_)
  all_goals (refine AtT.zS (d := 35) rfl ((fun h : t.drop 14 ≠ [10] => h c2)) ?_)
  all_goals (refine AtT.zx ?_)
  all_goals (refine AtT.zf ?_)
  all_goals (first | refine AtT.kL 37 ?_ | refine AtT.zw (d := 37) rfl (fun hg37 => ?_) (fun hg37 => ?_) | refine AtT.zu (d := 37) rfl (fun hg37 => ?_) (fun hg37 => ?_))
  all_goals first|refine AtT.zh ?_|refine AtT.ze ?_|(refine AtT.zf ?_)
  all_goals first|refine AtT.zh ?_|refine AtT.ze ?_|(refine AtT.subT rfl ⟨_, _, rfl, rfl, rfl⟩ Tryz.underlying9 rfl rfl rfl (by omega) (by omega) (by omega) (by decide) ?_)
  all_goals (rw [hS])
  all_goals first|refine AtT.qf ?_|refine AtT.zW ?_|((refine AtT.zG rfl rfl ok82 (isCheck_f ((t.drop 6).take 8) (by omega) _) ?_) ; (rintro _ rfl; rw [c3]))
  all_goals first|refine AtT.zh ?_|refine AtT.ze ?_|(refine AtT.qC ?_)
  all_goals (refine AtT.qJ (d := 41) rfl ((show (!false) = true from rfl)) ?_)
  all_goals (refine AtT.zx ?_)
  all_goals refine AtT.done ?_
  all_goals (refine At.nrm ?_)
  all_goals refine At.zU rfl rfl ?_
  refine At.nrm ?_
  refine At.zi (.q 0 (.n true 1 (.q 2 .done))) ?_
  refine AtT.qy (bd26) ?_
  refine AtT.zy zH ?_
  refine AtT.zg ?_
  refine AtT.done ?_
  refine At.nrm ?_
  exact At.qN rfl (.agg rfl zH zP.zI rfl) (.tmp rfl) ⟨_, rfl, BoV.nil _⟩
 | true =>
  have hok : jY t = true := by unfold jY; simp only [Bool.and_eq_true, decide_eq_true_eq]; exact ⟨⟨c1, c2⟩, c3⟩
  rw [hneL hok]
  refine At.zi (.q 0 (.q 1 (.q 2 (.q 3 (.q 4 (.q 5 (.q 6 (.q 7 (.q 8 (.q 9 (.q 10 (.n false 11 (.q 12 (.q 13 .done)))))))))))))) ?_
  refine AtT.zf ?_
  refine AtT.subHT rfl trivial Tryz.underlying9 rfl rfl (by omega) (by omega) (by decide) ?_
  refine AtT.neT rfl trivial rfl rfl (by decide) ?_
  refine AtT.zS (d := 31) rfl ((fun h : t.take 6 ≠ ckP => h c1)) ?_
  refine AtT.zf ?_
  all_goals (first | refine AtT.kL 32 ?_ | refine AtT.zw (d := 32) rfl (fun hg32 => ?_) (fun hg32 => ?_) | refine AtT.zu (d := 32) rfl (fun hg32 => ?_) (fun hg32 => ?_))
  all_goals first|refine AtT.zh ?_|refine AtT.ze ?_|(refine AtT.zf ?_)
  all_goals first|refine AtT.zh ?_|refine AtT.ze ?_|(refine AtT.subLT rfl ⟨_, _, rfl, rfl, rfl⟩ Tryz.underlying9 rfl rfl (by omega) (by omega) (by decide) ?_)
  all_goals first|refine AtT.zh ?_|refine AtT.ze ?_|(refine AtT.neT rfl ⟨_, _, rfl, rfl, rfl⟩ rfl rfl (by decide) ?_)
  all_goals (refine AtT.zS (d := 35) rfl ((fun h : t.drop 14 ≠ [10] => h c2)) ?_)
  all_goals (refine AtT.zx ?_)
  all_goals (refine AtT.zf ?_)
  all_goals (first | refine AtT.kL 37 ?_ | refine AtT.zw (d := 37) rfl (fun hg37 => ?_) (fun hg37 => ?_) | refine AtT.zu (d := 37) rfl (fun hg37 => ?_) (fun hg37 => ?_))
  all_goals first|refine AtT.zh ?_|refine AtT.ze ?_|(refine AtT.zf ?_)
  all_goals first|refine AtT.zh ?_|refine AtT.ze ?_|(refine AtT.subT rfl ⟨_, _, rfl, rfl, rfl⟩ Tryz.underlying9 rfl rfl rfl (by omega) (by omega) (by omega) (by decide) ?_)
  all_goals (rw [hS])
  all_goals first|refine AtT.qf ?_|refine AtT.zW ?_|((refine AtT.zG rfl rfl ok82 (isCheck_f ((t.drop 6).take 8) (by omega) _) ?_) ; (rintro _ rfl; rw [c3, decide_eq_true hSl]))
  all_goals first|refine AtT.zh ?_|refine AtT.ze ?_|(refine AtT.qC ?_)
  all_goals (refine AtT.qJ (d := 41) rfl ((show (!true) = false from rfl)) ?_)
  all_goals (refine AtT.zx ?_)
  all_goals refine AtT.done ?_
  all_goals (refine At.nrm ?_)
  all_goals refine At.zX rfl rfl ?_
  refine At.nrm ?_
  refine At.zi (.n false 0 .done) ?_
  refine AtT.zT z26 ?_
  intro b6
  refine AtT.done ?_
  refine At.nrm ?_
  refine At.newRow 80 2 ?_
  refine At.newRow 36 4 ?_
  refine At.zi (.q 0 .done) ?_
  refine AtT.zg ?_
  refine AtT.done ?_
  refine At.nrm ?_
  refine At.zi (.q 0 .done) ?_
  refine AtT.zg ?_
  refine AtT.done ?_
  refine At.nrm ?_
  refine At.lp (ι := Lh) (KS := fun g => [(2, .pointer (some ⟨b2, 0, none⟩)), (4, sT B), (5, sT t), (6, .pointer (some ⟨b6, 0, none⟩)), (7, iv g.st), (8, iv g.i)])
   (OS := fun g => RwO g.ar g.cr g.qs g.ae g.ce g.es [.blk b6 (LC [.slice g.ar g.qs.length g.cr, .slice g.ae g.es.length g.ce] 26), .blk b2 (LC [.slice none 0 0, .slice none 0 0] 26)])
   (VS := fun g V' => Le V V' ∧ g.i ≤ B.length ∧ g.st ≤ g.i ∧ cutAt 10 (B.take g.i) = g.D ++ [(B.take g.i).drop g.st] ∧ je bo0 g.D = some ⟨g.qs.map (·.1), g.es⟩ ∧ RsQ V' g.qs ∧ g.qs.length ≤ g.i ∧ g.es.length ≤ g.i) (μ := fun g => B.length - g.i) ⟨0, 0, [], [], [], none, 0, none, 0⟩ ?_ ?_ ?_ ?_
  ·exact ⟨rfl, rfl, rfl, rfl, rfl, rfl, trivial⟩
  ·unfold RwO; exact Pt.zI
  ·exact ⟨Le.refl _, Nat.zero_le _, Nat.le_refl _, rfl, rfl, (fun x hx => by cases hx), Nat.le_refl _, Nat.le_refl _⟩
  rintro ⟨i, st, D, qs, es, ar, cr, ae, ce⟩ V' ks' O' ⟨hVV, hil, hst, hcut, hrd, hq, hq1, he1⟩ hk hO hl
  dsimp only at hil hst hk hO hcut hrd hq hq1 he1
  subst hk hO
  refine At.nrm ?_
  refine At.zi (.q 0 (.q 1 (.q 2 (.q 3 .done)))) ?_
  refine AtT.zf ?_
  refine AtT.zf ?_
  refine AtT.qR rfl trivial Tryz.underlying9 rfl (by decide) ?_
  refine AtT.qp ?_
  refine AtT.done ?_
  refine At.nrm ?_
  refine At.qb rfl (fun hp => ?_) (fun hp => ?_)
  ·obtain ⟨c, hc⟩ : ∃ c, B[i]? = some c := ⟨_, List.getElem?_eq_getElem (by omega)⟩
   have hgd := gd_at hc
   have hsn := cut_snoc 10 c _ (B.take i) (Nat.le_refl _)
   rw [← jq hc, hcut] at hsn
   have hc10 : ((c.toNat : Int) = 10) ↔ c = 10 := by
    constructor
    ·intro h; exact UInt8.toNat_inj.1 (by have : (10 : UInt8).toNat = 10 := rfl; omega)
    ·rintro rfl; rfl
   by_cases h10 : c = 10
   rotate_left
   ·rw [if_neg h10, List.dropLast_concat, List.getLastD_concat] at hsn
    refine At.nrm ?_
    refine At.zi (.q 0 (.q 1 (.q 2 (.q 3 .done)))) ?_
    refine AtT.zf ?_
    refine AtT.zf ?_
    refine AtT.ixT rfl trivial Tryz.underlying9 rfl rfl (by omega) (by omega) (by decide) ?_
    rw [hgd]
    refine AtT.qE ?_
    refine AtT.qa (d := 53) rfl ((fun h => h10 (hc10.1 h))) ?_
    refine AtT.done ?_
    refine At.nrm ?_
    all_goals refine At.zU rfl rfl ?_
    refine At.nrm ?_
    refine At.zi (.q 0 (.q 1 (.q 2 .done))) ?_
    refine AtT.zf ?_
    first | refine AtT.qG ?_ | refine AtT.qd ?_
    refine AtT.zg ?_
    refine AtT.done ?_
    refine At.nrm ?_
    refine At.round ⟨i + 1, st, D, qs, es, ar, cr, ae, ce⟩ ?_ ?_ ?_ ?_
    ·show B.length - (i + 1) < B.length - i; omega
    ·refine ⟨hVV, by dsimp only; omega, by dsimp only; omega, ?_, hrd, hq, by dsimp only; omega, by dsimp only; omega⟩
     dsimp only
     rw [hsn, jq hc, List.drop_append_of_le_length (by rw [List.length_take]; omega)]
    ·exact ⟨rfl, rfl, rfl, rfl, rfl, ivs (by dsimp only; omega), trivial⟩
    ·exact pt_all _
   rw [if_pos h10] at hsn
   have hln : ((B.take (i : Int).toNat).drop (st : Int).toNat) = (B.take i).drop st := rfl
   have hlnl : ((B.take i).drop st).length ≤ 4000 := by rw [List.length_drop, List.length_take]; omega
   have hsn2 : cutAt 10 (B.take (i + 1)) = (D ++ [(B.take i).drop st]) ++ [[]] := hsn
   cases hr : rdL ⟨qs.map (·.1), es⟩ ((B.take i).drop st) with
   | none =>
    obtain ⟨Z, hZ, hpre⟩ := cut_pre 10 _ (B.take (i + 1)) (B.drop (i + 1)) (Nat.le_refl _)
    rw [List.take_append_drop, hsn2, List.dropLast_concat] at hpre
    have hno : je bo0 (cutAt 10 B).dropLast = none := by
     rw [hpre, List.dropLast_append_of_ne_nil hZ, List.append_assoc, rdAll_app, hrd]
     show je _ ([(B.take i).drop st] ++ Z.dropLast) = none
     simp only [List.cons_append, je, hr]
    rw [hno]
    refine At.nrm ?_
    refine At.zi (.q 0 (.q 1 (.q 2 (.q 3 .done)))) ?_
    refine AtT.zf ?_
    refine AtT.zf ?_
    refine AtT.ixT rfl trivial Tryz.underlying9 rfl rfl (by omega) (by omega) (by decide) ?_
    rw [hgd]
    refine AtT.qE ?_
    refine AtT.zS (d := 53) rfl ((fun h => h (hc10.2 h10))) ?_
    refine AtT.done ?_
    refine At.nrm ?_
    all_goals refine At.zX rfl rfl ?_
    refine At.nrm ?_
    refine At.cutG (ι := Unit) (fun _ => [(2, .pointer (some ⟨b2, 0, none⟩)), (10, .bool false)]) (fun _ => [.blk b2 (LC [.slice none 0 0, .slice none 0 0] 26)]) (fun _ V'' => Le V' V'') ?_ ?_
    ·refine At.drawC [.blk b6 (LC [.slice ar qs.length cr, .slice ae es.length ce] 26), .blk b2 (LC [.slice none 0 0, .slice none 0 0] 26)] (.q 0 (.q 1 (.q 2 (.q 3 (.q 4 (.two 5 (.q 6 (.q 7 (.q 8 (.n false 9 (.n false 10 (.q 11 .done)))))) 9 (.n false 5 (.q 6 (.q 7 (.q 8 (.n false 10 (.q 11 .done)))))))))))) ffm (by kernel_rfl) Pt.zI ?_
     refine AtC.pre (fun hle0 => ?_)
     refine AtC.kq (by (first | refine AtT.zF zH ?_ | refine AtT.zJ zH ?_ | refine AtT.zD zH ?_); exact At.knows) ?_
     refine AtC.kq (by (refine AtT.zf ?_); exact At.knows) ?_
     refine AtC.kq (by (refine AtT.zf ?_); exact At.knows) ?_
     refine AtC.kq (by (refine AtT.zf ?_); exact At.knows) ?_
     refine AtC.kq (by (refine AtT.subT rfl trivial Tryz.underlying9 rfl rfl rfl (by omega) (by omega) (by omega) (by decide) ?_); exact At.knows) ?_
     rw [hln]
     refine AtC.two ?_ ?_
     focus
      refine AtC.nz ?_
      refine AtT.jb rfl trivial rfl ok83 (by decide) (by first | exact List.Perm.refl _ | exact List.Perm.trans (List.Perm.swap _ _ _) (List.Perm.cons _ (List.Perm.swap _ _ _))) (rread_bad ar cr qs ae ce es ((B.take i).drop st) hlnl (by omega) (by omega) hq hr) ?_
      rintro _ _ V60 ⟨hV60, rfl, bx, ox, rfl⟩
      refine AtC.kgo ?_
      refine AtC.kq (by (refine AtT.zf ?_); exact At.knows) ?_
      refine AtC.kq (by (refine AtT.zt ?_); exact At.knows) ?_
      refine AtC.kq (by (refine AtT.zt ?_); exact At.knows) ?_
      refine AtC.nz ?_
      refine AtT.zT z26 ?_
      intro b9
      refine AtC.kgo ?_
      refine AtC.nz ?_
      refine AtT.zy zH ?_
      refine AtC.kgo ?_
      refine AtC.kq (by (refine AtT.zg ?_); exact At.knows) ?_
      refine AtC.done ?_
     rotate_right
     focus
      refine AtC.nz ?_
      refine AtT.zT z26 ?_
      intro b9
      refine AtC.kgo ?_
      refine AtC.nz ?_
      refine AtT.jb rfl trivial rfl ok83 (by decide) (by first | exact List.Perm.refl _ | exact List.Perm.trans (List.Perm.swap _ _ _) (List.Perm.cons _ (List.Perm.swap _ _ _))) (rread_bad ar cr qs ae ce es ((B.take i).drop st) hlnl (by omega) (by omega) hq hr) ?_
      rintro _ _ V60 ⟨hV60, rfl, bx, ox, rfl⟩
      refine AtC.kgo ?_
      refine AtC.kq (by (refine AtT.zf ?_); exact At.knows) ?_
      refine AtC.kq (by (refine AtT.zt ?_); exact At.knows) ?_
      refine AtC.kq (by (refine AtT.zt ?_); exact At.knows) ?_
      refine AtC.nz ?_
      refine AtT.zy zH ?_
      refine AtC.kgo ?_
      refine AtC.kq (by (refine AtT.zg ?_); exact At.knows) ?_
      refine AtC.done ?_
     all_goals (refine At.nrmB ?_)
     all_goals exact At.jP () hV60 ⟨rfl, rfl, trivial⟩ Pt.zV
    rintro _ V5 ks5 O5 hV5 rfl rfl hle5
    refine At.nrm ?_
    refine At.zi (.q 0 (.q 1 .done)) ?_
    refine AtT.zf ?_
    refine AtT.qC ?_
    refine AtT.qJ (d := 64) rfl ((show (!false) = true from rfl)) ?_
    refine AtT.done ?_
    refine At.nrm ?_
    refine At.zU rfl rfl ?_
    refine At.nrm ?_
    refine At.zi (.q 0 (.n true 1 (.q 2 .done))) ?_
    refine AtT.qy (bd26) ?_
    refine AtT.zy zH ?_
    refine AtT.zg ?_
    refine AtT.done ?_
    refine At.nrm ?_
    exact At.qN rfl (.agg rfl zH zP.zI rfl) (.tmp rfl) ⟨_, rfl, BoV.nil _⟩
   | some b' =>
    have hgr := rdL_grow hr
    refine At.nrm ?_
    refine At.zi (.q 0 (.q 1 (.q 2 (.q 3 .done)))) ?_
    refine AtT.zf ?_
    refine AtT.zf ?_
    refine AtT.ixT rfl trivial Tryz.underlying9 rfl rfl (by omega) (by omega) (by decide) ?_
    rw [hgd]
    refine AtT.qE ?_
    refine AtT.zS (d := 53) rfl ((fun h => h (hc10.2 h10))) ?_
    refine AtT.done ?_
    refine At.nrm ?_
    all_goals refine At.zX rfl rfl ?_
    refine At.nrm ?_
    refine At.cutG (ι := Nat × Lh) (fun g => [(2, .pointer (some ⟨b2, 0, none⟩)), (4, sT B), (5, sT t), (6, .pointer (some ⟨b6, 0, none⟩)), (8, iv i), (9, .pointer (some ⟨g.1, 0, none⟩)), (10, .bool true)])
     (fun g => .blk g.1 (LC [.slice g.2.ar g.2.qs.length g.2.cr, .slice g.2.ae g.2.es.length g.2.ce] 26) :: RwO g.2.ar g.2.cr g.2.qs g.2.ae g.2.ce g.2.es [.blk b6 (LC [.slice ar qs.length cr, .slice ae es.length ce] 26), .blk b2 (LC [.slice none 0 0, .slice none 0 0] 26)]) (fun g V'' => Le V' V'' ∧ b' = ⟨g.2.qs.map (·.1), g.2.es⟩ ∧ RsQ V'' g.2.qs) ?_ ?_
    ·refine At.drawC [.blk b6 (LC [.slice ar qs.length cr, .slice ae es.length ce] 26), .blk b2 (LC [.slice none 0 0, .slice none 0 0] 26)] (.q 0 (.q 1 (.q 2 (.q 3 (.q 4 (.two 5 (.q 6 (.q 7 (.q 8 (.n false 9 (.n false 10 (.q 11 .done)))))) 9 (.n false 5 (.q 6 (.q 7 (.q 8 (.n false 10 (.q 11 .done)))))))))))) ffm (by kernel_rfl) Pt.zI ?_
     refine AtC.pre (fun hle0 => ?_)
     refine AtC.kq (by (first | refine AtT.zF zH ?_ | refine AtT.zJ zH ?_ | refine AtT.zD zH ?_); exact At.knows) ?_
     refine AtC.kq (by (refine AtT.zf ?_); exact At.knows) ?_
     refine AtC.kq (by (refine AtT.zf ?_); exact At.knows) ?_
     refine AtC.kq (by (refine AtT.zf ?_); exact At.knows) ?_
     refine AtC.kq (by (refine AtT.subT rfl trivial Tryz.underlying9 rfl rfl rfl (by omega) (by omega) (by omega) (by decide) ?_); exact At.knows) ?_
     rw [hln]
     refine AtC.two ?_ ?_
     focus
      refine AtC.nz ?_
      refine AtT.jb rfl trivial rfl ok83 (by decide) (by first | exact List.Perm.refl _ | exact List.Perm.trans (List.Perm.swap _ _ _) (List.Perm.cons _ (List.Perm.swap _ _ _))) (rread_ok ar cr qs ae ce es ((B.take i).drop st) hlnl (by omega) (by omega) hq hr) ?_
      rintro _ _ V60 ⟨hV60, ar', cr', qs', ae', ce', es', hb', rfl, ⟨bx, ox, rfl⟩, hq'⟩
      refine AtC.kgo ?_
      refine AtC.kq (by (refine AtT.zf ?_); exact At.knows) ?_
      refine AtC.kq (by (refine AtT.zt ?_); exact At.knows) ?_
      refine AtC.kq (by (refine AtT.zt ?_); exact At.knows) ?_
      refine AtC.nz ?_
      refine AtT.zT z26 ?_
      intro b9
      refine AtC.kgo ?_
      refine AtC.nz ?_
      refine AtT.zy zH ?_
      refine AtC.kgo ?_
      refine AtC.kq (by (refine AtT.zg ?_); exact At.knows) ?_
      refine AtC.done ?_
     rotate_right
     focus
      refine AtC.nz ?_
      refine AtT.zT z26 ?_
      intro b9
      refine AtC.kgo ?_
      refine AtC.nz ?_
      refine AtT.jb rfl trivial rfl ok83 (by decide) (by first | exact List.Perm.refl _ | exact List.Perm.trans (List.Perm.swap _ _ _) (List.Perm.cons _ (List.Perm.swap _ _ _))) (rread_ok ar cr qs ae ce es ((B.take i).drop st) hlnl (by omega) (by omega) hq hr) ?_
      rintro _ _ V60 ⟨hV60, ar', cr', qs', ae', ce', es', hb', rfl, ⟨bx, ox, rfl⟩, hq'⟩
      refine AtC.kgo ?_
      refine AtC.kq (by (refine AtT.zf ?_); exact At.knows) ?_
      refine AtC.kq (by (refine AtT.zt ?_); exact At.knows) ?_
      refine AtC.kq (by (refine AtT.zt ?_); exact At.knows) ?_
      refine AtC.nz ?_
      refine AtT.zy zH ?_
      refine AtC.kgo ?_
      refine AtC.kq (by (refine AtT.zg ?_); exact At.knows) ?_
      refine AtC.done ?_
     all_goals (refine At.nrmB ?_)
     all_goals exact At.jP (b9, ⟨0, 0, [], qs', es', ar', cr', ae', ce'⟩) ⟨hV60, hb', hq'⟩ ⟨rfl, rfl, rfl, rfl, rfl, rfl, rfl, trivial⟩ (by unfold RwO; exact Pt.zV)
    rintro ⟨b9, ⟨_, _, _, qs', es', ar', cr', ae', ce'⟩⟩ V5 ks5 O5 ⟨hV5, rfl, hq5⟩ rfl rfl hle5
    dsimp only at hq5 hgr
    rw [List.length_map, List.length_map] at hgr
    refine At.nrm ?_
    refine At.zi (.q 0 (.q 1 .done)) ?_
    refine AtT.zf ?_
    refine AtT.qC ?_
    refine AtT.qJ (d := 64) rfl ((show (!true) = false from rfl)) ?_
    refine AtT.done ?_
    refine At.nrm ?_
    refine At.zX rfl rfl ?_
    refine At.nrm ?_
    refine At.zi (.q 0 (.q 1 (.q 2 (.n true 3 (.q 4 .done))))) ?_
    first | refine AtT.zF zH ?_ | refine AtT.zJ zH ?_ | refine AtT.zD zH ?_
    refine AtT.zf ?_
    first | refine AtT.qG ?_ | refine AtT.qd ?_
    refine AtT.zy zH ?_
    refine AtT.zg ?_
    refine AtT.done ?_
    refine At.nrm ?_
    refine At.zi (.q 0 (.q 1 (.q 2 .done))) ?_
    refine AtT.zf ?_
    first | refine AtT.qG ?_ | refine AtT.qd ?_
    refine AtT.zg ?_
    refine AtT.done ?_
    refine At.nrm ?_
    refine At.round ⟨i + 1, i + 1, D ++ [(B.take i).drop st], qs', es', ar', cr', ae', ce'⟩ ?_ ?_ ?_ ?_
    ·show B.length - (i + 1) < B.length - i; omega
    ·refine ⟨hVV.trans hV5, by dsimp only; omega, Nat.le_refl _, ?_, ?_, hq5, by dsimp only; omega, by dsimp only; omega⟩
     ·dsimp only
      rw [hsn2, List.drop_of_length_le (l := B.take (i + 1)) (by rw [List.length_take]; omega)]
     ·dsimp only
      rw [rdAll_app, hrd]
      simp only [je, hr]
    ·exact ⟨rfl, rfl, rfl, rfl, ivs (by dsimp only; omega), ivs (by dsimp only; omega), trivial⟩
    ·unfold RwO; exact Pt.zI
  obtain rfl : i = B.length := by omega
  rw [List.take_length] at hcut
  rw [hcut, List.dropLast_concat, List.getLastD_concat, hrd]
  simp only
  by_cases hse : st = B.length
  rotate_left
  ·rw [if_pos (fun h => hse (by have := congrArg List.length h; rw [List.length_drop] at this; simp at this; omega))]
   refine At.nrm ?_
   refine At.zi (.q 0 (.q 1 (.q 2 (.q 3 .done)))) ?_
   refine AtT.zf ?_
   refine AtT.zf ?_
   refine AtT.qR rfl trivial Tryz.underlying9 rfl (by decide) ?_
   refine AtT.qE ?_
   refine AtT.qa (d := 72) rfl ((by omega)) ?_
   refine AtT.done ?_
   refine At.nrm ?_
   all_goals refine At.zU rfl rfl ?_
   refine At.nrm ?_
   refine At.zi (.q 0 (.n true 1 (.q 2 .done))) ?_
   refine AtT.qy (bd26) ?_
   refine AtT.zy zH ?_
   refine AtT.zg ?_
   refine AtT.done ?_
   refine At.nrm ?_
   exact At.qN rfl (.agg rfl zH zP.zI rfl) (.tmp rfl) ⟨_, rfl, BoV.nil _⟩
  rw [if_neg (fun h => h (by rw [hse, List.drop_length]))]
  refine At.nrm ?_
  refine At.zi (.q 0 (.q 1 (.q 2 (.q 3 .done)))) ?_
  refine AtT.zf ?_
  refine AtT.zf ?_
  refine AtT.qR rfl trivial Tryz.underlying9 rfl (by decide) ?_
  refine AtT.qE ?_
  refine AtT.zS (d := 72) rfl ((by omega)) ?_
  refine AtT.done ?_
  refine At.nrm ?_
  all_goals refine At.zX rfl rfl ?_
  unfold RwO
  refine At.jF (l := qs) rce_len rfl rfl zP.zI (fun V3 hV3 hsq => ?_)
  refine At.jF (l := es) ene_len rfl rfl zP.zI (fun V4 hV4 hse2 => ?_)
  have hbo : BoV V4 (.agg #[.slice ar qs.length cr, .slice ae es.length ce]) ⟨qs.map (·.1), es⟩ := ⟨_, ae, ce, rfl, ⟨qs, ar, cr, rfl, rfl, hsq.le hV4, (hq.le hV3).le hV4⟩, hse2⟩
  unfold endR
  refine At.nrm ?_
  by_cases hc : chk B = (t.drop 6).take 8
  rotate_left
  ·rw [if_pos hc]
   refine At.draw (.q 0 (.q 2 (.q 3 (.n false 1 (.q 4 .done))))) ffm (by kernel_rfl) ?_
   refine AtT.zf ?_
   refine AtT.zf ?_
   refine AtT.subT rfl trivial Tryz.underlying9 rfl rfl rfl (by omega) (by omega) (by omega) (by decide) ?_
   rw [hS]
   refine AtT.zG rfl rfl ok73 (rcheckOf_f B (by omega) _) ?_
   rintro _ rfl
   refine AtT.neT rfl trivial rfl rfl (by decide) ?_
   refine AtT.qa (d := 78) rfl (hc) ?_
   refine AtT.done ?_
   refine At.nrm ?_
   all_goals refine At.zU rfl rfl ?_
   refine At.nrm ?_
   refine At.zi (.q 0 (.n true 1 (.q 2 .done))) ?_
   refine AtT.qy (bd26) ?_
   refine AtT.zy zH ?_
   refine AtT.zg ?_
   refine AtT.done ?_
   refine At.nrm ?_
   exact At.qN rfl (.agg rfl zH zP.zI rfl) (.tmp rfl) ⟨_, rfl, BoV.nil _⟩
  rw [if_neg (fun h => h hc)]
  refine At.draw (.q 0 (.q 2 (.q 3 (.n false 1 (.q 4 .done))))) ffm (by kernel_rfl) ?_
  refine AtT.zf ?_
  refine AtT.zf ?_
  refine AtT.subT rfl trivial Tryz.underlying9 rfl rfl rfl (by omega) (by omega) (by omega) (by decide) ?_
  rw [hS]
  refine AtT.zG rfl rfl ok73 (rcheckOf_f B (by omega) _) ?_
  rintro _ rfl
  refine AtT.neT rfl trivial rfl rfl (by decide) ?_
  refine AtT.zS (d := 78) rfl ((fun h => h hc)) ?_
  refine AtT.done ?_
  refine At.nrm ?_
  all_goals refine At.zX rfl rfl ?_
  refine At.nrm ?_
  by_cases hb0 : bkE ⟨qs.map (·.1), es⟩ = 0
  rotate_left
  ·rw [if_pos hb0]
   refine At.zi (.q 0 (.n false 1 (.q 2 .done))) ?_
   first | refine AtT.zF zH ?_ | refine AtT.zJ zH ?_ | refine AtT.zD zH ?_
   refine AtT.zG rfl rfl ok28 (jD ⟨qs.map (·.1), es⟩ _ _ hbo) ?_
   rintro _ rfl
   refine AtT.qE ?_
   refine AtT.done ?_
   refine At.nrm ?_
   refine At.zU rfl (decide_eq_true hb0) ?_
   refine At.nrm ?_
   refine At.zi (.q 0 (.q 1 (.n false 2 (.n true 3 (.q 4 .done))))) ?_
   refine AtT.qy (bd26) ?_
   first | refine AtT.zF zH ?_ | refine AtT.zJ zH ?_ | refine AtT.zD zH ?_
   refine AtT.zG rfl rfl ok28 (jD ⟨qs.map (·.1), es⟩ _ _ hbo) ?_
   rintro _ rfl
   refine AtT.zy zH ?_
   refine AtT.zg ?_
   refine AtT.done ?_
   refine At.nrm ?_
   exact At.qN rfl (.agg rfl zH zP.zI rfl) (.tmp rfl) ⟨_, rfl, BoV.nil _⟩
  rw [if_neg (fun h => h hb0)]
  refine At.zi (.q 0 (.n false 1 (.q 2 .done))) ?_
  first | refine AtT.zF zH ?_ | refine AtT.zJ zH ?_ | refine AtT.zD zH ?_
  refine AtT.zG rfl rfl ok28 (jD ⟨qs.map (·.1), es⟩ _ _ hbo) ?_
  rintro _ rfl
  refine AtT.qE ?_
  refine AtT.done ?_
  refine At.nrm ?_
  refine At.zX rfl (decide_eq_false (fun h => h hb0)) ?_
  refine At.nrm ?_
  refine At.zi (.q 0 (.n true 1 (.q 2 .done))) ?_
  first | refine AtT.zF zH ?_ | refine AtT.zJ zH ?_ | refine AtT.zD zH ?_
  refine AtT.zy zH ?_
  refine AtT.zg ?_
  refine AtT.done ?_
  refine At.nrm ?_
  exact At.qN rfl (.agg rfl zH zP.zI rfl) (.tmp rfl) ⟨_, rfl, hbo⟩
end Go.Proofs.YtpoignmclfdgpaaGreatDoor

set_option linter.unusedVariables false
namespace Go.Bk
open Go.Lw Go.Gl
theorem rawO_nn {rs : List Rc} (h : qL (-1) rs) {g : Int} (hg : g ≤ 7) (x : Int) : 0 ≤ jS rs g x := (rawO_bd h hg x).1
theorem dot_ge {W r : Nat → Int} (hW : ∀ s, 0 ≤ W s) (hr : ∀ s, s < 8 → 0 ≤ r s) : ∀ {n s : Nat}, n ≤ 8 → s < n → W s * r s ≤ dotN W r n ∧ 0 ≤ dotN W r n
 | 0, s, _, h => absurd h (Nat.not_lt_zero s)
 | n + 1, s, hn, h => by
  have h1 := Int.mul_nonneg (hW n) (hr n (by omega))
  simp only [dotN]
  by_cases e : s = n
  ·subst e
   cases s with
   | zero => simp only [dotN]; omega
   | succ m =>
    have := (dot_ge hW hr (n := m + 1) (s := m) (by omega) (by omega)).2
    omega
  ·have := dot_ge hW hr (n := n) (s := s) (by omega) (by omega)
   omega
structure Wnt (rs : List Rc) (W : Nat → Int) (g : Nat) (c : Int) : Prop where
 nn : ∀ s, 0 ≤ W s
 out : ∀ s, 8 ≤ s → W s = 0
 dot : ∀ y : Nat, y < 8 → dotN W (fun s => jS rs s y) 8 ≤ c * jS rs g y
theorem Wnt.bd {rs : List Rc} (h : qL (-1) rs) {W : Nat → Int} {g : Nat} (hg : g < 8) {c B : Int} (hc : 0 ≤ c ∧ c * 10460353203 ≤ B) (hW : Wnt rs W g c) (s : Nat) : 0 ≤ W s ∧ W s ≤ B := by
 refine ⟨hW.nn s, ?_⟩
 by_cases hs : s < 8
 ·obtain ⟨y, hy, hy1⟩ := raw_some h 8 s hs hs
  have h1 := (dot_ge hW.nn (fun t ht => rawO_nn h (by omega) (y : Int)) (r := fun t => jS rs t y) (n := 8) (Nat.le_refl _) hs).1
  have h2 := hW.dot y hy
  have h3 := rawO_bd h (g := (g : Int)) (by omega) (y : Int)
  have h4 : c * jS rs g y ≤ c * 10460353203 := Int.mul_le_mul_of_nonneg_left h3.2 hc.1
  have h5 : W s * 1 ≤ W s * jS rs s y := Int.mul_le_mul_of_nonneg_left hy1 (hW.nn s)
  omega
 ·rw [hW.out s (by omega)]
  have := Int.mul_nonneg hc.1 (show (0 : Int) ≤ 10460353203 by decide)
  omega
theorem Wnt.start {rs : List Rc} (h : qL (-1) rs) {g : Nat} (hg : g < 8) {c : Int} (hc : 0 ≤ c) : Wnt rs (upd (fun _ => 0) g c) g c := by
 refine ⟨fun s => ?_, fun s hs => ?_, fun y hy => ?_⟩
 ·rw [jB]; split
  ·exact hc
  ·exact Int.le_refl _
 ·rw [jB, if_neg (by omega)]
 ·rw [dot_one hg]; exact Int.le_refl _
theorem want_out8 {rs : List Rc} (h : qL (-1) rs) {g : Int} {c : Int} {W : Nat → Int} {s : Nat} (hs : 8 ≤ s) : qK c (partsOf rs g) W s = W s := want_out fun p hp => by have := qD h hp; omega
theorem Wnt.split {rs : List Rc} (h : qL (-1) rs) {W : Nat → Int} {g : Nat} {c : Int} (hW : Wnt rs W g c) {t : Nat} (ht : t < 8) : Wnt rs (jR rs t W) g c := by
 refine ⟨fun s => ?_, fun s hs => ?_, fun y hy => by rw [split_dot h ht]; exact hW.dot y hy⟩
 ·unfold jR
  split
  ·exact hW.nn s
  ·refine Int.le_trans ?_ (want_ge (hW.nn t) (fun p hp => by have := qD h hp; omega) s)
   rw [jB]; split
   ·exact Int.le_refl _
   ·exact hW.nn s
 ·unfold jR
  split
  ·exact hW.out s hs
  ·rw [want_out8 h hs, jB, if_neg (by omega)]; exact hW.out s hs
theorem dot_mono {W W' r : Nat → Int} (hr : ∀ s, s < 8 → 0 ≤ r s) (hW : ∀ s, s < 8 → W s ≤ W' s) : ∀ {n : Nat}, n ≤ 8 → dotN W r n ≤ dotN W' r n
 | 0, _ => Int.le_refl _
 | n + 1, hn => by
  have h1 := dot_mono hr hW (n := n) (by omega)
  have h2 := Int.mul_le_mul_of_nonneg_right (hW n (by omega)) (hr n (by omega))
  simp only [dotN]; omega
theorem Wnt.less {rs : List Rc} (h : qL (-1) rs) {W W' : Nat → Int} {g : Nat} {c : Int} (hW : Wnt rs W g c) (h0 : ∀ s, 0 ≤ W' s) (h1 : ∀ s, W' s ≤ W s) : Wnt rs W' g c :=
 ⟨h0, fun s hs => by have := h1 s; have := h0 s; rw [hW.out s hs] at *; omega, fun y hy => Int.le_trans (dot_mono (fun s hs => rawO_nn h (by omega) _) (fun s _ => h1 s) (Nat.le_refl _)) (hW.dot y hy)⟩
def rawE (rs : List Rc) (g c : Int) : Int := if crE rs ≠ 0 then crE rs else if ¬ (0 ≤ g ∧ g ≤ 7) then 2 else if c < 0 ∨ 1000 < c then 3 else 0
def rawL (rs : List Rc) (g c : Int) : List Int := if rawE rs g c ≠ 0 then [] else stL fun y => c * jS rs g y
def mxC (p : Nat → Bool) : Nat → Nat
 | 0 => 0
 | n + 1 => if p (n + 1) = true then n + 1 else mxC p n
theorem mxC_spec (p : Nat → Bool) : ∀ n, mxC p n ≤ n ∧ (mxC p n = 0 ∨ p (mxC p n) = true) ∧ ∀ c, mxC p n < c → c ≤ n → p c = false
 | 0 => ⟨Nat.le_refl _, .inl rfl, fun c h1 h2 => by omega⟩
 | n + 1 => by
  have ih := mxC_spec p n
  simp only [mxC]
  split
  ·rename_i h; exact ⟨Nat.le_refl _, .inr h, fun c h1 h2 => by omega⟩
  ·rename_i h
   refine ⟨by omega, ih.2.1, fun c h1 h2 => ?_⟩
   by_cases e : c = n + 1
   ·subst e; simpa using h
   ·exact ih.2.2 c h1 (by omega)
def mostS (rs : List Rc) (l : Nat → Int) (g : Nat) : Nat := mxC (fun c => canS rs l g c) 24000
theorem mostS_of {rs : List Rc} (h : qL (-1) rs) {l : Nat → Int} (hl : ∀ s, 0 ≤ l s) (hs : jJ l 8 ≤ 24000) {g : Nat} (hg : g < 8) {m : Nat} (h1 : m = 0 ∨ canS rs l g m = true) (h2 : ∀ c : Nat, m < c → canS rs l g c = false) : m = mostS rs l g := by
 obtain ⟨a1, a2, a3⟩ := mxC_spec (fun c => canS rs l g c) 24000
 have hm : m ≤ 24000 := by
  rcases h1 with rfl | h1
  ·omega
  ·have := canS_le h hl hg (Int.natCast_nonneg m) h1; omega
 unfold mostS
 rcases Nat.lt_trichotomy m (mxC (fun c => canS rs l g c) 24000) with c | c | c
 ·rcases a2 with a2 | a2
  ·omega
  ·have := h2 _ c; rw [this] at a2; cases a2
 ·exact c
 ·rcases h1 with rfl | h1
  ·omega
  ·have := a3 m c hm; rw [this] at h1; cases h1
theorem canS_down {rs : List Rc} (h : qL (-1) rs) {l : Nat → Int} {g c d : Nat} (hcd : c ≤ d) (hd : canS rs l g d = true) : canS rs l g c = true := canS_mono h (fun s => Int.le_refl _) (by omega) hd
theorem canS_up {rs : List Rc} (h : qL (-1) rs) {l : Nat → Int} {g c d : Nat} (hcd : c ≤ d) (hc : canS rs l g c = false) : canS rs l g d = false := by
 cases e : canS rs l g d with
 | false => rfl
 | true => rw [canS_down h hcd e] at hc; cases hc
theorem sum_upd {W : Nat → Int} {a : Nat} {v : Int} : ∀ {n : Nat}, jJ (upd W a v) n = if a < n then jJ W n + (v - W a) else jJ W n
 | 0 => by simp [jJ]
 | n + 1 => by
  simp only [jJ]
  rw [sum_upd, jB]
  by_cases e : n = a
  ·subst e; simp; omega
  ·by_cases c : a < n
   ·rw [if_pos c, if_neg e, if_pos (show a < n + 1 by omega)]; omega
   ·rw [if_neg c, if_neg e, if_neg (show ¬ a < n + 1 by omega)]
theorem sum_le {f g : Nat → Int} (h : ∀ s, f s ≤ g s) : ∀ n, jJ f n ≤ jJ g n
 | 0 => Int.le_refl _
 | n + 1 => by have := sum_le h n; have := h n; simp only [jJ]; omega
theorem runL_sum {rs : List Rc} (h : qL (-1) rs) {day : Int} : ∀ {l : List En} {f st : Nat → Int}, (∀ e ∈ l, EnG e) → runL rs day l f = some st → jJ st 8 ≤ jJ f 8 + 1000 * (l.length : Int)
 | [], f, st, _, hr => by simp only [runL, Option.some.injEq] at hr; subst hr; simp
 | e :: l, f, st, he, hr => by
  have he' : ∀ x ∈ l, EnG x := fun x hx => he x (List.mem_cons_of_mem _ hx)
  have hg := he e List.mem_cons_self
  rw [runL_step] at hr
  rw [List.length_cons]
  push_cast
  split at hr
  ·have := runL_sum h he' hr; omega
  ·split at hr
   ·have ih := runL_sum h he' hr
    have h1 : jJ (stB rs e f) 8 ≤ jJ f 8 + 1000 := by
     by_cases ka : e.k = 1 ∨ e.k = 3
     ·have hn := hg.n (by omega)
      have ht := hg.t (by omega)
      have h2 : jJ (stB rs e f) 8 ≤ jJ (upd f e.t.toNat (f e.t.toNat + e.n)) 8 := sum_le (fun s => by
       have := less_nn8 h hg.n s
       unfold stB more
       rw [if_pos ka, jB]
       split
       ·rename_i c; subst c; omega
       ·omega) 8
      rw [sum_upd, if_pos (by omega)] at h2
      omega
     ·have h2 : jJ (stB rs e f) 8 ≤ jJ f 8 := sum_le (fun s => by
       have := less_nn8 h hg.n s
       unfold stB more
       rw [if_neg ka]; omega) 8
      omega
    omega
   ·cases hr
theorem sumN_zero : ∀ n, jJ (fun _ => 0) n = 0
 | 0 => rfl
 | n + 1 => by simp only [jJ, sumN_zero n]; rfl
theorem runS_sum {b : Bo} (hb : BoG b) {first : Nat} (hf : first ≤ b.es.length) {day : Int} {st : Nat → Int} (h : runS b.rs b.es first day = some st) : jJ st 8 ≤ 24000 := by
 have h1 := runL_sum hb.rs (fun e he => by
  obtain ⟨i, hi, rfl⟩ := List.mem_map.1 he
  exact hb.es _ (enA_mem (by have := cntS_lt hi; omega))) h
 rw [sumN_zero, List.length_map] at h1
 have h2 := cntJ_len b.es first first
 rw [cntJ_all] at h2
 have := hb.len
 omega
theorem runS_nn {b : Bo} (hb : BoG b) {first : Nat} (hf : first ≤ b.es.length) {day : Int} {st : Nat → Int} (h : runS b.rs b.es first day = some st) : ∀ s, s < 8 → 0 ≤ st s ∧ st s ≤ 24000 := by
 have key : ∀ {l : List En} {f st : Nat → Int} {m : Int}, (∀ e ∈ l, EnG e) → (∀ s, s < 8 → 0 ≤ f s ∧ f s ≤ m) → runL b.rs day l f = some st → ∀ s, s < 8 → 0 ≤ st s ∧ st s ≤ m + 1000 * (l.length : Int) := by
  intro l
  induction l with
  | nil => intro f st m _ hf hr s hs; simp only [runL, Option.some.injEq] at hr; subst hr; have := hf s hs; simp; omega
  | cons e l ih =>
   intro f st m he hf hr s hs
   have he' : ∀ x ∈ l, EnG x := fun x hx => he x (List.mem_cons_of_mem _ hx)
   rw [runL_step] at hr
   rw [List.length_cons]
   push_cast
   split at hr
   ·have := ih he' hf hr s hs; omega
   ·split at hr
    ·rename_i ho
     have := ih he' (stB_bd hb.rs (he e List.mem_cons_self).n hf ho) hr s hs
     omega
    ·cases hr
 intro s hs
 have h1 := key (m := 0) (fun e he => by
  obtain ⟨i, hi, rfl⟩ := List.mem_map.1 he
  exact hb.es _ (enA_mem (by have := cntS_lt hi; omega))) (fun s _ => ⟨Int.le_refl _, Int.le_refl _⟩) h s hs
 rw [List.length_map] at h1
 have h2 := cntJ_len b.es first first
 rw [cntJ_all] at h2
 have := hb.len
 omega
end Go.Bk


set_option linter.unusedVariables false
namespace Go.Proofs.YtpoignmclfdgpaaGreatDoor
open Go.Lw Go.Gl Go.Bk Go.RowKit
theorem seen_push2 {α β : Type} {M : MM α β} {seen : Array Nat} {e e' : α × β × Nat} (hb : (M.map (·.2.2)).Nodup) (he : e ∈ M) (he' : e' ∈ M) : e'.2.2 ∈ seen.push e.2.2 ↔ (e'.2.2 ∈ seen ∨ e' = e) := by
 rw [Array.mem_push]
 constructor
 ·rintro (h | h)
  ·exact .inl h
  ·exact .inr (inj_of (fun e : α × β × Nat => e.2.2) hb he' he h)
 ·rintro (h | rfl)
  ·exact .inl h
  ·exact .inr rfl
def seenF (M : MM Int Int) (W : Nat → Int) (seen : Array Nat) : Nat → Int := fun s => if M.any (fun e => decide (e.1 = (s : Int)) && seen.contains e.2.2) = true then W s else 0
theorem seenF_nil (M : MM Int Int) (W : Nat → Int) : seenF M W #[] = fun _ => 0 := by
 funext s
 unfold seenF
 rw [if_neg]
 simp
theorem seenF_push {M : MM Int Int} {c : Nat} {W : Nat → Int} (h : WMap M c W) {e : Int × Int × Nat} (he : e ∈ M) {T : Nat} (hT : e.1 = (T : Int)) (seen : Array Nat) : seenF M W (seen.push e.2.2) = upd (seenF M W seen) T (W T) := by
 funext s
 rw [jB]
 unfold seenF
 by_cases hs : s = T
 ·subst hs
  rw [if_pos rfl, if_pos]
  rw [List.any_eq_true]
  exact ⟨e, he, by simp [hT]⟩
 ·rw [if_neg hs]
  congr 1
  rw [eq_iff_iff, List.any_eq_true, List.any_eq_true]
  constructor
  ·rintro ⟨e', h1, h2⟩
   simp only [Bool.and_eq_true, decide_eq_true_eq, Array.contains_iff_mem] at h2
   refine ⟨e', h1, ?_⟩
   rcases (seen_push2 h.ok.borns he h1).1 h2.2 with h3 | rfl
   ·simp [h2.1, h3]
   ·rw [hT] at h2; omega
  ·rintro ⟨e', h1, h2⟩
   simp only [Bool.and_eq_true, decide_eq_true_eq, Array.contains_iff_mem] at h2
   exact ⟨e', h1, by simp [h2.1, h2.2]⟩
theorem seenF_all {M : MM Int Int} {c : Nat} {W : Nat → Int} (h : WMap M c W) {seen : Array Nat} (hall : ∀ e ∈ M, e.2.2 ∈ seen) (s : Nat) : seenF M W seen s = W s := by
 unfold seenF
 by_cases hh : jL (s : Int) M = true
 ·rw [if_pos]
  obtain ⟨e, he, hes⟩ := (mhas_iff _ M).1 hh
  rw [List.any_eq_true]
  exact ⟨e, he, by simp [hes, hall e he]⟩
 ·rw [if_neg]
  ·rw [← h.get s, mget_none hh]
  ·intro hc
   rw [List.any_eq_true] at hc
   obtain ⟨e, he, h2⟩ := hc
   simp only [Bool.and_eq_true, decide_eq_true_eq] at h2
   exact hh ((mhas_iff _ M).2 ⟨e, he, h2.1⟩)
theorem mem_get {M : MM Int Int} {c : Nat} {W : Nat → Int} (h : WMap M c W) {e : Int × Int × Nat} (he : e ∈ M) {T : Nat} (hT : e.1 = (T : Int)) : e.2.1 = W T := by
 have h1 := h.get T
 have key : ∀ {l : MM Int Int}, (l.map (·.1)).Nodup → e ∈ l → qW e.1 0 l = e.2.1 := by
  intro l
  induction l with
  | nil => intro _ h; cases h
  | cons x l ih =>
   intro hn hm
   simp only [List.map_cons, List.nodup_cons] at hn
   simp only [qW]
   rcases List.mem_cons.1 hm with rfl | hm
   ·rw [if_pos rfl]
   ·rw [if_neg (fun h => hn.1 (by rw [← h]; exact List.mem_map_of_mem hm))]
    exact ih hn.2 hm
 rw [← hT, key h.ok.keys he] at h1
 exact h1
theorem praw_f (rs : List Rc) (g c : Int) (V : View) (v : Value) (hv : RsV V v rs) : Fnc Tryz.prog 18 [v, iv g, iv c] V fun r V' => ∃ u, r = .tuple #[u, iv (rawE rs g c)] ∧ SlI V' u (rawL rs g c) := by
 refine ql Tryz.func18 rfl Tryz.ntmps18 (Nat.le_of_ble_eq_true rfl) ?_
 intro w0 hw0
 refine At.nrm ?_
 refine At.zi (.q 0 (.q 1 .done)) ?_
 refine AtT.zg ?_
 refine AtT.zg ?_
 refine AtT.done ?_
 refine At.nrm ?_
 refine At.zi (.q 0 (.n false 1 (.q 2 .done))) ?_
 refine AtT.zf ?_
 refine AtT.zG rfl rfl ok20 (checkRecipes_f rs _ _ hv) ?_
 rintro _ rfl
 refine AtT.zg ?_
 refine AtT.done ?_
 refine At.nrm ?_
 refine At.nrm ?_
 refine At.zi (.q 0 (.q 1 (.q 2 .done))) ?_
 refine AtT.zf ?_
 refine AtT.qE ?_
 refine AtT.zg ?_
 refine AtT.done ?_
 refine At.nrm ?_
 refine At.qb rfl (fun h0 => ?_) (fun h0 => ?_)
 ·have hE : rawE rs g c = crE rs := by unfold rawE; rw [if_pos h0]
  have hL : rawL rs g c = [] := by unfold rawL; rw [if_pos (by rw [hE]; exact h0)]
  rw [hE, hL]
  refine At.nrm ?_
  refine At.zi (.q 0 (.q 1 (.q 2 .done))) ?_
  refine AtT.zf ?_
  refine AtT.zg ?_
  refine AtT.zg ?_
  refine AtT.done ?_
  refine At.nrm ?_
  exact At.qN rfl (.tmp rfl) (.tmp rfl) ⟨_, rfl, Sl.nil _ _ _⟩
 have hrs := recsE_iff.1 (show crE rs = 0 from Classical.not_not.1 h0)
 refine At.nrm ?_
 by_cases g1 : 0 ≤ g ∧ g ≤ 7
 rotate_left
 ·refine At.zi (.q 0 (.n false 1 (.n false 2 (.q 3 (.q 4 .done))))) ?_
  refine AtT.zf ?_
  refine AtT.zN (qw _) ?_
  intro q22 V22 hV22 hq22
  have g22 : Le V V22 := by first | exact hV22 | exact Le.trans (by assumption) hV22
  refine AtT.qg rfl rfl jV (qB 0 7 g _ _ (Sl.lit (l := [g]) hq22 rfl (by simp))) ?_
  rintro v23 V23 hV23 rfl
  refine AtT.zS (d := 23) rfl (g1) ?_
  refine AtT.qC ?_
  refine AtT.qJ (d := 24) rfl ((show (!false) = true from rfl)) ?_
  refine AtT.zg ?_
  refine AtT.done ?_
  refine At.nrm ?_
  all_goals refine At.zU rfl rfl ?_
  refine At.nrm ?_
  have hE : rawE rs g c = 2 := by unfold rawE; rw [if_neg h0, if_pos g1]
  have hL : rawL rs g c = [] := by unfold rawL; rw [if_pos (by rw [hE]; decide)]
  rw [hE, hL]
  refine At.zi (.q 0 (.q 1 .done)) ?_
  refine AtT.zg ?_
  refine AtT.zg ?_
  refine AtT.done ?_
  refine At.nrm ?_
  exact At.qN rfl (.tmp rfl) (.tmp rfl) ⟨_, rfl, Sl.nil _ _ _⟩
 refine At.zi (.q 0 (.n false 1 (.n false 2 (.q 3 (.q 4 .done))))) ?_
 refine AtT.zf ?_
 refine AtT.zN (qw _) ?_
 intro q22 V22 hV22 hq22
 have g22 : Le V V22 := by first | exact hV22 | exact Le.trans (by assumption) hV22
 refine AtT.qg rfl rfl jV (qB 0 7 g _ _ (Sl.lit (l := [g]) hq22 rfl (by simp))) ?_
 rintro v23 V23 hV23 rfl
 refine AtT.qa (d := 23) rfl (g1) ?_
 refine AtT.qC ?_
 refine AtT.qJ (d := 24) rfl ((show (!true) = false from rfl)) ?_
 refine AtT.zg ?_
 refine AtT.done ?_
 refine At.nrm ?_
 all_goals refine At.zX rfl rfl ?_
 refine At.nrm ?_
 by_cases c1 : c < 0
 ·refine At.zi (.q 0 (.q 1 (.q 2 (.q 3 (.q 4 (.q 5 (.q 6 .done))))))) ?_
  refine AtT.zf ?_
  refine AtT.qp ?_
  refine AtT.qa (d := 27) rfl (c1) ?_
  refine AtT.zf ?_
  all_goals (first | refine AtT.kL 28 ?_ | refine AtT.zw (d := 28) rfl (fun hg28 => ?_) (fun hg28 => ?_) | refine AtT.zu (d := 28) rfl (fun hg28 => ?_) (fun hg28 => ?_))
  all_goals first|refine AtT.zh ?_|refine AtT.ze ?_|(refine AtT.zf ?_)
  all_goals first|refine AtT.zh ?_|refine AtT.ze ?_|(refine AtT.qI ?_)
  all_goals (refine AtT.zx ?_)
  all_goals (refine AtT.zg ?_)
  all_goals refine AtT.done ?_
  all_goals (refine At.nrm ?_)
  all_goals refine At.zU rfl rfl ?_
  refine At.nrm ?_
  have hE : rawE rs g c = 3 := by unfold rawE; rw [if_neg h0, if_neg (fun h => h g1), if_pos (by omega)]
  have hL : rawL rs g c = [] := by unfold rawL; rw [if_pos (by rw [hE]; decide)]
  rw [hE, hL]
  refine At.zi (.q 0 (.q 1 .done)) ?_
  refine AtT.zg ?_
  refine AtT.zg ?_
  refine AtT.done ?_
  refine At.nrm ?_
  exact At.qN rfl (.tmp rfl) (.tmp rfl) ⟨_, rfl, Sl.nil _ _ _⟩
 by_cases c2 : 1000 < c
 ·refine At.zi (.q 0 (.q 1 (.q 2 (.q 3 (.q 4 (.q 5 (.q 6 .done))))))) ?_
  refine AtT.zf ?_
  refine AtT.qp ?_
  refine AtT.zS (d := 27) rfl (c1) ?_
  refine AtT.zf ?_
  all_goals (first | refine AtT.kL 28 ?_ | refine AtT.zw (d := 28) rfl (fun hg28 => ?_) (fun hg28 => ?_) | refine AtT.zu (d := 28) rfl (fun hg28 => ?_) (fun hg28 => ?_))
  all_goals first|refine AtT.zh ?_|refine AtT.ze ?_|(refine AtT.zf ?_)
  all_goals first|refine AtT.zh ?_|refine AtT.ze ?_|(refine AtT.qI ?_)
  all_goals (refine AtT.qa (d := 30) rfl (c2) ?_)
  all_goals (refine AtT.zx ?_)
  all_goals (refine AtT.zg ?_)
  all_goals refine AtT.done ?_
  all_goals (refine At.nrm ?_)
  all_goals refine At.zU rfl rfl ?_
  refine At.nrm ?_
  have hE : rawE rs g c = 3 := by unfold rawE; rw [if_neg h0, if_neg (fun h => h g1), if_pos (by omega)]
  have hL : rawL rs g c = [] := by unfold rawL; rw [if_pos (by rw [hE]; decide)]
  rw [hE, hL]
  refine At.zi (.q 0 (.q 1 .done)) ?_
  refine AtT.zg ?_
  refine AtT.zg ?_
  refine AtT.done ?_
  refine At.nrm ?_
  exact At.qN rfl (.tmp rfl) (.tmp rfl) ⟨_, rfl, Sl.nil _ _ _⟩
 refine At.zi (.q 0 (.q 1 (.q 2 (.q 3 (.q 4 (.q 5 (.q 6 .done))))))) ?_
 refine AtT.zf ?_
 refine AtT.qp ?_
 refine AtT.zS (d := 27) rfl (c1) ?_
 refine AtT.zf ?_
 all_goals (first | refine AtT.kL 28 ?_ | refine AtT.zw (d := 28) rfl (fun hg28 => ?_) (fun hg28 => ?_) | refine AtT.zu (d := 28) rfl (fun hg28 => ?_) (fun hg28 => ?_))
 all_goals first|refine AtT.zh ?_|refine AtT.ze ?_|(refine AtT.zf ?_)
 all_goals first|refine AtT.zh ?_|refine AtT.ze ?_|(refine AtT.qI ?_)
 all_goals (refine AtT.zS (d := 30) rfl (c2) ?_)
 all_goals (refine AtT.zx ?_)
 all_goals (refine AtT.zg ?_)
 all_goals refine AtT.done ?_
 all_goals (refine At.nrm ?_)
 all_goals refine At.zX rfl rfl ?_
 refine At.nrm ?_
 have hE : rawE rs g c = 0 := by unfold rawE; rw [if_neg h0, if_neg (fun h => h g1), if_neg (by omega)]
 have hL : rawL rs g c = stL fun y => c * jS rs g y := by unfold rawL; rw [if_neg (by rw [hE]; simp)]
 rw [hE, hL]
 obtain ⟨G, rfl⟩ : ∃ G : Nat, g = (G : Int) := ⟨g.toNat, by omega⟩
 have hG8 : G < 8 := by omega
 refine At.zi (.q 0 (.n true 1 (.q 2 .done))) ?_
 refine AtT.zf ?_
 refine AtT.jb rfl trivial rfl ok56 (by decide) (List.Perm.refl _) (newStore_f rs hrs _ _ ((hv.le hV22).le hV23)) ?_
 rintro _ _ V33 ⟨p, m1, m2, rfl, hV33, rfl, hrm⟩
 refine AtT.zg ?_
 refine AtT.done ?_
 refine At.nrm ?_
 refine At.giveB (b := p) zP.zI (fun V1 hV1 hbp => ?_)
 have hsto := StoV.of hbp
 have hrm1 := hrm.le hV1
 have hw0 := (WMap.nil 0).put (g := (G : Int)) (by omega) (0 + c)
 rw [Int.toNat_natCast, Int.zero_add] at hw0
 have hc4 : 0 ≤ c ∧ c * 10460353203 ≤ 10460353203000 := by omega
 refine At.nrm ?_
 refine At.zi (.q 0 (.q 1 (.q 2 (.n true 3 .done)))) ?_
 refine AtT.zf ?_
 refine AtT.zf ?_
 refine AtT.zf ?_
 refine AtT.jb rfl trivial rfl ok57 (by decide) (zP.perm zP.zI) (want_f [] 0 _ (WMap.nil 0) G c (by omega) (Fit.of (by omega) (by omega)) p m2 m1 _ _ _ hsto) ?_
 rintro _ _ V2 ⟨rfl, rfl, rfl⟩
 refine AtT.done ?_
 refine At.nrm ?_
 rw [Int.zero_add]
 refine At.nrm ?_
 refine At.zi (.q 0 (.q 1 .done)) ?_
 refine AtT.zf ?_
 refine AtT.zg ?_
 refine AtT.done ?_
 refine At.nrm ?_
 refine At.lp (ι := Nat × MM Int Int × Nat × (Nat → Int)) (KS := fun q => [(9, .pointer (some ⟨p, 0, none⟩)), (10, iv ((q.1 : Int) - 1))]) (OS := fun q => [.blk m2 (qV ekT iv q.2.1 q.2.2.1)])
  (VS := fun q V' => V' = V2 ∧ q.1 ≤ 8 ∧ WMap q.2.1 q.2.2.1 q.2.2.2 ∧ Wnt rs q.2.2.2 G c ∧ splitTo rs q.1 q.2.2.2 = splitTo rs (G + 1) (upd (fun _ => 0) G c)) (μ := fun q => q.1) (G + 1, (mput (G : Int) c [] 0).1, (mput (G : Int) c [] 0).2, upd (fun _ => 0) G c) ?_ ?_ ?_ ?_
 ·exact ⟨rfl, ivs (by push_cast; omega), trivial⟩
 ·exact Pt.zI
 ·exact ⟨rfl, by dsimp only; omega, hw0, Wnt.start hrs hG8 (by omega), rfl⟩
 rintro ⟨t, M, cM, Wt⟩ V' ks' O' ⟨rfl, ht8, hWM, hWn, hst⟩ hk hO hl2
 dsimp only at ht8 hWM hWn hst hk hO
 subst hk hO
 refine At.nrm ?_
 refine At.zi (.q 0 (.q 1 .done)) ?_
 refine AtT.zf ?_
 refine AtT.kgeq ?_
 refine AtT.done ?_
 refine At.nrm ?_
 refine At.qb rfl (fun hp => ?_) (fun hp => ?_)
 ·obtain ⟨t, rfl⟩ : ∃ t', t = t' + 1 := ⟨t - 1, by omega⟩
  have ht1 : ((t + 1 : Nat) : Int) - 1 = (t : Int) := by omega
  have hbd := fun s => hWn.bd hrs hG8 hc4 s
  refine At.nrm ?_
  refine At.zi (.q 0 (.q 1 (.n true 2 .done))) ?_
  refine AtT.zf ?_
  refine AtT.zf ?_
  rw [ht1]
  refine AtT.jb rfl trivial rfl ok58 (by decide) (zP.perm zP.zI) (split_f rs hrs M cM Wt hWM t (by omega) 10460353203000 hbd (by decide) p m1 m2 _ _ _ hsto hrm1) ?_
  rintro _ _ _ ⟨rfl, rfl, M', c', rfl, hWM', _⟩
  refine AtT.done ?_
  refine At.nrm ?_
  rw [Int.toNat_natCast] at hWM'
  refine At.nrm ?_
  refine At.zi (.q 0 (.q 1 (.q 2 .done))) ?_
  refine AtT.zf ?_
  first | refine AtT.ji ?_ | refine AtT.jh ?_
  refine AtT.zg ?_
  refine AtT.done ?_
  refine At.nrm ?_
  refine At.round (t, M', c', jR rs t Wt) ?_ ?_ ?_ ?_
  ·show t < t + 1; omega
  ·exact ⟨rfl, by dsimp only; omega, hWM', hWn.split hrs (by omega), hst⟩
  ·exact ⟨rfl, ivs (by omega), trivial⟩
  ·exact Pt.zI
 obtain rfl : t = 0 := by omega
 have hWt : Wt = splitTo rs (G + 1) (upd (fun _ => 0) G c) := hst
 have hfin : stL Wt = stL fun y => c * jS rs G y := stL_ext fun s hs => by rw [hWt, split_raw hrs hG8 c hs]
 have hc3 := hsto.c3
 refine At.nrm ?_
 refine At.zi (.n false 0 (.q 1 .done)) ?_
 refine AtT.makeSl rfl trivial ei rfl Tryz.underlying28 rw2 rfl rfl (by decide) rfl rfl (by omega) (by omega) (by decide) (m := 8) (za := (0 : Int)) ?_
 intro b46
 refine AtT.zg ?_
 refine AtT.done ?_
 refine At.nrm ?_
 refine At.zi (.q 0 (.q 1 (.q 2 (.q 3 (.n false 4 .done))))) ?_
 refine AtT.zf ?_
 refine AtT.jM ?_
 first | refine AtT.zk qQ ?_ | with_reducible refine AtT.zl qQ ?_ | refine AtT.zn qQ ?_
 first | refine AtT.zm tk88 ?_ | refine AtT.zo tk88 ?_
 refine AtT.range rfl trivial Tryz.underlying88 rfl zP.zI (by decide) ?_
 intro b51
 refine AtT.done ?_
 refine At.nrm ?_
 refine At.lp (ι := Array Nat) (KS := fun seen => [(11, .slice (some ⟨b46, 0, none⟩) 8 8), (51, .pointer (some ⟨b51, 0, none⟩))])
  (OS := fun seen => [.blk b51 (.mapIter (some m2) cM seen cM), .blk m2 (qV ekT iv M cM), .blk b46 (LC (stC (seenF M Wt seen)) 2)])
  (VS := fun seen V'' => V'' = V') (μ := fun seen => (M.filter fun e => !seen.contains e.2.2).length) #[] ?_ ?_ ?_ ?_
 ·exact ⟨rfl, rfl, trivial⟩
 ·rw [seenF_nil]; exact Pt.zI
 ·exact rfl
 rintro seen V2 ks' O' rfl hk hO hl3
 subst hk hO
 refine At.nrm ?_
 refine At.zi (.n true 0 (.q 1 .done)) ?_
 all_goals (refine AtT.next rfl trivial rfl zP.zI zP.zI (fun e he => hWM.ok.lt e he) (Nat.le_refl _) (by decide) (fun hall => ?_) (fun e he hns => ?_))
 all_goals (refine AtT.zt ?_)
 all_goals refine AtT.done ?_
 all_goals (refine At.nrm ?_)
 rotate_left
 ·refine At.zU rfl rfl ?_
  have hun := unseen_lt he hns
  have hrg := hWM.rng e.1 ((mhas_iff _ M).2 ⟨e, he, rfl⟩)
  obtain ⟨T, hT⟩ : ∃ T : Nat, e.1 = (T : Int) := ⟨e.1.toNat, by omega⟩
  have hT8 : T < 8 := by omega
  have heW := mem_get hWM he hT
  have hset : (stC (seenF M Wt seen)).set (T * 1) (iv e.2.1) = stC (seenF M Wt (seen.push e.2.2)) := by rw [Nat.mul_one, stC_set _ _ hT8, heW, seenF_push hWM he hT]
  refine At.nrm ?_
  refine At.zi (.n false 0 (.q 1 (.q 2 (.n false 3 (.n true 4 (.q 5 .done)))))) ?_
  refine AtT.entry rfl trivial rfl zP.zI zP.zI he hWM.ok.borns (by decide) ?_
  refine AtT.zt ?_
  refine AtT.zt ?_
  refine AtT.zT z92 ?_
  intro b12
  refine AtT.zy tk92 ?_
  refine AtT.zg ?_
  refine AtT.done ?_
  refine At.nrm ?_
  refine At.nrm ?_
  refine At.zi (.q 0 (.q 1 (.q 2 (.q 3 (.q 4 (.n true 5 .done)))))) ?_
  refine AtT.zf ?_
  first | refine AtT.zk fo92_0 ?_ | with_reducible refine AtT.zl fo92_0 ?_ | refine AtT.zn fo92_0 ?_
  first | refine AtT.zm tk3 ?_ | refine AtT.zo tk3 ?_
  rw [hT]
  refine AtT.zf ?_
  refine AtT.idxZ rfl trivial Tryz.underlying28 tk2 rfl rfl hT8 (by decide) ?_
  refine AtT.jK rfl trivial rfl rfl tk2 rfl rfl (by repeat first|exact Upd.here|apply Upd.there) (qU (by simp; omega) hset) ?_
  refine AtT.done ?_
  refine At.nrm ?_
  refine At.nrm ?_
  refine At.round (seen.push e.2.2) ?_ ?_ ?_ ?_
  ·exact hun
  ·exact rfl
  ·exact ⟨rfl, rfl, trivial⟩
  ·exact Pt.zI
 refine At.zX rfl rfl ?_
 have hend : stC (seenF M Wt seen) = stC Wt := stC_ext fun s _ => seenF_all hWM hall s
 rw [hend]
 refine At.nrm ?_
 refine At.giveB (b := b46) zP.zI (fun V4 hV4 hb4 => ?_)
 refine At.zi (.q 0 (.q 1 (.q 2 .done))) ?_
 refine AtT.zf ?_
 refine AtT.zg ?_
 refine AtT.zg ?_
 refine AtT.done ?_
 refine At.nrm ?_
 exact At.qN rfl (.tmp rfl) (.tmp rfl) ⟨_, rfl, by rw [← hfin]; exact sl_stL hb4⟩
end Go.Proofs.YtpoignmclfdgpaaGreatDoor

set_option linter.unusedVariables false
namespace Go.Proofs.YtpoignmclfdgpaaGreatDoor
open Go.Lw Go.Gl Go.Bk Go.RowKit
def jm : List Int → List Pt
 | a :: b :: l => ⟨a, b⟩ :: jm l
 | _ => []
theorem pairsI_len : ∀ l : List Int, (jm l).length = l.length / 2
 | [] => by simp [jm]
 | [a] => by simp [jm]
 | a :: b :: l => by simp only [jm, List.length_cons, pairsI_len l]; omega
theorem pairsI_at : ∀ {l : List Int} {k : Nat} {a b : Int}, l[2 * k]? = some a → l[2 * k + 1]? = some b → (jm l)[k]? = some ⟨a, b⟩
 | [], k, a, b, h, _ => by simp at h
 | [x], k, a, b, h, h2 => by
  cases k with
  | zero => simp at h2
  | succ k => rw [show 2 * (k + 1) = 2 * k + 1 + 1 by omega] at h; simp at h
 | x :: y :: l, 0, a, b, h, h2 => by
  simp at h h2
  subst h h2; rfl
 | x :: y :: l, k + 1, a, b, h, h2 => by
  rw [show 2 * (k + 1) = 2 * k + 1 + 1 by omega, List.getElem?_cons_succ, List.getElem?_cons_succ] at h
  rw [show 2 * (k + 1) + 1 = 2 * k + 1 + 1 + 1 by omega, List.getElem?_cons_succ, List.getElem?_cons_succ] at h2
  exact pairsI_at (l := l) h h2
theorem recipe_f (g : Int) (l : List Int) (hln : l.length ≤ 1000) (V : View) (v : Value) (hs : SlI V v l) : Fnc Tryz.prog 86 [iv g, v] V fun r V' => ∃ (a : Option Addr) (c : Nat), r = .agg #[iv g, .slice a (jm l).length c] ∧ Sl V' pte 2 (.slice a (jm l).length c) (jm l) := by
 have hpl := pairsI_len l
 obtain ⟨al, cl, rfl, _, _, _, _⟩ := id hs
 refine ql Tryz.func86 rfl Tryz.ntmps86 (Nat.le_of_ble_eq_true rfl) ?_
 intro w0 hw0
 refine At.nrm ?_
 refine At.zi (.n false 0 .done) ?_
 refine AtT.zT z80 ?_
 intro b4
 refine AtT.done ?_
 refine At.nrm ?_
 refine At.zi (.q 0 (.q 1 (.n false 2 (.n true 3 .done)))) ?_
 refine AtT.zf ?_
 refine AtT.qy (bd80_0 _) ?_
 refine AtT.zT z80 ?_
 intro b5
 refine AtT.zy qO ?_
 refine AtT.done ?_
 refine At.nrm ?_
 refine At.newRow 69 2 ?_
 refine At.zi (.q 0 .done) ?_
 refine AtT.zg ?_
 refine AtT.done ?_
 refine At.nrm ?_
 refine At.lp (ι := Nat × Option Addr × Nat) (KS := fun g1 => [(1, .slice al l.length cl), (4, .pointer (some ⟨b4, 0, none⟩)), (5, .pointer (some ⟨b5, 0, none⟩)), (6, iv (2 * g1.1 : Nat))])
  (OS := fun g1 => [.blk b5 (LC [iv g, .slice g1.2.1 ((jm l).take g1.1).length g1.2.2] 80), .row (.slice g1.2.1 ((jm l).take g1.1).length g1.2.2) 69 2 ((jm l).take g1.1).length (flat pte ((jm l).take g1.1)), .blk b4 (LC [iv 0, .slice none 0 0] 80)])
  (VS := fun g1 V' => Le V V' ∧ g1.1 ≤ l.length / 2) (μ := fun g1 => l.length / 2 - g1.1) (0, none, 0) ?_ ?_ ?_ ?_
 ·exact ⟨rfl, rfl, rfl, rfl, trivial⟩
 ·exact Pt.zI
 ·exact ⟨Le.refl _, Nat.zero_le _⟩
 rintro ⟨k, ap, cp⟩ V3 ks' O' ⟨hVV, hkl⟩ hk hO hl
 dsimp only at hkl hk hO
 subst hk hO
 have hs3 := hs.le hVV
 refine At.nrm ?_
 refine At.zi (.q 0 (.q 1 (.q 2 (.q 3 (.q 4 .done))))) ?_
 refine AtT.zf ?_
 first | refine AtT.qG ?_ | refine AtT.qd ?_
 refine AtT.zf ?_
 first | refine AtT.zR Tryz.underlying37 ?_ | refine AtT.zQ Tryz.underlying37 ?_
 refine AtT.qp ?_
 refine AtT.done ?_
 refine At.nrm ?_
 refine At.qb rfl (fun hp => ?_) (fun hp => ?_)
 ·obtain ⟨x, hx⟩ : ∃ x, l[2 * k]? = some x := ⟨_, List.getElem?_eq_getElem (by omega)⟩
  obtain ⟨z, hz⟩ : ∃ z, l[2 * k + 1]? = some z := ⟨_, List.getElem?_eq_getElem (by omega)⟩
  have hpk := pairsI_at hx hz
  have htk : (jm l).take (k + 1) = (jm l).take k ++ [⟨x, z⟩] := by rw [List.take_add_one, hpk]; rfl
  have htl : ((jm l).take k).length = k := by rw [List.length_take]; omega
  have hz2 : l[(((2 * k : Nat) : Int) + 1).toNat]? = some z := by rw [show (((2 * k : Nat) : Int) + 1).toNat = 2 * k + 1 by omega]; exact hz
  refine At.nrm ?_
  refine At.draw (.q 0 (.q 1 (.q 2 (.q 3 (.q 4 (.q 5 (.q 6 (.q 7 (.q 8 (.q 9 (.q 10 (.q 11 (.n false 12 (.n true 13 (.q 14 (.n true 15 .done)))))))))))))))) ffm (by kernel_rfl) ?_
  first | refine AtT.zk zK ?_ | with_reducible refine AtT.zl zK ?_ | refine AtT.zn zK ?_
  first | refine AtT.zm qM ?_ | refine AtT.zo qM ?_
  refine AtT.zf ?_
  refine AtT.zf ?_
  refine AtT.qm Tryz.underlying37 tk3 ?_
  intro p20 e20 he20 hc20
  first | refine AtT.zm tk3 ?_ | refine AtT.zo tk3 ?_
  obtain rfl : x = e20 := by rw [Int.toNat_natCast, hx] at he20; exact Option.some.inj he20
  refine AtT.zf ?_
  refine AtT.zf ?_
  first | refine AtT.qG ?_ | refine AtT.qd ?_
  refine AtT.qm Tryz.underlying37 tk3 ?_
  intro p25 e25 he25 hc25
  first | refine AtT.zm tk3 ?_ | refine AtT.zo tk3 ?_
  obtain rfl : z = e25 := by rw [hz2] at he25; exact Option.some.inj he25
  refine AtT.qy (bd69_0_1 _ _) ?_
  refine AtT.zN (bs66_1_0 _ _) ?_
  intro q28 V28 hV28 hq28
  have g28 : Le V V28 := by first | exact hV28 | exact Le.trans (by assumption) hV28
  first | refine AtT.qX Tryz.underlying66 rw69 ?_
  intro a29 c29
  first | refine AtT.zk zK ?_ | with_reducible refine AtT.zl zK ?_ | refine AtT.zn zK ?_
  first | refine AtT.jc qM ?_ | refine AtT.zy qM ?_
  refine AtT.done ?_
  refine At.nrm ?_
  refine At.nrm ?_
  refine At.zi (.q 0 (.q 1 (.q 2 .done))) ?_
  refine AtT.zf ?_
  first | refine AtT.qG ?_ | refine AtT.qd ?_
  refine AtT.zg ?_
  refine AtT.done ?_
  refine At.nrm ?_
  refine At.round (k + 1, a29, c29) ?_ ?_ ?_ ?_
  ·show l.length / 2 - (k + 1) < l.length / 2 - k; omega
  ·exact ⟨hVV.trans hV28, by dsimp only; omega⟩
  ·exact ⟨rfl, rfl, rfl, ivs (by dsimp only; omega), trivial⟩
  ·dsimp only
   rw [htk, qY, show ((jm l).take k ++ [(⟨x, z⟩ : Pt)]).length = ((jm l).take k).length + 1 from by rw [List.length_append]; rfl]
   exact Pt.zI
 obtain rfl : k = l.length / 2 := by omega
 rw [show (jm l).take (l.length / 2) = jm l from by rw [← hpl, List.take_length]]
 refine At.jF (l := jm l) pte_len rfl rfl zP.zI (fun V4 hV4 hsP => ?_)
 refine At.nrm ?_
 refine At.zi (.q 0 (.n true 1 .done)) ?_
 first | refine AtT.zF qO ?_ | refine AtT.zJ qO ?_ | refine AtT.zD qO ?_
 refine AtT.zy qO ?_
 refine AtT.done ?_
 refine At.nrm ?_
 exact At.qh rfl (.agg rfl qO zP.zI rfl) ⟨ap, cp, rfl, hsP⟩
end Go.Proofs.YtpoignmclfdgpaaGreatDoor
set_option linter.unusedVariables false
namespace Go.Proofs.YtpoignmclfdgpaaGreatDoor
open Go.Lw Go.Gl Go.Bk Go.RowKit
def rs2 : List Rc := [⟨2, [⟨0, 2⟩, ⟨1, 1⟩]⟩, ⟨3, [⟨2, 2⟩]⟩]
def es6 : List En := [⟨1, 1, 0, 9⟩, ⟨1, 1, 1, 5⟩, ⟨2, 3, 2, 3⟩, ⟨3, 2, 2, 1⟩, ⟨4, 4, 3, 0⟩, ⟨5, 3, 3, 1⟩]
def bo6 : Bo := ⟨rs2, es6⟩
theorem two_f (V : View) : Fnc Tryz.prog 51 [] V fun r V' => RsV V' r rs2 := by
 refine ql Tryz.func51 rfl Tryz.ntmps51 (Nat.le_of_ble_eq_true rfl) ?_
 intro w0 hw0
 refine At.nrm ?_
 refine At.zi (.q 0 .done) ?_
 refine AtT.zg ?_
 refine AtT.done ?_
 refine At.nrm ?_
 refine At.zi (.n false 0 (.n false 1 (.n false 2 (.n false 3 (.n false 4 (.q 5 .done)))))) ?_
 refine AtT.zN (bs37_4_0_1_2_3 _ _ _ _) ?_
 intro q1 V1 hV1 hq1
 have g1 : Le V V1 := by first | exact hV1 | exact Le.trans (by assumption) hV1
 refine AtT.qg rfl rfl ok86 (recipe_f 2 [0, 2, 1, 1] (by decide) _ _ (Sl.lit (l := [0, 2, 1, 1]) hq1 rfl (by decide))) ?_
 rintro v2 V2 hV2 ⟨a2, c2, rfl, hs2⟩
 have k2 := g1.trans hV2
 refine AtT.zN (bs37_2_0_1 _ _) ?_
 intro q3 V3 hV3 hq3
 have g3 : Le V V3 := by first | exact hV3 | exact Le.trans (by assumption) hV3
 refine AtT.qg rfl rfl ok86 (recipe_f 3 [2, 2] (by decide) _ _ (Sl.lit (l := [2, 2]) hq3 rfl (by decide))) ?_
 rintro v4 V4 hV4 ⟨a4, c4, rfl, hs4⟩
 have k4 := g3.trans hV4
 refine AtT.zN (bs22_2_0_1 _ _ _ _ _ _ _ _) ?_
 intro q5 V5 hV5 hq5
 have g5 : Le V V5 := by first | exact hV5 | exact Le.trans (by assumption) hV5
 refine AtT.zg ?_
 refine AtT.done ?_
 refine At.nrm ?_
 refine At.qh rfl (.tmp rfl) ⟨[((⟨2, [⟨0, 2⟩, ⟨1, 1⟩]⟩ : Rc), a2, c2), ((⟨3, [⟨2, 2⟩]⟩ : Rc), a4, c4)], _, _, rfl, rfl, Sl.of_cells rce_len hq5 (Nat.le_refl _) (by unfold maxLen; decide), fun x hx => ?_⟩
 rcases List.mem_cons.1 hx with rfl | hx
 ·exact ((hs2.le hV3).le hV4).le hV5
 ·obtain rfl := List.mem_singleton.1 hx
  exact hs4.le hV5
theorem six_f (V : View) : Fnc Tryz.prog 53 [] V fun r V' => BoV V' r bo6 := by
 refine ql Tryz.func53 rfl Tryz.ntmps53 (Nat.le_of_ble_eq_true rfl) ?_
 intro w0 hw0
 refine At.nrm ?_
 refine At.zi (.n false 0 .done) ?_
 refine AtT.zT z26 ?_
 intro b0
 refine AtT.done ?_
 refine At.nrm ?_
 refine At.zi (.n false 0 (.n false 1 (.n false 2 (.n false 3 (.n false 4 (.n false 5 (.n false 6 (.n false 7 (.q 8 (.n true 9 .done)))))))))) ?_
 refine AtT.qg rfl rfl ok51 (two_f V) ?_
 rintro v1 V1 hV1 ⟨qs, aq, cq, hqr, rfl, hsq, hq⟩
 refine AtT.zG rfl rfl ok44 (jo 1 1 0 9 _) ?_
 rintro _ rfl
 refine AtT.zG rfl rfl ok44 (jo 1 1 1 5 _) ?_
 rintro _ rfl
 refine AtT.zG rfl rfl ok44 (jo 2 3 2 3 _) ?_
 rintro _ rfl
 refine AtT.zG rfl rfl ok44 (jo 3 2 2 1 _) ?_
 rintro _ rfl
 refine AtT.zG rfl rfl ok44 (jo 4 4 3 0 _) ?_
 rintro _ rfl
 refine AtT.zG rfl rfl ok44 (jo 5 3 3 1 _) ?_
 rintro _ rfl
 refine AtT.zN (bs24_6_0_1_2_3_4_5 _ _ _ _ _ _ _ _ _ _ _ _ _ _ _ _ _ _ _ _ _ _ _ _) ?_
 intro q8 V8 hV8 hq8
 have g8 : Le V V8 := by first | exact hV8 | exact Le.trans (by assumption) hV8
 refine AtT.qy (bd26_0_1 _ _ _ _ _ _) ?_
 refine AtT.zy zH ?_
 refine AtT.done ?_
 refine At.nrm ?_
 refine At.qh rfl (.agg rfl zH zP.zI rfl) ⟨_, _, _, rfl, ⟨qs, aq, cq, hqr, rfl, hsq.le hV8, hq.le hV8⟩, Sl.of_cells (l := es6) ene_len hq8 (Nat.le_refl _) (by unfold maxLen; decide)⟩
end Go.Proofs.YtpoignmclfdgpaaGreatDoor


set_option linter.unusedVariables false
namespace Go.Lw
open Go.Instr Go.RowKit
theorem zeroCells_one (z : Value) (k : Nat) : (Builtin.zeroCells #[z] k).toList = List.replicate k z := by
 apply List.ext_getElem
 ·simp [Builtin.zeroCells]
 ·intro i h1 h2
  simp [Builtin.zeroCells, Nat.mod_one]
section
variable {cx : Cx} {n : Nat} {ks : List (Nat × Value)} {O : List Own} {V : View} {P : Program} {ops : Array Oper} {Qn : Act → World → Prop} {t : Tr} {i d : Nat} {x y : Operand} {T : TypeId} {pos : String} {after : Array Edge} {gd : Option (Nat × Bool)} {X Y : TypeId} {wr : Bool}
theorem AtT.appZ {E : TypeId} {kn : IntKind} {z : Value} {by_ m k : Nat} {q : Addr} {xs : List Value} (ho : ops[i]? = some ⟨some d, .call ⟨.builtin .append, #[x, y], #[X, Y]⟩, T, pos, after, gd⟩) (hg : Gd ks ops gd) (hX : P.underlying X = some (.slice E)) (hY : P.underlying Y = some (.int kn)) (hE : rowB P E = some (z, 1, by_)) (hzc : z.cells = #[z])
  (hx : ev ks x = some (.slice (some q) m m)) (hy : ev ks y = some (.int .i64 (k : Int))) (h0 : 0 < k) (hc : Cells V q xs) (hl : xs.length = m) (hb : m + k ≤ maxLen) (hby : (m + k) * by_ ≤ 140737488355328) (hn : d < n)
  (next : ∀ b cap V', Le V V' → Cells V' ⟨b, 0, none⟩ (xs ++ List.replicate k z) → m + k ≤ cap → cap ≤ maxLen → AtT cx n ((d, .slice (some ⟨b, 0, none⟩) (m + k) cap) :: ks) O V' P ops Qn t) : AtT cx n ks O V P ops Qn (.n wr i t) :=
 .x ho hg fun a w hk hm => by
  obtain ⟨ti, hi, hz, hsz, hbz⟩ := rowB_info hE
  have hd : Mem cx O V w.drew := hm.ext (Below.refl _ w).drew
  have hold := run_firstCells_some (P := P) w.drew ti.size m q m m xs (by rw [hsz, hl, Nat.mul_one]) (hc.run hd.view)
  have hfit := growslice_fits (need := m + k) (old := m) (bytes := ti.bytes) (by omega) (by rw [hbz]; exact hby)
  have hkb : k * ti.bytes ≤ (m + k) * by_ := by rw [hbz]; exact Nat.mul_le_mul_right _ (by omega)
  have hr := Lib.run_append_grow_zeros (P := P) w X Y T E ti z .i64 kn hX hY hi hz (some q) m m xs hold k h0 (by rw [hsz]; decide) (by omega) (by simp only [maxLen] at hb; omega) (by omega) hfit
  simp only [opW, execOp, resolve, invoke, builtin, Sem.run_bind, Sem.run_pure, Result.andThen_ok, List.map_toArray, List.map_cons, List.map_nil, hk.ev hx, hk.ev hy, hr]
  obtain ⟨V', h1, h2, h3⟩ := hd.allocV (.cells (xs.toArray ++ Builtin.zeroCells z.cells k ++ Builtin.zeroCells z.cells (grownCap w (m + k) m E - (m + k))) E)
  refine ⟨_, O, V', hk.put hn _, h3, fun _ u hu => hu.less hm.le0 h1, next w.heap.size (grownCap w (m + k) m E) V' h1 (fun j u hj => ?_) (grownCap_ge w _ _ _) (grownCap_le_maxLen w _ _ _ hb)⟩
  have e : w.drew.heap.size = w.heap.size := rfl
  rw [Addr.add_lit]
  rw [e] at h2
  simp only [jO, h2, hzc, Nat.zero_add]
  have hj' := (List.getElem?_eq_some_iff.1 hj).1
  rw [← Array.getElem?_toList, Array.toList_append, Array.toList_append, zeroCells_one]
  rw [List.getElem?_append_left (by simpa using hj')]
  exact hj
end
end Go.Lw
set_option linter.unusedVariables false
namespace Go.Proofs.YtpoignmclfdgpaaGreatDoor
open Go.Lw Go.Gl Go.Bk Go.RowKit
theorem flat_z (l : List Int) (k : Nat) : flat ei l ++ List.replicate k (iv 0) = flat ei (l ++ List.replicate k 0) := by
 rw [flat_ei, flat_ei, List.map_append, List.map_replicate]
theorem longsZ_f (l : List Int) (h8 : l.length < 8) (q : Addr) (V : View) (hc : Cells V q (flat ei l)) : Fnc Tryz.prog 52 [.slice (some q) l.length l.length] V fun r V' => SlI V' r (l ++ List.replicate (8 - l.length) 0) := by
 have hm : (8 : Nat) ≤ maxLen := by unfold maxLen; decide
 have hfl : (flat ei l).length = l.length := by rw [jH Lw.jU]; omega
 refine ql Tryz.func52 rfl Tryz.ntmps52 (Nat.le_of_ble_eq_true rfl) ?_
 intro w0 hw0
 refine At.nrm ?_
 refine At.zi (.q 0 .done) ?_
 refine AtT.zg ?_
 refine AtT.done ?_
 refine At.nrm ?_
 refine At.zi (.q 0 (.q 1 (.q 2 (.q 3 (.q 4 (.n true 5 (.q 6 .done))))))) ?_
 refine AtT.zf ?_
 refine AtT.zf ?_
 refine AtT.zQ Tryz.underlying28 ?_
 first | refine AtT.ji ?_ | refine AtT.jh ?_
 refine AtT.kmax2 ?_
 rw [show max (0 : Int) (8 - (l.length : Int)) = ((8 - l.length : Nat) : Int) by omega]
 refine AtT.appZ rfl trivial Tryz.underlying28 Tryz.underlying3 rw2 rfl rfl rfl (by omega) hc hfl (by omega) (by omega) (by decide) ?_
 intro b8 c8 V8 hV8 hc8 hm8 hx8
 refine AtT.zg ?_
 refine AtT.done ?_
 refine At.nrm ?_
 rw [flat_z] at hc8
 have hl8 : (l ++ List.replicate (8 - l.length) (0 : Int)).length = l.length + (8 - l.length) := by rw [List.length_append, List.length_replicate]
 have hs := Sl.of_cells (s := 1) Lw.jU hc8 (by rw [hl8]; exact hm8) hx8
 rw [hl8] at hs
 exact At.qh rfl (.tmp rfl) hs
end Go.Proofs.YtpoignmclfdgpaaGreatDoor
set_option linter.unusedVariables false
namespace Go.Proofs.YtpoignmclfdgpaaGreatDoor
open Go.Lw Go.Gl Go.Bk Go.RowKit
theorem cut_hyp {rs : List Rc} {l : Nat → Int} {t : Nat} {W : Nat → Int} : canW rs l (t + 1) W = if W t - l t ≤ 0 then canW rs l t W else if partsOf rs t = [] then false else canW rs l t (qK (W t - l t) (partsOf rs t) W) := rfl
theorem canW_upd {rs : List Rc} {l W : Nat → Int} {t : Nat} {v : Int} : canW rs l t (upd W t v) = canW rs l t W := canW_congr fun s hs => by rw [jB, if_neg (by omega)]
theorem canW_split {rs : List Rc} (h : qL (-1) rs) {l W : Nat → Int} {t : Nat} {v : Int} (hp : partsOf rs t ≠ []) : canW rs l t (jR rs t (upd W t v)) = canW rs l t (qK v (partsOf rs t) W) := by
 refine canW_congr fun s hs => ?_
 unfold jR
 rw [if_neg hp, show upd W t v t = v by rw [jB, if_pos rfl]]
 refine want_congr (n := t) (fun s hs => ?_) s hs
 rw [jB, jB, if_neg (by omega), if_neg (by omega)]
theorem can_f {cx : Cx} {O : List Own} (rs : List Rc) (hrs : qL (-1) rs) (l : Nat → Int) (hl : ∀ s, s < 8 → 0 ≤ l s ∧ l s ≤ 24000) (G : Nat) (hG8 : G < 8) (c : Int) (hc : 0 ≤ c ∧ c ≤ 65535) (M0 : MM Int Int) (c0 : Nat) (p m1 m2 : Nat) (u1 u2 : Value) (V : View) (hsto : StoV V p u1 u2 m1 m2) (hrm : RMap V m1 rs) :
  FncM Tryz.prog cx 70 [.pointer (some ⟨p, 0, none⟩), .agg (stC l).toArray, iv G, iv c] (.blk m2 (qV ekT iv M0 c0) :: O) V fun r O' V' => r = .bool (canS rs l G c) ∧ V' = V ∧ ∃ M' c', O' = .blk m2 (qV ekT iv M' c') :: O := by
 have hc3 := hsto.c3
 have hw0 := (WMap.nil c0).put (g := (G : Int)) (by omega) (0 + c)
 rw [Int.toNat_natCast, Int.zero_add] at hw0
 have hc4 : 0 ≤ c ∧ c * 10460353203 ≤ 700000000000000 := by omega
 have hset0 : (stC l).set (0 + ((G : Nat) : Int).toNat * 1) (iv 0) = stC (upd l G 0) := by rw [Int.toNat_natCast, Nat.mul_one, Nat.zero_add, stC_set _ _ hG8]
 have hlu : ∀ s, s < 8 → 0 ≤ upd l G 0 s ∧ upd l G 0 s ≤ 24000 := fun s hs => by rw [jB]; split; exact ⟨by omega, by omega⟩; exact hl s hs
 refine fncM_of Tryz.func70 rfl Tryz.ntmps70 (Nat.le_of_ble_eq_true rfl) ?_
 refine At.nrm ?_
 refine At.zi (.n false 0 (.q 1 .done)) ?_
 refine AtT.jE ?_
 intro b5
 refine AtT.zg ?_
 refine AtT.done ?_
 refine At.nrm ?_
 refine At.nrm ?_
 refine At.zi (.q 0 (.q 1 (.q 2 (.q 3 (.n true 4 .done))))) ?_
 refine AtT.zf ?_
 refine AtT.jM ?_
 first | refine AtT.zk qQ ?_ | with_reducible refine AtT.zl qQ ?_ | refine AtT.zn qQ ?_
 first | refine AtT.zm tk88 ?_ | refine AtT.zo tk88 ?_
 refine AtT.clearMap rfl trivial ekT iv rfl Tryz.underlying88 rfl (by repeat first|exact Upd.here|apply Upd.there) ?_
 refine AtT.done ?_
 refine At.nrm ?_
 refine At.nrm ?_
 refine At.zi (.q 0 (.q 1 (.q 2 (.n true 3 .done)))) ?_
 refine AtT.zf ?_
 refine AtT.zf ?_
 refine AtT.zf ?_
 refine AtT.jb rfl trivial rfl ok57 (by decide) (zP.perm zP.zI) (want_f [] c0 _ (WMap.nil c0) G c (by omega) (Fit.of (by omega) (by omega)) p m2 m1 _ _ _ hsto) ?_
 rintro _ _ V2 ⟨rfl, rfl, rfl⟩
 refine AtT.done ?_
 refine At.nrm ?_
 rw [Int.zero_add]
 refine At.nrm ?_
 refine At.zi (.q 0 (.q 1 (.n true 2 .done))) ?_
 refine AtT.zf ?_
 refine AtT.kidxA Tryz.underlying105 tk2 ?_
 refine AtT.jK rfl trivial rfl rfl tk2 rfl rfl (by repeat first|exact Upd.here|apply Upd.there) (qU (by simp; omega) hset0) ?_
 refine AtT.done ?_
 refine At.nrm ?_
 refine At.zi (.q 0 (.q 1 .done)) ?_
 refine AtT.zf ?_
 refine AtT.zg ?_
 refine AtT.done ?_
 refine At.nrm ?_
 refine At.lp (ι := Nat × MM Int Int × Nat × (Nat → Int)) (KS := fun q => [(0, .pointer (some ⟨p, 0, none⟩)), (5, .pointer (some ⟨b5, 0, none⟩)), (9, iv ((q.1 : Int) - 1))]) (OS := fun q => .blk b5 (LC (stC (upd l G 0)) 105) :: .blk m2 (qV ekT iv q.2.1 q.2.2.1) :: O)
  (VS := fun q V' => V' = V2 ∧ q.1 ≤ 8 ∧ WMap q.2.1 q.2.2.1 q.2.2.2 ∧ Wnt rs q.2.2.2 G c ∧ (canS rs l G c = true ↔ (canW rs (upd l G 0) q.1 q.2.2.2 = true ∧ ∀ s : Int, (q.1 : Int) ≤ s → jL s q.2.1 ≠ true))) (μ := fun q => q.1) (G + 1, (mput (G : Int) c [] c0).1, (mput (G : Int) c [] c0).2, upd (fun _ => 0) G c) ?_ ?_ ?_ ?_
 ·exact ⟨rfl, rfl, ivs (by push_cast; omega), trivial⟩
 ·exact Pt.zV
 ·refine ⟨rfl, by dsimp only; omega, hw0, Wnt.start hrs hG8 (by omega), ⟨fun h => ⟨h, fun s hs hm => ?_⟩, fun h => h.1⟩⟩
  dsimp only at hs
  rcases (mput_has _ _ _ _ _).1 hm with h1 | h1
  ·push_cast at hs; omega
  ·simp [jL] at h1
 rintro ⟨t, M, cM, Wt⟩ V' ks' O' ⟨rfl, ht8, hWM, hWn, hrel⟩ hk hO hl2
 dsimp only at ht8 hWM hWn hrel hk hO
 subst hk hO
 refine At.nrm ?_
 refine At.zi (.q 0 (.q 1 .done)) ?_
 refine AtT.zf ?_
 refine AtT.kgeq ?_
 refine AtT.done ?_
 refine At.nrm ?_
 refine At.qb rfl (fun hp => ?_) (fun hp => ?_)
 rotate_left
 ·obtain rfl : t = 0 := by omega
  have hfin : decide ((M.length : Int) = 0) = canS rs l G c := by
   rw [Bool.eq_iff_iff, decide_eq_true_eq, hrel]
   constructor
   ·intro h
    have : M = [] := List.length_eq_zero_iff.1 (by omega)
    subst this
    exact ⟨rfl, fun s _ h => by simp [jL] at h⟩
   ·rintro ⟨_, h⟩
    cases M with
    | nil => rfl
    | cons e M =>
     have hm : jL e.1 (e :: M) = true := by simp [jL]
     exact absurd hm (h e.1 (hWM.rng e.1 hm).1)
  refine At.nrm ?_
  refine At.zi (.q 0 (.q 1 (.q 2 (.q 3 (.q 4 (.q 5 (.q 6 .done))))))) ?_
  refine AtT.zf ?_
  refine AtT.jM ?_
  first | refine AtT.zk qQ ?_ | with_reducible refine AtT.zl qQ ?_ | refine AtT.zn qQ ?_
  first | refine AtT.zm tk88 ?_ | refine AtT.zo tk88 ?_
  refine AtT.lenMap rfl trivial Tryz.underlying88 rfl zP.zI (by decide) ?_
  refine AtT.qF ?_
  refine AtT.zg ?_
  refine AtT.done ?_
  refine At.nrm ?_
  refine At.pt (O' := .blk m2 (qV ekT iv M cM) :: O) Pt.zV ?_
  exact At.kr rfl (.tmp rfl) ⟨by rw [← hfin], rfl, M, cM, rfl⟩
 obtain ⟨t, rfl⟩ : ∃ t', t = t' + 1 := ⟨t - 1, by omega⟩
 have ht1 : ((t + 1 : Nat) : Int) - 1 = (t : Int) := by omega
 have hbd := fun s => hWn.bd hrs hG8 hc4 s
 have hat : qW (t : Int) 0 M = Wt t := hWM.get t
 have hn1 := stC_off (upd l G 0) (j := t) (by omega)
 have hlt := hlu t (by omega)
 have hbt := hbd t
 rw [cut_hyp] at hrel
 refine At.nrm ?_
 refine At.zi (.q 0 (.q 1 (.n false 2 (.n true 3 .done)))) ?_
 refine AtT.zf ?_
 rw [ht1]
 refine AtT.qy (bd92_0 _) ?_
 refine AtT.zT z92 ?_
 intro b10
 refine AtT.zy tk92 ?_
 refine AtT.done ?_
 refine At.nrm ?_
 refine At.nrm ?_
 refine At.draw (.q 0 (.q 1 (.q 2 (.q 3 (.q 4 (.q 5 (.q 6 (.q 7 (.q 8 (.q 9 (.q 10 .done))))))))))) ffm (by kernel_rfl) ?_
 refine AtT.zf ?_
 refine AtT.jM ?_
 first | refine AtT.zk qQ ?_ | with_reducible refine AtT.zl qQ ?_ | refine AtT.zn qQ ?_
 first | refine AtT.zm tk88 ?_ | refine AtT.zo tk88 ?_
 first | refine AtT.zF tk92 ?_ | refine AtT.zJ tk92 ?_ | refine AtT.zD tk92 ?_
 refine AtT.lookupO rfl trivial key92 (t : Int) (0 : Int) Tryz.underlying88 z2 rfl rfl rfl zP.zI (by decide) ?_
 rw [hat]
 refine AtT.zf ?_
 first | rw [ht1] | skip
 refine AtT.kidxA Tryz.underlying105 tk2 ?_
 refine AtT.jQ rfl trivial rfl tk2 zP.zI hn1 (by decide) ?_
 refine AtT.subt rfl trivial rfl rfl (by decide) (Fit.of (by omega) (by omega)) ?_
 refine AtT.zg ?_
 refine AtT.done ?_
 refine At.nrm ?_
 refine At.nrm ?_
 refine At.zi (.q 0 (.q 1 .done)) ?_
 refine AtT.zf ?_
 refine AtT.kleq ?_
 refine AtT.done ?_
 refine At.nrm ?_
 refine At.qb rfl (fun hs => ?_) (fun hs => ?_)
 ·rw [if_pos hs] at hrel
  refine At.nrm ?_
  refine At.draw (.q 0 (.q 1 (.q 2 (.q 3 (.q 4 (.n true 5 .done)))))) ffm (by kernel_rfl) ?_
  refine AtT.zf ?_
  refine AtT.jM ?_
  first | refine AtT.zk qQ ?_ | with_reducible refine AtT.zl qQ ?_ | refine AtT.zn qQ ?_
  first | refine AtT.zm tk88 ?_ | refine AtT.zo tk88 ?_
  first | refine AtT.zF tk92 ?_ | refine AtT.zJ tk92 ?_ | refine AtT.zD tk92 ?_
  refine AtT.mapDel rfl trivial key92 (t : Int) iv rfl Tryz.underlying88 rfl rfl (by repeat first|exact Upd.here|apply Upd.there) ?_
  refine AtT.done ?_
  refine At.nrm ?_
  refine At.nrm ?_
  refine At.zi (.q 0 (.q 1 (.q 2 .done))) ?_
  refine AtT.zf ?_
  first | refine AtT.ji ?_ | refine AtT.jh ?_
  refine AtT.zg ?_
  refine AtT.done ?_
  refine At.nrm ?_
  have hWd := hWM.del (g := (t : Int)) (by omega)
  rw [Int.toNat_natCast] at hWd
  refine At.round (t, mdel (t : Int) M, cM, upd Wt t 0) ?_ ?_ ?_ ?_
  ·show t < t + 1; omega
  ·refine ⟨rfl, by dsimp only; omega, hWd, hWn.less hrs (fun s => ?_) (fun s => ?_), hrel.trans ?_⟩
   ·dsimp only; rw [jB]; split; exact Int.le_refl _; exact (hbd s).1
   ·dsimp only; rw [jB]; split
    ·exact (hbd s).1
    ·exact Int.le_refl _
   ·dsimp only
    rw [canW_upd]
    refine and_congr_right fun _ => ⟨fun h s h1 h2 => ?_, fun h s h1 h2 => ?_⟩
    ·have := (mdel_has hWM.ok.keys).1 h2
     exact h s (by push_cast; omega) this.2
    ·refine h s (by push_cast at h1; omega) ((mdel_has hWM.ok.keys).2 ⟨?_, h2⟩)
     push_cast at h1; omega
  ·exact ⟨rfl, rfl, ivs (by omega), trivial⟩
  ·exact Pt.zV
 rw [if_neg hs] at hrel
 have hWp := hWM.put (g := (t : Int)) (by omega) (Wt t - upd l G 0 t)
 rw [Int.toNat_natCast] at hWp
 have hWl : Wnt rs (upd Wt t (Wt t - upd l G 0 t)) G c := hWn.less hrs (fun s => by rw [jB]; split; omega; exact (hbd s).1) (fun s => by
  rw [jB]; split
  ·rename_i e; subst e; omega
  ·exact Int.le_refl _)
 have hbd2 := fun s => hWl.bd hrs hG8 hc4 s
 refine At.nrm ?_
 refine At.draw (.q 0 (.q 1 (.q 2 (.q 3 (.q 4 (.q 5 (.n true 6 .done))))))) ffm (by kernel_rfl) ?_
 refine AtT.zf ?_
 refine AtT.jM ?_
 first | refine AtT.zk qQ ?_ | with_reducible refine AtT.zl qQ ?_ | refine AtT.zn qQ ?_
 first | refine AtT.zm tk88 ?_ | refine AtT.zo tk88 ?_
 first | refine AtT.zF tk92 ?_ | refine AtT.zJ tk92 ?_ | refine AtT.zD tk92 ?_
 refine AtT.zf ?_
 refine AtT.mapSet rfl trivial key92 (t : Int) (Wt t - upd l G 0 t) Tryz.underlying88 rfl rfl rfl (by repeat first|exact Upd.here|apply Upd.there) ?_
 refine AtT.done ?_
 refine At.nrm ?_
 refine At.nrm ?_
 refine At.zi (.q 0 (.q 1 (.n true 2 .done))) ?_
 refine AtT.zf ?_
 refine AtT.zf ?_
 first | rw [ht1] | skip
 refine AtT.jb rfl trivial rfl ok58 (by decide) (zP.perm zP.zI) (split_f rs hrs _ _ _ hWp t (by omega) 700000000000000 hbd2 (by decide) p m1 m2 _ _ _ hsto hrm) ?_
 rintro _ _ V3 ⟨rfl, rfl, M', c', rfl, hWM', hkey⟩
 refine AtT.done ?_
 refine At.nrm ?_
 rw [Int.toNat_natCast] at hWM'
 refine At.nrm ?_
 refine At.zi (.q 0 (.q 1 (.q 2 .done))) ?_
 refine AtT.zf ?_
 first | refine AtT.ji ?_ | refine AtT.jh ?_
 refine AtT.zg ?_
 refine AtT.done ?_
 refine At.nrm ?_
 refine At.round (t, M', c', jR rs t (upd Wt t (Wt t - upd l G 0 t))) ?_ ?_ ?_ ?_
 ·show t < t + 1; omega
 ·refine ⟨rfl, by dsimp only; omega, hWM', hWl.split hrs (by omega), hrel.trans ?_⟩
  dsimp only
  by_cases hp0 : partsOf rs (t : Int) = []
  ·rw [if_pos hp0]
   constructor
   ·rintro ⟨h, _⟩; cases h
   ·rintro ⟨_, h⟩
    exact absurd ((hkey (t : Int) (Int.le_refl _)).2 ⟨(mput_has _ _ _ _ _).2 (.inl rfl), fun _ => hp0⟩) (h (t : Int) (Int.le_refl _))
  ·rw [if_neg hp0, canW_split hrs hp0]
   refine and_congr_right fun _ => ⟨fun h s h1 h2 => ?_, fun h s h1 h2 => ?_⟩
   ·obtain ⟨h3, h4⟩ := (hkey s h1).1 h2
    have hne : s ≠ (t : Int) := fun e => hp0 (h4 e)
    rcases (mput_has _ _ _ _ _).1 h3 with h5 | h5
    ·exact hne h5
    ·exact h s (by push_cast; omega) h5
   ·push_cast at h1
    exact h s (by omega) ((hkey s (by omega)).2 ⟨(mput_has _ _ _ _ _).2 (.inr h2), fun e => by omega⟩)
 ·exact ⟨rfl, rfl, ivs (by omega), trivial⟩
 ·exact Pt.zV
end Go.Proofs.YtpoignmclfdgpaaGreatDoor

set_option linter.unusedVariables false
namespace Go.Proofs.YtpoignmclfdgpaaGreatDoor
open Go.Lw Go.Gl Go.Bk Go.RowKit
def cutS (st : Nat → Int) : Nat → Int := fun s => if s < 8 then st s else 0
theorem cutS_C (st : Nat → Int) : stC (cutS st) = stC st := stC_ext fun s hs => by unfold cutS; rw [if_pos hs]
theorem cutS_sum (st : Nat → Int) : jJ (cutS st) 8 = jJ st 8 := by simp [jJ, cutS]
structure StkOk (l : Nat → Int) : Prop where
 bd : ∀ s, 0 ≤ l s ∧ l s ≤ 24000
 sum : jJ l 8 ≤ 24000
theorem stkOk_of {b : Bo} (hb : BoG b) {first : Nat} (hf : first ≤ b.es.length) {day : Int} {st : Nat → Int} (h : runS b.rs b.es first day = some st) : StkOk (cutS st) := by
 refine ⟨fun s => ?_, by rw [cutS_sum]; exact runS_sum hb hf h⟩
 unfold cutS
 split
 ·rename_i hs; exact runS_nn hb hf h s hs
 ·omega
def mostE (b : Bo) (g : Int) : Int := if bkE b ≠ 0 then bkE b else if ¬ (0 ≤ g ∧ g ≤ 7) then 2 else if partsOf b.rs g = [] then 16 else 0
def mostV (b : Bo) (g : Int) : Int := if mostE b g ≠ 0 then 0 else (mostS b.rs (cutS (stkF b b.es.length 999)) g.toNat : Int)
def sp : Nat → Nat
 | 0 => 0
 | i + 1 => 2 ^ i
theorem sp_half (i : Nat) : (((2 ^ i : Nat) : Int)).tdiv 2 = ((sp i : Nat) : Int) := by
 show (((2 ^ i / 2 : Nat)) : Int) = _
 cases i with
 | zero => rfl
 | succ i => simp only [sp]; rw [Nat.pow_succ, Nat.mul_div_cancel _ (by decide)]
theorem pmost_f (b : Bo) (g : Int) (V : View) (v : Value) (hv : BoV V v b) : Fnc Tryz.prog 33 [v, iv g] V fun r _ => r = .tuple #[iv (mostV b g), iv (mostE b g)] := by
 obtain ⟨v1, a, c, rfl, hr, hes⟩ := id hv
 have hlen := hes.jA
 by_cases h0 : bkE b = 0
 rotate_left
 ·have hE : mostE b g = bkE b := by unfold mostE; rw [if_pos h0]
  have hL : mostV b g = 0 := by unfold mostV; rw [if_pos (by rw [hE]; exact h0)]
  rw [hE, hL]
  refine ql Tryz.func33 rfl Tryz.ntmps33 (Nat.le_of_ble_eq_true rfl) ?_
  intro w0 hw0
  refine At.nrm ?_
  refine At.zi (.n false 0 (.q 1 (.q 2 .done))) ?_
  refine AtT.jE ?_
  intro b2
  refine AtT.zg ?_
  refine AtT.zg ?_
  refine AtT.done ?_
  refine At.nrm ?_
  refine At.zi (.q 0 (.n true 1 (.q 2 (.q 3 (.q 4 (.q 5 (.q 6 .done))))))) ?_
  first | refine AtT.zF zH ?_ | refine AtT.zJ zH ?_ | refine AtT.zD zH ?_
  refine AtT.jb rfl trivial rfl ok62 (by decide) (List.Perm.refl _) (open_bad b h0 _ _ hv) ?_
  rintro _ _ V14 ⟨hV14, rfl, rfl⟩
  refine AtT.zf ?_
  refine AtT.zt ?_
  refine AtT.zt ?_
  refine AtT.zg ?_
  refine AtT.zg ?_
  refine AtT.done ?_
  refine At.nrm ?_
  refine At.nrm ?_
  refine At.zi (.q 0 (.q 1 (.q 2 .done))) ?_
  refine AtT.zf ?_
  refine AtT.qE ?_
  refine AtT.zg ?_
  refine AtT.done ?_
  refine At.nrm ?_
  refine At.zU rfl (decide_eq_true h0) ?_
  refine At.nrm ?_
  refine At.zi (.q 0 (.q 1 (.q 2 .done))) ?_
  refine AtT.zf ?_
  refine AtT.zg ?_
  refine AtT.zg ?_
  refine AtT.done ?_
  refine At.nrm ?_
  exact At.qN rfl (.tmp rfl) (.tmp rfl) rfl
 have hR := kF.1 h0
 have hrs := hR.bog.rs
 have h0' : ¬ bkE b ≠ 0 := fun h => h h0
 refine ql Tryz.func33 rfl Tryz.ntmps33 (Nat.le_of_ble_eq_true rfl) ?_
 intro w0 hw0
 refine At.nrm ?_
 refine At.zi (.n false 0 (.q 1 (.q 2 .done))) ?_
 refine AtT.jE ?_
 intro b2
 refine AtT.zg ?_
 refine AtT.zg ?_
 refine AtT.done ?_
 refine At.nrm ?_
 refine At.zi (.q 0 (.n true 1 (.q 2 (.q 3 (.q 4 (.q 5 (.q 6 .done))))))) ?_
 first | refine AtT.zF zH ?_ | refine AtT.zJ zH ?_ | refine AtT.zD zH ?_
 refine AtT.jb rfl trivial rfl ok62 (by decide) (List.Perm.refl _) (open_ok b h0 _ _ hv) ?_
 rintro _ _ V14 ⟨hV14, p, m1, m2, rfl, rfl, hop⟩
 refine AtT.zf ?_
 refine AtT.zt ?_
 refine AtT.zt ?_
 refine AtT.zg ?_
 refine AtT.zg ?_
 refine AtT.done ?_
 refine At.nrm ?_
 refine At.nrm ?_
 refine At.zi (.q 0 (.q 1 (.q 2 .done))) ?_
 refine AtT.zf ?_
 refine AtT.qE ?_
 refine AtT.zg ?_
 refine AtT.done ?_
 refine At.nrm ?_
 refine At.zX rfl rfl ?_
 refine At.nrm ?_
 by_cases g1 : 0 ≤ g ∧ g ≤ 7
 rotate_left
 ·refine At.zi (.q 0 (.n false 1 (.n false 2 (.q 3 (.q 4 .done))))) ?_
  refine AtT.zf ?_
  refine AtT.zN (qw _) ?_
  intro q23 V23 hV23 hq23
  have g23 : Le V V23 := by first | exact hV23 | exact Le.trans (by assumption) hV23
  refine AtT.qg rfl rfl jV (qB 0 7 g _ _ (Sl.lit (l := [g]) hq23 rfl (by simp))) ?_
  rintro v24 V24 hV24 rfl
  refine AtT.zS (d := 24) rfl (g1) ?_
  refine AtT.qC ?_
  refine AtT.qJ (d := 25) rfl ((show (!false) = true from rfl)) ?_
  refine AtT.zg ?_
  refine AtT.done ?_
  refine At.nrm ?_
  all_goals refine At.zU rfl rfl ?_
  refine At.nrm ?_
  have hE : mostE b g = 2 := by unfold mostE; rw [if_neg h0', if_pos g1]
  have hL : mostV b g = 0 := by unfold mostV; rw [if_pos (by rw [hE]; decide)]
  rw [hE, hL]
  refine At.zi (.q 0 (.q 1 .done)) ?_
  refine AtT.zg ?_
  refine AtT.zg ?_
  refine AtT.done ?_
  refine At.nrm ?_
  exact At.qN rfl (.tmp rfl) (.tmp rfl) rfl
 refine At.zi (.q 0 (.n false 1 (.n false 2 (.q 3 (.q 4 .done))))) ?_
 refine AtT.zf ?_
 refine AtT.zN (qw _) ?_
 intro q23 V23 hV23 hq23
 have g23 : Le V V23 := by first | exact hV23 | exact Le.trans (by assumption) hV23
 refine AtT.qg rfl rfl jV (qB 0 7 g _ _ (Sl.lit (l := [g]) hq23 rfl (by simp))) ?_
 rintro v24 V24 hV24 rfl
 refine AtT.qa (d := 24) rfl (g1) ?_
 refine AtT.qC ?_
 refine AtT.qJ (d := 25) rfl ((show (!true) = false from rfl)) ?_
 refine AtT.zg ?_
 refine AtT.done ?_
 refine At.nrm ?_
 all_goals refine At.zX rfl rfl ?_
 refine At.nrm ?_
 obtain ⟨G, rfl⟩ : ∃ G : Nat, g = (G : Int) := ⟨g.toNat, by omega⟩
 have hG8 : G < 8 := by omega
 obtain ⟨u1, ae, ce, hsto, _, hes2, hrm⟩ := hop.le (hV23.trans hV24)
 have hc2 := hsto.c2
 obtain ⟨Mr, cr, hr1, hr2⟩ := id hrm
 obtain ⟨hr3, hr4⟩ := hr2 (G : Int)
 have hrcs : rcs (qW (G : Int) zq Mr) = .slice (qW (G : Int) zq Mr).2.1 (partsOf b.rs (G : Int)).length (qW (G : Int) zq Mr).2.2 := by
  show Value.slice _ (qW (G : Int) zq Mr).1.ps.length _ = _
  rw [hr3]
 rw [hrcs] at hr4
 have hlen0 : ((partsOf b.rs (G : Int)).length : Int) = 0 ↔ partsOf b.rs (G : Int) = [] := by rw [← List.length_eq_zero_iff]; omega
 refine At.zi (.q 0 (.q 1 (.q 2 (.q 3 (.q 4 (.q 5 (.q 6 (.q 7 (.q 8 (.q 9 .done)))))))))) ?_
 refine AtT.zf ?_
 refine AtT.jM ?_
 first | refine AtT.zk jd ?_ | with_reducible refine AtT.zl jd ?_ | refine AtT.zn jd ?_
 first | refine AtT.zm tk87 ?_ | refine AtT.zo tk87 ?_
 refine AtT.zf ?_
 refine AtT.qy (bd92_0 _) ?_
 refine AtT.lookupV rfl trivial key92 (G : Int) zq Tryz.underlying87 z66 rfl rfl rfl hr1 (by decide) ?_
 rw [hrcs]
 first | refine AtT.zR Tryz.underlying66 ?_ | refine AtT.zQ Tryz.underlying66 ?_
 refine AtT.qF ?_
 refine AtT.zg ?_
 refine AtT.done ?_
 refine At.nrm ?_
 refine At.qb rfl (fun hp => ?_) (fun hp => ?_)
 ·have hE : mostE b G = 16 := by unfold mostE; rw [if_neg h0', if_neg (fun h => h g1), if_pos (hlen0.1 hp)]
  have hL : mostV b G = 0 := by unfold mostV; rw [if_pos (by rw [hE]; decide)]
  rw [hE, hL]
  refine At.nrm ?_
  refine At.zi (.q 0 (.q 1 .done)) ?_
  refine AtT.zg ?_
  refine AtT.zg ?_
  refine AtT.done ?_
  refine At.nrm ?_
  exact At.qN rfl (.tmp rfl) (.tmp rfl) rfl
 obtain ⟨st, hst⟩ := hR.st (first := b.es.length) (Nat.le_refl _) 999
 have hT := runT_some hst
 have hok := stkOk_of hR.bog (Nat.le_refl _) hst
 have hE : mostE b G = 0 := by unfold mostE; rw [if_neg h0', if_neg (fun h => h g1), if_neg (fun h => hp (hlen0.2 h))]
 have hL : mostV b G = (mostS b.rs (cutS st) G : Int) := by unfold mostV; rw [if_neg (by rw [hE]; simp), stkF_some hst, Int.toNat_natCast]
 rw [hE, hL]
 refine At.nrm ?_
 refine At.zi (.q 0 (.q 1 (.q 2 (.q 3 (.n false 4 (.q 5 (.q 6 (.q 7 (.n false 8 (.n true 9 (.q 10 .done))))))))))) ?_
 refine AtT.zf ?_
 first | refine AtT.zk zz ?_ | with_reducible refine AtT.zl zz ?_ | refine AtT.zn zz ?_
 first | refine AtT.zm qo ?_ | refine AtT.zo qo ?_
 first | refine AtT.zR Tryz.underlying24 ?_ | refine AtT.zQ Tryz.underlying24 ?_
 refine AtT.zG rfl rfl ok68 (run_f b hR.bog b.es.length (Nat.le_refl _) (hR.bk (Nat.le_refl _)) 999 p m1 m2 u1 ae ce _ hsto hes2 hrm) ?_
 rintro _ rfl; rw [hT]
 refine AtT.zf ?_
 refine AtT.zt ?_
 refine AtT.zt ?_
 refine AtT.zT z105 ?_
 intro b8
 refine AtT.zy qj ?_
 refine AtT.zg ?_
 refine AtT.done ?_
 refine At.nrm ?_
 rw [← cutS_C st]
 generalize cutS st = l at hok ⊢
 refine At.zi (.q 0 .done) ?_
 refine AtT.zg ?_
 refine AtT.done ?_
 refine At.nrm ?_
 refine At.zi (.q 0 .done) ?_
 refine AtT.zg ?_
 refine AtT.done ?_
 refine At.nrm ?_
 refine At.lp (ι := Nat × Nat × MM Int Int × Nat) (KS := fun q => [(1, iv G), (6, .pointer (some ⟨p, 0, none⟩)), (8, .pointer (some ⟨b8, 0, none⟩)), (10, iv q.2.1), (11, iv (sp q.1))]) (OS := fun q => [.blk b8 (LC (stC l) 105), .blk m2 (qV ekT iv q.2.2.1 q.2.2.2)])
  (VS := fun q V' => V' = V24 ∧ q.1 ≤ 16 ∧ q.2.1 + 2 ^ q.1 ≤ 65536 ∧ (q.2.1 = 0 ∨ canS b.rs l G q.2.1 = true) ∧ ∀ x : Nat, q.2.1 + 2 ^ q.1 ≤ x → canS b.rs l G x = false) (μ := fun q => q.1) (16, 0, [], 0) ?_ ?_ ?_ ?_
 ·exact ⟨rfl, rfl, rfl, rfl, rfl, trivial⟩
 ·exact Pt.zI
 ·refine ⟨rfl, Nat.le_refl _, by decide, .inl rfl, fun x hx => ?_⟩
  dsimp only at hx
  cases h : canS b.rs l G x with
  | false => rfl
  | true =>
   have h1 := canS_le hrs (fun s => (hok.bd s).1) hG8 (Int.natCast_nonneg x) h
   have h2 := hok.sum
   have h3 : (2 : Nat) ^ 16 = 65536 := by decide
   omega
 rintro ⟨i, m, M, cM⟩ V' ks' O' ⟨rfl, hi16, hm6, hmc, hmn⟩ hk hO hl2
 dsimp only at hi16 hm6 hmc hmn hk hO
 subst hk hO
 refine At.nrm ?_
 refine At.zi (.q 0 (.q 1 .done)) ?_
 refine AtT.zf ?_
 refine AtT.qI ?_
 refine AtT.done ?_
 refine At.nrm ?_
 refine At.qb rfl (fun hp2 => ?_) (fun hp2 => ?_)
 rotate_left
 ·obtain rfl : i = 0 := by
   cases i with
   | zero => rfl
   | succ i => exfalso; apply hp2; show (0 : Int) < ((2 ^ i : Nat) : Int); have := Nat.two_pow_pos i; omega
  have hfin := mostS_of hrs (fun s => (hok.bd s).1) hok.sum hG8 hmc (fun x hx => hmn x (by simp; omega))
  refine At.nrm ?_
  refine At.zi (.q 0 (.q 1 (.q 2 .done))) ?_
  refine AtT.zf ?_
  refine AtT.zg ?_
  refine AtT.zg ?_
  refine AtT.done ?_
  refine At.nrm ?_
  exact At.qN rfl (.tmp rfl) (.tmp rfl) (by rw [hfin])
 obtain ⟨i, rfl⟩ : ∃ i', i = i' + 1 := by
  cases i with
  | zero => simp [sp] at hp2
  | succ i => exact ⟨i, rfl⟩
 have hpow : (2 : Nat) ^ (i + 1) = 2 ^ i + 2 ^ i := by rw [Nat.pow_succ]; omega
 have hpos := Nat.two_pow_pos i
 have hhalf := sp_half i
 have hspi : sp i ≤ 2 ^ i := by
  cases i with
  | zero => simp [sp]
  | succ i => simp only [sp]; exact Nat.pow_le_pow_right (by decide) (by omega)
 have hfh : Fit ((((2 ^ i : Nat) : Int)).tdiv 2) := by rw [hhalf]; exact Fit.of (by omega) (by omega)
 have hsum : (m : Int) + ((2 ^ i : Nat) : Int) = ((m + 2 ^ i : Nat) : Int) := by push_cast; rfl
 have hss : (iv (sp (i + 1)) : Value) = iv ((2 ^ i : Nat) : Int) := rfl
 rw [hss]
 refine At.nrm ?_
 cases hcan : canS b.rs l G ((m + 2 ^ i : Nat) : Int) with
 | true =>
  refine At.zi (.q 0 (.q 1 (.q 2 (.q 3 (.q 4 (.q 5 (.n true 6 .done))))))) ?_
  refine AtT.zf ?_
  first | refine AtT.zF qj ?_ | refine AtT.zJ qj ?_ | refine AtT.zD qj ?_
  refine AtT.zf ?_
  refine AtT.zf ?_
  refine AtT.zf ?_
  first | refine AtT.qG ?_ | refine AtT.qd ?_
  rw [hsum]
  refine AtT.jb rfl trivial rfl ok70 (by decide) (zP.perm zP.zI) (can_f b.rs hrs l (fun s _ => hok.bd s) G hG8 ((m + 2 ^ i : Nat) : Int) (by omega) M cM p m1 m2 _ _ _ hsto hrm) ?_
  rintro _ _ V54 ⟨rfl, rfl, M', c', rfl⟩; rw [hcan]
  refine AtT.done ?_
  refine At.nrm ?_
  refine At.zU rfl rfl ?_
  refine At.nrm ?_
  refine At.zi (.q 0 (.q 1 (.q 2 (.q 3 .done)))) ?_
  refine AtT.zf ?_
  refine AtT.zf ?_
  first | refine AtT.qG ?_ | refine AtT.qd ?_
  rw [hsum]
  refine AtT.zg ?_
  refine AtT.done ?_
  refine At.nrm ?_
  refine At.nrm ?_
  refine At.zi (.q 0 (.q 1 (.q 2 .done))) ?_
  refine AtT.zf ?_
  refine AtT.kquo ?_
  rw [hhalf]
  refine AtT.zg ?_
  refine AtT.done ?_
  refine At.nrm ?_
  refine At.round (i, m + 2 ^ i, M', c') ?_ ?_ ?_ ?_
  ·show i < i + 1; omega
  ·refine ⟨rfl, by dsimp only; omega, by dsimp only; omega, .inr hcan, fun x hx => hmn x (by dsimp only at hx; omega)⟩
  ·exact ⟨rfl, rfl, rfl, rfl, rfl, trivial⟩
  ·exact Pt.zI
 | false =>
  refine At.zi (.q 0 (.q 1 (.q 2 (.q 3 (.q 4 (.q 5 (.n true 6 .done))))))) ?_
  refine AtT.zf ?_
  first | refine AtT.zF qj ?_ | refine AtT.zJ qj ?_ | refine AtT.zD qj ?_
  refine AtT.zf ?_
  refine AtT.zf ?_
  refine AtT.zf ?_
  first | refine AtT.qG ?_ | refine AtT.qd ?_
  rw [hsum]
  refine AtT.jb rfl trivial rfl ok70 (by decide) (zP.perm zP.zI) (can_f b.rs hrs l (fun s _ => hok.bd s) G hG8 ((m + 2 ^ i : Nat) : Int) (by omega) M cM p m1 m2 _ _ _ hsto hrm) ?_
  rintro _ _ V54 ⟨rfl, rfl, M', c', rfl⟩; rw [hcan]
  refine AtT.done ?_
  refine At.nrm ?_
  refine At.zX rfl rfl ?_
  refine At.nrm ?_
  refine At.zi (.q 0 (.q 1 (.q 2 .done))) ?_
  refine AtT.zf ?_
  refine AtT.kquo ?_
  rw [hhalf]
  refine AtT.zg ?_
  refine AtT.done ?_
  refine At.nrm ?_
  refine At.round (i, m, M', c') ?_ ?_ ?_ ?_
  ·show i < i + 1; omega
  ·refine ⟨rfl, by dsimp only; omega, by dsimp only; omega, hmc, fun x hx => canS_up hrs hx hcan⟩
  ·exact ⟨rfl, rfl, rfl, rfl, rfl, trivial⟩
  ·exact Pt.zI
end Go.Proofs.YtpoignmclfdgpaaGreatDoor
set_option linter.unusedVariables false
namespace Go.Proofs.YtpoignmclfdgpaaGreatDoor
open Go.Lw Go.Gl Go.Bk Go.RowKit
theorem list_same {α : Type} {l m : List α} (hl : l.length = m.length) (h : ∀ j, j < l.length → l[j]? = m[j]?) : l = m := by
 apply List.ext_getElem?
 intro i
 by_cases hi : i < l.length
 ·exact h i hi
 ·rw [List.getElem?_eq_none (by omega), List.getElem?_eq_none (by omega)]
theorem bo_ne {x y : Bo} {k : Nat} {r q : Rc} (h1 : x.rs[k]? = some r) (h2 : y.rs[k]? = some q) (h : r ≠ q) : decide (x = y) = false := decide_eq_false fun e => by subst e; rw [h1] at h2; exact h (Option.some.inj h2)
theorem same_f (x y : Bo) (V : View) (v u : Value) (hx : BoV V v x) (hy : BoV V u y) : Fnc Tryz.prog 30 [v, u] V fun r _ => r = .bool (decide (x = y)) := by
 obtain ⟨v1, a1, c1, rfl, hr1, he1⟩ := hx
 obtain ⟨v2, a2, c2, rfl, hr2, he2⟩ := hy
 obtain ⟨qs, aq, cq, hqr, rfl, hsq, hq⟩ := hr1
 obtain ⟨ps, ap, cp, hpr, rfl, hsp, hp⟩ := hr2
 have hl1 := hsq.jA
 have hl2 := hsp.jA
 have hl3 := he1.jA
 have hl4 := he2.jA
 have hql : qs.length = x.rs.length := by rw [← hqr, List.length_map]
 have hpl : ps.length = y.rs.length := by rw [← hpr, List.length_map]
 refine ql Tryz.func30 rfl Tryz.ntmps30 (Nat.le_of_ble_eq_true rfl) ?_
 intro w0 hw0
 refine At.nrm ?_
 refine At.zi (.n false 0 (.n false 1 (.q 2 .done))) ?_
 refine AtT.jE ?_
 intro b2
 refine AtT.jE ?_
 intro b3
 refine AtT.zg ?_
 refine AtT.done ?_
 refine At.nrm ?_
 refine At.nrm ?_
 by_cases d1 : (qs.length : Int) ≠ ps.length
 ·refine At.zi (.q 0 (.q 1 (.q 2 (.q 3 (.q 4 (.q 5 (.q 6 (.q 7 (.q 8 (.q 9 (.q 10 (.q 11 (.q 12 (.q 13 (.q 14 (.q 15 .done)))))))))))))))) ?_
  first | refine AtT.zk zC ?_ | with_reducible refine AtT.zl zC ?_ | refine AtT.zn zC ?_
  first | refine AtT.zm qz ?_ | refine AtT.zo qz ?_
  first | refine AtT.zR Tryz.underlying22 ?_ | refine AtT.zQ Tryz.underlying22 ?_
  first | refine AtT.zk zC ?_ | with_reducible refine AtT.zl zC ?_ | refine AtT.zn zC ?_
  first | refine AtT.zm qz ?_ | refine AtT.zo qz ?_
  first | refine AtT.zR Tryz.underlying22 ?_ | refine AtT.zQ Tryz.underlying22 ?_
  refine AtT.qE ?_
  refine AtT.qa (d := 14) rfl (d1) ?_
  refine AtT.zf ?_
  all_goals (first | refine AtT.kL 15 ?_ | refine AtT.zw (d := 15) rfl (fun hg15 => ?_) (fun hg15 => ?_) | refine AtT.zu (d := 15) rfl (fun hg15 => ?_) (fun hg15 => ?_))
  all_goals first|refine AtT.zh ?_|refine AtT.ze ?_|(first | refine AtT.zk zz ?_ | with_reducible refine AtT.zl zz ?_ | refine AtT.zn zz ?_)
  all_goals first|refine AtT.zh ?_|refine AtT.ze ?_|(first | refine AtT.zm qo ?_ | refine AtT.zo qo ?_)
  all_goals first|refine AtT.zh ?_|refine AtT.ze ?_|(first | refine AtT.zR Tryz.underlying24 ?_ | refine AtT.zQ Tryz.underlying24 ?_)
  all_goals first|refine AtT.zh ?_|refine AtT.ze ?_|(first | refine AtT.zk zz ?_ | with_reducible refine AtT.zl zz ?_ | refine AtT.zn zz ?_)
  all_goals first|refine AtT.zh ?_|refine AtT.ze ?_|(first | refine AtT.zm qo ?_ | refine AtT.zo qo ?_)
  all_goals first|refine AtT.zh ?_|refine AtT.ze ?_|(first | refine AtT.zR Tryz.underlying24 ?_ | refine AtT.zQ Tryz.underlying24 ?_)
  all_goals first|refine AtT.zh ?_|refine AtT.ze ?_|(refine AtT.qE ?_)
  all_goals (refine AtT.zx ?_)
  all_goals refine AtT.done ?_
  all_goals (refine At.nrm ?_)
  all_goals refine At.zU rfl rfl ?_
  refine At.nrm ?_
  refine At.zi (.q 0 .done) ?_
  refine AtT.zg ?_
  refine AtT.done ?_
  refine At.nrm ?_
  exact At.qh rfl (.tmp rfl) (by rw [decide_eq_false]; rintro rfl; omega)
 by_cases d2 : (x.es.length : Int) ≠ y.es.length
 ·refine At.zi (.q 0 (.q 1 (.q 2 (.q 3 (.q 4 (.q 5 (.q 6 (.q 7 (.q 8 (.q 9 (.q 10 (.q 11 (.q 12 (.q 13 (.q 14 (.q 15 .done)))))))))))))))) ?_
  first | refine AtT.zk zC ?_ | with_reducible refine AtT.zl zC ?_ | refine AtT.zn zC ?_
  first | refine AtT.zm qz ?_ | refine AtT.zo qz ?_
  first | refine AtT.zR Tryz.underlying22 ?_ | refine AtT.zQ Tryz.underlying22 ?_
  first | refine AtT.zk zC ?_ | with_reducible refine AtT.zl zC ?_ | refine AtT.zn zC ?_
  first | refine AtT.zm qz ?_ | refine AtT.zo qz ?_
  first | refine AtT.zR Tryz.underlying22 ?_ | refine AtT.zQ Tryz.underlying22 ?_
  refine AtT.qE ?_
  refine AtT.zS (d := 14) rfl (d1) ?_
  refine AtT.zf ?_
  all_goals (first | refine AtT.kL 15 ?_ | refine AtT.zw (d := 15) rfl (fun hg15 => ?_) (fun hg15 => ?_) | refine AtT.zu (d := 15) rfl (fun hg15 => ?_) (fun hg15 => ?_))
  all_goals first|refine AtT.zh ?_|refine AtT.ze ?_|(first | refine AtT.zk zz ?_ | with_reducible refine AtT.zl zz ?_ | refine AtT.zn zz ?_)
  all_goals first|refine AtT.zh ?_|refine AtT.ze ?_|(first | refine AtT.zm qo ?_ | refine AtT.zo qo ?_)
  all_goals first|refine AtT.zh ?_|refine AtT.ze ?_|(first | refine AtT.zR Tryz.underlying24 ?_ | refine AtT.zQ Tryz.underlying24 ?_)
  all_goals first|refine AtT.zh ?_|refine AtT.ze ?_|(first | refine AtT.zk zz ?_ | with_reducible refine AtT.zl zz ?_ | refine AtT.zn zz ?_)
  all_goals first|refine AtT.zh ?_|refine AtT.ze ?_|(first | refine AtT.zm qo ?_ | refine AtT.zo qo ?_)
  all_goals first|refine AtT.zh ?_|refine AtT.ze ?_|(first | refine AtT.zR Tryz.underlying24 ?_ | refine AtT.zQ Tryz.underlying24 ?_)
  all_goals first|refine AtT.zh ?_|refine AtT.ze ?_|(refine AtT.qE ?_)
  all_goals (refine AtT.qa (d := 22) rfl (d2) ?_)
  all_goals (refine AtT.zx ?_)
  all_goals refine AtT.done ?_
  all_goals (refine At.nrm ?_)
  all_goals refine At.zU rfl rfl ?_
  refine At.nrm ?_
  refine At.zi (.q 0 .done) ?_
  refine AtT.zg ?_
  refine AtT.done ?_
  refine At.nrm ?_
  exact At.qh rfl (.tmp rfl) (by rw [decide_eq_false]; rintro rfl; omega)
 refine At.zi (.q 0 (.q 1 (.q 2 (.q 3 (.q 4 (.q 5 (.q 6 (.q 7 (.q 8 (.q 9 (.q 10 (.q 11 (.q 12 (.q 13 (.q 14 (.q 15 .done)))))))))))))))) ?_
 first | refine AtT.zk zC ?_ | with_reducible refine AtT.zl zC ?_ | refine AtT.zn zC ?_
 first | refine AtT.zm qz ?_ | refine AtT.zo qz ?_
 first | refine AtT.zR Tryz.underlying22 ?_ | refine AtT.zQ Tryz.underlying22 ?_
 first | refine AtT.zk zC ?_ | with_reducible refine AtT.zl zC ?_ | refine AtT.zn zC ?_
 first | refine AtT.zm qz ?_ | refine AtT.zo qz ?_
 first | refine AtT.zR Tryz.underlying22 ?_ | refine AtT.zQ Tryz.underlying22 ?_
 refine AtT.qE ?_
 refine AtT.zS (d := 14) rfl (d1) ?_
 refine AtT.zf ?_
 all_goals (first | refine AtT.kL 15 ?_ | refine AtT.zw (d := 15) rfl (fun hg15 => ?_) (fun hg15 => ?_) | refine AtT.zu (d := 15) rfl (fun hg15 => ?_) (fun hg15 => ?_))
 all_goals first|refine AtT.zh ?_|refine AtT.ze ?_|(first | refine AtT.zk zz ?_ | with_reducible refine AtT.zl zz ?_ | refine AtT.zn zz ?_)
 all_goals first|refine AtT.zh ?_|refine AtT.ze ?_|(first | refine AtT.zm qo ?_ | refine AtT.zo qo ?_)
 all_goals first|refine AtT.zh ?_|refine AtT.ze ?_|(first | refine AtT.zR Tryz.underlying24 ?_ | refine AtT.zQ Tryz.underlying24 ?_)
 all_goals first|refine AtT.zh ?_|refine AtT.ze ?_|(first | refine AtT.zk zz ?_ | with_reducible refine AtT.zl zz ?_ | refine AtT.zn zz ?_)
 all_goals first|refine AtT.zh ?_|refine AtT.ze ?_|(first | refine AtT.zm qo ?_ | refine AtT.zo qo ?_)
 all_goals first|refine AtT.zh ?_|refine AtT.ze ?_|(first | refine AtT.zR Tryz.underlying24 ?_ | refine AtT.zQ Tryz.underlying24 ?_)
 all_goals first|refine AtT.zh ?_|refine AtT.ze ?_|(refine AtT.qE ?_)
 all_goals (refine AtT.zS (d := 22) rfl (d2) ?_)
 all_goals (refine AtT.zx ?_)
 all_goals refine AtT.done ?_
 all_goals (refine At.nrm ?_)
 all_goals refine At.zX rfl rfl ?_
 refine At.nrm ?_
 have hRl : x.rs.length = y.rs.length := by omega
 have hEl : x.es.length = y.es.length := by omega
 refine At.zi (.q 0 .done) ?_
 refine AtT.zg ?_
 refine AtT.done ?_
 refine At.nrm ?_
 refine At.lp (ι := Nat) (KS := fun k => [(2, .pointer (some ⟨b2, 0, none⟩)), (3, .pointer (some ⟨b3, 0, none⟩)), (5, iv k)]) (OS := fun _ => [.blk b2 (LC [.slice aq qs.length cq, .slice a1 x.es.length c1] 26), .blk b3 (LC [.slice ap ps.length cp, .slice a2 y.es.length c2] 26)]) (VS := fun k V' => V' = V ∧ k ≤ qs.length ∧ ∀ j, j < k → x.rs[j]? = y.rs[j]?) (μ := fun k => qs.length - k) 0 ?_ ?_ ?_ ?_
 ·exact ⟨rfl, rfl, rfl, trivial⟩
 ·exact Pt.zI
 ·exact ⟨rfl, Nat.zero_le _, fun j hj => absurd hj (Nat.not_lt_zero j)⟩
 rintro k V' ks' O' ⟨rfl, hkl, hall⟩ hk hO hl2
 subst hk hO
 refine At.nrm ?_
 refine At.zi (.q 0 (.q 1 (.q 2 (.q 3 (.q 4 .done))))) ?_
 refine AtT.zf ?_
 first | refine AtT.zk zC ?_ | with_reducible refine AtT.zl zC ?_ | refine AtT.zn zC ?_
 first | refine AtT.zm qz ?_ | refine AtT.zo qz ?_
 first | refine AtT.zR Tryz.underlying22 ?_ | refine AtT.zQ Tryz.underlying22 ?_
 refine AtT.qp ?_
 refine AtT.done ?_
 refine At.nrm ?_
 refine At.qb rfl (fun hp1 => ?_) (fun hp1 => ?_)
 ·obtain ⟨q, hqk⟩ : ∃ q, qs[k]? = some q := ⟨_, List.getElem?_eq_getElem (by omega)⟩
  obtain ⟨p, hpk⟩ : ∃ p, ps[k]? = some p := ⟨_, List.getElem?_eq_getElem (by omega)⟩
  have hxk : x.rs[k]? = some q.1 := by rw [← hqr]; exact qs_at hqk
  have hyk : y.rs[k]? = some p.1 := by rw [← hpr]; exact qs_at hpk
  have hsA := hq q (qs_mem hqk)
  have hsB := hp p (qs_mem hpk)
  have hlA := hsA.jA
  refine At.nrm ?_
  by_cases g1 : q.1.g ≠ p.1.g
  ·refine At.draw (.q 0 (.q 1 (.q 2 (.q 3 (.q 4 (.q 5 (.q 6 (.q 7 (.q 8 (.q 9 (.q 10 (.q 11 (.q 12 (.q 13 (.q 14 (.q 15 (.q 16 (.q 17 (.q 18 (.q 19 (.q 20 (.q 21 (.q 22 (.q 23 (.q 24 (.q 25 (.q 26 (.q 27 (.q 28 (.q 29 .done)))))))))))))))))))))))))))))) ffm (by kernel_rfl) ?_
   first | refine AtT.zk zC ?_ | with_reducible refine AtT.zl zC ?_ | refine AtT.zn zC ?_
   first | refine AtT.zm qz ?_ | refine AtT.zo qz ?_
   refine AtT.zf ?_
   refine AtT.qm Tryz.underlying22 qO ?_
   intro p34 e34 he34 hc34
   obtain rfl : q = e34 := by have : qs[k]? = some e34 := (by rw [Int.toNat_natCast] at he34; exact he34); rw [hqk] at this; exact Option.some.inj this
   first | refine AtT.zk zY ?_ | with_reducible refine AtT.zl zY ?_ | refine AtT.zn zY ?_
   first | refine AtT.zm tk3 ?_ | refine AtT.zo tk3 ?_
   first | refine AtT.zk zC ?_ | with_reducible refine AtT.zl zC ?_ | refine AtT.zn zC ?_
   first | refine AtT.zm qz ?_ | refine AtT.zo qz ?_
   refine AtT.zf ?_
   refine AtT.qm Tryz.underlying22 qO ?_
   intro p40 e40 he40 hc40
   obtain rfl : p = e40 := by have : ps[k]? = some e40 := (by rw [Int.toNat_natCast] at he40; exact he40); rw [hpk] at this; exact Option.some.inj this
   first | refine AtT.zk zY ?_ | with_reducible refine AtT.zl zY ?_ | refine AtT.zn zY ?_
   first | refine AtT.zm tk3 ?_ | refine AtT.zo tk3 ?_
   refine AtT.qE ?_
   refine AtT.qa (d := 43) rfl (g1) ?_
   refine AtT.zf ?_
   all_goals (first | refine AtT.kL 44 ?_ | refine AtT.zw (d := 44) rfl (fun hg44 => ?_) (fun hg44 => ?_) | refine AtT.zu (d := 44) rfl (fun hg44 => ?_) (fun hg44 => ?_))
   all_goals first|refine AtT.zh ?_|refine AtT.ze ?_|(first | refine AtT.zk zC ?_ | with_reducible refine AtT.zl zC ?_ | refine AtT.zn zC ?_)
   all_goals first|refine AtT.zh ?_|refine AtT.ze ?_|(first | refine AtT.zm qz ?_ | refine AtT.zo qz ?_)
   all_goals first|refine AtT.zh ?_|refine AtT.ze ?_|(refine AtT.zf ?_)
   all_goals first|refine AtT.zh ?_|refine AtT.ze ?_|(refine AtT.qm Tryz.underlying22 qO ?_) ; (intro p48 e48 he48 hc48)
   all_goals first|refine AtT.zh ?_|refine AtT.ze ?_|(first | refine AtT.zk zK ?_ | with_reducible refine AtT.zl zK ?_ | refine AtT.zn zK ?_)
   all_goals first|refine AtT.zh ?_|refine AtT.ze ?_|(first | refine AtT.zm qM ?_ | refine AtT.zo qM ?_)
   all_goals first|refine AtT.zh ?_|refine AtT.ze ?_|(first | refine AtT.zR Tryz.underlying66 ?_ | refine AtT.zQ Tryz.underlying66 ?_)
   all_goals first|refine AtT.zh ?_|refine AtT.ze ?_|(first | refine AtT.zk zC ?_ | with_reducible refine AtT.zl zC ?_ | refine AtT.zn zC ?_)
   all_goals first|refine AtT.zh ?_|refine AtT.ze ?_|(first | refine AtT.zm qz ?_ | refine AtT.zo qz ?_)
   all_goals first|refine AtT.zh ?_|refine AtT.ze ?_|(refine AtT.zf ?_)
   all_goals first|refine AtT.zh ?_|refine AtT.ze ?_|(refine AtT.qm Tryz.underlying22 qO ?_) ; (intro p55 e55 he55 hc55)
   all_goals first|refine AtT.zh ?_|refine AtT.ze ?_|(first | refine AtT.zk zK ?_ | with_reducible refine AtT.zl zK ?_ | refine AtT.zn zK ?_)
   all_goals first|refine AtT.zh ?_|refine AtT.ze ?_|(first | refine AtT.zm qM ?_ | refine AtT.zo qM ?_)
   all_goals first|refine AtT.zh ?_|refine AtT.ze ?_|(first | refine AtT.zR Tryz.underlying66 ?_ | refine AtT.zQ Tryz.underlying66 ?_)
   all_goals first|refine AtT.zh ?_|refine AtT.ze ?_|(refine AtT.qE ?_)
   all_goals (refine AtT.zx ?_)
   all_goals refine AtT.done ?_
   all_goals (refine At.nrm ?_)
   all_goals refine At.zU rfl rfl ?_
   refine At.nrm ?_
   refine At.zi (.q 0 .done) ?_
   refine AtT.zg ?_
   refine AtT.done ?_
   refine At.nrm ?_
   exact At.qh rfl (.tmp rfl) (by rw [bo_ne hxk hyk (fun e => by rw [e] at g1; exact g1 rfl)])
  by_cases g2 : (q.1.ps.length : Int) ≠ p.1.ps.length
  ·refine At.draw (.q 0 (.q 1 (.q 2 (.q 3 (.q 4 (.q 5 (.q 6 (.q 7 (.q 8 (.q 9 (.q 10 (.q 11 (.q 12 (.q 13 (.q 14 (.q 15 (.q 16 (.q 17 (.q 18 (.q 19 (.q 20 (.q 21 (.q 22 (.q 23 (.q 24 (.q 25 (.q 26 (.q 27 (.q 28 (.q 29 .done)))))))))))))))))))))))))))))) ffm (by kernel_rfl) ?_
   first | refine AtT.zk zC ?_ | with_reducible refine AtT.zl zC ?_ | refine AtT.zn zC ?_
   first | refine AtT.zm qz ?_ | refine AtT.zo qz ?_
   refine AtT.zf ?_
   refine AtT.qm Tryz.underlying22 qO ?_
   intro p34 e34 he34 hc34
   obtain rfl : q = e34 := by have : qs[k]? = some e34 := (by rw [Int.toNat_natCast] at he34; exact he34); rw [hqk] at this; exact Option.some.inj this
   first | refine AtT.zk zY ?_ | with_reducible refine AtT.zl zY ?_ | refine AtT.zn zY ?_
   first | refine AtT.zm tk3 ?_ | refine AtT.zo tk3 ?_
   first | refine AtT.zk zC ?_ | with_reducible refine AtT.zl zC ?_ | refine AtT.zn zC ?_
   first | refine AtT.zm qz ?_ | refine AtT.zo qz ?_
   refine AtT.zf ?_
   refine AtT.qm Tryz.underlying22 qO ?_
   intro p40 e40 he40 hc40
   obtain rfl : p = e40 := by have : ps[k]? = some e40 := (by rw [Int.toNat_natCast] at he40; exact he40); rw [hpk] at this; exact Option.some.inj this
   first | refine AtT.zk zY ?_ | with_reducible refine AtT.zl zY ?_ | refine AtT.zn zY ?_
   first | refine AtT.zm tk3 ?_ | refine AtT.zo tk3 ?_
   refine AtT.qE ?_
   refine AtT.zS (d := 43) rfl (g1) ?_
   refine AtT.zf ?_
   all_goals (first | refine AtT.kL 44 ?_ | refine AtT.zw (d := 44) rfl (fun hg44 => ?_) (fun hg44 => ?_) | refine AtT.zu (d := 44) rfl (fun hg44 => ?_) (fun hg44 => ?_))
   all_goals first|refine AtT.zh ?_|refine AtT.ze ?_|(first | refine AtT.zk zC ?_ | with_reducible refine AtT.zl zC ?_ | refine AtT.zn zC ?_)
   all_goals first|refine AtT.zh ?_|refine AtT.ze ?_|(first | refine AtT.zm qz ?_ | refine AtT.zo qz ?_)
   all_goals first|refine AtT.zh ?_|refine AtT.ze ?_|(refine AtT.zf ?_)
   all_goals first|refine AtT.zh ?_|refine AtT.ze ?_|(refine AtT.qm Tryz.underlying22 qO ?_) ; (intro p48 e48 he48 hc48)
   all_goals (obtain rfl : q = e48 := by have : qs[k]? = some e48 := (by rw [Int.toNat_natCast] at he48; exact he48); rw [hqk] at this; exact Option.some.inj this)
   all_goals first|refine AtT.zh ?_|refine AtT.ze ?_|(first | refine AtT.zk zK ?_ | with_reducible refine AtT.zl zK ?_ | refine AtT.zn zK ?_)
   all_goals first|refine AtT.zh ?_|refine AtT.ze ?_|(first | refine AtT.zm qM ?_ | refine AtT.zo qM ?_)
   all_goals first|refine AtT.zh ?_|refine AtT.ze ?_|(first | refine AtT.zR Tryz.underlying66 ?_ | refine AtT.zQ Tryz.underlying66 ?_)
   all_goals first|refine AtT.zh ?_|refine AtT.ze ?_|(first | refine AtT.zk zC ?_ | with_reducible refine AtT.zl zC ?_ | refine AtT.zn zC ?_)
   all_goals first|refine AtT.zh ?_|refine AtT.ze ?_|(first | refine AtT.zm qz ?_ | refine AtT.zo qz ?_)
   all_goals first|refine AtT.zh ?_|refine AtT.ze ?_|(refine AtT.zf ?_)
   all_goals first|refine AtT.zh ?_|refine AtT.ze ?_|(refine AtT.qm Tryz.underlying22 qO ?_) ; (intro p55 e55 he55 hc55)
   all_goals (obtain rfl : p = e55 := by have : ps[k]? = some e55 := (by rw [Int.toNat_natCast] at he55; exact he55); rw [hpk] at this; exact Option.some.inj this)
   all_goals first|refine AtT.zh ?_|refine AtT.ze ?_|(first | refine AtT.zk zK ?_ | with_reducible refine AtT.zl zK ?_ | refine AtT.zn zK ?_)
   all_goals first|refine AtT.zh ?_|refine AtT.ze ?_|(first | refine AtT.zm qM ?_ | refine AtT.zo qM ?_)
   all_goals first|refine AtT.zh ?_|refine AtT.ze ?_|(first | refine AtT.zR Tryz.underlying66 ?_ | refine AtT.zQ Tryz.underlying66 ?_)
   all_goals first|refine AtT.zh ?_|refine AtT.ze ?_|(refine AtT.qE ?_)
   all_goals (refine AtT.qa (d := 59) rfl (g2) ?_)
   all_goals (refine AtT.zx ?_)
   all_goals refine AtT.done ?_
   all_goals (refine At.nrm ?_)
   all_goals refine At.zU rfl rfl ?_
   refine At.nrm ?_
   refine At.zi (.q 0 .done) ?_
   refine AtT.zg ?_
   refine AtT.done ?_
   refine At.nrm ?_
   exact At.qh rfl (.tmp rfl) (by rw [bo_ne hxk hyk (fun e => by rw [e] at g2; exact g2 rfl)])
  refine At.draw (.q 0 (.q 1 (.q 2 (.q 3 (.q 4 (.q 5 (.q 6 (.q 7 (.q 8 (.q 9 (.q 10 (.q 11 (.q 12 (.q 13 (.q 14 (.q 15 (.q 16 (.q 17 (.q 18 (.q 19 (.q 20 (.q 21 (.q 22 (.q 23 (.q 24 (.q 25 (.q 26 (.q 27 (.q 28 (.q 29 .done)))))))))))))))))))))))))))))) ffm (by kernel_rfl) ?_
  first | refine AtT.zk zC ?_ | with_reducible refine AtT.zl zC ?_ | refine AtT.zn zC ?_
  first | refine AtT.zm qz ?_ | refine AtT.zo qz ?_
  refine AtT.zf ?_
  refine AtT.qm Tryz.underlying22 qO ?_
  intro p34 e34 he34 hc34
  obtain rfl : q = e34 := by have : qs[k]? = some e34 := (by rw [Int.toNat_natCast] at he34; exact he34); rw [hqk] at this; exact Option.some.inj this
  first | refine AtT.zk zY ?_ | with_reducible refine AtT.zl zY ?_ | refine AtT.zn zY ?_
  first | refine AtT.zm tk3 ?_ | refine AtT.zo tk3 ?_
  first | refine AtT.zk zC ?_ | with_reducible refine AtT.zl zC ?_ | refine AtT.zn zC ?_
  first | refine AtT.zm qz ?_ | refine AtT.zo qz ?_
  refine AtT.zf ?_
  refine AtT.qm Tryz.underlying22 qO ?_
  intro p40 e40 he40 hc40
  obtain rfl : p = e40 := by have : ps[k]? = some e40 := (by rw [Int.toNat_natCast] at he40; exact he40); rw [hpk] at this; exact Option.some.inj this
  first | refine AtT.zk zY ?_ | with_reducible refine AtT.zl zY ?_ | refine AtT.zn zY ?_
  first | refine AtT.zm tk3 ?_ | refine AtT.zo tk3 ?_
  refine AtT.qE ?_
  refine AtT.zS (d := 43) rfl (g1) ?_
  refine AtT.zf ?_
  all_goals (first | refine AtT.kL 44 ?_ | refine AtT.zw (d := 44) rfl (fun hg44 => ?_) (fun hg44 => ?_) | refine AtT.zu (d := 44) rfl (fun hg44 => ?_) (fun hg44 => ?_))
  all_goals first|refine AtT.zh ?_|refine AtT.ze ?_|(first | refine AtT.zk zC ?_ | with_reducible refine AtT.zl zC ?_ | refine AtT.zn zC ?_)
  all_goals first|refine AtT.zh ?_|refine AtT.ze ?_|(first | refine AtT.zm qz ?_ | refine AtT.zo qz ?_)
  all_goals first|refine AtT.zh ?_|refine AtT.ze ?_|(refine AtT.zf ?_)
  all_goals first|refine AtT.zh ?_|refine AtT.ze ?_|(refine AtT.qm Tryz.underlying22 qO ?_) ; (intro p48 e48 he48 hc48)
  all_goals (obtain rfl : q = e48 := by have : qs[k]? = some e48 := (by rw [Int.toNat_natCast] at he48; exact he48); rw [hqk] at this; exact Option.some.inj this)
  all_goals first|refine AtT.zh ?_|refine AtT.ze ?_|(first | refine AtT.zk zK ?_ | with_reducible refine AtT.zl zK ?_ | refine AtT.zn zK ?_)
  all_goals first|refine AtT.zh ?_|refine AtT.ze ?_|(first | refine AtT.zm qM ?_ | refine AtT.zo qM ?_)
  all_goals first|refine AtT.zh ?_|refine AtT.ze ?_|(first | refine AtT.zR Tryz.underlying66 ?_ | refine AtT.zQ Tryz.underlying66 ?_)
  all_goals first|refine AtT.zh ?_|refine AtT.ze ?_|(first | refine AtT.zk zC ?_ | with_reducible refine AtT.zl zC ?_ | refine AtT.zn zC ?_)
  all_goals first|refine AtT.zh ?_|refine AtT.ze ?_|(first | refine AtT.zm qz ?_ | refine AtT.zo qz ?_)
  all_goals first|refine AtT.zh ?_|refine AtT.ze ?_|(refine AtT.zf ?_)
  all_goals first|refine AtT.zh ?_|refine AtT.ze ?_|(refine AtT.qm Tryz.underlying22 qO ?_) ; (intro p55 e55 he55 hc55)
  all_goals (obtain rfl : p = e55 := by have : ps[k]? = some e55 := (by rw [Int.toNat_natCast] at he55; exact he55); rw [hpk] at this; exact Option.some.inj this)
  all_goals first|refine AtT.zh ?_|refine AtT.ze ?_|(first | refine AtT.zk zK ?_ | with_reducible refine AtT.zl zK ?_ | refine AtT.zn zK ?_)
  all_goals first|refine AtT.zh ?_|refine AtT.ze ?_|(first | refine AtT.zm qM ?_ | refine AtT.zo qM ?_)
  all_goals first|refine AtT.zh ?_|refine AtT.ze ?_|(first | refine AtT.zR Tryz.underlying66 ?_ | refine AtT.zQ Tryz.underlying66 ?_)
  all_goals first|refine AtT.zh ?_|refine AtT.ze ?_|(refine AtT.qE ?_)
  all_goals (refine AtT.zS (d := 59) rfl (g2) ?_)
  all_goals (refine AtT.zx ?_)
  all_goals refine AtT.done ?_
  all_goals (refine At.nrm ?_)
  all_goals refine At.zX rfl rfl ?_
  refine At.nrm ?_
  have hpsl : q.1.ps.length = p.1.ps.length := by omega
  refine At.zi (.q 0 .done) ?_
  refine AtT.zg ?_
  refine AtT.done ?_
  refine At.nrm ?_
  refine At.lp (ι := Nat) (KS := fun j => [(2, .pointer (some ⟨b2, 0, none⟩)), (3, .pointer (some ⟨b3, 0, none⟩)), (5, iv k), (6, iv j)]) (OS := fun _ => [.blk b2 (LC [.slice aq qs.length cq, .slice a1 x.es.length c1] 26), .blk b3 (LC [.slice ap ps.length cp, .slice a2 y.es.length c2] 26)]) (VS := fun j V'' => V'' = V' ∧ j ≤ q.1.ps.length ∧ ∀ i, i < j → q.1.ps[i]? = p.1.ps[i]?) (μ := fun j => q.1.ps.length - j) 0 ?_ ?_ ?_ ?_
  ·exact ⟨rfl, rfl, rfl, rfl, trivial⟩
  ·exact Pt.zI
  ·exact ⟨rfl, Nat.zero_le _, fun j hj => absurd hj (Nat.not_lt_zero j)⟩
  rintro j V2 ks' O' ⟨rfl, hjl, hpa⟩ hk hO hl3
  subst hk hO
  refine At.nrm ?_
  refine At.zi (.q 0 (.q 1 (.q 2 (.q 3 (.q 4 (.q 5 (.q 6 (.q 7 (.q 8 .done))))))))) ?_
  refine AtT.zf ?_
  first | refine AtT.zk zC ?_ | with_reducible refine AtT.zl zC ?_ | refine AtT.zn zC ?_
  first | refine AtT.zm qz ?_ | refine AtT.zo qz ?_
  refine AtT.zf ?_
  refine AtT.qm Tryz.underlying22 qO ?_
  intro p65 e65 he65 hc65
  obtain rfl : q = e65 := by have : qs[k]? = some e65 := (by rw [Int.toNat_natCast] at he65; exact he65); rw [hqk] at this; exact Option.some.inj this
  first | refine AtT.zk zK ?_ | with_reducible refine AtT.zl zK ?_ | refine AtT.zn zK ?_
  first | refine AtT.zm qM ?_ | refine AtT.zo qM ?_
  first | refine AtT.zR Tryz.underlying66 ?_ | refine AtT.zQ Tryz.underlying66 ?_
  refine AtT.qp ?_
  refine AtT.done ?_
  refine At.nrm ?_
  refine At.qb rfl (fun hp2 => ?_) (fun hp2 => ?_)
  rotate_left
  ·obtain rfl : j = q.1.ps.length := by omega
   have hrc : q.1 = p.1 := by
    by_cases hgg : q.1.g = p.1.g
    ·have := list_same hpsl hpa
     cases hq1 : q.1
     cases hp1' : p.1
     rw [hq1, hp1'] at hgg this
     simp only at hgg this
     rw [hgg, this]
    ·exact absurd hgg g1
   refine At.nrm ?_
   refine At.zi (.q 0 (.q 1 (.q 2 .done))) ?_
   refine AtT.zf ?_
   first | refine AtT.qG ?_ | refine AtT.qd ?_
   refine AtT.zg ?_
   refine AtT.done ?_
   refine At.nrm ?_
   refine At.round (k + 1) ?_ ?_ ?_ ?_
   ·show qs.length - (k + 1) < qs.length - k; omega
   ·refine ⟨rfl, by omega, fun i hi => ?_⟩
    by_cases e : i = k
    ·subst e; rw [hxk, hyk, hrc]
    ·exact hall i (by omega)
   ·exact ⟨rfl, rfl, ivs (by omega), trivial⟩
   ·exact Pt.zI
  obtain ⟨A, hA⟩ : ∃ A, q.1.ps[j]? = some A := ⟨_, List.getElem?_eq_getElem (by omega)⟩
  obtain ⟨B, hB⟩ : ∃ B, p.1.ps[j]? = some B := ⟨_, List.getElem?_eq_getElem (by omega)⟩
  have hAB : (A.t = B.t ∧ A.n = B.n) ↔ A = B := by cases A; cases B; simp
  refine At.nrm ?_
  by_cases hab : A = B
  ·refine At.draw (.q 0 (.q 1 (.q 2 (.q 3 (.q 4 (.q 5 (.q 6 (.q 7 (.q 8 (.q 9 (.q 10 (.q 11 (.q 12 (.q 13 (.q 14 (.q 15 (.q 16 (.q 17 (.q 18 .done))))))))))))))))))) ffm (by kernel_rfl) ?_
   first | refine AtT.zk zC ?_ | with_reducible refine AtT.zl zC ?_ | refine AtT.zn zC ?_
   first | refine AtT.zm qz ?_ | refine AtT.zo qz ?_
   refine AtT.zf ?_
   refine AtT.qm Tryz.underlying22 qO ?_
   intro p75 e75 he75 hc75
   obtain rfl : q = e75 := by have : qs[k]? = some e75 := (by rw [Int.toNat_natCast] at he75; exact he75); rw [hqk] at this; exact Option.some.inj this
   first | refine AtT.zk zK ?_ | with_reducible refine AtT.zl zK ?_ | refine AtT.zn zK ?_
   first | refine AtT.zm qM ?_ | refine AtT.zo qM ?_
   refine AtT.zf ?_
   refine AtT.idx rfl trivial Tryz.underlying66 qZ rfl hsA rfl (by omega) (by omega) (by decide) ?_
   intro p79 e79 he79 hc79
   obtain rfl : A = e79 := by have : q.1.ps[j]? = some e79 := (by rw [Int.toNat_natCast] at he79; exact he79); rw [hA] at this; exact Option.some.inj this
   first | refine AtT.zF qZ ?_ | refine AtT.zJ qZ ?_ | refine AtT.zD qZ ?_
   first | refine AtT.zk zC ?_ | with_reducible refine AtT.zl zC ?_ | refine AtT.zn zC ?_
   first | refine AtT.zm qz ?_ | refine AtT.zo qz ?_
   refine AtT.zf ?_
   refine AtT.qm Tryz.underlying22 qO ?_
   intro p84 e84 he84 hc84
   obtain rfl : p = e84 := by have : ps[k]? = some e84 := (by rw [Int.toNat_natCast] at he84; exact he84); rw [hpk] at this; exact Option.some.inj this
   first | refine AtT.zk zK ?_ | with_reducible refine AtT.zl zK ?_ | refine AtT.zn zK ?_
   first | refine AtT.zm qM ?_ | refine AtT.zo qM ?_
   refine AtT.zf ?_
   refine AtT.idx rfl trivial Tryz.underlying66 qZ rfl hsB rfl (by omega) (by omega) (by decide) ?_
   intro p88 e88 he88 hc88
   obtain rfl : B = e88 := by have : p.1.ps[j]? = some e88 := (by rw [Int.toNat_natCast] at he88; exact he88); rw [hB] at this; exact Option.some.inj this
   first | refine AtT.zF qZ ?_ | refine AtT.zJ qZ ?_ | refine AtT.zD qZ ?_
   refine AtT.kneS (eqS69 _ _ _ _) ?_
   refine AtT.done ?_
   refine At.nrm ?_
   refine At.zX rfl (by rw [decide_eq_true (hAB.2 hab)]; rfl) ?_
   refine At.nrm ?_
   refine At.zi (.q 0 (.q 1 (.q 2 .done))) ?_
   refine AtT.zf ?_
   first | refine AtT.qG ?_ | refine AtT.qd ?_
   refine AtT.zg ?_
   refine AtT.done ?_
   refine At.nrm ?_
   refine At.round (j + 1) ?_ ?_ ?_ ?_
   ·show q.1.ps.length - (j + 1) < q.1.ps.length - j; omega
   ·refine ⟨rfl, by omega, fun i hi => ?_⟩
    by_cases e : i = j
    ·subst e; rw [hA, hB, hab]
    ·exact hpa i (by omega)
   ·exact ⟨rfl, rfl, rfl, ivs (by omega), trivial⟩
   ·exact Pt.zI
  ·refine At.draw (.q 0 (.q 1 (.q 2 (.q 3 (.q 4 (.q 5 (.q 6 (.q 7 (.q 8 (.q 9 (.q 10 (.q 11 (.q 12 (.q 13 (.q 14 (.q 15 (.q 16 (.q 17 (.q 18 .done))))))))))))))))))) ffm (by kernel_rfl) ?_
   first | refine AtT.zk zC ?_ | with_reducible refine AtT.zl zC ?_ | refine AtT.zn zC ?_
   first | refine AtT.zm qz ?_ | refine AtT.zo qz ?_
   refine AtT.zf ?_
   refine AtT.qm Tryz.underlying22 qO ?_
   intro p75 e75 he75 hc75
   obtain rfl : q = e75 := by have : qs[k]? = some e75 := (by rw [Int.toNat_natCast] at he75; exact he75); rw [hqk] at this; exact Option.some.inj this
   first | refine AtT.zk zK ?_ | with_reducible refine AtT.zl zK ?_ | refine AtT.zn zK ?_
   first | refine AtT.zm qM ?_ | refine AtT.zo qM ?_
   refine AtT.zf ?_
   refine AtT.idx rfl trivial Tryz.underlying66 qZ rfl hsA rfl (by omega) (by omega) (by decide) ?_
   intro p79 e79 he79 hc79
   obtain rfl : A = e79 := by have : q.1.ps[j]? = some e79 := (by rw [Int.toNat_natCast] at he79; exact he79); rw [hA] at this; exact Option.some.inj this
   first | refine AtT.zF qZ ?_ | refine AtT.zJ qZ ?_ | refine AtT.zD qZ ?_
   first | refine AtT.zk zC ?_ | with_reducible refine AtT.zl zC ?_ | refine AtT.zn zC ?_
   first | refine AtT.zm qz ?_ | refine AtT.zo qz ?_
   refine AtT.zf ?_
   refine AtT.qm Tryz.underlying22 qO ?_
   intro p84 e84 he84 hc84
   obtain rfl : p = e84 := by have : ps[k]? = some e84 := (by rw [Int.toNat_natCast] at he84; exact he84); rw [hpk] at this; exact Option.some.inj this
   first | refine AtT.zk zK ?_ | with_reducible refine AtT.zl zK ?_ | refine AtT.zn zK ?_
   first | refine AtT.zm qM ?_ | refine AtT.zo qM ?_
   refine AtT.zf ?_
   refine AtT.idx rfl trivial Tryz.underlying66 qZ rfl hsB rfl (by omega) (by omega) (by decide) ?_
   intro p88 e88 he88 hc88
   obtain rfl : B = e88 := by have : p.1.ps[j]? = some e88 := (by rw [Int.toNat_natCast] at he88; exact he88); rw [hB] at this; exact Option.some.inj this
   first | refine AtT.zF qZ ?_ | refine AtT.zJ qZ ?_ | refine AtT.zD qZ ?_
   refine AtT.kneS (eqS69 _ _ _ _) ?_
   refine AtT.done ?_
   refine At.nrm ?_
   refine At.zU rfl (by rw [decide_eq_false (fun h => hab (hAB.1 h))]; rfl) ?_
   refine At.nrm ?_
   refine At.zi (.q 0 .done) ?_
   refine AtT.zg ?_
   refine AtT.done ?_
   refine At.nrm ?_
   exact At.qh rfl (.tmp rfl) (by rw [bo_ne hxk hyk (fun e => by rw [e, hB] at hA; exact hab (Option.some.inj hA).symm)])
 obtain rfl : k = qs.length := by omega
 have hrs : x.rs = y.rs := list_same hRl fun j hj => hall j (by omega)
 refine At.nrm ?_
 refine At.zi (.q 0 .done) ?_
 refine AtT.zg ?_
 refine AtT.done ?_
 refine At.nrm ?_
 refine At.lp (ι := Nat) (KS := fun k => [(2, .pointer (some ⟨b2, 0, none⟩)), (3, .pointer (some ⟨b3, 0, none⟩)), (7, iv k)]) (OS := fun _ => [.blk b2 (LC [.slice aq qs.length cq, .slice a1 x.es.length c1] 26), .blk b3 (LC [.slice ap ps.length cp, .slice a2 y.es.length c2] 26)]) (VS := fun k V2 => V2 = V' ∧ k ≤ x.es.length ∧ ∀ j, j < k → x.es[j]? = y.es[j]?) (μ := fun k => x.es.length - k) 0 ?_ ?_ ?_ ?_
 ·exact ⟨rfl, rfl, rfl, trivial⟩
 ·exact Pt.zI
 ·exact ⟨rfl, Nat.zero_le _, fun j hj => absurd hj (Nat.not_lt_zero j)⟩
 rintro k V2 ks' O' ⟨rfl, hkl2, hea⟩ hk hO hl4
 subst hk hO
 refine At.nrm ?_
 refine At.zi (.q 0 (.q 1 (.q 2 (.q 3 (.q 4 .done))))) ?_
 refine AtT.zf ?_
 first | refine AtT.zk zz ?_ | with_reducible refine AtT.zl zz ?_ | refine AtT.zn zz ?_
 first | refine AtT.zm qo ?_ | refine AtT.zo qo ?_
 first | refine AtT.zR Tryz.underlying24 ?_ | refine AtT.zQ Tryz.underlying24 ?_
 refine AtT.qp ?_
 refine AtT.done ?_
 refine At.nrm ?_
 refine At.qb rfl (fun hp2 => ?_) (fun hp2 => ?_)
 rotate_left
 ·obtain rfl : k = x.es.length := by omega
  have hes := list_same hEl hea
  refine At.nrm ?_
  refine At.zi (.q 0 .done) ?_
  refine AtT.zg ?_
  refine AtT.done ?_
  refine At.nrm ?_
  refine At.qh rfl (.tmp rfl) ?_
  rw [decide_eq_true]
  cases x
  cases y
  simp only at hrs hes
  rw [hrs, hes]
 obtain ⟨A, hA⟩ : ∃ A, x.es[k]? = some A := ⟨_, List.getElem?_eq_getElem (by omega)⟩
 obtain ⟨B, hB⟩ : ∃ B, y.es[k]? = some B := ⟨_, List.getElem?_eq_getElem (by omega)⟩
 have hAB : (A.d = B.d ∧ A.k = B.k ∧ A.t = B.t ∧ A.n = B.n) ↔ A = B := by cases A; cases B; simp
 refine At.nrm ?_
 by_cases hab : A = B
 ·refine At.draw (.q 0 (.q 1 (.q 2 (.q 3 (.q 4 (.q 5 (.q 6 (.q 7 (.q 8 (.q 9 (.q 10 .done))))))))))) ffm (by kernel_rfl) ?_
  first | refine AtT.zk zz ?_ | with_reducible refine AtT.zl zz ?_ | refine AtT.zn zz ?_
  first | refine AtT.zm qo ?_ | refine AtT.zo qo ?_
  refine AtT.zf ?_
  refine AtT.qm Tryz.underlying24 qH ?_
  intro p101 e101 he101 hc101
  obtain rfl : A = e101 := by have : x.es[k]? = some e101 := (by rw [Int.toNat_natCast] at he101; exact he101); rw [hA] at this; exact Option.some.inj this
  first | refine AtT.zF qH ?_ | refine AtT.zJ qH ?_ | refine AtT.zD qH ?_
  first | refine AtT.zk zz ?_ | with_reducible refine AtT.zl zz ?_ | refine AtT.zn zz ?_
  first | refine AtT.zm qo ?_ | refine AtT.zo qo ?_
  refine AtT.zf ?_
  refine AtT.qm Tryz.underlying24 qH ?_
  intro p106 e106 he106 hc106
  obtain rfl : B = e106 := by have : y.es[k]? = some e106 := (by rw [Int.toNat_natCast] at he106; exact he106); rw [hB] at this; exact Option.some.inj this
  first | refine AtT.zF qH ?_ | refine AtT.zJ qH ?_ | refine AtT.zD qH ?_
  refine AtT.kneS (eqS36 _ _ _ _ _ _ _ _) ?_
  refine AtT.done ?_
  refine At.nrm ?_
  refine At.zX rfl (by rw [decide_eq_true (hAB.2 hab)]; rfl) ?_
  refine At.nrm ?_
  refine At.zi (.q 0 (.q 1 (.q 2 .done))) ?_
  refine AtT.zf ?_
  first | refine AtT.qG ?_ | refine AtT.qd ?_
  refine AtT.zg ?_
  refine AtT.done ?_
  refine At.nrm ?_
  refine At.round (k + 1) ?_ ?_ ?_ ?_
  ·show x.es.length - (k + 1) < x.es.length - k; omega
  ·refine ⟨rfl, by omega, fun i hi => ?_⟩
   by_cases e : i = k
   ·subst e; rw [hA, hB, hab]
   ·exact hea i (by omega)
  ·exact ⟨rfl, rfl, ivs (by omega), trivial⟩
  ·exact Pt.zI
 ·refine At.draw (.q 0 (.q 1 (.q 2 (.q 3 (.q 4 (.q 5 (.q 6 (.q 7 (.q 8 (.q 9 (.q 10 .done))))))))))) ffm (by kernel_rfl) ?_
  first | refine AtT.zk zz ?_ | with_reducible refine AtT.zl zz ?_ | refine AtT.zn zz ?_
  first | refine AtT.zm qo ?_ | refine AtT.zo qo ?_
  refine AtT.zf ?_
  refine AtT.qm Tryz.underlying24 qH ?_
  intro p101 e101 he101 hc101
  obtain rfl : A = e101 := by have : x.es[k]? = some e101 := (by rw [Int.toNat_natCast] at he101; exact he101); rw [hA] at this; exact Option.some.inj this
  first | refine AtT.zF qH ?_ | refine AtT.zJ qH ?_ | refine AtT.zD qH ?_
  first | refine AtT.zk zz ?_ | with_reducible refine AtT.zl zz ?_ | refine AtT.zn zz ?_
  first | refine AtT.zm qo ?_ | refine AtT.zo qo ?_
  refine AtT.zf ?_
  refine AtT.qm Tryz.underlying24 qH ?_
  intro p106 e106 he106 hc106
  obtain rfl : B = e106 := by have : y.es[k]? = some e106 := (by rw [Int.toNat_natCast] at he106; exact he106); rw [hB] at this; exact Option.some.inj this
  first | refine AtT.zF qH ?_ | refine AtT.zJ qH ?_ | refine AtT.zD qH ?_
  refine AtT.kneS (eqS36 _ _ _ _ _ _ _ _) ?_
  refine AtT.done ?_
  refine At.nrm ?_
  refine At.zU rfl (by rw [decide_eq_false (fun h => hab (hAB.1 h))]; rfl) ?_
  refine At.nrm ?_
  refine At.zi (.q 0 .done) ?_
  refine AtT.zg ?_
  refine AtT.done ?_
  refine At.nrm ?_
  refine At.qh rfl (.tmp rfl) ?_
  rw [decide_eq_false]
  rintro rfl
  rw [hA] at hB
  exact hab (Option.some.inj hB)
theorem sl_emp {α : Type} {enc : α → List Value} {st : Nat} (V : View) (a : Option Addr) : Sl V enc st (.slice a 0 0) ([] : List α) := ⟨a, 0, rfl, Nat.le_refl _, Nat.zero_le _, fun h => absurd rfl h, fun p _ i x h => by simp at h⟩
theorem clone_f (l : List Pt) (h0 : l ≠ []) (hn : l.length ≤ 100) (V : View) (v : Value) (hs : Sl V pte 2 v l) : Fnc Tryz.prog 65 [v] V fun r V' => ∃ a c, r = .slice a l.length c ∧ Sl V' pte 2 (.slice a l.length c) l := by
 obtain ⟨a, c, rfl, k1, k2, ha, k3⟩ := id hs
 obtain ⟨p, rfl⟩ := Option.isSome_iff_exists.1 (ha h0)
 clear k1 k2 k3
 have hcl : Cells V p (flat pte l) := Sl.cells pte_len hs
 refine ql Tryz.func65 rfl Tryz.ntmps65 (Nat.le_of_ble_eq_true rfl) ?_
 intro w0 hw0
 refine At.nrm ?_
 refine At.zi (.q 0 .done) ?_
 refine AtT.zg ?_
 refine AtT.done ?_
 refine At.nrm ?_
 refine At.zi (.q 0 (.q 1 .done)) ?_
 refine AtT.zf ?_
 refine AtT.eqNil rfl trivial Tryz.underlying66 rfl rfl (by decide) ?_
 refine AtT.done ?_
 refine At.nrm ?_
 refine At.zX rfl rfl ?_
 refine At.nrm ?_
 refine At.zi (.n false 0 (.q 1 (.n true 2 (.q 3 .done)))) ?_
 refine AtT.zN (bs66_0) ?_
 intro q5 V5 hV5 hq5
 have g5 : Le V V5 := by first | exact hV5 | exact Le.trans (by assumption) hV5
 refine AtT.zf ?_
 refine AtT.appendC rfl trivial Tryz.underlying66 rw69 rfl (by decide) rfl (sl_emp _ _) rfl rfl (hcl.le hV5) (fun _ => rfl) h0 (by unfold maxLen; simp only [List.length_nil]; omega) (by simp only [List.length_nil]; omega) (by decide) (enc := pte) (l := []) (m := l) ?_
 intro a7 c7 V7 hV7 hs7
 refine AtT.zg ?_
 refine AtT.done ?_
 refine At.nrm ?_
 exact At.qh rfl (.tmp rfl) ⟨a7, c7, rfl, hs7⟩
def withB (b : Bo) (e : En) : Bo := ⟨b.rs, b.es ++ [e]⟩
theorem rc_parts {rs : List Rc} (h : qL (-1) rs) {r : Rc} (hr : r ∈ rs) : r.ps ≠ [] ∧ r.ps.length ≤ 3 := by
 have := (ky h r hr).len
 exact ⟨fun e => by rw [e] at this; simp at this, this.2⟩
end Go.Proofs.YtpoignmclfdgpaaGreatDoor
set_option linter.unusedVariables false
namespace Go.Proofs.YtpoignmclfdgpaaGreatDoor
open Go.Lw Go.Gl Go.Bk Go.RowKit
def addE (b : Bo) (e : En) : Int := if bkE b ≠ 0 then bkE b else bkE (withB b e)
def addB (b : Bo) (e : En) : Bo := if addE b e ≠ 0 then ⟨[], []⟩ else withB b e
theorem rcs_len {rs : List Rc} (h : qL (-1) rs) : rs.length ≤ 8 := by
 have key : ∀ {l : List Rc} {m : Int}, qL m l → -1 ≤ m → (l.length : Int) + m ≤ 7 ∨ l = [] := by
  intro l
  induction l with
  | nil => intro m _ _; exact .inr rfl
  | cons a l ih =>
   intro m h hm
   cases h with
   | cons h1 h2 =>
    left
    have := h1.lt
    have := h1.g
    rw [List.length_cons]
    push_cast
    rcases ih h2 (by omega) with h | h
    ·omega
    ·subst h; simp; omega
 rcases key h (by omega) with h | h
 ·omega
 ·subst h; simp
theorem jZ (b : Bo) (e : En) (V : View) (v : Value) (hv : BoV V v b) : Fnc Tryz.prog 25 [v, env e] V fun r V' => ∃ u, r = .tuple #[u, iv (addE b e)] ∧ BoV V' u (addB b e) := by
 obtain ⟨v1, a, c, rfl, hr, hes⟩ := id hv
 obtain ⟨qs, aq, cq, hqr, rfl, hsq, hq⟩ := id hr
 have hql : qs.length = b.rs.length := by rw [← hqr, List.length_map]
 have hlenS := hsq.jA
 refine ql Tryz.func25 rfl Tryz.ntmps25 (Nat.le_of_ble_eq_true rfl) ?_
 intro w0 hw0
 refine At.nrm ?_
 refine At.zi (.n false 0 (.n false 1 (.n false 2 (.q 3 .done)))) ?_
 refine AtT.jE ?_
 intro b2
 refine AtT.jE ?_
 intro b3
 refine AtT.zT z26 ?_
 intro b4
 refine AtT.zg ?_
 refine AtT.done ?_
 refine At.nrm ?_
 refine At.zi (.q 0 (.n false 1 (.q 2 .done))) ?_
 first | refine AtT.zF zH ?_ | refine AtT.zJ zH ?_ | refine AtT.zD zH ?_
 refine AtT.zG rfl rfl ok27 (checkBook_f b _ _ hv) ?_
 rintro _ rfl
 refine AtT.zg ?_
 refine AtT.done ?_
 refine At.nrm ?_
 refine At.nrm ?_
 refine At.zi (.q 0 (.q 1 .done)) ?_
 refine AtT.zf ?_
 refine AtT.qE ?_
 refine AtT.done ?_
 refine At.nrm ?_
 refine At.qb rfl (fun h0 => ?_) (fun h0 => ?_)
 ·have hE : addE b e = bkE b := by unfold addE; rw [if_pos h0]
  have hB : addB b e = ⟨[], []⟩ := by unfold addB; rw [if_pos (by rw [hE]; exact h0)]
  rw [hE, hB]
  refine At.nrm ?_
  refine At.zi (.q 0 (.q 1 (.n true 2 (.q 3 .done)))) ?_
  refine AtT.qy (bd26) ?_
  refine AtT.zf ?_
  refine AtT.zy zH ?_
  refine AtT.zg ?_
  refine AtT.done ?_
  refine At.nrm ?_
  exact At.qN rfl (.agg rfl zH zP.zI rfl) (.tmp rfl) ⟨_, rfl, BoV.nil _⟩
 have hR := kF.1 (Classical.not_not.1 h0)
 have hrs := hR.bog.rs
 have hl8 := rcs_len hrs
 have hl24 := hR.len
 have hE : addE b e = bkE (withB b e) := by unfold addE; rw [if_neg h0]
 refine At.nrm ?_
 refine At.zi (.n false 0 .done) ?_
 refine AtT.zT z26 ?_
 intro b7
 refine AtT.done ?_
 refine At.nrm ?_
 refine At.zi (.q 0 (.q 1 (.q 2 (.q 3 .done)))) ?_
 first | refine AtT.zk zC ?_ | with_reducible refine AtT.zl zC ?_ | refine AtT.zn zC ?_
 first | refine AtT.zm qz ?_ | refine AtT.zo qz ?_
 first | refine AtT.zR Tryz.underlying22 ?_ | refine AtT.zQ Tryz.underlying22 ?_
 refine AtT.zf ?_
 refine AtT.done ?_
 refine At.nrm ?_
 refine At.newRow 80 2 ?_
 refine At.lp (ι := Nat × List RcQ × Option Addr × Nat) (KS := fun g => [(2, .pointer (some ⟨b2, 0, none⟩)), (3, .pointer (some ⟨b3, 0, none⟩)), (4, .pointer (some ⟨b4, 0, none⟩)), (7, .pointer (some ⟨b7, 0, none⟩)), (18, .slice aq qs.length cq), (19, iv qs.length), (20, iv g.1)])
  (OS := fun g => [.blk b2 (LC [.slice aq qs.length cq, .slice a b.es.length c] 26), .blk b3 (LC (ene e) 36), .blk b4 (LC [.slice none 0 0, .slice none 0 0] 26), .blk b7 (LC [.slice g.2.2.1 g.2.1.length g.2.2.2, .slice none 0 0] 26), .row (.slice g.2.2.1 g.2.1.length g.2.2.2) 80 2 g.2.1.length (flat rce g.2.1)])
  (VS := fun g V' => Le V V' ∧ g.1 ≤ qs.length ∧ g.2.1.length = g.1 ∧ g.2.1.map (·.1) = b.rs.take g.1 ∧ RsQ V' g.2.1) (μ := fun g => qs.length - g.1) (0, [], none, 0) ?_ ?_ ?_ ?_
 ·exact ⟨rfl, rfl, rfl, rfl, rfl, rfl, rfl, trivial⟩
 ·exact Pt.zI
 ·exact ⟨Le.refl _, Nat.zero_le _, rfl, rfl, fun x hx => by cases hx⟩
 rintro ⟨k, L, ao, co⟩ V' ks' O' ⟨hVV, hkl, hLk, hLr, hLq⟩ hk hO hl2
 dsimp only at hkl hLk hLr hLq hk hO
 subst hk hO
 have hsq' := hsq.le hVV
 have hq' := hq.le hVV
 have hes' := hes.le hVV
 refine At.nrm ?_
 refine At.zi (.q 0 .done) ?_
 refine AtT.qp ?_
 refine AtT.done ?_
 refine At.nrm ?_
 refine At.qb rfl (fun hp => ?_) (fun hp => ?_)
 ·obtain ⟨x, hx⟩ : ∃ x, qs[k]? = some x := ⟨_, List.getElem?_eq_getElem (by omega)⟩
  have hbx : b.rs[k]? = some x.1 := by rw [← hqr]; exact qs_at hx
  have htk := take_snoc2 hbx
  have hpx := rc_parts hrs (List.mem_of_getElem? hbx)
  have hsx := hq' x (qs_mem hx)
  refine At.nrm ?_
  refine At.zi (.q 0 (.q 1 (.n false 2 (.n true 3 .done)))) ?_
  refine AtT.qm Tryz.underlying22 qO ?_
  intro p22 e22 he22 hc22
  obtain rfl : x = e22 := by have : qs[k]? = some e22 := (by rw [Int.toNat_natCast] at he22; exact he22); rw [hx] at this; exact Option.some.inj this
  first | refine AtT.zF qO ?_ | refine AtT.zJ qO ?_ | refine AtT.zD qO ?_
  refine AtT.zT z80 ?_
  intro b9
  refine AtT.zy qO ?_
  refine AtT.done ?_
  refine At.nrm ?_
  refine At.nrm ?_
  refine At.draw (.q 0 (.q 1 (.q 2 (.q 3 (.q 4 (.q 5 (.n false 6 (.q 7 (.n false 8 (.n true 9 (.q 10 (.n true 11 .done)))))))))))) ffm (by kernel_rfl) ?_
  first | refine AtT.zk zC ?_ | with_reducible refine AtT.zl zC ?_ | refine AtT.zn zC ?_
  first | refine AtT.zm qz ?_ | refine AtT.zo qz ?_
  first | refine AtT.zk zY ?_ | with_reducible refine AtT.zl zY ?_ | refine AtT.zn zY ?_
  first | refine AtT.zm tk3 ?_ | refine AtT.zo tk3 ?_
  first | refine AtT.zk zK ?_ | with_reducible refine AtT.zl zK ?_ | refine AtT.zn zK ?_
  first | refine AtT.zm qM ?_ | refine AtT.zo qM ?_
  refine AtT.qg rfl rfl ok65 (clone_f x.1.ps hpx.1 (by omega) _ _ hsx) ?_
  rintro v30 V30 hV30 ⟨a30, c30, rfl, hs30⟩; have k30 := hVV.trans hV30
  refine AtT.qy (bd80_0_1 _ _ _ _) ?_
  refine AtT.zN (bs22_1_0 _ _ _ _) ?_
  intro q32 V32 hV32 hq32
  have g32 : Le V V32 := by first | exact hV32 | exact Le.trans (by assumption) hV32
  first | refine AtT.qX Tryz.underlying22 rw80 ?_
  intro a33 c33
  first | refine AtT.zk zC ?_ | with_reducible refine AtT.zl zC ?_ | refine AtT.zn zC ?_
  first | refine AtT.jc qz ?_ | refine AtT.zy qz ?_
  refine AtT.done ?_
  refine At.nrm ?_
  refine At.nrm ?_
  refine At.zi (.q 0 (.q 1 .done)) ?_
  first | refine AtT.qG ?_ | refine AtT.qd ?_
  refine AtT.zf ?_
  refine AtT.done ?_
  refine At.nrm ?_
  refine At.round (k + 1, L ++ [(x.1, a30, c30)], a33, c33) ?_ ?_ ?_ ?_
  ·show qs.length - (k + 1) < qs.length - k; omega
  ·refine ⟨by first | assumption | exact hVV.trans (by assumption) | exact (hVV.trans hV30).trans (by assumption), by dsimp only; omega, by dsimp only; rw [List.length_append, hLk]; rfl, by dsimp only; rw [List.map_append, hLr, htk]; rfl, fun y hy => ?_⟩
   rcases List.mem_append.1 hy with h | h
   ·exact (hLq y h).le (by first | assumption | exact Le.trans hV30 (by assumption))
   ·rw [List.mem_singleton] at h; subst h
    exact hs30.le (by assumption)
  ·exact ⟨rfl, rfl, rfl, rfl, rfl, rfl, ivs (by push_cast; omega), trivial⟩
  dsimp only
  rw [qY, List.length_append]
  ·exact Pt.zI
 obtain rfl : k = qs.length := by omega
 rw [hql, List.take_length] at hLr
 refine At.nrm ?_
 refine At.jF (l := L) (m := L.length) rce_len rfl rfl zP.zI (fun V3 hV3 hs3 => ?_)
 have hes3 := hes'.le hV3
 have kV3 := hVV.trans hV3
 refine At.cutG (ι := Option Addr × Nat) (fun _ => [(4, .pointer (some ⟨b4, 0, none⟩)), (7, .pointer (some ⟨b7, 0, none⟩))]) (fun g => [.blk b4 (LC [.slice none 0 0, .slice none 0 0] 26), .blk b7 (LC [.slice ao L.length co, .slice g.1 (b.es ++ [e]).length g.2] 26)]) (fun g V'' => Le V3 V'' ∧ Sl V'' ene 4 (.slice g.1 (b.es ++ [e]).length g.2) (b.es ++ [e])) ?_ ?_
 ·refine At.draw (.q 0 (.q 1 (.q 2 (.q 3 (.q 4 (.q 5 (.q 6 (.q 7 (.q 8 (.q 9 (.n false 10 (.n false 11 (.q 12 (.n true 13 .done)))))))))))))) ffm (by kernel_rfl) ?_
  first | refine AtT.zk zz ?_ | with_reducible refine AtT.zl zz ?_ | refine AtT.zn zz ?_
  first | refine AtT.zm qo ?_ | refine AtT.zo qo ?_
  first | refine AtT.zk zz ?_ | with_reducible refine AtT.zl zz ?_ | refine AtT.zn zz ?_
  first | refine AtT.zm qo ?_ | refine AtT.zo qo ?_
  first | refine AtT.zR Tryz.underlying24 ?_ | refine AtT.zQ Tryz.underlying24 ?_
  first | refine AtT.zk zz ?_ | with_reducible refine AtT.zl zz ?_ | refine AtT.zn zz ?_
  first | refine AtT.zm qo ?_ | refine AtT.zo qo ?_
  first | refine AtT.zR Tryz.underlying24 ?_ | refine AtT.zQ Tryz.underlying24 ?_
  first | refine AtT.kclipAll Tryz.underlying24 qH ?_ | refine AtT.kclip Tryz.underlying24 qH ?_
  intro a44 hs44
  first | refine AtT.zF qH ?_ | refine AtT.zJ qH ?_ | refine AtT.zD qH ?_
  refine AtT.zN (bs24_1_0 _ _ _ _) ?_
  intro q46 V46 hV46 hq46
  have g46 : Le V V46 := by first | exact hV46 | exact Le.trans (by assumption) hV46
  refine AtT.appendC rfl trivial Tryz.underlying24 rw36 rfl (by decide) rfl (by first | assumption | exact Sl.le (by assumption) (by assumption)) rfl rfl (by first | assumption | exact Cells.le (by assumption) (by assumption)) (fun _ => rfl) (by simp) (by unfold maxLen; simp only [List.length_cons, List.length_nil]; omega) (by simp only [List.length_cons, List.length_nil]; omega) (by decide) (enc := ene) (m := [e]) ?_
  intro a47 c47 V47 hV47 hs47
  have g47 : Le V V47 := by first | exact hV47 | exact Le.trans (by assumption) hV47
  first | refine AtT.zk zz ?_ | with_reducible refine AtT.zl zz ?_ | refine AtT.zn zz ?_
  first | refine AtT.jc qo ?_ | refine AtT.zy qo ?_
  refine AtT.done ?_
  refine At.nrm ?_
  all_goals (exact At.jP (a47, c47) ⟨by first | assumption | exact Le.trans (by assumption) (by assumption), hs47⟩ ⟨rfl, rfl, trivial⟩ Pt.zI)
 rintro ⟨ae, ce⟩ V4 ks' O' ⟨hV4, hse⟩ hk hO hl4
 dsimp only at hse hk hO
 subst hk hO
 have hvw : BoV V4 (.agg #[.slice ao L.length co, .slice ae (b.es ++ [e]).length ce]) (withB b e) := ⟨_, ae, ce, rfl, ⟨L, ao, co, hLr, rfl, hs3.le hV4, (hLq.le hV3).le hV4⟩, hse⟩
 refine At.nrm ?_
 refine At.zi (.q 0 (.n false 1 (.q 2 .done))) ?_
 first | refine AtT.zF zH ?_ | refine AtT.zJ zH ?_ | refine AtT.zD zH ?_
 refine AtT.zG rfl rfl ok27 (checkBook_f (withB b e) _ _ hvw) ?_
 rintro _ rfl
 refine AtT.zg ?_
 refine AtT.done ?_
 refine At.nrm ?_
 refine At.nrm ?_
 refine At.zi (.q 0 (.q 1 .done)) ?_
 refine AtT.zf ?_
 refine AtT.qE ?_
 refine AtT.done ?_
 refine At.nrm ?_
 refine At.qb rfl (fun h1 => ?_) (fun h1 => ?_)
 ·have hB : addB b e = ⟨[], []⟩ := by unfold addB; rw [if_pos (by rw [hE]; exact h1)]
  rw [hE, hB]
  refine At.nrm ?_
  refine At.zi (.q 0 (.q 1 (.n true 2 (.q 3 .done)))) ?_
  refine AtT.qy (bd26) ?_
  refine AtT.zf ?_
  refine AtT.zy zH ?_
  refine AtT.zg ?_
  refine AtT.done ?_
  refine At.nrm ?_
  exact At.qN rfl (.agg rfl zH zP.zI rfl) (.tmp rfl) ⟨_, rfl, BoV.nil _⟩
 have hB : addB b e = withB b e := by unfold addB; rw [if_neg (by rw [hE]; exact h1)]
 have hE0 : addE b e = 0 := by rw [hE]; exact Classical.not_not.1 h1
 rw [hE0, hB]
 refine At.nrm ?_
 refine At.zi (.q 0 (.n true 1 (.q 2 .done))) ?_
 first | refine AtT.zF zH ?_ | refine AtT.zJ zH ?_ | refine AtT.zD zH ?_
 refine AtT.zy zH ?_
 refine AtT.zg ?_
 refine AtT.done ?_
 refine At.nrm ?_
 exact At.qN rfl (.agg rfl zH zP.zI rfl) (.tmp rfl) ⟨_, rfl, hvw⟩
end Go.Proofs.YtpoignmclfdgpaaGreatDoor
set_option linter.unusedVariables false
namespace Go.Proofs.YtpoignmclfdgpaaGreatDoor
open Go.Lw Go.Gl Go.Bk Go.RowKit
/-! What the examples of the chapter come to. -/
abbrev box : Bo := withB bo6 ⟨6, 4, 4, 0⟩
theorem c_r1E : rawE rs2 3 1 = 0 := by decide +kernel
theorem c_r1 : rawL rs2 3 1 = [4, 2] ++ List.replicate 6 0 := by decide +kernel
theorem c_r2E : rawE rs2 0 4 = 0 := by decide +kernel
theorem c_r2 : rawL rs2 0 4 = [4] ++ List.replicate 7 0 := by decide +kernel
theorem c_r3E : rawE rs2 8 1 = 2 := by decide +kernel
theorem c_b : bkE bo6 = 0 := by decide +kernel
theorem c_n6E : cntE bo6 6 = 0 := by decide +kernel
theorem c_n6 : cntL bo6 6 = [0, 1, 2, 4, 5] := by decide +kernel
theorem c_n4E : cntE bo6 4 = 0 := by decide +kernel
theorem c_n4 : cntL bo6 4 = [0, 1, 2, 3] := by decide +kernel
theorem c_n7E : cntE bo6 7 = 2 := by decide +kernel
theorem c_s1E : stkE bo6 6 9 = 0 := by decide +kernel
theorem c_s1 : stkL bo6 6 9 = [3, 2, 1, 1] ++ List.replicate 4 0 := by decide +kernel
theorem c_s2E : stkE bo6 4 9 = 0 := by decide +kernel
theorem c_s2 : stkL bo6 4 9 = [3, 2, 2] ++ List.replicate 5 0 := by decide +kernel
theorem c_s3E : stkE bo6 6 2 = 0 := by decide +kernel
theorem c_s3 : stkL bo6 6 2 = [3, 2, 3] ++ List.replicate 5 0 := by decide +kernel
theorem c_a1 : addE bo6 ⟨6, 4, 4, 0⟩ = 0 := by decide +kernel
theorem c_a1B : addB bo6 ⟨6, 4, 4, 0⟩ = box := by unfold addB; rw [if_neg (by rw [c_a1]; decide)]
theorem c_a2 : addE bo6 ⟨6, 2, 2, 2⟩ = 28 := by decide +kernel
theorem c_a3 : addE bo6 ⟨4, 1, 0, 1⟩ = 12 := by decide +kernel
theorem c_a4 : addE bo6 ⟨6, 3, 4, 1⟩ = 16 := by decide +kernel
theorem c_a5 : addE bo6 ⟨6, 4, 6, 0⟩ = 2 := by decide +kernel
theorem c_m1E : mostE bo6 2 = 0 := by decide +kernel
theorem c_m2E : mostE bo6 3 = 0 := by decide +kernel
theorem c_m3E : mostE bo6 0 = 16 := by decide +kernel
theorem most_of {b : Bo} {g : Nat} (hg : g < 8) (hb : bkE b = 0) (hE : mostE b g = 0) {m : Nat} (h1 : canS b.rs (cutS (stkF b b.es.length 999)) g m = true) (h2 : canS b.rs (cutS (stkF b b.es.length 999)) g (m + 1 : Nat) = false) : mostV b g = m := by
 have hR := kF.1 hb
 obtain ⟨st, hst⟩ := hR.st (Nat.le_refl _) 999
 have hF : stkF b b.es.length 999 = st := stkF_some hst
 have hk := stkOk_of hR.bog (Nat.le_refl _) hst
 unfold mostV
 rw [if_neg (by rw [hE]; decide), Int.toNat_natCast]
 rw [hF] at h1 h2 ⊢
 have := mostS_of hR.bog.rs (fun s => (hk.bd s).1) hk.sum hg (.inr h1) fun c hc => canS_up hR.bog.rs (show m + 1 ≤ c by omega) h2
 omega
theorem c_m1 : mostV bo6 2 = 1 := most_of (g := 2) (m := 1) (by decide) c_b c_m1E (by decide +kernel) (by decide +kernel)
theorem c_m2 : mostV bo6 3 = 1 := most_of (g := 3) (m := 1) (by decide) c_b c_m2E (by decide +kernel) (by decide +kernel)
theorem c_k1 : chk [97] = [48, 48, 54, 50, 48, 48, 54, 50] := by decide +kernel
theorem c_k2 : chk [114, 32, 50, 32, 48, 32, 50, 32, 49, 32, 49, 10, 114, 32, 51, 32, 50, 32, 50, 10] = [50, 56, 48, 52, 48, 51, 56, 54] := by decide +kernel
theorem c_x : bkE box = 0 := by decide +kernel
theorem c_x1E : stkE box 7 9 = 0 := by decide +kernel
theorem c_x1 : stkL box 7 9 = [3, 2, 0, 1] ++ List.replicate 4 0 := by decide +kernel
theorem c_fl : (fileT bo6).length ≤ 4000 := by have := (kF.1 c_b).file_len; omega
theorem c_load : loadR (fileT bo6) = (bo6, 0) := load_file (kF.1 c_b).nm c_b c_fl
end Go.Proofs.YtpoignmclfdgpaaGreatDoor
set_option linter.unusedVariables false
set_option maxRecDepth 20000
namespace Go.Proofs.YtpoignmclfdgpaaGreatDoor
open Go.Lw Go.Gl Go.Bk Go.RowKit
set_option maxHeartbeats 3200000 in
theorem works_f (V : View) (hg : GvV V) : Fnc Tryz.prog 17 [] V fun r _ => r = .bool true := by
 refine ql Tryz.func17 rfl Tryz.ntmps17 (Nat.le_of_ble_eq_true rfl) ?_
 intro w0 hw0
 refine At.nrm ?_
 refine At.zi (.q 0 .done) ?_
 refine AtT.zg ?_
 refine AtT.done ?_
 refine At.nrm ?_
 refine At.zi (.n false 0 (.n false 1 (.n false 2 (.q 3 (.n true 4 .done))))) ?_
 refine AtT.qg rfl rfl ok51 (two_f _) ?_
 rintro v46 V46 hV46 hr
 refine AtT.qg rfl rfl ok53 (six_f _) ?_
 rintro _ V47 hV47 ⟨w47, a47, c47, rfl, ⟨q47, z47, y47, e47, rfl, i47, j47⟩, hs47⟩
 refine AtT.zT z26 ?_
 intro b2
 refine AtT.zg ?_
 refine AtT.zy zH ?_
 refine AtT.done ?_
 refine At.nrm ?_
 have hb : BoV V47 (.agg #[.slice z47 q47.length y47, .slice a47 bo6.es.length c47]) bo6 := ⟨_, _, _, rfl, ⟨q47, z47, y47, e47, rfl, i47, j47⟩, hs47⟩
 clear e47 i47 j47 hs47
 replace hg := (hg.le hV46).le hV47
 replace hr := hr.le hV47
 clear hV46 hV47
 refine At.zi (.q 0 (.n false 1 (.q 2 (.q 3 (.q 4 (.q 5 (.q 6 .done))))))) ?_
 refine AtT.zf ?_
 refine AtT.qg rfl rfl ok18 (praw_f rs2 3 1 _ _ hr) ?_
 rintro _ V50 hV50 ⟨u50, rfl, h50⟩; rw [c_r1E]
 refine AtT.zf ?_
 refine AtT.zt ?_
 refine AtT.zt ?_
 refine AtT.zg ?_
 refine AtT.zg ?_
 refine AtT.done ?_
 refine At.nrm ?_
 replace hg := hg.le hV50
 replace hr := hr.le hV50
 replace hb := hb.le hV50
 clear hV50
 rw [c_r1] at h50
 refine At.zi (.q 0 (.n false 1 (.q 2 (.q 3 (.q 4 (.q 5 (.q 6 .done))))))) ?_
 refine AtT.zf ?_
 refine AtT.qg rfl rfl ok18 (praw_f rs2 0 4 _ _ hr) ?_
 rintro _ V55 hV55 ⟨u55, rfl, h55⟩; rw [c_r2E]
 refine AtT.zf ?_
 refine AtT.zt ?_
 refine AtT.zt ?_
 refine AtT.zg ?_
 refine AtT.zg ?_
 refine AtT.done ?_
 refine At.nrm ?_
 replace hg := hg.le hV55
 replace hr := hr.le hV55
 replace hb := hb.le hV55
 replace h50 := h50.le hV55
 clear hV55
 rw [c_r2] at h55
 refine At.zi (.q 0 (.n false 1 (.q 2 (.q 3 (.q 4 (.q 5 (.q 6 .done))))))) ?_
 refine AtT.zf ?_
 refine AtT.qg rfl rfl ok18 (praw_f rs2 8 1 _ _ hr) ?_
 rintro _ V60 hV60 ⟨u60, rfl, h60⟩; rw [c_r3E]
 refine AtT.zf ?_
 refine AtT.zt ?_
 refine AtT.zt ?_
 refine AtT.zg ?_
 refine AtT.zg ?_
 refine AtT.done ?_
 refine At.nrm ?_
 replace hg := hg.le hV60
 replace hr := hr.le hV60
 replace hb := hb.le hV60
 replace h50 := h50.le hV60
 replace h55 := h55.le hV60
 clear hV60
 clear h60
 refine At.zi (.q 0 (.n false 1 (.q 2 (.q 3 (.q 4 (.q 5 (.q 6 .done))))))) ?_
 first | refine AtT.zF zH ?_ | refine AtT.zJ zH ?_ | refine AtT.zD zH ?_
 refine AtT.qg rfl rfl ok23 (pcounting_f bo6 6 _ _ hb) ?_
 rintro _ V65 hV65 ⟨u65, rfl, h65⟩; rw [c_n6E]
 refine AtT.zf ?_
 refine AtT.zt ?_
 refine AtT.zt ?_
 refine AtT.zg ?_
 refine AtT.zg ?_
 refine AtT.done ?_
 refine At.nrm ?_
 replace hg := hg.le hV65
 replace hr := hr.le hV65
 replace hb := hb.le hV65
 replace h50 := h50.le hV65
 replace h55 := h55.le hV65
 clear hV65
 rw [c_n6] at h65
 refine At.zi (.q 0 (.n false 1 (.q 2 (.q 3 (.q 4 (.q 5 (.q 6 .done))))))) ?_
 first | refine AtT.zF zH ?_ | refine AtT.zJ zH ?_ | refine AtT.zD zH ?_
 refine AtT.qg rfl rfl ok23 (pcounting_f bo6 4 _ _ hb) ?_
 rintro _ V70 hV70 ⟨u70, rfl, h70⟩; rw [c_n4E]
 refine AtT.zf ?_
 refine AtT.zt ?_
 refine AtT.zt ?_
 refine AtT.zg ?_
 refine AtT.zg ?_
 refine AtT.done ?_
 refine At.nrm ?_
 replace hg := hg.le hV70
 replace hr := hr.le hV70
 replace hb := hb.le hV70
 replace h50 := h50.le hV70
 replace h55 := h55.le hV70
 replace h65 := h65.le hV70
 clear hV70
 rw [c_n4] at h70
 refine At.zi (.q 0 (.n false 1 (.q 2 (.q 3 (.q 4 (.q 5 (.q 6 .done))))))) ?_
 first | refine AtT.zF zH ?_ | refine AtT.zJ zH ?_ | refine AtT.zD zH ?_
 refine AtT.qg rfl rfl ok23 (pcounting_f bo6 7 _ _ hb) ?_
 rintro _ V75 hV75 ⟨u75, rfl, h75⟩; rw [c_n7E]
 refine AtT.zf ?_
 refine AtT.zt ?_
 refine AtT.zt ?_
 refine AtT.zg ?_
 refine AtT.zg ?_
 refine AtT.done ?_
 refine At.nrm ?_
 replace hg := hg.le hV75
 replace hr := hr.le hV75
 replace hb := hb.le hV75
 replace h50 := h50.le hV75
 replace h55 := h55.le hV75
 replace h65 := h65.le hV75
 replace h70 := h70.le hV75
 clear hV75
 clear h75
 refine At.zi (.q 0 (.n false 1 (.q 2 (.q 3 (.q 4 (.q 5 (.q 6 .done))))))) ?_
 first | refine AtT.zF zH ?_ | refine AtT.zJ zH ?_ | refine AtT.zD zH ?_
 refine AtT.qg rfl rfl ok31 (pstock_f bo6 6 9 _ _ hb) ?_
 rintro _ V80 hV80 ⟨u80, rfl, h80⟩; rw [c_s1E]
 refine AtT.zf ?_
 refine AtT.zt ?_
 refine AtT.zt ?_
 refine AtT.zg ?_
 refine AtT.zg ?_
 refine AtT.done ?_
 refine At.nrm ?_
 replace hg := hg.le hV80
 replace hr := hr.le hV80
 replace hb := hb.le hV80
 replace h50 := h50.le hV80
 replace h55 := h55.le hV80
 replace h65 := h65.le hV80
 replace h70 := h70.le hV80
 clear hV80
 rw [c_s1] at h80
 refine At.zi (.q 0 (.n false 1 (.q 2 (.q 3 (.q 4 (.q 5 (.q 6 .done))))))) ?_
 first | refine AtT.zF zH ?_ | refine AtT.zJ zH ?_ | refine AtT.zD zH ?_
 refine AtT.qg rfl rfl ok31 (pstock_f bo6 4 9 _ _ hb) ?_
 rintro _ V85 hV85 ⟨u85, rfl, h85⟩; rw [c_s2E]
 refine AtT.zf ?_
 refine AtT.zt ?_
 refine AtT.zt ?_
 refine AtT.zg ?_
 refine AtT.zg ?_
 refine AtT.done ?_
 refine At.nrm ?_
 replace hg := hg.le hV85
 replace hr := hr.le hV85
 replace hb := hb.le hV85
 replace h50 := h50.le hV85
 replace h55 := h55.le hV85
 replace h65 := h65.le hV85
 replace h70 := h70.le hV85
 replace h80 := h80.le hV85
 clear hV85
 rw [c_s2] at h85
 refine At.zi (.q 0 (.n false 1 (.q 2 (.q 3 (.q 4 (.q 5 (.q 6 .done))))))) ?_
 first | refine AtT.zF zH ?_ | refine AtT.zJ zH ?_ | refine AtT.zD zH ?_
 refine AtT.qg rfl rfl ok31 (pstock_f bo6 6 2 _ _ hb) ?_
 rintro _ V90 hV90 ⟨u90, rfl, h90⟩; rw [c_s3E]
 refine AtT.zf ?_
 refine AtT.zt ?_
 refine AtT.zt ?_
 refine AtT.zg ?_
 refine AtT.zg ?_
 refine AtT.done ?_
 refine At.nrm ?_
 replace hg := hg.le hV90
 replace hr := hr.le hV90
 replace hb := hb.le hV90
 replace h50 := h50.le hV90
 replace h55 := h55.le hV90
 replace h65 := h65.le hV90
 replace h70 := h70.le hV90
 replace h80 := h80.le hV90
 replace h85 := h85.le hV90
 clear hV90
 rw [c_s3] at h90
 refine At.cutG (ι := Nat × Option Addr × Nat × Nat × Option Addr × Nat) (fun g => [(1, v46), (2, .pointer (some ⟨b2, 0, none⟩)), (3, u50), (4, iv 0), (5, u55), (6, iv 0), (8, iv 2), (9, u65), (10, iv 0), (11, u70), (12, iv 0), (14, iv 2), (15, u80), (16, iv 0), (17, u85), (18, iv 0), (19, u90), (20, iv 0), (21, .pointer (some ⟨g.1, 0, none⟩)), (22, iv 0)]) (fun g => [.blk b2 (LC [.slice z47 q47.length y47, .slice a47 bo6.es.length c47] 26), .blk g.1 (LC [.slice g.2.1 g.2.2.1 g.2.2.2.1, .slice g.2.2.2.2.1 box.es.length g.2.2.2.2.2] 26)]) (fun g V'' => GvV V'' ∧ RsV V'' v46 rs2 ∧ BoV V'' (.agg #[.slice z47 q47.length y47, .slice a47 bo6.es.length c47]) bo6 ∧ SlI V'' u50 ([4, 2] ++ List.replicate 6 0) ∧ SlI V'' u55 ([4] ++ List.replicate 7 0) ∧ SlI V'' u65 [0, 1, 2, 4, 5] ∧ SlI V'' u70 [0, 1, 2, 3] ∧ SlI V'' u80 ([3, 2, 1, 1] ++ List.replicate 4 0) ∧ SlI V'' u85 ([3, 2, 2] ++ List.replicate 5 0) ∧ SlI V'' u90 ([3, 2, 3] ++ List.replicate 5 0) ∧ BoV V'' (.agg #[.slice g.2.1 g.2.2.1 g.2.2.2.1, .slice g.2.2.2.2.1 box.es.length g.2.2.2.2.2]) box) ?_ ?_
 ·refine At.draw (.q 0 (.two 1 (.two 2 (.q 3 (.q 4 (.q 5 (.n false 6 (.n false 7 (.q 8 .done)))))) 6 (.n false 2 (.q 3 (.q 4 (.q 5 (.n false 7 (.q 8 .done))))))) 6 (.n false 1 (.n false 2 (.q 3 (.q 4 (.q 5 (.n false 7 (.q 8 .done))))))))) ffm (by kernel_rfl) ?_
  refine AtC.start ?_
  refine AtC.pre (fun hle0 => ?_)
  refine AtC.kq (by (first | refine AtT.zF zH ?_ | refine AtT.zJ zH ?_ | refine AtT.zD zH ?_); exact At.knows) ?_
  refine AtC.two ?_ ?_
  focus
   refine AtC.nz ?_
   refine AtT.zG rfl rfl ok44 (jo 6 4 4 0 _) ?_
   rintro _ rfl
   refine AtC.kgo ?_
   refine AtC.two ?_ ?_
   focus
    refine AtC.nz ?_
    refine AtT.qg rfl rfl ok25 (jZ bo6 ⟨6, 4, 4, 0⟩ _ _ hb) ?_
    rintro _ V96 hV96 ⟨u96, rfl, hu96⟩; rw [c_a1]; rw [c_a1B] at hu96; replace hg := hg.le hV96; replace hr := hr.le hV96; replace hb := hb.le hV96; replace h50 := h50.le hV96; replace h55 := h55.le hV96; replace h65 := h65.le hV96; replace h70 := h70.le hV96; replace h80 := h80.le hV96; replace h85 := h85.le hV96; replace h90 := h90.le hV96; obtain ⟨w96, a96, c96, rfl, ⟨q96, z96, y96, e96, rfl, i96, j96⟩, hs96⟩ := id hu96; clear e96 i96 j96 hs96
    refine AtC.kgo ?_
    refine AtC.kq (by (refine AtT.zf ?_); exact At.knows) ?_
    refine AtC.kq (by (refine AtT.zt ?_); exact At.knows) ?_
    refine AtC.kq (by (refine AtT.zt ?_); exact At.knows) ?_
    refine AtC.nz ?_
    refine AtT.zT z26 ?_
    intro b21
    refine AtC.kgo ?_
    refine AtC.nz ?_
    refine AtT.zy zH ?_
    refine AtC.kgo ?_
    refine AtC.kq (by (refine AtT.zg ?_); exact At.knows) ?_
    refine AtC.done ?_
   rotate_right
   focus
    refine AtC.nz ?_
    refine AtT.zT z26 ?_
    intro b21
    refine AtC.kgo ?_
    refine AtC.nz ?_
    refine AtT.qg rfl rfl ok25 (jZ bo6 ⟨6, 4, 4, 0⟩ _ _ hb) ?_
    rintro _ V96 hV96 ⟨u96, rfl, hu96⟩; rw [c_a1]; rw [c_a1B] at hu96; replace hg := hg.le hV96; replace hr := hr.le hV96; replace hb := hb.le hV96; replace h50 := h50.le hV96; replace h55 := h55.le hV96; replace h65 := h65.le hV96; replace h70 := h70.le hV96; replace h80 := h80.le hV96; replace h85 := h85.le hV96; replace h90 := h90.le hV96; obtain ⟨w96, a96, c96, rfl, ⟨q96, z96, y96, e96, rfl, i96, j96⟩, hs96⟩ := id hu96; clear e96 i96 j96 hs96
    refine AtC.kgo ?_
    refine AtC.kq (by (refine AtT.zf ?_); exact At.knows) ?_
    refine AtC.kq (by (refine AtT.zt ?_); exact At.knows) ?_
    refine AtC.kq (by (refine AtT.zt ?_); exact At.knows) ?_
    refine AtC.nz ?_
    refine AtT.zy zH ?_
    refine AtC.kgo ?_
    refine AtC.kq (by (refine AtT.zg ?_); exact At.knows) ?_
    refine AtC.done ?_
  rotate_right
  focus
   refine AtC.nz ?_
   refine AtT.zT z26 ?_
   intro b21
   refine AtC.kgo ?_
   refine AtC.nz ?_
   refine AtT.zG rfl rfl ok44 (jo 6 4 4 0 _) ?_
   rintro _ rfl
   refine AtC.kgo ?_
   refine AtC.nz ?_
   refine AtT.qg rfl rfl ok25 (jZ bo6 ⟨6, 4, 4, 0⟩ _ _ hb) ?_
   rintro _ V96 hV96 ⟨u96, rfl, hu96⟩; rw [c_a1]; rw [c_a1B] at hu96; replace hg := hg.le hV96; replace hr := hr.le hV96; replace hb := hb.le hV96; replace h50 := h50.le hV96; replace h55 := h55.le hV96; replace h65 := h65.le hV96; replace h70 := h70.le hV96; replace h80 := h80.le hV96; replace h85 := h85.le hV96; replace h90 := h90.le hV96; obtain ⟨w96, a96, c96, rfl, ⟨q96, z96, y96, e96, rfl, i96, j96⟩, hs96⟩ := id hu96; clear e96 i96 j96 hs96
   refine AtC.kgo ?_
   refine AtC.kq (by (refine AtT.zf ?_); exact At.knows) ?_
   refine AtC.kq (by (refine AtT.zt ?_); exact At.knows) ?_
   refine AtC.kq (by (refine AtT.zt ?_); exact At.knows) ?_
   refine AtC.nz ?_
   refine AtT.zy zH ?_
   refine AtC.kgo ?_
   refine AtC.kq (by (refine AtT.zg ?_); exact At.knows) ?_
   refine AtC.done ?_
  all_goals (refine At.nrm ?_)
  all_goals exact At.jP (b21, z96, q96.length, y96, a96, c96) ⟨hg, hr, hb, h50, h55, h65, h70, h80, h85, h90, hu96⟩ ⟨rfl, rfl, rfl, rfl, rfl, rfl, rfl, rfl, rfl, rfl, rfl, rfl, rfl, rfl, rfl, rfl, rfl, rfl, rfl, rfl, trivial⟩ Pt.zI
 rintro ⟨b21, z96, n96, y96, a96, c96⟩ Vc11 ks' O' ⟨hg, hr, hb, h50, h55, h65, h70, h80, h85, h90, hu96⟩ hk hO hl11
 dsimp only at hk hO hu96
 subst hk hO
 refine At.nrm ?_
 refine At.cutG (ι := Unit) (fun _ => [(1, v46), (2, .pointer (some ⟨b2, 0, none⟩)), (3, u50), (4, iv 0), (5, u55), (6, iv 0), (8, iv 2), (9, u65), (10, iv 0), (11, u70), (12, iv 0), (14, iv 2), (15, u80), (16, iv 0), (17, u85), (18, iv 0), (19, u90), (20, iv 0), (21, .pointer (some ⟨b21, 0, none⟩)), (22, iv 0), (24, iv 28)]) (fun _ => [.blk b2 (LC [.slice z47 q47.length y47, .slice a47 bo6.es.length c47] 26), .blk b21 (LC [.slice z96 n96 y96, .slice a96 box.es.length c96] 26)]) (fun _ V'' => GvV V'' ∧ RsV V'' v46 rs2 ∧ BoV V'' (.agg #[.slice z47 q47.length y47, .slice a47 bo6.es.length c47]) bo6 ∧ SlI V'' u50 ([4, 2] ++ List.replicate 6 0) ∧ SlI V'' u55 ([4] ++ List.replicate 7 0) ∧ SlI V'' u65 [0, 1, 2, 4, 5] ∧ SlI V'' u70 [0, 1, 2, 3] ∧ SlI V'' u80 ([3, 2, 1, 1] ++ List.replicate 4 0) ∧ SlI V'' u85 ([3, 2, 2] ++ List.replicate 5 0) ∧ SlI V'' u90 ([3, 2, 3] ++ List.replicate 5 0) ∧ BoV V'' (.agg #[.slice z96 n96 y96, .slice a96 box.es.length c96]) box) ?_ ?_
 ·refine At.draw (.q 0 (.two 1 (.two 2 (.q 3 (.q 4 (.q 5 (.n false 6 (.n false 7 (.q 8 .done)))))) 6 (.n false 2 (.q 3 (.q 4 (.q 5 (.n false 7 (.q 8 .done))))))) 6 (.n false 1 (.n false 2 (.q 3 (.q 4 (.q 5 (.n false 7 (.q 8 .done))))))))) ffm (by kernel_rfl) ?_
  refine AtC.start ?_
  refine AtC.pre (fun hle0 => ?_)
  refine AtC.kq (by (first | refine AtT.zF zH ?_ | refine AtT.zJ zH ?_ | refine AtT.zD zH ?_); exact At.knows) ?_
  refine AtC.two ?_ ?_
  focus
   refine AtC.nz ?_
   refine AtT.zG rfl rfl ok44 (jo 6 2 2 2 _) ?_
   rintro _ rfl
   refine AtC.kgo ?_
   refine AtC.two ?_ ?_
   focus
    refine AtC.nz ?_
    refine AtT.qg rfl rfl ok25 (jZ bo6 ⟨6, 2, 2, 2⟩ _ _ hb) ?_
    rintro _ V102 hV102 ⟨u102, rfl, hu102⟩; rw [c_a2]; replace hg := hg.le hV102; replace hr := hr.le hV102; replace hb := hb.le hV102; replace h50 := h50.le hV102; replace h55 := h55.le hV102; replace h65 := h65.le hV102; replace h70 := h70.le hV102; replace h80 := h80.le hV102; replace h85 := h85.le hV102; replace h90 := h90.le hV102; replace hu96 := hu96.le hV102; obtain ⟨w102, a102, c102, rfl, ⟨q102, z102, y102, e102, rfl, i102, j102⟩, hs102⟩ := id hu102; clear e102 i102 j102 hs102
    refine AtC.kgo ?_
    refine AtC.kq (by (refine AtT.zf ?_); exact At.knows) ?_
    refine AtC.kq (by (refine AtT.zt ?_); exact At.knows) ?_
    refine AtC.kq (by (refine AtT.zt ?_); exact At.knows) ?_
    refine AtC.nz ?_
    refine AtT.zT z26 ?_
    intro b23
    refine AtC.kgo ?_
    refine AtC.nz ?_
    refine AtT.zy zH ?_
    refine AtC.kgo ?_
    refine AtC.kq (by (refine AtT.zg ?_); exact At.knows) ?_
    refine AtC.done ?_
   rotate_right
   focus
    refine AtC.nz ?_
    refine AtT.zT z26 ?_
    intro b23
    refine AtC.kgo ?_
    refine AtC.nz ?_
    refine AtT.qg rfl rfl ok25 (jZ bo6 ⟨6, 2, 2, 2⟩ _ _ hb) ?_
    rintro _ V102 hV102 ⟨u102, rfl, hu102⟩; rw [c_a2]; replace hg := hg.le hV102; replace hr := hr.le hV102; replace hb := hb.le hV102; replace h50 := h50.le hV102; replace h55 := h55.le hV102; replace h65 := h65.le hV102; replace h70 := h70.le hV102; replace h80 := h80.le hV102; replace h85 := h85.le hV102; replace h90 := h90.le hV102; replace hu96 := hu96.le hV102; obtain ⟨w102, a102, c102, rfl, ⟨q102, z102, y102, e102, rfl, i102, j102⟩, hs102⟩ := id hu102; clear e102 i102 j102 hs102
    refine AtC.kgo ?_
    refine AtC.kq (by (refine AtT.zf ?_); exact At.knows) ?_
    refine AtC.kq (by (refine AtT.zt ?_); exact At.knows) ?_
    refine AtC.kq (by (refine AtT.zt ?_); exact At.knows) ?_
    refine AtC.nz ?_
    refine AtT.zy zH ?_
    refine AtC.kgo ?_
    refine AtC.kq (by (refine AtT.zg ?_); exact At.knows) ?_
    refine AtC.done ?_
  rotate_right
  focus
   refine AtC.nz ?_
   refine AtT.zT z26 ?_
   intro b23
   refine AtC.kgo ?_
   refine AtC.nz ?_
   refine AtT.zG rfl rfl ok44 (jo 6 2 2 2 _) ?_
   rintro _ rfl
   refine AtC.kgo ?_
   refine AtC.nz ?_
   refine AtT.qg rfl rfl ok25 (jZ bo6 ⟨6, 2, 2, 2⟩ _ _ hb) ?_
   rintro _ V102 hV102 ⟨u102, rfl, hu102⟩; rw [c_a2]; replace hg := hg.le hV102; replace hr := hr.le hV102; replace hb := hb.le hV102; replace h50 := h50.le hV102; replace h55 := h55.le hV102; replace h65 := h65.le hV102; replace h70 := h70.le hV102; replace h80 := h80.le hV102; replace h85 := h85.le hV102; replace h90 := h90.le hV102; replace hu96 := hu96.le hV102; obtain ⟨w102, a102, c102, rfl, ⟨q102, z102, y102, e102, rfl, i102, j102⟩, hs102⟩ := id hu102; clear e102 i102 j102 hs102
   refine AtC.kgo ?_
   refine AtC.kq (by (refine AtT.zf ?_); exact At.knows) ?_
   refine AtC.kq (by (refine AtT.zt ?_); exact At.knows) ?_
   refine AtC.kq (by (refine AtT.zt ?_); exact At.knows) ?_
   refine AtC.nz ?_
   refine AtT.zy zH ?_
   refine AtC.kgo ?_
   refine AtC.kq (by (refine AtT.zg ?_); exact At.knows) ?_
   refine AtC.done ?_
  all_goals (refine At.nrm ?_)
  all_goals exact At.jP () ⟨hg, hr, hb, h50, h55, h65, h70, h80, h85, h90, hu96⟩ ⟨rfl, rfl, rfl, rfl, rfl, rfl, rfl, rfl, rfl, rfl, rfl, rfl, rfl, rfl, rfl, rfl, rfl, rfl, rfl, rfl, rfl, trivial⟩ Pt.zI
 rintro - Vc12 ks' O' ⟨hg, hr, hb, h50, h55, h65, h70, h80, h85, h90, hu96⟩ hk hO hl12
 subst hk hO
 refine At.nrm ?_
 refine At.cutG (ι := Unit) (fun _ => [(1, v46), (2, .pointer (some ⟨b2, 0, none⟩)), (3, u50), (4, iv 0), (5, u55), (6, iv 0), (8, iv 2), (9, u65), (10, iv 0), (11, u70), (12, iv 0), (14, iv 2), (15, u80), (16, iv 0), (17, u85), (18, iv 0), (19, u90), (20, iv 0), (21, .pointer (some ⟨b21, 0, none⟩)), (22, iv 0), (24, iv 28), (26, iv 12)]) (fun _ => [.blk b2 (LC [.slice z47 q47.length y47, .slice a47 bo6.es.length c47] 26), .blk b21 (LC [.slice z96 n96 y96, .slice a96 box.es.length c96] 26)]) (fun _ V'' => GvV V'' ∧ RsV V'' v46 rs2 ∧ BoV V'' (.agg #[.slice z47 q47.length y47, .slice a47 bo6.es.length c47]) bo6 ∧ SlI V'' u50 ([4, 2] ++ List.replicate 6 0) ∧ SlI V'' u55 ([4] ++ List.replicate 7 0) ∧ SlI V'' u65 [0, 1, 2, 4, 5] ∧ SlI V'' u70 [0, 1, 2, 3] ∧ SlI V'' u80 ([3, 2, 1, 1] ++ List.replicate 4 0) ∧ SlI V'' u85 ([3, 2, 2] ++ List.replicate 5 0) ∧ SlI V'' u90 ([3, 2, 3] ++ List.replicate 5 0) ∧ BoV V'' (.agg #[.slice z96 n96 y96, .slice a96 box.es.length c96]) box) ?_ ?_
 ·refine At.draw (.q 0 (.two 1 (.two 2 (.q 3 (.q 4 (.q 5 (.n false 6 (.n false 7 (.q 8 .done)))))) 6 (.n false 2 (.q 3 (.q 4 (.q 5 (.n false 7 (.q 8 .done))))))) 6 (.n false 1 (.n false 2 (.q 3 (.q 4 (.q 5 (.n false 7 (.q 8 .done))))))))) ffm (by kernel_rfl) ?_
  refine AtC.start ?_
  refine AtC.pre (fun hle0 => ?_)
  refine AtC.kq (by (first | refine AtT.zF zH ?_ | refine AtT.zJ zH ?_ | refine AtT.zD zH ?_); exact At.knows) ?_
  refine AtC.two ?_ ?_
  focus
   refine AtC.nz ?_
   refine AtT.zG rfl rfl ok44 (jo 4 1 0 1 _) ?_
   rintro _ rfl
   refine AtC.kgo ?_
   refine AtC.two ?_ ?_
   focus
    refine AtC.nz ?_
    refine AtT.qg rfl rfl ok25 (jZ bo6 ⟨4, 1, 0, 1⟩ _ _ hb) ?_
    rintro _ V108 hV108 ⟨u108, rfl, hu108⟩; rw [c_a3]; replace hg := hg.le hV108; replace hr := hr.le hV108; replace hb := hb.le hV108; replace h50 := h50.le hV108; replace h55 := h55.le hV108; replace h65 := h65.le hV108; replace h70 := h70.le hV108; replace h80 := h80.le hV108; replace h85 := h85.le hV108; replace h90 := h90.le hV108; replace hu96 := hu96.le hV108; obtain ⟨w108, a108, c108, rfl, ⟨q108, z108, y108, e108, rfl, i108, j108⟩, hs108⟩ := id hu108; clear e108 i108 j108 hs108
    refine AtC.kgo ?_
    refine AtC.kq (by (refine AtT.zf ?_); exact At.knows) ?_
    refine AtC.kq (by (refine AtT.zt ?_); exact At.knows) ?_
    refine AtC.kq (by (refine AtT.zt ?_); exact At.knows) ?_
    refine AtC.nz ?_
    refine AtT.zT z26 ?_
    intro b25
    refine AtC.kgo ?_
    refine AtC.nz ?_
    refine AtT.zy zH ?_
    refine AtC.kgo ?_
    refine AtC.kq (by (refine AtT.zg ?_); exact At.knows) ?_
    refine AtC.done ?_
   rotate_right
   focus
    refine AtC.nz ?_
    refine AtT.zT z26 ?_
    intro b25
    refine AtC.kgo ?_
    refine AtC.nz ?_
    refine AtT.qg rfl rfl ok25 (jZ bo6 ⟨4, 1, 0, 1⟩ _ _ hb) ?_
    rintro _ V108 hV108 ⟨u108, rfl, hu108⟩; rw [c_a3]; replace hg := hg.le hV108; replace hr := hr.le hV108; replace hb := hb.le hV108; replace h50 := h50.le hV108; replace h55 := h55.le hV108; replace h65 := h65.le hV108; replace h70 := h70.le hV108; replace h80 := h80.le hV108; replace h85 := h85.le hV108; replace h90 := h90.le hV108; replace hu96 := hu96.le hV108; obtain ⟨w108, a108, c108, rfl, ⟨q108, z108, y108, e108, rfl, i108, j108⟩, hs108⟩ := id hu108; clear e108 i108 j108 hs108
    refine AtC.kgo ?_
    refine AtC.kq (by (refine AtT.zf ?_); exact At.knows) ?_
    refine AtC.kq (by (refine AtT.zt ?_); exact At.knows) ?_
    refine AtC.kq (by (refine AtT.zt ?_); exact At.knows) ?_
    refine AtC.nz ?_
    refine AtT.zy zH ?_
    refine AtC.kgo ?_
    refine AtC.kq (by (refine AtT.zg ?_); exact At.knows) ?_
    refine AtC.done ?_
  rotate_right
  focus
   refine AtC.nz ?_
   refine AtT.zT z26 ?_
   intro b25
   refine AtC.kgo ?_
   refine AtC.nz ?_
   refine AtT.zG rfl rfl ok44 (jo 4 1 0 1 _) ?_
   rintro _ rfl
   refine AtC.kgo ?_
   refine AtC.nz ?_
   refine AtT.qg rfl rfl ok25 (jZ bo6 ⟨4, 1, 0, 1⟩ _ _ hb) ?_
   rintro _ V108 hV108 ⟨u108, rfl, hu108⟩; rw [c_a3]; replace hg := hg.le hV108; replace hr := hr.le hV108; replace hb := hb.le hV108; replace h50 := h50.le hV108; replace h55 := h55.le hV108; replace h65 := h65.le hV108; replace h70 := h70.le hV108; replace h80 := h80.le hV108; replace h85 := h85.le hV108; replace h90 := h90.le hV108; replace hu96 := hu96.le hV108; obtain ⟨w108, a108, c108, rfl, ⟨q108, z108, y108, e108, rfl, i108, j108⟩, hs108⟩ := id hu108; clear e108 i108 j108 hs108
   refine AtC.kgo ?_
   refine AtC.kq (by (refine AtT.zf ?_); exact At.knows) ?_
   refine AtC.kq (by (refine AtT.zt ?_); exact At.knows) ?_
   refine AtC.kq (by (refine AtT.zt ?_); exact At.knows) ?_
   refine AtC.nz ?_
   refine AtT.zy zH ?_
   refine AtC.kgo ?_
   refine AtC.kq (by (refine AtT.zg ?_); exact At.knows) ?_
   refine AtC.done ?_
  all_goals (refine At.nrm ?_)
  all_goals exact At.jP () ⟨hg, hr, hb, h50, h55, h65, h70, h80, h85, h90, hu96⟩ ⟨rfl, rfl, rfl, rfl, rfl, rfl, rfl, rfl, rfl, rfl, rfl, rfl, rfl, rfl, rfl, rfl, rfl, rfl, rfl, rfl, rfl, rfl, trivial⟩ Pt.zI
 rintro - Vc13 ks' O' ⟨hg, hr, hb, h50, h55, h65, h70, h80, h85, h90, hu96⟩ hk hO hl13
 subst hk hO
 refine At.nrm ?_
 refine At.cutG (ι := Unit) (fun _ => [(1, v46), (2, .pointer (some ⟨b2, 0, none⟩)), (3, u50), (4, iv 0), (5, u55), (6, iv 0), (8, iv 2), (9, u65), (10, iv 0), (11, u70), (12, iv 0), (14, iv 2), (15, u80), (16, iv 0), (17, u85), (18, iv 0), (19, u90), (20, iv 0), (21, .pointer (some ⟨b21, 0, none⟩)), (22, iv 0), (24, iv 28), (26, iv 12), (28, iv 16)]) (fun _ => [.blk b2 (LC [.slice z47 q47.length y47, .slice a47 bo6.es.length c47] 26), .blk b21 (LC [.slice z96 n96 y96, .slice a96 box.es.length c96] 26)]) (fun _ V'' => GvV V'' ∧ RsV V'' v46 rs2 ∧ BoV V'' (.agg #[.slice z47 q47.length y47, .slice a47 bo6.es.length c47]) bo6 ∧ SlI V'' u50 ([4, 2] ++ List.replicate 6 0) ∧ SlI V'' u55 ([4] ++ List.replicate 7 0) ∧ SlI V'' u65 [0, 1, 2, 4, 5] ∧ SlI V'' u70 [0, 1, 2, 3] ∧ SlI V'' u80 ([3, 2, 1, 1] ++ List.replicate 4 0) ∧ SlI V'' u85 ([3, 2, 2] ++ List.replicate 5 0) ∧ SlI V'' u90 ([3, 2, 3] ++ List.replicate 5 0) ∧ BoV V'' (.agg #[.slice z96 n96 y96, .slice a96 box.es.length c96]) box) ?_ ?_
 ·refine At.draw (.q 0 (.two 1 (.two 2 (.q 3 (.q 4 (.q 5 (.n false 6 (.n false 7 (.q 8 .done)))))) 6 (.n false 2 (.q 3 (.q 4 (.q 5 (.n false 7 (.q 8 .done))))))) 6 (.n false 1 (.n false 2 (.q 3 (.q 4 (.q 5 (.n false 7 (.q 8 .done))))))))) ffm (by kernel_rfl) ?_
  refine AtC.start ?_
  refine AtC.pre (fun hle0 => ?_)
  refine AtC.kq (by (first | refine AtT.zF zH ?_ | refine AtT.zJ zH ?_ | refine AtT.zD zH ?_); exact At.knows) ?_
  refine AtC.two ?_ ?_
  focus
   refine AtC.nz ?_
   refine AtT.zG rfl rfl ok44 (jo 6 3 4 1 _) ?_
   rintro _ rfl
   refine AtC.kgo ?_
   refine AtC.two ?_ ?_
   focus
    refine AtC.nz ?_
    refine AtT.qg rfl rfl ok25 (jZ bo6 ⟨6, 3, 4, 1⟩ _ _ hb) ?_
    rintro _ V114 hV114 ⟨u114, rfl, hu114⟩; rw [c_a4]; replace hg := hg.le hV114; replace hr := hr.le hV114; replace hb := hb.le hV114; replace h50 := h50.le hV114; replace h55 := h55.le hV114; replace h65 := h65.le hV114; replace h70 := h70.le hV114; replace h80 := h80.le hV114; replace h85 := h85.le hV114; replace h90 := h90.le hV114; replace hu96 := hu96.le hV114; obtain ⟨w114, a114, c114, rfl, ⟨q114, z114, y114, e114, rfl, i114, j114⟩, hs114⟩ := id hu114; clear e114 i114 j114 hs114
    refine AtC.kgo ?_
    refine AtC.kq (by (refine AtT.zf ?_); exact At.knows) ?_
    refine AtC.kq (by (refine AtT.zt ?_); exact At.knows) ?_
    refine AtC.kq (by (refine AtT.zt ?_); exact At.knows) ?_
    refine AtC.nz ?_
    refine AtT.zT z26 ?_
    intro b27
    refine AtC.kgo ?_
    refine AtC.nz ?_
    refine AtT.zy zH ?_
    refine AtC.kgo ?_
    refine AtC.kq (by (refine AtT.zg ?_); exact At.knows) ?_
    refine AtC.done ?_
   rotate_right
   focus
    refine AtC.nz ?_
    refine AtT.zT z26 ?_
    intro b27
    refine AtC.kgo ?_
    refine AtC.nz ?_
    refine AtT.qg rfl rfl ok25 (jZ bo6 ⟨6, 3, 4, 1⟩ _ _ hb) ?_
    rintro _ V114 hV114 ⟨u114, rfl, hu114⟩; rw [c_a4]; replace hg := hg.le hV114; replace hr := hr.le hV114; replace hb := hb.le hV114; replace h50 := h50.le hV114; replace h55 := h55.le hV114; replace h65 := h65.le hV114; replace h70 := h70.le hV114; replace h80 := h80.le hV114; replace h85 := h85.le hV114; replace h90 := h90.le hV114; replace hu96 := hu96.le hV114; obtain ⟨w114, a114, c114, rfl, ⟨q114, z114, y114, e114, rfl, i114, j114⟩, hs114⟩ := id hu114; clear e114 i114 j114 hs114
    refine AtC.kgo ?_
    refine AtC.kq (by (refine AtT.zf ?_); exact At.knows) ?_
    refine AtC.kq (by (refine AtT.zt ?_); exact At.knows) ?_
    refine AtC.kq (by (refine AtT.zt ?_); exact At.knows) ?_
    refine AtC.nz ?_
    refine AtT.zy zH ?_
    refine AtC.kgo ?_
    refine AtC.kq (by (refine AtT.zg ?_); exact At.knows) ?_
    refine AtC.done ?_
  rotate_right
  focus
   refine AtC.nz ?_
   refine AtT.zT z26 ?_
   intro b27
   refine AtC.kgo ?_
   refine AtC.nz ?_
   refine AtT.zG rfl rfl ok44 (jo 6 3 4 1 _) ?_
   rintro _ rfl
   refine AtC.kgo ?_
   refine AtC.nz ?_
   refine AtT.qg rfl rfl ok25 (jZ bo6 ⟨6, 3, 4, 1⟩ _ _ hb) ?_
   rintro _ V114 hV114 ⟨u114, rfl, hu114⟩; rw [c_a4]; replace hg := hg.le hV114; replace hr := hr.le hV114; replace hb := hb.le hV114; replace h50 := h50.le hV114; replace h55 := h55.le hV114; replace h65 := h65.le hV114; replace h70 := h70.le hV114; replace h80 := h80.le hV114; replace h85 := h85.le hV114; replace h90 := h90.le hV114; replace hu96 := hu96.le hV114; obtain ⟨w114, a114, c114, rfl, ⟨q114, z114, y114, e114, rfl, i114, j114⟩, hs114⟩ := id hu114; clear e114 i114 j114 hs114
   refine AtC.kgo ?_
   refine AtC.kq (by (refine AtT.zf ?_); exact At.knows) ?_
   refine AtC.kq (by (refine AtT.zt ?_); exact At.knows) ?_
   refine AtC.kq (by (refine AtT.zt ?_); exact At.knows) ?_
   refine AtC.nz ?_
   refine AtT.zy zH ?_
   refine AtC.kgo ?_
   refine AtC.kq (by (refine AtT.zg ?_); exact At.knows) ?_
   refine AtC.done ?_
  all_goals (refine At.nrm ?_)
  all_goals exact At.jP () ⟨hg, hr, hb, h50, h55, h65, h70, h80, h85, h90, hu96⟩ ⟨rfl, rfl, rfl, rfl, rfl, rfl, rfl, rfl, rfl, rfl, rfl, rfl, rfl, rfl, rfl, rfl, rfl, rfl, rfl, rfl, rfl, rfl, rfl, trivial⟩ Pt.zI
 rintro - Vc14 ks' O' ⟨hg, hr, hb, h50, h55, h65, h70, h80, h85, h90, hu96⟩ hk hO hl14
 subst hk hO
 refine At.nrm ?_
 refine At.cutG (ι := Unit) (fun _ => [(1, v46), (2, .pointer (some ⟨b2, 0, none⟩)), (3, u50), (4, iv 0), (5, u55), (6, iv 0), (8, iv 2), (9, u65), (10, iv 0), (11, u70), (12, iv 0), (14, iv 2), (15, u80), (16, iv 0), (17, u85), (18, iv 0), (19, u90), (20, iv 0), (21, .pointer (some ⟨b21, 0, none⟩)), (22, iv 0), (24, iv 28), (26, iv 12), (28, iv 16), (30, iv 2)]) (fun _ => [.blk b2 (LC [.slice z47 q47.length y47, .slice a47 bo6.es.length c47] 26), .blk b21 (LC [.slice z96 n96 y96, .slice a96 box.es.length c96] 26)]) (fun _ V'' => GvV V'' ∧ RsV V'' v46 rs2 ∧ BoV V'' (.agg #[.slice z47 q47.length y47, .slice a47 bo6.es.length c47]) bo6 ∧ SlI V'' u50 ([4, 2] ++ List.replicate 6 0) ∧ SlI V'' u55 ([4] ++ List.replicate 7 0) ∧ SlI V'' u65 [0, 1, 2, 4, 5] ∧ SlI V'' u70 [0, 1, 2, 3] ∧ SlI V'' u80 ([3, 2, 1, 1] ++ List.replicate 4 0) ∧ SlI V'' u85 ([3, 2, 2] ++ List.replicate 5 0) ∧ SlI V'' u90 ([3, 2, 3] ++ List.replicate 5 0) ∧ BoV V'' (.agg #[.slice z96 n96 y96, .slice a96 box.es.length c96]) box) ?_ ?_
 ·refine At.draw (.q 0 (.two 1 (.two 2 (.q 3 (.q 4 (.q 5 (.n false 6 (.n false 7 (.q 8 .done)))))) 6 (.n false 2 (.q 3 (.q 4 (.q 5 (.n false 7 (.q 8 .done))))))) 6 (.n false 1 (.n false 2 (.q 3 (.q 4 (.q 5 (.n false 7 (.q 8 .done))))))))) ffm (by kernel_rfl) ?_
  refine AtC.start ?_
  refine AtC.pre (fun hle0 => ?_)
  refine AtC.kq (by (first | refine AtT.zF zH ?_ | refine AtT.zJ zH ?_ | refine AtT.zD zH ?_); exact At.knows) ?_
  refine AtC.two ?_ ?_
  focus
   refine AtC.nz ?_
   refine AtT.zG rfl rfl ok44 (jo 6 4 6 0 _) ?_
   rintro _ rfl
   refine AtC.kgo ?_
   refine AtC.two ?_ ?_
   focus
    refine AtC.nz ?_
    refine AtT.qg rfl rfl ok25 (jZ bo6 ⟨6, 4, 6, 0⟩ _ _ hb) ?_
    rintro _ V120 hV120 ⟨u120, rfl, hu120⟩; rw [c_a5]; replace hg := hg.le hV120; replace hr := hr.le hV120; replace hb := hb.le hV120; replace h50 := h50.le hV120; replace h55 := h55.le hV120; replace h65 := h65.le hV120; replace h70 := h70.le hV120; replace h80 := h80.le hV120; replace h85 := h85.le hV120; replace h90 := h90.le hV120; replace hu96 := hu96.le hV120; obtain ⟨w120, a120, c120, rfl, ⟨q120, z120, y120, e120, rfl, i120, j120⟩, hs120⟩ := id hu120; clear e120 i120 j120 hs120
    refine AtC.kgo ?_
    refine AtC.kq (by (refine AtT.zf ?_); exact At.knows) ?_
    refine AtC.kq (by (refine AtT.zt ?_); exact At.knows) ?_
    refine AtC.kq (by (refine AtT.zt ?_); exact At.knows) ?_
    refine AtC.nz ?_
    refine AtT.zT z26 ?_
    intro b29
    refine AtC.kgo ?_
    refine AtC.nz ?_
    refine AtT.zy zH ?_
    refine AtC.kgo ?_
    refine AtC.kq (by (refine AtT.zg ?_); exact At.knows) ?_
    refine AtC.done ?_
   rotate_right
   focus
    refine AtC.nz ?_
    refine AtT.zT z26 ?_
    intro b29
    refine AtC.kgo ?_
    refine AtC.nz ?_
    refine AtT.qg rfl rfl ok25 (jZ bo6 ⟨6, 4, 6, 0⟩ _ _ hb) ?_
    rintro _ V120 hV120 ⟨u120, rfl, hu120⟩; rw [c_a5]; replace hg := hg.le hV120; replace hr := hr.le hV120; replace hb := hb.le hV120; replace h50 := h50.le hV120; replace h55 := h55.le hV120; replace h65 := h65.le hV120; replace h70 := h70.le hV120; replace h80 := h80.le hV120; replace h85 := h85.le hV120; replace h90 := h90.le hV120; replace hu96 := hu96.le hV120; obtain ⟨w120, a120, c120, rfl, ⟨q120, z120, y120, e120, rfl, i120, j120⟩, hs120⟩ := id hu120; clear e120 i120 j120 hs120
    refine AtC.kgo ?_
    refine AtC.kq (by (refine AtT.zf ?_); exact At.knows) ?_
    refine AtC.kq (by (refine AtT.zt ?_); exact At.knows) ?_
    refine AtC.kq (by (refine AtT.zt ?_); exact At.knows) ?_
    refine AtC.nz ?_
    refine AtT.zy zH ?_
    refine AtC.kgo ?_
    refine AtC.kq (by (refine AtT.zg ?_); exact At.knows) ?_
    refine AtC.done ?_
  rotate_right
  focus
   refine AtC.nz ?_
   refine AtT.zT z26 ?_
   intro b29
   refine AtC.kgo ?_
   refine AtC.nz ?_
   refine AtT.zG rfl rfl ok44 (jo 6 4 6 0 _) ?_
   rintro _ rfl
   refine AtC.kgo ?_
   refine AtC.nz ?_
   refine AtT.qg rfl rfl ok25 (jZ bo6 ⟨6, 4, 6, 0⟩ _ _ hb) ?_
   rintro _ V120 hV120 ⟨u120, rfl, hu120⟩; rw [c_a5]; replace hg := hg.le hV120; replace hr := hr.le hV120; replace hb := hb.le hV120; replace h50 := h50.le hV120; replace h55 := h55.le hV120; replace h65 := h65.le hV120; replace h70 := h70.le hV120; replace h80 := h80.le hV120; replace h85 := h85.le hV120; replace h90 := h90.le hV120; replace hu96 := hu96.le hV120; obtain ⟨w120, a120, c120, rfl, ⟨q120, z120, y120, e120, rfl, i120, j120⟩, hs120⟩ := id hu120; clear e120 i120 j120 hs120
   refine AtC.kgo ?_
   refine AtC.kq (by (refine AtT.zf ?_); exact At.knows) ?_
   refine AtC.kq (by (refine AtT.zt ?_); exact At.knows) ?_
   refine AtC.kq (by (refine AtT.zt ?_); exact At.knows) ?_
   refine AtC.nz ?_
   refine AtT.zy zH ?_
   refine AtC.kgo ?_
   refine AtC.kq (by (refine AtT.zg ?_); exact At.knows) ?_
   refine AtC.done ?_
  all_goals (refine At.nrm ?_)
  all_goals exact At.jP () ⟨hg, hr, hb, h50, h55, h65, h70, h80, h85, h90, hu96⟩ ⟨rfl, rfl, rfl, rfl, rfl, rfl, rfl, rfl, rfl, rfl, rfl, rfl, rfl, rfl, rfl, rfl, rfl, rfl, rfl, rfl, rfl, rfl, rfl, rfl, trivial⟩ Pt.zI
 rintro - Vc15 ks' O' ⟨hg, hr, hb, h50, h55, h65, h70, h80, h85, h90, hu96⟩ hk hO hl15
 subst hk hO
 refine At.nrm ?_
 refine At.zi (.q 0 (.n false 1 (.q 2 (.q 3 (.q 4 (.q 5 (.q 6 .done))))))) ?_
 first | refine AtT.zF zH ?_ | refine AtT.zJ zH ?_ | refine AtT.zD zH ?_
 refine AtT.zG rfl rfl ok33 (pmost_f bo6 2 _ _ hb) ?_
 rintro _ rfl; rw [c_m1, c_m1E]
 refine AtT.zf ?_
 refine AtT.zt ?_
 refine AtT.zt ?_
 refine AtT.zg ?_
 refine AtT.zg ?_
 refine AtT.done ?_
 refine At.nrm ?_
 refine At.zi (.q 0 (.n false 1 (.q 2 (.q 3 (.q 4 (.q 5 (.q 6 .done))))))) ?_
 first | refine AtT.zF zH ?_ | refine AtT.zJ zH ?_ | refine AtT.zD zH ?_
 refine AtT.zG rfl rfl ok33 (pmost_f bo6 3 _ _ hb) ?_
 rintro _ rfl; rw [c_m2, c_m2E]
 refine AtT.zf ?_
 refine AtT.zt ?_
 refine AtT.zt ?_
 refine AtT.zg ?_
 refine AtT.zg ?_
 refine AtT.done ?_
 refine At.nrm ?_
 refine At.zi (.q 0 (.n false 1 (.q 2 (.q 3 (.q 4 (.q 5 (.q 6 .done))))))) ?_
 first | refine AtT.zF zH ?_ | refine AtT.zJ zH ?_ | refine AtT.zD zH ?_
 refine AtT.zG rfl rfl ok33 (pmost_f bo6 0 _ _ hb) ?_
 rintro _ rfl; rw [c_m3E]
 refine AtT.zf ?_
 refine AtT.zt ?_
 refine AtT.zt ?_
 refine AtT.zg ?_
 refine AtT.zg ?_
 refine AtT.done ?_
 refine At.nrm ?_
 refine At.zi (.n false 0 (.q 1 (.q 2 (.q 3 (.q 4 (.q 5 .done)))))) ?_
 refine AtT.zG rfl rfl ok35 (pcheck_f [97] (by decide) _ hg) ?_
 rintro _ rfl; rw [if_neg (by decide), if_neg (by decide), c_k1]
 refine AtT.zf ?_
 refine AtT.zt ?_
 refine AtT.zt ?_
 refine AtT.zg ?_
 refine AtT.zg ?_
 refine AtT.done ?_
 refine At.nrm ?_
 refine At.zi (.n false 0 (.q 1 (.q 2 (.q 3 (.q 4 (.q 5 .done)))))) ?_
 refine AtT.zG rfl rfl ok35 (pcheck_f [114, 32, 50, 32, 48, 32, 50, 32, 49, 32, 49, 10, 114, 32, 51, 32, 50, 32, 50, 10] (by decide) _ hg) ?_
 rintro _ rfl; rw [if_neg (by decide), if_neg (by decide), c_k2]
 refine AtT.zf ?_
 refine AtT.zt ?_
 refine AtT.zt ?_
 refine AtT.zg ?_
 refine AtT.zg ?_
 refine AtT.done ?_
 refine At.nrm ?_
 refine At.zi (.q 0 (.n false 1 (.q 2 (.q 3 (.q 4 (.q 5 (.q 6 .done))))))) ?_
 first | refine AtT.zF zH ?_ | refine AtT.zJ zH ?_ | refine AtT.zD zH ?_
 refine AtT.zG rfl rfl ok37 (file_f bo6 _ hg _ hb) ?_
 rintro _ rfl; rw [c_b, if_pos rfl]
 refine AtT.zf ?_
 refine AtT.zt ?_
 refine AtT.zt ?_
 refine AtT.zg ?_
 refine AtT.zg ?_
 refine AtT.done ?_
 refine At.nrm ?_
 refine At.zi (.q 0 (.q 1 (.q 2 (.q 3 (.q 4 (.q 5 (.q 6 (.q 7 (.q 8 (.q 9 (.q 10 (.q 11 (.q 12 (.q 13 (.q 14 (.q 15 (.q 16 (.q 17 (.q 18 (.q 19 (.q 20 (.q 21 (.q 22 (.q 23 (.q 24 (.q 25 (.q 26 (.q 27 (.q 28 (.q 29 (.q 30 (.q 31 (.q 32 (.q 33 (.q 34 (.q 35 (.q 36 (.q 37 (.q 38 (.q 39 (.q 40 (.q 41 (.q 42 (.q 43 (.q 44 (.q 45 (.q 46 (.q 47 (.q 48 (.q 49 (.q 50 (.q 51 (.q 52 (.q 53 (.q 54 (.q 55 (.q 56 (.q 57 (.q 58 (.q 59 (.q 60 (.q 61 (.q 62 (.q 63 (.q 64 (.q 65 (.q 66 (.q 67 (.q 68 (.q 69 (.q 70 (.q 71 (.q 72 (.q 73 (.q 74 (.q 75 (.q 76 (.q 77 (.q 78 (.q 79 (.q 80 (.q 81 (.q 82 .done))))))))))))))))))))))))))))))))))))))))))))))))))))))))))))))))))))))))))))))))))) ?_
 refine AtT.zf ?_
 refine AtT.qE ?_
 refine AtT.zS (d := 152) rfl ((fun h => h rfl)) ?_
 refine AtT.zf ?_
 all_goals (first | refine AtT.kL 153 ?_ | refine AtT.zw (d := 153) rfl (fun hg153 => ?_) (fun hg153 => ?_) | refine AtT.zu (d := 153) rfl (fun hg153 => ?_) (fun hg153 => ?_))
 all_goals first|refine AtT.zh ?_|refine AtT.ze ?_|(refine AtT.zf ?_)
 all_goals first|refine AtT.zh ?_|refine AtT.ze ?_|(refine AtT.qE ?_)
 all_goals (refine AtT.zS (d := 155) rfl ((fun h => h rfl)) ?_)
 all_goals (refine AtT.zx ?_)
 all_goals (refine AtT.zf ?_)
 all_goals (first | refine AtT.kL 157 ?_ | refine AtT.zw (d := 157) rfl (fun hg157 => ?_) (fun hg157 => ?_) | refine AtT.zu (d := 157) rfl (fun hg157 => ?_) (fun hg157 => ?_))
 all_goals first|refine AtT.zh ?_|refine AtT.ze ?_|(refine AtT.zf ?_)
 all_goals first|refine AtT.zh ?_|refine AtT.ze ?_|(refine AtT.qE ?_)
 all_goals (refine AtT.zS (d := 159) rfl ((fun h => h rfl)) ?_)
 all_goals (refine AtT.zx ?_)
 all_goals (refine AtT.zf ?_)
 all_goals (first | refine AtT.kL 161 ?_ | refine AtT.zw (d := 161) rfl (fun hg161 => ?_) (fun hg161 => ?_) | refine AtT.zu (d := 161) rfl (fun hg161 => ?_) (fun hg161 => ?_))
 all_goals first|refine AtT.zh ?_|refine AtT.ze ?_|(refine AtT.zf ?_)
 all_goals first|refine AtT.zh ?_|refine AtT.ze ?_|(refine AtT.qE ?_)
 all_goals (refine AtT.zS (d := 163) rfl ((fun h => h rfl)) ?_)
 all_goals (refine AtT.zx ?_)
 all_goals (refine AtT.zf ?_)
 all_goals (first | refine AtT.kL 165 ?_ | refine AtT.zw (d := 165) rfl (fun hg165 => ?_) (fun hg165 => ?_) | refine AtT.zu (d := 165) rfl (fun hg165 => ?_) (fun hg165 => ?_))
 all_goals first|refine AtT.zh ?_|refine AtT.ze ?_|(refine AtT.zf ?_)
 all_goals first|refine AtT.zh ?_|refine AtT.ze ?_|(refine AtT.qE ?_)
 all_goals (refine AtT.zS (d := 167) rfl ((fun h => h rfl)) ?_)
 all_goals (refine AtT.zx ?_)
 all_goals (refine AtT.zf ?_)
 all_goals (first | refine AtT.kL 169 ?_ | refine AtT.zw (d := 169) rfl (fun hg169 => ?_) (fun hg169 => ?_) | refine AtT.zu (d := 169) rfl (fun hg169 => ?_) (fun hg169 => ?_))
 all_goals first|refine AtT.zh ?_|refine AtT.ze ?_|(refine AtT.zf ?_)
 all_goals first|refine AtT.zh ?_|refine AtT.ze ?_|(refine AtT.qE ?_)
 all_goals (refine AtT.zS (d := 171) rfl ((fun h => h rfl)) ?_)
 all_goals (refine AtT.zx ?_)
 all_goals (refine AtT.zf ?_)
 all_goals (first | refine AtT.kL 173 ?_ | refine AtT.zw (d := 173) rfl (fun hg173 => ?_) (fun hg173 => ?_) | refine AtT.zu (d := 173) rfl (fun hg173 => ?_) (fun hg173 => ?_))
 all_goals first|refine AtT.zh ?_|refine AtT.ze ?_|(refine AtT.zf ?_)
 all_goals first|refine AtT.zh ?_|refine AtT.ze ?_|(refine AtT.qE ?_)
 all_goals (refine AtT.zS (d := 175) rfl ((fun h => h rfl)) ?_)
 all_goals (refine AtT.zx ?_)
 all_goals (refine AtT.zf ?_)
 all_goals (first | refine AtT.kL 177 ?_ | refine AtT.zw (d := 177) rfl (fun hg177 => ?_) (fun hg177 => ?_) | refine AtT.zu (d := 177) rfl (fun hg177 => ?_) (fun hg177 => ?_))
 all_goals first|refine AtT.zh ?_|refine AtT.ze ?_|(refine AtT.zf ?_)
 all_goals first|refine AtT.zh ?_|refine AtT.ze ?_|(refine AtT.qE ?_)
 all_goals (refine AtT.zS (d := 179) rfl ((fun h => h rfl)) ?_)
 all_goals (refine AtT.zx ?_)
 all_goals (refine AtT.zf ?_)
 all_goals (first | refine AtT.kL 181 ?_ | refine AtT.zw (d := 181) rfl (fun hg181 => ?_) (fun hg181 => ?_) | refine AtT.zu (d := 181) rfl (fun hg181 => ?_) (fun hg181 => ?_))
 all_goals first|refine AtT.zh ?_|refine AtT.ze ?_|(refine AtT.zf ?_)
 all_goals first|refine AtT.zh ?_|refine AtT.ze ?_|(refine AtT.qE ?_)
 all_goals (refine AtT.zS (d := 183) rfl ((fun h => h rfl)) ?_)
 all_goals (refine AtT.zx ?_)
 all_goals (refine AtT.zf ?_)
 all_goals (first | refine AtT.kL 185 ?_ | refine AtT.zw (d := 185) rfl (fun hg185 => ?_) (fun hg185 => ?_) | refine AtT.zu (d := 185) rfl (fun hg185 => ?_) (fun hg185 => ?_))
 all_goals first|refine AtT.zh ?_|refine AtT.ze ?_|(refine AtT.zf ?_)
 all_goals first|refine AtT.zh ?_|refine AtT.ze ?_|(refine AtT.qE ?_)
 all_goals (refine AtT.zS (d := 187) rfl ((fun h => h rfl)) ?_)
 all_goals (refine AtT.zx ?_)
 all_goals (refine AtT.zf ?_)
 all_goals (first | refine AtT.kL 189 ?_ | refine AtT.zw (d := 189) rfl (fun hg189 => ?_) (fun hg189 => ?_) | refine AtT.zu (d := 189) rfl (fun hg189 => ?_) (fun hg189 => ?_))
 all_goals first|refine AtT.zh ?_|refine AtT.ze ?_|(refine AtT.zf ?_)
 all_goals first|refine AtT.zh ?_|refine AtT.ze ?_|(refine AtT.qE ?_)
 all_goals (refine AtT.zS (d := 191) rfl ((fun h => h rfl)) ?_)
 all_goals (refine AtT.zx ?_)
 all_goals (refine AtT.zf ?_)
 all_goals (first | refine AtT.kL 193 ?_ | refine AtT.zw (d := 193) rfl (fun hg193 => ?_) (fun hg193 => ?_) | refine AtT.zu (d := 193) rfl (fun hg193 => ?_) (fun hg193 => ?_))
 all_goals first|refine AtT.zh ?_|refine AtT.ze ?_|(refine AtT.zf ?_)
 all_goals first|refine AtT.zh ?_|refine AtT.ze ?_|(refine AtT.qE ?_)
 all_goals (refine AtT.zS (d := 195) rfl ((fun h => h rfl)) ?_)
 all_goals (refine AtT.zx ?_)
 all_goals (refine AtT.zf ?_)
 all_goals (first | refine AtT.kL 197 ?_ | refine AtT.zw (d := 197) rfl (fun hg197 => ?_) (fun hg197 => ?_) | refine AtT.zu (d := 197) rfl (fun hg197 => ?_) (fun hg197 => ?_))
 all_goals first|refine AtT.zh ?_|refine AtT.ze ?_|(refine AtT.zf ?_)
 all_goals first|refine AtT.zh ?_|refine AtT.ze ?_|(refine AtT.qE ?_)
 all_goals (refine AtT.zS (d := 199) rfl ((fun h => h rfl)) ?_)
 all_goals (refine AtT.zx ?_)
 all_goals (refine AtT.zf ?_)
 all_goals (first | refine AtT.kL 201 ?_ | refine AtT.zw (d := 201) rfl (fun hg201 => ?_) (fun hg201 => ?_) | refine AtT.zu (d := 201) rfl (fun hg201 => ?_) (fun hg201 => ?_))
 all_goals first|refine AtT.zh ?_|refine AtT.ze ?_|(refine AtT.zf ?_)
 all_goals first|refine AtT.zh ?_|refine AtT.ze ?_|(refine AtT.qE ?_)
 all_goals (refine AtT.zS (d := 203) rfl ((fun h => h rfl)) ?_)
 all_goals (refine AtT.zx ?_)
 all_goals (refine AtT.zf ?_)
 all_goals (first | refine AtT.kL 205 ?_ | refine AtT.zw (d := 205) rfl (fun hg205 => ?_) (fun hg205 => ?_) | refine AtT.zu (d := 205) rfl (fun hg205 => ?_) (fun hg205 => ?_))
 all_goals first|refine AtT.zh ?_|refine AtT.ze ?_|(refine AtT.zf ?_)
 all_goals first|refine AtT.zh ?_|refine AtT.ze ?_|(refine AtT.qE ?_)
 all_goals (refine AtT.zS (d := 207) rfl ((fun h => h rfl)) ?_)
 all_goals (refine AtT.zx ?_)
 all_goals (refine AtT.zf ?_)
 all_goals (first | refine AtT.kL 209 ?_ | refine AtT.zw (d := 209) rfl (fun hg209 => ?_) (fun hg209 => ?_) | refine AtT.zu (d := 209) rfl (fun hg209 => ?_) (fun hg209 => ?_))
 all_goals first|refine AtT.zh ?_|refine AtT.ze ?_|(refine AtT.zf ?_)
 all_goals first|refine AtT.zh ?_|refine AtT.ze ?_|(refine AtT.qE ?_)
 all_goals (refine AtT.zS (d := 211) rfl ((fun h => h rfl)) ?_)
 all_goals (refine AtT.zx ?_)
 all_goals (refine AtT.zf ?_)
 all_goals (first | refine AtT.kL 213 ?_ | refine AtT.zw (d := 213) rfl (fun hg213 => ?_) (fun hg213 => ?_) | refine AtT.zu (d := 213) rfl (fun hg213 => ?_) (fun hg213 => ?_))
 all_goals first|refine AtT.zh ?_|refine AtT.ze ?_|(refine AtT.zf ?_)
 all_goals first|refine AtT.zh ?_|refine AtT.ze ?_|(refine AtT.qE ?_)
 all_goals (refine AtT.zS (d := 215) rfl ((fun h => h rfl)) ?_)
 all_goals (refine AtT.zx ?_)
 all_goals (refine AtT.zf ?_)
 all_goals (first | refine AtT.kL 217 ?_ | refine AtT.zw (d := 217) rfl (fun hg217 => ?_) (fun hg217 => ?_) | refine AtT.zu (d := 217) rfl (fun hg217 => ?_) (fun hg217 => ?_))
 all_goals first|refine AtT.zh ?_|refine AtT.ze ?_|(refine AtT.zf ?_)
 all_goals first|refine AtT.zh ?_|refine AtT.ze ?_|(refine AtT.qE ?_)
 all_goals (refine AtT.zS (d := 219) rfl ((fun h => h rfl)) ?_)
 all_goals (refine AtT.zx ?_)
 all_goals (refine AtT.zf ?_)
 all_goals (first | refine AtT.kL 221 ?_ | refine AtT.zw (d := 221) rfl (fun hg221 => ?_) (fun hg221 => ?_) | refine AtT.zu (d := 221) rfl (fun hg221 => ?_) (fun hg221 => ?_))
 all_goals first|refine AtT.zh ?_|refine AtT.ze ?_|(refine AtT.zf ?_)
 all_goals first|refine AtT.zh ?_|refine AtT.ze ?_|(refine AtT.qE ?_)
 all_goals (refine AtT.zS (d := 223) rfl ((fun h => h rfl)) ?_)
 all_goals (refine AtT.zx ?_)
 all_goals (refine AtT.zf ?_)
 all_goals (first | refine AtT.kL 225 ?_ | refine AtT.zw (d := 225) rfl (fun hg225 => ?_) (fun hg225 => ?_) | refine AtT.zu (d := 225) rfl (fun hg225 => ?_) (fun hg225 => ?_))
 all_goals first|refine AtT.zh ?_|refine AtT.ze ?_|(refine AtT.zf ?_)
 all_goals first|refine AtT.zh ?_|refine AtT.ze ?_|(refine AtT.qE ?_)
 all_goals (refine AtT.zS (d := 227) rfl ((fun h => h rfl)) ?_)
 all_goals (refine AtT.zx ?_)
 all_goals (refine AtT.zf ?_)
 all_goals (first | refine AtT.kL 229 ?_ | refine AtT.zw (d := 229) rfl (fun hg229 => ?_) (fun hg229 => ?_) | refine AtT.zu (d := 229) rfl (fun hg229 => ?_) (fun hg229 => ?_))
 all_goals first|refine AtT.zh ?_|refine AtT.ze ?_|(refine AtT.zf ?_)
 all_goals first|refine AtT.zh ?_|refine AtT.ze ?_|(refine AtT.qR rfl ⟨_, _, rfl, rfl, rfl⟩ Tryz.underlying9 rfl (by decide) ?_)
 all_goals first|refine AtT.zh ?_|refine AtT.ze ?_|(refine AtT.qI ?_)
 all_goals (refine AtT.zS (d := 232) rfl ((by have := c_fl; omega)) ?_)
 all_goals (refine AtT.zx ?_)
 all_goals refine AtT.done ?_
 all_goals (refine At.nrm ?_)
 refine At.zX rfl rfl ?_
 refine At.nrm ?_
 refine At.zi (.q 0 (.n false 1 (.n false 2 (.n false 3 (.q 4 (.q 5 (.q 6 (.n false 7 (.n false 8 (.n false 9 (.q 10 (.q 11 (.q 12 (.q 13 (.n false 14 (.n false 15 (.n false 16 (.q 17 (.q 18 (.q 19 (.q 20 (.n false 21 (.n false 22 (.n false 23 (.q 24 (.q 25 (.q 26 (.q 27 (.n false 28 (.n false 29 (.n false 30 (.q 31 (.q 32 (.q 33 (.q 34 (.n false 35 (.n false 36 (.n false 37 (.q 38 (.q 39 (.q 40 (.q 41 (.n false 42 (.n false 43 (.n false 44 (.q 45 (.q 46 (.q 47 (.q 48 (.q 49 (.q 50 (.q 51 (.q 52 (.q 53 (.q 54 (.q 55 (.q 56 (.q 57 (.q 58 (.q 59 (.q 60 (.q 61 (.q 62 .done))))))))))))))))))))))))))))))))))))))))))))))))))))))))))))))) ?_
 refine AtT.zf ?_
 refine AtT.zN (bs28_2_0_1 _ _) ?_
 intro q235 V235 hV235 hq235
 (try replace hg:=hg.le hV235);(try replace hr:=hr.le hV235);(try replace hb:=hb.le hV235);(try replace h50:=h50.le hV235);(try replace h55:=h55.le hV235);(try replace h65:=h65.le hV235);(try replace h70:=h70.le hV235);(try replace h80:=h80.le hV235);(try replace h85:=h85.le hV235);(try replace h90:=h90.le hV235);(try replace hu96:=hu96.le hV235)
 refine AtT.qg rfl rfl ok52 (longsZ_f [4, 2] (by decide) q235 _ (show Cells _ _ (flat ei [4, 2]) from hq235)) ?_
 rintro v236 V236 hV236 hs236
 (try replace hg:=hg.le hV236);(try replace hr:=hr.le hV236);(try replace hb:=hb.le hV236);(try replace h50:=h50.le hV236);(try replace h55:=h55.le hV236);(try replace h65:=h65.le hV236);(try replace h70:=h70.le hV236);(try replace h80:=h80.le hV236);(try replace h85:=h85.le hV236);(try replace h90:=h90.le hV236);(try replace hu96:=hu96.le hV236)
 refine AtT.zG rfl rfl ok22 (longs_f _ _ _ _ _ h50 hs236) ?_
 rintro _ rfl
 refine AtT.qa (d := 237) rfl (rfl) ?_
 refine AtT.qC ?_
 refine AtT.qJ (d := 238) rfl ((show (!true) = false from rfl)) ?_
 refine AtT.zf ?_
 all_goals (first | refine AtT.kL 239 ?_ | refine AtT.zw (d := 239) rfl (fun hg239 => ?_) (fun hg239 => ?_) | refine AtT.zu (d := 239) rfl (fun hg239 => ?_) (fun hg239 => ?_))
 all_goals first|refine AtT.zh ?_|refine AtT.ze ?_|(refine AtT.zf ?_)
 all_goals first|refine AtT.qf ?_|refine AtT.zW ?_|((refine AtT.zN (bs28_1_0 _) ?_) ; (intro q241 V241 hV241 hq241))
 all_goals ((try replace hg:=hg.le hV241);(try replace hr:=hr.le hV241);(try replace hb:=hb.le hV241);(try replace h50:=h50.le hV241);(try replace h55:=h55.le hV241);(try replace h65:=h65.le hV241);(try replace h70:=h70.le hV241);(try replace h80:=h80.le hV241);(try replace h85:=h85.le hV241);(try replace h90:=h90.le hV241);(try replace hu96:=hu96.le hV241))
 all_goals first|refine AtT.qf ?_|refine AtT.zW ?_|((refine AtT.qg rfl rfl ok52 (longsZ_f [4] (by decide) q241 _ (show Cells _ _ (flat ei [4]) from hq241)) ?_) ; (rintro v242 V242 hV242 hs242))
 all_goals ((try replace hg:=hg.le hV242);(try replace hr:=hr.le hV242);(try replace hb:=hb.le hV242);(try replace h50:=h50.le hV242);(try replace h55:=h55.le hV242);(try replace h65:=h65.le hV242);(try replace h70:=h70.le hV242);(try replace h80:=h80.le hV242);(try replace h85:=h85.le hV242);(try replace h90:=h90.le hV242);(try replace hu96:=hu96.le hV242))
 all_goals first|refine AtT.qf ?_|refine AtT.zW ?_|((refine AtT.zG rfl rfl ok22 (longs_f _ _ _ _ _ h55 hs242) ?_) ; (rintro _ rfl))
 all_goals (refine AtT.qa (d := 243) rfl (rfl) ?_)
 all_goals first|refine AtT.zh ?_|refine AtT.ze ?_|(refine AtT.qC ?_)
 all_goals (refine AtT.qJ (d := 244) rfl ((show (!true) = false from rfl)) ?_)
 all_goals (refine AtT.zx ?_)
 all_goals (refine AtT.zf ?_)
 all_goals (first | refine AtT.kL 246 ?_ | refine AtT.zw (d := 246) rfl (fun hg246 => ?_) (fun hg246 => ?_) | refine AtT.zu (d := 246) rfl (fun hg246 => ?_) (fun hg246 => ?_))
 all_goals first|refine AtT.zh ?_|refine AtT.ze ?_|(refine AtT.zf ?_)
 all_goals first|refine AtT.qf ?_|refine AtT.zW ?_|((refine AtT.zN (bs37_5_0_1_2_3_4 _ _ _ _ _) ?_) ; (intro q248 V248 hV248 hq248))
 all_goals ((try replace hg:=hg.le hV248);(try replace hr:=hr.le hV248);(try replace hb:=hb.le hV248);(try replace h50:=h50.le hV248);(try replace h55:=h55.le hV248);(try replace h65:=h65.le hV248);(try replace h70:=h70.le hV248);(try replace h80:=h80.le hV248);(try replace h85:=h85.le hV248);(try replace h90:=h90.le hV248);(try replace hu96:=hu96.le hV248))
 all_goals (have s248 : SlI V248 _ [0, 1, 2, 4, 5] := Sl.lit hq248 rfl (by decide))
 all_goals first|refine AtT.qf ?_|refine AtT.zW ?_|((refine AtT.zG rfl rfl ok54 (of_f _ _) ?_) ; (rintro _ rfl))
 all_goals first|refine AtT.qf ?_|refine AtT.zW ?_|((refine AtT.zG rfl rfl ok29 (ints_f _ _ _ _ _ h65 s248) ?_) ; (rintro _ rfl))
 all_goals (refine AtT.qa (d := 250) rfl (rfl) ?_)
 all_goals first|refine AtT.zh ?_|refine AtT.ze ?_|(refine AtT.qC ?_)
 all_goals (refine AtT.qJ (d := 251) rfl ((show (!true) = false from rfl)) ?_)
 all_goals (refine AtT.zx ?_)
 all_goals (refine AtT.zf ?_)
 all_goals (first | refine AtT.kL 253 ?_ | refine AtT.zw (d := 253) rfl (fun hg253 => ?_) (fun hg253 => ?_) | refine AtT.zu (d := 253) rfl (fun hg253 => ?_) (fun hg253 => ?_))
 all_goals first|refine AtT.zh ?_|refine AtT.ze ?_|(refine AtT.zf ?_)
 all_goals first|refine AtT.qf ?_|refine AtT.zW ?_|((refine AtT.zN (bs37_4_0_1_2_3 _ _ _ _) ?_) ; (intro q255 V255 hV255 hq255))
 all_goals ((try replace hg:=hg.le hV255);(try replace hr:=hr.le hV255);(try replace hb:=hb.le hV255);(try replace h50:=h50.le hV255);(try replace h55:=h55.le hV255);(try replace h65:=h65.le hV255);(try replace h70:=h70.le hV255);(try replace h80:=h80.le hV255);(try replace h85:=h85.le hV255);(try replace h90:=h90.le hV255);(try replace hu96:=hu96.le hV255))
 all_goals (have s255 : SlI V255 _ [0, 1, 2, 3] := Sl.lit hq255 rfl (by decide))
 all_goals first|refine AtT.qf ?_|refine AtT.zW ?_|((refine AtT.zG rfl rfl ok54 (of_f _ _) ?_) ; (rintro _ rfl))
 all_goals first|refine AtT.qf ?_|refine AtT.zW ?_|((refine AtT.zG rfl rfl ok29 (ints_f _ _ _ _ _ h70 s255) ?_) ; (rintro _ rfl))
 all_goals (refine AtT.qa (d := 257) rfl (rfl) ?_)
 all_goals first|refine AtT.zh ?_|refine AtT.ze ?_|(refine AtT.qC ?_)
 all_goals (refine AtT.qJ (d := 258) rfl ((show (!true) = false from rfl)) ?_)
 all_goals (refine AtT.zx ?_)
 all_goals (refine AtT.zf ?_)
 all_goals (first | refine AtT.kL 260 ?_ | refine AtT.zw (d := 260) rfl (fun hg260 => ?_) (fun hg260 => ?_) | refine AtT.zu (d := 260) rfl (fun hg260 => ?_) (fun hg260 => ?_))
 all_goals first|refine AtT.zh ?_|refine AtT.ze ?_|(refine AtT.zf ?_)
 all_goals first|refine AtT.qf ?_|refine AtT.zW ?_|((refine AtT.zN (bs28_4_0_1_2_3 _ _ _ _) ?_) ; (intro q262 V262 hV262 hq262))
 all_goals ((try replace hg:=hg.le hV262);(try replace hr:=hr.le hV262);(try replace hb:=hb.le hV262);(try replace h50:=h50.le hV262);(try replace h55:=h55.le hV262);(try replace h65:=h65.le hV262);(try replace h70:=h70.le hV262);(try replace h80:=h80.le hV262);(try replace h85:=h85.le hV262);(try replace h90:=h90.le hV262);(try replace hu96:=hu96.le hV262))
 all_goals first|refine AtT.qf ?_|refine AtT.zW ?_|((refine AtT.qg rfl rfl ok52 (longsZ_f [3, 2, 1, 1] (by decide) q262 _ (show Cells _ _ (flat ei [3, 2, 1, 1]) from hq262)) ?_) ; (rintro v263 V263 hV263 hs263))
 all_goals ((try replace hg:=hg.le hV263);(try replace hr:=hr.le hV263);(try replace hb:=hb.le hV263);(try replace h50:=h50.le hV263);(try replace h55:=h55.le hV263);(try replace h65:=h65.le hV263);(try replace h70:=h70.le hV263);(try replace h80:=h80.le hV263);(try replace h85:=h85.le hV263);(try replace h90:=h90.le hV263);(try replace hu96:=hu96.le hV263))
 all_goals first|refine AtT.qf ?_|refine AtT.zW ?_|((refine AtT.zG rfl rfl ok22 (longs_f _ _ _ _ _ h80 hs263) ?_) ; (rintro _ rfl))
 all_goals (refine AtT.qa (d := 264) rfl (rfl) ?_)
 all_goals first|refine AtT.zh ?_|refine AtT.ze ?_|(refine AtT.qC ?_)
 all_goals (refine AtT.qJ (d := 265) rfl ((show (!true) = false from rfl)) ?_)
 all_goals (refine AtT.zx ?_)
 all_goals (refine AtT.zf ?_)
 all_goals (first | refine AtT.kL 267 ?_ | refine AtT.zw (d := 267) rfl (fun hg267 => ?_) (fun hg267 => ?_) | refine AtT.zu (d := 267) rfl (fun hg267 => ?_) (fun hg267 => ?_))
 all_goals first|refine AtT.zh ?_|refine AtT.ze ?_|(refine AtT.zf ?_)
 all_goals first|refine AtT.qf ?_|refine AtT.zW ?_|((refine AtT.zN (bs28_3_0_1_2 _ _ _) ?_) ; (intro q269 V269 hV269 hq269))
 all_goals ((try replace hg:=hg.le hV269);(try replace hr:=hr.le hV269);(try replace hb:=hb.le hV269);(try replace h50:=h50.le hV269);(try replace h55:=h55.le hV269);(try replace h65:=h65.le hV269);(try replace h70:=h70.le hV269);(try replace h80:=h80.le hV269);(try replace h85:=h85.le hV269);(try replace h90:=h90.le hV269);(try replace hu96:=hu96.le hV269))
 all_goals first|refine AtT.qf ?_|refine AtT.zW ?_|((refine AtT.qg rfl rfl ok52 (longsZ_f [3, 2, 2] (by decide) q269 _ (show Cells _ _ (flat ei [3, 2, 2]) from hq269)) ?_) ; (rintro v270 V270 hV270 hs270))
 all_goals ((try replace hg:=hg.le hV270);(try replace hr:=hr.le hV270);(try replace hb:=hb.le hV270);(try replace h50:=h50.le hV270);(try replace h55:=h55.le hV270);(try replace h65:=h65.le hV270);(try replace h70:=h70.le hV270);(try replace h80:=h80.le hV270);(try replace h85:=h85.le hV270);(try replace h90:=h90.le hV270);(try replace hu96:=hu96.le hV270))
 all_goals first|refine AtT.qf ?_|refine AtT.zW ?_|((refine AtT.zG rfl rfl ok22 (longs_f _ _ _ _ _ h85 hs270) ?_) ; (rintro _ rfl))
 all_goals (refine AtT.qa (d := 271) rfl (rfl) ?_)
 all_goals first|refine AtT.zh ?_|refine AtT.ze ?_|(refine AtT.qC ?_)
 all_goals (refine AtT.qJ (d := 272) rfl ((show (!true) = false from rfl)) ?_)
 all_goals (refine AtT.zx ?_)
 all_goals (refine AtT.zf ?_)
 all_goals (first | refine AtT.kL 274 ?_ | refine AtT.zw (d := 274) rfl (fun hg274 => ?_) (fun hg274 => ?_) | refine AtT.zu (d := 274) rfl (fun hg274 => ?_) (fun hg274 => ?_))
 all_goals first|refine AtT.zh ?_|refine AtT.ze ?_|(refine AtT.zf ?_)
 all_goals first|refine AtT.qf ?_|refine AtT.zW ?_|((refine AtT.zN (bs28_3_0_1_2 _ _ _) ?_) ; (intro q276 V276 hV276 hq276))
 all_goals ((try replace hg:=hg.le hV276);(try replace hr:=hr.le hV276);(try replace hb:=hb.le hV276);(try replace h50:=h50.le hV276);(try replace h55:=h55.le hV276);(try replace h65:=h65.le hV276);(try replace h70:=h70.le hV276);(try replace h80:=h80.le hV276);(try replace h85:=h85.le hV276);(try replace h90:=h90.le hV276);(try replace hu96:=hu96.le hV276))
 all_goals first|refine AtT.qf ?_|refine AtT.zW ?_|((refine AtT.qg rfl rfl ok52 (longsZ_f [3, 2, 3] (by decide) q276 _ (show Cells _ _ (flat ei [3, 2, 3]) from hq276)) ?_) ; (rintro v277 V277 hV277 hs277))
 all_goals ((try replace hg:=hg.le hV277);(try replace hr:=hr.le hV277);(try replace hb:=hb.le hV277);(try replace h50:=h50.le hV277);(try replace h55:=h55.le hV277);(try replace h65:=h65.le hV277);(try replace h70:=h70.le hV277);(try replace h80:=h80.le hV277);(try replace h85:=h85.le hV277);(try replace h90:=h90.le hV277);(try replace hu96:=hu96.le hV277))
 all_goals first|refine AtT.qf ?_|refine AtT.zW ?_|((refine AtT.zG rfl rfl ok22 (longs_f _ _ _ _ _ h90 hs277) ?_) ; (rintro _ rfl))
 all_goals (refine AtT.qa (d := 278) rfl (rfl) ?_)
 all_goals first|refine AtT.zh ?_|refine AtT.ze ?_|(refine AtT.qC ?_)
 all_goals (refine AtT.qJ (d := 279) rfl ((show (!true) = false from rfl)) ?_)
 all_goals (refine AtT.zx ?_)
 all_goals (refine AtT.zf ?_)
 all_goals (first | refine AtT.kL 281 ?_ | refine AtT.zw (d := 281) rfl (fun hg281 => ?_) (fun hg281 => ?_) | refine AtT.zu (d := 281) rfl (fun hg281 => ?_) (fun hg281 => ?_))
 all_goals first|refine AtT.zh ?_|refine AtT.ze ?_|(refine AtT.zf ?_)
 all_goals first|refine AtT.zh ?_|refine AtT.ze ?_|(refine AtT.qE ?_)
 all_goals (refine AtT.zS (d := 283) rfl ((fun h => h rfl)) ?_)
 all_goals (refine AtT.zx ?_)
 all_goals (refine AtT.zf ?_)
 all_goals (first | refine AtT.kL 285 ?_ | refine AtT.zw (d := 285) rfl (fun hg285 => ?_) (fun hg285 => ?_) | refine AtT.zu (d := 285) rfl (fun hg285 => ?_) (fun hg285 => ?_))
 all_goals first|refine AtT.zh ?_|refine AtT.ze ?_|(refine AtT.zf ?_)
 all_goals first|refine AtT.zh ?_|refine AtT.ze ?_|(refine AtT.qE ?_)
 all_goals (refine AtT.zS (d := 287) rfl ((fun h => h rfl)) ?_)
 all_goals (refine AtT.zx ?_)
 all_goals (refine AtT.zf ?_)
 all_goals (first | refine AtT.kL 289 ?_ | refine AtT.zw (d := 289) rfl (fun hg289 => ?_) (fun hg289 => ?_) | refine AtT.zu (d := 289) rfl (fun hg289 => ?_) (fun hg289 => ?_))
 all_goals first|refine AtT.zh ?_|refine AtT.ze ?_|(refine AtT.zf ?_)
 all_goals first|refine AtT.zh ?_|refine AtT.ze ?_|(refine AtT.neT rfl ⟨_, _, rfl, rfl, rfl⟩ rfl rfl (by decide) ?_)
 all_goals (refine AtT.zS (d := 291) rfl ((fun h => h rfl)) ?_)
 all_goals (refine AtT.zx ?_)
 all_goals (refine AtT.zf ?_)
 all_goals (first | refine AtT.kL 293 ?_ | refine AtT.zw (d := 293) rfl (fun hg293 => ?_) (fun hg293 => ?_) | refine AtT.zu (d := 293) rfl (fun hg293 => ?_) (fun hg293 => ?_))
 all_goals first|refine AtT.zh ?_|refine AtT.ze ?_|(refine AtT.zf ?_)
 all_goals first|refine AtT.zh ?_|refine AtT.ze ?_|(refine AtT.neT rfl ⟨_, _, rfl, rfl, rfl⟩ rfl rfl (by decide) ?_)
 all_goals (refine AtT.zS (d := 295) rfl ((fun h => h rfl)) ?_)
 all_goals (refine AtT.zx ?_)
 all_goals refine AtT.done ?_
 all_goals (refine At.nrm ?_)
 refine At.zX rfl rfl ?_
 refine At.nrm ?_
 refine At.zi (.q 0 (.n false 1 (.q 2 (.q 3 (.q 4 (.n false 5 (.n true 6 (.q 7 .done)))))))) ?_
 refine AtT.zf ?_
 refine AtT.qg rfl rfl ok39 (load_f (fileT bo6) (by have := c_fl; omega) _ hg) ?_
 rintro _ V299 hV299 ⟨u299, rfl, hu299⟩; rw [c_load] at hu299; rw [c_load]; obtain ⟨w299, a299, c299, rfl, ⟨q299, z299, y299, e299, rfl, i299, j299⟩, hs299⟩ := id hu299; clear e299 i299 j299 hs299
 refine AtT.zf ?_
 refine AtT.zt ?_
 refine AtT.zt ?_
 refine AtT.zT z26 ?_
 intro b43
 refine AtT.zy zH ?_
 refine AtT.zg ?_
 refine AtT.done ?_
 refine At.nrm ?_
 replace hg := hg.le hV299
 replace hr := hr.le hV299
 replace hb := hb.le hV299
 replace h50 := h50.le hV299
 replace h55 := h55.le hV299
 replace h65 := h65.le hV299
 replace h70 := h70.le hV299
 replace h80 := h80.le hV299
 replace h85 := h85.le hV299
 replace h90 := h90.le hV299
 replace hu96 := hu96.le hV299
 clear hV299
 refine At.zi (.q 0 (.q 1 (.q 2 (.q 3 (.q 4 (.n false 5 (.q 6 (.q 7 (.q 8 (.q 9 (.n false 10 (.q 11 (.q 12 .done))))))))))))) ?_
 refine AtT.zf ?_
 refine AtT.qE ?_
 refine AtT.zS (d := 303) rfl ((fun h => h rfl)) ?_
 refine AtT.zf ?_
 all_goals (first | refine AtT.kL 304 ?_ | refine AtT.zw (d := 304) rfl (fun hg304 => ?_) (fun hg304 => ?_) | refine AtT.zu (d := 304) rfl (fun hg304 => ?_) (fun hg304 => ?_))
 all_goals first|refine AtT.zh ?_|refine AtT.ze ?_|(first | refine AtT.zF zH ?_ | refine AtT.zJ zH ?_ | refine AtT.zD zH ?_)
 all_goals first|refine AtT.zh ?_|refine AtT.ze ?_|(first | refine AtT.zF zH ?_ | refine AtT.zJ zH ?_ | refine AtT.zD zH ?_)
 all_goals first|refine AtT.qf ?_|refine AtT.zW ?_|((refine AtT.zG rfl rfl ok30 (same_f bo6 bo6 _ _ _ hu299 hb) ?_) ; (rintro _ rfl))
 all_goals (refine AtT.qa (d := 307) rfl (rfl) ?_)
 all_goals first|refine AtT.zh ?_|refine AtT.ze ?_|(refine AtT.qC ?_)
 all_goals (refine AtT.qJ (d := 308) rfl ((show (!true) = false from rfl)) ?_)
 all_goals (refine AtT.zx ?_)
 all_goals (refine AtT.zf ?_)
 all_goals (first | refine AtT.kL 310 ?_ | refine AtT.zw (d := 310) rfl (fun hg310 => ?_) (fun hg310 => ?_) | refine AtT.zu (d := 310) rfl (fun hg310 => ?_) (fun hg310 => ?_))
 all_goals first|refine AtT.zh ?_|refine AtT.ze ?_|(first | refine AtT.zF zH ?_ | refine AtT.zJ zH ?_ | refine AtT.zD zH ?_)
 all_goals first|refine AtT.qf ?_|refine AtT.zW ?_|((refine AtT.zG rfl rfl ok28 (jD box _ _ hu96) ?_) ; (rintro _ rfl; rw [c_x]))
 all_goals first|refine AtT.zh ?_|refine AtT.ze ?_|(refine AtT.qE ?_)
 all_goals (refine AtT.zS (d := 313) rfl ((fun h => h rfl)) ?_)
 all_goals (refine AtT.zx ?_)
 all_goals refine AtT.done ?_
 all_goals (refine At.nrm ?_)
 refine At.zX rfl rfl ?_
 refine At.nrm ?_
 refine At.zi (.q 0 (.n false 1 (.q 2 (.q 3 (.q 4 (.q 5 (.q 6 .done))))))) ?_
 first | refine AtT.zF zH ?_ | refine AtT.zJ zH ?_ | refine AtT.zD zH ?_
 refine AtT.qg rfl rfl ok31 (pstock_f box 7 9 _ _ hu96) ?_
 rintro _ V317 hV317 ⟨u317, rfl, h317⟩; rw [c_x1E]
 refine AtT.zf ?_
 refine AtT.zt ?_
 refine AtT.zt ?_
 refine AtT.zg ?_
 refine AtT.zg ?_
 refine AtT.done ?_
 refine At.nrm ?_
 replace hg := hg.le hV317
 replace hr := hr.le hV317
 replace hb := hb.le hV317
 replace h50 := h50.le hV317
 replace h55 := h55.le hV317
 replace h65 := h65.le hV317
 replace h70 := h70.le hV317
 replace h80 := h80.le hV317
 replace h85 := h85.le hV317
 replace h90 := h90.le hV317
 replace hu96 := hu96.le hV317
 replace hu299 := hu299.le hV317
 clear hV317
 rw [c_x1] at h317
 refine At.zi (.q 0 (.q 1 (.q 2 (.q 3 (.n false 4 (.n false 5 (.n false 6 (.q 7 (.q 8 .done))))))))) ?_
 refine AtT.zf ?_
 refine AtT.qF ?_
 refine AtT.qa (d := 321) rfl (rfl) ?_
 refine AtT.zf ?_
 all_goals (first | refine AtT.kL 322 ?_ | refine AtT.zw (d := 322) rfl (fun hg322 => ?_) (fun hg322 => ?_) | refine AtT.zu (d := 322) rfl (fun hg322 => ?_) (fun hg322 => ?_))
 all_goals first|refine AtT.zh ?_|refine AtT.ze ?_|(refine AtT.zf ?_)
 all_goals first|refine AtT.qf ?_|refine AtT.zW ?_|((refine AtT.zN (bs28_4_0_1_2_3 _ _ _ _) ?_) ; (intro q324 V324 hV324 hq324))
 all_goals ((try replace hg:=hg.le hV324);(try replace h317:=h317.le hV324))
 all_goals first|refine AtT.qf ?_|refine AtT.zW ?_|((refine AtT.qg rfl rfl ok52 (longsZ_f [3, 2, 0, 1] (by decide) q324 _ (show Cells _ _ (flat ei [3, 2, 0, 1]) from hq324)) ?_) ; (rintro v325 V325 hV325 hs325))
 all_goals ((try replace hg:=hg.le hV325);(try replace h317:=h317.le hV325))
 all_goals first|refine AtT.qf ?_|refine AtT.zW ?_|((refine AtT.zG rfl rfl ok22 (longs_f _ _ _ _ _ h317 hs325) ?_) ; (rintro _ rfl))
 all_goals (refine AtT.qa (d := 326) rfl (rfl) ?_)
 all_goals (refine AtT.zx ?_)
 all_goals (refine AtT.zg ?_)
 all_goals refine AtT.done ?_
 all_goals (refine At.nrm ?_)
 all_goals (exact At.qh rfl (.tmp rfl) rfl)
end Go.Proofs.YtpoignmclfdgpaaGreatDoor
