/- The stage's theorem: no given patches that mend a sheet are fewer than given knots that are alone are many, nor than the fewest, which are at least as many as the knots that are returned; as few as that cover no fewer cells: for all valid sheets, patches by numbers, knots by bits. No condition. -/
import Derived.Test.YtghomjjffllkeaaGreatDoorB6
set_option linter.unusedVariables false
set_option linter.unusedSimpArgs false
set_option linter.unusedSectionVars false
set_option linter.unusedVariables false
namespace Go.Lw
open Go.RowKit
section
variable {cx : Cx} {n : Nat} {ks : List (Nat × Value)} {O : List Own} {V : View} {P : Program} {ops : Array Oper} {Qn : Act → World → Prop} {t : Tr} {i d : Nat} {T : TypeId} {pos : String} {after : Array Edge} {gd : Option (Nat × Bool)} {X Z : TypeId} {x y : Operand} {p q : Int}
theorem AtT.shlG {A N : Nat} {k : IntKind} (ho : ops[i]? = some ⟨some d, .binOp .shl X x y Z, T, pos, after, gd⟩) (hg : Gd ks ops gd) (hx : ev ks x = some (.int .i64 p)) (hy : ev ks y = some (.int k q)) (hp : p = (A : Int)) (hq : q = (N : Int)) (hN : N ≤ 61) (hA : A <<< N < 9223372036854775808) (hn : d < n)
  (next : AtT cx n ((d, .int .i64 ((A <<< N : Nat) : Int)) :: ks) O V P ops Qn t) : AtT cx n ks O V P ops Qn (.q i t) :=
 .q ho hg rfl hn (fun a w hk _ => by
  subst hp hq
  have hr : Op.shift .shl .i64 (A : Int) k (N : Int) = (pure (.int .i64 ((A <<< N : Nat) : Int)) : Sem Value) := by
   unfold Op.shift
   rw [if_neg (by omega)]
   have e : min ((N : Int).toNat) IntKind.i64.bits = N := by show min ((N : Int).toNat) 64 = N; omega
   have e2 : (A : Int) * 2 ^ N = ((A <<< N : Nat) : Int) := by rw [Nat.shiftLeft_eq, Int.natCast_mul, Int.natCast_pow]; rfl
   simp only [e, e2, Go.Lib.wrap_i64_small _ hA]
  simp only [execOp, hk.ev hx, hk.ev hy, eqGuard_shl, binOp_shl, hr, Sem.run_bind, Sem.run_pure, Result.andThen_ok]) next
end
end Go.Lw
set_option linter.unusedVariables false
namespace Go.Proofs.YtghomjjffllkeaaGreatDoor
open Go.Lw Go.Gl Go.Pm Go.RowKit Go.Shelf
theorem given_f (s : Sh) (hok : jH s) (bs : List U8) (V : View) (v u : Value) (hv : ShV V v s) (hu : Sl V e8 1 u bs) : Fnc Tryz.prog 47 [v, u] V fun r V' => ∃ (a : Option Addr) (c : Nat) (ps : List Pc), r = .slice a ps.length c ∧ Sl V' pce 4 (.slice a ps.length c) ps ∧ Mends (gdS s) (knL s) ps ∧ ps.length ≤ (knL s).length := by
 obtain ⟨a, c, rfl, hs⟩ := id hv
 obtain ⟨a1, c1, rfl, k1, k2, _⟩ := id hu
 clear k1 k2
 have hul := hu.jq
 have hkn := hok.kn
 have hg := sh_gok hok
 have hon := kn_on hok
 have hkb : ∀ k ∈ knL s, 0 ≤ k.r ∧ k.r ≤ 99 ∧ 0 ≤ k.c ∧ k.c ≤ 99 := fun k hk => by
  have h1 := hon k hk
  have h2 := on_bd hg h1
  unfold OnG at h1
  omega
 refine qc Tryz.func47 rfl Tryz.ntmps47 (Nat.le_of_ble_eq_true rfl) ?_
 intro w0 hw0
 refine At.nrm ?_
 refine At.zi (.n false 0 (.q 1 .done)) ?_
 refine AtT.qV ?_
 intro b2
 refine AtT.zh ?_
 refine AtT.done ?_
 refine At.nrm ?_
 refine At.zi (.q 0 (.n false 1 (.q 2 .done))) ?_
 first | refine AtT.zu zx ?_ | refine AtT.zC zx ?_ | refine AtT.zt zx ?_
 refine AtT.qg rfl rfl ok44 (jr s (by have := hok.n; omega) (fun r hr => by rw [hok.sz r hr]; have := hok.w; omega) _ _ hv) ?_
 rintro v13 V13 hV13 hk13; obtain ⟨ak, ck, rfl, k1, k2, _⟩ := id hk13; clear k1 k2
 refine AtT.zh ?_
 refine AtT.done ?_
 refine At.nrm ?_
 replace hv := hv.le hV13
 replace hu := hu.le hV13
 clear hV13
 refine At.zi (.q 0 .done) ?_
 refine AtT.zh ?_
 refine AtT.done ?_
 refine At.nrm ?_
 refine At.zi (.q 0 .done) ?_
 refine AtT.zh ?_
 refine AtT.done ?_
 refine At.nrm ?_
 refine At.newRow 26 4 ?_
 refine At.lp (ι := Nat × List Pc × Option Addr × Nat) (KS := fun g => [(1, .slice a1 bs.length c1), (2, .pointer (some ⟨b2, 0, none⟩)), (5, .slice ak (knL s).length ck), (6, .slice g.2.2.1 g.2.1.length g.2.2.2), (7, iv g.1)])
  (OS := fun g => [.blk b2 (LC [.slice a s.rows.length c, iv s.most] 24), .row (.slice g.2.2.1 g.2.1.length g.2.2.2) 26 4 g.2.1.length (flat pce g.2.1)])
  (VS := fun g V' => Le V13 V' ∧ g.1 ≤ (knL s).length ∧ GvS (gdS s) (knL s) g.1 g.2.1) (μ := fun g => (knL s).length - g.1) (0, [], none, 0) ?_ ?_ ?_ ?_
 ·exact ⟨rfl, rfl, rfl, rfl, rfl, trivial⟩
 ·exact Pt.zI
 ·exact ⟨Le.refl _, Nat.zero_le _, gv_start⟩
 rintro ⟨i, ps, ao, co⟩ V' ks' O' ⟨hVV, hil, hgv⟩ hk hO hl2
 dsimp only at hil hgv hk hO
 subst hk hO
 have hv' := hv.le hVV
 have hu' := hu.le hVV
 have hk' := hk13.le hVV
 have hpl := hgv.len
 refine At.nrm ?_
 refine At.zi (.q 0 (.q 1 (.q 2 (.q 3 .done)))) ?_
 refine AtT.zf ?_
 refine AtT.zf ?_
 first | refine AtT.zU Tryz.underlying58 ?_ | refine AtT.zV Tryz.underlying58 ?_
 refine AtT.zY ?_
 refine AtT.done ?_
 refine At.nrm ?_
 refine At.zX rfl (fun hp => ?_) (fun hp => ?_)
 rotate_left
 ·obtain rfl : i = (knL s).length := by omega
  refine At.nrm ?_
  refine At.giveSl (l := ps) pce_len rfl rfl zZ.zI (fun V6 hV6 hs6 => ?_)
  refine At.zi (.q 0 (.q 1 .done)) ?_
  refine AtT.zf ?_
  refine AtT.zh ?_
  refine AtT.done ?_
  refine At.nrm ?_
  exact At.qd rfl (.tmp rfl) ⟨ao, co, ps, rfl, hs6, gv_end hgv, hgv.len⟩
 obtain ⟨x, hx⟩ : ∃ x, (knL s)[i]? = some x := ⟨_, List.getElem?_eq_getElem (by omega)⟩
 have hxm := List.mem_of_getElem? hx
 refine At.nrm ?_
 refine At.zi (.q 0 .done) ?_
 refine AtT.zh ?_
 refine AtT.done ?_
 refine At.nrm ?_
 refine At.zi (.q 0 .done) ?_
 refine AtT.zh ?_
 refine AtT.done ?_
 refine At.nrm ?_
 refine At.lend zZ.zI (fun V3 hV3 hL => ?_)
 have hsp := hL.sl pce_len
 have hk3 := hk'.le hV3
 refine At.lp (ι := Nat) (KS := fun k => [(1, .slice a1 bs.length c1), (2, .pointer (some ⟨b2, 0, none⟩)), (5, .slice ak (knL s).length ck), (6, .slice ao ps.length co), (7, iv i), (8, .bool (hasB (ps.take k) x)), (9, iv k)])
  (OS := fun _ => [.blk b2 (LC [.slice a s.rows.length c, iv s.most] 24)]) (VS := fun k V'' => V'' = V3 ∧ k ≤ ps.length) (μ := fun k => ps.length - k) 0 ?_ ?_ ?_ ?_
 ·exact ⟨rfl, rfl, rfl, rfl, rfl, rfl, rfl, trivial⟩
 ·exact Pt.zI
 ·exact ⟨rfl, Nat.zero_le _⟩
 rintro k V'' ks' O' ⟨rfl, hkl⟩ hk hO hl4
 subst hk hO
 refine At.nrm ?_
 refine At.zi (.q 0 (.q 1 (.q 2 (.q 3 .done)))) ?_
 refine AtT.zf ?_
 refine AtT.zf ?_
 first | refine AtT.zU Tryz.underlying27 ?_ | refine AtT.zV Tryz.underlying27 ?_
 refine AtT.zY ?_
 refine AtT.done ?_
 refine At.nrm ?_
 refine At.zX rfl (fun hp2 => ?_) (fun hp2 => ?_)
 ·obtain ⟨p, hpk⟩ : ∃ p, ps[k]? = some p := ⟨_, List.getElem?_eq_getElem (by omega)⟩
  have hbd := lies_bd hok (hgv.lies p (List.mem_of_getElem? hpk))
  have hsn := hasB_snoc x hpk
  refine At.nrm ?_
  cases hh : hasB (ps.take k) x with
  | true =>
   refine At.draw (.q 0 (.q 1 (.q 2 (.q 3 (.q 4 (.q 5 (.q 6 (.q 7 (.q 8 (.q 9 (.n false 10 (.q 11 (.q 12 .done))))))))))))) ffm (by kernel_rfl) ?_
   refine AtT.zf ?_
   refine AtT.setB (d := 26) rfl (rfl) ?_
   refine AtT.zf ?_
   all_goals (first | refine AtT.kL 27 ?_ | refine AtT.zA (d := 27) rfl (fun hg27 => ?_) (fun hg27 => ?_) | refine AtT.zz (d := 27) rfl (fun hg27 => ?_) (fun hg27 => ?_))
   all_goals first|refine AtT.zg ?_|refine AtT.ze ?_|(refine AtT.zf ?_)
   all_goals first|refine AtT.zg ?_|refine AtT.ze ?_|(refine AtT.zf ?_)
   all_goals first|refine AtT.zg ?_|refine AtT.ze ?_|(refine AtT.qi Tryz.underlying27 zQ ?_) ; (intro p30 e30 he30 hc30)
   all_goals first|refine AtT.zg ?_|refine AtT.ze ?_|(first | refine AtT.zu zQ ?_ | refine AtT.zC zQ ?_ | refine AtT.zt zQ ?_)
   all_goals first|refine AtT.zg ?_|refine AtT.ze ?_|(refine AtT.zf ?_)
   all_goals first|refine AtT.zg ?_|refine AtT.ze ?_|(refine AtT.zf ?_)
   all_goals first|refine AtT.zg ?_|refine AtT.ze ?_|(refine AtT.qi Tryz.underlying58 tk67 ?_) ; (intro p34 e34 he34 hc34)
   all_goals first|refine AtT.zg ?_|refine AtT.ze ?_|(first | refine AtT.zu tk67 ?_ | refine AtT.zC tk67 ?_ | refine AtT.zt tk67 ?_)
   all_goals (first | refine AtT.zP ?_ | refine AtT.zJ ?_ | ((fail)))
   all_goals (refine AtT.zy ?_)
   all_goals (refine AtT.zh ?_)
   all_goals refine AtT.done ?_
   all_goals (refine At.nrm ?_)
   refine At.nrm ?_
   refine At.zi (.q 0 (.q 1 (.q 2 .done))) ?_
   refine AtT.zf ?_
   first | refine AtT.qh ?_ | refine AtT.zT ?_
   refine AtT.zh ?_
   refine AtT.done ?_
   refine At.nrm ?_
   all_goals refine At.round (k + 1) ?_ ?_ ?_ ?_
   ·show ps.length - (k + 1) < ps.length - k; omega
   ·exact ⟨rfl, by omega⟩
   ·exact ⟨rfl, rfl, rfl, rfl, rfl, by rw [hsn, hh]; rfl, ivs (by omega), trivial⟩
   ·exact Pt.zI
  | false =>
   refine At.draw (.q 0 (.q 1 (.q 2 (.q 3 (.q 4 (.q 5 (.q 6 (.q 7 (.q 8 (.q 9 (.n false 10 (.q 11 (.q 12 .done))))))))))))) ffm (by kernel_rfl) ?_
   refine AtT.zf ?_
   refine AtT.setB (d := 26) rfl (rfl) ?_
   refine AtT.zf ?_
   all_goals (first | refine AtT.kL 27 ?_ | refine AtT.zA (d := 27) rfl (fun hg27 => ?_) (fun hg27 => ?_) | refine AtT.zz (d := 27) rfl (fun hg27 => ?_) (fun hg27 => ?_))
   all_goals first|refine AtT.zg ?_|refine AtT.ze ?_|(refine AtT.zf ?_)
   all_goals first|refine AtT.zg ?_|refine AtT.ze ?_|(refine AtT.zf ?_)
   all_goals first|refine AtT.zg ?_|refine AtT.ze ?_|(refine AtT.qi Tryz.underlying27 zQ ?_) ; (intro p30 e30 he30 hc30)
   all_goals first|refine AtT.zg ?_|refine AtT.ze ?_|(first | refine AtT.zu zQ ?_ | refine AtT.zC zQ ?_ | refine AtT.zt zQ ?_)
   all_goals (obtain rfl : p = e30 := by have : ps[k]? = some e30 := (by simpa using he30); rw [hpk] at this; simpa using this)
   all_goals first|refine AtT.zg ?_|refine AtT.ze ?_|(refine AtT.zf ?_)
   all_goals first|refine AtT.zg ?_|refine AtT.ze ?_|(refine AtT.zf ?_)
   all_goals first|refine AtT.zg ?_|refine AtT.ze ?_|(refine AtT.qi Tryz.underlying58 tk67 ?_) ; (intro p34 e34 he34 hc34)
   all_goals first|refine AtT.zg ?_|refine AtT.ze ?_|(first | refine AtT.zu tk67 ?_ | refine AtT.zC tk67 ?_ | refine AtT.zt tk67 ?_)
   all_goals (obtain rfl : x = e34 := by have : (knL s)[i]? = some e34 := (by simpa using he34); rw [hx] at this; simpa using this)
   all_goals (first | refine AtT.zP ?_ | refine AtT.zJ ?_ | ((refine AtT.zq rfl rfl ok48 (rhas_f p x hbd _) ?_) ; (rintro _ rfl)))
   all_goals (refine AtT.zy ?_)
   all_goals (refine AtT.zh ?_)
   all_goals refine AtT.done ?_
   all_goals (refine At.nrm ?_)
   refine At.nrm ?_
   refine At.zi (.q 0 (.q 1 (.q 2 .done))) ?_
   refine AtT.zf ?_
   first | refine AtT.qh ?_ | refine AtT.zT ?_
   refine AtT.zh ?_
   refine AtT.done ?_
   refine At.nrm ?_
   all_goals refine At.round (k + 1) ?_ ?_ ?_ ?_
   ·show ps.length - (k + 1) < ps.length - k; omega
   ·exact ⟨rfl, by omega⟩
   ·exact ⟨rfl, rfl, rfl, rfl, rfl, by rw [hsn, hh, Bool.false_or]; rfl, ivs (by omega), trivial⟩
   ·exact Pt.zI
 obtain rfl : k = ps.length := by omega
 refine At.nrm ?_
 refine At.sub (ks' := [(1, .slice a1 bs.length c1), (2, .pointer (some ⟨b2, 0, none⟩)), (5, .slice ak (knL s).length ck), (6, .slice ao ps.length co), (7, iv i), (8, .bool (hasB ps x))]) ⟨rfl, rfl, rfl, rfl, rfl, by rw [List.take_length]; rfl, trivial⟩ ?_
 refine At.zi (.q 0 .done) ?_
 refine AtT.zf ?_
 refine AtT.done ?_
 refine At.nrm ?_
 refine At.cond rfl (fun hc => ?_) (fun hc => ?_)
 ·refine At.regain hL hV3 (Le.refl _) hl2 (fun V4 hV4 => ?_)
  refine At.nrm ?_
  refine At.zi (.q 0 (.q 1 (.q 2 .done))) ?_
  refine AtT.zf ?_
  first | refine AtT.qh ?_ | refine AtT.zT ?_
  refine AtT.zh ?_
  refine AtT.done ?_
  refine At.nrm ?_
  refine At.round (i + 1, ps, ao, co) ?_ ?_ ?_ ?_
  ·show (knL s).length - (i + 1) < (knL s).length - i; omega
  ·exact ⟨hVV.trans hV4, by dsimp only; omega, gv_skip hgv hx hc⟩
  ·exact ⟨rfl, rfl, rfl, rfl, ivs (by dsimp only; omega), trivial⟩
  ·exact Pt.zI
 refine At.regain hL hV3 (Le.refl _) hl2 (fun V4 hV4 => ?_)
 have hv4 := hv'.le hV4
 have hu4 := hu'.le hV4
 have hk4 := hk'.le hV4
 refine At.nrm ?_
 refine At.zi (.q 0 .done) ?_
 refine AtT.zh ?_
 refine AtT.done ?_
 refine At.nrm ?_
 refine At.zi (.q 0 (.q 1 (.q 2 .done))) ?_
 refine AtT.zf ?_
 first | refine AtT.zU Tryz.underlying56 ?_ | refine AtT.zV Tryz.underlying56 ?_
 refine AtT.qy ?_
 refine AtT.done ?_
 refine At.nrm ?_
 refine At.jo (ι := Nat) (fun m => [(1, .slice a1 bs.length c1), (2, .pointer (some ⟨b2, 0, none⟩)), (5, .slice ak (knL s).length ck), (6, .slice ao ps.length co), (7, iv i), (10, iv m)])
  (fun _ => [.blk b2 (LC [.slice a s.rows.length c, iv s.most] 24), .row (.slice ao ps.length co) 26 4 ps.length (flat pce ps)]) (fun m V'' => V'' = V4 ∧ m ≤ 255) ?_ ?_
 ·refine At.zX rfl (fun hb => ?_) (fun hb => ?_)
  ·have hb0 : (0 : Int) < (bs.length : Int) := by omega
   have ht0 : 0 ≤ Int.tmod (i : Int) (bs.length : Int) := Int.tmod_nonneg _ (by omega)
   have ht1 : Int.tmod (i : Int) (bs.length : Int) < (bs.length : Int) := Int.tmod_lt_of_pos _ hb0
   obtain ⟨z, hz⟩ : ∃ z, bs[(Int.tmod (i : Int) (bs.length : Int)).toNat]? = some z := ⟨_, List.getElem?_eq_getElem (by omega)⟩
   have hzb := z.h
   refine At.nrm ?_
   refine At.zi (.q 0 (.q 1 (.q 2 (.q 3 (.q 4 (.q 5 (.q 6 (.q 7 (.q 8 .done))))))))) ?_
   refine AtT.zf ?_
   refine AtT.zf ?_
   refine AtT.zf ?_
   first | refine AtT.zU Tryz.underlying56 ?_ | refine AtT.zV Tryz.underlying56 ?_
   refine AtT.krem ?_
   refine AtT.qi Tryz.underlying56 tk5 ?_
   intro p47 e47 he47 hc47
   first | refine AtT.zm tk5 ?_ | refine AtT.zo tk5 ?_
   obtain rfl : z = e47 := by have := he47; rw [hz] at this; simpa using this
   refine AtT.kconv un5 Tryz.underlying3 ?_
   rw [wrap_fit (Fit.of (by omega) (by omega))]
   refine AtT.zh ?_
   refine AtT.done ?_
   refine At.nrm ?_
   exact At.qf z.n.toNat ⟨rfl, by omega⟩ ⟨rfl, rfl, rfl, rfl, rfl, ivs (by omega), trivial⟩ Pt.zI
  ·refine At.nrm ?_
   exact At.qf 0 ⟨rfl, by omega⟩ ⟨rfl, rfl, rfl, rfl, rfl, rfl, trivial⟩ Pt.zI
 rintro m V5 ks' O' ⟨rfl, hm⟩ hk hO hl5
 subst hk hO
 have hi9 : i < (knL s).length := by omega
 have hp2 : 2 ^ (knL s).length ≤ 2 ^ 10 := Nat.pow_le_pow_right (by decide) hkn
 have hp0 := Nat.two_pow_pos (knL s).length
 have hpi : 2 ^ i ≤ 2 ^ 10 := Nat.pow_le_pow_right (by decide) (by omega)
 have hsh : m <<< i < 9223372036854775808 := by
  rw [Nat.shiftLeft_eq]
  have := Nat.mul_le_mul hm hpi
  omega
 have hbl : gvB i m (knL s).length < 9223372036854775808 := by have := gvB_lt (m := m) hi9; omega
 have han : m <<< i &&& (2 ^ (knL s).length - 1) < 9223372036854775808 := Nat.lt_of_le_of_lt Nat.and_le_right (by omega)
 have hbx : x ∈ sel (knL s) (gvB i m (knL s).length) := jd.2 ⟨i, hx, gvB_bit i m _⟩
 have hb1 : ∀ y, y ∈ sel (knL s) (2 ^ i) ↔ y = x := sel_one hx
 have hbp : 2 ^ i < 9223372036854775808 := by omega
 have hm1 : x ∈ sel (knL s) (2 ^ i) := (hb1 x).2 rfl
 have e1 : bbx (sel (knL s) (2 ^ i)) = bbx [x] := bbx_mem (fun e => by rw [e] at hm1; cases hm1) (by simp) (fun k hk => on_bd hg (hon k (sel_in hk))) (fun k => by rw [hb1]; simp)
 have hl1 : Lies (gdS s) (bbx (sel (knL s) (2 ^ i))) := by rw [e1]; exact lies_one hg (hon x hxm) (kn_fig hok x hxm)
 refine At.nrm ?_
 refine At.jo (ι := Nat) (fun b11 => [(1, .slice a1 bs.length c1), (2, .pointer (some ⟨b2, 0, none⟩)), (5, .slice ak (knL s).length ck), (6, .slice ao ps.length co), (7, iv i), (11, .pointer (some ⟨b11, 0, none⟩))])
  (fun b11 => [.blk b2 (LC [.slice a s.rows.length c, iv s.most] 24), .row (.slice ao ps.length co) 26 4 ps.length (flat pce ps), .blk b11 (LC (pce (bbx (sel (knL s) (gvB i m (knL s).length)))) 26)]) (fun _ V'' => V'' = V5) ?_ ?_
 ·refine At.draw (.q 0 (.q 1 (.q 2 (.q 3 (.q 4 (.q 5 (.q 6 (.q 7 (.q 8 (.q 9 (.q 10 (.q 11 (.two 12 (.n false 13 (.n true 14 .done)) 13 (.n false 12 (.n true 14 .done))))))))))))))) ffm (by kernel_rfl) ?_
  refine AtT.zf ?_
  refine AtT.zf ?_
  refine AtT.shlN rfl trivial rfl rfl rfl (by omega) (by decide) (N := i) ?_
  refine AtT.zf ?_
  refine AtT.zf ?_
  refine AtT.shlG rfl trivial rfl rfl rfl rfl (by omega) hsh (by decide) (A := m) (N := i) ?_
  refine AtT.zf ?_
  first | refine AtT.zU Tryz.underlying58 ?_ | refine AtT.zV Tryz.underlying58 ?_
  refine AtT.shlN rfl trivial rfl rfl rfl (by omega) (by decide) (N := (knL s).length) ?_
  first | refine AtT.qz ?_ | refine AtT.qA ?_
  refine AtT.andN rfl trivial rfl rfl rfl (by omega) hsh (by omega) (by decide) (A := m <<< i) (B := 2 ^ (knL s).length - 1) ?_
  refine AtT.orN rfl trivial rfl rfl rfl rfl (by omega) han (by decide) (A := 2 ^ i) (B := m <<< i &&& (2 ^ (knL s).length - 1)) ?_
  refine AtT.two ?_ ?_
  focus
   refine AtT.zq rfl rfl ok49 (rleast_f (knL s) hkb (by omega) (gvB i m (knL s).length) hbl _ _ hk4) ?_
   rintro _ rfl
   refine AtT.qw z26 ?_
   intro b11
   refine AtT.zW zQ ?_
   refine AtT.done ?_
  rotate_right
  focus
   refine AtT.qw z26 ?_
   intro b11
   refine AtT.zq rfl rfl ok49 (rleast_f (knL s) hkb (by omega) (gvB i m (knL s).length) hbl _ _ hk4) ?_
   rintro _ rfl
   refine AtT.zW zQ ?_
   refine AtT.done ?_
  all_goals (refine At.nrm ?_)
  all_goals exact At.qf b11 rfl ⟨rfl, rfl, rfl, rfl, rfl, rfl, trivial⟩ Pt.zI
 rintro b11 V6 ks' O' rfl hk hO hl6
 subst hk hO
 refine At.nrm ?_
 refine At.zi (.q 0 (.q 1 (.n false 2 (.q 3 .done)))) ?_
 first | refine AtT.zu zx ?_ | refine AtT.zC zx ?_ | refine AtT.zt zx ?_
 first | refine AtT.zu zQ ?_ | refine AtT.zC zQ ?_ | refine AtT.zt zQ ?_
 refine AtT.zq rfl rfl ok51 (rpe_f s hok (bbx (sel (knL s) (gvB i m (knL s).length))) _ _ hv4) ?_
 rintro _ rfl
 refine AtT.qC ?_
 refine AtT.done ?_
 refine At.nrm ?_
 refine At.jo (ι := Pc) (fun p => [(1, .slice a1 bs.length c1), (2, .pointer (some ⟨b2, 0, none⟩)), (5, .slice ak (knL s).length ck), (6, .slice ao ps.length co), (7, iv i), (11, .pointer (some ⟨b11, 0, none⟩))])
  (fun p => [.blk b2 (LC [.slice a s.rows.length c, iv s.most] 24), .row (.slice ao ps.length co) 26 4 ps.length (flat pce ps), .blk b11 (LC (pce p) 26)]) (fun p V'' => V'' = V6 ∧ Lies (gdS s) p ∧ inP p x) ?_ ?_
 ·refine At.zX rfl (fun he => ?_) (fun he => ?_)
  ·refine At.nrm ?_
   refine At.zi (.q 0 (.q 1 (.q 2 (.n false 3 (.n true 4 .done))))) ?_
   refine AtT.zf ?_
   refine AtT.zf ?_
   refine AtT.shlN rfl trivial rfl rfl rfl (by omega) (by decide) (N := i) ?_
   refine AtT.zq rfl rfl ok49 (rleast_f (knL s) hkb (by omega) (2 ^ i) hbp _ _ hk4) ?_
   rintro _ rfl
   refine AtT.zW zQ ?_
   refine AtT.done ?_
   refine At.nrm ?_
   exact At.qf (bbx (sel (knL s) (2 ^ i))) ⟨rfl, hl1, bbx_in hm1⟩ ⟨rfl, rfl, rfl, rfl, rfl, rfl, trivial⟩ Pt.zI
  ·refine At.nrm ?_
   exact At.qf (bbx (sel (knL s) (gvB i m (knL s).length))) ⟨rfl, jB.1 (Classical.not_not.1 he), bbx_in hbx⟩ ⟨rfl, rfl, rfl, rfl, rfl, rfl, trivial⟩ Pt.zI
 rintro p V7 ks' O' ⟨rfl, hlp, hip⟩ hk hO hl7
 subst hk hO
 have hpc : (ps ++ [p]).length = ps.length + 1 := by rw [List.length_append]; rfl
 refine At.nrm ?_
 refine At.zi (.q 0 (.q 1 (.n false 2 (.n true 3 (.q 4 .done))))) ?_
 refine AtT.zf ?_
 first | refine AtT.zu zQ ?_ | refine AtT.zC zQ ?_ | refine AtT.zt zQ ?_
 refine AtT.zB (bs27_1_0 _ _ _ _) ?_
 intro q73 V73 hV73 hq73
 have g73 : Le V V73 := by first | exact hV73 | exact Le.trans (by assumption) hV73
 first | refine AtT.jC Tryz.underlying27 rw26 ?_
 intro a74 c74
 refine AtT.zh ?_
 refine AtT.done ?_
 refine At.nrm ?_
 refine At.nrm ?_
 refine At.zi (.q 0 (.q 1 (.q 2 .done))) ?_
 refine AtT.zf ?_
 first | refine AtT.qh ?_ | refine AtT.zT ?_
 refine AtT.zh ?_
 refine AtT.done ?_
 refine At.nrm ?_
 all_goals refine At.round (i + 1, ps ++ [p], a74, c74) ?_ ?_ ?_ ?_
 ·show (knL s).length - (i + 1) < (knL s).length - i; omega
 ·exact ⟨(hVV.trans hV4).trans (by first | assumption | exact Le.refl _ | exact Le.trans (by assumption) (by assumption)), by dsimp only; omega, gv_add hgv hx hlp hip⟩
 ·dsimp only; rw [hpc]; exact ⟨rfl, rfl, rfl, rfl, ivs (by omega), trivial⟩
 ·dsimp only; rw [jm, hpc]; exact Pt.zI
end Go.Proofs.YtghomjjffllkeaaGreatDoor
set_option linter.unusedVariables false
namespace Go.Pm
open Go.Gl Go.Lw
def ShC (g : Gd) (a b : Cl) : Prop := ∃ p, Lies g p ∧ inP p a ∧ inP p b
def AlC (g : Gd) (K l : List Cl) : Prop := l.Pairwise (fun a b => ¬ ShC g a b) ∧ l.Nodup ∧ ∀ x ∈ l, x ∈ K
structure AlM (g : Gd) (K : List Cl) (m : Nat) : Prop where
 ex : ∃ l, AlC g K l ∧ l.length = m
 le : ∀ l, AlC g K l → l.length ≤ m
inductive RcC (g : Gd) (K : List Cl) (a : Cl) : Cl → Prop
 | refl : RcC g K a a
 | step {b c : Cl} : RcC g K a b → c ∈ K → ShC g b c → RcC g K a c
structure Rps (g : Gd) (K l : List Cl) : Prop where
 sub : ∀ x ∈ l, x ∈ K
 apart : l.Pairwise fun a b => ¬ RcC g K a b
 all : ∀ k ∈ K, ∃ x ∈ l, RcC g K x k
end Go.Pm
set_option linter.unusedVariables false
namespace Go.Pm
open Go.Gl Go.Lw
def rwS (s : Sh) (i : Nat) : ByteArray := s.rows.getD i ByteArray.empty
structure Dt (s x : Sh) (D : Cl → Prop) : Prop where
 most : x.most = s.most
 n : x.rows.length = s.rows.length
 sz : ∀ i, i < s.rows.length → (rwS x i).size = (rwS s i).size
 dot : ∀ (i k : Nat), i < s.rows.length → k < (rwS s i).size → D ⟨i, k⟩ → chS x i k = 46
 ch : ∀ (i k : Nat), i < s.rows.length → ¬ D ⟨i, k⟩ → chS x i k = chS s i k
structure Frm (s x : Sh) : Prop where
 n : x.rows.length = s.rows.length
 sz : ∀ i, i < s.rows.length → (rwS x i).size = (rwS s i).size
end Go.Pm
set_option linter.unusedVariables false
namespace Go.Pm
open Go.Gl Go.Lw
structure TnG (g g' : Gd) : Prop where
 R : g'.R = g.C
 C : g'.C = g.R
 most : g'.most = g.most
 fig : ∀ r c, 0 ≤ r → r < g.R → 0 ≤ c → c < g.C → g'.fig c (g.R - 1 - r) = g.fig r c
structure Emb (g g' : Gd) (K : List Cl) (f : Cl → Cl) (F B : Pc → Pc) : Prop where
 to : ∀ p, Lies g p → Lies g' (F p)
 bk : ∀ q k, Lies g' q → k ∈ K → inP q (f k) → Lies g (B q)
 fb : ∀ q, F (B q) = q
 inj : ∀ a b, f a = f b → a = b
 mem : ∀ p k, inP (F p) (f k) ↔ inP p k
 ar : ∀ p, arP (F p) = arP p
section
variable {g g' : Gd} {K : List Cl} {f : Cl → Cl} {F B : Pc → Pc} (E : Emb g g' K f F B)
include E
end
end Go.Pm
set_option linter.unusedVariables false
namespace Go.Pm
open Go.Gl Go.Lw
section
variable {s : Sh} (hs : jH s) {i k : Nat} (hi : i < s.rows.length) (hk : k < wdS s) (hc : chS s i k = 46)
include hs hi hk hc
end
end Go.Pm
set_option linter.unusedVariables false
namespace Go.Pm
open Go.Gl Go.Lw
theorem aloL_is (s : Sh) : FirstS (knL s).length (shI (gdS s) (knL s)) (aloL s) := alG_is
theorem cAe_al {s : Sh} (h : jH s) {l : List Int} (hl : Al (knL s).length (shI (gdS s) (knL s)) l) : cAe s l = 0 := by
 obtain ⟨a, b⟩ := al_iff.1 hl
 unfold cAe
 rw [if_neg (by rw [chE_of h]; simp), a, b]; rfl
theorem cAe_two {s : Sh} (h : jH s) {l : List Int} (hl : lstB l (knL s).length = true) : cAe s l = 0 ∧ Al (knL s).length (shI (gdS s) (knL s)) l ∨ cAe s l = 16 := by
 unfold cAe
 rw [if_neg (by rw [chE_of h]; simp), hl, if_neg (by simp)]
 cases c : okS (shI (gdS s) (knL s)) l with
 | true => exact .inl ⟨rfl, al_iff.2 ⟨hl, c⟩⟩
 | false => exact .inr rfl
theorem bits_lst (A n : Nat) : lstB (qP A n) (n : Int) = true := lstB_iff.2 ⟨bitL_lt _ _, fun x hx => by
 obtain ⟨i, hi, rfl, _⟩ := ji.1 hx
 omega⟩
end Go.Pm
set_option linter.unusedVariables false
namespace Go.Proofs.YtghomjjffllkeaaGreatDoor
open Go.Lw Go.Gl Go.Pm Go.RowKit Go.Shelf
theorem fine_no {s : Sh} (h : ¬ (!grB s && decide (chE s = 0)) = true) : (!grB s && decide (chE s = 0)) = false := by simpa using h
theorem fine_ok {s : Sh} (h : (!grB s && decide (chE s = 0)) = true) : grB s = false ∧ chE s = 0 := by simpa using h
theorem patchProved_f (s : Sh) (bs : List U8) (bt : Int) (hbt : 0 ≤ bt ∧ bt ≤ 65535) (V : View) (v u : Value) (hv : ShV V v s) (hu : Sl V e8 1 u bs) : Fnc Tryz.prog 7 [v, u, .int .u16 bt] V fun r _ => r = .bool true := by
 obtain ⟨a, c, rfl, hs⟩ := id hv
 obtain ⟨a1, c1, rfl, k1, k2, _⟩ := id hu
 clear k1 k2
 obtain ⟨A, rfl⟩ : ∃ A : Nat, bt = (A : Int) := ⟨bt.toNat, by omega⟩
 refine qc Tryz.func7 rfl Tryz.ntmps7 (Nat.le_of_ble_eq_true rfl) ?_
 intro w0 hw0
 refine At.nrm ?_
 refine At.zi (.n false 0 (.q 1 .done)) ?_
 refine AtT.qV ?_
 intro b3
 refine AtT.zh ?_
 refine AtT.done ?_
 refine At.nrm ?_
 by_cases gf : (!grB s && decide (chE s = 0)) = true
 rotate_left
 ·refine At.zi (.q 0 (.n false 1 (.q 2 (.q 3 (.q 4 (.q 5 (.q 6 (.q 7 .done)))))))) ?_
  first | refine AtT.zu zx ?_ | refine AtT.zC zx ?_ | refine AtT.zt zx ?_
  refine AtT.zq rfl rfl ok43 (fine_f s _ _ hv) ?_
  rintro _ rfl
  refine AtT.setB (d := 20) rfl ((fine_no gf)) ?_
  refine AtT.jh ?_
  refine AtT.setB (d := 21) rfl ((show (!false) = true from rfl)) ?_
  refine AtT.zf ?_
  all_goals (first | refine AtT.kL 22 ?_ | refine AtT.zA (d := 22) rfl (fun hg22 => ?_) (fun hg22 => ?_) | refine AtT.zz (d := 22) rfl (fun hg22 => ?_) (fun hg22 => ?_))
  all_goals first|refine AtT.zg ?_|refine AtT.ze ?_|(refine AtT.zf ?_)
  all_goals first|refine AtT.zg ?_|refine AtT.ze ?_|(first | refine AtT.zU Tryz.underlying56 ?_ | refine AtT.zV Tryz.underlying56 ?_)
  all_goals first|refine AtT.zg ?_|refine AtT.ze ?_|(refine AtT.qy ?_)
  all_goals (refine AtT.zy ?_)
  all_goals refine AtT.done ?_
  all_goals (refine At.nrm ?_)
  refine At.qB rfl rfl ?_
  refine At.nrm ?_
  refine At.zi (.n false 0 (.q 1 .done)) ?_
  refine AtT.zq rfl rfl ok16 (works_f _) ?_
  rintro _ rfl
  refine AtT.zh ?_
  refine AtT.done ?_
  refine At.nrm ?_
  exact At.qd rfl (.tmp rfl) rfl
 by_cases g2 : 20 < (bs.length : Int)
 ·refine At.zi (.q 0 (.n false 1 (.q 2 (.q 3 (.q 4 (.q 5 (.q 6 (.q 7 .done)))))))) ?_
  first | refine AtT.zu zx ?_ | refine AtT.zC zx ?_ | refine AtT.zt zx ?_
  refine AtT.zq rfl rfl ok43 (fine_f s _ _ hv) ?_
  rintro _ rfl
  refine AtT.setB (d := 20) rfl (gf) ?_
  refine AtT.jh ?_
  refine AtT.setB (d := 21) rfl ((show (!true) = false from rfl)) ?_
  refine AtT.zf ?_
  all_goals (first | refine AtT.kL 22 ?_ | refine AtT.zA (d := 22) rfl (fun hg22 => ?_) (fun hg22 => ?_) | refine AtT.zz (d := 22) rfl (fun hg22 => ?_) (fun hg22 => ?_))
  all_goals first|refine AtT.zg ?_|refine AtT.ze ?_|(refine AtT.zf ?_)
  all_goals first|refine AtT.zg ?_|refine AtT.ze ?_|(first | refine AtT.zU Tryz.underlying56 ?_ | refine AtT.zV Tryz.underlying56 ?_)
  all_goals first|refine AtT.zg ?_|refine AtT.ze ?_|(refine AtT.qy ?_)
  all_goals (refine AtT.qp (d := 25) rfl (g2) ?_)
  all_goals (refine AtT.zy ?_)
  all_goals refine AtT.done ?_
  all_goals (refine At.nrm ?_)
  refine At.qB rfl rfl ?_
  refine At.nrm ?_
  refine At.zi (.n false 0 (.q 1 .done)) ?_
  refine AtT.zq rfl rfl ok16 (works_f _) ?_
  rintro _ rfl
  refine AtT.zh ?_
  refine AtT.done ?_
  refine At.nrm ?_
  exact At.qd rfl (.tmp rfl) rfl
 obtain ⟨gg, h0⟩ := fine_ok gf
 have hok := jl h0
 have hkn := hok.kn
 have hg := sh_gok hok
 have hon := kn_on hok
 refine At.zi (.q 0 (.n false 1 (.q 2 (.q 3 (.q 4 (.q 5 (.q 6 (.q 7 .done)))))))) ?_
 first | refine AtT.zu zx ?_ | refine AtT.zC zx ?_ | refine AtT.zt zx ?_
 refine AtT.zq rfl rfl ok43 (fine_f s _ _ hv) ?_
 rintro _ rfl
 refine AtT.setB (d := 20) rfl (gf) ?_
 refine AtT.jh ?_
 refine AtT.setB (d := 21) rfl ((show (!true) = false from rfl)) ?_
 refine AtT.zf ?_
 all_goals (first | refine AtT.kL 22 ?_ | refine AtT.zA (d := 22) rfl (fun hg22 => ?_) (fun hg22 => ?_) | refine AtT.zz (d := 22) rfl (fun hg22 => ?_) (fun hg22 => ?_))
 all_goals first|refine AtT.zg ?_|refine AtT.ze ?_|(refine AtT.zf ?_)
 all_goals first|refine AtT.zg ?_|refine AtT.ze ?_|(first | refine AtT.zU Tryz.underlying56 ?_ | refine AtT.zV Tryz.underlying56 ?_)
 all_goals first|refine AtT.zg ?_|refine AtT.ze ?_|(refine AtT.qy ?_)
 all_goals (refine AtT.qj (d := 25) rfl (g2) ?_)
 all_goals (refine AtT.zy ?_)
 all_goals refine AtT.done ?_
 all_goals (refine At.nrm ?_)
 refine At.qE rfl rfl ?_
 refine At.nrm ?_
 refine At.zi (.q 0 (.n false 1 (.q 2 (.q 3 .done)))) ?_
 first | refine AtT.zu zx ?_ | refine AtT.zC zx ?_ | refine AtT.zt zx ?_
 refine AtT.qg rfl rfl ok44 (jr s (by have := hok.n; omega) (fun r hr => by rw [hok.sz r hr]; have := hok.w; omega) _ _ hv) ?_
 rintro _ V29 hV29 hk29; obtain ⟨a29, c29, rfl, k1, k2, _⟩ := id hk29; clear k1 k2
 first | refine AtT.zU Tryz.underlying58 ?_ | refine AtT.zV Tryz.underlying58 ?_
 refine AtT.zh ?_
 refine AtT.done ?_
 refine At.nrm ?_
 replace hv := hv.le hV29
 replace hu := hu.le hV29
 clear hV29
 refine At.zi (.q 0 (.n false 1 (.q 2 (.q 3 (.q 4 (.q 5 (.q 6 (.q 7 (.q 8 (.q 9 (.q 10 .done))))))))))) ?_
 first | refine AtT.zu zx ?_ | refine AtT.zC zx ?_ | refine AtT.zt zx ?_
 refine AtT.qg rfl rfl ok45 (few_f s h0 _ _ hv) ?_
 rintro _ V33 hV33 ⟨a33, c33, ps, rfl, hs33, hm⟩
 refine AtT.zf ?_
 refine AtT.zO ?_
 refine AtT.zO ?_
 refine AtT.zO ?_
 refine AtT.zO ?_
 refine AtT.zh ?_
 refine AtT.zh ?_
 refine AtT.zh ?_
 refine AtT.zh ?_
 refine AtT.done ?_
 refine At.nrm ?_
 replace hv := hv.le hV33
 replace hu := hu.le hV33
 clear hV33
 refine At.zi (.q 0 (.n false 1 (.q 2 (.q 3 (.q 4 (.q 5 (.q 6 .done))))))) ?_
 first | refine AtT.zu zx ?_ | refine AtT.zC zx ?_ | refine AtT.zt zx ?_
 refine AtT.qg rfl rfl ok28 (aloneP_f s _ _ hv) ?_
 rintro _ V40 hV40 ⟨u40, rfl, hu40⟩; rw [h0]
 refine AtT.zf ?_
 refine AtT.zO ?_
 refine AtT.zO ?_
 refine AtT.zh ?_
 refine AtT.zh ?_
 refine AtT.done ?_
 refine At.nrm ?_
 rw [if_pos h0] at hu40
 replace hv := hv.le hV40
 replace hu := hu.le hV40
 clear hV40
 obtain ⟨a40, c40, rfl, k1, k2, _⟩ := id hu40
 clear k1 k2
 refine At.zi (.q 0 (.q 1 (.q 2 (.n false 3 (.q 4 .done))))) ?_
 refine AtT.zf ?_
 refine AtT.kconv un57 Tryz.underlying3 ?_
 rw [wrap_fit (Fit.of (by omega) (by omega))]
 refine AtT.zf ?_
 refine AtT.qg rfl rfl ok46 (bits_f A (knL s).length (by omega) (by omega) _) ?_
 rintro _ V46 hV46 hu46; obtain ⟨a46, c46, rfl, k1, k2, _⟩ := id hu46; clear k1 k2
 refine AtT.zh ?_
 refine AtT.done ?_
 refine At.nrm ?_
 replace hv := hv.le hV46
 replace hu := hu.le hV46
 replace hu40 := hu40.le hV46
 clear hV46
 refine At.zi (.q 0 (.q 1 (.n false 2 (.q 3 .done)))) ?_
 first | refine AtT.zu zx ?_ | refine AtT.zC zx ?_ | refine AtT.zt zx ?_
 refine AtT.zf ?_
 refine AtT.zq rfl rfl ok32 (zD s (qP A (knL s).length) _ _ _ hv hu46) ?_
 rintro _ rfl
 refine AtT.zh ?_
 refine AtT.done ?_
 refine At.nrm ?_
 refine At.zi (.q 0 (.q 1 (.n false 2 (.q 3 .done)))) ?_
 first | refine AtT.zu zx ?_ | refine AtT.zC zx ?_ | refine AtT.zt zx ?_
 refine AtT.zf ?_
 refine AtT.qg rfl rfl ok47 (given_f s hok bs _ _ _ hv hu) ?_
 rintro _ V52 hV52 ⟨a52, c52, gs, rfl, hs52, hgm, hgl⟩
 refine AtT.zh ?_
 refine AtT.done ?_
 refine At.nrm ?_
 replace hv := hv.le hV52
 replace hu40 := hu40.le hV52
 replace hu46 := hu46.le hV52
 clear hV52
 have hcp := cpR_mends hok (by omega) hgm
 have hca := cAe_al hok (aloL_is s).1
 have hll := al_mends hg hon (aloL_is s).1 hm.mends
 have hbl := best_le_len hg hon (kn_fig hok) hm.best
 have hbg := hm.best.le gs hgm
 refine At.zi (.q 0 (.q 1 (.n false 2 (.q 3 (.q 4 (.q 5 (.q 6 (.q 7 .done)))))))) ?_
 first | refine AtT.zu zx ?_ | refine AtT.zC zx ?_ | refine AtT.zt zx ?_
 refine AtT.zf ?_
 refine AtT.zq rfl rfl ok17 (checkPatches_f s gs _ _ _ hv hs52) ?_
 rintro _ rfl; rw [hcp]
 refine AtT.zf ?_
 refine AtT.zO ?_
 refine AtT.zO ?_
 refine AtT.zh ?_
 refine AtT.zh ?_
 refine AtT.done ?_
 refine At.nrm ?_
 rcases cAe_two hok (bits_lst A (knL s).length) with ⟨hc, hal⟩ | hc
 ·have hb1 := al_mends hg hon hal hgm
  have hb2 : (qP A (knL s).length).length ≤ (aloL s).length := by have := (aloL_is s).2 _ hal; omega
  rw [hc]
  refine At.zi (.q 0 (.q 1 (.q 2 (.q 3 (.q 4 (.q 5 (.q 6 (.q 7 (.q 8 (.n false 9 (.q 10 (.q 11 (.q 12 (.q 13 (.q 14 (.n false 15 (.q 16 (.q 17 (.q 18 (.q 19 (.q 20 (.q 21 (.q 22 (.q 23 (.q 24 (.q 25 (.q 26 (.q 27 (.q 28 (.q 29 (.q 30 (.q 31 (.q 32 (.q 33 (.q 34 (.q 35 (.q 36 (.q 37 (.q 38 (.q 39 (.q 40 .done))))))))))))))))))))))))))))))))))))))))) ?_
  refine AtT.zf ?_
  refine AtT.setB (d := 59) rfl (rfl) ?_
  refine AtT.jh ?_
  refine AtT.setB (d := 60) rfl ((show (!true) = false from rfl)) ?_
  refine AtT.zf ?_
  all_goals (first | refine AtT.kL 61 ?_ | refine AtT.zA (d := 61) rfl (fun hg61 => ?_) (fun hg61 => ?_) | refine AtT.zz (d := 61) rfl (fun hg61 => ?_) (fun hg61 => ?_))
  all_goals first|refine AtT.zg ?_|refine AtT.ze ?_|(refine AtT.zf ?_)
  all_goals first|refine AtT.zg ?_|refine AtT.ze ?_|(refine AtT.qC ?_)
  all_goals (refine AtT.qj (d := 63) rfl ((fun h => h rfl)) ?_)
  all_goals (refine AtT.zy ?_)
  all_goals (refine AtT.zf ?_)
  all_goals (first | refine AtT.kL 65 ?_ | refine AtT.zA (d := 65) rfl (fun hg65 => ?_) (fun hg65 => ?_) | refine AtT.zz (d := 65) rfl (fun hg65 => ?_) (fun hg65 => ?_))
  all_goals first|refine AtT.zg ?_|refine AtT.ze ?_|(first | refine AtT.zu zx ?_ | refine AtT.zC zx ?_ | refine AtT.zt zx ?_)
  all_goals first|refine AtT.zg ?_|refine AtT.ze ?_|(refine AtT.zf ?_)
  all_goals (first | refine AtT.zP ?_ | refine AtT.zJ ?_ | ((refine AtT.zq rfl rfl ok32 (zD s (aloL s) _ _ _ hv hu40) ?_) ; (rintro _ rfl; rw [hca])))
  all_goals first|refine AtT.zg ?_|refine AtT.ze ?_|(refine AtT.qC ?_)
  all_goals (refine AtT.qj (d := 69) rfl ((fun h => h rfl)) ?_)
  all_goals (refine AtT.zy ?_)
  all_goals (refine AtT.zf ?_)
  all_goals (first | refine AtT.kL 71 ?_ | refine AtT.zA (d := 71) rfl (fun hg71 => ?_) (fun hg71 => ?_) | refine AtT.zz (d := 71) rfl (fun hg71 => ?_) (fun hg71 => ?_))
  all_goals first|refine AtT.zg ?_|refine AtT.ze ?_|(first | refine AtT.zu zx ?_ | refine AtT.zC zx ?_ | refine AtT.zt zx ?_)
  all_goals first|refine AtT.zg ?_|refine AtT.ze ?_|(refine AtT.zf ?_)
  all_goals (first | refine AtT.zP ?_ | refine AtT.zJ ?_ | ((refine AtT.zq rfl rfl ok33 (rcheckAlone_f s (aloL s) _ _ _ hv hu40) ?_) ; (rintro _ rfl; rw [hca])))
  all_goals first|refine AtT.zg ?_|refine AtT.ze ?_|(refine AtT.qC ?_)
  all_goals (refine AtT.qj (d := 75) rfl ((fun h => h rfl)) ?_)
  all_goals (refine AtT.zy ?_)
  all_goals (refine AtT.zf ?_)
  all_goals (first | refine AtT.kL 77 ?_ | refine AtT.zA (d := 77) rfl (fun hg77 => ?_) (fun hg77 => ?_) | refine AtT.zz (d := 77) rfl (fun hg77 => ?_) (fun hg77 => ?_))
  all_goals first|refine AtT.zg ?_|refine AtT.ze ?_|(refine AtT.zf ?_)
  all_goals first|refine AtT.zg ?_|refine AtT.ze ?_|(refine AtT.qC ?_)
  all_goals (refine AtT.qj (d := 79) rfl ((fun h => h rfl)) ?_)
  all_goals first|refine AtT.zg ?_|refine AtT.ze ?_|(refine AtT.zf ?_)
  all_goals (first | refine AtT.kL 80 ?_ | refine AtT.zA (d := 80) rfl (fun hg80 => ?_) (fun hg80 => ?_) | refine AtT.zz (d := 80) rfl (fun hg80 => ?_) (fun hg80 => ?_))
  all_goals first|refine AtT.zg ?_|refine AtT.ze ?_|(refine AtT.zf ?_)
  all_goals first|refine AtT.zg ?_|refine AtT.ze ?_|(refine AtT.qC ?_)
  all_goals first|refine AtT.zg ?_|refine AtT.ze ?_|(refine AtT.zy ?_)
  all_goals (refine AtT.zy ?_)
  all_goals (refine AtT.zf ?_)
  all_goals (first | refine AtT.kL 85 ?_ | refine AtT.zA (d := 85) rfl (fun hg85 => ?_) (fun hg85 => ?_) | refine AtT.zz (d := 85) rfl (fun hg85 => ?_) (fun hg85 => ?_))
  all_goals first|refine AtT.zg ?_|refine AtT.ze ?_|(refine AtT.zf ?_)
  all_goals first|refine AtT.zg ?_|refine AtT.ze ?_|(refine AtT.qC ?_)
  all_goals (refine AtT.qj (d := 87) rfl ((fun h => h rfl)) ?_)
  all_goals (refine AtT.zy ?_)
  all_goals (refine AtT.zf ?_)
  all_goals (first | refine AtT.kL 89 ?_ | refine AtT.zA (d := 89) rfl (fun hg89 => ?_) (fun hg89 => ?_) | refine AtT.zz (d := 89) rfl (fun hg89 => ?_) (fun hg89 => ?_))
  all_goals first|refine AtT.zg ?_|refine AtT.ze ?_|(refine AtT.zf ?_)
  all_goals first|refine AtT.zg ?_|refine AtT.ze ?_|(first | refine AtT.zU Tryz.underlying39 ?_ | refine AtT.zV Tryz.underlying39 ?_)
  all_goals first|refine AtT.zg ?_|refine AtT.ze ?_|(refine AtT.zf ?_)
  all_goals first|refine AtT.zg ?_|refine AtT.ze ?_|(refine AtT.qy ?_)
  all_goals (refine AtT.qj (d := 93) rfl ((by omega)) ?_)
  all_goals (refine AtT.zy ?_)
  all_goals (refine AtT.zf ?_)
  all_goals (first | refine AtT.kL 95 ?_ | refine AtT.zA (d := 95) rfl (fun hg95 => ?_) (fun hg95 => ?_) | refine AtT.zz (d := 95) rfl (fun hg95 => ?_) (fun hg95 => ?_))
  all_goals first|refine AtT.zg ?_|refine AtT.ze ?_|(refine AtT.zf ?_)
  all_goals first|refine AtT.zg ?_|refine AtT.ze ?_|(refine AtT.zf ?_)
  all_goals first|refine AtT.zg ?_|refine AtT.ze ?_|(refine AtT.qy ?_)
  all_goals (refine AtT.qj (d := 98) rfl ((by omega)) ?_)
  all_goals (refine AtT.zy ?_)
  all_goals refine AtT.done ?_
  all_goals (refine At.nrm ?_)
  refine At.qE rfl rfl ?_
  refine At.nrm ?_
  refine At.zi (.q 0 (.q 1 (.q 2 (.q 3 (.q 4 (.q 5 (.q 6 (.q 7 (.q 8 (.q 9 (.q 10 (.q 11 (.q 12 (.q 13 (.q 14 (.q 15 .done)))))))))))))))) ?_
  refine AtT.zf ?_
  refine AtT.qK ?_
  refine AtT.qp (d := 101) rfl (rfl) ?_
  refine AtT.zf ?_
  all_goals (first | refine AtT.kL 102 ?_ | refine AtT.zA (d := 102) rfl (fun hg102 => ?_) (fun hg102 => ?_) | refine AtT.zz (d := 102) rfl (fun hg102 => ?_) (fun hg102 => ?_))
  all_goals first|refine AtT.zg ?_|refine AtT.ze ?_|(refine AtT.zf ?_)
  all_goals first|refine AtT.zg ?_|refine AtT.ze ?_|(first | refine AtT.zU Tryz.underlying39 ?_ | refine AtT.zV Tryz.underlying39 ?_)
  all_goals first|refine AtT.zg ?_|refine AtT.ze ?_|(refine AtT.zf ?_)
  all_goals first|refine AtT.zg ?_|refine AtT.ze ?_|(first | refine AtT.zU Tryz.underlying39 ?_ | refine AtT.zV Tryz.underlying39 ?_)
  all_goals first|refine AtT.zg ?_|refine AtT.ze ?_|(refine AtT.qy ?_)
  all_goals (refine AtT.qj (d := 107) rfl ((by omega)) ?_)
  all_goals first|refine AtT.zg ?_|refine AtT.ze ?_|(refine AtT.zf ?_)
  all_goals (first | refine AtT.kL 108 ?_ | refine AtT.zA (d := 108) rfl (fun hg108 => ?_) (fun hg108 => ?_) | refine AtT.zz (d := 108) rfl (fun hg108 => ?_) (fun hg108 => ?_))
  all_goals first|refine AtT.zg ?_|refine AtT.ze ?_|(refine AtT.zf ?_)
  all_goals first|refine AtT.zg ?_|refine AtT.ze ?_|(first | refine AtT.zU Tryz.underlying39 ?_ | refine AtT.zV Tryz.underlying39 ?_)
  all_goals first|refine AtT.zg ?_|refine AtT.ze ?_|(refine AtT.zf ?_)
  all_goals first|refine AtT.zg ?_|refine AtT.ze ?_|(first | refine AtT.zU Tryz.underlying27 ?_ | refine AtT.zV Tryz.underlying27 ?_)
  all_goals first|refine AtT.zg ?_|refine AtT.ze ?_|(refine AtT.qy ?_)
  all_goals (refine AtT.qj (d := 113) rfl ((by omega)) ?_)
  all_goals first|refine AtT.zg ?_|refine AtT.ze ?_|(refine AtT.zy ?_)
  all_goals (refine AtT.zy ?_)
  all_goals refine AtT.done ?_
  all_goals (refine At.nrm ?_)
  refine At.qE rfl rfl ?_
  refine At.nrm ?_
  by_cases hgt : (gs.length : Int) > (ps.length : Int)
  ·refine At.zi (.q 0 (.q 1 (.q 2 (.q 3 (.q 4 (.q 5 (.q 6 (.q 7 (.q 8 (.q 9 (.q 10 (.q 11 (.q 12 (.q 13 (.q 14 (.q 15 (.n false 16 (.q 17 (.q 18 .done))))))))))))))))))) ?_
   refine AtT.zf ?_
   first | refine AtT.zU Tryz.underlying27 ?_ | refine AtT.zV Tryz.underlying27 ?_
   refine AtT.zf ?_
   refine AtT.kgeq ?_
   refine AtT.qp (d := 119) rfl ((by omega)) ?_
   refine AtT.zf ?_
   all_goals (first | refine AtT.kL 120 ?_ | refine AtT.zA (d := 120) rfl (fun hg120 => ?_) (fun hg120 => ?_) | refine AtT.zz (d := 120) rfl (fun hg120 => ?_) (fun hg120 => ?_))
   all_goals first|refine AtT.zg ?_|refine AtT.ze ?_|(refine AtT.zf ?_)
   all_goals first|refine AtT.zg ?_|refine AtT.ze ?_|(first | refine AtT.zU Tryz.underlying27 ?_ | refine AtT.zV Tryz.underlying27 ?_)
   all_goals first|refine AtT.zg ?_|refine AtT.ze ?_|(refine AtT.zf ?_)
   all_goals first|refine AtT.zg ?_|refine AtT.ze ?_|(refine AtT.qy ?_)
   all_goals (refine AtT.qp (d := 124) rfl (hgt) ?_)
   all_goals first|refine AtT.zg ?_|refine AtT.ze ?_|(refine AtT.zf ?_)
   all_goals (first | refine AtT.kL 125 ?_ | refine AtT.zA (d := 125) rfl (fun hg125 => ?_) (fun hg125 => ?_) | refine AtT.zz (d := 125) rfl (fun hg125 => ?_) (fun hg125 => ?_))
   all_goals first|refine AtT.zg ?_|refine AtT.ze ?_|(refine AtT.zf ?_)
   all_goals first|refine AtT.zg ?_|refine AtT.ze ?_|(refine AtT.zf ?_)
   all_goals first|refine AtT.zg ?_|refine AtT.ze ?_|(refine AtT.kgeq ?_)
   all_goals first|refine AtT.zg ?_|refine AtT.ze ?_|(refine AtT.zy ?_)
   all_goals (refine AtT.zy ?_)
   all_goals (refine AtT.zf ?_)
   all_goals (first | refine AtT.kL 131 ?_ | refine AtT.zA (d := 131) rfl (fun hg131 => ?_) (fun hg131 => ?_) | refine AtT.zz (d := 131) rfl (fun hg131 => ?_) (fun hg131 => ?_))
   all_goals (first | refine AtT.zP ?_ | refine AtT.zJ ?_ | ((refine AtT.zq rfl rfl ok16 (works_f _) ?_) ; (rintro _ rfl)))
   all_goals (refine AtT.zy ?_)
   all_goals (refine AtT.zh ?_)
   all_goals refine AtT.done ?_
   all_goals (refine At.nrm ?_)
   exact At.qd rfl (.tmp rfl) rfl
  ·refine At.zi (.q 0 (.q 1 (.q 2 (.q 3 (.q 4 (.q 5 (.q 6 (.q 7 (.q 8 (.q 9 (.q 10 (.q 11 (.q 12 (.q 13 (.q 14 (.q 15 (.n false 16 (.q 17 (.q 18 .done))))))))))))))))))) ?_
   refine AtT.zf ?_
   first | refine AtT.zU Tryz.underlying27 ?_ | refine AtT.zV Tryz.underlying27 ?_
   refine AtT.zf ?_
   refine AtT.kgeq ?_
   refine AtT.qp (d := 119) rfl ((by omega)) ?_
   refine AtT.zf ?_
   all_goals (first | refine AtT.kL 120 ?_ | refine AtT.zA (d := 120) rfl (fun hg120 => ?_) (fun hg120 => ?_) | refine AtT.zz (d := 120) rfl (fun hg120 => ?_) (fun hg120 => ?_))
   all_goals first|refine AtT.zg ?_|refine AtT.ze ?_|(refine AtT.zf ?_)
   all_goals first|refine AtT.zg ?_|refine AtT.ze ?_|(first | refine AtT.zU Tryz.underlying27 ?_ | refine AtT.zV Tryz.underlying27 ?_)
   all_goals first|refine AtT.zg ?_|refine AtT.ze ?_|(refine AtT.zf ?_)
   all_goals first|refine AtT.zg ?_|refine AtT.ze ?_|(refine AtT.qy ?_)
   all_goals (refine AtT.qj (d := 124) rfl (hgt) ?_)
   all_goals first|refine AtT.zg ?_|refine AtT.ze ?_|(refine AtT.zf ?_)
   all_goals (first | refine AtT.kL 125 ?_ | refine AtT.zA (d := 125) rfl (fun hg125 => ?_) (fun hg125 => ?_) | refine AtT.zz (d := 125) rfl (fun hg125 => ?_) (fun hg125 => ?_))
   all_goals first|refine AtT.zg ?_|refine AtT.ze ?_|(refine AtT.zf ?_)
   all_goals first|refine AtT.zg ?_|refine AtT.ze ?_|(refine AtT.zf ?_)
   all_goals first|refine AtT.zg ?_|refine AtT.ze ?_|(refine AtT.kgeq ?_)
   all_goals (refine AtT.qp (d := 128) rfl ((by omega)) ?_)
   all_goals first|refine AtT.zg ?_|refine AtT.ze ?_|(refine AtT.zy ?_)
   all_goals (refine AtT.zy ?_)
   all_goals (refine AtT.zf ?_)
   all_goals (first | refine AtT.kL 131 ?_ | refine AtT.zA (d := 131) rfl (fun hg131 => ?_) (fun hg131 => ?_) | refine AtT.zz (d := 131) rfl (fun hg131 => ?_) (fun hg131 => ?_))
   all_goals (first | refine AtT.zP ?_ | refine AtT.zJ ?_ | ((refine AtT.zq rfl rfl ok16 (works_f _) ?_) ; (rintro _ rfl)))
   all_goals (refine AtT.zy ?_)
   all_goals (refine AtT.zh ?_)
   all_goals refine AtT.done ?_
   all_goals (refine At.nrm ?_)
   exact At.qd rfl (.tmp rfl) rfl
 ·rw [hc]
  refine At.zi (.q 0 (.q 1 (.q 2 (.q 3 (.q 4 (.q 5 (.q 6 (.q 7 (.q 8 (.n false 9 (.q 10 (.q 11 (.q 12 (.q 13 (.q 14 (.n false 15 (.q 16 (.q 17 (.q 18 (.q 19 (.q 20 (.q 21 (.q 22 (.q 23 (.q 24 (.q 25 (.q 26 (.q 27 (.q 28 (.q 29 (.q 30 (.q 31 (.q 32 (.q 33 (.q 34 (.q 35 (.q 36 (.q 37 (.q 38 (.q 39 (.q 40 .done))))))))))))))))))))))))))))))))))))))))) ?_
  refine AtT.zf ?_
  refine AtT.setB (d := 59) rfl (rfl) ?_
  refine AtT.jh ?_
  refine AtT.setB (d := 60) rfl ((show (!true) = false from rfl)) ?_
  refine AtT.zf ?_
  all_goals (first | refine AtT.kL 61 ?_ | refine AtT.zA (d := 61) rfl (fun hg61 => ?_) (fun hg61 => ?_) | refine AtT.zz (d := 61) rfl (fun hg61 => ?_) (fun hg61 => ?_))
  all_goals first|refine AtT.zg ?_|refine AtT.ze ?_|(refine AtT.zf ?_)
  all_goals first|refine AtT.zg ?_|refine AtT.ze ?_|(refine AtT.qC ?_)
  all_goals (refine AtT.qj (d := 63) rfl ((fun h => h rfl)) ?_)
  all_goals (refine AtT.zy ?_)
  all_goals (refine AtT.zf ?_)
  all_goals (first | refine AtT.kL 65 ?_ | refine AtT.zA (d := 65) rfl (fun hg65 => ?_) (fun hg65 => ?_) | refine AtT.zz (d := 65) rfl (fun hg65 => ?_) (fun hg65 => ?_))
  all_goals first|refine AtT.zg ?_|refine AtT.ze ?_|(first | refine AtT.zu zx ?_ | refine AtT.zC zx ?_ | refine AtT.zt zx ?_)
  all_goals first|refine AtT.zg ?_|refine AtT.ze ?_|(refine AtT.zf ?_)
  all_goals (first | refine AtT.zP ?_ | refine AtT.zJ ?_ | ((refine AtT.zq rfl rfl ok32 (zD s (aloL s) _ _ _ hv hu40) ?_) ; (rintro _ rfl; rw [hca])))
  all_goals first|refine AtT.zg ?_|refine AtT.ze ?_|(refine AtT.qC ?_)
  all_goals (refine AtT.qj (d := 69) rfl ((fun h => h rfl)) ?_)
  all_goals (refine AtT.zy ?_)
  all_goals (refine AtT.zf ?_)
  all_goals (first | refine AtT.kL 71 ?_ | refine AtT.zA (d := 71) rfl (fun hg71 => ?_) (fun hg71 => ?_) | refine AtT.zz (d := 71) rfl (fun hg71 => ?_) (fun hg71 => ?_))
  all_goals first|refine AtT.zg ?_|refine AtT.ze ?_|(first | refine AtT.zu zx ?_ | refine AtT.zC zx ?_ | refine AtT.zt zx ?_)
  all_goals first|refine AtT.zg ?_|refine AtT.ze ?_|(refine AtT.zf ?_)
  all_goals (first | refine AtT.zP ?_ | refine AtT.zJ ?_ | ((refine AtT.zq rfl rfl ok33 (rcheckAlone_f s (aloL s) _ _ _ hv hu40) ?_) ; (rintro _ rfl; rw [hca])))
  all_goals first|refine AtT.zg ?_|refine AtT.ze ?_|(refine AtT.qC ?_)
  all_goals (refine AtT.qj (d := 75) rfl ((fun h => h rfl)) ?_)
  all_goals (refine AtT.zy ?_)
  all_goals (refine AtT.zf ?_)
  all_goals (first | refine AtT.kL 77 ?_ | refine AtT.zA (d := 77) rfl (fun hg77 => ?_) (fun hg77 => ?_) | refine AtT.zz (d := 77) rfl (fun hg77 => ?_) (fun hg77 => ?_))
  all_goals first|refine AtT.zg ?_|refine AtT.ze ?_|(refine AtT.zf ?_)
  all_goals first|refine AtT.zg ?_|refine AtT.ze ?_|(refine AtT.qC ?_)
  all_goals (refine AtT.qp (d := 79) rfl ((by decide)) ?_)
  all_goals first|refine AtT.zg ?_|refine AtT.ze ?_|(refine AtT.zf ?_)
  all_goals (first | refine AtT.kL 80 ?_ | refine AtT.zA (d := 80) rfl (fun hg80 => ?_) (fun hg80 => ?_) | refine AtT.zz (d := 80) rfl (fun hg80 => ?_) (fun hg80 => ?_))
  all_goals first|refine AtT.zg ?_|refine AtT.ze ?_|(refine AtT.zf ?_)
  all_goals first|refine AtT.zg ?_|refine AtT.ze ?_|(refine AtT.qC ?_)
  all_goals (refine AtT.qj (d := 82) rfl ((fun h => h rfl)) ?_)
  all_goals first|refine AtT.zg ?_|refine AtT.ze ?_|(refine AtT.zy ?_)
  all_goals (refine AtT.zy ?_)
  all_goals (refine AtT.zf ?_)
  all_goals (first | refine AtT.kL 85 ?_ | refine AtT.zA (d := 85) rfl (fun hg85 => ?_) (fun hg85 => ?_) | refine AtT.zz (d := 85) rfl (fun hg85 => ?_) (fun hg85 => ?_))
  all_goals first|refine AtT.zg ?_|refine AtT.ze ?_|(refine AtT.zf ?_)
  all_goals first|refine AtT.zg ?_|refine AtT.ze ?_|(refine AtT.qC ?_)
  all_goals (refine AtT.qj (d := 87) rfl ((fun h => h rfl)) ?_)
  all_goals (refine AtT.zy ?_)
  all_goals (refine AtT.zf ?_)
  all_goals (first | refine AtT.kL 89 ?_ | refine AtT.zA (d := 89) rfl (fun hg89 => ?_) (fun hg89 => ?_) | refine AtT.zz (d := 89) rfl (fun hg89 => ?_) (fun hg89 => ?_))
  all_goals first|refine AtT.zg ?_|refine AtT.ze ?_|(refine AtT.zf ?_)
  all_goals first|refine AtT.zg ?_|refine AtT.ze ?_|(first | refine AtT.zU Tryz.underlying39 ?_ | refine AtT.zV Tryz.underlying39 ?_)
  all_goals first|refine AtT.zg ?_|refine AtT.ze ?_|(refine AtT.zf ?_)
  all_goals first|refine AtT.zg ?_|refine AtT.ze ?_|(refine AtT.qy ?_)
  all_goals (refine AtT.qj (d := 93) rfl ((by omega)) ?_)
  all_goals (refine AtT.zy ?_)
  all_goals (refine AtT.zf ?_)
  all_goals (first | refine AtT.kL 95 ?_ | refine AtT.zA (d := 95) rfl (fun hg95 => ?_) (fun hg95 => ?_) | refine AtT.zz (d := 95) rfl (fun hg95 => ?_) (fun hg95 => ?_))
  all_goals first|refine AtT.zg ?_|refine AtT.ze ?_|(refine AtT.zf ?_)
  all_goals first|refine AtT.zg ?_|refine AtT.ze ?_|(refine AtT.zf ?_)
  all_goals first|refine AtT.zg ?_|refine AtT.ze ?_|(refine AtT.qy ?_)
  all_goals (refine AtT.qj (d := 98) rfl ((by omega)) ?_)
  all_goals (refine AtT.zy ?_)
  all_goals refine AtT.done ?_
  all_goals (refine At.nrm ?_)
  refine At.qE rfl rfl ?_
  refine At.nrm ?_
  refine At.zi (.q 0 (.q 1 (.q 2 (.q 3 (.q 4 (.q 5 (.q 6 (.q 7 (.q 8 (.q 9 (.q 10 (.q 11 (.q 12 (.q 13 (.q 14 (.q 15 .done)))))))))))))))) ?_
  refine AtT.zf ?_
  refine AtT.qK ?_
  refine AtT.qj (d := 101) rfl ((by decide)) ?_
  refine AtT.zf ?_
  all_goals (first | refine AtT.kL 102 ?_ | refine AtT.zA (d := 102) rfl (fun hg102 => ?_) (fun hg102 => ?_) | refine AtT.zz (d := 102) rfl (fun hg102 => ?_) (fun hg102 => ?_))
  all_goals first|refine AtT.zg ?_|refine AtT.ze ?_|(refine AtT.zf ?_)
  all_goals first|refine AtT.zg ?_|refine AtT.ze ?_|(first | refine AtT.zU Tryz.underlying39 ?_ | refine AtT.zV Tryz.underlying39 ?_)
  all_goals first|refine AtT.zg ?_|refine AtT.ze ?_|(refine AtT.zf ?_)
  all_goals first|refine AtT.zg ?_|refine AtT.ze ?_|(first | refine AtT.zU Tryz.underlying39 ?_ | refine AtT.zV Tryz.underlying39 ?_)
  all_goals first|refine AtT.zg ?_|refine AtT.ze ?_|(refine AtT.qy ?_)
  all_goals first|refine AtT.zg ?_|refine AtT.ze ?_|(refine AtT.zf ?_)
  all_goals (first | refine AtT.kL 108 ?_ | refine AtT.zA (d := 108) rfl (fun hg108 => ?_) (fun hg108 => ?_) | refine AtT.zz (d := 108) rfl (fun hg108 => ?_) (fun hg108 => ?_))
  all_goals first|refine AtT.zg ?_|refine AtT.ze ?_|(refine AtT.zf ?_)
  all_goals first|refine AtT.zg ?_|refine AtT.ze ?_|(first | refine AtT.zU Tryz.underlying39 ?_ | refine AtT.zV Tryz.underlying39 ?_)
  all_goals first|refine AtT.zg ?_|refine AtT.ze ?_|(refine AtT.zf ?_)
  all_goals first|refine AtT.zg ?_|refine AtT.ze ?_|(first | refine AtT.zU Tryz.underlying27 ?_ | refine AtT.zV Tryz.underlying27 ?_)
  all_goals first|refine AtT.zg ?_|refine AtT.ze ?_|(refine AtT.qy ?_)
  all_goals first|refine AtT.zg ?_|refine AtT.ze ?_|(refine AtT.zy ?_)
  all_goals (refine AtT.zy ?_)
  all_goals refine AtT.done ?_
  all_goals (refine At.nrm ?_)
  refine At.qE rfl rfl ?_
  refine At.nrm ?_
  by_cases hgt : (gs.length : Int) > (ps.length : Int)
  ·refine At.zi (.q 0 (.q 1 (.q 2 (.q 3 (.q 4 (.q 5 (.q 6 (.q 7 (.q 8 (.q 9 (.q 10 (.q 11 (.q 12 (.q 13 (.q 14 (.q 15 (.n false 16 (.q 17 (.q 18 .done))))))))))))))))))) ?_
   refine AtT.zf ?_
   first | refine AtT.zU Tryz.underlying27 ?_ | refine AtT.zV Tryz.underlying27 ?_
   refine AtT.zf ?_
   refine AtT.kgeq ?_
   refine AtT.qp (d := 119) rfl ((by omega)) ?_
   refine AtT.zf ?_
   all_goals (first | refine AtT.kL 120 ?_ | refine AtT.zA (d := 120) rfl (fun hg120 => ?_) (fun hg120 => ?_) | refine AtT.zz (d := 120) rfl (fun hg120 => ?_) (fun hg120 => ?_))
   all_goals first|refine AtT.zg ?_|refine AtT.ze ?_|(refine AtT.zf ?_)
   all_goals first|refine AtT.zg ?_|refine AtT.ze ?_|(first | refine AtT.zU Tryz.underlying27 ?_ | refine AtT.zV Tryz.underlying27 ?_)
   all_goals first|refine AtT.zg ?_|refine AtT.ze ?_|(refine AtT.zf ?_)
   all_goals first|refine AtT.zg ?_|refine AtT.ze ?_|(refine AtT.qy ?_)
   all_goals (refine AtT.qp (d := 124) rfl (hgt) ?_)
   all_goals first|refine AtT.zg ?_|refine AtT.ze ?_|(refine AtT.zf ?_)
   all_goals (first | refine AtT.kL 125 ?_ | refine AtT.zA (d := 125) rfl (fun hg125 => ?_) (fun hg125 => ?_) | refine AtT.zz (d := 125) rfl (fun hg125 => ?_) (fun hg125 => ?_))
   all_goals first|refine AtT.zg ?_|refine AtT.ze ?_|(refine AtT.zf ?_)
   all_goals first|refine AtT.zg ?_|refine AtT.ze ?_|(refine AtT.zf ?_)
   all_goals first|refine AtT.zg ?_|refine AtT.ze ?_|(refine AtT.kgeq ?_)
   all_goals first|refine AtT.zg ?_|refine AtT.ze ?_|(refine AtT.zy ?_)
   all_goals (refine AtT.zy ?_)
   all_goals (refine AtT.zf ?_)
   all_goals (first | refine AtT.kL 131 ?_ | refine AtT.zA (d := 131) rfl (fun hg131 => ?_) (fun hg131 => ?_) | refine AtT.zz (d := 131) rfl (fun hg131 => ?_) (fun hg131 => ?_))
   all_goals (first | refine AtT.zP ?_ | refine AtT.zJ ?_ | ((refine AtT.zq rfl rfl ok16 (works_f _) ?_) ; (rintro _ rfl)))
   all_goals (refine AtT.zy ?_)
   all_goals (refine AtT.zh ?_)
   all_goals refine AtT.done ?_
   all_goals (refine At.nrm ?_)
   exact At.qd rfl (.tmp rfl) rfl
  ·refine At.zi (.q 0 (.q 1 (.q 2 (.q 3 (.q 4 (.q 5 (.q 6 (.q 7 (.q 8 (.q 9 (.q 10 (.q 11 (.q 12 (.q 13 (.q 14 (.q 15 (.n false 16 (.q 17 (.q 18 .done))))))))))))))))))) ?_
   refine AtT.zf ?_
   first | refine AtT.zU Tryz.underlying27 ?_ | refine AtT.zV Tryz.underlying27 ?_
   refine AtT.zf ?_
   refine AtT.kgeq ?_
   refine AtT.qp (d := 119) rfl ((by omega)) ?_
   refine AtT.zf ?_
   all_goals (first | refine AtT.kL 120 ?_ | refine AtT.zA (d := 120) rfl (fun hg120 => ?_) (fun hg120 => ?_) | refine AtT.zz (d := 120) rfl (fun hg120 => ?_) (fun hg120 => ?_))
   all_goals first|refine AtT.zg ?_|refine AtT.ze ?_|(refine AtT.zf ?_)
   all_goals first|refine AtT.zg ?_|refine AtT.ze ?_|(first | refine AtT.zU Tryz.underlying27 ?_ | refine AtT.zV Tryz.underlying27 ?_)
   all_goals first|refine AtT.zg ?_|refine AtT.ze ?_|(refine AtT.zf ?_)
   all_goals first|refine AtT.zg ?_|refine AtT.ze ?_|(refine AtT.qy ?_)
   all_goals (refine AtT.qj (d := 124) rfl (hgt) ?_)
   all_goals first|refine AtT.zg ?_|refine AtT.ze ?_|(refine AtT.zf ?_)
   all_goals (first | refine AtT.kL 125 ?_ | refine AtT.zA (d := 125) rfl (fun hg125 => ?_) (fun hg125 => ?_) | refine AtT.zz (d := 125) rfl (fun hg125 => ?_) (fun hg125 => ?_))
   all_goals first|refine AtT.zg ?_|refine AtT.ze ?_|(refine AtT.zf ?_)
   all_goals first|refine AtT.zg ?_|refine AtT.ze ?_|(refine AtT.zf ?_)
   all_goals first|refine AtT.zg ?_|refine AtT.ze ?_|(refine AtT.kgeq ?_)
   all_goals (refine AtT.qp (d := 128) rfl ((by omega)) ?_)
   all_goals first|refine AtT.zg ?_|refine AtT.ze ?_|(refine AtT.zy ?_)
   all_goals (refine AtT.zy ?_)
   all_goals (refine AtT.zf ?_)
   all_goals (first | refine AtT.kL 131 ?_ | refine AtT.zA (d := 131) rfl (fun hg131 => ?_) (fun hg131 => ?_) | refine AtT.zz (d := 131) rfl (fun hg131 => ?_) (fun hg131 => ?_))
   all_goals (first | refine AtT.zP ?_ | refine AtT.zJ ?_ | ((refine AtT.zq rfl rfl ok16 (works_f _) ?_) ; (rintro _ rfl)))
   all_goals (refine AtT.zy ?_)
   all_goals (refine AtT.zh ?_)
   all_goals refine AtT.done ?_
   all_goals (refine At.nrm ?_)
   exact At.qd rfl (.tmp rfl) rfl
end Go.Proofs.YtghomjjffllkeaaGreatDoor
set_option linter.unusedVariables false
namespace Go.Proofs.YtghomjjffllkeaaGreatDoor.c5
open Go.Lw Go.Gl Go.Pm Go.RowKit Go.ChangeShapes Go.WideShapes Go.ChangeAt
set_option maxRecDepth 100000 in
theorem lifted (os : Os) (started : os.Started) (H : Type) (enc : TypeId × Value → H) :
    ReturnsInHanded {} Tryz.checked os 7 .any (fun w args => (Rows.patchProvedSpec.pre enc Tryz.prog Tryz.f7 [] false w args ∧ laidMetH Tryz.prog seatLaid w) ∧ sizedMet enc Tryz.prog Tryz.f7 (OpenSpec.ofChange Rows.patchProvedSpec) false w args) (Rows.patchProvedSpec.post enc Tryz.prog Tryz.f7 false true false false) := by
  refine law_liftL (tb := 4) (laid := seatLaid) (fun ds hd => by match ds, hd with | [d0, d1, d2], _ => rfl) rfl (by kernel_rfl) Tryz.underlying4 laidOut (by kernel_rfl) own started (by kernel_rfl) Tryz.func7
    (ChangeSpec.witness_shaped (enc := enc) (C := Tryz.checked) (os := os) (X := fun w _ => laidMetH Tryz.prog seatLaid w) false (World.laidAll Tryz.prog os seatLaid) #[.agg #[.slice none 0 0, .int .i64 0], .slice none 0 0, .int .u16 0] 8 (World.laidAll_os _ _ _)
      (World.shaped_of_ZipB (by kernel_rfl) (by kernel_rfl)) (by kernel_rfl) (by kernel_rfl) (by kernel_rfl) (seat_laid os _)) ?_
  intro W base args ds ps hval hA
  rw [Tryz.params7] at hA hval
  obtain ⟨v0, vs0, d0, ds0, p0, q0, hargs, rfl, rfl, h0, r0⟩ := trodAll_cons hA
  obtain ⟨v1, vs1, d1, ds1, p1, q1, rfl, rfl, rfl, h1, r1⟩ := trodAll_cons r0
  obtain ⟨v2, vs2, d2, ds2, p2, q2, rfl, rfl, rfl, h2, r2⟩ := trodAll_cons r1
  obtain ⟨rfl, rfl, rfl⟩ := trodAll_nil r2
  obtain rfl : args = #[v0, v1, v2] := by cases args; simp_all
  obtain ⟨s0, k0⟩ := open_sheet (hval 0 24 v0 rfl rfl) h0
  obtain ⟨l1, a1, c1, rfl, k1⟩ := rd_u8s (hval 1 56 v1 rfl rfl) h1
  obtain ⟨x2, rfl, _, _, w2⟩ := open_int Tryz.underlying57 (hval 2 57 v2 rfl rfl) h2
  have b2 := bd_u16 w2
  exact ⟨[v0, .slice a1 l1.length c1, .int .u16 x2], rfl, patchProved_f s0 l1 x2 b2 _ _ _ k0 k1⟩

theorem over : Rows.patchProvedRow.holds Tryz.pinned (OpenSpec.ofChange Rows.patchProvedSpec) :=
  OpenClaim.holds_of_wide 7 Tryz.f7 rfl rfl rfl rfl rfl rfl rfl ⟨rfl, rfl, rfl, rfl, rfl⟩ rfl rfl rfl rfl rfl (by kernel_rfl) Tryz.func7 (by kernel_rfl)
    (of_decide_eq_true (by kernel_rfl)) (by unfold Func.isWrapper; first | (rw [if_pos (by decide +kernel)]; kernel_rfl) | (rw [if_neg (by decide +kernel)]; exact ⟨rfl, rfl⟩))
    (fun os started H enc _ => lifted os started H enc)

theorem proved : Rows.PatchProvedCardSaid :=
  Claim7.holds_tied_plain_at .later [] [.data, .pinned] true (true, "0d2a6361d0117277170b6b99c938bda2455ed98009332320e2a28814b9346cbd") false over (fun _ h => by cases h) (by kernel_rfl) (fun _ h => by cases h) patchProved_row_tie rfl ⟨rfl, rfl⟩ (by kernel_rfl) rfl
    (fun f fn hf hfn => by
      obtain rfl : f = 7 := Option.some.inj ((show Tryz.prog.funcNamed "crossband/crossbandlaw04.PatchProved" = some 7 by kernel_rfl).symm.trans hf) |>.symm
      obtain rfl : fn = Tryz.f7 := (Option.some.inj (Tryz.func7.symm.trans hfn)).symm
      exact ⟨by kernel_rfl, fun j t ht => by
        rw [Tryz.params7] at ht
        have hm : t ∈ [24, 56, 57] := by simpa using Array.mem_of_getElem? ht
        have hall : ([24, 56, 57].all fun u => !Tryz.prog.wantsStandIn u) = true := by kernel_rfl
        exact (show Tryz.prog.wantsStandIn t = false by simpa using List.all_eq_true.1 hall t hm)⟩)
    (by kernel_rfl)
#print axioms proved
end Go.Proofs.YtghomjjffllkeaaGreatDoor.c5
