/- The examples of the chapter: a closed statement. No condition. -/
import Derived.Test.YtghomjjffllkeaaGreatDoorB4
set_option linter.unusedVariables false
set_option linter.unusedSimpArgs false
set_option linter.unusedSectionVars false


set_option linter.unusedVariables false
namespace Go.Pm
open Go.Gl Go.Lw
def ShC (g : Gd) (a b : Cl) : Prop := ∃ p, Lies g p ∧ inP p a ∧ inP p b
def AlC (g : Gd) (K l : List Cl) : Prop := l.Pairwise (fun a b => ¬ ShC g a b) ∧ l.Nodup ∧ ∀ x ∈ l, x ∈ K
structure AlM (g : Gd) (K : List Cl) (m : Nat) : Prop where
 ex : ∃ l, AlC g K l ∧ l.length = m
 le : ∀ l, AlC g K l → l.length ≤ m
inductive RcC (g : Gd) (K : List Cl) (a : Cl) : Cl → Prop
 | refl : RcC g K a a
 | step {b c : Cl} : RcC g K a b → c ∈ K → ShC g b c → RcC g K a c
structure Rps (g : Gd) (K l : List Cl) : Prop where
 sub : ∀ x ∈ l, x ∈ K
 apart : l.Pairwise fun a b => ¬ RcC g K a b
 all : ∀ k ∈ K, ∃ x ∈ l, RcC g K x k
end Go.Pm
set_option linter.unusedVariables false
namespace Go.Pm
open Go.Gl Go.Lw
def rwS (s : Sh) (i : Nat) : ByteArray := s.rows.getD i ByteArray.empty
structure Dt (s x : Sh) (D : Cl → Prop) : Prop where
 most : x.most = s.most
 n : x.rows.length = s.rows.length
 sz : ∀ i, i < s.rows.length → (rwS x i).size = (rwS s i).size
 dot : ∀ (i k : Nat), i < s.rows.length → k < (rwS s i).size → D ⟨i, k⟩ → chS x i k = 46
 ch : ∀ (i k : Nat), i < s.rows.length → ¬ D ⟨i, k⟩ → chS x i k = chS s i k
structure Frm (s x : Sh) : Prop where
 n : x.rows.length = s.rows.length
 sz : ∀ i, i < s.rows.length → (rwS x i).size = (rwS s i).size
end Go.Pm
set_option linter.unusedVariables false
namespace Go.Pm
open Go.Gl Go.Lw
structure TnG (g g' : Gd) : Prop where
 R : g'.R = g.C
 C : g'.C = g.R
 most : g'.most = g.most
 fig : ∀ r c, 0 ≤ r → r < g.R → 0 ≤ c → c < g.C → g'.fig c (g.R - 1 - r) = g.fig r c
structure Emb (g g' : Gd) (K : List Cl) (f : Cl → Cl) (F B : Pc → Pc) : Prop where
 to : ∀ p, Lies g p → Lies g' (F p)
 bk : ∀ q k, Lies g' q → k ∈ K → inP q (f k) → Lies g (B q)
 fb : ∀ q, F (B q) = q
 inj : ∀ a b, f a = f b → a = b
 mem : ∀ p k, inP (F p) (f k) ↔ inP p k
 ar : ∀ p, arP (F p) = arP p
end Go.Pm






set_option linter.unusedVariables false
namespace Go.Proofs.YtghomjjffllkeaaGreatDoor
open Go.Lw Go.Gl Go.Pm Go.RowKit Go.Shelf
theorem pr_ok {s : Sh} (h0 : chE s = 0) {ll : List (List Int)} (h : (chE s ≠ 0 ∧ ll = []) ∨ (chE s = 0 ∧ PrtK (knL s).length (shN (gdS s) (knL s)) (knL s).length ll)) : PrtK (knL s).length (shN (gdS s) (knL s)) (knL s).length ll := by
 rcases h with ⟨h, _⟩ | ⟨_, h⟩
 ·exact absurd h0 h
 ·exact h
end Go.Proofs.YtghomjjffllkeaaGreatDoor
set_option linter.unusedVariables false
namespace Go.Lw
section
variable {cx : Cx} {n : Nat} {ks ks' : List (Nat × Value)} {O : List Own} {V : View} {P : Program} {ops : Array Oper} {Qn : Act → World → Prop} {t : Tr}
theorem AtT.subK (h : AtT cx n ks' O V P ops Qn t) (hs : Sub ks' ks) : AtT cx n ks O V P ops Qn t := fun a w hk hm => h a w (hk.sub hs) hm
theorem AtT.byKey {ι : Type} (KS : ι → List (Nat × Value)) (VS : ι → View → Prop) (t' : Tr) (h1 : (∀ i V', VS i V' → AtT cx n (KS i) O V' P ops Qn t') → AtT cx n ks O V P ops Qn t) (h2 : ∀ i V' ks', VS i V' → ks' = KS i → AtT cx n ks' O V' P ops Qn t') : AtT cx n ks O V P ops Qn t := h1 fun i V' h => h2 i V' _ h rfl
end
def Tr.graft : Tr → Tr → Tr
 | .done, t' => t'
 | .q i t, t' => .q i (t.graft t')
 | .n wr i t, t' => .n wr i (t.graft t')
 | .two i t j u, t' => .two i (t.graft t') j (u.graft t')
 | .br is f, t' => .br is fun i => (f i).graft t'
def Tr.chkJ (rows : List Row3) (L : Nat) : Tr → Nat → Bool
 | .done, m => m == L
 | .q i t, m => freeF rows m i && (rdL m rows 0).contains i && t.chkJ rows L (m ||| 2 ^ i)
 | .n wr i t, m => !wr && (rdL m rows 0 == [i]) && t.chkJ rows L (m ||| 2 ^ i)
 | .two i t j u, m => (rdL m rows 0 == [i, j]) && t.chkJ rows L (m ||| 2 ^ i) && u.chkJ rows L (m ||| 2 ^ j)
 | .br is f, m => !is.isEmpty && (rdL m rows 0 == is) && is.all fun i => (f i).chkJ rows L (m ||| 2 ^ i)
theorem chkJ_sound {rows : List Row3} {L : Nat} {W : List Nat} {t' : Tr} (hL : t'.chkF rows [] W L = true) : ∀ (t : Tr) (m : Nat), t.chkJ rows L m = true → (t.graft t').chkF rows [] W m = true := by
 intro t
 induction t with
 | done =>
  intro m h
  simp only [Tr.chkJ, beq_iff_eq] at h
  subst h; exact hL
 | q i t ih =>
  intro m h
  simp only [Tr.chkJ, Bool.and_eq_true] at h
  simp only [Tr.graft, Tr.chkF, Bool.and_eq_true]
  exact ⟨⟨⟨⟨h.1.1, h.1.2⟩, rfl⟩, rfl⟩, ih _ h.2⟩
 | n wr i t ih =>
  intro m h
  simp only [Tr.chkJ, Bool.and_eq_true, Bool.not_eq_true'] at h
  obtain ⟨⟨rfl, h2⟩, h3⟩ := h
  simp only [Tr.graft, Tr.chkF, Bool.and_eq_true]
  exact ⟨⟨h2, rfl⟩, ih _ h3⟩
 | two i t j u iht ihu =>
  intro m h
  simp only [Tr.chkJ, Bool.and_eq_true] at h
  simp only [Tr.graft, Tr.chkF, Bool.and_eq_true]
  exact ⟨⟨⟨⟨h.1.1, rfl⟩, rfl⟩, iht _ h.1.2⟩, ihu _ h.2⟩
 | br is f ih =>
  intro m h
  simp only [Tr.chkJ, Bool.and_eq_true, List.all_eq_true] at h
  simp only [Tr.graft, Tr.chkF, Bool.and_eq_true, List.all_eq_true]
  exact ⟨h.1, fun i hi => ⟨rfl, ih i _ (h.2 i hi)⟩⟩
theorem chkJ_muts {rows : List Row3} {L : Nat} {t' : Tr} (hm : t'.muts = []) : ∀ (t : Tr) (m : Nat), t.chkJ rows L m = true → (t.graft t').muts = [] := by
 intro t
 induction t with
 | done => intro m h; exact hm
 | q i t ih =>
  intro m h
  simp only [Tr.chkJ, Bool.and_eq_true] at h
  exact ih _ h.2
 | n wr i t ih =>
  intro m h
  simp only [Tr.chkJ, Bool.and_eq_true, Bool.not_eq_true'] at h
  obtain ⟨⟨rfl, _⟩, h3⟩ := h
  exact ih _ h3
 | two i t j u iht ihu =>
  intro m h
  simp only [Tr.chkJ, Bool.and_eq_true] at h
  show (t.graft t').muts ++ (u.graft t').muts = []
  rw [iht _ h.1.2, ihu _ h.2]; rfl
 | br is f ih =>
  intro m h
  simp only [Tr.chkJ, Bool.and_eq_true, List.all_eq_true] at h
  show (is.flatMap fun i => ((f i).graft t').muts) = []
  rw [List.flatMap_eq_nil_iff]
  exact fun i hi => ih i _ (h.2 i hi)
theorem graft_len (t' : Tr) : ∀ t : Tr, (t.graft t').len ≤ t.len + t'.len := by
 intro t
 induction t with
 | done => show t'.len ≤ 0 + t'.len; omega
 | q i t ih => show (t.graft t').len + 1 ≤ t.len + 1 + t'.len; omega
 | n wr i t ih => show (t.graft t').len + 1 ≤ t.len + 1 + t'.len; omega
 | two i t j u iht ihu => show max (t.graft t').len (u.graft t').len + 1 ≤ max t.len u.len + 1 + t'.len; omega
 | br is f ih =>
  have key : ∀ l : List Nat, l.foldr (fun i m => max ((f i).graft t').len m) 0 ≤ l.foldr (fun i m => max (f i).len m) 0 + t'.len := by
   intro l
   induction l with
   | nil => exact Nat.zero_le _
   | cons i l ihl =>
    have := ih i
    simp only [List.foldr_cons]
    omega
  have := key is
  show is.foldr (fun i m => max ((f i).graft t').len m) 0 + 1 ≤ is.foldr (fun i m => max (f i).len m) 0 + 1 + t'.len
  omega
def Tr.okJ (rows : List Row3) (n L : Nat) (t t' : Tr) : Bool := decide (t.len + t'.len ≤ n) && t.chkJ rows L 0 && t'.chkF rows [] (waitW rows []) L && t'.muts.isEmpty
section
variable {cx : Cx} {n : Nat} {ks : List (Nat × Value)} {O : List Own} {V : View} {P : Program} {ops : Array Oper} {Q : Exit → Act → World → Prop} {ro : Option Nat} {id : Nat}
theorem At.drawJ (rows : List Row3) (t t' : Tr) (L : Nat) (hm : P.follows .mixedOrders = true) (hr : rowsOf ops = rows) (hn : Ndr ops = true) (hc : Tr.okJ rows ops.size L t t' = true) (h : AtT cx n ks O V P ops (Q .normal) (t.graft t')) :
  At cx n ks O V ((Code.region id ops true).wpIn (FW ro) 0 P Q) := by
 simp only [Tr.okJ, Bool.and_eq_true, decide_eq_true_eq, List.isEmpty_iff] at hc
 obtain ⟨⟨⟨h1, h2⟩, h3⟩, h4⟩ := hc
 refine At.drawF rows (t.graft t') hm hr hn ?_ h
 simp only [Tr.okF, Bool.and_eq_true, decide_eq_true_eq]
 rw [chkJ_muts h4 t _ h2]
 exact ⟨Nat.le_trans (graft_len t' t) h1, chkJ_sound h3 t 0 h2⟩
end
end Go.Lw
set_option linter.unusedVariables false
set_option maxRecDepth 20000
namespace Go.Proofs.YtghomjjffllkeaaGreatDoor
open Go.Lw Go.Gl Go.Pm Go.RowKit Go.Shelf
theorem fourOk2 : chE (zJ 2) = 0 := by decide +kernel
theorem v1 : ckR (zJ 4) ⟨1, 2, 2, 2⟩ = 0 := by decide +kernel
theorem v2 : ckR (zJ 4) ⟨0, 0, 0, 1⟩ = 3 := by decide +kernel
theorem v3 : cpR (zJ 4) [⟨0, 0, 3, 1⟩, ⟨0, 3, 3, 1⟩] = (6, 0) := by decide +kernel
theorem v4 : laR (zJ 4) = (⟨0, 0, 1, 4⟩, 0) := by decide +kernel
theorem v5 : saR qH (zJ 4) = (3, 0) := by decide +kernel
theorem vP4 : PrtK (knL (zJ 4)).length (shN (gdS (zJ 4)) (knL (zJ 4))) (knL (zJ 4)).length [[0, 1, 2, 3]] := by
 have e : (knL (zJ 4)).length = 4 := by decide +kernel
 rw [e]
 have s1 : shN (gdS (zJ 4)) (knL (zJ 4)) 0 1 = true := by decide +kernel
 have s2 : shN (gdS (zJ 4)) (knL (zJ 4)) 0 2 = true := by decide +kernel
 have s3 : shN (gdS (zJ 4)) (knL (zJ 4)) 1 3 = true := by decide +kernel
 have p0 : IsPart 4 (shN (gdS (zJ 4)) (knL (zJ 4))) 0 [0, 1, 2, 3] := isPart_of (by decide) (by decide) (fun x hx => by
  simp only [List.mem_cons, List.not_mem_nil, or_false] at hx
  rcases hx with rfl | rfl | rfl | rfl
  ·exact ⟨0, rfl, .refl⟩
  ·exact ⟨1, rfl, rch1 (by decide) s1⟩
  ·exact ⟨2, rfl, rch1 (by decide) s2⟩
  ·exact ⟨3, rfl, .step (rch1 (by decide) s1) (by decide) s3⟩) (clD_h (by decide +kernel))
 exact .skip (.skip (.skip (.add .zero (by decide) p0) (by decide)) (by decide)) (by decide)
theorem vP2 : PrtK (knL (zJ 2)).length (shN (gdS (zJ 2)) (knL (zJ 2))) (knL (zJ 2)).length [[0], [1], [2], [3]] := by
 have e : (knL (zJ 2)).length = 4 := by decide +kernel
 rw [e]
 have one : ∀ i : Nat, i < 4 → clD 4 (shN (gdS (zJ 2)) (knL (zJ 2))) [(i : Int)] = true → IsPart 4 (shN (gdS (zJ 2)) (knL (zJ 2))) i [(i : Int)] := fun i hi h => isPart_of (by simp) (by simp) (fun x hx => by
  rw [List.mem_singleton] at hx; subst hx
  exact ⟨i, rfl, .refl⟩) (clD_h h)
 have p0 := one 0 (by decide) (by decide +kernel)
 have p1 := one 1 (by decide) (by decide +kernel)
 have p2 := one 2 (by decide) (by decide +kernel)
 have p3 := one 3 (by decide) (by decide +kernel)
 exact .add (.add (.add (.add .zero (by decide) p0) (by decide) p1) (by decide) p2) (by decide) p3
abbrev knT : Tr := (.n false 40 (.n false 41 (.n false 42 (.q 43 (.q 44 (.q 45 (.q 46 (.q 47 (.q 48 (.q 49 (.n false 50 (.n false 51 (.q 52 (.q 53 (.q 54 (.q 55 (.q 56 (.q 57 (.q 58 (.q 59 (.q 60 (.q 61 (.q 62 (.q 63 (.q 64 (.q 65 (.n false 66 (.q 67 (.q 68 (.q 69 (.n false 70 (.q 71 (.q 72 .done)))))))))))))))))))))))))))))))))
set_option maxHeartbeats 3200000 in
theorem patchKnown_f (V : View) : Fnc Tryz.prog 14 [] V fun r _ => r = .bool true := by
 refine qh Tryz.func14 rfl Tryz.ntmps14 (Nat.le_of_ble_eq_true rfl) ?_
 intro w0 hw0
 refine At.nrm ?_
 refine At.zl (.q 0 .done) ?_
 refine AtT.zg ?_
 refine AtT.done ?_
 refine At.nrm ?_
 refine At.zl (.n false 0 (.n false 1 (.n true 2 .done))) ?_
 refine AtT.qg rfl rfl ok52 (four_f 4 _) ?_
 rintro _ V14 hV14 ⟨a1, c1, rfl, hs1⟩
 refine AtT.qx z24 ?_
 intro b1
 refine AtT.zW zP ?_
 refine AtT.done ?_
 refine At.nrm ?_
 have sv1 : ∀ {V' : View}, Sl V' bse 1 (.slice a1 (zJ 4).rows.length c1) (zJ 4).rows → ShV V' (.agg #[.slice a1 (zJ 4).rows.length c1, iv (zJ 4).most]) (zJ 4) := fun h => ⟨a1, c1, rfl, h⟩
 clear hV14
 refine At.jo (ι := Unit) (fun _ => [(1, .pointer (some ⟨b1, 0, none⟩)), (2, iv 0), (3, iv 3)]) (fun _ => [.blk b1 (LC [.slice a1 (zJ 4).rows.length c1, iv (zJ 4).most] 24)]) (fun _ V'' => Sl V'' bse 1 (.slice a1 (zJ 4).rows.length c1) (zJ 4).rows) ?_ ?_
 ·refine At.draw (.q 0 (.q 6 (.two 1 (.two 2 (.q 3 (.q 4 (.two 5 (.n false 7 (.n false 8 (.q 9 (.q 10 (.n false 11 (.q 12 (.q 13 .done))))))) 7 (.n false 5 (.n false 8 (.q 9 (.q 10 (.n false 11 (.q 12 (.q 13 .done)))))))))) 7 (.n false 2 (.q 3 (.q 4 (.n false 5 (.n false 8 (.q 9 (.q 10 (.n false 11 (.q 12 (.q 13 .done))))))))))) 7 (.n false 1 (.n false 2 (.q 3 (.q 4 (.n false 5 (.n false 8 (.q 9 (.q 10 (.n false 11 (.q 12 (.q 13 .done)))))))))))))) ffm (by kernel_rfl) ?_
  first | refine AtT.zD zP ?_ | refine AtT.zK zP ?_ | refine AtT.zC zP ?_
  first | refine AtT.zD zP ?_ | refine AtT.zK zP ?_ | refine AtT.zC zP ?_
  refine AtT.two ?_ ?_
  focus
   refine AtT.zu (qf _ _ _ _) ?_
   intro q16 V16 hV16 hq16
   (try replace hs1:=hs1.le hV16);(try replace s22:=s22.le hV16)
   have s16 : SlI V16 _ [1, 2, 2, 2] := Sl.lit hq16 rfl (by decide)
   refine AtT.two ?_ ?_
   focus
    refine AtT.qg rfl rfl ok53 (qB [⟨1, 2, 2, 2⟩] (by decide) _ _ (show SlI _ _ [1, 2, 2, 2] from s16)) ?_
    rintro _ V17 hV17 hp17; (try replace hs1:=hs1.le hV17); (try replace s22:=s22.le hV17); obtain ⟨a17, c17, rfl, k17, k17', _⟩ := id hp17; clear k17 k17'
    refine AtT.idx rfl trivial Tryz.underlying27 zS rfl hp17 rfl (by decide) (by decide) (by decide) ?_
    intro p18 e18 he18 hc18
    first | refine AtT.zD zS ?_ | refine AtT.zK zS ?_ | refine AtT.zC zS ?_
    obtain rfl : (⟨1, 2, 2, 2⟩ : Pc) = e18 := qK (h := he18)
    refine AtT.two ?_ ?_
    focus
     refine AtT.zq rfl rfl ok21 (ql (zJ 4) ⟨1, 2, 2, 2⟩ _ _ (sv1 hs1)) ?_
     rintro _ rfl; rw [v1]
     refine AtT.zu (qf _ _ _ _) ?_
     intro q22 V22 hV22 hq22
     (try replace hs1:=hs1.le hV22);(try replace s16:=s16.le hV22)
     have s22 : SlI V22 _ [0, 0, 0, 1] := Sl.lit hq22 rfl (by decide)
     refine AtT.qg rfl rfl ok53 (qB [⟨0, 0, 0, 1⟩] (by decide) _ _ (show SlI _ _ [0, 0, 0, 1] from s22)) ?_
     rintro _ V23 hV23 hp23; (try replace hs1:=hs1.le hV23); (try replace s16:=s16.le hV23); obtain ⟨a23, c23, rfl, k23, k23', _⟩ := id hp23; clear k23 k23'
     refine AtT.idx rfl trivial Tryz.underlying27 zS rfl hp23 rfl (by decide) (by decide) (by decide) ?_
     intro p24 e24 he24 hc24
     first | refine AtT.zD zS ?_ | refine AtT.zK zS ?_ | refine AtT.zC zS ?_
     obtain rfl : (⟨0, 0, 0, 1⟩ : Pc) = e24 := qK (h := he24)
     refine AtT.zq rfl rfl ok21 (ql (zJ 4) ⟨0, 0, 0, 1⟩ _ _ (sv1 hs1)) ?_
     rintro _ rfl; rw [v2]
     refine AtT.zg ?_
     refine AtT.zg ?_
     refine AtT.done ?_
    rotate_right
    focus
     refine AtT.zu (qf _ _ _ _) ?_
     intro q22 V22 hV22 hq22
     (try replace hs1:=hs1.le hV22);(try replace s16:=s16.le hV22)
     have s22 : SlI V22 _ [0, 0, 0, 1] := Sl.lit hq22 rfl (by decide)
     refine AtT.zq rfl rfl ok21 (ql (zJ 4) ⟨1, 2, 2, 2⟩ _ _ (sv1 hs1)) ?_
     rintro _ rfl; rw [v1]
     refine AtT.qg rfl rfl ok53 (qB [⟨0, 0, 0, 1⟩] (by decide) _ _ (show SlI _ _ [0, 0, 0, 1] from s22)) ?_
     rintro _ V23 hV23 hp23; (try replace hs1:=hs1.le hV23); (try replace s16:=s16.le hV23); obtain ⟨a23, c23, rfl, k23, k23', _⟩ := id hp23; clear k23 k23'
     refine AtT.idx rfl trivial Tryz.underlying27 zS rfl hp23 rfl (by decide) (by decide) (by decide) ?_
     intro p24 e24 he24 hc24
     first | refine AtT.zD zS ?_ | refine AtT.zK zS ?_ | refine AtT.zC zS ?_
     obtain rfl : (⟨0, 0, 0, 1⟩ : Pc) = e24 := qK (h := he24)
     refine AtT.zq rfl rfl ok21 (ql (zJ 4) ⟨0, 0, 0, 1⟩ _ _ (sv1 hs1)) ?_
     rintro _ rfl; rw [v2]
     refine AtT.zg ?_
     refine AtT.zg ?_
     refine AtT.done ?_
   rotate_right
   focus
    refine AtT.zu (qf _ _ _ _) ?_
    intro q22 V22 hV22 hq22
    (try replace hs1:=hs1.le hV22);(try replace s16:=s16.le hV22)
    have s22 : SlI V22 _ [0, 0, 0, 1] := Sl.lit hq22 rfl (by decide)
    refine AtT.qg rfl rfl ok53 (qB [⟨1, 2, 2, 2⟩] (by decide) _ _ (show SlI _ _ [1, 2, 2, 2] from s16)) ?_
    rintro _ V17 hV17 hp17; (try replace hs1:=hs1.le hV17); (try replace s22:=s22.le hV17); obtain ⟨a17, c17, rfl, k17, k17', _⟩ := id hp17; clear k17 k17'
    refine AtT.idx rfl trivial Tryz.underlying27 zS rfl hp17 rfl (by decide) (by decide) (by decide) ?_
    intro p18 e18 he18 hc18
    first | refine AtT.zD zS ?_ | refine AtT.zK zS ?_ | refine AtT.zC zS ?_
    obtain rfl : (⟨1, 2, 2, 2⟩ : Pc) = e18 := qK (h := he18)
    refine AtT.zq rfl rfl ok21 (ql (zJ 4) ⟨1, 2, 2, 2⟩ _ _ (sv1 hs1)) ?_
    rintro _ rfl; rw [v1]
    refine AtT.qg rfl rfl ok53 (qB [⟨0, 0, 0, 1⟩] (by decide) _ _ (show SlI _ _ [0, 0, 0, 1] from s22)) ?_
    rintro _ V23 hV23 hp23; (try replace hs1:=hs1.le hV23); (try replace s16:=s16.le hV23); obtain ⟨a23, c23, rfl, k23, k23', _⟩ := id hp23; clear k23 k23'
    refine AtT.idx rfl trivial Tryz.underlying27 zS rfl hp23 rfl (by decide) (by decide) (by decide) ?_
    intro p24 e24 he24 hc24
    first | refine AtT.zD zS ?_ | refine AtT.zK zS ?_ | refine AtT.zC zS ?_
    obtain rfl : (⟨0, 0, 0, 1⟩ : Pc) = e24 := qK (h := he24)
    refine AtT.zq rfl rfl ok21 (ql (zJ 4) ⟨0, 0, 0, 1⟩ _ _ (sv1 hs1)) ?_
    rintro _ rfl; rw [v2]
    refine AtT.zg ?_
    refine AtT.zg ?_
    refine AtT.done ?_
  rotate_right
  focus
   refine AtT.zu (qf _ _ _ _) ?_
   intro q22 V22 hV22 hq22
   (try replace hs1:=hs1.le hV22);(try replace s16:=s16.le hV22)
   have s22 : SlI V22 _ [0, 0, 0, 1] := Sl.lit hq22 rfl (by decide)
   refine AtT.zu (qf _ _ _ _) ?_
   intro q16 V16 hV16 hq16
   (try replace hs1:=hs1.le hV16);(try replace s22:=s22.le hV16)
   have s16 : SlI V16 _ [1, 2, 2, 2] := Sl.lit hq16 rfl (by decide)
   refine AtT.qg rfl rfl ok53 (qB [⟨1, 2, 2, 2⟩] (by decide) _ _ (show SlI _ _ [1, 2, 2, 2] from s16)) ?_
   rintro _ V17 hV17 hp17; (try replace hs1:=hs1.le hV17); (try replace s22:=s22.le hV17); obtain ⟨a17, c17, rfl, k17, k17', _⟩ := id hp17; clear k17 k17'
   refine AtT.idx rfl trivial Tryz.underlying27 zS rfl hp17 rfl (by decide) (by decide) (by decide) ?_
   intro p18 e18 he18 hc18
   first | refine AtT.zD zS ?_ | refine AtT.zK zS ?_ | refine AtT.zC zS ?_
   obtain rfl : (⟨1, 2, 2, 2⟩ : Pc) = e18 := qK (h := he18)
   refine AtT.zq rfl rfl ok21 (ql (zJ 4) ⟨1, 2, 2, 2⟩ _ _ (sv1 hs1)) ?_
   rintro _ rfl; rw [v1]
   refine AtT.qg rfl rfl ok53 (qB [⟨0, 0, 0, 1⟩] (by decide) _ _ (show SlI _ _ [0, 0, 0, 1] from s22)) ?_
   rintro _ V23 hV23 hp23; (try replace hs1:=hs1.le hV23); (try replace s16:=s16.le hV23); obtain ⟨a23, c23, rfl, k23, k23', _⟩ := id hp23; clear k23 k23'
   refine AtT.idx rfl trivial Tryz.underlying27 zS rfl hp23 rfl (by decide) (by decide) (by decide) ?_
   intro p24 e24 he24 hc24
   first | refine AtT.zD zS ?_ | refine AtT.zK zS ?_ | refine AtT.zC zS ?_
   obtain rfl : (⟨0, 0, 0, 1⟩ : Pc) = e24 := qK (h := he24)
   refine AtT.zq rfl rfl ok21 (ql (zJ 4) ⟨0, 0, 0, 1⟩ _ _ (sv1 hs1)) ?_
   rintro _ rfl; rw [v2]
   refine AtT.zg ?_
   refine AtT.zg ?_
   refine AtT.done ?_
  all_goals (refine At.nrm ?_)
  all_goals exact At.qC () hs1 ⟨rfl, rfl, rfl, trivial⟩ Pt.zM
 rintro - V2 ks' O' hs1 hk hO hl2
 subst hk hO
 refine At.nrm ?_
 refine At.draw (.q 0 (.n false 1 (.n false 2 (.n false 3 (.q 4 (.q 5 (.q 6 (.q 7 (.q 8 .done))))))))) ffm (by kernel_rfl) ?_
 first | refine AtT.zD zP ?_ | refine AtT.zK zP ?_ | refine AtT.zC zP ?_
 refine AtT.zu (bs39_8_0_1_2_3_4_5_6_7 _ _ _ _ _ _ _ _) ?_
 intro q29 V29 hV29 hq29
 (try replace hs1:=hs1.le hV29)
 have s29 : SlI V29 _ [0, 0, 3, 1, 0, 3, 3, 1] := Sl.lit hq29 rfl (by decide)
 refine AtT.qg rfl rfl ok53 (qB [⟨0, 0, 3, 1⟩, ⟨0, 3, 3, 1⟩] (by decide) _ _ (show SlI _ _ [0, 0, 3, 1, 0, 3, 3, 1] from s29)) ?_
 rintro _ V30 hV30 hp30; (try replace hs1:=hs1.le hV30); obtain ⟨a30, c30, rfl, k30, k30', _⟩ := id hp30; clear k30 k30'
 refine AtT.zq rfl rfl ok17 (checkPatches_f (zJ 4) [⟨0, 0, 3, 1⟩, ⟨0, 3, 3, 1⟩] _ _ _ (sv1 hs1) hp30) ?_
 rintro _ rfl; rw [v3]
 refine AtT.zh ?_
 refine AtT.zN ?_
 refine AtT.zN ?_
 refine AtT.zg ?_
 refine AtT.zg ?_
 refine AtT.done ?_
 refine At.nrm ?_
 refine At.zl (.q 0 (.n false 1 (.q 2 (.q 3 (.q 4 (.q 5 (.q 6 .done))))))) ?_
 first | refine AtT.zD zP ?_ | refine AtT.zK zP ?_ | refine AtT.zC zP ?_
 refine AtT.qg rfl rfl ok30 (partsP_f (zJ 4) _ _ (sv1 hs1)) ?_
 rintro _ V36 hV36 ⟨u36, l1, rfl, hu36, hr36⟩; rw [fourOk]
 refine AtT.zh ?_
 refine AtT.zN ?_
 refine AtT.zN ?_
 refine AtT.zg ?_
 refine AtT.zg ?_
 refine AtT.done ?_
 refine At.nrm ?_
 obtain rfl : l1 = [[0, 1, 2, 3]] := prtK_uniq (pr_ok fourOk hr36) vP4
 replace hs1 := hs1.le hV36
 refine At.zl (.n false 0 (.n false 1 (.q 2 (.q 3 (.q 4 (.q 5 (.q 6 .done))))))) ?_
 refine AtT.qg rfl rfl ok52 (four_f 2 _) ?_
 rintro _ V40 hV40 hv40
 refine AtT.qg rfl rfl ok30 (partsP_f (zJ 2) _ _ hv40) ?_
 rintro _ V41 hV41 ⟨u41, l2, rfl, hu41, hr41⟩; rw [fourOk2]
 refine AtT.zh ?_
 refine AtT.zN ?_
 refine AtT.zN ?_
 refine AtT.zg ?_
 refine AtT.zg ?_
 refine AtT.done ?_
 refine At.nrm ?_
 obtain rfl : l2 = [[0], [1], [2], [3]] := prtK_uniq (pr_ok fourOk2 hr41) vP2
 replace hs1 := (hs1.le hV40).le hV41
 replace hu36 := (hu36.le hV40).le hV41
 clear hV36 hV40 hV41 hv40
 refine At.zl (.q 0 (.n false 1 (.q 2 (.q 3 (.q 4 (.n false 5 (.n true 6 (.q 7 .done)))))))) ?_
 first | refine AtT.zD zP ?_ | refine AtT.zK zP ?_ | refine AtT.zC zP ?_
 refine AtT.zq rfl rfl ok36 (largest_f (zJ 4) _ _ (sv1 hs1)) ?_
 rintro _ rfl; rw [v4]
 refine AtT.zh ?_
 refine AtT.zN ?_
 refine AtT.zN ?_
 refine AtT.qx z26 ?_
 intro b10
 refine AtT.zW zS ?_
 refine AtT.zg ?_
 refine AtT.done ?_
 refine At.nrm ?_
 refine At.draw (.q 1 (.n false 0 (.n false 2 (.q 3 (.q 4 (.q 5 (.q 6 (.q 7 .done)))))))) ffm (by kernel_rfl) ?_
 first | refine AtT.zD zP ?_ | refine AtT.zK zP ?_ | refine AtT.zC zP ?_
 refine AtT.qg rfl rfl ok54 (turned54_f _) ?_
 rintro _ V50 hV50 hv50; (try replace hs1:=hs1.le hV50)
 refine AtT.zq rfl rfl ok40 (same_f qH (zJ 4) _ _ _ hv50 (sv1 hs1)) ?_
 rintro _ rfl; rw [v5]
 refine AtT.zh ?_
 refine AtT.zN ?_
 refine AtT.zN ?_
 refine AtT.zg ?_
 refine AtT.zg ?_
 refine AtT.done ?_
 refine At.nrm ?_
 replace hu36 := hu36.le hV50
 replace hu41 := hu41.le hV50
 refine At.drawJ [(0, 4, 36028797018963968), (1, 36028797018963968, 72057594037927936), (2, 72057594037927936, 144115188075855872), (4, 144115188075855880, 288230376151711744), (12, 432345564227567616, 576460752303423488), (20, 720575940379279360, 1152921504606846976), (36, 1152921504606846976, 2305843009213693952), (64, 2305843009213693984, 4611686018427387904), (192, 6917529027641081856, 9223372036854775808), (320, 11529215046068469760, 18446744073709551616), (576, 18446744073709551616, 36893488147419103232), (1024, 36893488147419103248, 73786976294838206464), (3072, 110680464442257309696, 147573952589676412928), (5120, 184467440737095516160, 295147905179352825856), (9216, 295147905179352825856, 590295810358705651712), (16384, 590295810358705651840, 1180591620717411303424), (49152, 1770887431076116955136, 2361183241434822606848), (81920, 2951479051793528258560, 4722366482869645213696), (147456, 4722366482869645213696, 9444732965739290427392), (262144, 9444732965739290427456, 18889465931478580854784), (262144, 9444732965739290427392, 37778931862957161709568), (1310720, 47223664828696452136960, 75557863725914323419136), (2359296, 85002596691653613846528, 151115727451828646838272), (6553600, 160560460417567937265664, 302231454903657293676544), (9175040, 330565653800875164958720, 604462909807314587353088), (17039360, 613907642773053877780480, 1208925819614629174706176), (50331648, 1208925819614629174706176, 2417851639229258349412352), (67108864, 2417851639229258349412864, 4835703278458516698824704), (201326592, 7253554917687775048237056, 9671406556917033397649408), (335544320, 12089258196146291747061760, 19342813113834066795298816), (603979776, 19342813113834066795298816, 38685626227668133590597632), (1073741824, 38685626227668133590597888, 77371252455336267181195264), (1073741824, 38685626227668133590597632, 154742504910672534362390528), (5368709120, 193428131138340667952988160, 309485009821345068724781056), (1073741824, 38685626227668133590597632, 618970019642690137449562112), (26843545600, 657655645870358271040159744, 1237940039285380274899124224), (1073741824, 38685626227668133590597632, 2475880078570760549798248448), (104152956928, 2514565704798428683388846080, 4951760157141521099596496896), (1073741824, 38685626227668133590597632, 9903520314283042199192993792), (413390602240, 9942205940510710332783591424, 19807040628566084398385987584), (731218182144, 26344911461041998975196987392, 39614081257132168796771975168), (1650341183488, 39652766883359836930362572800, 79228162514264337593543950336), (2202244481024, 79344219392947341994315743232, 158456325028528675187087900672), (4399120252928, 158495010654756343320678498304, 316912650057057350374175801344), (13194139533312, 316912650057057350374175801344, 633825300114114700748351602688), (17592186044416, 633825300114114700748351604736, 1267650600228229401496703205376), (52776558133248, 1901475900342344102245054808064, 2535301200456458802993406410752), (87960930222080, 3169126500570573503741758013440, 5070602400912917605986812821504), (158329674399744, 5070602400912917605986812821504, 10141204801825835211973625643008), (281474976710656, 10141204801825835211973625644032, 20282409603651670423947251286016), (281474976710656, 10141204801825835211973625643008, 40564819207303340847894502572032), (1407374883553280, 50706024009129176059868128215040, 81129638414606681695789005144064), (2533274790395904, 91270843216432516907762630787072, 162259276829213363391578010288128), (4785074604081152, 172400481631039198603551635931136, 324518553658426726783156020576256), (9851624184872960, 354942168063904232419076897505280, 649037107316853453566312041152512), (18295873486192640, 659178312118679288778285666795520, 1298074214633706907132624082305024), (38280596832649216, 1298074214633706907132624082305024, 2596148429267413814265248164610048), (72057594037927936, 2596148429267413814265248164618240, 5192296858534827628530496329220096), (216172782113783808, 7788445287802241442795744493830144, 10384593717069655257060992658440192), (360287970189639680, 12980742146337069071326240823050240, 20769187434139310514121985316880384), (648518346341351424, 20769187434139310514121985316880384, 41538374868278621028243970633760768), (1152921504606846976, 41538374868278621028243970633764864, 83076749736557242056487941267521536), (3458764513820540928, 124615124604835863084731911901282304, 166153499473114484112975882535043072), (5764607523034234880, 207691874341393105141219853168803840, 332306998946228968225951765070086144), (10376293541461622784, 332306998946228968225951765070086144, 664613997892457936451903530140172288), (18446744073709551616, 664613997892457936451903530140172290, 1329227995784915872903807060280344576), (55340232221128654848, 1993841993677373809355710590420516864, 2658455991569831745807614120560689152), (92233720368547758080, 3323069989462289682259517650700861440, 5316911983139663491615228241121378304), (166020696663385964544, 5981525981032121428067131771261550592, 10633823966279326983230456482242756608), (368934881474191032320, 10633823966279326983230456482242756608, 21267647932558653966460912964485513216), (590295810358705651712, 21267647932558653966460912964485513216, 42535295865117307932921825928971026432), (1770887431076116955136, 63802943797675961899382738893456539648, 85070591730234615865843651857942052864), (4722366482869645213695, 85070591730234615865843651857942052864, 1)] (.q 0 (.q 1 (.q 2 (.q 3 (.q 4 (.q 5 (.q 6 (.q 7 (.q 8 (.q 9 (.q 10 (.q 11 (.q 12 (.q 13 (.q 14 (.q 15 (.q 16 (.q 17 (.q 18 (.q 19 (.n false 20 (.n false 21 (.n false 22 (.n false 23 (.n false 24 (.q 25 (.q 26 (.q 27 (.q 28 (.q 29 (.q 30 (.q 31 (.br [32, 34, 36, 38] (fun i => bif Nat.beq i 32 then (.br [33, 34, 36, 38] (fun i => bif Nat.beq i 33 then (.br [34, 36, 38] (fun i => bif Nat.beq i 34 then (.br [35, 36, 38] (fun i => bif Nat.beq i 35 then (.two 36 (.two 37 (.n false 38 (.n false 39 .done)) 38 (.n false 37 (.n false 39 .done))) 38 (.n false 36 (.n false 37 (.n false 39 .done)))) else bif Nat.beq i 36 then (.two 35 (.two 37 (.n false 38 (.n false 39 .done)) 38 (.n false 37 (.n false 39 .done))) 38 (.n false 35 (.n false 37 (.n false 39 .done)))) else bif Nat.beq i 38 then (.two 35 (.n false 36 (.n false 37 (.n false 39 .done))) 36 (.n false 35 (.n false 37 (.n false 39 .done)))) else .done)) else bif Nat.beq i 36 then (.two 34 (.two 35 (.two 37 (.n false 38 (.n false 39 .done)) 38 (.n false 37 (.n false 39 .done))) 38 (.n false 35 (.n false 37 (.n false 39 .done)))) 38 (.n false 34 (.n false 35 (.n false 37 (.n false 39 .done))))) else bif Nat.beq i 38 then (.two 34 (.two 35 (.n false 36 (.n false 37 (.n false 39 .done))) 36 (.n false 35 (.n false 37 (.n false 39 .done)))) 36 (.n false 34 (.n false 35 (.n false 37 (.n false 39 .done))))) else .done)) else bif Nat.beq i 34 then (.br [33, 36, 38] (fun i => bif Nat.beq i 33 then (.br [35, 36, 38] (fun i => bif Nat.beq i 35 then (.two 36 (.two 37 (.n false 38 (.n false 39 .done)) 38 (.n false 37 (.n false 39 .done))) 38 (.n false 36 (.n false 37 (.n false 39 .done)))) else bif Nat.beq i 36 then (.two 35 (.two 37 (.n false 38 (.n false 39 .done)) 38 (.n false 37 (.n false 39 .done))) 38 (.n false 35 (.n false 37 (.n false 39 .done)))) else bif Nat.beq i 38 then (.two 35 (.n false 36 (.n false 37 (.n false 39 .done))) 36 (.n false 35 (.n false 37 (.n false 39 .done)))) else .done)) else bif Nat.beq i 36 then (.two 33 (.two 35 (.two 37 (.n false 38 (.n false 39 .done)) 38 (.n false 37 (.n false 39 .done))) 38 (.n false 35 (.n false 37 (.n false 39 .done)))) 38 (.n false 33 (.n false 35 (.n false 37 (.n false 39 .done))))) else bif Nat.beq i 38 then (.two 33 (.two 35 (.n false 36 (.n false 37 (.n false 39 .done))) 36 (.n false 35 (.n false 37 (.n false 39 .done)))) 36 (.n false 33 (.n false 35 (.n false 37 (.n false 39 .done))))) else .done)) else bif Nat.beq i 36 then (.br [33, 34, 38] (fun i => bif Nat.beq i 33 then (.two 34 (.two 35 (.two 37 (.n false 38 (.n false 39 .done)) 38 (.n false 37 (.n false 39 .done))) 38 (.n false 35 (.n false 37 (.n false 39 .done)))) 38 (.n false 34 (.n false 35 (.n false 37 (.n false 39 .done))))) else bif Nat.beq i 34 then (.two 33 (.two 35 (.two 37 (.n false 38 (.n false 39 .done)) 38 (.n false 37 (.n false 39 .done))) 38 (.n false 35 (.n false 37 (.n false 39 .done)))) 38 (.n false 33 (.n false 35 (.n false 37 (.n false 39 .done))))) else bif Nat.beq i 38 then (.two 33 (.n false 34 (.n false 35 (.n false 37 (.n false 39 .done)))) 34 (.n false 33 (.n false 35 (.n false 37 (.n false 39 .done))))) else .done)) else bif Nat.beq i 38 then (.br [33, 34, 36] (fun i => bif Nat.beq i 33 then (.two 34 (.two 35 (.n false 36 (.n false 37 (.n false 39 .done))) 36 (.n false 35 (.n false 37 (.n false 39 .done)))) 36 (.n false 34 (.n false 35 (.n false 37 (.n false 39 .done))))) else bif Nat.beq i 34 then (.two 33 (.two 35 (.n false 36 (.n false 37 (.n false 39 .done))) 36 (.n false 35 (.n false 37 (.n false 39 .done)))) 36 (.n false 33 (.n false 35 (.n false 37 (.n false 39 .done))))) else bif Nat.beq i 36 then (.two 33 (.n false 34 (.n false 35 (.n false 37 (.n false 39 .done)))) 34 (.n false 33 (.n false 35 (.n false 37 (.n false 39 .done))))) else .done)) else .done)) else bif Nat.beq i 34 then (.br [32, 36, 38] (fun i => bif Nat.beq i 32 then (.br [33, 36, 38] (fun i => bif Nat.beq i 33 then (.br [35, 36, 38] (fun i => bif Nat.beq i 35 then (.two 36 (.two 37 (.n false 38 (.n false 39 .done)) 38 (.n false 37 (.n false 39 .done))) 38 (.n false 36 (.n false 37 (.n false 39 .done)))) else bif Nat.beq i 36 then (.two 35 (.two 37 (.n false 38 (.n false 39 .done)) 38 (.n false 37 (.n false 39 .done))) 38 (.n false 35 (.n false 37 (.n false 39 .done)))) else bif Nat.beq i 38 then (.two 35 (.n false 36 (.n false 37 (.n false 39 .done))) 36 (.n false 35 (.n false 37 (.n false 39 .done)))) else .done)) else bif Nat.beq i 36 then (.two 33 (.two 35 (.two 37 (.n false 38 (.n false 39 .done)) 38 (.n false 37 (.n false 39 .done))) 38 (.n false 35 (.n false 37 (.n false 39 .done)))) 38 (.n false 33 (.n false 35 (.n false 37 (.n false 39 .done))))) else bif Nat.beq i 38 then (.two 33 (.two 35 (.n false 36 (.n false 37 (.n false 39 .done))) 36 (.n false 35 (.n false 37 (.n false 39 .done)))) 36 (.n false 33 (.n false 35 (.n false 37 (.n false 39 .done))))) else .done)) else bif Nat.beq i 36 then (.two 32 (.two 33 (.two 35 (.two 37 (.n false 38 (.n false 39 .done)) 38 (.n false 37 (.n false 39 .done))) 38 (.n false 35 (.n false 37 (.n false 39 .done)))) 38 (.n false 33 (.n false 35 (.n false 37 (.n false 39 .done))))) 38 (.n false 32 (.n false 33 (.n false 35 (.n false 37 (.n false 39 .done)))))) else bif Nat.beq i 38 then (.two 32 (.two 33 (.two 35 (.n false 36 (.n false 37 (.n false 39 .done))) 36 (.n false 35 (.n false 37 (.n false 39 .done)))) 36 (.n false 33 (.n false 35 (.n false 37 (.n false 39 .done))))) 36 (.n false 32 (.n false 33 (.n false 35 (.n false 37 (.n false 39 .done)))))) else .done)) else bif Nat.beq i 36 then (.br [32, 34, 38] (fun i => bif Nat.beq i 32 then (.br [33, 34, 38] (fun i => bif Nat.beq i 33 then (.two 34 (.two 35 (.two 37 (.n false 38 (.n false 39 .done)) 38 (.n false 37 (.n false 39 .done))) 38 (.n false 35 (.n false 37 (.n false 39 .done)))) 38 (.n false 34 (.n false 35 (.n false 37 (.n false 39 .done))))) else bif Nat.beq i 34 then (.two 33 (.two 35 (.two 37 (.n false 38 (.n false 39 .done)) 38 (.n false 37 (.n false 39 .done))) 38 (.n false 35 (.n false 37 (.n false 39 .done)))) 38 (.n false 33 (.n false 35 (.n false 37 (.n false 39 .done))))) else bif Nat.beq i 38 then (.two 33 (.n false 34 (.n false 35 (.n false 37 (.n false 39 .done)))) 34 (.n false 33 (.n false 35 (.n false 37 (.n false 39 .done))))) else .done)) else bif Nat.beq i 34 then (.two 32 (.two 33 (.two 35 (.two 37 (.n false 38 (.n false 39 .done)) 38 (.n false 37 (.n false 39 .done))) 38 (.n false 35 (.n false 37 (.n false 39 .done)))) 38 (.n false 33 (.n false 35 (.n false 37 (.n false 39 .done))))) 38 (.n false 32 (.n false 33 (.n false 35 (.n false 37 (.n false 39 .done)))))) else bif Nat.beq i 38 then (.two 32 (.two 33 (.n false 34 (.n false 35 (.n false 37 (.n false 39 .done)))) 34 (.n false 33 (.n false 35 (.n false 37 (.n false 39 .done))))) 34 (.n false 32 (.n false 33 (.n false 35 (.n false 37 (.n false 39 .done)))))) else .done)) else bif Nat.beq i 38 then (.br [32, 34, 36] (fun i => bif Nat.beq i 32 then (.br [33, 34, 36] (fun i => bif Nat.beq i 33 then (.two 34 (.two 35 (.n false 36 (.n false 37 (.n false 39 .done))) 36 (.n false 35 (.n false 37 (.n false 39 .done)))) 36 (.n false 34 (.n false 35 (.n false 37 (.n false 39 .done))))) else bif Nat.beq i 34 then (.two 33 (.two 35 (.n false 36 (.n false 37 (.n false 39 .done))) 36 (.n false 35 (.n false 37 (.n false 39 .done)))) 36 (.n false 33 (.n false 35 (.n false 37 (.n false 39 .done))))) else bif Nat.beq i 36 then (.two 33 (.n false 34 (.n false 35 (.n false 37 (.n false 39 .done)))) 34 (.n false 33 (.n false 35 (.n false 37 (.n false 39 .done))))) else .done)) else bif Nat.beq i 34 then (.two 32 (.two 33 (.two 35 (.n false 36 (.n false 37 (.n false 39 .done))) 36 (.n false 35 (.n false 37 (.n false 39 .done)))) 36 (.n false 33 (.n false 35 (.n false 37 (.n false 39 .done))))) 36 (.n false 32 (.n false 33 (.n false 35 (.n false 37 (.n false 39 .done)))))) else bif Nat.beq i 36 then (.two 32 (.two 33 (.n false 34 (.n false 35 (.n false 37 (.n false 39 .done)))) 34 (.n false 33 (.n false 35 (.n false 37 (.n false 39 .done))))) 34 (.n false 32 (.n false 33 (.n false 35 (.n false 37 (.n false 39 .done)))))) else .done)) else .done)))))))))))))))))))))))))))))))))) knT 1099511627775 ffm (by kernel_rfl) (by kernel_rfl) (by kernel_rfl) ?_
 refine AtT.byKey (ι := Addr × Addr × Addr × Addr) (fun g => [(1, .pointer (some ⟨b1, 0, none⟩)), (10, .pointer (some ⟨b10, 0, none⟩)), (11, iv 0), (12, iv 3), (13, iv 0), (85, .bool true), (86, u41), (88, .slice (some g.1) 1 1), (90, .slice (some g.2.1) 1 1), (92, .slice (some g.2.2.1) 1 1), (94, .slice (some g.2.2.2) 1 1)]) (fun g V' => Sl V' bse 1 (.slice a1 (zJ 4).rows.length c1) (zJ 4).rows ∧ SL V' u41 [[0], [1], [2], [3]] ∧ SlI V' (.slice (some g.1) 1 1) [0] ∧ SlI V' (.slice (some g.2.1) 1 1) [1] ∧ SlI V' (.slice (some g.2.2.1) 1 1) [2] ∧ SlI V' (.slice (some g.2.2.2) 1 1) [3]) knT ?_ ?_
 ·intro key
  refine AtT.zh ?_
  refine AtT.keqI ?_
  refine AtT.qJ (d := 56) rfl (rfl) ?_
  refine AtT.zh ?_
  refine AtT.kL 57 ?_
  refine AtT.zh ?_
  refine AtT.keqI ?_
  refine AtT.qJ (d := 59) rfl (rfl) ?_
  refine AtT.zz ?_
  refine AtT.zh ?_
  refine AtT.kL 61 ?_
  refine AtT.zh ?_
  refine AtT.keqI ?_
  refine AtT.qJ (d := 63) rfl (rfl) ?_
  refine AtT.zz ?_
  refine AtT.zh ?_
  refine AtT.kL 65 ?_
  refine AtT.zh ?_
  refine AtT.keqI ?_
  refine AtT.qJ (d := 67) rfl (rfl) ?_
  refine AtT.zz ?_
  refine AtT.zh ?_
  refine AtT.kL 69 ?_
  refine AtT.zh ?_
  refine AtT.keqI ?_
  refine AtT.qJ (d := 71) rfl (rfl) ?_
  refine AtT.zz ?_
  refine AtT.zh ?_
  refine AtT.kL 73 ?_
  refine AtT.zh ?_
  refine AtT.zu (qf _ _ _ _) ?_
  intro q75 V75 hV75 hq75
  (try replace hs1:=hs1.le hV75);(try replace hu36:=hu36.le hV75);(try replace hu41:=hu41.le hV75)
  have s75 : SlI V75 _ [0, 1, 2, 3] := Sl.lit hq75 rfl (by decide)
  refine AtT.zq rfl rfl qy (qz _ _) ?_
  rintro _ rfl
  refine AtT.zu (bs42_1_0 _ _ _) ?_
  intro q77 V77 hV77 hq77
  (try replace hs1:=hs1.le hV77);(try replace hu36:=hu36.le hV77);(try replace hu41:=hu41.le hV77);(try replace s75:=s75.le hV77)
  refine AtT.zq rfl rfl ok55 (lists_f _ _) ?_
  rintro _ rfl
  refine AtT.zq rfl rfl ok35 (lists_eq_f [[0, 1, 2, 3]] [[0, 1, 2, 3]] _ _ _ hu36 (SL.lit [(some q75, 4, 4)] [[0, 1, 2, 3]] 1 hq77 rfl rfl (by simp) (fun i q l h1 h2 => by match i, h1, h2 with | 0, h1, h2 => (cases h1; cases h2; exact s75)))) ?_
  rintro _ rfl
  refine AtT.qJ (d := 79) rfl (rfl) ?_
  refine AtT.zz ?_
  refine AtT.zh ?_
  refine AtT.kL 81 ?_
  refine AtT.zh ?_
  refine AtT.keqI ?_
  refine AtT.qJ (d := 83) rfl (rfl) ?_
  refine AtT.zz ?_
  refine AtT.zh ?_
  refine AtT.kL 85 ?_
  refine AtT.zh ?_
  refine AtT.subK (ks' := [(1, .pointer (some ⟨b1, 0, none⟩)), (10, .pointer (some ⟨b10, 0, none⟩)), (11, iv 0), (12, iv 3), (13, iv 0), (85, .bool true), (86, u41)]) ?_ ⟨rfl, rfl, rfl, rfl, rfl, rfl, rfl, trivial⟩
  refine AtT.br (fun i hi => ?_)
  simp only [List.mem_cons, List.not_mem_nil, or_false] at hi
  rcases hi with rfl | rfl | rfl | rfl
  rotate_right
  focus
   refine AtT.zu (zT _) ?_
   intro q93 V93 hV93 hq93
   (try replace hs1:=hs1.le hV93);(try replace hu41:=hu41.le hV93);(try replace s87:=s87.le hV93);(try replace s89:=s89.le hV93);(try replace s91:=s91.le hV93)
   have s93 : SlI V93 _ [3] := Sl.lit hq93 rfl (by decide)
   refine AtT.br (fun i hi => ?_)
   simp only [List.mem_cons, List.not_mem_nil, or_false] at hi
   rcases hi with rfl | rfl | rfl
   rotate_right
   focus
    refine AtT.zu (zT _) ?_
    intro q91 V91 hV91 hq91
    (try replace hs1:=hs1.le hV91);(try replace hu41:=hu41.le hV91);(try replace s87:=s87.le hV91);(try replace s89:=s89.le hV91);(try replace s93:=s93.le hV91)
    have s91 : SlI V91 _ [2] := Sl.lit hq91 rfl (by decide)
    refine AtT.two ?_ ?_
    focus
     refine AtT.zu (zT _) ?_
     intro q87 V87 hV87 hq87
     (try replace hs1:=hs1.le hV87);(try replace hu41:=hu41.le hV87);(try replace s89:=s89.le hV87);(try replace s91:=s91.le hV87);(try replace s93:=s93.le hV87)
     have s87 : SlI V87 _ [0] := Sl.lit hq87 rfl (by decide)
     refine AtT.two ?_ ?_
     focus
      refine AtT.zq rfl rfl qy (qz _ _) ?_
      rintro _ rfl
      refine AtT.zu (zT _) ?_
      intro q89 V89 hV89 hq89
      (try replace hs1:=hs1.le hV89);(try replace hu41:=hu41.le hV89);(try replace s87:=s87.le hV89);(try replace s91:=s91.le hV89);(try replace s93:=s93.le hV89)
      have s89 : SlI V89 _ [1] := Sl.lit hq89 rfl (by decide)
      refine AtT.zq rfl rfl qy (qz _ _) ?_
      rintro _ rfl
      refine AtT.zq rfl rfl qy (qz _ _) ?_
      rintro _ rfl
      refine AtT.zq rfl rfl qy (qz _ _) ?_
      rintro _ rfl
      exact AtT.subK (key (q87, q89, q91, q93) _ ⟨hs1, hu41, s87, s89, s91, s93⟩) ⟨rfl, rfl, rfl, rfl, rfl, rfl, rfl, rfl, rfl, rfl, rfl, trivial⟩
     rotate_right
     focus
      refine AtT.zu (zT _) ?_
      intro q89 V89 hV89 hq89
      (try replace hs1:=hs1.le hV89);(try replace hu41:=hu41.le hV89);(try replace s87:=s87.le hV89);(try replace s91:=s91.le hV89);(try replace s93:=s93.le hV89)
      have s89 : SlI V89 _ [1] := Sl.lit hq89 rfl (by decide)
      refine AtT.zq rfl rfl qy (qz _ _) ?_
      rintro _ rfl
      refine AtT.zq rfl rfl qy (qz _ _) ?_
      rintro _ rfl
      refine AtT.zq rfl rfl qy (qz _ _) ?_
      rintro _ rfl
      refine AtT.zq rfl rfl qy (qz _ _) ?_
      rintro _ rfl
      exact AtT.subK (key (q87, q89, q91, q93) _ ⟨hs1, hu41, s87, s89, s91, s93⟩) ⟨rfl, rfl, rfl, rfl, rfl, rfl, rfl, rfl, rfl, rfl, rfl, trivial⟩
    rotate_right
    focus
     refine AtT.zu (zT _) ?_
     intro q89 V89 hV89 hq89
     (try replace hs1:=hs1.le hV89);(try replace hu41:=hu41.le hV89);(try replace s87:=s87.le hV89);(try replace s91:=s91.le hV89);(try replace s93:=s93.le hV89)
     have s89 : SlI V89 _ [1] := Sl.lit hq89 rfl (by decide)
     refine AtT.zu (zT _) ?_
     intro q87 V87 hV87 hq87
     (try replace hs1:=hs1.le hV87);(try replace hu41:=hu41.le hV87);(try replace s89:=s89.le hV87);(try replace s91:=s91.le hV87);(try replace s93:=s93.le hV87)
     have s87 : SlI V87 _ [0] := Sl.lit hq87 rfl (by decide)
     refine AtT.zq rfl rfl qy (qz _ _) ?_
     rintro _ rfl
     refine AtT.zq rfl rfl qy (qz _ _) ?_
     rintro _ rfl
     refine AtT.zq rfl rfl qy (qz _ _) ?_
     rintro _ rfl
     refine AtT.zq rfl rfl qy (qz _ _) ?_
     rintro _ rfl
     exact AtT.subK (key (q87, q89, q91, q93) _ ⟨hs1, hu41, s87, s89, s91, s93⟩) ⟨rfl, rfl, rfl, rfl, rfl, rfl, rfl, rfl, rfl, rfl, rfl, trivial⟩
   rotate_right
   focus
    refine AtT.zu (zT _) ?_
    intro q89 V89 hV89 hq89
    (try replace hs1:=hs1.le hV89);(try replace hu41:=hu41.le hV89);(try replace s87:=s87.le hV89);(try replace s91:=s91.le hV89);(try replace s93:=s93.le hV89)
    have s89 : SlI V89 _ [1] := Sl.lit hq89 rfl (by decide)
    refine AtT.two ?_ ?_
    focus
     refine AtT.zu (zT _) ?_
     intro q87 V87 hV87 hq87
     (try replace hs1:=hs1.le hV87);(try replace hu41:=hu41.le hV87);(try replace s89:=s89.le hV87);(try replace s91:=s91.le hV87);(try replace s93:=s93.le hV87)
     have s87 : SlI V87 _ [0] := Sl.lit hq87 rfl (by decide)
     refine AtT.two ?_ ?_
     focus
      refine AtT.zq rfl rfl qy (qz _ _) ?_
      rintro _ rfl
      refine AtT.two ?_ ?_
      focus
       refine AtT.zq rfl rfl qy (qz _ _) ?_
       rintro _ rfl
       refine AtT.zu (zT _) ?_
       intro q91 V91 hV91 hq91
       (try replace hs1:=hs1.le hV91);(try replace hu41:=hu41.le hV91);(try replace s87:=s87.le hV91);(try replace s89:=s89.le hV91);(try replace s93:=s93.le hV91)
       have s91 : SlI V91 _ [2] := Sl.lit hq91 rfl (by decide)
       refine AtT.zq rfl rfl qy (qz _ _) ?_
       rintro _ rfl
       refine AtT.zq rfl rfl qy (qz _ _) ?_
       rintro _ rfl
       exact AtT.subK (key (q87, q89, q91, q93) _ ⟨hs1, hu41, s87, s89, s91, s93⟩) ⟨rfl, rfl, rfl, rfl, rfl, rfl, rfl, rfl, rfl, rfl, rfl, trivial⟩
      rotate_right
      focus
       refine AtT.zu (zT _) ?_
       intro q91 V91 hV91 hq91
       (try replace hs1:=hs1.le hV91);(try replace hu41:=hu41.le hV91);(try replace s87:=s87.le hV91);(try replace s89:=s89.le hV91);(try replace s93:=s93.le hV91)
       have s91 : SlI V91 _ [2] := Sl.lit hq91 rfl (by decide)
       refine AtT.zq rfl rfl qy (qz _ _) ?_
       rintro _ rfl
       refine AtT.zq rfl rfl qy (qz _ _) ?_
       rintro _ rfl
       refine AtT.zq rfl rfl qy (qz _ _) ?_
       rintro _ rfl
       exact AtT.subK (key (q87, q89, q91, q93) _ ⟨hs1, hu41, s87, s89, s91, s93⟩) ⟨rfl, rfl, rfl, rfl, rfl, rfl, rfl, rfl, rfl, rfl, rfl, trivial⟩
     rotate_right
     focus
      refine AtT.zu (zT _) ?_
      intro q91 V91 hV91 hq91
      (try replace hs1:=hs1.le hV91);(try replace hu41:=hu41.le hV91);(try replace s87:=s87.le hV91);(try replace s89:=s89.le hV91);(try replace s93:=s93.le hV91)
      have s91 : SlI V91 _ [2] := Sl.lit hq91 rfl (by decide)
      refine AtT.zq rfl rfl qy (qz _ _) ?_
      rintro _ rfl
      refine AtT.zq rfl rfl qy (qz _ _) ?_
      rintro _ rfl
      refine AtT.zq rfl rfl qy (qz _ _) ?_
      rintro _ rfl
      refine AtT.zq rfl rfl qy (qz _ _) ?_
      rintro _ rfl
      exact AtT.subK (key (q87, q89, q91, q93) _ ⟨hs1, hu41, s87, s89, s91, s93⟩) ⟨rfl, rfl, rfl, rfl, rfl, rfl, rfl, rfl, rfl, rfl, rfl, trivial⟩
    rotate_right
    focus
     refine AtT.zu (zT _) ?_
     intro q91 V91 hV91 hq91
     (try replace hs1:=hs1.le hV91);(try replace hu41:=hu41.le hV91);(try replace s87:=s87.le hV91);(try replace s89:=s89.le hV91);(try replace s93:=s93.le hV91)
     have s91 : SlI V91 _ [2] := Sl.lit hq91 rfl (by decide)
     refine AtT.zu (zT _) ?_
     intro q87 V87 hV87 hq87
     (try replace hs1:=hs1.le hV87);(try replace hu41:=hu41.le hV87);(try replace s89:=s89.le hV87);(try replace s91:=s91.le hV87);(try replace s93:=s93.le hV87)
     have s87 : SlI V87 _ [0] := Sl.lit hq87 rfl (by decide)
     refine AtT.zq rfl rfl qy (qz _ _) ?_
     rintro _ rfl
     refine AtT.zq rfl rfl qy (qz _ _) ?_
     rintro _ rfl
     refine AtT.zq rfl rfl qy (qz _ _) ?_
     rintro _ rfl
     refine AtT.zq rfl rfl qy (qz _ _) ?_
     rintro _ rfl
     exact AtT.subK (key (q87, q89, q91, q93) _ ⟨hs1, hu41, s87, s89, s91, s93⟩) ⟨rfl, rfl, rfl, rfl, rfl, rfl, rfl, rfl, rfl, rfl, rfl, trivial⟩
   rotate_right
   focus
    refine AtT.zu (zT _) ?_
    intro q87 V87 hV87 hq87
    (try replace hs1:=hs1.le hV87);(try replace hu41:=hu41.le hV87);(try replace s89:=s89.le hV87);(try replace s91:=s91.le hV87);(try replace s93:=s93.le hV87)
    have s87 : SlI V87 _ [0] := Sl.lit hq87 rfl (by decide)
    refine AtT.br (fun i hi => ?_)
    simp only [List.mem_cons, List.not_mem_nil, or_false] at hi
    rcases hi with rfl | rfl | rfl
    rotate_right
    focus
     refine AtT.zu (zT _) ?_
     intro q91 V91 hV91 hq91
     (try replace hs1:=hs1.le hV91);(try replace hu41:=hu41.le hV91);(try replace s87:=s87.le hV91);(try replace s89:=s89.le hV91);(try replace s93:=s93.le hV91)
     have s91 : SlI V91 _ [2] := Sl.lit hq91 rfl (by decide)
     refine AtT.two ?_ ?_
     focus
      refine AtT.zq rfl rfl qy (qz _ _) ?_
      rintro _ rfl
      refine AtT.zu (zT _) ?_
      intro q89 V89 hV89 hq89
      (try replace hs1:=hs1.le hV89);(try replace hu41:=hu41.le hV89);(try replace s87:=s87.le hV89);(try replace s91:=s91.le hV89);(try replace s93:=s93.le hV89)
      have s89 : SlI V89 _ [1] := Sl.lit hq89 rfl (by decide)
      refine AtT.zq rfl rfl qy (qz _ _) ?_
      rintro _ rfl
      refine AtT.zq rfl rfl qy (qz _ _) ?_
      rintro _ rfl
      refine AtT.zq rfl rfl qy (qz _ _) ?_
      rintro _ rfl
      exact AtT.subK (key (q87, q89, q91, q93) _ ⟨hs1, hu41, s87, s89, s91, s93⟩) ⟨rfl, rfl, rfl, rfl, rfl, rfl, rfl, rfl, rfl, rfl, rfl, trivial⟩
     rotate_right
     focus
      refine AtT.zu (zT _) ?_
      intro q89 V89 hV89 hq89
      (try replace hs1:=hs1.le hV89);(try replace hu41:=hu41.le hV89);(try replace s87:=s87.le hV89);(try replace s91:=s91.le hV89);(try replace s93:=s93.le hV89)
      have s89 : SlI V89 _ [1] := Sl.lit hq89 rfl (by decide)
      refine AtT.zq rfl rfl qy (qz _ _) ?_
      rintro _ rfl
      refine AtT.zq rfl rfl qy (qz _ _) ?_
      rintro _ rfl
      refine AtT.zq rfl rfl qy (qz _ _) ?_
      rintro _ rfl
      refine AtT.zq rfl rfl qy (qz _ _) ?_
      rintro _ rfl
      exact AtT.subK (key (q87, q89, q91, q93) _ ⟨hs1, hu41, s87, s89, s91, s93⟩) ⟨rfl, rfl, rfl, rfl, rfl, rfl, rfl, rfl, rfl, rfl, rfl, trivial⟩
    rotate_right
    focus
     refine AtT.zu (zT _) ?_
     intro q89 V89 hV89 hq89
     (try replace hs1:=hs1.le hV89);(try replace hu41:=hu41.le hV89);(try replace s87:=s87.le hV89);(try replace s91:=s91.le hV89);(try replace s93:=s93.le hV89)
     have s89 : SlI V89 _ [1] := Sl.lit hq89 rfl (by decide)
     refine AtT.two ?_ ?_
     focus
      refine AtT.zq rfl rfl qy (qz _ _) ?_
      rintro _ rfl
      refine AtT.two ?_ ?_
      focus
       refine AtT.zq rfl rfl qy (qz _ _) ?_
       rintro _ rfl
       refine AtT.zu (zT _) ?_
       intro q91 V91 hV91 hq91
       (try replace hs1:=hs1.le hV91);(try replace hu41:=hu41.le hV91);(try replace s87:=s87.le hV91);(try replace s89:=s89.le hV91);(try replace s93:=s93.le hV91)
       have s91 : SlI V91 _ [2] := Sl.lit hq91 rfl (by decide)
       refine AtT.zq rfl rfl qy (qz _ _) ?_
       rintro _ rfl
       refine AtT.zq rfl rfl qy (qz _ _) ?_
       rintro _ rfl
       exact AtT.subK (key (q87, q89, q91, q93) _ ⟨hs1, hu41, s87, s89, s91, s93⟩) ⟨rfl, rfl, rfl, rfl, rfl, rfl, rfl, rfl, rfl, rfl, rfl, trivial⟩
      rotate_right
      focus
       refine AtT.zu (zT _) ?_
       intro q91 V91 hV91 hq91
       (try replace hs1:=hs1.le hV91);(try replace hu41:=hu41.le hV91);(try replace s87:=s87.le hV91);(try replace s89:=s89.le hV91);(try replace s93:=s93.le hV91)
       have s91 : SlI V91 _ [2] := Sl.lit hq91 rfl (by decide)
       refine AtT.zq rfl rfl qy (qz _ _) ?_
       rintro _ rfl
       refine AtT.zq rfl rfl qy (qz _ _) ?_
       rintro _ rfl
       refine AtT.zq rfl rfl qy (qz _ _) ?_
       rintro _ rfl
       exact AtT.subK (key (q87, q89, q91, q93) _ ⟨hs1, hu41, s87, s89, s91, s93⟩) ⟨rfl, rfl, rfl, rfl, rfl, rfl, rfl, rfl, rfl, rfl, rfl, trivial⟩
     rotate_right
     focus
      refine AtT.zu (zT _) ?_
      intro q91 V91 hV91 hq91
      (try replace hs1:=hs1.le hV91);(try replace hu41:=hu41.le hV91);(try replace s87:=s87.le hV91);(try replace s89:=s89.le hV91);(try replace s93:=s93.le hV91)
      have s91 : SlI V91 _ [2] := Sl.lit hq91 rfl (by decide)
      refine AtT.zq rfl rfl qy (qz _ _) ?_
      rintro _ rfl
      refine AtT.zq rfl rfl qy (qz _ _) ?_
      rintro _ rfl
      refine AtT.zq rfl rfl qy (qz _ _) ?_
      rintro _ rfl
      refine AtT.zq rfl rfl qy (qz _ _) ?_
      rintro _ rfl
      exact AtT.subK (key (q87, q89, q91, q93) _ ⟨hs1, hu41, s87, s89, s91, s93⟩) ⟨rfl, rfl, rfl, rfl, rfl, rfl, rfl, rfl, rfl, rfl, rfl, trivial⟩
    rotate_right
    focus
     refine AtT.zq rfl rfl qy (qz _ _) ?_
     rintro _ rfl
     refine AtT.two ?_ ?_
     focus
      refine AtT.zu (zT _) ?_
      intro q89 V89 hV89 hq89
      (try replace hs1:=hs1.le hV89);(try replace hu41:=hu41.le hV89);(try replace s87:=s87.le hV89);(try replace s91:=s91.le hV89);(try replace s93:=s93.le hV89)
      have s89 : SlI V89 _ [1] := Sl.lit hq89 rfl (by decide)
      refine AtT.two ?_ ?_
      focus
       refine AtT.zq rfl rfl qy (qz _ _) ?_
       rintro _ rfl
       refine AtT.zu (zT _) ?_
       intro q91 V91 hV91 hq91
       (try replace hs1:=hs1.le hV91);(try replace hu41:=hu41.le hV91);(try replace s87:=s87.le hV91);(try replace s89:=s89.le hV91);(try replace s93:=s93.le hV91)
       have s91 : SlI V91 _ [2] := Sl.lit hq91 rfl (by decide)
       refine AtT.zq rfl rfl qy (qz _ _) ?_
       rintro _ rfl
       refine AtT.zq rfl rfl qy (qz _ _) ?_
       rintro _ rfl
       exact AtT.subK (key (q87, q89, q91, q93) _ ⟨hs1, hu41, s87, s89, s91, s93⟩) ⟨rfl, rfl, rfl, rfl, rfl, rfl, rfl, rfl, rfl, rfl, rfl, trivial⟩
      rotate_right
      focus
       refine AtT.zu (zT _) ?_
       intro q91 V91 hV91 hq91
       (try replace hs1:=hs1.le hV91);(try replace hu41:=hu41.le hV91);(try replace s87:=s87.le hV91);(try replace s89:=s89.le hV91);(try replace s93:=s93.le hV91)
       have s91 : SlI V91 _ [2] := Sl.lit hq91 rfl (by decide)
       refine AtT.zq rfl rfl qy (qz _ _) ?_
       rintro _ rfl
       refine AtT.zq rfl rfl qy (qz _ _) ?_
       rintro _ rfl
       refine AtT.zq rfl rfl qy (qz _ _) ?_
       rintro _ rfl
       exact AtT.subK (key (q87, q89, q91, q93) _ ⟨hs1, hu41, s87, s89, s91, s93⟩) ⟨rfl, rfl, rfl, rfl, rfl, rfl, rfl, rfl, rfl, rfl, rfl, trivial⟩
     rotate_right
     focus
      refine AtT.zu (zT _) ?_
      intro q91 V91 hV91 hq91
      (try replace hs1:=hs1.le hV91);(try replace hu41:=hu41.le hV91);(try replace s87:=s87.le hV91);(try replace s89:=s89.le hV91);(try replace s93:=s93.le hV91)
      have s91 : SlI V91 _ [2] := Sl.lit hq91 rfl (by decide)
      refine AtT.zu (zT _) ?_
      intro q89 V89 hV89 hq89
      (try replace hs1:=hs1.le hV89);(try replace hu41:=hu41.le hV89);(try replace s87:=s87.le hV89);(try replace s91:=s91.le hV89);(try replace s93:=s93.le hV89)
      have s89 : SlI V89 _ [1] := Sl.lit hq89 rfl (by decide)
      refine AtT.zq rfl rfl qy (qz _ _) ?_
      rintro _ rfl
      refine AtT.zq rfl rfl qy (qz _ _) ?_
      rintro _ rfl
      refine AtT.zq rfl rfl qy (qz _ _) ?_
      rintro _ rfl
      exact AtT.subK (key (q87, q89, q91, q93) _ ⟨hs1, hu41, s87, s89, s91, s93⟩) ⟨rfl, rfl, rfl, rfl, rfl, rfl, rfl, rfl, rfl, rfl, rfl, trivial⟩
  rotate_right
  focus
   refine AtT.zu (zT _) ?_
   intro q91 V91 hV91 hq91
   (try replace hs1:=hs1.le hV91);(try replace hu41:=hu41.le hV91);(try replace s87:=s87.le hV91);(try replace s89:=s89.le hV91);(try replace s93:=s93.le hV91)
   have s91 : SlI V91 _ [2] := Sl.lit hq91 rfl (by decide)
   refine AtT.br (fun i hi => ?_)
   simp only [List.mem_cons, List.not_mem_nil, or_false] at hi
   rcases hi with rfl | rfl | rfl
   rotate_right
   focus
    refine AtT.zu (zT _) ?_
    intro q93 V93 hV93 hq93
    (try replace hs1:=hs1.le hV93);(try replace hu41:=hu41.le hV93);(try replace s87:=s87.le hV93);(try replace s89:=s89.le hV93);(try replace s91:=s91.le hV93)
    have s93 : SlI V93 _ [3] := Sl.lit hq93 rfl (by decide)
    refine AtT.two ?_ ?_
    focus
     refine AtT.zu (zT _) ?_
     intro q87 V87 hV87 hq87
     (try replace hs1:=hs1.le hV87);(try replace hu41:=hu41.le hV87);(try replace s89:=s89.le hV87);(try replace s91:=s91.le hV87);(try replace s93:=s93.le hV87)
     have s87 : SlI V87 _ [0] := Sl.lit hq87 rfl (by decide)
     refine AtT.two ?_ ?_
     focus
      refine AtT.zq rfl rfl qy (qz _ _) ?_
      rintro _ rfl
      refine AtT.zu (zT _) ?_
      intro q89 V89 hV89 hq89
      (try replace hs1:=hs1.le hV89);(try replace hu41:=hu41.le hV89);(try replace s87:=s87.le hV89);(try replace s91:=s91.le hV89);(try replace s93:=s93.le hV89)
      have s89 : SlI V89 _ [1] := Sl.lit hq89 rfl (by decide)
      refine AtT.zq rfl rfl qy (qz _ _) ?_
      rintro _ rfl
      refine AtT.zq rfl rfl qy (qz _ _) ?_
      rintro _ rfl
      refine AtT.zq rfl rfl qy (qz _ _) ?_
      rintro _ rfl
      exact AtT.subK (key (q87, q89, q91, q93) _ ⟨hs1, hu41, s87, s89, s91, s93⟩) ⟨rfl, rfl, rfl, rfl, rfl, rfl, rfl, rfl, rfl, rfl, rfl, trivial⟩
     rotate_right
     focus
      refine AtT.zu (zT _) ?_
      intro q89 V89 hV89 hq89
      (try replace hs1:=hs1.le hV89);(try replace hu41:=hu41.le hV89);(try replace s87:=s87.le hV89);(try replace s91:=s91.le hV89);(try replace s93:=s93.le hV89)
      have s89 : SlI V89 _ [1] := Sl.lit hq89 rfl (by decide)
      refine AtT.zq rfl rfl qy (qz _ _) ?_
      rintro _ rfl
      refine AtT.zq rfl rfl qy (qz _ _) ?_
      rintro _ rfl
      refine AtT.zq rfl rfl qy (qz _ _) ?_
      rintro _ rfl
      refine AtT.zq rfl rfl qy (qz _ _) ?_
      rintro _ rfl
      exact AtT.subK (key (q87, q89, q91, q93) _ ⟨hs1, hu41, s87, s89, s91, s93⟩) ⟨rfl, rfl, rfl, rfl, rfl, rfl, rfl, rfl, rfl, rfl, rfl, trivial⟩
    rotate_right
    focus
     refine AtT.zu (zT _) ?_
     intro q89 V89 hV89 hq89
     (try replace hs1:=hs1.le hV89);(try replace hu41:=hu41.le hV89);(try replace s87:=s87.le hV89);(try replace s91:=s91.le hV89);(try replace s93:=s93.le hV89)
     have s89 : SlI V89 _ [1] := Sl.lit hq89 rfl (by decide)
     refine AtT.zu (zT _) ?_
     intro q87 V87 hV87 hq87
     (try replace hs1:=hs1.le hV87);(try replace hu41:=hu41.le hV87);(try replace s89:=s89.le hV87);(try replace s91:=s91.le hV87);(try replace s93:=s93.le hV87)
     have s87 : SlI V87 _ [0] := Sl.lit hq87 rfl (by decide)
     refine AtT.zq rfl rfl qy (qz _ _) ?_
     rintro _ rfl
     refine AtT.zq rfl rfl qy (qz _ _) ?_
     rintro _ rfl
     refine AtT.zq rfl rfl qy (qz _ _) ?_
     rintro _ rfl
     refine AtT.zq rfl rfl qy (qz _ _) ?_
     rintro _ rfl
     exact AtT.subK (key (q87, q89, q91, q93) _ ⟨hs1, hu41, s87, s89, s91, s93⟩) ⟨rfl, rfl, rfl, rfl, rfl, rfl, rfl, rfl, rfl, rfl, rfl, trivial⟩
   rotate_right
   focus
    refine AtT.zu (zT _) ?_
    intro q89 V89 hV89 hq89
    (try replace hs1:=hs1.le hV89);(try replace hu41:=hu41.le hV89);(try replace s87:=s87.le hV89);(try replace s91:=s91.le hV89);(try replace s93:=s93.le hV89)
    have s89 : SlI V89 _ [1] := Sl.lit hq89 rfl (by decide)
    refine AtT.two ?_ ?_
    focus
     refine AtT.zu (zT _) ?_
     intro q87 V87 hV87 hq87
     (try replace hs1:=hs1.le hV87);(try replace hu41:=hu41.le hV87);(try replace s89:=s89.le hV87);(try replace s91:=s91.le hV87);(try replace s93:=s93.le hV87)
     have s87 : SlI V87 _ [0] := Sl.lit hq87 rfl (by decide)
     refine AtT.two ?_ ?_
     focus
      refine AtT.zq rfl rfl qy (qz _ _) ?_
      rintro _ rfl
      refine AtT.two ?_ ?_
      focus
       refine AtT.zq rfl rfl qy (qz _ _) ?_
       rintro _ rfl
       refine AtT.two ?_ ?_
       focus
        refine AtT.zq rfl rfl qy (qz _ _) ?_
        rintro _ rfl
        refine AtT.zu (zT _) ?_
        intro q93 V93 hV93 hq93
        (try replace hs1:=hs1.le hV93);(try replace hu41:=hu41.le hV93);(try replace s87:=s87.le hV93);(try replace s89:=s89.le hV93);(try replace s91:=s91.le hV93)
        have s93 : SlI V93 _ [3] := Sl.lit hq93 rfl (by decide)
        refine AtT.zq rfl rfl qy (qz _ _) ?_
        rintro _ rfl
        exact AtT.subK (key (q87, q89, q91, q93) _ ⟨hs1, hu41, s87, s89, s91, s93⟩) ⟨rfl, rfl, rfl, rfl, rfl, rfl, rfl, rfl, rfl, rfl, rfl, trivial⟩
       rotate_right
       focus
        refine AtT.zu (zT _) ?_
        intro q93 V93 hV93 hq93
        (try replace hs1:=hs1.le hV93);(try replace hu41:=hu41.le hV93);(try replace s87:=s87.le hV93);(try replace s89:=s89.le hV93);(try replace s91:=s91.le hV93)
        have s93 : SlI V93 _ [3] := Sl.lit hq93 rfl (by decide)
        refine AtT.zq rfl rfl qy (qz _ _) ?_
        rintro _ rfl
        refine AtT.zq rfl rfl qy (qz _ _) ?_
        rintro _ rfl
        exact AtT.subK (key (q87, q89, q91, q93) _ ⟨hs1, hu41, s87, s89, s91, s93⟩) ⟨rfl, rfl, rfl, rfl, rfl, rfl, rfl, rfl, rfl, rfl, rfl, trivial⟩
      rotate_right
      focus
       refine AtT.zu (zT _) ?_
       intro q93 V93 hV93 hq93
       (try replace hs1:=hs1.le hV93);(try replace hu41:=hu41.le hV93);(try replace s87:=s87.le hV93);(try replace s89:=s89.le hV93);(try replace s91:=s91.le hV93)
       have s93 : SlI V93 _ [3] := Sl.lit hq93 rfl (by decide)
       refine AtT.zq rfl rfl qy (qz _ _) ?_
       rintro _ rfl
       refine AtT.zq rfl rfl qy (qz _ _) ?_
       rintro _ rfl
       refine AtT.zq rfl rfl qy (qz _ _) ?_
       rintro _ rfl
       exact AtT.subK (key (q87, q89, q91, q93) _ ⟨hs1, hu41, s87, s89, s91, s93⟩) ⟨rfl, rfl, rfl, rfl, rfl, rfl, rfl, rfl, rfl, rfl, rfl, trivial⟩
     rotate_right
     focus
      refine AtT.zu (zT _) ?_
      intro q93 V93 hV93 hq93
      (try replace hs1:=hs1.le hV93);(try replace hu41:=hu41.le hV93);(try replace s87:=s87.le hV93);(try replace s89:=s89.le hV93);(try replace s91:=s91.le hV93)
      have s93 : SlI V93 _ [3] := Sl.lit hq93 rfl (by decide)
      refine AtT.zq rfl rfl qy (qz _ _) ?_
      rintro _ rfl
      refine AtT.zq rfl rfl qy (qz _ _) ?_
      rintro _ rfl
      refine AtT.zq rfl rfl qy (qz _ _) ?_
      rintro _ rfl
      refine AtT.zq rfl rfl qy (qz _ _) ?_
      rintro _ rfl
      exact AtT.subK (key (q87, q89, q91, q93) _ ⟨hs1, hu41, s87, s89, s91, s93⟩) ⟨rfl, rfl, rfl, rfl, rfl, rfl, rfl, rfl, rfl, rfl, rfl, trivial⟩
    rotate_right
    focus
     refine AtT.zu (zT _) ?_
     intro q93 V93 hV93 hq93
     (try replace hs1:=hs1.le hV93);(try replace hu41:=hu41.le hV93);(try replace s87:=s87.le hV93);(try replace s89:=s89.le hV93);(try replace s91:=s91.le hV93)
     have s93 : SlI V93 _ [3] := Sl.lit hq93 rfl (by decide)
     refine AtT.zu (zT _) ?_
     intro q87 V87 hV87 hq87
     (try replace hs1:=hs1.le hV87);(try replace hu41:=hu41.le hV87);(try replace s89:=s89.le hV87);(try replace s91:=s91.le hV87);(try replace s93:=s93.le hV87)
     have s87 : SlI V87 _ [0] := Sl.lit hq87 rfl (by decide)
     refine AtT.zq rfl rfl qy (qz _ _) ?_
     rintro _ rfl
     refine AtT.zq rfl rfl qy (qz _ _) ?_
     rintro _ rfl
     refine AtT.zq rfl rfl qy (qz _ _) ?_
     rintro _ rfl
     refine AtT.zq rfl rfl qy (qz _ _) ?_
     rintro _ rfl
     exact AtT.subK (key (q87, q89, q91, q93) _ ⟨hs1, hu41, s87, s89, s91, s93⟩) ⟨rfl, rfl, rfl, rfl, rfl, rfl, rfl, rfl, rfl, rfl, rfl, trivial⟩
   rotate_right
   focus
    refine AtT.zu (zT _) ?_
    intro q87 V87 hV87 hq87
    (try replace hs1:=hs1.le hV87);(try replace hu41:=hu41.le hV87);(try replace s89:=s89.le hV87);(try replace s91:=s91.le hV87);(try replace s93:=s93.le hV87)
    have s87 : SlI V87 _ [0] := Sl.lit hq87 rfl (by decide)
    refine AtT.br (fun i hi => ?_)
    simp only [List.mem_cons, List.not_mem_nil, or_false] at hi
    rcases hi with rfl | rfl | rfl
    rotate_right
    focus
     refine AtT.zu (zT _) ?_
     intro q93 V93 hV93 hq93
     (try replace hs1:=hs1.le hV93);(try replace hu41:=hu41.le hV93);(try replace s87:=s87.le hV93);(try replace s89:=s89.le hV93);(try replace s91:=s91.le hV93)
     have s93 : SlI V93 _ [3] := Sl.lit hq93 rfl (by decide)
     refine AtT.two ?_ ?_
     focus
      refine AtT.zq rfl rfl qy (qz _ _) ?_
      rintro _ rfl
      refine AtT.zu (zT _) ?_
      intro q89 V89 hV89 hq89
      (try replace hs1:=hs1.le hV89);(try replace hu41:=hu41.le hV89);(try replace s87:=s87.le hV89);(try replace s91:=s91.le hV89);(try replace s93:=s93.le hV89)
      have s89 : SlI V89 _ [1] := Sl.lit hq89 rfl (by decide)
      refine AtT.zq rfl rfl qy (qz _ _) ?_
      rintro _ rfl
      refine AtT.zq rfl rfl qy (qz _ _) ?_
      rintro _ rfl
      refine AtT.zq rfl rfl qy (qz _ _) ?_
      rintro _ rfl
      exact AtT.subK (key (q87, q89, q91, q93) _ ⟨hs1, hu41, s87, s89, s91, s93⟩) ⟨rfl, rfl, rfl, rfl, rfl, rfl, rfl, rfl, rfl, rfl, rfl, trivial⟩
     rotate_right
     focus
      refine AtT.zu (zT _) ?_
      intro q89 V89 hV89 hq89
      (try replace hs1:=hs1.le hV89);(try replace hu41:=hu41.le hV89);(try replace s87:=s87.le hV89);(try replace s91:=s91.le hV89);(try replace s93:=s93.le hV89)
      have s89 : SlI V89 _ [1] := Sl.lit hq89 rfl (by decide)
      refine AtT.zq rfl rfl qy (qz _ _) ?_
      rintro _ rfl
      refine AtT.zq rfl rfl qy (qz _ _) ?_
      rintro _ rfl
      refine AtT.zq rfl rfl qy (qz _ _) ?_
      rintro _ rfl
      refine AtT.zq rfl rfl qy (qz _ _) ?_
      rintro _ rfl
      exact AtT.subK (key (q87, q89, q91, q93) _ ⟨hs1, hu41, s87, s89, s91, s93⟩) ⟨rfl, rfl, rfl, rfl, rfl, rfl, rfl, rfl, rfl, rfl, rfl, trivial⟩
    rotate_right
    focus
     refine AtT.zu (zT _) ?_
     intro q89 V89 hV89 hq89
     (try replace hs1:=hs1.le hV89);(try replace hu41:=hu41.le hV89);(try replace s87:=s87.le hV89);(try replace s91:=s91.le hV89);(try replace s93:=s93.le hV89)
     have s89 : SlI V89 _ [1] := Sl.lit hq89 rfl (by decide)
     refine AtT.two ?_ ?_
     focus
      refine AtT.zq rfl rfl qy (qz _ _) ?_
      rintro _ rfl
      refine AtT.two ?_ ?_
      focus
       refine AtT.zq rfl rfl qy (qz _ _) ?_
       rintro _ rfl
       refine AtT.two ?_ ?_
       focus
        refine AtT.zq rfl rfl qy (qz _ _) ?_
        rintro _ rfl
        refine AtT.zu (zT _) ?_
        intro q93 V93 hV93 hq93
        (try replace hs1:=hs1.le hV93);(try replace hu41:=hu41.le hV93);(try replace s87:=s87.le hV93);(try replace s89:=s89.le hV93);(try replace s91:=s91.le hV93)
        have s93 : SlI V93 _ [3] := Sl.lit hq93 rfl (by decide)
        refine AtT.zq rfl rfl qy (qz _ _) ?_
        rintro _ rfl
        exact AtT.subK (key (q87, q89, q91, q93) _ ⟨hs1, hu41, s87, s89, s91, s93⟩) ⟨rfl, rfl, rfl, rfl, rfl, rfl, rfl, rfl, rfl, rfl, rfl, trivial⟩
       rotate_right
       focus
        refine AtT.zu (zT _) ?_
        intro q93 V93 hV93 hq93
        (try replace hs1:=hs1.le hV93);(try replace hu41:=hu41.le hV93);(try replace s87:=s87.le hV93);(try replace s89:=s89.le hV93);(try replace s91:=s91.le hV93)
        have s93 : SlI V93 _ [3] := Sl.lit hq93 rfl (by decide)
        refine AtT.zq rfl rfl qy (qz _ _) ?_
        rintro _ rfl
        refine AtT.zq rfl rfl qy (qz _ _) ?_
        rintro _ rfl
        exact AtT.subK (key (q87, q89, q91, q93) _ ⟨hs1, hu41, s87, s89, s91, s93⟩) ⟨rfl, rfl, rfl, rfl, rfl, rfl, rfl, rfl, rfl, rfl, rfl, trivial⟩
      rotate_right
      focus
       refine AtT.zu (zT _) ?_
       intro q93 V93 hV93 hq93
       (try replace hs1:=hs1.le hV93);(try replace hu41:=hu41.le hV93);(try replace s87:=s87.le hV93);(try replace s89:=s89.le hV93);(try replace s91:=s91.le hV93)
       have s93 : SlI V93 _ [3] := Sl.lit hq93 rfl (by decide)
       refine AtT.zq rfl rfl qy (qz _ _) ?_
       rintro _ rfl
       refine AtT.zq rfl rfl qy (qz _ _) ?_
       rintro _ rfl
       refine AtT.zq rfl rfl qy (qz _ _) ?_
       rintro _ rfl
       exact AtT.subK (key (q87, q89, q91, q93) _ ⟨hs1, hu41, s87, s89, s91, s93⟩) ⟨rfl, rfl, rfl, rfl, rfl, rfl, rfl, rfl, rfl, rfl, rfl, trivial⟩
     rotate_right
     focus
      refine AtT.zu (zT _) ?_
      intro q93 V93 hV93 hq93
      (try replace hs1:=hs1.le hV93);(try replace hu41:=hu41.le hV93);(try replace s87:=s87.le hV93);(try replace s89:=s89.le hV93);(try replace s91:=s91.le hV93)
      have s93 : SlI V93 _ [3] := Sl.lit hq93 rfl (by decide)
      refine AtT.zq rfl rfl qy (qz _ _) ?_
      rintro _ rfl
      refine AtT.zq rfl rfl qy (qz _ _) ?_
      rintro _ rfl
      refine AtT.zq rfl rfl qy (qz _ _) ?_
      rintro _ rfl
      refine AtT.zq rfl rfl qy (qz _ _) ?_
      rintro _ rfl
      exact AtT.subK (key (q87, q89, q91, q93) _ ⟨hs1, hu41, s87, s89, s91, s93⟩) ⟨rfl, rfl, rfl, rfl, rfl, rfl, rfl, rfl, rfl, rfl, rfl, trivial⟩
    rotate_right
    focus
     refine AtT.zq rfl rfl qy (qz _ _) ?_
     rintro _ rfl
     refine AtT.two ?_ ?_
     focus
      refine AtT.zu (zT _) ?_
      intro q89 V89 hV89 hq89
      (try replace hs1:=hs1.le hV89);(try replace hu41:=hu41.le hV89);(try replace s87:=s87.le hV89);(try replace s91:=s91.le hV89);(try replace s93:=s93.le hV89)
      have s89 : SlI V89 _ [1] := Sl.lit hq89 rfl (by decide)
      refine AtT.two ?_ ?_
      focus
       refine AtT.zq rfl rfl qy (qz _ _) ?_
       rintro _ rfl
       refine AtT.two ?_ ?_
       focus
        refine AtT.zq rfl rfl qy (qz _ _) ?_
        rintro _ rfl
        refine AtT.zu (zT _) ?_
        intro q93 V93 hV93 hq93
        (try replace hs1:=hs1.le hV93);(try replace hu41:=hu41.le hV93);(try replace s87:=s87.le hV93);(try replace s89:=s89.le hV93);(try replace s91:=s91.le hV93)
        have s93 : SlI V93 _ [3] := Sl.lit hq93 rfl (by decide)
        refine AtT.zq rfl rfl qy (qz _ _) ?_
        rintro _ rfl
        exact AtT.subK (key (q87, q89, q91, q93) _ ⟨hs1, hu41, s87, s89, s91, s93⟩) ⟨rfl, rfl, rfl, rfl, rfl, rfl, rfl, rfl, rfl, rfl, rfl, trivial⟩
       rotate_right
       focus
        refine AtT.zu (zT _) ?_
        intro q93 V93 hV93 hq93
        (try replace hs1:=hs1.le hV93);(try replace hu41:=hu41.le hV93);(try replace s87:=s87.le hV93);(try replace s89:=s89.le hV93);(try replace s91:=s91.le hV93)
        have s93 : SlI V93 _ [3] := Sl.lit hq93 rfl (by decide)
        refine AtT.zq rfl rfl qy (qz _ _) ?_
        rintro _ rfl
        refine AtT.zq rfl rfl qy (qz _ _) ?_
        rintro _ rfl
        exact AtT.subK (key (q87, q89, q91, q93) _ ⟨hs1, hu41, s87, s89, s91, s93⟩) ⟨rfl, rfl, rfl, rfl, rfl, rfl, rfl, rfl, rfl, rfl, rfl, trivial⟩
      rotate_right
      focus
       refine AtT.zu (zT _) ?_
       intro q93 V93 hV93 hq93
       (try replace hs1:=hs1.le hV93);(try replace hu41:=hu41.le hV93);(try replace s87:=s87.le hV93);(try replace s89:=s89.le hV93);(try replace s91:=s91.le hV93)
       have s93 : SlI V93 _ [3] := Sl.lit hq93 rfl (by decide)
       refine AtT.zq rfl rfl qy (qz _ _) ?_
       rintro _ rfl
       refine AtT.zq rfl rfl qy (qz _ _) ?_
       rintro _ rfl
       refine AtT.zq rfl rfl qy (qz _ _) ?_
       rintro _ rfl
       exact AtT.subK (key (q87, q89, q91, q93) _ ⟨hs1, hu41, s87, s89, s91, s93⟩) ⟨rfl, rfl, rfl, rfl, rfl, rfl, rfl, rfl, rfl, rfl, rfl, trivial⟩
     rotate_right
     focus
      refine AtT.zu (zT _) ?_
      intro q93 V93 hV93 hq93
      (try replace hs1:=hs1.le hV93);(try replace hu41:=hu41.le hV93);(try replace s87:=s87.le hV93);(try replace s89:=s89.le hV93);(try replace s91:=s91.le hV93)
      have s93 : SlI V93 _ [3] := Sl.lit hq93 rfl (by decide)
      refine AtT.zu (zT _) ?_
      intro q89 V89 hV89 hq89
      (try replace hs1:=hs1.le hV89);(try replace hu41:=hu41.le hV89);(try replace s87:=s87.le hV89);(try replace s91:=s91.le hV89);(try replace s93:=s93.le hV89)
      have s89 : SlI V89 _ [1] := Sl.lit hq89 rfl (by decide)
      refine AtT.zq rfl rfl qy (qz _ _) ?_
      rintro _ rfl
      refine AtT.zq rfl rfl qy (qz _ _) ?_
      rintro _ rfl
      refine AtT.zq rfl rfl qy (qz _ _) ?_
      rintro _ rfl
      exact AtT.subK (key (q87, q89, q91, q93) _ ⟨hs1, hu41, s87, s89, s91, s93⟩) ⟨rfl, rfl, rfl, rfl, rfl, rfl, rfl, rfl, rfl, rfl, rfl, trivial⟩
  rotate_right
  focus
   refine AtT.zu (zT _) ?_
   intro q89 V89 hV89 hq89
   (try replace hs1:=hs1.le hV89);(try replace hu41:=hu41.le hV89);(try replace s87:=s87.le hV89);(try replace s91:=s91.le hV89);(try replace s93:=s93.le hV89)
   have s89 : SlI V89 _ [1] := Sl.lit hq89 rfl (by decide)
   refine AtT.br (fun i hi => ?_)
   simp only [List.mem_cons, List.not_mem_nil, or_false] at hi
   rcases hi with rfl | rfl | rfl
   rotate_right
   focus
    refine AtT.zu (zT _) ?_
    intro q93 V93 hV93 hq93
    (try replace hs1:=hs1.le hV93);(try replace hu41:=hu41.le hV93);(try replace s87:=s87.le hV93);(try replace s89:=s89.le hV93);(try replace s91:=s91.le hV93)
    have s93 : SlI V93 _ [3] := Sl.lit hq93 rfl (by decide)
    refine AtT.two ?_ ?_
    focus
     refine AtT.zu (zT _) ?_
     intro q87 V87 hV87 hq87
     (try replace hs1:=hs1.le hV87);(try replace hu41:=hu41.le hV87);(try replace s89:=s89.le hV87);(try replace s91:=s91.le hV87);(try replace s93:=s93.le hV87)
     have s87 : SlI V87 _ [0] := Sl.lit hq87 rfl (by decide)
     refine AtT.two ?_ ?_
     focus
      refine AtT.zq rfl rfl qy (qz _ _) ?_
      rintro _ rfl
      refine AtT.two ?_ ?_
      focus
       refine AtT.zq rfl rfl qy (qz _ _) ?_
       rintro _ rfl
       refine AtT.zu (zT _) ?_
       intro q91 V91 hV91 hq91
       (try replace hs1:=hs1.le hV91);(try replace hu41:=hu41.le hV91);(try replace s87:=s87.le hV91);(try replace s89:=s89.le hV91);(try replace s93:=s93.le hV91)
       have s91 : SlI V91 _ [2] := Sl.lit hq91 rfl (by decide)
       refine AtT.zq rfl rfl qy (qz _ _) ?_
       rintro _ rfl
       refine AtT.zq rfl rfl qy (qz _ _) ?_
       rintro _ rfl
       exact AtT.subK (key (q87, q89, q91, q93) _ ⟨hs1, hu41, s87, s89, s91, s93⟩) ⟨rfl, rfl, rfl, rfl, rfl, rfl, rfl, rfl, rfl, rfl, rfl, trivial⟩
      rotate_right
      focus
       refine AtT.zu (zT _) ?_
       intro q91 V91 hV91 hq91
       (try replace hs1:=hs1.le hV91);(try replace hu41:=hu41.le hV91);(try replace s87:=s87.le hV91);(try replace s89:=s89.le hV91);(try replace s93:=s93.le hV91)
       have s91 : SlI V91 _ [2] := Sl.lit hq91 rfl (by decide)
       refine AtT.zq rfl rfl qy (qz _ _) ?_
       rintro _ rfl
       refine AtT.zq rfl rfl qy (qz _ _) ?_
       rintro _ rfl
       refine AtT.zq rfl rfl qy (qz _ _) ?_
       rintro _ rfl
       exact AtT.subK (key (q87, q89, q91, q93) _ ⟨hs1, hu41, s87, s89, s91, s93⟩) ⟨rfl, rfl, rfl, rfl, rfl, rfl, rfl, rfl, rfl, rfl, rfl, trivial⟩
     rotate_right
     focus
      refine AtT.zu (zT _) ?_
      intro q91 V91 hV91 hq91
      (try replace hs1:=hs1.le hV91);(try replace hu41:=hu41.le hV91);(try replace s87:=s87.le hV91);(try replace s89:=s89.le hV91);(try replace s93:=s93.le hV91)
      have s91 : SlI V91 _ [2] := Sl.lit hq91 rfl (by decide)
      refine AtT.zq rfl rfl qy (qz _ _) ?_
      rintro _ rfl
      refine AtT.zq rfl rfl qy (qz _ _) ?_
      rintro _ rfl
      refine AtT.zq rfl rfl qy (qz _ _) ?_
      rintro _ rfl
      refine AtT.zq rfl rfl qy (qz _ _) ?_
      rintro _ rfl
      exact AtT.subK (key (q87, q89, q91, q93) _ ⟨hs1, hu41, s87, s89, s91, s93⟩) ⟨rfl, rfl, rfl, rfl, rfl, rfl, rfl, rfl, rfl, rfl, rfl, trivial⟩
    rotate_right
    focus
     refine AtT.zu (zT _) ?_
     intro q91 V91 hV91 hq91
     (try replace hs1:=hs1.le hV91);(try replace hu41:=hu41.le hV91);(try replace s87:=s87.le hV91);(try replace s89:=s89.le hV91);(try replace s93:=s93.le hV91)
     have s91 : SlI V91 _ [2] := Sl.lit hq91 rfl (by decide)
     refine AtT.zu (zT _) ?_
     intro q87 V87 hV87 hq87
     (try replace hs1:=hs1.le hV87);(try replace hu41:=hu41.le hV87);(try replace s89:=s89.le hV87);(try replace s91:=s91.le hV87);(try replace s93:=s93.le hV87)
     have s87 : SlI V87 _ [0] := Sl.lit hq87 rfl (by decide)
     refine AtT.zq rfl rfl qy (qz _ _) ?_
     rintro _ rfl
     refine AtT.zq rfl rfl qy (qz _ _) ?_
     rintro _ rfl
     refine AtT.zq rfl rfl qy (qz _ _) ?_
     rintro _ rfl
     refine AtT.zq rfl rfl qy (qz _ _) ?_
     rintro _ rfl
     exact AtT.subK (key (q87, q89, q91, q93) _ ⟨hs1, hu41, s87, s89, s91, s93⟩) ⟨rfl, rfl, rfl, rfl, rfl, rfl, rfl, rfl, rfl, rfl, rfl, trivial⟩
   rotate_right
   focus
    refine AtT.zu (zT _) ?_
    intro q91 V91 hV91 hq91
    (try replace hs1:=hs1.le hV91);(try replace hu41:=hu41.le hV91);(try replace s87:=s87.le hV91);(try replace s89:=s89.le hV91);(try replace s93:=s93.le hV91)
    have s91 : SlI V91 _ [2] := Sl.lit hq91 rfl (by decide)
    refine AtT.two ?_ ?_
    focus
     refine AtT.zu (zT _) ?_
     intro q87 V87 hV87 hq87
     (try replace hs1:=hs1.le hV87);(try replace hu41:=hu41.le hV87);(try replace s89:=s89.le hV87);(try replace s91:=s91.le hV87);(try replace s93:=s93.le hV87)
     have s87 : SlI V87 _ [0] := Sl.lit hq87 rfl (by decide)
     refine AtT.two ?_ ?_
     focus
      refine AtT.zq rfl rfl qy (qz _ _) ?_
      rintro _ rfl
      refine AtT.two ?_ ?_
      focus
       refine AtT.zq rfl rfl qy (qz _ _) ?_
       rintro _ rfl
       refine AtT.two ?_ ?_
       focus
        refine AtT.zq rfl rfl qy (qz _ _) ?_
        rintro _ rfl
        refine AtT.zu (zT _) ?_
        intro q93 V93 hV93 hq93
        (try replace hs1:=hs1.le hV93);(try replace hu41:=hu41.le hV93);(try replace s87:=s87.le hV93);(try replace s89:=s89.le hV93);(try replace s91:=s91.le hV93)
        have s93 : SlI V93 _ [3] := Sl.lit hq93 rfl (by decide)
        refine AtT.zq rfl rfl qy (qz _ _) ?_
        rintro _ rfl
        exact AtT.subK (key (q87, q89, q91, q93) _ ⟨hs1, hu41, s87, s89, s91, s93⟩) ⟨rfl, rfl, rfl, rfl, rfl, rfl, rfl, rfl, rfl, rfl, rfl, trivial⟩
       rotate_right
       focus
        refine AtT.zu (zT _) ?_
        intro q93 V93 hV93 hq93
        (try replace hs1:=hs1.le hV93);(try replace hu41:=hu41.le hV93);(try replace s87:=s87.le hV93);(try replace s89:=s89.le hV93);(try replace s91:=s91.le hV93)
        have s93 : SlI V93 _ [3] := Sl.lit hq93 rfl (by decide)
        refine AtT.zq rfl rfl qy (qz _ _) ?_
        rintro _ rfl
        refine AtT.zq rfl rfl qy (qz _ _) ?_
        rintro _ rfl
        exact AtT.subK (key (q87, q89, q91, q93) _ ⟨hs1, hu41, s87, s89, s91, s93⟩) ⟨rfl, rfl, rfl, rfl, rfl, rfl, rfl, rfl, rfl, rfl, rfl, trivial⟩
      rotate_right
      focus
       refine AtT.zu (zT _) ?_
       intro q93 V93 hV93 hq93
       (try replace hs1:=hs1.le hV93);(try replace hu41:=hu41.le hV93);(try replace s87:=s87.le hV93);(try replace s89:=s89.le hV93);(try replace s91:=s91.le hV93)
       have s93 : SlI V93 _ [3] := Sl.lit hq93 rfl (by decide)
       refine AtT.zq rfl rfl qy (qz _ _) ?_
       rintro _ rfl
       refine AtT.zq rfl rfl qy (qz _ _) ?_
       rintro _ rfl
       refine AtT.zq rfl rfl qy (qz _ _) ?_
       rintro _ rfl
       exact AtT.subK (key (q87, q89, q91, q93) _ ⟨hs1, hu41, s87, s89, s91, s93⟩) ⟨rfl, rfl, rfl, rfl, rfl, rfl, rfl, rfl, rfl, rfl, rfl, trivial⟩
     rotate_right
     focus
      refine AtT.zu (zT _) ?_
      intro q93 V93 hV93 hq93
      (try replace hs1:=hs1.le hV93);(try replace hu41:=hu41.le hV93);(try replace s87:=s87.le hV93);(try replace s89:=s89.le hV93);(try replace s91:=s91.le hV93)
      have s93 : SlI V93 _ [3] := Sl.lit hq93 rfl (by decide)
      refine AtT.zq rfl rfl qy (qz _ _) ?_
      rintro _ rfl
      refine AtT.zq rfl rfl qy (qz _ _) ?_
      rintro _ rfl
      refine AtT.zq rfl rfl qy (qz _ _) ?_
      rintro _ rfl
      refine AtT.zq rfl rfl qy (qz _ _) ?_
      rintro _ rfl
      exact AtT.subK (key (q87, q89, q91, q93) _ ⟨hs1, hu41, s87, s89, s91, s93⟩) ⟨rfl, rfl, rfl, rfl, rfl, rfl, rfl, rfl, rfl, rfl, rfl, trivial⟩
    rotate_right
    focus
     refine AtT.zu (zT _) ?_
     intro q93 V93 hV93 hq93
     (try replace hs1:=hs1.le hV93);(try replace hu41:=hu41.le hV93);(try replace s87:=s87.le hV93);(try replace s89:=s89.le hV93);(try replace s91:=s91.le hV93)
     have s93 : SlI V93 _ [3] := Sl.lit hq93 rfl (by decide)
     refine AtT.zu (zT _) ?_
     intro q87 V87 hV87 hq87
     (try replace hs1:=hs1.le hV87);(try replace hu41:=hu41.le hV87);(try replace s89:=s89.le hV87);(try replace s91:=s91.le hV87);(try replace s93:=s93.le hV87)
     have s87 : SlI V87 _ [0] := Sl.lit hq87 rfl (by decide)
     refine AtT.zq rfl rfl qy (qz _ _) ?_
     rintro _ rfl
     refine AtT.zq rfl rfl qy (qz _ _) ?_
     rintro _ rfl
     refine AtT.zq rfl rfl qy (qz _ _) ?_
     rintro _ rfl
     refine AtT.zq rfl rfl qy (qz _ _) ?_
     rintro _ rfl
     exact AtT.subK (key (q87, q89, q91, q93) _ ⟨hs1, hu41, s87, s89, s91, s93⟩) ⟨rfl, rfl, rfl, rfl, rfl, rfl, rfl, rfl, rfl, rfl, rfl, trivial⟩
   rotate_right
   focus
    refine AtT.zu (zT _) ?_
    intro q87 V87 hV87 hq87
    (try replace hs1:=hs1.le hV87);(try replace hu41:=hu41.le hV87);(try replace s89:=s89.le hV87);(try replace s91:=s91.le hV87);(try replace s93:=s93.le hV87)
    have s87 : SlI V87 _ [0] := Sl.lit hq87 rfl (by decide)
    refine AtT.br (fun i hi => ?_)
    simp only [List.mem_cons, List.not_mem_nil, or_false] at hi
    rcases hi with rfl | rfl | rfl
    rotate_right
    focus
     refine AtT.zu (zT _) ?_
     intro q93 V93 hV93 hq93
     (try replace hs1:=hs1.le hV93);(try replace hu41:=hu41.le hV93);(try replace s87:=s87.le hV93);(try replace s89:=s89.le hV93);(try replace s91:=s91.le hV93)
     have s93 : SlI V93 _ [3] := Sl.lit hq93 rfl (by decide)
     refine AtT.two ?_ ?_
     focus
      refine AtT.zq rfl rfl qy (qz _ _) ?_
      rintro _ rfl
      refine AtT.two ?_ ?_
      focus
       refine AtT.zq rfl rfl qy (qz _ _) ?_
       rintro _ rfl
       refine AtT.zu (zT _) ?_
       intro q91 V91 hV91 hq91
       (try replace hs1:=hs1.le hV91);(try replace hu41:=hu41.le hV91);(try replace s87:=s87.le hV91);(try replace s89:=s89.le hV91);(try replace s93:=s93.le hV91)
       have s91 : SlI V91 _ [2] := Sl.lit hq91 rfl (by decide)
       refine AtT.zq rfl rfl qy (qz _ _) ?_
       rintro _ rfl
       refine AtT.zq rfl rfl qy (qz _ _) ?_
       rintro _ rfl
       exact AtT.subK (key (q87, q89, q91, q93) _ ⟨hs1, hu41, s87, s89, s91, s93⟩) ⟨rfl, rfl, rfl, rfl, rfl, rfl, rfl, rfl, rfl, rfl, rfl, trivial⟩
      rotate_right
      focus
       refine AtT.zu (zT _) ?_
       intro q91 V91 hV91 hq91
       (try replace hs1:=hs1.le hV91);(try replace hu41:=hu41.le hV91);(try replace s87:=s87.le hV91);(try replace s89:=s89.le hV91);(try replace s93:=s93.le hV91)
       have s91 : SlI V91 _ [2] := Sl.lit hq91 rfl (by decide)
       refine AtT.zq rfl rfl qy (qz _ _) ?_
       rintro _ rfl
       refine AtT.zq rfl rfl qy (qz _ _) ?_
       rintro _ rfl
       refine AtT.zq rfl rfl qy (qz _ _) ?_
       rintro _ rfl
       exact AtT.subK (key (q87, q89, q91, q93) _ ⟨hs1, hu41, s87, s89, s91, s93⟩) ⟨rfl, rfl, rfl, rfl, rfl, rfl, rfl, rfl, rfl, rfl, rfl, trivial⟩
     rotate_right
     focus
      refine AtT.zu (zT _) ?_
      intro q91 V91 hV91 hq91
      (try replace hs1:=hs1.le hV91);(try replace hu41:=hu41.le hV91);(try replace s87:=s87.le hV91);(try replace s89:=s89.le hV91);(try replace s93:=s93.le hV91)
      have s91 : SlI V91 _ [2] := Sl.lit hq91 rfl (by decide)
      refine AtT.zq rfl rfl qy (qz _ _) ?_
      rintro _ rfl
      refine AtT.zq rfl rfl qy (qz _ _) ?_
      rintro _ rfl
      refine AtT.zq rfl rfl qy (qz _ _) ?_
      rintro _ rfl
      refine AtT.zq rfl rfl qy (qz _ _) ?_
      rintro _ rfl
      exact AtT.subK (key (q87, q89, q91, q93) _ ⟨hs1, hu41, s87, s89, s91, s93⟩) ⟨rfl, rfl, rfl, rfl, rfl, rfl, rfl, rfl, rfl, rfl, rfl, trivial⟩
    rotate_right
    focus
     refine AtT.zu (zT _) ?_
     intro q91 V91 hV91 hq91
     (try replace hs1:=hs1.le hV91);(try replace hu41:=hu41.le hV91);(try replace s87:=s87.le hV91);(try replace s89:=s89.le hV91);(try replace s93:=s93.le hV91)
     have s91 : SlI V91 _ [2] := Sl.lit hq91 rfl (by decide)
     refine AtT.two ?_ ?_
     focus
      refine AtT.zq rfl rfl qy (qz _ _) ?_
      rintro _ rfl
      refine AtT.two ?_ ?_
      focus
       refine AtT.zq rfl rfl qy (qz _ _) ?_
       rintro _ rfl
       refine AtT.two ?_ ?_
       focus
        refine AtT.zq rfl rfl qy (qz _ _) ?_
        rintro _ rfl
        refine AtT.zu (zT _) ?_
        intro q93 V93 hV93 hq93
        (try replace hs1:=hs1.le hV93);(try replace hu41:=hu41.le hV93);(try replace s87:=s87.le hV93);(try replace s89:=s89.le hV93);(try replace s91:=s91.le hV93)
        have s93 : SlI V93 _ [3] := Sl.lit hq93 rfl (by decide)
        refine AtT.zq rfl rfl qy (qz _ _) ?_
        rintro _ rfl
        exact AtT.subK (key (q87, q89, q91, q93) _ ⟨hs1, hu41, s87, s89, s91, s93⟩) ⟨rfl, rfl, rfl, rfl, rfl, rfl, rfl, rfl, rfl, rfl, rfl, trivial⟩
       rotate_right
       focus
        refine AtT.zu (zT _) ?_
        intro q93 V93 hV93 hq93
        (try replace hs1:=hs1.le hV93);(try replace hu41:=hu41.le hV93);(try replace s87:=s87.le hV93);(try replace s89:=s89.le hV93);(try replace s91:=s91.le hV93)
        have s93 : SlI V93 _ [3] := Sl.lit hq93 rfl (by decide)
        refine AtT.zq rfl rfl qy (qz _ _) ?_
        rintro _ rfl
        refine AtT.zq rfl rfl qy (qz _ _) ?_
        rintro _ rfl
        exact AtT.subK (key (q87, q89, q91, q93) _ ⟨hs1, hu41, s87, s89, s91, s93⟩) ⟨rfl, rfl, rfl, rfl, rfl, rfl, rfl, rfl, rfl, rfl, rfl, trivial⟩
      rotate_right
      focus
       refine AtT.zu (zT _) ?_
       intro q93 V93 hV93 hq93
       (try replace hs1:=hs1.le hV93);(try replace hu41:=hu41.le hV93);(try replace s87:=s87.le hV93);(try replace s89:=s89.le hV93);(try replace s91:=s91.le hV93)
       have s93 : SlI V93 _ [3] := Sl.lit hq93 rfl (by decide)
       refine AtT.zq rfl rfl qy (qz _ _) ?_
       rintro _ rfl
       refine AtT.zq rfl rfl qy (qz _ _) ?_
       rintro _ rfl
       refine AtT.zq rfl rfl qy (qz _ _) ?_
       rintro _ rfl
       exact AtT.subK (key (q87, q89, q91, q93) _ ⟨hs1, hu41, s87, s89, s91, s93⟩) ⟨rfl, rfl, rfl, rfl, rfl, rfl, rfl, rfl, rfl, rfl, rfl, trivial⟩
     rotate_right
     focus
      refine AtT.zu (zT _) ?_
      intro q93 V93 hV93 hq93
      (try replace hs1:=hs1.le hV93);(try replace hu41:=hu41.le hV93);(try replace s87:=s87.le hV93);(try replace s89:=s89.le hV93);(try replace s91:=s91.le hV93)
      have s93 : SlI V93 _ [3] := Sl.lit hq93 rfl (by decide)
      refine AtT.zq rfl rfl qy (qz _ _) ?_
      rintro _ rfl
      refine AtT.zq rfl rfl qy (qz _ _) ?_
      rintro _ rfl
      refine AtT.zq rfl rfl qy (qz _ _) ?_
      rintro _ rfl
      refine AtT.zq rfl rfl qy (qz _ _) ?_
      rintro _ rfl
      exact AtT.subK (key (q87, q89, q91, q93) _ ⟨hs1, hu41, s87, s89, s91, s93⟩) ⟨rfl, rfl, rfl, rfl, rfl, rfl, rfl, rfl, rfl, rfl, rfl, trivial⟩
    rotate_right
    focus
     refine AtT.zq rfl rfl qy (qz _ _) ?_
     rintro _ rfl
     refine AtT.br (fun i hi => ?_)
     simp only [List.mem_cons, List.not_mem_nil, or_false] at hi
     rcases hi with rfl | rfl | rfl
     rotate_right
     focus
      refine AtT.zu (zT _) ?_
      intro q93 V93 hV93 hq93
      (try replace hs1:=hs1.le hV93);(try replace hu41:=hu41.le hV93);(try replace s87:=s87.le hV93);(try replace s89:=s89.le hV93);(try replace s91:=s91.le hV93)
      have s93 : SlI V93 _ [3] := Sl.lit hq93 rfl (by decide)
      refine AtT.two ?_ ?_
      focus
       refine AtT.zq rfl rfl qy (qz _ _) ?_
       rintro _ rfl
       refine AtT.zu (zT _) ?_
       intro q91 V91 hV91 hq91
       (try replace hs1:=hs1.le hV91);(try replace hu41:=hu41.le hV91);(try replace s87:=s87.le hV91);(try replace s89:=s89.le hV91);(try replace s93:=s93.le hV91)
       have s91 : SlI V91 _ [2] := Sl.lit hq91 rfl (by decide)
       refine AtT.zq rfl rfl qy (qz _ _) ?_
       rintro _ rfl
       refine AtT.zq rfl rfl qy (qz _ _) ?_
       rintro _ rfl
       exact AtT.subK (key (q87, q89, q91, q93) _ ⟨hs1, hu41, s87, s89, s91, s93⟩) ⟨rfl, rfl, rfl, rfl, rfl, rfl, rfl, rfl, rfl, rfl, rfl, trivial⟩
      rotate_right
      focus
       refine AtT.zu (zT _) ?_
       intro q91 V91 hV91 hq91
       (try replace hs1:=hs1.le hV91);(try replace hu41:=hu41.le hV91);(try replace s87:=s87.le hV91);(try replace s89:=s89.le hV91);(try replace s93:=s93.le hV91)
       have s91 : SlI V91 _ [2] := Sl.lit hq91 rfl (by decide)
       refine AtT.zq rfl rfl qy (qz _ _) ?_
       rintro _ rfl
       refine AtT.zq rfl rfl qy (qz _ _) ?_
       rintro _ rfl
       refine AtT.zq rfl rfl qy (qz _ _) ?_
       rintro _ rfl
       exact AtT.subK (key (q87, q89, q91, q93) _ ⟨hs1, hu41, s87, s89, s91, s93⟩) ⟨rfl, rfl, rfl, rfl, rfl, rfl, rfl, rfl, rfl, rfl, rfl, trivial⟩
     rotate_right
     focus
      refine AtT.zu (zT _) ?_
      intro q91 V91 hV91 hq91
      (try replace hs1:=hs1.le hV91);(try replace hu41:=hu41.le hV91);(try replace s87:=s87.le hV91);(try replace s89:=s89.le hV91);(try replace s93:=s93.le hV91)
      have s91 : SlI V91 _ [2] := Sl.lit hq91 rfl (by decide)
      refine AtT.two ?_ ?_
      focus
       refine AtT.zq rfl rfl qy (qz _ _) ?_
       rintro _ rfl
       refine AtT.two ?_ ?_
       focus
        refine AtT.zq rfl rfl qy (qz _ _) ?_
        rintro _ rfl
        refine AtT.zu (zT _) ?_
        intro q93 V93 hV93 hq93
        (try replace hs1:=hs1.le hV93);(try replace hu41:=hu41.le hV93);(try replace s87:=s87.le hV93);(try replace s89:=s89.le hV93);(try replace s91:=s91.le hV93)
        have s93 : SlI V93 _ [3] := Sl.lit hq93 rfl (by decide)
        refine AtT.zq rfl rfl qy (qz _ _) ?_
        rintro _ rfl
        exact AtT.subK (key (q87, q89, q91, q93) _ ⟨hs1, hu41, s87, s89, s91, s93⟩) ⟨rfl, rfl, rfl, rfl, rfl, rfl, rfl, rfl, rfl, rfl, rfl, trivial⟩
       rotate_right
       focus
        refine AtT.zu (zT _) ?_
        intro q93 V93 hV93 hq93
        (try replace hs1:=hs1.le hV93);(try replace hu41:=hu41.le hV93);(try replace s87:=s87.le hV93);(try replace s89:=s89.le hV93);(try replace s91:=s91.le hV93)
        have s93 : SlI V93 _ [3] := Sl.lit hq93 rfl (by decide)
        refine AtT.zq rfl rfl qy (qz _ _) ?_
        rintro _ rfl
        refine AtT.zq rfl rfl qy (qz _ _) ?_
        rintro _ rfl
        exact AtT.subK (key (q87, q89, q91, q93) _ ⟨hs1, hu41, s87, s89, s91, s93⟩) ⟨rfl, rfl, rfl, rfl, rfl, rfl, rfl, rfl, rfl, rfl, rfl, trivial⟩
      rotate_right
      focus
       refine AtT.zu (zT _) ?_
       intro q93 V93 hV93 hq93
       (try replace hs1:=hs1.le hV93);(try replace hu41:=hu41.le hV93);(try replace s87:=s87.le hV93);(try replace s89:=s89.le hV93);(try replace s91:=s91.le hV93)
       have s93 : SlI V93 _ [3] := Sl.lit hq93 rfl (by decide)
       refine AtT.zq rfl rfl qy (qz _ _) ?_
       rintro _ rfl
       refine AtT.zq rfl rfl qy (qz _ _) ?_
       rintro _ rfl
       refine AtT.zq rfl rfl qy (qz _ _) ?_
       rintro _ rfl
       exact AtT.subK (key (q87, q89, q91, q93) _ ⟨hs1, hu41, s87, s89, s91, s93⟩) ⟨rfl, rfl, rfl, rfl, rfl, rfl, rfl, rfl, rfl, rfl, rfl, trivial⟩
     rotate_right
     focus
      refine AtT.zq rfl rfl qy (qz _ _) ?_
      rintro _ rfl
      refine AtT.two ?_ ?_
      focus
       refine AtT.zu (zT _) ?_
       intro q91 V91 hV91 hq91
       (try replace hs1:=hs1.le hV91);(try replace hu41:=hu41.le hV91);(try replace s87:=s87.le hV91);(try replace s89:=s89.le hV91);(try replace s93:=s93.le hV91)
       have s91 : SlI V91 _ [2] := Sl.lit hq91 rfl (by decide)
       refine AtT.two ?_ ?_
       focus
        refine AtT.zq rfl rfl qy (qz _ _) ?_
        rintro _ rfl
        refine AtT.zu (zT _) ?_
        intro q93 V93 hV93 hq93
        (try replace hs1:=hs1.le hV93);(try replace hu41:=hu41.le hV93);(try replace s87:=s87.le hV93);(try replace s89:=s89.le hV93);(try replace s91:=s91.le hV93)
        have s93 : SlI V93 _ [3] := Sl.lit hq93 rfl (by decide)
        refine AtT.zq rfl rfl qy (qz _ _) ?_
        rintro _ rfl
        exact AtT.subK (key (q87, q89, q91, q93) _ ⟨hs1, hu41, s87, s89, s91, s93⟩) ⟨rfl, rfl, rfl, rfl, rfl, rfl, rfl, rfl, rfl, rfl, rfl, trivial⟩
       rotate_right
       focus
        refine AtT.zu (zT _) ?_
        intro q93 V93 hV93 hq93
        (try replace hs1:=hs1.le hV93);(try replace hu41:=hu41.le hV93);(try replace s87:=s87.le hV93);(try replace s89:=s89.le hV93);(try replace s91:=s91.le hV93)
        have s93 : SlI V93 _ [3] := Sl.lit hq93 rfl (by decide)
        refine AtT.zq rfl rfl qy (qz _ _) ?_
        rintro _ rfl
        refine AtT.zq rfl rfl qy (qz _ _) ?_
        rintro _ rfl
        exact AtT.subK (key (q87, q89, q91, q93) _ ⟨hs1, hu41, s87, s89, s91, s93⟩) ⟨rfl, rfl, rfl, rfl, rfl, rfl, rfl, rfl, rfl, rfl, rfl, trivial⟩
      rotate_right
      focus
       refine AtT.zu (zT _) ?_
       intro q93 V93 hV93 hq93
       (try replace hs1:=hs1.le hV93);(try replace hu41:=hu41.le hV93);(try replace s87:=s87.le hV93);(try replace s89:=s89.le hV93);(try replace s91:=s91.le hV93)
       have s93 : SlI V93 _ [3] := Sl.lit hq93 rfl (by decide)
       refine AtT.zu (zT _) ?_
       intro q91 V91 hV91 hq91
       (try replace hs1:=hs1.le hV91);(try replace hu41:=hu41.le hV91);(try replace s87:=s87.le hV91);(try replace s89:=s89.le hV91);(try replace s93:=s93.le hV91)
       have s91 : SlI V91 _ [2] := Sl.lit hq91 rfl (by decide)
       refine AtT.zq rfl rfl qy (qz _ _) ?_
       rintro _ rfl
       refine AtT.zq rfl rfl qy (qz _ _) ?_
       rintro _ rfl
       exact AtT.subK (key (q87, q89, q91, q93) _ ⟨hs1, hu41, s87, s89, s91, s93⟩) ⟨rfl, rfl, rfl, rfl, rfl, rfl, rfl, rfl, rfl, rfl, rfl, trivial⟩
  rotate_right
  focus
   refine AtT.zu (zT _) ?_
   intro q87 V87 hV87 hq87
   (try replace hs1:=hs1.le hV87);(try replace hu41:=hu41.le hV87);(try replace s89:=s89.le hV87);(try replace s91:=s91.le hV87);(try replace s93:=s93.le hV87)
   have s87 : SlI V87 _ [0] := Sl.lit hq87 rfl (by decide)
   refine AtT.br (fun i hi => ?_)
   simp only [List.mem_cons, List.not_mem_nil, or_false] at hi
   rcases hi with rfl | rfl | rfl | rfl
   rotate_right
   focus
    refine AtT.zu (zT _) ?_
    intro q93 V93 hV93 hq93
    (try replace hs1:=hs1.le hV93);(try replace hu41:=hu41.le hV93);(try replace s87:=s87.le hV93);(try replace s89:=s89.le hV93);(try replace s91:=s91.le hV93)
    have s93 : SlI V93 _ [3] := Sl.lit hq93 rfl (by decide)
    refine AtT.br (fun i hi => ?_)
    simp only [List.mem_cons, List.not_mem_nil, or_false] at hi
    rcases hi with rfl | rfl | rfl
    rotate_right
    focus
     refine AtT.zu (zT _) ?_
     intro q91 V91 hV91 hq91
     (try replace hs1:=hs1.le hV91);(try replace hu41:=hu41.le hV91);(try replace s87:=s87.le hV91);(try replace s89:=s89.le hV91);(try replace s93:=s93.le hV91)
     have s91 : SlI V91 _ [2] := Sl.lit hq91 rfl (by decide)
     refine AtT.two ?_ ?_
     focus
      refine AtT.zq rfl rfl qy (qz _ _) ?_
      rintro _ rfl
      refine AtT.zu (zT _) ?_
      intro q89 V89 hV89 hq89
      (try replace hs1:=hs1.le hV89);(try replace hu41:=hu41.le hV89);(try replace s87:=s87.le hV89);(try replace s91:=s91.le hV89);(try replace s93:=s93.le hV89)
      have s89 : SlI V89 _ [1] := Sl.lit hq89 rfl (by decide)
      refine AtT.zq rfl rfl qy (qz _ _) ?_
      rintro _ rfl
      refine AtT.zq rfl rfl qy (qz _ _) ?_
      rintro _ rfl
      refine AtT.zq rfl rfl qy (qz _ _) ?_
      rintro _ rfl
      exact AtT.subK (key (q87, q89, q91, q93) _ ⟨hs1, hu41, s87, s89, s91, s93⟩) ⟨rfl, rfl, rfl, rfl, rfl, rfl, rfl, rfl, rfl, rfl, rfl, trivial⟩
     rotate_right
     focus
      refine AtT.zu (zT _) ?_
      intro q89 V89 hV89 hq89
      (try replace hs1:=hs1.le hV89);(try replace hu41:=hu41.le hV89);(try replace s87:=s87.le hV89);(try replace s91:=s91.le hV89);(try replace s93:=s93.le hV89)
      have s89 : SlI V89 _ [1] := Sl.lit hq89 rfl (by decide)
      refine AtT.zq rfl rfl qy (qz _ _) ?_
      rintro _ rfl
      refine AtT.zq rfl rfl qy (qz _ _) ?_
      rintro _ rfl
      refine AtT.zq rfl rfl qy (qz _ _) ?_
      rintro _ rfl
      refine AtT.zq rfl rfl qy (qz _ _) ?_
      rintro _ rfl
      exact AtT.subK (key (q87, q89, q91, q93) _ ⟨hs1, hu41, s87, s89, s91, s93⟩) ⟨rfl, rfl, rfl, rfl, rfl, rfl, rfl, rfl, rfl, rfl, rfl, trivial⟩
    rotate_right
    focus
     refine AtT.zu (zT _) ?_
     intro q89 V89 hV89 hq89
     (try replace hs1:=hs1.le hV89);(try replace hu41:=hu41.le hV89);(try replace s87:=s87.le hV89);(try replace s91:=s91.le hV89);(try replace s93:=s93.le hV89)
     have s89 : SlI V89 _ [1] := Sl.lit hq89 rfl (by decide)
     refine AtT.two ?_ ?_
     focus
      refine AtT.zq rfl rfl qy (qz _ _) ?_
      rintro _ rfl
      refine AtT.two ?_ ?_
      focus
       refine AtT.zq rfl rfl qy (qz _ _) ?_
       rintro _ rfl
       refine AtT.zu (zT _) ?_
       intro q91 V91 hV91 hq91
       (try replace hs1:=hs1.le hV91);(try replace hu41:=hu41.le hV91);(try replace s87:=s87.le hV91);(try replace s89:=s89.le hV91);(try replace s93:=s93.le hV91)
       have s91 : SlI V91 _ [2] := Sl.lit hq91 rfl (by decide)
       refine AtT.zq rfl rfl qy (qz _ _) ?_
       rintro _ rfl
       refine AtT.zq rfl rfl qy (qz _ _) ?_
       rintro _ rfl
       exact AtT.subK (key (q87, q89, q91, q93) _ ⟨hs1, hu41, s87, s89, s91, s93⟩) ⟨rfl, rfl, rfl, rfl, rfl, rfl, rfl, rfl, rfl, rfl, rfl, trivial⟩
      rotate_right
      focus
       refine AtT.zu (zT _) ?_
       intro q91 V91 hV91 hq91
       (try replace hs1:=hs1.le hV91);(try replace hu41:=hu41.le hV91);(try replace s87:=s87.le hV91);(try replace s89:=s89.le hV91);(try replace s93:=s93.le hV91)
       have s91 : SlI V91 _ [2] := Sl.lit hq91 rfl (by decide)
       refine AtT.zq rfl rfl qy (qz _ _) ?_
       rintro _ rfl
       refine AtT.zq rfl rfl qy (qz _ _) ?_
       rintro _ rfl
       refine AtT.zq rfl rfl qy (qz _ _) ?_
       rintro _ rfl
       exact AtT.subK (key (q87, q89, q91, q93) _ ⟨hs1, hu41, s87, s89, s91, s93⟩) ⟨rfl, rfl, rfl, rfl, rfl, rfl, rfl, rfl, rfl, rfl, rfl, trivial⟩
     rotate_right
     focus
      refine AtT.zu (zT _) ?_
      intro q91 V91 hV91 hq91
      (try replace hs1:=hs1.le hV91);(try replace hu41:=hu41.le hV91);(try replace s87:=s87.le hV91);(try replace s89:=s89.le hV91);(try replace s93:=s93.le hV91)
      have s91 : SlI V91 _ [2] := Sl.lit hq91 rfl (by decide)
      refine AtT.zq rfl rfl qy (qz _ _) ?_
      rintro _ rfl
      refine AtT.zq rfl rfl qy (qz _ _) ?_
      rintro _ rfl
      refine AtT.zq rfl rfl qy (qz _ _) ?_
      rintro _ rfl
      refine AtT.zq rfl rfl qy (qz _ _) ?_
      rintro _ rfl
      exact AtT.subK (key (q87, q89, q91, q93) _ ⟨hs1, hu41, s87, s89, s91, s93⟩) ⟨rfl, rfl, rfl, rfl, rfl, rfl, rfl, rfl, rfl, rfl, rfl, trivial⟩
    rotate_right
    focus
     refine AtT.zq rfl rfl qy (qz _ _) ?_
     rintro _ rfl
     refine AtT.two ?_ ?_
     focus
      refine AtT.zu (zT _) ?_
      intro q89 V89 hV89 hq89
      (try replace hs1:=hs1.le hV89);(try replace hu41:=hu41.le hV89);(try replace s87:=s87.le hV89);(try replace s91:=s91.le hV89);(try replace s93:=s93.le hV89)
      have s89 : SlI V89 _ [1] := Sl.lit hq89 rfl (by decide)
      refine AtT.two ?_ ?_
      focus
       refine AtT.zq rfl rfl qy (qz _ _) ?_
       rintro _ rfl
       refine AtT.zu (zT _) ?_
       intro q91 V91 hV91 hq91
       (try replace hs1:=hs1.le hV91);(try replace hu41:=hu41.le hV91);(try replace s87:=s87.le hV91);(try replace s89:=s89.le hV91);(try replace s93:=s93.le hV91)
       have s91 : SlI V91 _ [2] := Sl.lit hq91 rfl (by decide)
       refine AtT.zq rfl rfl qy (qz _ _) ?_
       rintro _ rfl
       refine AtT.zq rfl rfl qy (qz _ _) ?_
       rintro _ rfl
       exact AtT.subK (key (q87, q89, q91, q93) _ ⟨hs1, hu41, s87, s89, s91, s93⟩) ⟨rfl, rfl, rfl, rfl, rfl, rfl, rfl, rfl, rfl, rfl, rfl, trivial⟩
      rotate_right
      focus
       refine AtT.zu (zT _) ?_
       intro q91 V91 hV91 hq91
       (try replace hs1:=hs1.le hV91);(try replace hu41:=hu41.le hV91);(try replace s87:=s87.le hV91);(try replace s89:=s89.le hV91);(try replace s93:=s93.le hV91)
       have s91 : SlI V91 _ [2] := Sl.lit hq91 rfl (by decide)
       refine AtT.zq rfl rfl qy (qz _ _) ?_
       rintro _ rfl
       refine AtT.zq rfl rfl qy (qz _ _) ?_
       rintro _ rfl
       refine AtT.zq rfl rfl qy (qz _ _) ?_
       rintro _ rfl
       exact AtT.subK (key (q87, q89, q91, q93) _ ⟨hs1, hu41, s87, s89, s91, s93⟩) ⟨rfl, rfl, rfl, rfl, rfl, rfl, rfl, rfl, rfl, rfl, rfl, trivial⟩
     rotate_right
     focus
      refine AtT.zu (zT _) ?_
      intro q91 V91 hV91 hq91
      (try replace hs1:=hs1.le hV91);(try replace hu41:=hu41.le hV91);(try replace s87:=s87.le hV91);(try replace s89:=s89.le hV91);(try replace s93:=s93.le hV91)
      have s91 : SlI V91 _ [2] := Sl.lit hq91 rfl (by decide)
      refine AtT.zu (zT _) ?_
      intro q89 V89 hV89 hq89
      (try replace hs1:=hs1.le hV89);(try replace hu41:=hu41.le hV89);(try replace s87:=s87.le hV89);(try replace s91:=s91.le hV89);(try replace s93:=s93.le hV89)
      have s89 : SlI V89 _ [1] := Sl.lit hq89 rfl (by decide)
      refine AtT.zq rfl rfl qy (qz _ _) ?_
      rintro _ rfl
      refine AtT.zq rfl rfl qy (qz _ _) ?_
      rintro _ rfl
      refine AtT.zq rfl rfl qy (qz _ _) ?_
      rintro _ rfl
      exact AtT.subK (key (q87, q89, q91, q93) _ ⟨hs1, hu41, s87, s89, s91, s93⟩) ⟨rfl, rfl, rfl, rfl, rfl, rfl, rfl, rfl, rfl, rfl, rfl, trivial⟩
   rotate_right
   focus
    refine AtT.zu (zT _) ?_
    intro q91 V91 hV91 hq91
    (try replace hs1:=hs1.le hV91);(try replace hu41:=hu41.le hV91);(try replace s87:=s87.le hV91);(try replace s89:=s89.le hV91);(try replace s93:=s93.le hV91)
    have s91 : SlI V91 _ [2] := Sl.lit hq91 rfl (by decide)
    refine AtT.br (fun i hi => ?_)
    simp only [List.mem_cons, List.not_mem_nil, or_false] at hi
    rcases hi with rfl | rfl | rfl
    rotate_right
    focus
     refine AtT.zu (zT _) ?_
     intro q93 V93 hV93 hq93
     (try replace hs1:=hs1.le hV93);(try replace hu41:=hu41.le hV93);(try replace s87:=s87.le hV93);(try replace s89:=s89.le hV93);(try replace s91:=s91.le hV93)
     have s93 : SlI V93 _ [3] := Sl.lit hq93 rfl (by decide)
     refine AtT.two ?_ ?_
     focus
      refine AtT.zq rfl rfl qy (qz _ _) ?_
      rintro _ rfl
      refine AtT.zu (zT _) ?_
      intro q89 V89 hV89 hq89
      (try replace hs1:=hs1.le hV89);(try replace hu41:=hu41.le hV89);(try replace s87:=s87.le hV89);(try replace s91:=s91.le hV89);(try replace s93:=s93.le hV89)
      have s89 : SlI V89 _ [1] := Sl.lit hq89 rfl (by decide)
      refine AtT.zq rfl rfl qy (qz _ _) ?_
      rintro _ rfl
      refine AtT.zq rfl rfl qy (qz _ _) ?_
      rintro _ rfl
      refine AtT.zq rfl rfl qy (qz _ _) ?_
      rintro _ rfl
      exact AtT.subK (key (q87, q89, q91, q93) _ ⟨hs1, hu41, s87, s89, s91, s93⟩) ⟨rfl, rfl, rfl, rfl, rfl, rfl, rfl, rfl, rfl, rfl, rfl, trivial⟩
     rotate_right
     focus
      refine AtT.zu (zT _) ?_
      intro q89 V89 hV89 hq89
      (try replace hs1:=hs1.le hV89);(try replace hu41:=hu41.le hV89);(try replace s87:=s87.le hV89);(try replace s91:=s91.le hV89);(try replace s93:=s93.le hV89)
      have s89 : SlI V89 _ [1] := Sl.lit hq89 rfl (by decide)
      refine AtT.zq rfl rfl qy (qz _ _) ?_
      rintro _ rfl
      refine AtT.zq rfl rfl qy (qz _ _) ?_
      rintro _ rfl
      refine AtT.zq rfl rfl qy (qz _ _) ?_
      rintro _ rfl
      refine AtT.zq rfl rfl qy (qz _ _) ?_
      rintro _ rfl
      exact AtT.subK (key (q87, q89, q91, q93) _ ⟨hs1, hu41, s87, s89, s91, s93⟩) ⟨rfl, rfl, rfl, rfl, rfl, rfl, rfl, rfl, rfl, rfl, rfl, trivial⟩
    rotate_right
    focus
     refine AtT.zu (zT _) ?_
     intro q89 V89 hV89 hq89
     (try replace hs1:=hs1.le hV89);(try replace hu41:=hu41.le hV89);(try replace s87:=s87.le hV89);(try replace s91:=s91.le hV89);(try replace s93:=s93.le hV89)
     have s89 : SlI V89 _ [1] := Sl.lit hq89 rfl (by decide)
     refine AtT.two ?_ ?_
     focus
      refine AtT.zq rfl rfl qy (qz _ _) ?_
      rintro _ rfl
      refine AtT.two ?_ ?_
      focus
       refine AtT.zq rfl rfl qy (qz _ _) ?_
       rintro _ rfl
       refine AtT.two ?_ ?_
       focus
        refine AtT.zq rfl rfl qy (qz _ _) ?_
        rintro _ rfl
        refine AtT.zu (zT _) ?_
        intro q93 V93 hV93 hq93
        (try replace hs1:=hs1.le hV93);(try replace hu41:=hu41.le hV93);(try replace s87:=s87.le hV93);(try replace s89:=s89.le hV93);(try replace s91:=s91.le hV93)
        have s93 : SlI V93 _ [3] := Sl.lit hq93 rfl (by decide)
        refine AtT.zq rfl rfl qy (qz _ _) ?_
        rintro _ rfl
        exact AtT.subK (key (q87, q89, q91, q93) _ ⟨hs1, hu41, s87, s89, s91, s93⟩) ⟨rfl, rfl, rfl, rfl, rfl, rfl, rfl, rfl, rfl, rfl, rfl, trivial⟩
       rotate_right
       focus
        refine AtT.zu (zT _) ?_
        intro q93 V93 hV93 hq93
        (try replace hs1:=hs1.le hV93);(try replace hu41:=hu41.le hV93);(try replace s87:=s87.le hV93);(try replace s89:=s89.le hV93);(try replace s91:=s91.le hV93)
        have s93 : SlI V93 _ [3] := Sl.lit hq93 rfl (by decide)
        refine AtT.zq rfl rfl qy (qz _ _) ?_
        rintro _ rfl
        refine AtT.zq rfl rfl qy (qz _ _) ?_
        rintro _ rfl
        exact AtT.subK (key (q87, q89, q91, q93) _ ⟨hs1, hu41, s87, s89, s91, s93⟩) ⟨rfl, rfl, rfl, rfl, rfl, rfl, rfl, rfl, rfl, rfl, rfl, trivial⟩
      rotate_right
      focus
       refine AtT.zu (zT _) ?_
       intro q93 V93 hV93 hq93
       (try replace hs1:=hs1.le hV93);(try replace hu41:=hu41.le hV93);(try replace s87:=s87.le hV93);(try replace s89:=s89.le hV93);(try replace s91:=s91.le hV93)
       have s93 : SlI V93 _ [3] := Sl.lit hq93 rfl (by decide)
       refine AtT.zq rfl rfl qy (qz _ _) ?_
       rintro _ rfl
       refine AtT.zq rfl rfl qy (qz _ _) ?_
       rintro _ rfl
       refine AtT.zq rfl rfl qy (qz _ _) ?_
       rintro _ rfl
       exact AtT.subK (key (q87, q89, q91, q93) _ ⟨hs1, hu41, s87, s89, s91, s93⟩) ⟨rfl, rfl, rfl, rfl, rfl, rfl, rfl, rfl, rfl, rfl, rfl, trivial⟩
     rotate_right
     focus
      refine AtT.zu (zT _) ?_
      intro q93 V93 hV93 hq93
      (try replace hs1:=hs1.le hV93);(try replace hu41:=hu41.le hV93);(try replace s87:=s87.le hV93);(try replace s89:=s89.le hV93);(try replace s91:=s91.le hV93)
      have s93 : SlI V93 _ [3] := Sl.lit hq93 rfl (by decide)
      refine AtT.zq rfl rfl qy (qz _ _) ?_
      rintro _ rfl
      refine AtT.zq rfl rfl qy (qz _ _) ?_
      rintro _ rfl
      refine AtT.zq rfl rfl qy (qz _ _) ?_
      rintro _ rfl
      refine AtT.zq rfl rfl qy (qz _ _) ?_
      rintro _ rfl
      exact AtT.subK (key (q87, q89, q91, q93) _ ⟨hs1, hu41, s87, s89, s91, s93⟩) ⟨rfl, rfl, rfl, rfl, rfl, rfl, rfl, rfl, rfl, rfl, rfl, trivial⟩
    rotate_right
    focus
     refine AtT.zq rfl rfl qy (qz _ _) ?_
     rintro _ rfl
     refine AtT.two ?_ ?_
     focus
      refine AtT.zu (zT _) ?_
      intro q89 V89 hV89 hq89
      (try replace hs1:=hs1.le hV89);(try replace hu41:=hu41.le hV89);(try replace s87:=s87.le hV89);(try replace s91:=s91.le hV89);(try replace s93:=s93.le hV89)
      have s89 : SlI V89 _ [1] := Sl.lit hq89 rfl (by decide)
      refine AtT.two ?_ ?_
      focus
       refine AtT.zq rfl rfl qy (qz _ _) ?_
       rintro _ rfl
       refine AtT.two ?_ ?_
       focus
        refine AtT.zq rfl rfl qy (qz _ _) ?_
        rintro _ rfl
        refine AtT.zu (zT _) ?_
        intro q93 V93 hV93 hq93
        (try replace hs1:=hs1.le hV93);(try replace hu41:=hu41.le hV93);(try replace s87:=s87.le hV93);(try replace s89:=s89.le hV93);(try replace s91:=s91.le hV93)
        have s93 : SlI V93 _ [3] := Sl.lit hq93 rfl (by decide)
        refine AtT.zq rfl rfl qy (qz _ _) ?_
        rintro _ rfl
        exact AtT.subK (key (q87, q89, q91, q93) _ ⟨hs1, hu41, s87, s89, s91, s93⟩) ⟨rfl, rfl, rfl, rfl, rfl, rfl, rfl, rfl, rfl, rfl, rfl, trivial⟩
       rotate_right
       focus
        refine AtT.zu (zT _) ?_
        intro q93 V93 hV93 hq93
        (try replace hs1:=hs1.le hV93);(try replace hu41:=hu41.le hV93);(try replace s87:=s87.le hV93);(try replace s89:=s89.le hV93);(try replace s91:=s91.le hV93)
        have s93 : SlI V93 _ [3] := Sl.lit hq93 rfl (by decide)
        refine AtT.zq rfl rfl qy (qz _ _) ?_
        rintro _ rfl
        refine AtT.zq rfl rfl qy (qz _ _) ?_
        rintro _ rfl
        exact AtT.subK (key (q87, q89, q91, q93) _ ⟨hs1, hu41, s87, s89, s91, s93⟩) ⟨rfl, rfl, rfl, rfl, rfl, rfl, rfl, rfl, rfl, rfl, rfl, trivial⟩
      rotate_right
      focus
       refine AtT.zu (zT _) ?_
       intro q93 V93 hV93 hq93
       (try replace hs1:=hs1.le hV93);(try replace hu41:=hu41.le hV93);(try replace s87:=s87.le hV93);(try replace s89:=s89.le hV93);(try replace s91:=s91.le hV93)
       have s93 : SlI V93 _ [3] := Sl.lit hq93 rfl (by decide)
       refine AtT.zq rfl rfl qy (qz _ _) ?_
       rintro _ rfl
       refine AtT.zq rfl rfl qy (qz _ _) ?_
       rintro _ rfl
       refine AtT.zq rfl rfl qy (qz _ _) ?_
       rintro _ rfl
       exact AtT.subK (key (q87, q89, q91, q93) _ ⟨hs1, hu41, s87, s89, s91, s93⟩) ⟨rfl, rfl, rfl, rfl, rfl, rfl, rfl, rfl, rfl, rfl, rfl, trivial⟩
     rotate_right
     focus
      refine AtT.zu (zT _) ?_
      intro q93 V93 hV93 hq93
      (try replace hs1:=hs1.le hV93);(try replace hu41:=hu41.le hV93);(try replace s87:=s87.le hV93);(try replace s89:=s89.le hV93);(try replace s91:=s91.le hV93)
      have s93 : SlI V93 _ [3] := Sl.lit hq93 rfl (by decide)
      refine AtT.zu (zT _) ?_
      intro q89 V89 hV89 hq89
      (try replace hs1:=hs1.le hV89);(try replace hu41:=hu41.le hV89);(try replace s87:=s87.le hV89);(try replace s91:=s91.le hV89);(try replace s93:=s93.le hV89)
      have s89 : SlI V89 _ [1] := Sl.lit hq89 rfl (by decide)
      refine AtT.zq rfl rfl qy (qz _ _) ?_
      rintro _ rfl
      refine AtT.zq rfl rfl qy (qz _ _) ?_
      rintro _ rfl
      refine AtT.zq rfl rfl qy (qz _ _) ?_
      rintro _ rfl
      exact AtT.subK (key (q87, q89, q91, q93) _ ⟨hs1, hu41, s87, s89, s91, s93⟩) ⟨rfl, rfl, rfl, rfl, rfl, rfl, rfl, rfl, rfl, rfl, rfl, trivial⟩
   rotate_right
   focus
    refine AtT.zu (zT _) ?_
    intro q89 V89 hV89 hq89
    (try replace hs1:=hs1.le hV89);(try replace hu41:=hu41.le hV89);(try replace s87:=s87.le hV89);(try replace s91:=s91.le hV89);(try replace s93:=s93.le hV89)
    have s89 : SlI V89 _ [1] := Sl.lit hq89 rfl (by decide)
    refine AtT.br (fun i hi => ?_)
    simp only [List.mem_cons, List.not_mem_nil, or_false] at hi
    rcases hi with rfl | rfl | rfl
    rotate_right
    focus
     refine AtT.zu (zT _) ?_
     intro q93 V93 hV93 hq93
     (try replace hs1:=hs1.le hV93);(try replace hu41:=hu41.le hV93);(try replace s87:=s87.le hV93);(try replace s89:=s89.le hV93);(try replace s91:=s91.le hV93)
     have s93 : SlI V93 _ [3] := Sl.lit hq93 rfl (by decide)
     refine AtT.two ?_ ?_
     focus
      refine AtT.zq rfl rfl qy (qz _ _) ?_
      rintro _ rfl
      refine AtT.two ?_ ?_
      focus
       refine AtT.zq rfl rfl qy (qz _ _) ?_
       rintro _ rfl
       refine AtT.zu (zT _) ?_
       intro q91 V91 hV91 hq91
       (try replace hs1:=hs1.le hV91);(try replace hu41:=hu41.le hV91);(try replace s87:=s87.le hV91);(try replace s89:=s89.le hV91);(try replace s93:=s93.le hV91)
       have s91 : SlI V91 _ [2] := Sl.lit hq91 rfl (by decide)
       refine AtT.zq rfl rfl qy (qz _ _) ?_
       rintro _ rfl
       refine AtT.zq rfl rfl qy (qz _ _) ?_
       rintro _ rfl
       exact AtT.subK (key (q87, q89, q91, q93) _ ⟨hs1, hu41, s87, s89, s91, s93⟩) ⟨rfl, rfl, rfl, rfl, rfl, rfl, rfl, rfl, rfl, rfl, rfl, trivial⟩
      rotate_right
      focus
       refine AtT.zu (zT _) ?_
       intro q91 V91 hV91 hq91
       (try replace hs1:=hs1.le hV91);(try replace hu41:=hu41.le hV91);(try replace s87:=s87.le hV91);(try replace s89:=s89.le hV91);(try replace s93:=s93.le hV91)
       have s91 : SlI V91 _ [2] := Sl.lit hq91 rfl (by decide)
       refine AtT.zq rfl rfl qy (qz _ _) ?_
       rintro _ rfl
       refine AtT.zq rfl rfl qy (qz _ _) ?_
       rintro _ rfl
       refine AtT.zq rfl rfl qy (qz _ _) ?_
       rintro _ rfl
       exact AtT.subK (key (q87, q89, q91, q93) _ ⟨hs1, hu41, s87, s89, s91, s93⟩) ⟨rfl, rfl, rfl, rfl, rfl, rfl, rfl, rfl, rfl, rfl, rfl, trivial⟩
     rotate_right
     focus
      refine AtT.zu (zT _) ?_
      intro q91 V91 hV91 hq91
      (try replace hs1:=hs1.le hV91);(try replace hu41:=hu41.le hV91);(try replace s87:=s87.le hV91);(try replace s89:=s89.le hV91);(try replace s93:=s93.le hV91)
      have s91 : SlI V91 _ [2] := Sl.lit hq91 rfl (by decide)
      refine AtT.zq rfl rfl qy (qz _ _) ?_
      rintro _ rfl
      refine AtT.zq rfl rfl qy (qz _ _) ?_
      rintro _ rfl
      refine AtT.zq rfl rfl qy (qz _ _) ?_
      rintro _ rfl
      refine AtT.zq rfl rfl qy (qz _ _) ?_
      rintro _ rfl
      exact AtT.subK (key (q87, q89, q91, q93) _ ⟨hs1, hu41, s87, s89, s91, s93⟩) ⟨rfl, rfl, rfl, rfl, rfl, rfl, rfl, rfl, rfl, rfl, rfl, trivial⟩
    rotate_right
    focus
     refine AtT.zu (zT _) ?_
     intro q91 V91 hV91 hq91
     (try replace hs1:=hs1.le hV91);(try replace hu41:=hu41.le hV91);(try replace s87:=s87.le hV91);(try replace s89:=s89.le hV91);(try replace s93:=s93.le hV91)
     have s91 : SlI V91 _ [2] := Sl.lit hq91 rfl (by decide)
     refine AtT.two ?_ ?_
     focus
      refine AtT.zq rfl rfl qy (qz _ _) ?_
      rintro _ rfl
      refine AtT.two ?_ ?_
      focus
       refine AtT.zq rfl rfl qy (qz _ _) ?_
       rintro _ rfl
       refine AtT.two ?_ ?_
       focus
        refine AtT.zq rfl rfl qy (qz _ _) ?_
        rintro _ rfl
        refine AtT.zu (zT _) ?_
        intro q93 V93 hV93 hq93
        (try replace hs1:=hs1.le hV93);(try replace hu41:=hu41.le hV93);(try replace s87:=s87.le hV93);(try replace s89:=s89.le hV93);(try replace s91:=s91.le hV93)
        have s93 : SlI V93 _ [3] := Sl.lit hq93 rfl (by decide)
        refine AtT.zq rfl rfl qy (qz _ _) ?_
        rintro _ rfl
        exact AtT.subK (key (q87, q89, q91, q93) _ ⟨hs1, hu41, s87, s89, s91, s93⟩) ⟨rfl, rfl, rfl, rfl, rfl, rfl, rfl, rfl, rfl, rfl, rfl, trivial⟩
       rotate_right
       focus
        refine AtT.zu (zT _) ?_
        intro q93 V93 hV93 hq93
        (try replace hs1:=hs1.le hV93);(try replace hu41:=hu41.le hV93);(try replace s87:=s87.le hV93);(try replace s89:=s89.le hV93);(try replace s91:=s91.le hV93)
        have s93 : SlI V93 _ [3] := Sl.lit hq93 rfl (by decide)
        refine AtT.zq rfl rfl qy (qz _ _) ?_
        rintro _ rfl
        refine AtT.zq rfl rfl qy (qz _ _) ?_
        rintro _ rfl
        exact AtT.subK (key (q87, q89, q91, q93) _ ⟨hs1, hu41, s87, s89, s91, s93⟩) ⟨rfl, rfl, rfl, rfl, rfl, rfl, rfl, rfl, rfl, rfl, rfl, trivial⟩
      rotate_right
      focus
       refine AtT.zu (zT _) ?_
       intro q93 V93 hV93 hq93
       (try replace hs1:=hs1.le hV93);(try replace hu41:=hu41.le hV93);(try replace s87:=s87.le hV93);(try replace s89:=s89.le hV93);(try replace s91:=s91.le hV93)
       have s93 : SlI V93 _ [3] := Sl.lit hq93 rfl (by decide)
       refine AtT.zq rfl rfl qy (qz _ _) ?_
       rintro _ rfl
       refine AtT.zq rfl rfl qy (qz _ _) ?_
       rintro _ rfl
       refine AtT.zq rfl rfl qy (qz _ _) ?_
       rintro _ rfl
       exact AtT.subK (key (q87, q89, q91, q93) _ ⟨hs1, hu41, s87, s89, s91, s93⟩) ⟨rfl, rfl, rfl, rfl, rfl, rfl, rfl, rfl, rfl, rfl, rfl, trivial⟩
     rotate_right
     focus
      refine AtT.zu (zT _) ?_
      intro q93 V93 hV93 hq93
      (try replace hs1:=hs1.le hV93);(try replace hu41:=hu41.le hV93);(try replace s87:=s87.le hV93);(try replace s89:=s89.le hV93);(try replace s91:=s91.le hV93)
      have s93 : SlI V93 _ [3] := Sl.lit hq93 rfl (by decide)
      refine AtT.zq rfl rfl qy (qz _ _) ?_
      rintro _ rfl
      refine AtT.zq rfl rfl qy (qz _ _) ?_
      rintro _ rfl
      refine AtT.zq rfl rfl qy (qz _ _) ?_
      rintro _ rfl
      refine AtT.zq rfl rfl qy (qz _ _) ?_
      rintro _ rfl
      exact AtT.subK (key (q87, q89, q91, q93) _ ⟨hs1, hu41, s87, s89, s91, s93⟩) ⟨rfl, rfl, rfl, rfl, rfl, rfl, rfl, rfl, rfl, rfl, rfl, trivial⟩
    rotate_right
    focus
     refine AtT.zq rfl rfl qy (qz _ _) ?_
     rintro _ rfl
     refine AtT.br (fun i hi => ?_)
     simp only [List.mem_cons, List.not_mem_nil, or_false] at hi
     rcases hi with rfl | rfl | rfl
     rotate_right
     focus
      refine AtT.zu (zT _) ?_
      intro q93 V93 hV93 hq93
      (try replace hs1:=hs1.le hV93);(try replace hu41:=hu41.le hV93);(try replace s87:=s87.le hV93);(try replace s89:=s89.le hV93);(try replace s91:=s91.le hV93)
      have s93 : SlI V93 _ [3] := Sl.lit hq93 rfl (by decide)
      refine AtT.two ?_ ?_
      focus
       refine AtT.zq rfl rfl qy (qz _ _) ?_
       rintro _ rfl
       refine AtT.zu (zT _) ?_
       intro q91 V91 hV91 hq91
       (try replace hs1:=hs1.le hV91);(try replace hu41:=hu41.le hV91);(try replace s87:=s87.le hV91);(try replace s89:=s89.le hV91);(try replace s93:=s93.le hV91)
       have s91 : SlI V91 _ [2] := Sl.lit hq91 rfl (by decide)
       refine AtT.zq rfl rfl qy (qz _ _) ?_
       rintro _ rfl
       refine AtT.zq rfl rfl qy (qz _ _) ?_
       rintro _ rfl
       exact AtT.subK (key (q87, q89, q91, q93) _ ⟨hs1, hu41, s87, s89, s91, s93⟩) ⟨rfl, rfl, rfl, rfl, rfl, rfl, rfl, rfl, rfl, rfl, rfl, trivial⟩
      rotate_right
      focus
       refine AtT.zu (zT _) ?_
       intro q91 V91 hV91 hq91
       (try replace hs1:=hs1.le hV91);(try replace hu41:=hu41.le hV91);(try replace s87:=s87.le hV91);(try replace s89:=s89.le hV91);(try replace s93:=s93.le hV91)
       have s91 : SlI V91 _ [2] := Sl.lit hq91 rfl (by decide)
       refine AtT.zq rfl rfl qy (qz _ _) ?_
       rintro _ rfl
       refine AtT.zq rfl rfl qy (qz _ _) ?_
       rintro _ rfl
       refine AtT.zq rfl rfl qy (qz _ _) ?_
       rintro _ rfl
       exact AtT.subK (key (q87, q89, q91, q93) _ ⟨hs1, hu41, s87, s89, s91, s93⟩) ⟨rfl, rfl, rfl, rfl, rfl, rfl, rfl, rfl, rfl, rfl, rfl, trivial⟩
     rotate_right
     focus
      refine AtT.zu (zT _) ?_
      intro q91 V91 hV91 hq91
      (try replace hs1:=hs1.le hV91);(try replace hu41:=hu41.le hV91);(try replace s87:=s87.le hV91);(try replace s89:=s89.le hV91);(try replace s93:=s93.le hV91)
      have s91 : SlI V91 _ [2] := Sl.lit hq91 rfl (by decide)
      refine AtT.two ?_ ?_
      focus
       refine AtT.zq rfl rfl qy (qz _ _) ?_
       rintro _ rfl
       refine AtT.two ?_ ?_
       focus
        refine AtT.zq rfl rfl qy (qz _ _) ?_
        rintro _ rfl
        refine AtT.zu (zT _) ?_
        intro q93 V93 hV93 hq93
        (try replace hs1:=hs1.le hV93);(try replace hu41:=hu41.le hV93);(try replace s87:=s87.le hV93);(try replace s89:=s89.le hV93);(try replace s91:=s91.le hV93)
        have s93 : SlI V93 _ [3] := Sl.lit hq93 rfl (by decide)
        refine AtT.zq rfl rfl qy (qz _ _) ?_
        rintro _ rfl
        exact AtT.subK (key (q87, q89, q91, q93) _ ⟨hs1, hu41, s87, s89, s91, s93⟩) ⟨rfl, rfl, rfl, rfl, rfl, rfl, rfl, rfl, rfl, rfl, rfl, trivial⟩
       rotate_right
       focus
        refine AtT.zu (zT _) ?_
        intro q93 V93 hV93 hq93
        (try replace hs1:=hs1.le hV93);(try replace hu41:=hu41.le hV93);(try replace s87:=s87.le hV93);(try replace s89:=s89.le hV93);(try replace s91:=s91.le hV93)
        have s93 : SlI V93 _ [3] := Sl.lit hq93 rfl (by decide)
        refine AtT.zq rfl rfl qy (qz _ _) ?_
        rintro _ rfl
        refine AtT.zq rfl rfl qy (qz _ _) ?_
        rintro _ rfl
        exact AtT.subK (key (q87, q89, q91, q93) _ ⟨hs1, hu41, s87, s89, s91, s93⟩) ⟨rfl, rfl, rfl, rfl, rfl, rfl, rfl, rfl, rfl, rfl, rfl, trivial⟩
      rotate_right
      focus
       refine AtT.zu (zT _) ?_
       intro q93 V93 hV93 hq93
       (try replace hs1:=hs1.le hV93);(try replace hu41:=hu41.le hV93);(try replace s87:=s87.le hV93);(try replace s89:=s89.le hV93);(try replace s91:=s91.le hV93)
       have s93 : SlI V93 _ [3] := Sl.lit hq93 rfl (by decide)
       refine AtT.zq rfl rfl qy (qz _ _) ?_
       rintro _ rfl
       refine AtT.zq rfl rfl qy (qz _ _) ?_
       rintro _ rfl
       refine AtT.zq rfl rfl qy (qz _ _) ?_
       rintro _ rfl
       exact AtT.subK (key (q87, q89, q91, q93) _ ⟨hs1, hu41, s87, s89, s91, s93⟩) ⟨rfl, rfl, rfl, rfl, rfl, rfl, rfl, rfl, rfl, rfl, rfl, trivial⟩
     rotate_right
     focus
      refine AtT.zq rfl rfl qy (qz _ _) ?_
      rintro _ rfl
      refine AtT.two ?_ ?_
      focus
       refine AtT.zu (zT _) ?_
       intro q91 V91 hV91 hq91
       (try replace hs1:=hs1.le hV91);(try replace hu41:=hu41.le hV91);(try replace s87:=s87.le hV91);(try replace s89:=s89.le hV91);(try replace s93:=s93.le hV91)
       have s91 : SlI V91 _ [2] := Sl.lit hq91 rfl (by decide)
       refine AtT.two ?_ ?_
       focus
        refine AtT.zq rfl rfl qy (qz _ _) ?_
        rintro _ rfl
        refine AtT.zu (zT _) ?_
        intro q93 V93 hV93 hq93
        (try replace hs1:=hs1.le hV93);(try replace hu41:=hu41.le hV93);(try replace s87:=s87.le hV93);(try replace s89:=s89.le hV93);(try replace s91:=s91.le hV93)
        have s93 : SlI V93 _ [3] := Sl.lit hq93 rfl (by decide)
        refine AtT.zq rfl rfl qy (qz _ _) ?_
        rintro _ rfl
        exact AtT.subK (key (q87, q89, q91, q93) _ ⟨hs1, hu41, s87, s89, s91, s93⟩) ⟨rfl, rfl, rfl, rfl, rfl, rfl, rfl, rfl, rfl, rfl, rfl, trivial⟩
       rotate_right
       focus
        refine AtT.zu (zT _) ?_
        intro q93 V93 hV93 hq93
        (try replace hs1:=hs1.le hV93);(try replace hu41:=hu41.le hV93);(try replace s87:=s87.le hV93);(try replace s89:=s89.le hV93);(try replace s91:=s91.le hV93)
        have s93 : SlI V93 _ [3] := Sl.lit hq93 rfl (by decide)
        refine AtT.zq rfl rfl qy (qz _ _) ?_
        rintro _ rfl
        refine AtT.zq rfl rfl qy (qz _ _) ?_
        rintro _ rfl
        exact AtT.subK (key (q87, q89, q91, q93) _ ⟨hs1, hu41, s87, s89, s91, s93⟩) ⟨rfl, rfl, rfl, rfl, rfl, rfl, rfl, rfl, rfl, rfl, rfl, trivial⟩
      rotate_right
      focus
       refine AtT.zu (zT _) ?_
       intro q93 V93 hV93 hq93
       (try replace hs1:=hs1.le hV93);(try replace hu41:=hu41.le hV93);(try replace s87:=s87.le hV93);(try replace s89:=s89.le hV93);(try replace s91:=s91.le hV93)
       have s93 : SlI V93 _ [3] := Sl.lit hq93 rfl (by decide)
       refine AtT.zu (zT _) ?_
       intro q91 V91 hV91 hq91
       (try replace hs1:=hs1.le hV91);(try replace hu41:=hu41.le hV91);(try replace s87:=s87.le hV91);(try replace s89:=s89.le hV91);(try replace s93:=s93.le hV91)
       have s91 : SlI V91 _ [2] := Sl.lit hq91 rfl (by decide)
       refine AtT.zq rfl rfl qy (qz _ _) ?_
       rintro _ rfl
       refine AtT.zq rfl rfl qy (qz _ _) ?_
       rintro _ rfl
       exact AtT.subK (key (q87, q89, q91, q93) _ ⟨hs1, hu41, s87, s89, s91, s93⟩) ⟨rfl, rfl, rfl, rfl, rfl, rfl, rfl, rfl, rfl, rfl, rfl, trivial⟩
   rotate_right
   focus
    refine AtT.zq rfl rfl qy (qz _ _) ?_
    rintro _ rfl
    refine AtT.br (fun i hi => ?_)
    simp only [List.mem_cons, List.not_mem_nil, or_false] at hi
    rcases hi with rfl | rfl | rfl
    rotate_right
    focus
     refine AtT.zu (zT _) ?_
     intro q93 V93 hV93 hq93
     (try replace hs1:=hs1.le hV93);(try replace hu41:=hu41.le hV93);(try replace s87:=s87.le hV93);(try replace s89:=s89.le hV93);(try replace s91:=s91.le hV93)
     have s93 : SlI V93 _ [3] := Sl.lit hq93 rfl (by decide)
     refine AtT.two ?_ ?_
     focus
      refine AtT.zu (zT _) ?_
      intro q89 V89 hV89 hq89
      (try replace hs1:=hs1.le hV89);(try replace hu41:=hu41.le hV89);(try replace s87:=s87.le hV89);(try replace s91:=s91.le hV89);(try replace s93:=s93.le hV89)
      have s89 : SlI V89 _ [1] := Sl.lit hq89 rfl (by decide)
      refine AtT.two ?_ ?_
      focus
       refine AtT.zq rfl rfl qy (qz _ _) ?_
       rintro _ rfl
       refine AtT.zu (zT _) ?_
       intro q91 V91 hV91 hq91
       (try replace hs1:=hs1.le hV91);(try replace hu41:=hu41.le hV91);(try replace s87:=s87.le hV91);(try replace s89:=s89.le hV91);(try replace s93:=s93.le hV91)
       have s91 : SlI V91 _ [2] := Sl.lit hq91 rfl (by decide)
       refine AtT.zq rfl rfl qy (qz _ _) ?_
       rintro _ rfl
       refine AtT.zq rfl rfl qy (qz _ _) ?_
       rintro _ rfl
       exact AtT.subK (key (q87, q89, q91, q93) _ ⟨hs1, hu41, s87, s89, s91, s93⟩) ⟨rfl, rfl, rfl, rfl, rfl, rfl, rfl, rfl, rfl, rfl, rfl, trivial⟩
      rotate_right
      focus
       refine AtT.zu (zT _) ?_
       intro q91 V91 hV91 hq91
       (try replace hs1:=hs1.le hV91);(try replace hu41:=hu41.le hV91);(try replace s87:=s87.le hV91);(try replace s89:=s89.le hV91);(try replace s93:=s93.le hV91)
       have s91 : SlI V91 _ [2] := Sl.lit hq91 rfl (by decide)
       refine AtT.zq rfl rfl qy (qz _ _) ?_
       rintro _ rfl
       refine AtT.zq rfl rfl qy (qz _ _) ?_
       rintro _ rfl
       refine AtT.zq rfl rfl qy (qz _ _) ?_
       rintro _ rfl
       exact AtT.subK (key (q87, q89, q91, q93) _ ⟨hs1, hu41, s87, s89, s91, s93⟩) ⟨rfl, rfl, rfl, rfl, rfl, rfl, rfl, rfl, rfl, rfl, rfl, trivial⟩
     rotate_right
     focus
      refine AtT.zu (zT _) ?_
      intro q91 V91 hV91 hq91
      (try replace hs1:=hs1.le hV91);(try replace hu41:=hu41.le hV91);(try replace s87:=s87.le hV91);(try replace s89:=s89.le hV91);(try replace s93:=s93.le hV91)
      have s91 : SlI V91 _ [2] := Sl.lit hq91 rfl (by decide)
      refine AtT.zu (zT _) ?_
      intro q89 V89 hV89 hq89
      (try replace hs1:=hs1.le hV89);(try replace hu41:=hu41.le hV89);(try replace s87:=s87.le hV89);(try replace s91:=s91.le hV89);(try replace s93:=s93.le hV89)
      have s89 : SlI V89 _ [1] := Sl.lit hq89 rfl (by decide)
      refine AtT.zq rfl rfl qy (qz _ _) ?_
      rintro _ rfl
      refine AtT.zq rfl rfl qy (qz _ _) ?_
      rintro _ rfl
      refine AtT.zq rfl rfl qy (qz _ _) ?_
      rintro _ rfl
      exact AtT.subK (key (q87, q89, q91, q93) _ ⟨hs1, hu41, s87, s89, s91, s93⟩) ⟨rfl, rfl, rfl, rfl, rfl, rfl, rfl, rfl, rfl, rfl, rfl, trivial⟩
    rotate_right
    focus
     refine AtT.zu (zT _) ?_
     intro q91 V91 hV91 hq91
     (try replace hs1:=hs1.le hV91);(try replace hu41:=hu41.le hV91);(try replace s87:=s87.le hV91);(try replace s89:=s89.le hV91);(try replace s93:=s93.le hV91)
     have s91 : SlI V91 _ [2] := Sl.lit hq91 rfl (by decide)
     refine AtT.two ?_ ?_
     focus
      refine AtT.zu (zT _) ?_
      intro q89 V89 hV89 hq89
      (try replace hs1:=hs1.le hV89);(try replace hu41:=hu41.le hV89);(try replace s87:=s87.le hV89);(try replace s91:=s91.le hV89);(try replace s93:=s93.le hV89)
      have s89 : SlI V89 _ [1] := Sl.lit hq89 rfl (by decide)
      refine AtT.two ?_ ?_
      focus
       refine AtT.zq rfl rfl qy (qz _ _) ?_
       rintro _ rfl
       refine AtT.two ?_ ?_
       focus
        refine AtT.zq rfl rfl qy (qz _ _) ?_
        rintro _ rfl
        refine AtT.zu (zT _) ?_
        intro q93 V93 hV93 hq93
        (try replace hs1:=hs1.le hV93);(try replace hu41:=hu41.le hV93);(try replace s87:=s87.le hV93);(try replace s89:=s89.le hV93);(try replace s91:=s91.le hV93)
        have s93 : SlI V93 _ [3] := Sl.lit hq93 rfl (by decide)
        refine AtT.zq rfl rfl qy (qz _ _) ?_
        rintro _ rfl
        exact AtT.subK (key (q87, q89, q91, q93) _ ⟨hs1, hu41, s87, s89, s91, s93⟩) ⟨rfl, rfl, rfl, rfl, rfl, rfl, rfl, rfl, rfl, rfl, rfl, trivial⟩
       rotate_right
       focus
        refine AtT.zu (zT _) ?_
        intro q93 V93 hV93 hq93
        (try replace hs1:=hs1.le hV93);(try replace hu41:=hu41.le hV93);(try replace s87:=s87.le hV93);(try replace s89:=s89.le hV93);(try replace s91:=s91.le hV93)
        have s93 : SlI V93 _ [3] := Sl.lit hq93 rfl (by decide)
        refine AtT.zq rfl rfl qy (qz _ _) ?_
        rintro _ rfl
        refine AtT.zq rfl rfl qy (qz _ _) ?_
        rintro _ rfl
        exact AtT.subK (key (q87, q89, q91, q93) _ ⟨hs1, hu41, s87, s89, s91, s93⟩) ⟨rfl, rfl, rfl, rfl, rfl, rfl, rfl, rfl, rfl, rfl, rfl, trivial⟩
      rotate_right
      focus
       refine AtT.zu (zT _) ?_
       intro q93 V93 hV93 hq93
       (try replace hs1:=hs1.le hV93);(try replace hu41:=hu41.le hV93);(try replace s87:=s87.le hV93);(try replace s89:=s89.le hV93);(try replace s91:=s91.le hV93)
       have s93 : SlI V93 _ [3] := Sl.lit hq93 rfl (by decide)
       refine AtT.zq rfl rfl qy (qz _ _) ?_
       rintro _ rfl
       refine AtT.zq rfl rfl qy (qz _ _) ?_
       rintro _ rfl
       refine AtT.zq rfl rfl qy (qz _ _) ?_
       rintro _ rfl
       exact AtT.subK (key (q87, q89, q91, q93) _ ⟨hs1, hu41, s87, s89, s91, s93⟩) ⟨rfl, rfl, rfl, rfl, rfl, rfl, rfl, rfl, rfl, rfl, rfl, trivial⟩
     rotate_right
     focus
      refine AtT.zu (zT _) ?_
      intro q93 V93 hV93 hq93
      (try replace hs1:=hs1.le hV93);(try replace hu41:=hu41.le hV93);(try replace s87:=s87.le hV93);(try replace s89:=s89.le hV93);(try replace s91:=s91.le hV93)
      have s93 : SlI V93 _ [3] := Sl.lit hq93 rfl (by decide)
      refine AtT.zu (zT _) ?_
      intro q89 V89 hV89 hq89
      (try replace hs1:=hs1.le hV89);(try replace hu41:=hu41.le hV89);(try replace s87:=s87.le hV89);(try replace s91:=s91.le hV89);(try replace s93:=s93.le hV89)
      have s89 : SlI V89 _ [1] := Sl.lit hq89 rfl (by decide)
      refine AtT.zq rfl rfl qy (qz _ _) ?_
      rintro _ rfl
      refine AtT.zq rfl rfl qy (qz _ _) ?_
      rintro _ rfl
      refine AtT.zq rfl rfl qy (qz _ _) ?_
      rintro _ rfl
      exact AtT.subK (key (q87, q89, q91, q93) _ ⟨hs1, hu41, s87, s89, s91, s93⟩) ⟨rfl, rfl, rfl, rfl, rfl, rfl, rfl, rfl, rfl, rfl, rfl, trivial⟩
    rotate_right
    focus
     refine AtT.zu (zT _) ?_
     intro q89 V89 hV89 hq89
     (try replace hs1:=hs1.le hV89);(try replace hu41:=hu41.le hV89);(try replace s87:=s87.le hV89);(try replace s91:=s91.le hV89);(try replace s93:=s93.le hV89)
     have s89 : SlI V89 _ [1] := Sl.lit hq89 rfl (by decide)
     refine AtT.br (fun i hi => ?_)
     simp only [List.mem_cons, List.not_mem_nil, or_false] at hi
     rcases hi with rfl | rfl | rfl
     rotate_right
     focus
      refine AtT.zu (zT _) ?_
      intro q93 V93 hV93 hq93
      (try replace hs1:=hs1.le hV93);(try replace hu41:=hu41.le hV93);(try replace s87:=s87.le hV93);(try replace s89:=s89.le hV93);(try replace s91:=s91.le hV93)
      have s93 : SlI V93 _ [3] := Sl.lit hq93 rfl (by decide)
      refine AtT.two ?_ ?_
      focus
       refine AtT.zq rfl rfl qy (qz _ _) ?_
       rintro _ rfl
       refine AtT.zu (zT _) ?_
       intro q91 V91 hV91 hq91
       (try replace hs1:=hs1.le hV91);(try replace hu41:=hu41.le hV91);(try replace s87:=s87.le hV91);(try replace s89:=s89.le hV91);(try replace s93:=s93.le hV91)
       have s91 : SlI V91 _ [2] := Sl.lit hq91 rfl (by decide)
       refine AtT.zq rfl rfl qy (qz _ _) ?_
       rintro _ rfl
       refine AtT.zq rfl rfl qy (qz _ _) ?_
       rintro _ rfl
       exact AtT.subK (key (q87, q89, q91, q93) _ ⟨hs1, hu41, s87, s89, s91, s93⟩) ⟨rfl, rfl, rfl, rfl, rfl, rfl, rfl, rfl, rfl, rfl, rfl, trivial⟩
      rotate_right
      focus
       refine AtT.zu (zT _) ?_
       intro q91 V91 hV91 hq91
       (try replace hs1:=hs1.le hV91);(try replace hu41:=hu41.le hV91);(try replace s87:=s87.le hV91);(try replace s89:=s89.le hV91);(try replace s93:=s93.le hV91)
       have s91 : SlI V91 _ [2] := Sl.lit hq91 rfl (by decide)
       refine AtT.zq rfl rfl qy (qz _ _) ?_
       rintro _ rfl
       refine AtT.zq rfl rfl qy (qz _ _) ?_
       rintro _ rfl
       refine AtT.zq rfl rfl qy (qz _ _) ?_
       rintro _ rfl
       exact AtT.subK (key (q87, q89, q91, q93) _ ⟨hs1, hu41, s87, s89, s91, s93⟩) ⟨rfl, rfl, rfl, rfl, rfl, rfl, rfl, rfl, rfl, rfl, rfl, trivial⟩
     rotate_right
     focus
      refine AtT.zu (zT _) ?_
      intro q91 V91 hV91 hq91
      (try replace hs1:=hs1.le hV91);(try replace hu41:=hu41.le hV91);(try replace s87:=s87.le hV91);(try replace s89:=s89.le hV91);(try replace s93:=s93.le hV91)
      have s91 : SlI V91 _ [2] := Sl.lit hq91 rfl (by decide)
      refine AtT.two ?_ ?_
      focus
       refine AtT.zq rfl rfl qy (qz _ _) ?_
       rintro _ rfl
       refine AtT.two ?_ ?_
       focus
        refine AtT.zq rfl rfl qy (qz _ _) ?_
        rintro _ rfl
        refine AtT.zu (zT _) ?_
        intro q93 V93 hV93 hq93
        (try replace hs1:=hs1.le hV93);(try replace hu41:=hu41.le hV93);(try replace s87:=s87.le hV93);(try replace s89:=s89.le hV93);(try replace s91:=s91.le hV93)
        have s93 : SlI V93 _ [3] := Sl.lit hq93 rfl (by decide)
        refine AtT.zq rfl rfl qy (qz _ _) ?_
        rintro _ rfl
        exact AtT.subK (key (q87, q89, q91, q93) _ ⟨hs1, hu41, s87, s89, s91, s93⟩) ⟨rfl, rfl, rfl, rfl, rfl, rfl, rfl, rfl, rfl, rfl, rfl, trivial⟩
       rotate_right
       focus
        refine AtT.zu (zT _) ?_
        intro q93 V93 hV93 hq93
        (try replace hs1:=hs1.le hV93);(try replace hu41:=hu41.le hV93);(try replace s87:=s87.le hV93);(try replace s89:=s89.le hV93);(try replace s91:=s91.le hV93)
        have s93 : SlI V93 _ [3] := Sl.lit hq93 rfl (by decide)
        refine AtT.zq rfl rfl qy (qz _ _) ?_
        rintro _ rfl
        refine AtT.zq rfl rfl qy (qz _ _) ?_
        rintro _ rfl
        exact AtT.subK (key (q87, q89, q91, q93) _ ⟨hs1, hu41, s87, s89, s91, s93⟩) ⟨rfl, rfl, rfl, rfl, rfl, rfl, rfl, rfl, rfl, rfl, rfl, trivial⟩
      rotate_right
      focus
       refine AtT.zu (zT _) ?_
       intro q93 V93 hV93 hq93
       (try replace hs1:=hs1.le hV93);(try replace hu41:=hu41.le hV93);(try replace s87:=s87.le hV93);(try replace s89:=s89.le hV93);(try replace s91:=s91.le hV93)
       have s93 : SlI V93 _ [3] := Sl.lit hq93 rfl (by decide)
       refine AtT.zq rfl rfl qy (qz _ _) ?_
       rintro _ rfl
       refine AtT.zq rfl rfl qy (qz _ _) ?_
       rintro _ rfl
       refine AtT.zq rfl rfl qy (qz _ _) ?_
       rintro _ rfl
       exact AtT.subK (key (q87, q89, q91, q93) _ ⟨hs1, hu41, s87, s89, s91, s93⟩) ⟨rfl, rfl, rfl, rfl, rfl, rfl, rfl, rfl, rfl, rfl, rfl, trivial⟩
     rotate_right
     focus
      refine AtT.zq rfl rfl qy (qz _ _) ?_
      rintro _ rfl
      refine AtT.two ?_ ?_
      focus
       refine AtT.zu (zT _) ?_
       intro q91 V91 hV91 hq91
       (try replace hs1:=hs1.le hV91);(try replace hu41:=hu41.le hV91);(try replace s87:=s87.le hV91);(try replace s89:=s89.le hV91);(try replace s93:=s93.le hV91)
       have s91 : SlI V91 _ [2] := Sl.lit hq91 rfl (by decide)
       refine AtT.two ?_ ?_
       focus
        refine AtT.zq rfl rfl qy (qz _ _) ?_
        rintro _ rfl
        refine AtT.zu (zT _) ?_
        intro q93 V93 hV93 hq93
        (try replace hs1:=hs1.le hV93);(try replace hu41:=hu41.le hV93);(try replace s87:=s87.le hV93);(try replace s89:=s89.le hV93);(try replace s91:=s91.le hV93)
        have s93 : SlI V93 _ [3] := Sl.lit hq93 rfl (by decide)
        refine AtT.zq rfl rfl qy (qz _ _) ?_
        rintro _ rfl
        exact AtT.subK (key (q87, q89, q91, q93) _ ⟨hs1, hu41, s87, s89, s91, s93⟩) ⟨rfl, rfl, rfl, rfl, rfl, rfl, rfl, rfl, rfl, rfl, rfl, trivial⟩
       rotate_right
       focus
        refine AtT.zu (zT _) ?_
        intro q93 V93 hV93 hq93
        (try replace hs1:=hs1.le hV93);(try replace hu41:=hu41.le hV93);(try replace s87:=s87.le hV93);(try replace s89:=s89.le hV93);(try replace s91:=s91.le hV93)
        have s93 : SlI V93 _ [3] := Sl.lit hq93 rfl (by decide)
        refine AtT.zq rfl rfl qy (qz _ _) ?_
        rintro _ rfl
        refine AtT.zq rfl rfl qy (qz _ _) ?_
        rintro _ rfl
        exact AtT.subK (key (q87, q89, q91, q93) _ ⟨hs1, hu41, s87, s89, s91, s93⟩) ⟨rfl, rfl, rfl, rfl, rfl, rfl, rfl, rfl, rfl, rfl, rfl, trivial⟩
      rotate_right
      focus
       refine AtT.zu (zT _) ?_
       intro q93 V93 hV93 hq93
       (try replace hs1:=hs1.le hV93);(try replace hu41:=hu41.le hV93);(try replace s87:=s87.le hV93);(try replace s89:=s89.le hV93);(try replace s91:=s91.le hV93)
       have s93 : SlI V93 _ [3] := Sl.lit hq93 rfl (by decide)
       refine AtT.zu (zT _) ?_
       intro q91 V91 hV91 hq91
       (try replace hs1:=hs1.le hV91);(try replace hu41:=hu41.le hV91);(try replace s87:=s87.le hV91);(try replace s89:=s89.le hV91);(try replace s93:=s93.le hV91)
       have s91 : SlI V91 _ [2] := Sl.lit hq91 rfl (by decide)
       refine AtT.zq rfl rfl qy (qz _ _) ?_
       rintro _ rfl
       refine AtT.zq rfl rfl qy (qz _ _) ?_
       rintro _ rfl
       exact AtT.subK (key (q87, q89, q91, q93) _ ⟨hs1, hu41, s87, s89, s91, s93⟩) ⟨rfl, rfl, rfl, rfl, rfl, rfl, rfl, rfl, rfl, rfl, rfl, trivial⟩
 rintro ⟨q87, q89, q91, q93⟩ V8 ks8 ⟨hs1, hu41, s87, s89, s91, s93⟩ hk8; dsimp only at hk8 s87 s89 s91 s93; subst hk8
 refine AtT.zu (bs42_4_0_1_2_3 _ _ _ _ _ _ _ _ _ _ _ _) ?_
 intro q95 V95 hV95 hq95
 (try replace hs1:=hs1.le hV95);(try replace hu41:=hu41.le hV95);(try replace s87:=s87.le hV95);(try replace s89:=s89.le hV95);(try replace s91:=s91.le hV95);(try replace s93:=s93.le hV95)
 refine AtT.zq rfl rfl ok55 (lists_f _ _) ?_
 rintro _ rfl
 refine AtT.zq rfl rfl ok35 (lists_eq_f [[0], [1], [2], [3]] [[0], [1], [2], [3]] _ _ _ hu41 (SL.lit [(some q87, 1, 1), (some q89, 1, 1), (some q91, 1, 1), (some q93, 1, 1)] [[0], [1], [2], [3]] 4 hq95 rfl rfl (by simp) (fun i q l h1 h2 => by match i, h1, h2 with | 0, h1, h2 => (cases h1; cases h2; exact s87) | 1, h1, h2 => (cases h1; cases h2; exact s89) | 2, h1, h2 => (cases h1; cases h2; exact s91) | 3, h1, h2 => (cases h1; cases h2; exact s93)))) ?_
 rintro _ rfl
 refine AtT.qJ (d := 97) rfl (rfl) ?_
 refine AtT.zz ?_
 refine AtT.zh ?_
 refine AtT.kL 99 ?_
 refine AtT.zh ?_
 refine AtT.keqI ?_
 refine AtT.qJ (d := 101) rfl (rfl) ?_
 refine AtT.zz ?_
 refine AtT.zh ?_
 refine AtT.kL 103 ?_
 first | refine AtT.zD zS ?_ | refine AtT.zK zS ?_ | refine AtT.zC zS ?_
 refine AtT.zu (qf _ _ _ _) ?_
 intro q105 V105 hV105 hq105
 (try replace hs1:=hs1.le hV105)
 have s105 : SlI V105 _ [0, 0, 1, 4] := Sl.lit hq105 rfl (by decide)
 refine AtT.qg rfl rfl ok53 (qB [⟨0, 0, 1, 4⟩] (by decide) _ _ (show SlI _ _ [0, 0, 1, 4] from s105)) ?_
 rintro _ V106 hV106 hp106; (try replace hs1:=hs1.le hV106); obtain ⟨a106, c106, rfl, k106, k106', _⟩ := id hp106; clear k106 k106'
 refine AtT.idx rfl ⟨_, _, rfl, rfl, rfl⟩ Tryz.underlying27 zS rfl hp106 rfl (by decide) (by decide) (by decide) ?_
 intro p107 e107 he107 hc107
 first | refine AtT.zD zS ?_ | refine AtT.zK zS ?_ | refine AtT.zC zS ?_
 obtain rfl : (⟨0, 0, 1, 4⟩ : Pc) = e107 := qK (h := he107)
 refine AtT.keqS (eqS26 _ _ _ _ _ _ _ _) ?_
 refine AtT.qJ (d := 109) rfl (⟨rfl, rfl, rfl, rfl⟩) ?_
 refine AtT.zz ?_
 refine AtT.zh ?_
 refine AtT.kL 111 ?_
 refine AtT.zh ?_
 refine AtT.keqI ?_
 refine AtT.qJ (d := 113) rfl (rfl) ?_
 refine AtT.zz ?_
 refine AtT.zh ?_
 refine AtT.kL 115 ?_
 refine AtT.zh ?_
 refine AtT.keqI ?_
 refine AtT.qJ (d := 117) rfl (rfl) ?_
 refine AtT.zz ?_
 refine AtT.zh ?_
 refine AtT.kL 119 ?_
 first | refine AtT.zD zP ?_ | refine AtT.zK zP ?_ | refine AtT.zC zP ?_
 refine AtT.zq rfl rfl ok19 (sheetP_f (zJ 4) _ _ (sv1 hs1)) ?_
 rintro _ rfl; rw [fourOk]
 refine AtT.keqI ?_
 refine AtT.qJ (d := 122) rfl (rfl) ?_
 refine AtT.zz ?_
 refine AtT.zh ?_
 refine AtT.kL 124 ?_
 refine AtT.zq rfl rfl ok16 (works_f _) ?_
 rintro _ rfl
 refine AtT.zz ?_
 refine AtT.zg ?_
 refine AtT.done ?_
 refine At.nrm ?_
 all_goals (exact At.qb rfl (.tmp rfl) rfl)
end Go.Proofs.YtghomjjffllkeaaGreatDoor
set_option linter.unusedVariables false
namespace Go.Proofs.YtghomjjffllkeaaGreatDoor.c12
open Go.Lw Go.Gl Go.Pm Go.RowKit Go.ChangeShapes Go.WideShapes Go.ChangeAt
set_option maxRecDepth 100000 in
theorem lifted (os : Os) (started : os.Started) (H : Type) (enc : TypeId × Value → H) :
    ReturnsInHanded {} Tryz.checked os 14 .any (fun w args => (Rows.patchKnownSpec.pre enc Tryz.prog Tryz.f14 [] false w args ∧ laidMetH Tryz.prog seatLaid w) ∧ sizedMet enc Tryz.prog Tryz.f14 (OpenSpec.ofChange Rows.patchKnownSpec) false w args) (Rows.patchKnownSpec.post enc Tryz.prog Tryz.f14 false true false false) := by
  refine law_liftL (tb := 4) (laid := seatLaid) (fun ds hd => by match ds, hd with | [], _ => rfl) rfl (by kernel_rfl) Tryz.underlying4 laidOut (by kernel_rfl) own started (by kernel_rfl) Tryz.func14
    (ChangeSpec.witness_shaped (enc := enc) (C := Tryz.checked) (os := os) (X := fun w _ => laidMetH Tryz.prog seatLaid w) false (World.laidAll Tryz.prog os seatLaid) #[] 8 (World.laidAll_os _ _ _)
      (World.shaped_of_ZipB (by kernel_rfl) (by kernel_rfl)) (by kernel_rfl) (by kernel_rfl) (by kernel_rfl) (seat_laid os _)) ?_
  intro W base args ds ps hval hA
  rw [Tryz.params14] at hA hval
  obtain ⟨hargs, rfl, rfl⟩ := trodAll_nil hA
  obtain rfl : args = #[] := by cases args; simp_all
  exact ⟨[], rfl, patchKnown_f _⟩

theorem over : Rows.patchKnownRow.holds Tryz.pinned (OpenSpec.ofChange Rows.patchKnownSpec) :=
  OpenClaim.holds_of_wide 14 Tryz.f14 rfl rfl rfl rfl rfl rfl rfl ⟨rfl, rfl, rfl, rfl, rfl⟩ rfl rfl rfl rfl rfl (by kernel_rfl) Tryz.func14 (by kernel_rfl)
    (of_decide_eq_true (by kernel_rfl)) (by unfold Func.isWrapper; first | (rw [if_pos (by decide +kernel)]; kernel_rfl) | (rw [if_neg (by decide +kernel)]; exact ⟨rfl, rfl⟩))
    (fun os started H enc _ => lifted os started H enc)

theorem proved : Rows.PatchKnownCardSaid :=
  Claim7.holds_tied_plain_at .later [] [.data, .pinned] true (true, "0d2a6361d0117277170b6b99c938bda2455ed98009332320e2a28814b9346cbd") false over (fun _ h => by cases h) (by kernel_rfl) (fun _ h => by cases h) patchKnown_row_tie rfl ⟨rfl, rfl⟩ (by kernel_rfl) rfl
    (fun f fn hf hfn => by
      obtain rfl : f = 14 := Option.some.inj ((show Tryz.prog.funcNamed "crossband/crossbandlaw04.PatchKnown" = some 14 by kernel_rfl).symm.trans hf) |>.symm
      obtain rfl : fn = Tryz.f14 := (Option.some.inj (Tryz.func14.symm.trans hfn)).symm
      exact ⟨by kernel_rfl, fun j t ht => by
        rw [Tryz.params14] at ht
        simp at ht⟩)


    (by kernel_rfl)
#print axioms proved
end Go.Proofs.YtghomjjffllkeaaGreatDoor.c12
