/- Texts that the last one of this claim imports. -/
import Derived.KernelRfl
import Derived.Test.YtfcpmblmklibjaaGreatProg
import Derived.Lib.QuoteBits
import Derived.Test.YtfcpmblmklibjaaGreatB1
set_option linter.unusedVariables false
set_option linter.unusedSimpArgs false
set_option linter.unusedSectionVars false
set_option linter.unusedVariables false
namespace Go.Lw
open Go.RowKit
section
variable {cx : Cx} {n : Nat} {ks : List (Nat × Value)} {O O' R R' O1 : List Own} {V V1 : View} {P : Program} {ops : Array Oper} {Qn : Act → World → Prop} {t : Tr} {i d : Nat} {T : TypeId} {pos : String} {after : Array Edge} {gd : Option (Nat × Bool)} {x y z : Operand} {u v : Value} {wr : Bool} {k : IntKind} {p q : Int} {X Y : TypeId} {K : Act → World → Prop} {Q : Exit → Act → World → Prop} {ro : Option Nat} {id : Nat}
theorem AtT.kmove {x : Operand} {v : Value} (next : AtT cx n ((d, v) :: ks) O V P ops Qn t) (ho : ops[i]? = some ⟨some d, .move x, T, pos, after, gd⟩ := by rfl) (hg : Gd ks ops gd := by first | exact trivial | exact ⟨_, _, rfl, rfl, rfl⟩) (hx : ev ks x = some v := by rfl) (hn : d < n := by decide) : AtT cx n ks O V P ops Qn (.q i t) := AtT.move ho hg hx hn next
theorem AtT.kassign {x : Operand} {v : Value} (next : AtT cx n ((d, v) :: ks) O V P ops Qn t) (ho : ops[i]? = some ⟨some d, .assign x, T, pos, after, gd⟩ := by rfl) (hg : Gd ks ops gd := by first | exact trivial | exact ⟨_, _, rfl, rfl, rfl⟩) (hx : ev ks x = some v := by rfl) (hn : d < n := by decide) : AtT cx n ks O V P ops Qn (.q i t) := AtT.assign ho hg hx hn next
theorem AtT.kpick {c x y : Operand} {b : Bool} {u v : Value} (next : AtT cx n ((d, bif b then u else v) :: ks) O V P ops Qn t) (ho : ops[i]? = some ⟨some d, .pick c x y, T, pos, after, gd⟩ := by rfl) (hg : Gd ks ops gd := by first | exact trivial | exact ⟨_, _, rfl, rfl, rfl⟩) (hc : ev ks c = some (.bool b) := by rfl) (hx : ev ks x = some u := by rfl) (hy : ev ks y = some v := by rfl) (hn : d < n := by decide) : AtT cx n ks O V P ops Qn (.q i t) := AtT.pick ho hg hc hx hy hn next
theorem AtT.kaddW  (next : AtT cx n ((d, .int k (k.wrap (p + q))) :: ks) O V P ops Qn t) (ho : ops[i]? = some ⟨some d, .binOp .add X x y Y, T, pos, after, gd⟩ := by rfl) (hg : Gd ks ops gd := by first | exact trivial | exact ⟨_, _, rfl, rfl, rfl⟩) (hx : ev ks x = some (.int k p) := by rfl) (hy : ev ks y = some (.int k q) := by rfl) (hn : d < n := by decide) : AtT cx n ks O V P ops Qn (.q i t) := AtT.addW ho hg hx hy hn next
theorem AtT.ksubW  (next : AtT cx n ((d, .int k (k.wrap (p - q))) :: ks) O V P ops Qn t) (ho : ops[i]? = some ⟨some d, .binOp .sub X x y Y, T, pos, after, gd⟩ := by rfl) (hg : Gd ks ops gd := by first | exact trivial | exact ⟨_, _, rfl, rfl, rfl⟩) (hx : ev ks x = some (.int k p) := by rfl) (hy : ev ks y = some (.int k q) := by rfl) (hn : d < n := by decide) : AtT cx n ks O V P ops Qn (.q i t) := AtT.subW ho hg hx hy hn next
theorem AtT.kmulW  (next : AtT cx n ((d, .int k (k.wrap (p * q))) :: ks) O V P ops Qn t) (ho : ops[i]? = some ⟨some d, .binOp .mul X x y Y, T, pos, after, gd⟩ := by rfl) (hg : Gd ks ops gd := by first | exact trivial | exact ⟨_, _, rfl, rfl, rfl⟩) (hx : ev ks x = some (.int k p) := by rfl) (hy : ev ks y = some (.int k q) := by rfl) (hn : d < n := by decide) : AtT cx n ks O V P ops Qn (.q i t) := AtT.mulW ho hg hx hy hn next
theorem AtT.kadd  (next : AtT cx n ((d, .int .i64 (p + q)) :: ks) O V P ops Qn t) (ho : ops[i]? = some ⟨some d, .binOp .add X x y Y, T, pos, after, gd⟩ := by rfl) (hg : Gd ks ops gd := by first | exact trivial | exact ⟨_, _, rfl, rfl, rfl⟩) (hx : ev ks x = some (.int .i64 p) := by rfl) (hy : ev ks y = some (.int .i64 q) := by rfl) (hf : Fit (p + q) := by first | assumption | exact Fit.of (by omega) (by omega)) (hn : d < n := by decide) : AtT cx n ks O V P ops Qn (.q i t) := AtT.add ho hg hx hy hn hf next
theorem AtT.ksubt  (next : AtT cx n ((d, .int .i64 (p - q)) :: ks) O V P ops Qn t) (ho : ops[i]? = some ⟨some d, .binOp .sub X x y Y, T, pos, after, gd⟩ := by rfl) (hg : Gd ks ops gd := by first | exact trivial | exact ⟨_, _, rfl, rfl, rfl⟩) (hx : ev ks x = some (.int .i64 p) := by rfl) (hy : ev ks y = some (.int .i64 q) := by rfl) (hf : Fit (p - q) := by first | assumption | exact Fit.of (by omega) (by omega)) (hn : d < n := by decide) : AtT cx n ks O V P ops Qn (.q i t) := AtT.subt ho hg hx hy hn hf next
theorem AtT.kmul  (next : AtT cx n ((d, .int .i64 (p * q)) :: ks) O V P ops Qn t) (ho : ops[i]? = some ⟨some d, .binOp .mul X x y Y, T, pos, after, gd⟩ := by rfl) (hg : Gd ks ops gd := by first | exact trivial | exact ⟨_, _, rfl, rfl, rfl⟩) (hx : ev ks x = some (.int .i64 p) := by rfl) (hy : ev ks y = some (.int .i64 q) := by rfl) (hf : Fit (p * q) := by first | assumption | exact Fit.of (by omega) (by omega)) (hn : d < n := by decide) : AtT cx n ks O V P ops Qn (.q i t) := AtT.mul ho hg hx hy hn hf next
theorem AtT.kquo  (next : AtT cx n ((d, .int .i64 (p.tdiv q)) :: ks) O V P ops Qn t) (ho : ops[i]? = some ⟨some d, .binOp .quo X x y Y, T, pos, after, gd⟩ := by rfl) (hg : Gd ks ops gd := by first | exact trivial | exact ⟨_, _, rfl, rfl, rfl⟩) (hx : ev ks x = some (.int .i64 p) := by rfl) (hy : ev ks y = some (.int .i64 q) := by rfl) (hq : q ≠ 0 := by omega) (hf : Fit (p.tdiv q) := by first | assumption | exact Fit.of (by omega) (by omega)) (hn : d < n := by decide) : AtT cx n ks O V P ops Qn (.q i t) := AtT.quo ho hg hx hy hn hq hf next
theorem AtT.krem  (next : AtT cx n ((d, .int k (p.tmod q)) :: ks) O V P ops Qn t) (ho : ops[i]? = some ⟨some d, .binOp .rem X x y Y, T, pos, after, gd⟩ := by rfl) (hg : Gd ks ops gd := by first | exact trivial | exact ⟨_, _, rfl, rfl, rfl⟩) (hx : ev ks x = some (.int k p) := by rfl) (hy : ev ks y = some (.int k q) := by rfl) (hq : q ≠ 0 := by omega) (hn : d < n := by decide) : AtT cx n ks O V P ops Qn (.q i t) := AtT.rem ho hg hx hy hn hq next
theorem AtT.keqI  (next : AtT cx n ((d, .bool (decide (p = q))) :: ks) O V P ops Qn t) (ho : ops[i]? = some ⟨some d, .binOp .eql X x y Y, T, pos, after, gd⟩ := by rfl) (hg : Gd ks ops gd := by first | exact trivial | exact ⟨_, _, rfl, rfl, rfl⟩) (hx : ev ks x = some (.int k p) := by rfl) (hy : ev ks y = some (.int k q) := by rfl) (hn : d < n := by decide) : AtT cx n ks O V P ops Qn (.q i t) := AtT.eqI ho hg hx hy hn next
theorem AtT.kneI  (next : AtT cx n ((d, .bool (decide (p ≠ q))) :: ks) O V P ops Qn t) (ho : ops[i]? = some ⟨some d, .binOp .neq X x y Y, T, pos, after, gd⟩ := by rfl) (hg : Gd ks ops gd := by first | exact trivial | exact ⟨_, _, rfl, rfl, rfl⟩) (hx : ev ks x = some (.int k p) := by rfl) (hy : ev ks y = some (.int k q) := by rfl) (hn : d < n := by decide) : AtT cx n ks O V P ops Qn (.q i t) := AtT.neI ho hg hx hy hn next
theorem AtT.klss  (next : AtT cx n ((d, .bool (decide (p < q))) :: ks) O V P ops Qn t) (ho : ops[i]? = some ⟨some d, .binOp .lss X x y Y, T, pos, after, gd⟩ := by rfl) (hg : Gd ks ops gd := by first | exact trivial | exact ⟨_, _, rfl, rfl, rfl⟩) (hx : ev ks x = some (.int k p) := by rfl) (hy : ev ks y = some (.int k q) := by rfl) (hn : d < n := by decide) : AtT cx n ks O V P ops Qn (.q i t) := AtT.lss ho hg hx hy hn next
theorem AtT.kleq  (next : AtT cx n ((d, .bool (decide (p ≤ q))) :: ks) O V P ops Qn t) (ho : ops[i]? = some ⟨some d, .binOp .leq X x y Y, T, pos, after, gd⟩ := by rfl) (hg : Gd ks ops gd := by first | exact trivial | exact ⟨_, _, rfl, rfl, rfl⟩) (hx : ev ks x = some (.int k p) := by rfl) (hy : ev ks y = some (.int k q) := by rfl) (hn : d < n := by decide) : AtT cx n ks O V P ops Qn (.q i t) := AtT.leq ho hg hx hy hn next
theorem AtT.kgtr  (next : AtT cx n ((d, .bool (decide (q < p))) :: ks) O V P ops Qn t) (ho : ops[i]? = some ⟨some d, .binOp .gtr X x y Y, T, pos, after, gd⟩ := by rfl) (hg : Gd ks ops gd := by first | exact trivial | exact ⟨_, _, rfl, rfl, rfl⟩) (hx : ev ks x = some (.int k p) := by rfl) (hy : ev ks y = some (.int k q) := by rfl) (hn : d < n := by decide) : AtT cx n ks O V P ops Qn (.q i t) := AtT.gtr ho hg hx hy hn next
theorem AtT.kgeq  (next : AtT cx n ((d, .bool (decide (q ≤ p))) :: ks) O V P ops Qn t) (ho : ops[i]? = some ⟨some d, .binOp .geq X x y Y, T, pos, after, gd⟩ := by rfl) (hg : Gd ks ops gd := by first | exact trivial | exact ⟨_, _, rfl, rfl, rfl⟩) (hx : ev ks x = some (.int k p) := by rfl) (hy : ev ks y = some (.int k q) := by rfl) (hn : d < n := by decide) : AtT cx n ks O V P ops Qn (.q i t) := AtT.geq ho hg hx hy hn next
theorem AtT.keqB {a b : Bool} (hT : P.underlying X = some .bool) (next : AtT cx n ((d, .bool (a == b)) :: ks) O V P ops Qn t) (ho : ops[i]? = some ⟨some d, .binOp .eql X x y Y, T, pos, after, gd⟩ := by rfl) (hg : Gd ks ops gd := by first | exact trivial | exact ⟨_, _, rfl, rfl, rfl⟩) (hx : ev ks x = some (.bool a) := by rfl) (hy : ev ks y = some (.bool b) := by rfl) (hn : d < n := by decide) : AtT cx n ks O V P ops Qn (.q i t) := AtT.eqB ho hg hT hx hy hn next
theorem AtT.knegW  (next : AtT cx n ((d, .int k (k.wrap (-p))) :: ks) O V P ops Qn t) (ho : ops[i]? = some ⟨some d, .unOp .neg X x, T, pos, after, gd⟩ := by rfl) (hg : Gd ks ops gd := by first | exact trivial | exact ⟨_, _, rfl, rfl, rfl⟩) (hx : ev ks x = some (.int k p) := by rfl) (hn : d < n := by decide) : AtT cx n ks O V P ops Qn (.q i t) := AtT.negW ho hg hx hn next
theorem AtT.kneg  (next : AtT cx n ((d, .int .i64 (-p)) :: ks) O V P ops Qn t) (ho : ops[i]? = some ⟨some d, .unOp .neg X x, T, pos, after, gd⟩ := by rfl) (hg : Gd ks ops gd := by first | exact trivial | exact ⟨_, _, rfl, rfl, rfl⟩) (hx : ev ks x = some (.int .i64 p) := by rfl) (hf : Fit (-p) := by first | assumption | exact Fit.of (by omega) (by omega)) (hn : d < n := by decide) : AtT cx n ks O V P ops Qn (.q i t) := AtT.neg ho hg hx hn hf next
theorem AtT.knot {b : Bool} (next : AtT cx n ((d, .bool (!b)) :: ks) O V P ops Qn t) (ho : ops[i]? = some ⟨some d, .unOp .not X x, T, pos, after, gd⟩ := by rfl) (hg : Gd ks ops gd := by first | exact trivial | exact ⟨_, _, rfl, rfl, rfl⟩) (hx : ev ks x = some (.bool b) := by rfl) (hn : d < n := by decide) : AtT cx n ks O V P ops Qn (.q i t) := AtT.not ho hg hx hn next
theorem AtT.kconv {src : TypeId} {k' : IntKind} (hs : (P.underlying src).isSome = true) (hX : P.underlying X = some (.int k)) (next : AtT cx n ((d, .int k (k.wrap p)) :: ks) O V P ops Qn t) (ho : ops[i]? = some ⟨some d, .convert src X x, T, pos, after, gd⟩ := by rfl) (hg : Gd ks ops gd := by first | exact trivial | exact ⟨_, _, rfl, rfl, rfl⟩) (hx : ev ks x = some (.int k' p) := by rfl) (hn : d < n := by decide) : AtT cx n ks O V P ops Qn (.q i t) := AtT.conv ho hg hs hX hx hn next
theorem AtT.kmax2  (next : AtT cx n ((d, .int k (max p q)) :: ks) O V P ops Qn t) (ho : ops[i]? = some ⟨some d, .call ⟨.builtin .max, #[x, y], #[X, Y]⟩, T, pos, after, gd⟩ := by rfl) (hg : Gd ks ops gd := by first | exact trivial | exact ⟨_, _, rfl, rfl, rfl⟩) (hx : ev ks x = some (.int k p) := by rfl) (hy : ev ks y = some (.int k q) := by rfl) (hn : d < n := by decide) : AtT cx n ks O V P ops Qn (.q i t) := AtT.max2 ho hg hx hy hn next
theorem AtT.kmin2  (next : AtT cx n ((d, .int k (min p q)) :: ks) O V P ops Qn t) (ho : ops[i]? = some ⟨some d, .call ⟨.builtin .min, #[x, y], #[X, Y]⟩, T, pos, after, gd⟩ := by rfl) (hg : Gd ks ops gd := by first | exact trivial | exact ⟨_, _, rfl, rfl, rfl⟩) (hx : ev ks x = some (.int k p) := by rfl) (hy : ev ks y = some (.int k q) := by rfl) (hn : d < n := by decide) : AtT cx n ks O V P ops Qn (.q i t) := AtT.min2 ho hg hx hy hn next
theorem AtT.kload {X : TypeId} {p : Addr} {s : Nat} (hT : tkB P X = some (false, s)) (next : AtT cx n ((d, v) :: ks) O V P ops Qn t) (ho : ops[i]? = some ⟨some d, .load X x, T, pos, after, gd⟩ := by rfl) (hg : Gd ks ops gd := by first | exact trivial | exact ⟨_, _, rfl, rfl, rfl⟩) (hx : ev ks x = some (.pointer (some p)) := by rfl) (hc : vcell V p = some v := by first | exact vcell_of (by assumption) (by rfl) | exact vcell_of0 (by assumption) (by rfl) | exact vcell_of (Cells.le (by assumption) (by assumption)) (by rfl) | exact vcell_of0 (Cells.le (by assumption) (by assumption)) (by rfl)) (hn : d < n := by decide) : AtT cx n ks O V P ops Qn (.q i t) := AtT.load ho hg hx hT hc hn next
theorem AtT.kloadA {X : TypeId} {p : Addr} {us : List Value} {m : Nat} (hT : tkB P X = some (true, m)) (next : AtT cx n ((d, .agg us.toArray) :: ks) O V P ops Qn t) (ho : ops[i]? = some ⟨some d, .load X x, T, pos, after, gd⟩ := by rfl) (hg : Gd ks ops gd := by first | exact trivial | exact ⟨_, _, rfl, rfl, rfl⟩) (hx : ev ks x = some (.pointer (some p)) := by rfl) (hc : Cells V p us := by first | assumption | exact Cells.le (by assumption) (by assumption)) (hl : us.length = m := by rfl) (hn : d < n := by decide) : AtT cx n ks O V P ops Qn (.q i t) := AtT.loadA ho hg hx hT hc hl hn next
theorem AtT.kloadO {X : TypeId} {b off : Nat} {cs : List Value} {E : TypeId} {fr : Nat × Nat} {s : Nat} (hT : tkB P X = some (false, s)) (next : AtT cx n ((d, v) :: ks) O V P ops Qn t) (ho : ops[i]? = some ⟨some d, .load X x, T, pos, after, gd⟩ := by rfl) (hg : Gd ks ops gd := by first | exact trivial | exact ⟨_, _, rfl, rfl, rfl⟩) (hx : ev ks x = some (.pointer (some ⟨b, off, none⟩)) := by rfl) (hp : Pick (.blk b (LC cs E fr)) O R := by repeat (first | exact Pick.here | apply Pick.there)) (hc : cs[off]? = some v := by rfl) (hn : d < n := by decide) : AtT cx n ks O V P ops Qn (.q i t) := AtT.loadO ho hg hx hT hp hc hn next
theorem AtT.kloadOA {X : TypeId} {b : Nat} {cs : List Value} {E : TypeId} {fr : Nat × Nat} {m : Nat} (hT : tkB P X = some (true, m)) (next : AtT cx n ((d, .agg cs.toArray) :: ks) O V P ops Qn t) (ho : ops[i]? = some ⟨some d, .load X x, T, pos, after, gd⟩ := by rfl) (hg : Gd ks ops gd := by first | exact trivial | exact ⟨_, _, rfl, rfl, rfl⟩) (hx : ev ks x = some (.pointer (some ⟨b, 0, none⟩)) := by rfl) (hp : Pick (.blk b (LC cs E fr)) O R := by repeat (first | exact Pick.here | apply Pick.there)) (hl : cs.length = m := by rfl) (hn : d < n := by decide) : AtT cx n ks O V P ops Qn (.q i t) := AtT.loadOA ho hg hx hT hp hl hn next
theorem AtT.kloadOP {X : TypeId} {b off : Nat} {cs us : List Value} {E : TypeId} {fr : Nat × Nat} {m : Nat} (hT : tkB P X = some (true, m)) (next : AtT cx n ((d, .agg us.toArray) :: ks) O V P ops Qn t) (ho : ops[i]? = some ⟨some d, .load X x, T, pos, after, gd⟩ := by rfl) (hg : Gd ks ops gd := by first | exact trivial | exact ⟨_, _, rfl, rfl, rfl⟩) (hx : ev ks x = some (.pointer (some ⟨b, off, none⟩)) := by rfl) (hp : Pick (.blk b (LC cs E fr)) O R := by repeat (first | exact Pick.here | apply Pick.there)) (hu : (cs.drop off).take m = us := by rfl) (hl : us.length = m := by rfl) (hn : d < n := by decide) : AtT cx n ks O V P ops Qn (.q i t) := AtT.loadOP ho hg hx hT hp hu hl hn next
theorem AtT.kfield {S f : Nat} {p : Addr} {k : Nat} (hf : foB P S f = some k) (next : AtT cx n ((d, .pointer (some (p.add k))) :: ks) O V P ops Qn t) (ho : ops[i]? = some ⟨some d, .fieldAddr S x f, T, pos, after, gd⟩ := by rfl) (hg : Gd ks ops gd := by first | exact trivial | exact ⟨_, _, rfl, rfl, rfl⟩) (hx : ev ks x = some (.pointer (some p)) := by rfl) (hn : d < n := by decide) : AtT cx n ks O V P ops Qn (.q i t) := AtT.field ho hg hx hf hn next
theorem AtT.kfield2 {S f : Nat} {p : Addr} {j k : Nat} (hf : foB P S f = some k) (next : AtT cx n ((d, .pointer (some (p.add (j + k)))) :: ks) O V P ops Qn t) (ho : ops[i]? = some ⟨some d, .fieldAddr S x f, T, pos, after, gd⟩ := by rfl) (hg : Gd ks ops gd := by first | exact trivial | exact ⟨_, _, rfl, rfl, rfl⟩) (hx : ev ks x = some (.pointer (some (p.add j))) := by rfl) (hn : d < n := by decide) : AtT cx n ks O V P ops Qn (.q i t) := AtT.field2 ho hg hx hf hn next
theorem AtT.kfieldO {S f : Nat} {b off : Nat} {k : Nat} (hf : foB P S f = some k) (next : AtT cx n ((d, .pointer (some ⟨b, off + k, none⟩)) :: ks) O V P ops Qn t) (ho : ops[i]? = some ⟨some d, .fieldAddr S x f, T, pos, after, gd⟩ := by rfl) (hg : Gd ks ops gd := by first | exact trivial | exact ⟨_, _, rfl, rfl, rfl⟩) (hx : ev ks x = some (.pointer (some ⟨b, off, none⟩)) := by rfl) (hn : d < n := by decide) : AtT cx n ks O V P ops Qn (.q i t) := AtT.fieldO ho hg hx hf hn next
theorem AtT.knil {p : Addr} (next : AtT cx n ((d, .pointer (some p)) :: ks) O V P ops Qn t) (ho : ops[i]? = some ⟨some d, .nilCheck x, T, pos, after, gd⟩ := by rfl) (hg : Gd ks ops gd := by first | exact trivial | exact ⟨_, _, rfl, rfl, rfl⟩) (hx : ev ks x = some (.pointer (some p)) := by rfl) (hn : d < n := by decide) : AtT cx n ks O V P ops Qn (.q i t) := AtT.nil ho hg hx hn next
theorem AtT.kidx {α : Type} {X E : TypeId} {enc : α → List Value} {s : Nat} {l : List α} {k : IntKind} {j : Int} {ag : Bool} (hX : P.underlying X = some (.slice E)) (hE : tkB P E = some (ag, s)) (next : ∀ (p : Addr) (e : α), l[j.toNat]? = some e → Cells V p (enc e) → AtT cx n ((d, .pointer (some p)) :: ks) O V P ops Qn t) (ho : ops[i]? = some ⟨some d, .indexAddr X x y, T, pos, after, gd⟩ := by rfl) (hg : Gd ks ops gd := by first | exact trivial | exact ⟨_, _, rfl, rfl, rfl⟩) (hx : ev ks x = some v := by rfl) (hy : ev ks y = some (.int k j) := by rfl) (hl : Sl V enc s v l := by first | assumption | exact Sl.le (by assumption) (by assumption)) (h0 : 0 ≤ j := by omega) (h1 : j < l.length := by omega) (hn : d < n := by decide) : AtT cx n ks O V P ops Qn (.q i t) := AtT.idx ho hg hX hE hx hl hy h0 h1 hn next
theorem AtT.kidxA {X E : TypeId} {len s : Nat} {k : IntKind} {j : Int} {b off : Nat} {ag : Bool} (hX : P.underlying X = some (.array len E)) (hE : tkB P E = some (ag, s)) (next : AtT cx n ((d, .pointer (some ⟨b, off + j.toNat * s, none⟩)) :: ks) O V P ops Qn t) (ho : ops[i]? = some ⟨some d, .indexAddr X x y, T, pos, after, gd⟩ := by rfl) (hg : Gd ks ops gd := by first | exact trivial | exact ⟨_, _, rfl, rfl, rfl⟩) (hx : ev ks x = some (.pointer (some ⟨b, off, none⟩)) := by rfl) (hy : ev ks y = some (.int k j) := by rfl) (h0 : 0 ≤ j := by omega) (h1 : j < len := by omega) (hn : d < n := by decide) : AtT cx n ks O V P ops Qn (.q i t) := AtT.idxA ho hg hX hE hx hy h0 h1 hn next
theorem AtT.kidxO {X E : TypeId} {len cap s : Nat} {k : IntKind} {j : Int} {b off : Nat} {ag : Bool} (hX : P.underlying X = some (.slice E)) (hE : tkB P E = some (ag, s)) (next : AtT cx n ((d, .pointer (some ⟨b, off + j.toNat * s, none⟩)) :: ks) O V P ops Qn t) (ho : ops[i]? = some ⟨some d, .indexAddr X x y, T, pos, after, gd⟩ := by rfl) (hg : Gd ks ops gd := by first | exact trivial | exact ⟨_, _, rfl, rfl, rfl⟩) (hx : ev ks x = some (.slice (some ⟨b, off, none⟩) len cap) := by rfl) (hy : ev ks y = some (.int k j) := by rfl) (h0 : 0 ≤ j := by omega) (h1 : j < len := by omega) (hn : d < n := by decide) : AtT cx n ks O V P ops Qn (.q i t) := AtT.idxO ho hg hX hE hx hy h0 h1 hn next
theorem AtT.klenS {α : Type} {X E : TypeId} {enc : α → List Value} {s : Nat} {l : List α} (hX : P.underlying X = some (.slice E)) (next : AtT cx n ((d, .int .i64 l.length) :: ks) O V P ops Qn t) (ho : ops[i]? = some ⟨some d, .call ⟨.builtin .len, #[x], #[X]⟩, T, pos, after, gd⟩ := by rfl) (hg : Gd ks ops gd := by first | exact trivial | exact ⟨_, _, rfl, rfl, rfl⟩) (hx : ev ks x = some v := by rfl) (hl : Sl V enc s v l := by first | assumption | exact Sl.le (by assumption) (by assumption)) (hn : d < n := by decide) : AtT cx n ks O V P ops Qn (.q i t) := AtT.lenS ho hg hX hx hl hn next
theorem AtT.klenR {X E : TypeId} {a : Option Addr} {m cap : Nat} (hX : P.underlying X = some (.slice E)) (next : AtT cx n ((d, .int .i64 m) :: ks) O V P ops Qn t) (ho : ops[i]? = some ⟨some d, .call ⟨.builtin .len, #[x], #[X]⟩, T, pos, after, gd⟩ := by rfl) (hg : Gd ks ops gd := by first | exact trivial | exact ⟨_, _, rfl, rfl, rfl⟩) (hx : ev ks x = some (.slice a m cap) := by rfl) (hn : d < n := by decide) : AtT cx n ks O V P ops Qn (.q i t) := AtT.lenR ho hg hX hx hn next
theorem AtT.kalloc {E : TypeId} {z : Value} {cs : List Value} (hz : zeroB P E = some z) (next : ∀ b, AtT cx n ((d, .pointer (some ⟨b, 0, none⟩)) :: ks) (.blk b (LC cs E) :: O) V P ops Qn t) (ho : ops[i]? = some ⟨some d, .alloc E, T, pos, after, gd⟩ := by rfl) (hg : Gd ks ops gd := by first | exact trivial | exact ⟨_, _, rfl, rfl, rfl⟩) (hc : z.cells = cs.toArray := by rfl) (hn : d < n := by decide) : AtT cx n ks O V P ops Qn (.n wr i t) := AtT.alloc ho hg hz hc hn next
theorem AtT.kbox {E : TypeId} {cs : List Value} (next : ∀ b, AtT cx n ((d, .pointer (some ⟨b, 0, none⟩)) :: ks) (.blk b (LC cs E) :: O) V P ops Qn t) (ho : ops[i]? = some ⟨some d, .box E x, T, pos, after, gd⟩ := by rfl) (hg : Gd ks ops gd := by first | exact trivial | exact ⟨_, _, rfl, rfl, rfl⟩) (hx : ev ks x = some v := by rfl) (hc : v.cells = cs.toArray := by rfl) (hn : d < n := by decide) : AtT cx n ks O V P ops Qn (.n wr i t) := AtT.box ho hg hx hc hn next
theorem AtT.kbuild {X : TypeId} {ps : List (Nat × Operand)} {vs : List (Nat × Value)} (hr : ∀ w, (Instr.build X vs.toArray).run P w = .ok v w) (next : AtT cx n ((d, v) :: ks) O V P ops Qn t) (ho : ops[i]? = some ⟨some d, .build X ps.toArray, T, pos, after, gd⟩ := by rfl) (hg : Gd ks ops gd := by first | exact trivial | exact ⟨_, _, rfl, rfl, rfl⟩) (hp : evp ks ps = some vs := by rfl) (hn : d < n := by decide) : AtT cx n ks O V P ops Qn (.q i t) := AtT.build ho hg hp hr hn next
theorem AtT.kbslice {X E : TypeId} {m : Nat} {cs : List Value} {ps : List (Nat × Operand)} {vs : List (Nat × Value)} (hr : ∀ w, (Instr.buildSlice X m vs.toArray).run P w = .ok (.slice (some ⟨w.heap.size, 0, none⟩) m m) (w.alloc (LC cs E))) (next : ∀ b, AtT cx n ((d, .slice (some ⟨b, 0, none⟩) m m) :: ks) (.blk b (LC cs E) :: O) V P ops Qn t) (ho : ops[i]? = some ⟨some d, .buildSlice X m ps.toArray, T, pos, after, gd⟩ := by rfl) (hg : Gd ks ops gd := by first | exact trivial | exact ⟨_, _, rfl, rfl, rfl⟩) (hp : evp ks ps = some vs := by rfl) (hn : d < n := by decide) : AtT cx n ks O V P ops Qn (.n wr i t) := AtT.bslice ho hg hp hr hn next
theorem AtT.kfn {f : Fn} {fs cs : List Operand} {us vs : List Value} (next : AtT cx n ((d, .func f us.toArray vs.toArray) :: ks) O V P ops Qn t) (ho : ops[i]? = some ⟨some d, .makeFunc f fs.toArray cs.toArray, T, pos, after, gd⟩ := by rfl) (hg : Gd ks ops gd := by first | exact trivial | exact ⟨_, _, rfl, rfl, rfl⟩) (hf : evs ks fs = some us := by rfl) (hc : evs ks cs = some vs := by rfl) (hn : d < n := by decide) : AtT cx n ks O V P ops Qn (.q i t) := AtT.fn ho hg hf hc hn next
theorem AtT.kstore1 {X E : TypeId} {b off : Nat} {cs cs' : List Value} (hT : tkB P X = some (false, 1)) (next : AtT cx n ks O' V P ops Qn t) (ho : ops[i]? = some ⟨none, .store X x y, T, pos, after, gd⟩ := by rfl) (hg : Gd ks ops gd := by first | exact trivial | exact ⟨_, _, rfl, rfl, rfl⟩) (hx : ev ks x = some (.pointer (some ⟨b, off, none⟩)) := by rfl) (hy : ev ks y = some v := by rfl) (hp : Upd (.blk b (LC cs E)) (.blk b (LC cs' E)) O O' := by repeat (first | exact Upd.here | apply Upd.there)) (hs : SetAt cs off v cs' := by repeat (first | exact SetAt.here | apply SetAt.there)) (hv : v.cells = [v].toArray := by rfl) (h1 : v.oneCell' = true := by rfl) : AtT cx n ks O V P ops Qn (.n true i t) := AtT.store1 ho hg hx hy hT hv h1 hp hs next
theorem AtT.kstoreA {X E : TypeId} {b : Nat} {cs us : List Value} {m : Nat} (hT : tkB P X = some (true, m)) (next : AtT cx n ks O' V P ops Qn t) (ho : ops[i]? = some ⟨none, .store X x y, T, pos, after, gd⟩ := by rfl) (hg : Gd ks ops gd := by first | exact trivial | exact ⟨_, _, rfl, rfl, rfl⟩) (hx : ev ks x = some (.pointer (some ⟨b, 0, none⟩)) := by rfl) (hy : ev ks y = some (.agg us.toArray) := by rfl) (hp : Upd (.blk b (LC cs E)) (.blk b (LC us E)) O O' := by repeat (first | exact Upd.here | apply Upd.there)) (hm' : us.length = m := by rfl) (hl : cs.length = m := by rfl) (h1 : us.all Value.oneCell' = true := by rfl) : AtT cx n ks O V P ops Qn (.n true i t) := AtT.storeA ho hg hx hy hT hm' hl h1 hp next
theorem AtT.kcall {f : FuncId} {args : List Operand} {ts : Array TypeId} {vs : List Value} {R : Value → View → Prop} (ho : ops[i]? = some ⟨some d, .call ⟨.value (.func f), args.toArray, ts⟩, T, pos, after, gd⟩) (ha : evs ks args = some vs) (hf : CallOk P f) (hc : Fnc P f vs V R) (next : ∀ v V', Le V V' → R v V' → AtT cx n ((d, v) :: ks) O V' P ops Qn t) (hg : Gd ks ops gd := by first | exact trivial | exact ⟨_, _, rfl, rfl, rfl⟩) (hn : d < n := by decide) : AtT cx n ks O V P ops Qn (.n wr i t) := AtT.call ho hg ha hf hn hc next
theorem AtT.kcallP {f : FuncId} {args : List Operand} {ts : Array TypeId} {vs : List Value} {R : Value → Prop} (ho : ops[i]? = some ⟨some d, .call ⟨.value (.func f), args.toArray, ts⟩, T, pos, after, gd⟩) (ha : evs ks args = some vs) (hf : CallOk P f) (hc : Fnc P f vs V (fun v _ => R v)) (next : ∀ v, R v → AtT cx n ((d, v) :: ks) O V P ops Qn t) (hg : Gd ks ops gd := by first | exact trivial | exact ⟨_, _, rfl, rfl, rfl⟩) (hn : d < n := by decide) : AtT cx n ks O V P ops Qn (.n wr i t) := AtT.callP ho hg ha hf hn hc next
theorem AtT.kcallV {c : Operand} {f : FuncId} {args : List Operand} {fs cs : List Value} {ts : Array TypeId} {vs : List Value} {R : Value → Prop} (ho : ops[i]? = some ⟨some d, .call ⟨.value c, args.toArray, ts⟩, T, pos, after, gd⟩) (hcv : ev ks c = some (.func (.func f) fs.toArray cs.toArray)) (ha : evs ks args = some vs) (hf : CallOk P f) (hc : Fnc P f (fs ++ vs ++ cs) V (fun v _ => R v)) (next : ∀ v, R v → AtT cx n ((d, v) :: ks) O V P ops Qn t) (hg : Gd ks ops gd := by first | exact trivial | exact ⟨_, _, rfl, rfl, rfl⟩) (hn : d < n := by decide) : AtT cx n ks O V P ops Qn (.n wr i t) := AtT.callV ho hg hcv ha hf hn hc next
theorem AtT.kcallO {f : FuncId} {args : List Operand} {ts : Array TypeId} {vs : List Value} {R : Value → Prop} (ho : ops[i]? = some ⟨some d, .call ⟨.value (.func f), args.toArray, ts⟩, T, pos, after, gd⟩) (ha : evs ks args = some vs) (hf : CallOk P f) (hc : Fnc P f vs (ovl V O) (fun v _ => R v)) (next : ∀ v, R v → AtT cx n ((d, v) :: ks) O V P ops Qn t) (hg : Gd ks ops gd := by first | exact trivial | exact ⟨_, _, rfl, rfl, rfl⟩) (hn : d < n := by decide) : AtT cx n ks O V P ops Qn (.n wr i t) := AtT.callO ho hg ha hf hn hc next
theorem AtT.kcallVO {c : Operand} {f : FuncId} {args : List Operand} {fs cs : List Value} {ts : Array TypeId} {vs : List Value} {R : Value → Prop} (ho : ops[i]? = some ⟨some d, .call ⟨.value c, args.toArray, ts⟩, T, pos, after, gd⟩) (hcv : ev ks c = some (.func (.func f) fs.toArray cs.toArray)) (ha : evs ks args = some vs) (hf : CallOk P f) (hc : Fnc P f (fs ++ vs ++ cs) (ovl V O) (fun v _ => R v)) (next : ∀ v, R v → AtT cx n ((d, v) :: ks) O V P ops Qn t) (hg : Gd ks ops gd := by first | exact trivial | exact ⟨_, _, rfl, rfl, rfl⟩) (hn : d < n := by decide) : AtT cx n ks O V P ops Qn (.n wr i t) := AtT.callVO ho hg hcv ha hf hn hc next
theorem AtT.kextract {us : List Value} {j : Nat} (next : AtT cx n ((d, v) :: ks) O V P ops Qn t) (ho : ops[i]? = some ⟨some d, .extract x j, T, pos, after, gd⟩ := by rfl) (hg : Gd ks ops gd := by first | exact trivial | exact ⟨_, _, rfl, rfl, rfl⟩) (hx : ev ks x = some (.tuple us.toArray) := by rfl) (hu : us[j]? = some v := by rfl) (hn : d < n := by decide) : AtT cx n ks O V P ops Qn (.q i t) := AtT.extract ho hg hx hu hn next
theorem AtT.kbsliceG {X E : TypeId} {m : Nat} {cs : List Value} {ps : List (Nat × Operand)} {vs : List (Nat × Value)} (hr : ∀ w, (Instr.buildSlice X m vs.toArray).run P w = .ok (.slice (some ⟨w.heap.size, 0, none⟩) m m) (w.alloc (LC cs E))) (next : ∀ q V', Le V V' → Cells V' q cs → AtT cx n ((d, .slice (some q) m m) :: ks) O V' P ops Qn t) (ho : ops[i]? = some ⟨some d, .buildSlice X m ps.toArray, T, pos, after, gd⟩ := by rfl) (hg : Gd ks ops gd := by first | exact trivial | exact ⟨_, _, rfl, rfl, rfl⟩) (hp : evp ks ps = some vs := by rfl) (hn : d < n := by decide) : AtT cx n ks O V P ops Qn (.n wr i t) := AtT.bsliceG ho hg hp hr hn next
theorem AtT.kappend {X E : TypeId} {z : Value} {s by_ m k c : Nat} {xs news : List Value} {q : Addr} (hX : P.underlying X = some (.slice E)) (hE : rowB P E = some (z, s, by_)) (next : ∀ a cap, AtT cx n ((d, .slice a (m + k) cap) :: ks) (.row (.slice a (m + k) cap) E s (m + k) (xs ++ news) :: R) V P ops Qn t) (ho : ops[i]? = some ⟨some d, .call ⟨.builtin .append, #[x, y], #[X, X]⟩, T, pos, after, gd⟩ := by rfl) (hg : Gd ks ops gd := by first | exact trivial | exact ⟨_, _, rfl, rfl, rfl⟩) (hx : ev ks x = some v := by rfl) (hy : ev ks y = some (.slice (some q) k c) := by rfl) (hp : Pick (.row v E s m xs) O R := by repeat (first | exact Pick.here | apply Pick.there)) (hc : Cells V q news := by first | assumption | exact Cells.le (by assumption) (by assumption)) (hzs : z.cells.size = s := by rfl) (hl : news.length = k * s := by rfl) (h1 : news.all Value.oneCell' = true := by rfl) (hb : m + k ≤ maxLen := by first | omega | (unfold maxLen; omega)) (hby : (m + k) * by_ ≤ 140737488355328 := by omega) (hs : 0 < s := by decide) (hn : d < n := by decide) : AtT cx n ks O V P ops Qn (.n true i t) := AtT.append ho hg hX hE hzs hs hx hy hp hc hl h1 hb hby hn next
theorem AtT.kclip {α : Type} {enc : α → List Value} {l : List α} {X E : TypeId} {s : Nat} {ag : Bool} {h : Int} {h' m' : Operand} {k k2 : IntKind} (hX : P.underlying X = some (.slice E)) (hE : tkB P E = some (ag, s)) (next : ∀ a, Sl V enc s (.slice a (l.take h.toNat).length (l.take h.toNat).length) (l.take h.toNat) → AtT cx n ((d, .slice a (l.take h.toNat).length (l.take h.toNat).length) :: ks) O V P ops Qn t) (ho : ops[i]? = some ⟨some d, .slice X x none (some h') (some m'), T, pos, after, gd⟩ := by rfl) (hg : Gd ks ops gd := by first | exact trivial | exact ⟨_, _, rfl, rfl, rfl⟩) (hx : ev ks x = some v := by rfl) (hh : ev ks h' = some (.int k h) := by rfl) (hm' : ev ks m' = some (.int k2 h) := by rfl) (hv : Sl V enc s v l := by first | assumption | exact Sl.le (by assumption) (by assumption)) (h0 : 0 ≤ h := by omega) (h1 : h ≤ l.length := by omega) (hn : d < n := by decide) : AtT cx n ks O V P ops Qn (.q i t) := AtT.clip ho hg hX hE hx hv hh hm' h0 h1 hn next
theorem AtT.kclipAll {α : Type} {enc : α → List Value} {l : List α} {X E : TypeId} {s : Nat} {ag : Bool} {h' m' : Operand} {k k2 : IntKind} (hX : P.underlying X = some (.slice E)) (hE : tkB P E = some (ag, s)) (next : ∀ a, Sl V enc s (.slice a l.length l.length) l → AtT cx n ((d, .slice a l.length l.length) :: ks) O V P ops Qn t) (ho : ops[i]? = some ⟨some d, .slice X x none (some h') (some m'), T, pos, after, gd⟩ := by rfl) (hg : Gd ks ops gd := by first | exact trivial | exact ⟨_, _, rfl, rfl, rfl⟩) (hx : ev ks x = some v := by rfl) (hh : ev ks h' = some (.int k (l.length : Int)) := by rfl) (hm' : ev ks m' = some (.int k2 (l.length : Int)) := by rfl) (hv : Sl V enc s v l := by first | assumption | exact Sl.le (by assumption) (by assumption)) (hn : d < n := by decide) : AtT cx n ks O V P ops Qn (.q i t) := AtT.clipAll ho hg hX hE hx hv hh hm' hn next
theorem AtT.ktail {α : Type} {enc : α → List Value} {l : List α} {X E : TypeId} {s : Nat} {ag : Bool} {lo : Int} {lo' : Operand} {k : IntKind} (hX : P.underlying X = some (.slice E)) (hE : tkB P E = some (ag, s)) (next : ∀ a cap, Sl V enc s (.slice a (l.drop lo.toNat).length cap) (l.drop lo.toNat) → AtT cx n ((d, .slice a (l.drop lo.toNat).length cap) :: ks) O V P ops Qn t) (ho : ops[i]? = some ⟨some d, .slice X x (some lo') none none, T, pos, after, gd⟩ := by rfl) (hg : Gd ks ops gd := by first | exact trivial | exact ⟨_, _, rfl, rfl, rfl⟩) (hx : ev ks x = some v := by rfl) (hh : ev ks lo' = some (.int k lo) := by rfl) (hv : Sl V enc s v l := by first | assumption | exact Sl.le (by assumption) (by assumption)) (h0 : 0 ≤ lo := by omega) (h1 : lo ≤ l.length := by omega) (hn : d < n := by decide) : AtT cx n ks O V P ops Qn (.q i t) := AtT.tail ho hg hX hE hx hv hh h0 h1 hn next
theorem AtT.khead {α : Type} {enc : α → List Value} {l : List α} {X E : TypeId} {s : Nat} {ag : Bool} {h : Int} {h' : Operand} {k : IntKind} (hX : P.underlying X = some (.slice E)) (hE : tkB P E = some (ag, s)) (next : ∀ a cap, Sl V enc s (.slice a (l.take h.toNat).length cap) (l.take h.toNat) → AtT cx n ((d, .slice a (l.take h.toNat).length cap) :: ks) O V P ops Qn t) (ho : ops[i]? = some ⟨some d, .slice X x none (some h') none, T, pos, after, gd⟩ := by rfl) (hg : Gd ks ops gd := by first | exact trivial | exact ⟨_, _, rfl, rfl, rfl⟩) (hx : ev ks x = some v := by rfl) (hh : ev ks h' = some (.int k h) := by rfl) (hv : Sl V enc s v l := by first | assumption | exact Sl.le (by assumption) (by assumption)) (h0 : 0 ≤ h := by omega) (h1 : h ≤ l.length := by omega) (hn : d < n := by decide) : AtT cx n ks O V P ops Qn (.q i t) := AtT.head ho hg hX hE hx hv hh h0 h1 hn next
theorem AtT.keqS {X Y : TypeId} {xs ys : List Value} {b : Bool} (h : EqS P X xs ys b) (next : AtT cx n ((d, .bool b) :: ks) O V P ops Qn t) (ho : ops[i]? = some ⟨some d, .binOp .eql X x y Y, T, pos, after, gd⟩ := by rfl) (hg : Gd ks ops gd := by first | exact trivial | exact ⟨_, _, rfl, rfl, rfl⟩) (hx : ev ks x = some (.agg xs.toArray) := by rfl) (hy : ev ks y = some (.agg ys.toArray) := by rfl) (hn : d < n := by decide) : AtT cx n ks O V P ops Qn (.q i t) := AtT.eqS ho hg hx hy h hn next
theorem AtT.kneS {X Y : TypeId} {xs ys : List Value} {b : Bool} (h : EqS P X xs ys b) (next : AtT cx n ((d, .bool (!b)) :: ks) O V P ops Qn t) (ho : ops[i]? = some ⟨some d, .binOp .neq X x y Y, T, pos, after, gd⟩ := by rfl) (hg : Gd ks ops gd := by first | exact trivial | exact ⟨_, _, rfl, rfl, rfl⟩) (hx : ev ks x = some (.agg xs.toArray) := by rfl) (hy : ev ks y = some (.agg ys.toArray) := by rfl) (hn : d < n := by decide) : AtT cx n ks O V P ops Qn (.q i t) := AtT.neS ho hg hx hy h hn next
theorem AtT.kfld {X : TypeId} {j : Nat} {us : List Value} {v : Value} (hr : ∀ w, (Instr.field X (.agg us.toArray) j).run P w = .ok v w) (next : AtT cx n ((d, v) :: ks) O V P ops Qn t) (ho : ops[i]? = some ⟨some d, .field X x j, T, pos, after, gd⟩ := by rfl) (hg : Gd ks ops gd := by first | exact trivial | exact ⟨_, _, rfl, rfl, rfl⟩) (hx : ev ks x = some (.agg us.toArray) := by rfl) (hn : d < n := by decide) : AtT cx n ks O V P ops Qn (.q i t) := AtT.fld ho hg hx hr hn next
theorem AtT.kcallL {f : FuncId} {args : List Operand} {ts : Array TypeId} {vs : List Value} {R : Value → Prop} (ho : ops[i]? = some ⟨some d, .call ⟨.value (.func f), args.toArray, ts⟩, T, pos, after, gd⟩) (ha : evs ks args = some vs) (hf : CallOk P f) (hc : ∀ V', Le V V' → (∀ b o, Own.blk b o ∈ O → V' b = some o) → Fnc P f vs V' (fun v _ => R v)) (next : ∀ v, R v → AtT cx n ((d, v) :: ks) O V P ops Qn t) (hg : Gd ks ops gd := by first | exact trivial | exact ⟨_, _, rfl, rfl, rfl⟩) (hn : d < n := by decide) : AtT cx n ks O V P ops Qn (.n wr i t) := AtT.callL ho hg ha hf hn hc next
theorem AtT.kcallVL {c : Operand} {f : FuncId} {args : List Operand} {fs cs : List Value} {ts : Array TypeId} {vs : List Value} {R : Value → Prop} (ho : ops[i]? = some ⟨some d, .call ⟨.value c, args.toArray, ts⟩, T, pos, after, gd⟩) (hcv : ev ks c = some (.func (.func f) fs.toArray cs.toArray)) (ha : evs ks args = some vs) (hf : CallOk P f) (hc : ∀ V', Le V V' → (∀ b o, Own.blk b o ∈ O → V' b = some o) → Fnc P f (fs ++ vs ++ cs) V' (fun v _ => R v)) (next : ∀ v, R v → AtT cx n ((d, v) :: ks) O V P ops Qn t) (hg : Gd ks ops gd := by first | exact trivial | exact ⟨_, _, rfl, rfl, rfl⟩) (hn : d < n := by decide) : AtT cx n ks O V P ops Qn (.n wr i t) := AtT.callVL ho hg hcv ha hf hn hc next
theorem AtT.kpass {o : Oper} {g : Nat} {want : Bool} {od : Oper} {gd : Nat} (next : AtT cx n ((d, undef) :: ks) O V P ops Qn t) (ho : ops[i]? = some o := by rfl) (hg : o.guard = some (g, want) := by rfl) (hog : ops[g]? = some od := by rfl) (hgd : od.dst = some gd := by rfl) (hgv : look ks gd = some (.bool (!want)) := by rfl) (hd : o.dst = some d := by rfl) (hn : d < n := by decide) : AtT cx n ks O V P ops Qn (.q i t) := AtT.pass ho hg hog hgd hgv hd hn next
theorem AtT.kpassN {o : Oper} {g : Nat} {want : Bool} {od : Oper} {gd : Nat} {wr : Bool} (next : AtT cx n ((d, undef) :: ks) O V P ops Qn t) (ho : ops[i]? = some o := by rfl) (hg : o.guard = some (g, want) := by rfl) (hog : ops[g]? = some od := by rfl) (hgd : od.dst = some gd := by rfl) (hgv : look ks gd = some (.bool (!want)) := by rfl) (hd : o.dst = some d := by rfl) (hn : d < n := by decide) : AtT cx n ks O V P ops Qn (.n wr i t) := AtT.passN ho hg hog hgd hgv hd hn next
theorem AtT.kpassU {o : Oper} {g : Nat} {want : Bool} {od : Oper} {gd : Nat} (next : AtT cx n ((d, undef) :: ks) O V P ops Qn t) (ho : ops[i]? = some o := by rfl) (hg : o.guard = some (g, want) := by rfl) (hog : ops[g]? = some od := by rfl) (hgd : od.dst = some gd := by rfl) (hgv : look ks gd = some undef := by rfl) (hd : o.dst = some d := by rfl) (hn : d < n := by decide) : AtT cx n ks O V P ops Qn (.q i t) := AtT.passU ho hg hog hgd hgv hd hn next
theorem AtT.kpassNU {o : Oper} {g : Nat} {want : Bool} {od : Oper} {gd : Nat} {wr : Bool} (next : AtT cx n ((d, undef) :: ks) O V P ops Qn t) (ho : ops[i]? = some o := by rfl) (hg : o.guard = some (g, want) := by rfl) (hog : ops[g]? = some od := by rfl) (hgd : od.dst = some gd := by rfl) (hgv : look ks gd = some undef := by rfl) (hd : o.dst = some d := by rfl) (hn : d < n := by decide) : AtT cx n ks O V P ops Qn (.n wr i t) := AtT.passNU ho hg hog hgd hgv hd hn next
theorem AtT.kL (d : Nat) (h : AtT cx n ks O V P ops Qn t) (hd : look ks d = some (.bool true) ∨ look ks d = some (.bool false) ∨ look ks d = some undef := by first | exact .inl rfl | exact .inr (.inl rfl) | exact .inr (.inr rfl)) : AtT cx n ks O V P ops Qn t := h
theorem AtC.kL (d : Nat) (h : AtC cx n ks O V O1 V1 P ops Qn t) (hd : look ks d = some (.bool true) ∨ look ks d = some (.bool false) ∨ look ks d = some undef := by first | exact .inl rfl | exact .inr (.inl rfl) | exact .inr (.inr rfl)) : AtC cx n ks O V O1 V1 P ops Qn t := h
theorem AtC.kq (h : AtT cx n ks O1 V1 P ops (fun a' _ => Kn cx n ((d, v) :: ks) a') (.q i .done)) (next : AtC cx n ((d, v) :: ks) O V O1 V1 P ops Qn t) (hp : Pt O1 O := by repeat (first | exact Pt.nil | refine Pt.cons (by repeat (first | exact Pick.here | apply Pick.there)) ?_)) (hl : Le V1 V := by first | exact Le.refl _ | assumption | exact Le.trans (by assumption) (by assumption)) (h0 : Le cx.V0 V1 := by assumption) : AtC cx n ks O V O1 V1 P ops Qn (.q i t) := AtC.q h (AtC.sub1 hp hl h0) next
theorem AtC.kgo {V' : View} (next : AtC cx n ks O' V' O1 V1 P ops Qn t) (hp : Pt O1 O' := by repeat (first | exact Pt.nil | refine Pt.cons (by repeat (first | exact Pick.here | apply Pick.there)) ?_)) (hl : Le V1 V' := by first | exact Le.refl _ | assumption | exact Le.trans (by assumption) (by assumption)) : AtT cx n ks O' V' P ops (fun a' w' => Le cx.V0 V1 → Mem cx O1 V1 w' ∧ wpT P ops Qn t (Mem cx O1 V1) a' w') .done := AtC.go hp hl next
theorem AtC.kidx {α : Type} {X E : TypeId} {enc : α → List Value} {s : Nat} {l : List α} {k : IntKind} {j : Int} {ag : Bool} (hX : P.underlying X = some (.slice E)) (hE : tkB P E = some (ag, s))
    (next : ∀ (p : Addr) (e : α), l[j.toNat]? = some e → Cells V1 p (enc e) → AtC cx n ((d, .pointer (some p)) :: ks) O V O1 V1 P ops Qn t) (ho : ops[i]? = some ⟨some d, .indexAddr X x y, T, pos, after, gd⟩ := by rfl) (hg : Gd ks ops gd := by first | exact trivial | exact ⟨_, _, rfl, rfl, rfl⟩)
    (hx : ev ks x = some v := by rfl) (hl : Sl V1 enc s v l := by first | assumption | exact Sl.le (by assumption) (by assumption)) (hy : ev ks y = some (.int k j) := by rfl) (h0 : 0 ≤ j := by omega) (h1 : j < l.length := by omega) (hn : d < n := by decide) (hp : Pt O1 O := by repeat (first | exact Pt.nil | refine Pt.cons (by repeat (first | exact Pick.here | apply Pick.there)) ?_)) (hv : Le V1 V := by first | exact Le.refl _ | assumption | exact Le.trans (by assumption) (by assumption)) (hv0 : Le cx.V0 V1 := by assumption) : AtC cx n ks O V O1 V1 P ops Qn (.q i t) := AtC.idx ho hg hX hE hx hl hy h0 h1 hn (AtC.sub1 hp hv hv0) next
theorem At.ktext {ops : Array Oper} (t : Tr) (h : AtT cx n ks O V P ops (Q .normal) t) (hc : t.okText ops = true := by kernel_rfl) : At cx n ks O V ((Code.region id ops false).wpIn (FW ro) 0 P Q) := At.text t hc h
theorem Pt.auto {l O : List Own} (h : Pt l O := by repeat (first | exact Pt.nil | refine Pt.cons (by repeat (first | exact Pick.here | apply Pick.there)) ?_)) : Pt l O := h
theorem Pick.auto {x : Own} {O R : List Own} (h : Pick x O R := by repeat (first | exact Pick.here | apply Pick.there)) : Pick x O R := h
theorem Res.ka {p : Tmp} {b : Nat} {cs : List Value} {E : TypeId} {fr : Nat × Nat} {m : Nat} (hT : tkB P T = some (true, m)) (h : look ks p = some (.pointer (some ⟨b, 0, none⟩)) := by rfl) (hp : Pick (.blk b (LC cs E fr)) O R := by repeat (first | exact Pick.here | apply Pick.there)) (hl : cs.length = m := by rfl) : Res P ks O V (.cell p T) (.agg cs.toArray) := .agg h hT hp hl
end
end Go.Lw
set_option linter.unusedVariables false
namespace Go.Lw
open Go.RowKit
section
variable {cx : Cx} {n : Nat} {ks : List (Nat × Value)} {O : List Own} {V : View} {P : Program} {ops : Array Oper} {Qn : Act → World → Prop} {t : Tr} {i d : Nat} {T X Y : TypeId} {pos : String} {after : Array Edge} {gd : Option (Nat × Bool)} {x y : Operand}
theorem AtT.neB {a b : Bool} (ho : ops[i]? = some ⟨some d, .binOp .neq X x y Y, T, pos, after, gd⟩) (hg : Gd ks ops gd) (hT : P.underlying X = some .bool) (hx : ev ks x = some (.bool a)) (hy : ev ks y = some (.bool b)) (hn : d < n)
    (next : AtT cx n ((d, .bool (!(a == b))) :: ks) O V P ops Qn t) : AtT cx n ks O V P ops Qn (.q i t) :=
  .q ho hg rfl hn (fun a w hk _ => by simp [execOp, hk.ev hx, hk.ev hy, eqGuard_at_bool, run_neq_bool _ _ _ _ hT]) next
theorem AtT.kLT (d : Nat) (h : AtT cx n ((d, .bool true) :: ks) O V P ops Qn t) (hd : look ks d = some (.bool true) := by rfl) : AtT cx n ks O V P ops Qn t := AtT.setB hd rfl h
theorem AtT.kLF (d : Nat) (h : AtT cx n ((d, .bool false) :: ks) O V P ops Qn t) (hd : look ks d = some (.bool false) := by rfl) : AtT cx n ks O V P ops Qn t := AtT.setB hd rfl h
theorem AtC.kLT {O1 : List Own} {V1 : View} (d : Nat) (h : AtC cx n ((d, .bool true) :: ks) O V O1 V1 P ops Qn t) (hd : look ks d = some (.bool true) := by rfl) : AtC cx n ks O V O1 V1 P ops Qn t := AtC.setB hd rfl h
theorem AtC.kLF {O1 : List Own} {V1 : View} (d : Nat) (h : AtC cx n ((d, .bool false) :: ks) O V O1 V1 P ops Qn t) (hd : look ks d = some (.bool false) := by rfl) : AtC cx n ks O V O1 V1 P ops Qn t := AtC.setB hd rfl h
theorem AtT.kpickT {c : Operand} {u v : Value} (next : AtT cx n ((d, u) :: ks) O V P ops Qn t) (ho : ops[i]? = some ⟨some d, .pick c x y, T, pos, after, gd⟩ := by rfl) (hg : Gd ks ops gd := by first | exact trivial | exact ⟨_, _, rfl, rfl, rfl⟩) (hc : ev ks c = some (.bool true) := by rfl) (hx : ev ks x = some u := by rfl) (hy : ev ks y = some v := by rfl) (hn : d < n := by decide) : AtT cx n ks O V P ops Qn (.q i t) := AtT.pick ho hg hc hx hy hn next
theorem AtT.kpickF {c : Operand} {u v : Value} (next : AtT cx n ((d, v) :: ks) O V P ops Qn t) (ho : ops[i]? = some ⟨some d, .pick c x y, T, pos, after, gd⟩ := by rfl) (hg : Gd ks ops gd := by first | exact trivial | exact ⟨_, _, rfl, rfl, rfl⟩) (hc : ev ks c = some (.bool false) := by rfl) (hx : ev ks x = some u := by rfl) (hy : ev ks y = some v := by rfl) (hn : d < n := by decide) : AtT cx n ks O V P ops Qn (.q i t) := AtT.pick ho hg hc hx hy hn next
/-- From an operation on that waits for all that was looked at ahead of it. -/
theorem AtC.toT {O1 : List Own} {V1 : View} (h : AtT cx n ks O V P ops Qn (.n true i t)) : AtC cx n ks O V O1 V1 P ops Qn (.n true i t) := fun h0 a w hk hm => by
  obtain ⟨o, ho, hs⟩ := h a w hk hm
  exact ⟨o, ho, stW_mono (fun a' w' ⟨S', _, h2, h3⟩ => ⟨S', (fun h => by cases h), h2, h3⟩) hs⟩
theorem AtT.max3 {z : Operand} {X Y Z : TypeId} {k : IntKind} {p q r : Int} (ho : ops[i]? = some ⟨some d, .call ⟨.builtin .max, #[x, y, z], #[X, Y, Z]⟩, T, pos, after, gd⟩) (hg : Gd ks ops gd) (hx : ev ks x = some (.int k p)) (hy : ev ks y = some (.int k q)) (hz : ev ks z = some (.int k r)) (hn : d < n)
    (next : AtT cx n ((d, .int k (max (max p q) r)) :: ks) O V P ops Qn t) : AtT cx n ks O V P ops Qn (.q i t) :=
  .q ho hg rfl hn (fun a w hk _ => by
    have e : (if q > p then q else p) = max p q := by split <;> omega
    have e2 : (if r > max p q then r else max p q) = max (max p q) r := by split <;> omega
    simp [execOp, resolve, invoke, builtin, hk.ev hx, hk.ev hy, hk.ev hz, Builtin.max_, Builtin.max2, e, e2]) next
end
end Go.Lw
set_option linter.unusedVariables false
namespace Go.Lw
open Go.RowKit

/-- A set of numbers as a number. -/
def bitsOf : List Nat → Nat
  | [] => 0
  | i :: l => bitsOf l ||| 2 ^ i
theorem bits_test : ∀ (l : List Nat) (j : Nat), (bitsOf l).testBit j = l.contains j
  | [], j => by simp [bitsOf]
  | i :: l, j => by
    simp only [bitsOf, Nat.testBit_or, bits_test l j, Nat.testBit_two_pow, List.contains_cons]
    rw [Bool.or_comm]
    congr 1
    by_cases h : i = j
    · subst h; simp
    · have h' : ¬ j = i := fun e => h e.symm
      simp [h, h']
theorem bits_sub (l : List Nat) (m : Nat) : (bitsOf l &&& m == bitsOf l) = true ↔ ∀ i ∈ l, m.testBit i = true := by
  rw [beq_iff_eq]
  constructor
  · intro h i hi
    have := congrArg (·.testBit i) h
    simp only [Nat.testBit_and, bits_test] at this
    have hc : l.contains i = true := by simpa using hi
    rw [hc] at this
    simpa using this
  · intro h
    apply Nat.eq_of_testBit_eq
    intro i
    rw [Nat.testBit_and, bits_test]
    cases hc : l.contains i with
    | false => rfl
    | true => rw [h i (by simpa using hc)]; rfl
theorem bits_apart (l k : List Nat) (h : (bitsOf l &&& bitsOf k == 0) = true) : ∀ i ∈ k, i ∉ l := by
  rw [beq_iff_eq] at h
  intro i hk hl
  have := congrArg (·.testBit i) h
  simp only [Nat.testBit_and, bits_test, Nat.zero_testBit] at this
  have h1 : l.contains i = true := by simpa using hl
  have h2 : k.contains i = true := by simpa using hk
  rw [h1, h2] at this
  cases this

abbrev Row3 := Nat × Nat × Nat
def onsOf (o : Oper) : List Nat := (o.after.toList.filter (Region.binds .any)).map (·.on)
def rowOf (ops : Array Oper) (o : Oper) : Row3 := (bitsOf (onsOf o), bitsOf (o.looksAt ops), bitsOf o.dst.toList)
def rowsOf (ops : Array Oper) : List Row3 := ops.toList.map (rowOf ops)

structure Rl (ops : Array Oper) (m : Nat) (listed : Array Bool) : Prop where
  size : listed.size = ops.size
  bit : ∀ j, listed.getD j false = m.testBit j

def rdL (m : Nat) : List Row3 → Nat → List Nat
  | [], _ => []
  | r :: l, k => bif !m.testBit k && (r.1 &&& m == r.1) then k :: rdL m l (k + 1) else rdL m l (k + 1)
def rdB (m : Nat) (l : List Row3) (k i : Nat) : Bool := !m.testBit i && (match l[i - k]? with | some r => r.1 &&& m == r.1 | none => false)
theorem rdL_eq (m : Nat) : ∀ (l : List Row3) (k : Nat), rdL m l k = (List.range' k l.length).filter (rdB m l k)
  | [], k => rfl
  | r :: l, k => by
    have ih := rdL_eq m l (k + 1)
    have e : (List.range' (k + 1) l.length).filter (rdB m (r :: l) k) = (List.range' (k + 1) l.length).filter (rdB m l (k + 1)) := by
      apply List.filter_congr
      intro i hi
      have : k + 1 ≤ i := by have := List.mem_range'_1.1 hi; omega
      simp only [rdB]
      congr 1
      have e2 : i - k = (i - (k + 1)) + 1 := by omega
      rw [e2, List.getElem?_cons_succ]
    simp only [List.length_cons, List.range'_succ, List.filter_cons, rdL, e, ← ih]
    have e0 : rdB m (r :: l) k k = (!m.testBit k && (r.1 &&& m == r.1)) := by simp [rdB]
    rw [e0]
    cases (!m.testBit k && (r.1 &&& m == r.1)) <;> rfl

section
variable {ops : Array Oper} {m : Nat} {listed : Array Bool}
theorem Rl.t (h : Rl ops m listed) {j : Nat} (hj : j < ops.size) : listed.getD j true = m.testBit j := by
  have := h.bit j
  have hj' : j < listed.size := by rw [h.size]; exact hj
  simp [hj'] at this ⊢
  exact this
theorem rows_at (j : Nat) : (rowsOf ops)[j]? = ops[j]?.map (rowOf ops) := by simp [rowsOf]
theorem ready_fast (h : Rl ops m listed) : rdL m (rowsOf ops) 0 = Region.ready .any ops listed := by
  rw [rdL_eq]
  have hlen : (rowsOf ops).length = ops.size := by simp [rowsOf]
  rw [hlen, ← List.range_eq_range']
  unfold Region.ready
  apply List.filter_congr
  intro j hj
  have hj' : j < ops.size := by simpa using hj
  simp only [rdB, Nat.sub_zero, rows_at]
  rw [h.t hj', Array.getElem?_eq_getElem hj']
  congr 1
  simp only [Option.map_some, Option.getD_some, rowOf]
  rw [Bool.eq_iff_iff, bits_sub, Array.all_eq_true_iff_forall_mem]
  constructor
  · intro hh e he
    cases hb : Region.binds .any e with
    | false => rfl
    | true =>
      have := hh e.on (by
        simp only [onsOf, List.mem_map, List.mem_filter]
        exact ⟨e, ⟨by simpa using he, hb⟩, rfl⟩)
      simp only [Bool.not_true, Bool.false_or]
      rw [h.bit]; exact this
  · intro hh i hi
    simp only [onsOf, List.mem_map, List.mem_filter] at hi
    obtain ⟨e, ⟨he, hb⟩, rfl⟩ := hi
    have := hh e (by simpa using he)
    rw [hb] at this
    simp only [Bool.not_true, Bool.false_or] at this
    rw [← h.bit]; exact this

def freeL (m i : Nat) (ri : Row3) : List Row3 → Nat → Bool
  | [], _ => true
  | r :: l, j => (j == i || m.testBit j || r.1.testBit i || (r.2.1 &&& ri.2.2 == 0 && r.2.2 &&& ri.2.2 == 0 && ri.2.1 &&& r.2.2 == 0)) && freeL m i ri l (j + 1)
theorem freeL_at (m i : Nat) (ri : Row3) : ∀ (l : List Row3) (k : Nat), freeL m i ri l k = true → ∀ j r, l[j]? = some r → ((k + j) == i || m.testBit (k + j) || r.1.testBit i || (r.2.1 &&& ri.2.2 == 0 && r.2.2 &&& ri.2.2 == 0 && ri.2.1 &&& r.2.2 == 0)) = true
  | [], k, _, j, r, h => by simp at h
  | s :: l, k, hf, j, r, h => by
    simp only [freeL, Bool.and_eq_true] at hf
    cases j with
    | zero => simp at h; subst h; simpa using hf.1
    | succ j =>
      simp only [List.getElem?_cons_succ] at h
      have := freeL_at m i ri l (k + 1) hf.2 j r h
      have e : k + 1 + j = k + (j + 1) := by omega
      rwa [e] at this
def freeF (rows : List Row3) (m i : Nat) : Bool := match rows[i]? with | none => false | some ri => freeL m i ri rows 0
theorem free_fast (h : Rl ops m listed) {i : Nat} (hf : freeF (rowsOf ops) m i = true) : Region.free .any ops listed i = true := by
  unfold freeF at hf
  rw [rows_at] at hf
  unfold Region.free
  cases ho : ops[i]? with
  | none => rw [ho] at hf; cases hf
  | some oi =>
    rw [ho] at hf
    simp only [Option.map_some] at hf
    simp only [List.all_eq_true, List.mem_range]
    intro j hj
    have hoj : ops[j]? = some ops[j] := Array.getElem?_eq_getElem hj
    have hr : (rowsOf ops)[j]? = some (rowOf ops ops[j]) := by rw [rows_at, hoj]; rfl
    have key := freeL_at m i _ _ 0 hf j _ hr
    simp only [Nat.zero_add] at key
    rw [h.t hj, hoj]
    simp only [Bool.or_eq_true] at key ⊢
    rcases key with ((k1 | k1) | k1) | k1
    · exact .inl (.inl k1)
    · exact .inl (.inr k1)
    · refine .inr (.inl ?_)
      simp only [rowOf, bits_test] at k1
      have hm : i ∈ onsOf ops[j] := by simpa using k1
      simp only [onsOf, List.mem_map, List.mem_filter] at hm
      obtain ⟨e, ⟨he, hb⟩, rfl⟩ := hm
      exact Array.any_eq_true'.2 ⟨e, by simpa using he, by simp [hb]⟩
    · refine .inr (.inr ?_)
      simp only [Bool.and_eq_true] at k1
      obtain ⟨⟨k1, k2⟩, k3⟩ := k1
      have a1 := bits_apart _ _ k1
      have a2 := bits_apart _ _ k2
      have a3 := bits_apart _ _ k3
      unfold Oper.apart
      simp only [Bool.and_eq_true]
      constructor
      · cases hd : oi.dst with
        | none => rfl
        | some d =>
          have n1 := a1 d (by simp [hd])
          have n2 := a2 d (by simp [hd])
          simp only [Bool.and_eq_true, Bool.not_eq_true', bne_iff_ne, ne_eq]
          refine ⟨by simpa using n1, fun e => n2 (by simp [e])⟩
      · cases hd : ops[j].dst with
        | none => rfl
        | some d =>
          have n3 := a3 d (by simp [hd])
          simpa using n3

/-- What each waits for, straight or through others. -/
def waitW : List Row3 → List Nat → List Nat
  | [], acc => acc
  | r :: l, acc => waitW l (acc ++ [(List.range acc.length).foldl (fun s k => bif r.1.testBit k then s ||| acc.getD k 0 else s) r.1])
def WOk (ops : Array Oper) (acc : List Nat) : Prop := ∀ j i, (acc.getD j 0).testBit i = true → Waits ops j i
theorem fold_bits (f : Nat → Bool) (g : Nat → Nat) (i : Nat) : ∀ (l : List Nat) (s : Nat), (l.foldl (fun s k => bif f k then s ||| g k else s) s).testBit i = true → s.testBit i = true ∨ ∃ k ∈ l, f k = true ∧ (g k).testBit i = true
  | [], s, h => .inl h
  | k :: l, s, h => by
    simp only [List.foldl_cons] at h
    rcases fold_bits f g i l _ h with h1 | ⟨k', h1, h2, h3⟩
    · cases hf : f k with
      | false => rw [hf] at h1; exact .inl h1
      | true =>
        rw [hf] at h1
        simp only [cond_true, Nat.testBit_or, Bool.or_eq_true] at h1
        rcases h1 with h1 | h1
        · exact .inl h1
        · exact .inr ⟨k, by simp, hf, h1⟩
    · exact .inr ⟨k', List.mem_cons_of_mem _ h1, h2, h3⟩
theorem waitW_ok : ∀ (l : List Row3) (acc : List Nat), l = (rowsOf ops).drop acc.length → WOk ops acc → WOk ops (waitW l acc)
  | [], acc, _, h => h
  | r :: l, acc, hl, h => by
    have hr : (rowsOf ops)[acc.length]? = some r := by
      have := congrArg (·[0]?) hl
      simpa using this.symm
    rw [rows_at] at hr
    obtain ⟨o, ho, rfl⟩ := Option.map_eq_some_iff.1 hr
    have one : ∀ k, (rowOf ops o).1.testBit k = true → Waits ops acc.length k := fun k hk => by
      simp only [rowOf, bits_test] at hk
      have hm : k ∈ onsOf o := by simpa using hk
      simp only [onsOf, List.mem_map, List.mem_filter] at hm
      obtain ⟨e, ⟨he, hb⟩, rfl⟩ := hm
      exact .one ho (by simpa using he) hb rfl
    refine waitW_ok l _ ?_ ?_
    · rw [List.length_append, List.length_singleton]
      have := congrArg (·.drop 1) hl
      simpa [List.drop_drop] using this
    · intro j i hj
      by_cases c : j < acc.length
      · have e : (acc ++ [(List.range acc.length).foldl (fun s k => bif (rowOf ops o).1.testBit k then s ||| acc.getD k 0 else s) (rowOf ops o).1]).getD j 0 = acc.getD j 0 := by
          simp [List.getD, List.getElem?_append_left c]
        rw [e] at hj
        exact h j i hj
      · by_cases c2 : j = acc.length
        · subst c2
          have e : (acc ++ [(List.range acc.length).foldl (fun s k => bif (rowOf ops o).1.testBit k then s ||| acc.getD k 0 else s) (rowOf ops o).1]).getD acc.length 0 = (List.range acc.length).foldl (fun s k => bif (rowOf ops o).1.testBit k then s ||| acc.getD k 0 else s) (rowOf ops o).1 := by
            simp [List.getD]
          rw [e] at hj
          rcases fold_bits _ _ i _ _ hj with h1 | ⟨k, _, h2, h3⟩
          · exact one i h1
          · have hw := h k i h3
            simp only [rowOf, bits_test] at h2
            have hm : k ∈ onsOf o := by simpa using h2
            simp only [onsOf, List.mem_map, List.mem_filter] at hm
            obtain ⟨e', ⟨he, hb⟩, rfl⟩ := hm
            exact .more ho (by simpa using he) hb hw
        · have e : (acc ++ [(List.range acc.length).foldl (fun s k => bif (rowOf ops o).1.testBit k then s ||| acc.getD k 0 else s) (rowOf ops o).1]).getD j 0 = 0 := by
            simp only [List.getD]
            rw [List.getElem?_eq_none (by simp; omega)]
            rfl
          rw [e] at hj
          simp at hj

def Tr.chkF (rows : List Row3) (M W : List Nat) : Tr → Nat → Bool
  | .done, m => (rdL m rows 0).isEmpty
  | .q i t, m => freeF rows m i && (rdL m rows 0).contains i && !M.contains i && M.all (fun j => m.testBit j || (W.getD j 0).testBit i) && t.chkF rows M W (m ||| 2 ^ i)
  | .n wr i t, m => (rdL m rows 0 == [i]) && (M.contains i == wr) && t.chkF rows M W (m ||| 2 ^ i)
  | .two i t j u, m => (rdL m rows 0 == [i, j]) && !M.contains i && !M.contains j && t.chkF rows M W (m ||| 2 ^ i) && u.chkF rows M W (m ||| 2 ^ j)
  | .br is f, m => !is.isEmpty && (rdL m rows 0 == is) && is.all fun i => !M.contains i && (f i).chkF rows M W (m ||| 2 ^ i)

theorem Rl.set (h : Rl ops m listed) {i : Nat} (hi : i ∈ Region.ready .any ops listed) : Rl ops (m ||| 2 ^ i) (listed.setIfInBounds i true) := by
  obtain ⟨_, o, ho, _⟩ := mem_ready.1 hi
  have hlt : i < listed.size := by rw [h.size]; exact (Array.getElem?_eq_some_iff.1 ho).1
  refine ⟨by simp [h.size], fun j => ?_⟩
  rw [Nat.testBit_or, Nat.testBit_two_pow, ← h.bit j]
  by_cases c : i = j
  · subst c
    simp [Array.getElem?_setIfInBounds_self_of_lt hlt]
  · rw [getD_set_ne false c]
    simp [c]
theorem chkF_sound {M W : List Nat} : ∀ (t : Tr) (m : Nat) (listed : Array Bool), Rl ops m listed → t.chkF (rowsOf ops) M W m = true → t.chk ops M (fun j i => (W.getD j 0).testBit i) listed = true := by
  intro t
  induction t with
  | done =>
    intro m listed h hc
    simp only [Tr.chkF, ready_fast h] at hc
    exact hc
  | q i t ih =>
    intro m listed h hc
    simp only [Tr.chkF, ready_fast h, Bool.and_eq_true] at hc
    obtain ⟨⟨⟨⟨c1, c2⟩, c3⟩, c4⟩, c5⟩ := hc
    have hi : i ∈ Region.ready .any ops listed := by simpa using c2
    simp only [Tr.chk, Bool.and_eq_true]
    refine ⟨⟨⟨⟨free_fast h c1, c2⟩, c3⟩, ?_⟩, ih _ _ (h.set hi) c5⟩
    rw [List.all_eq_true] at c4 ⊢
    intro j hj
    have := c4 j hj
    simp only [Bool.or_eq_true] at this ⊢
    rcases this with k | k
    · left
      by_cases hjs : j < ops.size
      · rw [h.t hjs]; exact k
      · simp [h.size, hjs]
    · exact .inr k
  | n wr i t ih =>
    intro m listed h hc
    simp only [Tr.chkF, ready_fast h, Bool.and_eq_true] at hc
    obtain ⟨⟨c1, c2⟩, c3⟩ := hc
    have hi : i ∈ Region.ready .any ops listed := by rw [beq_iff_eq] at c1; rw [c1]; simp
    simp only [Tr.chk, Bool.and_eq_true]
    exact ⟨⟨c1, c2⟩, ih _ _ (h.set hi) c3⟩
  | two i t j u iht ihu =>
    intro m listed h hc
    simp only [Tr.chkF, ready_fast h, Bool.and_eq_true] at hc
    obtain ⟨⟨⟨⟨c1, c2⟩, c3⟩, c4⟩, c5⟩ := hc
    have hi : i ∈ Region.ready .any ops listed := by rw [beq_iff_eq] at c1; rw [c1]; simp
    have hj : j ∈ Region.ready .any ops listed := by rw [beq_iff_eq] at c1; rw [c1]; simp
    simp only [Tr.chk, Bool.and_eq_true]
    exact ⟨⟨⟨⟨c1, c2⟩, c3⟩, iht _ _ (h.set hi) c4⟩, ihu _ _ (h.set hj) c5⟩
  | br is f ih =>
    intro m listed h hc
    simp only [Tr.chkF, ready_fast h, Bool.and_eq_true] at hc
    obtain ⟨⟨c1, c2⟩, c3⟩ := hc
    simp only [Tr.chk, Bool.and_eq_true]
    refine ⟨⟨c1, c2⟩, ?_⟩
    rw [List.all_eq_true] at c3 ⊢
    intro i hi
    have hi' : i ∈ Region.ready .any ops listed := by rw [beq_iff_eq] at c2; rw [c2]; exact hi
    have := c3 i hi
    simp only [Bool.and_eq_true] at this ⊢
    exact ⟨this.1, ih i _ _ (h.set hi') this.2⟩

def Tr.okF (rows : List Row3) (n : Nat) (t : Tr) : Bool := decide (t.len ≤ n) && t.chkF rows t.muts (waitW rows []) 0
theorem wp_region_fast {P : Program} {id : Nat} {Q : Exit → Act → World → Prop} {a : Act} {w : World} {ro : Option Nat} (rows : List Row3) (t : Tr) (hm : P.follows .mixedOrders = true)
    (hr : rowsOf ops = rows) (hn : Ndr ops = true) (hc : t.okF rows ops.size = true) (S : World → Prop) (hS : S w.drew) (h : wpT P ops (Q .normal) t S a w.drew) : (Code.region id ops true).wpIn (FW ro) 0 P Q a w := by
  subst hr
  simp only [Tr.okF, Bool.and_eq_true, decide_eq_true_eq] at hc
  refine wpIn_region_any hm ?_
  have hW : WOk ops (waitW (rowsOf ops) []) := waitW_ok _ _ rfl (fun j i h => by simp at h)
  have h0 : Rl ops 0 (Array.replicate ops.size false) := ⟨by simp, fun j => by simp [Array.getElem?_replicate]; split <;> rfl⟩
  refine anyW_sound hn _ _ _ _ (anyM_any _ _ _ _ (wpT_sound (wt := fun j i => ((waitW (rowsOf ops) []).getD j 0).testBit i) hn (fun j i h => hW j i h) t _ _ S a _ hc.1 ?_ (chkF_sound t 0 _ h0 hc.2) hS h))
  intro j o hj
  simp [Array.getElem?_replicate] at hj
  split at hj <;> simp at hj
end

section
variable {cx : Cx} {n : Nat} {ks : List (Nat × Value)} {O : List Own} {V : View} {P : Program} {ops : Array Oper} {Q : Exit → Act → World → Prop} {ro : Option Nat} {id : Nat}
theorem At.drawF (rows : List Row3) (t : Tr) (hm : P.follows .mixedOrders = true) (hr : rowsOf ops = rows) (hn : Ndr ops = true) (hc : t.okF rows ops.size = true) (h : AtT cx n ks O V P ops (Q .normal) t) :
    At cx n ks O V ((Code.region id ops true).wpIn (FW ro) 0 P Q) := fun a w hk hw =>
  have hd : Mem cx O V w.drew := hw.ext (Below.refl _ w).drew
  wp_region_fast rows t hm hr hn hc (Mem cx O V) hd (h a w.drew hk hd)
end
end Go.Lw
namespace Go.Proofs.YtfcpmblmklibjaaGreat
open Go.Lw
theorem tk1 : tkB Tryz.prog 1 = some (false, 1) := by kernel_rfl
theorem z1 : zeroB Tryz.prog 1 = some Go.Value.nilFunc := by kernel_rfl
theorem rw1 : rowB Tryz.prog 1 = some (Go.Value.nilFunc, 1, 8) := by kernel_rfl
theorem un1 : (Tryz.prog.underlying 1).isSome = true := by kernel_rfl
theorem tk2 : tkB Tryz.prog 2 = some (false, 1) := by kernel_rfl
theorem z2 : zeroB Tryz.prog 2 = some (Go.Value.int Go.IntKind.i64 0) := by kernel_rfl
theorem rw2 : rowB Tryz.prog 2 = some ((Go.Value.int Go.IntKind.i64 0), 1, 8) := by kernel_rfl
theorem un2 : (Tryz.prog.underlying 2).isSome = true := by kernel_rfl
theorem tk3 : tkB Tryz.prog 3 = some (false, 1) := by kernel_rfl
theorem z3 : zeroB Tryz.prog 3 = some (Go.Value.int Go.IntKind.i64 0) := by kernel_rfl
theorem rw3 : rowB Tryz.prog 3 = some ((Go.Value.int Go.IntKind.i64 0), 1, 8) := by kernel_rfl
theorem un3 : (Tryz.prog.underlying 3).isSome = true := by kernel_rfl
theorem tk4 : tkB Tryz.prog 4 = some (false, 1) := by kernel_rfl
theorem z4 : zeroB Tryz.prog 4 = some (Go.Value.bool Bool.false) := by kernel_rfl
theorem rw4 : rowB Tryz.prog 4 = some ((Go.Value.bool Bool.false), 1, 1) := by kernel_rfl
theorem un4 : (Tryz.prog.underlying 4).isSome = true := by kernel_rfl
theorem tk5 : tkB Tryz.prog 5 = some (false, 1) := by kernel_rfl
theorem z5 : zeroB Tryz.prog 5 = some (Go.Value.int Go.IntKind.u8 0) := by kernel_rfl
theorem rw5 : rowB Tryz.prog 5 = some ((Go.Value.int Go.IntKind.u8 0), 1, 1) := by kernel_rfl
theorem un5 : (Tryz.prog.underlying 5).isSome = true := by kernel_rfl
theorem tk6 : tkB Tryz.prog 6 = some (false, 1) := by kernel_rfl
theorem z6 : zeroB Tryz.prog 6 = some (Go.Value.int Go.IntKind.u8 0) := by kernel_rfl
theorem rw6 : rowB Tryz.prog 6 = some ((Go.Value.int Go.IntKind.u8 0), 1, 1) := by kernel_rfl
theorem un6 : (Tryz.prog.underlying 6).isSome = true := by kernel_rfl
theorem tk7 : tkB Tryz.prog 7 = some (true, 4) := by kernel_rfl
theorem z7 : zeroB Tryz.prog 7 = some (Go.Value.agg #[(Go.Value.int Go.IntKind.i64 0), (Go.Value.int Go.IntKind.i64 0), (Go.Value.bool Bool.false), (Go.Value.int Go.IntKind.u8 0)]) := by kernel_rfl
theorem rw7 : rowB Tryz.prog 7 = some ((Go.Value.agg #[(Go.Value.int Go.IntKind.i64 0), (Go.Value.int Go.IntKind.i64 0), (Go.Value.bool Bool.false), (Go.Value.int Go.IntKind.u8 0)]), 4, 24) := by kernel_rfl
theorem un7 : (Tryz.prog.underlying 7).isSome = true := by kernel_rfl
theorem fo7_0 : foB Tryz.prog 7 0 = some 0 := by kernel_rfl
theorem fo7_1 : foB Tryz.prog 7 1 = some 1 := by kernel_rfl
theorem fo7_2 : foB Tryz.prog 7 2 = some 2 := by kernel_rfl
theorem fo7_3 : foB Tryz.prog 7 3 = some 3 := by kernel_rfl
theorem tk8 : tkB Tryz.prog 8 = some (true, 4) := by kernel_rfl
theorem z8 : zeroB Tryz.prog 8 = some (Go.Value.agg #[(Go.Value.int Go.IntKind.i64 0), (Go.Value.int Go.IntKind.i64 0), (Go.Value.bool Bool.false), (Go.Value.int Go.IntKind.u8 0)]) := by kernel_rfl
theorem rw8 : rowB Tryz.prog 8 = some ((Go.Value.agg #[(Go.Value.int Go.IntKind.i64 0), (Go.Value.int Go.IntKind.i64 0), (Go.Value.bool Bool.false), (Go.Value.int Go.IntKind.u8 0)]), 4, 24) := by kernel_rfl
theorem un8 : (Tryz.prog.underlying 8).isSome = true := by kernel_rfl
theorem fo8_0 : foB Tryz.prog 8 0 = some 0 := by kernel_rfl
theorem fo8_1 : foB Tryz.prog 8 1 = some 1 := by kernel_rfl
theorem fo8_2 : foB Tryz.prog 8 2 = some 2 := by kernel_rfl
theorem fo8_3 : foB Tryz.prog 8 3 = some 3 := by kernel_rfl
theorem tk9 : tkB Tryz.prog 9 = some (false, 1) := by kernel_rfl
theorem z9 : zeroB Tryz.prog 9 = some (Go.Value.string (ByteArray.mk #[])) := by kernel_rfl
theorem rw9 : rowB Tryz.prog 9 = some ((Go.Value.string (ByteArray.mk #[])), 1, 16) := by kernel_rfl
theorem un9 : (Tryz.prog.underlying 9).isSome = true := by kernel_rfl
theorem tk10 : tkB Tryz.prog 10 = some (false, 1) := by kernel_rfl
theorem z10 : zeroB Tryz.prog 10 = some (Go.Value.string (ByteArray.mk #[])) := by kernel_rfl
theorem rw10 : rowB Tryz.prog 10 = some ((Go.Value.string (ByteArray.mk #[])), 1, 16) := by kernel_rfl
theorem un10 : (Tryz.prog.underlying 10).isSome = true := by kernel_rfl
theorem tk11 : tkB Tryz.prog 11 = some (false, 1) := by kernel_rfl
theorem z11 : zeroB Tryz.prog 11 = some (Go.Value.string (ByteArray.mk #[])) := by kernel_rfl
theorem rw11 : rowB Tryz.prog 11 = some ((Go.Value.string (ByteArray.mk #[])), 1, 16) := by kernel_rfl
theorem un11 : (Tryz.prog.underlying 11).isSome = true := by kernel_rfl
theorem tk12 : tkB Tryz.prog 12 = some (false, 1) := by kernel_rfl
theorem z12 : zeroB Tryz.prog 12 = some (Go.Value.int Go.IntKind.u64 0) := by kernel_rfl
theorem rw12 : rowB Tryz.prog 12 = some ((Go.Value.int Go.IntKind.u64 0), 1, 8) := by kernel_rfl
theorem un12 : (Tryz.prog.underlying 12).isSome = true := by kernel_rfl
theorem tk13 : tkB Tryz.prog 13 = some (true, 2) := by kernel_rfl
theorem z13 : zeroB Tryz.prog 13 = some (Go.Value.agg #[(Go.Value.string (ByteArray.mk #[])), (Go.Value.int Go.IntKind.u64 0)]) := by kernel_rfl
theorem rw13 : rowB Tryz.prog 13 = some ((Go.Value.agg #[(Go.Value.string (ByteArray.mk #[])), (Go.Value.int Go.IntKind.u64 0)]), 2, 24) := by kernel_rfl
theorem un13 : (Tryz.prog.underlying 13).isSome = true := by kernel_rfl
theorem fo13_0 : foB Tryz.prog 13 0 = some 0 := by kernel_rfl
theorem fo13_1 : foB Tryz.prog 13 1 = some 1 := by kernel_rfl
theorem tk14 : tkB Tryz.prog 14 = some (true, 2) := by kernel_rfl
theorem z14 : zeroB Tryz.prog 14 = some (Go.Value.agg #[(Go.Value.string (ByteArray.mk #[])), (Go.Value.int Go.IntKind.u64 0)]) := by kernel_rfl
theorem rw14 : rowB Tryz.prog 14 = some ((Go.Value.agg #[(Go.Value.string (ByteArray.mk #[])), (Go.Value.int Go.IntKind.u64 0)]), 2, 24) := by kernel_rfl
theorem un14 : (Tryz.prog.underlying 14).isSome = true := by kernel_rfl
theorem fo14_0 : foB Tryz.prog 14 0 = some 0 := by kernel_rfl
theorem fo14_1 : foB Tryz.prog 14 1 = some 1 := by kernel_rfl
theorem tk15 : tkB Tryz.prog 15 = some (false, 1) := by kernel_rfl
theorem z15 : zeroB Tryz.prog 15 = some (Go.Value.pointer Option.none) := by kernel_rfl
theorem rw15 : rowB Tryz.prog 15 = some ((Go.Value.pointer Option.none), 1, 8) := by kernel_rfl
theorem un15 : (Tryz.prog.underlying 15).isSome = true := by kernel_rfl
theorem tk16 : tkB Tryz.prog 16 = some (false, 1) := by kernel_rfl
theorem z16 : zeroB Tryz.prog 16 = some (Go.Value.pointer Option.none) := by kernel_rfl
theorem rw16 : rowB Tryz.prog 16 = some ((Go.Value.pointer Option.none), 1, 8) := by kernel_rfl
theorem un16 : (Tryz.prog.underlying 16).isSome = true := by kernel_rfl
theorem tk17 : tkB Tryz.prog 17 = some (false, 1) := by kernel_rfl
theorem z17 : zeroB Tryz.prog 17 = some (Go.Value.pointer Option.none) := by kernel_rfl
theorem rw17 : rowB Tryz.prog 17 = some ((Go.Value.pointer Option.none), 1, 8) := by kernel_rfl
theorem un17 : (Tryz.prog.underlying 17).isSome = true := by kernel_rfl
theorem tk18 : tkB Tryz.prog 18 = some (true, 1) := by kernel_rfl
theorem z18 : zeroB Tryz.prog 18 = some (Go.Value.agg #[(Go.Value.pointer Option.none)]) := by kernel_rfl
theorem rw18 : rowB Tryz.prog 18 = some ((Go.Value.agg #[(Go.Value.pointer Option.none)]), 1, 8) := by kernel_rfl
theorem un18 : (Tryz.prog.underlying 18).isSome = true := by kernel_rfl
theorem fo18_0 : foB Tryz.prog 18 0 = some 0 := by kernel_rfl
theorem tk19 : tkB Tryz.prog 19 = some (true, 1) := by kernel_rfl
theorem z19 : zeroB Tryz.prog 19 = some (Go.Value.agg #[(Go.Value.pointer Option.none)]) := by kernel_rfl
theorem rw19 : rowB Tryz.prog 19 = some ((Go.Value.agg #[(Go.Value.pointer Option.none)]), 1, 8) := by kernel_rfl
theorem un19 : (Tryz.prog.underlying 19).isSome = true := by kernel_rfl
theorem fo19_0 : foB Tryz.prog 19 0 = some 0 := by kernel_rfl
theorem tk20 : tkB Tryz.prog 20 = some (false, 1) := by kernel_rfl
theorem z20 : zeroB Tryz.prog 20 = some Go.Value.nilIface := by kernel_rfl
theorem rw20 : rowB Tryz.prog 20 = some (Go.Value.nilIface, 1, 16) := by kernel_rfl
theorem un20 : (Tryz.prog.underlying 20).isSome = true := by kernel_rfl
theorem tk21 : tkB Tryz.prog 21 = some (false, 1) := by kernel_rfl
theorem z21 : zeroB Tryz.prog 21 = some (Go.Value.int Go.IntKind.i32 0) := by kernel_rfl
theorem rw21 : rowB Tryz.prog 21 = some ((Go.Value.int Go.IntKind.i32 0), 1, 4) := by kernel_rfl
theorem un21 : (Tryz.prog.underlying 21).isSome = true := by kernel_rfl
theorem tk22 : tkB Tryz.prog 22 = some (false, 1) := by kernel_rfl
theorem z22 : zeroB Tryz.prog 22 = some (Go.Value.slice Option.none 0 0) := by kernel_rfl
theorem rw22 : rowB Tryz.prog 22 = some ((Go.Value.slice Option.none 0 0), 1, 24) := by kernel_rfl
theorem un22 : (Tryz.prog.underlying 22).isSome = true := by kernel_rfl
theorem tk23 : tkB Tryz.prog 23 = some (true, 3) := by kernel_rfl
theorem z23 : zeroB Tryz.prog 23 = some (Go.Value.agg #[(Go.Value.int Go.IntKind.i64 0), (Go.Value.int Go.IntKind.i64 0), (Go.Value.int Go.IntKind.i64 0)]) := by kernel_rfl
theorem rw23 : rowB Tryz.prog 23 = some ((Go.Value.agg #[(Go.Value.int Go.IntKind.i64 0), (Go.Value.int Go.IntKind.i64 0), (Go.Value.int Go.IntKind.i64 0)]), 3, 24) := by kernel_rfl
theorem un23 : (Tryz.prog.underlying 23).isSome = true := by kernel_rfl
theorem fo23_0 : foB Tryz.prog 23 0 = some 0 := by kernel_rfl
theorem fo23_1 : foB Tryz.prog 23 1 = some 1 := by kernel_rfl
theorem fo23_2 : foB Tryz.prog 23 2 = some 2 := by kernel_rfl
theorem tk24 : tkB Tryz.prog 24 = some (true, 3) := by kernel_rfl
theorem z24 : zeroB Tryz.prog 24 = some (Go.Value.agg #[(Go.Value.int Go.IntKind.i64 0), (Go.Value.int Go.IntKind.i64 0), (Go.Value.int Go.IntKind.i64 0)]) := by kernel_rfl
theorem rw24 : rowB Tryz.prog 24 = some ((Go.Value.agg #[(Go.Value.int Go.IntKind.i64 0), (Go.Value.int Go.IntKind.i64 0), (Go.Value.int Go.IntKind.i64 0)]), 3, 24) := by kernel_rfl
theorem un24 : (Tryz.prog.underlying 24).isSome = true := by kernel_rfl
theorem fo24_0 : foB Tryz.prog 24 0 = some 0 := by kernel_rfl
theorem fo24_1 : foB Tryz.prog 24 1 = some 1 := by kernel_rfl
theorem fo24_2 : foB Tryz.prog 24 2 = some 2 := by kernel_rfl
theorem tk25 : tkB Tryz.prog 25 = some (false, 1) := by kernel_rfl
theorem z25 : zeroB Tryz.prog 25 = some Go.Value.nilFunc := by kernel_rfl
theorem rw25 : rowB Tryz.prog 25 = some (Go.Value.nilFunc, 1, 8) := by kernel_rfl
theorem un25 : (Tryz.prog.underlying 25).isSome = true := by kernel_rfl
theorem tk26 : tkB Tryz.prog 26 = some (false, 1) := by kernel_rfl
theorem z26 : zeroB Tryz.prog 26 = some Go.Value.nilFunc := by kernel_rfl
theorem rw26 : rowB Tryz.prog 26 = some (Go.Value.nilFunc, 1, 8) := by kernel_rfl
theorem un26 : (Tryz.prog.underlying 26).isSome = true := by kernel_rfl
theorem tk27 : tkB Tryz.prog 27 = some (false, 1) := by kernel_rfl
theorem z27 : zeroB Tryz.prog 27 = some (Go.Value.int Go.IntKind.i64 0) := by kernel_rfl
theorem rw27 : rowB Tryz.prog 27 = some ((Go.Value.int Go.IntKind.i64 0), 1, 8) := by kernel_rfl
theorem un27 : (Tryz.prog.underlying 27).isSome = true := by kernel_rfl
theorem tk29 : tkB Tryz.prog 29 = some (false, 1) := by kernel_rfl
theorem z29 : zeroB Tryz.prog 29 = some Go.Value.nilFunc := by kernel_rfl
theorem rw29 : rowB Tryz.prog 29 = some (Go.Value.nilFunc, 1, 8) := by kernel_rfl
theorem un29 : (Tryz.prog.underlying 29).isSome = true := by kernel_rfl
theorem tk30 : tkB Tryz.prog 30 = some (false, 1) := by kernel_rfl
theorem z30 : zeroB Tryz.prog 30 = some Go.Value.nilFunc := by kernel_rfl
theorem rw30 : rowB Tryz.prog 30 = some (Go.Value.nilFunc, 1, 8) := by kernel_rfl
theorem un30 : (Tryz.prog.underlying 30).isSome = true := by kernel_rfl
theorem tk32 : tkB Tryz.prog 32 = some (false, 1) := by kernel_rfl
theorem z32 : zeroB Tryz.prog 32 = some Go.Value.nilFunc := by kernel_rfl
theorem rw32 : rowB Tryz.prog 32 = some (Go.Value.nilFunc, 1, 8) := by kernel_rfl
theorem un32 : (Tryz.prog.underlying 32).isSome = true := by kernel_rfl
theorem tk33 : tkB Tryz.prog 33 = some (false, 1) := by kernel_rfl
theorem z33 : zeroB Tryz.prog 33 = some Go.Value.nilFunc := by kernel_rfl
theorem rw33 : rowB Tryz.prog 33 = some (Go.Value.nilFunc, 1, 8) := by kernel_rfl
theorem un33 : (Tryz.prog.underlying 33).isSome = true := by kernel_rfl
theorem tk34 : tkB Tryz.prog 34 = some (false, 1) := by kernel_rfl
theorem z34 : zeroB Tryz.prog 34 = some (Go.Value.slice Option.none 0 0) := by kernel_rfl
theorem rw34 : rowB Tryz.prog 34 = some ((Go.Value.slice Option.none 0 0), 1, 24) := by kernel_rfl
theorem un34 : (Tryz.prog.underlying 34).isSome = true := by kernel_rfl
theorem tk35 : tkB Tryz.prog 35 = some (false, 1) := by kernel_rfl
theorem z35 : zeroB Tryz.prog 35 = some (Go.Value.slice Option.none 0 0) := by kernel_rfl
theorem rw35 : rowB Tryz.prog 35 = some ((Go.Value.slice Option.none 0 0), 1, 24) := by kernel_rfl
theorem un35 : (Tryz.prog.underlying 35).isSome = true := by kernel_rfl
theorem tk37 : tkB Tryz.prog 37 = some (false, 1) := by kernel_rfl
theorem z37 : zeroB Tryz.prog 37 = some Go.Value.nilFunc := by kernel_rfl
theorem rw37 : rowB Tryz.prog 37 = some (Go.Value.nilFunc, 1, 8) := by kernel_rfl
theorem un37 : (Tryz.prog.underlying 37).isSome = true := by kernel_rfl
theorem tk38 : tkB Tryz.prog 38 = some (false, 1) := by kernel_rfl
theorem z38 : zeroB Tryz.prog 38 = some (Go.Value.slice Option.none 0 0) := by kernel_rfl
theorem rw38 : rowB Tryz.prog 38 = some ((Go.Value.slice Option.none 0 0), 1, 24) := by kernel_rfl
theorem un38 : (Tryz.prog.underlying 38).isSome = true := by kernel_rfl
theorem tk39 : tkB Tryz.prog 39 = some (false, 1) := by kernel_rfl
theorem z39 : zeroB Tryz.prog 39 = some Go.Value.nilFunc := by kernel_rfl
theorem rw39 : rowB Tryz.prog 39 = some (Go.Value.nilFunc, 1, 8) := by kernel_rfl
theorem un39 : (Tryz.prog.underlying 39).isSome = true := by kernel_rfl
theorem tk40 : tkB Tryz.prog 40 = some (false, 1) := by kernel_rfl
theorem z40 : zeroB Tryz.prog 40 = some Go.Value.nilFunc := by kernel_rfl
theorem rw40 : rowB Tryz.prog 40 = some (Go.Value.nilFunc, 1, 8) := by kernel_rfl
theorem un40 : (Tryz.prog.underlying 40).isSome = true := by kernel_rfl
theorem tk41 : tkB Tryz.prog 41 = some (false, 1) := by kernel_rfl
theorem z41 : zeroB Tryz.prog 41 = some Go.Value.nilFunc := by kernel_rfl
theorem rw41 : rowB Tryz.prog 41 = some (Go.Value.nilFunc, 1, 8) := by kernel_rfl
theorem un41 : (Tryz.prog.underlying 41).isSome = true := by kernel_rfl
theorem tk42 : tkB Tryz.prog 42 = some (false, 1) := by kernel_rfl
theorem z42 : zeroB Tryz.prog 42 = some Go.Value.nilFunc := by kernel_rfl
theorem rw42 : rowB Tryz.prog 42 = some (Go.Value.nilFunc, 1, 8) := by kernel_rfl
theorem un42 : (Tryz.prog.underlying 42).isSome = true := by kernel_rfl
theorem tk43 : tkB Tryz.prog 43 = some (false, 1) := by kernel_rfl
theorem z43 : zeroB Tryz.prog 43 = some (Go.Value.int Go.IntKind.u16 0) := by kernel_rfl
theorem rw43 : rowB Tryz.prog 43 = some ((Go.Value.int Go.IntKind.u16 0), 1, 2) := by kernel_rfl
theorem un43 : (Tryz.prog.underlying 43).isSome = true := by kernel_rfl
theorem tk44 : tkB Tryz.prog 44 = some (false, 1) := by kernel_rfl
theorem z44 : zeroB Tryz.prog 44 = some Go.Value.nilFunc := by kernel_rfl
theorem rw44 : rowB Tryz.prog 44 = some (Go.Value.nilFunc, 1, 8) := by kernel_rfl
theorem un44 : (Tryz.prog.underlying 44).isSome = true := by kernel_rfl
theorem tk45 : tkB Tryz.prog 45 = some (false, 1) := by kernel_rfl
theorem z45 : zeroB Tryz.prog 45 = some Go.Value.nilFunc := by kernel_rfl
theorem rw45 : rowB Tryz.prog 45 = some (Go.Value.nilFunc, 1, 8) := by kernel_rfl
theorem un45 : (Tryz.prog.underlying 45).isSome = true := by kernel_rfl
theorem tk46 : tkB Tryz.prog 46 = some (false, 1) := by kernel_rfl
theorem z46 : zeroB Tryz.prog 46 = some Go.Value.nilFunc := by kernel_rfl
theorem rw46 : rowB Tryz.prog 46 = some (Go.Value.nilFunc, 1, 8) := by kernel_rfl
theorem un46 : (Tryz.prog.underlying 46).isSome = true := by kernel_rfl
theorem tk48 : tkB Tryz.prog 48 = some (false, 1) := by kernel_rfl
theorem z48 : zeroB Tryz.prog 48 = some Go.Value.nilFunc := by kernel_rfl
theorem rw48 : rowB Tryz.prog 48 = some (Go.Value.nilFunc, 1, 8) := by kernel_rfl
theorem un48 : (Tryz.prog.underlying 48).isSome = true := by kernel_rfl
theorem tk49 : tkB Tryz.prog 49 = some (false, 1) := by kernel_rfl
theorem z49 : zeroB Tryz.prog 49 = some Go.Value.nilFunc := by kernel_rfl
theorem rw49 : rowB Tryz.prog 49 = some (Go.Value.nilFunc, 1, 8) := by kernel_rfl
theorem un49 : (Tryz.prog.underlying 49).isSome = true := by kernel_rfl
theorem tk50 : tkB Tryz.prog 50 = some (false, 1) := by kernel_rfl
theorem z50 : zeroB Tryz.prog 50 = some Go.Value.nilFunc := by kernel_rfl
theorem rw50 : rowB Tryz.prog 50 = some (Go.Value.nilFunc, 1, 8) := by kernel_rfl
theorem un50 : (Tryz.prog.underlying 50).isSome = true := by kernel_rfl
theorem tk51 : tkB Tryz.prog 51 = some (false, 1) := by kernel_rfl
theorem z51 : zeroB Tryz.prog 51 = some Go.Value.nilFunc := by kernel_rfl
theorem rw51 : rowB Tryz.prog 51 = some (Go.Value.nilFunc, 1, 8) := by kernel_rfl
theorem un51 : (Tryz.prog.underlying 51).isSome = true := by kernel_rfl
theorem tk52 : tkB Tryz.prog 52 = some (false, 1) := by kernel_rfl
theorem z52 : zeroB Tryz.prog 52 = some Go.Value.nilFunc := by kernel_rfl
theorem rw52 : rowB Tryz.prog 52 = some (Go.Value.nilFunc, 1, 8) := by kernel_rfl
theorem un52 : (Tryz.prog.underlying 52).isSome = true := by kernel_rfl
theorem tk54 : tkB Tryz.prog 54 = some (false, 1) := by kernel_rfl
theorem z54 : zeroB Tryz.prog 54 = some Go.Value.nilFunc := by kernel_rfl
theorem rw54 : rowB Tryz.prog 54 = some (Go.Value.nilFunc, 1, 8) := by kernel_rfl
theorem un54 : (Tryz.prog.underlying 54).isSome = true := by kernel_rfl
theorem tk55 : tkB Tryz.prog 55 = some (false, 1) := by kernel_rfl
theorem z55 : zeroB Tryz.prog 55 = some Go.Value.nilFunc := by kernel_rfl
theorem rw55 : rowB Tryz.prog 55 = some (Go.Value.nilFunc, 1, 8) := by kernel_rfl
theorem un55 : (Tryz.prog.underlying 55).isSome = true := by kernel_rfl
theorem tk56 : tkB Tryz.prog 56 = some (false, 1) := by kernel_rfl
theorem z56 : zeroB Tryz.prog 56 = some Go.Value.nilFunc := by kernel_rfl
theorem rw56 : rowB Tryz.prog 56 = some (Go.Value.nilFunc, 1, 8) := by kernel_rfl
theorem un56 : (Tryz.prog.underlying 56).isSome = true := by kernel_rfl
theorem tk57 : tkB Tryz.prog 57 = some (false, 1) := by kernel_rfl
theorem z57 : zeroB Tryz.prog 57 = some Go.Value.nilFunc := by kernel_rfl
theorem rw57 : rowB Tryz.prog 57 = some (Go.Value.nilFunc, 1, 8) := by kernel_rfl
theorem un57 : (Tryz.prog.underlying 57).isSome = true := by kernel_rfl
theorem tk58 : tkB Tryz.prog 58 = some (false, 1) := by kernel_rfl
theorem z58 : zeroB Tryz.prog 58 = some Go.Value.nilFunc := by kernel_rfl
theorem rw58 : rowB Tryz.prog 58 = some (Go.Value.nilFunc, 1, 8) := by kernel_rfl
theorem un58 : (Tryz.prog.underlying 58).isSome = true := by kernel_rfl
theorem tk59 : tkB Tryz.prog 59 = some (false, 1) := by kernel_rfl
theorem z59 : zeroB Tryz.prog 59 = some Go.Value.nilFunc := by kernel_rfl
theorem rw59 : rowB Tryz.prog 59 = some (Go.Value.nilFunc, 1, 8) := by kernel_rfl
theorem un59 : (Tryz.prog.underlying 59).isSome = true := by kernel_rfl
theorem tk60 : tkB Tryz.prog 60 = some (false, 1) := by kernel_rfl
theorem z60 : zeroB Tryz.prog 60 = some (Go.Value.pointer Option.none) := by kernel_rfl
theorem rw60 : rowB Tryz.prog 60 = some ((Go.Value.pointer Option.none), 1, 8) := by kernel_rfl
theorem un60 : (Tryz.prog.underlying 60).isSome = true := by kernel_rfl
theorem tk61 : tkB Tryz.prog 61 = some (false, 1) := by kernel_rfl
theorem z61 : zeroB Tryz.prog 61 = some (Go.Value.slice Option.none 0 0) := by kernel_rfl
theorem rw61 : rowB Tryz.prog 61 = some ((Go.Value.slice Option.none 0 0), 1, 24) := by kernel_rfl
theorem un61 : (Tryz.prog.underlying 61).isSome = true := by kernel_rfl
theorem tk63 : tkB Tryz.prog 63 = some (false, 1) := by kernel_rfl
theorem z63 : zeroB Tryz.prog 63 = some Go.Value.nilFunc := by kernel_rfl
theorem rw63 : rowB Tryz.prog 63 = some (Go.Value.nilFunc, 1, 8) := by kernel_rfl
theorem un63 : (Tryz.prog.underlying 63).isSome = true := by kernel_rfl
theorem tk64 : tkB Tryz.prog 64 = some (true, 15) := by kernel_rfl
theorem z64 : zeroB Tryz.prog 64 = some (Go.Value.agg #[(Go.Value.int Go.IntKind.i64 0), (Go.Value.int Go.IntKind.i64 0), (Go.Value.int Go.IntKind.i64 0), (Go.Value.int Go.IntKind.i64 0), (Go.Value.int Go.IntKind.i64 0), (Go.Value.int Go.IntKind.i64 0), (Go.Value.int Go.IntKind.i64 0), (Go.Value.int Go.IntKind.i64 0), (Go.Value.int Go.IntKind.i64 0), (Go.Value.int Go.IntKind.i64 0), (Go.Value.int Go.IntKind.i64 0), (Go.Value.int Go.IntKind.i64 0), (Go.Value.int Go.IntKind.i64 0), (Go.Value.int Go.IntKind.i64 0), (Go.Value.int Go.IntKind.i64 0)]) := by kernel_rfl
theorem rw64 : rowB Tryz.prog 64 = some ((Go.Value.agg #[(Go.Value.int Go.IntKind.i64 0), (Go.Value.int Go.IntKind.i64 0), (Go.Value.int Go.IntKind.i64 0), (Go.Value.int Go.IntKind.i64 0), (Go.Value.int Go.IntKind.i64 0), (Go.Value.int Go.IntKind.i64 0), (Go.Value.int Go.IntKind.i64 0), (Go.Value.int Go.IntKind.i64 0), (Go.Value.int Go.IntKind.i64 0), (Go.Value.int Go.IntKind.i64 0), (Go.Value.int Go.IntKind.i64 0), (Go.Value.int Go.IntKind.i64 0), (Go.Value.int Go.IntKind.i64 0), (Go.Value.int Go.IntKind.i64 0), (Go.Value.int Go.IntKind.i64 0)]), 15, 120) := by kernel_rfl
theorem un64 : (Tryz.prog.underlying 64).isSome = true := by kernel_rfl
theorem tk65 : tkB Tryz.prog 65 = some (true, 15) := by kernel_rfl
theorem z65 : zeroB Tryz.prog 65 = some (Go.Value.agg #[(Go.Value.int Go.IntKind.i64 0), (Go.Value.int Go.IntKind.i64 0), (Go.Value.int Go.IntKind.i64 0), (Go.Value.int Go.IntKind.i64 0), (Go.Value.int Go.IntKind.i64 0), (Go.Value.int Go.IntKind.i64 0), (Go.Value.int Go.IntKind.i64 0), (Go.Value.int Go.IntKind.i64 0), (Go.Value.int Go.IntKind.i64 0), (Go.Value.int Go.IntKind.i64 0), (Go.Value.int Go.IntKind.i64 0), (Go.Value.int Go.IntKind.i64 0), (Go.Value.int Go.IntKind.i64 0), (Go.Value.int Go.IntKind.i64 0), (Go.Value.int Go.IntKind.i64 0)]) := by kernel_rfl
theorem rw65 : rowB Tryz.prog 65 = some ((Go.Value.agg #[(Go.Value.int Go.IntKind.i64 0), (Go.Value.int Go.IntKind.i64 0), (Go.Value.int Go.IntKind.i64 0), (Go.Value.int Go.IntKind.i64 0), (Go.Value.int Go.IntKind.i64 0), (Go.Value.int Go.IntKind.i64 0), (Go.Value.int Go.IntKind.i64 0), (Go.Value.int Go.IntKind.i64 0), (Go.Value.int Go.IntKind.i64 0), (Go.Value.int Go.IntKind.i64 0), (Go.Value.int Go.IntKind.i64 0), (Go.Value.int Go.IntKind.i64 0), (Go.Value.int Go.IntKind.i64 0), (Go.Value.int Go.IntKind.i64 0), (Go.Value.int Go.IntKind.i64 0)]), 15, 120) := by kernel_rfl
theorem un65 : (Tryz.prog.underlying 65).isSome = true := by kernel_rfl
theorem tk66 : tkB Tryz.prog 66 = some (false, 1) := by kernel_rfl
theorem z66 : zeroB Tryz.prog 66 = some Go.Value.nilFunc := by kernel_rfl
theorem rw66 : rowB Tryz.prog 66 = some (Go.Value.nilFunc, 1, 8) := by kernel_rfl
theorem un66 : (Tryz.prog.underlying 66).isSome = true := by kernel_rfl
theorem tk67 : tkB Tryz.prog 67 = some (false, 1) := by kernel_rfl
theorem z67 : zeroB Tryz.prog 67 = some Go.Value.nilFunc := by kernel_rfl
theorem rw67 : rowB Tryz.prog 67 = some (Go.Value.nilFunc, 1, 8) := by kernel_rfl
theorem un67 : (Tryz.prog.underlying 67).isSome = true := by kernel_rfl
theorem tk68 : tkB Tryz.prog 68 = some (false, 1) := by kernel_rfl
theorem z68 : zeroB Tryz.prog 68 = some Go.Value.nilFunc := by kernel_rfl
theorem rw68 : rowB Tryz.prog 68 = some (Go.Value.nilFunc, 1, 8) := by kernel_rfl
theorem un68 : (Tryz.prog.underlying 68).isSome = true := by kernel_rfl
theorem tk69 : tkB Tryz.prog 69 = some (false, 1) := by kernel_rfl
theorem z69 : zeroB Tryz.prog 69 = some Go.Value.nilFunc := by kernel_rfl
theorem rw69 : rowB Tryz.prog 69 = some (Go.Value.nilFunc, 1, 8) := by kernel_rfl
theorem un69 : (Tryz.prog.underlying 69).isSome = true := by kernel_rfl
theorem tk70 : tkB Tryz.prog 70 = some (false, 1) := by kernel_rfl
theorem z70 : zeroB Tryz.prog 70 = some Go.Value.nilFunc := by kernel_rfl
theorem rw70 : rowB Tryz.prog 70 = some (Go.Value.nilFunc, 1, 8) := by kernel_rfl
theorem un70 : (Tryz.prog.underlying 70).isSome = true := by kernel_rfl
theorem tk71 : tkB Tryz.prog 71 = some (false, 1) := by kernel_rfl
theorem z71 : zeroB Tryz.prog 71 = some Go.Value.nilFunc := by kernel_rfl
theorem rw71 : rowB Tryz.prog 71 = some (Go.Value.nilFunc, 1, 8) := by kernel_rfl
theorem un71 : (Tryz.prog.underlying 71).isSome = true := by kernel_rfl
theorem tk72 : tkB Tryz.prog 72 = some (false, 1) := by kernel_rfl
theorem z72 : zeroB Tryz.prog 72 = some (Go.Value.slice Option.none 0 0) := by kernel_rfl
theorem rw72 : rowB Tryz.prog 72 = some ((Go.Value.slice Option.none 0 0), 1, 24) := by kernel_rfl
theorem un72 : (Tryz.prog.underlying 72).isSome = true := by kernel_rfl
theorem tk73 : tkB Tryz.prog 73 = some (false, 1) := by kernel_rfl
theorem z73 : zeroB Tryz.prog 73 = some Go.Value.nilFunc := by kernel_rfl
theorem rw73 : rowB Tryz.prog 73 = some (Go.Value.nilFunc, 1, 8) := by kernel_rfl
theorem un73 : (Tryz.prog.underlying 73).isSome = true := by kernel_rfl
theorem tk74 : tkB Tryz.prog 74 = some (false, 1) := by kernel_rfl
theorem z74 : zeroB Tryz.prog 74 = some Go.Value.nilFunc := by kernel_rfl
theorem rw74 : rowB Tryz.prog 74 = some (Go.Value.nilFunc, 1, 8) := by kernel_rfl
theorem un74 : (Tryz.prog.underlying 74).isSome = true := by kernel_rfl
theorem tk75 : tkB Tryz.prog 75 = some (false, 1) := by kernel_rfl
theorem z75 : zeroB Tryz.prog 75 = some Go.Value.nilFunc := by kernel_rfl
theorem rw75 : rowB Tryz.prog 75 = some (Go.Value.nilFunc, 1, 8) := by kernel_rfl
theorem un75 : (Tryz.prog.underlying 75).isSome = true := by kernel_rfl
theorem tk76 : tkB Tryz.prog 76 = some (false, 1) := by kernel_rfl
theorem z76 : zeroB Tryz.prog 76 = some Go.Value.nilFunc := by kernel_rfl
theorem rw76 : rowB Tryz.prog 76 = some (Go.Value.nilFunc, 1, 8) := by kernel_rfl
theorem un76 : (Tryz.prog.underlying 76).isSome = true := by kernel_rfl
theorem tk77 : tkB Tryz.prog 77 = some (false, 1) := by kernel_rfl
theorem z77 : zeroB Tryz.prog 77 = some Go.Value.nilFunc := by kernel_rfl
theorem rw77 : rowB Tryz.prog 77 = some (Go.Value.nilFunc, 1, 8) := by kernel_rfl
theorem un77 : (Tryz.prog.underlying 77).isSome = true := by kernel_rfl
theorem tk78 : tkB Tryz.prog 78 = some (false, 1) := by kernel_rfl
theorem z78 : zeroB Tryz.prog 78 = some Go.Value.nilFunc := by kernel_rfl
theorem rw78 : rowB Tryz.prog 78 = some (Go.Value.nilFunc, 1, 8) := by kernel_rfl
theorem un78 : (Tryz.prog.underlying 78).isSome = true := by kernel_rfl
theorem tk79 : tkB Tryz.prog 79 = some (false, 1) := by kernel_rfl
theorem z79 : zeroB Tryz.prog 79 = some Go.Value.nilFunc := by kernel_rfl
theorem rw79 : rowB Tryz.prog 79 = some (Go.Value.nilFunc, 1, 8) := by kernel_rfl
theorem un79 : (Tryz.prog.underlying 79).isSome = true := by kernel_rfl
theorem tk80 : tkB Tryz.prog 80 = some (true, 4) := by kernel_rfl
theorem z80 : zeroB Tryz.prog 80 = some (Go.Value.agg #[(Go.Value.int Go.IntKind.i64 0), (Go.Value.int Go.IntKind.i64 0), (Go.Value.int Go.IntKind.i64 0), (Go.Value.bool Bool.false)]) := by kernel_rfl
theorem rw80 : rowB Tryz.prog 80 = some ((Go.Value.agg #[(Go.Value.int Go.IntKind.i64 0), (Go.Value.int Go.IntKind.i64 0), (Go.Value.int Go.IntKind.i64 0), (Go.Value.bool Bool.false)]), 4, 32) := by kernel_rfl
theorem un80 : (Tryz.prog.underlying 80).isSome = true := by kernel_rfl
theorem fo80_0 : foB Tryz.prog 80 0 = some 0 := by kernel_rfl
theorem fo80_1 : foB Tryz.prog 80 1 = some 3 := by kernel_rfl
theorem tk81 : tkB Tryz.prog 81 = some (true, 4) := by kernel_rfl
theorem z81 : zeroB Tryz.prog 81 = some (Go.Value.agg #[(Go.Value.int Go.IntKind.i64 0), (Go.Value.int Go.IntKind.i64 0), (Go.Value.int Go.IntKind.i64 0), (Go.Value.bool Bool.false)]) := by kernel_rfl
theorem rw81 : rowB Tryz.prog 81 = some ((Go.Value.agg #[(Go.Value.int Go.IntKind.i64 0), (Go.Value.int Go.IntKind.i64 0), (Go.Value.int Go.IntKind.i64 0), (Go.Value.bool Bool.false)]), 4, 32) := by kernel_rfl
theorem un81 : (Tryz.prog.underlying 81).isSome = true := by kernel_rfl
theorem fo81_0 : foB Tryz.prog 81 0 = some 0 := by kernel_rfl
theorem fo81_1 : foB Tryz.prog 81 1 = some 3 := by kernel_rfl
theorem tk82 : tkB Tryz.prog 82 = some (false, 1) := by kernel_rfl
theorem z82 : zeroB Tryz.prog 82 = some Go.Value.nilFunc := by kernel_rfl
theorem rw82 : rowB Tryz.prog 82 = some (Go.Value.nilFunc, 1, 8) := by kernel_rfl
theorem un82 : (Tryz.prog.underlying 82).isSome = true := by kernel_rfl
theorem tk84 : tkB Tryz.prog 84 = some (false, 1) := by kernel_rfl
theorem z84 : zeroB Tryz.prog 84 = some Go.Value.nilFunc := by kernel_rfl
theorem rw84 : rowB Tryz.prog 84 = some (Go.Value.nilFunc, 1, 8) := by kernel_rfl
theorem un84 : (Tryz.prog.underlying 84).isSome = true := by kernel_rfl
theorem tk85 : tkB Tryz.prog 85 = some (true, 1) := by kernel_rfl
theorem z85 : zeroB Tryz.prog 85 = some (Go.Value.agg #[(Go.Value.int Go.IntKind.i64 0)]) := by kernel_rfl
theorem rw85 : rowB Tryz.prog 85 = some ((Go.Value.agg #[(Go.Value.int Go.IntKind.i64 0)]), 1, 8) := by kernel_rfl
theorem un85 : (Tryz.prog.underlying 85).isSome = true := by kernel_rfl
theorem fo85_0 : foB Tryz.prog 85 0 = some 0 := by kernel_rfl
theorem tk86 : tkB Tryz.prog 86 = some (true, 1) := by kernel_rfl
theorem z86 : zeroB Tryz.prog 86 = some (Go.Value.agg #[(Go.Value.int Go.IntKind.i64 0)]) := by kernel_rfl
theorem rw86 : rowB Tryz.prog 86 = some ((Go.Value.agg #[(Go.Value.int Go.IntKind.i64 0)]), 1, 8) := by kernel_rfl
theorem un86 : (Tryz.prog.underlying 86).isSome = true := by kernel_rfl
theorem fo86_0 : foB Tryz.prog 86 0 = some 0 := by kernel_rfl
theorem tk87 : tkB Tryz.prog 87 = some (false, 1) := by kernel_rfl
theorem z87 : zeroB Tryz.prog 87 = some Go.Value.nilFunc := by kernel_rfl
theorem rw87 : rowB Tryz.prog 87 = some (Go.Value.nilFunc, 1, 8) := by kernel_rfl
theorem un87 : (Tryz.prog.underlying 87).isSome = true := by kernel_rfl
theorem tk88 : tkB Tryz.prog 88 = some (false, 1) := by kernel_rfl
theorem z88 : zeroB Tryz.prog 88 = some Go.Value.nilFunc := by kernel_rfl
theorem rw88 : rowB Tryz.prog 88 = some (Go.Value.nilFunc, 1, 8) := by kernel_rfl
theorem un88 : (Tryz.prog.underlying 88).isSome = true := by kernel_rfl
theorem tk89 : tkB Tryz.prog 89 = some (true, 2) := by kernel_rfl
theorem z89 : zeroB Tryz.prog 89 = some (Go.Value.agg #[(Go.Value.slice Option.none 0 0), (Go.Value.int Go.IntKind.i64 0)]) := by kernel_rfl
theorem rw89 : rowB Tryz.prog 89 = some ((Go.Value.agg #[(Go.Value.slice Option.none 0 0), (Go.Value.int Go.IntKind.i64 0)]), 2, 32) := by kernel_rfl
theorem un89 : (Tryz.prog.underlying 89).isSome = true := by kernel_rfl
theorem fo89_0 : foB Tryz.prog 89 0 = some 0 := by kernel_rfl
theorem fo89_1 : foB Tryz.prog 89 1 = some 1 := by kernel_rfl
theorem tk90 : tkB Tryz.prog 90 = some (true, 2) := by kernel_rfl
theorem z90 : zeroB Tryz.prog 90 = some (Go.Value.agg #[(Go.Value.slice Option.none 0 0), (Go.Value.int Go.IntKind.i64 0)]) := by kernel_rfl
theorem rw90 : rowB Tryz.prog 90 = some ((Go.Value.agg #[(Go.Value.slice Option.none 0 0), (Go.Value.int Go.IntKind.i64 0)]), 2, 32) := by kernel_rfl
theorem un90 : (Tryz.prog.underlying 90).isSome = true := by kernel_rfl
theorem fo90_0 : foB Tryz.prog 90 0 = some 0 := by kernel_rfl
theorem fo90_1 : foB Tryz.prog 90 1 = some 1 := by kernel_rfl
theorem tk91 : tkB Tryz.prog 91 = some (true, 4) := by kernel_rfl
theorem z91 : zeroB Tryz.prog 91 = some (Go.Value.agg #[(Go.Value.slice Option.none 0 0), (Go.Value.int Go.IntKind.i64 0), (Go.Value.slice Option.none 0 0), (Go.Value.slice Option.none 0 0)]) := by kernel_rfl
theorem rw91 : rowB Tryz.prog 91 = some ((Go.Value.agg #[(Go.Value.slice Option.none 0 0), (Go.Value.int Go.IntKind.i64 0), (Go.Value.slice Option.none 0 0), (Go.Value.slice Option.none 0 0)]), 4, 80) := by kernel_rfl
theorem un91 : (Tryz.prog.underlying 91).isSome = true := by kernel_rfl
theorem fo91_0 : foB Tryz.prog 91 0 = some 0 := by kernel_rfl
theorem fo91_1 : foB Tryz.prog 91 1 = some 2 := by kernel_rfl
theorem fo91_2 : foB Tryz.prog 91 2 = some 3 := by kernel_rfl
theorem tk92 : tkB Tryz.prog 92 = some (true, 4) := by kernel_rfl
theorem z92 : zeroB Tryz.prog 92 = some (Go.Value.agg #[(Go.Value.slice Option.none 0 0), (Go.Value.int Go.IntKind.i64 0), (Go.Value.slice Option.none 0 0), (Go.Value.slice Option.none 0 0)]) := by kernel_rfl
theorem rw92 : rowB Tryz.prog 92 = some ((Go.Value.agg #[(Go.Value.slice Option.none 0 0), (Go.Value.int Go.IntKind.i64 0), (Go.Value.slice Option.none 0 0), (Go.Value.slice Option.none 0 0)]), 4, 80) := by kernel_rfl
theorem un92 : (Tryz.prog.underlying 92).isSome = true := by kernel_rfl
theorem fo92_0 : foB Tryz.prog 92 0 = some 0 := by kernel_rfl
theorem fo92_1 : foB Tryz.prog 92 1 = some 2 := by kernel_rfl
theorem fo92_2 : foB Tryz.prog 92 2 = some 3 := by kernel_rfl
theorem tk93 : tkB Tryz.prog 93 = some (false, 1) := by kernel_rfl
theorem z93 : zeroB Tryz.prog 93 = some Go.Value.nilFunc := by kernel_rfl
theorem rw93 : rowB Tryz.prog 93 = some (Go.Value.nilFunc, 1, 8) := by kernel_rfl
theorem un93 : (Tryz.prog.underlying 93).isSome = true := by kernel_rfl
theorem tk94 : tkB Tryz.prog 94 = some (false, 1) := by kernel_rfl
theorem z94 : zeroB Tryz.prog 94 = some Go.Value.nilFunc := by kernel_rfl
theorem rw94 : rowB Tryz.prog 94 = some (Go.Value.nilFunc, 1, 8) := by kernel_rfl
theorem un94 : (Tryz.prog.underlying 94).isSome = true := by kernel_rfl
theorem tk95 : tkB Tryz.prog 95 = some (false, 1) := by kernel_rfl
theorem z95 : zeroB Tryz.prog 95 = some Go.Value.nilFunc := by kernel_rfl
theorem rw95 : rowB Tryz.prog 95 = some (Go.Value.nilFunc, 1, 8) := by kernel_rfl
theorem un95 : (Tryz.prog.underlying 95).isSome = true := by kernel_rfl
theorem tk96 : tkB Tryz.prog 96 = some (false, 1) := by kernel_rfl
theorem z96 : zeroB Tryz.prog 96 = some Go.Value.nilFunc := by kernel_rfl
theorem rw96 : rowB Tryz.prog 96 = some (Go.Value.nilFunc, 1, 8) := by kernel_rfl
theorem un96 : (Tryz.prog.underlying 96).isSome = true := by kernel_rfl
theorem tk97 : tkB Tryz.prog 97 = some (false, 1) := by kernel_rfl
theorem z97 : zeroB Tryz.prog 97 = some Go.Value.nilFunc := by kernel_rfl
theorem rw97 : rowB Tryz.prog 97 = some (Go.Value.nilFunc, 1, 8) := by kernel_rfl
theorem un97 : (Tryz.prog.underlying 97).isSome = true := by kernel_rfl
theorem tk98 : tkB Tryz.prog 98 = some (false, 1) := by kernel_rfl
theorem z98 : zeroB Tryz.prog 98 = some Go.Value.nilFunc := by kernel_rfl
theorem rw98 : rowB Tryz.prog 98 = some (Go.Value.nilFunc, 1, 8) := by kernel_rfl
theorem un98 : (Tryz.prog.underlying 98).isSome = true := by kernel_rfl
theorem tk99 : tkB Tryz.prog 99 = some (false, 1) := by kernel_rfl
theorem z99 : zeroB Tryz.prog 99 = some Go.Value.nilFunc := by kernel_rfl
theorem rw99 : rowB Tryz.prog 99 = some (Go.Value.nilFunc, 1, 8) := by kernel_rfl
theorem un99 : (Tryz.prog.underlying 99).isSome = true := by kernel_rfl
theorem tk100 : tkB Tryz.prog 100 = some (false, 1) := by kernel_rfl
theorem z100 : zeroB Tryz.prog 100 = some Go.Value.nilFunc := by kernel_rfl
theorem rw100 : rowB Tryz.prog 100 = some (Go.Value.nilFunc, 1, 8) := by kernel_rfl
theorem un100 : (Tryz.prog.underlying 100).isSome = true := by kernel_rfl
theorem tk101 : tkB Tryz.prog 101 = some (false, 1) := by kernel_rfl
theorem z101 : zeroB Tryz.prog 101 = some Go.Value.nilFunc := by kernel_rfl
theorem rw101 : rowB Tryz.prog 101 = some (Go.Value.nilFunc, 1, 8) := by kernel_rfl
theorem un101 : (Tryz.prog.underlying 101).isSome = true := by kernel_rfl
theorem tk102 : tkB Tryz.prog 102 = some (false, 1) := by kernel_rfl
theorem z102 : zeroB Tryz.prog 102 = some Go.Value.nilFunc := by kernel_rfl
theorem rw102 : rowB Tryz.prog 102 = some (Go.Value.nilFunc, 1, 8) := by kernel_rfl
theorem un102 : (Tryz.prog.underlying 102).isSome = true := by kernel_rfl
theorem tk103 : tkB Tryz.prog 103 = some (false, 1) := by kernel_rfl
theorem z103 : zeroB Tryz.prog 103 = some Go.Value.nilFunc := by kernel_rfl
theorem rw103 : rowB Tryz.prog 103 = some (Go.Value.nilFunc, 1, 8) := by kernel_rfl
theorem un103 : (Tryz.prog.underlying 103).isSome = true := by kernel_rfl
theorem tk104 : tkB Tryz.prog 104 = some (false, 1) := by kernel_rfl
theorem z104 : zeroB Tryz.prog 104 = some Go.Value.nilFunc := by kernel_rfl
theorem rw104 : rowB Tryz.prog 104 = some (Go.Value.nilFunc, 1, 8) := by kernel_rfl
theorem un104 : (Tryz.prog.underlying 104).isSome = true := by kernel_rfl
theorem tk105 : tkB Tryz.prog 105 = some (false, 1) := by kernel_rfl
theorem z105 : zeroB Tryz.prog 105 = some Go.Value.nilFunc := by kernel_rfl
theorem rw105 : rowB Tryz.prog 105 = some (Go.Value.nilFunc, 1, 8) := by kernel_rfl
theorem un105 : (Tryz.prog.underlying 105).isSome = true := by kernel_rfl
theorem tk106 : tkB Tryz.prog 106 = some (false, 1) := by kernel_rfl
theorem z106 : zeroB Tryz.prog 106 = some Go.Value.nilFunc := by kernel_rfl
theorem rw106 : rowB Tryz.prog 106 = some (Go.Value.nilFunc, 1, 8) := by kernel_rfl
theorem un106 : (Tryz.prog.underlying 106).isSome = true := by kernel_rfl
theorem tk107 : tkB Tryz.prog 107 = some (false, 1) := by kernel_rfl
theorem z107 : zeroB Tryz.prog 107 = some Go.Value.nilFunc := by kernel_rfl
theorem rw107 : rowB Tryz.prog 107 = some (Go.Value.nilFunc, 1, 8) := by kernel_rfl
theorem un107 : (Tryz.prog.underlying 107).isSome = true := by kernel_rfl
theorem tk108 : tkB Tryz.prog 108 = some (false, 1) := by kernel_rfl
theorem z108 : zeroB Tryz.prog 108 = some Go.Value.nilFunc := by kernel_rfl
theorem rw108 : rowB Tryz.prog 108 = some (Go.Value.nilFunc, 1, 8) := by kernel_rfl
theorem un108 : (Tryz.prog.underlying 108).isSome = true := by kernel_rfl
theorem tk109 : tkB Tryz.prog 109 = some (false, 1) := by kernel_rfl
theorem z109 : zeroB Tryz.prog 109 = some Go.Value.nilFunc := by kernel_rfl
theorem rw109 : rowB Tryz.prog 109 = some (Go.Value.nilFunc, 1, 8) := by kernel_rfl
theorem un109 : (Tryz.prog.underlying 109).isSome = true := by kernel_rfl
theorem tk110 : tkB Tryz.prog 110 = some (false, 1) := by kernel_rfl
theorem z110 : zeroB Tryz.prog 110 = some Go.Value.nilFunc := by kernel_rfl
theorem rw110 : rowB Tryz.prog 110 = some (Go.Value.nilFunc, 1, 8) := by kernel_rfl
theorem un110 : (Tryz.prog.underlying 110).isSome = true := by kernel_rfl
theorem tk111 : tkB Tryz.prog 111 = some (false, 1) := by kernel_rfl
theorem z111 : zeroB Tryz.prog 111 = some Go.Value.nilFunc := by kernel_rfl
theorem rw111 : rowB Tryz.prog 111 = some (Go.Value.nilFunc, 1, 8) := by kernel_rfl
theorem un111 : (Tryz.prog.underlying 111).isSome = true := by kernel_rfl
theorem tk112 : tkB Tryz.prog 112 = some (false, 1) := by kernel_rfl
theorem z112 : zeroB Tryz.prog 112 = some Go.Value.nilFunc := by kernel_rfl
theorem rw112 : rowB Tryz.prog 112 = some (Go.Value.nilFunc, 1, 8) := by kernel_rfl
theorem un112 : (Tryz.prog.underlying 112).isSome = true := by kernel_rfl
theorem tk113 : tkB Tryz.prog 113 = some (false, 1) := by kernel_rfl
theorem z113 : zeroB Tryz.prog 113 = some (Go.Value.map Option.none) := by kernel_rfl
theorem rw113 : rowB Tryz.prog 113 = some ((Go.Value.map Option.none), 1, 8) := by kernel_rfl
theorem un113 : (Tryz.prog.underlying 113).isSome = true := by kernel_rfl
theorem tk114 : tkB Tryz.prog 114 = some (false, 1) := by kernel_rfl
theorem z114 : zeroB Tryz.prog 114 = some Go.Value.nilFunc := by kernel_rfl
theorem rw114 : rowB Tryz.prog 114 = some (Go.Value.nilFunc, 1, 8) := by kernel_rfl
theorem un114 : (Tryz.prog.underlying 114).isSome = true := by kernel_rfl
theorem tk115 : tkB Tryz.prog 115 = some (false, 1) := by kernel_rfl
theorem z115 : zeroB Tryz.prog 115 = some Go.Value.nilFunc := by kernel_rfl
theorem rw115 : rowB Tryz.prog 115 = some (Go.Value.nilFunc, 1, 8) := by kernel_rfl
theorem un115 : (Tryz.prog.underlying 115).isSome = true := by kernel_rfl
theorem tk116 : tkB Tryz.prog 116 = some (false, 1) := by kernel_rfl
theorem z116 : zeroB Tryz.prog 116 = some (Go.Value.int Go.IntKind.u64 0) := by kernel_rfl
theorem rw116 : rowB Tryz.prog 116 = some ((Go.Value.int Go.IntKind.u64 0), 1, 8) := by kernel_rfl
theorem un116 : (Tryz.prog.underlying 116).isSome = true := by kernel_rfl
theorem tk117 : tkB Tryz.prog 117 = some (false, 1) := by kernel_rfl
theorem z117 : zeroB Tryz.prog 117 = some Go.Value.nilFunc := by kernel_rfl
theorem rw117 : rowB Tryz.prog 117 = some (Go.Value.nilFunc, 1, 8) := by kernel_rfl
theorem un117 : (Tryz.prog.underlying 117).isSome = true := by kernel_rfl
theorem tk118 : tkB Tryz.prog 118 = some (false, 1) := by kernel_rfl
theorem z118 : zeroB Tryz.prog 118 = some Go.Value.nilFunc := by kernel_rfl
theorem rw118 : rowB Tryz.prog 118 = some (Go.Value.nilFunc, 1, 8) := by kernel_rfl
theorem un118 : (Tryz.prog.underlying 118).isSome = true := by kernel_rfl
theorem tk119 : tkB Tryz.prog 119 = some (false, 1) := by kernel_rfl
theorem z119 : zeroB Tryz.prog 119 = some Go.Value.nilFunc := by kernel_rfl
theorem rw119 : rowB Tryz.prog 119 = some (Go.Value.nilFunc, 1, 8) := by kernel_rfl
theorem un119 : (Tryz.prog.underlying 119).isSome = true := by kernel_rfl
theorem tk120 : tkB Tryz.prog 120 = some (false, 1) := by kernel_rfl
theorem z120 : zeroB Tryz.prog 120 = some Go.Value.nilFunc := by kernel_rfl
theorem rw120 : rowB Tryz.prog 120 = some (Go.Value.nilFunc, 1, 8) := by kernel_rfl
theorem un120 : (Tryz.prog.underlying 120).isSome = true := by kernel_rfl
theorem tk121 : tkB Tryz.prog 121 = some (false, 1) := by kernel_rfl
theorem z121 : zeroB Tryz.prog 121 = some Go.Value.nilFunc := by kernel_rfl
theorem rw121 : rowB Tryz.prog 121 = some (Go.Value.nilFunc, 1, 8) := by kernel_rfl
theorem un121 : (Tryz.prog.underlying 121).isSome = true := by kernel_rfl
theorem tk122 : tkB Tryz.prog 122 = some (false, 1) := by kernel_rfl
theorem z122 : zeroB Tryz.prog 122 = some (Go.Value.int Go.IntKind.u32 0) := by kernel_rfl
theorem rw122 : rowB Tryz.prog 122 = some ((Go.Value.int Go.IntKind.u32 0), 1, 4) := by kernel_rfl
theorem un122 : (Tryz.prog.underlying 122).isSome = true := by kernel_rfl
theorem tk123 : tkB Tryz.prog 123 = some (false, 1) := by kernel_rfl
theorem z123 : zeroB Tryz.prog 123 = some Go.Value.nilFunc := by kernel_rfl
theorem rw123 : rowB Tryz.prog 123 = some (Go.Value.nilFunc, 1, 8) := by kernel_rfl
theorem un123 : (Tryz.prog.underlying 123).isSome = true := by kernel_rfl
theorem tk124 : tkB Tryz.prog 124 = some (false, 1) := by kernel_rfl
theorem z124 : zeroB Tryz.prog 124 = some (Go.Value.int Go.IntKind.u64 0) := by kernel_rfl
theorem rw124 : rowB Tryz.prog 124 = some ((Go.Value.int Go.IntKind.u64 0), 1, 8) := by kernel_rfl
theorem un124 : (Tryz.prog.underlying 124).isSome = true := by kernel_rfl
theorem tk125 : tkB Tryz.prog 125 = some (false, 1) := by kernel_rfl
theorem z125 : zeroB Tryz.prog 125 = some Go.Value.nilFunc := by kernel_rfl
theorem rw125 : rowB Tryz.prog 125 = some (Go.Value.nilFunc, 1, 8) := by kernel_rfl
theorem un125 : (Tryz.prog.underlying 125).isSome = true := by kernel_rfl
theorem tk126 : tkB Tryz.prog 126 = some (false, 1) := by kernel_rfl
theorem z126 : zeroB Tryz.prog 126 = some Go.Value.nilFunc := by kernel_rfl
theorem rw126 : rowB Tryz.prog 126 = some (Go.Value.nilFunc, 1, 8) := by kernel_rfl
theorem un126 : (Tryz.prog.underlying 126).isSome = true := by kernel_rfl
theorem tk127 : tkB Tryz.prog 127 = some (false, 1) := by kernel_rfl
theorem z127 : zeroB Tryz.prog 127 = some (Go.Value.int Go.IntKind.i64 0) := by kernel_rfl
theorem rw127 : rowB Tryz.prog 127 = some ((Go.Value.int Go.IntKind.i64 0), 1, 8) := by kernel_rfl
theorem un127 : (Tryz.prog.underlying 127).isSome = true := by kernel_rfl
theorem tk129 : tkB Tryz.prog 129 = some (false, 1) := by kernel_rfl
theorem z129 : zeroB Tryz.prog 129 = some Go.Value.nilFunc := by kernel_rfl
theorem rw129 : rowB Tryz.prog 129 = some (Go.Value.nilFunc, 1, 8) := by kernel_rfl
theorem un129 : (Tryz.prog.underlying 129).isSome = true := by kernel_rfl
theorem tk130 : tkB Tryz.prog 130 = some (false, 1) := by kernel_rfl
theorem z130 : zeroB Tryz.prog 130 = some Go.Value.nilFunc := by kernel_rfl
theorem rw130 : rowB Tryz.prog 130 = some (Go.Value.nilFunc, 1, 8) := by kernel_rfl
theorem un130 : (Tryz.prog.underlying 130).isSome = true := by kernel_rfl
theorem tk131 : tkB Tryz.prog 131 = some (false, 1) := by kernel_rfl
theorem z131 : zeroB Tryz.prog 131 = some Go.Value.nilFunc := by kernel_rfl
theorem rw131 : rowB Tryz.prog 131 = some (Go.Value.nilFunc, 1, 8) := by kernel_rfl
theorem un131 : (Tryz.prog.underlying 131).isSome = true := by kernel_rfl
theorem tk133 : tkB Tryz.prog 133 = some (false, 1) := by kernel_rfl
theorem z133 : zeroB Tryz.prog 133 = some Go.Value.nilFunc := by kernel_rfl
theorem rw133 : rowB Tryz.prog 133 = some (Go.Value.nilFunc, 1, 8) := by kernel_rfl
theorem un133 : (Tryz.prog.underlying 133).isSome = true := by kernel_rfl
theorem tk134 : tkB Tryz.prog 134 = some (false, 1) := by kernel_rfl
theorem z134 : zeroB Tryz.prog 134 = some Go.Value.nilFunc := by kernel_rfl
theorem rw134 : rowB Tryz.prog 134 = some (Go.Value.nilFunc, 1, 8) := by kernel_rfl
theorem un134 : (Tryz.prog.underlying 134).isSome = true := by kernel_rfl
theorem tk135 : tkB Tryz.prog 135 = some (false, 1) := by kernel_rfl
theorem z135 : zeroB Tryz.prog 135 = some Go.Value.nilFunc := by kernel_rfl
theorem rw135 : rowB Tryz.prog 135 = some (Go.Value.nilFunc, 1, 8) := by kernel_rfl
theorem un135 : (Tryz.prog.underlying 135).isSome = true := by kernel_rfl
theorem tk136 : tkB Tryz.prog 136 = some (false, 1) := by kernel_rfl
theorem z136 : zeroB Tryz.prog 136 = some (Go.Value.int Go.IntKind.u64 0) := by kernel_rfl
theorem rw136 : rowB Tryz.prog 136 = some ((Go.Value.int Go.IntKind.u64 0), 1, 8) := by kernel_rfl
theorem un136 : (Tryz.prog.underlying 136).isSome = true := by kernel_rfl
theorem tk137 : tkB Tryz.prog 137 = some (false, 1) := by kernel_rfl
theorem z137 : zeroB Tryz.prog 137 = some Go.Value.nilFunc := by kernel_rfl
theorem rw137 : rowB Tryz.prog 137 = some (Go.Value.nilFunc, 1, 8) := by kernel_rfl
theorem un137 : (Tryz.prog.underlying 137).isSome = true := by kernel_rfl
theorem tk138 : tkB Tryz.prog 138 = some (false, 1) := by kernel_rfl
theorem z138 : zeroB Tryz.prog 138 = some Go.Value.nilFunc := by kernel_rfl
theorem rw138 : rowB Tryz.prog 138 = some (Go.Value.nilFunc, 1, 8) := by kernel_rfl
theorem un138 : (Tryz.prog.underlying 138).isSome = true := by kernel_rfl
theorem tk139 : tkB Tryz.prog 139 = some (false, 1) := by kernel_rfl
theorem z139 : zeroB Tryz.prog 139 = some Go.Value.nilFunc := by kernel_rfl
theorem rw139 : rowB Tryz.prog 139 = some (Go.Value.nilFunc, 1, 8) := by kernel_rfl
theorem un139 : (Tryz.prog.underlying 139).isSome = true := by kernel_rfl
theorem tk140 : tkB Tryz.prog 140 = some (false, 1) := by kernel_rfl
theorem z140 : zeroB Tryz.prog 140 = some (Go.Value.pointer Option.none) := by kernel_rfl
theorem rw140 : rowB Tryz.prog 140 = some ((Go.Value.pointer Option.none), 1, 8) := by kernel_rfl
theorem un140 : (Tryz.prog.underlying 140).isSome = true := by kernel_rfl
theorem tk141 : tkB Tryz.prog 141 = some (false, 1) := by kernel_rfl
theorem z141 : zeroB Tryz.prog 141 = some Go.Value.nilFunc := by kernel_rfl
theorem rw141 : rowB Tryz.prog 141 = some (Go.Value.nilFunc, 1, 8) := by kernel_rfl
theorem un141 : (Tryz.prog.underlying 141).isSome = true := by kernel_rfl
theorem tk142 : tkB Tryz.prog 142 = some (false, 1) := by kernel_rfl
theorem z142 : zeroB Tryz.prog 142 = some (Go.Value.pointer Option.none) := by kernel_rfl
theorem rw142 : rowB Tryz.prog 142 = some ((Go.Value.pointer Option.none), 1, 8) := by kernel_rfl
theorem un142 : (Tryz.prog.underlying 142).isSome = true := by kernel_rfl
theorem tk144 : tkB Tryz.prog 144 = some (false, 1) := by kernel_rfl
theorem z144 : zeroB Tryz.prog 144 = some Go.Value.nilFunc := by kernel_rfl
theorem rw144 : rowB Tryz.prog 144 = some (Go.Value.nilFunc, 1, 8) := by kernel_rfl
theorem un144 : (Tryz.prog.underlying 144).isSome = true := by kernel_rfl
theorem tk145 : tkB Tryz.prog 145 = some (false, 1) := by kernel_rfl
theorem z145 : zeroB Tryz.prog 145 = some Go.Value.nilFunc := by kernel_rfl
theorem rw145 : rowB Tryz.prog 145 = some (Go.Value.nilFunc, 1, 8) := by kernel_rfl
theorem un145 : (Tryz.prog.underlying 145).isSome = true := by kernel_rfl
theorem tk146 : tkB Tryz.prog 146 = some (true, 4) := by kernel_rfl
theorem z146 : zeroB Tryz.prog 146 = some (Go.Value.agg #[(Go.Value.pointer Option.none), (Go.Value.pointer Option.none), (Go.Value.pointer Option.none), (Go.Value.string (ByteArray.mk #[]))]) := by kernel_rfl
theorem rw146 : rowB Tryz.prog 146 = some ((Go.Value.agg #[(Go.Value.pointer Option.none), (Go.Value.pointer Option.none), (Go.Value.pointer Option.none), (Go.Value.string (ByteArray.mk #[]))]), 4, 40) := by kernel_rfl
theorem un146 : (Tryz.prog.underlying 146).isSome = true := by kernel_rfl
theorem fo146_0 : foB Tryz.prog 146 0 = some 0 := by kernel_rfl
theorem fo146_1 : foB Tryz.prog 146 1 = some 1 := by kernel_rfl
theorem fo146_2 : foB Tryz.prog 146 2 = some 2 := by kernel_rfl
theorem fo146_3 : foB Tryz.prog 146 3 = some 3 := by kernel_rfl
theorem tk147 : tkB Tryz.prog 147 = some (true, 4) := by kernel_rfl
theorem z147 : zeroB Tryz.prog 147 = some (Go.Value.agg #[(Go.Value.pointer Option.none), (Go.Value.pointer Option.none), (Go.Value.pointer Option.none), (Go.Value.string (ByteArray.mk #[]))]) := by kernel_rfl
theorem rw147 : rowB Tryz.prog 147 = some ((Go.Value.agg #[(Go.Value.pointer Option.none), (Go.Value.pointer Option.none), (Go.Value.pointer Option.none), (Go.Value.string (ByteArray.mk #[]))]), 4, 40) := by kernel_rfl
theorem un147 : (Tryz.prog.underlying 147).isSome = true := by kernel_rfl
theorem fo147_0 : foB Tryz.prog 147 0 = some 0 := by kernel_rfl
theorem fo147_1 : foB Tryz.prog 147 1 = some 1 := by kernel_rfl
theorem fo147_2 : foB Tryz.prog 147 2 = some 2 := by kernel_rfl
theorem fo147_3 : foB Tryz.prog 147 3 = some 3 := by kernel_rfl
theorem tk148 : tkB Tryz.prog 148 = some (true, 0) := by kernel_rfl
theorem z148 : zeroB Tryz.prog 148 = some (Go.Value.agg #[]) := by kernel_rfl
theorem rw148 : rowB Tryz.prog 148 = some ((Go.Value.agg #[]), 0, 0) := by kernel_rfl
theorem un148 : (Tryz.prog.underlying 148).isSome = true := by kernel_rfl
theorem tk149 : tkB Tryz.prog 149 = some (true, 0) := by kernel_rfl
theorem z149 : zeroB Tryz.prog 149 = some (Go.Value.agg #[]) := by kernel_rfl
theorem rw149 : rowB Tryz.prog 149 = some ((Go.Value.agg #[]), 0, 0) := by kernel_rfl
theorem un149 : (Tryz.prog.underlying 149).isSome = true := by kernel_rfl
theorem tk150 : tkB Tryz.prog 150 = some (true, 0) := by kernel_rfl
theorem z150 : zeroB Tryz.prog 150 = some (Go.Value.agg #[]) := by kernel_rfl
theorem rw150 : rowB Tryz.prog 150 = some ((Go.Value.agg #[]), 0, 0) := by kernel_rfl
theorem un150 : (Tryz.prog.underlying 150).isSome = true := by kernel_rfl
theorem tk151 : tkB Tryz.prog 151 = some (false, 1) := by kernel_rfl
theorem z151 : zeroB Tryz.prog 151 = some Go.Value.nilFunc := by kernel_rfl
theorem rw151 : rowB Tryz.prog 151 = some (Go.Value.nilFunc, 1, 8) := by kernel_rfl
theorem un151 : (Tryz.prog.underlying 151).isSome = true := by kernel_rfl
theorem tk152 : tkB Tryz.prog 152 = some (false, 1) := by kernel_rfl
theorem z152 : zeroB Tryz.prog 152 = some (Go.Value.int Go.IntKind.u8 0) := by kernel_rfl
theorem rw152 : rowB Tryz.prog 152 = some ((Go.Value.int Go.IntKind.u8 0), 1, 1) := by kernel_rfl
theorem un152 : (Tryz.prog.underlying 152).isSome = true := by kernel_rfl
theorem tk153 : tkB Tryz.prog 153 = some (false, 1) := by kernel_rfl
theorem z153 : zeroB Tryz.prog 153 = some (Go.Value.int Go.IntKind.u8 0) := by kernel_rfl
theorem rw153 : rowB Tryz.prog 153 = some ((Go.Value.int Go.IntKind.u8 0), 1, 1) := by kernel_rfl
theorem un153 : (Tryz.prog.underlying 153).isSome = true := by kernel_rfl
theorem tk154 : tkB Tryz.prog 154 = some (false, 1) := by kernel_rfl
theorem z154 : zeroB Tryz.prog 154 = some Go.Value.nilFunc := by kernel_rfl
theorem rw154 : rowB Tryz.prog 154 = some (Go.Value.nilFunc, 1, 8) := by kernel_rfl
theorem un154 : (Tryz.prog.underlying 154).isSome = true := by kernel_rfl
theorem tk155 : tkB Tryz.prog 155 = some (false, 1) := by kernel_rfl
theorem z155 : zeroB Tryz.prog 155 = some (Go.Value.pointer Option.none) := by kernel_rfl
theorem rw155 : rowB Tryz.prog 155 = some ((Go.Value.pointer Option.none), 1, 8) := by kernel_rfl
theorem un155 : (Tryz.prog.underlying 155).isSome = true := by kernel_rfl
theorem tk156 : tkB Tryz.prog 156 = some (false, 1) := by kernel_rfl
theorem z156 : zeroB Tryz.prog 156 = some (Go.Value.int Go.IntKind.i32 0) := by kernel_rfl
theorem rw156 : rowB Tryz.prog 156 = some ((Go.Value.int Go.IntKind.i32 0), 1, 4) := by kernel_rfl
theorem un156 : (Tryz.prog.underlying 156).isSome = true := by kernel_rfl
theorem tk157 : tkB Tryz.prog 157 = some (false, 1) := by kernel_rfl
theorem z157 : zeroB Tryz.prog 157 = some (Go.Value.int Go.IntKind.i32 0) := by kernel_rfl
theorem rw157 : rowB Tryz.prog 157 = some ((Go.Value.int Go.IntKind.i32 0), 1, 4) := by kernel_rfl
theorem un157 : (Tryz.prog.underlying 157).isSome = true := by kernel_rfl
theorem tk158 : tkB Tryz.prog 158 = some (true, 11) := by kernel_rfl
theorem z158 : zeroB Tryz.prog 158 = some (Go.Value.agg #[(Go.Value.int Go.IntKind.u64 0), (Go.Value.int Go.IntKind.u64 0), (Go.Value.int Go.IntKind.u32 0), (Go.Value.int Go.IntKind.u8 0), (Go.Value.int Go.IntKind.u8 0), (Go.Value.int Go.IntKind.u8 0), (Go.Value.int Go.IntKind.u8 0), Go.Value.nilFunc, (Go.Value.pointer Option.none), (Go.Value.int Go.IntKind.i32 0), (Go.Value.int Go.IntKind.i32 0)]) := by kernel_rfl
theorem rw158 : rowB Tryz.prog 158 = some ((Go.Value.agg #[(Go.Value.int Go.IntKind.u64 0), (Go.Value.int Go.IntKind.u64 0), (Go.Value.int Go.IntKind.u32 0), (Go.Value.int Go.IntKind.u8 0), (Go.Value.int Go.IntKind.u8 0), (Go.Value.int Go.IntKind.u8 0), (Go.Value.int Go.IntKind.u8 0), Go.Value.nilFunc, (Go.Value.pointer Option.none), (Go.Value.int Go.IntKind.i32 0), (Go.Value.int Go.IntKind.i32 0)]), 11, 48) := by kernel_rfl
theorem un158 : (Tryz.prog.underlying 158).isSome = true := by kernel_rfl
theorem fo158_0 : foB Tryz.prog 158 0 = some 0 := by kernel_rfl
theorem fo158_1 : foB Tryz.prog 158 1 = some 1 := by kernel_rfl
theorem fo158_2 : foB Tryz.prog 158 2 = some 2 := by kernel_rfl
theorem fo158_3 : foB Tryz.prog 158 3 = some 3 := by kernel_rfl
theorem fo158_4 : foB Tryz.prog 158 4 = some 4 := by kernel_rfl
theorem fo158_5 : foB Tryz.prog 158 5 = some 5 := by kernel_rfl
theorem fo158_6 : foB Tryz.prog 158 6 = some 6 := by kernel_rfl
theorem fo158_7 : foB Tryz.prog 158 7 = some 7 := by kernel_rfl
theorem fo158_8 : foB Tryz.prog 158 8 = some 8 := by kernel_rfl
theorem fo158_9 : foB Tryz.prog 158 9 = some 9 := by kernel_rfl
theorem fo158_10 : foB Tryz.prog 158 10 = some 10 := by kernel_rfl
theorem tk159 : tkB Tryz.prog 159 = some (true, 11) := by kernel_rfl
theorem z159 : zeroB Tryz.prog 159 = some (Go.Value.agg #[(Go.Value.int Go.IntKind.u64 0), (Go.Value.int Go.IntKind.u64 0), (Go.Value.int Go.IntKind.u32 0), (Go.Value.int Go.IntKind.u8 0), (Go.Value.int Go.IntKind.u8 0), (Go.Value.int Go.IntKind.u8 0), (Go.Value.int Go.IntKind.u8 0), Go.Value.nilFunc, (Go.Value.pointer Option.none), (Go.Value.int Go.IntKind.i32 0), (Go.Value.int Go.IntKind.i32 0)]) := by kernel_rfl
theorem rw159 : rowB Tryz.prog 159 = some ((Go.Value.agg #[(Go.Value.int Go.IntKind.u64 0), (Go.Value.int Go.IntKind.u64 0), (Go.Value.int Go.IntKind.u32 0), (Go.Value.int Go.IntKind.u8 0), (Go.Value.int Go.IntKind.u8 0), (Go.Value.int Go.IntKind.u8 0), (Go.Value.int Go.IntKind.u8 0), Go.Value.nilFunc, (Go.Value.pointer Option.none), (Go.Value.int Go.IntKind.i32 0), (Go.Value.int Go.IntKind.i32 0)]), 11, 48) := by kernel_rfl
theorem un159 : (Tryz.prog.underlying 159).isSome = true := by kernel_rfl
theorem fo159_0 : foB Tryz.prog 159 0 = some 0 := by kernel_rfl
theorem fo159_1 : foB Tryz.prog 159 1 = some 1 := by kernel_rfl
theorem fo159_2 : foB Tryz.prog 159 2 = some 2 := by kernel_rfl
theorem fo159_3 : foB Tryz.prog 159 3 = some 3 := by kernel_rfl
theorem fo159_4 : foB Tryz.prog 159 4 = some 4 := by kernel_rfl
theorem fo159_5 : foB Tryz.prog 159 5 = some 5 := by kernel_rfl
theorem fo159_6 : foB Tryz.prog 159 6 = some 6 := by kernel_rfl
theorem fo159_7 : foB Tryz.prog 159 7 = some 7 := by kernel_rfl
theorem fo159_8 : foB Tryz.prog 159 8 = some 8 := by kernel_rfl
theorem fo159_9 : foB Tryz.prog 159 9 = some 9 := by kernel_rfl
theorem fo159_10 : foB Tryz.prog 159 10 = some 10 := by kernel_rfl
theorem tk160 : tkB Tryz.prog 160 = some (false, 1) := by kernel_rfl
theorem z160 : zeroB Tryz.prog 160 = some (Go.Value.pointer Option.none) := by kernel_rfl
theorem rw160 : rowB Tryz.prog 160 = some ((Go.Value.pointer Option.none), 1, 8) := by kernel_rfl
theorem un160 : (Tryz.prog.underlying 160).isSome = true := by kernel_rfl
theorem ok2 : CallOk Tryz.prog 2 := callOk_of Tryz.func2 (by kernel_rfl) (by kernel_rfl)
theorem ok3 : CallOk Tryz.prog 3 := callOk_of Tryz.func3 (by kernel_rfl) (by kernel_rfl)
theorem ok4 : CallOk Tryz.prog 4 := callOk_of Tryz.func4 (by kernel_rfl) (by kernel_rfl)
theorem ok5 : CallOk Tryz.prog 5 := callOk_of Tryz.func5 (by kernel_rfl) (by kernel_rfl)
theorem ok6 : CallOk Tryz.prog 6 := callOk_of Tryz.func6 (by kernel_rfl) (by kernel_rfl)
theorem ok7 : CallOk Tryz.prog 7 := callOk_of Tryz.func7 (by kernel_rfl) (by kernel_rfl)
theorem ok8 : CallOk Tryz.prog 8 := callOk_of Tryz.func8 (by kernel_rfl) (by kernel_rfl)
theorem ok9 : CallOk Tryz.prog 9 := callOk_of Tryz.func9 (by kernel_rfl) (by kernel_rfl)
theorem ok10 : CallOk Tryz.prog 10 := callOk_of Tryz.func10 (by kernel_rfl) (by kernel_rfl)
theorem ok11 : CallOk Tryz.prog 11 := callOk_of Tryz.func11 (by kernel_rfl) (by kernel_rfl)
theorem ok12 : CallOk Tryz.prog 12 := callOk_of Tryz.func12 (by kernel_rfl) (by kernel_rfl)
theorem ok13 : CallOk Tryz.prog 13 := callOk_of Tryz.func13 (by kernel_rfl) (by kernel_rfl)
theorem ok14 : CallOk Tryz.prog 14 := callOk_of Tryz.func14 (by kernel_rfl) (by kernel_rfl)
theorem ok15 : CallOk Tryz.prog 15 := callOk_of Tryz.func15 (by kernel_rfl) (by kernel_rfl)
theorem ok16 : CallOk Tryz.prog 16 := callOk_of Tryz.func16 (by kernel_rfl) (by kernel_rfl)
theorem ok17 : CallOk Tryz.prog 17 := callOk_of Tryz.func17 (by kernel_rfl) (by kernel_rfl)
theorem ok18 : CallOk Tryz.prog 18 := callOk_of Tryz.func18 (by kernel_rfl) (by kernel_rfl)
theorem ok19 : CallOk Tryz.prog 19 := callOk_of Tryz.func19 (by kernel_rfl) (by kernel_rfl)
theorem ok20 : CallOk Tryz.prog 20 := callOk_of Tryz.func20 (by kernel_rfl) (by kernel_rfl)
theorem ok21 : CallOk Tryz.prog 21 := callOk_of Tryz.func21 (by kernel_rfl) (by kernel_rfl)
theorem ok22 : CallOk Tryz.prog 22 := callOk_of Tryz.func22 (by kernel_rfl) (by kernel_rfl)
theorem ok23 : CallOk Tryz.prog 23 := callOk_of Tryz.func23 (by kernel_rfl) (by kernel_rfl)
theorem ok24 : CallOk Tryz.prog 24 := callOk_of Tryz.func24 (by kernel_rfl) (by kernel_rfl)
theorem ok25 : CallOk Tryz.prog 25 := callOk_of Tryz.func25 (by kernel_rfl) (by kernel_rfl)
theorem ok26 : CallOk Tryz.prog 26 := callOk_of Tryz.func26 (by kernel_rfl) (by kernel_rfl)
theorem ok27 : CallOk Tryz.prog 27 := callOk_of Tryz.func27 (by kernel_rfl) (by kernel_rfl)
theorem ok28 : CallOk Tryz.prog 28 := callOk_of Tryz.func28 (by kernel_rfl) (by kernel_rfl)
theorem ok29 : CallOk Tryz.prog 29 := callOk_of Tryz.func29 (by kernel_rfl) (by kernel_rfl)
theorem ok30 : CallOk Tryz.prog 30 := callOk_of Tryz.func30 (by kernel_rfl) (by kernel_rfl)
theorem ok31 : CallOk Tryz.prog 31 := callOk_of Tryz.func31 (by kernel_rfl) (by kernel_rfl)
theorem ok32 : CallOk Tryz.prog 32 := callOk_of Tryz.func32 (by kernel_rfl) (by kernel_rfl)
theorem ok33 : CallOk Tryz.prog 33 := callOk_of Tryz.func33 (by kernel_rfl) (by kernel_rfl)
theorem ok34 : CallOk Tryz.prog 34 := callOk_of Tryz.func34 (by kernel_rfl) (by kernel_rfl)
theorem ok35 : CallOk Tryz.prog 35 := callOk_of Tryz.func35 (by kernel_rfl) (by kernel_rfl)
theorem ok36 : CallOk Tryz.prog 36 := callOk_of Tryz.func36 (by kernel_rfl) (by kernel_rfl)
theorem ok37 : CallOk Tryz.prog 37 := callOk_of Tryz.func37 (by kernel_rfl) (by kernel_rfl)
theorem ok38 : CallOk Tryz.prog 38 := callOk_of Tryz.func38 (by kernel_rfl) (by kernel_rfl)
theorem ok39 : CallOk Tryz.prog 39 := callOk_of Tryz.func39 (by kernel_rfl) (by kernel_rfl)
theorem ok40 : CallOk Tryz.prog 40 := callOk_of Tryz.func40 (by kernel_rfl) (by kernel_rfl)
theorem ok41 : CallOk Tryz.prog 41 := callOk_of Tryz.func41 (by kernel_rfl) (by kernel_rfl)
theorem ok42 : CallOk Tryz.prog 42 := callOk_of Tryz.func42 (by kernel_rfl) (by kernel_rfl)
theorem ok43 : CallOk Tryz.prog 43 := callOk_of Tryz.func43 (by kernel_rfl) (by kernel_rfl)
theorem ok44 : CallOk Tryz.prog 44 := callOk_of Tryz.func44 (by kernel_rfl) (by kernel_rfl)
theorem ok45 : CallOk Tryz.prog 45 := callOk_of Tryz.func45 (by kernel_rfl) (by kernel_rfl)
theorem ok46 : CallOk Tryz.prog 46 := callOk_of Tryz.func46 (by kernel_rfl) (by kernel_rfl)
theorem ok47 : CallOk Tryz.prog 47 := callOk_of Tryz.func47 (by kernel_rfl) (by kernel_rfl)
theorem ok48 : CallOk Tryz.prog 48 := callOk_of Tryz.func48 (by kernel_rfl) (by kernel_rfl)
theorem ok49 : CallOk Tryz.prog 49 := callOk_of Tryz.func49 (by kernel_rfl) (by kernel_rfl)
theorem ok50 : CallOk Tryz.prog 50 := callOk_of Tryz.func50 (by kernel_rfl) (by kernel_rfl)
theorem ok51 : CallOk Tryz.prog 51 := callOk_of Tryz.func51 (by kernel_rfl) (by kernel_rfl)
theorem ok52 : CallOk Tryz.prog 52 := callOk_of Tryz.func52 (by kernel_rfl) (by kernel_rfl)
theorem ok53 : CallOk Tryz.prog 53 := callOk_of Tryz.func53 (by kernel_rfl) (by kernel_rfl)
theorem ok54 : CallOk Tryz.prog 54 := callOk_of Tryz.func54 (by kernel_rfl) (by kernel_rfl)
theorem ok55 : CallOk Tryz.prog 55 := callOk_of Tryz.func55 (by kernel_rfl) (by kernel_rfl)
theorem ok56 : CallOk Tryz.prog 56 := callOk_of Tryz.func56 (by kernel_rfl) (by kernel_rfl)
theorem ok57 : CallOk Tryz.prog 57 := callOk_of Tryz.func57 (by kernel_rfl) (by kernel_rfl)
theorem ok58 : CallOk Tryz.prog 58 := callOk_of Tryz.func58 (by kernel_rfl) (by kernel_rfl)
theorem ok59 : CallOk Tryz.prog 59 := callOk_of Tryz.func59 (by kernel_rfl) (by kernel_rfl)
theorem ok60 : CallOk Tryz.prog 60 := callOk_of Tryz.func60 (by kernel_rfl) (by kernel_rfl)
theorem ok61 : CallOk Tryz.prog 61 := callOk_of Tryz.func61 (by kernel_rfl) (by kernel_rfl)
theorem ok62 : CallOk Tryz.prog 62 := callOk_of Tryz.func62 (by kernel_rfl) (by kernel_rfl)
theorem ok63 : CallOk Tryz.prog 63 := callOk_of Tryz.func63 (by kernel_rfl) (by kernel_rfl)
theorem ok64 : CallOk Tryz.prog 64 := callOk_of Tryz.func64 (by kernel_rfl) (by kernel_rfl)
theorem ok65 : CallOk Tryz.prog 65 := callOk_of Tryz.func65 (by kernel_rfl) (by kernel_rfl)
theorem ok66 : CallOk Tryz.prog 66 := callOk_of Tryz.func66 (by kernel_rfl) (by kernel_rfl)
theorem ok67 : CallOk Tryz.prog 67 := callOk_of Tryz.func67 (by kernel_rfl) (by kernel_rfl)
theorem ok68 : CallOk Tryz.prog 68 := callOk_of Tryz.func68 (by kernel_rfl) (by kernel_rfl)
theorem ok69 : CallOk Tryz.prog 69 := callOk_of Tryz.func69 (by kernel_rfl) (by kernel_rfl)
theorem ok70 : CallOk Tryz.prog 70 := callOk_of Tryz.func70 (by kernel_rfl) (by kernel_rfl)
theorem ok71 : CallOk Tryz.prog 71 := callOk_of Tryz.func71 (by kernel_rfl) (by kernel_rfl)
theorem ok72 : CallOk Tryz.prog 72 := callOk_of Tryz.func72 (by kernel_rfl) (by kernel_rfl)
theorem ok73 : CallOk Tryz.prog 73 := callOk_of Tryz.func73 (by kernel_rfl) (by kernel_rfl)
theorem ok74 : CallOk Tryz.prog 74 := callOk_of Tryz.func74 (by kernel_rfl) (by kernel_rfl)
theorem ok75 : CallOk Tryz.prog 75 := callOk_of Tryz.func75 (by kernel_rfl) (by kernel_rfl)
theorem ok76 : CallOk Tryz.prog 76 := callOk_of Tryz.func76 (by kernel_rfl) (by kernel_rfl)
theorem ok77 : CallOk Tryz.prog 77 := callOk_of Tryz.func77 (by kernel_rfl) (by kernel_rfl)
theorem ok78 : CallOk Tryz.prog 78 := callOk_of Tryz.func78 (by kernel_rfl) (by kernel_rfl)
theorem ok79 : CallOk Tryz.prog 79 := callOk_of Tryz.func79 (by kernel_rfl) (by kernel_rfl)
theorem ok80 : CallOk Tryz.prog 80 := callOk_of Tryz.func80 (by kernel_rfl) (by kernel_rfl)
theorem ok81 : CallOk Tryz.prog 81 := callOk_of Tryz.func81 (by kernel_rfl) (by kernel_rfl)
theorem ok82 : CallOk Tryz.prog 82 := callOk_of Tryz.func82 (by kernel_rfl) (by kernel_rfl)
theorem ok83 : CallOk Tryz.prog 83 := callOk_of Tryz.func83 (by kernel_rfl) (by kernel_rfl)
theorem ok84 : CallOk Tryz.prog 84 := callOk_of Tryz.func84 (by kernel_rfl) (by kernel_rfl)
theorem ok85 : CallOk Tryz.prog 85 := callOk_of Tryz.func85 (by kernel_rfl) (by kernel_rfl)
theorem ok86 : CallOk Tryz.prog 86 := callOk_of Tryz.func86 (by kernel_rfl) (by kernel_rfl)
theorem ok87 : CallOk Tryz.prog 87 := callOk_of Tryz.func87 (by kernel_rfl) (by kernel_rfl)
theorem ok88 : CallOk Tryz.prog 88 := callOk_of Tryz.func88 (by kernel_rfl) (by kernel_rfl)
theorem ok89 : CallOk Tryz.prog 89 := callOk_of Tryz.func89 (by kernel_rfl) (by kernel_rfl)
theorem ok90 : CallOk Tryz.prog 90 := callOk_of Tryz.func90 (by kernel_rfl) (by kernel_rfl)
theorem ok91 : CallOk Tryz.prog 91 := callOk_of Tryz.func91 (by kernel_rfl) (by kernel_rfl)
theorem ok92 : CallOk Tryz.prog 92 := callOk_of Tryz.func92 (by kernel_rfl) (by kernel_rfl)
theorem ok93 : CallOk Tryz.prog 93 := callOk_of Tryz.func93 (by kernel_rfl) (by kernel_rfl)
theorem ok94 : CallOk Tryz.prog 94 := callOk_of Tryz.func94 (by kernel_rfl) (by kernel_rfl)
theorem ok95 : CallOk Tryz.prog 95 := callOk_of Tryz.func95 (by kernel_rfl) (by kernel_rfl)
theorem ok96 : CallOk Tryz.prog 96 := callOk_of Tryz.func96 (by kernel_rfl) (by kernel_rfl)
theorem ok97 : CallOk Tryz.prog 97 := callOk_of Tryz.func97 (by kernel_rfl) (by kernel_rfl)
theorem ok98 : CallOk Tryz.prog 98 := callOk_of Tryz.func98 (by kernel_rfl) (by kernel_rfl)
theorem ok99 : CallOk Tryz.prog 99 := callOk_of Tryz.func99 (by kernel_rfl) (by kernel_rfl)
theorem ok100 : CallOk Tryz.prog 100 := callOk_of Tryz.func100 (by kernel_rfl) (by kernel_rfl)
theorem ok101 : CallOk Tryz.prog 101 := callOk_of Tryz.func101 (by kernel_rfl) (by kernel_rfl)
theorem ok102 : CallOk Tryz.prog 102 := callOk_of Tryz.func102 (by kernel_rfl) (by kernel_rfl)
theorem ok103 : CallOk Tryz.prog 103 := callOk_of Tryz.func103 (by kernel_rfl) (by kernel_rfl)
theorem ok104 : CallOk Tryz.prog 104 := callOk_of Tryz.func104 (by kernel_rfl) (by kernel_rfl)
theorem ok105 : CallOk Tryz.prog 105 := callOk_of Tryz.func105 (by kernel_rfl) (by kernel_rfl)
theorem ok106 : CallOk Tryz.prog 106 := callOk_of Tryz.func106 (by kernel_rfl) (by kernel_rfl)
theorem ok107 : CallOk Tryz.prog 107 := callOk_of Tryz.func107 (by kernel_rfl) (by kernel_rfl)
theorem ok108 : CallOk Tryz.prog 108 := callOk_of Tryz.func108 (by kernel_rfl) (by kernel_rfl)
theorem ok109 : CallOk Tryz.prog 109 := callOk_of Tryz.func109 (by kernel_rfl) (by kernel_rfl)
theorem ok110 : CallOk Tryz.prog 110 := callOk_of Tryz.func110 (by kernel_rfl) (by kernel_rfl)
theorem ok111 : CallOk Tryz.prog 111 := callOk_of Tryz.func111 (by kernel_rfl) (by kernel_rfl)
theorem ok112 : CallOk Tryz.prog 112 := callOk_of Tryz.func112 (by kernel_rfl) (by kernel_rfl)
theorem ok113 : CallOk Tryz.prog 113 := callOk_of Tryz.func113 (by kernel_rfl) (by kernel_rfl)
theorem bs38_2_0_1 (x1 : Int) (x2 : Int) (w : World) : (Instr.buildSlice 38 2 #[(0, (.int .i64 x1)), (1, (.int .i64 x2))]).run Tryz.prog w = .ok (.slice (some ⟨w.heap.size, 0, none⟩) 2 2) (w.alloc (LC [(.int .i64 x1), (.int .i64 x2)] 3)) := by kernel_rfl
theorem bs38_1_0 (x1 : Int) (w : World) : (Instr.buildSlice 38 1 #[(0, (.int .i64 x1))]).run Tryz.prog w = .ok (.slice (some ⟨w.heap.size, 0, none⟩) 1 1) (w.alloc (LC [(.int .i64 x1)] 3)) := by kernel_rfl
theorem bs38_3_0_1_2 (x1 : Int) (x2 : Int) (x3 : Int) (w : World) : (Instr.buildSlice 38 3 #[(0, (.int .i64 x1)), (1, (.int .i64 x2)), (2, (.int .i64 x3))]).run Tryz.prog w = .ok (.slice (some ⟨w.heap.size, 0, none⟩) 3 3) (w.alloc (LC [(.int .i64 x1), (.int .i64 x2), (.int .i64 x3)] 3)) := by kernel_rfl
theorem bs38_5_0_1_2_3_4 (x1 : Int) (x2 : Int) (x3 : Int) (x4 : Int) (x5 : Int) (w : World) : (Instr.buildSlice 38 5 #[(0, (.int .i64 x1)), (1, (.int .i64 x2)), (2, (.int .i64 x3)), (3, (.int .i64 x4)), (4, (.int .i64 x5))]).run Tryz.prog w = .ok (.slice (some ⟨w.heap.size, 0, none⟩) 5 5) (w.alloc (LC [(.int .i64 x1), (.int .i64 x2), (.int .i64 x3), (.int .i64 x4), (.int .i64 x5)] 3)) := by kernel_rfl
theorem bs35_3_0_1_2 (x1 : Option Addr) (x2 : Nat) (x3 : Nat) (x4 : Option Addr) (x5 : Nat) (x6 : Nat) (x7 : Option Addr) (x8 : Nat) (x9 : Nat) (w : World) : (Instr.buildSlice 35 3 #[(0, (.slice x1 x2 x3)), (1, (.slice x4 x5 x6)), (2, (.slice x7 x8 x9))]).run Tryz.prog w = .ok (.slice (some ⟨w.heap.size, 0, none⟩) 3 3) (w.alloc (LC [(.slice x1 x2 x3), (.slice x4 x5 x6), (.slice x7 x8 x9)] 38)) := by kernel_rfl
theorem bs35_1_0 (x1 : Option Addr) (x2 : Nat) (x3 : Nat) (w : World) : (Instr.buildSlice 35 1 #[(0, (.slice x1 x2 x3))]).run Tryz.prog w = .ok (.slice (some ⟨w.heap.size, 0, none⟩) 1 1) (w.alloc (LC [(.slice x1 x2 x3)] 38)) := by kernel_rfl
theorem bd24  (w : World) : (Instr.build 24 #[]).run Tryz.prog w = .ok (.agg #[(Go.Value.int Go.IntKind.i64 0), (Go.Value.int Go.IntKind.i64 0), (Go.Value.int Go.IntKind.i64 0)]) w := by kernel_rfl
theorem bd24_0_1_2 (x1 : Int) (x2 : Int) (x3 : Int) (w : World) : (Instr.build 24 #[(0, (.int .i64 x1)), (1, (.int .i64 x2)), (2, (.int .i64 x3))]).run Tryz.prog w = .ok (.agg #[(.int .i64 x1), (.int .i64 x2), (.int .i64 x3)]) w := by kernel_rfl
theorem bs22_5_0_1_2_3_4 (x1 : Int) (x2 : Int) (x3 : Int) (x4 : Bool) (x5 : Int) (x6 : Int) (x7 : Int) (x8 : Bool) (x9 : Int) (x10 : Int) (x11 : Int) (x12 : Bool) (x13 : Int) (x14 : Int) (x15 : Int) (x16 : Bool) (x17 : Int) (x18 : Int) (x19 : Int) (x20 : Bool) (w : World) : (Instr.buildSlice 22 5 #[(0, (.agg #[(.int .i64 x1), (.int .i64 x2), (.int .i64 x3), (.bool x4)])), (1, (.agg #[(.int .i64 x5), (.int .i64 x6), (.int .i64 x7), (.bool x8)])), (2, (.agg #[(.int .i64 x9), (.int .i64 x10), (.int .i64 x11), (.bool x12)])), (3, (.agg #[(.int .i64 x13), (.int .i64 x14), (.int .i64 x15), (.bool x16)])), (4, (.agg #[(.int .i64 x17), (.int .i64 x18), (.int .i64 x19), (.bool x20)]))]).run Tryz.prog w = .ok (.slice (some ⟨w.heap.size, 0, none⟩) 5 5) (w.alloc (LC [(.int .i64 x1), (.int .i64 x2), (.int .i64 x3), (.bool x4), (.int .i64 x5), (.int .i64 x6), (.int .i64 x7), (.bool x8), (.int .i64 x9), (.int .i64 x10), (.int .i64 x11), (.bool x12), (.int .i64 x13), (.int .i64 x14), (.int .i64 x15), (.bool x16), (.int .i64 x17), (.int .i64 x18), (.int .i64 x19), (.bool x20)] 81)) := by kernel_rfl
theorem bs22_1_0 (x1 : Int) (x2 : Int) (x3 : Int) (x4 : Bool) (w : World) : (Instr.buildSlice 22 1 #[(0, (.agg #[(.int .i64 x1), (.int .i64 x2), (.int .i64 x3), (.bool x4)]))]).run Tryz.prog w = .ok (.slice (some ⟨w.heap.size, 0, none⟩) 1 1) (w.alloc (LC [(.int .i64 x1), (.int .i64 x2), (.int .i64 x3), (.bool x4)] 81)) := by kernel_rfl
theorem bd86  (w : World) : (Instr.build 86 #[]).run Tryz.prog w = .ok (.agg #[(Go.Value.int Go.IntKind.i64 0)]) w := by kernel_rfl
theorem bd86_0 (x1 : Int) (w : World) : (Instr.build 86 #[(0, (.int .i64 x1))]).run Tryz.prog w = .ok (.agg #[(.int .i64 x1)]) w := by kernel_rfl
theorem bd65  (w : World) : (Instr.build 65 #[]).run Tryz.prog w = .ok (.agg #[(Go.Value.int Go.IntKind.i64 0), (Go.Value.int Go.IntKind.i64 0), (Go.Value.int Go.IntKind.i64 0), (Go.Value.int Go.IntKind.i64 0), (Go.Value.int Go.IntKind.i64 0), (Go.Value.int Go.IntKind.i64 0), (Go.Value.int Go.IntKind.i64 0), (Go.Value.int Go.IntKind.i64 0), (Go.Value.int Go.IntKind.i64 0), (Go.Value.int Go.IntKind.i64 0), (Go.Value.int Go.IntKind.i64 0), (Go.Value.int Go.IntKind.i64 0), (Go.Value.int Go.IntKind.i64 0), (Go.Value.int Go.IntKind.i64 0), (Go.Value.int Go.IntKind.i64 0)]) w := by kernel_rfl
theorem bd81_0_1 (x1 : Int) (x2 : Int) (x3 : Int) (x4 : Bool) (w : World) : (Instr.build 81 #[(0, (.agg #[(.int .i64 x1), (.int .i64 x2), (.int .i64 x3)])), (1, (.bool x4))]).run Tryz.prog w = .ok (.agg #[(.int .i64 x1), (.int .i64 x2), (.int .i64 x3), (.bool x4)]) w := by kernel_rfl
theorem bs61_1_0 (x1 : Int) (w : World) : (Instr.buildSlice 61 1 #[(0, (.agg #[(.int .i64 x1)]))]).run Tryz.prog w = .ok (.slice (some ⟨w.heap.size, 0, none⟩) 1 1) (w.alloc (LC [(.int .i64 x1)] 86)) := by kernel_rfl
theorem bs72_1_0 (x1 : Int) (x2 : Int) (x3 : Int) (w : World) : (Instr.buildSlice 72 1 #[(0, (.agg #[(.int .i64 x1), (.int .i64 x2), (.int .i64 x3)]))]).run Tryz.prog w = .ok (.slice (some ⟨w.heap.size, 0, none⟩) 1 1) (w.alloc (LC [(.int .i64 x1), (.int .i64 x2), (.int .i64 x3)] 24)) := by kernel_rfl
theorem bd90_0 (x1 : Option Addr) (x2 : Nat) (x3 : Nat) (w : World) : (Instr.build 90 #[(0, (.slice x1 x2 x3))]).run Tryz.prog w = .ok (.agg #[(.slice x1 x2 x3), (Go.Value.int Go.IntKind.i64 0)]) w := by kernel_rfl
theorem bd92_0 (x1 : Option Addr) (x2 : Nat) (x3 : Nat) (x4 : Int) (w : World) : (Instr.build 92 #[(0, (.agg #[(.slice x1 x2 x3), (.int .i64 x4)]))]).run Tryz.prog w = .ok (.agg #[(.slice x1 x2 x3), (.int .i64 x4), (Go.Value.slice Option.none 0 0), (Go.Value.slice Option.none 0 0)]) w := by kernel_rfl
theorem ffm : Tryz.prog.follows .mixedOrders = true := by kernel_rfl
end Go.Proofs.YtfcpmblmklibjaaGreat
namespace Go.Gl

structure Rg where
  lo : Int
  hi : Int
/-- A day, a panel, what some panels have together, and a bench. -/
structure Dy where
  lo : Int
  hi : Int
  pot : Int
structure Pn where
  lo : Int
  hi : Int
  sp : Int
structure Sm where
  t : Int
  g : Int
  deriving DecidableEq
structure Bn where
  w : Int
  p : Int
  each : List Sm

abbrev iv (x : Int) : Value := .int .i64 x
abbrev dye (d : Dy) : List Value := [iv d.lo, iv d.hi, iv d.pot]
abbrev dyv (d : Dy) : Value := .agg #[iv d.lo, iv d.hi, iv d.pot]
abbrev pne (p : Pn) : List Value := [iv p.lo, iv p.hi, iv p.sp]
abbrev pnv (p : Pn) : Value := .agg #[iv p.lo, iv p.hi, iv p.sp]
abbrev sme (s : Sm) : List Value := [iv s.t, iv s.g]
abbrev smv (s : Sm) : Value := .agg #[iv s.t, iv s.g]
theorem ivs {a b : Int} (h : a = b) : some (iv a) = some (iv b) := by rw [h]
theorem flat_snoc {α : Type} (enc : α → List Value) (l m : List α) : Go.Lw.flat enc (l ++ m) = Go.Lw.flat enc l ++ Go.Lw.flat enc m := by simp [Go.Lw.flat]
theorem pne_len (p : Pn) : (pne p).length = 3 := rfl
theorem sme_len (p : Sm) : (sme p).length = 2 := rfl
theorem ei_len (x : Int) : (Go.Lw.ei x).length = 1 := rfl

/-- The first of several that is better than all before it. -/
def bestOf {α : Type} (lt : α → α → Bool) (out : α) (l : List α) : α := l.foldl (fun o x => if lt x o then x else o) out
theorem bestOf_snoc {α : Type} (lt : α → α → Bool) (out : α) (l : List α) (x : α) : bestOf lt out (l ++ [x]) = if lt x (bestOf lt out l) then x else bestOf lt out l := by
  unfold bestOf; rw [List.foldl_append]; rfl
theorem bestOf_in {α : Type} (lt : α → α → Bool) : ∀ (l : List α) (out : α), bestOf lt out l ∈ out :: l
  | [], out => by simp [bestOf]
  | x :: l, out => by
    have e : bestOf lt out (x :: l) = bestOf lt (if lt x out then x else out) l := rfl
    have := bestOf_in lt l (if lt x out then x else out)
    rw [e]
    by_cases hx : lt x out = true
    · rw [if_pos hx] at this ⊢; exact List.mem_cons_of_mem _ this
    · rw [if_neg hx] at this ⊢
      rcases List.mem_cons.1 this with h | h
      · rw [h]; exact List.mem_cons_self
      · exact List.mem_cons_of_mem _ (List.mem_cons_of_mem _ h)
theorem bestOf_mem {α : Type} (lt : α → α → Bool) (out : α) (l : List α) (k : Nat) : bestOf lt out (l.take k) ∈ out :: l := by
  have := bestOf_in lt (l.take k) out
  simp only [List.mem_cons] at this ⊢
  rcases this with h | h
  · exact .inl h
  · exact .inr (List.mem_of_mem_take h)
theorem take_snoc' {α : Type} {l : List α} {k : Nat} {e : α} (h : l[k]? = some e) : l.take (k + 1) = l.take k ++ [e] := by
  obtain ⟨hk, he⟩ := List.getElem?_eq_some_iff.1 h
  rw [List.take_succ_eq_append_getElem hk, he]

/-- All of l lie from lo to hi. -/
def outB (lo hi : Int) (n : Int) : Bool := decide (n < lo) || decide (hi < n)
def wi (lo hi : Int) (l : List Int) : Bool := !(l.any (outB lo hi))
/-- A range of minutes is valid. -/
def rngB (lo hi : Int) : Bool := decide (1 ≤ lo ∧ lo ≤ hi ∧ hi ≤ 240)
def potB (n : Int) : Bool := decide (1 ≤ n ∧ n ≤ 200)
theorem wi1 (lo hi a : Int) : wi lo hi [a] = decide (lo ≤ a ∧ a ≤ hi) := by
  simp only [wi, outB, List.any_cons, List.any_nil, Bool.or_false]
  rw [Bool.eq_iff_iff]; simp
theorem wi_pot (a : Int) : wi 1 200 [a] = potB a := wi1 1 200 a
theorem wi_rng (a b : Int) : (wi 1 240 [a, b] && decide (a ≤ b)) = rngB a b := by
  simp only [wi, outB, List.any_cons, List.any_nil, Bool.or_false, rngB]
  rw [Bool.eq_iff_iff]; simp; omega
def dayB (d : Dy) : Bool := rngB d.lo d.hi && potB d.pot
def dayE (d : Dy) : Int := if dayB d then 0 else 3
def strayB (p : Pn) : Bool := !(rngB p.lo p.hi && potB p.sp)
def panE (ps : List Pn) : Int := if 10 < ps.length then 6 else if ps.any strayB then 3 else 0
def bothE (d : Dy) (ps : List Pn) : Int := if dayE d ≠ 0 then dayE d else panE ps
/-- What is known of a valid day and valid panels. -/
structure Ok (d : Dy) (ps : List Pn) : Prop where
  l0 : 1 ≤ d.lo
  l1 : d.lo ≤ d.hi
  l2 : d.hi ≤ 240
  p0 : 1 ≤ d.pot
  p1 : d.pot ≤ 200
  n10 : ps.length ≤ 10
  each : ∀ p ∈ ps, 1 ≤ p.lo ∧ p.lo ≤ p.hi ∧ p.hi ≤ 240 ∧ 1 ≤ p.sp ∧ p.sp ≤ 200
theorem dayE_ok {d : Dy} (h : dayE d = 0) : 1 ≤ d.lo ∧ d.lo ≤ d.hi ∧ d.hi ≤ 240 ∧ 1 ≤ d.pot ∧ d.pot ≤ 200 := by
  unfold dayE at h
  split at h
  · rename_i hb
    simp only [dayB, rngB, potB, Bool.and_eq_true, decide_eq_true_eq] at hb
    omega
  · cases h
theorem panE_ok {ps : List Pn} (h : panE ps = 0) : ps.length ≤ 10 ∧ ∀ p ∈ ps, 1 ≤ p.lo ∧ p.lo ≤ p.hi ∧ p.hi ≤ 240 ∧ 1 ≤ p.sp ∧ p.sp ≤ 200 := by
  unfold panE at h
  by_cases c : 10 < ps.length
  · rw [if_pos c] at h; cases h
  rw [if_neg c] at h
  by_cases c2 : ps.any strayB = true
  · rw [if_pos c2] at h; cases h
  refine ⟨by omega, fun p hp => ?_⟩
  have h3 : strayB p = false := by
    rw [Bool.not_eq_true, List.any_eq_false] at c2
    exact Bool.eq_false_iff.2 (c2 p hp)
  simp only [strayB, rngB, potB, Bool.not_eq_false', Bool.and_eq_true, decide_eq_true_eq] at h3
  omega
theorem bothE_ok {d : Dy} {ps : List Pn} (h : bothE d ps = 0) : Ok d ps := by
  unfold bothE at h
  by_cases c : dayE d ≠ 0
  · rw [if_pos c] at h; exact absurd h c
  rw [if_neg c] at h
  obtain ⟨a, b, c', e, f⟩ := dayE_ok (Decidable.not_not.1 c)
  obtain ⟨g, k⟩ := panE_ok h
  exact ⟨a, b, c', e, f, g, k⟩

/-- What a panel has, how much a batch can have. -/
def timeOf (p : Pn) (sure : Bool) : Int := bif sure then p.hi else p.lo
def worksOf (d : Dy) (sure : Bool) : Int := bif sure then d.lo else d.hi
def smOf (sure : Bool) (p : Pn) : Sm := ⟨timeOf p sure, p.sp⟩
def bn (d : Dy) (ps : List Pn) (sure : Bool) : Bn := ⟨worksOf d sure, d.pot, ps.map (smOf sure)⟩
def Sm.and (a b : Sm) : Sm := ⟨a.t + b.t, a.g + b.g⟩
def sm0 : Sm := ⟨0, 0⟩
def eachP (B : Bn) (i : Int) : Sm := B.each.getD i.toNat sm0
/-- What some panels have together. -/
def sumL (B : Bn) (l : List Int) : Sm := l.foldl (fun s i => s.and (eachP B i)) sm0
theorem sumL_snoc (B : Bn) (l : List Int) (i : Int) : sumL B (l ++ [i]) = (sumL B l).and (eachP B i) := by
  unfold sumL; rw [List.foldl_append]; rfl
def fitE (B : Bn) (s : Sm) : Int := if B.w < s.t then 22 else if B.p < s.g then 10 else 0
/-- A bench of a valid day. -/
structure BnOk (B : Bn) : Prop where
  w0 : 1 ≤ B.w
  w1 : B.w ≤ 240
  p0 : 1 ≤ B.p
  p1 : B.p ≤ 200
  n10 : B.each.length ≤ 10
  each : ∀ s ∈ B.each, 1 ≤ s.t ∧ s.t ≤ 240 ∧ 1 ≤ s.g ∧ s.g ≤ 200
theorem bn_ok {d : Dy} {ps : List Pn} (h : Ok d ps) (sure : Bool) : BnOk (bn d ps sure) := by
  have := h.l0; have := h.l1; have := h.l2
  refine ⟨?_, ?_, h.p0, h.p1, by simpa [bn] using h.n10, fun s hs => ?_⟩
  · cases sure <;> simp only [bn, worksOf, cond_true, cond_false] <;> omega
  · cases sure <;> simp only [bn, worksOf, cond_true, cond_false] <;> omega
  · simp only [bn, List.mem_map] at hs
    obtain ⟨p, hp, rfl⟩ := hs
    have := h.each p hp
    cases sure <;> simp only [smOf, timeOf, cond_true, cond_false] <;> omega
theorem eachP_some {B : Bn} {i : Int} {s : Sm} (h : B.each[i.toNat]? = some s) : s = eachP B i := by simp [eachP, List.getD, h]
theorem eachP_bd {B : Bn} (h : BnOk B) (i : Int) : 0 ≤ (eachP B i).t ∧ (eachP B i).t ≤ 240 ∧ 0 ≤ (eachP B i).g ∧ (eachP B i).g ≤ 200 := by
  unfold eachP
  cases hs : B.each[i.toNat]? with
  | none => simp [List.getD, hs, sm0]
  | some s =>
    have := h.each s (List.mem_of_getElem? hs)
    simp only [List.getD, hs, Option.getD_some]
    omega
theorem sumL_bd {B : Bn} (h : BnOk B) : ∀ l : List Int, 0 ≤ (sumL B l).t ∧ (sumL B l).t ≤ 240 * l.length ∧ 0 ≤ (sumL B l).g ∧ (sumL B l).g ≤ 200 * l.length := by
  have key : ∀ (l : List Int) (s : Sm) (k : Int), 0 ≤ s.t → s.t ≤ 240 * k → 0 ≤ s.g → s.g ≤ 200 * k →
      0 ≤ (l.foldl (fun s i => s.and (eachP B i)) s).t ∧ (l.foldl (fun s i => s.and (eachP B i)) s).t ≤ 240 * (k + l.length) ∧ 0 ≤ (l.foldl (fun s i => s.and (eachP B i)) s).g ∧ (l.foldl (fun s i => s.and (eachP B i)) s).g ≤ 200 * (k + l.length) := by
    intro l
    induction l with
    | nil => intro s k a b c d; simp; omega
    | cons i l ih =>
      intro s k a b c d
      have e := eachP_bd h i
      have := ih (s.and (eachP B i)) (k + 1) (by simp only [Sm.and]; omega) (by simp only [Sm.and]; omega) (by simp only [Sm.and]; omega) (by simp only [Sm.and]; omega)
      simp only [List.foldl_cons, List.length_cons]
      push_cast
      omega
  intro l
  have := key l sm0 0 (by simp [sm0]) (by simp [sm0]) (by simp [sm0]) (by simp [sm0])
  unfold sumL
  omega
theorem fit0 {B : Bn} (h : BnOk B) : fitE B sm0 = 0 := by
  have := h.w0; have := h.p0
  unfold fitE sm0; dsimp only
  rw [if_neg (by omega), if_neg (by omega)]
end Go.Gl
namespace Go.Gl

def prevN (l : List Int) : Nat → Int
  | 0 => 0
  | k + 1 => l.getD k 0 + 1
def okAt (l : List Int) (below : Int) (k : Nat) : Bool := decide (0 ≤ l.getD k 0 ∧ prevN l k ≤ l.getD k 0 ∧ l.getD k 0 < below)
/-- A list is strictly increasing, of numbers from 0 on, below another one. -/
def lstB (l : List Int) (below : Int) : Bool := (List.range l.length).all (okAt l below)
theorem lstB_true {l : List Int} {below : Int} (h : ∀ j, j < l.length → okAt l below j = true) : lstB l below = true := by
  unfold lstB; rw [List.all_eq_true]; intro j hj; exact h j (List.mem_range.1 hj)
theorem lstB_at {l : List Int} {below : Int} (h : lstB l below = true) {j : Nat} (hj : j < l.length) : okAt l below j = true := by
  unfold lstB at h; rw [List.all_eq_true] at h; exact h j (List.mem_range.2 hj)
theorem lstB_false {l : List Int} {below : Int} {k : Nat} (hk : k < l.length) (h : okAt l below k = false) : lstB l below = false := by
  cases hb : lstB l below with
  | false => rfl
  | true => rw [lstB_at hb hk] at h; cases h
theorem prevN_pos {l : List Int} {below : Int} : ∀ {k : Nat}, (∀ j, j < k → okAt l below j = true) → 0 ≤ prevN l k
  | 0, _ => Int.le_refl 0
  | k + 1, h => by
    have := h k (by omega)
    simp only [okAt, decide_eq_true_eq] at this
    simp only [prevN]; omega
theorem lstB_in {l : List Int} {below : Int} (h : lstB l below = true) : ∀ i ∈ l, 0 ≤ i ∧ i < below := fun i hi => by
  obtain ⟨k, hk⟩ := List.getElem?_of_mem hi
  have hlt := (List.getElem?_eq_some_iff.1 hk).1
  have := lstB_at h hlt
  have e : l.getD k 0 = i := by simp [List.getD, hk]
  simp only [okAt, decide_eq_true_eq, e] at this
  omega
theorem lstB_ge {l : List Int} {below : Int} (h : lstB l below = true) : ∀ k, k < l.length → (k : Int) ≤ l.getD k 0
  | 0, hk => by
    have := lstB_at h hk
    simp only [okAt, decide_eq_true_eq] at this
    omega
  | k + 1, hk => by
    have ih := lstB_ge h k (by omega)
    have h2 : l.getD k 0 + 1 ≤ l.getD (k + 1) 0 := (of_decide_eq_true (lstB_at h hk)).2.1
    omega
theorem lstB_len {l : List Int} {below : Int} (h : lstB l below = true) (h0 : 0 ≤ below) : (l.length : Int) ≤ below := by
  by_cases c : l.length = 0
  · omega
  · have a := lstB_ge h (l.length - 1) (by omega)
    have := lstB_at h (show l.length - 1 < l.length by omega)
    simp only [okAt, decide_eq_true_eq] at this
    omega
/-- What CheckBatch answers. -/
def batR (d : Dy) (ps : List Pn) (sure : Bool) (l : List Int) : Int × Int × Int :=
  if bothE d ps ≠ 0 then (0, 0, bothE d ps) else if lstB l ps.length = false then (0, 0, 2)
  else if fitE (bn d ps sure) (sumL (bn d ps sure) l) ≠ 0 then (0, 0, fitE (bn d ps sure) (sumL (bn d ps sure) l))
  else ((sumL (bn d ps sure) l).t, (sumL (bn d ps sure) l).g, 0)
theorem bn_len (d : Dy) (ps : List Pn) (sure : Bool) : (bn d ps sure).each.length = ps.length := by simp [bn]
end Go.Gl
namespace Go.Gl
/-- How many batches a row or a plan has. -/
def batN (l : List Int) : Int := l.foldl (fun n x => max n (x + 1)) 0
theorem batN_snoc (l : List Int) (x : Int) : batN (l ++ [x]) = max (batN l) (x + 1) := by unfold batN; rw [List.foldl_append]; rfl
theorem batN_bd {l : List Int} {m : Int} (h0 : 0 ≤ m) : (∀ x ∈ l, x < m) → 0 ≤ batN l ∧ batN l ≤ m := by
  have key : ∀ (l : List Int) (n : Int), 0 ≤ n → n ≤ m → (∀ x ∈ l, x < m) → 0 ≤ l.foldl (fun n x => max n (x + 1)) n ∧ l.foldl (fun n x => max n (x + 1)) n ≤ m := by
    intro l
    induction l with
    | nil => intro n a b _; exact ⟨a, b⟩
    | cons x l ih =>
      intro n a b h
      have := h x List.mem_cons_self
      exact ih _ (by dsimp only; omega) (by dsimp only; omega) (fun y hy => h y (List.mem_cons_of_mem _ hy))
  exact fun h => key l 0 (Int.le_refl 0) h0 h
/-- The panels of a batch, of the first k. -/
def ofK (l : List Int) (b : Int) : Nat → List Int
  | 0 => []
  | k + 1 => if l.getD k 0 = b then ofK l b k ++ [(k : Int)] else ofK l b k
def ofL (l : List Int) (b : Int) : List Int := ofK l b l.length
theorem ofK_len (l : List Int) (b : Int) : ∀ k, (ofK l b k).length ≤ k
  | 0 => Nat.le_refl 0
  | k + 1 => by
    have := ofK_len l b k
    simp only [ofK]; split
    · simp; omega
    · omega
end Go.Gl
namespace Go.Gl
def leastAt (l : List Int) (row : Bool) (k : Nat) : Int := if row = true ∧ 0 < k then l.getD (k - 1) 0 else 0
def plAt (l : List Int) (row : Bool) (k : Nat) : Bool := decide (leastAt l row k ≤ l.getD k 0 ∧ l.getD k 0 ≤ batN (l.take k))
/-- A list is as described for plans; for rows, if that is asked. -/
def planB (l : List Int) (row : Bool) : Bool := (List.range l.length).all (plAt l row)
theorem planB_true {l : List Int} {row : Bool} (h : ∀ j, j < l.length → plAt l row j = true) : planB l row = true := by
  unfold planB; rw [List.all_eq_true]; intro j hj; exact h j (List.mem_range.1 hj)
theorem planB_at {l : List Int} {row : Bool} (h : planB l row = true) {j : Nat} (hj : j < l.length) : plAt l row j = true := by
  unfold planB at h; rw [List.all_eq_true] at h; exact h j (List.mem_range.2 hj)
theorem planB_false {l : List Int} {row : Bool} {k : Nat} (hk : k < l.length) (h : plAt l row k = false) : planB l row = false := by
  cases hb : planB l row with
  | false => rfl
  | true => rw [planB_at hb hk] at h; cases h
end Go.Gl
namespace Go.Gl

/-- The numbers from one to another one. -/
def fromTo (a b : Int) : List Int := (List.range (b + 1 - a).toNat).map fun (i : Nat) => a + (i : Int)
theorem fromTo_len (a b : Int) : (fromTo a b).length = (b + 1 - a).toNat := by simp [fromTo]
theorem fromTo_at {a b : Int} {k : Nat} (h : k < (b + 1 - a).toNat) : (fromTo a b)[k]? = some (a + (k : Int)) := by
  simp only [fromTo, List.getElem?_map, List.getElem?_range h]; rfl
/-- The numbers below k that bits say. -/
def bitL (A : Nat) : Nat → List Int
  | 0 => []
  | k + 1 => if A.testBit k = true then bitL A k ++ [(k : Int)] else bitL A k

/-- What those of the first n panels have together that are in. -/
def sm (B : Bn) (p : Nat → Bool) : Nat → Sm
  | 0 => sm0
  | k + 1 => if p k = true then (sm B p k).and (eachP B (k : Int)) else sm B p k
theorem sm_congr (B : Bn) {p q : Nat → Bool} : ∀ {n : Nat}, (∀ i, i < n → p i = q i) → sm B p n = sm B q n
  | 0, _ => rfl
  | n + 1, h => by
    have ih := sm_congr B (n := n) (fun i hi => h i (by omega))
    simp only [sm, ih, h n (by omega)]
theorem sm_mono {B : Bn} (hB : BnOk B) {p q : Nat → Bool} : ∀ {n : Nat}, (∀ i, i < n → p i = true → q i = true) → (sm B p n).t ≤ (sm B q n).t ∧ (sm B p n).g ≤ (sm B q n).g
  | 0, _ => ⟨Int.le_refl _, Int.le_refl _⟩
  | n + 1, h => by
    have ih := sm_mono hB (n := n) (fun i hi => h i (by omega))
    have hn := h n (by omega)
    have hb := eachP_bd hB (n : Int)
    simp only [sm]
    cases hp : p n <;> cases hq : q n
    · simpa using ih
    · simp only [Bool.false_eq_true, if_false, if_true, Sm.and]; omega
    · rw [hp, hq] at hn; exact absurd (hn rfl) (by simp)
    · simp only [if_true, Sm.and]; omega
theorem sm_none (B : Bn) {p : Nat → Bool} : ∀ {n : Nat}, (∀ i, i < n → p i = false) → sm B p n = sm0
  | 0, _ => rfl
  | n + 1, h => by
    have ih := sm_none B (n := n) (fun i hi => h i (by omega))
    simp only [sm, ih, h n (by omega), Bool.false_eq_true, if_false]
theorem sm_cut (B : Bn) {p : Nat → Bool} {n : Nat} : ∀ {m : Nat}, n ≤ m → (∀ i, n ≤ i → i < m → p i = false) → sm B p m = sm B p n
  | 0, h, _ => by obtain rfl : n = 0 := by omega
                  rfl
  | m + 1, h, hp => by
    by_cases c : n = m + 1
    · subst c; rfl
    · have ih := sm_cut B (p := p) (n := n) (m := m) (by omega) (fun i hi hm => hp i hi (by omega))
      simp only [sm, ih, hp m (by omega) (by omega), Bool.false_eq_true, if_false]
theorem fit_iff (B : Bn) (s : Sm) : fitE B s = 0 ↔ s.t ≤ B.w ∧ s.g ≤ B.p := by
  unfold fitE
  by_cases a : B.w < s.t
  · rw [if_pos a]; exact ⟨fun h => (by cases h), fun h => absurd a (by omega)⟩
  · rw [if_neg a]
    by_cases b : B.p < s.g
    · rw [if_pos b]; exact ⟨fun h => (by cases h), fun h => absurd b (by omega)⟩
    · rw [if_neg b]; exact ⟨fun _ => by omega, fun _ => rfl⟩
theorem fit_mono {B : Bn} {a b : Sm} (h : a.t ≤ b.t ∧ a.g ≤ b.g) (hb : fitE B b = 0) : fitE B a = 0 := by
  rw [fit_iff] at *; omega
theorem fit_sub {B : Bn} (hB : BnOk B) {p q : Nat → Bool} {n : Nat} (h : ∀ i, i < n → p i = true → q i = true) (hq : fitE B (sm B q n) = 0) : fitE B (sm B p n) = 0 := fit_mono (sm_mono hB h) hq

theorem sum_ofK (B : Bn) (l : List Int) (b : Int) : ∀ k, sumL B (ofK l b k) = sm B (fun i => decide (l.getD i 0 = b)) k
  | 0 => rfl
  | k + 1 => by
    have ih := sum_ofK B l b k
    simp only [ofK, sm, decide_eq_true_eq]
    by_cases c : l.getD k 0 = b
    · rw [if_pos c, if_pos c, sumL_snoc, ih]
    · rw [if_neg c, if_neg c, ih]
theorem sum_ofL (B : Bn) (l : List Int) (b : Int) : sumL B (ofL l b) = sm B (fun i => decide (l.getD i 0 = b)) l.length := sum_ofK B l b l.length
theorem sum_bit (B : Bn) (A : Nat) : ∀ k, sumL B (bitL A k) = sm B A.testBit k
  | 0 => rfl
  | k + 1 => by
    have ih := sum_bit B A k
    simp only [bitL, sm]
    by_cases c : A.testBit k = true
    · rw [if_pos c, if_pos c, sumL_snoc, ih]
    · rw [if_neg c, if_neg c, ih]
theorem fromTo_nil {a b : Int} (h : b < a) : fromTo a b = [] := by
  have : (b + 1 - a).toNat = 0 := by omega
  simp [fromTo, this]
theorem fromTo_snoc {a b : Int} (h : a ≤ b) : fromTo a b = fromTo a (b - 1) ++ [b] := by
  have e : (b + 1 - a).toNat = (b - 1 + 1 - a).toNat + 1 := by omega
  unfold fromTo
  rw [e, List.range_succ, List.map_append]
  simp only [List.map_cons, List.map_nil]
  congr 2
  omega
theorem sum_span (B : Bn) (a : Nat) : ∀ n : Nat, sumL B (fromTo (a : Int) ((n : Int) - 1)) = sm B (fun i => decide (a ≤ i)) n
  | 0 => by rw [fromTo_nil (by omega)]; rfl
  | n + 1 => by
    have ih := sum_span B a n
    have e : (((n + 1 : Nat) : Int) - 1) = (n : Int) := by omega
    rw [e]
    simp only [sm, decide_eq_true_eq]
    by_cases c : a ≤ n
    · rw [if_pos c, fromTo_snoc (by omega), sumL_snoc, ih]
    · rw [if_neg c, fromTo_nil (by omega), ← ih, fromTo_nil (by omega)]
theorem sum_spanT (B : Bn) (a n : Nat) : sumL B (fromTo (a : Int) (n : Int)) = sm B (fun i => decide (a ≤ i)) (n + 1) := by
  rw [← sum_span B a (n + 1)]; congr 2; omega

/-- Each panel alone can be laid. -/
def FineB (B : Bn) : Prop := ∀ i : Nat, i < B.each.length → fitE B (eachP B (i : Int)) = 0
theorem and0 (s : Sm) : sm0.and s = s := by simp [Sm.and, sm0]

/-- The first panel of the last batch, and its number, of the first panels in order. -/
def rowF (B : Bn) : Nat → Nat × Nat
  | 0 => (0, 0)
  | k + 1 => if fitE B (sumL B (fromTo ((rowF B k).1 : Int) (k : Int))) ≠ 0 then (k, (rowF B k).2 + 1) else rowF B k
def rowO (B : Bn) (k : Nat) : List Int := (List.range k).map fun i => ((rowF B (i + 1)).2 : Int)
/-- The best row. -/
def rowL (B : Bn) : List Int := rowO B B.each.length
theorem rowO_succ (B : Bn) (k : Nat) : rowO B (k + 1) = rowO B k ++ [((rowF B (k + 1)).2 : Int)] := by
  unfold rowO; rw [List.range_succ, List.map_append]; rfl
theorem rowO_len (B : Bn) (k : Nat) : (rowO B k).length = k := by simp [rowO]
theorem rowO_at (B : Bn) {k i : Nat} (h : i < k) : (rowO B k).getD i 0 = ((rowF B (i + 1)).2 : Int) := by
  simp [rowO, List.getD, List.getElem?_map, List.getElem?_range h]
theorem rowF_le (B : Bn) : ∀ k, (rowF B k).1 ≤ k
  | 0 => Nat.le_refl 0
  | k + 1 => by
    have ih := rowF_le B k
    simp only [rowF]; split
    · simp only; omega
    · omega
theorem sm_sub {B : Bn} (hB : BnOk B) {p q : Nat → Bool} {m n : Nat} (hmn : m ≤ n) (h : ∀ i, i < m → p i = true → q i = true) : (sm B p m).t ≤ (sm B q n).t ∧ (sm B p m).g ≤ (sm B q n).g := by
  have e : sm B (fun i => p i && decide (i < m)) n = sm B p m := by
    rw [sm_cut B (n := m) hmn (fun i h1 h2 => by simp; omega)]
    exact sm_congr B (fun i hi => by simp [hi])
  rw [← e]
  refine sm_mono hB (fun i hi hp => ?_)
  rw [Bool.and_eq_true, decide_eq_true_eq] at hp
  exact h i hp.2 hp.1
theorem sm_last (B : Bn) (k : Nat) : sm B (fun i => decide (k ≤ i)) (k + 1) = eachP B (k : Int) := by
  simp only [sm]
  rw [sm_none B (fun i hi => decide_eq_false (by omega)), if_pos (by simp), and0]
theorem rowF_one {B : Bn} (hf : FineB B) (c : 0 < B.each.length) : rowF B 1 = (0, 0) := by
  have e : sumL B (fromTo ((rowF B 0).1 : Int) ((0 : Nat) : Int)) = eachP B ((0 : Nat) : Int) := by
    show sumL B (fromTo ((0 : Nat) : Int) ((0 : Nat) : Int)) = _
    rw [sum_spanT, sm_last]
  have d : ¬ fitE B (sumL B (fromTo ((rowF B 0).1 : Int) ((0 : Nat) : Int))) ≠ 0 := by rw [e, hf 0 c]; simp
  show (if fitE B (sumL B (fromTo ((rowF B 0).1 : Int) ((0 : Nat) : Int))) ≠ 0 then (0, (rowF B 0).2 + 1) else rowF B 0) = (0, 0)
  rw [if_neg d]; rfl
theorem rowF_new {B : Bn} {k : Nat} (h : fitE B (sm B (fun i => decide ((rowF B k).1 ≤ i)) (k + 1)) ≠ 0) : rowF B (k + 1) = (k, (rowF B k).2 + 1) := by
  show (if fitE B (sumL B (fromTo ((rowF B k).1 : Int) (k : Int))) ≠ 0 then (k, (rowF B k).2 + 1) else rowF B k) = _
  rw [sum_spanT, if_pos h]
theorem rowF_same {B : Bn} {k : Nat} (h : fitE B (sm B (fun i => decide ((rowF B k).1 ≤ i)) (k + 1)) = 0) : rowF B (k + 1) = rowF B k := by
  show (if fitE B (sumL B (fromTo ((rowF B k).1 : Int) (k : Int))) ≠ 0 then (k, (rowF B k).2 + 1) else rowF B k) = _
  rw [sum_spanT, if_neg (by rw [h]; simp)]
structure RowSt (B : Bn) (k : Nat) : Prop where
  lt : (rowF B k).1 < k
  same : ∀ j, (rowF B k).1 ≤ j → j < k → (rowF B (j + 1)).2 = (rowF B k).2
  less : ∀ j, j < (rowF B k).1 → (rowF B (j + 1)).2 < (rowF B k).2
  fits : fitE B (sm B (fun i => decide ((rowF B k).1 ≤ i)) k) = 0
theorem rowF_st {B : Bn} (hf : FineB B) : ∀ k, k < B.each.length → RowSt B (k + 1)
  | 0, h => by
    have e := rowF_one hf h
    refine ⟨by rw [e]; simp, fun j h1 h2 => ?_, fun j hj => ?_, ?_⟩
    · obtain rfl : j = 0 := by omega
      rfl
    · rw [e] at hj; simp at hj
    · rw [e]; show fitE B (sm B (fun i => decide (0 ≤ i)) (0 + 1)) = 0
      rw [sm_last]; exact hf 0 h
  | k + 1, h => by
    have ih := rowF_st hf k (by omega)
    by_cases c : fitE B (sm B (fun i => decide ((rowF B (k + 1)).1 ≤ i)) (k + 1 + 1)) = 0
    · have e := rowF_same c
      refine ⟨by rw [e]; have := ih.lt; omega, fun j h1 h2 => ?_, fun j hj => ?_, by rw [e]; exact c⟩
      · by_cases d : j = k + 1
        · subst d; rfl
        · rw [e] at h1 ⊢; exact ih.same j h1 (by omega)
      · rw [e] at hj ⊢; exact ih.less j hj
    · have e := rowF_new c
      refine ⟨by rw [e]; simp, fun j h1 h2 => ?_, fun j hj => ?_, ?_⟩
      · rw [e] at h1; simp only at h1
        obtain rfl : j = k + 1 := by omega
        rfl
      · rw [e] at hj ⊢; simp only at hj ⊢
        by_cases d : (rowF B (k + 1)).1 ≤ j
        · have := ih.same j d (by omega); omega
        · have := ih.less j (by omega); omega
      · rw [e]; simp only; rw [sm_last]; exact hf (k + 1) h
theorem rowF_mono (B : Bn) (k : Nat) : (rowF B k).2 ≤ (rowF B (k + 1)).2 ∧ (rowF B (k + 1)).2 ≤ (rowF B k).2 + 1 := by
  by_cases c : fitE B (sm B (fun i => decide ((rowF B k).1 ≤ i)) (k + 1)) = 0
  · rw [rowF_same c]; omega
  · rw [rowF_new c]; simp
/-- The numbers of a row do not fall. -/
def Mono (l : List Int) : Prop := ∀ i j, i ≤ j → j < l.length → l.getD i 0 ≤ l.getD j 0
/-- The panels of each batch share it. -/
def Good (B : Bn) (l : List Int) : Prop := ∀ k : Int, fitE B (sm B (fun i => decide (l.getD i 0 = k)) l.length) = 0
/-- The best row has at each panel the least number of all good rows. -/
theorem row_min {B : Bn} (hB : BnOk B) (hf : FineB B) {l : List Int} (hm : Mono l) (h0 : 0 ≤ l.getD 0 0) (hl : l.length = B.each.length) (hg : Good B l) : ∀ i, i < B.each.length → ((rowF B (i + 1)).2 : Int) ≤ l.getD i 0
  | 0, h => by rw [rowF_one hf h]; exact h0
  | i + 1, h => by
    have st := rowF_st hf i (by omega)
    have ih := row_min hB hf hm h0 hl hg i (by omega)
    have hmi := hm i (i + 1) (by omega) (by omega)
    by_cases c : fitE B (sm B (fun j => decide ((rowF B (i + 1)).1 ≤ j)) (i + 1 + 1)) = 0
    · rw [rowF_same c]; omega
    · rw [rowF_new c]; simp only
      by_cases d : l.getD (i + 1) 0 < ((rowF B (i + 1)).2 : Int) + 1
      · exfalso
        refine c (fit_mono (sm_sub hB (n := B.each.length) (q := fun j => decide (l.getD j 0 = ((rowF B (i + 1)).2 : Int))) (by omega) (fun j hj hp => ?_)) (by rw [← hl]; exact hg _))
        rw [decide_eq_true_eq] at hp ⊢
        by_cases e : j = i + 1
        · subst e; omega
        · have h1 := row_min hB hf hm h0 hl hg j (by omega)
          have h2 := st.same j hp (by omega)
          have h3 := hm j i (by omega) (by omega)
          omega
      · push_cast; omega

theorem batN_gt {l : List Int} {x : Int} (h : x ∈ l) : x < batN l := by
  have key : ∀ (l : List Int) (n : Int), n ≤ l.foldl (fun n x => max n (x + 1)) n ∧ ∀ x ∈ l, x < l.foldl (fun n x => max n (x + 1)) n := by
    intro l
    induction l with
    | nil => intro n; exact ⟨Int.le_refl _, fun x hx => by cases hx⟩
    | cons y l ih =>
      intro n
      obtain ⟨a, b⟩ := ih (max n (y + 1))
      refine ⟨by simp only [List.foldl_cons]; omega, fun x hx => ?_⟩
      simp only [List.foldl_cons]
      rcases List.mem_cons.1 hx with rfl | hx
      · omega
      · exact b x hx
  exact (key l 0).2 x h
theorem batN_pos (l : List Int) : 0 ≤ batN l := by
  have key : ∀ (l : List Int) (n : Int), n ≤ l.foldl (fun n x => max n (x + 1)) n := by
    intro l
    induction l with
    | nil => intro n; exact Int.le_refl _
    | cons y l ih => intro n; have := ih (max n (y + 1)); simp only [List.foldl_cons]; omega
  exact key l 0
theorem batN_le {l : List Int} {m : Int} (h0 : 0 ≤ m) (h : ∀ x ∈ l, x < m) : batN l ≤ m := (batN_bd h0 h).2
theorem getD_mem {l : List Int} {i : Nat} (h : i < l.length) : l.getD i 0 ∈ l := by
  simp only [List.getD, List.getElem?_eq_getElem h, Option.getD_some]; exact List.getElem_mem h
theorem mem_getD {l : List Int} {x : Int} (h : x ∈ l) : ∃ i, i < l.length ∧ l.getD i 0 = x := by
  obtain ⟨i, hi, rfl⟩ := List.getElem_of_mem h
  exact ⟨i, hi, by simp [List.getD, List.getElem?_eq_getElem hi]⟩
theorem rowO_bat {B : Bn} (hf : FineB B) (h0 : 0 < B.each.length) : ∀ k, batN (rowO B (k + 1)) = ((rowF B (k + 1)).2 : Int) + 1
  | 0 => by
    rw [rowO_succ, batN_snoc, rowF_one hf h0]
    show max (0 : Int) (((0 : Nat) : Int) + 1) = _
    omega
  | k + 1 => by
    have ih := rowO_bat hf h0 k
    have := rowF_mono B (k + 1)
    rw [rowO_succ, batN_snoc, ih]
    omega
theorem rowO_take (B : Bn) {k n : Nat} (h : k ≤ n) : (rowO B n).take k = rowO B k := by
  unfold rowO; rw [← List.map_take, List.take_range]; congr 2; omega
theorem row_len (B : Bn) : (rowL B).length = B.each.length := rowO_len B _
theorem row_plan {B : Bn} (hf : FineB B) : planB (rowL B) true = true := planB_true fun k hk => by
  rw [row_len] at hk
  unfold plAt leastAt rowL
  rw [rowO_take B (by omega), rowO_at B hk]
  refine decide_eq_true ?_
  match k with
  | 0 =>
    rw [if_neg (by simp), rowF_one hf hk]
    simp [batN_pos]
  | k + 1 =>
    rw [if_pos ⟨rfl, by omega⟩, rowO_bat hf (by omega), show k + 1 - 1 = k from rfl, rowO_at B (by omega)]
    have := rowF_mono B (k + 1)
    omega
theorem row_mono' {B : Bn} : ∀ {i j : Nat}, i ≤ j → (rowF B i).2 ≤ (rowF B j).2 := by
  intro i j h
  induction j with
  | zero => obtain rfl : i = 0 := by omega
            exact Nat.le_refl _
  | succ j ih =>
    by_cases c : i = j + 1
    · subst c; exact Nat.le_refl _
    · exact Nat.le_trans (ih (by omega)) (rowF_mono B j).1
theorem row_mono (B : Bn) : Mono (rowL B) := fun i j hij hj => by
  rw [row_len] at hj
  unfold rowL
  rw [rowO_at B (by omega), rowO_at B hj]
  have := row_mono' (B := B) (show i + 1 ≤ j + 1 by omega)
  omega
theorem row_good {B : Bn} (hB : BnOk B) (hf : FineB B) : Good B (rowL B) := by
  have key : ∀ k, k ≤ B.each.length → ∀ b : Int, fitE B (sm B (fun i => decide (((rowF B (i + 1)).2 : Int) = b)) k) = 0 := by
    intro k
    induction k with
    | zero => intro _ b; exact fit0 hB
    | succ k ih =>
      intro hk b
      have st := rowF_st hf k (by omega)
      by_cases c : ((rowF B (k + 1)).2 : Int) = b
      · rw [sm_congr B (q := fun i => decide ((rowF B (k + 1)).1 ≤ i)) (fun i hi => ?_)]
        · exact st.fits
        · rw [Bool.eq_iff_iff, decide_eq_true_eq, decide_eq_true_eq]
          refine ⟨fun h => ?_, fun h => ?_⟩
          · by_cases d : (rowF B (k + 1)).1 ≤ i
            · exact d
            · have := st.less i (by omega); omega
          · have := st.same i h hi; omega
      · have := ih (by omega) b
        simp only [sm]
        rw [if_neg (by simpa using c)]
        exact this
  intro b
  rw [row_len, sm_congr B (q := fun i => decide (((rowF B (i + 1)).2 : Int) = b)) (fun i hi => by unfold rowL; rw [rowO_at B hi])]
  exact key _ (Nat.le_refl _) b
theorem plan_row {l : List Int} (h : planB l true = true) : Mono l ∧ ∀ x ∈ l, 0 ≤ x := by
  have h1 : ∀ i, i + 1 < l.length → l.getD i 0 ≤ l.getD (i + 1) 0 := fun i hi => by
    have := planB_at h hi
    unfold plAt leastAt at this
    rw [if_pos ⟨rfl, by omega⟩, decide_eq_true_eq] at this
    exact this.1
  have hm : Mono l := fun i j hij hj => by
    induction j with
    | zero => obtain rfl : i = 0 := by omega
              exact Int.le_refl _
    | succ j ih =>
      by_cases c : i = j + 1
      · subst c; exact Int.le_refl _
      · exact Int.le_trans (ih (by omega) (by omega)) (h1 j hj)
  refine ⟨hm, fun x hx => ?_⟩
  obtain ⟨i, hi, rfl⟩ := mem_getD hx
  have h0 := planB_at h (show 0 < l.length by omega)
  unfold plAt leastAt at h0
  rw [if_neg (by simp), decide_eq_true_eq] at h0
  exact Int.le_trans h0.1 (hm 0 i (by omega) hi)
theorem plan_in {l : List Int} (h : planB l false = true) : ∀ x ∈ l, 0 ≤ x := fun x hx => by
  obtain ⟨i, hi, rfl⟩ := mem_getD hx
  have h0 := planB_at h hi
  unfold plAt leastAt at h0
  rw [if_neg (by simp), decide_eq_true_eq] at h0
  exact h0.1
/-- A row is a plan. -/
theorem row_isPlan {l : List Int} (h : planB l true = true) : planB l false = true := planB_true fun k hk => by
  have h0 := planB_at h hk
  have h1 := (plan_row h).2 _ (getD_mem hk)
  unfold plAt leastAt at *
  rw [decide_eq_true_eq] at *
  rw [if_neg (by simp)]
  exact ⟨h1, h0.2⟩
theorem row_least {B : Bn} (hB : BnOk B) (hf : FineB B) {l : List Int} (h : planB l true = true) (hl : l.length = B.each.length) (hg : Good B l) : batN (rowL B) ≤ batN l := by
  obtain ⟨hm, h0⟩ := plan_row h
  refine batN_le (batN_pos l) fun x hx => ?_
  obtain ⟨i, hi, rfl⟩ := mem_getD hx
  rw [row_len] at hi
  have h00 : 0 ≤ l.getD 0 0 := h0 _ (getD_mem (by omega))
  have a := row_min hB hf hm h00 hl hg i hi
  have b := batN_gt (getD_mem (l := l) (i := i) (by omega))
  unfold rowL
  rw [rowO_at B hi]
  omega
end Go.Gl
namespace Go.Gl
/-- The first panels of the batches of the best row. -/
def mkL (B : Bn) : Nat → List Int
  | 0 => []
  | k + 1 => if mkL B k = [] ∨ fitE B (sumL B (fromTo ((mkL B k).getLastD 0) (k : Int))) ≠ 0 then mkL B k ++ [(k : Int)] else mkL B k
theorem mkL_at {B : Bn} (hf : FineB B) : ∀ k, k < B.each.length → mkL B (k + 1) ≠ [] ∧ (mkL B (k + 1)).getLastD 0 = ((rowF B (k + 1)).1 : Int) ∧ (mkL B (k + 1)).length = (rowF B (k + 1)).2 + 1
  | 0, h => by
    rw [rowF_one hf h]
    simp [mkL]
  | k + 1, h => by
    obtain ⟨a, b, c⟩ := mkL_at hf k (by omega)
    have e : fitE B (sumL B (fromTo ((mkL B (k + 1)).getLastD 0) ((k + 1 : Nat) : Int))) = fitE B (sm B (fun i => decide ((rowF B (k + 1)).1 ≤ i)) (k + 1 + 1)) := by rw [b, sum_spanT]
    rw [mkL, e]
    by_cases d : fitE B (sm B (fun i => decide ((rowF B (k + 1)).1 ≤ i)) (k + 1 + 1)) = 0
    · rw [rowF_same d, if_neg (by rw [d]; simp [a])]
      exact ⟨a, b, c⟩
    · rw [rowF_new d, if_pos (.inr d)]
      simp [c]
theorem mkL_lt (B : Bn) : ∀ k, ∀ x ∈ mkL B k, 0 ≤ x ∧ x < (k : Int)
  | 0, x, h => by simp [mkL] at h
  | k + 1, x, h => by
    have ih := mkL_lt B k
    rw [mkL] at h
    split at h
    · rcases List.mem_append.1 h with h | h
      · have := ih x h; push_cast; omega
      · simp at h; omega
    · have := ih x h; push_cast; omega
theorem mkL_len (B : Bn) : ∀ k, (mkL B k).length ≤ k
  | 0 => Nat.le_refl 0
  | k + 1 => by
    have ih := mkL_len B k
    rw [mkL]; split
    · simp; omega
    · omega
theorem mkL_pre (B : Bn) : ∀ {k n : Nat}, k ≤ n → ∃ l, mkL B n = mkL B k ++ l ∧ ∀ x ∈ l, (k : Int) ≤ x := by
  intro k n h
  induction n with
  | zero => obtain rfl : k = 0 := by omega
            exact ⟨[], by simp, fun x hx => by cases hx⟩
  | succ n ih =>
    by_cases c : k = n + 1
    · subst c; exact ⟨[], by simp, fun x hx => by cases hx⟩
    · obtain ⟨l, e, hl⟩ := ih (by omega)
      rw [mkL]
      split
      · refine ⟨l ++ [(n : Int)], by rw [e]; simp, fun x hx => ?_⟩
        rcases List.mem_append.1 hx with h | h
        · exact hl x h
        · simp at h; omega
      · exact ⟨l, e, hl⟩
/-- Where a number stands among the marks. -/
theorem mk_pos {B : Bn} (hf : FineB B) {t : Nat} (ht : t < B.each.length) {j : Nat} (hj : j ≤ (mkL B B.each.length).length) (h1 : ∀ q, q < j → (mkL B B.each.length).getD q 0 < (t : Int))
    (h2 : ∀ q, j ≤ q → q < (mkL B B.each.length).length → (t : Int) ≤ (mkL B B.each.length).getD q 0) :
    (if j < (mkL B B.each.length).length ∧ (mkL B B.each.length).getD j 0 = (t : Int) then (j : Int) else (j : Int) - 1) = ((rowF B (t + 1)).2 : Int) := by
  obtain ⟨l, e, hl⟩ := mkL_pre B (show t + 1 ≤ B.each.length by omega)
  obtain ⟨_, _, hc⟩ := mkL_at hf t ht
  have hlow := mkL_lt B (t + 1)
  have g1 : ∀ q, q < (mkL B (t + 1)).length → (mkL B B.each.length).getD q 0 ≤ (t : Int) := fun q hq => by
    have : (mkL B B.each.length).getD q 0 = (mkL B (t + 1)).getD q 0 := by
      simp only [List.getD, e, List.getElem?_append_left hq]
    rw [this]
    have := hlow _ (getD_mem hq)
    omega
  have g2 : ∀ q, (mkL B (t + 1)).length ≤ q → q < (mkL B B.each.length).length → (t : Int) < (mkL B B.each.length).getD q 0 := fun q hq hq2 => by
    have e2 : (mkL B B.each.length).getD q 0 = l.getD (q - (mkL B (t + 1)).length) 0 := by
      simp only [List.getD, e, List.getElem?_append_right hq]
    rw [e2]
    have := hl _ (getD_mem (l := l) (i := q - (mkL B (t + 1)).length) (by rw [e, List.length_append] at hq2; omega))
    omega
  have hle : (mkL B (t + 1)).length ≤ (mkL B B.each.length).length := by rw [e, List.length_append]; omega
  by_cases c : j < (mkL B B.each.length).length ∧ (mkL B B.each.length).getD j 0 = (t : Int)
  · rw [if_pos c]
    have a1 : j < (mkL B (t + 1)).length := by
      by_cases d : j < (mkL B (t + 1)).length
      · exact d
      · have := g2 j (by omega) c.1; omega
    have a2 : ¬ j + 1 < (mkL B (t + 1)).length := fun d => by
      have b1 := g1 (j + 1) d
      have b2 := h2 (j + 1) (by omega) (by omega)
      -- two marks that are the same
      have hs : ∀ k, ∀ q, q + 1 < (mkL B k).length → (mkL B k).getD q 0 < (mkL B k).getD (q + 1) 0 := by
        intro k
        induction k with
        | zero => intro q hq; simp [mkL] at hq
        | succ k ih =>
          intro q hq
          rw [mkL] at hq ⊢
          split at hq
          · rename_i hc2
            rw [if_pos hc2]
            rw [List.length_append] at hq
            simp only [List.length_cons, List.length_nil] at hq
            by_cases d2 : q + 1 < (mkL B k).length
            · simp only [List.getD, List.getElem?_append_left (show q < (mkL B k).length by omega), List.getElem?_append_left d2]
              exact ih q d2
            · have e3 : q + 1 = (mkL B k).length := by omega
              have m1 : (mkL B k ++ [(k : Int)]).getD (q + 1) 0 = (k : Int) := by simp [List.getD, e3]
              have m2 : (mkL B k ++ [(k : Int)]).getD q 0 = (mkL B k).getD q 0 := by simp only [List.getD, List.getElem?_append_left (show q < (mkL B k).length by omega)]
              rw [m1, m2]
              exact (mkL_lt B k _ (getD_mem (by omega))).2
          · rename_i hc2
            rw [if_neg hc2]
            exact ih q hq
      have := hs B.each.length j (by omega)
      omega
    omega
  · rw [if_neg c]
    have a1 : ¬ j < (mkL B (t + 1)).length := fun d => by
      have b1 := g1 j d
      have b2 := h2 j (Nat.le_refl j) (by omega)
      exact c ⟨by omega, by omega⟩
    have a2 : ¬ (mkL B (t + 1)).length < j := fun d => by
      have b1 := h1 _ d
      have b2 := g2 _ (Nat.le_refl _) (by omega)
      omega
    omega

/-- Marks prove: for any two that follow one another the panels from the one to the other one do not share a batch. -/
def mkAt (B : Bn) (ms : List Int) (k : Nat) : Bool := decide (k = 0 ∨ fitE B (sumL B (fromTo (ms.getD (k - 1) 0) (ms.getD k 0))) ≠ 0)
def mksB (B : Bn) (ms : List Int) : Bool := (List.range ms.length).all (mkAt B ms)
theorem mksB_true {B : Bn} {l : List Int} (h : ∀ j, j < l.length → mkAt B l j = true) : mksB B l = true := by
  unfold mksB; rw [List.all_eq_true]; intro j hj; exact h j (List.mem_range.1 hj)
theorem mksB_at {B : Bn} {l : List Int} (h : mksB B l = true) {j : Nat} (hj : j < l.length) : mkAt B l j = true := by
  unfold mksB at h; rw [List.all_eq_true] at h; exact h j (List.mem_range.2 hj)
theorem mksB_false {B : Bn} {l : List Int} {k : Nat} (hk : k < l.length) (h : mkAt B l k = false) : mksB B l = false := by
  cases hb : mksB B l with
  | false => rfl
  | true => rw [mksB_at hb hk] at h; cases h
/-- What CheckMarks answers. -/
def mkR (d : Dy) (ps : List Pn) (sure : Bool) (ms : List Int) : Int × Int :=
  if bothE d ps ≠ 0 then (0, bothE d ps) else if lstB ms ps.length = false then (0, 2) else if mksB (bn d ps sure) ms = false then (0, 14) else (ms.length, 0)

theorem lst_mono {l : List Int} {n : Int} (h : lstB l n = true) : ∀ k, k + 1 < l.length → l.getD k 0 < l.getD (k + 1) 0 := fun k hk => by
  have : l.getD k 0 + 1 ≤ l.getD (k + 1) 0 := (of_decide_eq_true (lstB_at h hk)).2.1
  omega
/-- No good row has fewer batches than marks prove. -/
theorem marks_le {B : Bn} (hB : BnOk B) {l ms : List Int} (hm : Mono l) (h0 : ∀ x ∈ l, 0 ≤ x) (hl : l.length = B.each.length) (hg : Good B l) (hms : lstB ms (B.each.length : Int) = true) (hp : mksB B ms = true) : (ms.length : Int) ≤ batN l := by
  have hin := lstB_in hms
  have key : ∀ k, k < ms.length → (k : Int) ≤ l.getD (ms.getD k 0).toNat 0 := by
    intro k
    induction k with
    | zero =>
      intro hk
      have := hin _ (getD_mem hk)
      exact h0 _ (getD_mem (by omega))
    | succ k ih =>
      intro hk
      have ih := ih (by omega)
      have a := hin _ (getD_mem (l := ms) (i := k) (by omega))
      have b := hin _ (getD_mem hk)
      have c := lst_mono hms k hk
      have hmm := hm (ms.getD k 0).toNat (ms.getD (k + 1) 0).toNat (by omega) (by omega)
      have d := mksB_at hp hk
      unfold mkAt at d
      rw [decide_eq_true_eq] at d
      rcases d with d | d
      · omega
      · by_cases e : l.getD (ms.getD k 0).toNat 0 = l.getD (ms.getD (k + 1) 0).toNat 0
        · exfalso
          apply d
          have e1 : fromTo (ms.getD k 0) (ms.getD (k + 1) 0) = fromTo (((ms.getD k 0).toNat : Nat) : Int) (((ms.getD (k + 1) 0).toNat : Nat) : Int) := by congr 1 <;> omega
          rw [show k + 1 - 1 = k from rfl, e1, sum_spanT]
          refine fit_mono (sm_sub hB (n := l.length) (q := fun i => decide (l.getD i 0 = l.getD (ms.getD k 0).toNat 0)) (by omega) (fun i hi hpi => ?_)) (hg _)
          rw [decide_eq_true_eq] at hpi ⊢
          have f1 := hm (ms.getD k 0).toNat i hpi (by omega)
          have f2 := hm i (ms.getD (k + 1) 0).toNat (by omega) (by omega)
          omega
        · push_cast; omega
  by_cases c : ms.length = 0
  · have := batN_pos l; omega
  · have a := key (ms.length - 1) (by omega)
    have b := hin _ (getD_mem (l := ms) (i := ms.length - 1) (by omega))
    have := batN_gt (getD_mem (l := l) (i := (ms.getD (ms.length - 1) 0).toNat) (by omega))
    omega
theorem mk_at (B : Bn) : ∀ n, n ≤ B.each.length → (∀ k, k < (mkL B n).length → okAt (mkL B n) (B.each.length : Int) k = true) ∧ ∀ k, k < (mkL B n).length → mkAt B (mkL B n) k = true := by
  intro n
  induction n with
  | zero => intro _; exact ⟨fun k hk => by simp [mkL] at hk, fun k hk => by simp [mkL] at hk⟩
  | succ n ih =>
    intro hn
    obtain ⟨h1, h2⟩ := ih (by omega)
    rw [mkL]
    by_cases c : mkL B n = [] ∨ fitE B (sumL B (fromTo ((mkL B n).getLastD 0) (n : Int))) ≠ 0
    · rw [if_pos c]
      have g1 : ∀ q, q < (mkL B n).length → (mkL B n ++ [(n : Int)]).getD q 0 = (mkL B n).getD q 0 := fun q hq => by simp only [List.getD, List.getElem?_append_left hq]
      have g2 : (mkL B n ++ [(n : Int)]).getD (mkL B n).length 0 = (n : Int) := by simp [List.getD]
      have hlt := mkL_lt B n
      refine ⟨fun k hk => ?_, fun k hk => ?_⟩
      · rw [List.length_append] at hk
        simp only [List.length_cons, List.length_nil] at hk
        by_cases d : k < (mkL B n).length
        · have a := h1 k d
          simp only [okAt, decide_eq_true_eq] at a ⊢
          rw [g1 k d]
          have e : prevN (mkL B n ++ [(n : Int)]) k = prevN (mkL B n) k := by
            match k with
            | 0 => rfl
            | k + 1 => simp only [prevN]; rw [g1 k (by omega)]
          rw [e]; exact a
        · obtain rfl : k = (mkL B n).length := by omega
          simp only [okAt, decide_eq_true_eq]
          rw [g2]
          refine ⟨by omega, ?_, by omega⟩
          match hk2 : (mkL B n).length with
          | 0 => simp only [prevN]; omega
          | m + 1 =>
            simp only [prevN]
            rw [g1 m (by omega)]
            have := hlt _ (getD_mem (l := mkL B n) (i := m) (by omega))
            omega
      · rw [List.length_append] at hk
        simp only [List.length_cons, List.length_nil] at hk
        by_cases d : k < (mkL B n).length
        · have a := h2 k d
          unfold mkAt at a ⊢
          rw [decide_eq_true_eq] at a ⊢
          rw [g1 k d]
          by_cases e : k = 0
          · exact .inl e
          · rw [g1 (k - 1) (by omega)]; exact a
        · obtain rfl : k = (mkL B n).length := by omega
          unfold mkAt
          rw [decide_eq_true_eq, g2]
          by_cases e : (mkL B n).length = 0
          · exact .inl e
          · rw [g1 _ (by omega)]
            refine .inr ?_
            have hne : mkL B n ≠ [] := fun h => e (by rw [h]; rfl)
            have e2 : (mkL B n).getD ((mkL B n).length - 1) 0 = (mkL B n).getLastD 0 := by
              rw [List.getLastD_eq_getLast?, List.getLast?_eq_getElem?]; rfl
            rw [e2]
            rcases c with c | c
            · exact absurd c hne
            · exact c
    · rw [if_neg c]; exact ⟨h1, h2⟩
theorem mk_lst (B : Bn) : lstB (mkL B B.each.length) (B.each.length : Int) = true := lstB_true (mk_at B _ (Nat.le_refl _)).1
theorem mk_mks (B : Bn) : mksB B (mkL B B.each.length) = true := mksB_true (mk_at B _ (Nat.le_refl _)).2
/-- As many marks as the best row has batches. -/
theorem mk_len {B : Bn} (hf : FineB B) : ((mkL B B.each.length).length : Int) = batN (rowL B) := by
  match h : B.each.length with
  | 0 => unfold rowL; rw [h]; rfl
  | n + 1 =>
    have a := (mkL_at hf n (by omega)).2.2
    have b := rowO_bat hf (by omega) n
    unfold rowL
    rw [h, b, a]
    push_cast; rfl
end Go.Gl
namespace Go.Gl
/-- What each batch has of the first k panels. -/
def outK (B : Bn) (l : List Int) (k : Nat) : List Sm := (List.range (batN (l.take k)).toNat).map fun (j : Nat) => sumL B (ofK l (j : Int) k)
theorem outK_len (B : Bn) (l : List Int) (k : Nat) : (outK B l k).length = (batN (l.take k)).toNat := by simp [outK]
theorem outK_at (B : Bn) (l : List Int) (k : Nat) {j : Nat} (h : j < (batN (l.take k)).toNat) : (outK B l k)[j]? = some (sumL B (ofK l (j : Int) k)) := by
  simp only [outK, List.getElem?_map, List.getElem?_range h]; rfl
theorem pre_bd {l : List Int} : ∀ {k : Nat}, k ≤ l.length → (∀ j, j < k → 0 ≤ l.getD j 0 ∧ l.getD j 0 ≤ batN (l.take j)) → (∀ x ∈ l.take k, 0 ≤ x ∧ x < (k : Int)) ∧ batN (l.take k) ≤ (k : Int)
  | 0, _, _ => ⟨fun x hx => by simp at hx, by simp [batN]⟩
  | k + 1, hk, h => by
    obtain ⟨a, b⟩ := pre_bd (k := k) (by omega) (fun j hj => h j (by omega))
    have c := h k (by omega)
    have e : l[k]? = some (l.getD k 0) := by simp [List.getD, List.getElem?_eq_getElem (show k < l.length by omega)]
    rw [take_snoc' e]
    refine ⟨fun x hx => ?_, ?_⟩
    · rcases List.mem_append.1 hx with hx | hx
      · have := a x hx; push_cast; omega
      · rw [List.mem_singleton] at hx; subst hx; push_cast; omega
    · rw [batN_snoc]; push_cast; omega
theorem ofK_none {l : List Int} {b : Int} : ∀ {k : Nat}, k ≤ l.length → (∀ x ∈ l.take k, x < b) → ofK l b k = []
  | 0, _, _ => rfl
  | k + 1, hk, h => by
    have e : l[k]? = some (l.getD k 0) := by simp [List.getD, List.getElem?_eq_getElem (show k < l.length by omega)]
    rw [take_snoc' e] at h
    have a := ofK_none (l := l) (b := b) (k := k) (by omega) (fun x hx => h x (List.mem_append_left _ hx))
    have c : l.getD k 0 < b := h (l.getD k 0) (List.mem_append_right _ (List.mem_singleton.2 rfl))
    have d : ¬ l.getD k 0 = b := fun hh => by omega
    simp only [ofK, d, if_false, a]
/-- What the batches have with one more of them, if the next panel begins one. -/
def baseK (B : Bn) (l : List Int) (k : Nat) : List Sm := if l.getD k 0 = batN (l.take k) then outK B l k ++ [sm0] else outK B l k
theorem base_len {B : Bn} {l : List Int} {k : Nat} (hk : k < l.length) (h0 : l.getD k 0 ≤ batN (l.take k)) : (baseK B l k).length = (batN (l.take (k + 1))).toNat := by
  have e : l[k]? = some (l.getD k 0) := by simp [List.getD, List.getElem?_eq_getElem hk]
  have := batN_pos (l.take k)
  rw [take_snoc' e, batN_snoc]
  unfold baseK
  split
  · rw [List.length_append, outK_len]; simp only [List.length_cons, List.length_nil]; omega
  · rw [outK_len]; omega
theorem base_at {B : Bn} {l : List Int} {k j : Nat} (hk : k < l.length) (hj : l.getD k 0 = (j : Int)) (h0 : l.getD k 0 ≤ batN (l.take k)) : (baseK B l k)[j]? = some (sumL B (ofK l (j : Int) k)) := by
  unfold baseK
  have := batN_pos (l.take k)
  by_cases c : l.getD k 0 = batN (l.take k)
  · rw [if_pos c, ofK_none (by omega) (fun x hx => by have := batN_gt hx; omega)]
    have : j = (outK B l k).length := by rw [outK_len]; omega
    rw [this]; simp [sumL]
  · rw [if_neg c]
    exact outK_at B l k (by omega)
theorem outK_succ {B : Bn} {l : List Int} {k j : Nat} (hk : k < l.length) (hj : l.getD k 0 = (j : Int)) (h0 : l.getD k 0 ≤ batN (l.take k)) : outK B l (k + 1) = (baseK B l k).set j ((sumL B (ofK l (j : Int) k)).and (eachP B (k : Int))) := by
  have hlen := base_len (B := B) hk h0
  have hp := batN_pos (l.take k)
  have e : l[k]? = some (l.getD k 0) := by simp [List.getD, List.getElem?_eq_getElem hk]
  have hb : batN (l.take (k + 1)) = max (batN (l.take k)) ((j : Int) + 1) := by rw [take_snoc' e, batN_snoc, hj]
  refine List.ext_getElem? fun i => ?_
  by_cases hi : i < (batN (l.take (k + 1))).toNat
  · rw [outK_at B l (k + 1) hi]
    by_cases c : i = j
    · subst c
      rw [List.getElem?_set_self (by omega)]
      simp only [ofK, hj, if_true, sumL_snoc]
    · rw [List.getElem?_set_ne (fun h => c h.symm)]
      have d : ¬ l.getD k 0 = (i : Int) := by omega
      have hil : i < (batN (l.take k)).toNat := by omega
      have e2 : (baseK B l k)[i]? = (outK B l k)[i]? := by
        unfold baseK
        split
        · rw [List.getElem?_append_left (by rw [outK_len]; exact hil)]
        · rfl
      rw [e2, outK_at B l k hil]
      simp only [ofK, d, if_false]
  · rw [List.getElem?_eq_none (by rw [outK_len]; omega), List.getElem?_eq_none (by rw [List.length_set]; omega)]

/-- The error of the first of some batches that is not shared. -/
def fstE (B : Bn) (l : List Int) : Nat → Int
  | 0 => 0
  | k + 1 => if fstE B l k ≠ 0 then fstE B l k else fitE B (sumL B (ofL l (k : Int)))
theorem fstE_bad {B : Bn} {l : List Int} {k : Nat} (h : fstE B l k ≠ 0) : ∀ {n : Nat}, k ≤ n → fstE B l n = fstE B l k
  | 0, hn => by obtain rfl : k = 0 := by omega
                rfl
  | n + 1, hn => by
    by_cases c : k = n + 1
    · subst c; rfl
    · have ih := fstE_bad h (n := n) (by omega)
      simp only [fstE]
      rw [if_pos (by rw [ih]; exact h), ih]
theorem fstE_ok {B : Bn} {l : List Int} : ∀ {n : Nat}, fstE B l n = 0 → ∀ k, k < n → fitE B (sumL B (ofL l (k : Int))) = 0
  | 0, _, k, hk => by omega
  | n + 1, h, k, hk => by
    simp only [fstE] at h
    by_cases c : fstE B l n ≠ 0
    · rw [if_pos c] at h; exact absurd h c
    · rw [if_neg c] at h
      by_cases d : k = n
      · subst d; exact h
      · exact fstE_ok (Decidable.not_not.1 c) k (by omega)
theorem fstE_zero {B : Bn} {l : List Int} : ∀ {n : Nat}, (∀ k, k < n → fitE B (sumL B (ofL l (k : Int))) = 0) → fstE B l n = 0
  | 0, _ => rfl
  | n + 1, h => by
    have ih := fstE_zero (n := n) (fun k hk => h k (by omega))
    simp only [fstE]
    rw [if_neg (by rw [ih]; simp)]
    exact h n (by omega)
def badE (B : Bn) (l : List Int) : Int := fstE B l (batN l).toNat
/-- What CheckRow and CheckPlan answer. -/
def plR (d : Dy) (ps : List Pn) (sure : Bool) (l : List Int) (row : Bool) : Int × Int :=
  if bothE d ps ≠ 0 then (0, bothE d ps) else if l.length ≠ ps.length then (0, 15) else if planB l row = false then (0, 16)
  else if badE (bn d ps sure) l ≠ 0 then (0, badE (bn d ps sure) l) else (batN l, 0)
theorem plR_both {d : Dy} {ps : List Pn} {sure : Bool} {l : List Int} {row : Bool} (h : bothE d ps ≠ 0) : plR d ps sure l row = (0, bothE d ps) := by rw [plR, if_pos h]
theorem plR_len {d : Dy} {ps : List Pn} {sure : Bool} {l : List Int} {row : Bool} (h : bothE d ps = 0) (h1 : l.length ≠ ps.length) : plR d ps sure l row = (0, 15) := by rw [plR, if_neg (by simp [h]), if_pos h1]
theorem plR_plan {d : Dy} {ps : List Pn} {sure : Bool} {l : List Int} {row : Bool} (h : bothE d ps = 0) (h1 : l.length = ps.length) (h2 : planB l row = false) : plR d ps sure l row = (0, 16) := by
  rw [plR, if_neg (by simp [h]), if_neg (by simp [h1]), if_pos h2]
theorem plR_bad {d : Dy} {ps : List Pn} {sure : Bool} {l : List Int} {row : Bool} (h : bothE d ps = 0) (h1 : l.length = ps.length) (h2 : planB l row = true) (h3 : badE (bn d ps sure) l ≠ 0) : plR d ps sure l row = (0, badE (bn d ps sure) l) := by
  rw [plR, if_neg (by simp [h]), if_neg (by simp [h1]), if_neg (by simp [h2]), if_pos h3]
theorem plR_ok {d : Dy} {ps : List Pn} {sure : Bool} {l : List Int} {row : Bool} (h : bothE d ps = 0) (h1 : l.length = ps.length) (h2 : planB l row = true) (h3 : badE (bn d ps sure) l = 0) : plR d ps sure l row = (batN l, 0) := by
  rw [plR, if_neg (by simp [h]), if_neg (by simp [h1]), if_neg (by simp [h2]), if_neg (by simp [h3])]
theorem planB_of {l : List Int} {row : Bool} (h : ∀ j, j < l.length → 0 ≤ l.getD j 0 ∧ l.getD j 0 ≤ batN (l.take j)) (hs : row = true → ∀ k, k + 1 < l.length → l.getD k 0 ≤ l.getD (k + 1) 0) : planB l row = true := planB_true fun k hk => by
  have a := h k hk
  unfold plAt leastAt
  refine decide_eq_true ⟨?_, a.2⟩
  split
  · rename_i c
    have := hs c.1 (k - 1) (by omega)
    rw [show k - 1 + 1 = k by omega] at this
    exact this
  · exact a.1
theorem planB_not {l : List Int} {row : Bool} {k : Nat} (hk : k < l.length) (h : ¬ (0 ≤ l.getD k 0 ∧ l.getD k 0 ≤ batN (l.take k))) : planB l row = false := by
  cases hb : planB l row with
  | false => rfl
  | true =>
    exfalso
    have hp : planB l false = true := by
      cases row
      · exact hb
      · exact row_isPlan hb
    have := planB_at hp hk
    unfold plAt leastAt at this
    rw [if_neg (by simp), decide_eq_true_eq] at this
    exact h this
theorem planB_unsorted {l : List Int} (h : ¬ ∀ k, k + 1 < l.length → l.getD k 0 ≤ l.getD (k + 1) 0) : planB l true = false := by
  cases hb : planB l true with
  | false => rfl
  | true => exact absurd (fun k hk => (plan_row hb).1 k (k + 1) (by omega) hk) h
/-- What is in no batch but for those of the list is nothing: all batches are shared. -/
theorem good_of {B : Bn} (hB : BnOk B) {l : List Int} (h0 : ∀ x ∈ l, 0 ≤ x) (h : badE B l = 0) : Good B l := fun k => by
  by_cases c : 0 ≤ k ∧ k < batN l
  · have := fstE_ok h k.toNat (by omega)
    rw [show ((k.toNat : Nat) : Int) = k by omega, sum_ofL] at this
    exact this
  · rw [sm_none B (fun i hi => decide_eq_false (fun e => ?_))]
    · exact fit0 hB
    · have a := h0 _ (getD_mem hi)
      have b := batN_gt (getD_mem hi)
      omega
theorem bad_of {B : Bn} {l : List Int} (h : Good B l) : badE B l = 0 := fstE_zero fun k _ => by rw [sum_ofL]; exact h k
theorem fitE_at {B : Bn} {l : List Int} {j : Nat} {s : Sm} (h : (outK B l l.length)[j]? = some s) : s = sumL B (ofL l (j : Int)) := by
  by_cases c : j < (batN (l.take l.length)).toNat
  · rw [outK_at B l l.length c] at h; exact (Option.some.inj h).symm
  · rw [List.getElem?_eq_none (by rw [outK_len]; omega)] at h; cases h
theorem plR_no {d : Dy} {ps : List Pn} {sure : Bool} {l : List Int} {row : Bool} (h : (plR d ps sure l row).2 ≠ 0) : plR d ps sure l row = (0, (plR d ps sure l row).2) := by
  unfold plR at *
  split
  · rfl
  split
  · rfl
  split
  · rfl
  split
  · rfl
  · rename_i h1 h2 h3 h4
    rw [if_neg h1, if_neg h2, if_neg h3, if_neg h4] at h
    exact absurd rfl h
theorem plR_yes {d : Dy} {ps : List Pn} {sure : Bool} {l : List Int} {row : Bool} (h : (plR d ps sure l row).2 = 0) : bothE d ps = 0 ∧ l.length = ps.length ∧ planB l row = true ∧ badE (bn d ps sure) l = 0 ∧ plR d ps sure l row = (batN l, 0) := by
  by_cases h1 : bothE d ps = 0
  · by_cases h2 : l.length = ps.length
    · cases h3 : planB l row with
      | false => rw [plR_plan h1 h2 h3] at h; cases h
      | true =>
        by_cases h4 : badE (bn d ps sure) l = 0
        · exact ⟨h1, h2, rfl, h4, plR_ok h1 h2 h3 h4⟩
        · rw [plR_bad h1 h2 h3 h4] at h; exact absurd h h4
    · rw [plR_len h1 h2] at h; cases h
  · rw [plR_both h1] at h; exact absurd h h1
theorem ofK_in {l : List Int} {b : Int} : ∀ {k : Nat}, ∀ i ∈ ofK l b k, 0 ≤ i ∧ i < (k : Int)
  | 0, i, h => by simp [ofK] at h
  | k + 1, i, h => by
    simp only [ofK] at h
    split at h
    · rcases List.mem_append.1 h with h | h
      · have := ofK_in i h; push_cast; omega
      · rw [List.mem_singleton] at h; subst h; push_cast; omega
    · have := ofK_in i h; push_cast; omega
/-- The most that the first batches have of each. -/
def mxS (B : Bn) (l : List Int) : Nat → Sm
  | 0 => sm0
  | k + 1 => ⟨max (mxS B l k).t (sumL B (ofL l (k : Int))).t, max (mxS B l k).g (sumL B (ofL l (k : Int))).g⟩
theorem mxS_bd {B : Bn} (hB : BnOk B) (l : List Int) : ∀ k, 0 ≤ (mxS B l k).t ∧ (mxS B l k).t ≤ 240 * l.length ∧ 0 ≤ (mxS B l k).g ∧ (mxS B l k).g ≤ 200 * l.length
  | 0 => by simp only [mxS, sm0]; omega
  | k + 1 => by
    have ih := mxS_bd hB l k
    have a := sumL_bd hB (ofL l (k : Int))
    have b : (ofL l (k : Int)).length ≤ l.length := ofK_len l (k : Int) l.length
    simp only [mxS]
    omega
/-- What Spares answers. -/
def spR (d : Dy) (ps : List Pn) (sure : Bool) (l : List Int) : Int × Int × Int :=
  if (plR d ps sure l false).2 ≠ 0 then (0, 0, (plR d ps sure l false).2) else ((bn d ps sure).w - (mxS (bn d ps sure) l (batN l).toNat).t, (bn d ps sure).p - (mxS (bn d ps sure) l (batN l).toNat).g, 0)
end Go.Gl
namespace Go.Gl
/-- The error of the first of some panels that cannot be laid. -/
def frE (B : Bn) : Nat → Int
  | 0 => 0
  | k + 1 => if frE B k ≠ 0 then frE B k else fitE B (eachP B (k : Int))
theorem frE_bad {B : Bn} {k : Nat} (h : frE B k ≠ 0) : ∀ {n : Nat}, k ≤ n → frE B n = frE B k
  | 0, hn => by obtain rfl : k = 0 := by omega
                rfl
  | n + 1, hn => by
    by_cases c : k = n + 1
    · subst c; rfl
    · have ih := frE_bad h (n := n) (by omega)
      simp only [frE]
      rw [if_pos (by rw [ih]; exact h), ih]
theorem frE_ok {B : Bn} : ∀ {n : Nat}, frE B n = 0 → ∀ k, k < n → fitE B (eachP B (k : Int)) = 0
  | 0, _, k, hk => by omega
  | n + 1, h, k, hk => by
    simp only [frE] at h
    by_cases c : frE B n ≠ 0
    · rw [if_pos c] at h; exact absurd h c
    · rw [if_neg c] at h
      by_cases d : k = n
      · subst d; exact h
      · exact frE_ok (Decidable.not_not.1 c) k (by omega)
theorem frE_zero {B : Bn} : ∀ {n : Nat}, (∀ k, k < n → fitE B (eachP B (k : Int)) = 0) → frE B n = 0
  | 0, _ => rfl
  | n + 1, h => by
    have ih := frE_zero (n := n) (fun k hk => h k (by omega))
    simp only [frE]
    rw [if_neg (by rw [ih]; simp)]
    exact h n (by omega)
/-- The error of Row. -/
def rowE (d : Dy) (ps : List Pn) (sure : Bool) : Int := if bothE d ps ≠ 0 then bothE d ps else frE (bn d ps sure) ps.length
theorem rowE_both {d : Dy} {ps : List Pn} {sure : Bool} (h : bothE d ps ≠ 0) : rowE d ps sure = bothE d ps := by rw [rowE, if_pos h]
theorem rowE_fr {d : Dy} {ps : List Pn} {sure : Bool} (h : bothE d ps = 0) : rowE d ps sure = frE (bn d ps sure) ps.length := by rw [rowE, if_neg (by simp [h])]
theorem rowE_ok {d : Dy} {ps : List Pn} {sure : Bool} (h : rowE d ps sure = 0) : bothE d ps = 0 ∧ FineB (bn d ps sure) := by
  by_cases c : bothE d ps = 0
  · rw [rowE_fr c] at h
    exact ⟨c, fun i hi => frE_ok h i (by rw [← bn_len d ps sure]; exact hi)⟩
  · rw [rowE_both c] at h; exact absurd h c
theorem rowE_of {d : Dy} {ps : List Pn} {sure : Bool} (h : bothE d ps = 0) (hf : FineB (bn d ps sure)) : rowE d ps sure = 0 := by
  rw [rowE_fr h]; exact frE_zero fun k hk => hf k (by rw [bn_len]; exact hk)
theorem sum_one (B : Bn) (i : Int) : sumL B [i] = eachP B i := by
  show sm0.and (eachP B i) = _
  exact and0 _
/-- How many batches sums ask for. -/
def upB (a b : Int) : Int := (a + b - 1).tdiv b
def bndN (B : Bn) : Int := max (upB (sumL B (fromTo 0 ((B.each.length : Int) - 1))).t B.w) (upB (sumL B (fromTo 0 ((B.each.length : Int) - 1))).g B.p)
theorem upB_bd {a b : Int} (ha : 0 ≤ a) (hb : 1 ≤ b) : 0 ≤ upB a b ∧ upB a b ≤ a := by
  unfold upB
  rw [Int.tdiv_eq_ediv_of_nonneg (by omega)]
  refine ⟨Int.ediv_nonneg (by omega) (by omega), ?_⟩
  by_cases c : a = 0
  · subst c
    rw [Int.ediv_eq_zero_of_lt (by omega) (by omega)]; omega
  · have : (a + b - 1) / b < a + 1 := Int.ediv_lt_of_lt_mul (by omega) (by
      have h1 : (a + 1) * b = a * b + b := by rw [Int.add_mul, Int.one_mul]
      have h2 : a * 1 ≤ a * b := Int.mul_le_mul_of_nonneg_left hb ha
      omega)
    omega
theorem fromTo_in {a b : Int} : ∀ i ∈ fromTo a b, a ≤ i ∧ i ≤ b := fun i hi => by
  simp only [fromTo, List.mem_map, List.mem_range] at hi
  obtain ⟨k, hk, rfl⟩ := hi
  omega
theorem plan_bat {l : List Int} {row : Bool} (h : planB l row = true) : batN l ≤ (l.length : Int) ∧ ∀ x ∈ l, 0 ≤ x ∧ x < (l.length : Int) := by
  have h1 : planB l false = true := by
    cases row
    · exact h
    · exact row_isPlan h
  have := pre_bd (l := l) (k := l.length) (Nat.le_refl _) (fun j hj => by
    have := planB_at h1 hj
    unfold plAt leastAt at this
    rw [if_neg (by simp), decide_eq_true_eq] at this
    exact this)
  rw [List.take_length] at this
  exact ⟨this.2, this.1⟩
theorem lst_lt {l : List Int} {n : Int} (h : lstB l n = true) : ∀ i j, i < j → j < l.length → l.getD i 0 < l.getD j 0 := fun i j hij hj => by
  induction j with
  | zero => omega
  | succ j ih =>
    have a := lst_mono h j hj
    by_cases c : i = j
    · subst c; exact a
    · have := ih (by omega) (by omega); omega
/-- The best row, or none. -/
def rwL (d : Dy) (ps : List Pn) (sure : Bool) : List Int := if rowE d ps sure = 0 then rowL (bn d ps sure) else []
def mkkL (d : Dy) (ps : List Pn) (sure : Bool) : List Int := if rowE d ps sure = 0 then mkL (bn d ps sure) ps.length else []
/-- The mark before one of them. -/
def lastN (ms : List Int) : Nat → Int
  | 0 => -1
  | k + 1 => ms.getD k 0
theorem mkR_both {d : Dy} {ps : List Pn} {sure : Bool} {l : List Int} (h : bothE d ps ≠ 0) : mkR d ps sure l = (0, bothE d ps) := by rw [mkR, if_pos h]
theorem mkR_arg {d : Dy} {ps : List Pn} {sure : Bool} {l : List Int} (h : bothE d ps = 0) (h1 : lstB l ps.length = false) : mkR d ps sure l = (0, 2) := by rw [mkR, if_neg (by simp [h]), if_pos h1]
theorem mkR_sum {d : Dy} {ps : List Pn} {sure : Bool} {l : List Int} (h : bothE d ps = 0) (h1 : lstB l ps.length = true) (h2 : mksB (bn d ps sure) l = false) : mkR d ps sure l = (0, 14) := by
  rw [mkR, if_neg (by simp [h]), if_neg (by simp [h1]), if_pos h2]
theorem mkR_ok {d : Dy} {ps : List Pn} {sure : Bool} {l : List Int} (h : bothE d ps = 0) (h1 : lstB l ps.length = true) (h2 : mksB (bn d ps sure) l = true) : mkR d ps sure l = ((l.length : Int), 0) := by
  rw [mkR, if_neg (by simp [h]), if_neg (by simp [h1]), if_neg (by simp [h2])]
/-- What Bound answers. -/
def bdR (d : Dy) (ps : List Pn) (sure : Bool) : Int × Int := if bothE d ps ≠ 0 then (0, bothE d ps) else (bndN (bn d ps sure), 0)
end Go.Gl
namespace Go.Gl
/-- A list comes before another one. -/
def befB : List Int → List Int → Bool
  | [], [] => false
  | [], _ :: _ => true
  | _ :: _, [] => false
  | x :: a, y :: b => if x = y then befB a b else decide (x < y)
def earB : List Int → List Int → Bool
  | x :: a, y :: b => if x = y then earB a b else decide (x < y)
  | _, _ => false
theorem drop_cons {l : List Int} {k : Nat} {x : Int} (h : l[k]? = some x) : l.drop k = x :: l.drop (k + 1) := by
  obtain ⟨hk, rfl⟩ := List.getElem?_eq_some_iff.1 h
  exact List.drop_eq_getElem_cons hk
theorem befB_end (a b : List Int) (h : a = [] ∨ b = []) : befB a b = decide (a.length < b.length) := by
  rcases h with rfl | rfl
  · cases b <;> simp [befB]
  · cases a <;> simp [befB]
theorem earB_end (a b : List Int) (h : a = [] ∨ b = []) : earB a b = false := by
  rcases h with rfl | rfl
  · simp [earB]
  · cases a <;> simp [earB]
/-- No two of a list share a batch. -/
def apAt (B : Bn) (l : List Int) (i k : Nat) : Bool := decide (fitE B (sumL B [l.getD k 0, l.getD i 0]) ≠ 0)
def apRow (B : Bn) (l : List Int) (i : Nat) : Bool := (List.range i).all (apAt B l i)
def apB (B : Bn) (l : List Int) : Bool := (List.range l.length).all (apRow B l)
theorem apRow_true {B : Bn} {l : List Int} {i : Nat} (h : ∀ k, k < i → apAt B l i k = true) : apRow B l i = true := by
  unfold apRow; rw [List.all_eq_true]; intro j hj; exact h j (List.mem_range.1 hj)
theorem apRow_at {B : Bn} {l : List Int} {i k : Nat} (h : apRow B l i = true) (hk : k < i) : apAt B l i k = true := by
  unfold apRow at h; rw [List.all_eq_true] at h; exact h k (List.mem_range.2 hk)
theorem apRow_false {B : Bn} {l : List Int} {i k : Nat} (hk : k < i) (h : apAt B l i k = false) : apRow B l i = false := by
  cases hb : apRow B l i with
  | false => rfl
  | true => rw [apRow_at hb hk] at h; cases h
theorem apB_true {B : Bn} {l : List Int} (h : ∀ k, k < l.length → apRow B l k = true) : apB B l = true := by
  unfold apB; rw [List.all_eq_true]; intro j hj; exact h j (List.mem_range.1 hj)
theorem apB_at {B : Bn} {l : List Int} {k : Nat} (h : apB B l = true) (hk : k < l.length) : apRow B l k = true := by
  unfold apB at h; rw [List.all_eq_true] at h; exact h k (List.mem_range.2 hk)
theorem apB_false {B : Bn} {l : List Int} {k : Nat} (hk : k < l.length) (h : apRow B l k = false) : apB B l = false := by
  cases hb : apB B l with
  | false => rfl
  | true => rw [apB_at hb hk] at h; cases h
theorem apRow_any {B : Bn} {l : List Int} {i : Nat} (hi : i < l.length) : (l.take i).any (fun k => decide (fitE B (sumL B [k, l.getD i 0]) = 0)) = !apRow B l i := by
  rw [Bool.eq_iff_iff, Bool.not_eq_true', List.any_eq_true]
  constructor
  · rintro ⟨x, hx, hp⟩
    obtain ⟨k, hk, rfl⟩ := List.getElem_of_mem hx
    rw [List.length_take] at hk
    refine apRow_false (k := k) (by omega) ?_
    unfold apAt
    rw [List.getElem_take] at hp
    have e : l.getD k 0 = l[k]'(by omega) := by simp [List.getD, List.getElem?_eq_getElem (show k < l.length by omega)]
    rw [e]; simpa using hp
  · intro h
    have : ¬ ∀ k, k < i → apAt B l i k = true := fun hh => by rw [apRow_true hh] at h; cases h
    obtain ⟨k, hk⟩ := Classical.not_forall.1 this
    obtain ⟨hki, hka⟩ := Classical.not_imp.1 hk
    refine ⟨l.getD k 0, ?_, ?_⟩
    · have : (l.take i).getD k 0 = l.getD k 0 := by simp only [List.getD, List.getElem?_take, if_pos hki]
      rw [← this]; exact getD_mem (by rw [List.length_take]; omega)
    · unfold apAt at hka; simpa using hka
/-- What CheckApart answers. -/
def apR (d : Dy) (ps : List Pn) (sure : Bool) (l : List Int) : Int :=
  if bothE d ps ≠ 0 then bothE d ps else if lstB l ps.length = false then 2 else if apB (bn d ps sure) l = false then 16 else 0
theorem apR_both {d : Dy} {ps : List Pn} {sure : Bool} {l : List Int} (h : bothE d ps ≠ 0) : apR d ps sure l = bothE d ps := by rw [apR, if_pos h]
theorem apR_arg {d : Dy} {ps : List Pn} {sure : Bool} {l : List Int} (h : bothE d ps = 0) (h1 : lstB l ps.length = false) : apR d ps sure l = 2 := by rw [apR, if_neg (by simp [h]), if_pos h1]
theorem apR_rule {d : Dy} {ps : List Pn} {sure : Bool} {l : List Int} (h : bothE d ps = 0) (h1 : lstB l ps.length = true) (h2 : apB (bn d ps sure) l = false) : apR d ps sure l = 16 := by
  rw [apR, if_neg (by simp [h]), if_neg (by simp [h1]), if_pos h2]
theorem apR_ok {d : Dy} {ps : List Pn} {sure : Bool} {l : List Int} (h : bothE d ps = 0) (h1 : lstB l ps.length = true) (h2 : apB (bn d ps sure) l = true) : apR d ps sure l = 0 := by
  rw [apR, if_neg (by simp [h]), if_neg (by simp [h1]), if_neg (by simp [h2])]
/-- Some panel of a list shares a batch with a panel. -/
def shrB (B : Bn) (l : List Int) (i : Int) : Bool := l.any fun k => decide (fitE B (sumL B [k, i]) = 0)
/-- The first one of the longest lists of panels that are apart, that begin with some, and go on with the last ones. -/
def apG (B : Bn) : Nat → List Int → List Int → List Int
  | 0, _, out => out
  | t + 1, begun, out =>
    if shrB B begun ((B.each.length : Int) - ((t + 1 : Nat) : Int)) = true then apG B t begun out
    else if out.length < (apG B t (begun ++ [(B.each.length : Int) - ((t + 1 : Nat) : Int)]) (begun ++ [(B.each.length : Int) - ((t + 1 : Nat) : Int)])).length
      then apG B t begun (apG B t (begun ++ [(B.each.length : Int) - ((t + 1 : Nat) : Int)]) (begun ++ [(B.each.length : Int) - ((t + 1 : Nat) : Int)]))
      else apG B t begun out
/-- The first one of the longest lists of those that bits say. -/
def apK (B : Bn) : Nat → List Int
  | 0 => []
  | k + 1 => if apB B (bitL k B.each.length) = true ∧ ((apK B k).length < (bitL k B.each.length).length ∨ (bitL k B.each.length).length = (apK B k).length ∧ befB (bitL k B.each.length) (apK B k) = true) then bitL k B.each.length else apK B k
end Go.Gl
namespace Go.Gl
/-- The first good plan of at most so many batches that begins with some numbers, and has so many more. -/
def goL (B : Bn) : Nat → List Int → Int → Option (List Int)
  | 0, begun, _ => some begun
  | t + 1, begun, most => (List.range (min (batN begun + 1) most).toNat).findSome? fun (k : Nat) => if fitE B (sumL B (ofL (begun ++ [(k : Int)]) (k : Int))) ≠ 0 then none else goL B t (begun ++ [(k : Int)]) most
def goF (B : Bn) (t : Nat) (begun : List Int) (most : Int) (k : Nat) : Option (List Int) := if fitE B (sumL B (ofL (begun ++ [(k : Int)]) (k : Int))) ≠ 0 then none else goL B t (begun ++ [(k : Int)]) most
theorem goL_succ (B : Bn) (t : Nat) (begun : List Int) (most : Int) : goL B (t + 1) begun most = (List.range (min (batN begun + 1) most).toNat).findSome? (goF B t begun most) := rfl
theorem fs_hit {α : Type} {f : Nat → Option α} {m k : Nat} {x : α} (hk : k < m) (h : ∀ j, j < k → f j = none) (hx : f k = some x) : (List.range m).findSome? f = some x := by
  induction m with
  | zero => omega
  | succ m ih =>
    rw [List.range_succ, List.findSome?_append]
    by_cases c : k = m
    · subst c
      have : (List.range k).findSome? f = none := by rw [List.findSome?_eq_none_iff]; intro j hj; exact h j (List.mem_range.1 hj)
      rw [this]; simp [hx]
    · rw [ih (by omega)]; rfl
theorem fs_none {α : Type} {f : Nat → Option α} {m : Nat} (h : ∀ j, j < m → f j = none) : (List.range m).findSome? f = none := by
  rw [List.findSome?_eq_none_iff]; intro j hj; exact h j (List.mem_range.1 hj)
theorem fs_some {α : Type} {f : Nat → Option α} : ∀ {m : Nat} {x : α}, (List.range m).findSome? f = some x → ∃ k, k < m ∧ f k = some x ∧ ∀ j, j < k → f j = none
  | 0, x, h => by simp at h
  | m + 1, x, h => by
    rw [List.range_succ, List.findSome?_append] at h
    cases hc : (List.range m).findSome? f with
    | some y =>
      rw [hc] at h
      obtain rfl : y = x := by simpa using h
      obtain ⟨k, h1, h2, h3⟩ := fs_some hc
      exact ⟨k, by omega, h2, h3⟩
    | none =>
      rw [hc] at h
      refine ⟨m, by omega, by simpa using h, fun j hj => ?_⟩
      rw [List.findSome?_eq_none_iff] at hc
      exact hc j (List.mem_range.2 hj)

/-- Panels are put into batches: so many are enough. -/
def Gd (B : Bn) (n : Nat) (f : Nat → Nat) (m : Nat) : Prop := (∀ i, i < n → f i < m) ∧ ∀ k, fitE B (sm B (fun i => decide (f i = k)) n) = 0
theorem gd_single {B : Bn} (hB : BnOk B) (hf : FineB B) : Gd B B.each.length id B.each.length := by
  refine ⟨fun i hi => hi, fun k => ?_⟩
  by_cases c : k < B.each.length
  · have e : sm B (fun i => decide (id i = k)) B.each.length = eachP B (k : Int) := by
      rw [sm_cut B (n := k + 1) (by omega) (fun i h1 h2 => decide_eq_false (by simp only [id]; omega))]
      simp only [sm]
      rw [sm_none B (fun i hi => decide_eq_false (by simp only [id]; omega)), if_pos (by simp), and0]
    rw [e]; exact hf k c
  · rw [sm_none B (fun i hi => decide_eq_false (by simp only [id]; omega))]
    exact fit0 hB
theorem getD_app {l m : List Int} {i : Nat} (h : i < l.length) : (l ++ m).getD i 0 = l.getD i 0 := by simp only [List.getD, List.getElem?_append_left h]
theorem getD_last (l : List Int) (x : Int) : (l ++ [x]).getD l.length 0 = x := by simp [List.getD]
theorem sum_last (B : Bn) (l : List Int) (x : Int) : sumL B (ofL (l ++ [x]) x) = (sm B (fun i => decide (l.getD i 0 = x)) l.length).and (eachP B (l.length : Int)) := by
  rw [sum_ofL, List.length_append]
  simp only [List.length_cons, List.length_nil, Nat.zero_add, sm]
  rw [getD_last, if_pos (by simp), sm_congr B (fun i hi => by rw [getD_app hi])]
/-- A prefix is in good order, and the rest is not yet put. -/
theorem good_snoc {B : Bn} {l : List Int} {x : Int} (h : Good B l) (hx : fitE B (sumL B (ofL (l ++ [x]) x)) = 0) : Good B (l ++ [x]) := fun k => by
  by_cases c : x = k
  · subst c; rw [sum_ofL] at hx; exact hx
  · rw [List.length_append]
    simp only [List.length_cons, List.length_nil, Nat.zero_add, sm]
    rw [getD_last, if_neg (by simpa using c), sm_congr B (fun i hi => by rw [getD_app hi])]
    exact h k
theorem plan_snoc {l : List Int} {x : Int} (h : planB l false = true) (h0 : 0 ≤ x) (h1 : x ≤ batN l) : planB (l ++ [x]) false = true := planB_true fun k hk => by
  rw [List.length_append] at hk
  simp only [List.length_cons, List.length_nil] at hk
  unfold plAt leastAt
  rw [if_neg (by simp)]
  refine decide_eq_true ?_
  by_cases c : k < l.length
  · have := planB_at h c
    unfold plAt leastAt at this
    rw [if_neg (by simp), decide_eq_true_eq] at this
    rw [getD_app c, List.take_append_of_le_length (by omega)]
    exact this
  · obtain rfl : k = l.length := by omega
    rw [getD_last, List.take_left]
    exact ⟨h0, h1⟩
theorem plan_pre {l : List Int} {x : Int} (h : planB (l ++ [x]) false = true) : planB l false = true ∧ 0 ≤ x ∧ x ≤ batN l := by
  have at' : ∀ k, k < (l ++ [x]).length → 0 ≤ (l ++ [x]).getD k 0 ∧ (l ++ [x]).getD k 0 ≤ batN ((l ++ [x]).take k) := fun k hk => by
    have := planB_at h hk
    unfold plAt leastAt at this
    rw [if_neg (by simp), decide_eq_true_eq] at this
    exact this
  refine ⟨planB_true fun k hk => ?_, ?_⟩
  · have := at' k (by rw [List.length_append]; omega)
    rw [getD_app hk, List.take_append_of_le_length (by omega)] at this
    unfold plAt leastAt
    rw [if_neg (by simp)]
    exact decide_eq_true this
  · have := at' l.length (by simp)
    rw [getD_last, List.take_left] at this
    exact this
/-- Two names are exchanged. -/
def swp (a b k : Nat) : Nat := if k = a then b else if k = b then a else k
theorem swp_l (a b : Nat) : swp a b a = b := by simp [swp]
theorem swp_r (a b : Nat) : swp a b b = a := by
  by_cases c : b = a
  · subst c; simp [swp]
  · simp [swp, c]
theorem swp_n {a b k : Nat} (h1 : k ≠ a) (h2 : k ≠ b) : swp a b k = k := by simp [swp, h1, h2]
theorem swp_swp (a b k : Nat) : swp a b (swp a b k) = k := by
  by_cases c : k = a
  · subst c; rw [swp_l, swp_r]
  · by_cases d : k = b
    · subst d; rw [swp_r, swp_l]
    · rw [swp_n c d, swp_n c d]
theorem swp_iff (a b x k : Nat) : swp a b x = k ↔ x = swp a b k := ⟨fun e => by rw [← e, swp_swp], fun e => by rw [e, swp_swp]⟩
theorem swp_lt {a b k m : Nat} (ha : a < m) (hb : b < m) (hk : k < m) : swp a b k < m := by
  unfold swp; split
  · exact hb
  · split
    · exact ha
    · exact hk
/-- If no plan goes on, no way to put the panels into so many batches does. -/
theorem go_none {B : Bn} (hB : BnOk B) : ∀ (t : Nat) (begun : List Int) (most : Nat), begun.length + t = B.each.length → planB begun false = true → goL B t begun (most : Int) = none →
    ∀ f, (∀ i, i < begun.length → begun.getD i 0 = (f i : Int)) → ¬ Gd B B.each.length f most
  | 0, begun, most, hn, hp, h, f, hf, hg => by simp [goL] at h
  | t + 1, begun, most, hn, hp, h, f, hf, hg => by
    rw [goL_succ, List.findSome?_eq_none_iff] at h
    have h0 := plan_in hp
    have hb0 := batN_pos begun
    -- the next panel's number is among those that are tried
    have key : ∀ g, (∀ i, i < begun.length → begun.getD i 0 = (g i : Int)) → Gd B B.each.length g most → (g begun.length : Int) ≤ batN begun → False := fun g hg1 hg2 hle => by
      have hlt := hg2.1 begun.length (by omega)
      have hk := h (g begun.length) (List.mem_range.2 (by omega))
      unfold goF at hk
      have hfit : fitE B (sumL B (ofL (begun ++ [(g begun.length : Int)]) (g begun.length : Int))) = 0 := by
        rw [sum_ofL]
        refine fit_mono (sm_sub hB (n := B.each.length) (q := fun i => decide (g i = g begun.length)) (by rw [List.length_append]; simp only [List.length_cons, List.length_nil]; omega) (fun i hi hpi => ?_)) (hg2.2 _)
        rw [decide_eq_true_eq] at hpi ⊢
        rw [List.length_append] at hi
        simp only [List.length_cons, List.length_nil] at hi
        by_cases c : i = begun.length
        · rw [c]
        · rw [getD_app (by omega), hg1 i (by omega)] at hpi; omega
      rw [if_neg (by rw [hfit]; simp)] at hk
      refine go_none hB t _ most (by rw [List.length_append]; simp only [List.length_cons, List.length_nil]; omega) (plan_snoc hp (by omega) hle) hk g (fun i hi => ?_) hg2
      rw [List.length_append] at hi
      simp only [List.length_cons, List.length_nil] at hi
      by_cases c : i = begun.length
      · subst c; exact getD_last _ _
      · rw [getD_app (by omega)]; exact hg1 i (by omega)
    by_cases c : (f begun.length : Int) ≤ batN begun
    · exact key f hf hg c
    · -- two names are exchanged
      have hlow : ∀ i, i < begun.length → (f i : Int) < batN begun := fun i hi => by rw [← hf i hi]; exact batN_gt (getD_mem hi)
      obtain ⟨b, hb⟩ : ∃ b : Nat, (b : Int) = batN begun := ⟨(batN begun).toNat, by omega⟩
      have hfm := hg.1 begun.length (by omega)
      refine key (fun i => swp b (f begun.length) (f i)) (fun i hi => ?_) ⟨fun i hi => ?_, fun k => ?_⟩ ?_
      · rw [hf i hi]
        have := hlow i hi
        show (f i : Int) = ((swp b (f begun.length) (f i) : Nat) : Int)
        rw [swp_n (by omega) (by omega)]
      · exact swp_lt (by omega) hfm (hg.1 i hi)
      · rw [sm_congr B (q := fun i => decide (f i = swp b (f begun.length) k)) (fun i _ => by rw [decide_eq_decide]; exact swp_iff _ _ _ _)]
        exact hg.2 _
      · show ((swp b (f begun.length) (f begun.length) : Nat) : Int) ≤ batN begun
        rw [swp_r]; omega
/-- What goes on is a good plan that begins so. -/
theorem go_some {B : Bn} (hB : BnOk B) : ∀ (t : Nat) (begun : List Int) (most : Int) (l : List Int), begun.length + t = B.each.length → planB begun false = true → Good B begun → batN begun ≤ most → goL B t begun most = some l →
    l.length = B.each.length ∧ planB l false = true ∧ Good B l ∧ batN l ≤ most ∧ ∃ m, l = begun ++ m
  | 0, begun, most, l, hn, hp, hg, hm, h => by
    obtain rfl : begun = l := by simpa [goL] using h
    exact ⟨by omega, hp, hg, hm, [], by simp⟩
  | t + 1, begun, most, l, hn, hp, hg, hm, h => by
    rw [goL_succ] at h
    obtain ⟨k, hk, hkx, _⟩ := fs_some h
    unfold goF at hkx
    by_cases c : fitE B (sumL B (ofL (begun ++ [(k : Int)]) (k : Int))) = 0
    · rw [if_neg (by rw [c]; simp)] at hkx
      have := batN_pos begun
      obtain ⟨a, b, c', d, m, e⟩ := go_some hB t _ most l (by rw [List.length_append]; simp only [List.length_cons, List.length_nil]; omega) (plan_snoc hp (by omega) (by omega)) (good_snoc hg c) (by rw [batN_snoc]; omega) hkx
      exact ⟨a, b, c', d, (k : Int) :: m, by rw [e]; simp⟩
    · rw [if_pos c] at hkx; cases hkx
/-- One list comes before another one: at some place. -/
theorem ear_at {a b : List Int} (h : earB a b = true) : ∃ i, i < a.length ∧ i < b.length ∧ (∀ j, j < i → a.getD j 0 = b.getD j 0) ∧ a.getD i 0 < b.getD i 0 := by
  induction a generalizing b with
  | nil => simp [earB] at h
  | cons x a ih =>
    cases b with
    | nil => simp [earB] at h
    | cons y b =>
      simp only [earB] at h
      by_cases c : x = y
      · rw [if_pos c] at h
        obtain ⟨i, h1, h2, h3, h4⟩ := ih h
        refine ⟨i + 1, by simpa using h1, by simpa using h2, fun j hj => ?_, by simpa [List.getD] using h4⟩
        match j with
        | 0 => simpa [List.getD] using c
        | j + 1 => simpa [List.getD] using h3 j (by omega)
      · rw [if_neg c, decide_eq_true_eq] at h
        exact ⟨0, by simp, by simp, fun j hj => by omega, by simpa [List.getD] using h⟩
theorem ear_no {a b : List Int} (h : ∀ i, i < a.length → i < b.length → (∀ j, j < i → a.getD j 0 = b.getD j 0) → ¬ a.getD i 0 < b.getD i 0) : earB a b = false := by
  cases c : earB a b with
  | false => rfl
  | true =>
    obtain ⟨i, h1, h2, h3, h4⟩ := ear_at c
    exact absurd h4 (h i h1 h2 h3)
theorem good_gd {B : Bn} {l : List Int} (h0 : ∀ x ∈ l, 0 ≤ x) (hl : l.length = B.each.length) (hg : Good B l) {m : Nat} (hm : batN l ≤ (m : Int)) : Gd B B.each.length (fun i => (l.getD i 0).toNat) m := by
  refine ⟨fun i hi => ?_, fun k => ?_⟩
  · have a := h0 _ (getD_mem (l := l) (i := i) (by omega))
    have b := batN_gt (getD_mem (l := l) (i := i) (by omega))
    show (l.getD i 0).toNat < m
    omega
  · rw [← hl, sm_congr B (q := fun i => decide (l.getD i 0 = (k : Int))) (fun i hi => ?_)]
    · exact hg k
    · have a := h0 _ (getD_mem hi)
      show decide ((l.getD i 0).toNat = k) = decide (l.getD i 0 = (k : Int))
      rw [decide_eq_decide]; omega
/-- No good plan of as few batches comes before the one that is found. -/
theorem go_first {B : Bn} (hB : BnOk B) : ∀ (t : Nat) (begun : List Int) (most : Nat) (l l' : List Int), begun.length + t = B.each.length → planB begun false = true → Good B begun → batN begun ≤ (most : Int) → goL B t begun (most : Int) = some l →
    l'.length = B.each.length → planB l' false = true → Good B l' → batN l' ≤ (most : Int) → (∀ i, i < begun.length → l'.getD i 0 = begun.getD i 0) → earB l' l = false
  | 0, begun, most, l, l', hn, hp, hg, hm, h, h1, h2, h3, h4, h5 => by
    obtain rfl : begun = l := by simpa [goL] using h
    exact ear_no fun i hi hi2 _ => by rw [h5 i hi2]; omega
  | t + 1, begun, most, l, l', hn, hp, hg, hm, h, h1, h2, h3, h4, h5 => by
    have hgo := h
    rw [goL_succ] at h
    obtain ⟨k, hk, hkx, hjn⟩ := fs_some h
    have hkx' := hkx
    unfold goF at hkx
    by_cases c : fitE B (sumL B (ofL (begun ++ [(k : Int)]) (k : Int))) = 0
    · rw [if_neg (by rw [c]; simp)] at hkx
      have hb0 := batN_pos begun
      obtain ⟨_, _, _, _, m, e⟩ := go_some hB t _ (most : Int) l (by rw [List.length_append]; simp only [List.length_cons, List.length_nil]; omega) (plan_snoc hp (by omega) (by omega)) (good_snoc hg c) (by rw [batN_snoc]; omega) hkx
      have hlk : l.getD begun.length 0 = (k : Int) := by rw [e, List.append_assoc]; simp [List.getD]
      have h0' := plan_in h2
      have hx0 := h0' _ (getD_mem (l := l') (i := begun.length) (by omega))
      -- the other plan's number here is not less
      have hge : (k : Int) ≤ l'.getD begun.length 0 := by
        by_cases d : (k : Int) ≤ l'.getD begun.length 0
        · exact d
        · exfalso
          have hno := hjn (l'.getD begun.length 0).toNat (by omega)
          unfold goF at hno
          have ex : (((l'.getD begun.length 0).toNat : Nat) : Int) = l'.getD begun.length 0 := by omega
          rw [ex] at hno
          have hpre : ∀ i, i < (begun ++ [l'.getD begun.length 0]).length → (begun ++ [l'.getD begun.length 0]).getD i 0 = l'.getD i 0 := fun i hi => by
            rw [List.length_append] at hi
            simp only [List.length_cons, List.length_nil] at hi
            by_cases c2 : i = begun.length
            · subst c2; exact getD_last _ _
            · rw [getD_app (by omega)]; exact (h5 i (by omega)).symm
          have hfit : fitE B (sumL B (ofL (begun ++ [l'.getD begun.length 0]) (l'.getD begun.length 0))) = 0 := by
            rw [sum_ofL]
            refine fit_mono (sm_sub hB (n := l'.length) (q := fun i => decide (l'.getD i 0 = l'.getD begun.length 0)) (by rw [List.length_append]; simp only [List.length_cons, List.length_nil]; omega) (fun i hi hpi => ?_)) (h3 _)
            rw [decide_eq_true_eq] at hpi ⊢
            rw [← hpre i hi]; exact hpi
          rw [if_neg (by rw [hfit]; simp)] at hno
          refine go_none hB t _ most (by rw [List.length_append]; simp only [List.length_cons, List.length_nil]; omega) (plan_snoc hp hx0 (by omega)) hno (fun i => (l'.getD i 0).toNat) (fun i hi => ?_) (good_gd h0' h1 h3 h4)
          rw [hpre i hi]
          rw [List.length_append] at hi
          simp only [List.length_cons, List.length_nil] at hi
          have := h0' _ (getD_mem (l := l') (i := i) (by omega))
          show l'.getD i 0 = (((l'.getD i 0).toNat : Nat) : Int)
          omega
      by_cases d : l'.getD begun.length 0 = (k : Int)
      · refine go_first hB t _ most l l' (by rw [List.length_append]; simp only [List.length_cons, List.length_nil]; omega) (plan_snoc hp (by omega) (by omega)) (good_snoc hg c) (by rw [batN_snoc]; omega) hkx h1 h2 h3 h4 (fun i hi => ?_)
        rw [List.length_append] at hi
        simp only [List.length_cons, List.length_nil] at hi
        by_cases c2 : i = begun.length
        · subst c2; rw [getD_last]; exact d
        · rw [getD_app (by omega)]; exact h5 i (by omega)
      · refine ear_no fun i hi hi2 hpre => ?_
        by_cases c2 : i < begun.length
        · have : l.getD i 0 = begun.getD i 0 := by rw [e, List.append_assoc, getD_app c2]
          rw [this, h5 i c2]; omega
        · by_cases c3 : i = begun.length
          · subst c3; rw [hlk]; omega
          · exact absurd (by rw [← hlk]; exact hpre begun.length (by omega)) d
    · rw [if_pos c] at hkx; cases hkx
end Go.Gl
namespace Go.Gl
theorem sm_split (B : Bn) {p q r : Nat → Bool} : ∀ {n : Nat}, (∀ i, i < n → p i = (q i || r i)) → (∀ i, i < n → (q i && r i) = false) → sm B p n = (sm B q n).and (sm B r n)
  | 0, _, _ => by simp [sm, sm0, Sm.and]
  | n + 1, h, k => by
    have ih := sm_split B (p := p) (q := q) (r := r) (n := n) (fun i hi => h i (by omega)) (fun i hi => k i (by omega))
    have h1 := h n (by omega)
    have k1 := k n (by omega)
    simp only [sm, ih, h1]
    cases hq : q n <;> cases hr : r n
    · simp
    · simp only [Bool.or_true, Bool.false_eq_true, if_true, if_false, Sm.and, Sm.mk.injEq]; omega
    · simp only [Bool.or_false, Bool.false_eq_true, if_true, if_false, Sm.and, Sm.mk.injEq]; omega
    · rw [hq, hr] at k1; cases k1
theorem gd_sums {B : Bn} {f : Nat → Nat} {n : Nat} (h : ∀ k, fitE B (sm B (fun i => decide (f i = k)) n) = 0) : ∀ m : Nat, (sm B (fun i => decide (f i < m)) n).t ≤ (m : Int) * B.w ∧ (sm B (fun i => decide (f i < m)) n).g ≤ (m : Int) * B.p
  | 0 => by rw [sm_none B (fun i _ => by simp)]; simp [sm0]
  | m + 1 => by
    have ih := gd_sums h m
    have hk := (fit_iff B _).1 (h m)
    have e := sm_split B (p := fun i => decide (f i < m + 1)) (q := fun i => decide (f i < m)) (r := fun i => decide (f i = m)) (n := n) (fun i _ => by rw [Bool.eq_iff_iff]; simp; omega) (fun i _ => by
      rw [Bool.and_eq_false_iff, decide_eq_false_iff_not, decide_eq_false_iff_not]; omega)
    have e1 : ((m + 1 : Nat) : Int) * B.w = (m : Int) * B.w + B.w := by push_cast; rw [Int.add_mul, Int.one_mul]
    have e2 : ((m + 1 : Nat) : Int) * B.p = (m : Int) * B.p + B.p := by push_cast; rw [Int.add_mul, Int.one_mul]
    rw [e, e1, e2]
    simp only [Sm.and]
    omega
theorem upB_le {a b m : Int} (ha : 0 ≤ a) (hb : 1 ≤ b) (h : a ≤ m * b) : upB a b ≤ m := by
  unfold upB
  rw [Int.tdiv_eq_ediv_of_nonneg (by omega)]
  have : (a + b - 1) / b < m + 1 := Int.ediv_lt_of_lt_mul (by omega) (by
    have h1 : (m + 1) * b = m * b + b := by rw [Int.add_mul, Int.one_mul]
    omega)
  omega
/-- Fewer than sums ask for are never enough. -/
theorem bound_le {B : Bn} (hB : BnOk B) {f : Nat → Nat} {m : Nat} (h : Gd B B.each.length f m) : bndN B ≤ (m : Int) := by
  have hs := sum_span B 0 B.each.length
  have hs' : sumL B (fromTo 0 ((B.each.length : Int) - 1)) = sm B (fun i => decide (f i < m)) B.each.length := by
    rw [show ((0 : Nat) : Int) = 0 from rfl] at hs
    rw [hs]
    exact sm_congr B (fun i hi => by rw [Bool.eq_iff_iff]; simp; exact h.1 i hi)
  have hb := gd_sums h.2 m
  have hnn := sumL_bd hB (fromTo 0 ((B.each.length : Int) - 1))
  rw [← hs'] at hb
  unfold bndN
  have a := upB_le hnn.1 hB.w0 hb.1
  have b := upB_le hnn.2.2.1 hB.p0 hb.2
  omega
theorem bndN_nn {B : Bn} (hB : BnOk B) : 0 ≤ bndN B := by
  have hnn := sumL_bd hB (fromTo 0 ((B.each.length : Int) - 1))
  have := (upB_bd hnn.1 hB.w0).1
  unfold bndN; omega
/-- The best plan: of the fewest batches that are enough, the first one. -/
def pfL (B : Bn) : Nat → Nat → List Int
  | 0, _ => (goL B B.each.length [] (B.each.length : Int)).getD []
  | s + 1, m => (goL B B.each.length [] (m : Int)).getD (pfL B s (m + 1))
def planL (B : Bn) : List Int := pfL B (B.each.length - (bndN B).toNat) (bndN B).toNat
theorem plan_nil (row : Bool) : planB [] row = true := by cases row <;> rfl
theorem good_nil {B : Bn} (hB : BnOk B) : Good B [] := fun k => by simpa [sm] using fit0 hB
theorem go_is {B : Bn} (hB : BnOk B) {f : Nat → Nat} {m : Nat} (h : Gd B B.each.length f m) : ∃ l, goL B B.each.length [] (m : Int) = some l := by
  cases c : goL B B.each.length [] (m : Int) with
  | some l => exact ⟨l, rfl⟩
  | none => exact absurd h (go_none hB B.each.length [] m (by simp) (plan_nil false) c f (fun i hi => by simp at hi))
theorem go_gd {B : Bn} (hB : BnOk B) {m : Nat} {l : List Int} (h : goL B B.each.length [] (m : Int) = some l) : l.length = B.each.length ∧ planB l false = true ∧ Good B l ∧ batN l ≤ (m : Int) ∧ Gd B B.each.length (fun i => (l.getD i 0).toNat) m := by
  obtain ⟨a, b, c, d, _⟩ := go_some hB B.each.length [] (m : Int) l (by simp) (plan_nil false) (good_nil hB) (by simp [batN]) h
  exact ⟨a, b, c, d, good_gd (plan_in b) a c d⟩
theorem pf_at {B : Bn} (hB : BnOk B) (hf : FineB B) : ∀ s m, s = B.each.length - m → (∀ m', m' < m → goL B B.each.length [] (m' : Int) = none) → ∃ M : Nat, goL B B.each.length [] (M : Int) = some (pfL B s m) ∧ ∀ m', m' < M → goL B B.each.length [] (m' : Int) = none
  | 0, m, hs, h => by
    obtain ⟨l, hl⟩ := go_is hB (gd_single hB hf)
    have hm : m ≤ B.each.length := by
      by_cases c : m ≤ B.each.length
      · exact c
      · rw [h B.each.length (by omega)] at hl; cases hl
    obtain rfl : m = B.each.length := by omega
    exact ⟨B.each.length, by simp only [pfL, hl, Option.getD_some], h⟩
  | s + 1, m, hs, h => by
    cases c : goL B B.each.length [] (m : Int) with
    | some l => exact ⟨m, by simp only [pfL, c, Option.getD_some], h⟩
    | none =>
      obtain ⟨M, h1, h2⟩ := pf_at hB hf s (m + 1) (by omega) (fun m' hm' => by
        by_cases d : m' = m
        · subst d; exact c
        · exact h m' (by omega))
      exact ⟨M, by simp only [pfL, c, Option.getD_none]; exact h1, h2⟩
theorem plan_at {B : Bn} (hB : BnOk B) (hf : FineB B) : ∃ M : Nat, goL B B.each.length [] (M : Int) = some (planL B) ∧ ∀ m', m' < M → goL B B.each.length [] (m' : Int) = none :=
  pf_at hB hf _ _ rfl fun m' hm' => by
    cases c : goL B B.each.length [] (m' : Int) with
    | none => rfl
    | some l =>
      have := bound_le hB (go_gd hB c).2.2.2.2
      omega
/-- What is known of the best plan. -/
structure Best (B : Bn) (l : List Int) : Prop where
  len : l.length = B.each.length
  plan : planB l false = true
  good : Good B l
  go : goL B B.each.length [] (batN l) = some l
  least : ∀ (f : Nat → Nat) (m : Nat), Gd B B.each.length f m → batN l ≤ (m : Int)
  first : ∀ l', l'.length = B.each.length → planB l' false = true → Good B l' → batN l' ≤ batN l → earB l' l = false
theorem plan_best {B : Bn} (hB : BnOk B) (hf : FineB B) : Best B (planL B) := by
  obtain ⟨M, h1, h2⟩ := plan_at hB hf
  obtain ⟨a, b, c, d, e⟩ := go_gd hB h1
  have hmin : ∀ (f : Nat → Nat) (m : Nat), Gd B B.each.length f m → M ≤ m := fun f m hg => by
    by_cases x : M ≤ m
    · exact x
    · obtain ⟨l, hl⟩ := go_is hB hg
      rw [h2 m (by omega)] at hl; cases hl
  have h0 := batN_pos (planL B)
  have hM : batN (planL B) = (M : Int) := by
    have := hmin _ (batN (planL B)).toNat (good_gd (plan_in b) a c (by omega))
    omega
  refine ⟨a, b, c, by rw [hM]; exact h1, fun f m hg => by have := hmin f m hg; omega, fun l' k1 k2 k3 k4 => ?_⟩
  exact go_first hB B.each.length [] M (planL B) l' (by simp) (plan_nil false) (good_nil hB) (by simp [batN]) h1 k1 k2 k3 (by omega) (fun i hi => by simp at hi)
theorem best_le {B : Bn} (hB : BnOk B) (hf : FineB B) {l : List Int} (h1 : l.length = B.each.length) (h2 : planB l false = true) (h3 : Good B l) : batN (planL B) ≤ batN l := by
  have h0 := batN_pos l
  have := (plan_best hB hf).least _ (batN l).toNat (good_gd (plan_in h2) h1 h3 (by omega))
  omega
/-- The answer of Plan. -/
def pnL (d : Dy) (ps : List Pn) (sure : Bool) : List Int := if rowE d ps sure = 0 then planL (bn d ps sure) else []
end Go.Gl
set_option linter.unusedVariables false
namespace Go.Lw
open Go.RowKit

/-- The lowest bit of a number, and a number without some bits. -/
def lowB (n : Nat) : Nat := (BitVec.ofNat 64 n &&& -BitVec.ofNat 64 n).toNat
def clrB (a b : Nat) : Nat := a &&& (18446744073709551615 - b)
theorem lowB_le (n : Nat) (h : n < 9223372036854775808) : lowB n ≤ n := by
  unfold lowB
  rw [BitVec.toNat_and, BitVec.toNat_ofNat, Nat.mod_eq_of_lt (by omega)]
  exact Nat.and_le_left
theorem clrB_le (a b : Nat) : clrB a b ≤ a := Nat.and_le_left
theorem clrB_bit (a b i : Nat) (hb : b < 18446744073709551616) (ha : a < 18446744073709551616) : (clrB a b).testBit i = (a.testBit i && !b.testBit i) := by
  unfold clrB
  rw [Nat.testBit_and]
  cases hi : a.testBit i with
  | false => rfl
  | true =>
    have hlt : i < 64 := by
      apply Classical.byContradiction
      intro hc
      have : a < 2 ^ i := Nat.lt_of_lt_of_le ha (by rw [show 18446744073709551616 = 2 ^ 64 from rfl]; exact Nat.pow_le_pow_right (by decide) (by omega))
      rw [Nat.testBit_lt_two_pow this] at hi; cases hi
    have := Nat.testBit_two_pow_sub_succ (x := b) (n := 64) (by simpa using hb) i
    rw [show 18446744073709551615 - b = 2 ^ 64 - (b + 1) from by omega, this]
    simp [hlt]
theorem lowB_bit (n i : Nat) (h : n < 9223372036854775808) : (lowB n).testBit i = (n.testBit i && !decide (∃ j, j < i ∧ n.testBit j = true)) := by
  unfold lowB
  rw [BitVec.testBit_toNat, BitVec.getLsbD_and, BitVec.getLsbD_neg]
  have hb : ∀ j, (BitVec.ofNat 64 n).getLsbD j = n.testBit j := fun j => by
    rw [BitVec.getLsbD_ofNat]
    by_cases hj : j < 64
    · simp [hj]
    · have : n < 2 ^ j := Nat.lt_of_lt_of_le (show n < 2 ^ 63 by omega) (Nat.pow_le_pow_right (by decide) (by omega))
      simp [hj, Nat.testBit_lt_two_pow this]
  simp only [hb]
  cases hi : n.testBit i with
  | false => simp
  | true =>
    have hlt : i < 64 := by
      apply Classical.byContradiction
      intro hc
      have : n < 2 ^ i := Nat.lt_of_lt_of_le (show n < 2 ^ 63 by omega) (Nat.pow_le_pow_right (by decide) (by omega))
      rw [Nat.testBit_lt_two_pow this] at hi; cases hi
    simp [hlt]

section
variable {cx : Cx} {n : Nat} {ks : List (Nat × Value)} {O : List Own} {V : View} {P : Program} {ops : Array Oper} {Qn : Act → World → Prop} {t : Tr} {i d : Nat} {T : TypeId} {pos : String} {after : Array Edge} {gd : Option (Nat × Bool)} {x y : Operand} {p q : Int} {X Z : TypeId}
/-- The address of an element of an array, wherever it stands. -/
theorem AtT.idxQ {X E : TypeId} {len s : Nat} {k : IntKind} {j : Int} {r : Addr} {ag : Bool} (ho : ops[i]? = some ⟨some d, .indexAddr X x y, T, pos, after, gd⟩) (hg : Gd ks ops gd) (hX : P.underlying X = some (.array len E)) (hE : tkB P E = some (ag, s))
    (hx : ev ks x = some (.pointer (some r))) (hy : ev ks y = some (.int k j)) (h0 : 0 ≤ j) (h1 : j < len) (hn : d < n)
    (next : AtT cx n ((d, .pointer (some (r.add (j.toNat * s)))) :: ks) O V P ops Qn t) : AtT cx n ks O V P ops Qn (.q i t) :=
  .q ho hg rfl hn (fun a w hk hm => by
    simp only [execOp, hk.ev hx, hk.ev hy]
    simp [Instr.indexAt, asIntOf, run_underlying hX, run_sizeOf hE, h0, h1, Instr.sureAddr]) next
theorem AtT.andN {A B : Nat} (ho : ops[i]? = some ⟨some d, .binOp .and X x y Z, T, pos, after, gd⟩) (hg : Gd ks ops gd) (hx : ev ks x = some (.int .i64 p)) (hy : ev ks y = some (.int .i64 q)) (hp : p = (A : Int)) (hq : q = (B : Int)) (hA : A < 9223372036854775808) (hB : B < 9223372036854775808) (hn : d < n)
    (next : AtT cx n ((d, .int .i64 ((A &&& B : Nat) : Int)) :: ks) O V P ops Qn t) : AtT cx n ks O V P ops Qn (.q i t) :=
  .q ho hg rfl hn (fun a w hk _ => by
    subst hp hq
    have hr : Op.intBits .and .i64 (A : Int) (B : Int) = (pure (.int .i64 ((A &&& B : Nat) : Int)) : Sem Value) := by
      show (pure (Value.int .i64 (IntKind.i64.wrap ((BitVec.ofInt 64 (A : Int) &&& BitVec.ofInt 64 (B : Int)).toNat : Int))) : Sem Value) = _
      rw [BitVec.toNat_and, ofInt_u64 A (by omega), ofInt_u64 B (by omega), Go.Lib.wrap_i64_small _ (Nat.lt_of_le_of_lt Nat.and_le_left hA)]
    simp [execOp, hk.ev hx, hk.ev hy, eqGuard_and, binOp_and, hr]) next
theorem AtT.lowN {A : Nat} (ho : ops[i]? = some ⟨some d, .binOp .and X x y Z, T, pos, after, gd⟩) (hg : Gd ks ops gd) (hx : ev ks x = some (.int .i64 p)) (hy : ev ks y = some (.int .i64 q)) (hp : p = (A : Int)) (hq : q = -(A : Int)) (hA : A < 9223372036854775808) (hn : d < n)
    (next : AtT cx n ((d, .int .i64 ((lowB A : Nat) : Int)) :: ks) O V P ops Qn t) : AtT cx n ks O V P ops Qn (.q i t) :=
  .q ho hg rfl hn (fun a w hk _ => by
    subst hp hq
    have hr : Op.intBits .and .i64 (A : Int) (-(A : Int)) = (pure (.int .i64 ((lowB A : Nat) : Int)) : Sem Value) := by
      show (pure (Value.int .i64 (IntKind.i64.wrap ((BitVec.ofInt 64 (A : Int) &&& BitVec.ofInt 64 (-(A : Int))).toNat : Int))) : Sem Value) = _
      have e1 : BitVec.ofInt 64 (A : Int) = BitVec.ofNat 64 A := BitVec.ofInt_natCast 64 A
      have e2 : BitVec.ofInt 64 (-(A : Int)) = -BitVec.ofNat 64 A := by rw [← e1, BitVec.ofInt_neg]
      rw [e1, e2]
      show pure (Value.int .i64 (IntKind.i64.wrap ((lowB A : Nat) : Int))) = _
      rw [Go.Lib.wrap_i64_small _ (Nat.lt_of_le_of_lt (lowB_le A hA) hA)]
    simp [execOp, hk.ev hx, hk.ev hy, eqGuard_and, binOp_and, hr]) next
theorem AtT.clrN {A B : Nat} (ho : ops[i]? = some ⟨some d, .binOp .andNot X x y Z, T, pos, after, gd⟩) (hg : Gd ks ops gd) (hx : ev ks x = some (.int .i64 p)) (hy : ev ks y = some (.int .i64 q)) (hp : p = (A : Int)) (hq : q = (B : Int)) (hA : A < 9223372036854775808) (hB : B < 9223372036854775808) (hn : d < n)
    (next : AtT cx n ((d, .int .i64 ((clrB A B : Nat) : Int)) :: ks) O V P ops Qn t) : AtT cx n ks O V P ops Qn (.q i t) :=
  .q ho hg rfl hn (fun a w hk _ => by
    subst hp hq
    have hr : Op.intBits .andNot .i64 (A : Int) (B : Int) = (pure (.int .i64 ((clrB A B : Nat) : Int)) : Sem Value) := by
      show (pure (Value.int .i64 (IntKind.i64.wrap ((BitVec.ofInt 64 (A : Int) &&& ~~~BitVec.ofInt 64 (B : Int)).toNat : Int))) : Sem Value) = _
      rw [BitVec.toNat_and, BitVec.toNat_not, ofInt_u64 A (by omega), ofInt_u64 B (by omega)]
      show pure (Value.int .i64 (IntKind.i64.wrap ((clrB A B : Nat) : Int))) = _
      rw [Go.Lib.wrap_i64_small _ (Nat.lt_of_le_of_lt (clrB_le A B) hA)]
    simp [execOp, hk.ev hx, hk.ev hy, eqGuard_andNot, binOp_andNot, hr]) next
theorem AtT.shlN {N : Nat} {k : IntKind} (ho : ops[i]? = some ⟨some d, .binOp .shl X x y Z, T, pos, after, gd⟩) (hg : Gd ks ops gd) (hx : ev ks x = some (.int .i64 1)) (hy : ev ks y = some (.int k q)) (hq : q = (N : Int)) (hN : N ≤ 61) (hn : d < n)
    (next : AtT cx n ((d, .int .i64 ((2 ^ N : Nat) : Int)) :: ks) O V P ops Qn t) : AtT cx n ks O V P ops Qn (.q i t) :=
  .q ho hg rfl hn (fun a w hk _ => by
    subst hq
    have hlt : 2 ^ N < 9223372036854775808 := Nat.lt_of_le_of_lt (Nat.pow_le_pow_right (by decide) hN) (by decide)
    have hr : Op.shift .shl .i64 1 k (N : Int) = (pure (.int .i64 ((2 ^ N : Nat) : Int)) : Sem Value) := by
      unfold Op.shift
      rw [if_neg (by omega)]
      have e : min ((N : Int).toNat) IntKind.i64.bits = N := by show min ((N : Int).toNat) 64 = N; omega
      have e2 : (1 : Int) * 2 ^ N = ((2 ^ N : Nat) : Int) := by rw [Int.one_mul, Int.natCast_pow]; rfl
      simp only [e, e2, Go.Lib.wrap_i64_small _ hlt]
    simp only [execOp, hk.ev hx, hk.ev hy, eqGuard_shl, binOp_shl, hr, Sem.run_bind, Sem.run_pure, Result.andThen_ok]) next
theorem AtT.shrN {A N : Nat} {k : IntKind} (ho : ops[i]? = some ⟨some d, .binOp .shr X x y Z, T, pos, after, gd⟩) (hg : Gd ks ops gd) (hx : ev ks x = some (.int .i64 p)) (hy : ev ks y = some (.int k q)) (hp : p = (A : Int)) (hq : q = (N : Int)) (hN : N ≤ 61) (hn : d < n)
    (next : AtT cx n ((d, .int .i64 ((A >>> N : Nat) : Int)) :: ks) O V P ops Qn t) : AtT cx n ks O V P ops Qn (.q i t) :=
  .q ho hg rfl hn (fun a w hk _ => by
    subst hp hq
    have hr : Op.shift .shr .i64 (A : Int) k (N : Int) = (pure (.int .i64 ((A >>> N : Nat) : Int)) : Sem Value) := by
      unfold Op.shift
      rw [if_neg (by omega)]
      have e : min ((N : Int).toNat) IntKind.i64.bits = N := by show min ((N : Int).toNat) 64 = N; omega
      have e2 : (A : Int).fdiv (2 ^ N) = ((A >>> N : Nat) : Int) := by
        rw [Int.fdiv_eq_ediv_of_nonneg _ (Int.le_of_lt (Int.pow_pos (by decide))), Nat.shiftRight_eq_div_pow, Int.natCast_ediv, Int.natCast_pow]; rfl
      simp only [e, e2]
    simp only [execOp, hk.ev hx, hk.ev hy, eqGuard_shr, binOp_shr, hr, Sem.run_bind, Sem.run_pure, Result.andThen_ok]) next
end
end Go.Lw
namespace Go.Gl
open Go.Lw
/-- Those panels that bits say are put into so many batches. -/
def GdS (B : Bn) (S : Nat) (f : Nat → Nat) (m : Nat) : Prop := (∀ i, i < B.each.length → S.testBit i = true → f i < m) ∧ ∀ k, fitE B (sm B (fun i => S.testBit i && decide (f i = k)) B.each.length) = 0
/-- So many batches are enough, and fewer are not. -/
structure Lst (B : Bn) (S : Nat) (v : Int) : Prop where
  nn : 0 ≤ v
  can : ∃ f, GdS B S f v.toNat
  least : ∀ f m, GdS B S f m → v ≤ (m : Int)
theorem lst_zero {B : Bn} (hB : BnOk B) : Lst B 0 0 := by
  refine ⟨Int.le_refl 0, ⟨id, fun i _ h => by simp at h, fun k => ?_⟩, fun f m _ => by omega⟩
  rw [sm_none B (fun i _ => by simp)]; exact fit0 hB
theorem gds_id {B : Bn} (hB : BnOk B) (hf : FineB B) (S : Nat) : GdS B S id B.each.length :=
  ⟨fun i hi _ => hi, fun k => fit_sub hB (fun i _ h => by rw [Bool.and_eq_true] at h; exact h.2) ((gd_single hB hf).2 k)⟩
theorem lst_le {B : Bn} (hB : BnOk B) (hf : FineB B) {S : Nat} {v : Int} (h : Lst B S v) : v ≤ (B.each.length : Int) := h.least _ _ (gds_id hB hf S)
/-- A set, by bits. -/
def mkM (q : Nat → Bool) : Nat → Nat
  | 0 => 0
  | k + 1 => if q k = true then mkM q k ||| 2 ^ k else mkM q k
theorem mkM_bit (q : Nat → Bool) : ∀ n i, (mkM q n).testBit i = (decide (i < n) && q i)
  | 0, i => by simp [mkM]
  | n + 1, i => by
    have ih := mkM_bit q n i
    simp only [mkM]
    by_cases c : q n = true
    · rw [if_pos c, Nat.testBit_or, ih, Nat.testBit_two_pow]
      by_cases d : n = i
      · subst d; simp [c]
      · have : decide (i < n + 1) = decide (i < n) := by rw [decide_eq_decide]; omega
        simp [d, this]
    · rw [if_neg c, ih]
      by_cases d : n = i
      · subst d; simp [c]
      · have : decide (i < n + 1) = decide (i < n) := by rw [decide_eq_decide]; omega
        rw [this]
theorem sub_bit {p S : Nat} (h : p &&& S = p) {i : Nat} (hi : p.testBit i = true) : S.testBit i = true := by
  rw [← h, Nat.testBit_and, Bool.and_eq_true] at hi; exact hi.2
theorem sub_of {p S : Nat} (h : ∀ i, p.testBit i = true → S.testBit i = true) : p &&& S = p := by
  refine Nat.eq_of_testBit_eq fun i => ?_
  rw [Nat.testBit_and]
  cases hp : p.testBit i with
  | false => rfl
  | true => rw [h i hp]; rfl
theorem low_ex {S n : Nat} (h0 : S ≠ 0) (hn : S < 2 ^ n) : ∃ i, i < n ∧ S.testBit i = true ∧ ∀ j, j < i → S.testBit j = false := by
  have ex : ∃ i, S.testBit i = true := by
    by_cases c : ∃ i, S.testBit i = true
    · exact c
    · exfalso
      exact h0 (Nat.eq_of_testBit_eq fun i => by
        cases hi : S.testBit i with
        | false => simp
        | true => exact absurd ⟨i, hi⟩ c)
  obtain ⟨i, hi⟩ := ex
  have key : ∀ m, (∃ i, i < m ∧ S.testBit i = true) → ∃ i, S.testBit i = true ∧ ∀ j, j < i → S.testBit j = false := by
    intro m
    induction m with
    | zero => rintro ⟨i, hi, _⟩; omega
    | succ m ih =>
      rintro ⟨i, hi, hb⟩
      by_cases c : ∃ i, i < m ∧ S.testBit i = true
      · exact ih c
      · refine ⟨i, hb, fun j hj => ?_⟩
        cases hj2 : S.testBit j with
        | false => rfl
        | true => exact absurd ⟨j, by omega, hj2⟩ c
  obtain ⟨i, h1, h2⟩ := key (i + 1) ⟨i, by omega, hi⟩
  refine ⟨i, ?_, h1, h2⟩
  by_cases c : i < n
  · exact c
  · rw [Nat.testBit_lt_two_pow (Nat.lt_of_lt_of_le hn (Nat.pow_le_pow_right (by decide) (by omega)))] at h1; cases h1
/-- The next smaller subset. -/
theorem sub_next : ∀ (q p S : Nat), p &&& S = p → q &&& S = q → p < q → p ≤ (q - 1) &&& S := by
  intro q
  induction q using Nat.strongRecOn with
  | _ q ih =>
    intro p S hp hq hlt
    have hdiv : ∀ a b : Nat, (a &&& b) / 2 = a / 2 &&& b / 2 := fun a b => by
      have := Nat.shiftRight_and_distrib (a := a) (b := b) (i := 1)
      simpa [Nat.shiftRight_eq_div_pow] using this
    have hp2 : p / 2 &&& S / 2 = p / 2 := by rw [← hdiv, hp]
    have hq2 : q / 2 &&& S / 2 = q / 2 := by rw [← hdiv, hq]
    have hd := hdiv (q - 1) S
    by_cases c : q % 2 = 1
    · have e : (q - 1) / 2 = q / 2 := by omega
      rw [e, hq2] at hd
      omega
    · have e : (q - 1) / 2 = q / 2 - 1 := by omega
      rw [e] at hd
      have h1 := ih (q / 2) (by omega) (p / 2) (S / 2) hp2 hq2 (by omega)
      rw [← hd] at h1
      have h2 : p % 2 ≤ ((q - 1) &&& S) % 2 := by
        by_cases d : p % 2 = 1
        · have b1 : p.testBit 0 = true := by rw [Nat.testBit_zero]; simpa using d
          have b2 := sub_bit hp b1
          have b3 : (q - 1).testBit 0 = true := by rw [Nat.testBit_zero]; simp; omega
          have b4 : ((q - 1) &&& S).testBit 0 = true := by rw [Nat.testBit_and, b3, b2]; rfl
          rw [Nat.testBit_zero] at b4
          have b4 : ((q - 1) &&& S) % 2 = 1 := by simpa using b4
          omega
        · omega
      omega
/-- A part that shares a batch, and those that are left. -/
theorem gds_part {B : Bn} {S p : Nat} (hps : p &&& S = p) (hfit : fitE B (sm B p.testBit B.each.length) = 0) (hS : S < 9223372036854775808) {w : Int} (hw : Lst B (clrB S p) w) : ∃ f, GdS B S f (1 + w).toNat := by
  obtain ⟨f, h1, h2⟩ := hw.can
  have hpb : p < 18446744073709551616 := Nat.lt_of_le_of_lt (by rw [← hps]; exact Nat.and_le_right) (by omega : S < 18446744073709551616)
  have hcb : ∀ i, (clrB S p).testBit i = (S.testBit i && !p.testBit i) := fun i => clrB_bit S p i hpb (by omega)
  have hnn := hw.nn
  refine ⟨fun i => if p.testBit i = true then w.toNat else f i, fun i hi hb => ?_, fun k => ?_⟩
  · show (if p.testBit i = true then w.toNat else f i) < _
    by_cases c : p.testBit i = true
    · rw [if_pos c]; omega
    · rw [if_neg c]
      have := h1 i hi (by rw [hcb, hb]; simpa using c)
      omega
  · by_cases c : k = w.toNat
    · rw [sm_congr B (q := p.testBit) (fun i hi => ?_)]
      · exact hfit
      · show (S.testBit i && decide ((if p.testBit i = true then w.toNat else f i) = k)) = p.testBit i
        by_cases d : p.testBit i = true
        · rw [if_pos d, d, sub_bit hps d]; simp [c]
        · rw [if_neg d]
          have d' : p.testBit i = false := by simpa using d
          rw [d', Bool.and_eq_false_iff]
          by_cases e : S.testBit i = true
          · right
            have := h1 i hi (by rw [hcb, e, d']; rfl)
            exact decide_eq_false (by omega)
          · left; simpa using e
    · rw [sm_congr B (q := fun i => (clrB S p).testBit i && decide (f i = k)) (fun i hi => ?_)]
      · exact h2 k
      · show (S.testBit i && decide ((if p.testBit i = true then w.toNat else f i) = k)) = ((clrB S p).testBit i && decide (f i = k))
        rw [hcb]
        by_cases d : p.testBit i = true
        · rw [if_pos d, d]
          have : decide (w.toNat = k) = false := decide_eq_false (fun h => c h.symm)
          rw [this]; simp
        · have d' : p.testBit i = false := by simpa using d
          rw [if_neg d, d']; simp
/-- The least of the tries is the fewest. -/
theorem lst_step {B : Bn} (hB : BnOk B) {S : Nat} (h0 : S ≠ 0) (hn : S < 2 ^ B.each.length) (hS : S < 9223372036854775808) {T : List Int} {v : Int} (h1 : ∀ u ∈ T, 0 ≤ u ∧ ∃ f, GdS B S f u.toNat)
    (h2 : ∀ p, p &&& S = p → p ≠ 0 → fitE B (sm B p.testBit B.each.length) = 0 → p &&& lowB S ≠ 0 → ∃ w, Lst B (clrB S p) w ∧ 1 + w ∈ T) (hv : v ∈ T) (hm : ∀ u ∈ T, v ≤ u) : Lst B S v := by
  refine ⟨(h1 v hv).1, (h1 v hv).2, fun f m hg => ?_⟩
  obtain ⟨i0, hi0, hb0, hlow⟩ := low_ex h0 hn
  let p := mkM (fun i => S.testBit i && decide (f i = f i0)) B.each.length
  have hpb : ∀ i, p.testBit i = (decide (i < B.each.length) && (S.testBit i && decide (f i = f i0))) := mkM_bit _ _
  have hp0 : p.testBit i0 = true := by rw [hpb]; simp [hi0, hb0]
  have hps : p &&& S = p := sub_of fun i hi => by rw [hpb] at hi; simp at hi; exact hi.2.1
  have hple : p ≤ S := by rw [← hps]; exact Nat.and_le_right
  have hne : p ≠ 0 := fun h => by rw [h] at hp0; simp at hp0
  have hfit : fitE B (sm B p.testBit B.each.length) = 0 := by
    rw [sm_congr B (q := fun i => S.testBit i && decide (f i = f i0)) (fun i hi => by rw [hpb]; simp [hi])]
    exact hg.2 _
  have hlb : p &&& lowB S ≠ 0 := fun h => by
    have : (p &&& lowB S).testBit i0 = true := by
      rw [Nat.testBit_and, hp0, lowB_bit S i0 hS, hb0]
      have : ¬ ∃ j, j < i0 ∧ S.testBit j = true := fun ⟨j, hj, hjb⟩ => by rw [hlow j hj] at hjb; cases hjb
      simp [this]
    rw [h] at this; simp at this
  obtain ⟨w, hw, hwT⟩ := h2 p hps hne hfit hlb
  have hcb : ∀ i, (clrB S p).testBit i = (S.testBit i && !p.testBit i) := fun i => clrB_bit S p i (by omega) (by omega)
  have hfm := hg.1 i0 hi0 hb0
  have hle := hw.least (fun i => swp (f i0) (m - 1) (f i)) (m - 1) ⟨fun i hi hb => ?_, fun k => ?_⟩
  · have := hm _ hwT
    omega
  · rw [hcb, Bool.and_eq_true, Bool.not_eq_true', hpb] at hb
    have hfi := hg.1 i hi hb.1
    have hne2 : f i ≠ f i0 := fun h => by
      have := hb.2
      rw [hb.1, h] at this; simp [hi] at this
    show swp (f i0) (m - 1) (f i) < m - 1
    have hlt : swp (f i0) (m - 1) (f i) < m := swp_lt hfm (by omega) hfi
    have : swp (f i0) (m - 1) (f i) ≠ m - 1 := fun h => hne2 (by rw [(swp_iff _ _ _ _).1 h, swp_r])
    omega
  · refine fit_sub hB (fun i hi h => ?_) (hg.2 (swp (f i0) (m - 1) k))
    rw [Bool.and_eq_true, decide_eq_true_eq] at h ⊢
    rw [hcb, Bool.and_eq_true] at h
    exact ⟨h.1.1, (swp_iff _ _ _ _).1 h.2⟩
theorem best_min : ∀ (l : List Int) (o : Int), bestOf (fun x y => decide (x < y)) o l ≤ o ∧ ∀ x ∈ l, bestOf (fun x y => decide (x < y)) o l ≤ x
  | [], o => ⟨Int.le_refl _, fun x hx => by cases hx⟩
  | y :: l, o => by
    have e : bestOf (fun x y => decide (x < y)) o (y :: l) = bestOf (fun x y => decide (x < y)) (if decide (y < o) = true then y else o) l := rfl
    obtain ⟨a, b⟩ := best_min l (if decide (y < o) = true then y else o)
    rw [e]
    have h1 : (if decide (y < o) = true then y else o) ≤ o ∧ (if decide (y < o) = true then y else o) ≤ y := by
      by_cases c : y < o
      · rw [if_pos (by simpa using c)]; omega
      · rw [if_neg (by simpa using c)]; omega
    refine ⟨by omega, fun x hx => ?_⟩
    rcases List.mem_cons.1 hx with rfl | hx
    · omega
    · exact b x hx
/-- A set of all panels, and those from one on. -/
theorem lst_full {B : Bn} {v : Int} (h : Lst B (2 ^ B.each.length - 1) v) {l : List Int} (hb : Best B l) : v = batN l := by
  have hbit : ∀ i, i < B.each.length → (2 ^ B.each.length - 1).testBit i = true := fun i hi => by rw [Nat.testBit_two_pow_sub_one]; simpa using hi
  have h0 := batN_pos l
  have a := h.least (fun i => (l.getD i 0).toNat) (batN l).toNat (by
    have hg := good_gd (plan_in hb.plan) hb.len hb.good (m := (batN l).toNat) (by omega)
    exact ⟨fun i hi _ => hg.1 i hi, fun k => by rw [sm_congr B (fun i hi => by rw [hbit i hi, Bool.true_and])]; exact hg.2 k⟩)
  obtain ⟨f, hf1, hf2⟩ := h.can
  have b := hb.least f v.toNat ⟨fun i hi => hf1 i hi (hbit i hi), fun k => by
    rw [sm_congr B (q := fun i => (2 ^ B.each.length - 1).testBit i && decide (f i = k)) (fun i hi => by rw [hbit i hi, Bool.true_and])]; exact hf2 k⟩
  have := h.nn
  omega
theorem lst_grow {B : Bn} (hB : BnOk B) {S S' : Nat} (hs : ∀ i, i < B.each.length → S.testBit i = true → S'.testBit i = true) {v v' : Int} (h : Lst B S v) (h' : Lst B S' v') : v ≤ v' := by
  obtain ⟨f, hf1, hf2⟩ := h'.can
  have := h.least f v'.toNat ⟨fun i hi hb => hf1 i hi (hs i hi hb), fun k => fit_sub hB (fun i hi hb => by
    rw [Bool.and_eq_true] at hb ⊢
    exact ⟨hs i hi hb.1, hb.2⟩) (hf2 k)⟩
  have := h'.nn
  omega
theorem ofK_app {l m : List Int} {b : Int} : ∀ {k : Nat}, k ≤ l.length → ofK (l ++ m) b k = ofK l b k
  | 0, _ => rfl
  | k + 1, h => by
    have ih := ofK_app (l := l) (m := m) (b := b) (k := k) (by omega)
    simp only [ofK, ih, getD_app (show k < l.length by omega)]
theorem outK_app (B : Bn) (l m : List Int) : outK B (l ++ m) l.length = outK B l l.length := by
  unfold outK
  rw [List.take_left, List.take_length]
  exact List.map_congr_left fun j _ => by rw [ofK_app (Nat.le_refl _)]
end Go.Gl
namespace Go.Gl
open Go.Lw
/-- Two panels do not share a batch. -/
def Ap2 (B : Bn) (a b : Int) : Prop := fitE B (sumL B [a, b]) ≠ 0
/-- A list of panels that are apart. -/
def Ap (B : Bn) (l : List Int) : Prop := l.Pairwise (fun a b => a < b ∧ Ap2 B a b) ∧ ∀ x ∈ l, 0 ≤ x ∧ x < (B.each.length : Int)
theorem getD_get {l : List Int} {i : Nat} (h : i < l.length) : l.getD i 0 = l[i] := by simp [List.getD, List.getElem?_eq_getElem h]
theorem apB_iff {B : Bn} {l : List Int} : apB B l = true ↔ l.Pairwise (Ap2 B) := by
  rw [List.pairwise_iff_getElem]
  constructor
  · intro h i j hi hj hij
    have := apRow_at (apB_at h hj) hij
    unfold apAt at this
    rw [decide_eq_true_eq, getD_get hi, getD_get hj] at this
    exact this
  · intro h
    refine apB_true fun j hj => apRow_true fun i hi => ?_
    unfold apAt
    rw [decide_eq_true_eq, getD_get (by omega), getD_get hj]
    exact h i j (by omega) hj hi
theorem lstB_iff {l : List Int} {n : Int} : lstB l n = true ↔ l.Pairwise (· < ·) ∧ ∀ x ∈ l, 0 ≤ x ∧ x < n := by
  constructor
  · intro h
    refine ⟨?_, lstB_in h⟩
    rw [List.pairwise_iff_getElem]
    intro i j hi hj hij
    have := lst_lt h i j hij hj
    rw [getD_get hi, getD_get hj] at this
    exact this
  · rintro ⟨h1, h2⟩
    rw [List.pairwise_iff_getElem] at h1
    refine lstB_true fun j hj => ?_
    have hx := h2 _ (getD_mem hj)
    unfold okAt
    refine decide_eq_true ⟨hx.1, ?_, hx.2⟩
    match j with
    | 0 => simp only [prevN]; exact hx.1
    | k + 1 =>
      have := h1 k (k + 1) (by omega) hj (by omega)
      simp only [prevN]
      rw [getD_get (by omega), getD_get hj]
      omega
theorem ap_iff {B : Bn} {l : List Int} : Ap B l ↔ lstB l (B.each.length : Int) = true ∧ apB B l = true := by
  rw [lstB_iff, apB_iff]
  unfold Ap
  rw [List.pairwise_and_iff]
  constructor
  · rintro ⟨⟨a, b⟩, c⟩; exact ⟨⟨a, c⟩, b⟩
  · rintro ⟨⟨a, c⟩, b⟩; exact ⟨⟨a, b⟩, c⟩

theorem befB_refl : ∀ a : List Int, befB a a = false
  | [] => rfl
  | x :: a => by simp [befB, befB_refl a]
theorem befB_app : ∀ (c a b : List Int), befB (c ++ a) (c ++ b) = befB a b
  | [], a, b => rfl
  | x :: c, a, b => by simp [befB, befB_app c a b]
theorem befB_trans : ∀ {a b c : List Int}, befB a b = true → befB b c = true → befB a c = true
  | [], [], _, h, _ => by simp [befB] at h
  | [], _ :: _, [], _, k => by simp [befB] at k
  | [], _ :: _, _ :: _, _, _ => rfl
  | _ :: _, [], _, h, _ => by simp [befB] at h
  | _ :: _, _ :: _, [], _, k => by simp [befB] at k
  | x :: a, y :: b, z :: c, h, k => by
    simp only [befB] at h k ⊢
    by_cases e1 : x = y
    · subst e1
      rw [if_pos rfl] at h
      by_cases e2 : x = z
      · subst e2
        rw [if_pos rfl] at k ⊢
        exact befB_trans h k
      · rw [if_neg e2] at k ⊢; exact k
    · rw [if_neg e1, decide_eq_true_eq] at h
      by_cases e2 : y = z
      · subst e2
        rw [if_neg e1]; exact decide_eq_true h
      · rw [if_neg e2, decide_eq_true_eq] at k
        rw [if_neg (by omega)]; exact decide_eq_true (by omega)
theorem befB_anti : ∀ {a b : List Int}, a.length = b.length → befB a b = false → befB b a = false → a = b
  | [], [], _, _, _ => rfl
  | [], _ :: _, h, _, _ => by simp at h
  | _ :: _, [], h, _, _ => by simp at h
  | x :: a, y :: b, h, h1, h2 => by
    simp only [befB] at h1 h2
    by_cases e : x = y
    · subst e
      rw [if_pos rfl] at h1 h2
      rw [befB_anti (by simpa using h) h1 h2]
    · rw [if_neg e, decide_eq_false_iff_not] at h1
      rw [if_neg (fun h => e h.symm), decide_eq_false_iff_not] at h2
      omega
/-- The first one of the longest lists of panels that are apart. -/
def FirstA (B : Bn) (r : List Int) : Prop := Ap B r ∧ ∀ l, Ap B l → l.length < r.length ∨ l.length = r.length ∧ befB l r = false
theorem first_uniq {B : Bn} {a b : List Int} (ha : FirstA B a) (hb : FirstA B b) : a = b := by
  have h1 := ha.2 b hb.1
  have h2 := hb.2 a ha.1
  rcases h1 with h1 | ⟨h1, k1⟩
  · rcases h2 with h2 | ⟨h2, k2⟩ <;> omega
  · rcases h2 with h2 | ⟨h2, k2⟩
    · omega
    · exact befB_anti h2 k2 k1

/-- What goes on from some panels that are apart. -/
def GoA (B : Bn) (t : Nat) (begun l : List Int) : Prop := ∃ m, l = begun ++ m ∧ Ap B l ∧ ∀ x ∈ m, (B.each.length : Int) - (t : Int) ≤ x
theorem goA_len {B : Bn} {t : Nat} {begun l : List Int} (h : GoA B t begun l) : begun.length ≤ l.length := by
  obtain ⟨m, rfl, _⟩ := h; rw [List.length_append]; omega
theorem goA_split {B : Bn} {t : Nat} {begun l : List Int} (h : GoA B (t + 1) begun l) : GoA B t begun l ∨ GoA B t (begun ++ [(B.each.length : Int) - ((t + 1 : Nat) : Int)]) l := by
  obtain ⟨m, rfl, h1, h2⟩ := h
  cases m with
  | nil => exact .inl ⟨[], rfl, h1, fun x hx => by cases hx⟩
  | cons y m =>
    have hp := (List.pairwise_append.1 h1.1).2.1
    rw [List.pairwise_cons] at hp
    have hy := h2 y List.mem_cons_self
    by_cases c : y = (B.each.length : Int) - ((t + 1 : Nat) : Int)
    · right
      refine ⟨m, by rw [← c]; simp, h1, fun x hx => ?_⟩
      have := (hp.1 x hx).1
      push_cast at c; omega
    · left
      refine ⟨y :: m, rfl, h1, fun x hx => ?_⟩
      push_cast at hy c
      rcases List.mem_cons.1 hx with rfl | hx
      · omega
      · have := (hp.1 x hx).1; omega
theorem goA_up {B : Bn} {t : Nat} {begun l : List Int} (h : GoA B t begun l) : GoA B (t + 1) begun l := by
  obtain ⟨m, rfl, h1, h2⟩ := h
  exact ⟨m, rfl, h1, fun x hx => by have := h2 x hx; push_cast; omega⟩
theorem goA_in {B : Bn} {t : Nat} {begun l : List Int} (h : GoA B t (begun ++ [(B.each.length : Int) - ((t + 1 : Nat) : Int)]) l) : GoA B (t + 1) begun l := by
  obtain ⟨m, rfl, h1, h2⟩ := h
  refine ⟨((B.each.length : Int) - ((t + 1 : Nat) : Int)) :: m, by simp, h1, fun x hx => ?_⟩
  rcases List.mem_cons.1 hx with rfl | hx
  · omega
  · have := h2 x hx; push_cast; omega
theorem apG_first {B : Bn} : ∀ (t : Nat) (begun out : List Int), t ≤ B.each.length → Ap B begun → (∀ x ∈ begun, x < (B.each.length : Int) - (t : Int)) →
    (apG B t begun out = out ∧ ∀ l, GoA B t begun l → l.length ≤ out.length) ∨
    (GoA B t begun (apG B t begun out) ∧ out.length < (apG B t begun out).length ∧ ∀ l, GoA B t begun l → l.length ≤ (apG B t begun out).length ∧ (l.length = (apG B t begun out).length → befB l (apG B t begun out) = false)) ∨
    (begun.length ≤ out.length → False)
  | 0, begun, out, ht, hb, hx => by
    by_cases c : begun.length ≤ out.length
    · refine .inl ⟨rfl, fun l hl => ?_⟩
      obtain ⟨m, rfl, h1, h2⟩ := hl
      cases m with
      | nil => simpa using c
      | cons y m =>
        have := h2 y List.mem_cons_self
        have := h1.2 y (by simp)
        push_cast at *; omega
    · exact .inr (.inr c)
  | t + 1, begun, out, ht, hb, hx => by
    by_cases c0 : begun.length ≤ out.length
    rotate_left
    · exact .inr (.inr c0)
    obtain ⟨i, hi⟩ : ∃ i, i = (B.each.length : Int) - ((t + 1 : Nat) : Int) := ⟨_, rfl⟩
    have hx' : ∀ x ∈ begun, x < (B.each.length : Int) - (t : Int) := fun x h => by have := hx x h; push_cast at this; omega
    have hsp : ∀ l, GoA B (t + 1) begun l → GoA B t begun l ∨ GoA B t (begun ++ [i]) l := fun l h => by rw [hi]; exact goA_split h
    simp only [apG, ← hi]
    by_cases c : shrB B begun i = true
    · rw [if_pos c]
      have hno : ∀ l, ¬ GoA B t (begun ++ [i]) l := fun l hl => by
        obtain ⟨m, rfl, h1, _⟩ := hl
        unfold shrB at c
        obtain ⟨k, hk, hf⟩ := List.any_eq_true.1 c
        rw [decide_eq_true_eq] at hf
        have h3 := (List.pairwise_append.1 (List.pairwise_append.1 h1.1).1).2.2 k hk i (by simp)
        exact h3.2 hf
      have hd : ∀ l, GoA B (t + 1) begun l → GoA B t begun l := fun l hl => (hsp l hl).resolve_right (hno l)
      rcases apG_first t begun out (by omega) hb hx' with ⟨h1, h2⟩ | ⟨h1, h2, h3⟩ | h
      · exact .inl ⟨h1, fun l hl => h2 l (hd l hl)⟩
      · exact .inr (.inl ⟨goA_up h1, h2, fun l hl => h3 l (hd l hl)⟩)
      · exact absurd c0 h
    · rw [if_neg c]
      have hbi : Ap B (begun ++ [i]) := by
        refine ⟨List.pairwise_append.2 ⟨hb.1, List.pairwise_singleton _ _, fun a ha b hb' => ?_⟩, fun x hx2 => ?_⟩
        · rw [List.mem_singleton] at hb'
          subst hb'
          refine ⟨by have := hx a ha; omega, fun hf => c ?_⟩
          unfold shrB
          exact List.any_eq_true.2 ⟨a, ha, decide_eq_true hf⟩
        · rcases List.mem_append.1 hx2 with h | h
          · exact hb.2 x h
          · rw [List.mem_singleton] at h; subst h; push_cast at hi; omega
      have hxi : ∀ x ∈ begun ++ [i], x < (B.each.length : Int) - (t : Int) := fun x h => by
        rcases List.mem_append.1 h with h | h
        · exact hx' x h
        · rw [List.mem_singleton] at h; subst h; push_cast at hi; omega
      obtain ⟨r1, hr1⟩ : ∃ r1, r1 = apG B t (begun ++ [i]) (begun ++ [i]) := ⟨_, rfl⟩
      rw [← hr1]
      -- the first of the longest that go on with this panel
      have hr : GoA B t (begun ++ [i]) r1 ∧ ∀ l, GoA B t (begun ++ [i]) l → l.length ≤ r1.length ∧ (l.length = r1.length → befB l r1 = false) := by
        rcases apG_first t (begun ++ [i]) (begun ++ [i]) (by omega) hbi hxi with ⟨h1, h2⟩ | ⟨h1, h2, h3⟩ | h
        · rw [← hr1] at h1
          rw [h1]
          refine ⟨⟨[], by simp, hbi, fun x hx => by cases hx⟩, fun l hl => ⟨h2 l hl, fun he => ?_⟩⟩
          obtain ⟨m, rfl, _⟩ := hl
          rw [List.length_append] at he
          obtain rfl : m = [] := List.eq_nil_of_length_eq_zero (by omega)
          rw [List.append_nil]; exact befB_refl _
        · rw [← hr1] at h1 h3; exact ⟨h1, h3⟩
        · exact absurd (Nat.le_refl _) h
      have hr1b := goA_len hr.1
      rw [List.length_append] at hr1b
      simp only [List.length_cons, List.length_nil] at hr1b
      -- what does not go on with it does not come before
      have hlate : ∀ l, GoA B t begun l → l.length = r1.length → befB l r1 = false := fun l hl he => by
        obtain ⟨m, rfl, _, h2⟩ := hl
        obtain ⟨m1, hm1, _, _⟩ := hr.1
        rw [hm1, List.append_assoc, befB_app]
        cases m with
        | nil => rw [List.append_nil] at he; omega
        | cons y m =>
          have := h2 y List.mem_cons_self
          show (if y = i then befB m m1 else decide (y < i)) = false
          push_cast at hi
          rw [if_neg (by omega)]
          exact decide_eq_false (by omega)
      by_cases d : out.length < r1.length
      · rw [if_pos d]
        rcases apG_first t begun r1 (by omega) hb hx' with ⟨h1, h2⟩ | ⟨h1, h2, h3⟩ | h
        · refine .inr (.inl ?_)
          rw [h1]
          refine ⟨by rw [hi] at hr; exact goA_in hr.1, d, fun l hl => ?_⟩
          rcases hsp l hl with hl | hl
          · exact ⟨h2 l hl, hlate l hl⟩
          · exact hr.2 l hl
        · refine .inr (.inl ⟨goA_up h1, by omega, fun l hl => ?_⟩)
          rcases hsp l hl with hl | hl
          · exact h3 l hl
          · have := (hr.2 l hl).1
            exact ⟨by omega, fun he => by omega⟩
        · exact absurd (by omega) h
      · rw [if_neg d]
        rcases apG_first t begun out (by omega) hb hx' with ⟨h1, h2⟩ | ⟨h1, h2, h3⟩ | h
        · refine .inl ⟨h1, fun l hl => ?_⟩
          rcases hsp l hl with hl | hl
          · exact h2 l hl
          · have := (hr.2 l hl).1; omega
        · refine .inr (.inl ⟨goA_up h1, h2, fun l hl => ?_⟩)
          rcases hsp l hl with hl | hl
          · exact h3 l hl
          · have := (hr.2 l hl).1
            exact ⟨by omega, fun he => by omega⟩
        · exact absurd c0 h
theorem apG_is {B : Bn} : FirstA B (apG B B.each.length [] []) := by
  have h0 : Ap B [] := ⟨List.Pairwise.nil, fun x hx => by cases hx⟩
  have hall : ∀ l, Ap B l → GoA B B.each.length [] l := fun l hl => ⟨l, rfl, hl, fun x hx => by have := hl.2 x hx; omega⟩
  rcases apG_first (B := B) B.each.length [] [] (Nat.le_refl _) h0 (fun x hx => by cases hx) with ⟨h1, h2⟩ | ⟨h1, h2, h3⟩ | h
  · rw [h1]
    refine ⟨h0, fun l hl => .inr ?_⟩
    have := h2 l (hall l hl)
    obtain rfl : l = [] := List.eq_nil_of_length_eq_zero (by simpa using this)
    exact ⟨rfl, rfl⟩
  · obtain ⟨m, hm, ha, _⟩ := h1
    refine ⟨ha, fun l hl => ?_⟩
    obtain ⟨a, b⟩ := h3 l (hall l hl)
    by_cases c : l.length = (apG B B.each.length [] []).length
    · exact .inr ⟨c, b c⟩
    · exact .inl (by omega)
  · exact absurd (Nat.le_refl 0) h

theorem bitL_mem {A : Nat} : ∀ {n : Nat} {x : Int}, x ∈ bitL A n ↔ ∃ i : Nat, i < n ∧ x = (i : Int) ∧ A.testBit i = true
  | 0, x => by simp [bitL]
  | n + 1, x => by
    have ih := bitL_mem (A := A) (n := n) (x := x)
    simp only [bitL]
    by_cases c : A.testBit n = true
    · rw [if_pos c, List.mem_append, ih, List.mem_singleton]
      constructor
      · rintro (⟨i, h1, h2, h3⟩ | h)
        · exact ⟨i, by omega, h2, h3⟩
        · exact ⟨n, by omega, h, c⟩
      · rintro ⟨i, h1, h2, h3⟩
        by_cases d : i = n
        · subst d; exact .inr h2
        · exact .inl ⟨i, by omega, h2, h3⟩
    · rw [if_neg c, ih]
      constructor
      · rintro ⟨i, h1, h2, h3⟩; exact ⟨i, by omega, h2, h3⟩
      · rintro ⟨i, h1, h2, h3⟩
        have : i ≠ n := fun h => c (by rw [← h]; exact h3)
        exact ⟨i, by omega, h2, h3⟩
theorem bitL_lt (A : Nat) : ∀ n, (bitL A n).Pairwise (· < ·)
  | 0 => List.Pairwise.nil
  | n + 1 => by
    have ih := bitL_lt A n
    simp only [bitL]
    split
    · refine List.pairwise_append.2 ⟨ih, List.pairwise_singleton _ _, fun a ha b hb => ?_⟩
      rw [List.mem_singleton] at hb
      obtain ⟨i, h1, h2, _⟩ := bitL_mem.1 ha
      omega
    · exact ih
theorem sorted_ext : ∀ {a b : List Int}, a.Pairwise (· < ·) → b.Pairwise (· < ·) → (∀ x, x ∈ a ↔ x ∈ b) → a = b
  | [], [], _, _, _ => rfl
  | [], y :: b, _, _, h => by have := (h y).2 List.mem_cons_self; cases this
  | x :: a, [], _, _, h => by have := (h x).1 List.mem_cons_self; cases this
  | x :: a, y :: b, ha, hb, h => by
    rw [List.pairwise_cons] at ha hb
    have e : x = y := by
      rcases List.mem_cons.1 ((h x).1 List.mem_cons_self) with h1 | h1
      · exact h1
      · rcases List.mem_cons.1 ((h y).2 List.mem_cons_self) with h2 | h2
        · exact h2.symm
        · have := hb.1 x h1; have := ha.1 y h2; omega
    subst e
    rw [sorted_ext ha.2 hb.2 fun z => ?_]
    have := h z
    rw [List.mem_cons, List.mem_cons] at this
    constructor
    · intro hz
      rcases this.1 (.inr hz) with h1 | h1
      · have := ha.1 z hz; omega
      · exact h1
    · intro hz
      rcases this.2 (.inr hz) with h1 | h1
      · have := hb.1 z hz; omega
      · exact h1
/-- Each list that rises is one of those that bits say. -/
theorem bitL_sur {l : List Int} {n : Nat} (h : l.Pairwise (· < ·)) (hx : ∀ x ∈ l, 0 ≤ x ∧ x < (n : Int)) : ∃ A, A < 2 ^ n ∧ bitL A n = l := by
  refine ⟨mkM (fun i => decide ((i : Int) ∈ l)) n, ?_, sorted_ext (bitL_lt _ _) h fun x => ?_⟩
  · refine Nat.lt_pow_two_of_testBit _ fun i hi => ?_
    rw [mkM_bit]; simp; omega
  · rw [bitL_mem]
    constructor
    · rintro ⟨i, h1, rfl, h2⟩
      rw [mkM_bit] at h2; simp at h2; exact h2.2
    · intro hm
      have := hx x hm
      refine ⟨x.toNat, by omega, by omega, ?_⟩
      rw [mkM_bit]
      have e : ((x.toNat : Nat) : Int) = x := by omega
      simp [e, hm]; omega
theorem apK_best {B : Bn} : ∀ k, Ap B (apK B k) ∧ ∀ j, j < k → Ap B (bitL j B.each.length) → (bitL j B.each.length).length < (apK B k).length ∨ (bitL j B.each.length).length = (apK B k).length ∧ befB (bitL j B.each.length) (apK B k) = false
  | 0 => ⟨⟨List.Pairwise.nil, fun x hx => by cases hx⟩, fun j hj => by omega⟩
  | k + 1 => by
    obtain ⟨h1, h2⟩ := apK_best (B := B) k
    have hap : Ap B (bitL k B.each.length) ↔ apB B (bitL k B.each.length) = true := by
      rw [ap_iff]
      constructor
      · exact fun h => h.2
      · intro h
        refine ⟨lstB_iff.2 ⟨bitL_lt _ _, fun x hx => ?_⟩, h⟩
        obtain ⟨i, a, b, _⟩ := bitL_mem.1 hx
        omega
    simp only [apK]
    by_cases c : apB B (bitL k B.each.length) = true ∧ ((apK B k).length < (bitL k B.each.length).length ∨ (bitL k B.each.length).length = (apK B k).length ∧ befB (bitL k B.each.length) (apK B k) = true)
    · rw [if_pos c]
      refine ⟨hap.2 c.1, fun j hj ha => ?_⟩
      by_cases d : j = k
      · subst d; exact .inr ⟨rfl, befB_refl _⟩
      · rcases h2 j (by omega) ha with g | ⟨g, g'⟩
        · rcases c.2 with e | ⟨e, _⟩ <;> exact .inl (by omega)
        · rcases c.2 with e | ⟨e, e'⟩
          · exact .inl (by omega)
          · refine .inr ⟨by omega, ?_⟩
            cases hb : befB (bitL j B.each.length) (bitL k B.each.length) with
            | false => rfl
            | true => rw [befB_trans hb e'] at g'; cases g'
    · rw [if_neg c]
      refine ⟨h1, fun j hj ha => ?_⟩
      by_cases d : j = k
      · subst d
        have c2 := fun h => c ⟨hap.1 ha, h⟩
        by_cases e : (bitL j B.each.length).length < (apK B j).length
        · exact .inl e
        · have e1 : ¬ (apK B j).length < (bitL j B.each.length).length := fun h => c2 (.inl h)
          refine .inr ⟨by omega, ?_⟩
          cases hb : befB (bitL j B.each.length) (apK B j) with
          | false => rfl
          | true => exact absurd (.inr ⟨by omega, hb⟩) c2
      · exact h2 j (by omega) ha
theorem apK_is {B : Bn} : FirstA B (apK B (2 ^ B.each.length)) := by
  obtain ⟨h1, h2⟩ := apK_best (B := B) (2 ^ B.each.length)
  refine ⟨h1, fun l hl => ?_⟩
  have hl' := (lstB_iff.1 (ap_iff.1 hl).1)
  obtain ⟨A, hA, rfl⟩ := bitL_sur hl'.1 hl'.2
  exact h2 A hA hl
theorem ap_same (B : Bn) : apG B B.each.length [] [] = apK B (2 ^ B.each.length) := first_uniq apG_is apK_is
end Go.Gl
