/- Texts that the last one of this claim imports. -/
import Derived.KernelRfl
import Derived.Test.YtmnbkceiaifncaaProg
import Derived.Lib.QuoteBits
import Derived.ProofKit
import Derived.OpenShut
import Derived.Carry
import Derived.Lib.SmallJoins
import Derived.Deep.Slices
import Derived.Test.YtmnbkceiaifncaaRows
import Derived.Test.YtmnbkceiaifncaaB1
set_option linter.unusedVariables false
set_option linter.unusedSimpArgs false
set_option linter.unusedSectionVars false
set_option linter.unusedVariables false
namespace Go.Lw
open Go.RowKit
section
variable {cx : Cx} {n : Nat} {ks : List (Nat × Value)} {O O' R R' O1 : List Own} {V V1 : View} {P : Program} {ops : Array Oper} {Qn : Act → World → Prop} {t : Tr} {i d : Nat} {T : TypeId} {pos : String} {after : Array Edge} {gd : Option (Nat × Bool)} {x y z : Operand} {u v : Value} {wr : Bool} {k : IntKind} {p q : Int} {X Y : TypeId} {K : Act → World → Prop} {Q : Exit → Act → World → Prop} {ro : Option Nat} {id : Nat}
theorem AtT.kmove {x : Operand} {v : Value} (next : AtT cx n ((d, v) :: ks) O V P ops Qn t) (ho : ops[i]? = some ⟨some d, .move x, T, pos, after, gd⟩ := by rfl) (hg : Gd ks ops gd := by first | exact trivial | exact ⟨_, _, rfl, rfl, rfl⟩) (hx : ev ks x = some v := by rfl) (hn : d < n := by decide) : AtT cx n ks O V P ops Qn (.q i t) := AtT.move ho hg hx hn next
theorem AtT.kassign {x : Operand} {v : Value} (next : AtT cx n ((d, v) :: ks) O V P ops Qn t) (ho : ops[i]? = some ⟨some d, .assign x, T, pos, after, gd⟩ := by rfl) (hg : Gd ks ops gd := by first | exact trivial | exact ⟨_, _, rfl, rfl, rfl⟩) (hx : ev ks x = some v := by rfl) (hn : d < n := by decide) : AtT cx n ks O V P ops Qn (.q i t) := AtT.assign ho hg hx hn next
theorem AtT.kpick {c x y : Operand} {b : Bool} {u v : Value} (next : AtT cx n ((d, bif b then u else v) :: ks) O V P ops Qn t) (ho : ops[i]? = some ⟨some d, .pick c x y, T, pos, after, gd⟩ := by rfl) (hg : Gd ks ops gd := by first | exact trivial | exact ⟨_, _, rfl, rfl, rfl⟩) (hc : ev ks c = some (.bool b) := by rfl) (hx : ev ks x = some u := by rfl) (hy : ev ks y = some v := by rfl) (hn : d < n := by decide) : AtT cx n ks O V P ops Qn (.q i t) := AtT.pick ho hg hc hx hy hn next
theorem AtT.kaddW  (next : AtT cx n ((d, .int k (k.wrap (p + q))) :: ks) O V P ops Qn t) (ho : ops[i]? = some ⟨some d, .binOp .add X x y Y, T, pos, after, gd⟩ := by rfl) (hg : Gd ks ops gd := by first | exact trivial | exact ⟨_, _, rfl, rfl, rfl⟩) (hx : ev ks x = some (.int k p) := by rfl) (hy : ev ks y = some (.int k q) := by rfl) (hn : d < n := by decide) : AtT cx n ks O V P ops Qn (.q i t) := AtT.addW ho hg hx hy hn next
theorem AtT.ksubW  (next : AtT cx n ((d, .int k (k.wrap (p - q))) :: ks) O V P ops Qn t) (ho : ops[i]? = some ⟨some d, .binOp .sub X x y Y, T, pos, after, gd⟩ := by rfl) (hg : Gd ks ops gd := by first | exact trivial | exact ⟨_, _, rfl, rfl, rfl⟩) (hx : ev ks x = some (.int k p) := by rfl) (hy : ev ks y = some (.int k q) := by rfl) (hn : d < n := by decide) : AtT cx n ks O V P ops Qn (.q i t) := AtT.subW ho hg hx hy hn next
theorem AtT.kmulW  (next : AtT cx n ((d, .int k (k.wrap (p * q))) :: ks) O V P ops Qn t) (ho : ops[i]? = some ⟨some d, .binOp .mul X x y Y, T, pos, after, gd⟩ := by rfl) (hg : Gd ks ops gd := by first | exact trivial | exact ⟨_, _, rfl, rfl, rfl⟩) (hx : ev ks x = some (.int k p) := by rfl) (hy : ev ks y = some (.int k q) := by rfl) (hn : d < n := by decide) : AtT cx n ks O V P ops Qn (.q i t) := AtT.mulW ho hg hx hy hn next
theorem AtT.kadd  (next : AtT cx n ((d, .int .i64 (p + q)) :: ks) O V P ops Qn t) (ho : ops[i]? = some ⟨some d, .binOp .add X x y Y, T, pos, after, gd⟩ := by rfl) (hg : Gd ks ops gd := by first | exact trivial | exact ⟨_, _, rfl, rfl, rfl⟩) (hx : ev ks x = some (.int .i64 p) := by rfl) (hy : ev ks y = some (.int .i64 q) := by rfl) (hf : Fit (p + q) := by first | assumption | exact Fit.of (by omega) (by omega)) (hn : d < n := by decide) : AtT cx n ks O V P ops Qn (.q i t) := AtT.add ho hg hx hy hn hf next
theorem AtT.ksubt  (next : AtT cx n ((d, .int .i64 (p - q)) :: ks) O V P ops Qn t) (ho : ops[i]? = some ⟨some d, .binOp .sub X x y Y, T, pos, after, gd⟩ := by rfl) (hg : Gd ks ops gd := by first | exact trivial | exact ⟨_, _, rfl, rfl, rfl⟩) (hx : ev ks x = some (.int .i64 p) := by rfl) (hy : ev ks y = some (.int .i64 q) := by rfl) (hf : Fit (p - q) := by first | assumption | exact Fit.of (by omega) (by omega)) (hn : d < n := by decide) : AtT cx n ks O V P ops Qn (.q i t) := AtT.subt ho hg hx hy hn hf next
theorem AtT.kmul  (next : AtT cx n ((d, .int .i64 (p * q)) :: ks) O V P ops Qn t) (ho : ops[i]? = some ⟨some d, .binOp .mul X x y Y, T, pos, after, gd⟩ := by rfl) (hg : Gd ks ops gd := by first | exact trivial | exact ⟨_, _, rfl, rfl, rfl⟩) (hx : ev ks x = some (.int .i64 p) := by rfl) (hy : ev ks y = some (.int .i64 q) := by rfl) (hf : Fit (p * q) := by first | assumption | exact Fit.of (by omega) (by omega)) (hn : d < n := by decide) : AtT cx n ks O V P ops Qn (.q i t) := AtT.mul ho hg hx hy hn hf next
theorem AtT.kquo  (next : AtT cx n ((d, .int .i64 (p.tdiv q)) :: ks) O V P ops Qn t) (ho : ops[i]? = some ⟨some d, .binOp .quo X x y Y, T, pos, after, gd⟩ := by rfl) (hg : Gd ks ops gd := by first | exact trivial | exact ⟨_, _, rfl, rfl, rfl⟩) (hx : ev ks x = some (.int .i64 p) := by rfl) (hy : ev ks y = some (.int .i64 q) := by rfl) (hq : q ≠ 0 := by omega) (hf : Fit (p.tdiv q) := by first | assumption | exact Fit.of (by omega) (by omega)) (hn : d < n := by decide) : AtT cx n ks O V P ops Qn (.q i t) := AtT.quo ho hg hx hy hn hq hf next
theorem AtT.krem  (next : AtT cx n ((d, .int k (p.tmod q)) :: ks) O V P ops Qn t) (ho : ops[i]? = some ⟨some d, .binOp .rem X x y Y, T, pos, after, gd⟩ := by rfl) (hg : Gd ks ops gd := by first | exact trivial | exact ⟨_, _, rfl, rfl, rfl⟩) (hx : ev ks x = some (.int k p) := by rfl) (hy : ev ks y = some (.int k q) := by rfl) (hq : q ≠ 0 := by omega) (hn : d < n := by decide) : AtT cx n ks O V P ops Qn (.q i t) := AtT.rem ho hg hx hy hn hq next
theorem AtT.keqI  (next : AtT cx n ((d, .bool (decide (p = q))) :: ks) O V P ops Qn t) (ho : ops[i]? = some ⟨some d, .binOp .eql X x y Y, T, pos, after, gd⟩ := by rfl) (hg : Gd ks ops gd := by first | exact trivial | exact ⟨_, _, rfl, rfl, rfl⟩) (hx : ev ks x = some (.int k p) := by rfl) (hy : ev ks y = some (.int k q) := by rfl) (hn : d < n := by decide) : AtT cx n ks O V P ops Qn (.q i t) := AtT.eqI ho hg hx hy hn next
theorem AtT.kneI  (next : AtT cx n ((d, .bool (decide (p ≠ q))) :: ks) O V P ops Qn t) (ho : ops[i]? = some ⟨some d, .binOp .neq X x y Y, T, pos, after, gd⟩ := by rfl) (hg : Gd ks ops gd := by first | exact trivial | exact ⟨_, _, rfl, rfl, rfl⟩) (hx : ev ks x = some (.int k p) := by rfl) (hy : ev ks y = some (.int k q) := by rfl) (hn : d < n := by decide) : AtT cx n ks O V P ops Qn (.q i t) := AtT.neI ho hg hx hy hn next
theorem AtT.klss  (next : AtT cx n ((d, .bool (decide (p < q))) :: ks) O V P ops Qn t) (ho : ops[i]? = some ⟨some d, .binOp .lss X x y Y, T, pos, after, gd⟩ := by rfl) (hg : Gd ks ops gd := by first | exact trivial | exact ⟨_, _, rfl, rfl, rfl⟩) (hx : ev ks x = some (.int k p) := by rfl) (hy : ev ks y = some (.int k q) := by rfl) (hn : d < n := by decide) : AtT cx n ks O V P ops Qn (.q i t) := AtT.lss ho hg hx hy hn next
theorem AtT.kleq  (next : AtT cx n ((d, .bool (decide (p ≤ q))) :: ks) O V P ops Qn t) (ho : ops[i]? = some ⟨some d, .binOp .leq X x y Y, T, pos, after, gd⟩ := by rfl) (hg : Gd ks ops gd := by first | exact trivial | exact ⟨_, _, rfl, rfl, rfl⟩) (hx : ev ks x = some (.int k p) := by rfl) (hy : ev ks y = some (.int k q) := by rfl) (hn : d < n := by decide) : AtT cx n ks O V P ops Qn (.q i t) := AtT.leq ho hg hx hy hn next
theorem AtT.kgtr  (next : AtT cx n ((d, .bool (decide (q < p))) :: ks) O V P ops Qn t) (ho : ops[i]? = some ⟨some d, .binOp .gtr X x y Y, T, pos, after, gd⟩ := by rfl) (hg : Gd ks ops gd := by first | exact trivial | exact ⟨_, _, rfl, rfl, rfl⟩) (hx : ev ks x = some (.int k p) := by rfl) (hy : ev ks y = some (.int k q) := by rfl) (hn : d < n := by decide) : AtT cx n ks O V P ops Qn (.q i t) := AtT.gtr ho hg hx hy hn next
theorem AtT.kgeq  (next : AtT cx n ((d, .bool (decide (q ≤ p))) :: ks) O V P ops Qn t) (ho : ops[i]? = some ⟨some d, .binOp .geq X x y Y, T, pos, after, gd⟩ := by rfl) (hg : Gd ks ops gd := by first | exact trivial | exact ⟨_, _, rfl, rfl, rfl⟩) (hx : ev ks x = some (.int k p) := by rfl) (hy : ev ks y = some (.int k q) := by rfl) (hn : d < n := by decide) : AtT cx n ks O V P ops Qn (.q i t) := AtT.geq ho hg hx hy hn next
theorem AtT.keqB {a b : Bool} (hT : P.underlying X = some .bool) (next : AtT cx n ((d, .bool (a == b)) :: ks) O V P ops Qn t) (ho : ops[i]? = some ⟨some d, .binOp .eql X x y Y, T, pos, after, gd⟩ := by rfl) (hg : Gd ks ops gd := by first | exact trivial | exact ⟨_, _, rfl, rfl, rfl⟩) (hx : ev ks x = some (.bool a) := by rfl) (hy : ev ks y = some (.bool b) := by rfl) (hn : d < n := by decide) : AtT cx n ks O V P ops Qn (.q i t) := AtT.eqB ho hg hT hx hy hn next
theorem AtT.knegW  (next : AtT cx n ((d, .int k (k.wrap (-p))) :: ks) O V P ops Qn t) (ho : ops[i]? = some ⟨some d, .unOp .neg X x, T, pos, after, gd⟩ := by rfl) (hg : Gd ks ops gd := by first | exact trivial | exact ⟨_, _, rfl, rfl, rfl⟩) (hx : ev ks x = some (.int k p) := by rfl) (hn : d < n := by decide) : AtT cx n ks O V P ops Qn (.q i t) := AtT.negW ho hg hx hn next
theorem AtT.kneg  (next : AtT cx n ((d, .int .i64 (-p)) :: ks) O V P ops Qn t) (ho : ops[i]? = some ⟨some d, .unOp .neg X x, T, pos, after, gd⟩ := by rfl) (hg : Gd ks ops gd := by first | exact trivial | exact ⟨_, _, rfl, rfl, rfl⟩) (hx : ev ks x = some (.int .i64 p) := by rfl) (hf : Fit (-p) := by first | assumption | exact Fit.of (by omega) (by omega)) (hn : d < n := by decide) : AtT cx n ks O V P ops Qn (.q i t) := AtT.neg ho hg hx hn hf next
theorem AtT.knot {b : Bool} (next : AtT cx n ((d, .bool (!b)) :: ks) O V P ops Qn t) (ho : ops[i]? = some ⟨some d, .unOp .not X x, T, pos, after, gd⟩ := by rfl) (hg : Gd ks ops gd := by first | exact trivial | exact ⟨_, _, rfl, rfl, rfl⟩) (hx : ev ks x = some (.bool b) := by rfl) (hn : d < n := by decide) : AtT cx n ks O V P ops Qn (.q i t) := AtT.not ho hg hx hn next
theorem AtT.kconv {src : TypeId} {k' : IntKind} (hs : (P.underlying src).isSome = true) (hX : P.underlying X = some (.int k)) (next : AtT cx n ((d, .int k (k.wrap p)) :: ks) O V P ops Qn t) (ho : ops[i]? = some ⟨some d, .convert src X x, T, pos, after, gd⟩ := by rfl) (hg : Gd ks ops gd := by first | exact trivial | exact ⟨_, _, rfl, rfl, rfl⟩) (hx : ev ks x = some (.int k' p) := by rfl) (hn : d < n := by decide) : AtT cx n ks O V P ops Qn (.q i t) := AtT.conv ho hg hs hX hx hn next
theorem AtT.kmax2  (next : AtT cx n ((d, .int k (max p q)) :: ks) O V P ops Qn t) (ho : ops[i]? = some ⟨some d, .call ⟨.builtin .max, #[x, y], #[X, Y]⟩, T, pos, after, gd⟩ := by rfl) (hg : Gd ks ops gd := by first | exact trivial | exact ⟨_, _, rfl, rfl, rfl⟩) (hx : ev ks x = some (.int k p) := by rfl) (hy : ev ks y = some (.int k q) := by rfl) (hn : d < n := by decide) : AtT cx n ks O V P ops Qn (.q i t) := AtT.max2 ho hg hx hy hn next
theorem AtT.kmin2  (next : AtT cx n ((d, .int k (min p q)) :: ks) O V P ops Qn t) (ho : ops[i]? = some ⟨some d, .call ⟨.builtin .min, #[x, y], #[X, Y]⟩, T, pos, after, gd⟩ := by rfl) (hg : Gd ks ops gd := by first | exact trivial | exact ⟨_, _, rfl, rfl, rfl⟩) (hx : ev ks x = some (.int k p) := by rfl) (hy : ev ks y = some (.int k q) := by rfl) (hn : d < n := by decide) : AtT cx n ks O V P ops Qn (.q i t) := AtT.min2 ho hg hx hy hn next
theorem AtT.kload {X : TypeId} {p : Addr} {s : Nat} (hT : tkB P X = some (false, s)) (next : AtT cx n ((d, v) :: ks) O V P ops Qn t) (ho : ops[i]? = some ⟨some d, .load X x, T, pos, after, gd⟩ := by rfl) (hg : Gd ks ops gd := by first | exact trivial | exact ⟨_, _, rfl, rfl, rfl⟩) (hx : ev ks x = some (.pointer (some p)) := by rfl) (hc : vcell V p = some v := by first | exact vcell_of (by assumption) (by rfl) | exact vcell_of0 (by assumption) (by rfl) | exact vcell_of (Cells.le (by assumption) (by assumption)) (by rfl) | exact vcell_of0 (Cells.le (by assumption) (by assumption)) (by rfl)) (hn : d < n := by decide) : AtT cx n ks O V P ops Qn (.q i t) := AtT.load ho hg hx hT hc hn next
theorem AtT.kloadA {X : TypeId} {p : Addr} {us : List Value} {m : Nat} (hT : tkB P X = some (true, m)) (next : AtT cx n ((d, .agg us.toArray) :: ks) O V P ops Qn t) (ho : ops[i]? = some ⟨some d, .load X x, T, pos, after, gd⟩ := by rfl) (hg : Gd ks ops gd := by first | exact trivial | exact ⟨_, _, rfl, rfl, rfl⟩) (hx : ev ks x = some (.pointer (some p)) := by rfl) (hc : Cells V p us := by first | assumption | exact Cells.le (by assumption) (by assumption)) (hl : us.length = m := by rfl) (hn : d < n := by decide) : AtT cx n ks O V P ops Qn (.q i t) := AtT.loadA ho hg hx hT hc hl hn next
theorem AtT.kloadO {X : TypeId} {b off : Nat} {cs : List Value} {E : TypeId} {fr : Nat × Nat} {s : Nat} (hT : tkB P X = some (false, s)) (next : AtT cx n ((d, v) :: ks) O V P ops Qn t) (ho : ops[i]? = some ⟨some d, .load X x, T, pos, after, gd⟩ := by rfl) (hg : Gd ks ops gd := by first | exact trivial | exact ⟨_, _, rfl, rfl, rfl⟩) (hx : ev ks x = some (.pointer (some ⟨b, off, none⟩)) := by rfl) (hp : Pick (.blk b (LC cs E fr)) O R := by repeat (first | exact Pick.here | apply Pick.there)) (hc : cs[off]? = some v := by rfl) (hn : d < n := by decide) : AtT cx n ks O V P ops Qn (.q i t) := AtT.loadO ho hg hx hT hp hc hn next
theorem AtT.kloadOA {X : TypeId} {b : Nat} {cs : List Value} {E : TypeId} {fr : Nat × Nat} {m : Nat} (hT : tkB P X = some (true, m)) (next : AtT cx n ((d, .agg cs.toArray) :: ks) O V P ops Qn t) (ho : ops[i]? = some ⟨some d, .load X x, T, pos, after, gd⟩ := by rfl) (hg : Gd ks ops gd := by first | exact trivial | exact ⟨_, _, rfl, rfl, rfl⟩) (hx : ev ks x = some (.pointer (some ⟨b, 0, none⟩)) := by rfl) (hp : Pick (.blk b (LC cs E fr)) O R := by repeat (first | exact Pick.here | apply Pick.there)) (hl : cs.length = m := by rfl) (hn : d < n := by decide) : AtT cx n ks O V P ops Qn (.q i t) := AtT.loadOA ho hg hx hT hp hl hn next
theorem AtT.kloadOP {X : TypeId} {b off : Nat} {cs us : List Value} {E : TypeId} {fr : Nat × Nat} {m : Nat} (hT : tkB P X = some (true, m)) (next : AtT cx n ((d, .agg us.toArray) :: ks) O V P ops Qn t) (ho : ops[i]? = some ⟨some d, .load X x, T, pos, after, gd⟩ := by rfl) (hg : Gd ks ops gd := by first | exact trivial | exact ⟨_, _, rfl, rfl, rfl⟩) (hx : ev ks x = some (.pointer (some ⟨b, off, none⟩)) := by rfl) (hp : Pick (.blk b (LC cs E fr)) O R := by repeat (first | exact Pick.here | apply Pick.there)) (hu : (cs.drop off).take m = us := by rfl) (hl : us.length = m := by rfl) (hn : d < n := by decide) : AtT cx n ks O V P ops Qn (.q i t) := AtT.loadOP ho hg hx hT hp hu hl hn next
theorem AtT.kfield {S f : Nat} {p : Addr} {k : Nat} (hf : foB P S f = some k) (next : AtT cx n ((d, .pointer (some (p.add k))) :: ks) O V P ops Qn t) (ho : ops[i]? = some ⟨some d, .fieldAddr S x f, T, pos, after, gd⟩ := by rfl) (hg : Gd ks ops gd := by first | exact trivial | exact ⟨_, _, rfl, rfl, rfl⟩) (hx : ev ks x = some (.pointer (some p)) := by rfl) (hn : d < n := by decide) : AtT cx n ks O V P ops Qn (.q i t) := AtT.field ho hg hx hf hn next
theorem AtT.kfield2 {S f : Nat} {p : Addr} {j k : Nat} (hf : foB P S f = some k) (next : AtT cx n ((d, .pointer (some (p.add (j + k)))) :: ks) O V P ops Qn t) (ho : ops[i]? = some ⟨some d, .fieldAddr S x f, T, pos, after, gd⟩ := by rfl) (hg : Gd ks ops gd := by first | exact trivial | exact ⟨_, _, rfl, rfl, rfl⟩) (hx : ev ks x = some (.pointer (some (p.add j))) := by rfl) (hn : d < n := by decide) : AtT cx n ks O V P ops Qn (.q i t) := AtT.field2 ho hg hx hf hn next
theorem AtT.kfieldO {S f : Nat} {b off : Nat} {k : Nat} (hf : foB P S f = some k) (next : AtT cx n ((d, .pointer (some ⟨b, off + k, none⟩)) :: ks) O V P ops Qn t) (ho : ops[i]? = some ⟨some d, .fieldAddr S x f, T, pos, after, gd⟩ := by rfl) (hg : Gd ks ops gd := by first | exact trivial | exact ⟨_, _, rfl, rfl, rfl⟩) (hx : ev ks x = some (.pointer (some ⟨b, off, none⟩)) := by rfl) (hn : d < n := by decide) : AtT cx n ks O V P ops Qn (.q i t) := AtT.fieldO ho hg hx hf hn next
theorem AtT.knil {p : Addr} (next : AtT cx n ((d, .pointer (some p)) :: ks) O V P ops Qn t) (ho : ops[i]? = some ⟨some d, .nilCheck x, T, pos, after, gd⟩ := by rfl) (hg : Gd ks ops gd := by first | exact trivial | exact ⟨_, _, rfl, rfl, rfl⟩) (hx : ev ks x = some (.pointer (some p)) := by rfl) (hn : d < n := by decide) : AtT cx n ks O V P ops Qn (.q i t) := AtT.nil ho hg hx hn next
theorem AtT.kidx {α : Type} {X E : TypeId} {enc : α → List Value} {s : Nat} {l : List α} {k : IntKind} {j : Int} {ag : Bool} (hX : P.underlying X = some (.slice E)) (hE : tkB P E = some (ag, s)) (next : ∀ (p : Addr) (e : α), l[j.toNat]? = some e → Cells V p (enc e) → AtT cx n ((d, .pointer (some p)) :: ks) O V P ops Qn t) (ho : ops[i]? = some ⟨some d, .indexAddr X x y, T, pos, after, gd⟩ := by rfl) (hg : Gd ks ops gd := by first | exact trivial | exact ⟨_, _, rfl, rfl, rfl⟩) (hx : ev ks x = some v := by rfl) (hy : ev ks y = some (.int k j) := by rfl) (hl : Sl V enc s v l := by first | assumption | exact Sl.le (by assumption) (by assumption)) (h0 : 0 ≤ j := by omega) (h1 : j < l.length := by omega) (hn : d < n := by decide) : AtT cx n ks O V P ops Qn (.q i t) := AtT.idx ho hg hX hE hx hl hy h0 h1 hn next
theorem AtT.kidxA {X E : TypeId} {len s : Nat} {k : IntKind} {j : Int} {b off : Nat} {ag : Bool} (hX : P.underlying X = some (.array len E)) (hE : tkB P E = some (ag, s)) (next : AtT cx n ((d, .pointer (some ⟨b, off + j.toNat * s, none⟩)) :: ks) O V P ops Qn t) (ho : ops[i]? = some ⟨some d, .indexAddr X x y, T, pos, after, gd⟩ := by rfl) (hg : Gd ks ops gd := by first | exact trivial | exact ⟨_, _, rfl, rfl, rfl⟩) (hx : ev ks x = some (.pointer (some ⟨b, off, none⟩)) := by rfl) (hy : ev ks y = some (.int k j) := by rfl) (h0 : 0 ≤ j := by omega) (h1 : j < len := by omega) (hn : d < n := by decide) : AtT cx n ks O V P ops Qn (.q i t) := AtT.idxA ho hg hX hE hx hy h0 h1 hn next
theorem AtT.kidxO {X E : TypeId} {len cap s : Nat} {k : IntKind} {j : Int} {b off : Nat} {ag : Bool} (hX : P.underlying X = some (.slice E)) (hE : tkB P E = some (ag, s)) (next : AtT cx n ((d, .pointer (some ⟨b, off + j.toNat * s, none⟩)) :: ks) O V P ops Qn t) (ho : ops[i]? = some ⟨some d, .indexAddr X x y, T, pos, after, gd⟩ := by rfl) (hg : Gd ks ops gd := by first | exact trivial | exact ⟨_, _, rfl, rfl, rfl⟩) (hx : ev ks x = some (.slice (some ⟨b, off, none⟩) len cap) := by rfl) (hy : ev ks y = some (.int k j) := by rfl) (h0 : 0 ≤ j := by omega) (h1 : j < len := by omega) (hn : d < n := by decide) : AtT cx n ks O V P ops Qn (.q i t) := AtT.idxO ho hg hX hE hx hy h0 h1 hn next
theorem AtT.klenS {α : Type} {X E : TypeId} {enc : α → List Value} {s : Nat} {l : List α} (hX : P.underlying X = some (.slice E)) (next : AtT cx n ((d, .int .i64 l.length) :: ks) O V P ops Qn t) (ho : ops[i]? = some ⟨some d, .call ⟨.builtin .len, #[x], #[X]⟩, T, pos, after, gd⟩ := by rfl) (hg : Gd ks ops gd := by first | exact trivial | exact ⟨_, _, rfl, rfl, rfl⟩) (hx : ev ks x = some v := by rfl) (hl : Sl V enc s v l := by first | assumption | exact Sl.le (by assumption) (by assumption)) (hn : d < n := by decide) : AtT cx n ks O V P ops Qn (.q i t) := AtT.lenS ho hg hX hx hl hn next
theorem AtT.klenR {X E : TypeId} {a : Option Addr} {m cap : Nat} (hX : P.underlying X = some (.slice E)) (next : AtT cx n ((d, .int .i64 m) :: ks) O V P ops Qn t) (ho : ops[i]? = some ⟨some d, .call ⟨.builtin .len, #[x], #[X]⟩, T, pos, after, gd⟩ := by rfl) (hg : Gd ks ops gd := by first | exact trivial | exact ⟨_, _, rfl, rfl, rfl⟩) (hx : ev ks x = some (.slice a m cap) := by rfl) (hn : d < n := by decide) : AtT cx n ks O V P ops Qn (.q i t) := AtT.lenR ho hg hX hx hn next
theorem AtT.kalloc {E : TypeId} {z : Value} {cs : List Value} (hz : zeroB P E = some z) (next : ∀ b, AtT cx n ((d, .pointer (some ⟨b, 0, none⟩)) :: ks) (.blk b (LC cs E) :: O) V P ops Qn t) (ho : ops[i]? = some ⟨some d, .alloc E, T, pos, after, gd⟩ := by rfl) (hg : Gd ks ops gd := by first | exact trivial | exact ⟨_, _, rfl, rfl, rfl⟩) (hc : z.cells = cs.toArray := by rfl) (hn : d < n := by decide) : AtT cx n ks O V P ops Qn (.n wr i t) := AtT.alloc ho hg hz hc hn next
theorem AtT.kbox {E : TypeId} {cs : List Value} (next : ∀ b, AtT cx n ((d, .pointer (some ⟨b, 0, none⟩)) :: ks) (.blk b (LC cs E) :: O) V P ops Qn t) (ho : ops[i]? = some ⟨some d, .box E x, T, pos, after, gd⟩ := by rfl) (hg : Gd ks ops gd := by first | exact trivial | exact ⟨_, _, rfl, rfl, rfl⟩) (hx : ev ks x = some v := by rfl) (hc : v.cells = cs.toArray := by rfl) (hn : d < n := by decide) : AtT cx n ks O V P ops Qn (.n wr i t) := AtT.box ho hg hx hc hn next
theorem AtT.kbuild {X : TypeId} {ps : List (Nat × Operand)} {vs : List (Nat × Value)} (hr : ∀ w, (Instr.build X vs.toArray).run P w = .ok v w) (next : AtT cx n ((d, v) :: ks) O V P ops Qn t) (ho : ops[i]? = some ⟨some d, .build X ps.toArray, T, pos, after, gd⟩ := by rfl) (hg : Gd ks ops gd := by first | exact trivial | exact ⟨_, _, rfl, rfl, rfl⟩) (hp : evp ks ps = some vs := by rfl) (hn : d < n := by decide) : AtT cx n ks O V P ops Qn (.q i t) := AtT.build ho hg hp hr hn next
theorem AtT.kbslice {X E : TypeId} {m : Nat} {cs : List Value} {ps : List (Nat × Operand)} {vs : List (Nat × Value)} (hr : ∀ w, (Instr.buildSlice X m vs.toArray).run P w = .ok (.slice (some ⟨w.heap.size, 0, none⟩) m m) (w.alloc (LC cs E))) (next : ∀ b, AtT cx n ((d, .slice (some ⟨b, 0, none⟩) m m) :: ks) (.blk b (LC cs E) :: O) V P ops Qn t) (ho : ops[i]? = some ⟨some d, .buildSlice X m ps.toArray, T, pos, after, gd⟩ := by rfl) (hg : Gd ks ops gd := by first | exact trivial | exact ⟨_, _, rfl, rfl, rfl⟩) (hp : evp ks ps = some vs := by rfl) (hn : d < n := by decide) : AtT cx n ks O V P ops Qn (.n wr i t) := AtT.bslice ho hg hp hr hn next
theorem AtT.kfn {f : Fn} {fs cs : List Operand} {us vs : List Value} (next : AtT cx n ((d, .func f us.toArray vs.toArray) :: ks) O V P ops Qn t) (ho : ops[i]? = some ⟨some d, .makeFunc f fs.toArray cs.toArray, T, pos, after, gd⟩ := by rfl) (hg : Gd ks ops gd := by first | exact trivial | exact ⟨_, _, rfl, rfl, rfl⟩) (hf : evs ks fs = some us := by rfl) (hc : evs ks cs = some vs := by rfl) (hn : d < n := by decide) : AtT cx n ks O V P ops Qn (.q i t) := AtT.fn ho hg hf hc hn next
theorem AtT.kstore1 {X E : TypeId} {b off : Nat} {cs cs' : List Value} (hT : tkB P X = some (false, 1)) (next : AtT cx n ks O' V P ops Qn t) (ho : ops[i]? = some ⟨none, .store X x y, T, pos, after, gd⟩ := by rfl) (hg : Gd ks ops gd := by first | exact trivial | exact ⟨_, _, rfl, rfl, rfl⟩) (hx : ev ks x = some (.pointer (some ⟨b, off, none⟩)) := by rfl) (hy : ev ks y = some v := by rfl) (hp : Upd (.blk b (LC cs E)) (.blk b (LC cs' E)) O O' := by repeat (first | exact Upd.here | apply Upd.there)) (hs : SetAt cs off v cs' := by repeat (first | exact SetAt.here | apply SetAt.there)) (hv : v.cells = [v].toArray := by rfl) (h1 : v.oneCell' = true := by rfl) : AtT cx n ks O V P ops Qn (.n true i t) := AtT.store1 ho hg hx hy hT hv h1 hp hs next
theorem AtT.kstoreA {X E : TypeId} {b : Nat} {cs us : List Value} {m : Nat} (hT : tkB P X = some (true, m)) (next : AtT cx n ks O' V P ops Qn t) (ho : ops[i]? = some ⟨none, .store X x y, T, pos, after, gd⟩ := by rfl) (hg : Gd ks ops gd := by first | exact trivial | exact ⟨_, _, rfl, rfl, rfl⟩) (hx : ev ks x = some (.pointer (some ⟨b, 0, none⟩)) := by rfl) (hy : ev ks y = some (.agg us.toArray) := by rfl) (hp : Upd (.blk b (LC cs E)) (.blk b (LC us E)) O O' := by repeat (first | exact Upd.here | apply Upd.there)) (hm' : us.length = m := by rfl) (hl : cs.length = m := by rfl) (h1 : us.all Value.oneCell' = true := by rfl) : AtT cx n ks O V P ops Qn (.n true i t) := AtT.storeA ho hg hx hy hT hm' hl h1 hp next
theorem AtT.kcall {f : FuncId} {args : List Operand} {ts : Array TypeId} {vs : List Value} {R : Value → View → Prop} (ho : ops[i]? = some ⟨some d, .call ⟨.value (.func f), args.toArray, ts⟩, T, pos, after, gd⟩) (ha : evs ks args = some vs) (hf : CallOk P f) (hc : Fnc P f vs V R) (next : ∀ v V', Le V V' → R v V' → AtT cx n ((d, v) :: ks) O V' P ops Qn t) (hg : Gd ks ops gd := by first | exact trivial | exact ⟨_, _, rfl, rfl, rfl⟩) (hn : d < n := by decide) : AtT cx n ks O V P ops Qn (.n wr i t) := AtT.call ho hg ha hf hn hc next
theorem AtT.kcallP {f : FuncId} {args : List Operand} {ts : Array TypeId} {vs : List Value} {R : Value → Prop} (ho : ops[i]? = some ⟨some d, .call ⟨.value (.func f), args.toArray, ts⟩, T, pos, after, gd⟩) (ha : evs ks args = some vs) (hf : CallOk P f) (hc : Fnc P f vs V (fun v _ => R v)) (next : ∀ v, R v → AtT cx n ((d, v) :: ks) O V P ops Qn t) (hg : Gd ks ops gd := by first | exact trivial | exact ⟨_, _, rfl, rfl, rfl⟩) (hn : d < n := by decide) : AtT cx n ks O V P ops Qn (.n wr i t) := AtT.callP ho hg ha hf hn hc next
theorem AtT.kcallV {c : Operand} {f : FuncId} {args : List Operand} {fs cs : List Value} {ts : Array TypeId} {vs : List Value} {R : Value → Prop} (ho : ops[i]? = some ⟨some d, .call ⟨.value c, args.toArray, ts⟩, T, pos, after, gd⟩) (hcv : ev ks c = some (.func (.func f) fs.toArray cs.toArray)) (ha : evs ks args = some vs) (hf : CallOk P f) (hc : Fnc P f (fs ++ vs ++ cs) V (fun v _ => R v)) (next : ∀ v, R v → AtT cx n ((d, v) :: ks) O V P ops Qn t) (hg : Gd ks ops gd := by first | exact trivial | exact ⟨_, _, rfl, rfl, rfl⟩) (hn : d < n := by decide) : AtT cx n ks O V P ops Qn (.n wr i t) := AtT.callV ho hg hcv ha hf hn hc next
theorem AtT.kcallO {f : FuncId} {args : List Operand} {ts : Array TypeId} {vs : List Value} {R : Value → Prop} (ho : ops[i]? = some ⟨some d, .call ⟨.value (.func f), args.toArray, ts⟩, T, pos, after, gd⟩) (ha : evs ks args = some vs) (hf : CallOk P f) (hc : Fnc P f vs (ovl V O) (fun v _ => R v)) (next : ∀ v, R v → AtT cx n ((d, v) :: ks) O V P ops Qn t) (hg : Gd ks ops gd := by first | exact trivial | exact ⟨_, _, rfl, rfl, rfl⟩) (hn : d < n := by decide) : AtT cx n ks O V P ops Qn (.n wr i t) := AtT.callO ho hg ha hf hn hc next
theorem AtT.kcallVO {c : Operand} {f : FuncId} {args : List Operand} {fs cs : List Value} {ts : Array TypeId} {vs : List Value} {R : Value → Prop} (ho : ops[i]? = some ⟨some d, .call ⟨.value c, args.toArray, ts⟩, T, pos, after, gd⟩) (hcv : ev ks c = some (.func (.func f) fs.toArray cs.toArray)) (ha : evs ks args = some vs) (hf : CallOk P f) (hc : Fnc P f (fs ++ vs ++ cs) (ovl V O) (fun v _ => R v)) (next : ∀ v, R v → AtT cx n ((d, v) :: ks) O V P ops Qn t) (hg : Gd ks ops gd := by first | exact trivial | exact ⟨_, _, rfl, rfl, rfl⟩) (hn : d < n := by decide) : AtT cx n ks O V P ops Qn (.n wr i t) := AtT.callVO ho hg hcv ha hf hn hc next
theorem AtT.kextract {us : List Value} {j : Nat} (next : AtT cx n ((d, v) :: ks) O V P ops Qn t) (ho : ops[i]? = some ⟨some d, .extract x j, T, pos, after, gd⟩ := by rfl) (hg : Gd ks ops gd := by first | exact trivial | exact ⟨_, _, rfl, rfl, rfl⟩) (hx : ev ks x = some (.tuple us.toArray) := by rfl) (hu : us[j]? = some v := by rfl) (hn : d < n := by decide) : AtT cx n ks O V P ops Qn (.q i t) := AtT.extract ho hg hx hu hn next
theorem AtT.kbsliceG {X E : TypeId} {m : Nat} {cs : List Value} {ps : List (Nat × Operand)} {vs : List (Nat × Value)} (hr : ∀ w, (Instr.buildSlice X m vs.toArray).run P w = .ok (.slice (some ⟨w.heap.size, 0, none⟩) m m) (w.alloc (LC cs E))) (next : ∀ q V', Le V V' → Cells V' q cs → AtT cx n ((d, .slice (some q) m m) :: ks) O V' P ops Qn t) (ho : ops[i]? = some ⟨some d, .buildSlice X m ps.toArray, T, pos, after, gd⟩ := by rfl) (hg : Gd ks ops gd := by first | exact trivial | exact ⟨_, _, rfl, rfl, rfl⟩) (hp : evp ks ps = some vs := by rfl) (hn : d < n := by decide) : AtT cx n ks O V P ops Qn (.n wr i t) := AtT.bsliceG ho hg hp hr hn next
theorem AtT.kappend {X E : TypeId} {z : Value} {s by_ m k c : Nat} {xs news : List Value} {q : Addr} (hX : P.underlying X = some (.slice E)) (hE : rowB P E = some (z, s, by_)) (next : ∀ a cap, AtT cx n ((d, .slice a (m + k) cap) :: ks) (.row (.slice a (m + k) cap) E s (m + k) (xs ++ news) :: R) V P ops Qn t) (ho : ops[i]? = some ⟨some d, .call ⟨.builtin .append, #[x, y], #[X, X]⟩, T, pos, after, gd⟩ := by rfl) (hg : Gd ks ops gd := by first | exact trivial | exact ⟨_, _, rfl, rfl, rfl⟩) (hx : ev ks x = some v := by rfl) (hy : ev ks y = some (.slice (some q) k c) := by rfl) (hp : Pick (.row v E s m xs) O R := by repeat (first | exact Pick.here | apply Pick.there)) (hc : Cells V q news := by first | assumption | exact Cells.le (by assumption) (by assumption)) (hzs : z.cells.size = s := by rfl) (hl : news.length = k * s := by rfl) (h1 : news.all Value.oneCell' = true := by rfl) (hb : m + k ≤ maxLen := by first | omega | (unfold maxLen; omega)) (hby : (m + k) * by_ ≤ 140737488355328 := by omega) (hs : 0 < s := by decide) (hn : d < n := by decide) : AtT cx n ks O V P ops Qn (.n true i t) := AtT.append ho hg hX hE hzs hs hx hy hp hc hl h1 hb hby hn next
theorem AtT.kclip {α : Type} {enc : α → List Value} {l : List α} {X E : TypeId} {s : Nat} {ag : Bool} {h : Int} {h' m' : Operand} {k k2 : IntKind} (hX : P.underlying X = some (.slice E)) (hE : tkB P E = some (ag, s)) (next : ∀ a, Sl V enc s (.slice a (l.take h.toNat).length (l.take h.toNat).length) (l.take h.toNat) → AtT cx n ((d, .slice a (l.take h.toNat).length (l.take h.toNat).length) :: ks) O V P ops Qn t) (ho : ops[i]? = some ⟨some d, .slice X x none (some h') (some m'), T, pos, after, gd⟩ := by rfl) (hg : Gd ks ops gd := by first | exact trivial | exact ⟨_, _, rfl, rfl, rfl⟩) (hx : ev ks x = some v := by rfl) (hh : ev ks h' = some (.int k h) := by rfl) (hm' : ev ks m' = some (.int k2 h) := by rfl) (hv : Sl V enc s v l := by first | assumption | exact Sl.le (by assumption) (by assumption)) (h0 : 0 ≤ h := by omega) (h1 : h ≤ l.length := by omega) (hn : d < n := by decide) : AtT cx n ks O V P ops Qn (.q i t) := AtT.clip ho hg hX hE hx hv hh hm' h0 h1 hn next
theorem AtT.kclipAll {α : Type} {enc : α → List Value} {l : List α} {X E : TypeId} {s : Nat} {ag : Bool} {h' m' : Operand} {k k2 : IntKind} (hX : P.underlying X = some (.slice E)) (hE : tkB P E = some (ag, s)) (next : ∀ a, Sl V enc s (.slice a l.length l.length) l → AtT cx n ((d, .slice a l.length l.length) :: ks) O V P ops Qn t) (ho : ops[i]? = some ⟨some d, .slice X x none (some h') (some m'), T, pos, after, gd⟩ := by rfl) (hg : Gd ks ops gd := by first | exact trivial | exact ⟨_, _, rfl, rfl, rfl⟩) (hx : ev ks x = some v := by rfl) (hh : ev ks h' = some (.int k (l.length : Int)) := by rfl) (hm' : ev ks m' = some (.int k2 (l.length : Int)) := by rfl) (hv : Sl V enc s v l := by first | assumption | exact Sl.le (by assumption) (by assumption)) (hn : d < n := by decide) : AtT cx n ks O V P ops Qn (.q i t) := AtT.clipAll ho hg hX hE hx hv hh hm' hn next
theorem AtT.ktail {α : Type} {enc : α → List Value} {l : List α} {X E : TypeId} {s : Nat} {ag : Bool} {lo : Int} {lo' : Operand} {k : IntKind} (hX : P.underlying X = some (.slice E)) (hE : tkB P E = some (ag, s)) (next : ∀ a cap, Sl V enc s (.slice a (l.drop lo.toNat).length cap) (l.drop lo.toNat) → AtT cx n ((d, .slice a (l.drop lo.toNat).length cap) :: ks) O V P ops Qn t) (ho : ops[i]? = some ⟨some d, .slice X x (some lo') none none, T, pos, after, gd⟩ := by rfl) (hg : Gd ks ops gd := by first | exact trivial | exact ⟨_, _, rfl, rfl, rfl⟩) (hx : ev ks x = some v := by rfl) (hh : ev ks lo' = some (.int k lo) := by rfl) (hv : Sl V enc s v l := by first | assumption | exact Sl.le (by assumption) (by assumption)) (h0 : 0 ≤ lo := by omega) (h1 : lo ≤ l.length := by omega) (hn : d < n := by decide) : AtT cx n ks O V P ops Qn (.q i t) := AtT.tail ho hg hX hE hx hv hh h0 h1 hn next
theorem AtT.khead {α : Type} {enc : α → List Value} {l : List α} {X E : TypeId} {s : Nat} {ag : Bool} {h : Int} {h' : Operand} {k : IntKind} (hX : P.underlying X = some (.slice E)) (hE : tkB P E = some (ag, s)) (next : ∀ a cap, Sl V enc s (.slice a (l.take h.toNat).length cap) (l.take h.toNat) → AtT cx n ((d, .slice a (l.take h.toNat).length cap) :: ks) O V P ops Qn t) (ho : ops[i]? = some ⟨some d, .slice X x none (some h') none, T, pos, after, gd⟩ := by rfl) (hg : Gd ks ops gd := by first | exact trivial | exact ⟨_, _, rfl, rfl, rfl⟩) (hx : ev ks x = some v := by rfl) (hh : ev ks h' = some (.int k h) := by rfl) (hv : Sl V enc s v l := by first | assumption | exact Sl.le (by assumption) (by assumption)) (h0 : 0 ≤ h := by omega) (h1 : h ≤ l.length := by omega) (hn : d < n := by decide) : AtT cx n ks O V P ops Qn (.q i t) := AtT.head ho hg hX hE hx hv hh h0 h1 hn next
theorem AtT.keqS {X Y : TypeId} {xs ys : List Value} {b : Bool} (h : EqS P X xs ys b) (next : AtT cx n ((d, .bool b) :: ks) O V P ops Qn t) (ho : ops[i]? = some ⟨some d, .binOp .eql X x y Y, T, pos, after, gd⟩ := by rfl) (hg : Gd ks ops gd := by first | exact trivial | exact ⟨_, _, rfl, rfl, rfl⟩) (hx : ev ks x = some (.agg xs.toArray) := by rfl) (hy : ev ks y = some (.agg ys.toArray) := by rfl) (hn : d < n := by decide) : AtT cx n ks O V P ops Qn (.q i t) := AtT.eqS ho hg hx hy h hn next
theorem AtT.kneS {X Y : TypeId} {xs ys : List Value} {b : Bool} (h : EqS P X xs ys b) (next : AtT cx n ((d, .bool (!b)) :: ks) O V P ops Qn t) (ho : ops[i]? = some ⟨some d, .binOp .neq X x y Y, T, pos, after, gd⟩ := by rfl) (hg : Gd ks ops gd := by first | exact trivial | exact ⟨_, _, rfl, rfl, rfl⟩) (hx : ev ks x = some (.agg xs.toArray) := by rfl) (hy : ev ks y = some (.agg ys.toArray) := by rfl) (hn : d < n := by decide) : AtT cx n ks O V P ops Qn (.q i t) := AtT.neS ho hg hx hy h hn next
theorem AtT.kfld {X : TypeId} {j : Nat} {us : List Value} {v : Value} (hr : ∀ w, (Instr.field X (.agg us.toArray) j).run P w = .ok v w) (next : AtT cx n ((d, v) :: ks) O V P ops Qn t) (ho : ops[i]? = some ⟨some d, .field X x j, T, pos, after, gd⟩ := by rfl) (hg : Gd ks ops gd := by first | exact trivial | exact ⟨_, _, rfl, rfl, rfl⟩) (hx : ev ks x = some (.agg us.toArray) := by rfl) (hn : d < n := by decide) : AtT cx n ks O V P ops Qn (.q i t) := AtT.fld ho hg hx hr hn next
theorem AtT.kcallL {f : FuncId} {args : List Operand} {ts : Array TypeId} {vs : List Value} {R : Value → Prop} (ho : ops[i]? = some ⟨some d, .call ⟨.value (.func f), args.toArray, ts⟩, T, pos, after, gd⟩) (ha : evs ks args = some vs) (hf : CallOk P f) (hc : ∀ V', Le V V' → (∀ b o, Own.blk b o ∈ O → V' b = some o) → Fnc P f vs V' (fun v _ => R v)) (next : ∀ v, R v → AtT cx n ((d, v) :: ks) O V P ops Qn t) (hg : Gd ks ops gd := by first | exact trivial | exact ⟨_, _, rfl, rfl, rfl⟩) (hn : d < n := by decide) : AtT cx n ks O V P ops Qn (.n wr i t) := AtT.callL ho hg ha hf hn hc next
theorem AtT.kcallVL {c : Operand} {f : FuncId} {args : List Operand} {fs cs : List Value} {ts : Array TypeId} {vs : List Value} {R : Value → Prop} (ho : ops[i]? = some ⟨some d, .call ⟨.value c, args.toArray, ts⟩, T, pos, after, gd⟩) (hcv : ev ks c = some (.func (.func f) fs.toArray cs.toArray)) (ha : evs ks args = some vs) (hf : CallOk P f) (hc : ∀ V', Le V V' → (∀ b o, Own.blk b o ∈ O → V' b = some o) → Fnc P f (fs ++ vs ++ cs) V' (fun v _ => R v)) (next : ∀ v, R v → AtT cx n ((d, v) :: ks) O V P ops Qn t) (hg : Gd ks ops gd := by first | exact trivial | exact ⟨_, _, rfl, rfl, rfl⟩) (hn : d < n := by decide) : AtT cx n ks O V P ops Qn (.n wr i t) := AtT.callVL ho hg hcv ha hf hn hc next
theorem AtT.kpass {o : Oper} {g : Nat} {want : Bool} {od : Oper} {gd : Nat} (next : AtT cx n ((d, undef) :: ks) O V P ops Qn t) (ho : ops[i]? = some o := by rfl) (hg : o.guard = some (g, want) := by rfl) (hog : ops[g]? = some od := by rfl) (hgd : od.dst = some gd := by rfl) (hgv : look ks gd = some (.bool (!want)) := by rfl) (hd : o.dst = some d := by rfl) (hn : d < n := by decide) : AtT cx n ks O V P ops Qn (.q i t) := AtT.pass ho hg hog hgd hgv hd hn next
theorem AtT.kpassN {o : Oper} {g : Nat} {want : Bool} {od : Oper} {gd : Nat} {wr : Bool} (next : AtT cx n ((d, undef) :: ks) O V P ops Qn t) (ho : ops[i]? = some o := by rfl) (hg : o.guard = some (g, want) := by rfl) (hog : ops[g]? = some od := by rfl) (hgd : od.dst = some gd := by rfl) (hgv : look ks gd = some (.bool (!want)) := by rfl) (hd : o.dst = some d := by rfl) (hn : d < n := by decide) : AtT cx n ks O V P ops Qn (.n wr i t) := AtT.passN ho hg hog hgd hgv hd hn next
theorem AtT.kpassU {o : Oper} {g : Nat} {want : Bool} {od : Oper} {gd : Nat} (next : AtT cx n ((d, undef) :: ks) O V P ops Qn t) (ho : ops[i]? = some o := by rfl) (hg : o.guard = some (g, want) := by rfl) (hog : ops[g]? = some od := by rfl) (hgd : od.dst = some gd := by rfl) (hgv : look ks gd = some undef := by rfl) (hd : o.dst = some d := by rfl) (hn : d < n := by decide) : AtT cx n ks O V P ops Qn (.q i t) := AtT.passU ho hg hog hgd hgv hd hn next
theorem AtT.kpassNU {o : Oper} {g : Nat} {want : Bool} {od : Oper} {gd : Nat} {wr : Bool} (next : AtT cx n ((d, undef) :: ks) O V P ops Qn t) (ho : ops[i]? = some o := by rfl) (hg : o.guard = some (g, want) := by rfl) (hog : ops[g]? = some od := by rfl) (hgd : od.dst = some gd := by rfl) (hgv : look ks gd = some undef := by rfl) (hd : o.dst = some d := by rfl) (hn : d < n := by decide) : AtT cx n ks O V P ops Qn (.n wr i t) := AtT.passNU ho hg hog hgd hgv hd hn next
theorem AtT.kL (d : Nat) (h : AtT cx n ks O V P ops Qn t) (hd : look ks d = some (.bool true) ∨ look ks d = some (.bool false) ∨ look ks d = some undef := by first | exact .inl rfl | exact .inr (.inl rfl) | exact .inr (.inr rfl)) : AtT cx n ks O V P ops Qn t := h
theorem AtC.kL (d : Nat) (h : AtC cx n ks O V O1 V1 P ops Qn t) (hd : look ks d = some (.bool true) ∨ look ks d = some (.bool false) ∨ look ks d = some undef := by first | exact .inl rfl | exact .inr (.inl rfl) | exact .inr (.inr rfl)) : AtC cx n ks O V O1 V1 P ops Qn t := h
theorem AtC.kq (h : AtT cx n ks O1 V1 P ops (fun a' _ => Kn cx n ((d, v) :: ks) a') (.q i .done)) (next : AtC cx n ((d, v) :: ks) O V O1 V1 P ops Qn t) (hp : Pt O1 O := by repeat (first | exact Pt.nil | refine Pt.cons (by repeat (first | exact Pick.here | apply Pick.there)) ?_)) (hl : Le V1 V := by first | exact Le.refl _ | assumption | exact Le.trans (by assumption) (by assumption)) (h0 : Le cx.V0 V1 := by assumption) : AtC cx n ks O V O1 V1 P ops Qn (.q i t) := AtC.q h (AtC.sub1 hp hl h0) next
theorem AtC.kgo {V' : View} (next : AtC cx n ks O' V' O1 V1 P ops Qn t) (hp : Pt O1 O' := by repeat (first | exact Pt.nil | refine Pt.cons (by repeat (first | exact Pick.here | apply Pick.there)) ?_)) (hl : Le V1 V' := by first | exact Le.refl _ | assumption | exact Le.trans (by assumption) (by assumption)) : AtT cx n ks O' V' P ops (fun a' w' => Le cx.V0 V1 → Mem cx O1 V1 w' ∧ wpT P ops Qn t (Mem cx O1 V1) a' w') .done := AtC.go hp hl next
theorem AtC.kidx {α : Type} {X E : TypeId} {enc : α → List Value} {s : Nat} {l : List α} {k : IntKind} {j : Int} {ag : Bool} (hX : P.underlying X = some (.slice E)) (hE : tkB P E = some (ag, s))
    (next : ∀ (p : Addr) (e : α), l[j.toNat]? = some e → Cells V1 p (enc e) → AtC cx n ((d, .pointer (some p)) :: ks) O V O1 V1 P ops Qn t) (ho : ops[i]? = some ⟨some d, .indexAddr X x y, T, pos, after, gd⟩ := by rfl) (hg : Gd ks ops gd := by first | exact trivial | exact ⟨_, _, rfl, rfl, rfl⟩)
    (hx : ev ks x = some v := by rfl) (hl : Sl V1 enc s v l := by first | assumption | exact Sl.le (by assumption) (by assumption)) (hy : ev ks y = some (.int k j) := by rfl) (h0 : 0 ≤ j := by omega) (h1 : j < l.length := by omega) (hn : d < n := by decide) (hp : Pt O1 O := by repeat (first | exact Pt.nil | refine Pt.cons (by repeat (first | exact Pick.here | apply Pick.there)) ?_)) (hv : Le V1 V := by first | exact Le.refl _ | assumption | exact Le.trans (by assumption) (by assumption)) (hv0 : Le cx.V0 V1 := by assumption) : AtC cx n ks O V O1 V1 P ops Qn (.q i t) := AtC.idx ho hg hX hE hx hl hy h0 h1 hn (AtC.sub1 hp hv hv0) next
theorem At.ktext {ops : Array Oper} (t : Tr) (h : AtT cx n ks O V P ops (Q .normal) t) (hc : t.okText ops = true := by kernel_rfl) : At cx n ks O V ((Code.region id ops false).wpIn (FW ro) 0 P Q) := At.text t hc h
theorem Pt.auto {l O : List Own} (h : Pt l O := by repeat (first | exact Pt.nil | refine Pt.cons (by repeat (first | exact Pick.here | apply Pick.there)) ?_)) : Pt l O := h
theorem Pick.auto {x : Own} {O R : List Own} (h : Pick x O R := by repeat (first | exact Pick.here | apply Pick.there)) : Pick x O R := h
theorem Res.ka {p : Tmp} {b : Nat} {cs : List Value} {E : TypeId} {fr : Nat × Nat} {m : Nat} (hT : tkB P T = some (true, m)) (h : look ks p = some (.pointer (some ⟨b, 0, none⟩)) := by rfl) (hp : Pick (.blk b (LC cs E fr)) O R := by repeat (first | exact Pick.here | apply Pick.there)) (hl : cs.length = m := by rfl) : Res P ks O V (.cell p T) (.agg cs.toArray) := .agg h hT hp hl
end
end Go.Lw
set_option linter.unusedVariables false
namespace Go.Lw
open Go.RowKit
section
variable {cx : Cx} {n : Nat} {ks : List (Nat × Value)} {O : List Own} {V : View} {P : Program} {ops : Array Oper} {Qn : Act → World → Prop} {t : Tr} {i d : Nat} {T X Y : TypeId} {pos : String} {after : Array Edge} {gd : Option (Nat × Bool)} {x y : Operand}
theorem AtT.neB {a b : Bool} (ho : ops[i]? = some ⟨some d, .binOp .neq X x y Y, T, pos, after, gd⟩) (hg : Gd ks ops gd) (hT : P.underlying X = some .bool) (hx : ev ks x = some (.bool a)) (hy : ev ks y = some (.bool b)) (hn : d < n)
    (next : AtT cx n ((d, .bool (!(a == b))) :: ks) O V P ops Qn t) : AtT cx n ks O V P ops Qn (.q i t) :=
  .q ho hg rfl hn (fun a w hk _ => by simp [execOp, hk.ev hx, hk.ev hy, eqGuard_at_bool, run_neq_bool _ _ _ _ hT]) next
theorem AtT.kLT (d : Nat) (h : AtT cx n ((d, .bool true) :: ks) O V P ops Qn t) (hd : look ks d = some (.bool true) := by rfl) : AtT cx n ks O V P ops Qn t := AtT.setB hd rfl h
theorem AtT.kLF (d : Nat) (h : AtT cx n ((d, .bool false) :: ks) O V P ops Qn t) (hd : look ks d = some (.bool false) := by rfl) : AtT cx n ks O V P ops Qn t := AtT.setB hd rfl h
theorem AtC.kLT {O1 : List Own} {V1 : View} (d : Nat) (h : AtC cx n ((d, .bool true) :: ks) O V O1 V1 P ops Qn t) (hd : look ks d = some (.bool true) := by rfl) : AtC cx n ks O V O1 V1 P ops Qn t := AtC.setB hd rfl h
theorem AtC.kLF {O1 : List Own} {V1 : View} (d : Nat) (h : AtC cx n ((d, .bool false) :: ks) O V O1 V1 P ops Qn t) (hd : look ks d = some (.bool false) := by rfl) : AtC cx n ks O V O1 V1 P ops Qn t := AtC.setB hd rfl h
theorem AtT.kpickT {c : Operand} {u v : Value} (next : AtT cx n ((d, u) :: ks) O V P ops Qn t) (ho : ops[i]? = some ⟨some d, .pick c x y, T, pos, after, gd⟩ := by rfl) (hg : Gd ks ops gd := by first | exact trivial | exact ⟨_, _, rfl, rfl, rfl⟩) (hc : ev ks c = some (.bool true) := by rfl) (hx : ev ks x = some u := by rfl) (hy : ev ks y = some v := by rfl) (hn : d < n := by decide) : AtT cx n ks O V P ops Qn (.q i t) := AtT.pick ho hg hc hx hy hn next
theorem AtT.kpickF {c : Operand} {u v : Value} (next : AtT cx n ((d, v) :: ks) O V P ops Qn t) (ho : ops[i]? = some ⟨some d, .pick c x y, T, pos, after, gd⟩ := by rfl) (hg : Gd ks ops gd := by first | exact trivial | exact ⟨_, _, rfl, rfl, rfl⟩) (hc : ev ks c = some (.bool false) := by rfl) (hx : ev ks x = some u := by rfl) (hy : ev ks y = some v := by rfl) (hn : d < n := by decide) : AtT cx n ks O V P ops Qn (.q i t) := AtT.pick ho hg hc hx hy hn next
/-- From an operation on that waits for all that was looked at ahead of it. -/
theorem AtC.toT {O1 : List Own} {V1 : View} (h : AtT cx n ks O V P ops Qn (.n true i t)) : AtC cx n ks O V O1 V1 P ops Qn (.n true i t) := fun h0 a w hk hm => by
  obtain ⟨o, ho, hs⟩ := h a w hk hm
  exact ⟨o, ho, stW_mono (fun a' w' ⟨S', _, h2, h3⟩ => ⟨S', (fun h => by cases h), h2, h3⟩) hs⟩
theorem AtT.max3 {z : Operand} {X Y Z : TypeId} {k : IntKind} {p q r : Int} (ho : ops[i]? = some ⟨some d, .call ⟨.builtin .max, #[x, y, z], #[X, Y, Z]⟩, T, pos, after, gd⟩) (hg : Gd ks ops gd) (hx : ev ks x = some (.int k p)) (hy : ev ks y = some (.int k q)) (hz : ev ks z = some (.int k r)) (hn : d < n)
    (next : AtT cx n ((d, .int k (max (max p q) r)) :: ks) O V P ops Qn t) : AtT cx n ks O V P ops Qn (.q i t) :=
  .q ho hg rfl hn (fun a w hk _ => by
    have e : (if q > p then q else p) = max p q := by split <;> omega
    have e2 : (if r > max p q then r else max p q) = max (max p q) r := by split <;> omega
    simp [execOp, resolve, invoke, builtin, hk.ev hx, hk.ev hy, hk.ev hz, Builtin.max_, Builtin.max2, e, e2]) next
end
end Go.Lw
set_option linter.unusedVariables false
namespace Go.Lw
open Go.RowKit

/-- A set of numbers as a number. -/
def bitsOf : List Nat → Nat
  | [] => 0
  | i :: l => bitsOf l ||| 2 ^ i
theorem bits_test : ∀ (l : List Nat) (j : Nat), (bitsOf l).testBit j = l.contains j
  | [], j => by simp [bitsOf]
  | i :: l, j => by
    simp only [bitsOf, Nat.testBit_or, bits_test l j, Nat.testBit_two_pow, List.contains_cons]
    rw [Bool.or_comm]
    congr 1
    by_cases h : i = j
    · subst h; simp
    · have h' : ¬ j = i := fun e => h e.symm
      simp [h, h']
theorem bits_sub (l : List Nat) (m : Nat) : (bitsOf l &&& m == bitsOf l) = true ↔ ∀ i ∈ l, m.testBit i = true := by
  rw [beq_iff_eq]
  constructor
  · intro h i hi
    have := congrArg (·.testBit i) h
    simp only [Nat.testBit_and, bits_test] at this
    have hc : l.contains i = true := by simpa using hi
    rw [hc] at this
    simpa using this
  · intro h
    apply Nat.eq_of_testBit_eq
    intro i
    rw [Nat.testBit_and, bits_test]
    cases hc : l.contains i with
    | false => rfl
    | true => rw [h i (by simpa using hc)]; rfl
theorem bits_apart (l k : List Nat) (h : (bitsOf l &&& bitsOf k == 0) = true) : ∀ i ∈ k, i ∉ l := by
  rw [beq_iff_eq] at h
  intro i hk hl
  have := congrArg (·.testBit i) h
  simp only [Nat.testBit_and, bits_test, Nat.zero_testBit] at this
  have h1 : l.contains i = true := by simpa using hl
  have h2 : k.contains i = true := by simpa using hk
  rw [h1, h2] at this
  cases this

abbrev Row3 := Nat × Nat × Nat
def onsOf (o : Oper) : List Nat := (o.after.toList.filter (Region.binds .any)).map (·.on)
def rowOf (ops : Array Oper) (o : Oper) : Row3 := (bitsOf (onsOf o), bitsOf (o.looksAt ops), bitsOf o.dst.toList)
def rowsOf (ops : Array Oper) : List Row3 := ops.toList.map (rowOf ops)

structure Rl (ops : Array Oper) (m : Nat) (listed : Array Bool) : Prop where
  size : listed.size = ops.size
  bit : ∀ j, listed.getD j false = m.testBit j

def rdL (m : Nat) : List Row3 → Nat → List Nat
  | [], _ => []
  | r :: l, k => bif !m.testBit k && (r.1 &&& m == r.1) then k :: rdL m l (k + 1) else rdL m l (k + 1)
def rdB (m : Nat) (l : List Row3) (k i : Nat) : Bool := !m.testBit i && (match l[i - k]? with | some r => r.1 &&& m == r.1 | none => false)
theorem rdL_eq (m : Nat) : ∀ (l : List Row3) (k : Nat), rdL m l k = (List.range' k l.length).filter (rdB m l k)
  | [], k => rfl
  | r :: l, k => by
    have ih := rdL_eq m l (k + 1)
    have e : (List.range' (k + 1) l.length).filter (rdB m (r :: l) k) = (List.range' (k + 1) l.length).filter (rdB m l (k + 1)) := by
      apply List.filter_congr
      intro i hi
      have : k + 1 ≤ i := by have := List.mem_range'_1.1 hi; omega
      simp only [rdB]
      congr 1
      have e2 : i - k = (i - (k + 1)) + 1 := by omega
      rw [e2, List.getElem?_cons_succ]
    simp only [List.length_cons, List.range'_succ, List.filter_cons, rdL, e, ← ih]
    have e0 : rdB m (r :: l) k k = (!m.testBit k && (r.1 &&& m == r.1)) := by simp [rdB]
    rw [e0]
    cases (!m.testBit k && (r.1 &&& m == r.1)) <;> rfl

section
variable {ops : Array Oper} {m : Nat} {listed : Array Bool}
theorem Rl.t (h : Rl ops m listed) {j : Nat} (hj : j < ops.size) : listed.getD j true = m.testBit j := by
  have := h.bit j
  have hj' : j < listed.size := by rw [h.size]; exact hj
  simp [hj'] at this ⊢
  exact this
theorem rows_at (j : Nat) : (rowsOf ops)[j]? = ops[j]?.map (rowOf ops) := by simp [rowsOf]
theorem ready_fast (h : Rl ops m listed) : rdL m (rowsOf ops) 0 = Region.ready .any ops listed := by
  rw [rdL_eq]
  have hlen : (rowsOf ops).length = ops.size := by simp [rowsOf]
  rw [hlen, ← List.range_eq_range']
  unfold Region.ready
  apply List.filter_congr
  intro j hj
  have hj' : j < ops.size := by simpa using hj
  simp only [rdB, Nat.sub_zero, rows_at]
  rw [h.t hj', Array.getElem?_eq_getElem hj']
  congr 1
  simp only [Option.map_some, Option.getD_some, rowOf]
  rw [Bool.eq_iff_iff, bits_sub, Array.all_eq_true_iff_forall_mem]
  constructor
  · intro hh e he
    cases hb : Region.binds .any e with
    | false => rfl
    | true =>
      have := hh e.on (by
        simp only [onsOf, List.mem_map, List.mem_filter]
        exact ⟨e, ⟨by simpa using he, hb⟩, rfl⟩)
      simp only [Bool.not_true, Bool.false_or]
      rw [h.bit]; exact this
  · intro hh i hi
    simp only [onsOf, List.mem_map, List.mem_filter] at hi
    obtain ⟨e, ⟨he, hb⟩, rfl⟩ := hi
    have := hh e (by simpa using he)
    rw [hb] at this
    simp only [Bool.not_true, Bool.false_or] at this
    rw [← h.bit]; exact this

def freeL (m i : Nat) (ri : Row3) : List Row3 → Nat → Bool
  | [], _ => true
  | r :: l, j => (j == i || m.testBit j || r.1.testBit i || (r.2.1 &&& ri.2.2 == 0 && r.2.2 &&& ri.2.2 == 0 && ri.2.1 &&& r.2.2 == 0)) && freeL m i ri l (j + 1)
theorem freeL_at (m i : Nat) (ri : Row3) : ∀ (l : List Row3) (k : Nat), freeL m i ri l k = true → ∀ j r, l[j]? = some r → ((k + j) == i || m.testBit (k + j) || r.1.testBit i || (r.2.1 &&& ri.2.2 == 0 && r.2.2 &&& ri.2.2 == 0 && ri.2.1 &&& r.2.2 == 0)) = true
  | [], k, _, j, r, h => by simp at h
  | s :: l, k, hf, j, r, h => by
    simp only [freeL, Bool.and_eq_true] at hf
    cases j with
    | zero => simp at h; subst h; simpa using hf.1
    | succ j =>
      simp only [List.getElem?_cons_succ] at h
      have := freeL_at m i ri l (k + 1) hf.2 j r h
      have e : k + 1 + j = k + (j + 1) := by omega
      rwa [e] at this
def freeF (rows : List Row3) (m i : Nat) : Bool := match rows[i]? with | none => false | some ri => freeL m i ri rows 0
theorem free_fast (h : Rl ops m listed) {i : Nat} (hf : freeF (rowsOf ops) m i = true) : Region.free .any ops listed i = true := by
  unfold freeF at hf
  rw [rows_at] at hf
  unfold Region.free
  cases ho : ops[i]? with
  | none => rw [ho] at hf; cases hf
  | some oi =>
    rw [ho] at hf
    simp only [Option.map_some] at hf
    simp only [List.all_eq_true, List.mem_range]
    intro j hj
    have hoj : ops[j]? = some ops[j] := Array.getElem?_eq_getElem hj
    have hr : (rowsOf ops)[j]? = some (rowOf ops ops[j]) := by rw [rows_at, hoj]; rfl
    have key := freeL_at m i _ _ 0 hf j _ hr
    simp only [Nat.zero_add] at key
    rw [h.t hj, hoj]
    simp only [Bool.or_eq_true] at key ⊢
    rcases key with ((k1 | k1) | k1) | k1
    · exact .inl (.inl k1)
    · exact .inl (.inr k1)
    · refine .inr (.inl ?_)
      simp only [rowOf, bits_test] at k1
      have hm : i ∈ onsOf ops[j] := by simpa using k1
      simp only [onsOf, List.mem_map, List.mem_filter] at hm
      obtain ⟨e, ⟨he, hb⟩, rfl⟩ := hm
      exact Array.any_eq_true'.2 ⟨e, by simpa using he, by simp [hb]⟩
    · refine .inr (.inr ?_)
      simp only [Bool.and_eq_true] at k1
      obtain ⟨⟨k1, k2⟩, k3⟩ := k1
      have a1 := bits_apart _ _ k1
      have a2 := bits_apart _ _ k2
      have a3 := bits_apart _ _ k3
      unfold Oper.apart
      simp only [Bool.and_eq_true]
      constructor
      · cases hd : oi.dst with
        | none => rfl
        | some d =>
          have n1 := a1 d (by simp [hd])
          have n2 := a2 d (by simp [hd])
          simp only [Bool.and_eq_true, Bool.not_eq_true', bne_iff_ne, ne_eq]
          refine ⟨by simpa using n1, fun e => n2 (by simp [e])⟩
      · cases hd : ops[j].dst with
        | none => rfl
        | some d =>
          have n3 := a3 d (by simp [hd])
          simpa using n3

/-- What each waits for, straight or through others. -/
def waitW : List Row3 → List Nat → List Nat
  | [], acc => acc
  | r :: l, acc => waitW l (acc ++ [(List.range acc.length).foldl (fun s k => bif r.1.testBit k then s ||| acc.getD k 0 else s) r.1])
def WOk (ops : Array Oper) (acc : List Nat) : Prop := ∀ j i, (acc.getD j 0).testBit i = true → Waits ops j i
theorem fold_bits (f : Nat → Bool) (g : Nat → Nat) (i : Nat) : ∀ (l : List Nat) (s : Nat), (l.foldl (fun s k => bif f k then s ||| g k else s) s).testBit i = true → s.testBit i = true ∨ ∃ k ∈ l, f k = true ∧ (g k).testBit i = true
  | [], s, h => .inl h
  | k :: l, s, h => by
    simp only [List.foldl_cons] at h
    rcases fold_bits f g i l _ h with h1 | ⟨k', h1, h2, h3⟩
    · cases hf : f k with
      | false => rw [hf] at h1; exact .inl h1
      | true =>
        rw [hf] at h1
        simp only [cond_true, Nat.testBit_or, Bool.or_eq_true] at h1
        rcases h1 with h1 | h1
        · exact .inl h1
        · exact .inr ⟨k, by simp, hf, h1⟩
    · exact .inr ⟨k', List.mem_cons_of_mem _ h1, h2, h3⟩
theorem waitW_ok : ∀ (l : List Row3) (acc : List Nat), l = (rowsOf ops).drop acc.length → WOk ops acc → WOk ops (waitW l acc)
  | [], acc, _, h => h
  | r :: l, acc, hl, h => by
    have hr : (rowsOf ops)[acc.length]? = some r := by
      have := congrArg (·[0]?) hl
      simpa using this.symm
    rw [rows_at] at hr
    obtain ⟨o, ho, rfl⟩ := Option.map_eq_some_iff.1 hr
    have one : ∀ k, (rowOf ops o).1.testBit k = true → Waits ops acc.length k := fun k hk => by
      simp only [rowOf, bits_test] at hk
      have hm : k ∈ onsOf o := by simpa using hk
      simp only [onsOf, List.mem_map, List.mem_filter] at hm
      obtain ⟨e, ⟨he, hb⟩, rfl⟩ := hm
      exact .one ho (by simpa using he) hb rfl
    refine waitW_ok l _ ?_ ?_
    · rw [List.length_append, List.length_singleton]
      have := congrArg (·.drop 1) hl
      simpa [List.drop_drop] using this
    · intro j i hj
      by_cases c : j < acc.length
      · have e : (acc ++ [(List.range acc.length).foldl (fun s k => bif (rowOf ops o).1.testBit k then s ||| acc.getD k 0 else s) (rowOf ops o).1]).getD j 0 = acc.getD j 0 := by
          simp [List.getD, List.getElem?_append_left c]
        rw [e] at hj
        exact h j i hj
      · by_cases c2 : j = acc.length
        · subst c2
          have e : (acc ++ [(List.range acc.length).foldl (fun s k => bif (rowOf ops o).1.testBit k then s ||| acc.getD k 0 else s) (rowOf ops o).1]).getD acc.length 0 = (List.range acc.length).foldl (fun s k => bif (rowOf ops o).1.testBit k then s ||| acc.getD k 0 else s) (rowOf ops o).1 := by
            simp [List.getD]
          rw [e] at hj
          rcases fold_bits _ _ i _ _ hj with h1 | ⟨k, _, h2, h3⟩
          · exact one i h1
          · have hw := h k i h3
            simp only [rowOf, bits_test] at h2
            have hm : k ∈ onsOf o := by simpa using h2
            simp only [onsOf, List.mem_map, List.mem_filter] at hm
            obtain ⟨e', ⟨he, hb⟩, rfl⟩ := hm
            exact .more ho (by simpa using he) hb hw
        · have e : (acc ++ [(List.range acc.length).foldl (fun s k => bif (rowOf ops o).1.testBit k then s ||| acc.getD k 0 else s) (rowOf ops o).1]).getD j 0 = 0 := by
            simp only [List.getD]
            rw [List.getElem?_eq_none (by simp; omega)]
            rfl
          rw [e] at hj
          simp at hj

def Tr.chkF (rows : List Row3) (M W : List Nat) : Tr → Nat → Bool
  | .done, m => (rdL m rows 0).isEmpty
  | .q i t, m => freeF rows m i && (rdL m rows 0).contains i && !M.contains i && M.all (fun j => m.testBit j || (W.getD j 0).testBit i) && t.chkF rows M W (m ||| 2 ^ i)
  | .n wr i t, m => (rdL m rows 0 == [i]) && (M.contains i == wr) && t.chkF rows M W (m ||| 2 ^ i)
  | .two i t j u, m => (rdL m rows 0 == [i, j]) && !M.contains i && !M.contains j && t.chkF rows M W (m ||| 2 ^ i) && u.chkF rows M W (m ||| 2 ^ j)
  | .br is f, m => !is.isEmpty && (rdL m rows 0 == is) && is.all fun i => !M.contains i && (f i).chkF rows M W (m ||| 2 ^ i)

theorem Rl.set (h : Rl ops m listed) {i : Nat} (hi : i ∈ Region.ready .any ops listed) : Rl ops (m ||| 2 ^ i) (listed.setIfInBounds i true) := by
  obtain ⟨_, o, ho, _⟩ := mem_ready.1 hi
  have hlt : i < listed.size := by rw [h.size]; exact (Array.getElem?_eq_some_iff.1 ho).1
  refine ⟨by simp [h.size], fun j => ?_⟩
  rw [Nat.testBit_or, Nat.testBit_two_pow, ← h.bit j]
  by_cases c : i = j
  · subst c
    simp [Array.getElem?_setIfInBounds_self_of_lt hlt]
  · rw [getD_set_ne false c]
    simp [c]
theorem chkF_sound {M W : List Nat} : ∀ (t : Tr) (m : Nat) (listed : Array Bool), Rl ops m listed → t.chkF (rowsOf ops) M W m = true → t.chk ops M (fun j i => (W.getD j 0).testBit i) listed = true := by
  intro t
  induction t with
  | done =>
    intro m listed h hc
    simp only [Tr.chkF, ready_fast h] at hc
    exact hc
  | q i t ih =>
    intro m listed h hc
    simp only [Tr.chkF, ready_fast h, Bool.and_eq_true] at hc
    obtain ⟨⟨⟨⟨c1, c2⟩, c3⟩, c4⟩, c5⟩ := hc
    have hi : i ∈ Region.ready .any ops listed := by simpa using c2
    simp only [Tr.chk, Bool.and_eq_true]
    refine ⟨⟨⟨⟨free_fast h c1, c2⟩, c3⟩, ?_⟩, ih _ _ (h.set hi) c5⟩
    rw [List.all_eq_true] at c4 ⊢
    intro j hj
    have := c4 j hj
    simp only [Bool.or_eq_true] at this ⊢
    rcases this with k | k
    · left
      by_cases hjs : j < ops.size
      · rw [h.t hjs]; exact k
      · simp [h.size, hjs]
    · exact .inr k
  | n wr i t ih =>
    intro m listed h hc
    simp only [Tr.chkF, ready_fast h, Bool.and_eq_true] at hc
    obtain ⟨⟨c1, c2⟩, c3⟩ := hc
    have hi : i ∈ Region.ready .any ops listed := by rw [beq_iff_eq] at c1; rw [c1]; simp
    simp only [Tr.chk, Bool.and_eq_true]
    exact ⟨⟨c1, c2⟩, ih _ _ (h.set hi) c3⟩
  | two i t j u iht ihu =>
    intro m listed h hc
    simp only [Tr.chkF, ready_fast h, Bool.and_eq_true] at hc
    obtain ⟨⟨⟨⟨c1, c2⟩, c3⟩, c4⟩, c5⟩ := hc
    have hi : i ∈ Region.ready .any ops listed := by rw [beq_iff_eq] at c1; rw [c1]; simp
    have hj : j ∈ Region.ready .any ops listed := by rw [beq_iff_eq] at c1; rw [c1]; simp
    simp only [Tr.chk, Bool.and_eq_true]
    exact ⟨⟨⟨⟨c1, c2⟩, c3⟩, iht _ _ (h.set hi) c4⟩, ihu _ _ (h.set hj) c5⟩
  | br is f ih =>
    intro m listed h hc
    simp only [Tr.chkF, ready_fast h, Bool.and_eq_true] at hc
    obtain ⟨⟨c1, c2⟩, c3⟩ := hc
    simp only [Tr.chk, Bool.and_eq_true]
    refine ⟨⟨c1, c2⟩, ?_⟩
    rw [List.all_eq_true] at c3 ⊢
    intro i hi
    have hi' : i ∈ Region.ready .any ops listed := by rw [beq_iff_eq] at c2; rw [c2]; exact hi
    have := c3 i hi
    simp only [Bool.and_eq_true] at this ⊢
    exact ⟨this.1, ih i _ _ (h.set hi') this.2⟩

def Tr.okF (rows : List Row3) (n : Nat) (t : Tr) : Bool := decide (t.len ≤ n) && t.chkF rows t.muts (waitW rows []) 0
theorem wp_region_fast {P : Program} {id : Nat} {Q : Exit → Act → World → Prop} {a : Act} {w : World} {ro : Option Nat} (rows : List Row3) (t : Tr) (hm : P.follows .mixedOrders = true)
    (hr : rowsOf ops = rows) (hn : Ndr ops = true) (hc : t.okF rows ops.size = true) (S : World → Prop) (hS : S w.drew) (h : wpT P ops (Q .normal) t S a w.drew) : (Code.region id ops true).wpIn (FW ro) 0 P Q a w := by
  subst hr
  simp only [Tr.okF, Bool.and_eq_true, decide_eq_true_eq] at hc
  refine wpIn_region_any hm ?_
  have hW : WOk ops (waitW (rowsOf ops) []) := waitW_ok _ _ rfl (fun j i h => by simp at h)
  have h0 : Rl ops 0 (Array.replicate ops.size false) := ⟨by simp, fun j => by simp [Array.getElem?_replicate]; split <;> rfl⟩
  refine anyW_sound hn _ _ _ _ (anyM_any _ _ _ _ (wpT_sound (wt := fun j i => ((waitW (rowsOf ops) []).getD j 0).testBit i) hn (fun j i h => hW j i h) t _ _ S a _ hc.1 ?_ (chkF_sound t 0 _ h0 hc.2) hS h))
  intro j o hj
  simp [Array.getElem?_replicate] at hj
  split at hj <;> simp at hj
end

section
variable {cx : Cx} {n : Nat} {ks : List (Nat × Value)} {O : List Own} {V : View} {P : Program} {ops : Array Oper} {Q : Exit → Act → World → Prop} {ro : Option Nat} {id : Nat}
theorem At.drawF (rows : List Row3) (t : Tr) (hm : P.follows .mixedOrders = true) (hr : rowsOf ops = rows) (hn : Ndr ops = true) (hc : t.okF rows ops.size = true) (h : AtT cx n ks O V P ops (Q .normal) t) :
    At cx n ks O V ((Code.region id ops true).wpIn (FW ro) 0 P Q) := fun a w hk hw =>
  have hd : Mem cx O V w.drew := hw.ext (Below.refl _ w).drew
  wp_region_fast rows t hm hr hn hc (Mem cx O V) hd (h a w.drew hk hd)
end
end Go.Lw
namespace Go.Proofs.Ytmnbkceiaifncaa
open Go.Lw
theorem tk1 : tkB Try.prog 1 = some (false, 1) := by kernel_rfl
theorem z1 : zeroB Try.prog 1 = some Go.Value.nilFunc := by kernel_rfl
theorem rw1 : rowB Try.prog 1 = some (Go.Value.nilFunc, 1, 8) := by kernel_rfl
theorem un1 : (Try.prog.underlying 1).isSome = true := by kernel_rfl
theorem tk2 : tkB Try.prog 2 = some (false, 1) := by kernel_rfl
theorem z2 : zeroB Try.prog 2 = some (Go.Value.int Go.IntKind.i64 0) := by kernel_rfl
theorem rw2 : rowB Try.prog 2 = some ((Go.Value.int Go.IntKind.i64 0), 1, 8) := by kernel_rfl
theorem un2 : (Try.prog.underlying 2).isSome = true := by kernel_rfl
theorem tk3 : tkB Try.prog 3 = some (false, 1) := by kernel_rfl
theorem z3 : zeroB Try.prog 3 = some (Go.Value.int Go.IntKind.i64 0) := by kernel_rfl
theorem rw3 : rowB Try.prog 3 = some ((Go.Value.int Go.IntKind.i64 0), 1, 8) := by kernel_rfl
theorem un3 : (Try.prog.underlying 3).isSome = true := by kernel_rfl
theorem tk4 : tkB Try.prog 4 = some (false, 1) := by kernel_rfl
theorem z4 : zeroB Try.prog 4 = some (Go.Value.bool Bool.false) := by kernel_rfl
theorem rw4 : rowB Try.prog 4 = some ((Go.Value.bool Bool.false), 1, 1) := by kernel_rfl
theorem un4 : (Try.prog.underlying 4).isSome = true := by kernel_rfl
theorem tk5 : tkB Try.prog 5 = some (false, 1) := by kernel_rfl
theorem z5 : zeroB Try.prog 5 = some (Go.Value.int Go.IntKind.u8 0) := by kernel_rfl
theorem rw5 : rowB Try.prog 5 = some ((Go.Value.int Go.IntKind.u8 0), 1, 1) := by kernel_rfl
theorem un5 : (Try.prog.underlying 5).isSome = true := by kernel_rfl
theorem tk6 : tkB Try.prog 6 = some (false, 1) := by kernel_rfl
theorem z6 : zeroB Try.prog 6 = some (Go.Value.int Go.IntKind.u8 0) := by kernel_rfl
theorem rw6 : rowB Try.prog 6 = some ((Go.Value.int Go.IntKind.u8 0), 1, 1) := by kernel_rfl
theorem un6 : (Try.prog.underlying 6).isSome = true := by kernel_rfl
theorem tk7 : tkB Try.prog 7 = some (true, 4) := by kernel_rfl
theorem z7 : zeroB Try.prog 7 = some (Go.Value.agg #[(Go.Value.int Go.IntKind.i64 0), (Go.Value.int Go.IntKind.i64 0), (Go.Value.bool Bool.false), (Go.Value.int Go.IntKind.u8 0)]) := by kernel_rfl
theorem rw7 : rowB Try.prog 7 = some ((Go.Value.agg #[(Go.Value.int Go.IntKind.i64 0), (Go.Value.int Go.IntKind.i64 0), (Go.Value.bool Bool.false), (Go.Value.int Go.IntKind.u8 0)]), 4, 24) := by kernel_rfl
theorem un7 : (Try.prog.underlying 7).isSome = true := by kernel_rfl
theorem fo7_0 : foB Try.prog 7 0 = some 0 := by kernel_rfl
theorem fo7_1 : foB Try.prog 7 1 = some 1 := by kernel_rfl
theorem fo7_2 : foB Try.prog 7 2 = some 2 := by kernel_rfl
theorem fo7_3 : foB Try.prog 7 3 = some 3 := by kernel_rfl
theorem tk8 : tkB Try.prog 8 = some (true, 4) := by kernel_rfl
theorem z8 : zeroB Try.prog 8 = some (Go.Value.agg #[(Go.Value.int Go.IntKind.i64 0), (Go.Value.int Go.IntKind.i64 0), (Go.Value.bool Bool.false), (Go.Value.int Go.IntKind.u8 0)]) := by kernel_rfl
theorem rw8 : rowB Try.prog 8 = some ((Go.Value.agg #[(Go.Value.int Go.IntKind.i64 0), (Go.Value.int Go.IntKind.i64 0), (Go.Value.bool Bool.false), (Go.Value.int Go.IntKind.u8 0)]), 4, 24) := by kernel_rfl
theorem un8 : (Try.prog.underlying 8).isSome = true := by kernel_rfl
theorem fo8_0 : foB Try.prog 8 0 = some 0 := by kernel_rfl
theorem fo8_1 : foB Try.prog 8 1 = some 1 := by kernel_rfl
theorem fo8_2 : foB Try.prog 8 2 = some 2 := by kernel_rfl
theorem fo8_3 : foB Try.prog 8 3 = some 3 := by kernel_rfl
theorem tk9 : tkB Try.prog 9 = some (false, 1) := by kernel_rfl
theorem z9 : zeroB Try.prog 9 = some (Go.Value.string (ByteArray.mk #[])) := by kernel_rfl
theorem rw9 : rowB Try.prog 9 = some ((Go.Value.string (ByteArray.mk #[])), 1, 16) := by kernel_rfl
theorem un9 : (Try.prog.underlying 9).isSome = true := by kernel_rfl
theorem tk10 : tkB Try.prog 10 = some (false, 1) := by kernel_rfl
theorem z10 : zeroB Try.prog 10 = some (Go.Value.string (ByteArray.mk #[])) := by kernel_rfl
theorem rw10 : rowB Try.prog 10 = some ((Go.Value.string (ByteArray.mk #[])), 1, 16) := by kernel_rfl
theorem un10 : (Try.prog.underlying 10).isSome = true := by kernel_rfl
theorem tk11 : tkB Try.prog 11 = some (false, 1) := by kernel_rfl
theorem z11 : zeroB Try.prog 11 = some (Go.Value.string (ByteArray.mk #[])) := by kernel_rfl
theorem rw11 : rowB Try.prog 11 = some ((Go.Value.string (ByteArray.mk #[])), 1, 16) := by kernel_rfl
theorem un11 : (Try.prog.underlying 11).isSome = true := by kernel_rfl
theorem tk12 : tkB Try.prog 12 = some (false, 1) := by kernel_rfl
theorem z12 : zeroB Try.prog 12 = some (Go.Value.int Go.IntKind.u64 0) := by kernel_rfl
theorem rw12 : rowB Try.prog 12 = some ((Go.Value.int Go.IntKind.u64 0), 1, 8) := by kernel_rfl
theorem un12 : (Try.prog.underlying 12).isSome = true := by kernel_rfl
theorem tk13 : tkB Try.prog 13 = some (true, 2) := by kernel_rfl
theorem z13 : zeroB Try.prog 13 = some (Go.Value.agg #[(Go.Value.string (ByteArray.mk #[])), (Go.Value.int Go.IntKind.u64 0)]) := by kernel_rfl
theorem rw13 : rowB Try.prog 13 = some ((Go.Value.agg #[(Go.Value.string (ByteArray.mk #[])), (Go.Value.int Go.IntKind.u64 0)]), 2, 24) := by kernel_rfl
theorem un13 : (Try.prog.underlying 13).isSome = true := by kernel_rfl
theorem fo13_0 : foB Try.prog 13 0 = some 0 := by kernel_rfl
theorem fo13_1 : foB Try.prog 13 1 = some 1 := by kernel_rfl
theorem tk14 : tkB Try.prog 14 = some (true, 2) := by kernel_rfl
theorem z14 : zeroB Try.prog 14 = some (Go.Value.agg #[(Go.Value.string (ByteArray.mk #[])), (Go.Value.int Go.IntKind.u64 0)]) := by kernel_rfl
theorem rw14 : rowB Try.prog 14 = some ((Go.Value.agg #[(Go.Value.string (ByteArray.mk #[])), (Go.Value.int Go.IntKind.u64 0)]), 2, 24) := by kernel_rfl
theorem un14 : (Try.prog.underlying 14).isSome = true := by kernel_rfl
theorem fo14_0 : foB Try.prog 14 0 = some 0 := by kernel_rfl
theorem fo14_1 : foB Try.prog 14 1 = some 1 := by kernel_rfl
theorem tk15 : tkB Try.prog 15 = some (false, 1) := by kernel_rfl
theorem z15 : zeroB Try.prog 15 = some (Go.Value.pointer Option.none) := by kernel_rfl
theorem rw15 : rowB Try.prog 15 = some ((Go.Value.pointer Option.none), 1, 8) := by kernel_rfl
theorem un15 : (Try.prog.underlying 15).isSome = true := by kernel_rfl
theorem tk16 : tkB Try.prog 16 = some (false, 1) := by kernel_rfl
theorem z16 : zeroB Try.prog 16 = some (Go.Value.pointer Option.none) := by kernel_rfl
theorem rw16 : rowB Try.prog 16 = some ((Go.Value.pointer Option.none), 1, 8) := by kernel_rfl
theorem un16 : (Try.prog.underlying 16).isSome = true := by kernel_rfl
theorem tk17 : tkB Try.prog 17 = some (false, 1) := by kernel_rfl
theorem z17 : zeroB Try.prog 17 = some (Go.Value.pointer Option.none) := by kernel_rfl
theorem rw17 : rowB Try.prog 17 = some ((Go.Value.pointer Option.none), 1, 8) := by kernel_rfl
theorem un17 : (Try.prog.underlying 17).isSome = true := by kernel_rfl
theorem tk18 : tkB Try.prog 18 = some (true, 1) := by kernel_rfl
theorem z18 : zeroB Try.prog 18 = some (Go.Value.agg #[(Go.Value.pointer Option.none)]) := by kernel_rfl
theorem rw18 : rowB Try.prog 18 = some ((Go.Value.agg #[(Go.Value.pointer Option.none)]), 1, 8) := by kernel_rfl
theorem un18 : (Try.prog.underlying 18).isSome = true := by kernel_rfl
theorem fo18_0 : foB Try.prog 18 0 = some 0 := by kernel_rfl
theorem tk19 : tkB Try.prog 19 = some (true, 1) := by kernel_rfl
theorem z19 : zeroB Try.prog 19 = some (Go.Value.agg #[(Go.Value.pointer Option.none)]) := by kernel_rfl
theorem rw19 : rowB Try.prog 19 = some ((Go.Value.agg #[(Go.Value.pointer Option.none)]), 1, 8) := by kernel_rfl
theorem un19 : (Try.prog.underlying 19).isSome = true := by kernel_rfl
theorem fo19_0 : foB Try.prog 19 0 = some 0 := by kernel_rfl
theorem tk20 : tkB Try.prog 20 = some (false, 1) := by kernel_rfl
theorem z20 : zeroB Try.prog 20 = some Go.Value.nilIface := by kernel_rfl
theorem rw20 : rowB Try.prog 20 = some (Go.Value.nilIface, 1, 16) := by kernel_rfl
theorem un20 : (Try.prog.underlying 20).isSome = true := by kernel_rfl
theorem tk21 : tkB Try.prog 21 = some (false, 1) := by kernel_rfl
theorem z21 : zeroB Try.prog 21 = some (Go.Value.int Go.IntKind.i32 0) := by kernel_rfl
theorem rw21 : rowB Try.prog 21 = some ((Go.Value.int Go.IntKind.i32 0), 1, 4) := by kernel_rfl
theorem un21 : (Try.prog.underlying 21).isSome = true := by kernel_rfl
theorem tk22 : tkB Try.prog 22 = some (true, 2) := by kernel_rfl
theorem z22 : zeroB Try.prog 22 = some (Go.Value.agg #[(Go.Value.int Go.IntKind.i64 0), (Go.Value.int Go.IntKind.i64 0)]) := by kernel_rfl
theorem rw22 : rowB Try.prog 22 = some ((Go.Value.agg #[(Go.Value.int Go.IntKind.i64 0), (Go.Value.int Go.IntKind.i64 0)]), 2, 16) := by kernel_rfl
theorem un22 : (Try.prog.underlying 22).isSome = true := by kernel_rfl
theorem fo22_0 : foB Try.prog 22 0 = some 0 := by kernel_rfl
theorem fo22_1 : foB Try.prog 22 1 = some 1 := by kernel_rfl
theorem tk23 : tkB Try.prog 23 = some (true, 2) := by kernel_rfl
theorem z23 : zeroB Try.prog 23 = some (Go.Value.agg #[(Go.Value.int Go.IntKind.i64 0), (Go.Value.int Go.IntKind.i64 0)]) := by kernel_rfl
theorem rw23 : rowB Try.prog 23 = some ((Go.Value.agg #[(Go.Value.int Go.IntKind.i64 0), (Go.Value.int Go.IntKind.i64 0)]), 2, 16) := by kernel_rfl
theorem un23 : (Try.prog.underlying 23).isSome = true := by kernel_rfl
theorem fo23_0 : foB Try.prog 23 0 = some 0 := by kernel_rfl
theorem fo23_1 : foB Try.prog 23 1 = some 1 := by kernel_rfl
theorem tk24 : tkB Try.prog 24 = some (true, 3) := by kernel_rfl
theorem z24 : zeroB Try.prog 24 = some (Go.Value.agg #[(Go.Value.int Go.IntKind.i64 0), (Go.Value.int Go.IntKind.i64 0), (Go.Value.int Go.IntKind.i64 0)]) := by kernel_rfl
theorem rw24 : rowB Try.prog 24 = some ((Go.Value.agg #[(Go.Value.int Go.IntKind.i64 0), (Go.Value.int Go.IntKind.i64 0), (Go.Value.int Go.IntKind.i64 0)]), 3, 24) := by kernel_rfl
theorem un24 : (Try.prog.underlying 24).isSome = true := by kernel_rfl
theorem fo24_0 : foB Try.prog 24 0 = some 0 := by kernel_rfl
theorem fo24_1 : foB Try.prog 24 1 = some 2 := by kernel_rfl
theorem tk25 : tkB Try.prog 25 = some (true, 3) := by kernel_rfl
theorem z25 : zeroB Try.prog 25 = some (Go.Value.agg #[(Go.Value.int Go.IntKind.i64 0), (Go.Value.int Go.IntKind.i64 0), (Go.Value.int Go.IntKind.i64 0)]) := by kernel_rfl
theorem rw25 : rowB Try.prog 25 = some ((Go.Value.agg #[(Go.Value.int Go.IntKind.i64 0), (Go.Value.int Go.IntKind.i64 0), (Go.Value.int Go.IntKind.i64 0)]), 3, 24) := by kernel_rfl
theorem un25 : (Try.prog.underlying 25).isSome = true := by kernel_rfl
theorem fo25_0 : foB Try.prog 25 0 = some 0 := by kernel_rfl
theorem fo25_1 : foB Try.prog 25 1 = some 2 := by kernel_rfl
theorem tk26 : tkB Try.prog 26 = some (false, 1) := by kernel_rfl
theorem z26 : zeroB Try.prog 26 = some (Go.Value.slice Option.none 0 0) := by kernel_rfl
theorem rw26 : rowB Try.prog 26 = some ((Go.Value.slice Option.none 0 0), 1, 24) := by kernel_rfl
theorem un26 : (Try.prog.underlying 26).isSome = true := by kernel_rfl
theorem tk27 : tkB Try.prog 27 = some (false, 1) := by kernel_rfl
theorem z27 : zeroB Try.prog 27 = some (Go.Value.slice Option.none 0 0) := by kernel_rfl
theorem rw27 : rowB Try.prog 27 = some ((Go.Value.slice Option.none 0 0), 1, 24) := by kernel_rfl
theorem un27 : (Try.prog.underlying 27).isSome = true := by kernel_rfl
theorem tk28 : tkB Try.prog 28 = some (false, 1) := by kernel_rfl
theorem z28 : zeroB Try.prog 28 = some Go.Value.nilFunc := by kernel_rfl
theorem rw28 : rowB Try.prog 28 = some (Go.Value.nilFunc, 1, 8) := by kernel_rfl
theorem un28 : (Try.prog.underlying 28).isSome = true := by kernel_rfl
theorem tk29 : tkB Try.prog 29 = some (false, 1) := by kernel_rfl
theorem z29 : zeroB Try.prog 29 = some Go.Value.nilFunc := by kernel_rfl
theorem rw29 : rowB Try.prog 29 = some (Go.Value.nilFunc, 1, 8) := by kernel_rfl
theorem un29 : (Try.prog.underlying 29).isSome = true := by kernel_rfl
theorem tk30 : tkB Try.prog 30 = some (false, 1) := by kernel_rfl
theorem z30 : zeroB Try.prog 30 = some Go.Value.nilFunc := by kernel_rfl
theorem rw30 : rowB Try.prog 30 = some (Go.Value.nilFunc, 1, 8) := by kernel_rfl
theorem un30 : (Try.prog.underlying 30).isSome = true := by kernel_rfl
theorem tk31 : tkB Try.prog 31 = some (false, 1) := by kernel_rfl
theorem z31 : zeroB Try.prog 31 = some (Go.Value.int Go.IntKind.i64 0) := by kernel_rfl
theorem rw31 : rowB Try.prog 31 = some ((Go.Value.int Go.IntKind.i64 0), 1, 8) := by kernel_rfl
theorem un31 : (Try.prog.underlying 31).isSome = true := by kernel_rfl
theorem tk33 : tkB Try.prog 33 = some (false, 1) := by kernel_rfl
theorem z33 : zeroB Try.prog 33 = some Go.Value.nilFunc := by kernel_rfl
theorem rw33 : rowB Try.prog 33 = some (Go.Value.nilFunc, 1, 8) := by kernel_rfl
theorem un33 : (Try.prog.underlying 33).isSome = true := by kernel_rfl
theorem tk34 : tkB Try.prog 34 = some (false, 1) := by kernel_rfl
theorem z34 : zeroB Try.prog 34 = some Go.Value.nilFunc := by kernel_rfl
theorem rw34 : rowB Try.prog 34 = some (Go.Value.nilFunc, 1, 8) := by kernel_rfl
theorem un34 : (Try.prog.underlying 34).isSome = true := by kernel_rfl
theorem tk35 : tkB Try.prog 35 = some (false, 1) := by kernel_rfl
theorem z35 : zeroB Try.prog 35 = some Go.Value.nilFunc := by kernel_rfl
theorem rw35 : rowB Try.prog 35 = some (Go.Value.nilFunc, 1, 8) := by kernel_rfl
theorem un35 : (Try.prog.underlying 35).isSome = true := by kernel_rfl
theorem tk36 : tkB Try.prog 36 = some (false, 1) := by kernel_rfl
theorem z36 : zeroB Try.prog 36 = some Go.Value.nilFunc := by kernel_rfl
theorem rw36 : rowB Try.prog 36 = some (Go.Value.nilFunc, 1, 8) := by kernel_rfl
theorem un36 : (Try.prog.underlying 36).isSome = true := by kernel_rfl
theorem tk38 : tkB Try.prog 38 = some (false, 1) := by kernel_rfl
theorem z38 : zeroB Try.prog 38 = some Go.Value.nilFunc := by kernel_rfl
theorem rw38 : rowB Try.prog 38 = some (Go.Value.nilFunc, 1, 8) := by kernel_rfl
theorem un38 : (Try.prog.underlying 38).isSome = true := by kernel_rfl
theorem tk40 : tkB Try.prog 40 = some (false, 1) := by kernel_rfl
theorem z40 : zeroB Try.prog 40 = some Go.Value.nilFunc := by kernel_rfl
theorem rw40 : rowB Try.prog 40 = some (Go.Value.nilFunc, 1, 8) := by kernel_rfl
theorem un40 : (Try.prog.underlying 40).isSome = true := by kernel_rfl
theorem tk41 : tkB Try.prog 41 = some (false, 1) := by kernel_rfl
theorem z41 : zeroB Try.prog 41 = some Go.Value.nilFunc := by kernel_rfl
theorem rw41 : rowB Try.prog 41 = some (Go.Value.nilFunc, 1, 8) := by kernel_rfl
theorem un41 : (Try.prog.underlying 41).isSome = true := by kernel_rfl
theorem tk42 : tkB Try.prog 42 = some (false, 1) := by kernel_rfl
theorem z42 : zeroB Try.prog 42 = some Go.Value.nilFunc := by kernel_rfl
theorem rw42 : rowB Try.prog 42 = some (Go.Value.nilFunc, 1, 8) := by kernel_rfl
theorem un42 : (Try.prog.underlying 42).isSome = true := by kernel_rfl
theorem tk43 : tkB Try.prog 43 = some (false, 1) := by kernel_rfl
theorem z43 : zeroB Try.prog 43 = some Go.Value.nilFunc := by kernel_rfl
theorem rw43 : rowB Try.prog 43 = some (Go.Value.nilFunc, 1, 8) := by kernel_rfl
theorem un43 : (Try.prog.underlying 43).isSome = true := by kernel_rfl
theorem tk44 : tkB Try.prog 44 = some (false, 1) := by kernel_rfl
theorem z44 : zeroB Try.prog 44 = some Go.Value.nilFunc := by kernel_rfl
theorem rw44 : rowB Try.prog 44 = some (Go.Value.nilFunc, 1, 8) := by kernel_rfl
theorem un44 : (Try.prog.underlying 44).isSome = true := by kernel_rfl
theorem tk45 : tkB Try.prog 45 = some (false, 1) := by kernel_rfl
theorem z45 : zeroB Try.prog 45 = some Go.Value.nilFunc := by kernel_rfl
theorem rw45 : rowB Try.prog 45 = some (Go.Value.nilFunc, 1, 8) := by kernel_rfl
theorem un45 : (Try.prog.underlying 45).isSome = true := by kernel_rfl
theorem tk46 : tkB Try.prog 46 = some (false, 1) := by kernel_rfl
theorem z46 : zeroB Try.prog 46 = some (Go.Value.slice Option.none 0 0) := by kernel_rfl
theorem rw46 : rowB Try.prog 46 = some ((Go.Value.slice Option.none 0 0), 1, 24) := by kernel_rfl
theorem un46 : (Try.prog.underlying 46).isSome = true := by kernel_rfl
theorem tk47 : tkB Try.prog 47 = some (false, 1) := by kernel_rfl
theorem z47 : zeroB Try.prog 47 = some (Go.Value.int Go.IntKind.u16 0) := by kernel_rfl
theorem rw47 : rowB Try.prog 47 = some ((Go.Value.int Go.IntKind.u16 0), 1, 2) := by kernel_rfl
theorem un47 : (Try.prog.underlying 47).isSome = true := by kernel_rfl
theorem tk48 : tkB Try.prog 48 = some (false, 1) := by kernel_rfl
theorem z48 : zeroB Try.prog 48 = some Go.Value.nilFunc := by kernel_rfl
theorem rw48 : rowB Try.prog 48 = some (Go.Value.nilFunc, 1, 8) := by kernel_rfl
theorem un48 : (Try.prog.underlying 48).isSome = true := by kernel_rfl
theorem tk50 : tkB Try.prog 50 = some (false, 1) := by kernel_rfl
theorem z50 : zeroB Try.prog 50 = some Go.Value.nilFunc := by kernel_rfl
theorem rw50 : rowB Try.prog 50 = some (Go.Value.nilFunc, 1, 8) := by kernel_rfl
theorem un50 : (Try.prog.underlying 50).isSome = true := by kernel_rfl
theorem tk51 : tkB Try.prog 51 = some (false, 1) := by kernel_rfl
theorem z51 : zeroB Try.prog 51 = some Go.Value.nilFunc := by kernel_rfl
theorem rw51 : rowB Try.prog 51 = some (Go.Value.nilFunc, 1, 8) := by kernel_rfl
theorem un51 : (Try.prog.underlying 51).isSome = true := by kernel_rfl
theorem tk52 : tkB Try.prog 52 = some (false, 1) := by kernel_rfl
theorem z52 : zeroB Try.prog 52 = some Go.Value.nilFunc := by kernel_rfl
theorem rw52 : rowB Try.prog 52 = some (Go.Value.nilFunc, 1, 8) := by kernel_rfl
theorem un52 : (Try.prog.underlying 52).isSome = true := by kernel_rfl
theorem tk53 : tkB Try.prog 53 = some (false, 1) := by kernel_rfl
theorem z53 : zeroB Try.prog 53 = some Go.Value.nilFunc := by kernel_rfl
theorem rw53 : rowB Try.prog 53 = some (Go.Value.nilFunc, 1, 8) := by kernel_rfl
theorem un53 : (Try.prog.underlying 53).isSome = true := by kernel_rfl
theorem tk54 : tkB Try.prog 54 = some (false, 1) := by kernel_rfl
theorem z54 : zeroB Try.prog 54 = some Go.Value.nilFunc := by kernel_rfl
theorem rw54 : rowB Try.prog 54 = some (Go.Value.nilFunc, 1, 8) := by kernel_rfl
theorem un54 : (Try.prog.underlying 54).isSome = true := by kernel_rfl
theorem tk56 : tkB Try.prog 56 = some (false, 1) := by kernel_rfl
theorem z56 : zeroB Try.prog 56 = some Go.Value.nilFunc := by kernel_rfl
theorem rw56 : rowB Try.prog 56 = some (Go.Value.nilFunc, 1, 8) := by kernel_rfl
theorem un56 : (Try.prog.underlying 56).isSome = true := by kernel_rfl
theorem tk57 : tkB Try.prog 57 = some (false, 1) := by kernel_rfl
theorem z57 : zeroB Try.prog 57 = some Go.Value.nilFunc := by kernel_rfl
theorem rw57 : rowB Try.prog 57 = some (Go.Value.nilFunc, 1, 8) := by kernel_rfl
theorem un57 : (Try.prog.underlying 57).isSome = true := by kernel_rfl
theorem tk58 : tkB Try.prog 58 = some (false, 1) := by kernel_rfl
theorem z58 : zeroB Try.prog 58 = some Go.Value.nilFunc := by kernel_rfl
theorem rw58 : rowB Try.prog 58 = some (Go.Value.nilFunc, 1, 8) := by kernel_rfl
theorem un58 : (Try.prog.underlying 58).isSome = true := by kernel_rfl
theorem tk59 : tkB Try.prog 59 = some (true, 3) := by kernel_rfl
theorem z59 : zeroB Try.prog 59 = some (Go.Value.agg #[(Go.Value.int Go.IntKind.i64 0), (Go.Value.int Go.IntKind.i64 0), (Go.Value.int Go.IntKind.i64 0)]) := by kernel_rfl
theorem rw59 : rowB Try.prog 59 = some ((Go.Value.agg #[(Go.Value.int Go.IntKind.i64 0), (Go.Value.int Go.IntKind.i64 0), (Go.Value.int Go.IntKind.i64 0)]), 3, 24) := by kernel_rfl
theorem un59 : (Try.prog.underlying 59).isSome = true := by kernel_rfl
theorem fo59_0 : foB Try.prog 59 0 = some 0 := by kernel_rfl
theorem fo59_1 : foB Try.prog 59 1 = some 2 := by kernel_rfl
theorem tk60 : tkB Try.prog 60 = some (true, 3) := by kernel_rfl
theorem z60 : zeroB Try.prog 60 = some (Go.Value.agg #[(Go.Value.int Go.IntKind.i64 0), (Go.Value.int Go.IntKind.i64 0), (Go.Value.int Go.IntKind.i64 0)]) := by kernel_rfl
theorem rw60 : rowB Try.prog 60 = some ((Go.Value.agg #[(Go.Value.int Go.IntKind.i64 0), (Go.Value.int Go.IntKind.i64 0), (Go.Value.int Go.IntKind.i64 0)]), 3, 24) := by kernel_rfl
theorem un60 : (Try.prog.underlying 60).isSome = true := by kernel_rfl
theorem fo60_0 : foB Try.prog 60 0 = some 0 := by kernel_rfl
theorem fo60_1 : foB Try.prog 60 1 = some 2 := by kernel_rfl
theorem tk61 : tkB Try.prog 61 = some (false, 1) := by kernel_rfl
theorem z61 : zeroB Try.prog 61 = some Go.Value.nilFunc := by kernel_rfl
theorem rw61 : rowB Try.prog 61 = some (Go.Value.nilFunc, 1, 8) := by kernel_rfl
theorem un61 : (Try.prog.underlying 61).isSome = true := by kernel_rfl
theorem tk62 : tkB Try.prog 62 = some (false, 1) := by kernel_rfl
theorem z62 : zeroB Try.prog 62 = some Go.Value.nilFunc := by kernel_rfl
theorem rw62 : rowB Try.prog 62 = some (Go.Value.nilFunc, 1, 8) := by kernel_rfl
theorem un62 : (Try.prog.underlying 62).isSome = true := by kernel_rfl
theorem tk63 : tkB Try.prog 63 = some (false, 1) := by kernel_rfl
theorem z63 : zeroB Try.prog 63 = some Go.Value.nilFunc := by kernel_rfl
theorem rw63 : rowB Try.prog 63 = some (Go.Value.nilFunc, 1, 8) := by kernel_rfl
theorem un63 : (Try.prog.underlying 63).isSome = true := by kernel_rfl
theorem tk64 : tkB Try.prog 64 = some (false, 1) := by kernel_rfl
theorem z64 : zeroB Try.prog 64 = some Go.Value.nilFunc := by kernel_rfl
theorem rw64 : rowB Try.prog 64 = some (Go.Value.nilFunc, 1, 8) := by kernel_rfl
theorem un64 : (Try.prog.underlying 64).isSome = true := by kernel_rfl
theorem tk65 : tkB Try.prog 65 = some (false, 1) := by kernel_rfl
theorem z65 : zeroB Try.prog 65 = some Go.Value.nilFunc := by kernel_rfl
theorem rw65 : rowB Try.prog 65 = some (Go.Value.nilFunc, 1, 8) := by kernel_rfl
theorem un65 : (Try.prog.underlying 65).isSome = true := by kernel_rfl
theorem tk66 : tkB Try.prog 66 = some (false, 1) := by kernel_rfl
theorem z66 : zeroB Try.prog 66 = some Go.Value.nilFunc := by kernel_rfl
theorem rw66 : rowB Try.prog 66 = some (Go.Value.nilFunc, 1, 8) := by kernel_rfl
theorem un66 : (Try.prog.underlying 66).isSome = true := by kernel_rfl
theorem tk67 : tkB Try.prog 67 = some (false, 1) := by kernel_rfl
theorem z67 : zeroB Try.prog 67 = some Go.Value.nilFunc := by kernel_rfl
theorem rw67 : rowB Try.prog 67 = some (Go.Value.nilFunc, 1, 8) := by kernel_rfl
theorem un67 : (Try.prog.underlying 67).isSome = true := by kernel_rfl
theorem tk68 : tkB Try.prog 68 = some (false, 1) := by kernel_rfl
theorem z68 : zeroB Try.prog 68 = some (Go.Value.pointer Option.none) := by kernel_rfl
theorem rw68 : rowB Try.prog 68 = some ((Go.Value.pointer Option.none), 1, 8) := by kernel_rfl
theorem un68 : (Try.prog.underlying 68).isSome = true := by kernel_rfl
theorem tk70 : tkB Try.prog 70 = some (false, 1) := by kernel_rfl
theorem z70 : zeroB Try.prog 70 = some Go.Value.nilFunc := by kernel_rfl
theorem rw70 : rowB Try.prog 70 = some (Go.Value.nilFunc, 1, 8) := by kernel_rfl
theorem un70 : (Try.prog.underlying 70).isSome = true := by kernel_rfl
theorem tk71 : tkB Try.prog 71 = some (true, 2) := by kernel_rfl
theorem z71 : zeroB Try.prog 71 = some (Go.Value.agg #[(Go.Value.int Go.IntKind.i64 0), (Go.Value.int Go.IntKind.i64 0)]) := by kernel_rfl
theorem rw71 : rowB Try.prog 71 = some ((Go.Value.agg #[(Go.Value.int Go.IntKind.i64 0), (Go.Value.int Go.IntKind.i64 0)]), 2, 16) := by kernel_rfl
theorem un71 : (Try.prog.underlying 71).isSome = true := by kernel_rfl
theorem tk72 : tkB Try.prog 72 = some (true, 2) := by kernel_rfl
theorem z72 : zeroB Try.prog 72 = some (Go.Value.agg #[(Go.Value.int Go.IntKind.i64 0), (Go.Value.int Go.IntKind.i64 0)]) := by kernel_rfl
theorem rw72 : rowB Try.prog 72 = some ((Go.Value.agg #[(Go.Value.int Go.IntKind.i64 0), (Go.Value.int Go.IntKind.i64 0)]), 2, 16) := by kernel_rfl
theorem un72 : (Try.prog.underlying 72).isSome = true := by kernel_rfl
theorem tk73 : tkB Try.prog 73 = some (false, 1) := by kernel_rfl
theorem z73 : zeroB Try.prog 73 = some Go.Value.nilFunc := by kernel_rfl
theorem rw73 : rowB Try.prog 73 = some (Go.Value.nilFunc, 1, 8) := by kernel_rfl
theorem un73 : (Try.prog.underlying 73).isSome = true := by kernel_rfl
theorem tk74 : tkB Try.prog 74 = some (false, 1) := by kernel_rfl
theorem z74 : zeroB Try.prog 74 = some Go.Value.nilFunc := by kernel_rfl
theorem rw74 : rowB Try.prog 74 = some (Go.Value.nilFunc, 1, 8) := by kernel_rfl
theorem un74 : (Try.prog.underlying 74).isSome = true := by kernel_rfl
theorem tk75 : tkB Try.prog 75 = some (false, 1) := by kernel_rfl
theorem z75 : zeroB Try.prog 75 = some Go.Value.nilFunc := by kernel_rfl
theorem rw75 : rowB Try.prog 75 = some (Go.Value.nilFunc, 1, 8) := by kernel_rfl
theorem un75 : (Try.prog.underlying 75).isSome = true := by kernel_rfl
theorem tk76 : tkB Try.prog 76 = some (false, 1) := by kernel_rfl
theorem z76 : zeroB Try.prog 76 = some Go.Value.nilFunc := by kernel_rfl
theorem rw76 : rowB Try.prog 76 = some (Go.Value.nilFunc, 1, 8) := by kernel_rfl
theorem un76 : (Try.prog.underlying 76).isSome = true := by kernel_rfl
theorem tk78 : tkB Try.prog 78 = some (false, 1) := by kernel_rfl
theorem z78 : zeroB Try.prog 78 = some Go.Value.nilFunc := by kernel_rfl
theorem rw78 : rowB Try.prog 78 = some (Go.Value.nilFunc, 1, 8) := by kernel_rfl
theorem un78 : (Try.prog.underlying 78).isSome = true := by kernel_rfl
theorem tk79 : tkB Try.prog 79 = some (false, 1) := by kernel_rfl
theorem z79 : zeroB Try.prog 79 = some Go.Value.nilFunc := by kernel_rfl
theorem rw79 : rowB Try.prog 79 = some (Go.Value.nilFunc, 1, 8) := by kernel_rfl
theorem un79 : (Try.prog.underlying 79).isSome = true := by kernel_rfl
theorem tk80 : tkB Try.prog 80 = some (false, 1) := by kernel_rfl
theorem z80 : zeroB Try.prog 80 = some Go.Value.nilFunc := by kernel_rfl
theorem rw80 : rowB Try.prog 80 = some (Go.Value.nilFunc, 1, 8) := by kernel_rfl
theorem un80 : (Try.prog.underlying 80).isSome = true := by kernel_rfl
theorem tk81 : tkB Try.prog 81 = some (false, 1) := by kernel_rfl
theorem z81 : zeroB Try.prog 81 = some Go.Value.nilFunc := by kernel_rfl
theorem rw81 : rowB Try.prog 81 = some (Go.Value.nilFunc, 1, 8) := by kernel_rfl
theorem un81 : (Try.prog.underlying 81).isSome = true := by kernel_rfl
theorem tk82 : tkB Try.prog 82 = some (false, 1) := by kernel_rfl
theorem z82 : zeroB Try.prog 82 = some Go.Value.nilFunc := by kernel_rfl
theorem rw82 : rowB Try.prog 82 = some (Go.Value.nilFunc, 1, 8) := by kernel_rfl
theorem un82 : (Try.prog.underlying 82).isSome = true := by kernel_rfl
theorem tk83 : tkB Try.prog 83 = some (false, 1) := by kernel_rfl
theorem z83 : zeroB Try.prog 83 = some (Go.Value.slice Option.none 0 0) := by kernel_rfl
theorem rw83 : rowB Try.prog 83 = some ((Go.Value.slice Option.none 0 0), 1, 24) := by kernel_rfl
theorem un83 : (Try.prog.underlying 83).isSome = true := by kernel_rfl
theorem tk85 : tkB Try.prog 85 = some (false, 1) := by kernel_rfl
theorem z85 : zeroB Try.prog 85 = some Go.Value.nilFunc := by kernel_rfl
theorem rw85 : rowB Try.prog 85 = some (Go.Value.nilFunc, 1, 8) := by kernel_rfl
theorem un85 : (Try.prog.underlying 85).isSome = true := by kernel_rfl
theorem tk86 : tkB Try.prog 86 = some (false, 1) := by kernel_rfl
theorem z86 : zeroB Try.prog 86 = some Go.Value.nilFunc := by kernel_rfl
theorem rw86 : rowB Try.prog 86 = some (Go.Value.nilFunc, 1, 8) := by kernel_rfl
theorem un86 : (Try.prog.underlying 86).isSome = true := by kernel_rfl
theorem tk87 : tkB Try.prog 87 = some (false, 1) := by kernel_rfl
theorem z87 : zeroB Try.prog 87 = some Go.Value.nilFunc := by kernel_rfl
theorem rw87 : rowB Try.prog 87 = some (Go.Value.nilFunc, 1, 8) := by kernel_rfl
theorem un87 : (Try.prog.underlying 87).isSome = true := by kernel_rfl
theorem tk88 : tkB Try.prog 88 = some (false, 1) := by kernel_rfl
theorem z88 : zeroB Try.prog 88 = some Go.Value.nilFunc := by kernel_rfl
theorem rw88 : rowB Try.prog 88 = some (Go.Value.nilFunc, 1, 8) := by kernel_rfl
theorem un88 : (Try.prog.underlying 88).isSome = true := by kernel_rfl
theorem tk90 : tkB Try.prog 90 = some (false, 1) := by kernel_rfl
theorem z90 : zeroB Try.prog 90 = some Go.Value.nilFunc := by kernel_rfl
theorem rw90 : rowB Try.prog 90 = some (Go.Value.nilFunc, 1, 8) := by kernel_rfl
theorem un90 : (Try.prog.underlying 90).isSome = true := by kernel_rfl
theorem tk91 : tkB Try.prog 91 = some (false, 1) := by kernel_rfl
theorem z91 : zeroB Try.prog 91 = some Go.Value.nilFunc := by kernel_rfl
theorem rw91 : rowB Try.prog 91 = some (Go.Value.nilFunc, 1, 8) := by kernel_rfl
theorem un91 : (Try.prog.underlying 91).isSome = true := by kernel_rfl
theorem tk92 : tkB Try.prog 92 = some (false, 1) := by kernel_rfl
theorem z92 : zeroB Try.prog 92 = some Go.Value.nilFunc := by kernel_rfl
theorem rw92 : rowB Try.prog 92 = some (Go.Value.nilFunc, 1, 8) := by kernel_rfl
theorem un92 : (Try.prog.underlying 92).isSome = true := by kernel_rfl
theorem tk93 : tkB Try.prog 93 = some (false, 1) := by kernel_rfl
theorem z93 : zeroB Try.prog 93 = some Go.Value.nilFunc := by kernel_rfl
theorem rw93 : rowB Try.prog 93 = some (Go.Value.nilFunc, 1, 8) := by kernel_rfl
theorem un93 : (Try.prog.underlying 93).isSome = true := by kernel_rfl
theorem tk94 : tkB Try.prog 94 = some (true, 2) := by kernel_rfl
theorem z94 : zeroB Try.prog 94 = some (Go.Value.agg #[(Go.Value.int Go.IntKind.i64 0), (Go.Value.int Go.IntKind.i64 0)]) := by kernel_rfl
theorem rw94 : rowB Try.prog 94 = some ((Go.Value.agg #[(Go.Value.int Go.IntKind.i64 0), (Go.Value.int Go.IntKind.i64 0)]), 2, 16) := by kernel_rfl
theorem un94 : (Try.prog.underlying 94).isSome = true := by kernel_rfl
theorem fo94_0 : foB Try.prog 94 0 = some 0 := by kernel_rfl
theorem tk95 : tkB Try.prog 95 = some (true, 2) := by kernel_rfl
theorem z95 : zeroB Try.prog 95 = some (Go.Value.agg #[(Go.Value.int Go.IntKind.i64 0), (Go.Value.int Go.IntKind.i64 0)]) := by kernel_rfl
theorem rw95 : rowB Try.prog 95 = some ((Go.Value.agg #[(Go.Value.int Go.IntKind.i64 0), (Go.Value.int Go.IntKind.i64 0)]), 2, 16) := by kernel_rfl
theorem un95 : (Try.prog.underlying 95).isSome = true := by kernel_rfl
theorem fo95_0 : foB Try.prog 95 0 = some 0 := by kernel_rfl
theorem tk96 : tkB Try.prog 96 = some (true, 3) := by kernel_rfl
theorem z96 : zeroB Try.prog 96 = some (Go.Value.agg #[(Go.Value.int Go.IntKind.i64 0), (Go.Value.int Go.IntKind.i64 0), (Go.Value.slice Option.none 0 0)]) := by kernel_rfl
theorem rw96 : rowB Try.prog 96 = some ((Go.Value.agg #[(Go.Value.int Go.IntKind.i64 0), (Go.Value.int Go.IntKind.i64 0), (Go.Value.slice Option.none 0 0)]), 3, 40) := by kernel_rfl
theorem un96 : (Try.prog.underlying 96).isSome = true := by kernel_rfl
theorem fo96_0 : foB Try.prog 96 0 = some 0 := by kernel_rfl
theorem fo96_1 : foB Try.prog 96 1 = some 2 := by kernel_rfl
theorem tk97 : tkB Try.prog 97 = some (true, 3) := by kernel_rfl
theorem z97 : zeroB Try.prog 97 = some (Go.Value.agg #[(Go.Value.int Go.IntKind.i64 0), (Go.Value.int Go.IntKind.i64 0), (Go.Value.slice Option.none 0 0)]) := by kernel_rfl
theorem rw97 : rowB Try.prog 97 = some ((Go.Value.agg #[(Go.Value.int Go.IntKind.i64 0), (Go.Value.int Go.IntKind.i64 0), (Go.Value.slice Option.none 0 0)]), 3, 40) := by kernel_rfl
theorem un97 : (Try.prog.underlying 97).isSome = true := by kernel_rfl
theorem fo97_0 : foB Try.prog 97 0 = some 0 := by kernel_rfl
theorem fo97_1 : foB Try.prog 97 1 = some 2 := by kernel_rfl
theorem tk98 : tkB Try.prog 98 = some (false, 1) := by kernel_rfl
theorem z98 : zeroB Try.prog 98 = some Go.Value.nilFunc := by kernel_rfl
theorem rw98 : rowB Try.prog 98 = some (Go.Value.nilFunc, 1, 8) := by kernel_rfl
theorem un98 : (Try.prog.underlying 98).isSome = true := by kernel_rfl
theorem tk99 : tkB Try.prog 99 = some (false, 1) := by kernel_rfl
theorem z99 : zeroB Try.prog 99 = some Go.Value.nilFunc := by kernel_rfl
theorem rw99 : rowB Try.prog 99 = some (Go.Value.nilFunc, 1, 8) := by kernel_rfl
theorem un99 : (Try.prog.underlying 99).isSome = true := by kernel_rfl
theorem tk100 : tkB Try.prog 100 = some (false, 1) := by kernel_rfl
theorem z100 : zeroB Try.prog 100 = some Go.Value.nilFunc := by kernel_rfl
theorem rw100 : rowB Try.prog 100 = some (Go.Value.nilFunc, 1, 8) := by kernel_rfl
theorem un100 : (Try.prog.underlying 100).isSome = true := by kernel_rfl
theorem tk101 : tkB Try.prog 101 = some (false, 1) := by kernel_rfl
theorem z101 : zeroB Try.prog 101 = some Go.Value.nilFunc := by kernel_rfl
theorem rw101 : rowB Try.prog 101 = some (Go.Value.nilFunc, 1, 8) := by kernel_rfl
theorem un101 : (Try.prog.underlying 101).isSome = true := by kernel_rfl
theorem tk102 : tkB Try.prog 102 = some (false, 1) := by kernel_rfl
theorem z102 : zeroB Try.prog 102 = some Go.Value.nilFunc := by kernel_rfl
theorem rw102 : rowB Try.prog 102 = some (Go.Value.nilFunc, 1, 8) := by kernel_rfl
theorem un102 : (Try.prog.underlying 102).isSome = true := by kernel_rfl
theorem tk103 : tkB Try.prog 103 = some (false, 1) := by kernel_rfl
theorem z103 : zeroB Try.prog 103 = some Go.Value.nilFunc := by kernel_rfl
theorem rw103 : rowB Try.prog 103 = some (Go.Value.nilFunc, 1, 8) := by kernel_rfl
theorem un103 : (Try.prog.underlying 103).isSome = true := by kernel_rfl
theorem tk104 : tkB Try.prog 104 = some (false, 1) := by kernel_rfl
theorem z104 : zeroB Try.prog 104 = some Go.Value.nilFunc := by kernel_rfl
theorem rw104 : rowB Try.prog 104 = some (Go.Value.nilFunc, 1, 8) := by kernel_rfl
theorem un104 : (Try.prog.underlying 104).isSome = true := by kernel_rfl
theorem tk105 : tkB Try.prog 105 = some (false, 1) := by kernel_rfl
theorem z105 : zeroB Try.prog 105 = some (Go.Value.slice Option.none 0 0) := by kernel_rfl
theorem rw105 : rowB Try.prog 105 = some ((Go.Value.slice Option.none 0 0), 1, 24) := by kernel_rfl
theorem un105 : (Try.prog.underlying 105).isSome = true := by kernel_rfl
theorem tk106 : tkB Try.prog 106 = some (false, 1) := by kernel_rfl
theorem z106 : zeroB Try.prog 106 = some Go.Value.nilFunc := by kernel_rfl
theorem rw106 : rowB Try.prog 106 = some (Go.Value.nilFunc, 1, 8) := by kernel_rfl
theorem un106 : (Try.prog.underlying 106).isSome = true := by kernel_rfl
theorem tk107 : tkB Try.prog 107 = some (false, 1) := by kernel_rfl
theorem z107 : zeroB Try.prog 107 = some Go.Value.nilFunc := by kernel_rfl
theorem rw107 : rowB Try.prog 107 = some (Go.Value.nilFunc, 1, 8) := by kernel_rfl
theorem un107 : (Try.prog.underlying 107).isSome = true := by kernel_rfl
theorem tk108 : tkB Try.prog 108 = some (false, 1) := by kernel_rfl
theorem z108 : zeroB Try.prog 108 = some Go.Value.nilFunc := by kernel_rfl
theorem rw108 : rowB Try.prog 108 = some (Go.Value.nilFunc, 1, 8) := by kernel_rfl
theorem un108 : (Try.prog.underlying 108).isSome = true := by kernel_rfl
theorem tk109 : tkB Try.prog 109 = some (false, 1) := by kernel_rfl
theorem z109 : zeroB Try.prog 109 = some Go.Value.nilFunc := by kernel_rfl
theorem rw109 : rowB Try.prog 109 = some (Go.Value.nilFunc, 1, 8) := by kernel_rfl
theorem un109 : (Try.prog.underlying 109).isSome = true := by kernel_rfl
theorem tk110 : tkB Try.prog 110 = some (false, 1) := by kernel_rfl
theorem z110 : zeroB Try.prog 110 = some Go.Value.nilFunc := by kernel_rfl
theorem rw110 : rowB Try.prog 110 = some (Go.Value.nilFunc, 1, 8) := by kernel_rfl
theorem un110 : (Try.prog.underlying 110).isSome = true := by kernel_rfl
theorem tk111 : tkB Try.prog 111 = some (false, 1) := by kernel_rfl
theorem z111 : zeroB Try.prog 111 = some Go.Value.nilFunc := by kernel_rfl
theorem rw111 : rowB Try.prog 111 = some (Go.Value.nilFunc, 1, 8) := by kernel_rfl
theorem un111 : (Try.prog.underlying 111).isSome = true := by kernel_rfl
theorem tk112 : tkB Try.prog 112 = some (false, 1) := by kernel_rfl
theorem z112 : zeroB Try.prog 112 = some (Go.Value.int Go.IntKind.u64 0) := by kernel_rfl
theorem rw112 : rowB Try.prog 112 = some ((Go.Value.int Go.IntKind.u64 0), 1, 8) := by kernel_rfl
theorem un112 : (Try.prog.underlying 112).isSome = true := by kernel_rfl
theorem tk113 : tkB Try.prog 113 = some (false, 1) := by kernel_rfl
theorem z113 : zeroB Try.prog 113 = some (Go.Value.map Option.none) := by kernel_rfl
theorem rw113 : rowB Try.prog 113 = some ((Go.Value.map Option.none), 1, 8) := by kernel_rfl
theorem un113 : (Try.prog.underlying 113).isSome = true := by kernel_rfl
theorem tk114 : tkB Try.prog 114 = some (false, 1) := by kernel_rfl
theorem z114 : zeroB Try.prog 114 = some Go.Value.nilFunc := by kernel_rfl
theorem rw114 : rowB Try.prog 114 = some (Go.Value.nilFunc, 1, 8) := by kernel_rfl
theorem un114 : (Try.prog.underlying 114).isSome = true := by kernel_rfl
theorem tk115 : tkB Try.prog 115 = some (false, 1) := by kernel_rfl
theorem z115 : zeroB Try.prog 115 = some Go.Value.nilFunc := by kernel_rfl
theorem rw115 : rowB Try.prog 115 = some (Go.Value.nilFunc, 1, 8) := by kernel_rfl
theorem un115 : (Try.prog.underlying 115).isSome = true := by kernel_rfl
theorem tk117 : tkB Try.prog 117 = some (false, 1) := by kernel_rfl
theorem z117 : zeroB Try.prog 117 = some Go.Value.nilFunc := by kernel_rfl
theorem rw117 : rowB Try.prog 117 = some (Go.Value.nilFunc, 1, 8) := by kernel_rfl
theorem un117 : (Try.prog.underlying 117).isSome = true := by kernel_rfl
theorem tk118 : tkB Try.prog 118 = some (false, 1) := by kernel_rfl
theorem z118 : zeroB Try.prog 118 = some Go.Value.nilFunc := by kernel_rfl
theorem rw118 : rowB Try.prog 118 = some (Go.Value.nilFunc, 1, 8) := by kernel_rfl
theorem un118 : (Try.prog.underlying 118).isSome = true := by kernel_rfl
theorem tk119 : tkB Try.prog 119 = some (false, 1) := by kernel_rfl
theorem z119 : zeroB Try.prog 119 = some Go.Value.nilFunc := by kernel_rfl
theorem rw119 : rowB Try.prog 119 = some (Go.Value.nilFunc, 1, 8) := by kernel_rfl
theorem un119 : (Try.prog.underlying 119).isSome = true := by kernel_rfl
theorem tk120 : tkB Try.prog 120 = some (false, 1) := by kernel_rfl
theorem z120 : zeroB Try.prog 120 = some Go.Value.nilFunc := by kernel_rfl
theorem rw120 : rowB Try.prog 120 = some (Go.Value.nilFunc, 1, 8) := by kernel_rfl
theorem un120 : (Try.prog.underlying 120).isSome = true := by kernel_rfl
theorem tk121 : tkB Try.prog 121 = some (false, 1) := by kernel_rfl
theorem z121 : zeroB Try.prog 121 = some Go.Value.nilFunc := by kernel_rfl
theorem rw121 : rowB Try.prog 121 = some (Go.Value.nilFunc, 1, 8) := by kernel_rfl
theorem un121 : (Try.prog.underlying 121).isSome = true := by kernel_rfl
theorem tk122 : tkB Try.prog 122 = some (false, 1) := by kernel_rfl
theorem z122 : zeroB Try.prog 122 = some Go.Value.nilFunc := by kernel_rfl
theorem rw122 : rowB Try.prog 122 = some (Go.Value.nilFunc, 1, 8) := by kernel_rfl
theorem un122 : (Try.prog.underlying 122).isSome = true := by kernel_rfl
theorem tk123 : tkB Try.prog 123 = some (false, 1) := by kernel_rfl
theorem z123 : zeroB Try.prog 123 = some Go.Value.nilFunc := by kernel_rfl
theorem rw123 : rowB Try.prog 123 = some (Go.Value.nilFunc, 1, 8) := by kernel_rfl
theorem un123 : (Try.prog.underlying 123).isSome = true := by kernel_rfl
theorem tk124 : tkB Try.prog 124 = some (false, 1) := by kernel_rfl
theorem z124 : zeroB Try.prog 124 = some Go.Value.nilFunc := by kernel_rfl
theorem rw124 : rowB Try.prog 124 = some (Go.Value.nilFunc, 1, 8) := by kernel_rfl
theorem un124 : (Try.prog.underlying 124).isSome = true := by kernel_rfl
theorem tk125 : tkB Try.prog 125 = some (true, 1) := by kernel_rfl
theorem z125 : zeroB Try.prog 125 = some (Go.Value.agg #[(Go.Value.int Go.IntKind.i64 0)]) := by kernel_rfl
theorem rw125 : rowB Try.prog 125 = some ((Go.Value.agg #[(Go.Value.int Go.IntKind.i64 0)]), 1, 8) := by kernel_rfl
theorem un125 : (Try.prog.underlying 125).isSome = true := by kernel_rfl
theorem fo125_0 : foB Try.prog 125 0 = some 0 := by kernel_rfl
theorem tk126 : tkB Try.prog 126 = some (true, 1) := by kernel_rfl
theorem z126 : zeroB Try.prog 126 = some (Go.Value.agg #[(Go.Value.int Go.IntKind.i64 0)]) := by kernel_rfl
theorem rw126 : rowB Try.prog 126 = some ((Go.Value.agg #[(Go.Value.int Go.IntKind.i64 0)]), 1, 8) := by kernel_rfl
theorem un126 : (Try.prog.underlying 126).isSome = true := by kernel_rfl
theorem fo126_0 : foB Try.prog 126 0 = some 0 := by kernel_rfl
theorem tk128 : tkB Try.prog 128 = some (false, 1) := by kernel_rfl
theorem z128 : zeroB Try.prog 128 = some Go.Value.nilFunc := by kernel_rfl
theorem rw128 : rowB Try.prog 128 = some (Go.Value.nilFunc, 1, 8) := by kernel_rfl
theorem un128 : (Try.prog.underlying 128).isSome = true := by kernel_rfl
theorem tk129 : tkB Try.prog 129 = some (false, 1) := by kernel_rfl
theorem z129 : zeroB Try.prog 129 = some Go.Value.nilFunc := by kernel_rfl
theorem rw129 : rowB Try.prog 129 = some (Go.Value.nilFunc, 1, 8) := by kernel_rfl
theorem un129 : (Try.prog.underlying 129).isSome = true := by kernel_rfl
theorem tk130 : tkB Try.prog 130 = some (false, 1) := by kernel_rfl
theorem z130 : zeroB Try.prog 130 = some Go.Value.nilFunc := by kernel_rfl
theorem rw130 : rowB Try.prog 130 = some (Go.Value.nilFunc, 1, 8) := by kernel_rfl
theorem un130 : (Try.prog.underlying 130).isSome = true := by kernel_rfl
theorem tk131 : tkB Try.prog 131 = some (false, 1) := by kernel_rfl
theorem z131 : zeroB Try.prog 131 = some Go.Value.nilFunc := by kernel_rfl
theorem rw131 : rowB Try.prog 131 = some (Go.Value.nilFunc, 1, 8) := by kernel_rfl
theorem un131 : (Try.prog.underlying 131).isSome = true := by kernel_rfl
theorem tk132 : tkB Try.prog 132 = some (true, 4) := by kernel_rfl
theorem z132 : zeroB Try.prog 132 = some (Go.Value.agg #[(Go.Value.pointer Option.none), (Go.Value.pointer Option.none), (Go.Value.pointer Option.none), (Go.Value.string (ByteArray.mk #[]))]) := by kernel_rfl
theorem rw132 : rowB Try.prog 132 = some ((Go.Value.agg #[(Go.Value.pointer Option.none), (Go.Value.pointer Option.none), (Go.Value.pointer Option.none), (Go.Value.string (ByteArray.mk #[]))]), 4, 40) := by kernel_rfl
theorem un132 : (Try.prog.underlying 132).isSome = true := by kernel_rfl
theorem fo132_0 : foB Try.prog 132 0 = some 0 := by kernel_rfl
theorem fo132_1 : foB Try.prog 132 1 = some 1 := by kernel_rfl
theorem fo132_2 : foB Try.prog 132 2 = some 2 := by kernel_rfl
theorem fo132_3 : foB Try.prog 132 3 = some 3 := by kernel_rfl
theorem tk133 : tkB Try.prog 133 = some (true, 4) := by kernel_rfl
theorem z133 : zeroB Try.prog 133 = some (Go.Value.agg #[(Go.Value.pointer Option.none), (Go.Value.pointer Option.none), (Go.Value.pointer Option.none), (Go.Value.string (ByteArray.mk #[]))]) := by kernel_rfl
theorem rw133 : rowB Try.prog 133 = some ((Go.Value.agg #[(Go.Value.pointer Option.none), (Go.Value.pointer Option.none), (Go.Value.pointer Option.none), (Go.Value.string (ByteArray.mk #[]))]), 4, 40) := by kernel_rfl
theorem un133 : (Try.prog.underlying 133).isSome = true := by kernel_rfl
theorem fo133_0 : foB Try.prog 133 0 = some 0 := by kernel_rfl
theorem fo133_1 : foB Try.prog 133 1 = some 1 := by kernel_rfl
theorem fo133_2 : foB Try.prog 133 2 = some 2 := by kernel_rfl
theorem fo133_3 : foB Try.prog 133 3 = some 3 := by kernel_rfl
theorem tk134 : tkB Try.prog 134 = some (true, 0) := by kernel_rfl
theorem z134 : zeroB Try.prog 134 = some (Go.Value.agg #[]) := by kernel_rfl
theorem rw134 : rowB Try.prog 134 = some ((Go.Value.agg #[]), 0, 0) := by kernel_rfl
theorem un134 : (Try.prog.underlying 134).isSome = true := by kernel_rfl
theorem tk135 : tkB Try.prog 135 = some (true, 0) := by kernel_rfl
theorem z135 : zeroB Try.prog 135 = some (Go.Value.agg #[]) := by kernel_rfl
theorem rw135 : rowB Try.prog 135 = some ((Go.Value.agg #[]), 0, 0) := by kernel_rfl
theorem un135 : (Try.prog.underlying 135).isSome = true := by kernel_rfl
theorem tk136 : tkB Try.prog 136 = some (true, 0) := by kernel_rfl
theorem z136 : zeroB Try.prog 136 = some (Go.Value.agg #[]) := by kernel_rfl
theorem rw136 : rowB Try.prog 136 = some ((Go.Value.agg #[]), 0, 0) := by kernel_rfl
theorem un136 : (Try.prog.underlying 136).isSome = true := by kernel_rfl
theorem tk137 : tkB Try.prog 137 = some (false, 1) := by kernel_rfl
theorem z137 : zeroB Try.prog 137 = some Go.Value.nilFunc := by kernel_rfl
theorem rw137 : rowB Try.prog 137 = some (Go.Value.nilFunc, 1, 8) := by kernel_rfl
theorem un137 : (Try.prog.underlying 137).isSome = true := by kernel_rfl
theorem tk138 : tkB Try.prog 138 = some (false, 1) := by kernel_rfl
theorem z138 : zeroB Try.prog 138 = some (Go.Value.int Go.IntKind.u32 0) := by kernel_rfl
theorem rw138 : rowB Try.prog 138 = some ((Go.Value.int Go.IntKind.u32 0), 1, 4) := by kernel_rfl
theorem un138 : (Try.prog.underlying 138).isSome = true := by kernel_rfl
theorem tk139 : tkB Try.prog 139 = some (false, 1) := by kernel_rfl
theorem z139 : zeroB Try.prog 139 = some (Go.Value.int Go.IntKind.u8 0) := by kernel_rfl
theorem rw139 : rowB Try.prog 139 = some ((Go.Value.int Go.IntKind.u8 0), 1, 1) := by kernel_rfl
theorem un139 : (Try.prog.underlying 139).isSome = true := by kernel_rfl
theorem tk140 : tkB Try.prog 140 = some (false, 1) := by kernel_rfl
theorem z140 : zeroB Try.prog 140 = some (Go.Value.int Go.IntKind.u8 0) := by kernel_rfl
theorem rw140 : rowB Try.prog 140 = some ((Go.Value.int Go.IntKind.u8 0), 1, 1) := by kernel_rfl
theorem un140 : (Try.prog.underlying 140).isSome = true := by kernel_rfl
theorem tk141 : tkB Try.prog 141 = some (false, 1) := by kernel_rfl
theorem z141 : zeroB Try.prog 141 = some Go.Value.nilFunc := by kernel_rfl
theorem rw141 : rowB Try.prog 141 = some (Go.Value.nilFunc, 1, 8) := by kernel_rfl
theorem un141 : (Try.prog.underlying 141).isSome = true := by kernel_rfl
theorem tk142 : tkB Try.prog 142 = some (false, 1) := by kernel_rfl
theorem z142 : zeroB Try.prog 142 = some (Go.Value.pointer Option.none) := by kernel_rfl
theorem rw142 : rowB Try.prog 142 = some ((Go.Value.pointer Option.none), 1, 8) := by kernel_rfl
theorem un142 : (Try.prog.underlying 142).isSome = true := by kernel_rfl
theorem tk143 : tkB Try.prog 143 = some (false, 1) := by kernel_rfl
theorem z143 : zeroB Try.prog 143 = some (Go.Value.int Go.IntKind.i32 0) := by kernel_rfl
theorem rw143 : rowB Try.prog 143 = some ((Go.Value.int Go.IntKind.i32 0), 1, 4) := by kernel_rfl
theorem un143 : (Try.prog.underlying 143).isSome = true := by kernel_rfl
theorem tk144 : tkB Try.prog 144 = some (false, 1) := by kernel_rfl
theorem z144 : zeroB Try.prog 144 = some (Go.Value.int Go.IntKind.i32 0) := by kernel_rfl
theorem rw144 : rowB Try.prog 144 = some ((Go.Value.int Go.IntKind.i32 0), 1, 4) := by kernel_rfl
theorem un144 : (Try.prog.underlying 144).isSome = true := by kernel_rfl
theorem tk145 : tkB Try.prog 145 = some (true, 11) := by kernel_rfl
theorem z145 : zeroB Try.prog 145 = some (Go.Value.agg #[(Go.Value.int Go.IntKind.u64 0), (Go.Value.int Go.IntKind.u64 0), (Go.Value.int Go.IntKind.u32 0), (Go.Value.int Go.IntKind.u8 0), (Go.Value.int Go.IntKind.u8 0), (Go.Value.int Go.IntKind.u8 0), (Go.Value.int Go.IntKind.u8 0), Go.Value.nilFunc, (Go.Value.pointer Option.none), (Go.Value.int Go.IntKind.i32 0), (Go.Value.int Go.IntKind.i32 0)]) := by kernel_rfl
theorem rw145 : rowB Try.prog 145 = some ((Go.Value.agg #[(Go.Value.int Go.IntKind.u64 0), (Go.Value.int Go.IntKind.u64 0), (Go.Value.int Go.IntKind.u32 0), (Go.Value.int Go.IntKind.u8 0), (Go.Value.int Go.IntKind.u8 0), (Go.Value.int Go.IntKind.u8 0), (Go.Value.int Go.IntKind.u8 0), Go.Value.nilFunc, (Go.Value.pointer Option.none), (Go.Value.int Go.IntKind.i32 0), (Go.Value.int Go.IntKind.i32 0)]), 11, 48) := by kernel_rfl
theorem un145 : (Try.prog.underlying 145).isSome = true := by kernel_rfl
theorem fo145_0 : foB Try.prog 145 0 = some 0 := by kernel_rfl
theorem fo145_1 : foB Try.prog 145 1 = some 1 := by kernel_rfl
theorem fo145_2 : foB Try.prog 145 2 = some 2 := by kernel_rfl
theorem fo145_3 : foB Try.prog 145 3 = some 3 := by kernel_rfl
theorem fo145_4 : foB Try.prog 145 4 = some 4 := by kernel_rfl
theorem fo145_5 : foB Try.prog 145 5 = some 5 := by kernel_rfl
theorem fo145_6 : foB Try.prog 145 6 = some 6 := by kernel_rfl
theorem fo145_7 : foB Try.prog 145 7 = some 7 := by kernel_rfl
theorem fo145_8 : foB Try.prog 145 8 = some 8 := by kernel_rfl
theorem fo145_9 : foB Try.prog 145 9 = some 9 := by kernel_rfl
theorem fo145_10 : foB Try.prog 145 10 = some 10 := by kernel_rfl
theorem tk146 : tkB Try.prog 146 = some (true, 11) := by kernel_rfl
theorem z146 : zeroB Try.prog 146 = some (Go.Value.agg #[(Go.Value.int Go.IntKind.u64 0), (Go.Value.int Go.IntKind.u64 0), (Go.Value.int Go.IntKind.u32 0), (Go.Value.int Go.IntKind.u8 0), (Go.Value.int Go.IntKind.u8 0), (Go.Value.int Go.IntKind.u8 0), (Go.Value.int Go.IntKind.u8 0), Go.Value.nilFunc, (Go.Value.pointer Option.none), (Go.Value.int Go.IntKind.i32 0), (Go.Value.int Go.IntKind.i32 0)]) := by kernel_rfl
theorem rw146 : rowB Try.prog 146 = some ((Go.Value.agg #[(Go.Value.int Go.IntKind.u64 0), (Go.Value.int Go.IntKind.u64 0), (Go.Value.int Go.IntKind.u32 0), (Go.Value.int Go.IntKind.u8 0), (Go.Value.int Go.IntKind.u8 0), (Go.Value.int Go.IntKind.u8 0), (Go.Value.int Go.IntKind.u8 0), Go.Value.nilFunc, (Go.Value.pointer Option.none), (Go.Value.int Go.IntKind.i32 0), (Go.Value.int Go.IntKind.i32 0)]), 11, 48) := by kernel_rfl
theorem un146 : (Try.prog.underlying 146).isSome = true := by kernel_rfl
theorem fo146_0 : foB Try.prog 146 0 = some 0 := by kernel_rfl
theorem fo146_1 : foB Try.prog 146 1 = some 1 := by kernel_rfl
theorem fo146_2 : foB Try.prog 146 2 = some 2 := by kernel_rfl
theorem fo146_3 : foB Try.prog 146 3 = some 3 := by kernel_rfl
theorem fo146_4 : foB Try.prog 146 4 = some 4 := by kernel_rfl
theorem fo146_5 : foB Try.prog 146 5 = some 5 := by kernel_rfl
theorem fo146_6 : foB Try.prog 146 6 = some 6 := by kernel_rfl
theorem fo146_7 : foB Try.prog 146 7 = some 7 := by kernel_rfl
theorem fo146_8 : foB Try.prog 146 8 = some 8 := by kernel_rfl
theorem fo146_9 : foB Try.prog 146 9 = some 9 := by kernel_rfl
theorem fo146_10 : foB Try.prog 146 10 = some 10 := by kernel_rfl
theorem tk147 : tkB Try.prog 147 = some (false, 1) := by kernel_rfl
theorem z147 : zeroB Try.prog 147 = some (Go.Value.pointer Option.none) := by kernel_rfl
theorem rw147 : rowB Try.prog 147 = some ((Go.Value.pointer Option.none), 1, 8) := by kernel_rfl
theorem un147 : (Try.prog.underlying 147).isSome = true := by kernel_rfl
theorem ok2 : CallOk Try.prog 2 := callOk_of Try.func2 (by kernel_rfl) (by kernel_rfl)
theorem ok3 : CallOk Try.prog 3 := callOk_of Try.func3 (by kernel_rfl) (by kernel_rfl)
theorem ok4 : CallOk Try.prog 4 := callOk_of Try.func4 (by kernel_rfl) (by kernel_rfl)
theorem ok5 : CallOk Try.prog 5 := callOk_of Try.func5 (by kernel_rfl) (by kernel_rfl)
theorem ok6 : CallOk Try.prog 6 := callOk_of Try.func6 (by kernel_rfl) (by kernel_rfl)
theorem ok7 : CallOk Try.prog 7 := callOk_of Try.func7 (by kernel_rfl) (by kernel_rfl)
theorem ok8 : CallOk Try.prog 8 := callOk_of Try.func8 (by kernel_rfl) (by kernel_rfl)
theorem ok9 : CallOk Try.prog 9 := callOk_of Try.func9 (by kernel_rfl) (by kernel_rfl)
theorem ok10 : CallOk Try.prog 10 := callOk_of Try.func10 (by kernel_rfl) (by kernel_rfl)
theorem ok11 : CallOk Try.prog 11 := callOk_of Try.func11 (by kernel_rfl) (by kernel_rfl)
theorem ok12 : CallOk Try.prog 12 := callOk_of Try.func12 (by kernel_rfl) (by kernel_rfl)
theorem ok13 : CallOk Try.prog 13 := callOk_of Try.func13 (by kernel_rfl) (by kernel_rfl)
theorem ok14 : CallOk Try.prog 14 := callOk_of Try.func14 (by kernel_rfl) (by kernel_rfl)
theorem ok15 : CallOk Try.prog 15 := callOk_of Try.func15 (by kernel_rfl) (by kernel_rfl)
theorem ok16 : CallOk Try.prog 16 := callOk_of Try.func16 (by kernel_rfl) (by kernel_rfl)
theorem ok17 : CallOk Try.prog 17 := callOk_of Try.func17 (by kernel_rfl) (by kernel_rfl)
theorem ok18 : CallOk Try.prog 18 := callOk_of Try.func18 (by kernel_rfl) (by kernel_rfl)
theorem ok19 : CallOk Try.prog 19 := callOk_of Try.func19 (by kernel_rfl) (by kernel_rfl)
theorem ok20 : CallOk Try.prog 20 := callOk_of Try.func20 (by kernel_rfl) (by kernel_rfl)
theorem ok21 : CallOk Try.prog 21 := callOk_of Try.func21 (by kernel_rfl) (by kernel_rfl)
theorem ok22 : CallOk Try.prog 22 := callOk_of Try.func22 (by kernel_rfl) (by kernel_rfl)
theorem ok23 : CallOk Try.prog 23 := callOk_of Try.func23 (by kernel_rfl) (by kernel_rfl)
theorem ok24 : CallOk Try.prog 24 := callOk_of Try.func24 (by kernel_rfl) (by kernel_rfl)
theorem ok25 : CallOk Try.prog 25 := callOk_of Try.func25 (by kernel_rfl) (by kernel_rfl)
theorem ok26 : CallOk Try.prog 26 := callOk_of Try.func26 (by kernel_rfl) (by kernel_rfl)
theorem ok27 : CallOk Try.prog 27 := callOk_of Try.func27 (by kernel_rfl) (by kernel_rfl)
theorem ok28 : CallOk Try.prog 28 := callOk_of Try.func28 (by kernel_rfl) (by kernel_rfl)
theorem ok29 : CallOk Try.prog 29 := callOk_of Try.func29 (by kernel_rfl) (by kernel_rfl)
theorem ok30 : CallOk Try.prog 30 := callOk_of Try.func30 (by kernel_rfl) (by kernel_rfl)
theorem ok31 : CallOk Try.prog 31 := callOk_of Try.func31 (by kernel_rfl) (by kernel_rfl)
theorem ok32 : CallOk Try.prog 32 := callOk_of Try.func32 (by kernel_rfl) (by kernel_rfl)
theorem ok33 : CallOk Try.prog 33 := callOk_of Try.func33 (by kernel_rfl) (by kernel_rfl)
theorem ok34 : CallOk Try.prog 34 := callOk_of Try.func34 (by kernel_rfl) (by kernel_rfl)
theorem ok35 : CallOk Try.prog 35 := callOk_of Try.func35 (by kernel_rfl) (by kernel_rfl)
theorem ok36 : CallOk Try.prog 36 := callOk_of Try.func36 (by kernel_rfl) (by kernel_rfl)
theorem ok37 : CallOk Try.prog 37 := callOk_of Try.func37 (by kernel_rfl) (by kernel_rfl)
theorem ok38 : CallOk Try.prog 38 := callOk_of Try.func38 (by kernel_rfl) (by kernel_rfl)
theorem ok39 : CallOk Try.prog 39 := callOk_of Try.func39 (by kernel_rfl) (by kernel_rfl)
theorem ok40 : CallOk Try.prog 40 := callOk_of Try.func40 (by kernel_rfl) (by kernel_rfl)
theorem ok41 : CallOk Try.prog 41 := callOk_of Try.func41 (by kernel_rfl) (by kernel_rfl)
theorem ok42 : CallOk Try.prog 42 := callOk_of Try.func42 (by kernel_rfl) (by kernel_rfl)
theorem ok43 : CallOk Try.prog 43 := callOk_of Try.func43 (by kernel_rfl) (by kernel_rfl)
theorem ok44 : CallOk Try.prog 44 := callOk_of Try.func44 (by kernel_rfl) (by kernel_rfl)
theorem ok45 : CallOk Try.prog 45 := callOk_of Try.func45 (by kernel_rfl) (by kernel_rfl)
theorem ok46 : CallOk Try.prog 46 := callOk_of Try.func46 (by kernel_rfl) (by kernel_rfl)
theorem ok47 : CallOk Try.prog 47 := callOk_of Try.func47 (by kernel_rfl) (by kernel_rfl)
theorem ok48 : CallOk Try.prog 48 := callOk_of Try.func48 (by kernel_rfl) (by kernel_rfl)
theorem ok49 : CallOk Try.prog 49 := callOk_of Try.func49 (by kernel_rfl) (by kernel_rfl)
theorem ok50 : CallOk Try.prog 50 := callOk_of Try.func50 (by kernel_rfl) (by kernel_rfl)
theorem ok51 : CallOk Try.prog 51 := callOk_of Try.func51 (by kernel_rfl) (by kernel_rfl)
theorem ok52 : CallOk Try.prog 52 := callOk_of Try.func52 (by kernel_rfl) (by kernel_rfl)
theorem ok53 : CallOk Try.prog 53 := callOk_of Try.func53 (by kernel_rfl) (by kernel_rfl)
theorem ok54 : CallOk Try.prog 54 := callOk_of Try.func54 (by kernel_rfl) (by kernel_rfl)
theorem ok55 : CallOk Try.prog 55 := callOk_of Try.func55 (by kernel_rfl) (by kernel_rfl)
theorem ok56 : CallOk Try.prog 56 := callOk_of Try.func56 (by kernel_rfl) (by kernel_rfl)
theorem ok57 : CallOk Try.prog 57 := callOk_of Try.func57 (by kernel_rfl) (by kernel_rfl)
theorem ok58 : CallOk Try.prog 58 := callOk_of Try.func58 (by kernel_rfl) (by kernel_rfl)
theorem ok59 : CallOk Try.prog 59 := callOk_of Try.func59 (by kernel_rfl) (by kernel_rfl)
theorem ok60 : CallOk Try.prog 60 := callOk_of Try.func60 (by kernel_rfl) (by kernel_rfl)
theorem ok61 : CallOk Try.prog 61 := callOk_of Try.func61 (by kernel_rfl) (by kernel_rfl)
theorem ok62 : CallOk Try.prog 62 := callOk_of Try.func62 (by kernel_rfl) (by kernel_rfl)
theorem ok63 : CallOk Try.prog 63 := callOk_of Try.func63 (by kernel_rfl) (by kernel_rfl)
theorem ok64 : CallOk Try.prog 64 := callOk_of Try.func64 (by kernel_rfl) (by kernel_rfl)
theorem ok65 : CallOk Try.prog 65 := callOk_of Try.func65 (by kernel_rfl) (by kernel_rfl)
theorem ok66 : CallOk Try.prog 66 := callOk_of Try.func66 (by kernel_rfl) (by kernel_rfl)
theorem ok67 : CallOk Try.prog 67 := callOk_of Try.func67 (by kernel_rfl) (by kernel_rfl)
theorem ok68 : CallOk Try.prog 68 := callOk_of Try.func68 (by kernel_rfl) (by kernel_rfl)
theorem ok69 : CallOk Try.prog 69 := callOk_of Try.func69 (by kernel_rfl) (by kernel_rfl)
theorem ok70 : CallOk Try.prog 70 := callOk_of Try.func70 (by kernel_rfl) (by kernel_rfl)
theorem ok71 : CallOk Try.prog 71 := callOk_of Try.func71 (by kernel_rfl) (by kernel_rfl)
theorem ok72 : CallOk Try.prog 72 := callOk_of Try.func72 (by kernel_rfl) (by kernel_rfl)
theorem ok73 : CallOk Try.prog 73 := callOk_of Try.func73 (by kernel_rfl) (by kernel_rfl)
theorem ok74 : CallOk Try.prog 74 := callOk_of Try.func74 (by kernel_rfl) (by kernel_rfl)
theorem ok75 : CallOk Try.prog 75 := callOk_of Try.func75 (by kernel_rfl) (by kernel_rfl)
theorem ok76 : CallOk Try.prog 76 := callOk_of Try.func76 (by kernel_rfl) (by kernel_rfl)
theorem ok77 : CallOk Try.prog 77 := callOk_of Try.func77 (by kernel_rfl) (by kernel_rfl)
theorem ok78 : CallOk Try.prog 78 := callOk_of Try.func78 (by kernel_rfl) (by kernel_rfl)
theorem ok79 : CallOk Try.prog 79 := callOk_of Try.func79 (by kernel_rfl) (by kernel_rfl)
theorem ok80 : CallOk Try.prog 80 := callOk_of Try.func80 (by kernel_rfl) (by kernel_rfl)
theorem ok81 : CallOk Try.prog 81 := callOk_of Try.func81 (by kernel_rfl) (by kernel_rfl)
theorem ok82 : CallOk Try.prog 82 := callOk_of Try.func82 (by kernel_rfl) (by kernel_rfl)
theorem ok83 : CallOk Try.prog 83 := callOk_of Try.func83 (by kernel_rfl) (by kernel_rfl)
theorem ok84 : CallOk Try.prog 84 := callOk_of Try.func84 (by kernel_rfl) (by kernel_rfl)
theorem ok85 : CallOk Try.prog 85 := callOk_of Try.func85 (by kernel_rfl) (by kernel_rfl)
theorem ok86 : CallOk Try.prog 86 := callOk_of Try.func86 (by kernel_rfl) (by kernel_rfl)
theorem ok87 : CallOk Try.prog 87 := callOk_of Try.func87 (by kernel_rfl) (by kernel_rfl)
theorem ok88 : CallOk Try.prog 88 := callOk_of Try.func88 (by kernel_rfl) (by kernel_rfl)
theorem ok89 : CallOk Try.prog 89 := callOk_of Try.func89 (by kernel_rfl) (by kernel_rfl)
theorem ok90 : CallOk Try.prog 90 := callOk_of Try.func90 (by kernel_rfl) (by kernel_rfl)
theorem ok91 : CallOk Try.prog 91 := callOk_of Try.func91 (by kernel_rfl) (by kernel_rfl)
theorem ok92 : CallOk Try.prog 92 := callOk_of Try.func92 (by kernel_rfl) (by kernel_rfl)
theorem ok93 : CallOk Try.prog 93 := callOk_of Try.func93 (by kernel_rfl) (by kernel_rfl)
theorem ok94 : CallOk Try.prog 94 := callOk_of Try.func94 (by kernel_rfl) (by kernel_rfl)
theorem ok95 : CallOk Try.prog 95 := callOk_of Try.func95 (by kernel_rfl) (by kernel_rfl)
theorem ok96 : CallOk Try.prog 96 := callOk_of Try.func96 (by kernel_rfl) (by kernel_rfl)
theorem ok97 : CallOk Try.prog 97 := callOk_of Try.func97 (by kernel_rfl) (by kernel_rfl)
theorem ok98 : CallOk Try.prog 98 := callOk_of Try.func98 (by kernel_rfl) (by kernel_rfl)
theorem ok99 : CallOk Try.prog 99 := callOk_of Try.func99 (by kernel_rfl) (by kernel_rfl)
theorem ok100 : CallOk Try.prog 100 := callOk_of Try.func100 (by kernel_rfl) (by kernel_rfl)
theorem ok101 : CallOk Try.prog 101 := callOk_of Try.func101 (by kernel_rfl) (by kernel_rfl)
theorem ok102 : CallOk Try.prog 102 := callOk_of Try.func102 (by kernel_rfl) (by kernel_rfl)
theorem ok103 : CallOk Try.prog 103 := callOk_of Try.func103 (by kernel_rfl) (by kernel_rfl)
theorem ok104 : CallOk Try.prog 104 := callOk_of Try.func104 (by kernel_rfl) (by kernel_rfl)
theorem ok105 : CallOk Try.prog 105 := callOk_of Try.func105 (by kernel_rfl) (by kernel_rfl)
theorem ok106 : CallOk Try.prog 106 := callOk_of Try.func106 (by kernel_rfl) (by kernel_rfl)
theorem ok107 : CallOk Try.prog 107 := callOk_of Try.func107 (by kernel_rfl) (by kernel_rfl)
theorem ok108 : CallOk Try.prog 108 := callOk_of Try.func108 (by kernel_rfl) (by kernel_rfl)
theorem ok109 : CallOk Try.prog 109 := callOk_of Try.func109 (by kernel_rfl) (by kernel_rfl)
theorem ok110 : CallOk Try.prog 110 := callOk_of Try.func110 (by kernel_rfl) (by kernel_rfl)
theorem ok111 : CallOk Try.prog 111 := callOk_of Try.func111 (by kernel_rfl) (by kernel_rfl)
theorem ok112 : CallOk Try.prog 112 := callOk_of Try.func112 (by kernel_rfl) (by kernel_rfl)
theorem ok113 : CallOk Try.prog 113 := callOk_of Try.func113 (by kernel_rfl) (by kernel_rfl)
theorem bs26_0  (w : World) : (Instr.buildSlice 26 0 #[]).run Try.prog w = .ok (.slice (some ⟨w.heap.size, 0, none⟩) 0 0) (w.alloc (LC [] 60)) := by kernel_rfl
theorem bd23_0_1 (x1 : Int) (x2 : Int) (w : World) : (Instr.build 23 #[(0, (.int .i64 x1)), (1, (.int .i64 x2))]).run Try.prog w = .ok (.agg #[(.int .i64 x1), (.int .i64 x2)]) w := by kernel_rfl
theorem bs26_1_0 (x1 : Int) (x2 : Int) (x3 : Int) (w : World) : (Instr.buildSlice 26 1 #[(0, (.agg #[(.int .i64 x1), (.int .i64 x2), (.int .i64 x3)]))]).run Try.prog w = .ok (.slice (some ⟨w.heap.size, 0, none⟩) 1 1) (w.alloc (LC [(.int .i64 x1), (.int .i64 x2), (.int .i64 x3)] 60)) := by kernel_rfl
theorem bs27_4_0_1_2_3 (x1 : Int) (x2 : Int) (x3 : Int) (x4 : Int) (w : World) : (Instr.buildSlice 27 4 #[(0, (.int .i64 x1)), (1, (.int .i64 x2)), (2, (.int .i64 x3)), (3, (.int .i64 x4))]).run Try.prog w = .ok (.slice (some ⟨w.heap.size, 0, none⟩) 4 4) (w.alloc (LC [(.int .i64 x1), (.int .i64 x2), (.int .i64 x3), (.int .i64 x4)] 3)) := by kernel_rfl
theorem bs27_2_0_1 (x1 : Int) (x2 : Int) (w : World) : (Instr.buildSlice 27 2 #[(0, (.int .i64 x1)), (1, (.int .i64 x2))]).run Try.prog w = .ok (.slice (some ⟨w.heap.size, 0, none⟩) 2 2) (w.alloc (LC [(.int .i64 x1), (.int .i64 x2)] 3)) := by kernel_rfl
theorem bs27_5_0_1_2_3_4 (x1 : Int) (x2 : Int) (x3 : Int) (x4 : Int) (x5 : Int) (w : World) : (Instr.buildSlice 27 5 #[(0, (.int .i64 x1)), (1, (.int .i64 x2)), (2, (.int .i64 x3)), (3, (.int .i64 x4)), (4, (.int .i64 x5))]).run Try.prog w = .ok (.slice (some ⟨w.heap.size, 0, none⟩) 5 5) (w.alloc (LC [(.int .i64 x1), (.int .i64 x2), (.int .i64 x3), (.int .i64 x4), (.int .i64 x5)] 3)) := by kernel_rfl
theorem bs27_1_0 (x1 : Int) (w : World) : (Instr.buildSlice 27 1 #[(0, (.int .i64 x1))]).run Try.prog w = .ok (.slice (some ⟨w.heap.size, 0, none⟩) 1 1) (w.alloc (LC [(.int .i64 x1)] 3)) := by kernel_rfl
theorem bs27_3_0_1_2 (x1 : Int) (x2 : Int) (x3 : Int) (w : World) : (Instr.buildSlice 27 3 #[(0, (.int .i64 x1)), (1, (.int .i64 x2)), (2, (.int .i64 x3))]).run Try.prog w = .ok (.slice (some ⟨w.heap.size, 0, none⟩) 3 3) (w.alloc (LC [(.int .i64 x1), (.int .i64 x2), (.int .i64 x3)] 3)) := by kernel_rfl
theorem bs105_1_0 (x1 : Int) (w : World) : (Instr.buildSlice 105 1 #[(0, (.int .i64 x1))]).run Try.prog w = .ok (.slice (some ⟨w.heap.size, 0, none⟩) 1 1) (w.alloc (LC [(.int .i64 x1)] 2)) := by kernel_rfl
theorem bd72  (w : World) : (Instr.build 72 #[]).run Try.prog w = .ok (.agg #[(Go.Value.int Go.IntKind.i64 0), (Go.Value.int Go.IntKind.i64 0)]) w := by kernel_rfl
theorem bd72_0_1 (x1 : Int) (x2 : Int) (w : World) : (Instr.build 72 #[(0, (.int .i64 x1)), (1, (.int .i64 x2))]).run Try.prog w = .ok (.agg #[(.int .i64 x1), (.int .i64 x2)]) w := by kernel_rfl
theorem bs27_0  (w : World) : (Instr.buildSlice 27 0 #[]).run Try.prog w = .ok (.slice (some ⟨w.heap.size, 0, none⟩) 0 0) (w.alloc (LC [] 3)) := by kernel_rfl
theorem bd60_0_1 (x1 : Int) (x2 : Int) (x3 : Int) (w : World) : (Instr.build 60 #[(0, (.agg #[(.int .i64 x1), (.int .i64 x2)])), (1, (.int .i64 x3))]).run Try.prog w = .ok (.agg #[(.int .i64 x1), (.int .i64 x2), (.int .i64 x3)]) w := by kernel_rfl
theorem bd25_0_1 (x1 : Int) (x2 : Int) (x3 : Int) (w : World) : (Instr.build 25 #[(0, (.agg #[(.int .i64 x1), (.int .i64 x2)])), (1, (.int .i64 x3))]).run Try.prog w = .ok (.agg #[(.int .i64 x1), (.int .i64 x2), (.int .i64 x3)]) w := by kernel_rfl
theorem bs105_15_0_1_2_3_4_5_6_7_8_9_10_11_12_13_14 (x1 : Int) (x2 : Int) (x3 : Int) (x4 : Int) (x5 : Int) (x6 : Int) (x7 : Int) (x8 : Int) (x9 : Int) (x10 : Int) (x11 : Int) (x12 : Int) (x13 : Int) (x14 : Int) (x15 : Int) (w : World) : (Instr.buildSlice 105 15 #[(0, (.int .i64 x1)), (1, (.int .i64 x2)), (2, (.int .i64 x3)), (3, (.int .i64 x4)), (4, (.int .i64 x5)), (5, (.int .i64 x6)), (6, (.int .i64 x7)), (7, (.int .i64 x8)), (8, (.int .i64 x9)), (9, (.int .i64 x10)), (10, (.int .i64 x11)), (11, (.int .i64 x12)), (12, (.int .i64 x13)), (13, (.int .i64 x14)), (14, (.int .i64 x15))]).run Try.prog w = .ok (.slice (some ⟨w.heap.size, 0, none⟩) 15 15) (w.alloc (LC [(.int .i64 x1), (.int .i64 x2), (.int .i64 x3), (.int .i64 x4), (.int .i64 x5), (.int .i64 x6), (.int .i64 x7), (.int .i64 x8), (.int .i64 x9), (.int .i64 x10), (.int .i64 x11), (.int .i64 x12), (.int .i64 x13), (.int .i64 x14), (.int .i64 x15)] 2)) := by kernel_rfl
theorem bs105_2_0_1 (x1 : Int) (x2 : Int) (w : World) : (Instr.buildSlice 105 2 #[(0, (.int .i64 x1)), (1, (.int .i64 x2))]).run Try.prog w = .ok (.slice (some ⟨w.heap.size, 0, none⟩) 2 2) (w.alloc (LC [(.int .i64 x1), (.int .i64 x2)] 2)) := by kernel_rfl
theorem bs83_1_0 (x1 : Int) (x2 : Int) (w : World) : (Instr.buildSlice 83 1 #[(0, (.agg #[(.int .i64 x1), (.int .i64 x2)]))]).run Try.prog w = .ok (.slice (some ⟨w.heap.size, 0, none⟩) 1 1) (w.alloc (LC [(.int .i64 x1), (.int .i64 x2)] 72)) := by kernel_rfl
theorem bd126_0 (x1 : Int) (w : World) : (Instr.build 126 #[(0, (.int .i64 x1))]).run Try.prog w = .ok (.agg #[(.int .i64 x1)]) w := by kernel_rfl
theorem bd95_0 (x1 : Int) (x2 : Int) (w : World) : (Instr.build 95 #[(0, (.agg #[(.int .i64 x1), (.int .i64 x2)]))]).run Try.prog w = .ok (.agg #[(.int .i64 x1), (.int .i64 x2)]) w := by kernel_rfl
theorem bd97_0 (x1 : Int) (x2 : Int) (w : World) : (Instr.build 97 #[(0, (.agg #[(.int .i64 x1), (.int .i64 x2)]))]).run Try.prog w = .ok (.agg #[(.int .i64 x1), (.int .i64 x2), (Go.Value.slice Option.none 0 0)]) w := by kernel_rfl
theorem bs83_0  (w : World) : (Instr.buildSlice 83 0 #[]).run Try.prog w = .ok (.slice (some ⟨w.heap.size, 0, none⟩) 0 0) (w.alloc (LC [] 72)) := by kernel_rfl
theorem ffm : Try.prog.follows .mixedOrders = true := by kernel_rfl
end Go.Proofs.Ytmnbkceiaifncaa
namespace Go.Gl

structure Rg where
  lo : Int
  hi : Int
/-- A day, a panel, what some panels have together, and a bench. -/
structure Dy where
  lo : Int
  hi : Int
  pot : Int
structure Pn where
  lo : Int
  hi : Int
  sp : Int
structure Sm where
  t : Int
  g : Int
  deriving DecidableEq
structure Bn where
  w : Int
  p : Int
  each : List Sm

abbrev iv (x : Int) : Value := .int .i64 x
abbrev dye (d : Dy) : List Value := [iv d.lo, iv d.hi, iv d.pot]
abbrev dyv (d : Dy) : Value := .agg #[iv d.lo, iv d.hi, iv d.pot]
abbrev pne (p : Pn) : List Value := [iv p.lo, iv p.hi, iv p.sp]
abbrev pnv (p : Pn) : Value := .agg #[iv p.lo, iv p.hi, iv p.sp]
abbrev sme (s : Sm) : List Value := [iv s.t, iv s.g]
abbrev smv (s : Sm) : Value := .agg #[iv s.t, iv s.g]
theorem ivs {a b : Int} (h : a = b) : some (iv a) = some (iv b) := by rw [h]
theorem flat_snoc {α : Type} (enc : α → List Value) (l m : List α) : Go.Lw.flat enc (l ++ m) = Go.Lw.flat enc l ++ Go.Lw.flat enc m := by simp [Go.Lw.flat]
theorem pne_len (p : Pn) : (pne p).length = 3 := rfl
theorem sme_len (p : Sm) : (sme p).length = 2 := rfl
theorem ei_len (x : Int) : (Go.Lw.ei x).length = 1 := rfl

/-- The first of several that is better than all before it. -/
def bestOf {α : Type} (lt : α → α → Bool) (out : α) (l : List α) : α := l.foldl (fun o x => if lt x o then x else o) out
theorem bestOf_snoc {α : Type} (lt : α → α → Bool) (out : α) (l : List α) (x : α) : bestOf lt out (l ++ [x]) = if lt x (bestOf lt out l) then x else bestOf lt out l := by
  unfold bestOf; rw [List.foldl_append]; rfl
theorem bestOf_in {α : Type} (lt : α → α → Bool) : ∀ (l : List α) (out : α), bestOf lt out l ∈ out :: l
  | [], out => by simp [bestOf]
  | x :: l, out => by
    have e : bestOf lt out (x :: l) = bestOf lt (if lt x out then x else out) l := rfl
    have := bestOf_in lt l (if lt x out then x else out)
    rw [e]
    by_cases hx : lt x out = true
    · rw [if_pos hx] at this ⊢; exact List.mem_cons_of_mem _ this
    · rw [if_neg hx] at this ⊢
      rcases List.mem_cons.1 this with h | h
      · rw [h]; exact List.mem_cons_self
      · exact List.mem_cons_of_mem _ (List.mem_cons_of_mem _ h)
theorem bestOf_mem {α : Type} (lt : α → α → Bool) (out : α) (l : List α) (k : Nat) : bestOf lt out (l.take k) ∈ out :: l := by
  have := bestOf_in lt (l.take k) out
  simp only [List.mem_cons] at this ⊢
  rcases this with h | h
  · exact .inl h
  · exact .inr (List.mem_of_mem_take h)
theorem take_snoc' {α : Type} {l : List α} {k : Nat} {e : α} (h : l[k]? = some e) : l.take (k + 1) = l.take k ++ [e] := by
  obtain ⟨hk, he⟩ := List.getElem?_eq_some_iff.1 h
  rw [List.take_succ_eq_append_getElem hk, he]

/-- All of l lie from lo to hi. -/
def outB (lo hi : Int) (n : Int) : Bool := decide (n < lo) || decide (hi < n)
def wi (lo hi : Int) (l : List Int) : Bool := !(l.any (outB lo hi))
/-- A range of minutes is valid. -/
def rngB (lo hi : Int) : Bool := decide (1 ≤ lo ∧ lo ≤ hi ∧ hi ≤ 240)
def potB (n : Int) : Bool := decide (1 ≤ n ∧ n ≤ 200)
theorem wi1 (lo hi a : Int) : wi lo hi [a] = decide (lo ≤ a ∧ a ≤ hi) := by
  simp only [wi, outB, List.any_cons, List.any_nil, Bool.or_false]
  rw [Bool.eq_iff_iff]; simp
theorem wi_pot (a : Int) : wi 1 200 [a] = potB a := wi1 1 200 a
theorem wi_rng (a b : Int) : (wi 1 240 [a, b] && decide (a ≤ b)) = rngB a b := by
  simp only [wi, outB, List.any_cons, List.any_nil, Bool.or_false, rngB]
  rw [Bool.eq_iff_iff]; simp; omega
def dayB (d : Dy) : Bool := rngB d.lo d.hi && potB d.pot
def dayE (d : Dy) : Int := if dayB d then 0 else 3
def strayB (p : Pn) : Bool := !(rngB p.lo p.hi && potB p.sp)
def panE (ps : List Pn) : Int := if 10 < ps.length then 6 else if ps.any strayB then 3 else 0
def bothE (d : Dy) (ps : List Pn) : Int := if dayE d ≠ 0 then dayE d else panE ps
/-- What is known of a valid day and valid panels. -/
structure Ok (d : Dy) (ps : List Pn) : Prop where
  l0 : 1 ≤ d.lo
  l1 : d.lo ≤ d.hi
  l2 : d.hi ≤ 240
  p0 : 1 ≤ d.pot
  p1 : d.pot ≤ 200
  n10 : ps.length ≤ 10
  each : ∀ p ∈ ps, 1 ≤ p.lo ∧ p.lo ≤ p.hi ∧ p.hi ≤ 240 ∧ 1 ≤ p.sp ∧ p.sp ≤ 200
theorem dayE_ok {d : Dy} (h : dayE d = 0) : 1 ≤ d.lo ∧ d.lo ≤ d.hi ∧ d.hi ≤ 240 ∧ 1 ≤ d.pot ∧ d.pot ≤ 200 := by
  unfold dayE at h
  split at h
  · rename_i hb
    simp only [dayB, rngB, potB, Bool.and_eq_true, decide_eq_true_eq] at hb
    omega
  · cases h
theorem panE_ok {ps : List Pn} (h : panE ps = 0) : ps.length ≤ 10 ∧ ∀ p ∈ ps, 1 ≤ p.lo ∧ p.lo ≤ p.hi ∧ p.hi ≤ 240 ∧ 1 ≤ p.sp ∧ p.sp ≤ 200 := by
  unfold panE at h
  by_cases c : 10 < ps.length
  · rw [if_pos c] at h; cases h
  rw [if_neg c] at h
  by_cases c2 : ps.any strayB = true
  · rw [if_pos c2] at h; cases h
  refine ⟨by omega, fun p hp => ?_⟩
  have h3 : strayB p = false := by
    rw [Bool.not_eq_true, List.any_eq_false] at c2
    exact Bool.eq_false_iff.2 (c2 p hp)
  simp only [strayB, rngB, potB, Bool.not_eq_false', Bool.and_eq_true, decide_eq_true_eq] at h3
  omega
theorem bothE_ok {d : Dy} {ps : List Pn} (h : bothE d ps = 0) : Ok d ps := by
  unfold bothE at h
  by_cases c : dayE d ≠ 0
  · rw [if_pos c] at h; exact absurd h c
  rw [if_neg c] at h
  obtain ⟨a, b, c', e, f⟩ := dayE_ok (Decidable.not_not.1 c)
  obtain ⟨g, k⟩ := panE_ok h
  exact ⟨a, b, c', e, f, g, k⟩

/-- What a panel has, how much a batch can have. -/
def timeOf (p : Pn) (sure : Bool) : Int := bif sure then p.hi else p.lo
def worksOf (d : Dy) (sure : Bool) : Int := bif sure then d.lo else d.hi
def smOf (sure : Bool) (p : Pn) : Sm := ⟨timeOf p sure, p.sp⟩
def bn (d : Dy) (ps : List Pn) (sure : Bool) : Bn := ⟨worksOf d sure, d.pot, ps.map (smOf sure)⟩
def Sm.and (a b : Sm) : Sm := ⟨a.t + b.t, a.g + b.g⟩
def sm0 : Sm := ⟨0, 0⟩
def eachP (B : Bn) (i : Int) : Sm := B.each.getD i.toNat sm0
/-- What some panels have together. -/
def sumL (B : Bn) (l : List Int) : Sm := l.foldl (fun s i => s.and (eachP B i)) sm0
theorem sumL_snoc (B : Bn) (l : List Int) (i : Int) : sumL B (l ++ [i]) = (sumL B l).and (eachP B i) := by
  unfold sumL; rw [List.foldl_append]; rfl
def fitE (B : Bn) (s : Sm) : Int := if B.w < s.t then 22 else if B.p < s.g then 10 else 0
/-- A bench of a valid day. -/
structure BnOk (B : Bn) : Prop where
  w0 : 1 ≤ B.w
  w1 : B.w ≤ 240
  p0 : 1 ≤ B.p
  p1 : B.p ≤ 200
  n10 : B.each.length ≤ 10
  each : ∀ s ∈ B.each, 1 ≤ s.t ∧ s.t ≤ 240 ∧ 1 ≤ s.g ∧ s.g ≤ 200
theorem bn_ok {d : Dy} {ps : List Pn} (h : Ok d ps) (sure : Bool) : BnOk (bn d ps sure) := by
  have := h.l0; have := h.l1; have := h.l2
  refine ⟨?_, ?_, h.p0, h.p1, by simpa [bn] using h.n10, fun s hs => ?_⟩
  · cases sure <;> simp only [bn, worksOf, cond_true, cond_false] <;> omega
  · cases sure <;> simp only [bn, worksOf, cond_true, cond_false] <;> omega
  · simp only [bn, List.mem_map] at hs
    obtain ⟨p, hp, rfl⟩ := hs
    have := h.each p hp
    cases sure <;> simp only [smOf, timeOf, cond_true, cond_false] <;> omega
theorem eachP_some {B : Bn} {i : Int} {s : Sm} (h : B.each[i.toNat]? = some s) : s = eachP B i := by simp [eachP, List.getD, h]
theorem eachP_bd {B : Bn} (h : BnOk B) (i : Int) : 0 ≤ (eachP B i).t ∧ (eachP B i).t ≤ 240 ∧ 0 ≤ (eachP B i).g ∧ (eachP B i).g ≤ 200 := by
  unfold eachP
  cases hs : B.each[i.toNat]? with
  | none => simp [List.getD, hs, sm0]
  | some s =>
    have := h.each s (List.mem_of_getElem? hs)
    simp only [List.getD, hs, Option.getD_some]
    omega
theorem sumL_bd {B : Bn} (h : BnOk B) : ∀ l : List Int, 0 ≤ (sumL B l).t ∧ (sumL B l).t ≤ 240 * l.length ∧ 0 ≤ (sumL B l).g ∧ (sumL B l).g ≤ 200 * l.length := by
  have key : ∀ (l : List Int) (s : Sm) (k : Int), 0 ≤ s.t → s.t ≤ 240 * k → 0 ≤ s.g → s.g ≤ 200 * k →
      0 ≤ (l.foldl (fun s i => s.and (eachP B i)) s).t ∧ (l.foldl (fun s i => s.and (eachP B i)) s).t ≤ 240 * (k + l.length) ∧ 0 ≤ (l.foldl (fun s i => s.and (eachP B i)) s).g ∧ (l.foldl (fun s i => s.and (eachP B i)) s).g ≤ 200 * (k + l.length) := by
    intro l
    induction l with
    | nil => intro s k a b c d; simp; omega
    | cons i l ih =>
      intro s k a b c d
      have e := eachP_bd h i
      have := ih (s.and (eachP B i)) (k + 1) (by simp only [Sm.and]; omega) (by simp only [Sm.and]; omega) (by simp only [Sm.and]; omega) (by simp only [Sm.and]; omega)
      simp only [List.foldl_cons, List.length_cons]
      push_cast
      omega
  intro l
  have := key l sm0 0 (by simp [sm0]) (by simp [sm0]) (by simp [sm0]) (by simp [sm0])
  unfold sumL
  omega
theorem fit0 {B : Bn} (h : BnOk B) : fitE B sm0 = 0 := by
  have := h.w0; have := h.p0
  unfold fitE sm0; dsimp only
  rw [if_neg (by omega), if_neg (by omega)]
end Go.Gl
set_option linter.unusedVariables false
namespace Go.Lw
open Go.RowKit

/-- The lowest bit of a number, and a number without some bits. -/
def lowB (n : Nat) : Nat := (BitVec.ofNat 64 n &&& -BitVec.ofNat 64 n).toNat
def clrB (a b : Nat) : Nat := a &&& (18446744073709551615 - b)
theorem lowB_le (n : Nat) (h : n < 9223372036854775808) : lowB n ≤ n := by
  unfold lowB
  rw [BitVec.toNat_and, BitVec.toNat_ofNat, Nat.mod_eq_of_lt (by omega)]
  exact Nat.and_le_left
theorem clrB_le (a b : Nat) : clrB a b ≤ a := Nat.and_le_left
theorem clrB_bit (a b i : Nat) (hb : b < 18446744073709551616) (ha : a < 18446744073709551616) : (clrB a b).testBit i = (a.testBit i && !b.testBit i) := by
  unfold clrB
  rw [Nat.testBit_and]
  cases hi : a.testBit i with
  | false => rfl
  | true =>
    have hlt : i < 64 := by
      apply Classical.byContradiction
      intro hc
      have : a < 2 ^ i := Nat.lt_of_lt_of_le ha (by rw [show 18446744073709551616 = 2 ^ 64 from rfl]; exact Nat.pow_le_pow_right (by decide) (by omega))
      rw [Nat.testBit_lt_two_pow this] at hi; cases hi
    have := Nat.testBit_two_pow_sub_succ (x := b) (n := 64) (by simpa using hb) i
    rw [show 18446744073709551615 - b = 2 ^ 64 - (b + 1) from by omega, this]
    simp [hlt]
theorem lowB_bit (n i : Nat) (h : n < 9223372036854775808) : (lowB n).testBit i = (n.testBit i && !decide (∃ j, j < i ∧ n.testBit j = true)) := by
  unfold lowB
  rw [BitVec.testBit_toNat, BitVec.getLsbD_and, BitVec.getLsbD_neg]
  have hb : ∀ j, (BitVec.ofNat 64 n).getLsbD j = n.testBit j := fun j => by
    rw [BitVec.getLsbD_ofNat]
    by_cases hj : j < 64
    · simp [hj]
    · have : n < 2 ^ j := Nat.lt_of_lt_of_le (show n < 2 ^ 63 by omega) (Nat.pow_le_pow_right (by decide) (by omega))
      simp [hj, Nat.testBit_lt_two_pow this]
  simp only [hb]
  cases hi : n.testBit i with
  | false => simp
  | true =>
    have hlt : i < 64 := by
      apply Classical.byContradiction
      intro hc
      have : n < 2 ^ i := Nat.lt_of_lt_of_le (show n < 2 ^ 63 by omega) (Nat.pow_le_pow_right (by decide) (by omega))
      rw [Nat.testBit_lt_two_pow this] at hi; cases hi
    simp [hlt]

section
variable {cx : Cx} {n : Nat} {ks : List (Nat × Value)} {O : List Own} {V : View} {P : Program} {ops : Array Oper} {Qn : Act → World → Prop} {t : Tr} {i d : Nat} {T : TypeId} {pos : String} {after : Array Edge} {gd : Option (Nat × Bool)} {x y : Operand} {p q : Int} {X Z : TypeId}
/-- The address of an element of an array, wherever it stands. -/
theorem AtT.idxQ {X E : TypeId} {len s : Nat} {k : IntKind} {j : Int} {r : Addr} {ag : Bool} (ho : ops[i]? = some ⟨some d, .indexAddr X x y, T, pos, after, gd⟩) (hg : Gd ks ops gd) (hX : P.underlying X = some (.array len E)) (hE : tkB P E = some (ag, s))
    (hx : ev ks x = some (.pointer (some r))) (hy : ev ks y = some (.int k j)) (h0 : 0 ≤ j) (h1 : j < len) (hn : d < n)
    (next : AtT cx n ((d, .pointer (some (r.add (j.toNat * s)))) :: ks) O V P ops Qn t) : AtT cx n ks O V P ops Qn (.q i t) :=
  .q ho hg rfl hn (fun a w hk hm => by
    simp only [execOp, hk.ev hx, hk.ev hy]
    simp [Instr.indexAt, asIntOf, run_underlying hX, run_sizeOf hE, h0, h1, Instr.sureAddr]) next
theorem AtT.andN {A B : Nat} (ho : ops[i]? = some ⟨some d, .binOp .and X x y Z, T, pos, after, gd⟩) (hg : Gd ks ops gd) (hx : ev ks x = some (.int .i64 p)) (hy : ev ks y = some (.int .i64 q)) (hp : p = (A : Int)) (hq : q = (B : Int)) (hA : A < 9223372036854775808) (hB : B < 9223372036854775808) (hn : d < n)
    (next : AtT cx n ((d, .int .i64 ((A &&& B : Nat) : Int)) :: ks) O V P ops Qn t) : AtT cx n ks O V P ops Qn (.q i t) :=
  .q ho hg rfl hn (fun a w hk _ => by
    subst hp hq
    have hr : Op.intBits .and .i64 (A : Int) (B : Int) = (pure (.int .i64 ((A &&& B : Nat) : Int)) : Sem Value) := by
      show (pure (Value.int .i64 (IntKind.i64.wrap ((BitVec.ofInt 64 (A : Int) &&& BitVec.ofInt 64 (B : Int)).toNat : Int))) : Sem Value) = _
      rw [BitVec.toNat_and, ofInt_u64 A (by omega), ofInt_u64 B (by omega), Go.Lib.wrap_i64_small _ (Nat.lt_of_le_of_lt Nat.and_le_left hA)]
    simp [execOp, hk.ev hx, hk.ev hy, eqGuard_and, binOp_and, hr]) next
theorem AtT.lowN {A : Nat} (ho : ops[i]? = some ⟨some d, .binOp .and X x y Z, T, pos, after, gd⟩) (hg : Gd ks ops gd) (hx : ev ks x = some (.int .i64 p)) (hy : ev ks y = some (.int .i64 q)) (hp : p = (A : Int)) (hq : q = -(A : Int)) (hA : A < 9223372036854775808) (hn : d < n)
    (next : AtT cx n ((d, .int .i64 ((lowB A : Nat) : Int)) :: ks) O V P ops Qn t) : AtT cx n ks O V P ops Qn (.q i t) :=
  .q ho hg rfl hn (fun a w hk _ => by
    subst hp hq
    have hr : Op.intBits .and .i64 (A : Int) (-(A : Int)) = (pure (.int .i64 ((lowB A : Nat) : Int)) : Sem Value) := by
      show (pure (Value.int .i64 (IntKind.i64.wrap ((BitVec.ofInt 64 (A : Int) &&& BitVec.ofInt 64 (-(A : Int))).toNat : Int))) : Sem Value) = _
      have e1 : BitVec.ofInt 64 (A : Int) = BitVec.ofNat 64 A := BitVec.ofInt_natCast 64 A
      have e2 : BitVec.ofInt 64 (-(A : Int)) = -BitVec.ofNat 64 A := by rw [← e1, BitVec.ofInt_neg]
      rw [e1, e2]
      show pure (Value.int .i64 (IntKind.i64.wrap ((lowB A : Nat) : Int))) = _
      rw [Go.Lib.wrap_i64_small _ (Nat.lt_of_le_of_lt (lowB_le A hA) hA)]
    simp [execOp, hk.ev hx, hk.ev hy, eqGuard_and, binOp_and, hr]) next
theorem AtT.clrN {A B : Nat} (ho : ops[i]? = some ⟨some d, .binOp .andNot X x y Z, T, pos, after, gd⟩) (hg : Gd ks ops gd) (hx : ev ks x = some (.int .i64 p)) (hy : ev ks y = some (.int .i64 q)) (hp : p = (A : Int)) (hq : q = (B : Int)) (hA : A < 9223372036854775808) (hB : B < 9223372036854775808) (hn : d < n)
    (next : AtT cx n ((d, .int .i64 ((clrB A B : Nat) : Int)) :: ks) O V P ops Qn t) : AtT cx n ks O V P ops Qn (.q i t) :=
  .q ho hg rfl hn (fun a w hk _ => by
    subst hp hq
    have hr : Op.intBits .andNot .i64 (A : Int) (B : Int) = (pure (.int .i64 ((clrB A B : Nat) : Int)) : Sem Value) := by
      show (pure (Value.int .i64 (IntKind.i64.wrap ((BitVec.ofInt 64 (A : Int) &&& ~~~BitVec.ofInt 64 (B : Int)).toNat : Int))) : Sem Value) = _
      rw [BitVec.toNat_and, BitVec.toNat_not, ofInt_u64 A (by omega), ofInt_u64 B (by omega)]
      show pure (Value.int .i64 (IntKind.i64.wrap ((clrB A B : Nat) : Int))) = _
      rw [Go.Lib.wrap_i64_small _ (Nat.lt_of_le_of_lt (clrB_le A B) hA)]
    simp [execOp, hk.ev hx, hk.ev hy, eqGuard_andNot, binOp_andNot, hr]) next
theorem AtT.shlN {N : Nat} {k : IntKind} (ho : ops[i]? = some ⟨some d, .binOp .shl X x y Z, T, pos, after, gd⟩) (hg : Gd ks ops gd) (hx : ev ks x = some (.int .i64 1)) (hy : ev ks y = some (.int k q)) (hq : q = (N : Int)) (hN : N ≤ 61) (hn : d < n)
    (next : AtT cx n ((d, .int .i64 ((2 ^ N : Nat) : Int)) :: ks) O V P ops Qn t) : AtT cx n ks O V P ops Qn (.q i t) :=
  .q ho hg rfl hn (fun a w hk _ => by
    subst hq
    have hlt : 2 ^ N < 9223372036854775808 := Nat.lt_of_le_of_lt (Nat.pow_le_pow_right (by decide) hN) (by decide)
    have hr : Op.shift .shl .i64 1 k (N : Int) = (pure (.int .i64 ((2 ^ N : Nat) : Int)) : Sem Value) := by
      unfold Op.shift
      rw [if_neg (by omega)]
      have e : min ((N : Int).toNat) IntKind.i64.bits = N := by show min ((N : Int).toNat) 64 = N; omega
      have e2 : (1 : Int) * 2 ^ N = ((2 ^ N : Nat) : Int) := by rw [Int.one_mul, Int.natCast_pow]; rfl
      simp only [e, e2, Go.Lib.wrap_i64_small _ hlt]
    simp only [execOp, hk.ev hx, hk.ev hy, eqGuard_shl, binOp_shl, hr, Sem.run_bind, Sem.run_pure, Result.andThen_ok]) next
theorem AtT.shrN {A N : Nat} {k : IntKind} (ho : ops[i]? = some ⟨some d, .binOp .shr X x y Z, T, pos, after, gd⟩) (hg : Gd ks ops gd) (hx : ev ks x = some (.int .i64 p)) (hy : ev ks y = some (.int k q)) (hp : p = (A : Int)) (hq : q = (N : Int)) (hN : N ≤ 61) (hn : d < n)
    (next : AtT cx n ((d, .int .i64 ((A >>> N : Nat) : Int)) :: ks) O V P ops Qn t) : AtT cx n ks O V P ops Qn (.q i t) :=
  .q ho hg rfl hn (fun a w hk _ => by
    subst hp hq
    have hr : Op.shift .shr .i64 (A : Int) k (N : Int) = (pure (.int .i64 ((A >>> N : Nat) : Int)) : Sem Value) := by
      unfold Op.shift
      rw [if_neg (by omega)]
      have e : min ((N : Int).toNat) IntKind.i64.bits = N := by show min ((N : Int).toNat) 64 = N; omega
      have e2 : (A : Int).fdiv (2 ^ N) = ((A >>> N : Nat) : Int) := by
        rw [Int.fdiv_eq_ediv_of_nonneg _ (Int.le_of_lt (Int.pow_pos (by decide))), Nat.shiftRight_eq_div_pow, Int.natCast_ediv, Int.natCast_pow]; rfl
      simp only [e, e2]
    simp only [execOp, hk.ev hx, hk.ev hy, eqGuard_shr, binOp_shr, hr, Sem.run_bind, Sem.run_pure, Result.andThen_ok]) next
end
end Go.Lw
set_option linter.unusedVariables false
namespace Go.Proofs.Ytmnbkceiaifncaa
open Go.Lw Go.Gl Go.RowKit

theorem index_i (g : FuncId) (cap : List Value) (p : Int → Bool) (V : View) (vl : Value) (l : List Int) (hs : Sl V ei 1 vl l) (hok : CallOk Try.prog g)
    (hc : ∀ x, x ∈ l → Fnc Try.prog g ([] ++ [iv x] ++ cap) V (fun v _ => v = .bool (p x))) :
    Fnc Try.prog 107 [vl, .func (.func g) #[] cap.toArray] V fun v _ => ∃ j : Int, v = iv j ∧ (decide (0 ≤ j)) = l.any p := by
  have hlen := hs.lenLe
  refine fn_of Try.func107 rfl Try.ntmps107 (Nat.le_of_ble_eq_true rfl) ?_
  intro w0 hw0
  refine At.nrm ?_
  refine At.ktext (.q 0 .done) ?_
  refine AtT.kassign ?_
  refine AtT.done ?_
  refine At.nrm ?_
  refine At.ktext (.q 0 (.q 1 (.q 2 .done))) ?_
  refine AtT.kmove ?_
  first | refine AtT.klenS Try.underlying105 ?_ | refine AtT.klenR Try.underlying105 ?_
  refine AtT.kmove ?_
  refine AtT.done ?_
  refine At.nrm ?_
  refine At.lp (ι := Nat) (KS := fun k => [(0, vl), (1, .func (.func g) #[] cap.toArray), (4, iv 0), (7, iv l.length), (8, iv k)]) (OS := fun _ => [])
    (VS := fun k V' => V' = V ∧ k ≤ l.length ∧ (l.take k).any p = false) (μ := fun k => l.length - k) 0 ?_ ?_ ?_ ?_
  · exact ⟨rfl, rfl, rfl, rfl, rfl, trivial⟩
  · exact Pt.auto
  · exact ⟨rfl, Nat.zero_le _, rfl⟩
  · rintro k V' ks' O' ⟨rfl, hkl, hany⟩ hk hO hl
    subst hk hO
    refine At.nrm ?_
    refine At.ktext (.q 0 .done) ?_
    refine AtT.klss ?_
    refine AtT.done ?_
    refine At.nrm ?_
    refine At.condP rfl (fun hp => ?_) (fun hp => ?_)
    · refine At.nrm ?_
      refine At.ktext (.q 0 (.q 1 .done)) ?_
      refine AtT.kmove ?_
      refine AtT.kassign ?_
      refine AtT.done ?_
      refine At.nrm ?_
      refine At.ktext (.q 0 (.q 1 (.q 2 (.q 3 (.q 4 (.n false 5 .done)))))) ?_
      refine AtT.kmove ?_
      refine AtT.kmove ?_
      refine AtT.kmove ?_
      refine AtT.kidx Try.underlying105 tk2 ?_
      intro p14 e14 he14 hc14
      first | refine AtT.kloadO tk2 ?_ | refine AtT.kload tk2 ?_
      refine AtT.kcallV rfl rfl rfl hok (hc e14 (List.mem_of_getElem? he14)) ?_
      rintro _ rfl
      refine AtT.done ?_
      refine At.nrm ?_
      have hee : l[k]? = some e14 := by simpa using he14
      have hnx : l.take (k + 1) = l.take k ++ [e14] := by
        rw [List.take_succ_eq_append_getElem (by omega)]; congr 1; rw [List.getElem?_eq_getElem (by omega)] at hee; simpa using hee
      refine At.cond rfl (fun hb => ?_) (fun hb => ?_)
      · refine At.nrm ?_
        refine At.ktext (.q 0 (.q 1 .done)) ?_
        refine AtT.kmove ?_
        refine AtT.kassign ?_
        refine AtT.done ?_
        refine At.nrm ?_
        refine At.ret1 rfl (.tmp rfl) ⟨k, rfl, ?_⟩
        have : l.any p = true := List.any_eq_true.2 ⟨e14, List.mem_of_getElem? hee, hb⟩
        rw [this]; simp
      · refine At.nrm ?_
        refine At.ktext (.q 0 (.q 1 .done)) ?_
        first | refine AtT.kadd ?_ | refine AtT.kaddW ?_
        refine AtT.kmove ?_
        refine AtT.done ?_
        refine At.nrm ?_
        refine At.round (k + 1) ?_ ?_ ?_ ?_
        · show l.length - (k + 1) < l.length - k; omega
        · refine ⟨rfl, by omega, ?_⟩
          rw [hnx, List.any_append, hany]; simp [hb]
        · exact ⟨rfl, rfl, rfl, rfl, rfl, trivial⟩
        · exact Pt.auto
    · have hkk : k = l.length := by omega
      subst hkk
      rw [List.take_length] at hany
      refine At.nrm ?_
      refine At.ktext (.q 0 .done) ?_
      refine AtT.kassign ?_
      refine AtT.done ?_
      refine At.nrm ?_
      refine At.ret1 rfl (.tmp rfl) ⟨-1, rfl, ?_⟩
      rw [hany]; rfl
theorem contains_i (g : FuncId) (cap : List Value) (p : Int → Bool) (V : View) (vl : Value) (l : List Int) (hs : Sl V ei 1 vl l) (hok : CallOk Try.prog g)
    (hc : ∀ x, x ∈ l → Fnc Try.prog g ([] ++ [iv x] ++ cap) V (fun v _ => v = .bool (p x))) :
    Fnc Try.prog 93 [vl, .func (.func g) #[] cap.toArray] V fun v _ => v = .bool (l.any p) := by
  refine fn_of Try.func93 rfl Try.ntmps93 (Nat.le_of_ble_eq_true rfl) ?_
  intro w0 hw0
  refine At.nrm ?_
  refine At.ktext (.q 0 .done) ?_
  refine AtT.kassign ?_
  refine AtT.done ?_
  refine At.nrm ?_
  refine At.ktext (.q 0 (.q 1 (.n false 2 (.q 3 (.q 4 .done))))) ?_
  refine AtT.kmove ?_
  refine AtT.kmove ?_
  refine AtT.kcallP rfl rfl ok107 (index_i g cap p V vl l hs hok hc) ?_
  rintro _ ⟨j, rfl, hj⟩
  refine AtT.kgeq ?_
  refine AtT.kassign ?_
  refine AtT.done ?_
  refine At.nrm ?_
  refine At.ret1 rfl (.tmp rfl) ?_
  rw [hj]

theorem index_n (g : FuncId) (cap : List Value) (p : Int → Bool) (V : View) (vl : Value) (l : List Int) (hs : Sl V ei 1 vl l) (hok : CallOk Try.prog g)
    (hc : ∀ x, x ∈ l → Fnc Try.prog g ([] ++ [iv x] ++ cap) V (fun v _ => v = .bool (p x))) :
    Fnc Try.prog 106 [vl, .func (.func g) #[] cap.toArray] V fun v _ => ∃ j : Int, v = iv j ∧ (decide (0 ≤ j)) = l.any p := by
  have hlen := hs.lenLe
  refine fn_of Try.func106 rfl Try.ntmps106 (Nat.le_of_ble_eq_true rfl) ?_
  intro w0 hw0
  refine At.nrm ?_
  refine At.ktext (.q 0 .done) ?_
  refine AtT.kassign ?_
  refine AtT.done ?_
  refine At.nrm ?_
  refine At.ktext (.q 0 (.q 1 (.q 2 .done))) ?_
  refine AtT.kmove ?_
  first | refine AtT.klenS Try.underlying27 ?_ | refine AtT.klenR Try.underlying27 ?_
  refine AtT.kmove ?_
  refine AtT.done ?_
  refine At.nrm ?_
  refine At.lp (ι := Nat) (KS := fun k => [(0, vl), (1, .func (.func g) #[] cap.toArray), (4, iv 0), (7, iv l.length), (8, iv k)]) (OS := fun _ => [])
    (VS := fun k V' => V' = V ∧ k ≤ l.length ∧ (l.take k).any p = false) (μ := fun k => l.length - k) 0 ?_ ?_ ?_ ?_
  · exact ⟨rfl, rfl, rfl, rfl, rfl, trivial⟩
  · exact Pt.auto
  · exact ⟨rfl, Nat.zero_le _, rfl⟩
  · rintro k V' ks' O' ⟨rfl, hkl, hany⟩ hk hO hl
    subst hk hO
    refine At.nrm ?_
    refine At.ktext (.q 0 .done) ?_
    refine AtT.klss ?_
    refine AtT.done ?_
    refine At.nrm ?_
    refine At.condP rfl (fun hp => ?_) (fun hp => ?_)
    · refine At.nrm ?_
      refine At.ktext (.q 0 (.q 1 .done)) ?_
      refine AtT.kmove ?_
      refine AtT.kassign ?_
      refine AtT.done ?_
      refine At.nrm ?_
      refine At.ktext (.q 0 (.q 1 (.q 2 (.q 3 (.q 4 (.n false 5 .done)))))) ?_
      refine AtT.kmove ?_
      refine AtT.kmove ?_
      refine AtT.kmove ?_
      refine AtT.kidx Try.underlying27 tk3 ?_
      intro p14 e14 he14 hc14
      first | refine AtT.kloadO tk3 ?_ | refine AtT.kload tk3 ?_
      refine AtT.kcallV rfl rfl rfl hok (hc e14 (List.mem_of_getElem? he14)) ?_
      rintro _ rfl
      refine AtT.done ?_
      refine At.nrm ?_
      have hee : l[k]? = some e14 := by simpa using he14
      have hnx : l.take (k + 1) = l.take k ++ [e14] := by
        rw [List.take_succ_eq_append_getElem (by omega)]; congr 1; rw [List.getElem?_eq_getElem (by omega)] at hee; simpa using hee
      refine At.cond rfl (fun hb => ?_) (fun hb => ?_)
      · refine At.nrm ?_
        refine At.ktext (.q 0 (.q 1 .done)) ?_
        refine AtT.kmove ?_
        refine AtT.kassign ?_
        refine AtT.done ?_
        refine At.nrm ?_
        refine At.ret1 rfl (.tmp rfl) ⟨k, rfl, ?_⟩
        have : l.any p = true := List.any_eq_true.2 ⟨e14, List.mem_of_getElem? hee, hb⟩
        rw [this]; simp
      · refine At.nrm ?_
        refine At.ktext (.q 0 (.q 1 .done)) ?_
        first | refine AtT.kadd ?_ | refine AtT.kaddW ?_
        refine AtT.kmove ?_
        refine AtT.done ?_
        refine At.nrm ?_
        refine At.round (k + 1) ?_ ?_ ?_ ?_
        · show l.length - (k + 1) < l.length - k; omega
        · refine ⟨rfl, by omega, ?_⟩
          rw [hnx, List.any_append, hany]; simp [hb]
        · exact ⟨rfl, rfl, rfl, rfl, rfl, trivial⟩
        · exact Pt.auto
    · have hkk : k = l.length := by omega
      subst hkk
      rw [List.take_length] at hany
      refine At.nrm ?_
      refine At.ktext (.q 0 .done) ?_
      refine AtT.kassign ?_
      refine AtT.done ?_
      refine At.nrm ?_
      refine At.ret1 rfl (.tmp rfl) ⟨-1, rfl, ?_⟩
      rw [hany]; rfl
theorem contains_n (g : FuncId) (cap : List Value) (p : Int → Bool) (V : View) (vl : Value) (l : List Int) (hs : Sl V ei 1 vl l) (hok : CallOk Try.prog g)
    (hc : ∀ x, x ∈ l → Fnc Try.prog g ([] ++ [iv x] ++ cap) V (fun v _ => v = .bool (p x))) :
    Fnc Try.prog 88 [vl, .func (.func g) #[] cap.toArray] V fun v _ => v = .bool (l.any p) := by
  refine fn_of Try.func88 rfl Try.ntmps88 (Nat.le_of_ble_eq_true rfl) ?_
  intro w0 hw0
  refine At.nrm ?_
  refine At.ktext (.q 0 .done) ?_
  refine AtT.kassign ?_
  refine AtT.done ?_
  refine At.nrm ?_
  refine At.ktext (.q 0 (.q 1 (.n false 2 (.q 3 (.q 4 .done))))) ?_
  refine AtT.kmove ?_
  refine AtT.kmove ?_
  refine AtT.kcallP rfl rfl ok106 (index_n g cap p V vl l hs hok hc) ?_
  rintro _ ⟨j, rfl, hj⟩
  refine AtT.kgeq ?_
  refine AtT.kassign ?_
  refine AtT.done ?_
  refine At.nrm ?_
  refine At.ret1 rfl (.tmp rfl) ?_
  rw [hj]

theorem index_p (g : FuncId) (cap : List Value) (p : Pn → Bool) (V : View) (vl : Value) (l : List Pn) (hs : Sl V pne 3 vl l) (hok : CallOk Try.prog g)
    (hc : ∀ x, x ∈ l → Fnc Try.prog g ([] ++ [pnv x] ++ cap) V (fun v _ => v = .bool (p x))) :
    Fnc Try.prog 95 [vl, .func (.func g) #[] cap.toArray] V fun v _ => ∃ j : Int, v = iv j ∧ (decide (0 ≤ j)) = l.any p := by
  have hlen := hs.lenLe
  refine fn_of Try.func95 rfl Try.ntmps95 (Nat.le_of_ble_eq_true rfl) ?_
  intro w0 hw0
  refine At.nrm ?_
  refine At.ktext (.q 0 .done) ?_
  refine AtT.kassign ?_
  refine AtT.done ?_
  refine At.nrm ?_
  refine At.ktext (.q 0 (.q 1 (.q 2 .done))) ?_
  refine AtT.kmove ?_
  first | refine AtT.klenS Try.underlying26 ?_ | refine AtT.klenR Try.underlying26 ?_
  refine AtT.kmove ?_
  refine AtT.done ?_
  refine At.nrm ?_
  refine At.lp (ι := Nat) (KS := fun k => [(0, vl), (1, .func (.func g) #[] cap.toArray), (4, iv 0), (7, iv l.length), (8, iv k)]) (OS := fun _ => [])
    (VS := fun k V' => V' = V ∧ k ≤ l.length ∧ (l.take k).any p = false) (μ := fun k => l.length - k) 0 ?_ ?_ ?_ ?_
  · exact ⟨rfl, rfl, rfl, rfl, rfl, trivial⟩
  · exact Pt.auto
  · exact ⟨rfl, Nat.zero_le _, rfl⟩
  · rintro k V' ks' O' ⟨rfl, hkl, hany⟩ hk hO hl
    subst hk hO
    refine At.nrm ?_
    refine At.ktext (.q 0 .done) ?_
    refine AtT.klss ?_
    refine AtT.done ?_
    refine At.nrm ?_
    refine At.condP rfl (fun hp => ?_) (fun hp => ?_)
    · refine At.nrm ?_
      refine At.ktext (.q 0 (.q 1 .done)) ?_
      refine AtT.kmove ?_
      refine AtT.kassign ?_
      refine AtT.done ?_
      refine At.nrm ?_
      refine At.ktext (.q 0 (.q 1 (.q 2 (.q 3 (.q 4 (.n false 5 .done)))))) ?_
      refine AtT.kmove ?_
      refine AtT.kmove ?_
      refine AtT.kmove ?_
      refine AtT.kidx Try.underlying26 tk60 ?_
      intro p14 e14 he14 hc14
      first | refine AtT.kloadOA tk60 ?_ | refine AtT.kloadA tk60 ?_ | refine AtT.kloadOP tk60 ?_
      refine AtT.kcallV rfl rfl rfl hok (hc e14 (List.mem_of_getElem? he14)) ?_
      rintro _ rfl
      refine AtT.done ?_
      refine At.nrm ?_
      have hee : l[k]? = some e14 := by simpa using he14
      have hnx : l.take (k + 1) = l.take k ++ [e14] := by
        rw [List.take_succ_eq_append_getElem (by omega)]; congr 1; rw [List.getElem?_eq_getElem (by omega)] at hee; simpa using hee
      refine At.cond rfl (fun hb => ?_) (fun hb => ?_)
      · refine At.nrm ?_
        refine At.ktext (.q 0 (.q 1 .done)) ?_
        refine AtT.kmove ?_
        refine AtT.kassign ?_
        refine AtT.done ?_
        refine At.nrm ?_
        refine At.ret1 rfl (.tmp rfl) ⟨k, rfl, ?_⟩
        have : l.any p = true := List.any_eq_true.2 ⟨e14, List.mem_of_getElem? hee, hb⟩
        rw [this]; simp
      · refine At.nrm ?_
        refine At.ktext (.q 0 (.q 1 .done)) ?_
        first | refine AtT.kadd ?_ | refine AtT.kaddW ?_
        refine AtT.kmove ?_
        refine AtT.done ?_
        refine At.nrm ?_
        refine At.round (k + 1) ?_ ?_ ?_ ?_
        · show l.length - (k + 1) < l.length - k; omega
        · refine ⟨rfl, by omega, ?_⟩
          rw [hnx, List.any_append, hany]; simp [hb]
        · exact ⟨rfl, rfl, rfl, rfl, rfl, trivial⟩
        · exact Pt.auto
    · have hkk : k = l.length := by omega
      subst hkk
      rw [List.take_length] at hany
      refine At.nrm ?_
      refine At.ktext (.q 0 .done) ?_
      refine AtT.kassign ?_
      refine AtT.done ?_
      refine At.nrm ?_
      refine At.ret1 rfl (.tmp rfl) ⟨-1, rfl, ?_⟩
      rw [hany]; rfl
theorem contains_p (g : FuncId) (cap : List Value) (p : Pn → Bool) (V : View) (vl : Value) (l : List Pn) (hs : Sl V pne 3 vl l) (hok : CallOk Try.prog g)
    (hc : ∀ x, x ∈ l → Fnc Try.prog g ([] ++ [pnv x] ++ cap) V (fun v _ => v = .bool (p x))) :
    Fnc Try.prog 68 [vl, .func (.func g) #[] cap.toArray] V fun v _ => v = .bool (l.any p) := by
  refine fn_of Try.func68 rfl Try.ntmps68 (Nat.le_of_ble_eq_true rfl) ?_
  intro w0 hw0
  refine At.nrm ?_
  refine At.ktext (.q 0 .done) ?_
  refine AtT.kassign ?_
  refine AtT.done ?_
  refine At.nrm ?_
  refine At.ktext (.q 0 (.q 1 (.n false 2 (.q 3 (.q 4 .done))))) ?_
  refine AtT.kmove ?_
  refine AtT.kmove ?_
  refine AtT.kcallP rfl rfl ok95 (index_p g cap p V vl l hs hok hc) ?_
  rintro _ ⟨j, rfl, hj⟩
  refine AtT.kgeq ?_
  refine AtT.kassign ?_
  refine AtT.done ?_
  refine At.nrm ?_
  refine At.ret1 rfl (.tmp rfl) ?_
  rw [hj]
theorem best_i (g : FuncId) (cap : List Value) (lt : Int → Int → Bool) (V : View) (vl : Value) (x0 : Int) (l : List Int) (hs : SlI V vl (x0 :: l)) (hok : CallOk Try.prog g)
    (hc : ∀ x y, x ∈ x0 :: l → y ∈ x0 :: l → Fnc Try.prog g ([] ++ [iv x, iv y] ++ cap) V (fun v _ => v = .bool (lt x y))) :
    Fnc Try.prog 110 [vl, .func (.func g) #[] cap.toArray] V fun v _ => v = iv (bestOf lt x0 l) := by
  have hlen := hs.lenLe
  simp only [List.length_cons] at hlen
  refine fn_of Try.func110 rfl Try.ntmps110 (Nat.le_of_ble_eq_true rfl) ?_
  intro w0 hw0
  refine At.nrm ?_
  refine At.ktext (.q 0 .done) ?_
  refine AtT.kassign ?_
  refine AtT.done ?_
  refine At.nrm ?_
  refine At.ktext (.q 0 (.q 1 (.q 2 (.q 3 .done)))) ?_
  refine AtT.kmove ?_
  have hpos : (0 : Int) < ((x0 :: l).length : Int) := by simp only [List.length_cons]; omega
  refine AtT.kidx Try.underlying27 tk3 ?_
  intro p9 e9 he9 hc9
  first | refine AtT.kloadO tk3 ?_ | refine AtT.kload tk3 ?_
  refine AtT.kassign ?_
  refine AtT.done ?_
  refine At.nrm ?_
  have he : e9 = x0 := by simpa using he9.symm
  subst he
  refine At.ktext (.q 0 (.q 1 (.q 2 (.q 3 .done)))) ?_
  refine AtT.kmove ?_
  have hpos1 : (1 : Int) ≤ ((e9 :: l).length : Int) := by simp only [List.length_cons]; omega
  refine AtT.ktail Try.underlying27 tk3 ?_
  intro a12 c12 hs12
  first | refine AtT.klenS Try.underlying27 ?_ | refine AtT.klenR Try.underlying27 ?_
  refine AtT.kmove ?_
  refine AtT.done ?_
  refine At.nrm ?_
  refine At.lp (ι := Nat) (KS := fun k => [(1, .func (.func g) #[] cap.toArray), (5, iv (bestOf lt e9 (l.take k))), (12, .slice a12 l.length c12), (13, iv l.length), (14, iv k)]) (OS := fun _ => [])
    (VS := fun k V' => V' = V ∧ k ≤ l.length) (μ := fun k => l.length - k) 0 ?_ ?_ ?_ ?_
  · exact ⟨rfl, rfl, rfl, rfl, rfl, trivial⟩
  · exact Pt.auto
  · exact ⟨rfl, Nat.zero_le _⟩
  · rintro k V' ks' O' ⟨rfl, hkl⟩ hk hO hl
    subst hk hO
    have hs' : SlI V' (.slice a12 l.length c12) l := hs12
    refine At.nrm ?_
    refine At.ktext (.q 0 .done) ?_
    refine AtT.klss ?_
    refine AtT.done ?_
    refine At.nrm ?_
    refine At.condP rfl (fun hp => ?_) (fun hp => ?_)
    · refine At.nrm ?_
      refine At.ktext (.q 0 (.q 1 (.q 2 .done))) ?_
      refine AtT.kidx Try.underlying27 tk3 ?_
      intro p16 e16 he16 hc16
      first | refine AtT.kloadO tk3 ?_ | refine AtT.kload tk3 ?_
      refine AtT.kassign ?_
      refine AtT.done ?_
      refine At.nrm ?_
      have hmem : bestOf lt e9 (l.take k) ∈ e9 :: l := bestOf_mem lt e9 l k
      have hee : l[k]? = some e16 := by simpa using he16
      refine At.ktext (.q 0 (.q 1 (.q 2 (.n false 3 .done)))) ?_
      refine AtT.kmove ?_
      refine AtT.kmove ?_
      refine AtT.kmove ?_
      refine AtT.kcallV rfl rfl rfl hok (hc e16 (bestOf lt e9 (l.take k)) (List.mem_cons_of_mem _ (List.mem_of_getElem? hee)) hmem) ?_
      rintro _ rfl
      refine AtT.done ?_
      refine At.nrm ?_
      have hnx : bestOf lt e9 (l.take (k + 1)) = if lt e16 (bestOf lt e9 (l.take k)) then e16 else bestOf lt e9 (l.take k) := by
        rw [← bestOf_snoc, List.take_succ_eq_append_getElem (by omega)]; congr 2; rw [List.getElem?_eq_getElem (by omega)] at hee; simpa using hee
      refine At.cond rfl (fun hb => ?_) (fun hb => ?_)
      · refine At.nrm ?_
        refine At.ktext (.q 0 (.q 1 .done)) ?_
        refine AtT.kmove ?_
        refine AtT.kassign ?_
        refine AtT.done ?_
        refine At.nrm ?_
        refine At.ktext (.q 0 (.q 1 .done)) ?_
        first | refine AtT.kadd ?_ | refine AtT.kaddW ?_
        refine AtT.kmove ?_
        refine AtT.done ?_
        refine At.nrm ?_
        refine At.round (k + 1) ?_ ?_ ?_ ?_
        · show l.length - (k + 1) < l.length - k; omega
        · exact ⟨rfl, by omega⟩
        · refine ⟨rfl, ?_, rfl, rfl, rfl, trivial⟩
          rw [hnx, if_pos hb]; rfl
        · exact Pt.auto
      · refine At.nrm ?_
        refine At.ktext (.q 0 (.q 1 .done)) ?_
        first | refine AtT.kadd ?_ | refine AtT.kaddW ?_
        refine AtT.kmove ?_
        refine AtT.done ?_
        refine At.nrm ?_
        refine At.round (k + 1) ?_ ?_ ?_ ?_
        · show l.length - (k + 1) < l.length - k; omega
        · exact ⟨rfl, by omega⟩
        · refine ⟨rfl, ?_, rfl, rfl, rfl, trivial⟩
          rw [hnx, if_neg (by rw [hb]; simp)]; rfl
        · exact Pt.auto
    · have hkk : k = l.length := by omega
      subst hkk
      refine At.nrm ?_
      refine At.ktext (.q 0 (.q 1 .done)) ?_
      refine AtT.kmove ?_
      refine AtT.kassign ?_
      refine AtT.done ?_
      refine At.nrm ?_
      refine At.ret1 rfl (.tmp rfl) ?_
      rw [List.take_length]
theorem within1_f (n lo hi : Int) (V : View) (p1 p2 : Addr) (h1 : Cells V p1 [iv lo]) (h2 : Cells V p2 [iv hi]) :
    Fnc Try.prog 94 [iv n, .pointer (some p1), .pointer (some p2)] V fun v _ => v = .bool (outB lo hi n) := by
  refine fn_of Try.func94 rfl Try.ntmps94 (Nat.le_of_ble_eq_true rfl) ?_
  intro w0 hw0
  refine At.nrm ?_
  refine At.ktext (.q 0 .done) ?_
  refine AtT.kassign ?_
  refine AtT.done ?_
  refine At.nrm ?_
  refine At.ktext (.q 0 (.q 1 (.q 2 (.q 3 (.q 4 (.q 5 (.q 6 (.q 7 (.q 8 .done))))))))) ?_
  refine AtT.kmove ?_
  first | refine AtT.kloadO tk2 ?_ | refine AtT.kload tk2 ?_
  refine AtT.klss ?_
  refine AtT.kmove ?_
  all_goals (first | refine AtT.kL 8 ?_ | refine AtT.pcase (d := 8) rfl (fun hg8 => ?_) (fun hg8 => ?_) | refine AtT.bcase (d := 8) rfl (fun hg8 => ?_) (fun hg8 => ?_))
  all_goals (first | refine AtT.kpass ?_ | refine AtT.kpassU ?_ | ((refine AtT.kmove ?_)))
  all_goals (first | refine AtT.kpass ?_ | refine AtT.kpassU ?_ | ((first | refine AtT.kloadO tk2 ?_ | refine AtT.kload tk2 ?_)))
  all_goals (first | refine AtT.kpass ?_ | refine AtT.kpassU ?_ | ((refine AtT.kgtr ?_)))
  all_goals (refine AtT.kpick ?_)
  all_goals (refine AtT.kassign ?_)
  all_goals refine AtT.done ?_
  all_goals (refine At.nrm ?_)
  · exact At.ret1 rfl (.tmp rfl) (by simp [outB, hg8])
  · exact At.ret1 rfl (.tmp rfl) (by simp [outB, hg8])

theorem within_f (lo hi : Int) (l : List Int) (V : View) (vl : Value) (hs : SlI V vl l) :
    Fnc Try.prog 65 [iv lo, iv hi, vl] V fun v _ => v = .bool (wi lo hi l) := by
  refine fn_of Try.func65 rfl Try.ntmps65 (Nat.le_of_ble_eq_true rfl) ?_
  intro w0 hw0
  refine At.nrm ?_
  refine At.ktext (.n false 0 (.n false 1 (.q 2 .done))) ?_
  refine AtT.kbox ?_
  intro b3
  refine AtT.kbox ?_
  intro b4
  refine AtT.kassign ?_
  refine AtT.done ?_
  refine At.nrm ?_
  refine At.giveB (b := b3) Pick.auto ?_
  intro V3 hV3 hb3
  refine At.giveB (b := b4) Pick.auto ?_
  intro V4 hV4 hb4
  have hs4 := hs.le (hV3.trans hV4)
  have hc3 := (cells_blk hb3).le hV4
  have hc4 := cells_blk hb4
  refine At.ktext (.q 0 (.q 1 (.n false 2 (.q 3 (.q 4 .done))))) ?_
  refine AtT.kmove ?_
  refine AtT.kfn ?_
  refine AtT.kcallP rfl rfl ok93 (contains_i 94 [.pointer (some ⟨b3, 0, none⟩), .pointer (some ⟨b4, 0, none⟩)] (outB lo hi) V4 vl l hs4 ok94 (fun x _ => within1_f x lo hi V4 _ _ hc3 hc4)) ?_
  rintro _ rfl
  refine AtT.knot ?_
  refine AtT.kassign ?_
  refine AtT.done ?_
  refine At.nrm ?_
  exact At.ret1 rfl (.tmp rfl) rfl


theorem rng_f (lo hi : Int) (V : View) : Fnc Try.prog 64 [.agg #[iv lo, iv hi]] V fun v _ => v = .bool (rngB lo hi) := by
  refine fn_of Try.func64 rfl Try.ntmps64 (Nat.le_of_ble_eq_true rfl) ?_
  intro w0 hw0
  refine At.nrm ?_
  refine At.ktext (.n false 0 (.q 1 .done)) ?_
  refine AtT.kbox ?_
  intro b1
  refine AtT.kassign ?_
  refine AtT.done ?_
  refine At.nrm ?_
  refine At.ktext (.q 0 (.q 1 (.q 2 (.q 3 (.n false 4 (.n false 5 (.q 6 (.q 7 (.q 8 (.q 9 (.q 10 (.q 11 (.q 12 (.q 13 .done)))))))))))))) ?_
  first | refine AtT.kfieldO fo23_0 ?_ | with_reducible refine AtT.kfield2 fo23_0 ?_ | refine AtT.kfield fo23_0 ?_
  first | refine AtT.kloadO tk2 ?_ | refine AtT.kload tk2 ?_
  first | refine AtT.kfieldO fo23_1 ?_ | with_reducible refine AtT.kfield2 fo23_1 ?_ | refine AtT.kfield fo23_1 ?_
  first | refine AtT.kloadO tk2 ?_ | refine AtT.kload tk2 ?_
  refine AtT.kbsliceG (bs105_2_0_1 _ _) ?_
  intro q7 V7 hV7 hq7
  have g7 : Le V V7 := by first | exact hV7 | exact Le.trans (by assumption) hV7
  refine AtT.kcallP rfl rfl ok65 (within_f 1 240 [lo, hi] _ _ (Sl.lit hq7 rfl (by simp))) ?_
  rintro _ rfl
  refine AtT.kmove ?_
  all_goals (first | refine AtT.kL 9 ?_ | refine AtT.pcase (d := 9) rfl (fun hg9 => ?_) (fun hg9 => ?_) | refine AtT.bcase (d := 9) rfl (fun hg9 => ?_) (fun hg9 => ?_))
  all_goals (first | refine AtT.kpass ?_ | refine AtT.kpassU ?_ | ((first | refine AtT.kfieldO fo23_0 ?_ | with_reducible refine AtT.kfield2 fo23_0 ?_ | refine AtT.kfield fo23_0 ?_)))
  all_goals (first | refine AtT.kpass ?_ | refine AtT.kpassU ?_ | ((first | refine AtT.kloadO tk2 ?_ | refine AtT.kload tk2 ?_)))
  all_goals (first | refine AtT.kpass ?_ | refine AtT.kpassU ?_ | ((first | refine AtT.kfieldO fo23_1 ?_ | with_reducible refine AtT.kfield2 fo23_1 ?_ | refine AtT.kfield fo23_1 ?_)))
  all_goals (first | refine AtT.kpass ?_ | refine AtT.kpassU ?_ | ((first | refine AtT.kloadO tk2 ?_ | refine AtT.kload tk2 ?_)))
  all_goals (first | refine AtT.kpass ?_ | refine AtT.kpassU ?_ | ((refine AtT.kleq ?_)))
  all_goals (refine AtT.kpick ?_)
  all_goals (refine AtT.kassign ?_)
  all_goals refine AtT.done ?_
  all_goals (refine At.nrm ?_)
  all_goals (refine At.ret1 rfl (.tmp rfl) ?_)
  all_goals (rw [← wi_rng]; simp_all)
theorem day_f (d : Dy) (V : View) : Fnc Try.prog 21 [dyv d] V fun v _ => v = iv (dayE d) := by
  refine fn_of Try.func21 rfl Try.ntmps21 (Nat.le_of_ble_eq_true rfl) ?_
  intro w0 hw0
  refine At.nrm ?_
  refine At.ktext (.n false 0 (.q 1 .done)) ?_
  refine AtT.kbox ?_
  intro b1
  refine AtT.kassign ?_
  refine AtT.done ?_
  refine At.nrm ?_
  refine At.ktext (.q 0 (.q 1 (.n false 2 (.q 3 (.q 4 (.q 5 (.q 6 (.n false 7 (.n false 8 (.q 9 (.q 10 .done))))))))))) ?_
  first | refine AtT.kfieldO fo25_0 ?_ | with_reducible refine AtT.kfield2 fo25_0 ?_ | refine AtT.kfield fo25_0 ?_
  first | refine AtT.kloadOA tk23 ?_ | refine AtT.kloadA tk23 ?_ | refine AtT.kloadOP tk23 ?_
  refine AtT.kcallP rfl rfl ok64 (rng_f d.lo d.hi _) ?_
  rintro _ rfl
  refine AtT.knot ?_
  refine AtT.kmove ?_
  all_goals (first | refine AtT.kL 7 ?_ | refine AtT.pcase (d := 7) rfl (fun hg7 => ?_) (fun hg7 => ?_) | refine AtT.bcase (d := 7) rfl (fun hg7 => ?_) (fun hg7 => ?_))
  all_goals (first | refine AtT.kpass ?_ | refine AtT.kpassU ?_ | ((first | refine AtT.kfieldO fo25_1 ?_ | with_reducible refine AtT.kfield2 fo25_1 ?_ | refine AtT.kfield fo25_1 ?_)))
  all_goals (first | refine AtT.kpass ?_ | refine AtT.kpassU ?_ | ((first | refine AtT.kloadO tk2 ?_ | refine AtT.kload tk2 ?_)))
  all_goals (first | refine AtT.kpassN ?_ | refine AtT.kpassNU ?_ | ((refine AtT.kbsliceG (bs105_1_0 _) ?_) ; (intro q10 V10 hV10 hq10) ; (have g10 : Le V V10 := by first | exact hV10 | exact Le.trans (by assumption) hV10)))
  all_goals (first | refine AtT.kpassN ?_ | refine AtT.kpassNU ?_ | ((refine AtT.kcallP rfl rfl ok65 (within_f 1 200 [d.pot] _ _ (Sl.lit hq10 rfl (by simp))) ?_) ; (rintro _ rfl)))
  all_goals (first | refine AtT.kpass ?_ | refine AtT.kpassU ?_ | ((refine AtT.knot ?_)))
  all_goals (refine AtT.kpick ?_)
  all_goals refine AtT.done ?_
  all_goals (refine At.nrm ?_)
  · refine At.condT rfl rfl ?_
    refine At.nrm ?_
    refine At.ktext (.q 0 .done) ?_
    refine AtT.kassign ?_
    refine AtT.done ?_
    refine At.nrm ?_
    refine At.ret1 rfl (.tmp rfl) ?_
    have : rngB d.lo d.hi = false := by simpa using hg7
    simp [dayE, dayB, this]
  · have h1 : rngB d.lo d.hi = true := by simpa using hg7
    refine At.cond rfl (fun hb => ?_) (fun hb => ?_)
    · rw [wi_pot] at hb
      have h2 : potB d.pot = false := by simpa using hb
      refine At.nrm ?_
      refine At.ktext (.q 0 .done) ?_
      refine AtT.kassign ?_
      refine AtT.done ?_
      refine At.nrm ?_
      refine At.ret1 rfl (.tmp rfl) ?_
      simp [dayE, dayB, h1, h2]
    · rw [wi_pot] at hb
      have h2 : potB d.pot = true := by simpa using hb
      refine At.nrm ?_
      refine At.ktext (.q 0 .done) ?_
      refine AtT.kassign ?_
      refine AtT.done ?_
      refine At.nrm ?_
      refine At.ret1 rfl (.tmp rfl) ?_
      simp [dayE, dayB, h1, h2]
theorem rrng_f (lo hi : Int) (V : View) : Fnc Try.prog 66 [.agg #[iv lo, iv hi]] V fun v _ => v = .bool (rngB lo hi) := by
  refine fn_of Try.func66 rfl Try.ntmps66 (Nat.le_of_ble_eq_true rfl) ?_
  intro w0 hw0
  refine At.nrm ?_
  refine At.ktext (.n false 0 (.q 1 .done)) ?_
  refine AtT.kbox ?_
  intro b1
  refine AtT.kassign ?_
  refine AtT.done ?_
  refine At.nrm ?_
  refine At.ktext (.q 0 (.q 1 (.q 2 (.q 3 (.q 4 (.q 5 (.q 6 (.q 7 (.q 8 (.q 9 (.q 10 (.q 11 (.q 12 (.q 13 (.q 14 (.q 15 .done)))))))))))))))) ?_
  first | refine AtT.kfieldO fo23_0 ?_ | with_reducible refine AtT.kfield2 fo23_0 ?_ | refine AtT.kfield fo23_0 ?_
  first | refine AtT.kloadO tk2 ?_ | refine AtT.kload tk2 ?_
  refine AtT.kgeq ?_
  refine AtT.kmove ?_
  all_goals (first | refine AtT.kL 6 ?_ | refine AtT.pcase (d := 6) rfl (fun hg6 => ?_) (fun hg6 => ?_) | refine AtT.bcase (d := 6) rfl (fun hg6 => ?_) (fun hg6 => ?_))
  all_goals (first | refine AtT.kpass ?_ | refine AtT.kpassU ?_ | ((first | refine AtT.kfieldO fo23_0 ?_ | with_reducible refine AtT.kfield2 fo23_0 ?_ | refine AtT.kfield fo23_0 ?_)))
  all_goals (first | refine AtT.kpass ?_ | refine AtT.kpassU ?_ | ((first | refine AtT.kloadO tk2 ?_ | refine AtT.kload tk2 ?_)))
  all_goals (first | refine AtT.kpass ?_ | refine AtT.kpassU ?_ | ((first | refine AtT.kfieldO fo23_1 ?_ | with_reducible refine AtT.kfield2 fo23_1 ?_ | refine AtT.kfield fo23_1 ?_)))
  all_goals (first | refine AtT.kpass ?_ | refine AtT.kpassU ?_ | ((first | refine AtT.kloadO tk2 ?_ | refine AtT.kload tk2 ?_)))
  all_goals (first | refine AtT.kpass ?_ | refine AtT.kpassU ?_ | ((refine AtT.kleq ?_)))
  all_goals (refine AtT.kpick ?_)
  all_goals (refine AtT.kmove ?_)
  all_goals (first | refine AtT.kL 13 ?_ | refine AtT.pcase (d := 13) rfl (fun hg13 => ?_) (fun hg13 => ?_) | refine AtT.bcase (d := 13) rfl (fun hg13 => ?_) (fun hg13 => ?_))
  all_goals (first | refine AtT.kpass ?_ | refine AtT.kpassU ?_ | ((first | refine AtT.kfieldO fo23_1 ?_ | with_reducible refine AtT.kfield2 fo23_1 ?_ | refine AtT.kfield fo23_1 ?_)))
  all_goals (first | refine AtT.kpass ?_ | refine AtT.kpassU ?_ | ((first | refine AtT.kloadO tk2 ?_ | refine AtT.kload tk2 ?_)))
  all_goals (first | refine AtT.kpass ?_ | refine AtT.kpassU ?_ | ((refine AtT.kleq ?_)))
  all_goals (refine AtT.kpick ?_)
  all_goals (refine AtT.kassign ?_)
  all_goals refine AtT.done ?_
  all_goals (refine At.nrm ?_)
  all_goals (refine At.ret1 rfl (.tmp rfl) ?_)
  all_goals (simp_all [rngB])
  all_goals (try omega)
theorem rday_f (d : Dy) (V : View) : Fnc Try.prog 22 [dyv d] V fun v _ => v = iv (dayE d) := by
  refine fn_of Try.func22 rfl Try.ntmps22 (Nat.le_of_ble_eq_true rfl) ?_
  intro w0 hw0
  refine At.nrm ?_
  refine At.ktext (.n false 0 (.q 1 .done)) ?_
  refine AtT.kbox ?_
  intro b1
  refine AtT.kassign ?_
  refine AtT.done ?_
  refine At.nrm ?_
  by_cases h1 : rngB d.lo d.hi = true
  · by_cases h2 : d.pot < 1
    · refine At.ktext (.q 0 (.q 1 (.n false 2 (.q 3 (.q 4 (.q 5 (.q 6 (.q 7 (.q 8 (.q 9 (.q 10 (.q 11 (.q 12 (.q 13 .done)))))))))))))) ?_
      first | refine AtT.kfieldO fo25_0 ?_ | with_reducible refine AtT.kfield2 fo25_0 ?_ | refine AtT.kfield fo25_0 ?_
      first | refine AtT.kloadOA tk23 ?_ | refine AtT.kloadA tk23 ?_ | refine AtT.kloadOP tk23 ?_
      refine AtT.kcallP rfl rfl ok66 (rrng_f d.lo d.hi _) ?_
      rintro _ rfl; rw [h1]
      refine AtT.knot ?_
      refine AtT.kmove ?_
      all_goals (first | refine AtT.kL 7 ?_ | refine AtT.pcase (d := 7) rfl (fun hg7 => ?_) (fun hg7 => ?_) | refine AtT.bcase (d := 7) rfl (fun hg7 => ?_) (fun hg7 => ?_))
      all_goals (first | refine AtT.kpass ?_ | refine AtT.kpassU ?_ | ((first | refine AtT.kfieldO fo25_1 ?_ | with_reducible refine AtT.kfield2 fo25_1 ?_ | refine AtT.kfield fo25_1 ?_)))
      all_goals (first | refine AtT.kpass ?_ | refine AtT.kpassU ?_ | ((first | refine AtT.kloadO tk2 ?_ | refine AtT.kload tk2 ?_)))
      all_goals (first | refine AtT.kpass ?_ | refine AtT.kpassU ?_ | ((refine AtT.klss ?_)))
      all_goals (refine AtT.setT (d := 10) rfl (h2) ?_)
      all_goals (refine AtT.kpick ?_)
      all_goals (refine AtT.kmove ?_)
      all_goals (first | refine AtT.kL 12 ?_ | refine AtT.pcase (d := 12) rfl (fun hg12 => ?_) (fun hg12 => ?_) | refine AtT.bcase (d := 12) rfl (fun hg12 => ?_) (fun hg12 => ?_))
      all_goals (first | refine AtT.kpass ?_ | refine AtT.kpassU ?_ | ((first | refine AtT.kfieldO fo25_1 ?_ | with_reducible refine AtT.kfield2 fo25_1 ?_ | refine AtT.kfield fo25_1 ?_)))
      all_goals (first | refine AtT.kpass ?_ | refine AtT.kpassU ?_ | ((first | refine AtT.kloadO tk2 ?_ | refine AtT.kload tk2 ?_)))
      all_goals (first | refine AtT.kpass ?_ | refine AtT.kpassU ?_ | ((refine AtT.kgtr ?_)))
      all_goals (refine AtT.kpick ?_)
      all_goals refine AtT.done ?_
      all_goals (refine At.nrm ?_)
      refine At.condT rfl rfl ?_
      refine At.nrm ?_
      refine At.ktext (.q 0 .done) ?_
      refine AtT.kassign ?_
      refine AtT.done ?_
      refine At.nrm ?_
      refine At.ret1 rfl (.tmp rfl) ?_
      simp [dayE, dayB, h1, potB]; omega
    · by_cases h3 : 200 < d.pot
      · refine At.ktext (.q 0 (.q 1 (.n false 2 (.q 3 (.q 4 (.q 5 (.q 6 (.q 7 (.q 8 (.q 9 (.q 10 (.q 11 (.q 12 (.q 13 .done)))))))))))))) ?_
        first | refine AtT.kfieldO fo25_0 ?_ | with_reducible refine AtT.kfield2 fo25_0 ?_ | refine AtT.kfield fo25_0 ?_
        first | refine AtT.kloadOA tk23 ?_ | refine AtT.kloadA tk23 ?_ | refine AtT.kloadOP tk23 ?_
        refine AtT.kcallP rfl rfl ok66 (rrng_f d.lo d.hi _) ?_
        rintro _ rfl; rw [h1]
        refine AtT.knot ?_
        refine AtT.kmove ?_
        all_goals (first | refine AtT.kL 7 ?_ | refine AtT.pcase (d := 7) rfl (fun hg7 => ?_) (fun hg7 => ?_) | refine AtT.bcase (d := 7) rfl (fun hg7 => ?_) (fun hg7 => ?_))
        all_goals (first | refine AtT.kpass ?_ | refine AtT.kpassU ?_ | ((first | refine AtT.kfieldO fo25_1 ?_ | with_reducible refine AtT.kfield2 fo25_1 ?_ | refine AtT.kfield fo25_1 ?_)))
        all_goals (first | refine AtT.kpass ?_ | refine AtT.kpassU ?_ | ((first | refine AtT.kloadO tk2 ?_ | refine AtT.kload tk2 ?_)))
        all_goals (first | refine AtT.kpass ?_ | refine AtT.kpassU ?_ | ((refine AtT.klss ?_)))
        all_goals (refine AtT.setF (d := 10) rfl (h2) ?_)
        all_goals (refine AtT.kpick ?_)
        all_goals (refine AtT.kmove ?_)
        all_goals (first | refine AtT.kL 12 ?_ | refine AtT.pcase (d := 12) rfl (fun hg12 => ?_) (fun hg12 => ?_) | refine AtT.bcase (d := 12) rfl (fun hg12 => ?_) (fun hg12 => ?_))
        all_goals (first | refine AtT.kpass ?_ | refine AtT.kpassU ?_ | ((first | refine AtT.kfieldO fo25_1 ?_ | with_reducible refine AtT.kfield2 fo25_1 ?_ | refine AtT.kfield fo25_1 ?_)))
        all_goals (first | refine AtT.kpass ?_ | refine AtT.kpassU ?_ | ((first | refine AtT.kloadO tk2 ?_ | refine AtT.kload tk2 ?_)))
        all_goals (first | refine AtT.kpass ?_ | refine AtT.kpassU ?_ | ((refine AtT.kgtr ?_)))
        all_goals (refine AtT.setT (d := 15) rfl (h3) ?_)
        all_goals (refine AtT.kpick ?_)
        all_goals refine AtT.done ?_
        all_goals (refine At.nrm ?_)
        refine At.condT rfl rfl ?_
        refine At.nrm ?_
        refine At.ktext (.q 0 .done) ?_
        refine AtT.kassign ?_
        refine AtT.done ?_
        refine At.nrm ?_
        refine At.ret1 rfl (.tmp rfl) ?_
        simp [dayE, dayB, h1, potB]; omega
      · refine At.ktext (.q 0 (.q 1 (.n false 2 (.q 3 (.q 4 (.q 5 (.q 6 (.q 7 (.q 8 (.q 9 (.q 10 (.q 11 (.q 12 (.q 13 .done)))))))))))))) ?_
        first | refine AtT.kfieldO fo25_0 ?_ | with_reducible refine AtT.kfield2 fo25_0 ?_ | refine AtT.kfield fo25_0 ?_
        first | refine AtT.kloadOA tk23 ?_ | refine AtT.kloadA tk23 ?_ | refine AtT.kloadOP tk23 ?_
        refine AtT.kcallP rfl rfl ok66 (rrng_f d.lo d.hi _) ?_
        rintro _ rfl; rw [h1]
        refine AtT.knot ?_
        refine AtT.kmove ?_
        all_goals (first | refine AtT.kL 7 ?_ | refine AtT.pcase (d := 7) rfl (fun hg7 => ?_) (fun hg7 => ?_) | refine AtT.bcase (d := 7) rfl (fun hg7 => ?_) (fun hg7 => ?_))
        all_goals (first | refine AtT.kpass ?_ | refine AtT.kpassU ?_ | ((first | refine AtT.kfieldO fo25_1 ?_ | with_reducible refine AtT.kfield2 fo25_1 ?_ | refine AtT.kfield fo25_1 ?_)))
        all_goals (first | refine AtT.kpass ?_ | refine AtT.kpassU ?_ | ((first | refine AtT.kloadO tk2 ?_ | refine AtT.kload tk2 ?_)))
        all_goals (first | refine AtT.kpass ?_ | refine AtT.kpassU ?_ | ((refine AtT.klss ?_)))
        all_goals (refine AtT.setF (d := 10) rfl (h2) ?_)
        all_goals (refine AtT.kpick ?_)
        all_goals (refine AtT.kmove ?_)
        all_goals (first | refine AtT.kL 12 ?_ | refine AtT.pcase (d := 12) rfl (fun hg12 => ?_) (fun hg12 => ?_) | refine AtT.bcase (d := 12) rfl (fun hg12 => ?_) (fun hg12 => ?_))
        all_goals (first | refine AtT.kpass ?_ | refine AtT.kpassU ?_ | ((first | refine AtT.kfieldO fo25_1 ?_ | with_reducible refine AtT.kfield2 fo25_1 ?_ | refine AtT.kfield fo25_1 ?_)))
        all_goals (first | refine AtT.kpass ?_ | refine AtT.kpassU ?_ | ((first | refine AtT.kloadO tk2 ?_ | refine AtT.kload tk2 ?_)))
        all_goals (first | refine AtT.kpass ?_ | refine AtT.kpassU ?_ | ((refine AtT.kgtr ?_)))
        all_goals (refine AtT.setF (d := 15) rfl (h3) ?_)
        all_goals (refine AtT.kpick ?_)
        all_goals refine AtT.done ?_
        all_goals (refine At.nrm ?_)
        refine At.condF rfl rfl ?_
        refine At.nrm ?_
        refine At.ktext (.q 0 .done) ?_
        refine AtT.kassign ?_
        refine AtT.done ?_
        refine At.nrm ?_
        refine At.ret1 rfl (.tmp rfl) ?_
        simp [dayE, dayB, h1, potB]; omega
  · have h1' : rngB d.lo d.hi = false := by simpa using h1
    refine At.ktext (.q 0 (.q 1 (.n false 2 (.q 3 (.q 4 (.q 5 (.q 6 (.q 7 (.q 8 (.q 9 (.q 10 (.q 11 (.q 12 (.q 13 .done)))))))))))))) ?_
    first | refine AtT.kfieldO fo25_0 ?_ | with_reducible refine AtT.kfield2 fo25_0 ?_ | refine AtT.kfield fo25_0 ?_
    first | refine AtT.kloadOA tk23 ?_ | refine AtT.kloadA tk23 ?_ | refine AtT.kloadOP tk23 ?_
    refine AtT.kcallP rfl rfl ok66 (rrng_f d.lo d.hi _) ?_
    rintro _ rfl; rw [h1']
    refine AtT.knot ?_
    refine AtT.kmove ?_
    all_goals (first | refine AtT.kL 7 ?_ | refine AtT.pcase (d := 7) rfl (fun hg7 => ?_) (fun hg7 => ?_) | refine AtT.bcase (d := 7) rfl (fun hg7 => ?_) (fun hg7 => ?_))
    all_goals (first | refine AtT.kpass ?_ | refine AtT.kpassU ?_ | ((first | refine AtT.kfieldO fo25_1 ?_ | with_reducible refine AtT.kfield2 fo25_1 ?_ | refine AtT.kfield fo25_1 ?_)))
    all_goals (first | refine AtT.kpass ?_ | refine AtT.kpassU ?_ | ((first | refine AtT.kloadO tk2 ?_ | refine AtT.kload tk2 ?_)))
    all_goals (first | refine AtT.kpass ?_ | refine AtT.kpassU ?_ | ((refine AtT.klss ?_)))
    all_goals (refine AtT.kpick ?_)
    all_goals (refine AtT.kmove ?_)
    all_goals (first | refine AtT.kL 12 ?_ | refine AtT.pcase (d := 12) rfl (fun hg12 => ?_) (fun hg12 => ?_) | refine AtT.bcase (d := 12) rfl (fun hg12 => ?_) (fun hg12 => ?_))
    all_goals (first | refine AtT.kpass ?_ | refine AtT.kpassU ?_ | ((first | refine AtT.kfieldO fo25_1 ?_ | with_reducible refine AtT.kfield2 fo25_1 ?_ | refine AtT.kfield fo25_1 ?_)))
    all_goals (first | refine AtT.kpass ?_ | refine AtT.kpassU ?_ | ((first | refine AtT.kloadO tk2 ?_ | refine AtT.kload tk2 ?_)))
    all_goals (first | refine AtT.kpass ?_ | refine AtT.kpassU ?_ | ((refine AtT.kgtr ?_)))
    all_goals (refine AtT.kpick ?_)
    all_goals refine AtT.done ?_
    all_goals (refine At.nrm ?_)
    refine At.condT rfl rfl ?_
    refine At.nrm ?_
    refine At.ktext (.q 0 .done) ?_
    refine AtT.kassign ?_
    refine AtT.done ?_
    refine At.nrm ?_
    refine At.ret1 rfl (.tmp rfl) ?_
    simp [dayE, dayB, h1']
theorem stray_f (p : Pn) (V : View) : Fnc Try.prog 67 [pnv p] V fun v _ => v = .bool (strayB p) := by
  refine fn_of Try.func67 rfl Try.ntmps67 (Nat.le_of_ble_eq_true rfl) ?_
  intro w0 hw0
  refine At.nrm ?_
  refine At.ktext (.n false 0 (.q 1 .done)) ?_
  refine AtT.kbox ?_
  intro b1
  refine AtT.kassign ?_
  refine AtT.done ?_
  refine At.nrm ?_
  refine At.ktext (.q 0 (.q 1 (.n false 2 (.q 3 (.q 4 (.q 5 (.q 6 (.n false 7 (.n false 8 (.q 9 (.q 10 (.q 11 .done)))))))))))) ?_
  first | refine AtT.kfieldO fo60_0 ?_ | with_reducible refine AtT.kfield2 fo60_0 ?_ | refine AtT.kfield fo60_0 ?_
  first | refine AtT.kloadOA tk23 ?_ | refine AtT.kloadA tk23 ?_ | refine AtT.kloadOP tk23 ?_
  refine AtT.kcallP rfl rfl ok64 (rng_f p.lo p.hi _) ?_
  rintro _ rfl
  refine AtT.knot ?_
  refine AtT.kmove ?_
  all_goals (first | refine AtT.kL 7 ?_ | refine AtT.pcase (d := 7) rfl (fun hg7 => ?_) (fun hg7 => ?_) | refine AtT.bcase (d := 7) rfl (fun hg7 => ?_) (fun hg7 => ?_))
  all_goals (first | refine AtT.kpass ?_ | refine AtT.kpassU ?_ | ((first | refine AtT.kfieldO fo60_1 ?_ | with_reducible refine AtT.kfield2 fo60_1 ?_ | refine AtT.kfield fo60_1 ?_)))
  all_goals (first | refine AtT.kpass ?_ | refine AtT.kpassU ?_ | ((first | refine AtT.kloadO tk2 ?_ | refine AtT.kload tk2 ?_)))
  all_goals (first | refine AtT.kpassN ?_ | refine AtT.kpassNU ?_ | ((refine AtT.kbsliceG (bs105_1_0 _) ?_) ; (intro q10 V10 hV10 hq10) ; (have g10 : Le V V10 := by first | exact hV10 | exact Le.trans (by assumption) hV10)))
  all_goals (first | refine AtT.kpassN ?_ | refine AtT.kpassNU ?_ | ((refine AtT.kcallP rfl rfl ok65 (within_f 1 200 [p.sp] _ _ (Sl.lit hq10 rfl (by simp))) ?_) ; (rintro _ rfl; rw [wi_pot])))
  all_goals (first | refine AtT.kpass ?_ | refine AtT.kpassU ?_ | ((refine AtT.knot ?_)))
  all_goals (refine AtT.kpick ?_)
  all_goals (refine AtT.kassign ?_)
  all_goals refine AtT.done ?_
  all_goals (refine At.nrm ?_)
  all_goals (refine At.ret1 rfl (.tmp rfl) ?_)
  all_goals (simp_all [strayB])
theorem pan_f (ps : List Pn) (V : View) (v : Value) (hs : Sl V pne 3 v ps) : Fnc Try.prog 23 [v] V fun r _ => r = iv (panE ps) := by
  have hs' := hs
  obtain ⟨a, c, rfl, h1, h2, _⟩ := id hs
  refine fn_of Try.func23 rfl Try.ntmps23 (Nat.le_of_ble_eq_true rfl) ?_
  intro w0 hw0
  refine At.nrm ?_
  refine At.ktext (.q 0 .done) ?_
  refine AtT.kassign ?_
  refine AtT.done ?_
  refine At.nrm ?_
  refine At.ktext (.q 0 .done) ?_
  refine AtT.kassign ?_
  refine AtT.done ?_
  refine At.nrm ?_
  refine At.ktext (.q 0 (.q 1 (.q 2 (.q 3 .done)))) ?_
  refine AtT.kmove ?_
  first | refine AtT.klenS Try.underlying26 ?_ | refine AtT.klenR Try.underlying26 ?_
  refine AtT.kgtr ?_
  refine AtT.kassign ?_
  refine AtT.done ?_
  refine At.nrm ?_
  refine At.condP rfl (fun hb => ?_) (fun hb => ?_)
  · refine At.nrm ?_
    refine At.ktext (.q 0 .done) ?_
    refine AtT.kassign ?_
    refine AtT.done ?_
    refine At.nrm ?_
    refine At.ret1 rfl (.tmp rfl) ?_
    rw [panE, if_pos (by omega)]
  have hb' : ¬ 10 < ps.length := by omega
  refine At.nrm ?_
  refine At.ktext (.q 0 (.q 1 (.n false 2 (.q 3 .done)))) ?_
  refine AtT.kmove ?_
  refine AtT.kmove ?_
  refine AtT.kcallP rfl rfl ok68 (contains_p 67 [] strayB _ _ ps hs' ok67 (fun p _ => stray_f p _)) ?_
  rintro _ rfl
  refine AtT.kassign ?_
  refine AtT.done ?_
  refine At.nrm ?_
  refine At.cond rfl (fun hc => ?_) (fun hc => ?_)
  · refine At.nrm ?_
    refine At.ktext (.q 0 .done) ?_
    refine AtT.kassign ?_
    refine AtT.done ?_
    refine At.nrm ?_
    refine At.ret1 rfl (.tmp rfl) ?_
    rw [panE, if_neg hb', if_pos hc]
  refine At.nrm ?_
  refine At.ktext (.q 0 .done) ?_
  refine AtT.kassign ?_
  refine AtT.done ?_
  refine At.nrm ?_
  refine At.ret1 rfl (.tmp rfl) ?_
  rw [panE, if_neg hb', if_neg (by rw [hc]; simp)]
theorem pn_rng {V : View} {p : Addr} {x : Pn} (h : Cells V p (pne x)) : Cells V (p.add 0) [iv x.lo, iv x.hi] := h.at (k := 0) fun j u hj => by
  match j, hj with
  | 0, hj => exact hj
  | 1, hj => exact hj
theorem rpan_f (ps : List Pn) (V : View) (v : Value) (hs : Sl V pne 3 v ps) : Fnc Try.prog 24 [v] V fun r _ => r = iv (panE ps) := by
  have hs' := hs
  obtain ⟨a, c, rfl, h1, h2, _⟩ := id hs
  clear h1 h2
  refine fn_of Try.func24 rfl Try.ntmps24 (Nat.le_of_ble_eq_true rfl) ?_
  intro w0 hw0
  refine At.nrm ?_
  refine At.ktext (.q 0 .done) ?_
  refine AtT.kassign ?_
  refine AtT.done ?_
  refine At.nrm ?_
  refine At.ktext (.q 0 (.q 1 (.q 2 .done))) ?_
  refine AtT.kmove ?_
  first | refine AtT.klenS Try.underlying26 ?_ | refine AtT.klenR Try.underlying26 ?_
  refine AtT.kgtr ?_
  refine AtT.done ?_
  refine At.nrm ?_
  refine At.condP rfl (fun hb => ?_) (fun hb => ?_)
  · refine At.nrm ?_
    refine At.ktext (.q 0 .done) ?_
    refine AtT.kassign ?_
    refine AtT.done ?_
    refine At.nrm ?_
    refine At.ret1 rfl (.tmp rfl) ?_
    rw [panE, if_pos (by omega)]
  have hb' : ¬ 10 < ps.length := by omega
  refine At.nrm ?_
  refine At.ktext (.q 0 .done) ?_
  refine AtT.kassign ?_
  refine AtT.done ?_
  refine At.nrm ?_
  refine At.lp (ι := Nat) (KS := fun k => [(0, .slice a ps.length c), (3, iv k)]) (OS := fun _ => []) (VS := fun k V' => V' = V ∧ k ≤ ps.length ∧ (ps.take k).any strayB = false) (μ := fun k => ps.length - k) 0 ?_ ?_ ?_ ?_
  · exact ⟨rfl, rfl, trivial⟩
  · exact Pt.auto
  · exact ⟨rfl, Nat.zero_le _, rfl⟩
  · rintro k V' ks' O' ⟨rfl, hkl, hany⟩ hk hO hl
    subst hk hO
    refine At.nrm ?_
    refine At.ktext (.q 0 (.q 1 (.q 2 (.q 3 .done)))) ?_
    refine AtT.kmove ?_
    refine AtT.kmove ?_
    first | refine AtT.klenS Try.underlying26 ?_ | refine AtT.klenR Try.underlying26 ?_
    refine AtT.klss ?_
    refine AtT.done ?_
    refine At.nrm ?_
    refine At.condP rfl (fun hp => ?_) (fun hp => ?_)
    · obtain ⟨x, hx⟩ : ∃ x, ps[k]? = some x := ⟨_, List.getElem?_eq_getElem (by omega)⟩
      have hnx := take_snoc' hx
      refine At.nrm ?_
      by_cases hr' : rngB x.lo x.hi = false
      · have hr := hr'
        refine At.ktext (.q 0 (.q 1 (.q 2 (.q 3 (.q 4 (.n false 5 (.q 6 (.q 7 (.q 8 (.q 9 (.q 10 (.q 11 (.q 12 (.q 13 (.q 14 (.q 15 (.q 16 (.q 17 (.q 18 (.q 19 (.q 20 (.q 21 (.q 22 .done))))))))))))))))))))))) ?_
        refine AtT.kmove ?_
        refine AtT.kmove ?_
        refine AtT.kidx Try.underlying26 tk60 ?_
        intro p15 e15 he15 hc15
        obtain rfl : e15 = x := by have : ps[k]? = some e15 := (by simpa using he15); rw [hx] at this; simpa using this.symm
        have hc17 := pn_rng hc15
        first | refine AtT.kfieldO fo60_0 ?_ | with_reducible refine AtT.kfield2 fo60_0 ?_ | refine AtT.kfield fo60_0 ?_
        first | refine AtT.kloadOA tk23 ?_ | refine AtT.kloadA tk23 ?_ | refine AtT.kloadOP tk23 ?_
        refine AtT.kcallP rfl rfl ok66 (rrng_f _ _ _) ?_
        rintro _ rfl; rw [hr]
        refine AtT.knot ?_
        refine AtT.kmove ?_
        all_goals (first | refine AtT.kL 20 ?_ | refine AtT.pcase (d := 20) rfl (fun hg20 => ?_) (fun hg20 => ?_) | refine AtT.bcase (d := 20) rfl (fun hg20 => ?_) (fun hg20 => ?_))
        all_goals (first | refine AtT.kpass ?_ | refine AtT.kpassU ?_ | ((refine AtT.kmove ?_)))
        all_goals (first | refine AtT.kpass ?_ | refine AtT.kpassU ?_ | ((refine AtT.kmove ?_)))
        all_goals (first | refine AtT.kpass ?_ | refine AtT.kpassU ?_ | ((refine AtT.kidx Try.underlying26 tk60 ?_) ; (intro p23 e23 he23 hc23)))
        all_goals (first | refine AtT.kpass ?_ | refine AtT.kpassU ?_ | ((first | refine AtT.kfieldO fo60_1 ?_ | with_reducible refine AtT.kfield2 fo60_1 ?_ | refine AtT.kfield fo60_1 ?_)))
        all_goals (first | refine AtT.kpass ?_ | refine AtT.kpassU ?_ | ((first | refine AtT.kloadO tk2 ?_ | refine AtT.kload tk2 ?_)))
        all_goals (first | refine AtT.kpass ?_ | refine AtT.kpassU ?_ | ((refine AtT.klss ?_)))
        all_goals (refine AtT.kpick ?_)
        all_goals (refine AtT.kmove ?_)
        all_goals (first | refine AtT.kL 28 ?_ | refine AtT.pcase (d := 28) rfl (fun hg28 => ?_) (fun hg28 => ?_) | refine AtT.bcase (d := 28) rfl (fun hg28 => ?_) (fun hg28 => ?_))
        all_goals (first | refine AtT.kpass ?_ | refine AtT.kpassU ?_ | ((refine AtT.kmove ?_)))
        all_goals (first | refine AtT.kpass ?_ | refine AtT.kpassU ?_ | ((refine AtT.kmove ?_)))
        all_goals (first | refine AtT.kpass ?_ | refine AtT.kpassU ?_ | ((refine AtT.kidx Try.underlying26 tk60 ?_) ; (intro p31 e31 he31 hc31)))
        all_goals (first | refine AtT.kpass ?_ | refine AtT.kpassU ?_ | ((first | refine AtT.kfieldO fo60_1 ?_ | with_reducible refine AtT.kfield2 fo60_1 ?_ | refine AtT.kfield fo60_1 ?_)))
        all_goals (first | refine AtT.kpass ?_ | refine AtT.kpassU ?_ | ((first | refine AtT.kloadO tk2 ?_ | refine AtT.kload tk2 ?_)))
        all_goals (first | refine AtT.kpass ?_ | refine AtT.kpassU ?_ | ((refine AtT.kgtr ?_)))
        all_goals (refine AtT.kpick ?_)
        all_goals refine AtT.done ?_
        all_goals (refine At.nrm ?_)
        refine At.condT rfl rfl ?_
        refine At.nrm ?_
        refine At.ktext (.q 0 .done) ?_
        refine AtT.kassign ?_
        refine AtT.done ?_
        refine At.nrm ?_
        refine At.ret1 rfl (.tmp rfl) ?_
        rw [panE, if_neg hb', if_pos (List.any_eq_true.2 ⟨_, List.mem_of_getElem? hx, by simp [strayB, potB, hr]; try omega⟩)]
      have hr : rngB x.lo x.hi = true := by simpa using hr'
      by_cases h1 : x.sp < 1
      · skip
        refine At.ktext (.q 0 (.q 1 (.q 2 (.q 3 (.q 4 (.n false 5 (.q 6 (.q 7 (.q 8 (.q 9 (.q 10 (.q 11 (.q 12 (.q 13 (.q 14 (.q 15 (.q 16 (.q 17 (.q 18 (.q 19 (.q 20 (.q 21 (.q 22 .done))))))))))))))))))))))) ?_
        refine AtT.kmove ?_
        refine AtT.kmove ?_
        refine AtT.kidx Try.underlying26 tk60 ?_
        intro p15 e15 he15 hc15
        obtain rfl : e15 = x := by have : ps[k]? = some e15 := (by simpa using he15); rw [hx] at this; simpa using this.symm
        have hc17 := pn_rng hc15
        first | refine AtT.kfieldO fo60_0 ?_ | with_reducible refine AtT.kfield2 fo60_0 ?_ | refine AtT.kfield fo60_0 ?_
        first | refine AtT.kloadOA tk23 ?_ | refine AtT.kloadA tk23 ?_ | refine AtT.kloadOP tk23 ?_
        refine AtT.kcallP rfl rfl ok66 (rrng_f _ _ _) ?_
        rintro _ rfl; rw [hr]
        refine AtT.knot ?_
        refine AtT.kmove ?_
        all_goals (first | refine AtT.kL 20 ?_ | refine AtT.pcase (d := 20) rfl (fun hg20 => ?_) (fun hg20 => ?_) | refine AtT.bcase (d := 20) rfl (fun hg20 => ?_) (fun hg20 => ?_))
        all_goals (first | refine AtT.kpass ?_ | refine AtT.kpassU ?_ | ((refine AtT.kmove ?_)))
        all_goals (first | refine AtT.kpass ?_ | refine AtT.kpassU ?_ | ((refine AtT.kmove ?_)))
        all_goals (first | refine AtT.kpass ?_ | refine AtT.kpassU ?_ | ((refine AtT.kidx Try.underlying26 tk60 ?_) ; (intro p23 e23 he23 hc23)))
        all_goals (obtain rfl : e23 = e15 := by have : ps[k]? = some e23 := (by simpa using he23); rw [hx] at this; simpa using this.symm)
        all_goals (first | refine AtT.kpass ?_ | refine AtT.kpassU ?_ | ((first | refine AtT.kfieldO fo60_1 ?_ | with_reducible refine AtT.kfield2 fo60_1 ?_ | refine AtT.kfield fo60_1 ?_)))
        all_goals (first | refine AtT.kpass ?_ | refine AtT.kpassU ?_ | ((first | refine AtT.kloadO tk2 ?_ | refine AtT.kload tk2 ?_)))
        all_goals (first | refine AtT.kpass ?_ | refine AtT.kpassU ?_ | ((refine AtT.klss ?_)))
        all_goals (refine AtT.setT (d := 26) rfl (h1) ?_)
        all_goals (refine AtT.kpick ?_)
        all_goals (refine AtT.kmove ?_)
        all_goals (first | refine AtT.kL 28 ?_ | refine AtT.pcase (d := 28) rfl (fun hg28 => ?_) (fun hg28 => ?_) | refine AtT.bcase (d := 28) rfl (fun hg28 => ?_) (fun hg28 => ?_))
        all_goals (first | refine AtT.kpass ?_ | refine AtT.kpassU ?_ | ((refine AtT.kmove ?_)))
        all_goals (first | refine AtT.kpass ?_ | refine AtT.kpassU ?_ | ((refine AtT.kmove ?_)))
        all_goals (first | refine AtT.kpass ?_ | refine AtT.kpassU ?_ | ((refine AtT.kidx Try.underlying26 tk60 ?_) ; (intro p31 e31 he31 hc31)))
        all_goals (first | refine AtT.kpass ?_ | refine AtT.kpassU ?_ | ((first | refine AtT.kfieldO fo60_1 ?_ | with_reducible refine AtT.kfield2 fo60_1 ?_ | refine AtT.kfield fo60_1 ?_)))
        all_goals (first | refine AtT.kpass ?_ | refine AtT.kpassU ?_ | ((first | refine AtT.kloadO tk2 ?_ | refine AtT.kload tk2 ?_)))
        all_goals (first | refine AtT.kpass ?_ | refine AtT.kpassU ?_ | ((refine AtT.kgtr ?_)))
        all_goals (refine AtT.kpick ?_)
        all_goals refine AtT.done ?_
        all_goals (refine At.nrm ?_)
        refine At.condT rfl rfl ?_
        refine At.nrm ?_
        refine At.ktext (.q 0 .done) ?_
        refine AtT.kassign ?_
        refine AtT.done ?_
        refine At.nrm ?_
        refine At.ret1 rfl (.tmp rfl) ?_
        rw [panE, if_neg hb', if_pos (List.any_eq_true.2 ⟨_, List.mem_of_getElem? hx, by simp [strayB, potB, hr]; try omega⟩)]
      by_cases h2 : 200 < x.sp
      · skip
        refine At.ktext (.q 0 (.q 1 (.q 2 (.q 3 (.q 4 (.n false 5 (.q 6 (.q 7 (.q 8 (.q 9 (.q 10 (.q 11 (.q 12 (.q 13 (.q 14 (.q 15 (.q 16 (.q 17 (.q 18 (.q 19 (.q 20 (.q 21 (.q 22 .done))))))))))))))))))))))) ?_
        refine AtT.kmove ?_
        refine AtT.kmove ?_
        refine AtT.kidx Try.underlying26 tk60 ?_
        intro p15 e15 he15 hc15
        obtain rfl : e15 = x := by have : ps[k]? = some e15 := (by simpa using he15); rw [hx] at this; simpa using this.symm
        have hc17 := pn_rng hc15
        first | refine AtT.kfieldO fo60_0 ?_ | with_reducible refine AtT.kfield2 fo60_0 ?_ | refine AtT.kfield fo60_0 ?_
        first | refine AtT.kloadOA tk23 ?_ | refine AtT.kloadA tk23 ?_ | refine AtT.kloadOP tk23 ?_
        refine AtT.kcallP rfl rfl ok66 (rrng_f _ _ _) ?_
        rintro _ rfl; rw [hr]
        refine AtT.knot ?_
        refine AtT.kmove ?_
        all_goals (first | refine AtT.kL 20 ?_ | refine AtT.pcase (d := 20) rfl (fun hg20 => ?_) (fun hg20 => ?_) | refine AtT.bcase (d := 20) rfl (fun hg20 => ?_) (fun hg20 => ?_))
        all_goals (first | refine AtT.kpass ?_ | refine AtT.kpassU ?_ | ((refine AtT.kmove ?_)))
        all_goals (first | refine AtT.kpass ?_ | refine AtT.kpassU ?_ | ((refine AtT.kmove ?_)))
        all_goals (first | refine AtT.kpass ?_ | refine AtT.kpassU ?_ | ((refine AtT.kidx Try.underlying26 tk60 ?_) ; (intro p23 e23 he23 hc23)))
        all_goals (obtain rfl : e23 = e15 := by have : ps[k]? = some e23 := (by simpa using he23); rw [hx] at this; simpa using this.symm)
        all_goals (first | refine AtT.kpass ?_ | refine AtT.kpassU ?_ | ((first | refine AtT.kfieldO fo60_1 ?_ | with_reducible refine AtT.kfield2 fo60_1 ?_ | refine AtT.kfield fo60_1 ?_)))
        all_goals (first | refine AtT.kpass ?_ | refine AtT.kpassU ?_ | ((first | refine AtT.kloadO tk2 ?_ | refine AtT.kload tk2 ?_)))
        all_goals (first | refine AtT.kpass ?_ | refine AtT.kpassU ?_ | ((refine AtT.klss ?_)))
        all_goals (refine AtT.setF (d := 26) rfl (h1) ?_)
        all_goals (refine AtT.kpick ?_)
        all_goals (refine AtT.kmove ?_)
        all_goals (first | refine AtT.kL 28 ?_ | refine AtT.pcase (d := 28) rfl (fun hg28 => ?_) (fun hg28 => ?_) | refine AtT.bcase (d := 28) rfl (fun hg28 => ?_) (fun hg28 => ?_))
        all_goals (first | refine AtT.kpass ?_ | refine AtT.kpassU ?_ | ((refine AtT.kmove ?_)))
        all_goals (first | refine AtT.kpass ?_ | refine AtT.kpassU ?_ | ((refine AtT.kmove ?_)))
        all_goals (first | refine AtT.kpass ?_ | refine AtT.kpassU ?_ | ((refine AtT.kidx Try.underlying26 tk60 ?_) ; (intro p31 e31 he31 hc31)))
        all_goals (obtain rfl : e31 = e23 := by have : ps[k]? = some e31 := (by simpa using he31); rw [hx] at this; simpa using this.symm)
        all_goals (first | refine AtT.kpass ?_ | refine AtT.kpassU ?_ | ((first | refine AtT.kfieldO fo60_1 ?_ | with_reducible refine AtT.kfield2 fo60_1 ?_ | refine AtT.kfield fo60_1 ?_)))
        all_goals (first | refine AtT.kpass ?_ | refine AtT.kpassU ?_ | ((first | refine AtT.kloadO tk2 ?_ | refine AtT.kload tk2 ?_)))
        all_goals (first | refine AtT.kpass ?_ | refine AtT.kpassU ?_ | ((refine AtT.kgtr ?_)))
        all_goals (refine AtT.setT (d := 34) rfl (h2) ?_)
        all_goals (refine AtT.kpick ?_)
        all_goals refine AtT.done ?_
        all_goals (refine At.nrm ?_)
        refine At.condT rfl rfl ?_
        refine At.nrm ?_
        refine At.ktext (.q 0 .done) ?_
        refine AtT.kassign ?_
        refine AtT.done ?_
        refine At.nrm ?_
        refine At.ret1 rfl (.tmp rfl) ?_
        rw [panE, if_neg hb', if_pos (List.any_eq_true.2 ⟨_, List.mem_of_getElem? hx, by simp [strayB, potB, hr]; try omega⟩)]
      · skip
        refine At.ktext (.q 0 (.q 1 (.q 2 (.q 3 (.q 4 (.n false 5 (.q 6 (.q 7 (.q 8 (.q 9 (.q 10 (.q 11 (.q 12 (.q 13 (.q 14 (.q 15 (.q 16 (.q 17 (.q 18 (.q 19 (.q 20 (.q 21 (.q 22 .done))))))))))))))))))))))) ?_
        refine AtT.kmove ?_
        refine AtT.kmove ?_
        refine AtT.kidx Try.underlying26 tk60 ?_
        intro p15 e15 he15 hc15
        obtain rfl : e15 = x := by have : ps[k]? = some e15 := (by simpa using he15); rw [hx] at this; simpa using this.symm
        have hc17 := pn_rng hc15
        first | refine AtT.kfieldO fo60_0 ?_ | with_reducible refine AtT.kfield2 fo60_0 ?_ | refine AtT.kfield fo60_0 ?_
        first | refine AtT.kloadOA tk23 ?_ | refine AtT.kloadA tk23 ?_ | refine AtT.kloadOP tk23 ?_
        refine AtT.kcallP rfl rfl ok66 (rrng_f _ _ _) ?_
        rintro _ rfl; rw [hr]
        refine AtT.knot ?_
        refine AtT.kmove ?_
        all_goals (first | refine AtT.kL 20 ?_ | refine AtT.pcase (d := 20) rfl (fun hg20 => ?_) (fun hg20 => ?_) | refine AtT.bcase (d := 20) rfl (fun hg20 => ?_) (fun hg20 => ?_))
        all_goals (first | refine AtT.kpass ?_ | refine AtT.kpassU ?_ | ((refine AtT.kmove ?_)))
        all_goals (first | refine AtT.kpass ?_ | refine AtT.kpassU ?_ | ((refine AtT.kmove ?_)))
        all_goals (first | refine AtT.kpass ?_ | refine AtT.kpassU ?_ | ((refine AtT.kidx Try.underlying26 tk60 ?_) ; (intro p23 e23 he23 hc23)))
        all_goals (obtain rfl : e23 = e15 := by have : ps[k]? = some e23 := (by simpa using he23); rw [hx] at this; simpa using this.symm)
        all_goals (first | refine AtT.kpass ?_ | refine AtT.kpassU ?_ | ((first | refine AtT.kfieldO fo60_1 ?_ | with_reducible refine AtT.kfield2 fo60_1 ?_ | refine AtT.kfield fo60_1 ?_)))
        all_goals (first | refine AtT.kpass ?_ | refine AtT.kpassU ?_ | ((first | refine AtT.kloadO tk2 ?_ | refine AtT.kload tk2 ?_)))
        all_goals (first | refine AtT.kpass ?_ | refine AtT.kpassU ?_ | ((refine AtT.klss ?_)))
        all_goals (refine AtT.setF (d := 26) rfl (h1) ?_)
        all_goals (refine AtT.kpick ?_)
        all_goals (refine AtT.kmove ?_)
        all_goals (first | refine AtT.kL 28 ?_ | refine AtT.pcase (d := 28) rfl (fun hg28 => ?_) (fun hg28 => ?_) | refine AtT.bcase (d := 28) rfl (fun hg28 => ?_) (fun hg28 => ?_))
        all_goals (first | refine AtT.kpass ?_ | refine AtT.kpassU ?_ | ((refine AtT.kmove ?_)))
        all_goals (first | refine AtT.kpass ?_ | refine AtT.kpassU ?_ | ((refine AtT.kmove ?_)))
        all_goals (first | refine AtT.kpass ?_ | refine AtT.kpassU ?_ | ((refine AtT.kidx Try.underlying26 tk60 ?_) ; (intro p31 e31 he31 hc31)))
        all_goals (obtain rfl : e31 = e23 := by have : ps[k]? = some e31 := (by simpa using he31); rw [hx] at this; simpa using this.symm)
        all_goals (first | refine AtT.kpass ?_ | refine AtT.kpassU ?_ | ((first | refine AtT.kfieldO fo60_1 ?_ | with_reducible refine AtT.kfield2 fo60_1 ?_ | refine AtT.kfield fo60_1 ?_)))
        all_goals (first | refine AtT.kpass ?_ | refine AtT.kpassU ?_ | ((first | refine AtT.kloadO tk2 ?_ | refine AtT.kload tk2 ?_)))
        all_goals (first | refine AtT.kpass ?_ | refine AtT.kpassU ?_ | ((refine AtT.kgtr ?_)))
        all_goals (refine AtT.setF (d := 34) rfl (h2) ?_)
        all_goals (refine AtT.kpick ?_)
        all_goals refine AtT.done ?_
        all_goals (refine At.nrm ?_)
        refine At.condF rfl rfl ?_
        refine At.nrm ?_
        refine At.ktext (.q 0 (.q 1 (.q 2 .done))) ?_
        refine AtT.kmove ?_
        first | refine AtT.kadd ?_ | refine AtT.kaddW ?_
        refine AtT.kassign ?_
        refine AtT.done ?_
        refine At.nrm ?_
        refine At.round (k + 1) ?_ ?_ ?_ ?_
        · show ps.length - (k + 1) < ps.length - k; omega
        · refine ⟨rfl, by omega, ?_⟩
          rw [hnx, List.any_append, hany]; simp [strayB, potB, hr]; omega
        · exact ⟨rfl, ivs (by omega), trivial⟩
        · exact Pt.auto
    · obtain rfl : k = ps.length := by omega
      rw [List.take_length] at hany
      refine At.nrm ?_
      refine At.ktext (.q 0 .done) ?_
      refine AtT.kassign ?_
      refine AtT.done ?_
      refine At.nrm ?_
      refine At.ret1 rfl (.tmp rfl) ?_
      rw [panE, if_neg hb', if_neg (by rw [hany]; simp)]
end Go.Proofs.Ytmnbkceiaifncaa
set_option linter.unusedVariables false
namespace Go.Lw
open Go.ChangeShapes Go.WideShapes Go.ChangeAt Go.RowKit Go.Joins Go.Deep

section
variable {H : Type} {enc : TypeId × Value → H} {P : Program} {W W' : World}

theorem stays_all (hl : laidOutB P = true) (hb : Below W.heap.size W W') : ∀ (ts : List TypeId) (vs : List Value) (ds : List (DataW H)) (ps : List MemPlace), (ts.all fun t => P.readableRec t && decide (t < P.types.size)) = true →
    (∀ x ∈ ps, x.block < W.heap.size) → DataW.TrodAll enc P W 0 (fun _ => true) true ts vs ds ps → DataW.TrodAll enc P W' 0 (fun b => decide (b < W.heap.size)) true ts vs ds ps
  | [], vs, ds, ps, _, _, h => by
    obtain ⟨rfl, rfl, rfl⟩ := trodAll_nil h
    exact trodAll_mk0
  | t :: ts, vs, ds, ps, ht, hlt, h => by
    obtain ⟨v, vs', d, ds', p, q, rfl, rfl, rfl, h0, h1⟩ := trodAll_cons h
    simp only [List.all_cons, Bool.and_eq_true, decide_eq_true_eq] at ht
    exact trodAll_cons_mk (Below.trod hl ht.1.1 ht.1.2 h0 hb fun x hx => hlt x (List.mem_append_left _ hx))
      (stays_all hl hb ts vs' ds' q ht.2 (fun x hx => hlt x (List.mem_append_right _ hx)) h1)

/-- A law: the call returns true, and what was there stays as it was. -/
theorem law_lift {C : Checked} {F : FuncId} {fn : Func} {tb : TypeId} {os : Os} {s : ChangeSpec} {conds : List PathCond} (hs : ∀ ds : List (DataW H), ds.length = fn.params.size → s.fn H (ds ++ []) = { results := [.lit (.bool true)], args := ds })
    (hvars : s.vars = []) (hres : fn.resultTypes = #[tb]) (htb : C.prog.underlying tb = some .bool) (hl : laidOutB C.prog = true) (hts : (fn.params.toList.all fun t => C.prog.readableRec t && decide (t < C.prog.types.size)) = true)
    (own : ownKnob C.prog.godebug = none) (started : os.Started) (noInit : C.prog.inits.idxOf? F = none) (hfn : C.prog.funcs[F]? = some fn)
    (witness : ∃ (w : World) (tape : Tape) (i : Input), w.os = os ∧ (w.forCall tape i).Shaped C.prog ∧ i.vars = [] ∧ Input.okWide C.prog (w.forCall tape i) .any w.heap.size F i ∧
      s.pre6 enc C.prog fn conds false (w.forCall tape i).memory i.args ∧ ({} : Assume).holds C.prog (lone (Frame.enter C.prog F i.args .normal) [] (w.forCall tape i)))
    (walk : ∀ (W : World) (base : Nat) (args : Array Value) (ds : List (DataW H)) (ps : List MemPlace), (∀ (j : Nat) t v, fn.params[j]? = some t → args[j]? = some v → Value.okWide C.prog W .any base t v) →
      DataW.TrodAll enc C.prog W 0 (fun _ => true) true fn.params.toList args.toList ds ps → ∃ l : List Value, args = l.toArray ∧ Fnc C.prog F l (hp W) fun v _ => v = .bool true) :
    ReturnsInHanded {} C os F .any (s.pre6 enc C.prog fn conds false) (s.post enc C.prog fn false true false false) := by
  refine returnsInHanded_of_change (C := C) own started noInit hfn witness ?_
  intro W base args ds gs before hval hW _ _
  have hlt := hW.lt
  have hW' := hW
  obtain ⟨p, q, hA, hV, rfl, hfz, hnd⟩ := hW
  rw [hvars] at hV
  obtain ⟨rfl, rfl⟩ := trodVars_none hV
  obtain ⟨l, rfl, hF⟩ := walk W base args ds p hval hA
  refine (hF W (Le.refl _)).mono fun e W' ⟨v, V', he, hb, _, _, _, hv⟩ => ?_
  subst hv
  have hlen : ds.length = fn.params.size := by
    have key : ∀ (ts : List TypeId) (vs : List Value) (ds : List (DataW H)) (ps : List MemPlace), DataW.TrodAll enc C.prog W 0 (fun _ => true) true ts vs ds ps → ds.length = ts.length := by
      intro ts
      induction ts with
      | nil => intro vs ds ps h; obtain ⟨_, rfl, _⟩ := trodAll_nil h; rfl
      | cons t ts ih => intro vs ds ps h; obtain ⟨v, vs', d, ds', p, q, rfl, rfl, rfl, h0, h1⟩ := trodAll_cons h; simp [ih _ _ _ h1]
    simpa using key _ _ _ _ hA
  refine ⟨_, he, ds, [], p ++ [], [], p, [], hW', ?_, ?_, ?_, Below.frame hb _, fun h => by cases h⟩
  · rw [hs ds hlen, hres]
    exact trodAll_mk1 (shut_bool htb true)
  · rw [hs ds hlen]
    exact stays_all hl hb _ _ _ _ hts (fun x hx => hlt x (List.mem_append_left _ hx)) hA
  · rw [hs ds hlen, hvars]
    exact rfl

/-! ### What an argument reads as -/
variable {base : Nat} {spare : Nat → Bool} {held : Bool}

theorem cells_hp {a : Addr} {n : Nat} {cs : List Value} (h : W.cells? base a n = some cs) : cs.length = n ∧ Cells (hp W) a cs := by
  obtain ⟨_, h1, h2⟩ := World.cells?_some h
  refine ⟨h1, fun j u hj => ?_⟩
  have hlt : j < n := by rw [← h1]; exact (List.getElem?_eq_some_iff.1 hj).1
  rw [vcell_hp, h2 j hlt]; exact hj

/-- A slice whose elements read so. -/
theorem sl_of {α : Type} {en : α → List Value} {T E : TypeId} {s : Nat} {fuel : Nat} {v : Value} {x : DataW H × List MemPlace} (hT : P.underlying T = some (.slice E)) (hE : P.cellsOf E = s)
    (hel : ∀ fuel cs x, DataW.trod enc P W base spare held fuel E cs = some x → cs.length = s → ∃ a, cs = en a) (h : DataW.trod enc P W base spare held fuel T [v] = some x) :
    ∃ (l : List α) (a : Option Addr) (cap : Nat), v = .slice a l.length cap ∧ Sl (hp W) en s (.slice a l.length cap) l := by
  subst hE
  rcases open_slice hT h with ⟨h0, _⟩ | ⟨a, len, cap, m, n, D, Pl, h0, _, hlc, hcm, hm, _, hx⟩
  · simp only [List.cons.injEq, and_true] at h0
    exact ⟨[], none, 0, h0, Sl.nil _ _ _⟩
  · simp only [List.cons.injEq, and_true] at h0
    have hlm : len ≤ m := by rw [hm]; split <;> omega
    have hch : ∀ i, i < len → ∃ y : α, Cells (hp W) (a.add (i * P.cellsOf E)) (en y) := fun i hi => by
      obtain ⟨cs', h1, h2⟩ := hx i (by omega)
      obtain ⟨hl, hc⟩ := cells_hp h1
      obtain ⟨y, rfl⟩ := hel _ _ _ h2 hl
      exact ⟨y, hc⟩
    have hl : ∀ k, k ≤ len → ∃ l : List α, l.length = k ∧ ∀ i y, l[i]? = some y → Cells (hp W) (a.add (i * P.cellsOf E)) (en y) := by
      intro k
      induction k with
      | zero => exact fun _ => ⟨[], rfl, fun i y h => by simp at h⟩
      | succ k ih =>
        intro hk
        obtain ⟨l, hl, hc⟩ := ih (by omega)
        obtain ⟨y, hy⟩ := hch k (by omega)
        refine ⟨l ++ [y], by simp [hl], fun i z hz => ?_⟩
        by_cases c : i < l.length
        · rw [List.getElem?_append_left c] at hz; exact hc i z hz
        · rw [List.getElem?_append_right (by omega)] at hz
          have e : i = k := by
            have := (List.getElem?_eq_some_iff.1 hz).1
            simp at this; omega
          subst e
          rw [hl] at hz
          simp at hz
          subst hz; exact hy
    obtain ⟨l, hl, hc⟩ := hl len (Nat.le_refl _)
    subst hl
    exact ⟨l, some a, cap, h0, some a, cap, rfl, hlc, hcm, fun _ => rfl, fun p hp i y hy => by cases hp; exact hc i y hy⟩
theorem el_int {E : TypeId} {k : IntKind} (hE : P.underlying E = some (.int k)) {fuel : Nat} {cs : List Value} {x : DataW H × List MemPlace} (h : DataW.trod enc P W base spare held fuel E cs = some x) : ∃ z : Int, cs = [.int k z] ∧ (Lit.int k z).wf = true := by
  obtain ⟨n, h1, _, h3⟩ := DataW.trod_int hE h
  exact ⟨n, h1, h3⟩
end
end Go.Lw
set_option linter.unusedVariables false
set_option maxRecDepth 100000
namespace Go.Lw
/-- A small number of a list. -/
structure U8 where
  n : Int
  h : 0 ≤ n ∧ n ≤ 255
abbrev e8 (x : U8) : List Value := [.int .u8 x.n]
theorem bd_u8 {x : Int} (w : (Lit.int .u8 x).wf = true) : 0 ≤ x ∧ x ≤ 255 := by
  simp [Lit.wf, IntKind.min, IntKind.max, IntKind.bits, IntKind.signed] at w; omega
theorem bd_u16 {x : Int} (w : (Lit.int .u16 x).wf = true) : 0 ≤ x ∧ x ≤ 65535 := by
  simp [Lit.wf, IntKind.min, IntKind.max, IntKind.bits, IntKind.signed] at w; omega
end Go.Lw
namespace Go.Proofs.Ytmnbkceiaifncaa
open Go.Lw Go.Gl Go.RowKit Go.ChangeShapes Go.WideShapes Go.ChangeAt Go.Joins Go.Deep

theorem own : ownKnob Try.prog.godebug = none := by kernel_rfl
theorem laidOut : laidOutB Try.prog = true := by kernel_rfl
theorem cells25 : Try.prog.cellsOf 25 = 3 := by kernel_rfl
theorem cells23 : Try.prog.cellsOf 23 = 2 := by kernel_rfl
theorem cells60 : Try.prog.cellsOf 60 = 3 := by kernel_rfl
theorem cells2 : Try.prog.cellsOf 2 = 1 := by kernel_rfl
theorem cells3 : Try.prog.cellsOf 3 = 1 := by kernel_rfl
theorem cells5 : Try.prog.cellsOf 5 = 1 := by kernel_rfl

section
variable {H : Type} {enc : TypeId × Value → H} {W : World} {base b0 : Nat} {spare : Nat → Bool} {held : Bool} {v : Value} {d : DataW H} {p : List MemPlace} {r : Reach}

theorem rd_ints (hv : Value.okWide Try.prog W r b0 27 v) (h : DataW.Trod enc Try.prog W base spare held 27 v d p) : ∃ (l : List Int) (a : Option Addr) (cap : Nat), v = .slice a l.length cap ∧ SlI (hp W) (.slice a l.length cap) l := by
  obtain ⟨a, n, c, rfl⟩ := okWide_slice Try.underlying27 hv
  obtain ⟨fuel, h⟩ := h
  exact sl_of Try.underlying27 cells3 (fun _ _ _ h _ => by obtain ⟨z, e, _⟩ := el_int Try.underlying3 h; exact ⟨z, e⟩) h
theorem rd_u8s (hv : Value.okWide Try.prog W r b0 46 v) (h : DataW.Trod enc Try.prog W base spare held 46 v d p) : ∃ (l : List U8) (a : Option Addr) (cap : Nat), v = .slice a l.length cap ∧ Sl (hp W) e8 1 (.slice a l.length cap) l := by
  obtain ⟨a, n, c, rfl⟩ := okWide_slice Try.underlying46 hv
  obtain ⟨fuel, h⟩ := h
  refine sl_of Try.underlying46 cells5 (fun _ cs _ h _ => ?_) h
  obtain ⟨z, e, w⟩ := el_int Try.underlying5 h
  exact ⟨⟨z, bd_u8 w⟩, e⟩
theorem day_cells {fuel : Nat} {c0 c1 c2 : Value} {x : DataW H × List MemPlace} {t : TypeId} {f0 f1 : Field} (ht : Try.prog.underlying t = some (.struct #[f0, f1])) (e0 : f0.type = 23) (o0 : f0.offset = 0) (e1 : f1.type = 2) (o1 : f1.offset = 2) (h : DataW.trod enc Try.prog W base spare held fuel t [c0, c1, c2] = some x) :
    ∃ a b c : Int, c0 = iv a ∧ c1 = iv b ∧ c2 = iv c := by
  obtain ⟨y0, y1, n, _, _, h0, h1⟩ := trod_struct2 ht h
  rw [e0, o0, cells23] at h0
  rw [e1, o1, cells2] at h1
  obtain ⟨z0, z1, m, _, _, g0, g1⟩ := trod_struct2 Try.underlying23 h0
  obtain ⟨x0, k0, _⟩ := el_int (k := .i64) Try.underlying2 g0
  obtain ⟨x1, k1, _⟩ := el_int (k := .i64) Try.underlying2 g1
  obtain ⟨x2, k2, _⟩ := el_int (k := .i64) Try.underlying2 h1
  have k0' : [c0] = [Value.int .i64 x0] := k0
  have k1' : [c1] = [Value.int .i64 x1] := k1
  have k2' : [c2] = [Value.int .i64 x2] := k2
  simp at k0' k1' k2'
  exact ⟨x0, x1, x2, k0', k1', k2'⟩
theorem open_day (hv : Value.okWide Try.prog W r b0 25 v) (h : DataW.Trod enc Try.prog W base spare held 25 v d p) : ∃ x, v = dyv x := by
  obtain ⟨cs, rfl, hsz⟩ := okWide_struct Try.underlying25 hv
  rw [cells25] at hsz
  obtain ⟨fuel, h⟩ := h
  obtain ⟨l⟩ := cs
  match l, hsz with
  | [c0, c1, c2], _ =>
    obtain ⟨a, b, c, rfl, rfl, rfl⟩ := day_cells Try.underlying25 rfl rfl rfl rfl h
    exact ⟨⟨a, b, c⟩, rfl⟩
theorem open_panel (hv : Value.okWide Try.prog W r b0 60 v) (h : DataW.Trod enc Try.prog W base spare held 60 v d p) : ∃ x, v = pnv x := by
  have hu : Try.prog.underlying 60 = _ := Try.underlying60
  obtain ⟨cs, rfl, hsz⟩ := okWide_struct hu hv
  rw [cells60] at hsz
  obtain ⟨fuel, h⟩ := h
  obtain ⟨l⟩ := cs
  match l, hsz with
  | [c0, c1, c2], _ =>
    obtain ⟨a, b, c, rfl, rfl, rfl⟩ := day_cells hu rfl rfl rfl rfl h
    exact ⟨⟨a, b, c⟩, rfl⟩
theorem rd_panels (hv : Value.okWide Try.prog W r b0 26 v) (h : DataW.Trod enc Try.prog W base spare held 26 v d p) : ∃ (l : List Pn) (a : Option Addr) (cap : Nat), v = .slice a l.length cap ∧ Sl (hp W) pne 3 (.slice a l.length cap) l := by
  obtain ⟨a, n, c, rfl⟩ := okWide_slice Try.underlying26 hv
  obtain ⟨fuel, h⟩ := h
  refine sl_of Try.underlying26 cells60 (fun _ cs _ h hl => ?_) h
  match cs, hl with
  | [c0, c1, c2], _ =>
    obtain ⟨a, b, c, rfl, rfl, rfl⟩ := day_cells Try.underlying60 rfl rfl rfl rfl h
    exact ⟨⟨a, b, c⟩, rfl⟩
end
end Go.Proofs.Ytmnbkceiaifncaa
set_option linter.unusedVariables false
set_option linter.unusedSimpArgs false
namespace Go.Proofs.Ytmnbkceiaifncaa
open Go.Lw Go.RowKit
theorem eqS72 (x1 : Int) (x2 : Int) (x3 : Int) (x4 : Int) : EqS Try.prog 72 [(.int .i64 x1), (.int .i64 x2)] [(.int .i64 x3), (.int .i64 x4)] (decide (x1 = x3 ∧ x2 = x4)) := by
  refine ⟨by first | exact Try.eqGuardType72 | kernel_rfl, fun w => ?_⟩
  have u2 := Try.underlying2
  have a2 := Try.isAgg2
  have z2 := Try.sizeOf2
  rw [show (10000 : Nat) = 9999 + 1 from rfl, Op.equalIn]
  simp only [Sem.run_bind, run_underlying Try.underlying72, Result.andThen_ok]
  simp only [Std.Legacy.Range.forIn_eq_forIn_range', Std.Legacy.Range.size, Nat.sub_zero, Nat.add_sub_cancel, Nat.div_one, List.range'_succ, List.range'_zero, List.forIn_cons, List.forIn_nil]
  go_simp
  by_cases h0 : x1 = x3 <;> by_cases h1 : x2 = x4 <;> simp [*]
theorem eqS126 (x1 : Int) (x2 : Int) : EqS Try.prog 126 [(.int .i64 x1)] [(.int .i64 x2)] (decide (x1 = x2)) := by
  refine ⟨by first | exact Try.eqGuardType126 | kernel_rfl, fun w => ?_⟩
  have u3 := Try.underlying3
  have a3 := Try.isAgg3
  have z3 := Try.sizeOf3
  have hS : Try.prog.underlying 126 = some (.struct (Try.prog.fieldsOf 126)) := by kernel_rfl
  have hp : Try.prog.stoodInHeld 126 = false := by kernel_rfl
  rw [show (10000 : Nat) = 9999 + 1 from rfl, run_equalIn_agg w 9999 126 _ _ hS hp]
  simp only [Program.fieldsOf, Try.underlying126]
  go_simp
  by_cases h0 : x1 = x2 <;> simp [*]
end Go.Proofs.Ytmnbkceiaifncaa
set_option linter.unusedVariables false
namespace Go.Proofs.Ytmnbkceiaifncaa
open Go.Lw Go.Gl Go.RowKit

theorem both_f (d : Dy) (ps : List Pn) (V : View) (v : Value) (hs : Sl V pne 3 v ps) : Fnc Try.prog 60 [dyv d, v] V fun r _ => r = iv (bothE d ps) := by
  refine fn_of Try.func60 rfl Try.ntmps60 (Nat.le_of_ble_eq_true rfl) ?_
  intro w0 hw0
  refine At.nrm ?_
  refine At.ktext (.n false 0 (.q 1 .done)) ?_
  refine AtT.kbox ?_
  intro b2
  refine AtT.kassign ?_
  refine AtT.done ?_
  refine At.nrm ?_
  refine At.ktext (.q 0 (.n false 1 (.q 2 .done))) ?_
  first | refine AtT.kloadOA tk25 ?_ | refine AtT.kloadA tk25 ?_ | refine AtT.kloadOP tk25 ?_
  refine AtT.kcallP rfl rfl ok22 (rday_f d _) ?_
  rintro _ rfl
  refine AtT.kneI ?_
  refine AtT.done ?_
  refine At.nrm ?_
  refine At.condP rfl (fun hb => ?_) (fun hb => ?_)
  · refine At.nrm ?_
    refine At.ktext (.q 0 (.n false 1 (.q 2 .done))) ?_
    first | refine AtT.kloadOA tk25 ?_ | refine AtT.kloadA tk25 ?_ | refine AtT.kloadOP tk25 ?_
    refine AtT.kcallP rfl rfl ok22 (rday_f d _) ?_
    rintro _ rfl
    refine AtT.kassign ?_
    refine AtT.done ?_
    refine At.nrm ?_
    refine At.ret1 rfl (.tmp rfl) ?_
    rw [bothE, if_pos hb]
  · refine At.nrm ?_
    refine At.ktext (.q 0 (.n false 1 (.q 2 .done))) ?_
    refine AtT.kmove ?_
    refine AtT.kcallP rfl rfl ok24 (rpan_f ps _ _ hs) ?_
    rintro _ rfl
    refine AtT.kassign ?_
    refine AtT.done ?_
    refine At.nrm ?_
    refine At.ret1 rfl (.tmp rfl) ?_
    rw [bothE, if_neg hb]

theorem and_f (a b : Sm) (V : View) (h1 : Fit (a.t + b.t)) (h2 : Fit (a.g + b.g)) : Fnc Try.prog 91 [smv a, smv b] V fun r _ => r = smv (a.and b) := by
  refine fn_of Try.func91 rfl Try.ntmps91 (Nat.le_of_ble_eq_true rfl) ?_
  intro w0 hw0
  refine At.nrm ?_
  refine At.ktext (.n false 0 (.n false 1 (.n false 2 .done))) ?_
  refine AtT.kbox ?_
  intro b2
  refine AtT.kbox ?_
  intro b3
  refine AtT.kalloc z72 ?_
  intro b4
  refine AtT.done ?_
  refine At.nrm ?_
  refine At.ktext (.q 0 (.q 1 (.q 2 (.q 3 (.q 4 (.q 5 (.q 6 (.q 7 (.q 8 (.q 9 (.q 10 (.n true 11 .done)))))))))))) ?_
  refine AtT.kidxA Try.underlying72 tk2 ?_
  first | refine AtT.kloadO tk2 ?_ | refine AtT.kload tk2 ?_
  refine AtT.kidxA Try.underlying72 tk2 ?_
  first | refine AtT.kloadO tk2 ?_ | refine AtT.kload tk2 ?_
  first | refine AtT.kadd ?_ | refine AtT.kaddW ?_
  refine AtT.kidxA Try.underlying72 tk2 ?_
  first | refine AtT.kloadO tk2 ?_ | refine AtT.kload tk2 ?_
  refine AtT.kidxA Try.underlying72 tk2 ?_
  first | refine AtT.kloadO tk2 ?_ | refine AtT.kload tk2 ?_
  first | refine AtT.kadd ?_ | refine AtT.kaddW ?_
  refine AtT.kbuild (bd72_0_1 _ _) ?_
  refine AtT.kstoreA tk72 ?_
  refine AtT.done ?_
  refine At.nrm ?_
  exact At.ret1 rfl (.agg rfl tk72 Pick.auto rfl) rfl

theorem timeOf_f (p : Pn) (sure : Bool) (V : View) : Fnc Try.prog 92 [pnv p, .bool sure] V fun r _ => r = iv (timeOf p sure) := by
  refine fn_of Try.func92 rfl Try.ntmps92 (Nat.le_of_ble_eq_true rfl) ?_
  intro w0 hw0
  refine At.nrm ?_
  refine At.ktext (.n false 0 (.q 1 .done)) ?_
  refine AtT.kbox ?_
  intro b2
  refine AtT.kassign ?_
  refine AtT.done ?_
  refine At.nrm ?_
  refine At.ktext (.q 0 .done) ?_
  refine AtT.kmove ?_
  refine AtT.done ?_
  refine At.nrm ?_
  refine At.cond rfl (fun hm => ?_) (fun hm => ?_)
  · subst hm
    refine At.nrm ?_
    refine At.ktext (.q 0 (.q 1 (.q 2 (.q 3 .done)))) ?_
    first | refine AtT.kfieldO fo60_0 ?_ | with_reducible refine AtT.kfield2 fo60_0 ?_ | refine AtT.kfield fo60_0 ?_
    first | refine AtT.kfieldO fo23_1 ?_ | with_reducible refine AtT.kfield2 fo23_1 ?_ | refine AtT.kfield fo23_1 ?_
    first | refine AtT.kloadO tk2 ?_ | refine AtT.kload tk2 ?_
    refine AtT.kassign ?_
    refine AtT.done ?_
    refine At.nrm ?_
    exact At.ret1 rfl (.tmp rfl) rfl
  · subst hm
    refine At.nrm ?_
    refine At.ktext (.q 0 (.q 1 (.q 2 (.q 3 .done)))) ?_
    first | refine AtT.kfieldO fo60_0 ?_ | with_reducible refine AtT.kfield2 fo60_0 ?_ | refine AtT.kfield fo60_0 ?_
    first | refine AtT.kfieldO fo23_0 ?_ | with_reducible refine AtT.kfield2 fo23_0 ?_ | refine AtT.kfield fo23_0 ?_
    first | refine AtT.kloadO tk2 ?_ | refine AtT.kload tk2 ?_
    refine AtT.kassign ?_
    refine AtT.done ?_
    refine At.nrm ?_
    exact At.ret1 rfl (.tmp rfl) rfl
theorem worksOf_f (d : Dy) (sure : Bool) (V : View) : Fnc Try.prog 82 [dyv d, .bool sure] V fun r _ => r = iv (worksOf d sure) := by
  refine fn_of Try.func82 rfl Try.ntmps82 (Nat.le_of_ble_eq_true rfl) ?_
  intro w0 hw0
  refine At.nrm ?_
  refine At.ktext (.n false 0 (.q 1 .done)) ?_
  refine AtT.kbox ?_
  intro b2
  refine AtT.kassign ?_
  refine AtT.done ?_
  refine At.nrm ?_
  refine At.ktext (.q 0 .done) ?_
  refine AtT.kmove ?_
  refine AtT.done ?_
  refine At.nrm ?_
  refine At.cond rfl (fun hm => ?_) (fun hm => ?_)
  · subst hm
    refine At.nrm ?_
    refine At.ktext (.q 0 (.q 1 (.q 2 (.q 3 .done)))) ?_
    first | refine AtT.kfieldO fo25_0 ?_ | with_reducible refine AtT.kfield2 fo25_0 ?_ | refine AtT.kfield fo25_0 ?_
    first | refine AtT.kfieldO fo23_0 ?_ | with_reducible refine AtT.kfield2 fo23_0 ?_ | refine AtT.kfield fo23_0 ?_
    first | refine AtT.kloadO tk2 ?_ | refine AtT.kload tk2 ?_
    refine AtT.kassign ?_
    refine AtT.done ?_
    refine At.nrm ?_
    exact At.ret1 rfl (.tmp rfl) rfl
  · subst hm
    refine At.nrm ?_
    refine At.ktext (.q 0 (.q 1 (.q 2 (.q 3 .done)))) ?_
    first | refine AtT.kfieldO fo25_0 ?_ | with_reducible refine AtT.kfield2 fo25_0 ?_ | refine AtT.kfield fo25_0 ?_
    first | refine AtT.kfieldO fo23_1 ?_ | with_reducible refine AtT.kfield2 fo23_1 ?_ | refine AtT.kfield fo23_1 ?_
    first | refine AtT.kloadO tk2 ?_ | refine AtT.kload tk2 ?_
    refine AtT.kassign ?_
    refine AtT.done ?_
    refine At.nrm ?_
    exact At.ret1 rfl (.tmp rfl) rfl
/-- A bench in memory. -/
def BnV (V : View) (p : Addr) (B : Bn) : Prop := ∃ a c, Cells V p [iv B.w, iv B.p, .slice a B.each.length c] ∧ Sl V sme 2 (.slice a B.each.length c) B.each
theorem BnV.le {V V' : View} {p : Addr} {B : Bn} (h : BnV V p B) (hl : Le V V') : BnV V' p B := by
  obtain ⟨a, c, h1, h2⟩ := h
  exact ⟨a, c, h1.le hl, h2.le hl⟩
theorem BnV.each {V : View} {p : Addr} {B : Bn} (h : BnV V p B) : ∃ a c, Cells V p [iv B.w, iv B.p, .slice a B.each.length c] ∧ Sl V sme 2 (.slice a B.each.length c) B.each := h

theorem newBench_f (d : Dy) (ps : List Pn) (sure : Bool) (V : View) (v : Value) (hs : Sl V pne 3 v ps) (h10 : ps.length ≤ 10) : Fnc Try.prog 104 [dyv d, v, .bool sure] V fun r V' => ∃ p, r = .pointer (some p) ∧ BnV V' p (bn d ps sure) := by
  obtain ⟨a, c, rfl, h1, h2, _⟩ := id hs
  clear h1 h2
  refine fn_of Try.func104 rfl Try.ntmps104 (Nat.le_of_ble_eq_true rfl) ?_
  intro w0 hw0
  refine At.nrm ?_
  refine At.ktext (.n false 0 (.q 1 .done)) ?_
  refine AtT.kbox ?_
  intro b3
  refine AtT.kassign ?_
  refine AtT.done ?_
  refine At.nrm ?_
  refine At.ktext (.q 0 (.q 1 (.q 2 (.q 3 (.q 4 (.q 5 (.q 6 (.q 7 (.n false 8 (.q 9 .done)))))))))) ?_
  first | refine AtT.kfieldO fo25_0 ?_ | with_reducible refine AtT.kfield2 fo25_0 ?_ | refine AtT.kfield fo25_0 ?_
  first | refine AtT.kfieldO fo23_1 ?_ | with_reducible refine AtT.kfield2 fo23_1 ?_ | refine AtT.kfield fo23_1 ?_
  first | refine AtT.kloadO tk2 ?_ | refine AtT.kload tk2 ?_
  first | refine AtT.kfieldO fo25_1 ?_ | with_reducible refine AtT.kfield2 fo25_1 ?_ | refine AtT.kfield fo25_1 ?_
  first | refine AtT.kloadO tk2 ?_ | refine AtT.kload tk2 ?_
  refine AtT.kbuild (bd72_0_1 _ _) ?_
  refine AtT.kbuild (bd95_0 _ _) ?_
  refine AtT.kbuild (bd97_0 _ _) ?_
  refine AtT.kbox ?_
  intro b19
  refine AtT.kassign ?_
  refine AtT.done ?_
  refine At.nrm ?_
  refine At.ktext (.q 0 .done) ?_
  refine AtT.kmove ?_
  refine AtT.done ?_
  refine At.nrm ?_
  refine At.cutG (ι := Unit) (fun _ => [(1, .slice a ps.length c), (2, .bool sure), (3, .pointer (some ⟨b3, 0, none⟩)), (7, .pointer (some ⟨b19, 0, none⟩))]) (fun _ => [.blk b3 (LC (dye d) 25), .blk b19 (LC [iv (worksOf d sure), iv d.pot, .slice none 0 0] 97)]) (fun _ V' => V = V') ?_ ?_
  · refine At.cond rfl (fun hm => ?_) (fun hm => ?_)
    · subst hm
      refine At.nrm ?_
      refine At.draw (.q 0 (.q 1 (.q 2 (.q 3 (.q 4 (.q 5 (.q 6 (.q 7 (.n true 8 .done))))))))) ffm (by kernel_rfl) ?_
      refine AtT.kmove ?_
      first | refine AtT.kfieldO fo25_0 ?_ | with_reducible refine AtT.kfield2 fo25_0 ?_ | refine AtT.kfield fo25_0 ?_
      first | refine AtT.kfieldO fo23_0 ?_ | with_reducible refine AtT.kfield2 fo23_0 ?_ | refine AtT.kfield fo23_0 ?_
      first | refine AtT.kloadO tk2 ?_ | refine AtT.kload tk2 ?_
      refine AtT.knil ?_
      first | refine AtT.kfieldO fo97_0 ?_ | with_reducible refine AtT.kfield2 fo97_0 ?_ | refine AtT.kfield fo97_0 ?_
      first | refine AtT.kfieldO fo95_0 ?_ | with_reducible refine AtT.kfield2 fo95_0 ?_ | refine AtT.kfield fo95_0 ?_
      refine AtT.kidxA Try.underlying72 tk2 ?_
      first | refine AtT.kstore1 tk2 ?_ | refine AtT.kstoreA tk2 ?_
      refine AtT.done ?_
      refine At.nrm ?_
      all_goals (exact At.meetG () rfl ⟨rfl, rfl, rfl, rfl, trivial⟩ Pt.auto)
    · subst hm
      refine At.nrm ?_
      exact At.meetG () rfl ⟨rfl, rfl, rfl, rfl, trivial⟩ Pt.auto
  rintro _ V' ks' O' rfl hk hO hl
  subst hk hO
  obtain ⟨l, hl'⟩ : ∃ l, l = ps.map (smOf sure) := ⟨_, rfl⟩
  have hll : l.length = ps.length := by rw [hl']; simp
  refine At.nrm ?_
  refine At.ktext (.q 0 (.q 1 (.q 2 .done))) ?_
  refine AtT.kmove ?_
  first | refine AtT.klenS Try.underlying26 ?_ | refine AtT.klenR Try.underlying26 ?_
  refine AtT.kmove ?_
  refine AtT.done ?_
  refine At.nrm ?_
  refine At.newRow 72 2 ?_
  refine At.lp (ι := Nat × Option Addr × Nat) (KS := fun g => [(2, .bool sure), (7, .pointer (some ⟨b19, 0, none⟩)), (29, .slice a ps.length c), (30, iv ps.length), (31, iv g.1)])
    (OS := fun g => [.blk b19 (LC [iv (worksOf d sure), iv d.pot, .slice g.2.1 g.1 g.2.2] 97), .row (.slice g.2.1 g.1 g.2.2) 72 2 g.1 (flat sme (l.take g.1))])
    (VS := fun g V' => Le V V' ∧ g.1 ≤ ps.length) (μ := fun g => ps.length - g.1) (0, none, 0) ?_ ?_ ?_ ?_
  · exact ⟨rfl, rfl, rfl, rfl, rfl, trivial⟩
  · exact Pt.auto
  · exact ⟨Le.refl _, Nat.zero_le _⟩
  · rintro ⟨k, ao, co⟩ V' ks' O' ⟨hVV, hkl⟩ hk hO hl2
    dsimp only at hkl hk hO
    subst hk hO
    have hs' := hs.le hVV
    refine At.nrm ?_
    refine At.ktext (.q 0 .done) ?_
    refine AtT.klss ?_
    refine AtT.done ?_
    refine At.nrm ?_
    refine At.condP rfl (fun hp => ?_) (fun hp => ?_)
    · obtain ⟨x, hx⟩ : ∃ x, ps[k]? = some x := ⟨_, List.getElem?_eq_getElem (by omega)⟩
      have hlx : l[k]? = some (smOf sure x) := by rw [hl', List.getElem?_map, hx]; rfl
      refine At.nrm ?_
      refine At.ktext (.q 0 (.q 1 (.n false 2 (.n true 3 .done)))) ?_
      refine AtT.kidx Try.underlying26 tk60 ?_
      intro p33 e33 he33 hc33
      obtain rfl : e33 = x := by have : ps[k]? = some e33 := (by simpa using he33); rw [hx] at this; simpa using this.symm
      first | refine AtT.kloadOA tk60 ?_ | refine AtT.kloadA tk60 ?_ | refine AtT.kloadOP tk60 ?_
      refine AtT.kalloc z60 ?_
      intro b9
      refine AtT.kstoreA tk60 ?_
      refine AtT.done ?_
      refine At.nrm ?_
      refine At.ktext (.q 0 (.q 1 (.q 2 (.q 3 (.q 4 (.q 5 (.n false 6 (.n true 7 .done)))))))) ?_
      first | refine AtT.kfieldO fo60_0 ?_ | with_reducible refine AtT.kfield2 fo60_0 ?_ | refine AtT.kfield fo60_0 ?_
      first | refine AtT.kfieldO fo23_0 ?_ | with_reducible refine AtT.kfield2 fo23_0 ?_ | refine AtT.kfield fo23_0 ?_
      first | refine AtT.kloadO tk2 ?_ | refine AtT.kload tk2 ?_
      first | refine AtT.kfieldO fo60_1 ?_ | with_reducible refine AtT.kfield2 fo60_1 ?_ | refine AtT.kfield fo60_1 ?_
      first | refine AtT.kloadO tk2 ?_ | refine AtT.kload tk2 ?_
      refine AtT.kbuild (bd72_0_1 _ _) ?_
      refine AtT.kalloc z72 ?_
      intro b10
      refine AtT.kstoreA tk72 ?_
      refine AtT.done ?_
      refine At.nrm ?_
      refine At.ktext (.q 0 .done) ?_
      refine AtT.kmove ?_
      refine AtT.done ?_
      refine At.nrm ?_
      refine At.cutG (ι := Unit) (fun _ => [(2, .bool sure), (7, .pointer (some ⟨b19, 0, none⟩)), (10, .pointer (some ⟨b10, 0, none⟩)), (29, .slice a ps.length c), (30, iv ps.length), (31, iv k)]) (fun _ => [.blk b19 (LC [iv (worksOf d sure), iv d.pot, .slice ao k co] 97), .blk b10 (LC (sme (smOf sure e33)) 72), .row (.slice ao k co) 72 2 k (flat sme (l.take k))]) (fun _ V'' => V' = V'') ?_ ?_
      · refine At.cond rfl (fun hm => ?_) (fun hm => ?_)
        · subst hm
          refine At.nrm ?_
          refine At.ktext (.q 0 (.q 1 (.q 2 (.q 3 (.n true 4 .done))))) ?_
          first | refine AtT.kfieldO fo60_0 ?_ | with_reducible refine AtT.kfield2 fo60_0 ?_ | refine AtT.kfield fo60_0 ?_
          first | refine AtT.kfieldO fo23_1 ?_ | with_reducible refine AtT.kfield2 fo23_1 ?_ | refine AtT.kfield fo23_1 ?_
          first | refine AtT.kloadO tk2 ?_ | refine AtT.kload tk2 ?_
          refine AtT.kidxA Try.underlying72 tk2 ?_
          first | refine AtT.kstore1 tk2 ?_ | refine AtT.kstoreA tk2 ?_
          refine AtT.done ?_
          refine At.nrm ?_
          exact At.meetG () rfl ⟨rfl, rfl, rfl, rfl, rfl, rfl, trivial⟩ Pt.auto
        · subst hm
          refine At.nrm ?_
          exact At.meetG () rfl ⟨rfl, rfl, rfl, rfl, rfl, rfl, trivial⟩ Pt.auto
      rintro _ V'' ks' O' rfl hk hO hl3
      subst hk hO
      refine At.nrm ?_
      refine At.cutG (ι := Option Addr × Nat) (fun _ => [(2, .bool sure), (7, .pointer (some ⟨b19, 0, none⟩)), (29, .slice a ps.length c), (30, iv ps.length), (31, iv k)]) (fun g => [.blk b19 (LC [iv (worksOf d sure), iv d.pot, .slice g.1 (k + 1) g.2] 97), .row (.slice g.1 (k + 1) g.2) 72 2 (k + 1) (flat sme (l.take (k + 1)))]) (fun _ V'' => Le V' V'') ?_ ?_
      · rw [take_snoc' hlx, flat_snoc]
        refine At.drawC [.blk b19 (LC [iv (worksOf d sure), iv d.pot, .slice ao k co] 97), .blk b10 (LC (sme (smOf sure e33)) 72)] (.q 0 (.q 1 (.q 2 (.q 3 (.q 4 (.q 5 (.n false 6 (.n false 7 (.q 8 (.q 9 (.n true 10 .done))))))))))) ffm (by kernel_rfl) Pt.auto ?_
        refine AtC.pre (fun hle0 => ?_)
        refine AtC.kq (by (refine AtT.kmove ?_); exact At.knows) ?_
        refine AtC.kq (by (refine AtT.kmove ?_); exact At.knows) ?_
        refine AtC.kq (by (refine AtT.knil ?_); exact At.knows) ?_
        refine AtC.kq (by (first | refine AtT.kfieldO fo97_1 ?_ | with_reducible refine AtT.kfield2 fo97_1 ?_ | refine AtT.kfield fo97_1 ?_); exact At.knows) ?_
        refine AtC.kq (by (first | refine AtT.kloadO tk83 ?_ | refine AtT.kload tk83 ?_); exact At.knows) ?_
        refine AtC.kq (by (first | refine AtT.kloadOA tk72 ?_ | refine AtT.kloadA tk72 ?_ | refine AtT.kloadOP tk72 ?_); exact At.knows) ?_
        refine AtC.nz ?_
        refine AtT.kbsliceG (bs83_1_0 _ _) ?_
        intro q52 V52 hV52 hq52
        have g52 : Le V V52 := by first | exact hV52 | exact Le.trans (by assumption) hV52
        refine AtC.kgo ?_
        refine AtC.nz ?_
        first | refine AtT.kappend Try.underlying83 rw72 ?_
        intro a53 c53
        refine AtC.kgo ?_
        refine AtC.kq (by (refine AtT.knil ?_); exact At.knows) ?_
        refine AtC.kq (by (first | refine AtT.kfieldO fo97_1 ?_ | with_reducible refine AtT.kfield2 fo97_1 ?_ | refine AtT.kfield fo97_1 ?_); exact At.knows) ?_
        refine AtC.toT ?_
        first | refine AtT.kstore1 tk83 ?_ | refine AtT.kstoreA tk83 ?_
        refine AtT.done ?_
        refine At.nrm ?_
        all_goals (exact At.meetG (a53, c53) (by first | exact Le.refl _ | assumption | exact Le.trans (by assumption) (by assumption)) ⟨rfl, rfl, rfl, rfl, rfl, trivial⟩ Pt.auto)
      rintro ⟨a53, c53⟩ V9 ks' O' hV9 hk hO hl3
      dsimp only at hk hO
      subst hk hO
      refine At.nrm ?_
      refine At.ktext (.q 0 (.q 1 .done)) ?_
      first | refine AtT.kadd ?_ | refine AtT.kaddW ?_
      refine AtT.kmove ?_
      refine AtT.done ?_
      refine At.nrm ?_
      refine At.round (k + 1, a53, c53) ?_ ?_ ?_ ?_
      · show ps.length - (k + 1) < ps.length - k; omega
      · exact ⟨hVV.trans (by assumption), by dsimp only; omega⟩
      · exact ⟨rfl, rfl, rfl, rfl, ivs (by dsimp only; omega), trivial⟩
      dsimp only
      · exact Pt.auto
    · obtain rfl : k = ps.length := by omega
      rw [List.take_of_length_le (l := l) (by omega)]
      refine At.nrm ?_
      refine At.ktext (.q 0 (.q 1 .done)) ?_
      refine AtT.kmove ?_
      refine AtT.kassign ?_
      refine AtT.done ?_
      refine At.nrm ?_
      refine At.giveSl sme_len rfl hll.symm Pick.auto (fun V4 hV4 hs4 => ?_)
      refine At.giveB (b := b19) Pick.auto (fun V5 hV5 hb5 => ?_)
      refine At.ret1 rfl (.tmp rfl) ⟨_, rfl, ao, co, ?_, ?_⟩
      · have := cells_blk hb5
        show Cells V5 _ [iv (worksOf d sure), iv d.pot, .slice ao (ps.map (smOf sure)).length co]
        rw [← hl', hll]; exact this
      · show Sl V5 sme 2 (.slice ao (ps.map (smOf sure)).length co) (ps.map (smOf sure))
        rw [← hl', hll]; exact hs4.le hV5
theorem fits_f (B : Bn) (hB : BnOk B) (s : Sm) (V : View) (p : Addr) (h : BnV V p B) : Fnc Try.prog 59 [.pointer (some p), smv s] V fun r _ => r = iv (fitE B s) := by
  obtain ⟨a, c, h1, h2⟩ := h
  have hw := hB.w0
  have hp := hB.p0
  have c0 : Cells V (((p.add 0).add 0).add ((0 : Int).toNat * 1)) [iv B.w] := by
    rw [addr_add_add, addr_add_add]
    exact h1.at (k := 0) fun j u hj => by
      match j, hj with
      | 0, hj => exact hj
  have c1 : Cells V (((p.add 0).add 0).add ((1 : Int).toNat * 1)) [iv B.p] := by
    rw [addr_add_add, addr_add_add]
    exact h1.at (k := 1) fun j u hj => by
      match j, hj with
      | 0, hj => exact hj
  refine fn_of Try.func59 rfl Try.ntmps59 (Nat.le_of_ble_eq_true rfl) ?_
  intro w0 hw0
  refine At.nrm ?_
  refine At.ktext (.n false 0 (.q 1 .done)) ?_
  refine AtT.kbox ?_
  intro b3
  refine AtT.kassign ?_
  refine AtT.done ?_
  refine At.nrm ?_
  refine At.ktext (.q 0 (.q 1 (.q 2 (.q 3 .done)))) ?_
  first | refine AtT.kloadOA tk72 ?_ | refine AtT.kloadA tk72 ?_ | refine AtT.kloadOP tk72 ?_
  refine AtT.kbuild (bd72) ?_
  refine AtT.keqS (eqS72 _ _ _ _) ?_
  refine AtT.kassign ?_
  refine AtT.done ?_
  refine At.nrm ?_
  refine At.condP rfl (fun hm => ?_) (fun hm => ?_)
  · refine At.nrm ?_
    refine At.ktext (.q 0 .done) ?_
    refine AtT.kassign ?_
    refine AtT.done ?_
    refine At.nrm ?_
    refine At.ret1 rfl (.tmp rfl) ?_
    unfold fitE
    rw [if_neg (by omega), if_neg (by omega)]
  refine At.nrm ?_
  refine At.draw (.q 0 (.q 1 (.q 2 (.q 3 (.q 4 (.q 5 (.q 6 (.q 7 (.q 8 (.q 9 .done)))))))))) ffm (by kernel_rfl) ?_
  refine AtT.kidxA Try.underlying72 tk2 ?_
  first | refine AtT.kloadO tk2 ?_ | refine AtT.kload tk2 ?_
  refine AtT.kmove ?_
  refine AtT.knil ?_
  first | refine AtT.kfieldO fo97_0 ?_ | with_reducible refine AtT.kfield2 fo97_0 ?_ | refine AtT.kfield fo97_0 ?_
  first | refine AtT.kfieldO fo95_0 ?_ | with_reducible refine AtT.kfield2 fo95_0 ?_ | refine AtT.kfield fo95_0 ?_
  refine AtT.idxQ rfl trivial Try.underlying72 tk2 rfl rfl (by decide) (by decide) (by decide) ?_
  first | refine AtT.kloadO tk2 ?_ | refine AtT.kload tk2 ?_
  refine AtT.kgtr ?_
  refine AtT.kassign ?_
  refine AtT.done ?_
  refine At.nrm ?_
  refine At.condP rfl (fun hm => ?_) (fun hm => ?_)
  · refine At.nrm ?_
    refine At.ktext (.q 0 .done) ?_
    refine AtT.kassign ?_
    refine AtT.done ?_
    refine At.nrm ?_
    refine At.ret1 rfl (.tmp rfl) ?_
    unfold fitE
    rw [if_pos (by omega)]
  refine At.nrm ?_
  refine At.draw (.q 0 (.q 1 (.q 2 (.q 3 (.q 4 (.q 5 (.q 6 (.q 7 (.q 8 (.q 9 .done)))))))))) ffm (by kernel_rfl) ?_
  refine AtT.kidxA Try.underlying72 tk2 ?_
  first | refine AtT.kloadO tk2 ?_ | refine AtT.kload tk2 ?_
  refine AtT.kmove ?_
  refine AtT.knil ?_
  first | refine AtT.kfieldO fo97_0 ?_ | with_reducible refine AtT.kfield2 fo97_0 ?_ | refine AtT.kfield fo97_0 ?_
  first | refine AtT.kfieldO fo95_0 ?_ | with_reducible refine AtT.kfield2 fo95_0 ?_ | refine AtT.kfield fo95_0 ?_
  refine AtT.idxQ rfl trivial Try.underlying72 tk2 rfl rfl (by decide) (by decide) (by decide) ?_
  first | refine AtT.kloadO tk2 ?_ | refine AtT.kload tk2 ?_
  refine AtT.kgtr ?_
  refine AtT.kassign ?_
  refine AtT.done ?_
  refine At.nrm ?_
  refine At.condP rfl (fun hm2 => ?_) (fun hm2 => ?_)
  · refine At.nrm ?_
    refine At.ktext (.q 0 .done) ?_
    refine AtT.kassign ?_
    refine AtT.done ?_
    refine At.nrm ?_
    refine At.ret1 rfl (.tmp rfl) ?_
    unfold fitE
    rw [if_neg (by omega), if_pos (by omega)]
  refine At.nrm ?_
  refine At.ktext (.q 0 .done) ?_
  refine AtT.kassign ?_
  refine AtT.done ?_
  refine At.nrm ?_
  refine At.ret1 rfl (.tmp rfl) ?_
  unfold fitE
  rw [if_neg (by omega), if_neg (by omega)]
end Go.Proofs.Ytmnbkceiaifncaa
namespace Go.Gl

def prevN (l : List Int) : Nat → Int
  | 0 => 0
  | k + 1 => l.getD k 0 + 1
def okAt (l : List Int) (below : Int) (k : Nat) : Bool := decide (0 ≤ l.getD k 0 ∧ prevN l k ≤ l.getD k 0 ∧ l.getD k 0 < below)
/-- A list is strictly increasing, of numbers from 0 on, below another one. -/
def lstB (l : List Int) (below : Int) : Bool := (List.range l.length).all (okAt l below)
theorem lstB_true {l : List Int} {below : Int} (h : ∀ j, j < l.length → okAt l below j = true) : lstB l below = true := by
  unfold lstB; rw [List.all_eq_true]; intro j hj; exact h j (List.mem_range.1 hj)
theorem lstB_at {l : List Int} {below : Int} (h : lstB l below = true) {j : Nat} (hj : j < l.length) : okAt l below j = true := by
  unfold lstB at h; rw [List.all_eq_true] at h; exact h j (List.mem_range.2 hj)
theorem lstB_false {l : List Int} {below : Int} {k : Nat} (hk : k < l.length) (h : okAt l below k = false) : lstB l below = false := by
  cases hb : lstB l below with
  | false => rfl
  | true => rw [lstB_at hb hk] at h; cases h
theorem prevN_pos {l : List Int} {below : Int} : ∀ {k : Nat}, (∀ j, j < k → okAt l below j = true) → 0 ≤ prevN l k
  | 0, _ => Int.le_refl 0
  | k + 1, h => by
    have := h k (by omega)
    simp only [okAt, decide_eq_true_eq] at this
    simp only [prevN]; omega
theorem lstB_in {l : List Int} {below : Int} (h : lstB l below = true) : ∀ i ∈ l, 0 ≤ i ∧ i < below := fun i hi => by
  obtain ⟨k, hk⟩ := List.getElem?_of_mem hi
  have hlt := (List.getElem?_eq_some_iff.1 hk).1
  have := lstB_at h hlt
  have e : l.getD k 0 = i := by simp [List.getD, hk]
  simp only [okAt, decide_eq_true_eq, e] at this
  omega
theorem lstB_ge {l : List Int} {below : Int} (h : lstB l below = true) : ∀ k, k < l.length → (k : Int) ≤ l.getD k 0
  | 0, hk => by
    have := lstB_at h hk
    simp only [okAt, decide_eq_true_eq] at this
    omega
  | k + 1, hk => by
    have ih := lstB_ge h k (by omega)
    have h2 : l.getD k 0 + 1 ≤ l.getD (k + 1) 0 := (of_decide_eq_true (lstB_at h hk)).2.1
    omega
theorem lstB_len {l : List Int} {below : Int} (h : lstB l below = true) (h0 : 0 ≤ below) : (l.length : Int) ≤ below := by
  by_cases c : l.length = 0
  · omega
  · have a := lstB_ge h (l.length - 1) (by omega)
    have := lstB_at h (show l.length - 1 < l.length by omega)
    simp only [okAt, decide_eq_true_eq] at this
    omega
/-- What CheckBatch answers. -/
def batR (d : Dy) (ps : List Pn) (sure : Bool) (l : List Int) : Int × Int × Int :=
  if bothE d ps ≠ 0 then (0, 0, bothE d ps) else if lstB l ps.length = false then (0, 0, 2)
  else if fitE (bn d ps sure) (sumL (bn d ps sure) l) ≠ 0 then (0, 0, fitE (bn d ps sure) (sumL (bn d ps sure) l))
  else ((sumL (bn d ps sure) l).t, (sumL (bn d ps sure) l).g, 0)
theorem bn_len (d : Dy) (ps : List Pn) (sure : Bool) : (bn d ps sure).each.length = ps.length := by simp [bn]
end Go.Gl
namespace Go.Gl
/-- How many batches a row or a plan has. -/
def batN (l : List Int) : Int := l.foldl (fun n x => max n (x + 1)) 0
theorem batN_snoc (l : List Int) (x : Int) : batN (l ++ [x]) = max (batN l) (x + 1) := by unfold batN; rw [List.foldl_append]; rfl
theorem batN_bd {l : List Int} {m : Int} (h0 : 0 ≤ m) : (∀ x ∈ l, x < m) → 0 ≤ batN l ∧ batN l ≤ m := by
  have key : ∀ (l : List Int) (n : Int), 0 ≤ n → n ≤ m → (∀ x ∈ l, x < m) → 0 ≤ l.foldl (fun n x => max n (x + 1)) n ∧ l.foldl (fun n x => max n (x + 1)) n ≤ m := by
    intro l
    induction l with
    | nil => intro n a b _; exact ⟨a, b⟩
    | cons x l ih =>
      intro n a b h
      have := h x List.mem_cons_self
      exact ih _ (by dsimp only; omega) (by dsimp only; omega) (fun y hy => h y (List.mem_cons_of_mem _ hy))
  exact fun h => key l 0 (Int.le_refl 0) h0 h
/-- The panels of a batch, of the first k. -/
def ofK (l : List Int) (b : Int) : Nat → List Int
  | 0 => []
  | k + 1 => if l.getD k 0 = b then ofK l b k ++ [(k : Int)] else ofK l b k
def ofL (l : List Int) (b : Int) : List Int := ofK l b l.length
theorem ofK_len (l : List Int) (b : Int) : ∀ k, (ofK l b k).length ≤ k
  | 0 => Nat.le_refl 0
  | k + 1 => by
    have := ofK_len l b k
    simp only [ofK]; split
    · simp; omega
    · omega
end Go.Gl
namespace Go.Gl
def leastAt (l : List Int) (row : Bool) (k : Nat) : Int := if row = true ∧ 0 < k then l.getD (k - 1) 0 else 0
def plAt (l : List Int) (row : Bool) (k : Nat) : Bool := decide (leastAt l row k ≤ l.getD k 0 ∧ l.getD k 0 ≤ batN (l.take k))
/-- A list is as described for plans; for rows, if that is asked. -/
def planB (l : List Int) (row : Bool) : Bool := (List.range l.length).all (plAt l row)
theorem planB_true {l : List Int} {row : Bool} (h : ∀ j, j < l.length → plAt l row j = true) : planB l row = true := by
  unfold planB; rw [List.all_eq_true]; intro j hj; exact h j (List.mem_range.1 hj)
theorem planB_at {l : List Int} {row : Bool} (h : planB l row = true) {j : Nat} (hj : j < l.length) : plAt l row j = true := by
  unfold planB at h; rw [List.all_eq_true] at h; exact h j (List.mem_range.2 hj)
theorem planB_false {l : List Int} {row : Bool} {k : Nat} (hk : k < l.length) (h : plAt l row k = false) : planB l row = false := by
  cases hb : planB l row with
  | false => rfl
  | true => rw [planB_at hb hk] at h; cases h
end Go.Gl
namespace Go.Gl

/-- The numbers from one to another one. -/
def fromTo (a b : Int) : List Int := (List.range (b + 1 - a).toNat).map fun (i : Nat) => a + (i : Int)
theorem fromTo_len (a b : Int) : (fromTo a b).length = (b + 1 - a).toNat := by simp [fromTo]
theorem fromTo_at {a b : Int} {k : Nat} (h : k < (b + 1 - a).toNat) : (fromTo a b)[k]? = some (a + (k : Int)) := by
  simp only [fromTo, List.getElem?_map, List.getElem?_range h]; rfl
/-- The numbers below k that bits say. -/
def bitL (A : Nat) : Nat → List Int
  | 0 => []
  | k + 1 => if A.testBit k = true then bitL A k ++ [(k : Int)] else bitL A k

/-- What those of the first n panels have together that are in. -/
def sm (B : Bn) (p : Nat → Bool) : Nat → Sm
  | 0 => sm0
  | k + 1 => if p k = true then (sm B p k).and (eachP B (k : Int)) else sm B p k
theorem sm_congr (B : Bn) {p q : Nat → Bool} : ∀ {n : Nat}, (∀ i, i < n → p i = q i) → sm B p n = sm B q n
  | 0, _ => rfl
  | n + 1, h => by
    have ih := sm_congr B (n := n) (fun i hi => h i (by omega))
    simp only [sm, ih, h n (by omega)]
theorem sm_mono {B : Bn} (hB : BnOk B) {p q : Nat → Bool} : ∀ {n : Nat}, (∀ i, i < n → p i = true → q i = true) → (sm B p n).t ≤ (sm B q n).t ∧ (sm B p n).g ≤ (sm B q n).g
  | 0, _ => ⟨Int.le_refl _, Int.le_refl _⟩
  | n + 1, h => by
    have ih := sm_mono hB (n := n) (fun i hi => h i (by omega))
    have hn := h n (by omega)
    have hb := eachP_bd hB (n : Int)
    simp only [sm]
    cases hp : p n <;> cases hq : q n
    · simpa using ih
    · simp only [Bool.false_eq_true, if_false, if_true, Sm.and]; omega
    · rw [hp, hq] at hn; exact absurd (hn rfl) (by simp)
    · simp only [if_true, Sm.and]; omega
theorem sm_none (B : Bn) {p : Nat → Bool} : ∀ {n : Nat}, (∀ i, i < n → p i = false) → sm B p n = sm0
  | 0, _ => rfl
  | n + 1, h => by
    have ih := sm_none B (n := n) (fun i hi => h i (by omega))
    simp only [sm, ih, h n (by omega), Bool.false_eq_true, if_false]
theorem sm_cut (B : Bn) {p : Nat → Bool} {n : Nat} : ∀ {m : Nat}, n ≤ m → (∀ i, n ≤ i → i < m → p i = false) → sm B p m = sm B p n
  | 0, h, _ => by obtain rfl : n = 0 := by omega
                  rfl
  | m + 1, h, hp => by
    by_cases c : n = m + 1
    · subst c; rfl
    · have ih := sm_cut B (p := p) (n := n) (m := m) (by omega) (fun i hi hm => hp i hi (by omega))
      simp only [sm, ih, hp m (by omega) (by omega), Bool.false_eq_true, if_false]
theorem fit_iff (B : Bn) (s : Sm) : fitE B s = 0 ↔ s.t ≤ B.w ∧ s.g ≤ B.p := by
  unfold fitE
  by_cases a : B.w < s.t
  · rw [if_pos a]; exact ⟨fun h => (by cases h), fun h => absurd a (by omega)⟩
  · rw [if_neg a]
    by_cases b : B.p < s.g
    · rw [if_pos b]; exact ⟨fun h => (by cases h), fun h => absurd b (by omega)⟩
    · rw [if_neg b]; exact ⟨fun _ => by omega, fun _ => rfl⟩
theorem fit_mono {B : Bn} {a b : Sm} (h : a.t ≤ b.t ∧ a.g ≤ b.g) (hb : fitE B b = 0) : fitE B a = 0 := by
  rw [fit_iff] at *; omega
theorem fit_sub {B : Bn} (hB : BnOk B) {p q : Nat → Bool} {n : Nat} (h : ∀ i, i < n → p i = true → q i = true) (hq : fitE B (sm B q n) = 0) : fitE B (sm B p n) = 0 := fit_mono (sm_mono hB h) hq

theorem sum_ofK (B : Bn) (l : List Int) (b : Int) : ∀ k, sumL B (ofK l b k) = sm B (fun i => decide (l.getD i 0 = b)) k
  | 0 => rfl
  | k + 1 => by
    have ih := sum_ofK B l b k
    simp only [ofK, sm, decide_eq_true_eq]
    by_cases c : l.getD k 0 = b
    · rw [if_pos c, if_pos c, sumL_snoc, ih]
    · rw [if_neg c, if_neg c, ih]
theorem sum_ofL (B : Bn) (l : List Int) (b : Int) : sumL B (ofL l b) = sm B (fun i => decide (l.getD i 0 = b)) l.length := sum_ofK B l b l.length
theorem sum_bit (B : Bn) (A : Nat) : ∀ k, sumL B (bitL A k) = sm B A.testBit k
  | 0 => rfl
  | k + 1 => by
    have ih := sum_bit B A k
    simp only [bitL, sm]
    by_cases c : A.testBit k = true
    · rw [if_pos c, if_pos c, sumL_snoc, ih]
    · rw [if_neg c, if_neg c, ih]
theorem fromTo_nil {a b : Int} (h : b < a) : fromTo a b = [] := by
  have : (b + 1 - a).toNat = 0 := by omega
  simp [fromTo, this]
theorem fromTo_snoc {a b : Int} (h : a ≤ b) : fromTo a b = fromTo a (b - 1) ++ [b] := by
  have e : (b + 1 - a).toNat = (b - 1 + 1 - a).toNat + 1 := by omega
  unfold fromTo
  rw [e, List.range_succ, List.map_append]
  simp only [List.map_cons, List.map_nil]
  congr 2
  omega
theorem sum_span (B : Bn) (a : Nat) : ∀ n : Nat, sumL B (fromTo (a : Int) ((n : Int) - 1)) = sm B (fun i => decide (a ≤ i)) n
  | 0 => by rw [fromTo_nil (by omega)]; rfl
  | n + 1 => by
    have ih := sum_span B a n
    have e : (((n + 1 : Nat) : Int) - 1) = (n : Int) := by omega
    rw [e]
    simp only [sm, decide_eq_true_eq]
    by_cases c : a ≤ n
    · rw [if_pos c, fromTo_snoc (by omega), sumL_snoc, ih]
    · rw [if_neg c, fromTo_nil (by omega), ← ih, fromTo_nil (by omega)]
theorem sum_spanT (B : Bn) (a n : Nat) : sumL B (fromTo (a : Int) (n : Int)) = sm B (fun i => decide (a ≤ i)) (n + 1) := by
  rw [← sum_span B a (n + 1)]; congr 2; omega

/-- Each panel alone can be laid. -/
def FineB (B : Bn) : Prop := ∀ i : Nat, i < B.each.length → fitE B (eachP B (i : Int)) = 0
theorem and0 (s : Sm) : sm0.and s = s := by simp [Sm.and, sm0]

/-- The first panel of the last batch, and its number, of the first panels in order. -/
def rowF (B : Bn) : Nat → Nat × Nat
  | 0 => (0, 0)
  | k + 1 => if fitE B (sumL B (fromTo ((rowF B k).1 : Int) (k : Int))) ≠ 0 then (k, (rowF B k).2 + 1) else rowF B k
def rowO (B : Bn) (k : Nat) : List Int := (List.range k).map fun i => ((rowF B (i + 1)).2 : Int)
/-- The best row. -/
def rowL (B : Bn) : List Int := rowO B B.each.length
theorem rowO_succ (B : Bn) (k : Nat) : rowO B (k + 1) = rowO B k ++ [((rowF B (k + 1)).2 : Int)] := by
  unfold rowO; rw [List.range_succ, List.map_append]; rfl
theorem rowO_len (B : Bn) (k : Nat) : (rowO B k).length = k := by simp [rowO]
theorem rowO_at (B : Bn) {k i : Nat} (h : i < k) : (rowO B k).getD i 0 = ((rowF B (i + 1)).2 : Int) := by
  simp [rowO, List.getD, List.getElem?_map, List.getElem?_range h]
theorem rowF_le (B : Bn) : ∀ k, (rowF B k).1 ≤ k
  | 0 => Nat.le_refl 0
  | k + 1 => by
    have ih := rowF_le B k
    simp only [rowF]; split
    · simp only; omega
    · omega
theorem sm_sub {B : Bn} (hB : BnOk B) {p q : Nat → Bool} {m n : Nat} (hmn : m ≤ n) (h : ∀ i, i < m → p i = true → q i = true) : (sm B p m).t ≤ (sm B q n).t ∧ (sm B p m).g ≤ (sm B q n).g := by
  have e : sm B (fun i => p i && decide (i < m)) n = sm B p m := by
    rw [sm_cut B (n := m) hmn (fun i h1 h2 => by simp; omega)]
    exact sm_congr B (fun i hi => by simp [hi])
  rw [← e]
  refine sm_mono hB (fun i hi hp => ?_)
  rw [Bool.and_eq_true, decide_eq_true_eq] at hp
  exact h i hp.2 hp.1
theorem sm_last (B : Bn) (k : Nat) : sm B (fun i => decide (k ≤ i)) (k + 1) = eachP B (k : Int) := by
  simp only [sm]
  rw [sm_none B (fun i hi => decide_eq_false (by omega)), if_pos (by simp), and0]
theorem rowF_one {B : Bn} (hf : FineB B) (c : 0 < B.each.length) : rowF B 1 = (0, 0) := by
  have e : sumL B (fromTo ((rowF B 0).1 : Int) ((0 : Nat) : Int)) = eachP B ((0 : Nat) : Int) := by
    show sumL B (fromTo ((0 : Nat) : Int) ((0 : Nat) : Int)) = _
    rw [sum_spanT, sm_last]
  have d : ¬ fitE B (sumL B (fromTo ((rowF B 0).1 : Int) ((0 : Nat) : Int))) ≠ 0 := by rw [e, hf 0 c]; simp
  show (if fitE B (sumL B (fromTo ((rowF B 0).1 : Int) ((0 : Nat) : Int))) ≠ 0 then (0, (rowF B 0).2 + 1) else rowF B 0) = (0, 0)
  rw [if_neg d]; rfl
theorem rowF_new {B : Bn} {k : Nat} (h : fitE B (sm B (fun i => decide ((rowF B k).1 ≤ i)) (k + 1)) ≠ 0) : rowF B (k + 1) = (k, (rowF B k).2 + 1) := by
  show (if fitE B (sumL B (fromTo ((rowF B k).1 : Int) (k : Int))) ≠ 0 then (k, (rowF B k).2 + 1) else rowF B k) = _
  rw [sum_spanT, if_pos h]
theorem rowF_same {B : Bn} {k : Nat} (h : fitE B (sm B (fun i => decide ((rowF B k).1 ≤ i)) (k + 1)) = 0) : rowF B (k + 1) = rowF B k := by
  show (if fitE B (sumL B (fromTo ((rowF B k).1 : Int) (k : Int))) ≠ 0 then (k, (rowF B k).2 + 1) else rowF B k) = _
  rw [sum_spanT, if_neg (by rw [h]; simp)]
structure RowSt (B : Bn) (k : Nat) : Prop where
  lt : (rowF B k).1 < k
  same : ∀ j, (rowF B k).1 ≤ j → j < k → (rowF B (j + 1)).2 = (rowF B k).2
  less : ∀ j, j < (rowF B k).1 → (rowF B (j + 1)).2 < (rowF B k).2
  fits : fitE B (sm B (fun i => decide ((rowF B k).1 ≤ i)) k) = 0
theorem rowF_st {B : Bn} (hf : FineB B) : ∀ k, k < B.each.length → RowSt B (k + 1)
  | 0, h => by
    have e := rowF_one hf h
    refine ⟨by rw [e]; simp, fun j h1 h2 => ?_, fun j hj => ?_, ?_⟩
    · obtain rfl : j = 0 := by omega
      rfl
    · rw [e] at hj; simp at hj
    · rw [e]; show fitE B (sm B (fun i => decide (0 ≤ i)) (0 + 1)) = 0
      rw [sm_last]; exact hf 0 h
  | k + 1, h => by
    have ih := rowF_st hf k (by omega)
    by_cases c : fitE B (sm B (fun i => decide ((rowF B (k + 1)).1 ≤ i)) (k + 1 + 1)) = 0
    · have e := rowF_same c
      refine ⟨by rw [e]; have := ih.lt; omega, fun j h1 h2 => ?_, fun j hj => ?_, by rw [e]; exact c⟩
      · by_cases d : j = k + 1
        · subst d; rfl
        · rw [e] at h1 ⊢; exact ih.same j h1 (by omega)
      · rw [e] at hj ⊢; exact ih.less j hj
    · have e := rowF_new c
      refine ⟨by rw [e]; simp, fun j h1 h2 => ?_, fun j hj => ?_, ?_⟩
      · rw [e] at h1; simp only at h1
        obtain rfl : j = k + 1 := by omega
        rfl
      · rw [e] at hj ⊢; simp only at hj ⊢
        by_cases d : (rowF B (k + 1)).1 ≤ j
        · have := ih.same j d (by omega); omega
        · have := ih.less j (by omega); omega
      · rw [e]; simp only; rw [sm_last]; exact hf (k + 1) h
theorem rowF_mono (B : Bn) (k : Nat) : (rowF B k).2 ≤ (rowF B (k + 1)).2 ∧ (rowF B (k + 1)).2 ≤ (rowF B k).2 + 1 := by
  by_cases c : fitE B (sm B (fun i => decide ((rowF B k).1 ≤ i)) (k + 1)) = 0
  · rw [rowF_same c]; omega
  · rw [rowF_new c]; simp
/-- The numbers of a row do not fall. -/
def Mono (l : List Int) : Prop := ∀ i j, i ≤ j → j < l.length → l.getD i 0 ≤ l.getD j 0
/-- The panels of each batch share it. -/
def Good (B : Bn) (l : List Int) : Prop := ∀ k : Int, fitE B (sm B (fun i => decide (l.getD i 0 = k)) l.length) = 0
/-- The best row has at each panel the least number of all good rows. -/
theorem row_min {B : Bn} (hB : BnOk B) (hf : FineB B) {l : List Int} (hm : Mono l) (h0 : 0 ≤ l.getD 0 0) (hl : l.length = B.each.length) (hg : Good B l) : ∀ i, i < B.each.length → ((rowF B (i + 1)).2 : Int) ≤ l.getD i 0
  | 0, h => by rw [rowF_one hf h]; exact h0
  | i + 1, h => by
    have st := rowF_st hf i (by omega)
    have ih := row_min hB hf hm h0 hl hg i (by omega)
    have hmi := hm i (i + 1) (by omega) (by omega)
    by_cases c : fitE B (sm B (fun j => decide ((rowF B (i + 1)).1 ≤ j)) (i + 1 + 1)) = 0
    · rw [rowF_same c]; omega
    · rw [rowF_new c]; simp only
      by_cases d : l.getD (i + 1) 0 < ((rowF B (i + 1)).2 : Int) + 1
      · exfalso
        refine c (fit_mono (sm_sub hB (n := B.each.length) (q := fun j => decide (l.getD j 0 = ((rowF B (i + 1)).2 : Int))) (by omega) (fun j hj hp => ?_)) (by rw [← hl]; exact hg _))
        rw [decide_eq_true_eq] at hp ⊢
        by_cases e : j = i + 1
        · subst e; omega
        · have h1 := row_min hB hf hm h0 hl hg j (by omega)
          have h2 := st.same j hp (by omega)
          have h3 := hm j i (by omega) (by omega)
          omega
      · push_cast; omega

theorem batN_gt {l : List Int} {x : Int} (h : x ∈ l) : x < batN l := by
  have key : ∀ (l : List Int) (n : Int), n ≤ l.foldl (fun n x => max n (x + 1)) n ∧ ∀ x ∈ l, x < l.foldl (fun n x => max n (x + 1)) n := by
    intro l
    induction l with
    | nil => intro n; exact ⟨Int.le_refl _, fun x hx => by cases hx⟩
    | cons y l ih =>
      intro n
      obtain ⟨a, b⟩ := ih (max n (y + 1))
      refine ⟨by simp only [List.foldl_cons]; omega, fun x hx => ?_⟩
      simp only [List.foldl_cons]
      rcases List.mem_cons.1 hx with rfl | hx
      · omega
      · exact b x hx
  exact (key l 0).2 x h
theorem batN_pos (l : List Int) : 0 ≤ batN l := by
  have key : ∀ (l : List Int) (n : Int), n ≤ l.foldl (fun n x => max n (x + 1)) n := by
    intro l
    induction l with
    | nil => intro n; exact Int.le_refl _
    | cons y l ih => intro n; have := ih (max n (y + 1)); simp only [List.foldl_cons]; omega
  exact key l 0
theorem batN_le {l : List Int} {m : Int} (h0 : 0 ≤ m) (h : ∀ x ∈ l, x < m) : batN l ≤ m := (batN_bd h0 h).2
theorem getD_mem {l : List Int} {i : Nat} (h : i < l.length) : l.getD i 0 ∈ l := by
  simp only [List.getD, List.getElem?_eq_getElem h, Option.getD_some]; exact List.getElem_mem h
theorem mem_getD {l : List Int} {x : Int} (h : x ∈ l) : ∃ i, i < l.length ∧ l.getD i 0 = x := by
  obtain ⟨i, hi, rfl⟩ := List.getElem_of_mem h
  exact ⟨i, hi, by simp [List.getD, List.getElem?_eq_getElem hi]⟩
theorem rowO_bat {B : Bn} (hf : FineB B) (h0 : 0 < B.each.length) : ∀ k, batN (rowO B (k + 1)) = ((rowF B (k + 1)).2 : Int) + 1
  | 0 => by
    rw [rowO_succ, batN_snoc, rowF_one hf h0]
    show max (0 : Int) (((0 : Nat) : Int) + 1) = _
    omega
  | k + 1 => by
    have ih := rowO_bat hf h0 k
    have := rowF_mono B (k + 1)
    rw [rowO_succ, batN_snoc, ih]
    omega
theorem rowO_take (B : Bn) {k n : Nat} (h : k ≤ n) : (rowO B n).take k = rowO B k := by
  unfold rowO; rw [← List.map_take, List.take_range]; congr 2; omega
theorem row_len (B : Bn) : (rowL B).length = B.each.length := rowO_len B _
theorem row_plan {B : Bn} (hf : FineB B) : planB (rowL B) true = true := planB_true fun k hk => by
  rw [row_len] at hk
  unfold plAt leastAt rowL
  rw [rowO_take B (by omega), rowO_at B hk]
  refine decide_eq_true ?_
  match k with
  | 0 =>
    rw [if_neg (by simp), rowF_one hf hk]
    simp [batN_pos]
  | k + 1 =>
    rw [if_pos ⟨rfl, by omega⟩, rowO_bat hf (by omega), show k + 1 - 1 = k from rfl, rowO_at B (by omega)]
    have := rowF_mono B (k + 1)
    omega
theorem row_mono' {B : Bn} : ∀ {i j : Nat}, i ≤ j → (rowF B i).2 ≤ (rowF B j).2 := by
  intro i j h
  induction j with
  | zero => obtain rfl : i = 0 := by omega
            exact Nat.le_refl _
  | succ j ih =>
    by_cases c : i = j + 1
    · subst c; exact Nat.le_refl _
    · exact Nat.le_trans (ih (by omega)) (rowF_mono B j).1
theorem row_mono (B : Bn) : Mono (rowL B) := fun i j hij hj => by
  rw [row_len] at hj
  unfold rowL
  rw [rowO_at B (by omega), rowO_at B hj]
  have := row_mono' (B := B) (show i + 1 ≤ j + 1 by omega)
  omega
theorem row_good {B : Bn} (hB : BnOk B) (hf : FineB B) : Good B (rowL B) := by
  have key : ∀ k, k ≤ B.each.length → ∀ b : Int, fitE B (sm B (fun i => decide (((rowF B (i + 1)).2 : Int) = b)) k) = 0 := by
    intro k
    induction k with
    | zero => intro _ b; exact fit0 hB
    | succ k ih =>
      intro hk b
      have st := rowF_st hf k (by omega)
      by_cases c : ((rowF B (k + 1)).2 : Int) = b
      · rw [sm_congr B (q := fun i => decide ((rowF B (k + 1)).1 ≤ i)) (fun i hi => ?_)]
        · exact st.fits
        · rw [Bool.eq_iff_iff, decide_eq_true_eq, decide_eq_true_eq]
          refine ⟨fun h => ?_, fun h => ?_⟩
          · by_cases d : (rowF B (k + 1)).1 ≤ i
            · exact d
            · have := st.less i (by omega); omega
          · have := st.same i h hi; omega
      · have := ih (by omega) b
        simp only [sm]
        rw [if_neg (by simpa using c)]
        exact this
  intro b
  rw [row_len, sm_congr B (q := fun i => decide (((rowF B (i + 1)).2 : Int) = b)) (fun i hi => by unfold rowL; rw [rowO_at B hi])]
  exact key _ (Nat.le_refl _) b
theorem plan_row {l : List Int} (h : planB l true = true) : Mono l ∧ ∀ x ∈ l, 0 ≤ x := by
  have h1 : ∀ i, i + 1 < l.length → l.getD i 0 ≤ l.getD (i + 1) 0 := fun i hi => by
    have := planB_at h hi
    unfold plAt leastAt at this
    rw [if_pos ⟨rfl, by omega⟩, decide_eq_true_eq] at this
    exact this.1
  have hm : Mono l := fun i j hij hj => by
    induction j with
    | zero => obtain rfl : i = 0 := by omega
              exact Int.le_refl _
    | succ j ih =>
      by_cases c : i = j + 1
      · subst c; exact Int.le_refl _
      · exact Int.le_trans (ih (by omega) (by omega)) (h1 j hj)
  refine ⟨hm, fun x hx => ?_⟩
  obtain ⟨i, hi, rfl⟩ := mem_getD hx
  have h0 := planB_at h (show 0 < l.length by omega)
  unfold plAt leastAt at h0
  rw [if_neg (by simp), decide_eq_true_eq] at h0
  exact Int.le_trans h0.1 (hm 0 i (by omega) hi)
theorem plan_in {l : List Int} (h : planB l false = true) : ∀ x ∈ l, 0 ≤ x := fun x hx => by
  obtain ⟨i, hi, rfl⟩ := mem_getD hx
  have h0 := planB_at h hi
  unfold plAt leastAt at h0
  rw [if_neg (by simp), decide_eq_true_eq] at h0
  exact h0.1
/-- A row is a plan. -/
theorem row_isPlan {l : List Int} (h : planB l true = true) : planB l false = true := planB_true fun k hk => by
  have h0 := planB_at h hk
  have h1 := (plan_row h).2 _ (getD_mem hk)
  unfold plAt leastAt at *
  rw [decide_eq_true_eq] at *
  rw [if_neg (by simp)]
  exact ⟨h1, h0.2⟩
theorem row_least {B : Bn} (hB : BnOk B) (hf : FineB B) {l : List Int} (h : planB l true = true) (hl : l.length = B.each.length) (hg : Good B l) : batN (rowL B) ≤ batN l := by
  obtain ⟨hm, h0⟩ := plan_row h
  refine batN_le (batN_pos l) fun x hx => ?_
  obtain ⟨i, hi, rfl⟩ := mem_getD hx
  rw [row_len] at hi
  have h00 : 0 ≤ l.getD 0 0 := h0 _ (getD_mem (by omega))
  have a := row_min hB hf hm h00 hl hg i hi
  have b := batN_gt (getD_mem (l := l) (i := i) (by omega))
  unfold rowL
  rw [rowO_at B hi]
  omega
end Go.Gl
