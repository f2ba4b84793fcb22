/- Texts that the last one of this claim imports. -/
import Derived.KernelRfl
import Derived.Test.YtnionkopmncopaaProg
import Derived.ProofKit
import Derived.OpenShut
import Derived.Carry
import Derived.Lib.SmallJoins
import Derived.Deep.Slices
import Derived.Test.YtnionkopmncopaaRows
import Derived.Test.YtnionkopmncopaaB1
set_option linter.unusedVariables false
set_option linter.unusedSimpArgs false
set_option linter.unusedSectionVars false
set_option linter.unusedVariables false
namespace Go.Lw
open Go.RowKit
section
variable {cx : Cx} {n : Nat} {ks : List (Nat × Value)} {O O' R R' O1 : List Own} {V V1 : View} {P : Program} {ops : Array Oper} {Qn : Act → World → Prop} {t : Tr} {i d : Nat} {T : TypeId} {pos : String} {after : Array Edge} {gd : Option (Nat × Bool)} {x y z : Operand} {u v : Value} {wr : Bool} {k : IntKind} {p q : Int} {X Y : TypeId} {K : Act → World → Prop} {Q : Exit → Act → World → Prop} {ro : Option Nat} {id : Nat}
theorem AtT.kmove {x : Operand} {v : Value} (next : AtT cx n ((d, v) :: ks) O V P ops Qn t) (ho : ops[i]? = some ⟨some d, .move x, T, pos, after, gd⟩ := by rfl) (hg : Gd ks ops gd := by first | exact trivial | exact ⟨_, _, rfl, rfl, rfl⟩) (hx : ev ks x = some v := by rfl) (hn : d < n := by decide) : AtT cx n ks O V P ops Qn (.q i t) := AtT.move ho hg hx hn next
theorem AtT.kassign {x : Operand} {v : Value} (next : AtT cx n ((d, v) :: ks) O V P ops Qn t) (ho : ops[i]? = some ⟨some d, .assign x, T, pos, after, gd⟩ := by rfl) (hg : Gd ks ops gd := by first | exact trivial | exact ⟨_, _, rfl, rfl, rfl⟩) (hx : ev ks x = some v := by rfl) (hn : d < n := by decide) : AtT cx n ks O V P ops Qn (.q i t) := AtT.assign ho hg hx hn next
theorem AtT.kpick {c x y : Operand} {b : Bool} {u v : Value} (next : AtT cx n ((d, bif b then u else v) :: ks) O V P ops Qn t) (ho : ops[i]? = some ⟨some d, .pick c x y, T, pos, after, gd⟩ := by rfl) (hg : Gd ks ops gd := by first | exact trivial | exact ⟨_, _, rfl, rfl, rfl⟩) (hc : ev ks c = some (.bool b) := by rfl) (hx : ev ks x = some u := by rfl) (hy : ev ks y = some v := by rfl) (hn : d < n := by decide) : AtT cx n ks O V P ops Qn (.q i t) := AtT.pick ho hg hc hx hy hn next
theorem AtT.kaddW  (next : AtT cx n ((d, .int k (k.wrap (p + q))) :: ks) O V P ops Qn t) (ho : ops[i]? = some ⟨some d, .binOp .add X x y Y, T, pos, after, gd⟩ := by rfl) (hg : Gd ks ops gd := by first | exact trivial | exact ⟨_, _, rfl, rfl, rfl⟩) (hx : ev ks x = some (.int k p) := by rfl) (hy : ev ks y = some (.int k q) := by rfl) (hn : d < n := by decide) : AtT cx n ks O V P ops Qn (.q i t) := AtT.addW ho hg hx hy hn next
theorem AtT.ksubW  (next : AtT cx n ((d, .int k (k.wrap (p - q))) :: ks) O V P ops Qn t) (ho : ops[i]? = some ⟨some d, .binOp .sub X x y Y, T, pos, after, gd⟩ := by rfl) (hg : Gd ks ops gd := by first | exact trivial | exact ⟨_, _, rfl, rfl, rfl⟩) (hx : ev ks x = some (.int k p) := by rfl) (hy : ev ks y = some (.int k q) := by rfl) (hn : d < n := by decide) : AtT cx n ks O V P ops Qn (.q i t) := AtT.subW ho hg hx hy hn next
theorem AtT.kmulW  (next : AtT cx n ((d, .int k (k.wrap (p * q))) :: ks) O V P ops Qn t) (ho : ops[i]? = some ⟨some d, .binOp .mul X x y Y, T, pos, after, gd⟩ := by rfl) (hg : Gd ks ops gd := by first | exact trivial | exact ⟨_, _, rfl, rfl, rfl⟩) (hx : ev ks x = some (.int k p) := by rfl) (hy : ev ks y = some (.int k q) := by rfl) (hn : d < n := by decide) : AtT cx n ks O V P ops Qn (.q i t) := AtT.mulW ho hg hx hy hn next
theorem AtT.kadd  (next : AtT cx n ((d, .int .i64 (p + q)) :: ks) O V P ops Qn t) (ho : ops[i]? = some ⟨some d, .binOp .add X x y Y, T, pos, after, gd⟩ := by rfl) (hg : Gd ks ops gd := by first | exact trivial | exact ⟨_, _, rfl, rfl, rfl⟩) (hx : ev ks x = some (.int .i64 p) := by rfl) (hy : ev ks y = some (.int .i64 q) := by rfl) (hf : Fit (p + q) := by first | assumption | exact Fit.of (by omega) (by omega)) (hn : d < n := by decide) : AtT cx n ks O V P ops Qn (.q i t) := AtT.add ho hg hx hy hn hf next
theorem AtT.ksubt  (next : AtT cx n ((d, .int .i64 (p - q)) :: ks) O V P ops Qn t) (ho : ops[i]? = some ⟨some d, .binOp .sub X x y Y, T, pos, after, gd⟩ := by rfl) (hg : Gd ks ops gd := by first | exact trivial | exact ⟨_, _, rfl, rfl, rfl⟩) (hx : ev ks x = some (.int .i64 p) := by rfl) (hy : ev ks y = some (.int .i64 q) := by rfl) (hf : Fit (p - q) := by first | assumption | exact Fit.of (by omega) (by omega)) (hn : d < n := by decide) : AtT cx n ks O V P ops Qn (.q i t) := AtT.subt ho hg hx hy hn hf next
theorem AtT.kmul  (next : AtT cx n ((d, .int .i64 (p * q)) :: ks) O V P ops Qn t) (ho : ops[i]? = some ⟨some d, .binOp .mul X x y Y, T, pos, after, gd⟩ := by rfl) (hg : Gd ks ops gd := by first | exact trivial | exact ⟨_, _, rfl, rfl, rfl⟩) (hx : ev ks x = some (.int .i64 p) := by rfl) (hy : ev ks y = some (.int .i64 q) := by rfl) (hf : Fit (p * q) := by first | assumption | exact Fit.of (by omega) (by omega)) (hn : d < n := by decide) : AtT cx n ks O V P ops Qn (.q i t) := AtT.mul ho hg hx hy hn hf next
theorem AtT.kquo  (next : AtT cx n ((d, .int .i64 (p.tdiv q)) :: ks) O V P ops Qn t) (ho : ops[i]? = some ⟨some d, .binOp .quo X x y Y, T, pos, after, gd⟩ := by rfl) (hg : Gd ks ops gd := by first | exact trivial | exact ⟨_, _, rfl, rfl, rfl⟩) (hx : ev ks x = some (.int .i64 p) := by rfl) (hy : ev ks y = some (.int .i64 q) := by rfl) (hq : q ≠ 0 := by omega) (hf : Fit (p.tdiv q) := by first | assumption | exact Fit.of (by omega) (by omega)) (hn : d < n := by decide) : AtT cx n ks O V P ops Qn (.q i t) := AtT.quo ho hg hx hy hn hq hf next
theorem AtT.krem  (next : AtT cx n ((d, .int k (p.tmod q)) :: ks) O V P ops Qn t) (ho : ops[i]? = some ⟨some d, .binOp .rem X x y Y, T, pos, after, gd⟩ := by rfl) (hg : Gd ks ops gd := by first | exact trivial | exact ⟨_, _, rfl, rfl, rfl⟩) (hx : ev ks x = some (.int k p) := by rfl) (hy : ev ks y = some (.int k q) := by rfl) (hq : q ≠ 0 := by omega) (hn : d < n := by decide) : AtT cx n ks O V P ops Qn (.q i t) := AtT.rem ho hg hx hy hn hq next
theorem AtT.keqI  (next : AtT cx n ((d, .bool (decide (p = q))) :: ks) O V P ops Qn t) (ho : ops[i]? = some ⟨some d, .binOp .eql X x y Y, T, pos, after, gd⟩ := by rfl) (hg : Gd ks ops gd := by first | exact trivial | exact ⟨_, _, rfl, rfl, rfl⟩) (hx : ev ks x = some (.int k p) := by rfl) (hy : ev ks y = some (.int k q) := by rfl) (hn : d < n := by decide) : AtT cx n ks O V P ops Qn (.q i t) := AtT.eqI ho hg hx hy hn next
theorem AtT.kneI  (next : AtT cx n ((d, .bool (decide (p ≠ q))) :: ks) O V P ops Qn t) (ho : ops[i]? = some ⟨some d, .binOp .neq X x y Y, T, pos, after, gd⟩ := by rfl) (hg : Gd ks ops gd := by first | exact trivial | exact ⟨_, _, rfl, rfl, rfl⟩) (hx : ev ks x = some (.int k p) := by rfl) (hy : ev ks y = some (.int k q) := by rfl) (hn : d < n := by decide) : AtT cx n ks O V P ops Qn (.q i t) := AtT.neI ho hg hx hy hn next
theorem AtT.klss  (next : AtT cx n ((d, .bool (decide (p < q))) :: ks) O V P ops Qn t) (ho : ops[i]? = some ⟨some d, .binOp .lss X x y Y, T, pos, after, gd⟩ := by rfl) (hg : Gd ks ops gd := by first | exact trivial | exact ⟨_, _, rfl, rfl, rfl⟩) (hx : ev ks x = some (.int k p) := by rfl) (hy : ev ks y = some (.int k q) := by rfl) (hn : d < n := by decide) : AtT cx n ks O V P ops Qn (.q i t) := AtT.lss ho hg hx hy hn next
theorem AtT.kleq  (next : AtT cx n ((d, .bool (decide (p ≤ q))) :: ks) O V P ops Qn t) (ho : ops[i]? = some ⟨some d, .binOp .leq X x y Y, T, pos, after, gd⟩ := by rfl) (hg : Gd ks ops gd := by first | exact trivial | exact ⟨_, _, rfl, rfl, rfl⟩) (hx : ev ks x = some (.int k p) := by rfl) (hy : ev ks y = some (.int k q) := by rfl) (hn : d < n := by decide) : AtT cx n ks O V P ops Qn (.q i t) := AtT.leq ho hg hx hy hn next
theorem AtT.kgtr  (next : AtT cx n ((d, .bool (decide (q < p))) :: ks) O V P ops Qn t) (ho : ops[i]? = some ⟨some d, .binOp .gtr X x y Y, T, pos, after, gd⟩ := by rfl) (hg : Gd ks ops gd := by first | exact trivial | exact ⟨_, _, rfl, rfl, rfl⟩) (hx : ev ks x = some (.int k p) := by rfl) (hy : ev ks y = some (.int k q) := by rfl) (hn : d < n := by decide) : AtT cx n ks O V P ops Qn (.q i t) := AtT.gtr ho hg hx hy hn next
theorem AtT.kgeq  (next : AtT cx n ((d, .bool (decide (q ≤ p))) :: ks) O V P ops Qn t) (ho : ops[i]? = some ⟨some d, .binOp .geq X x y Y, T, pos, after, gd⟩ := by rfl) (hg : Gd ks ops gd := by first | exact trivial | exact ⟨_, _, rfl, rfl, rfl⟩) (hx : ev ks x = some (.int k p) := by rfl) (hy : ev ks y = some (.int k q) := by rfl) (hn : d < n := by decide) : AtT cx n ks O V P ops Qn (.q i t) := AtT.geq ho hg hx hy hn next
theorem AtT.keqB {a b : Bool} (hT : P.underlying X = some .bool) (next : AtT cx n ((d, .bool (a == b)) :: ks) O V P ops Qn t) (ho : ops[i]? = some ⟨some d, .binOp .eql X x y Y, T, pos, after, gd⟩ := by rfl) (hg : Gd ks ops gd := by first | exact trivial | exact ⟨_, _, rfl, rfl, rfl⟩) (hx : ev ks x = some (.bool a) := by rfl) (hy : ev ks y = some (.bool b) := by rfl) (hn : d < n := by decide) : AtT cx n ks O V P ops Qn (.q i t) := AtT.eqB ho hg hT hx hy hn next
theorem AtT.knegW  (next : AtT cx n ((d, .int k (k.wrap (-p))) :: ks) O V P ops Qn t) (ho : ops[i]? = some ⟨some d, .unOp .neg X x, T, pos, after, gd⟩ := by rfl) (hg : Gd ks ops gd := by first | exact trivial | exact ⟨_, _, rfl, rfl, rfl⟩) (hx : ev ks x = some (.int k p) := by rfl) (hn : d < n := by decide) : AtT cx n ks O V P ops Qn (.q i t) := AtT.negW ho hg hx hn next
theorem AtT.kneg  (next : AtT cx n ((d, .int .i64 (-p)) :: ks) O V P ops Qn t) (ho : ops[i]? = some ⟨some d, .unOp .neg X x, T, pos, after, gd⟩ := by rfl) (hg : Gd ks ops gd := by first | exact trivial | exact ⟨_, _, rfl, rfl, rfl⟩) (hx : ev ks x = some (.int .i64 p) := by rfl) (hf : Fit (-p) := by first | assumption | exact Fit.of (by omega) (by omega)) (hn : d < n := by decide) : AtT cx n ks O V P ops Qn (.q i t) := AtT.neg ho hg hx hn hf next
theorem AtT.knot {b : Bool} (next : AtT cx n ((d, .bool (!b)) :: ks) O V P ops Qn t) (ho : ops[i]? = some ⟨some d, .unOp .not X x, T, pos, after, gd⟩ := by rfl) (hg : Gd ks ops gd := by first | exact trivial | exact ⟨_, _, rfl, rfl, rfl⟩) (hx : ev ks x = some (.bool b) := by rfl) (hn : d < n := by decide) : AtT cx n ks O V P ops Qn (.q i t) := AtT.not ho hg hx hn next
theorem AtT.kconv {src : TypeId} {k' : IntKind} (hs : (P.underlying src).isSome = true) (hX : P.underlying X = some (.int k)) (next : AtT cx n ((d, .int k (k.wrap p)) :: ks) O V P ops Qn t) (ho : ops[i]? = some ⟨some d, .convert src X x, T, pos, after, gd⟩ := by rfl) (hg : Gd ks ops gd := by first | exact trivial | exact ⟨_, _, rfl, rfl, rfl⟩) (hx : ev ks x = some (.int k' p) := by rfl) (hn : d < n := by decide) : AtT cx n ks O V P ops Qn (.q i t) := AtT.conv ho hg hs hX hx hn next
theorem AtT.kmax2  (next : AtT cx n ((d, .int k (max p q)) :: ks) O V P ops Qn t) (ho : ops[i]? = some ⟨some d, .call ⟨.builtin .max, #[x, y], #[X, Y]⟩, T, pos, after, gd⟩ := by rfl) (hg : Gd ks ops gd := by first | exact trivial | exact ⟨_, _, rfl, rfl, rfl⟩) (hx : ev ks x = some (.int k p) := by rfl) (hy : ev ks y = some (.int k q) := by rfl) (hn : d < n := by decide) : AtT cx n ks O V P ops Qn (.q i t) := AtT.max2 ho hg hx hy hn next
theorem AtT.kmin2  (next : AtT cx n ((d, .int k (min p q)) :: ks) O V P ops Qn t) (ho : ops[i]? = some ⟨some d, .call ⟨.builtin .min, #[x, y], #[X, Y]⟩, T, pos, after, gd⟩ := by rfl) (hg : Gd ks ops gd := by first | exact trivial | exact ⟨_, _, rfl, rfl, rfl⟩) (hx : ev ks x = some (.int k p) := by rfl) (hy : ev ks y = some (.int k q) := by rfl) (hn : d < n := by decide) : AtT cx n ks O V P ops Qn (.q i t) := AtT.min2 ho hg hx hy hn next
theorem AtT.kload {X : TypeId} {p : Addr} {s : Nat} (hT : tkB P X = some (false, s)) (next : AtT cx n ((d, v) :: ks) O V P ops Qn t) (ho : ops[i]? = some ⟨some d, .load X x, T, pos, after, gd⟩ := by rfl) (hg : Gd ks ops gd := by first | exact trivial | exact ⟨_, _, rfl, rfl, rfl⟩) (hx : ev ks x = some (.pointer (some p)) := by rfl) (hc : vcell V p = some v := by first | exact vcell_of (by assumption) (by rfl) | exact vcell_of0 (by assumption) (by rfl) | exact vcell_of (Cells.le (by assumption) (by assumption)) (by rfl) | exact vcell_of0 (Cells.le (by assumption) (by assumption)) (by rfl)) (hn : d < n := by decide) : AtT cx n ks O V P ops Qn (.q i t) := AtT.load ho hg hx hT hc hn next
theorem AtT.kloadA {X : TypeId} {p : Addr} {us : List Value} {m : Nat} (hT : tkB P X = some (true, m)) (next : AtT cx n ((d, .agg us.toArray) :: ks) O V P ops Qn t) (ho : ops[i]? = some ⟨some d, .load X x, T, pos, after, gd⟩ := by rfl) (hg : Gd ks ops gd := by first | exact trivial | exact ⟨_, _, rfl, rfl, rfl⟩) (hx : ev ks x = some (.pointer (some p)) := by rfl) (hc : Cells V p us := by first | assumption | exact Cells.le (by assumption) (by assumption)) (hl : us.length = m := by rfl) (hn : d < n := by decide) : AtT cx n ks O V P ops Qn (.q i t) := AtT.loadA ho hg hx hT hc hl hn next
theorem AtT.kloadO {X : TypeId} {b off : Nat} {cs : List Value} {E : TypeId} {fr : Nat × Nat} {s : Nat} (hT : tkB P X = some (false, s)) (next : AtT cx n ((d, v) :: ks) O V P ops Qn t) (ho : ops[i]? = some ⟨some d, .load X x, T, pos, after, gd⟩ := by rfl) (hg : Gd ks ops gd := by first | exact trivial | exact ⟨_, _, rfl, rfl, rfl⟩) (hx : ev ks x = some (.pointer (some ⟨b, off, none⟩)) := by rfl) (hp : Pick (.blk b (LC cs E fr)) O R := by repeat (first | exact Pick.here | apply Pick.there)) (hc : cs[off]? = some v := by rfl) (hn : d < n := by decide) : AtT cx n ks O V P ops Qn (.q i t) := AtT.loadO ho hg hx hT hp hc hn next
theorem AtT.kloadOA {X : TypeId} {b : Nat} {cs : List Value} {E : TypeId} {fr : Nat × Nat} {m : Nat} (hT : tkB P X = some (true, m)) (next : AtT cx n ((d, .agg cs.toArray) :: ks) O V P ops Qn t) (ho : ops[i]? = some ⟨some d, .load X x, T, pos, after, gd⟩ := by rfl) (hg : Gd ks ops gd := by first | exact trivial | exact ⟨_, _, rfl, rfl, rfl⟩) (hx : ev ks x = some (.pointer (some ⟨b, 0, none⟩)) := by rfl) (hp : Pick (.blk b (LC cs E fr)) O R := by repeat (first | exact Pick.here | apply Pick.there)) (hl : cs.length = m := by rfl) (hn : d < n := by decide) : AtT cx n ks O V P ops Qn (.q i t) := AtT.loadOA ho hg hx hT hp hl hn next
theorem AtT.kloadOP {X : TypeId} {b off : Nat} {cs us : List Value} {E : TypeId} {fr : Nat × Nat} {m : Nat} (hT : tkB P X = some (true, m)) (next : AtT cx n ((d, .agg us.toArray) :: ks) O V P ops Qn t) (ho : ops[i]? = some ⟨some d, .load X x, T, pos, after, gd⟩ := by rfl) (hg : Gd ks ops gd := by first | exact trivial | exact ⟨_, _, rfl, rfl, rfl⟩) (hx : ev ks x = some (.pointer (some ⟨b, off, none⟩)) := by rfl) (hp : Pick (.blk b (LC cs E fr)) O R := by repeat (first | exact Pick.here | apply Pick.there)) (hu : (cs.drop off).take m = us := by rfl) (hl : us.length = m := by rfl) (hn : d < n := by decide) : AtT cx n ks O V P ops Qn (.q i t) := AtT.loadOP ho hg hx hT hp hu hl hn next
theorem AtT.kfield {S f : Nat} {p : Addr} {k : Nat} (hf : foB P S f = some k) (next : AtT cx n ((d, .pointer (some (p.add k))) :: ks) O V P ops Qn t) (ho : ops[i]? = some ⟨some d, .fieldAddr S x f, T, pos, after, gd⟩ := by rfl) (hg : Gd ks ops gd := by first | exact trivial | exact ⟨_, _, rfl, rfl, rfl⟩) (hx : ev ks x = some (.pointer (some p)) := by rfl) (hn : d < n := by decide) : AtT cx n ks O V P ops Qn (.q i t) := AtT.field ho hg hx hf hn next
theorem AtT.kfield2 {S f : Nat} {p : Addr} {j k : Nat} (hf : foB P S f = some k) (next : AtT cx n ((d, .pointer (some (p.add (j + k)))) :: ks) O V P ops Qn t) (ho : ops[i]? = some ⟨some d, .fieldAddr S x f, T, pos, after, gd⟩ := by rfl) (hg : Gd ks ops gd := by first | exact trivial | exact ⟨_, _, rfl, rfl, rfl⟩) (hx : ev ks x = some (.pointer (some (p.add j))) := by rfl) (hn : d < n := by decide) : AtT cx n ks O V P ops Qn (.q i t) := AtT.field2 ho hg hx hf hn next
theorem AtT.kfieldO {S f : Nat} {b off : Nat} {k : Nat} (hf : foB P S f = some k) (next : AtT cx n ((d, .pointer (some ⟨b, off + k, none⟩)) :: ks) O V P ops Qn t) (ho : ops[i]? = some ⟨some d, .fieldAddr S x f, T, pos, after, gd⟩ := by rfl) (hg : Gd ks ops gd := by first | exact trivial | exact ⟨_, _, rfl, rfl, rfl⟩) (hx : ev ks x = some (.pointer (some ⟨b, off, none⟩)) := by rfl) (hn : d < n := by decide) : AtT cx n ks O V P ops Qn (.q i t) := AtT.fieldO ho hg hx hf hn next
theorem AtT.knil {p : Addr} (next : AtT cx n ((d, .pointer (some p)) :: ks) O V P ops Qn t) (ho : ops[i]? = some ⟨some d, .nilCheck x, T, pos, after, gd⟩ := by rfl) (hg : Gd ks ops gd := by first | exact trivial | exact ⟨_, _, rfl, rfl, rfl⟩) (hx : ev ks x = some (.pointer (some p)) := by rfl) (hn : d < n := by decide) : AtT cx n ks O V P ops Qn (.q i t) := AtT.nil ho hg hx hn next
theorem AtT.kidx {α : Type} {X E : TypeId} {enc : α → List Value} {s : Nat} {l : List α} {k : IntKind} {j : Int} {ag : Bool} (hX : P.underlying X = some (.slice E)) (hE : tkB P E = some (ag, s)) (next : ∀ (p : Addr) (e : α), l[j.toNat]? = some e → Cells V p (enc e) → AtT cx n ((d, .pointer (some p)) :: ks) O V P ops Qn t) (ho : ops[i]? = some ⟨some d, .indexAddr X x y, T, pos, after, gd⟩ := by rfl) (hg : Gd ks ops gd := by first | exact trivial | exact ⟨_, _, rfl, rfl, rfl⟩) (hx : ev ks x = some v := by rfl) (hy : ev ks y = some (.int k j) := by rfl) (hl : Sl V enc s v l := by first | assumption | exact Sl.le (by assumption) (by assumption)) (h0 : 0 ≤ j := by omega) (h1 : j < l.length := by omega) (hn : d < n := by decide) : AtT cx n ks O V P ops Qn (.q i t) := AtT.idx ho hg hX hE hx hl hy h0 h1 hn next
theorem AtT.kidxA {X E : TypeId} {len s : Nat} {k : IntKind} {j : Int} {b off : Nat} {ag : Bool} (hX : P.underlying X = some (.array len E)) (hE : tkB P E = some (ag, s)) (next : AtT cx n ((d, .pointer (some ⟨b, off + j.toNat * s, none⟩)) :: ks) O V P ops Qn t) (ho : ops[i]? = some ⟨some d, .indexAddr X x y, T, pos, after, gd⟩ := by rfl) (hg : Gd ks ops gd := by first | exact trivial | exact ⟨_, _, rfl, rfl, rfl⟩) (hx : ev ks x = some (.pointer (some ⟨b, off, none⟩)) := by rfl) (hy : ev ks y = some (.int k j) := by rfl) (h0 : 0 ≤ j := by omega) (h1 : j < len := by omega) (hn : d < n := by decide) : AtT cx n ks O V P ops Qn (.q i t) := AtT.idxA ho hg hX hE hx hy h0 h1 hn next
theorem AtT.kidxO {X E : TypeId} {len cap s : Nat} {k : IntKind} {j : Int} {b off : Nat} {ag : Bool} (hX : P.underlying X = some (.slice E)) (hE : tkB P E = some (ag, s)) (next : AtT cx n ((d, .pointer (some ⟨b, off + j.toNat * s, none⟩)) :: ks) O V P ops Qn t) (ho : ops[i]? = some ⟨some d, .indexAddr X x y, T, pos, after, gd⟩ := by rfl) (hg : Gd ks ops gd := by first | exact trivial | exact ⟨_, _, rfl, rfl, rfl⟩) (hx : ev ks x = some (.slice (some ⟨b, off, none⟩) len cap) := by rfl) (hy : ev ks y = some (.int k j) := by rfl) (h0 : 0 ≤ j := by omega) (h1 : j < len := by omega) (hn : d < n := by decide) : AtT cx n ks O V P ops Qn (.q i t) := AtT.idxO ho hg hX hE hx hy h0 h1 hn next
theorem AtT.klenS {α : Type} {X E : TypeId} {enc : α → List Value} {s : Nat} {l : List α} (hX : P.underlying X = some (.slice E)) (next : AtT cx n ((d, .int .i64 l.length) :: ks) O V P ops Qn t) (ho : ops[i]? = some ⟨some d, .call ⟨.builtin .len, #[x], #[X]⟩, T, pos, after, gd⟩ := by rfl) (hg : Gd ks ops gd := by first | exact trivial | exact ⟨_, _, rfl, rfl, rfl⟩) (hx : ev ks x = some v := by rfl) (hl : Sl V enc s v l := by first | assumption | exact Sl.le (by assumption) (by assumption)) (hn : d < n := by decide) : AtT cx n ks O V P ops Qn (.q i t) := AtT.lenS ho hg hX hx hl hn next
theorem AtT.klenR {X E : TypeId} {a : Option Addr} {m cap : Nat} (hX : P.underlying X = some (.slice E)) (next : AtT cx n ((d, .int .i64 m) :: ks) O V P ops Qn t) (ho : ops[i]? = some ⟨some d, .call ⟨.builtin .len, #[x], #[X]⟩, T, pos, after, gd⟩ := by rfl) (hg : Gd ks ops gd := by first | exact trivial | exact ⟨_, _, rfl, rfl, rfl⟩) (hx : ev ks x = some (.slice a m cap) := by rfl) (hn : d < n := by decide) : AtT cx n ks O V P ops Qn (.q i t) := AtT.lenR ho hg hX hx hn next
theorem AtT.kalloc {E : TypeId} {z : Value} {cs : List Value} (hz : zeroB P E = some z) (next : ∀ b, AtT cx n ((d, .pointer (some ⟨b, 0, none⟩)) :: ks) (.blk b (LC cs E) :: O) V P ops Qn t) (ho : ops[i]? = some ⟨some d, .alloc E, T, pos, after, gd⟩ := by rfl) (hg : Gd ks ops gd := by first | exact trivial | exact ⟨_, _, rfl, rfl, rfl⟩) (hc : z.cells = cs.toArray := by rfl) (hn : d < n := by decide) : AtT cx n ks O V P ops Qn (.n wr i t) := AtT.alloc ho hg hz hc hn next
theorem AtT.kbox {E : TypeId} {cs : List Value} (next : ∀ b, AtT cx n ((d, .pointer (some ⟨b, 0, none⟩)) :: ks) (.blk b (LC cs E) :: O) V P ops Qn t) (ho : ops[i]? = some ⟨some d, .box E x, T, pos, after, gd⟩ := by rfl) (hg : Gd ks ops gd := by first | exact trivial | exact ⟨_, _, rfl, rfl, rfl⟩) (hx : ev ks x = some v := by rfl) (hc : v.cells = cs.toArray := by rfl) (hn : d < n := by decide) : AtT cx n ks O V P ops Qn (.n wr i t) := AtT.box ho hg hx hc hn next
theorem AtT.kbuild {X : TypeId} {ps : List (Nat × Operand)} {vs : List (Nat × Value)} (hr : ∀ w, (Instr.build X vs.toArray).run P w = .ok v w) (next : AtT cx n ((d, v) :: ks) O V P ops Qn t) (ho : ops[i]? = some ⟨some d, .build X ps.toArray, T, pos, after, gd⟩ := by rfl) (hg : Gd ks ops gd := by first | exact trivial | exact ⟨_, _, rfl, rfl, rfl⟩) (hp : evp ks ps = some vs := by rfl) (hn : d < n := by decide) : AtT cx n ks O V P ops Qn (.q i t) := AtT.build ho hg hp hr hn next
theorem AtT.kbslice {X E : TypeId} {m : Nat} {cs : List Value} {ps : List (Nat × Operand)} {vs : List (Nat × Value)} (hr : ∀ w, (Instr.buildSlice X m vs.toArray).run P w = .ok (.slice (some ⟨w.heap.size, 0, none⟩) m m) (w.alloc (LC cs E))) (next : ∀ b, AtT cx n ((d, .slice (some ⟨b, 0, none⟩) m m) :: ks) (.blk b (LC cs E) :: O) V P ops Qn t) (ho : ops[i]? = some ⟨some d, .buildSlice X m ps.toArray, T, pos, after, gd⟩ := by rfl) (hg : Gd ks ops gd := by first | exact trivial | exact ⟨_, _, rfl, rfl, rfl⟩) (hp : evp ks ps = some vs := by rfl) (hn : d < n := by decide) : AtT cx n ks O V P ops Qn (.n wr i t) := AtT.bslice ho hg hp hr hn next
theorem AtT.kfn {f : Fn} {fs cs : List Operand} {us vs : List Value} (next : AtT cx n ((d, .func f us.toArray vs.toArray) :: ks) O V P ops Qn t) (ho : ops[i]? = some ⟨some d, .makeFunc f fs.toArray cs.toArray, T, pos, after, gd⟩ := by rfl) (hg : Gd ks ops gd := by first | exact trivial | exact ⟨_, _, rfl, rfl, rfl⟩) (hf : evs ks fs = some us := by rfl) (hc : evs ks cs = some vs := by rfl) (hn : d < n := by decide) : AtT cx n ks O V P ops Qn (.q i t) := AtT.fn ho hg hf hc hn next
theorem AtT.kstore1 {X E : TypeId} {b off : Nat} {cs cs' : List Value} (hT : tkB P X = some (false, 1)) (next : AtT cx n ks O' V P ops Qn t) (ho : ops[i]? = some ⟨none, .store X x y, T, pos, after, gd⟩ := by rfl) (hg : Gd ks ops gd := by first | exact trivial | exact ⟨_, _, rfl, rfl, rfl⟩) (hx : ev ks x = some (.pointer (some ⟨b, off, none⟩)) := by rfl) (hy : ev ks y = some v := by rfl) (hp : Upd (.blk b (LC cs E)) (.blk b (LC cs' E)) O O' := by repeat (first | exact Upd.here | apply Upd.there)) (hs : SetAt cs off v cs' := by repeat (first | exact SetAt.here | apply SetAt.there)) (hv : v.cells = [v].toArray := by rfl) (h1 : v.oneCell' = true := by rfl) : AtT cx n ks O V P ops Qn (.n true i t) := AtT.store1 ho hg hx hy hT hv h1 hp hs next
theorem AtT.kstoreA {X E : TypeId} {b : Nat} {cs us : List Value} {m : Nat} (hT : tkB P X = some (true, m)) (next : AtT cx n ks O' V P ops Qn t) (ho : ops[i]? = some ⟨none, .store X x y, T, pos, after, gd⟩ := by rfl) (hg : Gd ks ops gd := by first | exact trivial | exact ⟨_, _, rfl, rfl, rfl⟩) (hx : ev ks x = some (.pointer (some ⟨b, 0, none⟩)) := by rfl) (hy : ev ks y = some (.agg us.toArray) := by rfl) (hp : Upd (.blk b (LC cs E)) (.blk b (LC us E)) O O' := by repeat (first | exact Upd.here | apply Upd.there)) (hm' : us.length = m := by rfl) (hl : cs.length = m := by rfl) (h1 : us.all Value.oneCell' = true := by rfl) : AtT cx n ks O V P ops Qn (.n true i t) := AtT.storeA ho hg hx hy hT hm' hl h1 hp next
theorem AtT.kcall {f : FuncId} {args : List Operand} {ts : Array TypeId} {vs : List Value} {R : Value → View → Prop} (ho : ops[i]? = some ⟨some d, .call ⟨.value (.func f), args.toArray, ts⟩, T, pos, after, gd⟩) (ha : evs ks args = some vs) (hf : CallOk P f) (hc : Fnc P f vs V R) (next : ∀ v V', Le V V' → R v V' → AtT cx n ((d, v) :: ks) O V' P ops Qn t) (hg : Gd ks ops gd := by first | exact trivial | exact ⟨_, _, rfl, rfl, rfl⟩) (hn : d < n := by decide) : AtT cx n ks O V P ops Qn (.n wr i t) := AtT.call ho hg ha hf hn hc next
theorem AtT.kcallP {f : FuncId} {args : List Operand} {ts : Array TypeId} {vs : List Value} {R : Value → Prop} (ho : ops[i]? = some ⟨some d, .call ⟨.value (.func f), args.toArray, ts⟩, T, pos, after, gd⟩) (ha : evs ks args = some vs) (hf : CallOk P f) (hc : Fnc P f vs V (fun v _ => R v)) (next : ∀ v, R v → AtT cx n ((d, v) :: ks) O V P ops Qn t) (hg : Gd ks ops gd := by first | exact trivial | exact ⟨_, _, rfl, rfl, rfl⟩) (hn : d < n := by decide) : AtT cx n ks O V P ops Qn (.n wr i t) := AtT.callP ho hg ha hf hn hc next
theorem AtT.kcallV {c : Operand} {f : FuncId} {args : List Operand} {fs cs : List Value} {ts : Array TypeId} {vs : List Value} {R : Value → Prop} (ho : ops[i]? = some ⟨some d, .call ⟨.value c, args.toArray, ts⟩, T, pos, after, gd⟩) (hcv : ev ks c = some (.func (.func f) fs.toArray cs.toArray)) (ha : evs ks args = some vs) (hf : CallOk P f) (hc : Fnc P f (fs ++ vs ++ cs) V (fun v _ => R v)) (next : ∀ v, R v → AtT cx n ((d, v) :: ks) O V P ops Qn t) (hg : Gd ks ops gd := by first | exact trivial | exact ⟨_, _, rfl, rfl, rfl⟩) (hn : d < n := by decide) : AtT cx n ks O V P ops Qn (.n wr i t) := AtT.callV ho hg hcv ha hf hn hc next
theorem AtT.kcallO {f : FuncId} {args : List Operand} {ts : Array TypeId} {vs : List Value} {R : Value → Prop} (ho : ops[i]? = some ⟨some d, .call ⟨.value (.func f), args.toArray, ts⟩, T, pos, after, gd⟩) (ha : evs ks args = some vs) (hf : CallOk P f) (hc : Fnc P f vs (ovl V O) (fun v _ => R v)) (next : ∀ v, R v → AtT cx n ((d, v) :: ks) O V P ops Qn t) (hg : Gd ks ops gd := by first | exact trivial | exact ⟨_, _, rfl, rfl, rfl⟩) (hn : d < n := by decide) : AtT cx n ks O V P ops Qn (.n wr i t) := AtT.callO ho hg ha hf hn hc next
theorem AtT.kcallVO {c : Operand} {f : FuncId} {args : List Operand} {fs cs : List Value} {ts : Array TypeId} {vs : List Value} {R : Value → Prop} (ho : ops[i]? = some ⟨some d, .call ⟨.value c, args.toArray, ts⟩, T, pos, after, gd⟩) (hcv : ev ks c = some (.func (.func f) fs.toArray cs.toArray)) (ha : evs ks args = some vs) (hf : CallOk P f) (hc : Fnc P f (fs ++ vs ++ cs) (ovl V O) (fun v _ => R v)) (next : ∀ v, R v → AtT cx n ((d, v) :: ks) O V P ops Qn t) (hg : Gd ks ops gd := by first | exact trivial | exact ⟨_, _, rfl, rfl, rfl⟩) (hn : d < n := by decide) : AtT cx n ks O V P ops Qn (.n wr i t) := AtT.callVO ho hg hcv ha hf hn hc next
theorem AtT.kextract {us : List Value} {j : Nat} (next : AtT cx n ((d, v) :: ks) O V P ops Qn t) (ho : ops[i]? = some ⟨some d, .extract x j, T, pos, after, gd⟩ := by rfl) (hg : Gd ks ops gd := by first | exact trivial | exact ⟨_, _, rfl, rfl, rfl⟩) (hx : ev ks x = some (.tuple us.toArray) := by rfl) (hu : us[j]? = some v := by rfl) (hn : d < n := by decide) : AtT cx n ks O V P ops Qn (.q i t) := AtT.extract ho hg hx hu hn next
theorem AtT.kbsliceG {X E : TypeId} {m : Nat} {cs : List Value} {ps : List (Nat × Operand)} {vs : List (Nat × Value)} (hr : ∀ w, (Instr.buildSlice X m vs.toArray).run P w = .ok (.slice (some ⟨w.heap.size, 0, none⟩) m m) (w.alloc (LC cs E))) (next : ∀ q V', Le V V' → Cells V' q cs → AtT cx n ((d, .slice (some q) m m) :: ks) O V' P ops Qn t) (ho : ops[i]? = some ⟨some d, .buildSlice X m ps.toArray, T, pos, after, gd⟩ := by rfl) (hg : Gd ks ops gd := by first | exact trivial | exact ⟨_, _, rfl, rfl, rfl⟩) (hp : evp ks ps = some vs := by rfl) (hn : d < n := by decide) : AtT cx n ks O V P ops Qn (.n wr i t) := AtT.bsliceG ho hg hp hr hn next
theorem AtT.kappend {X E : TypeId} {z : Value} {s by_ m k c : Nat} {xs news : List Value} {q : Addr} (hX : P.underlying X = some (.slice E)) (hE : rowB P E = some (z, s, by_)) (next : ∀ a cap, AtT cx n ((d, .slice a (m + k) cap) :: ks) (.row (.slice a (m + k) cap) E s (m + k) (xs ++ news) :: R) V P ops Qn t) (ho : ops[i]? = some ⟨some d, .call ⟨.builtin .append, #[x, y], #[X, X]⟩, T, pos, after, gd⟩ := by rfl) (hg : Gd ks ops gd := by first | exact trivial | exact ⟨_, _, rfl, rfl, rfl⟩) (hx : ev ks x = some v := by rfl) (hy : ev ks y = some (.slice (some q) k c) := by rfl) (hp : Pick (.row v E s m xs) O R := by repeat (first | exact Pick.here | apply Pick.there)) (hc : Cells V q news := by first | assumption | exact Cells.le (by assumption) (by assumption)) (hzs : z.cells.size = s := by rfl) (hl : news.length = k * s := by rfl) (h1 : news.all Value.oneCell' = true := by rfl) (hb : m + k ≤ maxLen := by first | omega | (unfold maxLen; omega)) (hby : (m + k) * by_ ≤ 140737488355328 := by omega) (hs : 0 < s := by decide) (hn : d < n := by decide) : AtT cx n ks O V P ops Qn (.n true i t) := AtT.append ho hg hX hE hzs hs hx hy hp hc hl h1 hb hby hn next
theorem AtT.kclip {α : Type} {enc : α → List Value} {l : List α} {X E : TypeId} {s : Nat} {ag : Bool} {h : Int} {h' m' : Operand} {k k2 : IntKind} (hX : P.underlying X = some (.slice E)) (hE : tkB P E = some (ag, s)) (next : ∀ a, Sl V enc s (.slice a (l.take h.toNat).length (l.take h.toNat).length) (l.take h.toNat) → AtT cx n ((d, .slice a (l.take h.toNat).length (l.take h.toNat).length) :: ks) O V P ops Qn t) (ho : ops[i]? = some ⟨some d, .slice X x none (some h') (some m'), T, pos, after, gd⟩ := by rfl) (hg : Gd ks ops gd := by first | exact trivial | exact ⟨_, _, rfl, rfl, rfl⟩) (hx : ev ks x = some v := by rfl) (hh : ev ks h' = some (.int k h) := by rfl) (hm' : ev ks m' = some (.int k2 h) := by rfl) (hv : Sl V enc s v l := by first | assumption | exact Sl.le (by assumption) (by assumption)) (h0 : 0 ≤ h := by omega) (h1 : h ≤ l.length := by omega) (hn : d < n := by decide) : AtT cx n ks O V P ops Qn (.q i t) := AtT.clip ho hg hX hE hx hv hh hm' h0 h1 hn next
theorem AtT.kclipAll {α : Type} {enc : α → List Value} {l : List α} {X E : TypeId} {s : Nat} {ag : Bool} {h' m' : Operand} {k k2 : IntKind} (hX : P.underlying X = some (.slice E)) (hE : tkB P E = some (ag, s)) (next : ∀ a, Sl V enc s (.slice a l.length l.length) l → AtT cx n ((d, .slice a l.length l.length) :: ks) O V P ops Qn t) (ho : ops[i]? = some ⟨some d, .slice X x none (some h') (some m'), T, pos, after, gd⟩ := by rfl) (hg : Gd ks ops gd := by first | exact trivial | exact ⟨_, _, rfl, rfl, rfl⟩) (hx : ev ks x = some v := by rfl) (hh : ev ks h' = some (.int k (l.length : Int)) := by rfl) (hm' : ev ks m' = some (.int k2 (l.length : Int)) := by rfl) (hv : Sl V enc s v l := by first | assumption | exact Sl.le (by assumption) (by assumption)) (hn : d < n := by decide) : AtT cx n ks O V P ops Qn (.q i t) := AtT.clipAll ho hg hX hE hx hv hh hm' hn next
theorem AtT.ktail {α : Type} {enc : α → List Value} {l : List α} {X E : TypeId} {s : Nat} {ag : Bool} {lo : Int} {lo' : Operand} {k : IntKind} (hX : P.underlying X = some (.slice E)) (hE : tkB P E = some (ag, s)) (next : ∀ a cap, Sl V enc s (.slice a (l.drop lo.toNat).length cap) (l.drop lo.toNat) → AtT cx n ((d, .slice a (l.drop lo.toNat).length cap) :: ks) O V P ops Qn t) (ho : ops[i]? = some ⟨some d, .slice X x (some lo') none none, T, pos, after, gd⟩ := by rfl) (hg : Gd ks ops gd := by first | exact trivial | exact ⟨_, _, rfl, rfl, rfl⟩) (hx : ev ks x = some v := by rfl) (hh : ev ks lo' = some (.int k lo) := by rfl) (hv : Sl V enc s v l := by first | assumption | exact Sl.le (by assumption) (by assumption)) (h0 : 0 ≤ lo := by omega) (h1 : lo ≤ l.length := by omega) (hn : d < n := by decide) : AtT cx n ks O V P ops Qn (.q i t) := AtT.tail ho hg hX hE hx hv hh h0 h1 hn next
theorem AtT.khead {α : Type} {enc : α → List Value} {l : List α} {X E : TypeId} {s : Nat} {ag : Bool} {h : Int} {h' : Operand} {k : IntKind} (hX : P.underlying X = some (.slice E)) (hE : tkB P E = some (ag, s)) (next : ∀ a cap, Sl V enc s (.slice a (l.take h.toNat).length cap) (l.take h.toNat) → AtT cx n ((d, .slice a (l.take h.toNat).length cap) :: ks) O V P ops Qn t) (ho : ops[i]? = some ⟨some d, .slice X x none (some h') none, T, pos, after, gd⟩ := by rfl) (hg : Gd ks ops gd := by first | exact trivial | exact ⟨_, _, rfl, rfl, rfl⟩) (hx : ev ks x = some v := by rfl) (hh : ev ks h' = some (.int k h) := by rfl) (hv : Sl V enc s v l := by first | assumption | exact Sl.le (by assumption) (by assumption)) (h0 : 0 ≤ h := by omega) (h1 : h ≤ l.length := by omega) (hn : d < n := by decide) : AtT cx n ks O V P ops Qn (.q i t) := AtT.head ho hg hX hE hx hv hh h0 h1 hn next
theorem AtT.keqS {X Y : TypeId} {xs ys : List Value} {b : Bool} (h : EqS P X xs ys b) (next : AtT cx n ((d, .bool b) :: ks) O V P ops Qn t) (ho : ops[i]? = some ⟨some d, .binOp .eql X x y Y, T, pos, after, gd⟩ := by rfl) (hg : Gd ks ops gd := by first | exact trivial | exact ⟨_, _, rfl, rfl, rfl⟩) (hx : ev ks x = some (.agg xs.toArray) := by rfl) (hy : ev ks y = some (.agg ys.toArray) := by rfl) (hn : d < n := by decide) : AtT cx n ks O V P ops Qn (.q i t) := AtT.eqS ho hg hx hy h hn next
theorem AtT.kneS {X Y : TypeId} {xs ys : List Value} {b : Bool} (h : EqS P X xs ys b) (next : AtT cx n ((d, .bool (!b)) :: ks) O V P ops Qn t) (ho : ops[i]? = some ⟨some d, .binOp .neq X x y Y, T, pos, after, gd⟩ := by rfl) (hg : Gd ks ops gd := by first | exact trivial | exact ⟨_, _, rfl, rfl, rfl⟩) (hx : ev ks x = some (.agg xs.toArray) := by rfl) (hy : ev ks y = some (.agg ys.toArray) := by rfl) (hn : d < n := by decide) : AtT cx n ks O V P ops Qn (.q i t) := AtT.neS ho hg hx hy h hn next
theorem AtT.kfld {X : TypeId} {j : Nat} {us : List Value} {v : Value} (hr : ∀ w, (Instr.field X (.agg us.toArray) j).run P w = .ok v w) (next : AtT cx n ((d, v) :: ks) O V P ops Qn t) (ho : ops[i]? = some ⟨some d, .field X x j, T, pos, after, gd⟩ := by rfl) (hg : Gd ks ops gd := by first | exact trivial | exact ⟨_, _, rfl, rfl, rfl⟩) (hx : ev ks x = some (.agg us.toArray) := by rfl) (hn : d < n := by decide) : AtT cx n ks O V P ops Qn (.q i t) := AtT.fld ho hg hx hr hn next
theorem AtT.kcallL {f : FuncId} {args : List Operand} {ts : Array TypeId} {vs : List Value} {R : Value → Prop} (ho : ops[i]? = some ⟨some d, .call ⟨.value (.func f), args.toArray, ts⟩, T, pos, after, gd⟩) (ha : evs ks args = some vs) (hf : CallOk P f) (hc : ∀ V', Le V V' → (∀ b o, Own.blk b o ∈ O → V' b = some o) → Fnc P f vs V' (fun v _ => R v)) (next : ∀ v, R v → AtT cx n ((d, v) :: ks) O V P ops Qn t) (hg : Gd ks ops gd := by first | exact trivial | exact ⟨_, _, rfl, rfl, rfl⟩) (hn : d < n := by decide) : AtT cx n ks O V P ops Qn (.n wr i t) := AtT.callL ho hg ha hf hn hc next
theorem AtT.kcallVL {c : Operand} {f : FuncId} {args : List Operand} {fs cs : List Value} {ts : Array TypeId} {vs : List Value} {R : Value → Prop} (ho : ops[i]? = some ⟨some d, .call ⟨.value c, args.toArray, ts⟩, T, pos, after, gd⟩) (hcv : ev ks c = some (.func (.func f) fs.toArray cs.toArray)) (ha : evs ks args = some vs) (hf : CallOk P f) (hc : ∀ V', Le V V' → (∀ b o, Own.blk b o ∈ O → V' b = some o) → Fnc P f (fs ++ vs ++ cs) V' (fun v _ => R v)) (next : ∀ v, R v → AtT cx n ((d, v) :: ks) O V P ops Qn t) (hg : Gd ks ops gd := by first | exact trivial | exact ⟨_, _, rfl, rfl, rfl⟩) (hn : d < n := by decide) : AtT cx n ks O V P ops Qn (.n wr i t) := AtT.callVL ho hg hcv ha hf hn hc next
theorem AtT.kpass {o : Oper} {g : Nat} {want : Bool} {od : Oper} {gd : Nat} (next : AtT cx n ((d, undef) :: ks) O V P ops Qn t) (ho : ops[i]? = some o := by rfl) (hg : o.guard = some (g, want) := by rfl) (hog : ops[g]? = some od := by rfl) (hgd : od.dst = some gd := by rfl) (hgv : look ks gd = some (.bool (!want)) := by rfl) (hd : o.dst = some d := by rfl) (hn : d < n := by decide) : AtT cx n ks O V P ops Qn (.q i t) := AtT.pass ho hg hog hgd hgv hd hn next
theorem AtT.kpassN {o : Oper} {g : Nat} {want : Bool} {od : Oper} {gd : Nat} {wr : Bool} (next : AtT cx n ((d, undef) :: ks) O V P ops Qn t) (ho : ops[i]? = some o := by rfl) (hg : o.guard = some (g, want) := by rfl) (hog : ops[g]? = some od := by rfl) (hgd : od.dst = some gd := by rfl) (hgv : look ks gd = some (.bool (!want)) := by rfl) (hd : o.dst = some d := by rfl) (hn : d < n := by decide) : AtT cx n ks O V P ops Qn (.n wr i t) := AtT.passN ho hg hog hgd hgv hd hn next
theorem AtT.kpassU {o : Oper} {g : Nat} {want : Bool} {od : Oper} {gd : Nat} (next : AtT cx n ((d, undef) :: ks) O V P ops Qn t) (ho : ops[i]? = some o := by rfl) (hg : o.guard = some (g, want) := by rfl) (hog : ops[g]? = some od := by rfl) (hgd : od.dst = some gd := by rfl) (hgv : look ks gd = some undef := by rfl) (hd : o.dst = some d := by rfl) (hn : d < n := by decide) : AtT cx n ks O V P ops Qn (.q i t) := AtT.passU ho hg hog hgd hgv hd hn next
theorem AtT.kpassNU {o : Oper} {g : Nat} {want : Bool} {od : Oper} {gd : Nat} {wr : Bool} (next : AtT cx n ((d, undef) :: ks) O V P ops Qn t) (ho : ops[i]? = some o := by rfl) (hg : o.guard = some (g, want) := by rfl) (hog : ops[g]? = some od := by rfl) (hgd : od.dst = some gd := by rfl) (hgv : look ks gd = some undef := by rfl) (hd : o.dst = some d := by rfl) (hn : d < n := by decide) : AtT cx n ks O V P ops Qn (.n wr i t) := AtT.passNU ho hg hog hgd hgv hd hn next
theorem AtT.kL (d : Nat) (h : AtT cx n ks O V P ops Qn t) (hd : look ks d = some (.bool true) ∨ look ks d = some (.bool false) ∨ look ks d = some undef := by first | exact .inl rfl | exact .inr (.inl rfl) | exact .inr (.inr rfl)) : AtT cx n ks O V P ops Qn t := h
theorem AtC.kL (d : Nat) (h : AtC cx n ks O V O1 V1 P ops Qn t) (hd : look ks d = some (.bool true) ∨ look ks d = some (.bool false) ∨ look ks d = some undef := by first | exact .inl rfl | exact .inr (.inl rfl) | exact .inr (.inr rfl)) : AtC cx n ks O V O1 V1 P ops Qn t := h
theorem AtC.kq (h : AtT cx n ks O1 V1 P ops (fun a' _ => Kn cx n ((d, v) :: ks) a') (.q i .done)) (next : AtC cx n ((d, v) :: ks) O V O1 V1 P ops Qn t) (hp : Pt O1 O := by repeat (first | exact Pt.nil | refine Pt.cons (by repeat (first | exact Pick.here | apply Pick.there)) ?_)) (hl : Le V1 V := by first | exact Le.refl _ | assumption | exact Le.trans (by assumption) (by assumption)) (h0 : Le cx.V0 V1 := by assumption) : AtC cx n ks O V O1 V1 P ops Qn (.q i t) := AtC.q h (AtC.sub1 hp hl h0) next
theorem AtC.kgo {V' : View} (next : AtC cx n ks O' V' O1 V1 P ops Qn t) (hp : Pt O1 O' := by repeat (first | exact Pt.nil | refine Pt.cons (by repeat (first | exact Pick.here | apply Pick.there)) ?_)) (hl : Le V1 V' := by first | exact Le.refl _ | assumption | exact Le.trans (by assumption) (by assumption)) : AtT cx n ks O' V' P ops (fun a' w' => Le cx.V0 V1 → Mem cx O1 V1 w' ∧ wpT P ops Qn t (Mem cx O1 V1) a' w') .done := AtC.go hp hl next
theorem AtC.kidx {α : Type} {X E : TypeId} {enc : α → List Value} {s : Nat} {l : List α} {k : IntKind} {j : Int} {ag : Bool} (hX : P.underlying X = some (.slice E)) (hE : tkB P E = some (ag, s))
    (next : ∀ (p : Addr) (e : α), l[j.toNat]? = some e → Cells V1 p (enc e) → AtC cx n ((d, .pointer (some p)) :: ks) O V O1 V1 P ops Qn t) (ho : ops[i]? = some ⟨some d, .indexAddr X x y, T, pos, after, gd⟩ := by rfl) (hg : Gd ks ops gd := by first | exact trivial | exact ⟨_, _, rfl, rfl, rfl⟩)
    (hx : ev ks x = some v := by rfl) (hl : Sl V1 enc s v l := by first | assumption | exact Sl.le (by assumption) (by assumption)) (hy : ev ks y = some (.int k j) := by rfl) (h0 : 0 ≤ j := by omega) (h1 : j < l.length := by omega) (hn : d < n := by decide) (hp : Pt O1 O := by repeat (first | exact Pt.nil | refine Pt.cons (by repeat (first | exact Pick.here | apply Pick.there)) ?_)) (hv : Le V1 V := by first | exact Le.refl _ | assumption | exact Le.trans (by assumption) (by assumption)) (hv0 : Le cx.V0 V1 := by assumption) : AtC cx n ks O V O1 V1 P ops Qn (.q i t) := AtC.idx ho hg hX hE hx hl hy h0 h1 hn (AtC.sub1 hp hv hv0) next
theorem At.ktext {ops : Array Oper} (t : Tr) (h : AtT cx n ks O V P ops (Q .normal) t) (hc : t.okText ops = true := by kernel_rfl) : At cx n ks O V ((Code.region id ops false).wpIn (FW ro) 0 P Q) := At.text t hc h
theorem Pt.auto {l O : List Own} (h : Pt l O := by repeat (first | exact Pt.nil | refine Pt.cons (by repeat (first | exact Pick.here | apply Pick.there)) ?_)) : Pt l O := h
theorem Pick.auto {x : Own} {O R : List Own} (h : Pick x O R := by repeat (first | exact Pick.here | apply Pick.there)) : Pick x O R := h
theorem Res.ka {p : Tmp} {b : Nat} {cs : List Value} {E : TypeId} {fr : Nat × Nat} {m : Nat} (hT : tkB P T = some (true, m)) (h : look ks p = some (.pointer (some ⟨b, 0, none⟩)) := by rfl) (hp : Pick (.blk b (LC cs E fr)) O R := by repeat (first | exact Pick.here | apply Pick.there)) (hl : cs.length = m := by rfl) : Res P ks O V (.cell p T) (.agg cs.toArray) := .agg h hT hp hl
end
end Go.Lw
namespace Go.Proofs.Ytnionkopmncopaa
open Go.Lw
theorem tk1 : tkB Try.prog 1 = some (false, 1) := by kernel_rfl
theorem z1 : zeroB Try.prog 1 = some Go.Value.nilFunc := by kernel_rfl
theorem rw1 : rowB Try.prog 1 = some (Go.Value.nilFunc, 1, 8) := by kernel_rfl
theorem un1 : (Try.prog.underlying 1).isSome = true := by kernel_rfl
theorem tk2 : tkB Try.prog 2 = some (false, 1) := by kernel_rfl
theorem z2 : zeroB Try.prog 2 = some (Go.Value.int Go.IntKind.i64 0) := by kernel_rfl
theorem rw2 : rowB Try.prog 2 = some ((Go.Value.int Go.IntKind.i64 0), 1, 8) := by kernel_rfl
theorem un2 : (Try.prog.underlying 2).isSome = true := by kernel_rfl
theorem tk3 : tkB Try.prog 3 = some (false, 1) := by kernel_rfl
theorem z3 : zeroB Try.prog 3 = some (Go.Value.int Go.IntKind.i64 0) := by kernel_rfl
theorem rw3 : rowB Try.prog 3 = some ((Go.Value.int Go.IntKind.i64 0), 1, 8) := by kernel_rfl
theorem un3 : (Try.prog.underlying 3).isSome = true := by kernel_rfl
theorem tk4 : tkB Try.prog 4 = some (false, 1) := by kernel_rfl
theorem z4 : zeroB Try.prog 4 = some (Go.Value.bool Bool.false) := by kernel_rfl
theorem rw4 : rowB Try.prog 4 = some ((Go.Value.bool Bool.false), 1, 1) := by kernel_rfl
theorem un4 : (Try.prog.underlying 4).isSome = true := by kernel_rfl
theorem tk5 : tkB Try.prog 5 = some (false, 1) := by kernel_rfl
theorem z5 : zeroB Try.prog 5 = some (Go.Value.int Go.IntKind.u8 0) := by kernel_rfl
theorem rw5 : rowB Try.prog 5 = some ((Go.Value.int Go.IntKind.u8 0), 1, 1) := by kernel_rfl
theorem un5 : (Try.prog.underlying 5).isSome = true := by kernel_rfl
theorem tk6 : tkB Try.prog 6 = some (false, 1) := by kernel_rfl
theorem z6 : zeroB Try.prog 6 = some (Go.Value.int Go.IntKind.u8 0) := by kernel_rfl
theorem rw6 : rowB Try.prog 6 = some ((Go.Value.int Go.IntKind.u8 0), 1, 1) := by kernel_rfl
theorem un6 : (Try.prog.underlying 6).isSome = true := by kernel_rfl
theorem tk7 : tkB Try.prog 7 = some (true, 4) := by kernel_rfl
theorem z7 : zeroB Try.prog 7 = some (Go.Value.agg #[(Go.Value.int Go.IntKind.i64 0), (Go.Value.int Go.IntKind.i64 0), (Go.Value.bool Bool.false), (Go.Value.int Go.IntKind.u8 0)]) := by kernel_rfl
theorem rw7 : rowB Try.prog 7 = some ((Go.Value.agg #[(Go.Value.int Go.IntKind.i64 0), (Go.Value.int Go.IntKind.i64 0), (Go.Value.bool Bool.false), (Go.Value.int Go.IntKind.u8 0)]), 4, 24) := by kernel_rfl
theorem un7 : (Try.prog.underlying 7).isSome = true := by kernel_rfl
theorem fo7_0 : foB Try.prog 7 0 = some 0 := by kernel_rfl
theorem fo7_1 : foB Try.prog 7 1 = some 1 := by kernel_rfl
theorem fo7_2 : foB Try.prog 7 2 = some 2 := by kernel_rfl
theorem fo7_3 : foB Try.prog 7 3 = some 3 := by kernel_rfl
theorem tk8 : tkB Try.prog 8 = some (true, 4) := by kernel_rfl
theorem z8 : zeroB Try.prog 8 = some (Go.Value.agg #[(Go.Value.int Go.IntKind.i64 0), (Go.Value.int Go.IntKind.i64 0), (Go.Value.bool Bool.false), (Go.Value.int Go.IntKind.u8 0)]) := by kernel_rfl
theorem rw8 : rowB Try.prog 8 = some ((Go.Value.agg #[(Go.Value.int Go.IntKind.i64 0), (Go.Value.int Go.IntKind.i64 0), (Go.Value.bool Bool.false), (Go.Value.int Go.IntKind.u8 0)]), 4, 24) := by kernel_rfl
theorem un8 : (Try.prog.underlying 8).isSome = true := by kernel_rfl
theorem fo8_0 : foB Try.prog 8 0 = some 0 := by kernel_rfl
theorem fo8_1 : foB Try.prog 8 1 = some 1 := by kernel_rfl
theorem fo8_2 : foB Try.prog 8 2 = some 2 := by kernel_rfl
theorem fo8_3 : foB Try.prog 8 3 = some 3 := by kernel_rfl
theorem tk9 : tkB Try.prog 9 = some (false, 1) := by kernel_rfl
theorem z9 : zeroB Try.prog 9 = some (Go.Value.string (ByteArray.mk #[])) := by kernel_rfl
theorem rw9 : rowB Try.prog 9 = some ((Go.Value.string (ByteArray.mk #[])), 1, 16) := by kernel_rfl
theorem un9 : (Try.prog.underlying 9).isSome = true := by kernel_rfl
theorem tk10 : tkB Try.prog 10 = some (false, 1) := by kernel_rfl
theorem z10 : zeroB Try.prog 10 = some (Go.Value.string (ByteArray.mk #[])) := by kernel_rfl
theorem rw10 : rowB Try.prog 10 = some ((Go.Value.string (ByteArray.mk #[])), 1, 16) := by kernel_rfl
theorem un10 : (Try.prog.underlying 10).isSome = true := by kernel_rfl
theorem tk11 : tkB Try.prog 11 = some (false, 1) := by kernel_rfl
theorem z11 : zeroB Try.prog 11 = some (Go.Value.string (ByteArray.mk #[])) := by kernel_rfl
theorem rw11 : rowB Try.prog 11 = some ((Go.Value.string (ByteArray.mk #[])), 1, 16) := by kernel_rfl
theorem un11 : (Try.prog.underlying 11).isSome = true := by kernel_rfl
theorem tk12 : tkB Try.prog 12 = some (false, 1) := by kernel_rfl
theorem z12 : zeroB Try.prog 12 = some (Go.Value.int Go.IntKind.u64 0) := by kernel_rfl
theorem rw12 : rowB Try.prog 12 = some ((Go.Value.int Go.IntKind.u64 0), 1, 8) := by kernel_rfl
theorem un12 : (Try.prog.underlying 12).isSome = true := by kernel_rfl
theorem tk13 : tkB Try.prog 13 = some (true, 2) := by kernel_rfl
theorem z13 : zeroB Try.prog 13 = some (Go.Value.agg #[(Go.Value.string (ByteArray.mk #[])), (Go.Value.int Go.IntKind.u64 0)]) := by kernel_rfl
theorem rw13 : rowB Try.prog 13 = some ((Go.Value.agg #[(Go.Value.string (ByteArray.mk #[])), (Go.Value.int Go.IntKind.u64 0)]), 2, 24) := by kernel_rfl
theorem un13 : (Try.prog.underlying 13).isSome = true := by kernel_rfl
theorem fo13_0 : foB Try.prog 13 0 = some 0 := by kernel_rfl
theorem fo13_1 : foB Try.prog 13 1 = some 1 := by kernel_rfl
theorem tk14 : tkB Try.prog 14 = some (true, 2) := by kernel_rfl
theorem z14 : zeroB Try.prog 14 = some (Go.Value.agg #[(Go.Value.string (ByteArray.mk #[])), (Go.Value.int Go.IntKind.u64 0)]) := by kernel_rfl
theorem rw14 : rowB Try.prog 14 = some ((Go.Value.agg #[(Go.Value.string (ByteArray.mk #[])), (Go.Value.int Go.IntKind.u64 0)]), 2, 24) := by kernel_rfl
theorem un14 : (Try.prog.underlying 14).isSome = true := by kernel_rfl
theorem fo14_0 : foB Try.prog 14 0 = some 0 := by kernel_rfl
theorem fo14_1 : foB Try.prog 14 1 = some 1 := by kernel_rfl
theorem tk15 : tkB Try.prog 15 = some (false, 1) := by kernel_rfl
theorem z15 : zeroB Try.prog 15 = some (Go.Value.pointer Option.none) := by kernel_rfl
theorem rw15 : rowB Try.prog 15 = some ((Go.Value.pointer Option.none), 1, 8) := by kernel_rfl
theorem un15 : (Try.prog.underlying 15).isSome = true := by kernel_rfl
theorem tk16 : tkB Try.prog 16 = some (false, 1) := by kernel_rfl
theorem z16 : zeroB Try.prog 16 = some (Go.Value.pointer Option.none) := by kernel_rfl
theorem rw16 : rowB Try.prog 16 = some ((Go.Value.pointer Option.none), 1, 8) := by kernel_rfl
theorem un16 : (Try.prog.underlying 16).isSome = true := by kernel_rfl
theorem tk17 : tkB Try.prog 17 = some (false, 1) := by kernel_rfl
theorem z17 : zeroB Try.prog 17 = some (Go.Value.pointer Option.none) := by kernel_rfl
theorem rw17 : rowB Try.prog 17 = some ((Go.Value.pointer Option.none), 1, 8) := by kernel_rfl
theorem un17 : (Try.prog.underlying 17).isSome = true := by kernel_rfl
theorem tk18 : tkB Try.prog 18 = some (true, 1) := by kernel_rfl
theorem z18 : zeroB Try.prog 18 = some (Go.Value.agg #[(Go.Value.pointer Option.none)]) := by kernel_rfl
theorem rw18 : rowB Try.prog 18 = some ((Go.Value.agg #[(Go.Value.pointer Option.none)]), 1, 8) := by kernel_rfl
theorem un18 : (Try.prog.underlying 18).isSome = true := by kernel_rfl
theorem fo18_0 : foB Try.prog 18 0 = some 0 := by kernel_rfl
theorem tk19 : tkB Try.prog 19 = some (true, 1) := by kernel_rfl
theorem z19 : zeroB Try.prog 19 = some (Go.Value.agg #[(Go.Value.pointer Option.none)]) := by kernel_rfl
theorem rw19 : rowB Try.prog 19 = some ((Go.Value.agg #[(Go.Value.pointer Option.none)]), 1, 8) := by kernel_rfl
theorem un19 : (Try.prog.underlying 19).isSome = true := by kernel_rfl
theorem fo19_0 : foB Try.prog 19 0 = some 0 := by kernel_rfl
theorem tk20 : tkB Try.prog 20 = some (false, 1) := by kernel_rfl
theorem z20 : zeroB Try.prog 20 = some Go.Value.nilIface := by kernel_rfl
theorem rw20 : rowB Try.prog 20 = some (Go.Value.nilIface, 1, 16) := by kernel_rfl
theorem un20 : (Try.prog.underlying 20).isSome = true := by kernel_rfl
theorem tk21 : tkB Try.prog 21 = some (false, 1) := by kernel_rfl
theorem z21 : zeroB Try.prog 21 = some (Go.Value.int Go.IntKind.i32 0) := by kernel_rfl
theorem rw21 : rowB Try.prog 21 = some ((Go.Value.int Go.IntKind.i32 0), 1, 4) := by kernel_rfl
theorem un21 : (Try.prog.underlying 21).isSome = true := by kernel_rfl
theorem tk22 : tkB Try.prog 22 = some (false, 1) := by kernel_rfl
theorem z22 : zeroB Try.prog 22 = some (Go.Value.slice Option.none 0 0) := by kernel_rfl
theorem rw22 : rowB Try.prog 22 = some ((Go.Value.slice Option.none 0 0), 1, 24) := by kernel_rfl
theorem un22 : (Try.prog.underlying 22).isSome = true := by kernel_rfl
theorem tk23 : tkB Try.prog 23 = some (false, 1) := by kernel_rfl
theorem z23 : zeroB Try.prog 23 = some (Go.Value.slice Option.none 0 0) := by kernel_rfl
theorem rw23 : rowB Try.prog 23 = some ((Go.Value.slice Option.none 0 0), 1, 24) := by kernel_rfl
theorem un23 : (Try.prog.underlying 23).isSome = true := by kernel_rfl
theorem tk24 : tkB Try.prog 24 = some (true, 2) := by kernel_rfl
theorem z24 : zeroB Try.prog 24 = some (Go.Value.agg #[(Go.Value.slice Option.none 0 0), (Go.Value.slice Option.none 0 0)]) := by kernel_rfl
theorem rw24 : rowB Try.prog 24 = some ((Go.Value.agg #[(Go.Value.slice Option.none 0 0), (Go.Value.slice Option.none 0 0)]), 2, 48) := by kernel_rfl
theorem un24 : (Try.prog.underlying 24).isSome = true := by kernel_rfl
theorem fo24_0 : foB Try.prog 24 0 = some 0 := by kernel_rfl
theorem fo24_1 : foB Try.prog 24 1 = some 1 := by kernel_rfl
theorem tk25 : tkB Try.prog 25 = some (true, 2) := by kernel_rfl
theorem z25 : zeroB Try.prog 25 = some (Go.Value.agg #[(Go.Value.slice Option.none 0 0), (Go.Value.slice Option.none 0 0)]) := by kernel_rfl
theorem rw25 : rowB Try.prog 25 = some ((Go.Value.agg #[(Go.Value.slice Option.none 0 0), (Go.Value.slice Option.none 0 0)]), 2, 48) := by kernel_rfl
theorem un25 : (Try.prog.underlying 25).isSome = true := by kernel_rfl
theorem fo25_0 : foB Try.prog 25 0 = some 0 := by kernel_rfl
theorem fo25_1 : foB Try.prog 25 1 = some 1 := by kernel_rfl
theorem tk26 : tkB Try.prog 26 = some (true, 3) := by kernel_rfl
theorem z26 : zeroB Try.prog 26 = some (Go.Value.agg #[(Go.Value.int Go.IntKind.i64 0), (Go.Value.int Go.IntKind.i64 0), (Go.Value.int Go.IntKind.i64 0)]) := by kernel_rfl
theorem rw26 : rowB Try.prog 26 = some ((Go.Value.agg #[(Go.Value.int Go.IntKind.i64 0), (Go.Value.int Go.IntKind.i64 0), (Go.Value.int Go.IntKind.i64 0)]), 3, 24) := by kernel_rfl
theorem un26 : (Try.prog.underlying 26).isSome = true := by kernel_rfl
theorem fo26_0 : foB Try.prog 26 0 = some 0 := by kernel_rfl
theorem fo26_1 : foB Try.prog 26 1 = some 1 := by kernel_rfl
theorem fo26_2 : foB Try.prog 26 2 = some 2 := by kernel_rfl
theorem tk27 : tkB Try.prog 27 = some (true, 3) := by kernel_rfl
theorem z27 : zeroB Try.prog 27 = some (Go.Value.agg #[(Go.Value.int Go.IntKind.i64 0), (Go.Value.int Go.IntKind.i64 0), (Go.Value.int Go.IntKind.i64 0)]) := by kernel_rfl
theorem rw27 : rowB Try.prog 27 = some ((Go.Value.agg #[(Go.Value.int Go.IntKind.i64 0), (Go.Value.int Go.IntKind.i64 0), (Go.Value.int Go.IntKind.i64 0)]), 3, 24) := by kernel_rfl
theorem un27 : (Try.prog.underlying 27).isSome = true := by kernel_rfl
theorem fo27_0 : foB Try.prog 27 0 = some 0 := by kernel_rfl
theorem fo27_1 : foB Try.prog 27 1 = some 1 := by kernel_rfl
theorem fo27_2 : foB Try.prog 27 2 = some 2 := by kernel_rfl
theorem tk28 : tkB Try.prog 28 = some (false, 1) := by kernel_rfl
theorem z28 : zeroB Try.prog 28 = some Go.Value.nilFunc := by kernel_rfl
theorem rw28 : rowB Try.prog 28 = some (Go.Value.nilFunc, 1, 8) := by kernel_rfl
theorem un28 : (Try.prog.underlying 28).isSome = true := by kernel_rfl
theorem tk29 : tkB Try.prog 29 = some (false, 1) := by kernel_rfl
theorem z29 : zeroB Try.prog 29 = some Go.Value.nilFunc := by kernel_rfl
theorem rw29 : rowB Try.prog 29 = some (Go.Value.nilFunc, 1, 8) := by kernel_rfl
theorem un29 : (Try.prog.underlying 29).isSome = true := by kernel_rfl
theorem tk30 : tkB Try.prog 30 = some (true, 2) := by kernel_rfl
theorem z30 : zeroB Try.prog 30 = some (Go.Value.agg #[(Go.Value.int Go.IntKind.i64 0), (Go.Value.int Go.IntKind.i64 0)]) := by kernel_rfl
theorem rw30 : rowB Try.prog 30 = some ((Go.Value.agg #[(Go.Value.int Go.IntKind.i64 0), (Go.Value.int Go.IntKind.i64 0)]), 2, 16) := by kernel_rfl
theorem un30 : (Try.prog.underlying 30).isSome = true := by kernel_rfl
theorem fo30_0 : foB Try.prog 30 0 = some 0 := by kernel_rfl
theorem fo30_1 : foB Try.prog 30 1 = some 1 := by kernel_rfl
theorem tk31 : tkB Try.prog 31 = some (true, 2) := by kernel_rfl
theorem z31 : zeroB Try.prog 31 = some (Go.Value.agg #[(Go.Value.int Go.IntKind.i64 0), (Go.Value.int Go.IntKind.i64 0)]) := by kernel_rfl
theorem rw31 : rowB Try.prog 31 = some ((Go.Value.agg #[(Go.Value.int Go.IntKind.i64 0), (Go.Value.int Go.IntKind.i64 0)]), 2, 16) := by kernel_rfl
theorem un31 : (Try.prog.underlying 31).isSome = true := by kernel_rfl
theorem fo31_0 : foB Try.prog 31 0 = some 0 := by kernel_rfl
theorem fo31_1 : foB Try.prog 31 1 = some 1 := by kernel_rfl
theorem tk32 : tkB Try.prog 32 = some (false, 1) := by kernel_rfl
theorem z32 : zeroB Try.prog 32 = some (Go.Value.int Go.IntKind.i64 0) := by kernel_rfl
theorem rw32 : rowB Try.prog 32 = some ((Go.Value.int Go.IntKind.i64 0), 1, 8) := by kernel_rfl
theorem un32 : (Try.prog.underlying 32).isSome = true := by kernel_rfl
theorem tk34 : tkB Try.prog 34 = some (false, 1) := by kernel_rfl
theorem z34 : zeroB Try.prog 34 = some Go.Value.nilFunc := by kernel_rfl
theorem rw34 : rowB Try.prog 34 = some (Go.Value.nilFunc, 1, 8) := by kernel_rfl
theorem un34 : (Try.prog.underlying 34).isSome = true := by kernel_rfl
theorem tk35 : tkB Try.prog 35 = some (false, 1) := by kernel_rfl
theorem z35 : zeroB Try.prog 35 = some Go.Value.nilFunc := by kernel_rfl
theorem rw35 : rowB Try.prog 35 = some (Go.Value.nilFunc, 1, 8) := by kernel_rfl
theorem un35 : (Try.prog.underlying 35).isSome = true := by kernel_rfl
theorem tk36 : tkB Try.prog 36 = some (false, 1) := by kernel_rfl
theorem z36 : zeroB Try.prog 36 = some Go.Value.nilFunc := by kernel_rfl
theorem rw36 : rowB Try.prog 36 = some (Go.Value.nilFunc, 1, 8) := by kernel_rfl
theorem un36 : (Try.prog.underlying 36).isSome = true := by kernel_rfl
theorem tk37 : tkB Try.prog 37 = some (false, 1) := by kernel_rfl
theorem z37 : zeroB Try.prog 37 = some Go.Value.nilFunc := by kernel_rfl
theorem rw37 : rowB Try.prog 37 = some (Go.Value.nilFunc, 1, 8) := by kernel_rfl
theorem un37 : (Try.prog.underlying 37).isSome = true := by kernel_rfl
theorem tk38 : tkB Try.prog 38 = some (false, 1) := by kernel_rfl
theorem z38 : zeroB Try.prog 38 = some Go.Value.nilFunc := by kernel_rfl
theorem rw38 : rowB Try.prog 38 = some (Go.Value.nilFunc, 1, 8) := by kernel_rfl
theorem un38 : (Try.prog.underlying 38).isSome = true := by kernel_rfl
theorem tk40 : tkB Try.prog 40 = some (false, 1) := by kernel_rfl
theorem z40 : zeroB Try.prog 40 = some Go.Value.nilFunc := by kernel_rfl
theorem rw40 : rowB Try.prog 40 = some (Go.Value.nilFunc, 1, 8) := by kernel_rfl
theorem un40 : (Try.prog.underlying 40).isSome = true := by kernel_rfl
theorem tk42 : tkB Try.prog 42 = some (false, 1) := by kernel_rfl
theorem z42 : zeroB Try.prog 42 = some Go.Value.nilFunc := by kernel_rfl
theorem rw42 : rowB Try.prog 42 = some (Go.Value.nilFunc, 1, 8) := by kernel_rfl
theorem un42 : (Try.prog.underlying 42).isSome = true := by kernel_rfl
theorem tk43 : tkB Try.prog 43 = some (false, 1) := by kernel_rfl
theorem z43 : zeroB Try.prog 43 = some Go.Value.nilFunc := by kernel_rfl
theorem rw43 : rowB Try.prog 43 = some (Go.Value.nilFunc, 1, 8) := by kernel_rfl
theorem un43 : (Try.prog.underlying 43).isSome = true := by kernel_rfl
theorem tk44 : tkB Try.prog 44 = some (true, 4) := by kernel_rfl
theorem z44 : zeroB Try.prog 44 = some (Go.Value.agg #[(Go.Value.int Go.IntKind.i64 0), (Go.Value.int Go.IntKind.i64 0), (Go.Value.int Go.IntKind.i64 0), (Go.Value.int Go.IntKind.i64 0)]) := by kernel_rfl
theorem rw44 : rowB Try.prog 44 = some ((Go.Value.agg #[(Go.Value.int Go.IntKind.i64 0), (Go.Value.int Go.IntKind.i64 0), (Go.Value.int Go.IntKind.i64 0), (Go.Value.int Go.IntKind.i64 0)]), 4, 32) := by kernel_rfl
theorem un44 : (Try.prog.underlying 44).isSome = true := by kernel_rfl
theorem fo44_0 : foB Try.prog 44 0 = some 0 := by kernel_rfl
theorem fo44_1 : foB Try.prog 44 1 = some 1 := by kernel_rfl
theorem fo44_2 : foB Try.prog 44 2 = some 2 := by kernel_rfl
theorem fo44_3 : foB Try.prog 44 3 = some 3 := by kernel_rfl
theorem tk45 : tkB Try.prog 45 = some (true, 4) := by kernel_rfl
theorem z45 : zeroB Try.prog 45 = some (Go.Value.agg #[(Go.Value.int Go.IntKind.i64 0), (Go.Value.int Go.IntKind.i64 0), (Go.Value.int Go.IntKind.i64 0), (Go.Value.int Go.IntKind.i64 0)]) := by kernel_rfl
theorem rw45 : rowB Try.prog 45 = some ((Go.Value.agg #[(Go.Value.int Go.IntKind.i64 0), (Go.Value.int Go.IntKind.i64 0), (Go.Value.int Go.IntKind.i64 0), (Go.Value.int Go.IntKind.i64 0)]), 4, 32) := by kernel_rfl
theorem un45 : (Try.prog.underlying 45).isSome = true := by kernel_rfl
theorem fo45_0 : foB Try.prog 45 0 = some 0 := by kernel_rfl
theorem fo45_1 : foB Try.prog 45 1 = some 1 := by kernel_rfl
theorem fo45_2 : foB Try.prog 45 2 = some 2 := by kernel_rfl
theorem fo45_3 : foB Try.prog 45 3 = some 3 := by kernel_rfl
theorem tk46 : tkB Try.prog 46 = some (false, 1) := by kernel_rfl
theorem z46 : zeroB Try.prog 46 = some Go.Value.nilFunc := by kernel_rfl
theorem rw46 : rowB Try.prog 46 = some (Go.Value.nilFunc, 1, 8) := by kernel_rfl
theorem un46 : (Try.prog.underlying 46).isSome = true := by kernel_rfl
theorem tk48 : tkB Try.prog 48 = some (false, 1) := by kernel_rfl
theorem z48 : zeroB Try.prog 48 = some Go.Value.nilFunc := by kernel_rfl
theorem rw48 : rowB Try.prog 48 = some (Go.Value.nilFunc, 1, 8) := by kernel_rfl
theorem un48 : (Try.prog.underlying 48).isSome = true := by kernel_rfl
theorem tk49 : tkB Try.prog 49 = some (false, 1) := by kernel_rfl
theorem z49 : zeroB Try.prog 49 = some Go.Value.nilFunc := by kernel_rfl
theorem rw49 : rowB Try.prog 49 = some (Go.Value.nilFunc, 1, 8) := by kernel_rfl
theorem un49 : (Try.prog.underlying 49).isSome = true := by kernel_rfl
theorem tk51 : tkB Try.prog 51 = some (false, 1) := by kernel_rfl
theorem z51 : zeroB Try.prog 51 = some Go.Value.nilFunc := by kernel_rfl
theorem rw51 : rowB Try.prog 51 = some (Go.Value.nilFunc, 1, 8) := by kernel_rfl
theorem un51 : (Try.prog.underlying 51).isSome = true := by kernel_rfl
theorem tk52 : tkB Try.prog 52 = some (true, 3) := by kernel_rfl
theorem z52 : zeroB Try.prog 52 = some (Go.Value.agg #[(Go.Value.slice Option.none 0 0), (Go.Value.slice Option.none 0 0), (Go.Value.slice Option.none 0 0)]) := by kernel_rfl
theorem rw52 : rowB Try.prog 52 = some ((Go.Value.agg #[(Go.Value.slice Option.none 0 0), (Go.Value.slice Option.none 0 0), (Go.Value.slice Option.none 0 0)]), 3, 72) := by kernel_rfl
theorem un52 : (Try.prog.underlying 52).isSome = true := by kernel_rfl
theorem fo52_0 : foB Try.prog 52 0 = some 0 := by kernel_rfl
theorem fo52_1 : foB Try.prog 52 1 = some 1 := by kernel_rfl
theorem fo52_2 : foB Try.prog 52 2 = some 2 := by kernel_rfl
theorem tk53 : tkB Try.prog 53 = some (true, 3) := by kernel_rfl
theorem z53 : zeroB Try.prog 53 = some (Go.Value.agg #[(Go.Value.slice Option.none 0 0), (Go.Value.slice Option.none 0 0), (Go.Value.slice Option.none 0 0)]) := by kernel_rfl
theorem rw53 : rowB Try.prog 53 = some ((Go.Value.agg #[(Go.Value.slice Option.none 0 0), (Go.Value.slice Option.none 0 0), (Go.Value.slice Option.none 0 0)]), 3, 72) := by kernel_rfl
theorem un53 : (Try.prog.underlying 53).isSome = true := by kernel_rfl
theorem fo53_0 : foB Try.prog 53 0 = some 0 := by kernel_rfl
theorem fo53_1 : foB Try.prog 53 1 = some 1 := by kernel_rfl
theorem fo53_2 : foB Try.prog 53 2 = some 2 := by kernel_rfl
theorem tk54 : tkB Try.prog 54 = some (false, 1) := by kernel_rfl
theorem z54 : zeroB Try.prog 54 = some Go.Value.nilFunc := by kernel_rfl
theorem rw54 : rowB Try.prog 54 = some (Go.Value.nilFunc, 1, 8) := by kernel_rfl
theorem un54 : (Try.prog.underlying 54).isSome = true := by kernel_rfl
theorem tk55 : tkB Try.prog 55 = some (false, 1) := by kernel_rfl
theorem z55 : zeroB Try.prog 55 = some Go.Value.nilFunc := by kernel_rfl
theorem rw55 : rowB Try.prog 55 = some (Go.Value.nilFunc, 1, 8) := by kernel_rfl
theorem un55 : (Try.prog.underlying 55).isSome = true := by kernel_rfl
theorem tk56 : tkB Try.prog 56 = some (false, 1) := by kernel_rfl
theorem z56 : zeroB Try.prog 56 = some Go.Value.nilFunc := by kernel_rfl
theorem rw56 : rowB Try.prog 56 = some (Go.Value.nilFunc, 1, 8) := by kernel_rfl
theorem un56 : (Try.prog.underlying 56).isSome = true := by kernel_rfl
theorem tk57 : tkB Try.prog 57 = some (false, 1) := by kernel_rfl
theorem z57 : zeroB Try.prog 57 = some (Go.Value.int Go.IntKind.i16 0) := by kernel_rfl
theorem rw57 : rowB Try.prog 57 = some ((Go.Value.int Go.IntKind.i16 0), 1, 2) := by kernel_rfl
theorem un57 : (Try.prog.underlying 57).isSome = true := by kernel_rfl
theorem tk59 : tkB Try.prog 59 = some (false, 1) := by kernel_rfl
theorem z59 : zeroB Try.prog 59 = some Go.Value.nilFunc := by kernel_rfl
theorem rw59 : rowB Try.prog 59 = some (Go.Value.nilFunc, 1, 8) := by kernel_rfl
theorem un59 : (Try.prog.underlying 59).isSome = true := by kernel_rfl
theorem tk60 : tkB Try.prog 60 = some (false, 1) := by kernel_rfl
theorem z60 : zeroB Try.prog 60 = some Go.Value.nilFunc := by kernel_rfl
theorem rw60 : rowB Try.prog 60 = some (Go.Value.nilFunc, 1, 8) := by kernel_rfl
theorem un60 : (Try.prog.underlying 60).isSome = true := by kernel_rfl
theorem tk61 : tkB Try.prog 61 = some (false, 1) := by kernel_rfl
theorem z61 : zeroB Try.prog 61 = some Go.Value.nilFunc := by kernel_rfl
theorem rw61 : rowB Try.prog 61 = some (Go.Value.nilFunc, 1, 8) := by kernel_rfl
theorem un61 : (Try.prog.underlying 61).isSome = true := by kernel_rfl
theorem tk62 : tkB Try.prog 62 = some (false, 1) := by kernel_rfl
theorem z62 : zeroB Try.prog 62 = some Go.Value.nilFunc := by kernel_rfl
theorem rw62 : rowB Try.prog 62 = some (Go.Value.nilFunc, 1, 8) := by kernel_rfl
theorem un62 : (Try.prog.underlying 62).isSome = true := by kernel_rfl
theorem tk63 : tkB Try.prog 63 = some (false, 1) := by kernel_rfl
theorem z63 : zeroB Try.prog 63 = some Go.Value.nilFunc := by kernel_rfl
theorem rw63 : rowB Try.prog 63 = some (Go.Value.nilFunc, 1, 8) := by kernel_rfl
theorem un63 : (Try.prog.underlying 63).isSome = true := by kernel_rfl
theorem tk64 : tkB Try.prog 64 = some (false, 1) := by kernel_rfl
theorem z64 : zeroB Try.prog 64 = some Go.Value.nilFunc := by kernel_rfl
theorem rw64 : rowB Try.prog 64 = some (Go.Value.nilFunc, 1, 8) := by kernel_rfl
theorem un64 : (Try.prog.underlying 64).isSome = true := by kernel_rfl
theorem tk65 : tkB Try.prog 65 = some (false, 1) := by kernel_rfl
theorem z65 : zeroB Try.prog 65 = some Go.Value.nilFunc := by kernel_rfl
theorem rw65 : rowB Try.prog 65 = some (Go.Value.nilFunc, 1, 8) := by kernel_rfl
theorem un65 : (Try.prog.underlying 65).isSome = true := by kernel_rfl
theorem tk66 : tkB Try.prog 66 = some (false, 1) := by kernel_rfl
theorem z66 : zeroB Try.prog 66 = some Go.Value.nilFunc := by kernel_rfl
theorem rw66 : rowB Try.prog 66 = some (Go.Value.nilFunc, 1, 8) := by kernel_rfl
theorem un66 : (Try.prog.underlying 66).isSome = true := by kernel_rfl
theorem tk67 : tkB Try.prog 67 = some (false, 1) := by kernel_rfl
theorem z67 : zeroB Try.prog 67 = some Go.Value.nilFunc := by kernel_rfl
theorem rw67 : rowB Try.prog 67 = some (Go.Value.nilFunc, 1, 8) := by kernel_rfl
theorem un67 : (Try.prog.underlying 67).isSome = true := by kernel_rfl
theorem tk68 : tkB Try.prog 68 = some (true, 2) := by kernel_rfl
theorem z68 : zeroB Try.prog 68 = some (Go.Value.agg #[(Go.Value.int Go.IntKind.i64 0), (Go.Value.int Go.IntKind.i64 0)]) := by kernel_rfl
theorem rw68 : rowB Try.prog 68 = some ((Go.Value.agg #[(Go.Value.int Go.IntKind.i64 0), (Go.Value.int Go.IntKind.i64 0)]), 2, 16) := by kernel_rfl
theorem un68 : (Try.prog.underlying 68).isSome = true := by kernel_rfl
theorem fo68_0 : foB Try.prog 68 0 = some 0 := by kernel_rfl
theorem fo68_1 : foB Try.prog 68 1 = some 1 := by kernel_rfl
theorem tk69 : tkB Try.prog 69 = some (true, 2) := by kernel_rfl
theorem z69 : zeroB Try.prog 69 = some (Go.Value.agg #[(Go.Value.int Go.IntKind.i64 0), (Go.Value.int Go.IntKind.i64 0)]) := by kernel_rfl
theorem rw69 : rowB Try.prog 69 = some ((Go.Value.agg #[(Go.Value.int Go.IntKind.i64 0), (Go.Value.int Go.IntKind.i64 0)]), 2, 16) := by kernel_rfl
theorem un69 : (Try.prog.underlying 69).isSome = true := by kernel_rfl
theorem fo69_0 : foB Try.prog 69 0 = some 0 := by kernel_rfl
theorem fo69_1 : foB Try.prog 69 1 = some 1 := by kernel_rfl
theorem tk70 : tkB Try.prog 70 = some (false, 1) := by kernel_rfl
theorem z70 : zeroB Try.prog 70 = some Go.Value.nilFunc := by kernel_rfl
theorem rw70 : rowB Try.prog 70 = some (Go.Value.nilFunc, 1, 8) := by kernel_rfl
theorem un70 : (Try.prog.underlying 70).isSome = true := by kernel_rfl
theorem tk71 : tkB Try.prog 71 = some (false, 1) := by kernel_rfl
theorem z71 : zeroB Try.prog 71 = some Go.Value.nilFunc := by kernel_rfl
theorem rw71 : rowB Try.prog 71 = some (Go.Value.nilFunc, 1, 8) := by kernel_rfl
theorem un71 : (Try.prog.underlying 71).isSome = true := by kernel_rfl
theorem tk72 : tkB Try.prog 72 = some (false, 1) := by kernel_rfl
theorem z72 : zeroB Try.prog 72 = some (Go.Value.int Go.IntKind.i8 0) := by kernel_rfl
theorem rw72 : rowB Try.prog 72 = some ((Go.Value.int Go.IntKind.i8 0), 1, 1) := by kernel_rfl
theorem un72 : (Try.prog.underlying 72).isSome = true := by kernel_rfl
theorem tk73 : tkB Try.prog 73 = some (false, 1) := by kernel_rfl
theorem z73 : zeroB Try.prog 73 = some Go.Value.nilFunc := by kernel_rfl
theorem rw73 : rowB Try.prog 73 = some (Go.Value.nilFunc, 1, 8) := by kernel_rfl
theorem un73 : (Try.prog.underlying 73).isSome = true := by kernel_rfl
theorem tk74 : tkB Try.prog 74 = some (false, 1) := by kernel_rfl
theorem z74 : zeroB Try.prog 74 = some Go.Value.nilFunc := by kernel_rfl
theorem rw74 : rowB Try.prog 74 = some (Go.Value.nilFunc, 1, 8) := by kernel_rfl
theorem un74 : (Try.prog.underlying 74).isSome = true := by kernel_rfl
theorem tk75 : tkB Try.prog 75 = some (false, 1) := by kernel_rfl
theorem z75 : zeroB Try.prog 75 = some Go.Value.nilFunc := by kernel_rfl
theorem rw75 : rowB Try.prog 75 = some (Go.Value.nilFunc, 1, 8) := by kernel_rfl
theorem un75 : (Try.prog.underlying 75).isSome = true := by kernel_rfl
theorem tk76 : tkB Try.prog 76 = some (false, 1) := by kernel_rfl
theorem z76 : zeroB Try.prog 76 = some Go.Value.nilFunc := by kernel_rfl
theorem rw76 : rowB Try.prog 76 = some (Go.Value.nilFunc, 1, 8) := by kernel_rfl
theorem un76 : (Try.prog.underlying 76).isSome = true := by kernel_rfl
theorem tk77 : tkB Try.prog 77 = some (false, 1) := by kernel_rfl
theorem z77 : zeroB Try.prog 77 = some (Go.Value.slice Option.none 0 0) := by kernel_rfl
theorem rw77 : rowB Try.prog 77 = some ((Go.Value.slice Option.none 0 0), 1, 24) := by kernel_rfl
theorem un77 : (Try.prog.underlying 77).isSome = true := by kernel_rfl
theorem tk78 : tkB Try.prog 78 = some (false, 1) := by kernel_rfl
theorem z78 : zeroB Try.prog 78 = some Go.Value.nilFunc := by kernel_rfl
theorem rw78 : rowB Try.prog 78 = some (Go.Value.nilFunc, 1, 8) := by kernel_rfl
theorem un78 : (Try.prog.underlying 78).isSome = true := by kernel_rfl
theorem tk79 : tkB Try.prog 79 = some (false, 1) := by kernel_rfl
theorem z79 : zeroB Try.prog 79 = some Go.Value.nilFunc := by kernel_rfl
theorem rw79 : rowB Try.prog 79 = some (Go.Value.nilFunc, 1, 8) := by kernel_rfl
theorem un79 : (Try.prog.underlying 79).isSome = true := by kernel_rfl
theorem tk80 : tkB Try.prog 80 = some (false, 1) := by kernel_rfl
theorem z80 : zeroB Try.prog 80 = some Go.Value.nilFunc := by kernel_rfl
theorem rw80 : rowB Try.prog 80 = some (Go.Value.nilFunc, 1, 8) := by kernel_rfl
theorem un80 : (Try.prog.underlying 80).isSome = true := by kernel_rfl
theorem tk81 : tkB Try.prog 81 = some (false, 1) := by kernel_rfl
theorem z81 : zeroB Try.prog 81 = some (Go.Value.int Go.IntKind.u16 0) := by kernel_rfl
theorem rw81 : rowB Try.prog 81 = some ((Go.Value.int Go.IntKind.u16 0), 1, 2) := by kernel_rfl
theorem un81 : (Try.prog.underlying 81).isSome = true := by kernel_rfl
theorem tk82 : tkB Try.prog 82 = some (false, 1) := by kernel_rfl
theorem z82 : zeroB Try.prog 82 = some Go.Value.nilFunc := by kernel_rfl
theorem rw82 : rowB Try.prog 82 = some (Go.Value.nilFunc, 1, 8) := by kernel_rfl
theorem un82 : (Try.prog.underlying 82).isSome = true := by kernel_rfl
theorem tk83 : tkB Try.prog 83 = some (false, 1) := by kernel_rfl
theorem z83 : zeroB Try.prog 83 = some Go.Value.nilFunc := by kernel_rfl
theorem rw83 : rowB Try.prog 83 = some (Go.Value.nilFunc, 1, 8) := by kernel_rfl
theorem un83 : (Try.prog.underlying 83).isSome = true := by kernel_rfl
theorem tk84 : tkB Try.prog 84 = some (false, 1) := by kernel_rfl
theorem z84 : zeroB Try.prog 84 = some Go.Value.nilFunc := by kernel_rfl
theorem rw84 : rowB Try.prog 84 = some (Go.Value.nilFunc, 1, 8) := by kernel_rfl
theorem un84 : (Try.prog.underlying 84).isSome = true := by kernel_rfl
theorem tk85 : tkB Try.prog 85 = some (false, 1) := by kernel_rfl
theorem z85 : zeroB Try.prog 85 = some (Go.Value.pointer Option.none) := by kernel_rfl
theorem rw85 : rowB Try.prog 85 = some ((Go.Value.pointer Option.none), 1, 8) := by kernel_rfl
theorem un85 : (Try.prog.underlying 85).isSome = true := by kernel_rfl
theorem tk87 : tkB Try.prog 87 = some (false, 1) := by kernel_rfl
theorem z87 : zeroB Try.prog 87 = some Go.Value.nilFunc := by kernel_rfl
theorem rw87 : rowB Try.prog 87 = some (Go.Value.nilFunc, 1, 8) := by kernel_rfl
theorem un87 : (Try.prog.underlying 87).isSome = true := by kernel_rfl
theorem tk88 : tkB Try.prog 88 = some (false, 1) := by kernel_rfl
theorem z88 : zeroB Try.prog 88 = some Go.Value.nilFunc := by kernel_rfl
theorem rw88 : rowB Try.prog 88 = some (Go.Value.nilFunc, 1, 8) := by kernel_rfl
theorem un88 : (Try.prog.underlying 88).isSome = true := by kernel_rfl
theorem tk89 : tkB Try.prog 89 = some (false, 1) := by kernel_rfl
theorem z89 : zeroB Try.prog 89 = some Go.Value.nilFunc := by kernel_rfl
theorem rw89 : rowB Try.prog 89 = some (Go.Value.nilFunc, 1, 8) := by kernel_rfl
theorem un89 : (Try.prog.underlying 89).isSome = true := by kernel_rfl
theorem tk90 : tkB Try.prog 90 = some (false, 1) := by kernel_rfl
theorem z90 : zeroB Try.prog 90 = some Go.Value.nilFunc := by kernel_rfl
theorem rw90 : rowB Try.prog 90 = some (Go.Value.nilFunc, 1, 8) := by kernel_rfl
theorem un90 : (Try.prog.underlying 90).isSome = true := by kernel_rfl
theorem tk91 : tkB Try.prog 91 = some (false, 1) := by kernel_rfl
theorem z91 : zeroB Try.prog 91 = some Go.Value.nilFunc := by kernel_rfl
theorem rw91 : rowB Try.prog 91 = some (Go.Value.nilFunc, 1, 8) := by kernel_rfl
theorem un91 : (Try.prog.underlying 91).isSome = true := by kernel_rfl
theorem tk92 : tkB Try.prog 92 = some (false, 1) := by kernel_rfl
theorem z92 : zeroB Try.prog 92 = some Go.Value.nilFunc := by kernel_rfl
theorem rw92 : rowB Try.prog 92 = some (Go.Value.nilFunc, 1, 8) := by kernel_rfl
theorem un92 : (Try.prog.underlying 92).isSome = true := by kernel_rfl
theorem tk93 : tkB Try.prog 93 = some (false, 1) := by kernel_rfl
theorem z93 : zeroB Try.prog 93 = some Go.Value.nilFunc := by kernel_rfl
theorem rw93 : rowB Try.prog 93 = some (Go.Value.nilFunc, 1, 8) := by kernel_rfl
theorem un93 : (Try.prog.underlying 93).isSome = true := by kernel_rfl
theorem tk94 : tkB Try.prog 94 = some (false, 1) := by kernel_rfl
theorem z94 : zeroB Try.prog 94 = some Go.Value.nilFunc := by kernel_rfl
theorem rw94 : rowB Try.prog 94 = some (Go.Value.nilFunc, 1, 8) := by kernel_rfl
theorem un94 : (Try.prog.underlying 94).isSome = true := by kernel_rfl
theorem tk95 : tkB Try.prog 95 = some (false, 1) := by kernel_rfl
theorem z95 : zeroB Try.prog 95 = some Go.Value.nilFunc := by kernel_rfl
theorem rw95 : rowB Try.prog 95 = some (Go.Value.nilFunc, 1, 8) := by kernel_rfl
theorem un95 : (Try.prog.underlying 95).isSome = true := by kernel_rfl
theorem tk96 : tkB Try.prog 96 = some (false, 1) := by kernel_rfl
theorem z96 : zeroB Try.prog 96 = some Go.Value.nilFunc := by kernel_rfl
theorem rw96 : rowB Try.prog 96 = some (Go.Value.nilFunc, 1, 8) := by kernel_rfl
theorem un96 : (Try.prog.underlying 96).isSome = true := by kernel_rfl
theorem tk97 : tkB Try.prog 97 = some (false, 1) := by kernel_rfl
theorem z97 : zeroB Try.prog 97 = some Go.Value.nilFunc := by kernel_rfl
theorem rw97 : rowB Try.prog 97 = some (Go.Value.nilFunc, 1, 8) := by kernel_rfl
theorem un97 : (Try.prog.underlying 97).isSome = true := by kernel_rfl
theorem tk99 : tkB Try.prog 99 = some (false, 1) := by kernel_rfl
theorem z99 : zeroB Try.prog 99 = some Go.Value.nilFunc := by kernel_rfl
theorem rw99 : rowB Try.prog 99 = some (Go.Value.nilFunc, 1, 8) := by kernel_rfl
theorem un99 : (Try.prog.underlying 99).isSome = true := by kernel_rfl
theorem tk100 : tkB Try.prog 100 = some (false, 1) := by kernel_rfl
theorem z100 : zeroB Try.prog 100 = some (Go.Value.slice Option.none 0 0) := by kernel_rfl
theorem rw100 : rowB Try.prog 100 = some ((Go.Value.slice Option.none 0 0), 1, 24) := by kernel_rfl
theorem un100 : (Try.prog.underlying 100).isSome = true := by kernel_rfl
theorem tk102 : tkB Try.prog 102 = some (false, 1) := by kernel_rfl
theorem z102 : zeroB Try.prog 102 = some Go.Value.nilFunc := by kernel_rfl
theorem rw102 : rowB Try.prog 102 = some (Go.Value.nilFunc, 1, 8) := by kernel_rfl
theorem un102 : (Try.prog.underlying 102).isSome = true := by kernel_rfl
theorem tk103 : tkB Try.prog 103 = some (true, 3) := by kernel_rfl
theorem z103 : zeroB Try.prog 103 = some (Go.Value.agg #[(Go.Value.int Go.IntKind.i64 0), (Go.Value.int Go.IntKind.i64 0), (Go.Value.int Go.IntKind.i64 0)]) := by kernel_rfl
theorem rw103 : rowB Try.prog 103 = some ((Go.Value.agg #[(Go.Value.int Go.IntKind.i64 0), (Go.Value.int Go.IntKind.i64 0), (Go.Value.int Go.IntKind.i64 0)]), 3, 24) := by kernel_rfl
theorem un103 : (Try.prog.underlying 103).isSome = true := by kernel_rfl
theorem fo103_0 : foB Try.prog 103 0 = some 0 := by kernel_rfl
theorem fo103_1 : foB Try.prog 103 1 = some 1 := by kernel_rfl
theorem fo103_2 : foB Try.prog 103 2 = some 2 := by kernel_rfl
theorem tk104 : tkB Try.prog 104 = some (true, 3) := by kernel_rfl
theorem z104 : zeroB Try.prog 104 = some (Go.Value.agg #[(Go.Value.int Go.IntKind.i64 0), (Go.Value.int Go.IntKind.i64 0), (Go.Value.int Go.IntKind.i64 0)]) := by kernel_rfl
theorem rw104 : rowB Try.prog 104 = some ((Go.Value.agg #[(Go.Value.int Go.IntKind.i64 0), (Go.Value.int Go.IntKind.i64 0), (Go.Value.int Go.IntKind.i64 0)]), 3, 24) := by kernel_rfl
theorem un104 : (Try.prog.underlying 104).isSome = true := by kernel_rfl
theorem fo104_0 : foB Try.prog 104 0 = some 0 := by kernel_rfl
theorem fo104_1 : foB Try.prog 104 1 = some 1 := by kernel_rfl
theorem fo104_2 : foB Try.prog 104 2 = some 2 := by kernel_rfl
theorem tk105 : tkB Try.prog 105 = some (true, 2) := by kernel_rfl
theorem z105 : zeroB Try.prog 105 = some (Go.Value.agg #[(Go.Value.slice Option.none 0 0), (Go.Value.slice Option.none 0 0)]) := by kernel_rfl
theorem rw105 : rowB Try.prog 105 = some ((Go.Value.agg #[(Go.Value.slice Option.none 0 0), (Go.Value.slice Option.none 0 0)]), 2, 48) := by kernel_rfl
theorem un105 : (Try.prog.underlying 105).isSome = true := by kernel_rfl
theorem fo105_0 : foB Try.prog 105 0 = some 0 := by kernel_rfl
theorem tk106 : tkB Try.prog 106 = some (true, 2) := by kernel_rfl
theorem z106 : zeroB Try.prog 106 = some (Go.Value.agg #[(Go.Value.slice Option.none 0 0), (Go.Value.slice Option.none 0 0)]) := by kernel_rfl
theorem rw106 : rowB Try.prog 106 = some ((Go.Value.agg #[(Go.Value.slice Option.none 0 0), (Go.Value.slice Option.none 0 0)]), 2, 48) := by kernel_rfl
theorem un106 : (Try.prog.underlying 106).isSome = true := by kernel_rfl
theorem fo106_0 : foB Try.prog 106 0 = some 0 := by kernel_rfl
theorem tk107 : tkB Try.prog 107 = some (false, 1) := by kernel_rfl
theorem z107 : zeroB Try.prog 107 = some Go.Value.nilFunc := by kernel_rfl
theorem rw107 : rowB Try.prog 107 = some (Go.Value.nilFunc, 1, 8) := by kernel_rfl
theorem un107 : (Try.prog.underlying 107).isSome = true := by kernel_rfl
theorem tk108 : tkB Try.prog 108 = some (false, 1) := by kernel_rfl
theorem z108 : zeroB Try.prog 108 = some Go.Value.nilFunc := by kernel_rfl
theorem rw108 : rowB Try.prog 108 = some (Go.Value.nilFunc, 1, 8) := by kernel_rfl
theorem un108 : (Try.prog.underlying 108).isSome = true := by kernel_rfl
theorem tk109 : tkB Try.prog 109 = some (false, 1) := by kernel_rfl
theorem z109 : zeroB Try.prog 109 = some Go.Value.nilFunc := by kernel_rfl
theorem rw109 : rowB Try.prog 109 = some (Go.Value.nilFunc, 1, 8) := by kernel_rfl
theorem un109 : (Try.prog.underlying 109).isSome = true := by kernel_rfl
theorem tk110 : tkB Try.prog 110 = some (false, 1) := by kernel_rfl
theorem z110 : zeroB Try.prog 110 = some Go.Value.nilFunc := by kernel_rfl
theorem rw110 : rowB Try.prog 110 = some (Go.Value.nilFunc, 1, 8) := by kernel_rfl
theorem un110 : (Try.prog.underlying 110).isSome = true := by kernel_rfl
theorem tk111 : tkB Try.prog 111 = some (false, 1) := by kernel_rfl
theorem z111 : zeroB Try.prog 111 = some Go.Value.nilFunc := by kernel_rfl
theorem rw111 : rowB Try.prog 111 = some (Go.Value.nilFunc, 1, 8) := by kernel_rfl
theorem un111 : (Try.prog.underlying 111).isSome = true := by kernel_rfl
theorem tk112 : tkB Try.prog 112 = some (false, 1) := by kernel_rfl
theorem z112 : zeroB Try.prog 112 = some (Go.Value.slice Option.none 0 0) := by kernel_rfl
theorem rw112 : rowB Try.prog 112 = some ((Go.Value.slice Option.none 0 0), 1, 24) := by kernel_rfl
theorem un112 : (Try.prog.underlying 112).isSome = true := by kernel_rfl
theorem tk113 : tkB Try.prog 113 = some (false, 1) := by kernel_rfl
theorem z113 : zeroB Try.prog 113 = some Go.Value.nilFunc := by kernel_rfl
theorem rw113 : rowB Try.prog 113 = some (Go.Value.nilFunc, 1, 8) := by kernel_rfl
theorem un113 : (Try.prog.underlying 113).isSome = true := by kernel_rfl
theorem tk114 : tkB Try.prog 114 = some (false, 1) := by kernel_rfl
theorem z114 : zeroB Try.prog 114 = some Go.Value.nilFunc := by kernel_rfl
theorem rw114 : rowB Try.prog 114 = some (Go.Value.nilFunc, 1, 8) := by kernel_rfl
theorem un114 : (Try.prog.underlying 114).isSome = true := by kernel_rfl
theorem tk115 : tkB Try.prog 115 = some (false, 1) := by kernel_rfl
theorem z115 : zeroB Try.prog 115 = some Go.Value.nilFunc := by kernel_rfl
theorem rw115 : rowB Try.prog 115 = some (Go.Value.nilFunc, 1, 8) := by kernel_rfl
theorem un115 : (Try.prog.underlying 115).isSome = true := by kernel_rfl
theorem tk116 : tkB Try.prog 116 = some (false, 1) := by kernel_rfl
theorem z116 : zeroB Try.prog 116 = some Go.Value.nilFunc := by kernel_rfl
theorem rw116 : rowB Try.prog 116 = some (Go.Value.nilFunc, 1, 8) := by kernel_rfl
theorem un116 : (Try.prog.underlying 116).isSome = true := by kernel_rfl
theorem tk117 : tkB Try.prog 117 = some (false, 1) := by kernel_rfl
theorem z117 : zeroB Try.prog 117 = some (Go.Value.slice Option.none 0 0) := by kernel_rfl
theorem rw117 : rowB Try.prog 117 = some ((Go.Value.slice Option.none 0 0), 1, 24) := by kernel_rfl
theorem un117 : (Try.prog.underlying 117).isSome = true := by kernel_rfl
theorem tk118 : tkB Try.prog 118 = some (false, 1) := by kernel_rfl
theorem z118 : zeroB Try.prog 118 = some Go.Value.nilFunc := by kernel_rfl
theorem rw118 : rowB Try.prog 118 = some (Go.Value.nilFunc, 1, 8) := by kernel_rfl
theorem un118 : (Try.prog.underlying 118).isSome = true := by kernel_rfl
theorem tk119 : tkB Try.prog 119 = some (true, 2) := by kernel_rfl
theorem z119 : zeroB Try.prog 119 = some (Go.Value.agg #[(Go.Value.int Go.IntKind.i64 0), (Go.Value.int Go.IntKind.i64 0)]) := by kernel_rfl
theorem rw119 : rowB Try.prog 119 = some ((Go.Value.agg #[(Go.Value.int Go.IntKind.i64 0), (Go.Value.int Go.IntKind.i64 0)]), 2, 16) := by kernel_rfl
theorem un119 : (Try.prog.underlying 119).isSome = true := by kernel_rfl
theorem tk120 : tkB Try.prog 120 = some (false, 1) := by kernel_rfl
theorem z120 : zeroB Try.prog 120 = some Go.Value.nilFunc := by kernel_rfl
theorem rw120 : rowB Try.prog 120 = some (Go.Value.nilFunc, 1, 8) := by kernel_rfl
theorem un120 : (Try.prog.underlying 120).isSome = true := by kernel_rfl
theorem tk121 : tkB Try.prog 121 = some (true, 3) := by kernel_rfl
theorem z121 : zeroB Try.prog 121 = some (Go.Value.agg #[(Go.Value.int Go.IntKind.i64 0), (Go.Value.int Go.IntKind.i64 0), (Go.Value.int Go.IntKind.i64 0)]) := by kernel_rfl
theorem rw121 : rowB Try.prog 121 = some ((Go.Value.agg #[(Go.Value.int Go.IntKind.i64 0), (Go.Value.int Go.IntKind.i64 0), (Go.Value.int Go.IntKind.i64 0)]), 3, 24) := by kernel_rfl
theorem un121 : (Try.prog.underlying 121).isSome = true := by kernel_rfl
theorem tk122 : tkB Try.prog 122 = some (true, 3) := by kernel_rfl
theorem z122 : zeroB Try.prog 122 = some (Go.Value.agg #[(Go.Value.int Go.IntKind.i64 0), (Go.Value.int Go.IntKind.i64 0), (Go.Value.int Go.IntKind.i64 0)]) := by kernel_rfl
theorem rw122 : rowB Try.prog 122 = some ((Go.Value.agg #[(Go.Value.int Go.IntKind.i64 0), (Go.Value.int Go.IntKind.i64 0), (Go.Value.int Go.IntKind.i64 0)]), 3, 24) := by kernel_rfl
theorem un122 : (Try.prog.underlying 122).isSome = true := by kernel_rfl
theorem tk123 : tkB Try.prog 123 = some (false, 1) := by kernel_rfl
theorem z123 : zeroB Try.prog 123 = some Go.Value.nilFunc := by kernel_rfl
theorem rw123 : rowB Try.prog 123 = some (Go.Value.nilFunc, 1, 8) := by kernel_rfl
theorem un123 : (Try.prog.underlying 123).isSome = true := by kernel_rfl
theorem tk124 : tkB Try.prog 124 = some (false, 1) := by kernel_rfl
theorem z124 : zeroB Try.prog 124 = some (Go.Value.map Option.none) := by kernel_rfl
theorem rw124 : rowB Try.prog 124 = some ((Go.Value.map Option.none), 1, 8) := by kernel_rfl
theorem un124 : (Try.prog.underlying 124).isSome = true := by kernel_rfl
theorem tk125 : tkB Try.prog 125 = some (false, 1) := by kernel_rfl
theorem z125 : zeroB Try.prog 125 = some Go.Value.nilFunc := by kernel_rfl
theorem rw125 : rowB Try.prog 125 = some (Go.Value.nilFunc, 1, 8) := by kernel_rfl
theorem un125 : (Try.prog.underlying 125).isSome = true := by kernel_rfl
theorem tk126 : tkB Try.prog 126 = some (false, 1) := by kernel_rfl
theorem z126 : zeroB Try.prog 126 = some Go.Value.nilFunc := by kernel_rfl
theorem rw126 : rowB Try.prog 126 = some (Go.Value.nilFunc, 1, 8) := by kernel_rfl
theorem un126 : (Try.prog.underlying 126).isSome = true := by kernel_rfl
theorem tk127 : tkB Try.prog 127 = some (false, 1) := by kernel_rfl
theorem z127 : zeroB Try.prog 127 = some Go.Value.nilFunc := by kernel_rfl
theorem rw127 : rowB Try.prog 127 = some (Go.Value.nilFunc, 1, 8) := by kernel_rfl
theorem un127 : (Try.prog.underlying 127).isSome = true := by kernel_rfl
theorem tk128 : tkB Try.prog 128 = some (false, 1) := by kernel_rfl
theorem z128 : zeroB Try.prog 128 = some Go.Value.nilFunc := by kernel_rfl
theorem rw128 : rowB Try.prog 128 = some (Go.Value.nilFunc, 1, 8) := by kernel_rfl
theorem un128 : (Try.prog.underlying 128).isSome = true := by kernel_rfl
theorem tk129 : tkB Try.prog 129 = some (false, 1) := by kernel_rfl
theorem z129 : zeroB Try.prog 129 = some Go.Value.nilFunc := by kernel_rfl
theorem rw129 : rowB Try.prog 129 = some (Go.Value.nilFunc, 1, 8) := by kernel_rfl
theorem un129 : (Try.prog.underlying 129).isSome = true := by kernel_rfl
theorem tk130 : tkB Try.prog 130 = some (true, 16) := by kernel_rfl
theorem z130 : zeroB Try.prog 130 = some (Go.Value.agg #[(Go.Value.int Go.IntKind.i64 0), (Go.Value.int Go.IntKind.i64 0), (Go.Value.int Go.IntKind.i64 0), (Go.Value.int Go.IntKind.i64 0), (Go.Value.int Go.IntKind.i64 0), (Go.Value.int Go.IntKind.i64 0), (Go.Value.int Go.IntKind.i64 0), (Go.Value.int Go.IntKind.i64 0), (Go.Value.int Go.IntKind.i64 0), (Go.Value.int Go.IntKind.i64 0), (Go.Value.int Go.IntKind.i64 0), (Go.Value.int Go.IntKind.i64 0), (Go.Value.int Go.IntKind.i64 0), (Go.Value.int Go.IntKind.i64 0), (Go.Value.int Go.IntKind.i64 0), (Go.Value.int Go.IntKind.i64 0)]) := by kernel_rfl
theorem rw130 : rowB Try.prog 130 = some ((Go.Value.agg #[(Go.Value.int Go.IntKind.i64 0), (Go.Value.int Go.IntKind.i64 0), (Go.Value.int Go.IntKind.i64 0), (Go.Value.int Go.IntKind.i64 0), (Go.Value.int Go.IntKind.i64 0), (Go.Value.int Go.IntKind.i64 0), (Go.Value.int Go.IntKind.i64 0), (Go.Value.int Go.IntKind.i64 0), (Go.Value.int Go.IntKind.i64 0), (Go.Value.int Go.IntKind.i64 0), (Go.Value.int Go.IntKind.i64 0), (Go.Value.int Go.IntKind.i64 0), (Go.Value.int Go.IntKind.i64 0), (Go.Value.int Go.IntKind.i64 0), (Go.Value.int Go.IntKind.i64 0), (Go.Value.int Go.IntKind.i64 0)]), 16, 128) := by kernel_rfl
theorem un130 : (Try.prog.underlying 130).isSome = true := by kernel_rfl
theorem tk131 : tkB Try.prog 131 = some (true, 16) := by kernel_rfl
theorem z131 : zeroB Try.prog 131 = some (Go.Value.agg #[(Go.Value.int Go.IntKind.i64 0), (Go.Value.int Go.IntKind.i64 0), (Go.Value.int Go.IntKind.i64 0), (Go.Value.int Go.IntKind.i64 0), (Go.Value.int Go.IntKind.i64 0), (Go.Value.int Go.IntKind.i64 0), (Go.Value.int Go.IntKind.i64 0), (Go.Value.int Go.IntKind.i64 0), (Go.Value.int Go.IntKind.i64 0), (Go.Value.int Go.IntKind.i64 0), (Go.Value.int Go.IntKind.i64 0), (Go.Value.int Go.IntKind.i64 0), (Go.Value.int Go.IntKind.i64 0), (Go.Value.int Go.IntKind.i64 0), (Go.Value.int Go.IntKind.i64 0), (Go.Value.int Go.IntKind.i64 0)]) := by kernel_rfl
theorem rw131 : rowB Try.prog 131 = some ((Go.Value.agg #[(Go.Value.int Go.IntKind.i64 0), (Go.Value.int Go.IntKind.i64 0), (Go.Value.int Go.IntKind.i64 0), (Go.Value.int Go.IntKind.i64 0), (Go.Value.int Go.IntKind.i64 0), (Go.Value.int Go.IntKind.i64 0), (Go.Value.int Go.IntKind.i64 0), (Go.Value.int Go.IntKind.i64 0), (Go.Value.int Go.IntKind.i64 0), (Go.Value.int Go.IntKind.i64 0), (Go.Value.int Go.IntKind.i64 0), (Go.Value.int Go.IntKind.i64 0), (Go.Value.int Go.IntKind.i64 0), (Go.Value.int Go.IntKind.i64 0), (Go.Value.int Go.IntKind.i64 0), (Go.Value.int Go.IntKind.i64 0)]), 16, 128) := by kernel_rfl
theorem un131 : (Try.prog.underlying 131).isSome = true := by kernel_rfl
theorem tk132 : tkB Try.prog 132 = some (false, 1) := by kernel_rfl
theorem z132 : zeroB Try.prog 132 = some (Go.Value.slice Option.none 0 0) := by kernel_rfl
theorem rw132 : rowB Try.prog 132 = some ((Go.Value.slice Option.none 0 0), 1, 24) := by kernel_rfl
theorem un132 : (Try.prog.underlying 132).isSome = true := by kernel_rfl
theorem tk133 : tkB Try.prog 133 = some (false, 1) := by kernel_rfl
theorem z133 : zeroB Try.prog 133 = some Go.Value.nilFunc := by kernel_rfl
theorem rw133 : rowB Try.prog 133 = some (Go.Value.nilFunc, 1, 8) := by kernel_rfl
theorem un133 : (Try.prog.underlying 133).isSome = true := by kernel_rfl
theorem tk134 : tkB Try.prog 134 = some (false, 1) := by kernel_rfl
theorem z134 : zeroB Try.prog 134 = some Go.Value.nilFunc := by kernel_rfl
theorem rw134 : rowB Try.prog 134 = some (Go.Value.nilFunc, 1, 8) := by kernel_rfl
theorem un134 : (Try.prog.underlying 134).isSome = true := by kernel_rfl
theorem tk135 : tkB Try.prog 135 = some (false, 1) := by kernel_rfl
theorem z135 : zeroB Try.prog 135 = some Go.Value.nilFunc := by kernel_rfl
theorem rw135 : rowB Try.prog 135 = some (Go.Value.nilFunc, 1, 8) := by kernel_rfl
theorem un135 : (Try.prog.underlying 135).isSome = true := by kernel_rfl
theorem tk136 : tkB Try.prog 136 = some (false, 1) := by kernel_rfl
theorem z136 : zeroB Try.prog 136 = some Go.Value.nilFunc := by kernel_rfl
theorem rw136 : rowB Try.prog 136 = some (Go.Value.nilFunc, 1, 8) := by kernel_rfl
theorem un136 : (Try.prog.underlying 136).isSome = true := by kernel_rfl
theorem tk137 : tkB Try.prog 137 = some (false, 1) := by kernel_rfl
theorem z137 : zeroB Try.prog 137 = some Go.Value.nilFunc := by kernel_rfl
theorem rw137 : rowB Try.prog 137 = some (Go.Value.nilFunc, 1, 8) := by kernel_rfl
theorem un137 : (Try.prog.underlying 137).isSome = true := by kernel_rfl
theorem tk138 : tkB Try.prog 138 = some (false, 1) := by kernel_rfl
theorem z138 : zeroB Try.prog 138 = some Go.Value.nilFunc := by kernel_rfl
theorem rw138 : rowB Try.prog 138 = some (Go.Value.nilFunc, 1, 8) := by kernel_rfl
theorem un138 : (Try.prog.underlying 138).isSome = true := by kernel_rfl
theorem tk139 : tkB Try.prog 139 = some (false, 1) := by kernel_rfl
theorem z139 : zeroB Try.prog 139 = some Go.Value.nilFunc := by kernel_rfl
theorem rw139 : rowB Try.prog 139 = some (Go.Value.nilFunc, 1, 8) := by kernel_rfl
theorem un139 : (Try.prog.underlying 139).isSome = true := by kernel_rfl
theorem tk140 : tkB Try.prog 140 = some (true, 4) := by kernel_rfl
theorem z140 : zeroB Try.prog 140 = some (Go.Value.agg #[(Go.Value.pointer Option.none), (Go.Value.pointer Option.none), (Go.Value.pointer Option.none), (Go.Value.string (ByteArray.mk #[]))]) := by kernel_rfl
theorem rw140 : rowB Try.prog 140 = some ((Go.Value.agg #[(Go.Value.pointer Option.none), (Go.Value.pointer Option.none), (Go.Value.pointer Option.none), (Go.Value.string (ByteArray.mk #[]))]), 4, 40) := by kernel_rfl
theorem un140 : (Try.prog.underlying 140).isSome = true := by kernel_rfl
theorem fo140_0 : foB Try.prog 140 0 = some 0 := by kernel_rfl
theorem fo140_1 : foB Try.prog 140 1 = some 1 := by kernel_rfl
theorem fo140_2 : foB Try.prog 140 2 = some 2 := by kernel_rfl
theorem fo140_3 : foB Try.prog 140 3 = some 3 := by kernel_rfl
theorem tk141 : tkB Try.prog 141 = some (true, 4) := by kernel_rfl
theorem z141 : zeroB Try.prog 141 = some (Go.Value.agg #[(Go.Value.pointer Option.none), (Go.Value.pointer Option.none), (Go.Value.pointer Option.none), (Go.Value.string (ByteArray.mk #[]))]) := by kernel_rfl
theorem rw141 : rowB Try.prog 141 = some ((Go.Value.agg #[(Go.Value.pointer Option.none), (Go.Value.pointer Option.none), (Go.Value.pointer Option.none), (Go.Value.string (ByteArray.mk #[]))]), 4, 40) := by kernel_rfl
theorem un141 : (Try.prog.underlying 141).isSome = true := by kernel_rfl
theorem fo141_0 : foB Try.prog 141 0 = some 0 := by kernel_rfl
theorem fo141_1 : foB Try.prog 141 1 = some 1 := by kernel_rfl
theorem fo141_2 : foB Try.prog 141 2 = some 2 := by kernel_rfl
theorem fo141_3 : foB Try.prog 141 3 = some 3 := by kernel_rfl
theorem tk142 : tkB Try.prog 142 = some (true, 0) := by kernel_rfl
theorem z142 : zeroB Try.prog 142 = some (Go.Value.agg #[]) := by kernel_rfl
theorem rw142 : rowB Try.prog 142 = some ((Go.Value.agg #[]), 0, 0) := by kernel_rfl
theorem un142 : (Try.prog.underlying 142).isSome = true := by kernel_rfl
theorem tk143 : tkB Try.prog 143 = some (true, 0) := by kernel_rfl
theorem z143 : zeroB Try.prog 143 = some (Go.Value.agg #[]) := by kernel_rfl
theorem rw143 : rowB Try.prog 143 = some ((Go.Value.agg #[]), 0, 0) := by kernel_rfl
theorem un143 : (Try.prog.underlying 143).isSome = true := by kernel_rfl
theorem tk144 : tkB Try.prog 144 = some (true, 0) := by kernel_rfl
theorem z144 : zeroB Try.prog 144 = some (Go.Value.agg #[]) := by kernel_rfl
theorem rw144 : rowB Try.prog 144 = some ((Go.Value.agg #[]), 0, 0) := by kernel_rfl
theorem un144 : (Try.prog.underlying 144).isSome = true := by kernel_rfl
theorem tk145 : tkB Try.prog 145 = some (false, 1) := by kernel_rfl
theorem z145 : zeroB Try.prog 145 = some Go.Value.nilFunc := by kernel_rfl
theorem rw145 : rowB Try.prog 145 = some (Go.Value.nilFunc, 1, 8) := by kernel_rfl
theorem un145 : (Try.prog.underlying 145).isSome = true := by kernel_rfl
theorem tk146 : tkB Try.prog 146 = some (false, 1) := by kernel_rfl
theorem z146 : zeroB Try.prog 146 = some (Go.Value.int Go.IntKind.u32 0) := by kernel_rfl
theorem rw146 : rowB Try.prog 146 = some ((Go.Value.int Go.IntKind.u32 0), 1, 4) := by kernel_rfl
theorem un146 : (Try.prog.underlying 146).isSome = true := by kernel_rfl
theorem tk147 : tkB Try.prog 147 = some (false, 1) := by kernel_rfl
theorem z147 : zeroB Try.prog 147 = some (Go.Value.int Go.IntKind.u8 0) := by kernel_rfl
theorem rw147 : rowB Try.prog 147 = some ((Go.Value.int Go.IntKind.u8 0), 1, 1) := by kernel_rfl
theorem un147 : (Try.prog.underlying 147).isSome = true := by kernel_rfl
theorem tk148 : tkB Try.prog 148 = some (false, 1) := by kernel_rfl
theorem z148 : zeroB Try.prog 148 = some (Go.Value.int Go.IntKind.u8 0) := by kernel_rfl
theorem rw148 : rowB Try.prog 148 = some ((Go.Value.int Go.IntKind.u8 0), 1, 1) := by kernel_rfl
theorem un148 : (Try.prog.underlying 148).isSome = true := by kernel_rfl
theorem tk149 : tkB Try.prog 149 = some (false, 1) := by kernel_rfl
theorem z149 : zeroB Try.prog 149 = some Go.Value.nilFunc := by kernel_rfl
theorem rw149 : rowB Try.prog 149 = some (Go.Value.nilFunc, 1, 8) := by kernel_rfl
theorem un149 : (Try.prog.underlying 149).isSome = true := by kernel_rfl
theorem tk150 : tkB Try.prog 150 = some (false, 1) := by kernel_rfl
theorem z150 : zeroB Try.prog 150 = some (Go.Value.pointer Option.none) := by kernel_rfl
theorem rw150 : rowB Try.prog 150 = some ((Go.Value.pointer Option.none), 1, 8) := by kernel_rfl
theorem un150 : (Try.prog.underlying 150).isSome = true := by kernel_rfl
theorem tk151 : tkB Try.prog 151 = some (false, 1) := by kernel_rfl
theorem z151 : zeroB Try.prog 151 = some (Go.Value.int Go.IntKind.i32 0) := by kernel_rfl
theorem rw151 : rowB Try.prog 151 = some ((Go.Value.int Go.IntKind.i32 0), 1, 4) := by kernel_rfl
theorem un151 : (Try.prog.underlying 151).isSome = true := by kernel_rfl
theorem tk152 : tkB Try.prog 152 = some (false, 1) := by kernel_rfl
theorem z152 : zeroB Try.prog 152 = some (Go.Value.int Go.IntKind.i32 0) := by kernel_rfl
theorem rw152 : rowB Try.prog 152 = some ((Go.Value.int Go.IntKind.i32 0), 1, 4) := by kernel_rfl
theorem un152 : (Try.prog.underlying 152).isSome = true := by kernel_rfl
theorem tk153 : tkB Try.prog 153 = some (true, 11) := by kernel_rfl
theorem z153 : zeroB Try.prog 153 = some (Go.Value.agg #[(Go.Value.int Go.IntKind.u64 0), (Go.Value.int Go.IntKind.u64 0), (Go.Value.int Go.IntKind.u32 0), (Go.Value.int Go.IntKind.u8 0), (Go.Value.int Go.IntKind.u8 0), (Go.Value.int Go.IntKind.u8 0), (Go.Value.int Go.IntKind.u8 0), Go.Value.nilFunc, (Go.Value.pointer Option.none), (Go.Value.int Go.IntKind.i32 0), (Go.Value.int Go.IntKind.i32 0)]) := by kernel_rfl
theorem rw153 : rowB Try.prog 153 = some ((Go.Value.agg #[(Go.Value.int Go.IntKind.u64 0), (Go.Value.int Go.IntKind.u64 0), (Go.Value.int Go.IntKind.u32 0), (Go.Value.int Go.IntKind.u8 0), (Go.Value.int Go.IntKind.u8 0), (Go.Value.int Go.IntKind.u8 0), (Go.Value.int Go.IntKind.u8 0), Go.Value.nilFunc, (Go.Value.pointer Option.none), (Go.Value.int Go.IntKind.i32 0), (Go.Value.int Go.IntKind.i32 0)]), 11, 48) := by kernel_rfl
theorem un153 : (Try.prog.underlying 153).isSome = true := by kernel_rfl
theorem fo153_0 : foB Try.prog 153 0 = some 0 := by kernel_rfl
theorem fo153_1 : foB Try.prog 153 1 = some 1 := by kernel_rfl
theorem fo153_2 : foB Try.prog 153 2 = some 2 := by kernel_rfl
theorem fo153_3 : foB Try.prog 153 3 = some 3 := by kernel_rfl
theorem fo153_4 : foB Try.prog 153 4 = some 4 := by kernel_rfl
theorem fo153_5 : foB Try.prog 153 5 = some 5 := by kernel_rfl
theorem fo153_6 : foB Try.prog 153 6 = some 6 := by kernel_rfl
theorem fo153_7 : foB Try.prog 153 7 = some 7 := by kernel_rfl
theorem fo153_8 : foB Try.prog 153 8 = some 8 := by kernel_rfl
theorem fo153_9 : foB Try.prog 153 9 = some 9 := by kernel_rfl
theorem fo153_10 : foB Try.prog 153 10 = some 10 := by kernel_rfl
theorem tk154 : tkB Try.prog 154 = some (true, 11) := by kernel_rfl
theorem z154 : zeroB Try.prog 154 = some (Go.Value.agg #[(Go.Value.int Go.IntKind.u64 0), (Go.Value.int Go.IntKind.u64 0), (Go.Value.int Go.IntKind.u32 0), (Go.Value.int Go.IntKind.u8 0), (Go.Value.int Go.IntKind.u8 0), (Go.Value.int Go.IntKind.u8 0), (Go.Value.int Go.IntKind.u8 0), Go.Value.nilFunc, (Go.Value.pointer Option.none), (Go.Value.int Go.IntKind.i32 0), (Go.Value.int Go.IntKind.i32 0)]) := by kernel_rfl
theorem rw154 : rowB Try.prog 154 = some ((Go.Value.agg #[(Go.Value.int Go.IntKind.u64 0), (Go.Value.int Go.IntKind.u64 0), (Go.Value.int Go.IntKind.u32 0), (Go.Value.int Go.IntKind.u8 0), (Go.Value.int Go.IntKind.u8 0), (Go.Value.int Go.IntKind.u8 0), (Go.Value.int Go.IntKind.u8 0), Go.Value.nilFunc, (Go.Value.pointer Option.none), (Go.Value.int Go.IntKind.i32 0), (Go.Value.int Go.IntKind.i32 0)]), 11, 48) := by kernel_rfl
theorem un154 : (Try.prog.underlying 154).isSome = true := by kernel_rfl
theorem fo154_0 : foB Try.prog 154 0 = some 0 := by kernel_rfl
theorem fo154_1 : foB Try.prog 154 1 = some 1 := by kernel_rfl
theorem fo154_2 : foB Try.prog 154 2 = some 2 := by kernel_rfl
theorem fo154_3 : foB Try.prog 154 3 = some 3 := by kernel_rfl
theorem fo154_4 : foB Try.prog 154 4 = some 4 := by kernel_rfl
theorem fo154_5 : foB Try.prog 154 5 = some 5 := by kernel_rfl
theorem fo154_6 : foB Try.prog 154 6 = some 6 := by kernel_rfl
theorem fo154_7 : foB Try.prog 154 7 = some 7 := by kernel_rfl
theorem fo154_8 : foB Try.prog 154 8 = some 8 := by kernel_rfl
theorem fo154_9 : foB Try.prog 154 9 = some 9 := by kernel_rfl
theorem fo154_10 : foB Try.prog 154 10 = some 10 := by kernel_rfl
theorem tk155 : tkB Try.prog 155 = some (false, 1) := by kernel_rfl
theorem z155 : zeroB Try.prog 155 = some (Go.Value.pointer Option.none) := by kernel_rfl
theorem rw155 : rowB Try.prog 155 = some ((Go.Value.pointer Option.none), 1, 8) := by kernel_rfl
theorem un155 : (Try.prog.underlying 155).isSome = true := by kernel_rfl
theorem ok2 : CallOk Try.prog 2 := callOk_of Try.func2 (by kernel_rfl) (by kernel_rfl)
theorem ok3 : CallOk Try.prog 3 := callOk_of Try.func3 (by kernel_rfl) (by kernel_rfl)
theorem ok4 : CallOk Try.prog 4 := callOk_of Try.func4 (by kernel_rfl) (by kernel_rfl)
theorem ok5 : CallOk Try.prog 5 := callOk_of Try.func5 (by kernel_rfl) (by kernel_rfl)
theorem ok6 : CallOk Try.prog 6 := callOk_of Try.func6 (by kernel_rfl) (by kernel_rfl)
theorem ok7 : CallOk Try.prog 7 := callOk_of Try.func7 (by kernel_rfl) (by kernel_rfl)
theorem ok8 : CallOk Try.prog 8 := callOk_of Try.func8 (by kernel_rfl) (by kernel_rfl)
theorem ok9 : CallOk Try.prog 9 := callOk_of Try.func9 (by kernel_rfl) (by kernel_rfl)
theorem ok10 : CallOk Try.prog 10 := callOk_of Try.func10 (by kernel_rfl) (by kernel_rfl)
theorem ok11 : CallOk Try.prog 11 := callOk_of Try.func11 (by kernel_rfl) (by kernel_rfl)
theorem ok12 : CallOk Try.prog 12 := callOk_of Try.func12 (by kernel_rfl) (by kernel_rfl)
theorem ok13 : CallOk Try.prog 13 := callOk_of Try.func13 (by kernel_rfl) (by kernel_rfl)
theorem ok14 : CallOk Try.prog 14 := callOk_of Try.func14 (by kernel_rfl) (by kernel_rfl)
theorem ok15 : CallOk Try.prog 15 := callOk_of Try.func15 (by kernel_rfl) (by kernel_rfl)
theorem ok16 : CallOk Try.prog 16 := callOk_of Try.func16 (by kernel_rfl) (by kernel_rfl)
theorem ok17 : CallOk Try.prog 17 := callOk_of Try.func17 (by kernel_rfl) (by kernel_rfl)
theorem ok18 : CallOk Try.prog 18 := callOk_of Try.func18 (by kernel_rfl) (by kernel_rfl)
theorem ok19 : CallOk Try.prog 19 := callOk_of Try.func19 (by kernel_rfl) (by kernel_rfl)
theorem ok20 : CallOk Try.prog 20 := callOk_of Try.func20 (by kernel_rfl) (by kernel_rfl)
theorem ok21 : CallOk Try.prog 21 := callOk_of Try.func21 (by kernel_rfl) (by kernel_rfl)
theorem ok22 : CallOk Try.prog 22 := callOk_of Try.func22 (by kernel_rfl) (by kernel_rfl)
theorem ok23 : CallOk Try.prog 23 := callOk_of Try.func23 (by kernel_rfl) (by kernel_rfl)
theorem ok24 : CallOk Try.prog 24 := callOk_of Try.func24 (by kernel_rfl) (by kernel_rfl)
theorem ok25 : CallOk Try.prog 25 := callOk_of Try.func25 (by kernel_rfl) (by kernel_rfl)
theorem ok26 : CallOk Try.prog 26 := callOk_of Try.func26 (by kernel_rfl) (by kernel_rfl)
theorem ok27 : CallOk Try.prog 27 := callOk_of Try.func27 (by kernel_rfl) (by kernel_rfl)
theorem ok28 : CallOk Try.prog 28 := callOk_of Try.func28 (by kernel_rfl) (by kernel_rfl)
theorem ok29 : CallOk Try.prog 29 := callOk_of Try.func29 (by kernel_rfl) (by kernel_rfl)
theorem ok30 : CallOk Try.prog 30 := callOk_of Try.func30 (by kernel_rfl) (by kernel_rfl)
theorem ok31 : CallOk Try.prog 31 := callOk_of Try.func31 (by kernel_rfl) (by kernel_rfl)
theorem ok32 : CallOk Try.prog 32 := callOk_of Try.func32 (by kernel_rfl) (by kernel_rfl)
theorem ok33 : CallOk Try.prog 33 := callOk_of Try.func33 (by kernel_rfl) (by kernel_rfl)
theorem ok34 : CallOk Try.prog 34 := callOk_of Try.func34 (by kernel_rfl) (by kernel_rfl)
theorem ok35 : CallOk Try.prog 35 := callOk_of Try.func35 (by kernel_rfl) (by kernel_rfl)
theorem ok36 : CallOk Try.prog 36 := callOk_of Try.func36 (by kernel_rfl) (by kernel_rfl)
theorem ok37 : CallOk Try.prog 37 := callOk_of Try.func37 (by kernel_rfl) (by kernel_rfl)
theorem ok38 : CallOk Try.prog 38 := callOk_of Try.func38 (by kernel_rfl) (by kernel_rfl)
theorem ok39 : CallOk Try.prog 39 := callOk_of Try.func39 (by kernel_rfl) (by kernel_rfl)
theorem ok40 : CallOk Try.prog 40 := callOk_of Try.func40 (by kernel_rfl) (by kernel_rfl)
theorem ok41 : CallOk Try.prog 41 := callOk_of Try.func41 (by kernel_rfl) (by kernel_rfl)
theorem ok42 : CallOk Try.prog 42 := callOk_of Try.func42 (by kernel_rfl) (by kernel_rfl)
theorem ok43 : CallOk Try.prog 43 := callOk_of Try.func43 (by kernel_rfl) (by kernel_rfl)
theorem ok44 : CallOk Try.prog 44 := callOk_of Try.func44 (by kernel_rfl) (by kernel_rfl)
theorem ok45 : CallOk Try.prog 45 := callOk_of Try.func45 (by kernel_rfl) (by kernel_rfl)
theorem ok46 : CallOk Try.prog 46 := callOk_of Try.func46 (by kernel_rfl) (by kernel_rfl)
theorem ok47 : CallOk Try.prog 47 := callOk_of Try.func47 (by kernel_rfl) (by kernel_rfl)
theorem ok48 : CallOk Try.prog 48 := callOk_of Try.func48 (by kernel_rfl) (by kernel_rfl)
theorem ok49 : CallOk Try.prog 49 := callOk_of Try.func49 (by kernel_rfl) (by kernel_rfl)
theorem ok50 : CallOk Try.prog 50 := callOk_of Try.func50 (by kernel_rfl) (by kernel_rfl)
theorem ok51 : CallOk Try.prog 51 := callOk_of Try.func51 (by kernel_rfl) (by kernel_rfl)
theorem ok52 : CallOk Try.prog 52 := callOk_of Try.func52 (by kernel_rfl) (by kernel_rfl)
theorem ok53 : CallOk Try.prog 53 := callOk_of Try.func53 (by kernel_rfl) (by kernel_rfl)
theorem ok54 : CallOk Try.prog 54 := callOk_of Try.func54 (by kernel_rfl) (by kernel_rfl)
theorem ok55 : CallOk Try.prog 55 := callOk_of Try.func55 (by kernel_rfl) (by kernel_rfl)
theorem ok56 : CallOk Try.prog 56 := callOk_of Try.func56 (by kernel_rfl) (by kernel_rfl)
theorem ok57 : CallOk Try.prog 57 := callOk_of Try.func57 (by kernel_rfl) (by kernel_rfl)
theorem ok58 : CallOk Try.prog 58 := callOk_of Try.func58 (by kernel_rfl) (by kernel_rfl)
theorem ok59 : CallOk Try.prog 59 := callOk_of Try.func59 (by kernel_rfl) (by kernel_rfl)
theorem ok60 : CallOk Try.prog 60 := callOk_of Try.func60 (by kernel_rfl) (by kernel_rfl)
theorem ok61 : CallOk Try.prog 61 := callOk_of Try.func61 (by kernel_rfl) (by kernel_rfl)
theorem ok62 : CallOk Try.prog 62 := callOk_of Try.func62 (by kernel_rfl) (by kernel_rfl)
theorem ok63 : CallOk Try.prog 63 := callOk_of Try.func63 (by kernel_rfl) (by kernel_rfl)
theorem ok64 : CallOk Try.prog 64 := callOk_of Try.func64 (by kernel_rfl) (by kernel_rfl)
theorem ok65 : CallOk Try.prog 65 := callOk_of Try.func65 (by kernel_rfl) (by kernel_rfl)
theorem ok66 : CallOk Try.prog 66 := callOk_of Try.func66 (by kernel_rfl) (by kernel_rfl)
theorem ok67 : CallOk Try.prog 67 := callOk_of Try.func67 (by kernel_rfl) (by kernel_rfl)
theorem ok68 : CallOk Try.prog 68 := callOk_of Try.func68 (by kernel_rfl) (by kernel_rfl)
theorem ok69 : CallOk Try.prog 69 := callOk_of Try.func69 (by kernel_rfl) (by kernel_rfl)
theorem ok70 : CallOk Try.prog 70 := callOk_of Try.func70 (by kernel_rfl) (by kernel_rfl)
theorem ok71 : CallOk Try.prog 71 := callOk_of Try.func71 (by kernel_rfl) (by kernel_rfl)
theorem ok72 : CallOk Try.prog 72 := callOk_of Try.func72 (by kernel_rfl) (by kernel_rfl)
theorem ok73 : CallOk Try.prog 73 := callOk_of Try.func73 (by kernel_rfl) (by kernel_rfl)
theorem ok74 : CallOk Try.prog 74 := callOk_of Try.func74 (by kernel_rfl) (by kernel_rfl)
theorem ok75 : CallOk Try.prog 75 := callOk_of Try.func75 (by kernel_rfl) (by kernel_rfl)
theorem ok76 : CallOk Try.prog 76 := callOk_of Try.func76 (by kernel_rfl) (by kernel_rfl)
theorem ok77 : CallOk Try.prog 77 := callOk_of Try.func77 (by kernel_rfl) (by kernel_rfl)
theorem ok78 : CallOk Try.prog 78 := callOk_of Try.func78 (by kernel_rfl) (by kernel_rfl)
theorem ok79 : CallOk Try.prog 79 := callOk_of Try.func79 (by kernel_rfl) (by kernel_rfl)
theorem ok80 : CallOk Try.prog 80 := callOk_of Try.func80 (by kernel_rfl) (by kernel_rfl)
theorem ok81 : CallOk Try.prog 81 := callOk_of Try.func81 (by kernel_rfl) (by kernel_rfl)
theorem ok82 : CallOk Try.prog 82 := callOk_of Try.func82 (by kernel_rfl) (by kernel_rfl)
theorem ok83 : CallOk Try.prog 83 := callOk_of Try.func83 (by kernel_rfl) (by kernel_rfl)
theorem ok84 : CallOk Try.prog 84 := callOk_of Try.func84 (by kernel_rfl) (by kernel_rfl)
theorem ok85 : CallOk Try.prog 85 := callOk_of Try.func85 (by kernel_rfl) (by kernel_rfl)
theorem ok86 : CallOk Try.prog 86 := callOk_of Try.func86 (by kernel_rfl) (by kernel_rfl)
theorem ok87 : CallOk Try.prog 87 := callOk_of Try.func87 (by kernel_rfl) (by kernel_rfl)
theorem ok88 : CallOk Try.prog 88 := callOk_of Try.func88 (by kernel_rfl) (by kernel_rfl)
theorem ok89 : CallOk Try.prog 89 := callOk_of Try.func89 (by kernel_rfl) (by kernel_rfl)
theorem ok90 : CallOk Try.prog 90 := callOk_of Try.func90 (by kernel_rfl) (by kernel_rfl)
theorem ok91 : CallOk Try.prog 91 := callOk_of Try.func91 (by kernel_rfl) (by kernel_rfl)
theorem ok92 : CallOk Try.prog 92 := callOk_of Try.func92 (by kernel_rfl) (by kernel_rfl)
theorem ok93 : CallOk Try.prog 93 := callOk_of Try.func93 (by kernel_rfl) (by kernel_rfl)
theorem ok94 : CallOk Try.prog 94 := callOk_of Try.func94 (by kernel_rfl) (by kernel_rfl)
theorem ok95 : CallOk Try.prog 95 := callOk_of Try.func95 (by kernel_rfl) (by kernel_rfl)
theorem ok96 : CallOk Try.prog 96 := callOk_of Try.func96 (by kernel_rfl) (by kernel_rfl)
theorem ok97 : CallOk Try.prog 97 := callOk_of Try.func97 (by kernel_rfl) (by kernel_rfl)
theorem ok98 : CallOk Try.prog 98 := callOk_of Try.func98 (by kernel_rfl) (by kernel_rfl)
theorem bd27  (w : World) : (Instr.build 27 #[]).run Try.prog w = .ok (.agg #[(Go.Value.int Go.IntKind.i64 0), (Go.Value.int Go.IntKind.i64 0), (Go.Value.int Go.IntKind.i64 0)]) w := by kernel_rfl
theorem bd45  (w : World) : (Instr.build 45 #[]).run Try.prog w = .ok (.agg #[(Go.Value.int Go.IntKind.i64 0), (Go.Value.int Go.IntKind.i64 0), (Go.Value.int Go.IntKind.i64 0), (Go.Value.int Go.IntKind.i64 0)]) w := by kernel_rfl
theorem bs22_1_0 (x1 : Int) (w : World) : (Instr.buildSlice 22 1 #[(0, (.int .i64 x1))]).run Try.prog w = .ok (.slice (some ⟨w.heap.size, 0, none⟩) 1 1) (w.alloc (LC [(.int .i64 x1)] 2)) := by kernel_rfl
theorem bs23_1_0 (x1 : Int) (x2 : Int) (w : World) : (Instr.buildSlice 23 1 #[(0, (.agg #[(.int .i64 x1), (.int .i64 x2)]))]).run Try.prog w = .ok (.slice (some ⟨w.heap.size, 0, none⟩) 1 1) (w.alloc (LC [(.int .i64 x1), (.int .i64 x2)] 69)) := by kernel_rfl
theorem bd25_0 (x1 : Option Addr) (x2 : Nat) (x3 : Nat) (w : World) : (Instr.build 25 #[(0, (.slice x1 x2 x3))]).run Try.prog w = .ok (.agg #[(.slice x1 x2 x3), (Go.Value.slice Option.none 0 0)]) w := by kernel_rfl
theorem bd25_1 (x1 : Option Addr) (x2 : Nat) (x3 : Nat) (w : World) : (Instr.build 25 #[(1, (.slice x1 x2 x3))]).run Try.prog w = .ok (.agg #[(Go.Value.slice Option.none 0 0), (.slice x1 x2 x3)]) w := by kernel_rfl
theorem bd53_0_1_2 (x1 : Option Addr) (x2 : Nat) (x3 : Nat) (x4 : Option Addr) (x5 : Nat) (x6 : Nat) (x7 : Option Addr) (x8 : Nat) (x9 : Nat) (w : World) : (Instr.build 53 #[(0, (.slice x1 x2 x3)), (1, (.slice x4 x5 x6)), (2, (.slice x7 x8 x9))]).run Try.prog w = .ok (.agg #[(.slice x1 x2 x3), (.slice x4 x5 x6), (.slice x7 x8 x9)]) w := by kernel_rfl
theorem bd25  (w : World) : (Instr.build 25 #[]).run Try.prog w = .ok (.agg #[(Go.Value.slice Option.none 0 0), (Go.Value.slice Option.none 0 0)]) w := by kernel_rfl
theorem bd31  (w : World) : (Instr.build 31 #[]).run Try.prog w = .ok (.agg #[(Go.Value.int Go.IntKind.i64 0), (Go.Value.int Go.IntKind.i64 0)]) w := by kernel_rfl
theorem bs112_1_0 (x1 : Option Addr) (x2 : Nat) (x3 : Nat) (w : World) : (Instr.buildSlice 112 1 #[(0, (.slice x1 x2 x3))]).run Try.prog w = .ok (.slice (some ⟨w.heap.size, 0, none⟩) 1 1) (w.alloc (LC [(.slice x1 x2 x3)] 23)) := by kernel_rfl
theorem bs22_2_0_1 (x1 : Int) (x2 : Int) (w : World) : (Instr.buildSlice 22 2 #[(0, (.int .i64 x1)), (1, (.int .i64 x2))]).run Try.prog w = .ok (.slice (some ⟨w.heap.size, 0, none⟩) 2 2) (w.alloc (LC [(.int .i64 x1), (.int .i64 x2)] 2)) := by kernel_rfl
theorem bs22_3_0_1_2 (x1 : Int) (x2 : Int) (x3 : Int) (w : World) : (Instr.buildSlice 22 3 #[(0, (.int .i64 x1)), (1, (.int .i64 x2)), (2, (.int .i64 x3))]).run Try.prog w = .ok (.slice (some ⟨w.heap.size, 0, none⟩) 3 3) (w.alloc (LC [(.int .i64 x1), (.int .i64 x2), (.int .i64 x3)] 2)) := by kernel_rfl
theorem bd69_0_1 (x1 : Int) (x2 : Int) (w : World) : (Instr.build 69 #[(0, (.int .i64 x1)), (1, (.int .i64 x2))]).run Try.prog w = .ok (.agg #[(.int .i64 x1), (.int .i64 x2)]) w := by kernel_rfl
theorem bd25_0_1 (x1 : Option Addr) (x2 : Nat) (x3 : Nat) (x4 : Option Addr) (x5 : Nat) (x6 : Nat) (w : World) : (Instr.build 25 #[(0, (.slice x1 x2 x3)), (1, (.slice x4 x5 x6))]).run Try.prog w = .ok (.agg #[(.slice x1 x2 x3), (.slice x4 x5 x6)]) w := by kernel_rfl
theorem bd106_0 (x1 : Option Addr) (x2 : Nat) (x3 : Nat) (x4 : Option Addr) (x5 : Nat) (x6 : Nat) (w : World) : (Instr.build 106 #[(0, (.agg #[(.slice x1 x2 x3), (.slice x4 x5 x6)]))]).run Try.prog w = .ok (.agg #[(.slice x1 x2 x3), (.slice x4 x5 x6)]) w := by kernel_rfl
theorem bs112_2_0_1 (x1 : Option Addr) (x2 : Nat) (x3 : Nat) (x4 : Option Addr) (x5 : Nat) (x6 : Nat) (w : World) : (Instr.buildSlice 112 2 #[(0, (.slice x1 x2 x3)), (1, (.slice x4 x5 x6))]).run Try.prog w = .ok (.slice (some ⟨w.heap.size, 0, none⟩) 2 2) (w.alloc (LC [(.slice x1 x2 x3), (.slice x4 x5 x6)] 23)) := by kernel_rfl
theorem bd45_0_1_2_3 (x1 : Int) (x2 : Int) (x3 : Int) (x4 : Int) (w : World) : (Instr.build 45 #[(0, (.int .i64 x1)), (1, (.int .i64 x2)), (2, (.int .i64 x3)), (3, (.int .i64 x4))]).run Try.prog w = .ok (.agg #[(.int .i64 x1), (.int .i64 x2), (.int .i64 x3), (.int .i64 x4)]) w := by kernel_rfl
theorem bd27_0_1_2 (x1 : Int) (x2 : Int) (x3 : Int) (w : World) : (Instr.build 27 #[(0, (.int .i64 x1)), (1, (.int .i64 x2)), (2, (.int .i64 x3))]).run Try.prog w = .ok (.agg #[(.int .i64 x1), (.int .i64 x2), (.int .i64 x3)]) w := by kernel_rfl
theorem bd31_0_1 (x1 : Int) (x2 : Int) (w : World) : (Instr.build 31 #[(0, (.int .i64 x1)), (1, (.int .i64 x2))]).run Try.prog w = .ok (.agg #[(.int .i64 x1), (.int .i64 x2)]) w := by kernel_rfl
theorem bs22_6_0_1_2_3_4_5 (x1 : Int) (x2 : Int) (x3 : Int) (x4 : Int) (x5 : Int) (x6 : Int) (w : World) : (Instr.buildSlice 22 6 #[(0, (.int .i64 x1)), (1, (.int .i64 x2)), (2, (.int .i64 x3)), (3, (.int .i64 x4)), (4, (.int .i64 x5)), (5, (.int .i64 x6))]).run Try.prog w = .ok (.slice (some ⟨w.heap.size, 0, none⟩) 6 6) (w.alloc (LC [(.int .i64 x1), (.int .i64 x2), (.int .i64 x3), (.int .i64 x4), (.int .i64 x5), (.int .i64 x6)] 2)) := by kernel_rfl
theorem bs22_4_0_1_2_3 (x1 : Int) (x2 : Int) (x3 : Int) (x4 : Int) (w : World) : (Instr.buildSlice 22 4 #[(0, (.int .i64 x1)), (1, (.int .i64 x2)), (2, (.int .i64 x3)), (3, (.int .i64 x4))]).run Try.prog w = .ok (.slice (some ⟨w.heap.size, 0, none⟩) 4 4) (w.alloc (LC [(.int .i64 x1), (.int .i64 x2), (.int .i64 x3), (.int .i64 x4)] 2)) := by kernel_rfl
theorem bs23_3_0_1_2 (x1 : Int) (x2 : Int) (x3 : Int) (x4 : Int) (x5 : Int) (x6 : Int) (w : World) : (Instr.buildSlice 23 3 #[(0, (.agg #[(.int .i64 x1), (.int .i64 x2)])), (1, (.agg #[(.int .i64 x3), (.int .i64 x4)])), (2, (.agg #[(.int .i64 x5), (.int .i64 x6)]))]).run Try.prog w = .ok (.slice (some ⟨w.heap.size, 0, none⟩) 3 3) (w.alloc (LC [(.int .i64 x1), (.int .i64 x2), (.int .i64 x3), (.int .i64 x4), (.int .i64 x5), (.int .i64 x6)] 69)) := by kernel_rfl
theorem bd122_0_1_2 (x1 : Int) (x2 : Int) (x3 : Int) (w : World) : (Instr.build 122 #[(0, (.int .i64 x1)), (1, (.int .i64 x2)), (2, (.int .i64 x3))]).run Try.prog w = .ok (.agg #[(.int .i64 x1), (.int .i64 x2), (.int .i64 x3)]) w := by kernel_rfl
theorem bd122  (w : World) : (Instr.build 122 #[]).run Try.prog w = .ok (.agg #[(Go.Value.int Go.IntKind.i64 0), (Go.Value.int Go.IntKind.i64 0), (Go.Value.int Go.IntKind.i64 0)]) w := by kernel_rfl
theorem bs117_1_0 (x1 : Int) (x2 : Int) (x3 : Int) (x4 : Int) (w : World) : (Instr.buildSlice 117 1 #[(0, (.agg #[(.int .i64 x1), (.int .i64 x2), (.int .i64 x3), (.int .i64 x4)]))]).run Try.prog w = .ok (.slice (some ⟨w.heap.size, 0, none⟩) 1 1) (w.alloc (LC [(.int .i64 x1), (.int .i64 x2), (.int .i64 x3), (.int .i64 x4)] 45)) := by kernel_rfl
theorem bs132_1_0 (x1 : Int) (x2 : Int) (w : World) : (Instr.buildSlice 132 1 #[(0, (.agg #[(.int .i64 x1), (.int .i64 x2)]))]).run Try.prog w = .ok (.slice (some ⟨w.heap.size, 0, none⟩) 1 1) (w.alloc (LC [(.int .i64 x1), (.int .i64 x2)] 31)) := by kernel_rfl
theorem bd104_0_1_2 (x1 : Int) (x2 : Int) (x3 : Int) (w : World) : (Instr.build 104 #[(0, (.int .i64 x1)), (1, (.int .i64 x2)), (2, (.int .i64 x3))]).run Try.prog w = .ok (.agg #[(.int .i64 x1), (.int .i64 x2), (.int .i64 x3)]) w := by kernel_rfl
theorem bs100_1_0 (x1 : Int) (x2 : Int) (x3 : Int) (w : World) : (Instr.buildSlice 100 1 #[(0, (.agg #[(.int .i64 x1), (.int .i64 x2), (.int .i64 x3)]))]).run Try.prog w = .ok (.slice (some ⟨w.heap.size, 0, none⟩) 1 1) (w.alloc (LC [(.int .i64 x1), (.int .i64 x2), (.int .i64 x3)] 104)) := by kernel_rfl
theorem bs22_0  (w : World) : (Instr.buildSlice 22 0 #[]).run Try.prog w = .ok (.slice (some ⟨w.heap.size, 0, none⟩) 0 0) (w.alloc (LC [] 2)) := by kernel_rfl
theorem bd45_0_1_2 (x1 : Int) (x2 : Int) (x3 : Int) (w : World) : (Instr.build 45 #[(0, (.int .i64 x1)), (1, (.int .i64 x2)), (2, (.int .i64 x3))]).run Try.prog w = .ok (.agg #[(.int .i64 x1), (.int .i64 x2), (.int .i64 x3), (Go.Value.int Go.IntKind.i64 0)]) w := by kernel_rfl
theorem bs117_2_0_1 (x1 : Int) (x2 : Int) (x3 : Int) (x4 : Int) (x5 : Int) (x6 : Int) (x7 : Int) (x8 : Int) (w : World) : (Instr.buildSlice 117 2 #[(0, (.agg #[(.int .i64 x1), (.int .i64 x2), (.int .i64 x3), (.int .i64 x4)])), (1, (.agg #[(.int .i64 x5), (.int .i64 x6), (.int .i64 x7), (.int .i64 x8)]))]).run Try.prog w = .ok (.slice (some ⟨w.heap.size, 0, none⟩) 2 2) (w.alloc (LC [(.int .i64 x1), (.int .i64 x2), (.int .i64 x3), (.int .i64 x4), (.int .i64 x5), (.int .i64 x6), (.int .i64 x7), (.int .i64 x8)] 45)) := by kernel_rfl
theorem bd119_0_1 (x1 : Int) (x2 : Int) (w : World) : (Instr.build 119 #[(0, (.int .i64 x1)), (1, (.int .i64 x2))]).run Try.prog w = .ok (.agg #[(.int .i64 x1), (.int .i64 x2)]) w := by kernel_rfl
theorem ffm : Try.prog.follows .mixedOrders = true := by kernel_rfl
end Go.Proofs.Ytnionkopmncopaa
namespace Go.Pl

structure Rg where
  lo : Int
  hi : Int
  deriving DecidableEq
structure Rt where
  num : Int
  den : Int
  deriving DecidableEq
structure Ln where
  den : Int
  start : Int
  step : Int
  deriving DecidableEq
structure Pf where
  f : Int
  m : Int
  l : Int
  s : Int
  deriving DecidableEq
structure Lg where
  pl : List Int
  ed : List Rg
structure Rough where
  pl : List Int
  low : List Rg
  high : List Rg

abbrev iv (x : Int) : Value := .int .i64 x
abbrev rge (r : Rg) : List Value := [iv r.lo, iv r.hi]
abbrev rgv (r : Rg) : Value := .agg #[iv r.lo, iv r.hi]
abbrev rte (r : Rt) : List Value := [iv r.num, iv r.den]
abbrev rtv (r : Rt) : Value := .agg #[iv r.num, iv r.den]
abbrev lnv (r : Ln) : Value := .agg #[iv r.den, iv r.start, iv r.step]
abbrev pfe (r : Pf) : List Value := [iv r.f, iv r.m, iv r.l, iv r.s]
abbrev pfv (r : Pf) : Value := .agg #[iv r.f, iv r.m, iv r.l, iv r.s]

/-- A fraction in least terms. -/
def rat (num den : Int) : Rt := ⟨num.tdiv (Int.gcd num den), den.tdiv (Int.gcd num den)⟩
def lessB (a b : Rt) : Bool := decide (a.num * b.den < b.num * a.den)

/-- The first of several that is better than all before it. -/
def bestOf {α : Type} (lt : α → α → Bool) (out : α) (l : List α) : α := l.foldl (fun o x => if lt x o then x else o) out
theorem bestOf_snoc {α : Type} (lt : α → α → Bool) (out : α) (l : List α) (x : α) : bestOf lt out (l ++ [x]) = if lt x (bestOf lt out l) then x else bestOf lt out l := by
  unfold bestOf; rw [List.foldl_append]; rfl

theorem bestOf_mem {α : Type} (lt : α → α → Bool) (out : α) : ∀ (l : List α) (k : Nat), bestOf lt out (l.take k) ∈ out :: l := by
  have key : ∀ (l : List α) (out : α), bestOf lt out l ∈ out :: l := by
    intro l
    induction l with
    | nil => intro out; simp [bestOf]
    | cons x l ih =>
      intro out
      have e : bestOf lt out (x :: l) = bestOf lt (if lt x out then x else out) l := rfl
      have := ih (if lt x out then x else out)
      rw [e]
      by_cases hx : lt x out = true
      · rw [if_pos hx] at this ⊢; exact List.mem_cons_of_mem _ this
      · rw [if_neg hx] at this ⊢
        rcases List.mem_cons.1 this with h | h
        · rw [h]; exact List.mem_cons_self
        · exact List.mem_cons_of_mem _ (List.mem_cons_of_mem _ h)
  intro l k
  have := key (l.take k) out
  simp only [List.mem_cons] at this ⊢
  rcases this with h | h
  · exact .inl h
  · exact .inr (List.mem_of_mem_take h)

theorem tmod_nat (x y : Nat) : Int.tmod (x : Int) (y : Int) = ((x % y : Nat) : Int) := by
  rw [Int.tmod_eq_emod_of_nonneg (by omega)]; rfl

theorem tdiv_le (a b : Int) : (a.tdiv b).natAbs ≤ a.natAbs := by
  rw [Int.natAbs_tdiv]; exact Nat.div_le_self _ _
theorem fit_tdiv {a b : Int} (h1 : -4611686018427387904 ≤ a) (h2 : a ≤ 4611686018427387904) : Go.Lw.Fit (a.tdiv b) := by
  have := tdiv_le a b
  exact ⟨by omega, by omega⟩

/-- All of l lie from lo to hi. -/
def outB (lo hi : Int) (n : Int) : Bool := decide (n < lo) || decide (hi < n)
def wi (lo hi : Int) (l : List Int) : Bool := !(l.any (outB lo hi))
def strayB (r : Rg) : Bool := !(wi (-1000) 1000 [r.lo, r.hi]) || decide (r.hi < r.lo)
/-- Each is greater than the one before it. -/
def incB (pl : List Int) : Bool := (List.range (pl.length - 1)).all fun i => decide (pl.getD i 0 < pl.getD (i + 1) 0)
/-- The error of places, with lists of edges. -/
def placedE (pl : List Int) (es : List (List Rg)) : Int :=
  if wi 2 8 [(pl.length : Int)] = false then 6
  else if es.any (fun l => decide (l.length ≠ pl.length)) then 15
  else if es.any (fun l => l.any strayB) then 3
  else if wi 0 100 pl = false then 3
  else if incB pl = false then 16 else 0
def logE (l : Lg) : Int := placedE l.pl [l.ed]
def roughE (r : Rough) : Int := if placedE r.pl [r.low, r.high] ≠ 0 then placedE r.pl [r.low, r.high] else if (r.low.zip r.high).any (fun p => decide (p.2.lo < p.1.hi)) then 16 else 0
def lineE (x : Ln) : Int := if wi 1 100000 [x.den] = false ∨ wi (-68719476736) 68719476736 [x.start, x.step] = false then 3 else 0

theorem incB_true {pl : List Int} : incB pl = true ↔ ∀ i, i + 1 < pl.length → pl.getD i 0 < pl.getD (i + 1) 0 := by
  unfold incB
  rw [List.all_eq_true]
  constructor
  · intro h i hi; have := h i (by simp; omega); simpa using this
  · intro h i hi; simp at hi; simpa using h i (by omega)
theorem incB_false {pl : List Int} {i : Nat} (hi : i + 1 < pl.length) (h : pl.getD (i + 1) 0 ≤ pl.getD i 0) : incB pl = false := by
  cases hb : incB pl with
  | false => rfl
  | true => have := incB_true.1 hb i hi; omega

theorem strayB_iff (r : Rg) : strayB r = (!(decide (-1000 ≤ r.lo) && decide (r.lo ≤ r.hi) && decide (r.hi ≤ 1000))) := by
  rw [Bool.eq_iff_iff]; simp [strayB, wi, outB]; omega

/-- A valid log. -/
structure LgOk (L : Lg) : Prop where
  n2 : 2 ≤ L.pl.length
  n8 : L.pl.length ≤ 8
  el : L.ed.length = L.pl.length
  at0 : ∀ x ∈ L.pl, 0 ≤ x ∧ x ≤ 100
  edge : ∀ r ∈ L.ed, -1000 ≤ r.lo ∧ r.lo ≤ r.hi ∧ r.hi ≤ 1000
  inc : ∀ i, i + 1 < L.pl.length → L.pl.getD i 0 < L.pl.getD (i + 1) 0

theorem logE_ok {L : Lg} (h : logE L = 0) : LgOk L := by
  unfold logE placedE at h
  by_cases c1 : wi 2 8 [(L.pl.length : Int)] = false
  · rw [if_pos c1] at h; cases h
  rw [if_neg c1] at h
  by_cases c2 : [L.ed].any (fun l => decide (l.length ≠ L.pl.length)) = true
  · rw [if_pos c2] at h; cases h
  rw [if_neg c2] at h
  by_cases c3 : [L.ed].any (fun l => l.any strayB) = true
  · rw [if_pos c3] at h; cases h
  rw [if_neg c3] at h
  by_cases c4 : wi 0 100 L.pl = false
  · rw [if_pos c4] at h; cases h
  rw [if_neg c4] at h
  by_cases c5 : incB L.pl = false
  · rw [if_pos c5] at h; cases h
  have hn : 2 ≤ L.pl.length ∧ L.pl.length ≤ 8 := by simp [wi, outB] at c1; omega
  refine ⟨hn.1, hn.2, by simpa using c2, fun x hx => ?_, fun r hr => ?_, incB_true.1 (by simpa using c5)⟩
  · simp [wi] at c4
    have := c4 x hx
    simp [outB] at this; omega
  · simp at c3
    have := c3 r hr
    rw [strayB_iff] at this
    simp at this; omega

/-- What lies between a line and the edges, multiplied by the line's Den. -/
def devs (x : Ln) : List Int → List Rg → List Int
  | a :: pl, r :: ed => (x.start + x.step * a - r.lo * x.den) :: (r.hi * x.den - (x.start + x.step * a)) :: devs x pl ed
  | _, _ => []
def ltI (a b : Int) : Bool := decide (a < b)
def minL : List Int → Int
  | [] => 0
  | d :: l => bestOf ltI d l
def coreN (L : Lg) (x : Ln) : Int := minL (devs x L.pl L.ed)
def coreOf (L : Lg) (x : Ln) : Rt := rat (coreN L x) x.den

theorem devs_snoc (x : Ln) : ∀ (pl : List Int) (ed : List Rg) (k : Nat) (a : Int) (r : Rg), pl[k]? = some a → ed[k]? = some r →
    devs x (pl.take (k + 1)) (ed.take (k + 1)) = devs x (pl.take k) (ed.take k) ++ [x.start + x.step * a - r.lo * x.den, r.hi * x.den - (x.start + x.step * a)]
  | [], _, _, _, _, h, _ => by simp at h
  | _ :: _, [], _, _, _, _, h => by simp at h
  | b :: pl, q :: ed, 0, a, r, h1, h2 => by simp at h1 h2; subst h1; subst h2; simp [devs]
  | b :: pl, q :: ed, k + 1, a, r, h1, h2 => by
    simp only [List.getElem?_cons_succ] at h1 h2
    have := devs_snoc x pl ed k a r h1 h2
    simp only [List.take_succ_cons, devs, this, List.cons_append]
theorem devs_len (x : Ln) : ∀ (pl : List Int) (ed : List Rg), ed.length = pl.length → (devs x pl ed).length = 2 * pl.length
  | [], [], _ => rfl
  | _ :: pl, _ :: ed, h => by simp only [devs, List.length_cons, devs_len x pl ed (by simpa using h)]; omega
theorem devs_mem (x : Ln) : ∀ (pl : List Int) (ed : List Rg) (d : Int), d ∈ devs x pl ed → ∃ a ∈ pl, ∃ r ∈ ed, d = x.start + x.step * a - r.lo * x.den ∨ d = r.hi * x.den - (x.start + x.step * a)
  | [], _, d, h => by simp [devs] at h
  | _ :: _, [], d, h => by simp [devs] at h
  | a :: pl, r :: ed, d, h => by
    simp only [devs, List.mem_cons] at h
    rcases h with h | h | h
    · exact ⟨a, by simp, r, by simp, .inl h⟩
    · exact ⟨a, by simp, r, by simp, .inr h⟩
    · obtain ⟨b, hb, q, hq, h⟩ := devs_mem x pl ed d h
      exact ⟨b, List.mem_cons_of_mem _ hb, q, List.mem_cons_of_mem _ hq, h⟩

/-- A line of numbers that do not overflow. -/
structure LnB (x : Ln) : Prop where
  d0 : 0 < x.den
  d1 : x.den ≤ 1048576
  s0 : -1099511627776 ≤ x.start
  s1 : x.start ≤ 1099511627776
  p0 : -1099511627776 ≤ x.step
  p1 : x.step ≤ 1099511627776
theorem lineE_ok {x : Ln} (h : lineE x = 0) : LnB x := by
  unfold lineE at h
  by_cases c : wi 1 100000 [x.den] = false ∨ wi (-68719476736) 68719476736 [x.start, x.step] = false
  · rw [if_pos c] at h; cases h
  · simp [wi, outB] at c
    exact ⟨by omega, by omega, by omega, by omega, by omega, by omega⟩

theorem mul_bd {a b A B : Int} (hA : 0 ≤ A) (hB : 0 ≤ B) (h1 : -A ≤ a) (h2 : a ≤ A) (h3 : -B ≤ b) (h4 : b ≤ B) : -(A * B) ≤ a * b ∧ a * b ≤ A * B := by
  have ha : a.natAbs ≤ A.natAbs := by omega
  have hb : b.natAbs ≤ B.natAbs := by omega
  have h : (a * b).natAbs ≤ (A * B).natAbs := by rw [Int.natAbs_mul, Int.natAbs_mul]; exact Nat.mul_le_mul ha hb
  have hp : 0 ≤ A * B := Int.mul_nonneg hA hB
  omega
theorem dev_bd {x : Ln} (hx : LnB x) {a : Int} (ha : 0 ≤ a ∧ a ≤ 100) {r : Rg} (hr : -1000 ≤ r.lo ∧ r.lo ≤ r.hi ∧ r.hi ≤ 1000) :
    (-109951162777600 ≤ x.step * a ∧ x.step * a ≤ 109951162777600) ∧ (-1048576000 ≤ r.lo * x.den ∧ r.lo * x.den ≤ 1048576000) ∧ (-1048576000 ≤ r.hi * x.den ∧ r.hi * x.den ≤ 1048576000) := by
  obtain ⟨d0, d1, s0, s1, p0, p1⟩ := hx
  have k1 := mul_bd (a := x.step) (b := a) (A := 1099511627776) (B := 100) (by decide) (by decide) (by omega) (by omega) (by omega) (by omega)
  have k2 := mul_bd (a := r.lo) (b := x.den) (A := 1000) (B := 1048576) (by decide) (by decide) (by omega) (by omega) (by omega) (by omega)
  have k3 := mul_bd (a := r.hi) (b := x.den) (A := 1000) (B := 1048576) (by decide) (by decide) (by omega) (by omega) (by omega) (by omega)
  omega
theorem minL_bd {x : Ln} {L : Lg} (hx : LnB x) (hL : LgOk L) : -200000000000000 ≤ coreN L x ∧ coreN L x ≤ 200000000000000 := by
  unfold coreN
  have hne : devs x L.pl L.ed ≠ [] := fun e => by have := devs_len x L.pl L.ed hL.el; rw [e] at this; have := hL.n2; simp at *; omega
  have hmem : minL (devs x L.pl L.ed) ∈ devs x L.pl L.ed := by
    cases hd : devs x L.pl L.ed with
    | nil => exact absurd hd hne
    | cons d l => have := bestOf_mem ltI d l l.length; rw [List.take_length] at this; exact this
  obtain ⟨a, ha, r, hr, h⟩ := devs_mem x _ _ _ hmem
  have k := dev_bd hx (hL.at0 a ha) (hL.edge r hr)
  obtain ⟨d0, d1, s0, s1, p0, p1⟩ := hx
  rcases h with h | h <;> omega
theorem bestOf_two (o a b : Int) (l : List Int) (d : Int) (h : o = bestOf ltI d l) : bestOf ltI d (l ++ [a, b]) = if min a b < o then min a b else o := by
  have e : l ++ [a, b] = (l ++ [a]) ++ [b] := by simp
  rw [e, bestOf_snoc, bestOf_snoc, ← h]
  simp only [ltI, decide_eq_true_eq]
  by_cases h1 : a < o
  · rw [if_pos h1]; by_cases h2 : b < a
    · rw [if_pos h2, if_pos (by omega)]; omega
    · rw [if_neg h2, if_pos (by omega)]; omega
  · rw [if_neg h1]; by_cases h2 : b < o
    · rw [if_pos h2, if_pos (by omega)]; omega
    · rw [if_neg h2, if_neg (by omega)]

/-- What a reading of the error of places says. -/
theorem placedE_one (pl : List Int) (a b : List Rg) : placedE pl [a, b] = 
  (if (pl.length : Int) < 2 ∨ 8 < (pl.length : Int) then 6 else if a.length ≠ pl.length ∨ b.length ≠ pl.length then 15
   else if (∃ i : Nat, i < pl.length ∧ (pl.getD i 0 < 0 ∨ 100 < pl.getD i 0 ∨ strayB (a.getD i ⟨0, 0⟩) = true ∨ strayB (b.getD i ⟨0, 0⟩) = true)) then 3 else if incB pl = false then 16 else 0) := by
  have h1 : (wi 2 8 [(pl.length : Int)] = false) ↔ ((pl.length : Int) < 2 ∨ 8 < (pl.length : Int)) := by
    simp [wi, outB]
    omega
  have h2 : ([a, b].any (fun l => decide (l.length ≠ pl.length)) = true) ↔ (a.length ≠ pl.length ∨ b.length ≠ pl.length) := by simp
  unfold placedE
  simp only [h1, h2]
  by_cases c1 : (pl.length : Int) < 2 ∨ 8 < (pl.length : Int)
  · rw [if_pos c1, if_pos c1]
  rw [if_neg c1, if_neg c1]
  by_cases c2 : a.length ≠ pl.length ∨ b.length ≠ pl.length
  · rw [if_pos c2, if_pos c2]
  rw [if_neg c2, if_neg c2]
  have ea : a.length = pl.length := by omega
  have eb : b.length = pl.length := by omega
  have gi : ∀ {α : Type} (l : List α) (d : α) (p : α → Bool), l.any p = true ↔ ∃ i : Nat, i < l.length ∧ p (l.getD i d) = true := by
    intro α l d p
    rw [List.any_eq_true]
    constructor
    · rintro ⟨x, hx, hp⟩
      obtain ⟨i, hi, rfl⟩ := List.mem_iff_getElem.1 hx
      exact ⟨i, hi, by simpa [List.getD, List.getElem?_eq_getElem hi] using hp⟩
    · rintro ⟨i, hi, hp⟩
      exact ⟨l[i], List.getElem_mem hi, by simpa [List.getD, List.getElem?_eq_getElem hi] using hp⟩
  by_cases c3 : (∃ i : Nat, i < pl.length ∧ (pl.getD i 0 < 0 ∨ 100 < pl.getD i 0 ∨ strayB (a.getD i ⟨0, 0⟩) = true ∨ strayB (b.getD i ⟨0, 0⟩) = true))
  · rw [if_pos c3]
    by_cases c4 : [a, b].any (fun l => l.any strayB) = true
    · rw [if_pos c4]
    rw [if_neg c4, if_pos]
    obtain ⟨i, hi, h⟩ := c3
    have n1 : ¬ a.any strayB = true := fun h => c4 (by simp [h])
    have n2 : ¬ b.any strayB = true := fun h => c4 (by simp [h])
    have h' : outB 0 100 (pl.getD i 0) = true := by
      rcases h with h | h | h | h
      · simp only [outB, h, decide_true, Bool.true_or]
      · simp only [outB, h, decide_true, Bool.or_true]
      · exact absurd ((gi a ⟨0, 0⟩ strayB).2 ⟨i, by omega, h⟩) n1
      · exact absurd ((gi b ⟨0, 0⟩ strayB).2 ⟨i, by omega, h⟩) n2
    have := (gi pl 0 (outB 0 100)).2 ⟨i, hi, h'⟩
    simp [wi, this]
  · rw [if_neg c3]
    rw [if_neg, if_neg]
    · intro h
      have : pl.any (outB 0 100) = true := by simpa [wi] using h
      obtain ⟨i, hi, h⟩ := (gi pl 0 (outB 0 100)).1 this
      simp only [outB, Bool.or_eq_true, decide_eq_true_eq] at h
      exact c3 ⟨i, hi, by rcases h with h | h; exact .inl h; exact .inr (.inl h)⟩
    · intro h
      simp only [List.any_cons, List.any_nil, Bool.or_false, Bool.or_eq_true] at h
      rcases h with h | h
      · obtain ⟨i, hi, h⟩ := (gi a ⟨0, 0⟩ strayB).1 h
        exact c3 ⟨i, by omega, .inr (.inr (.inl h))⟩
      · obtain ⟨i, hi, h⟩ := (gi b ⟨0, 0⟩ strayB).1 h
        exact c3 ⟨i, by omega, .inr (.inr (.inr h))⟩
theorem placedE_two (pl : List Int) (a : List Rg) : placedE pl [a, a] = placedE pl [a] := by
  unfold placedE
  simp only [List.any_cons, List.any_nil, Bool.or_false, Bool.or_self]

end Go.Pl
set_option linter.unusedVariables false
namespace Go.Proofs.Ytnionkopmncopaa
open Go.Lw Go.Pl Go.RowKit

theorem less_f (a b : Rt) (V : View) (h1 : Fit (a.num * b.den)) (h2 : Fit (b.num * a.den)) :
    Fnc Try.prog 90 [rtv a, rtv b] V fun v _ => v = .bool (lessB a b) := by
  refine fn_of Try.func90 rfl Try.ntmps90 (Nat.le_of_ble_eq_true rfl) ?_
  intro w0 hw0
  refine At.nrm ?_
  refine At.ktext (.n false 0 (.n false 1 (.q 2 .done))) ?_
  refine AtT.kbox ?_
  intro b2
  refine AtT.kbox ?_
  intro b3
  refine AtT.kassign ?_
  refine AtT.done ?_
  refine At.nrm ?_
  refine At.ktext (.q 0 (.q 1 (.q 2 (.q 3 (.q 4 (.q 5 (.q 6 (.q 7 (.q 8 (.q 9 (.q 10 (.q 11 .done)))))))))))) ?_
  first | refine AtT.kfieldO fo31_0 ?_ | with_reducible refine AtT.kfield2 fo31_0 ?_ | refine AtT.kfield fo31_0 ?_
  first | refine AtT.kloadO tk2 ?_ | refine AtT.kload tk2 ?_
  first | refine AtT.kfieldO fo31_1 ?_ | with_reducible refine AtT.kfield2 fo31_1 ?_ | refine AtT.kfield fo31_1 ?_
  first | refine AtT.kloadO tk2 ?_ | refine AtT.kload tk2 ?_
  first | refine AtT.kmul ?_ | refine AtT.kmulW ?_
  first | refine AtT.kfieldO fo31_0 ?_ | with_reducible refine AtT.kfield2 fo31_0 ?_ | refine AtT.kfield fo31_0 ?_
  first | refine AtT.kloadO tk2 ?_ | refine AtT.kload tk2 ?_
  first | refine AtT.kfieldO fo31_1 ?_ | with_reducible refine AtT.kfield2 fo31_1 ?_ | refine AtT.kfield fo31_1 ?_
  first | refine AtT.kloadO tk2 ?_ | refine AtT.kload tk2 ?_
  first | refine AtT.kmul ?_ | refine AtT.kmulW ?_
  refine AtT.klss ?_
  refine AtT.kassign ?_
  refine AtT.done ?_
  refine At.nrm ?_
  exact At.ret1 rfl (.tmp rfl) rfl
theorem rless_f (a b : Rt) (V : View) (h1 : Fit (a.num * b.den)) (h2 : Fit (b.num * a.den)) :
    Fnc Try.prog 45 [rtv a, rtv b] V fun v _ => v = .bool (lessB a b) := by
  refine fn_of Try.func45 rfl Try.ntmps45 (Nat.le_of_ble_eq_true rfl) ?_
  intro w0 hw0
  refine At.nrm ?_
  refine At.ktext (.n false 0 (.n false 1 (.q 2 .done))) ?_
  refine AtT.kbox ?_
  intro b2
  refine AtT.kbox ?_
  intro b3
  refine AtT.kassign ?_
  refine AtT.done ?_
  refine At.nrm ?_
  refine At.ktext (.q 0 (.q 1 (.q 2 (.q 3 (.q 4 (.q 5 (.q 6 (.q 7 (.q 8 (.q 9 (.q 10 (.q 11 .done)))))))))))) ?_
  first | refine AtT.kfieldO fo31_0 ?_ | with_reducible refine AtT.kfield2 fo31_0 ?_ | refine AtT.kfield fo31_0 ?_
  first | refine AtT.kloadO tk2 ?_ | refine AtT.kload tk2 ?_
  first | refine AtT.kfieldO fo31_1 ?_ | with_reducible refine AtT.kfield2 fo31_1 ?_ | refine AtT.kfield fo31_1 ?_
  first | refine AtT.kloadO tk2 ?_ | refine AtT.kload tk2 ?_
  first | refine AtT.kmul ?_ | refine AtT.kmulW ?_
  first | refine AtT.kfieldO fo31_0 ?_ | with_reducible refine AtT.kfield2 fo31_0 ?_ | refine AtT.kfield fo31_0 ?_
  first | refine AtT.kloadO tk2 ?_ | refine AtT.kload tk2 ?_
  first | refine AtT.kfieldO fo31_1 ?_ | with_reducible refine AtT.kfield2 fo31_1 ?_ | refine AtT.kfield fo31_1 ?_
  first | refine AtT.kloadO tk2 ?_ | refine AtT.kload tk2 ?_
  first | refine AtT.kmul ?_ | refine AtT.kmulW ?_
  refine AtT.klss ?_
  refine AtT.kassign ?_
  refine AtT.done ?_
  refine At.nrm ?_
  exact At.ret1 rfl (.tmp rfl) rfl

theorem by_f (num den : Int) (V : View) (h1 : -4611686018427387904 ≤ num) (h2 : num ≤ 4611686018427387904) (h3 : 0 < den) (h4 : den ≤ 4611686018427387904) :
    Fnc Try.prog 76 [iv num, iv den] V fun v _ => v = rtv (rat num den) := by
  refine fn_of Try.func76 rfl Try.ntmps76 (Nat.le_of_ble_eq_true rfl) ?_
  intro w0 hw0
  refine At.nrm ?_
  refine At.ktext (.n false 0 .done) ?_
  refine AtT.kalloc z31 ?_
  intro b4
  refine AtT.done ?_
  refine At.nrm ?_
  refine At.ktext (.q 0 (.q 1 (.q 2 (.q 3 (.q 4 (.q 5 (.q 6 .done))))))) ?_
  refine AtT.kmove ?_
  refine AtT.kmove ?_
  first | refine AtT.kneg ?_ | refine AtT.knegW ?_
  refine AtT.kmax2 ?_
  refine AtT.kmove ?_
  refine AtT.kassign ?_
  refine AtT.kassign ?_
  refine AtT.done ?_
  refine At.nrm ?_
  refine At.lp (ι := Nat × Nat) (KS := fun g => [(0, iv num), (1, iv den), (4, .pointer (some ⟨b4, 0, none⟩)), (5, iv g.1), (6, iv g.2)]) (OS := fun _ => [.blk b4 (LC [iv 0, iv 0] 31)])
    (VS := fun g V' => V' = V ∧ Nat.gcd g.1 g.2 = Int.gcd num den ∧ (g.1 : Int) ≤ 4611686018427387904 ∧ (g.2 : Int) ≤ 4611686018427387904) (μ := fun g => g.2) (num.natAbs, den.natAbs) ?_ ?_ ?_ ?_
  · refine ⟨rfl, rfl, rfl, ?_, ?_, trivial⟩
    · show some (iv (max num (-num))) = some (iv (num.natAbs : Int)); congr 2; omega
    · show some (iv den) = some (iv (den.natAbs : Int)); congr 2; omega
  · exact Pt.auto
  · exact ⟨rfl, rfl, by show (num.natAbs : Int) ≤ _; omega, by show (den.natAbs : Int) ≤ _; omega⟩
  · rintro ⟨x, y⟩ V' ks' O' ⟨rfl, hg, hx, hy⟩ hk hO hl
    dsimp only at hg hx hy hk hO; subst hk hO
    refine At.nrm ?_
    refine At.ktext (.q 0 (.q 1 .done)) ?_
    refine AtT.kmove ?_
    refine AtT.kgtr ?_
    refine AtT.done ?_
    refine At.nrm ?_
    refine At.condP rfl (fun hp => ?_) (fun hp => ?_)
    · refine At.nrm ?_
      refine At.draw (.q 0 (.q 1 (.q 2 (.q 3 (.q 4 (.q 5 .done)))))) ffm (by kernel_rfl) ?_
      refine AtT.kmove ?_
      refine AtT.kmove ?_
      refine AtT.kmove ?_
      refine AtT.krem ?_
      refine AtT.kassign ?_
      refine AtT.kassign ?_
      refine AtT.done ?_
      refine At.nrm ?_
      have hm := Nat.mod_lt x (show 0 < y by omega)
      refine At.round (y, x % y) ?_ ?_ ?_ ?_
      · exact hm
      · refine ⟨rfl, ?_, hy, by show ((x % y : Nat) : Int) ≤ _; omega⟩
        rw [← hg]; show Nat.gcd y (x % y) = Nat.gcd x y; rw [Nat.gcd_comm y, ← Nat.gcd_rec, Nat.gcd_comm]
      · refine ⟨rfl, rfl, rfl, rfl, ?_, trivial⟩
        show some (iv (Int.tmod (x : Int) (y : Int))) = some (iv ((x % y : Nat) : Int)); rw [tmod_nat]
      · exact Pt.auto
    · have hy0 : y = 0 := by omega
      subst hy0
      have hg' : x = Int.gcd num den := by rw [← hg]; simp
      have hpos : 0 < Int.gcd num den := by rw [Int.gcd_pos_iff]; right; omega
      refine At.nrm ?_
      refine At.draw (.q 0 (.q 1 (.q 2 (.q 3 (.q 4 (.q 5 (.q 6 (.n true 7 .done)))))))) ffm (by kernel_rfl) ?_
      refine AtT.kmove ?_
      refine AtT.kmove ?_
      have hq1 : Fit (num.tdiv (x : Int)) := fit_tdiv h1 h2
      have hq2 : Fit (den.tdiv (x : Int)) := fit_tdiv (by omega) h4
      refine AtT.kquo ?_
      refine AtT.kmove ?_
      refine AtT.kmove ?_
      refine AtT.kquo ?_
      refine AtT.kbuild (bd31_0_1 _ _) ?_
      refine AtT.kstoreA tk31 ?_
      refine AtT.done ?_
      refine At.nrm ?_
      refine At.ret1 rfl (.agg rfl tk31 Pick.auto rfl) ?_
      subst hg'; rfl
end Go.Proofs.Ytnionkopmncopaa
set_option linter.unusedVariables false
namespace Go.Proofs.Ytnionkopmncopaa
open Go.Lw Go.Pl Go.RowKit

theorem by_r (num den : Int) (V : View) (h1 : -4611686018427387904 ≤ num) (h2 : num ≤ 4611686018427387904) (h3 : 0 < den) (h4 : den ≤ 4611686018427387904) :
    Fnc Try.prog 51 [iv num, iv den] V fun v _ => v = rtv (rat num den) := by
  refine fn_of Try.func51 rfl Try.ntmps51 (Nat.le_of_ble_eq_true rfl) ?_
  intro w0 hw0
  refine At.nrm ?_
  refine At.ktext (.n false 0 .done) ?_
  refine AtT.kalloc z31 ?_
  intro b4
  refine AtT.done ?_
  refine At.nrm ?_
  refine At.ktext (.q 0 (.q 1 (.q 2 (.q 3 (.q 4 (.q 5 (.q 6 .done))))))) ?_
  refine AtT.kmove ?_
  refine AtT.kmove ?_
  first | refine AtT.kneg ?_ | refine AtT.knegW ?_
  refine AtT.kmax2 ?_
  refine AtT.kmove ?_
  refine AtT.kassign ?_
  refine AtT.kassign ?_
  refine AtT.done ?_
  refine At.nrm ?_
  refine At.lp (ι := Nat × Nat) (KS := fun g => [(0, iv num), (1, iv den), (4, .pointer (some ⟨b4, 0, none⟩)), (5, iv g.1), (6, iv g.2)]) (OS := fun _ => [.blk b4 (LC [iv 0, iv 0] 31)])
    (VS := fun g V' => V' = V ∧ Nat.gcd g.1 g.2 = Int.gcd num den ∧ (g.1 : Int) ≤ 4611686018427387904 ∧ (g.2 : Int) ≤ 4611686018427387904) (μ := fun g => g.2) (num.natAbs, den.natAbs) ?_ ?_ ?_ ?_
  · refine ⟨rfl, rfl, rfl, ?_, ?_, trivial⟩
    · show some (iv (max num (-num))) = some (iv (num.natAbs : Int)); congr 2; omega
    · show some (iv den) = some (iv (den.natAbs : Int)); congr 2; omega
  · exact Pt.auto
  · exact ⟨rfl, rfl, by show (num.natAbs : Int) ≤ _; omega, by show (den.natAbs : Int) ≤ _; omega⟩
  · rintro ⟨x, y⟩ V' ks' O' ⟨rfl, hg, hx, hy⟩ hk hO hl
    dsimp only at hg hx hy hk hO; subst hk hO
    refine At.nrm ?_
    refine At.ktext (.q 0 (.q 1 .done)) ?_
    refine AtT.kmove ?_
    refine AtT.kneI ?_
    refine AtT.done ?_
    refine At.nrm ?_
    refine At.condP rfl (fun hp => ?_) (fun hp => ?_)
    · refine At.nrm ?_
      have hy0 : 0 < y := by omega
      refine At.draw (.q 0 (.q 1 (.q 2 (.q 3 (.q 4 (.q 5 .done)))))) ffm (by kernel_rfl) ?_
      refine AtT.kmove ?_
      refine AtT.kmove ?_
      refine AtT.kmove ?_
      refine AtT.krem ?_
      refine AtT.kassign ?_
      refine AtT.kassign ?_
      refine AtT.done ?_
      refine At.nrm ?_
      have hm := Nat.mod_lt x hy0
      refine At.round (y, x % y) ?_ ?_ ?_ ?_
      · exact hm
      · refine ⟨rfl, ?_, hy, by show ((x % y : Nat) : Int) ≤ _; omega⟩
        rw [← hg]; show Nat.gcd y (x % y) = Nat.gcd x y; rw [Nat.gcd_comm y, ← Nat.gcd_rec, Nat.gcd_comm]
      · refine ⟨rfl, rfl, rfl, rfl, ?_, trivial⟩
        show some (iv (Int.tmod (x : Int) (y : Int))) = some (iv ((x % y : Nat) : Int)); rw [tmod_nat]
      · exact Pt.auto
    · have hy0 : y = 0 := by omega
      subst hy0
      have hg' : x = Int.gcd num den := by rw [← hg]; simp
      have hpos : 0 < Int.gcd num den := by rw [Int.gcd_pos_iff]; right; omega
      refine At.nrm ?_
      refine At.draw (.q 0 (.q 1 (.q 2 (.q 3 (.q 4 (.q 5 (.q 6 (.n true 7 .done)))))))) ffm (by kernel_rfl) ?_
      refine AtT.kmove ?_
      refine AtT.kmove ?_
      have hq1 : Fit (num.tdiv (x : Int)) := fit_tdiv h1 h2
      have hq2 : Fit (den.tdiv (x : Int)) := fit_tdiv (by omega) h4
      refine AtT.kquo ?_
      refine AtT.kmove ?_
      refine AtT.kmove ?_
      refine AtT.kquo ?_
      refine AtT.kbuild (bd31_0_1 _ _) ?_
      refine AtT.kstoreA tk31 ?_
      refine AtT.done ?_
      refine At.nrm ?_
      refine At.ret1 rfl (.agg rfl tk31 Pick.auto rfl) ?_
      subst hg'; rfl

theorem lt_f (a b : Int) (V : View) : Fnc Try.prog 78 [iv a, iv b] V fun v _ => v = .bool (decide (a < b)) := by
  refine fn_of Try.func78 rfl Try.ntmps78 (Nat.le_of_ble_eq_true rfl) ?_
  intro w0 hw0
  refine At.nrm ?_
  refine At.ktext (.q 0 .done) ?_
  refine AtT.kassign ?_
  refine AtT.done ?_
  refine At.nrm ?_
  refine At.ktext (.q 0 (.q 1 (.q 2 (.q 3 .done)))) ?_
  refine AtT.kmove ?_
  refine AtT.kmove ?_
  refine AtT.klss ?_
  refine AtT.kassign ?_
  refine AtT.done ?_
  refine At.nrm ?_
  exact At.ret1 rfl (.tmp rfl) rfl

theorem best_i (g : FuncId) (cap : List Value) (lt : Int → Int → Bool) (V : View) (vl : Value) (x0 : Int) (l : List Int) (hs : SlI V vl (x0 :: l)) (hok : CallOk Try.prog g)
    (hc : ∀ x y, x ∈ x0 :: l → y ∈ x0 :: l → Fnc Try.prog g ([] ++ [iv x, iv y] ++ cap) V (fun v _ => v = .bool (lt x y))) :
    Fnc Try.prog 77 [vl, .func (.func g) #[] cap.toArray] V fun v _ => v = iv (bestOf lt x0 l) := by
  have hlen := hs.lenLe
  simp only [List.length_cons] at hlen
  refine fn_of Try.func77 rfl Try.ntmps77 (Nat.le_of_ble_eq_true rfl) ?_
  intro w0 hw0
  refine At.nrm ?_
  refine At.ktext (.q 0 .done) ?_
  refine AtT.kassign ?_
  refine AtT.done ?_
  refine At.nrm ?_
  refine At.ktext (.q 0 (.q 1 (.q 2 (.q 3 .done)))) ?_
  refine AtT.kmove ?_
  have hpos : (0 : Int) < ((x0 :: l).length : Int) := by simp only [List.length_cons]; omega
  refine AtT.kidx Try.underlying22 tk2 ?_
  intro p9 e9 he9 hc9
  first | refine AtT.kloadO tk2 ?_ | refine AtT.kload tk2 ?_
  refine AtT.kassign ?_
  refine AtT.done ?_
  refine At.nrm ?_
  have he : e9 = x0 := by simpa using he9.symm
  subst he
  refine At.ktext (.q 0 (.q 1 (.q 2 (.q 3 .done)))) ?_
  refine AtT.kmove ?_
  have hpos1 : (1 : Int) ≤ ((e9 :: l).length : Int) := by simp only [List.length_cons]; omega
  refine AtT.ktail Try.underlying22 tk2 ?_
  intro a12 c12 hs12
  first | refine AtT.klenS Try.underlying22 ?_ | refine AtT.klenR Try.underlying22 ?_
  refine AtT.kmove ?_
  refine AtT.done ?_
  refine At.nrm ?_
  refine At.lp (ι := Nat) (KS := fun k => [(1, .func (.func g) #[] cap.toArray), (5, iv (bestOf lt e9 (l.take k))), (12, .slice a12 l.length c12), (13, iv l.length), (14, iv k)]) (OS := fun _ => [])
    (VS := fun k V' => V' = V ∧ k ≤ l.length) (μ := fun k => l.length - k) 0 ?_ ?_ ?_ ?_
  · exact ⟨rfl, rfl, rfl, rfl, rfl, trivial⟩
  · exact Pt.auto
  · exact ⟨rfl, Nat.zero_le _⟩
  · rintro k V' ks' O' ⟨rfl, hkl⟩ hk hO hl
    subst hk hO
    have hs' : SlI V' (.slice a12 l.length c12) l := hs12
    refine At.nrm ?_
    refine At.ktext (.q 0 .done) ?_
    refine AtT.klss ?_
    refine AtT.done ?_
    refine At.nrm ?_
    refine At.condP rfl (fun hp => ?_) (fun hp => ?_)
    · refine At.nrm ?_
      refine At.ktext (.q 0 (.q 1 (.q 2 .done))) ?_
      refine AtT.kidx Try.underlying22 tk2 ?_
      intro p16 e16 he16 hc16
      first | refine AtT.kloadO tk2 ?_ | refine AtT.kload tk2 ?_
      refine AtT.kassign ?_
      refine AtT.done ?_
      refine At.nrm ?_
      have hmem : bestOf lt e9 (l.take k) ∈ e9 :: l := bestOf_mem lt e9 l k
      have hee : l[k]? = some e16 := by simpa using he16
      refine At.ktext (.q 0 (.q 1 (.q 2 (.n false 3 .done)))) ?_
      refine AtT.kmove ?_
      refine AtT.kmove ?_
      refine AtT.kmove ?_
      refine AtT.kcallV rfl rfl rfl hok (hc e16 (bestOf lt e9 (l.take k)) (List.mem_cons_of_mem _ (List.mem_of_getElem? hee)) hmem) ?_
      rintro _ rfl
      refine AtT.done ?_
      refine At.nrm ?_
      have hnx : bestOf lt e9 (l.take (k + 1)) = if lt e16 (bestOf lt e9 (l.take k)) then e16 else bestOf lt e9 (l.take k) := by
        rw [← bestOf_snoc, List.take_succ_eq_append_getElem (by omega)]; congr 2; rw [List.getElem?_eq_getElem (by omega)] at hee; simpa using hee
      refine At.cond rfl (fun hb => ?_) (fun hb => ?_)
      · refine At.nrm ?_
        refine At.ktext (.q 0 (.q 1 .done)) ?_
        refine AtT.kmove ?_
        refine AtT.kassign ?_
        refine AtT.done ?_
        refine At.nrm ?_
        refine At.ktext (.q 0 (.q 1 .done)) ?_
        first | refine AtT.kadd ?_ | refine AtT.kaddW ?_
        refine AtT.kmove ?_
        refine AtT.done ?_
        refine At.nrm ?_
        refine At.round (k + 1) ?_ ?_ ?_ ?_
        · show l.length - (k + 1) < l.length - k; omega
        · exact ⟨rfl, by omega⟩
        · refine ⟨rfl, ?_, rfl, rfl, rfl, trivial⟩
          rw [hnx, if_pos hb]; rfl
        · exact Pt.auto
      · refine At.nrm ?_
        refine At.ktext (.q 0 (.q 1 .done)) ?_
        first | refine AtT.kadd ?_ | refine AtT.kaddW ?_
        refine AtT.kmove ?_
        refine AtT.done ?_
        refine At.nrm ?_
        refine At.round (k + 1) ?_ ?_ ?_ ?_
        · show l.length - (k + 1) < l.length - k; omega
        · exact ⟨rfl, by omega⟩
        · refine ⟨rfl, ?_, rfl, rfl, rfl, trivial⟩
          rw [hnx, if_neg (by rw [hb]; simp)]; rfl
        · exact Pt.auto
    · have hkk : k = l.length := by omega
      subst hkk
      refine At.nrm ?_
      refine At.ktext (.q 0 (.q 1 .done)) ?_
      refine AtT.kmove ?_
      refine AtT.kassign ?_
      refine AtT.done ?_
      refine At.nrm ?_
      refine At.ret1 rfl (.tmp rfl) ?_
      rw [List.take_length]
end Go.Proofs.Ytnionkopmncopaa
set_option linter.unusedVariables false
namespace Go.Proofs.Ytnionkopmncopaa
open Go.Lw Go.Pl Go.RowKit

theorem best_p (g : FuncId) (cap : List Value) (lt : Pf → Pf → Bool) (V : View) (vl : Value) (x0 : Pf) (l : List Pf) (hs : Sl V pfe 4 vl (x0 :: l)) (hok : CallOk Try.prog g)
    (hc : ∀ x y, x ∈ x0 :: l → y ∈ x0 :: l → Fnc Try.prog g ([] ++ [pfv x, pfv y] ++ cap) V (fun v _ => v = .bool (lt x y))) :
    Fnc Try.prog 88 [vl, .func (.func g) #[] cap.toArray] V fun v _ => v = pfv (bestOf lt x0 l) := by
  have hlen := hs.lenLe
  simp only [List.length_cons] at hlen
  refine fn_of Try.func88 rfl Try.ntmps88 (Nat.le_of_ble_eq_true rfl) ?_
  intro w0 hw0
  refine At.nrm ?_
  refine At.ktext (.n false 0 .done) ?_
  refine AtT.kalloc z45 ?_
  intro b4
  refine AtT.done ?_
  refine At.nrm ?_
  refine At.ktext (.q 0 (.q 1 (.q 2 (.n false 3 (.n true 4 .done))))) ?_
  refine AtT.kmove ?_
  have hpos : (0 : Int) < ((x0 :: l).length : Int) := by simp only [List.length_cons]; omega
  refine AtT.kidx Try.underlying117 tk45 ?_
  intro p9 e9 he9 hc9
  first | refine AtT.kloadOA tk45 ?_ | refine AtT.kloadA tk45 ?_ | refine AtT.kloadOP tk45 ?_
  refine AtT.kalloc z45 ?_
  intro b5
  refine AtT.kstoreA tk45 ?_
  refine AtT.done ?_
  refine At.nrm ?_
  have he : e9 = x0 := by simpa using he9.symm
  subst he
  refine At.ktext (.q 0 (.q 1 (.q 2 (.q 3 .done)))) ?_
  refine AtT.kmove ?_
  have hpos1 : (1 : Int) ≤ ((e9 :: l).length : Int) := by simp only [List.length_cons]; omega
  refine AtT.ktail Try.underlying117 tk45 ?_
  intro a12 c12 hs12
  first | refine AtT.klenS Try.underlying117 ?_ | refine AtT.klenR Try.underlying117 ?_
  refine AtT.kmove ?_
  refine AtT.done ?_
  refine At.nrm ?_
  refine At.lp (ι := Nat) (KS := fun k => [(1, .func (.func g) #[] cap.toArray), (4, .pointer (some ⟨b4, 0, none⟩)), (5, .pointer (some ⟨b5, 0, none⟩)), (12, .slice a12 l.length c12), (13, iv l.length), (14, iv k)])
    (OS := fun k => [.blk b5 (LC (pfe (bestOf lt e9 (l.take k))) 45), .blk b4 (LC [iv 0, iv 0, iv 0, iv 0] 45)])
    (VS := fun k V' => V' = V ∧ k ≤ l.length) (μ := fun k => l.length - k) 0 ?_ ?_ ?_ ?_
  · exact ⟨rfl, rfl, rfl, rfl, rfl, rfl, trivial⟩
  · exact Pt.auto
  · exact ⟨rfl, Nat.zero_le _⟩
  · rintro k V' ks' O' ⟨rfl, hkl⟩ hk hO hl
    subst hk hO
    have hs' : Sl V' pfe 4 (.slice a12 l.length c12) l := hs12
    refine At.nrm ?_
    refine At.ktext (.q 0 .done) ?_
    refine AtT.klss ?_
    refine AtT.done ?_
    refine At.nrm ?_
    refine At.condP rfl (fun hp => ?_) (fun hp => ?_)
    · refine At.nrm ?_
      refine At.ktext (.q 0 (.q 1 (.n false 2 (.n true 3 .done)))) ?_
      refine AtT.kidx Try.underlying117 tk45 ?_
      intro p16 e16 he16 hc16
      first | refine AtT.kloadOA tk45 ?_ | refine AtT.kloadA tk45 ?_ | refine AtT.kloadOP tk45 ?_
      refine AtT.kalloc z45 ?_
      intro b7
      refine AtT.kstoreA tk45 ?_
      refine AtT.done ?_
      refine At.nrm ?_
      have hmem : bestOf lt e9 (l.take k) ∈ e9 :: l := bestOf_mem lt e9 l k
      have hee : l[k]? = some e16 := by simpa using he16
      refine At.ktext (.q 0 (.q 1 (.q 2 (.n false 3 .done)))) ?_
      refine AtT.kmove ?_
      first | refine AtT.kloadOA tk45 ?_ | refine AtT.kloadA tk45 ?_ | refine AtT.kloadOP tk45 ?_
      first | refine AtT.kloadOA tk45 ?_ | refine AtT.kloadA tk45 ?_ | refine AtT.kloadOP tk45 ?_
      refine AtT.kcallV rfl rfl rfl hok (hc e16 (bestOf lt e9 (l.take k)) (List.mem_cons_of_mem _ (List.mem_of_getElem? hee)) hmem) ?_
      rintro _ rfl
      refine AtT.done ?_
      refine At.nrm ?_
      have hnx : bestOf lt e9 (l.take (k + 1)) = if lt e16 (bestOf lt e9 (l.take k)) then e16 else bestOf lt e9 (l.take k) := by
        rw [← bestOf_snoc, List.take_succ_eq_append_getElem (by omega)]; congr 2; rw [List.getElem?_eq_getElem (by omega)] at hee; simpa using hee
      refine At.cond rfl (fun hb => ?_) (fun hb => ?_)
      · rw [if_pos hb] at hnx
        refine At.nrm ?_
        refine At.ktext (.q 0 (.n true 1 .done)) ?_
        first | refine AtT.kloadOA tk45 ?_ | refine AtT.kloadA tk45 ?_ | refine AtT.kloadOP tk45 ?_
        refine AtT.kstoreA tk45 ?_
        refine AtT.done ?_
        refine At.nrm ?_
        refine At.ktext (.q 0 (.q 1 .done)) ?_
        first | refine AtT.kadd ?_ | refine AtT.kaddW ?_
        refine AtT.kmove ?_
        refine AtT.done ?_
        refine At.nrm ?_
        refine At.round (k + 1) ?_ ?_ ?_ ?_
        · show l.length - (k + 1) < l.length - k; omega
        · exact ⟨rfl, by omega⟩
        · exact ⟨rfl, rfl, rfl, rfl, rfl, rfl, trivial⟩
        rw [hnx]
        · exact Pt.auto
      · rw [if_neg (by rw [hb]; simp)] at hnx
        refine At.nrm ?_
        refine At.ktext (.q 0 (.q 1 .done)) ?_
        first | refine AtT.kadd ?_ | refine AtT.kaddW ?_
        refine AtT.kmove ?_
        refine AtT.done ?_
        refine At.nrm ?_
        refine At.round (k + 1) ?_ ?_ ?_ ?_
        · show l.length - (k + 1) < l.length - k; omega
        · exact ⟨rfl, by omega⟩
        · exact ⟨rfl, rfl, rfl, rfl, rfl, rfl, trivial⟩
        rw [hnx]
        · exact Pt.auto
    · have hkk : k = l.length := by omega
      subst hkk
      refine At.nrm ?_
      refine At.ktext (.q 0 (.n true 1 .done)) ?_
      first | refine AtT.kloadOA tk45 ?_ | refine AtT.kloadA tk45 ?_ | refine AtT.kloadOP tk45 ?_
      refine AtT.kstoreA tk45 ?_
      refine AtT.done ?_
      refine At.nrm ?_
      refine At.ret1 rfl (.agg rfl tk45 Pick.auto rfl) ?_
      rw [List.take_length]


theorem best_r (g : FuncId) (cap : List Value) (lt : Rt → Rt → Bool) (V : View) (vl : Value) (x0 : Rt) (l : List Rt) (hs : Sl V rte 2 vl (x0 :: l)) (hok : CallOk Try.prog g)
    (hc : ∀ x y, x ∈ x0 :: l → y ∈ x0 :: l → Fnc Try.prog g ([] ++ [rtv x, rtv y] ++ cap) V (fun v _ => v = .bool (lt x y))) :
    Fnc Try.prog 94 [vl, .func (.func g) #[] cap.toArray] V fun v _ => v = rtv (bestOf lt x0 l) := by
  have hlen := hs.lenLe
  simp only [List.length_cons] at hlen
  refine fn_of Try.func94 rfl Try.ntmps94 (Nat.le_of_ble_eq_true rfl) ?_
  intro w0 hw0
  refine At.nrm ?_
  refine At.ktext (.n false 0 .done) ?_
  refine AtT.kalloc z31 ?_
  intro b4
  refine AtT.done ?_
  refine At.nrm ?_
  refine At.ktext (.q 0 (.q 1 (.q 2 (.n false 3 (.n true 4 .done))))) ?_
  refine AtT.kmove ?_
  have hpos : (0 : Int) < ((x0 :: l).length : Int) := by simp only [List.length_cons]; omega
  refine AtT.kidx Try.underlying132 tk31 ?_
  intro p9 e9 he9 hc9
  first | refine AtT.kloadOA tk31 ?_ | refine AtT.kloadA tk31 ?_ | refine AtT.kloadOP tk31 ?_
  refine AtT.kalloc z31 ?_
  intro b5
  refine AtT.kstoreA tk31 ?_
  refine AtT.done ?_
  refine At.nrm ?_
  have he : e9 = x0 := by simpa using he9.symm
  subst he
  refine At.ktext (.q 0 (.q 1 (.q 2 (.q 3 .done)))) ?_
  refine AtT.kmove ?_
  have hpos1 : (1 : Int) ≤ ((e9 :: l).length : Int) := by simp only [List.length_cons]; omega
  refine AtT.ktail Try.underlying132 tk31 ?_
  intro a12 c12 hs12
  first | refine AtT.klenS Try.underlying132 ?_ | refine AtT.klenR Try.underlying132 ?_
  refine AtT.kmove ?_
  refine AtT.done ?_
  refine At.nrm ?_
  refine At.lp (ι := Nat) (KS := fun k => [(1, .func (.func g) #[] cap.toArray), (4, .pointer (some ⟨b4, 0, none⟩)), (5, .pointer (some ⟨b5, 0, none⟩)), (12, .slice a12 l.length c12), (13, iv l.length), (14, iv k)])
    (OS := fun k => [.blk b5 (LC (rte (bestOf lt e9 (l.take k))) 31), .blk b4 (LC [iv 0, iv 0] 31)])
    (VS := fun k V' => V' = V ∧ k ≤ l.length) (μ := fun k => l.length - k) 0 ?_ ?_ ?_ ?_
  · exact ⟨rfl, rfl, rfl, rfl, rfl, rfl, trivial⟩
  · exact Pt.auto
  · exact ⟨rfl, Nat.zero_le _⟩
  · rintro k V' ks' O' ⟨rfl, hkl⟩ hk hO hl
    subst hk hO
    have hs' : Sl V' rte 2 (.slice a12 l.length c12) l := hs12
    refine At.nrm ?_
    refine At.ktext (.q 0 .done) ?_
    refine AtT.klss ?_
    refine AtT.done ?_
    refine At.nrm ?_
    refine At.condP rfl (fun hp => ?_) (fun hp => ?_)
    · refine At.nrm ?_
      refine At.ktext (.q 0 (.q 1 (.n false 2 (.n true 3 .done)))) ?_
      refine AtT.kidx Try.underlying132 tk31 ?_
      intro p16 e16 he16 hc16
      first | refine AtT.kloadOA tk31 ?_ | refine AtT.kloadA tk31 ?_ | refine AtT.kloadOP tk31 ?_
      refine AtT.kalloc z31 ?_
      intro b7
      refine AtT.kstoreA tk31 ?_
      refine AtT.done ?_
      refine At.nrm ?_
      have hmem : bestOf lt e9 (l.take k) ∈ e9 :: l := bestOf_mem lt e9 l k
      have hee : l[k]? = some e16 := by simpa using he16
      refine At.ktext (.q 0 (.q 1 (.q 2 (.n false 3 .done)))) ?_
      refine AtT.kmove ?_
      first | refine AtT.kloadOA tk31 ?_ | refine AtT.kloadA tk31 ?_ | refine AtT.kloadOP tk31 ?_
      first | refine AtT.kloadOA tk31 ?_ | refine AtT.kloadA tk31 ?_ | refine AtT.kloadOP tk31 ?_
      refine AtT.kcallV rfl rfl rfl hok (hc e16 (bestOf lt e9 (l.take k)) (List.mem_cons_of_mem _ (List.mem_of_getElem? hee)) hmem) ?_
      rintro _ rfl
      refine AtT.done ?_
      refine At.nrm ?_
      have hnx : bestOf lt e9 (l.take (k + 1)) = if lt e16 (bestOf lt e9 (l.take k)) then e16 else bestOf lt e9 (l.take k) := by
        rw [← bestOf_snoc, List.take_succ_eq_append_getElem (by omega)]; congr 2; rw [List.getElem?_eq_getElem (by omega)] at hee; simpa using hee
      refine At.cond rfl (fun hb => ?_) (fun hb => ?_)
      · rw [if_pos hb] at hnx
        refine At.nrm ?_
        refine At.ktext (.q 0 (.n true 1 .done)) ?_
        first | refine AtT.kloadOA tk31 ?_ | refine AtT.kloadA tk31 ?_ | refine AtT.kloadOP tk31 ?_
        refine AtT.kstoreA tk31 ?_
        refine AtT.done ?_
        refine At.nrm ?_
        refine At.ktext (.q 0 (.q 1 .done)) ?_
        first | refine AtT.kadd ?_ | refine AtT.kaddW ?_
        refine AtT.kmove ?_
        refine AtT.done ?_
        refine At.nrm ?_
        refine At.round (k + 1) ?_ ?_ ?_ ?_
        · show l.length - (k + 1) < l.length - k; omega
        · exact ⟨rfl, by omega⟩
        · exact ⟨rfl, rfl, rfl, rfl, rfl, rfl, trivial⟩
        rw [hnx]
        · exact Pt.auto
      · rw [if_neg (by rw [hb]; simp)] at hnx
        refine At.nrm ?_
        refine At.ktext (.q 0 (.q 1 .done)) ?_
        first | refine AtT.kadd ?_ | refine AtT.kaddW ?_
        refine AtT.kmove ?_
        refine AtT.done ?_
        refine At.nrm ?_
        refine At.round (k + 1) ?_ ?_ ?_ ?_
        · show l.length - (k + 1) < l.length - k; omega
        · exact ⟨rfl, by omega⟩
        · exact ⟨rfl, rfl, rfl, rfl, rfl, rfl, trivial⟩
        rw [hnx]
        · exact Pt.auto
    · have hkk : k = l.length := by omega
      subst hkk
      refine At.nrm ?_
      refine At.ktext (.q 0 (.n true 1 .done)) ?_
      first | refine AtT.kloadOA tk31 ?_ | refine AtT.kloadA tk31 ?_ | refine AtT.kloadOP tk31 ?_
      refine AtT.kstoreA tk31 ?_
      refine AtT.done ?_
      refine At.nrm ?_
      refine At.ret1 rfl (.agg rfl tk31 Pick.auto rfl) ?_
      rw [List.take_length]


theorem index_i (g : FuncId) (cap : List Value) (p : Int → Bool) (V : View) (vl : Value) (l : List Int) (hs : Sl V ei 1 vl l) (hok : CallOk Try.prog g)
    (hc : ∀ x, x ∈ l → Fnc Try.prog g ([] ++ [iv x] ++ cap) V (fun v _ => v = .bool (p x))) :
    Fnc Try.prog 97 [vl, .func (.func g) #[] cap.toArray] V fun v _ => ∃ j : Int, v = iv j ∧ (decide (0 ≤ j)) = l.any p := by
  have hlen := hs.lenLe
  refine fn_of Try.func97 rfl Try.ntmps97 (Nat.le_of_ble_eq_true rfl) ?_
  intro w0 hw0
  refine At.nrm ?_
  refine At.ktext (.q 0 .done) ?_
  refine AtT.kassign ?_
  refine AtT.done ?_
  refine At.nrm ?_
  refine At.ktext (.q 0 (.q 1 (.q 2 .done))) ?_
  refine AtT.kmove ?_
  first | refine AtT.klenS Try.underlying22 ?_ | refine AtT.klenR Try.underlying22 ?_
  refine AtT.kmove ?_
  refine AtT.done ?_
  refine At.nrm ?_
  refine At.lp (ι := Nat) (KS := fun k => [(0, vl), (1, .func (.func g) #[] cap.toArray), (4, iv 0), (7, iv l.length), (8, iv k)]) (OS := fun _ => [])
    (VS := fun k V' => V' = V ∧ k ≤ l.length ∧ (l.take k).any p = false) (μ := fun k => l.length - k) 0 ?_ ?_ ?_ ?_
  · exact ⟨rfl, rfl, rfl, rfl, rfl, trivial⟩
  · exact Pt.auto
  · exact ⟨rfl, Nat.zero_le _, rfl⟩
  · rintro k V' ks' O' ⟨rfl, hkl, hany⟩ hk hO hl
    subst hk hO
    refine At.nrm ?_
    refine At.ktext (.q 0 .done) ?_
    refine AtT.klss ?_
    refine AtT.done ?_
    refine At.nrm ?_
    refine At.condP rfl (fun hp => ?_) (fun hp => ?_)
    · refine At.nrm ?_
      refine At.ktext (.q 0 (.q 1 .done)) ?_
      refine AtT.kmove ?_
      refine AtT.kassign ?_
      refine AtT.done ?_
      refine At.nrm ?_
      refine At.ktext (.q 0 (.q 1 (.q 2 (.q 3 (.q 4 (.n false 5 .done)))))) ?_
      refine AtT.kmove ?_
      refine AtT.kmove ?_
      refine AtT.kmove ?_
      refine AtT.kidx Try.underlying22 tk2 ?_
      intro p14 e14 he14 hc14
      first | refine AtT.kloadO tk2 ?_ | refine AtT.kload tk2 ?_
      refine AtT.kcallV rfl rfl rfl hok (hc e14 (List.mem_of_getElem? he14)) ?_
      rintro _ rfl
      refine AtT.done ?_
      refine At.nrm ?_
      have hee : l[k]? = some e14 := by simpa using he14
      have hnx : l.take (k + 1) = l.take k ++ [e14] := by
        rw [List.take_succ_eq_append_getElem (by omega)]; congr 1; rw [List.getElem?_eq_getElem (by omega)] at hee; simpa using hee
      refine At.cond rfl (fun hb => ?_) (fun hb => ?_)
      · refine At.nrm ?_
        refine At.ktext (.q 0 (.q 1 .done)) ?_
        refine AtT.kmove ?_
        refine AtT.kassign ?_
        refine AtT.done ?_
        refine At.nrm ?_
        refine At.ret1 rfl (.tmp rfl) ⟨k, rfl, ?_⟩
        have : l.any p = true := List.any_eq_true.2 ⟨e14, List.mem_of_getElem? hee, hb⟩
        rw [this]; simp
      · refine At.nrm ?_
        refine At.ktext (.q 0 (.q 1 .done)) ?_
        first | refine AtT.kadd ?_ | refine AtT.kaddW ?_
        refine AtT.kmove ?_
        refine AtT.done ?_
        refine At.nrm ?_
        refine At.round (k + 1) ?_ ?_ ?_ ?_
        · show l.length - (k + 1) < l.length - k; omega
        · refine ⟨rfl, by omega, ?_⟩
          rw [hnx, List.any_append, hany]; simp [hb]
        · exact ⟨rfl, rfl, rfl, rfl, rfl, trivial⟩
        · exact Pt.auto
    · have hkk : k = l.length := by omega
      subst hkk
      rw [List.take_length] at hany
      refine At.nrm ?_
      refine At.ktext (.q 0 .done) ?_
      refine AtT.kassign ?_
      refine AtT.done ?_
      refine At.nrm ?_
      refine At.ret1 rfl (.tmp rfl) ⟨-1, rfl, ?_⟩
      rw [hany]; rfl
theorem contains_i (g : FuncId) (cap : List Value) (p : Int → Bool) (V : View) (vl : Value) (l : List Int) (hs : Sl V ei 1 vl l) (hok : CallOk Try.prog g)
    (hc : ∀ x, x ∈ l → Fnc Try.prog g ([] ++ [iv x] ++ cap) V (fun v _ => v = .bool (p x))) :
    Fnc Try.prog 82 [vl, .func (.func g) #[] cap.toArray] V fun v _ => v = .bool (l.any p) := by
  refine fn_of Try.func82 rfl Try.ntmps82 (Nat.le_of_ble_eq_true rfl) ?_
  intro w0 hw0
  refine At.nrm ?_
  refine At.ktext (.q 0 .done) ?_
  refine AtT.kassign ?_
  refine AtT.done ?_
  refine At.nrm ?_
  refine At.ktext (.q 0 (.q 1 (.n false 2 (.q 3 (.q 4 .done))))) ?_
  refine AtT.kmove ?_
  refine AtT.kmove ?_
  refine AtT.kcallP rfl rfl ok97 (index_i g cap p V vl l hs hok hc) ?_
  rintro _ ⟨j, rfl, hj⟩
  refine AtT.kgeq ?_
  refine AtT.kassign ?_
  refine AtT.done ?_
  refine At.nrm ?_
  refine At.ret1 rfl (.tmp rfl) ?_
  rw [hj]

theorem index_g (g : FuncId) (cap : List Value) (p : Rg → Bool) (V : View) (vl : Value) (l : List Rg) (hs : Sl V rge 2 vl l) (hok : CallOk Try.prog g)
    (hc : ∀ x, x ∈ l → Fnc Try.prog g ([] ++ [rgv x] ++ cap) V (fun v _ => v = .bool (p x))) :
    Fnc Try.prog 96 [vl, .func (.func g) #[] cap.toArray] V fun v _ => ∃ j : Int, v = iv j ∧ (decide (0 ≤ j)) = l.any p := by
  have hlen := hs.lenLe
  refine fn_of Try.func96 rfl Try.ntmps96 (Nat.le_of_ble_eq_true rfl) ?_
  intro w0 hw0
  refine At.nrm ?_
  refine At.ktext (.q 0 .done) ?_
  refine AtT.kassign ?_
  refine AtT.done ?_
  refine At.nrm ?_
  refine At.ktext (.q 0 (.q 1 (.q 2 .done))) ?_
  refine AtT.kmove ?_
  first | refine AtT.klenS Try.underlying23 ?_ | refine AtT.klenR Try.underlying23 ?_
  refine AtT.kmove ?_
  refine AtT.done ?_
  refine At.nrm ?_
  refine At.lp (ι := Nat) (KS := fun k => [(0, vl), (1, .func (.func g) #[] cap.toArray), (4, iv 0), (7, iv l.length), (8, iv k)]) (OS := fun _ => [])
    (VS := fun k V' => V' = V ∧ k ≤ l.length ∧ (l.take k).any p = false) (μ := fun k => l.length - k) 0 ?_ ?_ ?_ ?_
  · exact ⟨rfl, rfl, rfl, rfl, rfl, trivial⟩
  · exact Pt.auto
  · exact ⟨rfl, Nat.zero_le _, rfl⟩
  · rintro k V' ks' O' ⟨rfl, hkl, hany⟩ hk hO hl
    subst hk hO
    refine At.nrm ?_
    refine At.ktext (.q 0 .done) ?_
    refine AtT.klss ?_
    refine AtT.done ?_
    refine At.nrm ?_
    refine At.condP rfl (fun hp => ?_) (fun hp => ?_)
    · refine At.nrm ?_
      refine At.ktext (.q 0 (.q 1 .done)) ?_
      refine AtT.kmove ?_
      refine AtT.kassign ?_
      refine AtT.done ?_
      refine At.nrm ?_
      refine At.ktext (.q 0 (.q 1 (.q 2 (.q 3 (.q 4 (.n false 5 .done)))))) ?_
      refine AtT.kmove ?_
      refine AtT.kmove ?_
      refine AtT.kmove ?_
      refine AtT.kidx Try.underlying23 tk69 ?_
      intro p14 e14 he14 hc14
      first | refine AtT.kloadOA tk69 ?_ | refine AtT.kloadA tk69 ?_ | refine AtT.kloadOP tk69 ?_
      refine AtT.kcallV rfl rfl rfl hok (hc e14 (List.mem_of_getElem? he14)) ?_
      rintro _ rfl
      refine AtT.done ?_
      refine At.nrm ?_
      have hee : l[k]? = some e14 := by simpa using he14
      have hnx : l.take (k + 1) = l.take k ++ [e14] := by
        rw [List.take_succ_eq_append_getElem (by omega)]; congr 1; rw [List.getElem?_eq_getElem (by omega)] at hee; simpa using hee
      refine At.cond rfl (fun hb => ?_) (fun hb => ?_)
      · refine At.nrm ?_
        refine At.ktext (.q 0 (.q 1 .done)) ?_
        refine AtT.kmove ?_
        refine AtT.kassign ?_
        refine AtT.done ?_
        refine At.nrm ?_
        refine At.ret1 rfl (.tmp rfl) ⟨k, rfl, ?_⟩
        have : l.any p = true := List.any_eq_true.2 ⟨e14, List.mem_of_getElem? hee, hb⟩
        rw [this]; simp
      · refine At.nrm ?_
        refine At.ktext (.q 0 (.q 1 .done)) ?_
        first | refine AtT.kadd ?_ | refine AtT.kaddW ?_
        refine AtT.kmove ?_
        refine AtT.done ?_
        refine At.nrm ?_
        refine At.round (k + 1) ?_ ?_ ?_ ?_
        · show l.length - (k + 1) < l.length - k; omega
        · refine ⟨rfl, by omega, ?_⟩
          rw [hnx, List.any_append, hany]; simp [hb]
        · exact ⟨rfl, rfl, rfl, rfl, rfl, trivial⟩
        · exact Pt.auto
    · have hkk : k = l.length := by omega
      subst hkk
      rw [List.take_length] at hany
      refine At.nrm ?_
      refine At.ktext (.q 0 .done) ?_
      refine AtT.kassign ?_
      refine AtT.done ?_
      refine At.nrm ?_
      refine At.ret1 rfl (.tmp rfl) ⟨-1, rfl, ?_⟩
      rw [hany]; rfl
theorem contains_g (g : FuncId) (cap : List Value) (p : Rg → Bool) (V : View) (vl : Value) (l : List Rg) (hs : Sl V rge 2 vl l) (hok : CallOk Try.prog g)
    (hc : ∀ x, x ∈ l → Fnc Try.prog g ([] ++ [rgv x] ++ cap) V (fun v _ => v = .bool (p x))) :
    Fnc Try.prog 80 [vl, .func (.func g) #[] cap.toArray] V fun v _ => v = .bool (l.any p) := by
  refine fn_of Try.func80 rfl Try.ntmps80 (Nat.le_of_ble_eq_true rfl) ?_
  intro w0 hw0
  refine At.nrm ?_
  refine At.ktext (.q 0 .done) ?_
  refine AtT.kassign ?_
  refine AtT.done ?_
  refine At.nrm ?_
  refine At.ktext (.q 0 (.q 1 (.n false 2 (.q 3 (.q 4 .done))))) ?_
  refine AtT.kmove ?_
  refine AtT.kmove ?_
  refine AtT.kcallP rfl rfl ok96 (index_g g cap p V vl l hs hok hc) ?_
  rintro _ ⟨j, rfl, hj⟩
  refine AtT.kgeq ?_
  refine AtT.kassign ?_
  refine AtT.done ?_
  refine At.nrm ?_
  refine At.ret1 rfl (.tmp rfl) ?_
  rw [hj]
end Go.Proofs.Ytnionkopmncopaa
set_option linter.unusedVariables false
namespace Go.Proofs.Ytnionkopmncopaa
open Go.Lw Go.Pl Go.RowKit

theorem within1_f (n lo hi : Int) (V : View) (p1 p2 : Addr) (h1 : Cells V p1 [iv lo]) (h2 : Cells V p2 [iv hi]) :
    Fnc Try.prog 83 [iv n, .pointer (some p1), .pointer (some p2)] V fun v _ => v = .bool (outB lo hi n) := by
  refine fn_of Try.func83 rfl Try.ntmps83 (Nat.le_of_ble_eq_true rfl) ?_
  intro w0 hw0
  refine At.nrm ?_
  refine At.ktext (.q 0 .done) ?_
  refine AtT.kassign ?_
  refine AtT.done ?_
  refine At.nrm ?_
  refine At.ktext (.q 0 (.q 1 (.q 2 (.q 3 (.q 4 (.q 5 (.q 6 (.q 7 (.q 8 .done))))))))) ?_
  refine AtT.kmove ?_
  first | refine AtT.kloadO tk2 ?_ | refine AtT.kload tk2 ?_
  refine AtT.klss ?_
  refine AtT.kmove ?_
  all_goals (first | refine AtT.kL 8 ?_ | refine AtT.pcase (d := 8) rfl (fun hg8 => ?_) (fun hg8 => ?_) | refine AtT.bcase (d := 8) rfl (fun hg8 => ?_) (fun hg8 => ?_))
  all_goals (first | refine AtT.kpass ?_ | refine AtT.kpassU ?_ | ((refine AtT.kmove ?_)))
  all_goals (first | refine AtT.kpass ?_ | refine AtT.kpassU ?_ | ((first | refine AtT.kloadO tk2 ?_ | refine AtT.kload tk2 ?_)))
  all_goals (first | refine AtT.kpass ?_ | refine AtT.kpassU ?_ | ((refine AtT.kgtr ?_)))
  all_goals (refine AtT.kpick ?_)
  all_goals (refine AtT.kassign ?_)
  all_goals refine AtT.done ?_
  all_goals (refine At.nrm ?_)
  · exact At.ret1 rfl (.tmp rfl) (by simp [outB, hg8])
  · exact At.ret1 rfl (.tmp rfl) (by simp [outB, hg8])

theorem within_f (lo hi : Int) (l : List Int) (V : View) (vl : Value) (hs : SlI V vl l) :
    Fnc Try.prog 63 [iv lo, iv hi, vl] V fun v _ => v = .bool (wi lo hi l) := by
  refine fn_of Try.func63 rfl Try.ntmps63 (Nat.le_of_ble_eq_true rfl) ?_
  intro w0 hw0
  refine At.nrm ?_
  refine At.ktext (.n false 0 (.n false 1 (.q 2 .done))) ?_
  refine AtT.kbox ?_
  intro b3
  refine AtT.kbox ?_
  intro b4
  refine AtT.kassign ?_
  refine AtT.done ?_
  refine At.nrm ?_
  refine At.giveB (b := b3) Pick.auto ?_
  intro V3 hV3 hb3
  refine At.giveB (b := b4) Pick.auto ?_
  intro V4 hV4 hb4
  have hs4 := hs.le (hV3.trans hV4)
  have hc3 := (cells_blk hb3).le hV4
  have hc4 := cells_blk hb4
  refine At.ktext (.q 0 (.q 1 (.n false 2 (.q 3 (.q 4 .done))))) ?_
  refine AtT.kmove ?_
  refine AtT.kfn ?_
  refine AtT.kcallP rfl rfl ok82 (contains_i 83 [.pointer (some ⟨b3, 0, none⟩), .pointer (some ⟨b4, 0, none⟩)] (outB lo hi) V4 vl l hs4 ok83 (fun x _ => within1_f x lo hi V4 _ _ hc3 hc4)) ?_
  rintro _ rfl
  refine AtT.knot ?_
  refine AtT.kassign ?_
  refine AtT.done ?_
  refine At.nrm ?_
  exact At.ret1 rfl (.tmp rfl) rfl

theorem stray_f (r : Rg) (V : View) : Fnc Try.prog 79 [rgv r] V fun v _ => v = .bool (strayB r) := by
  refine fn_of Try.func79 rfl Try.ntmps79 (Nat.le_of_ble_eq_true rfl) ?_
  intro w0 hw0
  refine At.nrm ?_
  refine At.ktext (.n false 0 (.q 1 .done)) ?_
  refine AtT.kbox ?_
  intro b1
  refine AtT.kassign ?_
  refine AtT.done ?_
  refine At.nrm ?_
  refine At.ktext (.q 0 (.q 1 (.q 2 (.q 3 (.n false 4 (.n false 5 (.q 6 (.q 7 (.q 8 (.q 9 (.q 10 (.q 11 (.q 12 (.q 13 (.q 14 .done))))))))))))))) ?_
  first | refine AtT.kfieldO fo69_0 ?_ | with_reducible refine AtT.kfield2 fo69_0 ?_ | refine AtT.kfield fo69_0 ?_
  first | refine AtT.kloadO tk2 ?_ | refine AtT.kload tk2 ?_
  first | refine AtT.kfieldO fo69_1 ?_ | with_reducible refine AtT.kfield2 fo69_1 ?_ | refine AtT.kfield fo69_1 ?_
  first | refine AtT.kloadO tk2 ?_ | refine AtT.kload tk2 ?_
  refine AtT.kbsliceG (bs22_2_0_1 _ _) ?_
  intro q7 V7 hV7 hq7
  have g7 : Le V V7 := by first | exact hV7 | exact Le.trans (by assumption) hV7
  refine AtT.kcallP rfl rfl ok63 (within_f (-1000) 1000 [r.lo, r.hi] _ _ (Sl.lit hq7 rfl (by simp))) ?_
  rintro _ rfl
  refine AtT.knot ?_
  refine AtT.kmove ?_
  all_goals (first | refine AtT.kL 10 ?_ | refine AtT.pcase (d := 10) rfl (fun hg10 => ?_) (fun hg10 => ?_) | refine AtT.bcase (d := 10) rfl (fun hg10 => ?_) (fun hg10 => ?_))
  all_goals (first | refine AtT.kpass ?_ | refine AtT.kpassU ?_ | ((first | refine AtT.kfieldO fo69_0 ?_ | with_reducible refine AtT.kfield2 fo69_0 ?_ | refine AtT.kfield fo69_0 ?_)))
  all_goals (first | refine AtT.kpass ?_ | refine AtT.kpassU ?_ | ((first | refine AtT.kloadO tk2 ?_ | refine AtT.kload tk2 ?_)))
  all_goals (first | refine AtT.kpass ?_ | refine AtT.kpassU ?_ | ((first | refine AtT.kfieldO fo69_1 ?_ | with_reducible refine AtT.kfield2 fo69_1 ?_ | refine AtT.kfield fo69_1 ?_)))
  all_goals (first | refine AtT.kpass ?_ | refine AtT.kpassU ?_ | ((first | refine AtT.kloadO tk2 ?_ | refine AtT.kload tk2 ?_)))
  all_goals (first | refine AtT.kpass ?_ | refine AtT.kpassU ?_ | ((refine AtT.kgtr ?_)))
  all_goals (refine AtT.kpick ?_)
  all_goals (refine AtT.kassign ?_)
  all_goals refine AtT.done ?_
  all_goals (refine At.nrm ?_)
  · exact At.ret1 rfl (.tmp rfl) (by simp [strayB, hg10])
  · exact At.ret1 rfl (.tmp rfl) (by simp [strayB, hg10])

abbrev ve (p : Value × List Rg) : List Value := [p.1]

theorem take_snoc' {α : Type} {l : List α} {k : Nat} {e : α} (h : l[k]? = some e) : l.take (k + 1) = l.take k ++ [e] := by
  obtain ⟨hk, he⟩ := List.getElem?_eq_some_iff.1 h
  rw [List.take_succ_eq_append_getElem hk, he]

theorem placed_f (pl : List Int) (les : List (Value × List Rg)) (V : View) (vat ves : Value) (hs : SlI V vat pl) (hes : Sl V ve 1 ves les) (hle : ∀ p ∈ les, Sl V rge 2 p.1 p.2) :
    Fnc Try.prog 61 [vat, ves] V fun v _ => v = iv (placedE pl (les.map (·.2))) := by
  have hlen := hs.lenLe
  have hlen2 := hes.lenLe
  refine fn_of Try.func61 rfl Try.ntmps61 (Nat.le_of_ble_eq_true rfl) ?_
  intro w0 hw0
  refine At.nrm ?_
  refine At.ktext (.q 0 .done) ?_
  refine AtT.kassign ?_
  refine AtT.done ?_
  refine At.nrm ?_
  refine At.ktext (.q 0 (.q 1 (.n false 2 (.n false 3 (.q 4 .done))))) ?_
  refine AtT.kmove ?_
  first | refine AtT.klenS Try.underlying22 ?_ | refine AtT.klenR Try.underlying22 ?_
  refine AtT.kbsliceG (bs22_1_0 _) ?_
  intro q13 V13 hV13 hq13
  have g13 : Le V V13 := by first | exact hV13 | exact Le.trans (by assumption) hV13
  refine AtT.kcallP rfl rfl ok63 (within_f 2 8 [(pl.length : Int)] _ _ (Sl.lit hq13 rfl (by simp))) ?_
  rintro _ rfl
  refine AtT.knot ?_
  refine AtT.done ?_
  refine At.nrm ?_
  refine At.cond rfl (fun hb => ?_) (fun hb => ?_)
  · refine At.nrm ?_
    refine At.ktext (.q 0 .done) ?_
    refine AtT.kassign ?_
    refine AtT.done ?_
    refine At.nrm ?_
    refine At.ret1 rfl (.tmp rfl) ?_
    rw [placedE, if_pos (by simpa using hb)]
  have hb1 : wi 2 8 [(pl.length : Int)] = true := by simpa using hb
  replace hs := hs.le g13
  replace hes := hes.le g13
  replace hle := fun p hp => (hle p hp).le g13
  have hn2 : 2 ≤ pl.length ∧ pl.length ≤ 8 := by
    simp [wi, outB] at hb1; omega
  refine At.nrm ?_
  refine At.ktext (.q 0 .done) ?_
  refine AtT.kassign ?_
  refine AtT.done ?_
  refine At.nrm ?_
  refine At.ktext (.q 0 (.q 1 (.q 2 .done))) ?_
  refine AtT.kmove ?_
  first | refine AtT.klenS Try.underlying112 ?_ | refine AtT.klenR Try.underlying112 ?_
  refine AtT.kmove ?_
  refine AtT.done ?_
  refine At.nrmB ?_
  refine At.cut [(0, vat), (1, ves), (4, iv 0), (5, .func (.func 79) #[] #[])] [] (fun V' => V' = V13 ∧ (les.map (·.2)).any (fun l => decide (l.length ≠ pl.length)) = false) ?_ ?_
  · refine At.block ?_
    refine At.lp (ι := Nat) (KS := fun k => [(0, vat), (1, ves), (4, iv 0), (5, .func (.func 79) #[] #[]), (16, ves), (17, iv les.length), (18, iv k)]) (OS := fun _ => [])
      (VS := fun k V' => V' = V13 ∧ k ≤ les.length ∧ ((les.take k).map (·.2)).any (fun l => decide (l.length ≠ pl.length)) = false) (μ := fun k => les.length - k) 0 ?_ ?_ ?_ ?_
    · exact ⟨rfl, rfl, rfl, rfl, rfl, rfl, rfl, trivial⟩
    · exact Pt.auto
    · exact ⟨rfl, Nat.zero_le _, rfl⟩
    · rintro k V' ks' O' ⟨rfl, hkl, hany⟩ hk hO hl
      subst hk hO
      refine At.nrm ?_
      refine At.ktext (.q 0 .done) ?_
      refine AtT.klss ?_
      refine AtT.done ?_
      refine At.nrm ?_
      refine At.condP rfl (fun hp => ?_) (fun hp => ?_)
      · refine At.nrm ?_
        refine At.ktext (.q 0 (.q 1 (.q 2 .done))) ?_
        refine AtT.kidx Try.underlying112 tk23 ?_
        intro p20 e20 he20 hc20
        first | refine AtT.kloadO tk23 ?_ | refine AtT.kload tk23 ?_
        refine AtT.kassign ?_
        refine AtT.done ?_
        refine At.nrm ?_
        have hee : les[k]? = some e20 := by simpa using he20
        have hse := hle e20 (List.mem_of_getElem? hee)
        refine At.ktext (.q 0 (.q 1 (.q 2 (.q 3 (.q 4 .done))))) ?_
        refine AtT.kmove ?_
        first | refine AtT.klenS Try.underlying23 ?_ | refine AtT.klenR Try.underlying23 ?_
        refine AtT.kmove ?_
        first | refine AtT.klenS Try.underlying22 ?_ | refine AtT.klenR Try.underlying22 ?_
        refine AtT.kneI ?_
        refine AtT.done ?_
        refine At.nrm ?_
        have hnx := take_snoc' hee
        refine At.condP rfl (fun hne => ?_) (fun hne => ?_)
        · refine At.nrm ?_
          refine At.ktext (.q 0 .done) ?_
          refine AtT.kassign ?_
          refine AtT.done ?_
          refine At.nrm ?_
          refine At.ret1 rfl (.tmp rfl) ?_
          have : (les.map (·.2)).any (fun l => decide (l.length ≠ pl.length)) = true := List.any_eq_true.2 ⟨e20.2, List.mem_map.2 ⟨e20, List.mem_of_getElem? hee, rfl⟩, by simp; omega⟩
          rw [placedE, hb1, if_neg (by simp), if_pos this]
        · refine At.nrm ?_
          refine At.ktext (.q 0 (.q 1 .done)) ?_
          first | refine AtT.kadd ?_ | refine AtT.kaddW ?_
          refine AtT.kmove ?_
          refine AtT.done ?_
          refine At.nrm ?_
          refine At.round (k + 1) ?_ ?_ ?_ ?_
          · show les.length - (k + 1) < les.length - k; omega
          · refine ⟨rfl, by omega, ?_⟩
            rw [hnx, List.map_append, List.any_append, hany]; simp; omega
          · exact ⟨rfl, rfl, rfl, rfl, rfl, rfl, rfl, trivial⟩
          · exact Pt.auto
      · have hkk : k = les.length := by omega
        subst hkk
        rw [List.take_length] at hany
        refine At.nrm ?_
        refine At.meet ⟨rfl, hany⟩ ⟨rfl, rfl, rfl, rfl, trivial⟩ ?_
        · exact Pt.auto
  rintro V' ⟨rfl, hany1⟩
  refine At.nrm ?_
  refine At.ktext (.q 0 (.q 1 (.q 2 .done))) ?_
  refine AtT.kmove ?_
  first | refine AtT.klenS Try.underlying112 ?_ | refine AtT.klenR Try.underlying112 ?_
  refine AtT.kmove ?_
  refine AtT.done ?_
  refine At.nrmB ?_
  refine At.cut [(0, vat), (4, iv 0)] [] (fun V'' => V'' = V' ∧ (les.map (·.2)).any (fun l => l.any strayB) = false) ?_ ?_
  · refine At.block ?_
    refine At.lp (ι := Nat) (KS := fun k => [(0, vat), (4, iv 0), (5, .func (.func 79) #[] #[]), (28, ves), (29, iv les.length), (30, iv k)]) (OS := fun _ => [])
      (VS := fun k V'' => V'' = V' ∧ k ≤ les.length ∧ ((les.take k).map (·.2)).any (fun l => l.any strayB) = false) (μ := fun k => les.length - k) 0 ?_ ?_ ?_ ?_
    · exact ⟨rfl, rfl, rfl, rfl, rfl, rfl, trivial⟩
    · exact Pt.auto
    · exact ⟨rfl, Nat.zero_le _, rfl⟩
    · rintro k V'' ks' O' ⟨rfl, hkl, hany⟩ hk hO hl
      subst hk hO
      refine At.nrm ?_
      refine At.ktext (.q 0 .done) ?_
      refine AtT.klss ?_
      refine AtT.done ?_
      refine At.nrm ?_
      refine At.condP rfl (fun hp => ?_) (fun hp => ?_)
      · refine At.nrm ?_
        refine At.ktext (.q 0 (.q 1 (.q 2 .done))) ?_
        refine AtT.kidx Try.underlying112 tk23 ?_
        intro p32 e32 he32 hc32
        first | refine AtT.kloadO tk23 ?_ | refine AtT.kload tk23 ?_
        refine AtT.kassign ?_
        refine AtT.done ?_
        refine At.nrm ?_
        have hee : les[k]? = some e32 := by simpa using he32
        have hse := hle e32 (List.mem_of_getElem? hee)
        refine At.ktext (.q 0 (.q 1 (.n false 2 .done))) ?_
        refine AtT.kmove ?_
        refine AtT.kmove ?_
        refine AtT.kcallP rfl rfl ok80 (contains_g 79 [] strayB _ _ e32.2 hse ok79 (fun x _ => stray_f x _)) ?_
        rintro _ rfl
        refine AtT.done ?_
        refine At.nrm ?_
        have hnx := take_snoc' hee
        refine At.cond rfl (fun hne => ?_) (fun hne => ?_)
        · refine At.nrm ?_
          refine At.ktext (.q 0 .done) ?_
          refine AtT.kassign ?_
          refine AtT.done ?_
          refine At.nrm ?_
          refine At.ret1 rfl (.tmp rfl) ?_
          have : (les.map (·.2)).any (fun l => l.any strayB) = true := List.any_eq_true.2 ⟨e32.2, List.mem_map.2 ⟨e32, List.mem_of_getElem? hee, rfl⟩, hne⟩
          rw [placedE, hb1, if_neg (by simp), hany1, if_neg (by simp), if_pos this]
        · refine At.nrm ?_
          refine At.ktext (.q 0 (.q 1 .done)) ?_
          first | refine AtT.kadd ?_ | refine AtT.kaddW ?_
          refine AtT.kmove ?_
          refine AtT.done ?_
          refine At.nrm ?_
          refine At.round (k + 1) ?_ ?_ ?_ ?_
          · show les.length - (k + 1) < les.length - k; omega
          · refine ⟨rfl, by omega, ?_⟩
            rw [hnx, List.map_append, List.any_append, hany]; simp only [List.map_cons, List.map_nil, List.any_cons, List.any_nil, hne]; rfl
          · exact ⟨rfl, rfl, rfl, rfl, rfl, rfl, trivial⟩
          · exact Pt.auto
      · have hkk : k = les.length := by omega
        subst hkk
        rw [List.take_length] at hany
        refine At.nrm ?_
        refine At.meet ⟨rfl, hany⟩ ⟨rfl, rfl, trivial⟩ ?_
        · exact Pt.auto
  rintro V'' ⟨rfl, hany2⟩
  refine At.nrm ?_
  refine At.ktext (.q 0 (.n false 1 (.q 2 .done))) ?_
  refine AtT.kmove ?_
  refine AtT.kcallP rfl rfl ok63 (within_f 0 100 pl _ _ hs) ?_
  rintro _ rfl
  refine AtT.knot ?_
  refine AtT.done ?_
  refine At.nrm ?_
  refine At.cond rfl (fun hb => ?_) (fun hb => ?_)
  · refine At.nrm ?_
    refine At.ktext (.q 0 .done) ?_
    refine AtT.kassign ?_
    refine AtT.done ?_
    refine At.nrm ?_
    refine At.ret1 rfl (.tmp rfl) ?_
    rw [placedE, hb1, if_neg (by simp), hany1, if_neg (by simp), hany2, if_neg (by simp), if_pos (by simpa using hb)]
  have hb2 : wi 0 100 pl = true := by simpa using hb
  refine At.nrm ?_
  refine At.ktext (.q 0 (.q 1 (.q 2 (.q 3 .done)))) ?_
  refine AtT.kmove ?_
  refine AtT.ktail Try.underlying22 tk2 ?_
  intro a42 c42 hs42
  first | refine AtT.klenS Try.underlying22 ?_ | refine AtT.klenR Try.underlying22 ?_
  refine AtT.kmove ?_
  refine AtT.done ?_
  refine At.nrmB ?_
  refine At.cut [(4, iv 0)] [] (fun V' => V' = V'' ∧ incB pl = true) ?_ ?_
  · refine At.block ?_
    refine At.lp (ι := Nat) (KS := fun k => [(0, vat), (4, iv 0), (43, iv ((pl.length - 1 : Nat) : Int)), (44, iv k)]) (OS := fun _ => [])
      (VS := fun k V' => V' = V'' ∧ k ≤ pl.length - 1 ∧ ∀ i, i < k → pl.getD i 0 < pl.getD (i + 1) 0) (μ := fun k => pl.length - k) 0 ?_ ?_ ?_ ?_
    · refine ⟨rfl, rfl, ?_, rfl, trivial⟩
      show some (iv ((pl.drop (Int.toNat 1)).length : Int)) = _
      rw [List.length_drop]; rfl
    · exact Pt.auto
    · exact ⟨rfl, Nat.zero_le _, fun i h => by omega⟩
    · rintro k V' ks' O' ⟨rfl, hkl, hinc⟩ hk hO hl
      subst hk hO
      refine At.nrm ?_
      refine At.ktext (.q 0 .done) ?_
      refine AtT.klss ?_
      refine AtT.done ?_
      refine At.nrm ?_
      refine At.condP rfl (fun hp => ?_) (fun hp => ?_)
      · refine At.nrm ?_
        refine At.ktext (.q 0 (.q 1 .done)) ?_
        refine AtT.kmove ?_
        refine AtT.kassign ?_
        refine AtT.done ?_
        refine At.nrm ?_
        refine At.draw (.q 0 (.q 1 (.q 2 (.q 3 (.q 4 (.q 5 (.q 6 (.q 7 (.q 8 (.q 9 .done)))))))))) ffm (by kernel_rfl) ?_
        refine AtT.kmove ?_
        refine AtT.kmove ?_
        first | refine AtT.kadd ?_ | refine AtT.kaddW ?_
        refine AtT.kidx Try.underlying22 tk2 ?_
        intro p50 e50 he50 hc50
        first | refine AtT.kloadO tk2 ?_ | refine AtT.kload tk2 ?_
        refine AtT.kmove ?_
        refine AtT.kmove ?_
        refine AtT.kidx Try.underlying22 tk2 ?_
        intro p54 e54 he54 hc54
        first | refine AtT.kloadO tk2 ?_ | refine AtT.kload tk2 ?_
        refine AtT.kleq ?_
        refine AtT.done ?_
        refine At.nrm ?_
        have h50 : pl[k + 1]? = some e50 := by
          have e : ((k : Int) + 1).toNat = k + 1 := by omega
          rw [e] at he50; exact he50
        have h54 : pl[k]? = some e54 := by simpa using he54
        have g50 : pl.getD (k + 1) 0 = e50 := by simp [List.getD, h50]
        have g54 : pl.getD k 0 = e54 := by simp [List.getD, h54]
        refine At.condP rfl (fun hne => ?_) (fun hne => ?_)
        · refine At.nrm ?_
          refine At.ktext (.q 0 .done) ?_
          refine AtT.kassign ?_
          refine AtT.done ?_
          refine At.nrm ?_
          refine At.ret1 rfl (.tmp rfl) ?_
          rw [placedE, hb1, if_neg (by simp), hany1, if_neg (by simp), hany2, if_neg (by simp), hb2, if_neg (by simp), if_pos (incB_false (i := k) (by omega) (by omega))]
        · refine At.nrm ?_
          refine At.ktext (.q 0 (.q 1 .done)) ?_
          first | refine AtT.kadd ?_ | refine AtT.kaddW ?_
          refine AtT.kmove ?_
          refine AtT.done ?_
          refine At.nrm ?_
          refine At.round (k + 1) ?_ ?_ ?_ ?_
          · show pl.length - (k + 1) < pl.length - k; omega
          · refine ⟨rfl, by omega, fun i hi => ?_⟩
            by_cases hik : i = k
            · subst hik; omega
            · exact hinc i (by omega)
          · exact ⟨rfl, rfl, rfl, rfl, trivial⟩
          · exact Pt.auto
      · refine At.nrm ?_
        refine At.meet ⟨rfl, incB_true.2 fun i hi => hinc i (by omega)⟩ ⟨rfl, trivial⟩ ?_
        · exact Pt.auto
  rintro V' ⟨rfl, hinc⟩
  refine At.nrm ?_
  refine At.ktext (.q 0 .done) ?_
  refine AtT.kassign ?_
  refine AtT.done ?_
  refine At.nrm ?_
  refine At.ret1 rfl (.tmp rfl) ?_
  rw [placedE, hb1, if_neg (by simp), hany1, if_neg (by simp), hany2, if_neg (by simp), hb2, if_neg (by simp), hinc, if_neg (by simp)]

end Go.Proofs.Ytnionkopmncopaa
set_option linter.unusedVariables false
namespace Go.Proofs.Ytnionkopmncopaa
open Go.Lw Go.Pl Go.RowKit

theorem edge_f (r : Rg) (V : View) : Fnc Try.prog 81 [rgv r] V fun v _ => v = .bool (!strayB r) := by
  refine fn_of Try.func81 rfl Try.ntmps81 (Nat.le_of_ble_eq_true rfl) ?_
  intro w0 hw0
  refine At.nrm ?_
  refine At.ktext (.n false 0 (.q 1 .done)) ?_
  refine AtT.kbox ?_
  intro b1
  refine AtT.kassign ?_
  refine AtT.done ?_
  refine At.nrm ?_
  refine At.ktext (.q 0 (.q 1 (.q 2 (.q 3 (.q 4 (.q 5 (.q 6 (.q 7 (.q 8 (.q 9 (.q 10 (.q 11 (.q 12 (.q 13 (.q 14 (.q 15 .done)))))))))))))))) ?_
  first | refine AtT.kfieldO fo69_0 ?_ | with_reducible refine AtT.kfield2 fo69_0 ?_ | refine AtT.kfield fo69_0 ?_
  first | refine AtT.kloadO tk2 ?_ | refine AtT.kload tk2 ?_
  refine AtT.kgeq ?_
  refine AtT.kmove ?_
  all_goals (first | refine AtT.kL 6 ?_ | refine AtT.pcase (d := 6) rfl (fun hg6 => ?_) (fun hg6 => ?_) | refine AtT.bcase (d := 6) rfl (fun hg6 => ?_) (fun hg6 => ?_))
  all_goals (first | refine AtT.kpass ?_ | refine AtT.kpassU ?_ | ((first | refine AtT.kfieldO fo69_0 ?_ | with_reducible refine AtT.kfield2 fo69_0 ?_ | refine AtT.kfield fo69_0 ?_)))
  all_goals (first | refine AtT.kpass ?_ | refine AtT.kpassU ?_ | ((first | refine AtT.kloadO tk2 ?_ | refine AtT.kload tk2 ?_)))
  all_goals (first | refine AtT.kpass ?_ | refine AtT.kpassU ?_ | ((first | refine AtT.kfieldO fo69_1 ?_ | with_reducible refine AtT.kfield2 fo69_1 ?_ | refine AtT.kfield fo69_1 ?_)))
  all_goals (first | refine AtT.kpass ?_ | refine AtT.kpassU ?_ | ((first | refine AtT.kloadO tk2 ?_ | refine AtT.kload tk2 ?_)))
  all_goals (first | refine AtT.kpass ?_ | refine AtT.kpassU ?_ | ((refine AtT.kleq ?_)))
  all_goals (refine AtT.kpick ?_)
  all_goals (refine AtT.kmove ?_)
  all_goals (first | refine AtT.kL 13 ?_ | refine AtT.pcase (d := 13) rfl (fun hg13 => ?_) (fun hg13 => ?_) | refine AtT.bcase (d := 13) rfl (fun hg13 => ?_) (fun hg13 => ?_))
  all_goals (first | refine AtT.kpass ?_ | refine AtT.kpassU ?_ | ((first | refine AtT.kfieldO fo69_1 ?_ | with_reducible refine AtT.kfield2 fo69_1 ?_ | refine AtT.kfield fo69_1 ?_)))
  all_goals (first | refine AtT.kpass ?_ | refine AtT.kpassU ?_ | ((first | refine AtT.kloadO tk2 ?_ | refine AtT.kload tk2 ?_)))
  all_goals (first | refine AtT.kpass ?_ | refine AtT.kpassU ?_ | ((refine AtT.kleq ?_)))
  all_goals (refine AtT.kpick ?_)
  all_goals (refine AtT.kassign ?_)
  all_goals refine AtT.done ?_
  all_goals (refine At.nrm ?_)
  all_goals (refine At.ret1 rfl (.tmp rfl) ?_)
  all_goals (rw [strayB_iff]; simp [*])

theorem rplaced_f (pl : List Int) (l1 l2 : List Rg) (V : View) (vat v1 v2 : Value) (hs : SlI V vat pl) (h1 : Sl V rge 2 v1 l1) (h2 : Sl V rge 2 v2 l2) :
    Fnc Try.prog 62 [vat, v1, v2] V fun v _ => v = iv (placedE pl [l1, l2]) := by
  have hlen := hs.lenLe
  have hlen1 := h1.lenLe
  have hlen2 := h2.lenLe
  rw [placedE_one]
  refine fn_of Try.func62 rfl Try.ntmps62 (Nat.le_of_ble_eq_true rfl) ?_
  intro w0 hw0
  refine At.nrm ?_
  refine At.ktext (.q 0 .done) ?_
  refine AtT.kassign ?_
  refine AtT.done ?_
  refine At.nrm ?_
  refine At.ktext (.q 0 (.q 1 (.q 2 .done))) ?_
  refine AtT.kmove ?_
  first | refine AtT.klenS Try.underlying22 ?_ | refine AtT.klenR Try.underlying22 ?_
  refine AtT.kassign ?_
  refine AtT.done ?_
  refine At.nrm ?_
  refine At.cut [(0, vat), (1, v1), (2, v2), (6, iv 0), (7, iv pl.length), (17, .bool (decide ((pl.length : Int) < 2 ∨ 8 < (pl.length : Int))))] [] (fun V' => V = V') ?_ ?_
  · refine At.ktext (.q 0 (.q 1 (.q 2 (.q 3 (.q 4 (.q 5 .done)))))) ?_
    refine AtT.kmove ?_
    refine AtT.klss ?_
    refine AtT.kmove ?_
    all_goals (first | refine AtT.kL 14 ?_ | refine AtT.pcase (d := 14) rfl (fun hg14 => ?_) (fun hg14 => ?_) | refine AtT.bcase (d := 14) rfl (fun hg14 => ?_) (fun hg14 => ?_))
    all_goals (first | refine AtT.kpass ?_ | refine AtT.kpassU ?_ | ((refine AtT.kmove ?_)))
    all_goals (first | refine AtT.kpass ?_ | refine AtT.kpassU ?_ | ((refine AtT.kgtr ?_)))
    all_goals (refine AtT.kpick ?_)
    all_goals refine AtT.done ?_
    all_goals (refine At.nrm ?_)
    all_goals (refine At.meet rfl ⟨rfl, rfl, rfl, rfl, rfl, bsome (by simp [*]), trivial⟩ .nil)
  rintro _ rfl
  refine At.nrm ?_
  refine At.condP rfl (fun hb => ?_) (fun hb => ?_)
  · refine At.nrm ?_
    refine At.ktext (.q 0 .done) ?_
    refine AtT.kassign ?_
    refine AtT.done ?_
    refine At.nrm ?_
    refine At.ret1 rfl (.tmp rfl) ?_
    rw [if_pos hb]
  rw [if_neg hb]
  refine At.nrm ?_
  refine At.cut [(0, vat), (1, v1), (2, v2), (6, iv 0), (7, iv pl.length), (27, .bool (decide (l1.length ≠ pl.length ∨ l2.length ≠ pl.length)))] [] (fun V' => V = V') ?_ ?_
  · refine At.ktext (.q 0 (.q 1 (.q 2 (.q 3 (.q 4 (.q 5 (.q 6 (.q 7 (.q 8 (.q 9 .done)))))))))) ?_
    refine AtT.kmove ?_
    first | refine AtT.klenS Try.underlying23 ?_ | refine AtT.klenR Try.underlying23 ?_
    refine AtT.kmove ?_
    refine AtT.kneI ?_
    refine AtT.kmove ?_
    all_goals (first | refine AtT.kL 22 ?_ | refine AtT.pcase (d := 22) rfl (fun hg22 => ?_) (fun hg22 => ?_) | refine AtT.bcase (d := 22) rfl (fun hg22 => ?_) (fun hg22 => ?_))
    all_goals (first | refine AtT.kpass ?_ | refine AtT.kpassU ?_ | ((refine AtT.kmove ?_)))
    all_goals (first | refine AtT.kpass ?_ | refine AtT.kpassU ?_ | ((first | refine AtT.klenS Try.underlying23 ?_ | refine AtT.klenR Try.underlying23 ?_)))
    all_goals (first | refine AtT.kpass ?_ | refine AtT.kpassU ?_ | ((refine AtT.kmove ?_)))
    all_goals (first | refine AtT.kpass ?_ | refine AtT.kpassU ?_ | ((refine AtT.kneI ?_)))
    all_goals (refine AtT.kpick ?_)
    all_goals refine AtT.done ?_
    all_goals (refine At.nrm ?_)
    all_goals (refine At.meet rfl ⟨rfl, rfl, rfl, rfl, rfl, bsome ?_, trivial⟩ .nil)
    · rw [Bool.eq_iff_iff]; simp; omega
    · rw [Bool.eq_iff_iff]; simp; omega
  rintro _ rfl
  refine At.nrm ?_
  refine At.condP rfl (fun hb2 => ?_) (fun hb2 => ?_)
  · refine At.nrm ?_
    refine At.ktext (.q 0 .done) ?_
    refine AtT.kassign ?_
    refine AtT.done ?_
    refine At.nrm ?_
    refine At.ret1 rfl (.tmp rfl) ?_
    rw [if_pos hb2]
  rw [if_neg hb2]
  have e1 : l1.length = pl.length := by omega
  have e2 : l2.length = pl.length := by omega
  refine At.nrm ?_
  refine At.ktext (.q 0 .done) ?_
  refine AtT.kassign ?_
  refine AtT.done ?_
  refine At.nrmB ?_
  refine At.cut [(0, vat), (6, iv 0), (7, iv pl.length)] [] (fun V' => V = V' ∧ ¬ (∃ i : Nat, i < pl.length ∧ (pl.getD i 0 < 0 ∨ 100 < pl.getD i 0 ∨ strayB (l1.getD i ⟨0, 0⟩) = true ∨ strayB (l2.getD i ⟨0, 0⟩) = true))) ?_ ?_
  · refine At.block ?_
    refine At.lp (ι := Nat) (KS := fun k => [(0, vat), (1, v1), (2, v2), (6, iv 0), (7, iv pl.length), (8, iv k)]) (OS := fun _ => [])
      (VS := fun k V' => V = V' ∧ k ≤ pl.length ∧ ∀ i, i < k → ¬ (pl.getD i 0 < 0 ∨ 100 < pl.getD i 0 ∨ strayB (l1.getD i ⟨0, 0⟩) = true ∨ strayB (l2.getD i ⟨0, 0⟩) = true)) (μ := fun k => pl.length - k) 0 ?_ ?_ ?_ ?_
    · exact ⟨rfl, rfl, rfl, rfl, rfl, rfl, trivial⟩
    · exact Pt.auto
    · exact ⟨rfl, Nat.zero_le _, fun i h => by omega⟩
    · rintro k V' ks' O' ⟨rfl, hkl, hinv⟩ hk hO hl
      subst hk hO
      refine At.nrm ?_
      refine At.ktext (.q 0 (.q 1 (.q 2 .done))) ?_
      refine AtT.kmove ?_
      refine AtT.kmove ?_
      refine AtT.klss ?_
      refine AtT.done ?_
      refine At.nrm ?_
      refine At.condP rfl (fun hp => ?_) (fun hp => ?_)
      · refine At.nrm ?_
        have g0 : pl[k]? = some (pl.getD k 0) := by simp [List.getD, List.getElem?_eq_getElem (show k < pl.length by omega)]
        have g1 : l1[k]? = some (l1.getD k ⟨0, 0⟩) := by simp [List.getD, List.getElem?_eq_getElem (show k < l1.length by omega)]
        have g2 : l2[k]? = some (l2.getD k ⟨0, 0⟩) := by simp [List.getD, List.getElem?_eq_getElem (show k < l2.length by omega)]
        refine At.cut [(0, vat), (1, v1), (2, v2), (6, iv 0), (7, iv pl.length), (8, iv k), (60, .bool (decide (pl.getD k 0 < 0 ∨ 100 < pl.getD k 0 ∨ strayB (l1.getD k ⟨0, 0⟩) = true ∨ strayB (l2.getD k ⟨0, 0⟩) = true)))] [] (fun V'' => V = V'') ?_ ?_
        · refine At.ktext (.q 0 (.q 1 (.q 2 (.q 3 (.q 4 (.q 5 (.q 6 (.q 7 (.q 8 (.q 9 (.q 10 (.q 11 (.q 12 (.q 13 (.q 14 (.q 15 (.q 16 (.n false 17 (.q 18 (.q 19 (.q 20 (.q 21 (.q 22 (.q 23 (.q 24 (.n false 25 (.q 26 (.q 27 .done)))))))))))))))))))))))))))) ?_
          refine AtT.kmove ?_
          refine AtT.kmove ?_
          refine AtT.kidx Try.underlying22 tk2 ?_
          intro p35 e35 he35 hc35
          first | refine AtT.kloadO tk2 ?_ | refine AtT.kload tk2 ?_
          obtain rfl : e35 = pl.getD k 0 := Option.some.inj (he35.symm.trans g0)
          refine AtT.klss ?_
          refine AtT.kmove ?_
          all_goals (first | refine AtT.kL 38 ?_ | refine AtT.pcase (d := 38) rfl (fun hg38 => ?_) (fun hg38 => ?_) | refine AtT.bcase (d := 38) rfl (fun hg38 => ?_) (fun hg38 => ?_))
          all_goals (first | refine AtT.kpass ?_ | refine AtT.kpassU ?_ | ((refine AtT.kmove ?_)))
          all_goals (first | refine AtT.kpass ?_ | refine AtT.kpassU ?_ | ((refine AtT.kmove ?_)))
          all_goals (first | refine AtT.kpass ?_ | refine AtT.kpassU ?_ | ((refine AtT.kidx Try.underlying22 tk2 ?_) ; (intro p41 e41 he41 hc41)))
          all_goals (first | refine AtT.kpass ?_ | refine AtT.kpassU ?_ | ((first | refine AtT.kloadO tk2 ?_ | refine AtT.kload tk2 ?_)))
          all_goals ((try obtain rfl : e41 = pl.getD k 0 := Option.some.inj (he41.symm.trans g0)))
          all_goals (first | refine AtT.kpass ?_ | refine AtT.kpassU ?_ | ((refine AtT.kgtr ?_)))
          all_goals (refine AtT.kpick ?_)
          all_goals (refine AtT.kmove ?_)
          all_goals (first | refine AtT.kL 45 ?_ | refine AtT.pcase (d := 45) rfl (fun hg45 => ?_) (fun hg45 => ?_) | refine AtT.bcase (d := 45) rfl (fun hg45 => ?_) (fun hg45 => ?_))
          all_goals (first | refine AtT.kpass ?_ | refine AtT.kpassU ?_ | ((refine AtT.kmove ?_)))
          all_goals (first | refine AtT.kpass ?_ | refine AtT.kpassU ?_ | ((refine AtT.kmove ?_)))
          all_goals (first | refine AtT.kpass ?_ | refine AtT.kpassU ?_ | ((refine AtT.kidx Try.underlying23 tk69 ?_) ; (intro p48 e48 he48 hc48)))
          all_goals (first | refine AtT.kpass ?_ | refine AtT.kpassU ?_ | ((first | refine AtT.kloadOA tk69 ?_ | refine AtT.kloadA tk69 ?_ | refine AtT.kloadOP tk69 ?_)))
          all_goals ((try obtain rfl : e48 = l1.getD k ⟨0, 0⟩ := Option.some.inj (he48.symm.trans g1)))
          all_goals (first | refine AtT.kpassN ?_ | refine AtT.kpassNU ?_ | ((refine AtT.kcallP rfl rfl ok81 (edge_f (l1.getD k ⟨0, 0⟩) _) ?_) ; (rintro _ rfl)))
          all_goals (first | refine AtT.kpass ?_ | refine AtT.kpassU ?_ | ((refine AtT.knot ?_)))
          all_goals (refine AtT.kpick ?_)
          all_goals (refine AtT.kmove ?_)
          all_goals (first | refine AtT.kL 53 ?_ | refine AtT.pcase (d := 53) rfl (fun hg53 => ?_) (fun hg53 => ?_) | refine AtT.bcase (d := 53) rfl (fun hg53 => ?_) (fun hg53 => ?_))
          all_goals (first | refine AtT.kpass ?_ | refine AtT.kpassU ?_ | ((refine AtT.kmove ?_)))
          all_goals (first | refine AtT.kpass ?_ | refine AtT.kpassU ?_ | ((refine AtT.kmove ?_)))
          all_goals (first | refine AtT.kpass ?_ | refine AtT.kpassU ?_ | ((refine AtT.kidx Try.underlying23 tk69 ?_) ; (intro p56 e56 he56 hc56)))
          all_goals (first | refine AtT.kpass ?_ | refine AtT.kpassU ?_ | ((first | refine AtT.kloadOA tk69 ?_ | refine AtT.kloadA tk69 ?_ | refine AtT.kloadOP tk69 ?_)))
          all_goals ((try obtain rfl : e56 = l2.getD k ⟨0, 0⟩ := Option.some.inj (he56.symm.trans g2)))
          all_goals (first | refine AtT.kpassN ?_ | refine AtT.kpassNU ?_ | ((refine AtT.kcallP rfl rfl ok81 (edge_f (l2.getD k ⟨0, 0⟩) _) ?_) ; (rintro _ rfl)))
          all_goals (first | refine AtT.kpass ?_ | refine AtT.kpassU ?_ | ((refine AtT.knot ?_)))
          all_goals (refine AtT.kpick ?_)
          all_goals refine AtT.done ?_
          all_goals (refine At.nrm ?_)
          all_goals (refine At.meet rfl ⟨rfl, rfl, rfl, rfl, rfl, rfl, bsome ?_, trivial⟩ .nil)
          all_goals clear hinv
          all_goals (generalize strayB (l1.getD k ⟨0, 0⟩) = s1 at *; generalize strayB (l2.getD k ⟨0, 0⟩) = s2 at *; generalize pl.getD k 0 = z at *)
          all_goals (cases s1 <;> cases s2 <;> rw [Bool.eq_iff_iff] <;> simp [*] <;> simp_all)
        rintro _ rfl
        refine At.condP rfl (fun hne => ?_) (fun hne => ?_)
        · refine At.nrm ?_
          refine At.ktext (.q 0 .done) ?_
          refine AtT.kassign ?_
          refine AtT.done ?_
          refine At.nrm ?_
          refine At.ret1 rfl (.tmp rfl) ?_
          rw [if_pos ⟨k, by omega, hne⟩]
        · refine At.nrm ?_
          refine At.ktext (.q 0 (.q 1 (.q 2 .done))) ?_
          refine AtT.kmove ?_
          first | refine AtT.kadd ?_ | refine AtT.kaddW ?_
          refine AtT.kassign ?_
          refine AtT.done ?_
          refine At.nrm ?_
          refine At.round (k + 1) ?_ ?_ ?_ ?_
          · show pl.length - (k + 1) < pl.length - k; omega
          · refine ⟨rfl, by omega, fun i hi => ?_⟩
            by_cases hik : i = k
            · subst hik; exact hne
            · exact hinv i (by omega)
          · exact ⟨rfl, rfl, rfl, rfl, rfl, rfl, trivial⟩
          · exact Pt.auto
      · have hkk : k = pl.length := by omega
        refine At.nrm ?_
        refine At.meet ⟨rfl, ?_⟩ ⟨rfl, rfl, rfl, trivial⟩ .nil
        rintro ⟨i, hi, h⟩
        exact hinv i (by omega) h
  rintro _ ⟨rfl, hno⟩
  rw [if_neg hno]
  refine At.nrm ?_
  refine At.ktext (.q 0 .done) ?_
  refine AtT.kassign ?_
  refine AtT.done ?_
  refine At.nrmB ?_
  refine At.cut [(6, iv 0)] [] (fun V' => V = V' ∧ incB pl = true) ?_ ?_
  · refine At.block ?_
    refine At.lp (ι := Nat) (KS := fun k => [(0, vat), (6, iv 0), (7, iv pl.length), (9, iv ((k + 1 : Nat) : Int))]) (OS := fun _ => [])
      (VS := fun k V' => V = V' ∧ k + 1 ≤ pl.length ∧ ∀ i, i < k → pl.getD i 0 < pl.getD (i + 1) 0) (μ := fun k => pl.length - k) 0 ?_ ?_ ?_ ?_
    · exact ⟨rfl, rfl, rfl, rfl, trivial⟩
    · exact Pt.auto
    · exact ⟨rfl, by omega, fun i h => by omega⟩
    · rintro k V' ks' O' ⟨rfl, hkl, hinc⟩ hk hO hl
      subst hk hO
      refine At.nrm ?_
      refine At.ktext (.q 0 (.q 1 (.q 2 .done))) ?_
      refine AtT.kmove ?_
      refine AtT.kmove ?_
      refine AtT.klss ?_
      refine AtT.done ?_
      refine At.nrm ?_
      refine At.condP rfl (fun hp => ?_) (fun hp => ?_)
      · refine At.nrm ?_
        refine At.draw (.q 0 (.q 1 (.q 2 (.q 3 (.q 4 (.q 5 (.q 6 (.q 7 (.q 8 (.q 9 .done)))))))))) ffm (by kernel_rfl) ?_
        refine AtT.kmove ?_
        refine AtT.kmove ?_
        refine AtT.kidx Try.underlying22 tk2 ?_
        intro p68 e68 he68 hc68
        first | refine AtT.kloadO tk2 ?_ | refine AtT.kload tk2 ?_
        refine AtT.kmove ?_
        refine AtT.kmove ?_
        first | refine AtT.ksubt ?_ | refine AtT.ksubW ?_
        refine AtT.kidx Try.underlying22 tk2 ?_
        intro p73 e73 he73 hc73
        first | refine AtT.kloadO tk2 ?_ | refine AtT.kload tk2 ?_
        refine AtT.kleq ?_
        refine AtT.done ?_
        refine At.nrm ?_
        have h68 : pl[k + 1]? = some e68 := by
          have e : (((k + 1 : Nat) : Int)).toNat = k + 1 := by omega
          rw [e] at he68; exact he68
        have h73 : pl[k]? = some e73 := by
          have e : (((k + 1 : Nat) : Int) - 1).toNat = k := by omega
          rw [e] at he73; exact he73
        have g68 : pl.getD (k + 1) 0 = e68 := by simp [List.getD, h68]
        have g73 : pl.getD k 0 = e73 := by simp [List.getD, h73]
        refine At.condP rfl (fun hne => ?_) (fun hne => ?_)
        · refine At.nrm ?_
          refine At.ktext (.q 0 .done) ?_
          refine AtT.kassign ?_
          refine AtT.done ?_
          refine At.nrm ?_
          refine At.ret1 rfl (.tmp rfl) ?_
          rw [if_pos (incB_false (i := k) (by omega) (by omega))]
        · refine At.nrm ?_
          refine At.ktext (.q 0 (.q 1 (.q 2 .done))) ?_
          refine AtT.kmove ?_
          first | refine AtT.kadd ?_ | refine AtT.kaddW ?_
          refine AtT.kassign ?_
          refine AtT.done ?_
          refine At.nrm ?_
          refine At.round (k + 1) ?_ ?_ ?_ ?_
          · show pl.length - (k + 1) < pl.length - k; omega
          · refine ⟨rfl, by omega, fun i hi => ?_⟩
            by_cases hik : i = k
            · subst hik; omega
            · exact hinc i (by omega)
          · exact ⟨rfl, rfl, rfl, rfl, trivial⟩
          · exact Pt.auto
      · refine At.nrm ?_
        refine At.meet ⟨rfl, incB_true.2 fun i hi => hinc i (by omega)⟩ ⟨rfl, trivial⟩ ?_
        · exact Pt.auto
  rintro _ ⟨rfl, hinc⟩
  refine At.nrm ?_
  refine At.ktext (.q 0 .done) ?_
  refine AtT.kassign ?_
  refine AtT.done ?_
  refine At.nrm ?_
  refine At.ret1 rfl (.tmp rfl) ?_
  rw [hinc, if_neg (by simp)]
end Go.Proofs.Ytnionkopmncopaa
set_option linter.unusedVariables false
namespace Go.Proofs.Ytnionkopmncopaa
open Go.Lw Go.Pl Go.RowKit

/-- v reads as the log L. -/
def LogV (V : View) (v : Value) (L : Lg) : Prop := ∃ a c a' c', v = .agg #[.slice a L.pl.length c, .slice a' L.ed.length c'] ∧ SlI V (.slice a L.pl.length c) L.pl ∧ Sl V rge 2 (.slice a' L.ed.length c') L.ed
theorem LogV.le {V V' : View} {v : Value} {L : Lg} (h : LogV V v L) (hl : Le V V') : LogV V' v L := by
  obtain ⟨a, c, a', c', h1, h2, h3⟩ := h
  exact ⟨a, c, a', c', h1, h2.le hl, h3.le hl⟩
/-- v reads as the rough log R. -/
def RoughV (V : View) (v : Value) (R : Rough) : Prop := ∃ a c a1 c1 a2 c2, v = .agg #[.slice a R.pl.length c, .slice a1 R.low.length c1, .slice a2 R.high.length c2] ∧ SlI V (.slice a R.pl.length c) R.pl ∧ Sl V rge 2 (.slice a1 R.low.length c1) R.low ∧ Sl V rge 2 (.slice a2 R.high.length c2) R.high
theorem RoughV.le {V V' : View} {v : Value} {R : Rough} (h : RoughV V v R) (hl : Le V V') : RoughV V' v R := by
  obtain ⟨a, c, a1, c1, a2, c2, h0, h1, h2, h3⟩ := h
  exact ⟨a, c, a1, c1, a2, c2, h0, h1.le hl, h2.le hl, h3.le hl⟩
theorem ve_len (p : Value × List Rg) : (ve p).length = 1 := rfl
theorem rge_len (p : Rg) : (rge p).length = 2 := rfl
theorem rte_len (p : Rt) : (rte p).length = 2 := rfl
theorem pfe_len (p : Pf) : (pfe p).length = 4 := rfl

theorem checkLog_f (L : Lg) (V : View) (v : Value) (hL : LogV V v L) : Fnc Try.prog 22 [v] V fun v _ => v = iv (logE L) := by
  obtain ⟨a, c, a', c', rfl, h2, h3⟩ := hL
  refine fn_of Try.func22 rfl Try.ntmps22 (Nat.le_of_ble_eq_true rfl) ?_
  intro w0 hw0
  refine At.nrm ?_
  refine At.ktext (.n false 0 (.q 1 .done)) ?_
  refine AtT.kbox ?_
  intro b1
  refine AtT.kassign ?_
  refine AtT.done ?_
  refine At.nrm ?_
  refine At.ktext (.q 0 (.q 1 (.q 2 (.q 3 (.n false 4 (.n false 5 (.q 6 .done))))))) ?_
  first | refine AtT.kfieldO fo25_0 ?_ | with_reducible refine AtT.kfield2 fo25_0 ?_ | refine AtT.kfield fo25_0 ?_
  first | refine AtT.kloadO tk22 ?_ | refine AtT.kload tk22 ?_
  first | refine AtT.kfieldO fo25_1 ?_ | with_reducible refine AtT.kfield2 fo25_1 ?_ | refine AtT.kfield fo25_1 ?_
  first | refine AtT.kloadO tk23 ?_ | refine AtT.kload tk23 ?_
  refine AtT.kbsliceG (bs112_1_0 _ _ _) ?_
  intro q7 V7 hV7 hq7
  have g7 : Le V V7 := by first | exact hV7 | exact Le.trans (by assumption) hV7
  refine AtT.kcallP rfl rfl ok61 (placed_f L.pl [(.slice a' L.ed.length c', L.ed)] _ _ _ (h2.le g7) (Sl.of_cells (l := [(.slice a' L.ed.length c', L.ed)]) ve_len hq7 (Nat.le_refl _) (by unfold maxLen; simp)) (by intro p hp; simp at hp; subst hp; exact h3.le g7)) ?_
  rintro _ rfl
  refine AtT.kassign ?_
  refine AtT.done ?_
  refine At.nrm ?_
  exact At.ret1 rfl (.tmp rfl) rfl

theorem rcheckLog_f (L : Lg) (V : View) (v : Value) (hL : LogV V v L) : Fnc Try.prog 23 [v] V fun v _ => v = iv (logE L) := by
  obtain ⟨a, c, a', c', rfl, h2, h3⟩ := hL
  refine fn_of Try.func23 rfl Try.ntmps23 (Nat.le_of_ble_eq_true rfl) ?_
  intro w0 hw0
  refine At.nrm ?_
  refine At.ktext (.n false 0 (.q 1 .done)) ?_
  refine AtT.kbox ?_
  intro b1
  refine AtT.kassign ?_
  refine AtT.done ?_
  refine At.nrm ?_
  refine At.ktext (.q 0 (.q 1 (.q 2 (.q 3 (.q 4 (.q 5 (.n false 6 (.q 7 .done)))))))) ?_
  first | refine AtT.kfieldO fo25_0 ?_ | with_reducible refine AtT.kfield2 fo25_0 ?_ | refine AtT.kfield fo25_0 ?_
  first | refine AtT.kloadO tk22 ?_ | refine AtT.kload tk22 ?_
  first | refine AtT.kfieldO fo25_1 ?_ | with_reducible refine AtT.kfield2 fo25_1 ?_ | refine AtT.kfield fo25_1 ?_
  first | refine AtT.kloadO tk23 ?_ | refine AtT.kload tk23 ?_
  first | refine AtT.kfieldO fo25_1 ?_ | with_reducible refine AtT.kfield2 fo25_1 ?_ | refine AtT.kfield fo25_1 ?_
  first | refine AtT.kloadO tk23 ?_ | refine AtT.kload tk23 ?_
  refine AtT.kcallP rfl rfl ok62 (rplaced_f L.pl L.ed L.ed _ _ _ _ h2 h3 h3) ?_
  rintro _ rfl
  refine AtT.kassign ?_
  refine AtT.done ?_
  refine At.nrm ?_
  exact At.ret1 rfl (.tmp rfl) (by rw [logE, placedE_two])

theorem checkLine_f (x : Ln) (V : View) : Fnc Try.prog 24 [lnv x] V fun v _ => v = iv (lineE x) := by
  refine fn_of Try.func24 rfl Try.ntmps24 (Nat.le_of_ble_eq_true rfl) ?_
  intro w0 hw0
  refine At.nrm ?_
  refine At.ktext (.n false 0 (.q 1 .done)) ?_
  refine AtT.kbox ?_
  intro b1
  refine AtT.kassign ?_
  refine AtT.done ?_
  refine At.nrm ?_
  refine At.ktext (.q 0 (.q 1 (.n false 2 (.n false 3 (.q 4 (.q 5 (.q 6 (.q 7 (.q 8 (.q 9 (.n false 10 (.n false 11 (.q 12 (.q 13 .done)))))))))))))) ?_
  first | refine AtT.kfieldO fo27_0 ?_ | with_reducible refine AtT.kfield2 fo27_0 ?_ | refine AtT.kfield fo27_0 ?_
  first | refine AtT.kloadO tk2 ?_ | refine AtT.kload tk2 ?_
  refine AtT.kbsliceG (bs22_1_0 _) ?_
  intro q5 V5 hV5 hq5
  have g5 : Le V V5 := by first | exact hV5 | exact Le.trans (by assumption) hV5
  refine AtT.kcallP rfl rfl ok63 (within_f 1 100000 [x.den] _ _ (Sl.lit hq5 rfl (by simp))) ?_
  rintro _ rfl
  refine AtT.knot ?_
  refine AtT.kmove ?_
  all_goals (first | refine AtT.kL 8 ?_ | refine AtT.pcase (d := 8) rfl (fun hg8 => ?_) (fun hg8 => ?_) | refine AtT.bcase (d := 8) rfl (fun hg8 => ?_) (fun hg8 => ?_))
  all_goals (first | refine AtT.kpass ?_ | refine AtT.kpassU ?_ | ((first | refine AtT.kfieldO fo27_1 ?_ | with_reducible refine AtT.kfield2 fo27_1 ?_ | refine AtT.kfield fo27_1 ?_)))
  all_goals (first | refine AtT.kpass ?_ | refine AtT.kpassU ?_ | ((first | refine AtT.kloadO tk2 ?_ | refine AtT.kload tk2 ?_)))
  all_goals (first | refine AtT.kpass ?_ | refine AtT.kpassU ?_ | ((first | refine AtT.kfieldO fo27_2 ?_ | with_reducible refine AtT.kfield2 fo27_2 ?_ | refine AtT.kfield fo27_2 ?_)))
  all_goals (first | refine AtT.kpass ?_ | refine AtT.kpassU ?_ | ((first | refine AtT.kloadO tk2 ?_ | refine AtT.kload tk2 ?_)))
  all_goals (first | refine AtT.kpassN ?_ | refine AtT.kpassNU ?_ | ((refine AtT.kbsliceG (bs22_2_0_1 _ _) ?_) ; (intro q13 V13 hV13 hq13) ; (have g13 : Le V V13 := by first | exact hV13 | exact Le.trans (by assumption) hV13)))
  all_goals (first | refine AtT.kpassN ?_ | refine AtT.kpassNU ?_ | ((refine AtT.kcallP rfl rfl ok63 (within_f (-68719476736) 68719476736 [x.start, x.step] _ _ (Sl.lit hq13 rfl (by simp))) ?_) ; (rintro _ rfl)))
  all_goals (first | refine AtT.kpass ?_ | refine AtT.kpassU ?_ | ((refine AtT.knot ?_)))
  all_goals (refine AtT.kpick ?_)
  all_goals refine AtT.done ?_
  all_goals (refine At.nrm ?_)
  · refine At.condT rfl rfl ?_
    refine At.nrm ?_
    refine At.ktext (.q 0 .done) ?_
    refine AtT.kassign ?_
    refine AtT.done ?_
    refine At.nrm ?_
    refine At.ret1 rfl (.tmp rfl) ?_
    rw [lineE, if_pos (.inl (by simpa using hg8))]
  · refine At.cond rfl (fun hb => ?_) (fun hb => ?_)
    · refine At.nrm ?_
      refine At.ktext (.q 0 .done) ?_
      refine AtT.kassign ?_
      refine AtT.done ?_
      refine At.nrm ?_
      refine At.ret1 rfl (.tmp rfl) ?_
      rw [lineE, if_pos (.inr (by simpa using hb))]
    · refine At.nrm ?_
      refine At.ktext (.q 0 .done) ?_
      refine AtT.kassign ?_
      refine AtT.done ?_
      refine At.nrm ?_
      refine At.ret1 rfl (.tmp rfl) ?_
      rw [lineE, if_neg (by simp at hb hg8; simp [hg8, hb])]

theorem lineE_eq (x : Ln) : lineE x = if x.den < 1 ∨ 100000 < x.den ∨ x.start < -68719476736 ∨ 68719476736 < x.start ∨ x.step < -68719476736 ∨ 68719476736 < x.step then 3 else 0 := by
  have h : (wi 1 100000 [x.den] = false ∨ wi (-68719476736) 68719476736 [x.start, x.step] = false) ↔ (x.den < 1 ∨ 100000 < x.den ∨ x.start < -68719476736 ∨ 68719476736 < x.start ∨ x.step < -68719476736 ∨ 68719476736 < x.step) := by
    simp [wi, outB]; omega
  unfold lineE
  simp only [h]

theorem rcheckLine_f (x : Ln) (V : View) : Fnc Try.prog 25 [lnv x] V fun v _ => v = iv (lineE x) := by
  rw [lineE_eq]
  refine fn_of Try.func25 rfl Try.ntmps25 (Nat.le_of_ble_eq_true rfl) ?_
  intro w0 hw0
  refine At.nrm ?_
  refine At.ktext (.n false 0 (.q 1 .done)) ?_
  refine AtT.kbox ?_
  intro b1
  refine AtT.kassign ?_
  refine AtT.done ?_
  refine At.nrm ?_
  refine At.ktext (.q 0 .done) ?_
  refine AtT.kassign ?_
  refine AtT.done ?_
  refine At.nrm ?_
  refine At.cut [(2, iv 0), (37, .bool (decide (x.den < 1 ∨ 100000 < x.den ∨ x.start < -68719476736 ∨ 68719476736 < x.start ∨ x.step < -68719476736 ∨ 68719476736 < x.step)))] [] (fun V' => V = V') ?_ ?_
  · refine At.ktext (.q 0 (.q 1 (.q 2 (.q 3 (.q 4 (.q 5 (.q 6 (.q 7 (.q 8 (.q 9 (.q 10 (.q 11 (.q 12 (.q 13 (.q 14 (.q 15 (.q 16 (.q 17 (.q 18 (.q 19 (.q 20 (.q 21 (.q 22 (.q 23 (.q 24 (.q 25 (.q 26 (.q 27 (.q 28 (.q 29 (.q 30 (.q 31 (.q 32 (.q 33 .done)))))))))))))))))))))))))))))))))) ?_
    first | refine AtT.kfieldO fo27_0 ?_ | with_reducible refine AtT.kfield2 fo27_0 ?_ | refine AtT.kfield fo27_0 ?_
    first | refine AtT.kloadO tk2 ?_ | refine AtT.kload tk2 ?_
    refine AtT.klss ?_
    refine AtT.kmove ?_
    all_goals (first | refine AtT.kL 7 ?_ | refine AtT.pcase (d := 7) rfl (fun hg7 => ?_) (fun hg7 => ?_) | refine AtT.bcase (d := 7) rfl (fun hg7 => ?_) (fun hg7 => ?_))
    all_goals (first | refine AtT.kpass ?_ | refine AtT.kpassU ?_ | ((first | refine AtT.kfieldO fo27_0 ?_ | with_reducible refine AtT.kfield2 fo27_0 ?_ | refine AtT.kfield fo27_0 ?_)))
    all_goals (first | refine AtT.kpass ?_ | refine AtT.kpassU ?_ | ((first | refine AtT.kloadO tk2 ?_ | refine AtT.kload tk2 ?_)))
    all_goals (first | refine AtT.kpass ?_ | refine AtT.kpassU ?_ | ((refine AtT.kgtr ?_)))
    all_goals (refine AtT.kpick ?_)
    all_goals (refine AtT.kmove ?_)
    all_goals (first | refine AtT.kL 12 ?_ | refine AtT.pcase (d := 12) rfl (fun hg12 => ?_) (fun hg12 => ?_) | refine AtT.bcase (d := 12) rfl (fun hg12 => ?_) (fun hg12 => ?_))
    all_goals (first | refine AtT.kpass ?_ | refine AtT.kpassU ?_ | ((first | refine AtT.kfieldO fo27_1 ?_ | with_reducible refine AtT.kfield2 fo27_1 ?_ | refine AtT.kfield fo27_1 ?_)))
    all_goals (first | refine AtT.kpass ?_ | refine AtT.kpassU ?_ | ((first | refine AtT.kloadO tk2 ?_ | refine AtT.kload tk2 ?_)))
    all_goals (first | refine AtT.kpass ?_ | refine AtT.kpassU ?_ | ((refine AtT.kmove ?_)))
    all_goals (first | refine AtT.kpass ?_ | refine AtT.kpassU ?_ | ((first | refine AtT.kneg ?_ | refine AtT.knegW ?_)))
    all_goals (first | refine AtT.kpass ?_ | refine AtT.kpassU ?_ | ((refine AtT.klss ?_)))
    all_goals (refine AtT.kpick ?_)
    all_goals (refine AtT.kmove ?_)
    all_goals (first | refine AtT.kL 19 ?_ | refine AtT.pcase (d := 19) rfl (fun hg19 => ?_) (fun hg19 => ?_) | refine AtT.bcase (d := 19) rfl (fun hg19 => ?_) (fun hg19 => ?_))
    all_goals (first | refine AtT.kpass ?_ | refine AtT.kpassU ?_ | ((first | refine AtT.kfieldO fo27_1 ?_ | with_reducible refine AtT.kfield2 fo27_1 ?_ | refine AtT.kfield fo27_1 ?_)))
    all_goals (first | refine AtT.kpass ?_ | refine AtT.kpassU ?_ | ((first | refine AtT.kloadO tk2 ?_ | refine AtT.kload tk2 ?_)))
    all_goals (first | refine AtT.kpass ?_ | refine AtT.kpassU ?_ | ((refine AtT.kmove ?_)))
    all_goals (first | refine AtT.kpass ?_ | refine AtT.kpassU ?_ | ((refine AtT.kgtr ?_)))
    all_goals (refine AtT.kpick ?_)
    all_goals (refine AtT.kmove ?_)
    all_goals (first | refine AtT.kL 25 ?_ | refine AtT.pcase (d := 25) rfl (fun hg25 => ?_) (fun hg25 => ?_) | refine AtT.bcase (d := 25) rfl (fun hg25 => ?_) (fun hg25 => ?_))
    all_goals (first | refine AtT.kpass ?_ | refine AtT.kpassU ?_ | ((first | refine AtT.kfieldO fo27_2 ?_ | with_reducible refine AtT.kfield2 fo27_2 ?_ | refine AtT.kfield fo27_2 ?_)))
    all_goals (first | refine AtT.kpass ?_ | refine AtT.kpassU ?_ | ((first | refine AtT.kloadO tk2 ?_ | refine AtT.kload tk2 ?_)))
    all_goals (first | refine AtT.kpass ?_ | refine AtT.kpassU ?_ | ((refine AtT.kmove ?_)))
    all_goals (first | refine AtT.kpass ?_ | refine AtT.kpassU ?_ | ((first | refine AtT.kneg ?_ | refine AtT.knegW ?_)))
    all_goals (first | refine AtT.kpass ?_ | refine AtT.kpassU ?_ | ((refine AtT.klss ?_)))
    all_goals (refine AtT.kpick ?_)
    all_goals (refine AtT.kmove ?_)
    all_goals (first | refine AtT.kL 32 ?_ | refine AtT.pcase (d := 32) rfl (fun hg32 => ?_) (fun hg32 => ?_) | refine AtT.bcase (d := 32) rfl (fun hg32 => ?_) (fun hg32 => ?_))
    all_goals (first | refine AtT.kpass ?_ | refine AtT.kpassU ?_ | ((first | refine AtT.kfieldO fo27_2 ?_ | with_reducible refine AtT.kfield2 fo27_2 ?_ | refine AtT.kfield fo27_2 ?_)))
    all_goals (first | refine AtT.kpass ?_ | refine AtT.kpassU ?_ | ((first | refine AtT.kloadO tk2 ?_ | refine AtT.kload tk2 ?_)))
    all_goals (first | refine AtT.kpass ?_ | refine AtT.kpassU ?_ | ((refine AtT.kmove ?_)))
    all_goals (first | refine AtT.kpass ?_ | refine AtT.kpassU ?_ | ((refine AtT.kgtr ?_)))
    all_goals (refine AtT.kpick ?_)
    all_goals refine AtT.done ?_
    all_goals (refine At.nrm ?_)
    all_goals (refine At.meet rfl ⟨rfl, bsome ?_, trivial⟩ .nil)
    all_goals (rw [Bool.eq_iff_iff]; simp [*])
  rintro _ rfl
  refine At.condP rfl (fun hb => ?_) (fun hb => ?_)
  · refine At.nrm ?_
    refine At.ktext (.q 0 .done) ?_
    refine AtT.kassign ?_
    refine AtT.done ?_
    refine At.nrm ?_
    exact At.ret1 rfl (.tmp rfl) (by rw [if_pos hb])
  · refine At.nrm ?_
    refine At.ktext (.q 0 .done) ?_
    refine AtT.kassign ?_
    refine AtT.done ?_
    refine At.nrm ?_
    exact At.ret1 rfl (.tmp rfl) (by rw [if_neg hb])
end Go.Proofs.Ytnionkopmncopaa
set_option linter.unusedVariables false
namespace Go.Lw
open Go.ChangeShapes Go.WideShapes Go.ChangeAt Go.RowKit Go.Joins Go.Deep

section
variable {H : Type} {enc : TypeId × Value → H} {P : Program} {W W' : World}

theorem stays_all (hl : laidOutB P = true) (hb : Below W.heap.size W W') : ∀ (ts : List TypeId) (vs : List Value) (ds : List (DataW H)) (ps : List MemPlace), (ts.all fun t => P.readableRec t && decide (t < P.types.size)) = true →
    (∀ x ∈ ps, x.block < W.heap.size) → DataW.TrodAll enc P W 0 (fun _ => true) true ts vs ds ps → DataW.TrodAll enc P W' 0 (fun b => decide (b < W.heap.size)) true ts vs ds ps
  | [], vs, ds, ps, _, _, h => by
    obtain ⟨rfl, rfl, rfl⟩ := trodAll_nil h
    exact trodAll_mk0
  | t :: ts, vs, ds, ps, ht, hlt, h => by
    obtain ⟨v, vs', d, ds', p, q, rfl, rfl, rfl, h0, h1⟩ := trodAll_cons h
    simp only [List.all_cons, Bool.and_eq_true, decide_eq_true_eq] at ht
    exact trodAll_cons_mk (Below.trod hl ht.1.1 ht.1.2 h0 hb fun x hx => hlt x (List.mem_append_left _ hx))
      (stays_all hl hb ts vs' ds' q ht.2 (fun x hx => hlt x (List.mem_append_right _ hx)) h1)

/-- A law: the call returns true, and what was there stays as it was. -/
theorem law_lift {C : Checked} {F : FuncId} {fn : Func} {tb : TypeId} {os : Os} {s : ChangeSpec} {conds : List PathCond} (hs : ∀ ds : List (DataW H), ds.length = fn.params.size → s.fn H (ds ++ []) = { results := [.lit (.bool true)], args := ds })
    (hvars : s.vars = []) (hres : fn.resultTypes = #[tb]) (htb : C.prog.underlying tb = some .bool) (hl : laidOutB C.prog = true) (hts : (fn.params.toList.all fun t => C.prog.readableRec t && decide (t < C.prog.types.size)) = true)
    (own : ownKnob C.prog.godebug = none) (started : os.Started) (noInit : C.prog.inits.idxOf? F = none) (hfn : C.prog.funcs[F]? = some fn)
    (witness : ∃ (w : World) (tape : Tape) (i : Input), w.os = os ∧ (w.forCall tape i).Shaped C.prog ∧ i.vars = [] ∧ Input.okWide C.prog (w.forCall tape i) .any w.heap.size F i ∧
      s.pre6 enc C.prog fn conds false (w.forCall tape i).memory i.args ∧ ({} : Assume).holds C.prog (lone (Frame.enter C.prog F i.args .normal) [] (w.forCall tape i)))
    (walk : ∀ (W : World) (base : Nat) (args : Array Value) (ds : List (DataW H)) (ps : List MemPlace), (∀ (j : Nat) t v, fn.params[j]? = some t → args[j]? = some v → Value.okWide C.prog W .any base t v) →
      DataW.TrodAll enc C.prog W 0 (fun _ => true) true fn.params.toList args.toList ds ps → ∃ l : List Value, args = l.toArray ∧ Fnc C.prog F l (hp W) fun v _ => v = .bool true) :
    ReturnsInHanded {} C os F .any (s.pre6 enc C.prog fn conds false) (s.post enc C.prog fn false true false false) := by
  refine returnsInHanded_of_change (C := C) own started noInit hfn witness ?_
  intro W base args ds gs before hval hW _ _
  have hlt := hW.lt
  have hW' := hW
  obtain ⟨p, q, hA, hV, rfl, hfz, hnd⟩ := hW
  rw [hvars] at hV
  obtain ⟨rfl, rfl⟩ := trodVars_none hV
  obtain ⟨l, rfl, hF⟩ := walk W base args ds p hval hA
  refine (hF W (Le.refl _)).mono fun e W' ⟨v, V', he, hb, _, _, _, hv⟩ => ?_
  subst hv
  have hlen : ds.length = fn.params.size := by
    have key : ∀ (ts : List TypeId) (vs : List Value) (ds : List (DataW H)) (ps : List MemPlace), DataW.TrodAll enc C.prog W 0 (fun _ => true) true ts vs ds ps → ds.length = ts.length := by
      intro ts
      induction ts with
      | nil => intro vs ds ps h; obtain ⟨_, rfl, _⟩ := trodAll_nil h; rfl
      | cons t ts ih => intro vs ds ps h; obtain ⟨v, vs', d, ds', p, q, rfl, rfl, rfl, h0, h1⟩ := trodAll_cons h; simp [ih _ _ _ h1]
    simpa using key _ _ _ _ hA
  refine ⟨_, he, ds, [], p ++ [], [], p, [], hW', ?_, ?_, ?_, Below.frame hb _, fun h => by cases h⟩
  · rw [hs ds hlen, hres]
    exact trodAll_mk1 (shut_bool htb true)
  · rw [hs ds hlen]
    exact stays_all hl hb _ _ _ _ hts (fun x hx => hlt x (List.mem_append_left _ hx)) hA
  · rw [hs ds hlen, hvars]
    exact rfl

/-! ### What an argument reads as -/
variable {base : Nat} {spare : Nat → Bool} {held : Bool}

theorem cells_hp {a : Addr} {n : Nat} {cs : List Value} (h : W.cells? base a n = some cs) : cs.length = n ∧ Cells (hp W) a cs := by
  obtain ⟨_, h1, h2⟩ := World.cells?_some h
  refine ⟨h1, fun j u hj => ?_⟩
  have hlt : j < n := by rw [← h1]; exact (List.getElem?_eq_some_iff.1 hj).1
  rw [vcell_hp, h2 j hlt]; exact hj

/-- A slice whose elements read so. -/
theorem sl_of {α : Type} {en : α → List Value} {T E : TypeId} {s : Nat} {fuel : Nat} {v : Value} {x : DataW H × List MemPlace} (hT : P.underlying T = some (.slice E)) (hE : P.cellsOf E = s)
    (hel : ∀ fuel cs x, DataW.trod enc P W base spare held fuel E cs = some x → cs.length = s → ∃ a, cs = en a) (h : DataW.trod enc P W base spare held fuel T [v] = some x) :
    ∃ (l : List α) (a : Option Addr) (cap : Nat), v = .slice a l.length cap ∧ Sl (hp W) en s (.slice a l.length cap) l := by
  subst hE
  rcases open_slice hT h with ⟨h0, _⟩ | ⟨a, len, cap, m, n, D, Pl, h0, _, hlc, hcm, hm, _, hx⟩
  · simp only [List.cons.injEq, and_true] at h0
    exact ⟨[], none, 0, h0, Sl.nil _ _ _⟩
  · simp only [List.cons.injEq, and_true] at h0
    have hlm : len ≤ m := by rw [hm]; split <;> omega
    have hch : ∀ i, i < len → ∃ y : α, Cells (hp W) (a.add (i * P.cellsOf E)) (en y) := fun i hi => by
      obtain ⟨cs', h1, h2⟩ := hx i (by omega)
      obtain ⟨hl, hc⟩ := cells_hp h1
      obtain ⟨y, rfl⟩ := hel _ _ _ h2 hl
      exact ⟨y, hc⟩
    have hl : ∀ k, k ≤ len → ∃ l : List α, l.length = k ∧ ∀ i y, l[i]? = some y → Cells (hp W) (a.add (i * P.cellsOf E)) (en y) := by
      intro k
      induction k with
      | zero => exact fun _ => ⟨[], rfl, fun i y h => by simp at h⟩
      | succ k ih =>
        intro hk
        obtain ⟨l, hl, hc⟩ := ih (by omega)
        obtain ⟨y, hy⟩ := hch k (by omega)
        refine ⟨l ++ [y], by simp [hl], fun i z hz => ?_⟩
        by_cases c : i < l.length
        · rw [List.getElem?_append_left c] at hz; exact hc i z hz
        · rw [List.getElem?_append_right (by omega)] at hz
          have e : i = k := by
            have := (List.getElem?_eq_some_iff.1 hz).1
            simp at this; omega
          subst e
          rw [hl] at hz
          simp at hz
          subst hz; exact hy
    obtain ⟨l, hl, hc⟩ := hl len (Nat.le_refl _)
    subst hl
    exact ⟨l, some a, cap, h0, some a, cap, rfl, hlc, hcm, fun _ => rfl, fun p hp i y hy => by cases hp; exact hc i y hy⟩
theorem el_int {E : TypeId} {k : IntKind} (hE : P.underlying E = some (.int k)) {fuel : Nat} {cs : List Value} {x : DataW H × List MemPlace} (h : DataW.trod enc P W base spare held fuel E cs = some x) : ∃ z : Int, cs = [.int k z] ∧ (Lit.int k z).wf = true := by
  obtain ⟨n, h1, _, h3⟩ := DataW.trod_int hE h
  exact ⟨n, h1, h3⟩
end
end Go.Lw
set_option linter.unusedVariables false
set_option maxRecDepth 100000
namespace Go.Proofs.Ytnionkopmncopaa
open Go.Lw Go.Pl Go.RowKit Go.ChangeShapes Go.WideShapes Go.ChangeAt Go.Joins Go.Deep

theorem own : ownKnob Try.prog.godebug = none := by kernel_rfl
theorem laidOut : laidOutB Try.prog = true := by kernel_rfl
theorem cells25 : Try.prog.cellsOf 25 = 2 := by kernel_rfl
theorem cells27 : Try.prog.cellsOf 27 = 3 := by kernel_rfl
theorem cells45 : Try.prog.cellsOf 45 = 4 := by kernel_rfl
theorem cells53 : Try.prog.cellsOf 53 = 3 := by kernel_rfl
theorem cells69 : Try.prog.cellsOf 69 = 2 := by kernel_rfl
theorem cells2 : Try.prog.cellsOf 2 = 1 := by kernel_rfl

section
variable {H : Type} {enc : TypeId × Value → H} {W : World} {base b0 : Nat} {spare : Nat → Bool} {held : Bool} {v : Value} {d : DataW H} {p : List MemPlace} {r : Reach}

theorem rd_ints {fuel : Nat} {x : DataW H × List MemPlace} (h : DataW.trod enc Try.prog W base spare held fuel 22 [v] = some x) : ∃ (l : List Int) (a : Option Addr) (cap : Nat), v = .slice a l.length cap ∧ SlI (hp W) (.slice a l.length cap) l :=
  sl_of Try.underlying22 cells2 (fun _ _ _ h _ => by obtain ⟨z, e, _⟩ := el_int Try.underlying2 h; exact ⟨z, e⟩) h
theorem rd_ranges {fuel : Nat} {x : DataW H × List MemPlace} (h : DataW.trod enc Try.prog W base spare held fuel 23 [v] = some x) : ∃ (l : List Rg) (a : Option Addr) (cap : Nat), v = .slice a l.length cap ∧ Sl (hp W) rge 2 (.slice a l.length cap) l := by
  refine sl_of Try.underlying23 cells69 (fun _ cs _ h hl => ?_) h
  obtain ⟨y0, y1, n, _, _, h0, h1⟩ := trod_struct2 Try.underlying69 h
  match cs, hl with
  | [c0, c1], _ =>
    obtain ⟨z0, e0, _⟩ := el_int (k := .i64) Try.underlying2 h0
    obtain ⟨z1, e1, _⟩ := el_int (k := .i64) Try.underlying2 h1
    have e0' : [c0] = [Value.int .i64 z0] := e0
    have e1' : [c1] = [Value.int .i64 z1] := e1
    simp at e0' e1'
    exact ⟨⟨z0, z1⟩, by simp [rge, iv, e0', e1']⟩

theorem open_log (hv : Value.okWide Try.prog W r b0 25 v) (h : DataW.Trod enc Try.prog W base spare held 25 v d p) : ∃ L, LogV (hp W) v L := by
  obtain ⟨v0, v1, y0, y1, n, rfl, _, _, h0, h1⟩ := open_agg2 Try.underlying25 (by kernel_rfl) cells25 hv h
  obtain ⟨l0, a0, c0, rfl, s0⟩ := rd_ints h0
  obtain ⟨l1, a1, c1, rfl, s1⟩ := rd_ranges h1
  exact ⟨⟨l0, l1⟩, _, _, _, _, rfl, s0, s1⟩
theorem open_rough (hv : Value.okWide Try.prog W r b0 53 v) (h : DataW.Trod enc Try.prog W base spare held 53 v d p) : ∃ R, RoughV (hp W) v R := by
  obtain ⟨v0, v1, v2, y0, y1, y2, n, rfl, _, _, h0, h1, h2⟩ := open_agg3 Try.underlying53 (by kernel_rfl) cells53 hv h
  obtain ⟨l0, a0, c0, rfl, s0⟩ := rd_ints h0
  obtain ⟨l1, a1, c1, rfl, s1⟩ := rd_ranges h1
  obtain ⟨l2, a2, c2, rfl, s2⟩ := rd_ranges h2
  exact ⟨⟨l0, l1, l2⟩, _, _, _, _, _, _, rfl, s0, s1, s2⟩
theorem open_line (hv : Value.okWide Try.prog W r b0 27 v) (h : DataW.Trod enc Try.prog W base spare held 27 v d p) : ∃ x, v = lnv x := by
  obtain ⟨v0, v1, v2, y0, y1, y2, n, rfl, _, _, h0, h1, h2⟩ := open_agg3 Try.underlying27 (by kernel_rfl) cells27 hv h
  obtain ⟨z0, e0, _⟩ := el_int (k := .i64) Try.underlying2 h0
  obtain ⟨z1, e1, _⟩ := el_int (k := .i64) Try.underlying2 h1
  obtain ⟨z2, e2, _⟩ := el_int (k := .i64) Try.underlying2 h2
  simp at e0 e1 e2
  exact ⟨⟨z0, z1, z2⟩, by simp [e0, e1, e2]⟩
theorem open_pf (hv : Value.okWide Try.prog W r b0 45 v) (h : DataW.Trod enc Try.prog W base spare held 45 v d p) : ∃ x, v = pfv x := by
  obtain ⟨v0, v1, v2, v3, y0, y1, y2, y3, n, rfl, _, _, h0, h1, h2, h3⟩ := open_agg4 Try.underlying45 (by kernel_rfl) cells45 hv h
  obtain ⟨z0, e0, _⟩ := el_int (k := .i64) Try.underlying3 h0
  obtain ⟨z1, e1, _⟩ := el_int (k := .i64) Try.underlying3 h1
  obtain ⟨z2, e2, _⟩ := el_int (k := .i64) Try.underlying3 h2
  obtain ⟨z3, e3, _⟩ := el_int (k := .i64) Try.underlying3 h3
  simp at e0 e1 e2 e3
  exact ⟨⟨z0, z1, z2, z3⟩, by simp [e0, e1, e2, e3]⟩
end
end Go.Proofs.Ytnionkopmncopaa
set_option linter.unusedVariables false
namespace Go.Proofs.Ytnionkopmncopaa
open Go.Lw Go.Pl Go.RowKit

/-- p points to a lathe with the log L. -/
def LathV (V : View) (p : Addr) (L : Lg) : Prop := ∃ a c a' c', Cells V p [.slice a L.pl.length c, .slice a' L.ed.length c'] ∧ SlI V (.slice a L.pl.length c) L.pl ∧ Sl V rge 2 (.slice a' L.ed.length c') L.ed
theorem LathV.le {V V' : View} {p : Addr} {L : Lg} (h : LathV V p L) (hl : Le V V') : LathV V' p L := by
  obtain ⟨a, c, a', c', h1, h2, h3⟩ := h
  exact ⟨a, c, a', c', h1.le hl, h2.le hl, h3.le hl⟩

theorem open_f (L : Lg) (V : View) (v : Value) (hL : LogV V v L) :
    Fnc Try.prog 59 [v] V fun v V' => (logE L ≠ 0 ∧ v = .tuple #[.pointer none, iv (logE L)]) ∨ (logE L = 0 ∧ ∃ p, v = .tuple #[.pointer (some p), iv 0] ∧ LathV V' p L) := by
  have hL' := hL
  obtain ⟨a, c, a', c', rfl, h2, h3⟩ := hL
  refine fn_of Try.func59 rfl Try.ntmps59 (Nat.le_of_ble_eq_true rfl) ?_
  intro w0 hw0
  refine At.nrm ?_
  refine At.ktext (.n false 0 (.q 1 (.q 2 .done))) ?_
  refine AtT.kbox ?_
  intro b1
  refine AtT.kassign ?_
  refine AtT.kassign ?_
  refine AtT.done ?_
  refine At.nrm ?_
  refine At.ktext (.q 0 (.n false 1 (.q 2 .done))) ?_
  first | refine AtT.kloadOA tk25 ?_ | refine AtT.kloadA tk25 ?_ | refine AtT.kloadOP tk25 ?_
  refine AtT.kcallP rfl rfl ok22 (checkLog_f L _ _ hL') ?_
  rintro _ rfl
  refine AtT.kassign ?_
  refine AtT.done ?_
  refine At.nrm ?_
  refine At.ktext (.q 0 (.q 1 .done)) ?_
  refine AtT.kmove ?_
  refine AtT.kneI ?_
  refine AtT.done ?_
  refine At.nrm ?_
  refine At.condP rfl (fun hb => ?_) (fun hb => ?_)
  · refine At.nrm ?_
    refine At.ktext (.q 0 (.q 1 (.q 2 .done))) ?_
    refine AtT.kmove ?_
    refine AtT.kassign ?_
    refine AtT.kassign ?_
    refine AtT.done ?_
    refine At.nrm ?_
    exact At.ret2 rfl (.tmp rfl) (.tmp rfl) (.inl ⟨hb, rfl⟩)
  · have hb' : logE L = 0 := by omega
    refine At.nrm ?_
    refine At.ktext (.q 0 (.q 1 (.n false 2 (.q 3 (.q 4 .done))))) ?_
    first | refine AtT.kloadOA tk25 ?_ | refine AtT.kloadA tk25 ?_ | refine AtT.kloadOP tk25 ?_
    refine AtT.kbuild (bd106_0 _ _ _ _ _ _) ?_
    refine AtT.kbox ?_
    intro b12
    refine AtT.kassign ?_
    refine AtT.kassign ?_
    refine AtT.done ?_
    refine At.nrm ?_
    refine At.giveB (b := b12) Pick.auto ?_
    intro V' hV' hb12
    exact At.ret2 rfl (.tmp rfl) (.tmp rfl) (.inr ⟨hb', _, rfl, a, c, a', c', cells_blk hb12, h2.le hV', h3.le hV'⟩)

theorem fit_mk {z : Int} (h : -9000000000000000000 ≤ z ∧ z ≤ 9000000000000000000) : Fit z := ⟨by omega, by omega⟩

theorem core_f (L : Lg) (x : Ln) (V : View) (p : Addr) (hp : LathV V p L) (hL : LgOk L) (hx : LnB x) : Fnc Try.prog 60 [.pointer (some p), lnv x] V fun v _ => v = rtv (coreOf L x) := by
  obtain ⟨a, c, a', c', h1, h2, h3⟩ := hp
  obtain ⟨n2, n8, el, at0, edge, inc⟩ := id hL
  obtain ⟨d0, d1, s0, s1, p0, p1⟩ := id hx
  refine fn_of Try.func60 rfl Try.ntmps60 (Nat.le_of_ble_eq_true rfl) ?_
  intro w0 hw0
  refine At.nrm ?_
  refine At.ktext (.n false 0 (.n false 1 .done)) ?_
  refine AtT.kbox ?_
  intro b3
  refine AtT.kalloc z31 ?_
  intro b4
  refine AtT.done ?_
  refine At.nrm ?_
  refine At.ktext (.q 0 .done) ?_
  refine AtT.kassign ?_
  refine AtT.done ?_
  refine At.nrm ?_
  refine At.ktext (.q 0 (.q 1 (.q 2 (.q 3 (.q 4 (.q 5 (.q 6 .done))))))) ?_
  refine AtT.kmove ?_
  refine AtT.knil ?_
  first | refine AtT.kfieldO fo106_0 ?_ | with_reducible refine AtT.kfield2 fo106_0 ?_ | refine AtT.kfield fo106_0 ?_
  first | refine AtT.kfieldO fo25_0 ?_ | with_reducible refine AtT.kfield2 fo25_0 ?_ | refine AtT.kfield fo25_0 ?_
  first | refine AtT.kloadO tk22 ?_ | refine AtT.kload tk22 ?_
  first | refine AtT.klenS Try.underlying22 ?_ | refine AtT.klenR Try.underlying22 ?_
  refine AtT.kmove ?_
  refine AtT.done ?_
  refine At.nrm ?_
  refine At.lp (ι := Nat × Option Addr × Nat) (KS := fun g => [(0, .pointer (some p)), (3, .pointer (some ⟨b3, 0, none⟩)), (4, .pointer (some ⟨b4, 0, none⟩)), (5, .slice g.2.1 (devs x (L.pl.take g.1) (L.ed.take g.1)).length g.2.2), (13, .slice a L.pl.length c), (14, iv L.pl.length), (15, iv g.1)])
    (OS := fun _ => [.blk b3 (LC [iv x.den, iv x.start, iv x.step] 27), .blk b4 (LC [iv 0, iv 0] 31)])
    (VS := fun g V' => Le V V' ∧ g.1 ≤ L.pl.length ∧ SlI V' (.slice g.2.1 (devs x (L.pl.take g.1) (L.ed.take g.1)).length g.2.2) (devs x (L.pl.take g.1) (L.ed.take g.1))) (μ := fun g => L.pl.length - g.1) (0, none, 0) ?_ ?_ ?_ ?_
  · exact ⟨rfl, rfl, rfl, rfl, rfl, rfl, rfl, trivial⟩
  · exact Pt.auto
  · exact ⟨Le.refl _, Nat.zero_le _, Sl.nil _ _ _⟩
  · rintro ⟨k, ao, co⟩ V' ks' O' ⟨hVV, hkl, hso⟩ hk hO hl
    dsimp only at hso hkl hk hO
    subst hk hO
    have h1' := h1.le hVV
    have h2' := h2.le hVV
    have h3' := h3.le hVV
    have hdl : (devs x (L.pl.take k) (L.ed.take k)).length = 2 * k := by
      rw [devs_len _ _ _ (by simp; omega)]; simp; omega
    refine At.nrm ?_
    refine At.ktext (.q 0 .done) ?_
    refine AtT.klss ?_
    refine AtT.done ?_
    refine At.nrm ?_
    refine At.condP rfl (fun hb => ?_) (fun hb => ?_)
    · refine At.nrm ?_
      refine At.ktext (.q 0 (.q 1 (.q 2 (.q 3 (.q 4 .done))))) ?_
      refine AtT.kmove ?_
      refine AtT.kidx Try.underlying22 tk2 ?_
      intro p18 e18 he18 hc18
      first | refine AtT.kloadO tk2 ?_ | refine AtT.kload tk2 ?_
      refine AtT.kassign ?_
      refine AtT.kassign ?_
      refine AtT.done ?_
      refine At.nrm ?_
      have hp19 : L.pl[k]? = some e18 := by simpa using he18
      have hat := at0 e18 (List.mem_of_getElem? hp19)
      obtain ⟨r, hr⟩ : ∃ r, L.ed[k]? = some r := ⟨L.ed[k]'(by omega), List.getElem?_eq_getElem (by omega)⟩
      have hrr := edge r (List.mem_of_getElem? hr)
      have hbd := dev_bd hx hat hrr
      refine At.ktext (.q 0 (.q 1 (.q 2 (.q 3 (.q 4 (.q 5 (.q 6 (.q 7 .done)))))))) ?_
      first | refine AtT.kfieldO fo27_1 ?_ | with_reducible refine AtT.kfield2 fo27_1 ?_ | refine AtT.kfield fo27_1 ?_
      first | refine AtT.kloadO tk2 ?_ | refine AtT.kload tk2 ?_
      first | refine AtT.kfieldO fo27_2 ?_ | with_reducible refine AtT.kfield2 fo27_2 ?_ | refine AtT.kfield fo27_2 ?_
      first | refine AtT.kloadO tk2 ?_ | refine AtT.kload tk2 ?_
      refine AtT.kmove ?_
      first | refine AtT.kmul ?_ | refine AtT.kmulW ?_
      first | refine AtT.kadd ?_ | refine AtT.kaddW ?_
      refine AtT.kassign ?_
      refine AtT.done ?_
      refine At.nrm ?_
      refine At.draw (.q 0 (.q 1 (.q 2 (.q 3 (.q 4 (.q 5 (.q 6 (.q 7 (.q 8 (.q 9 (.q 10 (.q 11 (.q 12 (.q 13 (.q 14 (.q 15 (.q 16 (.q 17 (.q 18 (.q 19 (.q 20 (.q 21 (.q 22 (.q 23 (.q 24 (.q 25 (.q 26 (.q 27 (.q 28 (.q 29 (.q 30 (.q 31 (.q 32 (.q 33 (.n false 34 (.n false 35 (.q 36 .done))))))))))))))))))))))))))))))))))))) ffm (by kernel_rfl) ?_
      refine AtT.kmove ?_
      refine AtT.kmove ?_
      first | refine AtT.klenS Try.underlying22 ?_ | refine AtT.klenR Try.underlying22 ?_
      refine AtT.kmove ?_
      first | refine AtT.klenS Try.underlying22 ?_ | refine AtT.klenR Try.underlying22 ?_
      first | refine AtT.kclipAll Try.underlying22 tk2 ?_ | refine AtT.kclip Try.underlying22 tk2 ?_
      intro a32 hs32
      refine AtT.kmove ?_
      refine AtT.kmove ?_
      refine AtT.knil ?_
      first | refine AtT.kfieldO fo106_0 ?_ | with_reducible refine AtT.kfield2 fo106_0 ?_ | refine AtT.kfield fo106_0 ?_
      first | refine AtT.kfieldO fo25_1 ?_ | with_reducible refine AtT.kfield2 fo25_1 ?_ | refine AtT.kfield fo25_1 ?_
      first | refine AtT.kloadO tk23 ?_ | refine AtT.kload tk23 ?_
      refine AtT.kmove ?_
      refine AtT.kidx Try.underlying23 tk69 ?_
      intro p40 e40 he40 hc40
      obtain rfl : e40 = r := by have : L.ed[k]? = some e40 := (by simpa using he40); rw [hr] at this; simpa using this.symm
      first | refine AtT.kfieldO fo69_0 ?_ | with_reducible refine AtT.kfield2 fo69_0 ?_ | refine AtT.kfield fo69_0 ?_
      first | refine AtT.kloadO tk2 ?_ | refine AtT.kload tk2 ?_
      first | refine AtT.kfieldO fo27_0 ?_ | with_reducible refine AtT.kfield2 fo27_0 ?_ | refine AtT.kfield fo27_0 ?_
      first | refine AtT.kloadO tk2 ?_ | refine AtT.kload tk2 ?_
      first | refine AtT.kmul ?_ | refine AtT.kmulW ?_
      first | refine AtT.ksubt ?_ | refine AtT.ksubW ?_
      refine AtT.kmove ?_
      refine AtT.knil ?_
      first | refine AtT.kfieldO fo106_0 ?_ | with_reducible refine AtT.kfield2 fo106_0 ?_ | refine AtT.kfield fo106_0 ?_
      first | refine AtT.kfieldO fo25_1 ?_ | with_reducible refine AtT.kfield2 fo25_1 ?_ | refine AtT.kfield fo25_1 ?_
      first | refine AtT.kloadO tk23 ?_ | refine AtT.kload tk23 ?_
      refine AtT.kmove ?_
      refine AtT.kidx Try.underlying23 tk69 ?_
      intro p53 e53 he53 hc53
      obtain rfl : e53 = e40 := by have : L.ed[k]? = some e53 := (by simpa using he53); rw [hr] at this; simpa using this.symm
      first | refine AtT.kfieldO fo69_1 ?_ | with_reducible refine AtT.kfield2 fo69_1 ?_ | refine AtT.kfield fo69_1 ?_
      first | refine AtT.kloadO tk2 ?_ | refine AtT.kload tk2 ?_
      first | refine AtT.kfieldO fo27_0 ?_ | with_reducible refine AtT.kfield2 fo27_0 ?_ | refine AtT.kfield fo27_0 ?_
      first | refine AtT.kloadO tk2 ?_ | refine AtT.kload tk2 ?_
      first | refine AtT.kmul ?_ | refine AtT.kmulW ?_
      refine AtT.kmove ?_
      first | refine AtT.ksubt ?_ | refine AtT.ksubW ?_
      refine AtT.kbsliceG (bs22_2_0_1 _ _) ?_
      intro q61 V61 hV61 hq61
      have g61 : Le V V61 := by first | exact hV61 | exact Le.trans (by assumption) hV61
      refine AtT.appendC rfl trivial Try.underlying22 rw2 rfl (by decide) rfl (by first | assumption | exact Sl.le (by assumption) (by assumption)) rfl rfl (by first | assumption | exact Cells.le (by assumption) (by assumption)) (fun _ => rfl) (by simp) (by unfold maxLen; simp only [List.length_cons, List.length_nil]; omega) (by simp only [List.length_cons, List.length_nil]; omega) (by decide) (enc := ei) (m := [_, _]) ?_
      intro a62 c62 V62 hV62 hs62
      have g62 : Le V V62 := by first | exact hV62 | exact Le.trans (by assumption) hV62
      refine AtT.kassign ?_
      refine AtT.done ?_
      refine At.nrm ?_
      rw [← devs_snoc x _ _ k _ _ hp19 hr] at hs62
      refine At.ktext (.q 0 (.q 1 .done)) ?_
      first | refine AtT.kadd ?_ | refine AtT.kaddW ?_
      refine AtT.kmove ?_
      refine AtT.done ?_
      refine At.nrm ?_
      refine At.round (k + 1, a62, c62) ?_ ?_ ?_ ?_
      · show L.pl.length - (k + 1) < L.pl.length - k; omega
      · exact ⟨g62, by dsimp only; omega, hs62⟩
      · refine ⟨rfl, rfl, rfl, ?_, rfl, rfl, rfl, trivial⟩
        dsimp only; rw [devs_snoc x _ _ k _ _ hp19 hr]; rfl
      · exact Pt.auto
    · have hkk : k = L.pl.length := by omega
      subst hkk
      have hmb := minL_bd hx hL
      have etk : L.ed.take L.pl.length = L.ed := by rw [← el, List.take_length]
      unfold coreOf
      unfold coreN at hmb ⊢
      obtain ⟨d, ds, hds⟩ : ∃ d ds, devs x L.pl L.ed = d :: ds := by
        cases h : devs x L.pl L.ed with
        | nil => have := devs_len x L.pl L.ed el; rw [h] at this; simp at this; omega
        | cons d ds => exact ⟨d, ds, rfl⟩
      have hso' : SlI V' (.slice ao (devs x (List.take L.pl.length L.pl) (List.take L.pl.length L.ed)).length co) (d :: ds) := by
        rw [← hds]; rw [etk, List.take_length] at hso ⊢; exact hso
      rw [hds] at hmb ⊢
      replace hmb : -200000000000000 ≤ bestOf ltI d ds ∧ bestOf ltI d ds ≤ 200000000000000 := hmb
      refine At.nrm ?_
      refine At.draw (.q 0 (.q 2 (.q 3 (.n false 1 (.n false 4 (.n true 5 .done)))))) ffm (by kernel_rfl) ?_
      refine AtT.kmove ?_
      first | refine AtT.kfieldO fo27_0 ?_ | with_reducible refine AtT.kfield2 fo27_0 ?_ | refine AtT.kfield fo27_0 ?_
      first | refine AtT.kloadO tk2 ?_ | refine AtT.kload tk2 ?_
      refine AtT.kcallP rfl rfl ok77 (best_i 78 [] ltI _ _ d ds hso' ok78 (fun a b _ _ => lt_f a b _)) ?_
      rintro _ rfl
      refine AtT.kcallP rfl rfl ok76 (by_f _ _ _ (by omega) (by omega) d0 (by omega)) ?_
      rintro _ rfl
      refine AtT.kstoreA tk31 ?_
      refine AtT.done ?_
      refine At.nrm ?_
      refine At.ret1 rfl (.agg rfl tk31 Pick.auto rfl) rfl

theorem minL_two (a b : Int) : minL [a, b] = min a b := by
  unfold minL bestOf ltI
  simp only [List.foldl_cons, List.foldl_nil, decide_eq_true_eq]
  by_cases h : b < a
  · rw [if_pos h]; omega
  · rw [if_neg h]; omega
theorem minL_snoc (l : List Int) (a b : Int) (h : 0 < l.length) : minL (l ++ [a, b]) = if min a b < minL l then min a b else minL l := by
  cases l with
  | nil => simp at h
  | cons d ds => exact bestOf_two _ a b ds d rfl

theorem rcoreOf_f (L : Lg) (x : Ln) (V : View) (v : Value) (hv : LogV V v L) (hL : LgOk L) (hx : LnB x) : Fnc Try.prog 50 [v, lnv x] V fun v _ => v = rtv (coreOf L x) := by
  obtain ⟨a, c, a', c', rfl, h2, h3⟩ := hv
  obtain ⟨n2, n8, el, at0, edge, inc⟩ := id hL
  obtain ⟨d0, d1, s0, s1, p0, p1⟩ := id hx
  have hmb := minL_bd hx hL
  refine fn_of Try.func50 rfl Try.ntmps50 (Nat.le_of_ble_eq_true rfl) ?_
  intro w0 hw0
  refine At.nrm ?_
  refine At.ktext (.n false 0 (.n false 1 (.n false 2 .done))) ?_
  refine AtT.kbox ?_
  intro b2
  refine AtT.kbox ?_
  intro b3
  refine AtT.kalloc z31 ?_
  intro b4
  refine AtT.done ?_
  refine At.nrm ?_
  refine At.ktext (.q 0 .done) ?_
  refine AtT.kassign ?_
  refine AtT.done ?_
  refine At.nrm ?_
  refine At.ktext (.q 0 .done) ?_
  refine AtT.kassign ?_
  refine AtT.done ?_
  refine At.nrm ?_
  refine At.lp (ι := Nat) (KS := fun k => [(2, .pointer (some ⟨b2, 0, none⟩)), (3, .pointer (some ⟨b3, 0, none⟩)), (4, .pointer (some ⟨b4, 0, none⟩)), (5, iv (minL (devs x (L.pl.take k) (L.ed.take k)))), (6, iv k)])
    (OS := fun _ => [.blk b2 (LC [.slice a L.pl.length c, .slice a' L.ed.length c'] 25), .blk b3 (LC [iv x.den, iv x.start, iv x.step] 27), .blk b4 (LC [iv 0, iv 0] 31)])
    (VS := fun k V' => V' = V ∧ k ≤ L.pl.length) (μ := fun k => L.pl.length - k) 0 ?_ ?_ ?_ ?_
  · exact ⟨rfl, rfl, rfl, rfl, rfl, trivial⟩
  · exact Pt.auto
  · exact ⟨rfl, Nat.zero_le _⟩
  · rintro k V' ks' O' ⟨rfl, hkl⟩ hk hO hl
    subst hk hO
    refine At.nrm ?_
    refine At.ktext (.q 0 (.q 1 (.q 2 (.q 3 (.q 4 .done))))) ?_
    refine AtT.kmove ?_
    first | refine AtT.kfieldO fo25_0 ?_ | with_reducible refine AtT.kfield2 fo25_0 ?_ | refine AtT.kfield fo25_0 ?_
    first | refine AtT.kloadO tk22 ?_ | refine AtT.kload tk22 ?_
    first | refine AtT.klenS Try.underlying22 ?_ | refine AtT.klenR Try.underlying22 ?_
    refine AtT.klss ?_
    refine AtT.done ?_
    refine At.nrm ?_
    refine At.condP rfl (fun hb => ?_) (fun hb => ?_)
    · obtain ⟨y, hy⟩ : ∃ r, L.pl[k]? = some r := ⟨L.pl[k]'(by omega), List.getElem?_eq_getElem (by omega)⟩
      obtain ⟨r, hr⟩ : ∃ r, L.ed[k]? = some r := ⟨L.ed[k]'(by omega), List.getElem?_eq_getElem (by omega)⟩
      have hat := at0 y (List.mem_of_getElem? hy)
      have hrr := edge r (List.mem_of_getElem? hr)
      have hbd := dev_bd hx hat hrr
      have hsn := devs_snoc x _ _ k _ _ hy hr
      have hdl : (devs x (L.pl.take k) (L.ed.take k)).length = 2 * k := by
        rw [devs_len _ _ _ (by simp; omega)]; simp; omega
      refine At.nrm ?_
      refine At.draw (.q 0 (.q 1 (.q 2 (.q 3 (.q 4 (.q 5 (.q 6 (.q 7 (.q 8 (.q 9 (.q 10 (.q 11 .done)))))))))))) ffm (by kernel_rfl) ?_
      first | refine AtT.kfieldO fo27_1 ?_ | with_reducible refine AtT.kfield2 fo27_1 ?_ | refine AtT.kfield fo27_1 ?_
      first | refine AtT.kloadO tk2 ?_ | refine AtT.kload tk2 ?_
      first | refine AtT.kfieldO fo27_2 ?_ | with_reducible refine AtT.kfield2 fo27_2 ?_ | refine AtT.kfield fo27_2 ?_
      first | refine AtT.kloadO tk2 ?_ | refine AtT.kload tk2 ?_
      first | refine AtT.kfieldO fo25_0 ?_ | with_reducible refine AtT.kfield2 fo25_0 ?_ | refine AtT.kfield fo25_0 ?_
      first | refine AtT.kloadO tk22 ?_ | refine AtT.kload tk22 ?_
      refine AtT.kmove ?_
      refine AtT.kidx Try.underlying22 tk2 ?_
      intro p23 e23 he23 hc23
      obtain rfl : e23 = y := by have : L.pl[k]? = some e23 := (by simpa using he23); rw [hy] at this; simpa using this.symm
      first | refine AtT.kloadO tk2 ?_ | refine AtT.kload tk2 ?_
      first | refine AtT.kmul ?_ | refine AtT.kmulW ?_
      first | refine AtT.kadd ?_ | refine AtT.kaddW ?_
      refine AtT.kassign ?_
      refine AtT.done ?_
      refine At.nrm ?_
      refine At.draw (.q 0 (.q 1 (.q 2 (.q 3 (.q 4 (.q 5 (.q 6 (.q 7 (.q 8 (.q 9 (.q 10 (.q 11 (.q 12 (.q 13 (.q 14 (.q 15 (.q 16 (.q 17 (.q 18 (.q 19 (.q 20 (.q 21 (.q 22 (.q 23 .done)))))))))))))))))))))))) ffm (by kernel_rfl) ?_
      refine AtT.kmove ?_
      first | refine AtT.kfieldO fo25_1 ?_ | with_reducible refine AtT.kfield2 fo25_1 ?_ | refine AtT.kfield fo25_1 ?_
      first | refine AtT.kloadO tk23 ?_ | refine AtT.kload tk23 ?_
      refine AtT.kmove ?_
      refine AtT.kidx Try.underlying23 tk69 ?_
      intro p31 e31 he31 hc31
      obtain rfl : e31 = r := by have : L.ed[k]? = some e31 := (by simpa using he31); rw [hr] at this; simpa using this.symm
      first | refine AtT.kfieldO fo69_0 ?_ | with_reducible refine AtT.kfield2 fo69_0 ?_ | refine AtT.kfield fo69_0 ?_
      first | refine AtT.kloadO tk2 ?_ | refine AtT.kload tk2 ?_
      first | refine AtT.kfieldO fo27_0 ?_ | with_reducible refine AtT.kfield2 fo27_0 ?_ | refine AtT.kfield fo27_0 ?_
      first | refine AtT.kloadO tk2 ?_ | refine AtT.kload tk2 ?_
      first | refine AtT.kmul ?_ | refine AtT.kmulW ?_
      first | refine AtT.ksubt ?_ | refine AtT.ksubW ?_
      first | refine AtT.kfieldO fo25_1 ?_ | with_reducible refine AtT.kfield2 fo25_1 ?_ | refine AtT.kfield fo25_1 ?_
      first | refine AtT.kloadO tk23 ?_ | refine AtT.kload tk23 ?_
      refine AtT.kmove ?_
      refine AtT.kidx Try.underlying23 tk69 ?_
      intro p41 e41 he41 hc41
      obtain rfl : e41 = e31 := by have : L.ed[k]? = some e41 := (by simpa using he41); rw [hr] at this; simpa using this.symm
      first | refine AtT.kfieldO fo69_1 ?_ | with_reducible refine AtT.kfield2 fo69_1 ?_ | refine AtT.kfield fo69_1 ?_
      first | refine AtT.kloadO tk2 ?_ | refine AtT.kload tk2 ?_
      first | refine AtT.kfieldO fo27_0 ?_ | with_reducible refine AtT.kfield2 fo27_0 ?_ | refine AtT.kfield fo27_0 ?_
      first | refine AtT.kloadO tk2 ?_ | refine AtT.kload tk2 ?_
      first | refine AtT.kmul ?_ | refine AtT.kmulW ?_
      refine AtT.kmove ?_
      first | refine AtT.ksubt ?_ | refine AtT.ksubW ?_
      refine AtT.kmin2 ?_
      refine AtT.kassign ?_
      refine AtT.done ?_
      refine At.nrm ?_
      refine At.ktext (.q 0 (.q 1 (.q 2 (.q 3 (.q 4 (.q 5 (.q 6 .done))))))) ?_
      refine AtT.kmove ?_
      refine AtT.keqI ?_
      refine AtT.kmove ?_
      all_goals (first | refine AtT.kL 52 ?_ | refine AtT.pcase (d := 52) rfl (fun hg52 => ?_) (fun hg52 => ?_) | refine AtT.bcase (d := 52) rfl (fun hg52 => ?_) (fun hg52 => ?_))
      all_goals (first | refine AtT.kpass ?_ | refine AtT.kpassU ?_ | ((refine AtT.kmove ?_)))
      all_goals (first | refine AtT.kpass ?_ | refine AtT.kpassU ?_ | ((refine AtT.kmove ?_)))
      all_goals (first | refine AtT.kpass ?_ | refine AtT.kpassU ?_ | ((refine AtT.klss ?_)))
      all_goals (refine AtT.kpick ?_)
      all_goals refine AtT.done ?_
      all_goals (refine At.nrm ?_)
      · have hk0 : k = 0 := by omega
        subst hk0
        refine At.condT rfl rfl ?_
        refine At.nrm ?_
        refine At.ktext (.q 0 (.q 1 .done)) ?_
        refine AtT.kmove ?_
        refine AtT.kassign ?_
        refine AtT.done ?_
        refine At.nrm ?_
        refine At.ktext (.q 0 (.q 1 (.q 2 .done))) ?_
        refine AtT.kmove ?_
        first | refine AtT.kadd ?_ | refine AtT.kaddW ?_
        refine AtT.kassign ?_
        refine AtT.done ?_
        refine At.nrm ?_
        refine At.round 1 ?_ ?_ ?_ ?_
        · show L.pl.length - 1 < L.pl.length - 0; omega
        · exact ⟨rfl, by omega⟩
        · refine ⟨rfl, rfl, rfl, ?_, rfl, trivial⟩
          rw [hsn]; simp only [List.take_zero, devs, List.nil_append]; rw [minL_two]; rfl
        · exact Pt.auto
      · have hms := minL_snoc (devs x (L.pl.take k) (L.ed.take k)) (x.start + x.step * e23 - e41.lo * x.den) (e41.hi * x.den - (x.start + x.step * e23)) (by omega)
        rw [← hsn] at hms
        refine At.condP rfl (fun hlt => ?_) (fun hlt => ?_)
        · rw [if_pos hlt] at hms
          refine At.nrm ?_
          refine At.ktext (.q 0 (.q 1 .done)) ?_
          refine AtT.kmove ?_
          refine AtT.kassign ?_
          refine AtT.done ?_
          refine At.nrm ?_
          refine At.ktext (.q 0 (.q 1 (.q 2 .done))) ?_
          refine AtT.kmove ?_
          first | refine AtT.kadd ?_ | refine AtT.kaddW ?_
          refine AtT.kassign ?_
          refine AtT.done ?_
          refine At.nrm ?_
          refine At.round (k + 1) ?_ ?_ ?_ ?_
          · show L.pl.length - (k + 1) < L.pl.length - k; omega
          · exact ⟨rfl, by omega⟩
          · refine ⟨rfl, rfl, rfl, ?_, rfl, trivial⟩
            rw [hms]; rfl
          · exact Pt.auto
        · rw [if_neg hlt] at hms
          refine At.nrm ?_
          refine At.ktext (.q 0 (.q 1 (.q 2 .done))) ?_
          refine AtT.kmove ?_
          first | refine AtT.kadd ?_ | refine AtT.kaddW ?_
          refine AtT.kassign ?_
          refine AtT.done ?_
          refine At.nrm ?_
          refine At.round (k + 1) ?_ ?_ ?_ ?_
          · show L.pl.length - (k + 1) < L.pl.length - k; omega
          · exact ⟨rfl, by omega⟩
          · refine ⟨rfl, rfl, rfl, ?_, rfl, trivial⟩
            rw [hms]; rfl
          · exact Pt.auto
    · have hkk : k = L.pl.length := by omega
      subst hkk
      have etk : L.ed.take L.pl.length = L.ed := by rw [← el, List.take_length]
      rw [etk, List.take_length]
      unfold coreOf
      unfold coreN at hmb ⊢
      refine At.nrm ?_
      refine At.ktext (.q 0 (.q 1 (.q 2 (.n false 3 (.n true 4 .done))))) ?_
      refine AtT.kmove ?_
      first | refine AtT.kfieldO fo27_0 ?_ | with_reducible refine AtT.kfield2 fo27_0 ?_ | refine AtT.kfield fo27_0 ?_
      first | refine AtT.kloadO tk2 ?_ | refine AtT.kload tk2 ?_
      refine AtT.kcallP rfl rfl ok51 (by_r _ _ _ (by omega) (by omega) d0 (by omega)) ?_
      rintro _ rfl
      refine AtT.kstoreA tk31 ?_
      refine AtT.done ?_
      refine At.nrm ?_
      refine At.ret1 rfl (.agg rfl tk31 Pick.auto rfl) rfl

end Go.Proofs.Ytnionkopmncopaa
set_option linter.unusedVariables false
namespace Go.Proofs.Ytnionkopmncopaa
open Go.Lw Go.Pl Go.RowKit

def coreR (L : Lg) (x : Ln) : Rt × Int := if logE L ≠ 0 then (⟨0, 0⟩, logE L) else if lineE x ≠ 0 then (⟨0, 0⟩, lineE x) else (coreOf L x, 0)

theorem core_p (L : Lg) (x : Ln) (V : View) (v : Value) (hv : LogV V v L) : Fnc Try.prog 20 [v, lnv x] V fun r _ => r = .tuple #[rtv (coreR L x).1, iv (coreR L x).2] := by
  have hv' := hv
  obtain ⟨a, c, a', c', rfl, h2, h3⟩ := hv
  refine fn_of Try.func20 rfl Try.ntmps20 (Nat.le_of_ble_eq_true rfl) ?_
  intro w0 hw0
  refine At.nrm ?_
  refine At.ktext (.n false 0 (.n false 1 (.n false 2 (.q 3 .done)))) ?_
  refine AtT.kbox ?_
  intro b2
  refine AtT.kbox ?_
  intro b3
  refine AtT.kalloc z31 ?_
  intro b4
  refine AtT.kassign ?_
  refine AtT.done ?_
  refine At.nrm ?_
  refine At.ktext (.q 0 (.n false 1 (.q 2 (.q 3 (.q 4 (.q 5 (.q 6 .done))))))) ?_
  first | refine AtT.kloadOA tk25 ?_ | refine AtT.kloadA tk25 ?_ | refine AtT.kloadOP tk25 ?_
  all_goals (refine AtT.kcall rfl rfl ok59 (open_f L _ _ hv') ?_)
  all_goals (rintro _ V1 hV1 (⟨he, rfl⟩ | ⟨he, p, rfl, hp⟩))
  all_goals (refine AtT.kmove ?_)
  all_goals (refine AtT.kextract ?_)
  all_goals (refine AtT.kextract ?_)
  all_goals (refine AtT.kassign ?_)
  all_goals (refine AtT.kassign ?_)
  all_goals refine AtT.done ?_
  all_goals (refine At.nrm ?_)
  · refine At.ktext (.q 0 (.q 1 .done)) ?_
    refine AtT.kmove ?_
    refine AtT.kneI ?_
    refine AtT.done ?_
    refine At.nrm ?_
    refine At.condP rfl (fun hb => ?_) (fun hb => absurd he hb)
    refine At.nrm ?_
    refine At.ktext (.q 0 (.q 1 (.n true 2 (.q 3 .done)))) ?_
    refine AtT.kbuild (bd31) ?_
    refine AtT.kmove ?_
    refine AtT.kstoreA tk31 ?_
    refine AtT.kassign ?_
    refine AtT.done ?_
    refine At.nrm ?_
    refine At.ret2 rfl (.agg rfl tk31 Pick.auto rfl) (.tmp rfl) ?_
    rw [coreR, if_pos he]
  · refine At.ktext (.q 0 (.q 1 .done)) ?_
    refine AtT.kmove ?_
    refine AtT.kneI ?_
    refine AtT.done ?_
    refine At.nrm ?_
    refine At.condF rfl rfl ?_
    refine At.nrm ?_
    refine At.ktext (.q 0 (.n false 1 (.q 2 .done))) ?_
    first | refine AtT.kloadOA tk27 ?_ | refine AtT.kloadA tk27 ?_ | refine AtT.kloadOP tk27 ?_
    refine AtT.kcallP rfl rfl ok24 (checkLine_f x _) ?_
    rintro _ rfl
    refine AtT.kassign ?_
    refine AtT.done ?_
    refine At.nrm ?_
    refine At.ktext (.q 0 (.q 1 .done)) ?_
    refine AtT.kmove ?_
    refine AtT.kneI ?_
    refine AtT.done ?_
    refine At.nrm ?_
    refine At.condP rfl (fun hb => ?_) (fun hb => ?_)
    · refine At.nrm ?_
      refine At.ktext (.q 0 (.q 1 (.n true 2 (.q 3 .done)))) ?_
      refine AtT.kbuild (bd31) ?_
      refine AtT.kmove ?_
      refine AtT.kstoreA tk31 ?_
      refine AtT.kassign ?_
      refine AtT.done ?_
      refine At.nrm ?_
      refine At.ret2 rfl (.agg rfl tk31 Pick.auto rfl) (.tmp rfl) ?_
      rw [coreR, if_neg (by simp [he]), if_pos hb]
    · have hb' : lineE x = 0 := by simpa using hb
      refine At.nrm ?_
      refine At.ktext (.q 0 (.q 1 (.n false 2 (.n true 3 (.q 4 .done))))) ?_
      refine AtT.kmove ?_
      first | refine AtT.kloadOA tk27 ?_ | refine AtT.kloadA tk27 ?_ | refine AtT.kloadOP tk27 ?_
      refine AtT.kcallP rfl rfl ok60 (core_f L x _ p hp (logE_ok he) (lineE_ok hb')) ?_
      rintro _ rfl
      refine AtT.kstoreA tk31 ?_
      refine AtT.kassign ?_
      refine AtT.done ?_
      refine At.nrm ?_
      refine At.ret2 rfl (.agg rfl tk31 Pick.auto rfl) (.tmp rfl) ?_
      rw [coreR, if_neg (by simp [he]), if_neg (by simp [hb'])]

theorem core_q (L : Lg) (x : Ln) (V : View) (v : Value) (hv : LogV V v L) : Fnc Try.prog 21 [v, lnv x] V fun r _ => r = .tuple #[rtv (coreR L x).1, iv (coreR L x).2] := by
  have hv' := hv
  obtain ⟨a, c, a', c', rfl, h2, h3⟩ := hv
  refine fn_of Try.func21 rfl Try.ntmps21 (Nat.le_of_ble_eq_true rfl) ?_
  intro w0 hw0
  refine At.nrm ?_
  refine At.ktext (.n false 0 (.n false 1 (.n false 2 (.q 3 .done)))) ?_
  refine AtT.kbox ?_
  intro b2
  refine AtT.kbox ?_
  intro b3
  refine AtT.kalloc z31 ?_
  intro b4
  refine AtT.kassign ?_
  refine AtT.done ?_
  refine At.nrm ?_
  refine At.ktext (.q 0 (.n false 1 (.q 2 .done))) ?_
  first | refine AtT.kloadOA tk25 ?_ | refine AtT.kloadA tk25 ?_ | refine AtT.kloadOP tk25 ?_
  refine AtT.kcallP rfl rfl ok23 (rcheckLog_f L _ _ hv') ?_
  rintro _ rfl
  refine AtT.kneI ?_
  refine AtT.done ?_
  refine At.nrm ?_
  refine At.condP rfl (fun hb => ?_) (fun hb => ?_)
  · refine At.nrm ?_
    refine At.ktext (.q 0 (.q 1 (.n false 2 (.n true 3 (.q 4 .done))))) ?_
    refine AtT.kbuild (bd31) ?_
    first | refine AtT.kloadOA tk25 ?_ | refine AtT.kloadA tk25 ?_ | refine AtT.kloadOP tk25 ?_
    refine AtT.kcallP rfl rfl ok23 (rcheckLog_f L _ _ hv') ?_
    rintro _ rfl
    refine AtT.kstoreA tk31 ?_
    refine AtT.kassign ?_
    refine AtT.done ?_
    refine At.nrm ?_
    refine At.ret2 rfl (.agg rfl tk31 Pick.auto rfl) (.tmp rfl) ?_
    rw [coreR, if_pos hb]
  · have he : logE L = 0 := by simpa using hb
    refine At.nrm ?_
    refine At.ktext (.q 0 (.n false 1 (.q 2 .done))) ?_
    first | refine AtT.kloadOA tk27 ?_ | refine AtT.kloadA tk27 ?_ | refine AtT.kloadOP tk27 ?_
    refine AtT.kcallP rfl rfl ok25 (rcheckLine_f x _) ?_
    rintro _ rfl
    refine AtT.kneI ?_
    refine AtT.done ?_
    refine At.nrm ?_
    refine At.condP rfl (fun hb => ?_) (fun hb => ?_)
    · refine At.nrm ?_
      refine At.ktext (.q 0 (.q 1 (.n false 2 (.n true 3 (.q 4 .done))))) ?_
      refine AtT.kbuild (bd31) ?_
      first | refine AtT.kloadOA tk27 ?_ | refine AtT.kloadA tk27 ?_ | refine AtT.kloadOP tk27 ?_
      refine AtT.kcallP rfl rfl ok25 (rcheckLine_f x _) ?_
      rintro _ rfl
      refine AtT.kstoreA tk31 ?_
      refine AtT.kassign ?_
      refine AtT.done ?_
      refine At.nrm ?_
      refine At.ret2 rfl (.agg rfl tk31 Pick.auto rfl) (.tmp rfl) ?_
      rw [coreR, if_neg (by simp [he]), if_pos hb]
    · have hb' : lineE x = 0 := by simpa using hb
      refine At.nrm ?_
      refine At.ktext (.q 0 (.q 1 (.n false 2 (.n true 3 (.q 4 .done))))) ?_
      first | refine AtT.kloadOA tk25 ?_ | refine AtT.kloadA tk25 ?_ | refine AtT.kloadOP tk25 ?_
      first | refine AtT.kloadOA tk27 ?_ | refine AtT.kloadA tk27 ?_ | refine AtT.kloadOP tk27 ?_
      refine AtT.kcallP rfl rfl ok50 (rcoreOf_f L x _ _ hv' (logE_ok he) (lineE_ok hb')) ?_
      rintro _ rfl
      refine AtT.kstoreA tk31 ?_
      refine AtT.kassign ?_
      refine AtT.done ?_
      refine At.nrm ?_
      refine At.ret2 rfl (.agg rfl tk31 Pick.auto rfl) (.tmp rfl) ?_
      rw [coreR, if_neg (by simp [he]), if_neg (by simp [hb'])]
end Go.Proofs.Ytnionkopmncopaa
namespace Go.Pl

def plP (L : Lg) (i : Int) : Int := L.pl.getD i.toNat 0
def edP (L : Lg) (i : Int) : Rg := L.ed.getD i.toNat ⟨0, 0⟩
/-- A proof as described. -/
structure PfOk (L : Lg) (p : Pf) : Prop where
  f0 : 0 ≤ p.f
  fm : p.f ≤ p.m
  ml : p.m ≤ p.l
  ln : p.l < L.pl.length
  one : p.f = p.l → p.s = 0
  many : p.f ≠ p.l → p.f < p.m ∧ p.m < p.l ∧ (p.s = 1 ∨ p.s = 2)
def shapedB (L : Lg) (p : Pf) : Bool :=
  decide (0 ≤ p.f ∧ p.f ≤ p.m ∧ p.m ≤ p.l ∧ p.l < L.pl.length) && (if p.f = p.l then decide (p.s = 0) else decide (p.f < p.m ∧ p.m < p.l ∧ (p.s = 1 ∨ p.s = 2)))
theorem shapedB_iff (L : Lg) (p : Pf) : shapedB L p = true ↔ PfOk L p := by
  unfold shapedB
  by_cases c : p.f = p.l
  · simp only [c, if_true, Bool.and_eq_true, decide_eq_true_eq]
    constructor
    · rintro ⟨⟨a, b, d, e⟩, s⟩
      exact ⟨by omega, by omega, d, e, fun _ => s, fun h => absurd c h⟩
    · intro h
      obtain ⟨h1, h2, h3, h4, h5, h6⟩ := h
      exact ⟨⟨by omega, by omega, h3, h4⟩, h5 c⟩
  · simp only [c, if_false, Bool.and_eq_true, decide_eq_true_eq]
    constructor
    · rintro ⟨⟨a, b, d, e⟩, s⟩
      exact ⟨a, b, d, e, fun h => absurd h c, fun _ => s⟩
    · intro h
      obtain ⟨h1, h2, h3, h4, h5, h6⟩ := h
      exact ⟨⟨h1, h2, h3, h4⟩, h6 c⟩

def lftP (L : Lg) (p : Pf) : Int := plP L p.m - plP L p.f
def rgtP (L : Lg) (p : Pf) : Int := plP L p.l - plP L p.m
def provN (L : Lg) (p : Pf) : Int :=
  if p.f = p.l then (edP L p.m).hi - (edP L p.m).lo
  else if p.s = 1 then ((edP L p.m).hi - (edP L p.f).lo) * rgtP L p + ((edP L p.m).hi - (edP L p.l).lo) * lftP L p
  else ((edP L p.f).hi - (edP L p.m).lo) * rgtP L p + ((edP L p.l).hi - (edP L p.m).lo) * lftP L p
def provD (L : Lg) (p : Pf) : Int := if p.f = p.l then 2 else 2 * (lftP L p + rgtP L p)
/-- What a proof proves. -/
def provV (L : Lg) (p : Pf) : Rt := rat (provN L p) (provD L p)

theorem plP_some {L : Lg} {i : Int} {x : Int} (h : L.pl[i.toNat]? = some x) : x = plP L i := by simp [plP, List.getD, h]
theorem edP_some {L : Lg} {i : Int} {x : Rg} (h : L.ed[i.toNat]? = some x) : x = edP L i := by simp [edP, List.getD, h]

theorem LgOk.lt {L : Lg} (h : LgOk L) : ∀ (j i : Nat), i < j → j < L.pl.length → L.pl.getD i 0 < L.pl.getD j 0
  | 0, i, h1, _ => by omega
  | j + 1, i, h1, h2 => by
    have := h.inc j h2
    by_cases c : i = j
    · subst c; exact this
    · exact Int.lt_trans (h.lt j i (by omega) (by omega)) this
theorem LgOk.plB {L : Lg} (h : LgOk L) {i : Int} (h0 : 0 ≤ i) (h1 : i < L.pl.length) : 0 ≤ plP L i ∧ plP L i ≤ 100 := by
  have hi : i.toNat < L.pl.length := by omega
  have : plP L i = L.pl[i.toNat] := by simp [plP, List.getD, List.getElem?_eq_getElem hi]
  rw [this]; exact h.at0 _ (List.getElem_mem hi)
theorem LgOk.edB {L : Lg} (h : LgOk L) {i : Int} (h0 : 0 ≤ i) (h1 : i < L.pl.length) : -1000 ≤ (edP L i).lo ∧ (edP L i).lo ≤ (edP L i).hi ∧ (edP L i).hi ≤ 1000 := by
  have hi : i.toNat < L.ed.length := by have := h.el; omega
  have : edP L i = L.ed[i.toNat] := by simp [edP, List.getD, List.getElem?_eq_getElem hi]
  rw [this]; exact h.edge _ (List.getElem_mem hi)
theorem LgOk.plL {L : Lg} (h : LgOk L) {i j : Int} (h0 : 0 ≤ i) (hij : i < j) (h1 : j < L.pl.length) : plP L i < plP L j := h.lt j.toNat i.toNat (by omega) (by omega)

theorem prov_bd {L : Lg} (h : LgOk L) {p : Pf} (hp : PfOk L p) :
    (p.f ≠ p.l → 0 < lftP L p ∧ lftP L p ≤ 100 ∧ 0 < rgtP L p ∧ rgtP L p ≤ 100) ∧ 0 < provD L p ∧ provD L p ≤ 400 ∧ -400000 ≤ provN L p ∧ provN L p ≤ 400000 := by
  obtain ⟨f0, fm, ml, ln, one, many⟩ := hp
  have e1 := h.edB f0 (by omega)
  have e2 := h.edB (i := p.m) (by omega) (by omega)
  have e3 := h.edB (i := p.l) (by omega) (by omega)
  have a1 := h.plB f0 (by omega)
  have a2 := h.plB (i := p.m) (by omega) (by omega)
  have a3 := h.plB (i := p.l) (by omega) (by omega)
  by_cases c : p.f = p.l
  · refine ⟨fun h => absurd c h, ?_⟩
    simp only [provD, provN, c, if_true]
    omega
  · obtain ⟨c1, c2, c3⟩ := many c
    have l1 := h.plL f0 c1 (by omega)
    have l2 := h.plL (i := p.m) (by omega) c2 ln
    have b1 : 0 < lftP L p ∧ lftP L p ≤ 100 := by unfold lftP; omega
    have b2 : 0 < rgtP L p ∧ rgtP L p ≤ 100 := by unfold rgtP; omega
    refine ⟨fun _ => ⟨b1.1, b1.2, b2.1, b2.2⟩, ?_⟩
    have m1 := mul_bd (a := (edP L p.m).hi - (edP L p.f).lo) (b := rgtP L p) (A := 2000) (B := 100) (by decide) (by decide) (by omega) (by omega) (by omega) (by omega)
    have m2 := mul_bd (a := (edP L p.m).hi - (edP L p.l).lo) (b := lftP L p) (A := 2000) (B := 100) (by decide) (by decide) (by omega) (by omega) (by omega) (by omega)
    have m3 := mul_bd (a := (edP L p.f).hi - (edP L p.m).lo) (b := rgtP L p) (A := 2000) (B := 100) (by decide) (by decide) (by omega) (by omega) (by omega) (by omega)
    have m4 := mul_bd (a := (edP L p.l).hi - (edP L p.m).lo) (b := lftP L p) (A := 2000) (B := 100) (by decide) (by decide) (by omega) (by omega) (by omega) (by omega)
    simp only [provD, provN, c, if_false]
    refine ⟨by omega, by omega, ?_⟩
    by_cases s1 : p.s = 1 <;> simp only [s1, if_true, if_false] <;> omega

/-- A fraction in least terms is bounded. -/
theorem rat_bd (n d : Int) (hd : 0 < d) : (rat n d).num.natAbs ≤ n.natAbs ∧ 0 < (rat n d).den ∧ (rat n d).den ≤ d := by
  have hg : 0 < Int.gcd n d := Int.gcd_pos_of_ne_zero_right n (by omega)
  refine ⟨tdiv_le _ _, ?_, ?_⟩
  · have h1 : ((Int.gcd n d : Nat) : Int) ∣ d := Int.gcd_dvd_right ..
    obtain ⟨k, hk⟩ := h1
    have hg' : 0 < ((Int.gcd n d : Nat) : Int) := by omega
    have : (rat n d).den = k := by
      show d.tdiv ((Int.gcd n d : Nat) : Int) = k
      generalize ((Int.gcd n d : Nat) : Int) = g at hk hg'
      subst hk
      exact Int.mul_tdiv_cancel_left _ (by omega)
    rw [this]
    rcases Int.lt_trichotomy k 0 with h | h | h
    · have : ((Int.gcd n d : Nat) : Int) * k < 0 := Int.mul_neg_of_pos_of_neg (by omega) h
      omega
    · subst h; omega
    · exact h
  · have := tdiv_le d (Int.gcd n d : Nat)
    have : (rat n d).den.natAbs ≤ d.natAbs := this
    omega
end Go.Pl
set_option linter.unusedVariables false
namespace Go.Proofs.Ytnionkopmncopaa
open Go.Lw Go.Pl Go.RowKit
theorem eqS27 (x1 : Int) (x2 : Int) (x3 : Int) (x4 : Int) (x5 : Int) (x6 : Int) : EqS Try.prog 27 [(.int .i64 x1), (.int .i64 x2), (.int .i64 x3)] [(.int .i64 x4), (.int .i64 x5), (.int .i64 x6)] (decide (x1 = x4 ∧ x2 = x5 ∧ x3 = x6)) := by
  refine ⟨by first | exact Try.eqGuardType27 | kernel_rfl, fun w => ?_⟩
  have u2 := Try.underlying2
  have a2 := Try.isAgg2
  have z2 := Try.sizeOf2
  have hS : Try.prog.underlying 27 = some (.struct (Try.prog.fieldsOf 27)) := by kernel_rfl
  have hp : Try.prog.stoodInHeld 27 = false := by kernel_rfl
  rw [show (10000 : Nat) = 9999 + 1 from rfl, run_equalIn_agg w 9999 27 _ _ hS hp]
  simp only [Program.fieldsOf, Try.underlying27]
  go_simp
  by_cases h0 : x1 = x4 <;> by_cases h1 : x2 = x5 <;> by_cases h2 : x3 = x6 <;> simp [*]
theorem eqS31 (x1 : Int) (x2 : Int) (x3 : Int) (x4 : Int) : EqS Try.prog 31 [(.int .i64 x1), (.int .i64 x2)] [(.int .i64 x3), (.int .i64 x4)] (decide (x1 = x3 ∧ x2 = x4)) := by
  refine ⟨by first | exact Try.eqGuardType31 | kernel_rfl, fun w => ?_⟩
  have u2 := Try.underlying2
  have a2 := Try.isAgg2
  have z2 := Try.sizeOf2
  have hS : Try.prog.underlying 31 = some (.struct (Try.prog.fieldsOf 31)) := by kernel_rfl
  have hp : Try.prog.stoodInHeld 31 = false := by kernel_rfl
  rw [show (10000 : Nat) = 9999 + 1 from rfl, run_equalIn_agg w 9999 31 _ _ hS hp]
  simp only [Program.fieldsOf, Try.underlying31]
  go_simp
  by_cases h0 : x1 = x3 <;> by_cases h1 : x2 = x4 <;> simp [*]
theorem eqS45 (x1 : Int) (x2 : Int) (x3 : Int) (x4 : Int) (x5 : Int) (x6 : Int) (x7 : Int) (x8 : Int) : EqS Try.prog 45 [(.int .i64 x1), (.int .i64 x2), (.int .i64 x3), (.int .i64 x4)] [(.int .i64 x5), (.int .i64 x6), (.int .i64 x7), (.int .i64 x8)] (decide (x1 = x5 ∧ x2 = x6 ∧ x3 = x7 ∧ x4 = x8)) := by
  refine ⟨by first | exact Try.eqGuardType45 | kernel_rfl, fun w => ?_⟩
  have u3 := Try.underlying3
  have a3 := Try.isAgg3
  have z3 := Try.sizeOf3
  have hS : Try.prog.underlying 45 = some (.struct (Try.prog.fieldsOf 45)) := by kernel_rfl
  have hp : Try.prog.stoodInHeld 45 = false := by kernel_rfl
  rw [show (10000 : Nat) = 9999 + 1 from rfl, run_equalIn_agg w 9999 45 _ _ hS hp]
  simp only [Program.fieldsOf, Try.underlying45]
  go_simp
  by_cases h0 : x1 = x5 <;> by_cases h1 : x2 = x6 <;> by_cases h2 : x3 = x7 <;> by_cases h3 : x4 = x8 <;> simp [*]
theorem eqS122 (x1 : Int) (x2 : Int) (x3 : Int) (x4 : Int) (x5 : Int) (x6 : Int) : EqS Try.prog 122 [(.int .i64 x1), (.int .i64 x2), (.int .i64 x3)] [(.int .i64 x4), (.int .i64 x5), (.int .i64 x6)] (decide (x1 = x4 ∧ x2 = x5 ∧ x3 = x6)) := by
  refine ⟨by first | exact Try.eqGuardType122 | kernel_rfl, fun w => ?_⟩
  have u3 := Try.underlying3
  have a3 := Try.isAgg3
  have z3 := Try.sizeOf3
  rw [show (10000 : Nat) = 9999 + 1 from rfl, Op.equalIn]
  simp only [Sem.run_bind, run_underlying Try.underlying122, Result.andThen_ok]
  simp only [Std.Legacy.Range.forIn_eq_forIn_range', Std.Legacy.Range.size, Nat.sub_zero, Nat.add_sub_cancel, Nat.div_one, List.range'_succ, List.range'_zero, List.forIn_cons, List.forIn_nil]
  go_simp
  by_cases h0 : x1 = x4 <;> by_cases h1 : x2 = x5 <;> by_cases h2 : x3 = x6 <;> simp [*]
theorem fl31_1 (x1 : Int) (x2 : Int) (w : World) : (Instr.field 31 (.agg #[(.int .i64 x1), (.int .i64 x2)]) 1).run Try.prog w = .ok (.int .i64 x2) w := by kernel_rfl

theorem key45 : KeyL Try.prog 45 pfv where
  eq a b w := by
    have := (eqS45 a.f a.m a.l a.s b.f b.m b.l b.s).2 w
    have e : decide (a = b) = decide (a.f = b.f ∧ a.m = b.m ∧ a.l = b.l ∧ a.s = b.s) := by
      cases a; cases b; simp
    rw [e]; exact this
  ck e a w := by
    have u3 := Try.underlying3
    have a3 := Try.isAgg3
    have z3 := Try.sizeOf3
    have ci : ∀ (x : Int) (w : World), (Instr.checkKey e 9999 3 (.int .i64 x)).run Try.prog w = .ok () w := fun x w => by
      rw [show (9999 : Nat) = 9998 + 1 from rfl, Instr.checkKey]
      simp [run_underlying u3, Sem.run_bind, Result.andThen_ok, Sem.run_pure]
    rw [show (10000 : Nat) = 9999 + 1 from rfl, Instr.checkKey]
    simp only [Sem.run_bind, run_underlying Try.underlying45, Result.andThen_ok]
    rw [← Array.forIn_toList]
    simp only [List.forIn_cons, List.forIn_nil, Sem.run_bind, Sem.run_pure, Result.andThen_ok]
    generalize (9999 : Nat) = q at ci ⊢
    go_simp
  sb a := by simp [Instr.sameBits]
  now := ⟨_, Try.underlying45, .inl fun a b => rfl⟩
end Go.Proofs.Ytnionkopmncopaa
