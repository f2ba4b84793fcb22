/- A part. -/
import Derived.Test.YtnffcfhdnjbdbaaGreatDoorQ1
set_option maxRecDepth 100000
namespace Go.Proofs.YtnffcfhdnjbdbaaGreatDoor
open Go Go.Clo
theorem go0:(List.range' 0 125).all (λg=>(Tryz.prog.funcs[g]?).all λfn=>!fn.goes)=true:=by kernel_rfl
theorem go125:(List.range' 125 125).all (λg=>(Tryz.prog.funcs[g]?).all λfn=>!fn.goes)=true:=by kernel_rfl
theorem go250:(List.range' 250 125).all (λg=>(Tryz.prog.funcs[g]?).all λfn=>!fn.goes)=true:=by kernel_rfl
theorem go375:(List.range' 375 125).all (λg=>(Tryz.prog.funcs[g]?).all λfn=>!fn.goes)=true:=by kernel_rfl
theorem go500:(List.range' 500 125).all (λg=>(Tryz.prog.funcs[g]?).all λfn=>!fn.goes)=true:=by kernel_rfl
theorem go625:(List.range' 625 125).all (λg=>(Tryz.prog.funcs[g]?).all λfn=>!fn.goes)=true:=by kernel_rfl
theorem go750:(List.range' 750 63).all (λg=>(Tryz.prog.funcs[g]?).all λfn=>!fn.goes)=true:=by kernel_rfl
theorem size_ok:Tryz.prog.funcs.size=813:=by kernel_rfl
theorem go_no (g:Nat) (fn:Func) (h:Tryz.prog.funcs[g]? = some fn):fn.goes=false:=by
 have hg:g<813:=by
  rcases Nat.lt_or_ge g 813 with h' | h'
  ·exact h'
  ·rw[Array.getElem?_eq_none (by rw[size_ok];exact h')]at h;cases h
 have key:∀ a k,(List.range' a k).all (λg=>(Tryz.prog.funcs[g]?).all λfn=>!fn.goes)=true->a<=g->g<a+k->fn.goes=false:=λa k hh h1 h2=>by
  have:=List.all_eq_true.1 hh g (List.mem_range'_1.2 ⟨h1,h2⟩)
  rw[h]at this;simpa using this
 rcases Nat.lt_or_ge g 125 with h0 | h0
 ·exact key 0 125 go0 (by omega) (by omega)
 rcases Nat.lt_or_ge g 250 with h125 | h125
 ·exact key 125 125 go125 (by omega) (by omega)
 rcases Nat.lt_or_ge g 375 with h250 | h250
 ·exact key 250 125 go250 (by omega) (by omega)
 rcases Nat.lt_or_ge g 500 with h375 | h375
 ·exact key 375 125 go375 (by omega) (by omega)
 rcases Nat.lt_or_ge g 625 with h500 | h500
 ·exact key 500 125 go500 (by omega) (by omega)
 rcases Nat.lt_or_ge g 750 with h625 | h625
 ·exact key 625 125 go625 (by omega) (by omega)
 exact key 750 63 go750 (by omega) (by omega)
theorem goes_ok:Tryz.prog.goes 3=false:=goes_no _ _ go_no
end Go.Proofs.YtnffcfhdnjbdbaaGreatDoor
