/- Texts that the last one of this claim imports. -/
import Derived.Test.YtmdcedioddchfaaGreatDoorProg
import Derived.Laws.StructEq
import Derived.ChangeKeysEq
import Derived.Laws.Tables
import Derived.Great.BuildSlice
import Derived.Laws.MakeOwn
import Derived.Test.YtmdcedioddchfaaGreatDoorQ3
set_option linter.unusedVariables false
set_option linter.unusedSimpArgs false
set_option linter.unusedSectionVars false
section
set_option linter.unusedVariables false
set_option linter.constructorNameAsVariable false
namespace Go.Ev
open Go.Lw
@[irreducible] noncomputable def Pr:Program:=Go.Proofs.Tryz.prog
abbrev KV:=AV→H→R
/-! ### Values -/
noncomputable def of1 (v:Value):Option Sc:=match v with | .int k n=>some (.i k n) | .bool b=>some (.b b) | .agg _=>none | .tuple _=>none | v=>some (.o (.c v))
noncomputable def ofL:List Value→Option (List Sc)
 | []=>some []
 | v::l=>match of1 v,ofL l with | some s,some r=>some (s::r) | _,_=>none
noncomputable def ofV (v:Value):AV:=match v with | .int k n=>.x (.i k n) | .bool b=>.x (.b b) | .agg cs=>(match ofL cs.toList with | some l=>.a l | none=>.u) | .tuple _=>.u | v=>.x (.o (.c v))
noncomputable def obn {Y Z:Type} (o:Option Y) (k:Y→Option Z):Option Z:=Option.rec (motive:=fun _=>Option Z) none (fun y=>k y) o
noncomputable def gd {Z:Type} (b:Bool) (x:Option Z):Option Z:=Bool.rec (motive:=fun _=>Option Z) none x b
noncomputable def kI {Z:Type} (b:Bool) (x y:Option Z):Option Z:=Bool.rec (motive:=fun _=>Option Z) y x b
noncomputable def asI_s {Z:Type} (s:Sc):(IntKind→Int→Option Z)→Option Z:=Sc.rec (motive:=fun _=>(IntKind→Int→Option Z)→Option Z) (fun k n K=>K k n) (fun _ _=>none) (fun _ _ _=>none) (fun _ _=>none) s
noncomputable def asI {Z:Type} (v:AV):(IntKind→Int→Option Z)→Option Z:=AV.rec (motive:=fun _=>(IntKind→Int→Option Z)→Option Z) (fun s=>asI_s s) (fun _ _=>none) (fun _ _=>none) v
noncomputable def asB_s {Z:Type} (s:Sc):(Bool→Option Z)→Option Z:=Sc.rec (motive:=fun _=>(Bool→Option Z)→Option Z) (fun _ _ _=>none) (fun b K=>K b) (fun _ _ _=>none) (fun _ _=>none) s
noncomputable def asB {Z:Type} (v:AV):(Bool→Option Z)→Option Z:=AV.rec (motive:=fun _=>(Bool→Option Z)→Option Z) (fun s=>asB_s s) (fun _ _=>none) (fun _ _=>none) v
noncomputable def asP_s {Z:Type} (s:Sc):(Nat→Nat→Option Z)→Option Z:=Sc.rec (motive:=fun _=>(Nat→Nat→Option Z)→Option Z) (fun _ _ _=>none) (fun _ _=>none) (fun i o K=>K i o) (fun _ _=>none) s
noncomputable def asP {Z:Type} (v:AV):(Nat→Nat→Option Z)→Option Z:=AV.rec (motive:=fun _=>(Nat→Nat→Option Z)→Option Z) (fun s=>asP_s s) (fun _ _=>none) (fun _ _=>none) v
noncomputable def asO_s {Z:Type} (s:Sc):(So→Option Z)→Option Z:=Sc.rec (motive:=fun _=>(So→Option Z)→Option Z) (fun _ _ _=>none) (fun _ _=>none) (fun _ _ _=>none) (fun x K=>K x) s
noncomputable def asO {Z:Type} (v:AV):(So→Option Z)→Option Z:=AV.rec (motive:=fun _=>(So→Option Z)→Option Z) (fun s=>asO_s s) (fun _ _=>none) (fun _ _=>none) v
noncomputable def asA {Z:Type} (v:AV):(List Sc→Option Z)→Option Z:=AV.rec (motive:=fun _=>(List Sc→Option Z)→Option Z) (fun _ _=>none) (fun l K=>K l) (fun _ _=>none) v
noncomputable def asT {Z:Type} (v:AV):(List (Sc ⊕ List Sc)→Option Z)→Option Z:=AV.rec (motive:=fun _=>(List (Sc ⊕ List Sc)→Option Z)→Option Z) (fun _ _=>none) (fun _ _=>none) (fun l K=>K l) v
noncomputable def frc_s {Z:Type} (s:Sc):(Sc→Z)→Z:=Sc.rec (motive:=fun _=>(Sc→Z)→Z) (fun k n K=>K (.i k n)) (fun b K=>K (.b b)) (fun i o K=>K (.p i o)) (fun x K=>K (.o x)) s
noncomputable def frc {Z:Type} (v:AV):(AV→Z)→Z:=AV.rec (motive:=fun _=>(AV→Z)→Z) (fun s K=>K (.x s)) (fun l K=>K (.a l)) (fun l K=>K (.t l)) v
noncomputable def cel {Z:Type} (s:Sc):(Sc→Option Z)→Option Z:=Sc.rec (motive:=fun _=>(Sc→Option Z)→Option Z) (fun k n K=>K (.i k n)) (fun b K=>K (.b b)) (fun i o K=>K (.p i o)) (fun x K=>gd (So.rec (motive:=fun _=>Bool) false false (fun _ _ _ _=>true) (fun _ _ _ _=>true) (fun _=>true) (fun _=>true) (fun _=>true) true (fun _=>true) x) (K (.o x))) s
structure Ev where
 mk::(v:L3→AV)
noncomputable def evO (x:Operand):Ev:=Operand.rec (motive:=fun _=>Ev) (fun t=>.mk fun τ=>(q3 t).g τ) (fun v=>.mk fun _=>ofV v) (fun g=>.mk fun _=>.u) (fun f=>.mk fun _=>.x (.o (.c (.func (.func f) #[] #[])))) x
/-! ### Numbers -/
noncomputable def kNo (k:IntKind):Nat:=IntKind.rec (motive:=fun _=>Nat) 0 1 2 3 4 5 6 7 k
noncomputable def lim (k:IntKind):Nat:=IntKind.rec (motive:=fun _=>Nat) 128 32768 2147483648 9223372036854775808 256 65536 4294967296 18446744073709551616 k
noncomputable def bts (k:IntKind):Nat:=IntKind.rec (motive:=fun _=>Nat) 8 16 32 64 8 16 32 64 k
noncomputable def sgn (k:IntKind):Bool:=IntKind.rec (motive:=fun _=>Bool) true true true true false false false false k
noncomputable def frcI (k:IntKind) (n:Int):Option AV:=Int.rec (motive:=fun _=>IntKind→Option AV) (fun m k=>nat m fun m=>some (.i k (.ofNat m))) (fun m k=>nat m fun m=>some (.i k (.negSucc m))) n k
noncomputable def mkI (k:IntKind) (n:Int):Option AV:=
 Int.rec (motive:=fun _=>IntKind→Option AV)
  (fun m k=>nat m fun m=>kI (Nat.blt m (lim k)) (some (.i k (.ofNat m))) (frcI k (k.wrap (.ofNat m))))
  (fun m k=>nat m fun m=>kI (sgn k && Nat.blt m (lim k)) (some (.i k (.negSucc m))) (frcI k (k.wrap (.negSucc m)))) n k
noncomputable def xc (x y:Int):Bool:=Int.rec (motive:=fun _=>Int→Bool) (fun a y=>Int.rec (motive:=fun _=>Nat→Bool) (fun b a=>Nat.ble a b) (fun _ _=>false) y a) (fun a y=>Int.rec (motive:=fun _=>Nat→Bool) (fun _ _=>true) (fun b a=>Nat.ble b a) y a) x y
noncomputable def ieqB (x y:Int):Bool:=Int.rec (motive:=fun _=>Int→Bool) (fun a y=>Int.rec (motive:=fun _=>Nat→Bool) (fun b a=>Nat.beq a b) (fun _ _=>false) y a) (fun a y=>Int.rec (motive:=fun _=>Nat→Bool) (fun _ _=>false) (fun b a=>Nat.beq a b) y a) x y
noncomputable def bl (b:Bool):Option AV:=Bool.rec (motive:=fun _=>Option AV) (some (.b false)) (some (.b true)) b
noncomputable def blN (b:Bool):Option AV:=Bool.rec (motive:=fun _=>Option AV) (some (.b true)) (some (.b false)) b
noncomputable def two {Z:Type} (x y:AV) (K:IntKind→Int→Int→Option Z):Option Z:=asI x fun k a=>asI y fun k' b=>gd (Nat.beq (kNo k) (kNo k')) (K k a b)
noncomputable def nn {Z:Type} (a:Int) (K:Nat→Option Z):Option Z:=Int.rec (motive:=fun _=>(Nat→Option Z)→Option Z) (fun a K=>K a) (fun _ _=>none) a K
noncomputable def bitE (f:(n:Nat)→BitVec n→BitVec n→BitVec n) (k:IntKind) (a b:Int):Option AV:=frcI k (k.wrap ((f k.bits (BitVec.ofInt k.bits a) (BitVec.ofInt k.bits b)).toNat:Int))
/-! ### Equality -/
noncomputable def lvF (g:TypeId→Option (List Nat)):List Field→Option (List Nat)
 | []=>some []
 | f::fs=>match tkB Pr f.type,g f.type,lvF g fs with
  | some z,some l,some r=>gd (f.name != "_" && l.all (fun i=>Nat.blt i z.2)) (some (l.map (f.offset + ·)++r))
  | _,_,_=>none
noncomputable def lvs:Nat→TypeId→Option (List Nat)
 | 0,_=>none
 | d+1,t=>match Pr.underlying t with
  | some (.int _)=>some [0]
  | some (.struct fs)=>kI (Pr.stoodInHeld t) none (lvF (lvs d) fs.toList)
  | some (.array n E)=>(match tkB Pr E,lvs d E with
   | some z,some l=>gd (l.all fun i=>Nat.blt i z.2) (some ((List.range n).flatMap fun i=>l.map (i*z.2 + ·)))
   | _,_=>none)
  | _=>none
noncomputable def agB (t:TypeId):Option Nat:=match tkB Pr t with | some z=>(match lvs 8 t with | some l=>gd (z.1 && l == List.range z.2 && !Pr.eqGuardType Pr.depth t) (some z.2) | none=>none) | none=>none
inductive Cl | ag (n:Nat) | pt | sl | st
noncomputable def clsB (t:TypeId):Option Cl:=match Pr.underlying t with
 | some (.pointer E)=>(match tkB Pr E with | some z=>kI (Nat.beq z.2 0) none (some .pt) | none=>none)
 | some (.slice _)=>some .sl
 | some .string=>some .st
 | some (.struct _)=>(agB t).map .ag
 | some (.array _ _)=>(agB t).map .ag
 | _=>none
noncomputable def eqI (x y:Sc) (K:Bool→Option Bool):Option Bool:=Sc.rec (motive:=fun _=>Option Bool) (fun k a=>Sc.rec (motive:=fun _=>Option Bool) (fun k' b=>gd (Nat.beq (kNo k) (kNo k')) (K (ieqB a b))) (fun _=>none) (fun _ _=>none) (fun _=>none) y) (fun _=>none) (fun _ _=>none) (fun _=>none) x
noncomputable def eqL (n:Nat) (l m:List Sc):Option Bool:=
 Nat.rec (motive:=fun _=>List Sc→List Sc→Option Bool) (fun l m=>List.rec (motive:=fun _=>Option Bool) (List.rec (motive:=fun _=>Option Bool) (some true) (fun _ _ _=>none) m) (fun _ _ _=>none) l)
  (fun _ ih l m=>List.rec (motive:=fun _=>Option Bool) none (fun x l _=>List.rec (motive:=fun _=>Option Bool) none (fun y m _=>eqI x y fun b=>kI b (ih l m) (some false)) m) l) n l m
noncomputable def len {α:Type} (l:List α):Nat:=List.rec (motive:=fun _=>Nat) 0 (fun _ _ n=>Nat.succ n) l
noncomputable def eqP (x y:Sc):Option Bool:=match x,y with
 | .p i o,.p j q=>gd (Nat.beq i j && Nat.beq o q) (some true)
 | .p ..,.o (.c (.pointer none))=>some false
 | .o (.c (.pointer none)),.p ..=>some false
 | .o (.c (.pointer none)),.o (.c (.pointer none))=>some true
 | _,_=>none
noncomputable def eqS (x y:Sc):Option Bool:=match x,y with
 | .o (.s ..),.o (.c (.slice none _ _))=>some false
 | .o (.w ..),.o (.c (.slice none _ _))=>some false
 | .o (.c (.slice none _ _)),.o (.c (.slice none _ _))=>some true
 | _,_=>none
noncomputable def eqT (x y:Sc):Option Bool:=match x,y with
 | .o (.c (.string s)),.o (.c (.string t))=>some (s == t)
 | _,_=>none
structure Be where
 mk::(g:AV→AV→Option Bool)
noncomputable def xx (x y:AV) (K:Sc→Sc→Option Bool):Option Bool:=AV.rec (motive:=fun _=>Option Bool) (fun x=>AV.rec (motive:=fun _=>Option Bool) (fun y=>K x y) (fun _=>none) (fun _=>none) y) (fun _=>none) (fun _=>none) x
noncomputable def eqE (t:TypeId):Be:=Option.rec (motive:=fun _=>Be) (.mk fun x y=>xx x y fun x y=>eqI x y some)
 (fun c=>Cl.rec (motive:=fun _=>Be) (fun n=>.mk fun x y=>asA x fun l=>asA y fun m=>gd (Nat.beq (len l) n && Nat.beq (len m) n) (eqL n l m)) (.mk fun x y=>xx x y eqP) (.mk fun x y=>xx x y eqS) (.mk fun x y=>xx x y eqT) c) (clsB t)
structure Bi where
 mk::(g:AV→AV→Option AV)
noncomputable def addS (x y:AV):Option AV:=match x,y with
 | .x (.o (.c (.string s))),.x (.o (.c (.string t)))=>gd (Nat.blt (s.size+t.size) 9223372036854775808) (some (.x (.o (.c (.string (s++t))))))
 | x,y=>two x y fun k a b=>mkI k (a+b)
noncomputable def isSt (t:TypeId):Bool:=match Pr.underlying t with | some .string=>true | _=>false
noncomputable def binE (op:BinOp) (t:TypeId):Bi:=BinOp.rec (motive:=fun _=>Bi) (Bool.rec (motive:=fun _=>Bi) (.mk fun x y=>two x y fun k a b=>mkI k (a+b)) (.mk addS) (isSt t)) (.mk fun x y=>two x y fun k a b=>mkI k (a-b)) (.mk fun x y=>two x y fun k a b=>mkI k (a*b)) (.mk fun x y=>two x y fun k a b=>gd (!ieqB b 0) (mkI k (Int.tdiv a b))) (.mk fun x y=>two x y fun k a b=>gd (!ieqB b 0) (frcI k (Int.tmod a b))) (.mk fun x y=>two x y fun k a b=>bitE (fun _ a b=>a &&& b) k a b) (.mk fun x y=>two x y fun k a b=>bitE (fun _ a b=>a ||| b) k a b) (.mk fun x y=>two x y fun k a b=>bitE (fun _ a b=>a ^^^ b) k a b) (.mk fun x y=>asI x fun k a=>asI y fun _ b=>nn a fun a=>nn b fun b=>gd (Nat.ble b (bts k)) (mkI k (.ofNat (Nat.shiftLeft a b)))) (.mk fun x y=>asI x fun k a=>asI y fun _ b=>nn a fun a=>nn b fun b=>gd (Nat.ble b (bts k)) (frcI k (.ofNat (Nat.shiftRight a b)))) (.mk fun x y=>two x y fun k a b=>bitE (fun _ a b=>a &&& ~~~b) k a b) (.mk fun x y=>obn ((eqE t).g x y) bl) (.mk fun x y=>obn ((eqE t).g x y) blN) (.mk fun x y=>two x y fun k a b=>blN (xc b a)) (.mk fun x y=>two x y fun k a b=>bl (xc a b)) (.mk fun x y=>two x y fun k a b=>blN (xc a b)) (.mk fun x y=>two x y fun k a b=>bl (xc b a)) op
structure Un where
 mk::(g:AV→Option AV)
noncomputable def unE (op:UnOp):Un:=UnOp.rec (motive:=fun _=>Un) (.mk fun x=>asI x fun k a=>mkI k (0-a)) (.mk fun _=>none) (.mk fun x=>asB x fun b=>blN b) (.mk fun _=>none) op
/-! ### Memory -/
noncomputable def hget (h:H) (id:Nat):B:=(p5 id).g h.t
noncomputable def jX {Z:Type} (h:H) (id:Nat):(Nat→Nat→TV→Option Z)→Option Z:=B.rec (motive:=fun _=>(Nat→Nat→TV→Option Z)→Option Z) (fun _=>none) (fun E n t K=>K E n t) (fun E n t K=>K E n t) (fun _ _=>none) (hget h id)
noncomputable def rowK (h:H) (id:Nat):(Nat→Nat→TV→R)→R:=B.rec (motive:=fun _=>(Nat→Nat→TV→R)→R) (fun _=>none) (fun _ _ _ _=>none) (fun E n t K=>K E n t) (fun _ _=>none) (hget h id)
noncomputable def blkO {Z:Type} (h:H) (id:Nat):(BO→Option Z)→Option Z:=B.rec (motive:=fun _=>(BO→Option Z)→Option Z) (fun _=>none) (fun _ _ _ _=>none) (fun _ _ _ _=>none) (fun b K=>K b) (hget h id)
noncomputable def editB (h:H) (id:Nat):(Nat→TV→(TV→B)→R)→R:=B.rec (motive:=fun _=>(Nat→TV→(TV→B)→R)→R) (fun _=>none) (fun E n t K=>K n t (.c E n)) (fun E n t K=>K n t (.r E n)) (fun _ _=>none) (hget h id)
noncomputable def xm (h:H) (id:Nat) (b:B) (K:H→R):R:=H.rec (motive:=fun _=>R) (fun nxt lo ac t=>(p5 id).s t b fun t=>K (.mk nxt (bif Nat.ble lo id then lo else id) ac t)) h
noncomputable def jF (h:H) (id:Nat) (b:B) (K:H→R):R:=H.rec (motive:=fun _=>R) (fun nxt lo ac t=>(p5 id).s t b fun t=>K (.mk nxt lo ac t)) h
noncomputable def newB (h:H) (b:B) (K:Nat→H→R):R:=H.rec (motive:=fun _=>R) (fun nxt lo ac t=>nat nxt fun n=>kI (Nat.blt n 32768) ((p5 n).s t b fun t=>K n (.mk (Nat.succ n) lo ac t)) none) h
noncomputable def shut {Z:Type} (h:H) (a:Nat×Nat) (K:Nat→Nat→H→Z):Z:=H.rec (motive:=fun _=>Z) (fun nxt lo ac t=>nat nxt fun n=>K n lo (.mk n n a t)) h
noncomputable def setLo {Z:Type} (h:H) (f:Nat→Nat) (a:Nat×Nat) (K:H→Z):Z:=H.rec (motive:=fun _=>Z) (fun nxt lo _ t=>nat (f lo) fun lo=>K (.mk nxt lo a t)) h
noncomputable def okW (h:H) (id:Nat):Bool:=Nat.ble h.lo id || Nat.beq h.ac.1 (Nat.succ id) || Nat.beq h.ac.2 (Nat.succ id)
noncomputable def scal {Z:Type} (v:AV) (K:Sc→Option Z):Option Z:=AV.rec (motive:=fun _=>(Sc→Option Z)→Option Z) (fun s K=>frc_s s K) (fun _ _=>none) (fun _ _=>none) v K
noncomputable def getL {Z:Type} (t:TV) (off n:Nat) (K:List Sc→Option Z):Option Z:=
 Nat.rec (motive:=fun _=>TV→Nat→(List Sc→Option Z)→Option Z) (fun _ _ K=>K []) (fun _ ih t off K=>nat off fun off=>scal (t.get off) fun v=>ih t (Nat.succ off) fun l=>K (v::l)) n t off K
noncomputable def setL {Z:Type} (l:List Sc) (t:TV) (off:Nat) (K:TV→Option Z):Option Z:=
 List.rec (motive:=fun _=>TV→Nat→(TV→Option Z)→Option Z) (fun t _ K=>K t) (fun v _ ih t off K=>nat off fun off=>t.set off (.x v) fun t=>ih t (Nat.succ off) K) l t off K
noncomputable def cellsOf {Z:Type} (v:AV):(List Sc→Option Z)→Option Z:=AV.rec (motive:=fun _=>(List Sc→Option Z)→Option Z) (fun s K=>cel s fun s=>K [s]) (fun l K=>K l) (fun _ _=>none) v
structure Ld where
 mk::(g:AV→H→Option AV)
noncomputable def loadE (T:TypeId):Ld:=
 Option.rec (motive:=fun _=>Ld) (.mk fun _ _=>none) (fun z=>Bool.rec (motive:=fun _=>Ld) (.mk fun x h=>asP x fun id off=>jX h id fun E n t=>gd (Nat.blt off n) (scal (t.get off) fun v=>some (.x v)))
  (.mk fun x h=>asP x fun id off=>jX h id fun E n t=>gd (Nat.ble (off+z.2) n) (getL t off z.2 fun l=>some (.a l))) z.1) (tkB Pr T)
structure St where
 mk::(g:AV→AV→H→(H→R)→R)
noncomputable def storeE (T:TypeId):St:=Option.rec (motive:=fun _=>St) (.mk fun _ _ _ _=>none) (fun z=>.mk fun x v h K=>
 asP x fun id off=>editB h id fun n t mk=>cellsOf v fun l=>gd (Nat.beq (len l) z.2 && Nat.ble (off+z.2) n) (setL l t off fun t=>xm h id (mk t) K)) (tkB Pr T)
structure Al where
 mk::(b:B) (v:Nat→AV)
noncomputable def cellsN (E:TypeId) (l:List Sc):Option B:=nat (len l) fun n=>TV.emp n fun t=>setL l t 0 fun t=>some (.c E n t)
noncomputable def rowN (E:TypeId) (l:List Sc):Option B:=nat (len l) fun n=>TV.emp n fun t=>setL l t 0 fun t=>some (.r E n t)
structure Zr where
 mk::(g:Option (List Sc))
noncomputable def zeroE (T:TypeId):Zr:=Option.rec (motive:=fun _=>Zr) (.mk none) (fun v=>.mk (cellsOf (ofV v) some)) (zx Pr T)
structure Az where
 mk::(g:Option Al)
noncomputable def allocE (E:TypeId):Az:=Option.rec (motive:=fun _=>Az) (.mk none) (fun l=>Option.rec (motive:=fun _=>Az) (.mk none) (fun b=>.mk (some (.mk b fun id=>.x (.p id 0)))) (cellsN E l)) (zeroE E).g
noncomputable def boxE (E:TypeId) (v:AV):Option Al:=cellsOf v fun l=>obn (cellsN E l) fun b=>some (.mk b fun id=>.x (.p id 0))
noncomputable def jW (S f:Nat):Un:=Option.rec (motive:=fun _=>Un) (.mk fun _=>none) (fun k=>.mk fun x=>asP x fun id off=>nat (off+k) fun o=>some (.x (.p id o))) (foB Pr S f)
noncomputable def elB (X:TypeId):Option (Nat×Nat):=match Pr.underlying X with
 | some (.slice E)=>(tkB Pr E).map fun z=>(E,z.2)
 | _=>none
noncomputable def arB (X:TypeId):Option (Nat×Nat×Nat×Bool):=match Pr.underlying X with
 | some (.array n E)=>(tkB Pr E).map fun z=>(n,E,z.2,z.1)
 | _=>none
noncomputable def paB (X:TypeId):Option (Nat×Nat×Nat×Bool):=match Pr.underlying X with
 | some (.pointer A)=>arB A
 | _=>arB X
noncomputable def idx {Z:Type} (i:Int) (len:Nat) (K:Nat→Option Z):Option Z:=Int.rec (motive:=fun _=>Nat→(Nat→Option Z)→Option Z) (fun j len K=>gd (Nat.blt j len) (K j)) (fun _ _ _=>none) i len K
noncomputable def el {Z:Type} (X:TypeId) (K:Nat→Nat→Option Z):Option Z:=Option.rec (motive:=fun _=>(Nat→Nat→Option Z)→Option Z) (fun _=>none) (fun z K=>K z.1 z.2) (elB X) K
noncomputable def ar {Z:Type} (X:TypeId) (K:Nat×Nat×Nat×Bool→Option Z):Option Z:=Option.rec (motive:=fun _=>(Nat×Nat×Nat×Bool→Option Z)→Option Z) (fun _=>none) (fun z K=>K z) (arB X) K
noncomputable def pa {Z:Type} (X:TypeId) (K:Nat×Nat×Nat×Bool→Option Z):Option Z:=Option.rec (motive:=fun _=>(Nat×Nat×Nat×Bool→Option Z)→Option Z) (fun _=>none) (fun z K=>K z) (paB X) K
noncomputable def iaO (x:So):TypeId→Int→Option AV:=So.rec (motive:=fun _=>TypeId→Int→Option AV) (fun _ _=>none) (fun _ _=>none) (fun id off n _ X j=>el X fun _ s=>idx j n fun j=>nat (off+j*s) fun o=>some (.x (.p id o))) (fun id off n _ X j=>el X fun _ s=>idx j n fun j=>nat (off+j*s) fun o=>some (.x (.p id o))) (fun _ _ _=>none) (fun _ _ _=>none) (fun _ _ _=>none) (fun _ _=>none) (fun _ _ _=>none) x
noncomputable def iaS (x:Sc):TypeId→Int→Option AV:=Sc.rec (motive:=fun _=>TypeId→Int→Option AV) (fun _ _ _ _=>none) (fun _ _ _=>none) (fun id off X j=>ar X fun q=>idx j q.1 fun j=>nat (off+j*q.2.2.1) fun o=>some (.x (.p id o))) (fun x=>iaO x) x
noncomputable def iaE (x:AV):TypeId→Int→Option AV:=AV.rec (motive:=fun _=>TypeId→Int→Option AV) (fun s=>iaS s) (fun _ _ _=>none) (fun _ _ _=>none) x
noncomputable def indexAddrE (X:TypeId) (x y:AV):Option AV:=asI y fun _ j=>iaE x X j
noncomputable def drp {α:Type} (l:List α) (n:Nat):List α:=Nat.rec (motive:=fun _=>List α→List α) (fun l=>l) (fun _ ih l=>List.rec (motive:=fun _=>List α) [] (fun _ l _=>ih l) l) n l
noncomputable def tke {Z:Type} (l:List Sc) (n:Nat) (K:List Sc→Option Z):Option Z:=Nat.rec (motive:=fun _=>List Sc→(List Sc→Option Z)→Option Z) (fun _ K=>K []) (fun _ ih l K=>List.rec (motive:=fun _=>Option Z) none (fun v l _=>ih l fun r=>K (v::r)) l) n l K
noncomputable def hdE (l:List Sc):Option AV:=List.rec (motive:=fun _=>Option AV) none (fun v _ _=>frc_s v fun v=>some (.x v)) l
noncomputable def prt (ag:Bool) (off s:Nat) (l:List Sc):Option AV:=
 Bool.rec (motive:=fun _=>Nat→Nat→List Sc→Option AV) (fun off _ l=>hdE (drp l off)) (fun off s l=>tke (drp l off) s fun r=>some (.a r)) ag off s l
noncomputable def fdB (S f:Nat):Option (Nat×Bool×Nat):=match Pr.underlying S with
 | some (.struct fs)=>match fs[f]? with
  | some fd=>(tkB Pr fd.type).map fun z=>(fd.offset,z.1,z.2)
  | none=>none
 | _=>none
noncomputable def fieldE (S f:Nat):Un:=Option.rec (motive:=fun _=>Un) (.mk fun _=>none) (fun z=>.mk fun x=>asA x fun l=>prt z.2.1 z.1 z.2.2 l) (fdB S f)
noncomputable def byteAt (s:ByteArray) (j:Nat):Option Nat:=(s[j]?).map (·.toNat)
noncomputable def ixV (v:Value) (j:Int):Option AV:=match v with | .string s=>idx j s.size fun j=>(match byteAt s j with | some b=>nat b fun b=>some (.i .u8 (.ofNat b)) | none=>none) | _=>none
noncomputable def ixO (x:So):Int→Option AV:=So.rec (motive:=fun _=>Int→Option AV) (fun _=>none) (fun _=>none) (fun _ _ _ _ _=>none) (fun _ _ _ _ _=>none) (fun _ _=>none) (fun _ _=>none) (fun _ _=>none) (fun _=>none) (fun v j=>ixV v j) x
noncomputable def ixS (x:Sc):Int→Option AV:=Sc.rec (motive:=fun _=>Int→Option AV) (fun _ _ _=>none) (fun _ _=>none) (fun _ _ _=>none) (fun x=>ixO x) x
noncomputable def ixE (x:AV):TypeId→Int→Option AV:=AV.rec (motive:=fun _=>TypeId→Int→Option AV) (fun s X j=>gd (isSt X) (ixS s j)) (fun l X j=>ar X fun q=>idx j q.1 fun j=>prt q.2.2.2 (j*q.2.2.1) q.2.2.1 l) (fun _ _ _=>none) x
noncomputable def indexE (X:TypeId) (x y:AV):Option AV:=asI y fun _ j=>ixE x X j
noncomputable def plB (X:TypeId) (i:Nat):Option (Nat×Nat):=match Pr.underlying X with
 | some (.struct fs)=>gd (fs.toList.all fun f=>(tkB Pr f.type).isSome) (match fs[i]? with | some fd=>(tkB Pr fd.type).map fun z=>(fd.offset,z.2) | none=>none)
 | some (.array _ E)=>(tkB Pr E).map fun z=>(i*z.2,z.2)
 | some (.slice E)=>(tkB Pr E).map fun z=>(i*z.2,z.2)
 | _=>none
noncomputable def app {α:Type} (a b:List α):List α:=List.rec (motive:=fun _=>List α→List α) (fun b=>b) (fun v _ ih b=>v::ih b) a b
noncomputable def spl {Z:Type} (off:Nat) (cs l:List Sc) (K:List Sc→Option Z):Option Z:=tke l off fun a=>gd (Nat.ble (off+len cs) (len l)) (K (app a (app cs (drp l (off+len cs)))))
noncomputable def fillE {Z:Type} (X:TypeId) (τ:L3) (ps:List (Nat×Operand)) (l:List Sc) (K:List Sc→Option Z):Option Z:=
 List.rec (motive:=fun _=>TypeId→L3→List Sc→(List Sc→Option Z)→Option Z) (fun _ _ l K=>K l) (fun p _ ih X τ l K=>Option.rec (motive:=fun _=>Option Z) none (fun z=>cellsOf ((evO p.2).v τ) fun cs=>gd (Nat.beq (len cs) z.2) (spl z.1 cs l fun l=>ih X τ l K)) (plB X p.1)) ps X τ l K
noncomputable def aggT (t:TypeId):Bool:=match Pr.underlying t with | some (.struct fs)=>fs.toList.all fun f=>(tkB Pr f.type).isSome | some (.array _ E)=>(tkB Pr E).isSome | _=>false
noncomputable def buildE (X:TypeId) (ps:List (Nat×Operand)) (τ:L3):Option AV:=gd (aggT X) (obn (zeroE X).g fun l=>fillE X τ ps l fun l=>some (.a l))
noncomputable def repL (l:List Sc) (m:Nat):List Sc:=Nat.rec (motive:=fun _=>List Sc) [] (fun _ ih=>app l ih) m
noncomputable def jY (X:TypeId) (m:Nat) (ps:List (Nat×Operand)) (τ:L3):Option Al:=
 el X fun E s=>gd (Nat.ble (m*s) 4096) (obn (zeroE E).g fun l=>gd (Nat.beq (len l) s) (fillE X τ ps (repL l m) fun l=>obn (cellsN E l) fun b=>some (.mk b fun id=>.x (.o (.s id 0 m m)))))
noncomputable def szB (E:TypeId):Bool:=match rowB Pr E with | some t=>Nat.ble t.2.2 1073741824 && Nat.blt 0 t.2.1 && Nat.beq t.1.cells.size t.2.1 | none=>false
noncomputable def makeSliceE (X:TypeId) (x y:AV):Option Al:=
 el X fun E s=>asI x fun _ a=>asI y fun _ b=>nn a fun a=>nn b fun b=>gd (Nat.ble a b && Nat.ble b 100000 && szB E) (obn (zeroE E).g fun l=>gd (Nat.beq (len l) s) (obn (cellsN E (repL l b)) fun bk=>some (.mk bk fun id=>.x (.o (.s id 0 a b)))))
noncomputable def qB {Z:Type} (x:Option Operand) (τ:L3) (d:Nat) (K:Nat→Option Z):Option Z:=
 Option.rec (motive:=fun _=>L3→Nat→(Nat→Option Z)→Option Z) (fun _ d K=>K d) (fun o τ d K=>asI ((evO o).v τ) fun _ n=>nn n fun n=>K n) x τ d K
noncomputable def bgn (off l m s:Nat):Nat:=off+Nat.rec (motive:=fun _=>Nat) 0 (fun _ _=>l*s) (m-l)
noncomputable def cut (id off s l u m:Nat):Option AV:=nat (bgn off l m s) fun o=>nat (u-l) fun n=>nat (m-l) fun c=>some (.x (.o (.s id o n c)))
noncomputable def slV (v:Value) (X:TypeId) (lo hi mx:Option Operand) (τ:L3):Option AV:=match v with
 | .slice none 0 0=>el X fun _ _=>qB lo τ 0 fun l=>qB hi τ 0 fun u=>qB mx τ 0 fun m=>gd (Nat.beq (l+u+m) 0) (some (.x (.o (.c (.slice none 0 0)))))
 | .string s=>gd (isSt X) (match mx with | none=>qB lo τ 0 fun l=>qB hi τ s.size fun u=>gd (Nat.ble l u && Nat.ble u s.size) (some (.x (.o (.c (.string (s.extract l u)))))) | some _=>none)
 | _=>none
noncomputable def slO (x:So):TypeId→Option Operand→Option Operand→Option Operand→L3→Option AV:=So.rec (motive:=fun _=>TypeId→Option Operand→Option Operand→Option Operand→L3→Option AV) (fun _ _ _ _ _=>none) (fun _ _ _ _ _=>none) (fun id off len cap X lo hi mx τ=>el X fun _ s=>qB lo τ 0 fun l=>qB hi τ len fun u=>qB mx τ cap fun m=>gd (Nat.ble l u && Nat.ble u m && Nat.ble m cap) (cut id off s l u m)) (fun id off len ct X lo hi mx τ=>el X fun _ s=>qB lo τ 0 fun l=>qB hi τ len fun u=>Option.rec (motive:=fun _=>Option AV) (gd (Nat.ble l u && Nat.ble u len) (kI (Nat.blt l len || Nat.beq l 0) (nat (off+l*s) fun o=>nat (u-l) fun n=>nat (ct+l) fun c=>some (.x (.o (.w id o n c)))) (some (.x (.o .e))))) (fun mo=>qB (some mo) τ 0 fun m=>gd (Nat.ble l u && Nat.ble u m && Nat.ble m len) (cut id off s l u m)) mx) (fun _ _ _ _ _ _=>none) (fun _ _ _ _ _ _=>none) (fun _ _ _ _ _ _=>none) (fun X lo hi mx τ=>el X fun _ _=>qB lo τ 0 fun l=>qB hi τ 0 fun u=>Option.rec (motive:=fun _=>Option AV) (gd (Nat.beq (l+u) 0) (some (.x (.o .e)))) (fun _=>none) mx) (fun v X lo hi mx τ=>slV v X lo hi mx τ) x
noncomputable def slS (x:Sc):TypeId→Option Operand→Option Operand→Option Operand→L3→Option AV:=Sc.rec (motive:=fun _=>TypeId→Option Operand→Option Operand→Option Operand→L3→Option AV) (fun _ _ _ _ _ _ _=>none) (fun _ _ _ _ _ _=>none) (fun id off X lo hi mx τ=>pa X fun q=>qB lo τ 0 fun l=>qB hi τ q.1 fun u=>qB mx τ q.1 fun m=>gd (Nat.ble l u && Nat.ble u m && Nat.ble m q.1) (cut id off q.2.2.1 l u m)) (fun x=>slO x) x
noncomputable def sliceV (x:AV):TypeId→Option Operand→Option Operand→Option Operand→L3→Option AV:=AV.rec (motive:=fun _=>TypeId→Option Operand→Option Operand→Option Operand→L3→Option AV) (fun s=>slS s) (fun _ _ _ _ _ _=>none) (fun _ _ _ _ _ _=>none) x
noncomputable def okM (hi mx:Option Operand):Bool:=match hi,mx with | none,some _=>false | _,_=>true
noncomputable def sliceE (x:AV) (X:TypeId) (lo hi mx:Option Operand) (τ:L3):Option AV:=gd (okM hi mx) (sliceV x X lo hi mx τ)
noncomputable def nlV {Z:Type} (v:Value) (K:Option Z):Option Z:=match v with | .slice none 0 0=>K | _=>none
noncomputable def lnV (v:Value):Option AV:=match v with | .slice none 0 0=>some (.i .i64 (.ofNat 0)) | .string s=>nat s.size fun n=>gd (Nat.blt n 9223372036854775808) (some (.i .i64 (.ofNat n))) | .map none=>some (.i .i64 (.ofNat 0)) | _=>none
noncomputable def iLn (n:Nat):Option AV:=gd (Nat.blt n 9223372036854775808) (some (.i .i64 (.ofNat n)))
noncomputable def lnO (x:So):H→Option AV:=So.rec (motive:=fun _=>H→Option AV) (fun _=>none) (fun _=>none) (fun _ _ l _ h=>iLn l) (fun _ _ l _ h=>iLn l) (fun id h=>blkO h id fun b=>(match b with | .m l=>nat (len l) fun n=>iLn n | _=>none)) (fun _ _=>none) (fun _ _=>none) (fun _=>iLn 0) (fun v h=>lnV v) x
noncomputable def cpO (x:So):Option AV:=So.rec (motive:=fun _=>Option AV) (none) (none) (fun _ _ _ c=>iLn c) (fun _ _ _ _=>none) (fun _=>none) (fun _=>none) (fun _=>none) (none) (fun v=>nlV v (iLn 0)) x
noncomputable def csE {Z:Type} (id off l s:Nat) (h:H) (K:Nat→List Sc→Option Z):Option Z:=Nat.rec (motive:=fun _=>Option Z) (K 0 []) (fun _ _=>jX h id fun E n t=>gd (Nat.ble (off+l*s) n) (getL t off (l*s) fun r=>K l r)) l
noncomputable def cellsS {Z:Type} (x:So):Nat→H→(Nat→List Sc→Option Z)→Option Z:=So.rec (motive:=fun _=>Nat→H→(Nat→List Sc→Option Z)→Option Z) (fun _ _ _=>none) (fun _ _ _=>none) (fun id off l _ s h K=>csE id off l s h K) (fun id off l _ s h K=>csE id off l s h K) (fun _ _ _ _=>none) (fun _ _ _ _=>none) (fun _ _ _ _=>none) (fun _ _ K=>K 0 []) (fun v _ h K=>nlV v (K 0 [])) x
noncomputable def stV {Z:Type} (v:Value) (K:Nat→List Sc→Option Z):Option Z:=match v with | .string s=>nat s.size fun n=>K n (s.toList.map fun b=>.i .u8 (.ofNat b.toNat)) | _=>none
noncomputable def fits (n m:Nat):Bool:=Nat.ble m 8 || (Nat.blt 8 n && Nat.ble m 64) || (Nat.blt 64 n && Nat.ble m 512) || (Nat.blt 512 n && Nat.ble m 4096)
noncomputable def newV (h:H) (b:Option B) (v:Nat→AV) (K:KV):R:=obn b fun b=>newB h b fun id h=>K (v id) h
noncomputable def apO (x:So):Nat→Nat→Nat→List Sc→H→KV→R:=So.rec (motive:=fun _=>Nat→Nat→Nat→List Sc→H→KV→R) (fun _ _ _ _ _ _=>none) (fun _ _ _ _ _ _=>none) (fun id off l c E s m new h K=>kI (Nat.ble (l+m) c) (editB h id fun n t mk=>gd (Nat.ble (off+(l+m)*s) n) (setL new t (off+l*s) fun t=>xm h id (mk t) fun h=>nat (l+m) fun lm=>K (.x (.o (.s id off lm c))) h)) (csE id off l s h fun _ old=>nat (l+m) fun lm=>newV h (rowN E (app old new)) (fun id=>.x (.o (.w id 0 lm 0))) K)) (fun id off l c E s m new h K=>rowK h id fun E' n t=>gd (Nat.beq E' E && Nat.beq off (c*s) && Nat.blt 0 s) (kI (Nat.ble (off+(l+m)*s) n) (setL new t (off+l*s) fun t=>xm h id (.r E n t) fun h=>nat (l+m) fun lm=>K (.x (.o (.w id off lm c))) h) (gd (Nat.beq off 0 && Nat.beq c 0 && Nat.ble (l*s) n) (xm h id .x fun h=>nat ((l+m)*s) fun n'=>Bool.rec (motive:=fun _=>R) (TV.emp n' fun t'=>getL t 0 (l*s) fun old=>setL old t' 0 fun t=>setL new t (l*s) fun t=>newB h (.r E n' t) fun id h=>nat (l+m) fun lm=>K (.x (.o (.w id 0 lm 0))) h) (setL new t n fun t=>newB h (.r E n' t) fun id h=>nat (l+m) fun lm=>K (.x (.o (.w id 0 lm 0))) h) (Nat.beq (l*s) n && fits n n'))))) (fun _ _ _ _ _ _ _=>none) (fun _ _ _ _ _ _ _=>none) (fun _ _ _ _ _ _ _=>none) (fun _ _ _ _ _ _=>none) (fun v E s m new h K=>nlV v (nat m fun m=>newV h (rowN E new) (fun id=>.x (.o (.w id 0 m 0))) K)) x
noncomputable def apZ (x:So):H→KV→R:=So.rec (motive:=fun _=>H→KV→R) (fun _ _=>none) (fun _ _=>none) (fun id off l c h K=>gd (Nat.ble l c) (K (.x (.o (.s id off l c))) h)) (fun id off l c h K=>K (.x (.o (.w id off l c))) h) (fun _ _ _=>none) (fun _ _ _=>none) (fun _ _ _=>none) (fun h K=>K (.x (.o .e)) h) (fun v h K=>nlV v (K (.x (.o (.c v))) h)) x
noncomputable def appW (E s:Nat) (x:AV) (m:Nat) (new:List Sc) (h:H) (K:KV):R:=Nat.rec (motive:=fun _=>R) (asO x fun x=>apZ x h K) (fun _ _=>gd (Nat.ble (m*s) 4096) (asO x fun x=>apO x E s m new h K)) m
noncomputable def isB (E:TypeId):Bool:=match Pr.underlying E with | some (.int .u8)=>true | _=>false
structure Ap where
 mk::(g:AV→AV→H→KV→R)
noncomputable def apK (Y:TypeId):Nat:=match Pr.underlying Y with | some (.int _)=>0 | some .string=>1 | some (.slice _)=>2 | _=>3
noncomputable def apdE (X Y:TypeId):Ap:=Option.rec (motive:=fun _=>Ap) (.mk fun _ _ _ _=>none) (fun e=>Bool.rec (motive:=fun _=>Ap) (.mk fun _ _ _ _=>none) (
 Nat.rec (motive:=fun _=>Ap) (Option.rec (motive:=fun _=>Ap) (.mk fun _ _ _ _=>none) (fun z=>.mk fun x y h K=>asI y fun _ n=>nn n fun m=>gd (Nat.beq (len z) e.2 && Nat.blt 0 m && Nat.ble (m*e.2) 4096) (asO x fun x=>(match x with | .c v=>nlV v (nat m fun m=>newV h (rowN e.1 (repL z m)) (fun id=>.x (.o (.w id 0 m 0))) K) | _=>none))) (zeroE e.1).g)
  (fun k _=>Nat.rec (motive:=fun _=>Ap) (.mk fun x y h K=>gd (isB e.1 && Nat.beq e.2 1) (asO y fun y=>(match y with | .c v=>stV v fun m new=>appW e.1 e.2 x m new h K | _=>none)))
   (fun k _=>Nat.rec (motive:=fun _=>Ap) (.mk fun x y h K=>asO y fun y=>cellsS y e.2 h fun m new=>appW e.1 e.2 x m new h K) (fun _ _=>.mk fun _ _ _ _=>none) k) k) (apK Y)) (szB e.1)) (elB X)
noncomputable def storeL (id off:Nat) (l:List Sc) (h:H) (K:H→R):R:=editB h id fun n t mk=>gd (Nat.ble (off+len l) n) (setL l t off fun t=>xm h id (mk t) K)
noncomputable def cpE (id off l m s:Nat) (new:List Sc) (h:H) (K:KV):R:=nat (bif Nat.ble l m then l else m) fun q=>Nat.rec (motive:=fun _=>R) (obn (iLn 0) fun v=>K v h) (fun _ _=>tke new (q*s) fun new=>storeL id off new h fun h=>obn (iLn q) fun v=>K v h) q
noncomputable def cpyO (x:So):Nat→Nat→List Sc→H→KV→R:=So.rec (motive:=fun _=>Nat→Nat→List Sc→H→KV→R) (fun _ _ _ _ _=>none) (fun _ _ _ _ _=>none) (fun id off l _ s m new h K=>cpE id off l m s new h K) (fun id off l _ s m new h K=>cpE id off l m s new h K) (fun _ _ _ _ _ _=>none) (fun _ _ _ _ _ _=>none) (fun _ _ _ _ _ _=>none) (fun _ _ _ _ _=>none) (fun v s m new h K=>nlV v (obn (iLn 0) fun v=>K v h)) x
noncomputable def copyE (X:TypeId) (x y:AV) (h:H) (K:KV):R:=el X fun E s=>asO y fun y=>cellsS y s h fun m new=>asO x fun x=>cpyO x s m new h K
noncomputable def clE (id off l:Nat) (X:TypeId) (h:H) (K:KV):R:=el X fun E s=>obn (zeroE E).g fun q=>Nat.rec (motive:=fun _=>R) (K (.t []) h) (fun _ _=>gd (Nat.beq (len q) s) (storeL id off (repL q l) h fun h=>K (.t []) h)) l
noncomputable def clO (x:So):TypeId→H→KV→R:=So.rec (motive:=fun _=>TypeId→H→KV→R) (fun _ _ _=>none) (fun _ _ _=>none) (fun id off l _ X h K=>clE id off l X h K) (fun id off l _ X h K=>clE id off l X h K) (fun _ _ _ _=>none) (fun _ _ _ _=>none) (fun _ _ _ _=>none) (fun _ _ _=>none) (fun v X h K=>nlV v (el X fun _ _=>K (.t []) h)) x
/-! ### Maps -/
noncomputable def kyB (X:TypeId):Option (TypeId×TypeId):=match Pr.underlying X with | some (.map K V)=>some (K,V) | _=>none
structure My where
 mk::(n:Nat) (eq:AV→AV→Option Bool) (z:AV)
noncomputable def kiB (t:TypeId):Option Nat:=match Pr.underlying t with | some (.int _)=>some 0 | _=>(agB t).map (· + 1)
noncomputable def kC (n:Nat) (x y:AV):Option Bool:=Nat.rec (motive:=fun _=>Option Bool) (xx x y fun x y=>eqI x y some) (fun n _=>asA x fun l=>asA y fun m=>gd (Nat.beq (len l) n && Nat.beq (len m) n) (eqL n l m)) n
noncomputable def nums (l:List Sc):Bool:=List.rec (motive:=fun _=>Bool) true (fun s _ ih=>Sc.rec (motive:=fun _=>Bool) (fun _ _=>ih) (fun _=>false) (fun _ _=>false) (fun _=>false) s) l
noncomputable def kV {Z:Type} (n:Nat) (y:AV) (K:AV→Option Z):Option Z:=Nat.rec (motive:=fun _=>Option Z) (asI y fun k a=>K (.i k a)) (fun n _=>asA y fun l=>gd (Nat.beq (len l) n && nums l) (K (.a l))) n
noncomputable def mapK (X:TypeId):Option My:=Option.rec (motive:=fun _=>Option My) none (fun q=>Option.rec (motive:=fun _=>Option My) none (fun n=>Option.rec (motive:=fun _=>Option My) none (fun z=>some (.mk n (kC n) (ofV z))) (zx Pr q.2)) (kiB q.1)) (kyB X)
noncomputable def findM (eq:AV→AV→Option Bool) (k:AV) (l:List (AV×AV)):Option (Option AV):=
 List.rec (motive:=fun _=>Option (Option AV)) (some none) (fun e _ ih=>obn (eq k e.1) fun b=>kI b (some (some e.2)) ih) l
noncomputable def putM (eq:AV→AV→Option Bool) (k v:AV) (l:List (AV×AV)):Option (List (AV×AV)):=
 List.rec (motive:=fun _=>Option (List (AV×AV))) (some [(k,v)]) (fun e l ih=>obn (eq k e.1) fun b=>kI b (some ((k,v)::l)) (obn ih fun r=>some (e::r))) l
noncomputable def delM (eq:AV→AV→Option Bool) (k:AV) (l:List (AV×AV)):Option (List (AV×AV)):=
 List.rec (motive:=fun _=>Option (List (AV×AV))) (some []) (fun e l ih=>obn (eq k e.1) fun b=>kI b (some l) (obn ih fun r=>some (e::r))) l
noncomputable def asM {Z:Type} (x:AV) (K:Nat→Option Z):Option Z:=asO x fun x=>(match x with | .m id=>K id | _=>none)
noncomputable def mapB {Z:Type} (h:H) (id:Nat) (K:List (AV×AV)→Option Z):Option Z:=blkO h id fun b=>(match b with | .m l=>K l | _=>none)
noncomputable def toSum {Z:Type} (v:AV) (K:Sc ⊕ List Sc→Option Z):Option Z:=AV.rec (motive:=fun _=>(Sc ⊕ List Sc→Option Z)→Option Z) (fun s K=>K (.inl s)) (fun l K=>K (.inr l)) (fun _ _=>none) v K
noncomputable def lkV (ok b:Bool) (v:AV):Option AV:=kI ok (toSum v fun v=>some (.t [v,.inl (.b b)])) (some v)
noncomputable def lookupE (X:TypeId) (x y:AV) (ok:Bool) (h:H):Option AV:=obn (mapK X) fun k=>kV k.n y fun y=>asM x fun id=>mapB h id fun l=>obn (findM k.eq y l) fun o=>Option.rec (motive:=fun _=>Option AV) (lkV ok false k.z) (fun v=>lkV ok true v) o
noncomputable def updE (X:TypeId) (x y v:AV) (h:H) (K:H→R):R:=obn (mapK X) fun k=>kV k.n y fun y=>asM x fun id=>mapB h id fun l=>obn (putM k.eq y v l) fun l=>xm h id (.o (.m l)) K
noncomputable def delE (X:TypeId) (x y:AV) (h:H) (K:H→R):R:=obn (mapK X) fun k=>kV k.n y fun y=>asM x fun id=>blkO h id fun b=>(match b with
 | .m l=>obn (delM k.eq y l) fun l=>xm h id (.o (.m l)) K
 | .g key gone l=>obn (k.eq y key) fun b=>gd (b && !gone && okW h id) (jF h id (.o (.g key true l)) K)
 | _=>none)
noncomputable def isMp (X:TypeId):Bool:=match Pr.underlying X with | some (.map _ _)=>true | _=>false
noncomputable def rangeE (x:AV) (h:H) (K:KV):R:=asM x fun mid=>mapB h mid fun l=>xm h mid (.o .h) fun h=>newB h (.o (.i mid l)) fun id h=>K (.x (.p id 0)) h
noncomputable def both (a b:R):R:=obn a fun l=>obn b fun m=>some (app l m)
noncomputable def nxF:AV:=.t [.inl (.b false)]
noncomputable def nxT (k v:AV) (K:AV→R):R:=toSum k fun k=>toSum v fun v=>K (.t [.inl (.b true),k,v])
noncomputable def eachB (pre rem:List (AV×AV)) (K:AV×AV→List (AV×AV)→R):R:=
 List.rec (motive:=fun _=>List (AV×AV)→R) (fun _=>some []) (fun e r ih pre=>both (K e (app pre r)) (ih (app pre [e]))) rem pre
noncomputable def stepB (id m:Nat) (l rem:List (AV×AV)) (h:H) (K:KV):R:=
 List.rec (motive:=fun _=>R) (xm h id (.o .z) fun h=>xm h m (.o (.m l)) fun h=>K nxF h) (fun _ _ _=>eachB [] rem fun e r=>xm h id (.o (.c m e.1 e.2 l r)) fun h=>nxT e.1 e.2 fun v=>K v h) rem
noncomputable def shpK (k:AV):Option Nat:=match k with | .x (.i _ _)=>some 0 | .a l=>some (Nat.succ (len l)) | _=>none
noncomputable def neK (n:Nat) (k:AV) (l:List (AV×AV)):Bool:=List.rec (motive:=fun _=>Bool) true (fun e _ ih=>match kC n k e.1,kC n e.1 k with | some false,some false=>ih | _,_=>false) l
noncomputable def dstK (l:List (AV×AV)):Bool:=List.rec (motive:=fun _=>Bool) true (fun e l ih=>match shpK e.1 with | some n=>neK n e.1 l && ih | none=>false) l
noncomputable def eachJ (l:List ((AV×AV)×Bool)) (K:Nat→(AV×AV)×Bool→R) (E:R) (i:Nat):R:=List.rec (motive:=fun _=>Nat→R) (fun _=>E) (fun e _ ih i=>both (K i e) (ih (Nat.succ i))) l i
noncomputable def stay (l:List ((AV×AV)×Bool)):List (AV×AV):=List.rec (motive:=fun _=>List (AV×AV)) [] (fun e _ ih=>Bool.rec (motive:=fun _=>List (AV×AV)) ih (e.1::ih) e.2) l
noncomputable def nextO (id:Nat) (b:BO) (h:H) (K:KV):R:=match b with
 | .i m l=>stepB id m l l h K
 | .b m l rem=>stepB id m l rem h K
 | .c m _ _ l rem=>stepB id m l rem h K
 | .j m l x=>gd (okW h id && okW h m) (eachJ l (fun i e=>jF h id (.o (.k m e.1.1 e.1.2 l e.2 x (Nat.beq x (Nat.succ i)))) fun h=>jF h m (.o (.g e.1.1 false l)) fun h=>nxT e.1.1 e.1.2 fun v=>K v h) (Bool.rec (motive:=fun _=>R) (gd (Nat.ble x (len l)) (some [])) (jF h id (.o .z) fun h=>jF h m (.o (.m (stay l))) fun h=>K nxF h) (Nat.beq x 0)) 0)
 | .q m k v=>jF h id (.o (.k m k v [] true 0 false)) fun h=>jF h m (.o (.g k false [])) fun h=>nxT k v fun v=>K v h
 | _=>none
noncomputable def nextE (x:AV) (h:H) (K:KV):R:=asP x fun id off=>gd (Nat.beq off 0) (blkO h id fun b=>nextO id b h K)
end Go.Ev
end
section
namespace Go.Ev
structure Orc where
 mk::(g:List AV→H→KV→R)
noncomputable def Mg (f:FuncId):Nat:=bif Nat.beq f 22 then 1 else bif Nat.beq f 384 then 1 else bif Nat.beq f 127 then 2 else 0
end Go.Ev
end
section
set_option linter.unusedVariables false
set_option linter.constructorNameAsVariable false
namespace Go.Ev
open Go.Lw
abbrev KC:=Ex→L3→H→R
structure IH where
 mk::(run:Code→L3→H→KC→R) (oc:FuncId→Option Orc)
abbrev KO:=L3→H→R
noncomputable def evL {Z:Type} (l:List Operand) (τ:L3) (K:List AV→Option Z):Option Z:=
 List.rec (motive:=fun _=>L3→(List AV→Option Z)→Option Z) (fun _ K=>K []) (fun o _ ih τ K=>frc ((evO o).v τ) fun v=>ih τ fun r=>K (v::r)) l τ K
noncomputable def resE (l:List ResultVar) (τ:L3) (h:H) (K:List AV→R):R:=
 List.rec (motive:=fun _=>L3→H→(List AV→R)→R) (fun _ _ K=>K []) (fun o _ ih τ h K=>ResultVar.rec (motive:=fun _=>R) (fun t=>frc ((q3 t).g τ) fun v=>ih τ h fun r=>K (v::r)) (fun t T=>obn ((loadE T).g ((q3 t).g τ) h) fun v=>ih τ h fun r=>K (v::r)) o) l τ h K
noncomputable def sums (l:List AV) (K:List (Sc ⊕ List Sc)→R):R:=List.rec (motive:=fun _=>(List (Sc ⊕ List Sc)→R)→R) (fun K=>K []) (fun v _ ih K=>toSum v fun s=>ih fun r=>K (s::r)) l K
noncomputable def one (l:List AV) (K:AV→R):R:=List.rec (motive:=fun _=>(AV→R)→R) (fun K=>K (.t [])) (fun v r _ K=>List.rec (motive:=fun _=>AV→(AV→R)→R) (fun v K=>K v) (fun x r _ v K=>sums (v::x::r) fun l=>K (.t l)) r v K) l K
noncomputable def retE (rs:List ResultVar) (τ:L3) (h:H) (K:KV):R:=resE rs τ h fun l=>one l fun v=>K v h
noncomputable def setA (l:List AV) (t:L3) (i:Nat) (K:L3→R):R:=
 List.rec (motive:=fun _=>L3→Nat→(L3→R)→R) (fun t _ K=>K t) (fun v _ ih t i K=>nat i fun i=>(q3 i).s t v fun t=>ih t (Nat.succ i) K) l t i K
/-! ### What is looked at in code, once -/
def okO (n:Nat) (x:Operand):Bool:=match x with | .tmp t=>Nat.blt t n | _=>true
def okP (n:Nat) (ops:Array Oper) (o:Oper):Bool:=o.op.operands.toList.all (okO n) && o.dst.toList.all (Nat.blt · n) && Nd o && (match o.guard with | none=>true | some (g,_)=>(match ops[g]? with | some od=>(match od.dst with | some d=>Nat.blt d n | none=>false) | none=>false))
noncomputable def okC (n:Nat) (c:Code):Bool:=Code.rec (motive:=fun _=>Bool) true (fun _ ops _=>ops.toList.all (okP n ops)) (fun _ _ a b=>a && b) (fun c _ _ a b=>okO n c && a && b) (fun _ _ a=>a) (fun _ a=>a) (fun f ps _ _ a b=>okO n f && ps.toList.all (Nat.blt · n) && a && b) (fun _=>true) (fun _ a=>a) (fun _=>true) (fun _=>true) true (fun _=>true) c
noncomputable def wro (l:List Oper):List Nat:=List.rec (motive:=fun _=>List Nat) [] (fun o _ ih=>Option.rec (motive:=fun _=>List Nat) ih (fun d=>d::ih) o.dst) l
noncomputable def wrC (c:Code):List Nat:=Code.rec (motive:=fun _=>List Nat) [] (fun _ ops _=>wro ops.toList) (fun _ _ a b=>app a b) (fun _ _ _ a b=>app a b) (fun _ _ a=>a) (fun _ a=>a) (fun _ _ _ _ _ _=>[1000]) (fun _=>[]) (fun _ a=>a) (fun _=>[]) (fun _=>[]) [] (fun _=>[]) c
noncomputable def delC (c:Code):Bool:=Code.rec (motive:=fun _=>Bool) false (fun _ ops _=>ops.toList.any fun o=>match o.op with | .call c=>(match c.callee with | .builtin .delete=>true | _=>false) | _=>false) (fun _ _ a b=>a || b) (fun _ _ _ a b=>a || b) (fun _ _ a=>a) (fun _ a=>a) (fun _ _ _ _ a b=>a || b) (fun _=>false) (fun _ a=>a) (fun _=>false) (fun _=>false) false (fun _=>false) c
/-! ### Calls -/
structure Fc where
 mk::(g:IH→List AV→H→KV→R)
noncomputable def bodE (c:Code) (rs:List ResultVar) (n:Nat):Fc:=.mk fun ih args h K=>gd (Nat.ble (len args) n) (setA args L3.e 0 fun t=>ih.run c t h fun ex τ h=>
  Ex.rec (motive:=fun _=>L3→H→KV→R) (fun τ h K=>retE rs τ h K) (fun _ _ _ _=>none) (fun τ h K=>retE rs τ h K) ex τ h K)
def rngN (a:Nat) (n:Nat):List Nat:=Nat.rec (motive:=fun _=>Nat→List Nat) (fun _=>[]) (fun _ ih a=>a::ih (Nat.succ a)) n a
noncomputable def scB (x y:Sc):Bool:=match x,y with
 | .i k a,.i k' b=>Nat.beq (kNo k) (kNo k') && ieqB a b
 | .b a,.b b=>a == b
 | .p i a,.p j b=>Nat.beq i j && Nat.beq a b
 | .o (.s i a b c),.o (.s j a' b' c')=>Nat.beq i j && Nat.beq a a' && Nat.beq b b' && Nat.beq c c'
 | .o (.w i a b c),.o (.w j a' b' c')=>Nat.beq i j && Nat.beq a a' && Nat.beq b b' && Nat.beq c c'
 | .o (.m i),.o (.m j)=>Nat.beq i j
 | .o (.f i),.o (.f j)=>Nat.beq i j
 | .o (.y i),.o (.y j)=>Nat.beq i j
 | .o .n,.o .n=>true
 | .o (.c (.string s)),.o (.c (.string t))=>s == t
 | .o (.c (.slice none 0 0)),.o (.c (.slice none 0 0))=>true
 | .o (.c (.pointer none)),.o (.c (.pointer none))=>true
 | .o (.c (.map none)),.o (.c (.map none))=>true
 | .o (.c .nilFunc),.o (.c .nilFunc)=>true
 | .o .e,.o .e=>true
 | .o (.c (.func (.func f) a b)),.o (.c (.func (.func f') a' b'))=>Nat.beq f f' && Nat.beq (a.size+b.size) 0 && Nat.beq (a'.size+b'.size) 0
 | _,_=>false
noncomputable def scL (l m:List Sc):Bool:=List.rec (motive:=fun _=>List Sc→Bool) (fun m=>List.rec (motive:=fun _=>Bool) true (fun _ _ _=>false) m) (fun x _ ih m=>List.rec (motive:=fun _=>Bool) false (fun y m _=>scB x y && ih m) m) l m
noncomputable def sumB (x y:Sc ⊕ List Sc):Bool:=match x,y with | .inl x,.inl y=>scB x y | .inr l,.inr m=>scL l m | _,_=>false
noncomputable def sumL (l m:List (Sc ⊕ List Sc)):Bool:=List.rec (motive:=fun _=>List (Sc ⊕ List Sc)→Bool) (fun m=>List.rec (motive:=fun _=>Bool) true (fun _ _ _=>false) m) (fun x _ ih m=>List.rec (motive:=fun _=>Bool) false (fun y m _=>sumB x y && ih m) m) l m
noncomputable def avB (x y:AV):Bool:=match x,y with | .x x,.x y=>scB x y | .a l,.a m=>scL l m | .t l,.t m=>sumL l m | _,_=>false
noncomputable def tvL (t u:TV) (n off:Nat):Bool:=Nat.rec (motive:=fun _=>Nat→Bool) (fun _=>true) (fun _ ih off=>avB (t.get off) (u.get off) && ih (Nat.succ off)) n off
noncomputable def xC (t:TV):Nat:=TV.rec (motive:=fun _=>Nat) (fun _=>8) (fun _=>64) (fun _=>512) (fun _=>4096) t
noncomputable def blB (a b:B):Bool:=match a,b with
 | .c E n t,.c E' n' u=>Nat.beq E E' && Nat.beq n n' && Nat.ble n (xC u) && tvL t u n 0
 | .r E n t,.r E' n' u=>Nat.beq E E' && Nat.beq n n' && Nat.ble n (xC u) && tvL t u n 0
 | _,_=>false
noncomputable def agree (i:Nat) (b:B) (rs:List (AV×H)):Bool:=List.rec (motive:=fun _=>Bool) true (fun r _ ih=>blB (hget r.2 i) b && ih) rs
noncomputable def layM (fl:Bool) (l:List Nat) (r:H) (rs:List (AV×H)) (h:H) (K:H→R):R:=List.rec (motive:=fun _=>H→R) (fun h=>K h) (fun i _ ih h=>Bool.rec (motive:=fun _=>R) (newB h .x fun _ h=>ih h) (newB h (hget r i) fun _ h=>ih h) (fl && agree i (hget r i) rs)) l h
noncomputable def isX (b:B):Bool:=B.rec (motive:=fun _=>Bool) true (fun _ _ _=>false) (fun _ _ _=>false) (fun _=>false) b
noncomputable def leH (l:List Nat) (g h:H):Bool:=List.rec (motive:=fun _=>Bool) true (fun i _ ih=>(isX (hget h i) || blB (hget g i) (hget h i)) && ih) l
noncomputable def mrgE (fl:Bool) (c:Fc):Fc:=.mk fun ih args h K=>shut h (0,0) fun nx lo h1=>
 obn (c.g ih args h1 fun v h=>some [(v,h)]) fun rs=>List.rec (motive:=fun _=>R) none (fun r _ _=>
  layM fl (rngN nx (r.2.nxt-nx)) r.2 rs h1 fun hm=>obn (c.g ih args h1 fun v g=>gd (avB v r.1 && Nat.beq g.nxt hm.nxt && Nat.beq g.lo nx && leH (rngN nx (hm.nxt-nx)) g hm) (some [])) fun _=>frc r.1 fun v=>setLo hm (fun _=>lo) h.ac fun h=>K v h) rs
noncomputable def mgE (m:Nat) (c:Fc):Fc:=Nat.rec (motive:=fun _=>Fc) c (fun m _=>Nat.rec (motive:=fun _=>Fc) (mrgE false c) (fun _ _=>mrgE true c) m) m
noncomputable def okR (n:Nat) (r:ResultVar):Bool:=match r with | .tmp t=>Nat.blt t n | .cell t _=>Nat.blt t n
noncomputable def fncB (f:FuncId):Fc:=
 Option.rec (motive:=fun _=>Fc) (.mk fun _ _ _ _=>none) (fun fn=>Option.rec (motive:=fun _=>Fc) (.mk fun _ _ _ _=>none) (fun c=>Bool.rec (motive:=fun _=>Fc) (.mk fun _ _ _ _=>none)
  (mgE (Mg f) (bodE c fn.results.toList fn.ntmps))
  (Nat.ble fn.ntmps 512 && okC fn.ntmps c && fn.results.toList.all (okR fn.ntmps) && !(fn.name == "runtime.NumGoroutine"))) fn.body) Pr.funcs[f]?
noncomputable def fncE (f:FuncId):Fc:=.mk fun ih args h K=>Option.rec (motive:=fun _=>R) ((fncB f).g ih args h K) (fun o=>o.g args h K) (ih.oc f)
noncomputable def bindE (ps:List Nat) (args:List AV) (t:L3) (K:L3→R):R:=
 List.rec (motive:=fun _=>List AV→L3→(L3→R)→R) (fun args t K=>List.rec (motive:=fun _=>R) (K t) (fun _ _ _=>none) args) (fun p _ ih args t K=>List.rec (motive:=fun _=>R) none (fun v args _=>(q3 p).s t v fun t=>ih args t K) args) ps args t K
noncomputable def loB (id lo:Nat):Nat:=bif Nat.ble lo id then lo else id
noncomputable def rndE (ps:List Nat) (assign body:Code) (t0:L3) (ih:IH) (id:Nat) (args:List AV) (h:H) (K:KV):R:=
 jF h id (.o (.v false ps assign body t0)) fun h=>bindE ps args t0 fun t=>ih.run assign t h fun ex t h=>
  Ex.rec (motive:=fun _=>R) (jF h id (.o (.v true ps assign body t0)) fun h=>ih.run body t h fun ex _ h=>Ex.rec (motive:=fun _=>R) (jF h id (.o (.l ps assign body t0)) fun h=>K (.b true) h) (fun i=>setLo h (loB id) h.ac fun h=>jF h id (.o (.d (.x i))) fun h=>K (.b false) h) (setLo h (loB id) h.ac fun h=>jF h id (.o (.d .r)) fun h=>K (.b false) h) ex) (fun _=>none) none ex
noncomputable def lendE (id:Nat) (τ:L3) (h:H) (K:KC):R:=blkO h id fun b=>xm h id .x fun h=>(match b with | .l _ _ _ _=>K .n τ h | .d ex=>K ex τ h | _=>none)
noncomputable def cvE (v:Value) (ih:IH) (args:List AV) (h:H) (K:KV):R:=match v with
 | .func (.func f) fs cs=>gd (Nat.beq (fs.size+cs.size) 0) ((fncE f).g ih args h K)
 | _=>none
noncomputable def callO (x:So):IH→List AV→H→KV→R:=So.rec (motive:=fun _=>IH→List AV→H→KV→R) (fun _ _ _ _=>none) (fun _ _ _ _=>none) (fun _ _ _ _ _ _ _ _=>none) (fun _ _ _ _ _ _ _ _=>none) (fun _ _ _ _ _=>none) (fun id ih args h K=>blkO h id fun b=>(match b with | .f f fs cs=>(fncE f).g ih (app fs (app args cs)) h K | _=>none)) (fun id ih args h K=>blkO h id fun b=>(match b with | .l ps a b t=>rndE ps a b t ih id args h K | _=>none)) (fun _ _ _ _=>none) (fun v ih args h K=>cvE v ih args h K) x
noncomputable def callV (v:AV) (ih:IH) (args:List AV) (h:H) (K:KV):R:=asO v fun x=>callO x ih args h K
noncomputable def mmx (mx:Bool) (x:AV) (l:List AV):Option AV:=List.rec (motive:=fun _=>AV→Option AV)
 (fun x=>asI x fun k a=>some (.i k a)) (fun y _ ih x=>two x y fun k a b=>Bool.rec (motive:=fun _=>Option AV) (ih x) (ih y) (Bool.rec (motive:=fun _=>Bool) (!xc a b) (!xc b a) mx)) l x
noncomputable def ku {Z:Type} (l:List AV) (K:AV→Option Z):Option Z:=List.rec (motive:=fun _=>(AV→Option Z)→Option Z) (fun _=>none) (fun x l _ K=>List.rec (motive:=fun _=>Option Z) (K x) (fun _ _ _=>none) l) l K
noncomputable def args2 {Z:Type} (l:List AV) (K:AV→AV→Option Z):Option Z:=List.rec (motive:=fun _=>(AV→AV→Option Z)→Option Z) (fun _=>none) (fun x l _ K=>ku l (K x)) l K
inductive OK
 | p (g:L3→Option AV)
 | r (g:L3→H→Option AV)
 | a (g:L3→Option Al)
 | w (g:IH→L3→H→KV→R)
 | z
noncomputable def nilE (x:AV):Option AV:=match x with
 | .x (.p i o)=>some (.x (.p i o))
 | .x (.o (.f i))=>some (.x (.o (.f i)))
 | .x (.o (.y i))=>some (.x (.o (.y i)))
 | .x (.o (.c (.func (.func f) a b)))=>some (.x (.o (.c (.func (.func f) a b))))
 | _=>none
noncomputable def cvB (S T:TypeId):Option IntKind:=match Pr.underlying S,Pr.underlying T with
 | some (.int _),some (.int k)=>some k
 | _,_=>none
noncomputable def convE (S T:TypeId):Un:=Option.rec (motive:=fun _=>Un) (.mk fun _=>none) (fun k=>.mk fun x=>asI x fun _ n=>mkI k n) (cvB S T)
noncomputable def extT (l:List (Sc ⊕ List Sc)) (j:Nat):Option AV:=List.rec (motive:=fun _=>Option AV) none (fun s _ _=>Sum.rec (motive:=fun _=>Option AV) (fun s=>frc_s s fun s=>some (.x s)) (fun l=>some (.a l)) s) (drp l j)
noncomputable def extE (x:AV) (j:Nat):Option AV:=asT x fun l=>extT l j
noncomputable def entryE (x:AV) (h:H):Option AV:=asP x fun id off=>gd (Nat.beq off 0) (blkO h id fun b=>(match b with
 | .c _ k v _ _=>toSum k fun k=>toSum v fun v=>some (.t [k,v])
 | .k m k v _ _ _ _=>blkO h m fun b=>(match b with | .g _ false _=>toSum k fun k=>toSum v fun v=>some (.t [k,v]) | _=>none)
 | _=>none))
noncomputable def lenK (T:TypeId) (l:List Operand):OK:=match Pr.underlying T with
 | some (.map _ _)=>.r fun τ h=>evL l τ fun us=>ku us fun x=>asO x fun x=>(match x with | .m id=>lnO x h | .c (.map none)=>iLn 0 | _=>none)
 | some (.slice _)=>.p fun τ=>evL l τ fun us=>ku us fun x=>asO x fun x=>(match x with | .s _ _ n _=>iLn n | .w _ _ n _=>iLn n | .e=>iLn 0 | .c (.slice none 0 0)=>iLn 0 | _=>none)
 | some .string=>.p fun τ=>evL l τ fun us=>ku us fun x=>asO x fun x=>(match x with | .c (.string s)=>lnV (.string s) | _=>none)
 | _=>.z
noncomputable def sliceT (T:TypeId):Bool:=match Pr.underlying T with | some (.slice _)=>true | _=>false
noncomputable def bltE (b:Builtin) (ts:List TypeId) (l:List Operand):OK:=match b with
 | .len=>args' ts fun T=>lenK T l
 | .cap=>args' ts fun T=>bif sliceT T then .p fun τ=>evL l τ fun us=>ku us fun x=>asO x fun x=>cpO x else .z
 | .append=>(match ts with | X::Y::_=>.w fun _ τ h K=>evL l τ fun us=>args2 us fun x y=>(apdE X Y).g x y h K | _=>.z)
 | .copy=>args' ts fun T=>.w fun _ τ h K=>evL l τ fun us=>args2 us fun x y=>copyE T x y h K
 | .clear=>args' ts fun T=>.w fun _ τ h K=>evL l τ fun us=>ku us fun x=>asO x fun x=>clO x T h K
 | .delete=>args' ts fun T=>.w fun _ τ h K=>evL l τ fun us=>args2 us fun x y=>delE T x y h fun h=>K (.t []) h
 | .max=>.p fun τ=>evL l τ fun us=>(match us with | x::r=>mmx true x r | []=>none)
 | .min=>.p fun τ=>evL l τ fun us=>(match us with | x::r=>mmx false x r | []=>none)
 | _=>.z
 where args' (ts:List TypeId) (k:TypeId→OK):OK:=match ts with | T::_=>k T | []=>.z
noncomputable def calE (c:Callee) (ts:List TypeId) (l:List Operand):OK:=match c with
 | .value f=>(match f with
  | .tmp t=>.w fun ih τ h K=>evL l τ fun args=>callV ((q3 t).g τ) ih args h K
  | .const v=>.w fun ih τ h K=>evL l τ fun args=>cvE v ih args h K
  | .func f=>.w fun ih τ h K=>evL l τ fun args=>(fncE f).g ih args h K
  | .global _=>.z)
 | .invoke _ _=>.z
 | .builtin b=>bltE b ts l
noncomputable def mkfE (fn:Fn) (fs cs:List Operand):OK:=match fn with
 | .func f=>.a fun τ=>evL fs τ fun fs=>evL cs τ fun cs=>some (.mk (.o (.f f fs cs)) fun id=>.x (.o (.f id)))
 | _=>.z
noncomputable def opK (o:Op):OK:=Op.rec (motive:=fun _=>OK)
 (fun x=>.p fun τ=>frc ((evO x).v τ) some)
 (fun x=>.w fun _ τ h K=>frc ((evO x).v τ) fun v=>K v h)
 (fun c a b=>.p fun τ=>asB ((evO c).v τ) fun z=>Bool.rec (motive:=fun _=>L3→Option AV) (fun τ=>frc ((evO b).v τ) some) (fun τ=>frc ((evO a).v τ) some) z τ)
 (fun E=>.a fun _=>(allocE E).g)
 (fun E x=>.a fun τ=>boxE E ((evO x).v τ))
 (fun X ps=>.p fun τ=>buildE X ps.toList τ)
 (fun X m ps=>.a fun τ=>jY X m ps.toList τ)
 (fun X m k v=>.w fun _ τ h K=>frc ((evO k).v τ) fun k=>frc ((evO v).v τ) fun v=>updE X ((evO m).v τ) k v h fun h=>K .n h)
 (fun T x=>.r fun τ h=>(loadE T).g ((evO x).v τ) h)
 (fun T x y=>.w fun _ τ h K=>(storeE T).g ((evO x).v τ) ((evO y).v τ) h fun h=>K .n h)
 (fun _=>.z)
 (fun _=>.z)
 (fun x=>.p fun τ=>nilE ((evO x).v τ))
 (fun op X x y _=>.p fun τ=>(binE op X).g ((evO x).v τ) ((evO y).v τ))
 (fun op X x=>.p fun τ=>(unE op).g ((evO x).v τ))
 (fun S T x=>.p fun τ=>(convE S T).g ((evO x).v τ))
 (fun _ _=>.z)
 (fun _ _=>.z)
 (fun fn fs cs=>mkfE fn fs.toList cs.toList)
 (fun T r=>Option.rec (motive:=fun _=>OK) (.a fun _=>some (.mk (.o (.m [])) fun id=>.x (.o (.m id)))) (fun _=>.z) r)
 (fun _ _=>.z)
 (fun X x y=>.a fun τ=>makeSliceE X ((evO x).v τ) ((evO y).v τ))
 (fun X x lo hi mx=>.p fun τ=>sliceE ((evO x).v τ) X lo hi mx τ)
 (fun S x f=>.p fun τ=>(jW S f).g ((evO x).v τ))
 (fun S x f=>.p fun τ=>(fieldE S f).g ((evO x).v τ))
 (fun X x y=>.p fun τ=>indexAddrE X ((evO x).v τ) ((evO y).v τ))
 (fun X x y=>.p fun τ=>indexE X ((evO x).v τ) ((evO y).v τ))
 (fun X x y ok=>.r fun τ h=>lookupE X ((evO x).v τ) ((evO y).v τ) ok h)
 (fun X m k v=>.w fun _ τ h K=>frc ((evO k).v τ) fun k=>frc ((evO v).v τ) fun v=>updE X ((evO m).v τ) k v h fun h=>K .n h)
 (fun _ _ _=>.z)
 (fun _ _ _ _=>.z)
 (fun X x=>.w fun _ τ h K=>gd (isMp X) (rangeE ((evO x).v τ) h K))
 (fun x s=>Bool.rec (motive:=fun _=>OK) (.w fun _ τ h K=>nextE ((evO x).v τ) h K) .z s)
 (fun x=>.r fun τ h=>entryE ((evO x).v τ) h)
 (fun _ _ _ _=>.z)
 (fun x j=>.p fun τ=>extE ((evO x).v τ) j)
 (fun c=>calE c.callee c.argTypes.toList c.args.toList)
 (fun _=>.z)
 (fun _=>.z)
 (fun _=>.z)
 (fun _ _=>.z)
 (fun _ _ _=>.z)
 (fun _ _=>.z) o
noncomputable def dstOf (ops:List Oper) (j:Nat):Option Nat:=Nat.rec (motive:=fun _=>List Oper→Option Nat) (fun l=>List.rec (motive:=fun _=>Option Nat) none (fun o _ _=>o.dst) l) (fun _ ih l=>List.rec (motive:=fun _=>Option Nat) none (fun _ l _=>ih l) l) j ops
structure Re where
 mk::(g:IH→L3→H→KO→R)
noncomputable def putE (d:Option Nat) (v:AV) (τ:L3) (h:H) (K:KO):R:=Option.rec (motive:=fun _=>R) (K τ h) (fun d=>(q3 d).s τ v fun τ=>K τ h) d
noncomputable def stpE (k:OK) (d:Option Nat):Re:=OK.rec (motive:=fun _=>Re)
 (fun g=>.mk fun _ τ h K=>obn (g τ) fun v=>putE d v τ h K)
 (fun g=>.mk fun _ τ h K=>obn (g τ h) fun v=>putE d v τ h K)
 (fun g=>.mk fun _ τ h K=>obn (g τ) fun a=>newB h a.b fun id h=>putE d (a.v id) τ h K)
 (fun g=>.mk fun ih τ h K=>g ih τ h fun v h=>putE d v τ h K)
 (.mk fun _ _ _ _=>none) k
noncomputable def skpE (d:Option Nat):Re:=.mk fun _ τ h K=>putE d .n τ h K
noncomputable def wantB (want:Bool) (v:AV):Option Bool:=match v with
 | .x (.b c)=>some (c == want)
 | .x (.o .n)=>some false
 | _=>none
noncomputable def operE (all:List Oper) (o:Oper):Re:=
 Option.rec (motive:=fun _=>Re) (stpE (opK o.op) o.dst) (fun g=>Option.rec (motive:=fun _=>Re) (.mk fun _ _ _ _=>none) (fun d=>
  .mk fun ih τ h K=>obn (wantB g.2 ((q3 d).g τ)) fun b=>Bool.rec (motive:=fun _=>IH→L3→H→KO→R) (fun ih τ h K=>(skpE o.dst).g ih τ h K) (fun ih τ h K=>(stpE (opK o.op) o.dst).g ih τ h K) b ih τ h K) (dstOf all g.1)) o.guard
noncomputable def opsE (all l:List Oper):Re:=
 List.rec (motive:=fun _=>List Oper→Re) (fun _=>.mk fun _ τ h K=>K τ h) (fun o l ih all=>.mk fun i τ h K=>(operE all o).g i τ h fun τ h=>(ih all).g i τ h K) l all
/-! ### Regions whose order is drawn -/
noncomputable def kdO (k:OK):Nat:=OK.rec (motive:=fun _=>Nat) (fun _=>0) (fun _=>1) (fun _=>2) (fun _=>3) 3 k
structure Rw where
 i:Nat
 o:Oper
 wt:Nat
 lk:Nat
 ds:Nat
 kd:Nat
def nth:List Nat→Nat→Nat
 | [],_=>0
 | x::_,0=>x
 | _::l,n+1=>nth l n
noncomputable def wtO (o:Oper) (i:Nat) (done:List Nat):Nat:=o.after.toList.foldr (fun e m=>bif Region.binds .any e && Nat.blt e.on i then Nat.lor m (Nat.lor (Nat.shiftLeft 1 e.on) (nth done e.on))else m) 0
noncomputable def rows (ops:Array Oper):List Oper→Nat→List Nat→List Rw
 | [],_,_=>[]
 | o::l,i,done=>nat (wtO o i done) fun m=>{ i:=i,o:=o,wt:=m,lk:=bitsOf (o.looksAt ops),ds:=bitsOf o.dst.toList,kd:=kdO (opK o.op) }::rows ops l (i+1) (done++[m])
noncomputable def rdyB (m:Nat) (r:Rw):Bool:=!Nat.testBit m r.i && Nat.beq (Nat.land r.wt m) r.wt
noncomputable def pick1 (l:List Rw) (m:Nat):Option Rw:=List.rec (motive:=fun _=>Option Rw) none (fun r _ ih=>bif !Nat.beq r.kd 3 && rdyB m r then some r else ih) l
noncomputable def pick2 (l:List Rw) (m:Nat):Option Rw:=List.rec (motive:=fun _=>Option Rw) none (fun r _ ih=>bif rdyB m r then some r else ih) l
noncomputable def ordE (l:List Rw):Nat→Nat→List Rw
 | 0,_=>[]
 | n+1,m=>match pick1 l m with
  | some r=>r::ordE l n (Nat.lor m (Nat.shiftLeft 1 r.i))
  | none=>(match pick2 l m with | some r=>r::ordE l n (Nat.lor m (Nat.shiftLeft 1 r.i)) | none=>[])
noncomputable def okPair (r s:Rw):Bool:=
 !Nat.beq r.i s.i && (!Nat.beq r.kd 3 || Nat.testBit s.wt r.i) && (Nat.beq (Nat.land s.lk r.ds) 0 || Nat.testBit s.wt r.i) && (Nat.beq (Nat.land r.lk s.ds) 0 || (Nat.beq s.kd 3 && Nat.testBit s.wt r.i)) && Nat.beq (Nat.land r.ds s.ds) 0
noncomputable def okRow (r:Rw):Bool:=(Nat.beq r.kd 3 || Nat.beq (Nat.land r.lk r.ds) 0) && r.o.after.toList.all (fun e=>!Region.binds .any e || Nat.testBit r.wt e.on)
noncomputable def okPlan:List Rw→Nat→Bool
 | [],_=>true
 | r::l,m=>okRow r && Nat.beq (Nat.land r.wt m) r.wt && l.all (okPair r) && okPlan l (Nat.lor m (Nat.shiftLeft 1 r.i))
structure Rk where
 mk::(g:L3→H→Bool)
noncomputable def rdK (k:OK) (d:Option Nat):Rk:=match k,d with
 | .r g,some d=>.mk fun τ h=>Option.rec (motive:=fun _=>Bool) false (fun v=>avB v ((q3 d).g τ)) (g τ h)
 | _,_=>.mk fun _ _=>false
noncomputable def rckE (all:List Oper) (o:Oper):Rk:=match o.guard with
 | none=>rdK (opK o.op) o.dst
 | some g=>(match dstOf all g.1 with
  | some d=>.mk fun τ h=>Option.rec (motive:=fun _=>Bool) false (fun b=>Bool.rec (motive:=fun _=>Bool) true ((rdK (opK o.op) o.dst).g τ h) b) (wantB g.2 ((q3 d).g τ))
  | none=>.mk fun _ _=>false)
noncomputable def rcksE (all:List Oper) (l:List Rw):Rk:=List.rec (motive:=fun _=>Rk) (.mk fun _ _=>true) (fun r _ ih=>.mk fun τ h=>(rckE all r.o).g τ h && ih.g τ h) l
noncomputable def pend (r:Rw) (done:List Rw):List Rw:=List.rec (motive:=fun _=>List Rw) [] (fun s _ ih=>bif Nat.beq s.kd 1 && !Nat.testBit r.wt s.i then s::ih else ih) done
noncomputable def runP (all:List Oper) (l:List Rw):List Rw→Re:=
 List.rec (motive:=fun _=>List Rw→Re) (fun _=>.mk fun _ τ h K=>K τ h) (fun r _ ih done=>Bool.rec (motive:=fun _=>Re)
  (.mk fun i τ h K=>(operE all r.o).g i τ h fun τ h=>(ih (r::done)).g i τ h K)
  (.mk fun i τ h K=>(operE all r.o).g i τ h fun τ h=>gd ((rcksE all (pend r done)).g τ h) ((ih (r::done)).g i τ h K)) (Nat.beq r.kd 3)) l
noncomputable def planE (ops:Array Oper):List Rw:=ordE (rows ops ops.toList 0 []) ops.size 0
noncomputable def regE (ops:Array Oper) (draw:Bool):Re:=Bool.rec (motive:=fun _=>Re) (opsE ops.toList ops.toList)
 (Bool.rec (motive:=fun _=>Re) (.mk fun _ _ _ _=>none) (runP ops.toList (planE ops) []) (((List.range ops.size).all fun i=>(planE ops).any fun r=>Nat.beq r.i i) && okPlan (planE ops) 0)) draw
/-! ### Code -/
noncomputable def loopE (n:Nat) (g:L3→H→KC→R):L3→H→KC→R:=
 Nat.rec (motive:=fun _=>(L3→H→KC→R)→L3→H→KC→R) (fun _ _ _ _=>none) (fun _ lp g τ h K=>g τ h fun ex τ h=>Ex.rec (motive:=fun _=>R) (lp g τ h K) (fun id=>K (.x id) τ h) (K .r τ h) ex) n g
noncomputable def fgt (l:List Nat) (τ:L3) (K:L3→R):R:=List.rec (motive:=fun _=>L3→(L3→R)→R) (fun τ K=>K τ) (fun d _ ih τ K=>(q3 d).s τ .u fun τ=>ih τ K) l τ K
noncomputable def yldC (c:Code):Bool:=Code.rec (motive:=fun _=>Bool) false (fun _ ops _=>ops.toList.any fun o=>match o.op with | .call c=>(match c.callee with | .value (.tmp _)=>true | _=>false) | _=>false) (fun _ _ a b=>a || b) (fun _ _ _ a b=>a || b) (fun _ _ a=>a) (fun _ a=>a) (fun _ _ _ _ a b=>a || b) (fun _=>false) (fun _ a=>a) (fun _=>false) (fun _=>false) false (fun _=>false) c
noncomputable def mrC (c:Code):Option Nat:=match c with | .seq (.region _ ops _) _=>(match ops.toList with | o::_=>(match o.op with | .next (.tmp t) false=>bif delC c || yldC c then some t else none | _=>none) | []=>none) | _=>none
noncomputable def entE (g:L3→H→KC→R) (τ:L3) (h:H) (id mid:Nat) (l:List (AV×AV)):Option (List ((AV×AV)×Bool)):=
 List.rec (motive:=fun _=>Option (List ((AV×AV)×Bool))) (some []) (fun e _ ih=>obn (jF h id (.o (.q mid e.1 e.2)) fun h=>jF h mid (.o .h) fun h=>g τ h fun ex _ h=>
  blkO h mid fun b=>(match b with | .g _ gone _=>some [(.b gone,.mk 0 0 (0,0) H5.e)] | _=>none))
  fun rs=>List.rec (motive:=fun _=>Option (List ((AV×AV)×Bool))) none (fun r _ _=>asB r.1 fun gone=>obn ih fun m=>some ((e,Bool.rec (motive:=fun _=>Bool) true false gone)::m)) rs) l
noncomputable def lvE (g:L3→H→KC→R) (τ:L3) (h:H) (id mid:Nat) (l:List (AV×AV)) (i:Nat):Nat:=
 List.rec (motive:=fun _=>Nat→Nat) (fun _=>0) (fun e _ ih i=>Option.rec (motive:=fun _=>Nat) (ih (Nat.succ i)) (fun _=>Nat.succ i) (jF h id (.o (.q mid e.1 e.2)) fun h=>jF h mid (.o .h) fun h=>g τ h fun ex _ h=>Ex.rec (motive:=fun _=>R) none (fun _=>some []) (some []) ex)) l i
noncomputable def rndJ (id lo:Nat) (h:H):R:=blkO h id fun b=>(match b with | .k m _ _ _ keep _ cur=>blkO h m fun b=>(match b with | .g _ gone _=>gd (xor gone keep && !cur && Nat.beq h.lo lo) (some []) | _=>none) | _=>none)
noncomputable def outJ (lo' lh:Nat):Nat:=bif Nat.ble lo' lh then lo' else lh
noncomputable def mapLoop (t:Nat) (ws:List Nat) (y:Bool) (g:L3→H→KC→R) (τ:L3) (h:H) (K:KC):R:=
 asP ((q3 t).g τ) fun id off=>gd (Nat.beq off 0 && !ws.contains t && !ws.contains 1000 && Nat.ble h.lo id) (blkO h id fun b=>(match b with
  | .i mid l=>gd (Nat.ble h.lo mid && dstK l) (shut h (Nat.succ id,Nat.succ mid) fun nx lo h1=>fgt ws τ fun τ=>obn (entE g τ h1 id mid l) fun r=>
   jF h1 id (.o (.j mid r (Bool.rec (motive:=fun _=>Nat) 0 (lvE g τ h1 id mid l 0) y))) fun hJ=>jF hJ mid (.o .h) fun hJ=>g τ hJ fun ex τ' h'=>
    Ex.rec (motive:=fun _=>R) (rndJ id nx h') (fun i=>setLo h' (outJ lo) h.ac fun h'=>jF h' id (.o .z) fun h'=>K (.x i) τ' h') (setLo h' (outJ lo) h.ac fun h'=>jF h' id (.o .z) fun h'=>K .r τ' h') ex)
  | _=>none))
noncomputable def notY (v:AV):Bool:=match v with | .x (.o (.y _))=>false | _=>true
structure Ce where
 mk::(g:IH→Nat→L3→H→KC→R)
noncomputable def codeE (c:Code):Ce:=Code.rec (motive:=fun _=>Ce)
 (.mk fun _ _ τ h K=>K .n τ h)
 (fun _ ops dr=>.mk fun ih _ τ h K=>(regE ops dr).g ih τ h fun τ h=>K .n τ h)
 (fun _ _ ga gb=>.mk fun ih n τ h K=>ga.g ih n τ h fun ex τ h=>Ex.rec (motive:=fun _=>R) (gb.g ih n τ h K) (fun id=>K (.x id) τ h) (K .r τ h) ex)
 (fun c _ _ ga gb=>.mk fun ih n τ h K=>asB ((evO c).v τ) fun b=>Bool.rec (motive:=fun _=>IH→Nat→L3→H→KC→R) (fun ih n τ h K=>gb.g ih n τ h K) (fun ih n τ h K=>ga.g ih n τ h K) b ih n τ h K)
 (fun id _ g=>.mk fun ih n τ h K=>g.g ih n τ h fun ex τ h=>Ex.rec (motive:=fun _=>R) (K .n τ h) (fun i=>Bool.rec (motive:=fun _=>R) (K (.x i) τ h) (K .n τ h) (Nat.beq i id)) (K .r τ h) ex)
 (fun c g=>Option.rec (motive:=fun _=>Ce) (.mk fun ih n τ h K=>loopE n (g.g ih n) τ h K) (fun t=>.mk fun ih n τ h K=>mapLoop t (wrC c) (yldC c) (g.g ih n) τ h K) (mrC c))
 (fun f ps assign body _ _=>.mk fun ih _ τ h K=>newB h (.o .t) fun _ h=>newB h (.o (.l ps.toList assign body τ)) fun id h=>gd (notY ((evO f).v τ)) (callV ((evO f).v τ) ih [.x (.o (.y id))] h fun _ h=>lendE id τ h K))
 (fun id=>.mk fun _ _ τ h K=>K (.x id) τ h)
 (fun _ g=>.mk fun ih n τ h K=>g.g ih n τ h K)
 (fun _=>.mk fun _ _ τ h K=>K .n τ h)
 (fun _=>.mk fun _ _ _ _ _=>none)
 (.mk fun _ _ τ h K=>K .r τ h)
 (fun _=>.mk fun _ _ _ _ _=>none) c
noncomputable def runC (O:FuncId→Option Orc) (n:Nat):Code→L3→H→KC→R:=Nat.rec (motive:=fun _=>Code→L3→H→KC→R) (fun _ _ _ _=>none) (fun _ ih c τ h K=>(codeE c).g (.mk ih O) 100000 τ h K) n
noncomputable def fuel (O:FuncId→Option Orc) (n:Nat):IH:=.mk (runC O n) O
noncomputable def run (O:FuncId→Option Orc) (f:FuncId) (args:List AV) (h:H) (K:KV):R:=(fncB f).g (fuel O 1000) args h K
noncomputable def O0 (f:FuncId):Option Orc:=none
noncomputable def isT (r:R):Bool:=match r with | some _=>true | none=>false
noncomputable def H.e:H:=.mk 0 0 (0,0) H5.e
noncomputable def runs (O:FuncId→Option Orc) (f:FuncId):Bool:=isT (run O f [] H.e fun v h=>asB v fun b=>gd b (some []))
end Go.Ev
end
section
set_option linter.unusedVariables false
set_option linter.constructorNameAsVariable false
namespace Go.Ev
theorem dOf_inj:∀ {a b:Nat},a<8→b<8→dOf a=dOf b→a=b:=by
 intro a b ha hb
 have h:∀ a:Fin 8,∀ b:Fin 8,dOf a.1=dOf b.1→a=b:=by
  intro a b
  rcases a with ⟨a,ha⟩
  rcases b with ⟨b,hb⟩
  match a,ha,b,hb with
  | 0,_,0,_=>exact fun _=>rfl
  | 0,_,1,_=>exact fun h=>by cases(show D.d0=D.d1 from h)
  | 0,_,2,_=>exact fun h=>by cases(show D.d0=D.d2 from h)
  | 0,_,3,_=>exact fun h=>by cases(show D.d0=D.d3 from h)
  | 0,_,4,_=>exact fun h=>by cases(show D.d0=D.d4 from h)
  | 0,_,5,_=>exact fun h=>by cases(show D.d0=D.d5 from h)
  | 0,_,6,_=>exact fun h=>by cases(show D.d0=D.d6 from h)
  | 0,_,7,_=>exact fun h=>by cases(show D.d0=D.d7 from h)
  | 1,_,0,_=>exact fun h=>by cases(show D.d1=D.d0 from h)
  | 1,_,1,_=>exact fun _=>rfl
  | 1,_,2,_=>exact fun h=>by cases(show D.d1=D.d2 from h)
  | 1,_,3,_=>exact fun h=>by cases(show D.d1=D.d3 from h)
  | 1,_,4,_=>exact fun h=>by cases(show D.d1=D.d4 from h)
  | 1,_,5,_=>exact fun h=>by cases(show D.d1=D.d5 from h)
  | 1,_,6,_=>exact fun h=>by cases(show D.d1=D.d6 from h)
  | 1,_,7,_=>exact fun h=>by cases(show D.d1=D.d7 from h)
  | 2,_,0,_=>exact fun h=>by cases(show D.d2=D.d0 from h)
  | 2,_,1,_=>exact fun h=>by cases(show D.d2=D.d1 from h)
  | 2,_,2,_=>exact fun _=>rfl
  | 2,_,3,_=>exact fun h=>by cases(show D.d2=D.d3 from h)
  | 2,_,4,_=>exact fun h=>by cases(show D.d2=D.d4 from h)
  | 2,_,5,_=>exact fun h=>by cases(show D.d2=D.d5 from h)
  | 2,_,6,_=>exact fun h=>by cases(show D.d2=D.d6 from h)
  | 2,_,7,_=>exact fun h=>by cases(show D.d2=D.d7 from h)
  | 3,_,0,_=>exact fun h=>by cases(show D.d3=D.d0 from h)
  | 3,_,1,_=>exact fun h=>by cases(show D.d3=D.d1 from h)
  | 3,_,2,_=>exact fun h=>by cases(show D.d3=D.d2 from h)
  | 3,_,3,_=>exact fun _=>rfl
  | 3,_,4,_=>exact fun h=>by cases(show D.d3=D.d4 from h)
  | 3,_,5,_=>exact fun h=>by cases(show D.d3=D.d5 from h)
  | 3,_,6,_=>exact fun h=>by cases(show D.d3=D.d6 from h)
  | 3,_,7,_=>exact fun h=>by cases(show D.d3=D.d7 from h)
  | 4,_,0,_=>exact fun h=>by cases(show D.d4=D.d0 from h)
  | 4,_,1,_=>exact fun h=>by cases(show D.d4=D.d1 from h)
  | 4,_,2,_=>exact fun h=>by cases(show D.d4=D.d2 from h)
  | 4,_,3,_=>exact fun h=>by cases(show D.d4=D.d3 from h)
  | 4,_,4,_=>exact fun _=>rfl
  | 4,_,5,_=>exact fun h=>by cases(show D.d4=D.d5 from h)
  | 4,_,6,_=>exact fun h=>by cases(show D.d4=D.d6 from h)
  | 4,_,7,_=>exact fun h=>by cases(show D.d4=D.d7 from h)
  | 5,_,0,_=>exact fun h=>by cases(show D.d5=D.d0 from h)
  | 5,_,1,_=>exact fun h=>by cases(show D.d5=D.d1 from h)
  | 5,_,2,_=>exact fun h=>by cases(show D.d5=D.d2 from h)
  | 5,_,3,_=>exact fun h=>by cases(show D.d5=D.d3 from h)
  | 5,_,4,_=>exact fun h=>by cases(show D.d5=D.d4 from h)
  | 5,_,5,_=>exact fun _=>rfl
  | 5,_,6,_=>exact fun h=>by cases(show D.d5=D.d6 from h)
  | 5,_,7,_=>exact fun h=>by cases(show D.d5=D.d7 from h)
  | 6,_,0,_=>exact fun h=>by cases(show D.d6=D.d0 from h)
  | 6,_,1,_=>exact fun h=>by cases(show D.d6=D.d1 from h)
  | 6,_,2,_=>exact fun h=>by cases(show D.d6=D.d2 from h)
  | 6,_,3,_=>exact fun h=>by cases(show D.d6=D.d3 from h)
  | 6,_,4,_=>exact fun h=>by cases(show D.d6=D.d4 from h)
  | 6,_,5,_=>exact fun h=>by cases(show D.d6=D.d5 from h)
  | 6,_,6,_=>exact fun _=>rfl
  | 6,_,7,_=>exact fun h=>by cases(show D.d6=D.d7 from h)
  | 7,_,0,_=>exact fun h=>by cases(show D.d7=D.d0 from h)
  | 7,_,1,_=>exact fun h=>by cases(show D.d7=D.d1 from h)
  | 7,_,2,_=>exact fun h=>by cases(show D.d7=D.d2 from h)
  | 7,_,3,_=>exact fun h=>by cases(show D.d7=D.d3 from h)
  | 7,_,4,_=>exact fun h=>by cases(show D.d7=D.d4 from h)
  | 7,_,5,_=>exact fun h=>by cases(show D.d7=D.d5 from h)
  | 7,_,6,_=>exact fun h=>by cases(show D.d7=D.d6 from h)
  | 7,_,7,_=>exact fun _=>rfl
 intro e
 have:=h ⟨a,ha⟩ ⟨b,hb⟩ e
 simpa using this
theorem kY (n:Nat):Nat.land n 7=n % 8:=by
 have:=Nat.and_two_pow_sub_one_eq_mod n 3
 simpa using this
theorem dg1_eq {i j:Nat} (h:dg1 i=dg1 j):i % 8=j % 8:=by
 have:=dOf_inj (by rw[kY]; omega) (by rw[kY]; omega) h
 rwa[kY,kY]at this
theorem dg2_eq {i j:Nat} (h:dg2 i=dg2 j):i / 8 % 8=j / 8 % 8:=by
 have:=dOf_inj (by rw[kY]; omega) (by rw[kY]; omega) h
 rw[kY,kY]at this
 have e:∀ n,Nat.shiftRight n 3=n / 8:=fun n=>by have:=Nat.shiftRight_eq_div_pow n 3; simpa using this
 rwa[e,e]at this
theorem dg3_eq {i j:Nat} (h:dg3 i=dg3 j):i / 64 % 8=j / 64 % 8:=by
 have:=dOf_inj (by rw[kY]; omega) (by rw[kY]; omega) h
 rw[kY,kY]at this
 have e:∀ n,Nat.shiftRight n 6=n / 64:=fun n=>by have:=Nat.shiftRight_eq_div_pow n 6; simpa using this
 rwa[e,e]at this
theorem dg4_eq {i j:Nat} (h:dg4 i=dg4 j):i / 512 % 8=j / 512 % 8:=by
 have:=dOf_inj (by rw[kY]; omega) (by rw[kY]; omega) h
 rw[kY,kY]at this
 have e:∀ n,Nat.shiftRight n 9=n / 512:=fun n=>by have:=Nat.shiftRight_eq_div_pow n 9; simpa using this
 rwa[e,e]at this
theorem dg5_eq {i j:Nat} (h:dg5 i=dg5 j):i / 4096 % 8=j / 4096 % 8:=by
 have:=dOf_inj (by rw[kY]; omega) (by rw[kY]; omega) h
 rw[kY,kY]at this
 have e:∀ n,Nat.shiftRight n 12=n / 4096:=fun n=>by have:=Nat.shiftRight_eq_div_pow n 12; simpa using this
 rwa[e,e]at this
theorem p1_dig {i j:Nat} (t:H1) (h:dg1 j=dg1 i):(p1 j).g t=(p1 i).g t:=by unfold p1; rw[h]
theorem p2_dig {i j:Nat} (t:H2) (h:dg2 j=dg2 i∧dg1 j=dg1 i):(p2 j).g t=(p2 i).g t:=by
 obtain⟨h,h1⟩:=h
 unfold p2; rw[h]; generalize dg2 i=d; cases d<;>exact p1_dig _ h1
theorem p3_dig {i j:Nat} (t:H3) (h:dg3 j=dg3 i∧dg2 j=dg2 i∧dg1 j=dg1 i):(p3 j).g t=(p3 i).g t:=by
 obtain⟨h,h2,h1⟩:=h
 unfold p3; rw[h]; generalize dg3 i=d; cases d<;>exact p2_dig _ ⟨h2,h1⟩
theorem p4_dig {i j:Nat} (t:H4) (h:dg4 j=dg4 i∧dg3 j=dg3 i∧dg2 j=dg2 i∧dg1 j=dg1 i):(p4 j).g t=(p4 i).g t:=by
 obtain⟨h,h3,h2,h1⟩:=h
 unfold p4; rw[h]; generalize dg4 i=d; cases d<;>exact p3_dig _ ⟨h3,h2,h1⟩
theorem p5_dig {i j:Nat} (t:H5) (h:dg5 j=dg5 i∧dg4 j=dg4 i∧dg3 j=dg3 i∧dg2 j=dg2 i∧dg1 j=dg1 i):(p5 j).g t=(p5 i).g t:=by
 obtain⟨h,h4,h3,h2,h1⟩:=h
 unfold p5; rw[h]; generalize dg5 i=d; cases d<;>exact p4_dig _ ⟨h4,h3,h2,h1⟩
theorem q1_law (i:Nat) (t:L1) (v:AV):∃ t',(∀ {Z:Type} (k:L1→Z),(q1 i).s t v k=k t')∧(∀ j,dg1 j=dg1 i→(q1 j).g t'=v)∧∀ j,¬ (dg1 j=dg1 i)→(q1 j).g t'=(q1 j).g t:=by
 obtain⟨c0,c1,c2,c3,c4,c5,c6,c7⟩:=t
 unfold q1
 generalize dg1 i=d
 cases d<;>exact⟨_,fun k=>rfl,fun j h=>by rw[h],fun j h=>by generalize dg1 j=e at *; cases e<;>first | rfl | exact absurd rfl h⟩
theorem q2_law (i:Nat) (t:L2) (v:AV):∃ t',(∀ {Z:Type} (k:L2→Z),(q2 i).s t v k=k t')∧(∀ j,dg2 j=dg2 i∧dg1 j=dg1 i→(q2 j).g t'=v)∧∀ j,¬ (dg2 j=dg2 i∧dg1 j=dg1 i)→(q2 j).g t'=(q2 j).g t:=by
 obtain⟨c0,c1,c2,c3,c4,c5,c6,c7⟩:=t
 unfold q2
 generalize dg2 i=d
 cases d
 ·obtain⟨y,h1,h2,h3⟩:=q1_law i c0 v
  refine⟨_,fun k=>h1 _,fun j h=>?_,fun j h=>?_⟩
  ·obtain⟨h,h'⟩:=h
   rw[h]; exact h2 j h'
  ·generalize dg2 j=e at *
   cases e<;>first | rfl | exact h3 j fun h'=>h ⟨rfl,h'⟩
 ·obtain⟨y,h1,h2,h3⟩:=q1_law i c1 v
  refine⟨_,fun k=>h1 _,fun j h=>?_,fun j h=>?_⟩
  ·obtain⟨h,h'⟩:=h
   rw[h]; exact h2 j h'
  ·generalize dg2 j=e at *
   cases e<;>first | rfl | exact h3 j fun h'=>h ⟨rfl,h'⟩
 ·obtain⟨y,h1,h2,h3⟩:=q1_law i c2 v
  refine⟨_,fun k=>h1 _,fun j h=>?_,fun j h=>?_⟩
  ·obtain⟨h,h'⟩:=h
   rw[h]; exact h2 j h'
  ·generalize dg2 j=e at *
   cases e<;>first | rfl | exact h3 j fun h'=>h ⟨rfl,h'⟩
 ·obtain⟨y,h1,h2,h3⟩:=q1_law i c3 v
  refine⟨_,fun k=>h1 _,fun j h=>?_,fun j h=>?_⟩
  ·obtain⟨h,h'⟩:=h
   rw[h]; exact h2 j h'
  ·generalize dg2 j=e at *
   cases e<;>first | rfl | exact h3 j fun h'=>h ⟨rfl,h'⟩
 ·obtain⟨y,h1,h2,h3⟩:=q1_law i c4 v
  refine⟨_,fun k=>h1 _,fun j h=>?_,fun j h=>?_⟩
  ·obtain⟨h,h'⟩:=h
   rw[h]; exact h2 j h'
  ·generalize dg2 j=e at *
   cases e<;>first | rfl | exact h3 j fun h'=>h ⟨rfl,h'⟩
 ·obtain⟨y,h1,h2,h3⟩:=q1_law i c5 v
  refine⟨_,fun k=>h1 _,fun j h=>?_,fun j h=>?_⟩
  ·obtain⟨h,h'⟩:=h
   rw[h]; exact h2 j h'
  ·generalize dg2 j=e at *
   cases e<;>first | rfl | exact h3 j fun h'=>h ⟨rfl,h'⟩
 ·obtain⟨y,h1,h2,h3⟩:=q1_law i c6 v
  refine⟨_,fun k=>h1 _,fun j h=>?_,fun j h=>?_⟩
  ·obtain⟨h,h'⟩:=h
   rw[h]; exact h2 j h'
  ·generalize dg2 j=e at *
   cases e<;>first | rfl | exact h3 j fun h'=>h ⟨rfl,h'⟩
 ·obtain⟨y,h1,h2,h3⟩:=q1_law i c7 v
  refine⟨_,fun k=>h1 _,fun j h=>?_,fun j h=>?_⟩
  ·obtain⟨h,h'⟩:=h
   rw[h]; exact h2 j h'
  ·generalize dg2 j=e at *
   cases e<;>first | rfl | exact h3 j fun h'=>h ⟨rfl,h'⟩
theorem q3_law (i:Nat) (t:L3) (v:AV):∃ t',(∀ {Z:Type} (k:L3→Z),(q3 i).s t v k=k t')∧(∀ j,dg3 j=dg3 i∧dg2 j=dg2 i∧dg1 j=dg1 i→(q3 j).g t'=v)∧∀ j,¬ (dg3 j=dg3 i∧dg2 j=dg2 i∧dg1 j=dg1 i)→(q3 j).g t'=(q3 j).g t:=by
 obtain⟨c0,c1,c2,c3,c4,c5,c6,c7⟩:=t
 unfold q3
 generalize dg3 i=d
 cases d
 ·obtain⟨y,h1,h2,h3⟩:=q2_law i c0 v
  refine⟨_,fun k=>h1 _,fun j h=>?_,fun j h=>?_⟩
  ·obtain⟨h,h'⟩:=h
   rw[h]; exact h2 j h'
  ·generalize dg3 j=e at *
   cases e<;>first | rfl | exact h3 j fun h'=>h ⟨rfl,h'⟩
 ·obtain⟨y,h1,h2,h3⟩:=q2_law i c1 v
  refine⟨_,fun k=>h1 _,fun j h=>?_,fun j h=>?_⟩
  ·obtain⟨h,h'⟩:=h
   rw[h]; exact h2 j h'
  ·generalize dg3 j=e at *
   cases e<;>first | rfl | exact h3 j fun h'=>h ⟨rfl,h'⟩
 ·obtain⟨y,h1,h2,h3⟩:=q2_law i c2 v
  refine⟨_,fun k=>h1 _,fun j h=>?_,fun j h=>?_⟩
  ·obtain⟨h,h'⟩:=h
   rw[h]; exact h2 j h'
  ·generalize dg3 j=e at *
   cases e<;>first | rfl | exact h3 j fun h'=>h ⟨rfl,h'⟩
 ·obtain⟨y,h1,h2,h3⟩:=q2_law i c3 v
  refine⟨_,fun k=>h1 _,fun j h=>?_,fun j h=>?_⟩
  ·obtain⟨h,h'⟩:=h
   rw[h]; exact h2 j h'
  ·generalize dg3 j=e at *
   cases e<;>first | rfl | exact h3 j fun h'=>h ⟨rfl,h'⟩
 ·obtain⟨y,h1,h2,h3⟩:=q2_law i c4 v
  refine⟨_,fun k=>h1 _,fun j h=>?_,fun j h=>?_⟩
  ·obtain⟨h,h'⟩:=h
   rw[h]; exact h2 j h'
  ·generalize dg3 j=e at *
   cases e<;>first | rfl | exact h3 j fun h'=>h ⟨rfl,h'⟩
 ·obtain⟨y,h1,h2,h3⟩:=q2_law i c5 v
  refine⟨_,fun k=>h1 _,fun j h=>?_,fun j h=>?_⟩
  ·obtain⟨h,h'⟩:=h
   rw[h]; exact h2 j h'
  ·generalize dg3 j=e at *
   cases e<;>first | rfl | exact h3 j fun h'=>h ⟨rfl,h'⟩
 ·obtain⟨y,h1,h2,h3⟩:=q2_law i c6 v
  refine⟨_,fun k=>h1 _,fun j h=>?_,fun j h=>?_⟩
  ·obtain⟨h,h'⟩:=h
   rw[h]; exact h2 j h'
  ·generalize dg3 j=e at *
   cases e<;>first | rfl | exact h3 j fun h'=>h ⟨rfl,h'⟩
 ·obtain⟨y,h1,h2,h3⟩:=q2_law i c7 v
  refine⟨_,fun k=>h1 _,fun j h=>?_,fun j h=>?_⟩
  ·obtain⟨h,h'⟩:=h
   rw[h]; exact h2 j h'
  ·generalize dg3 j=e at *
   cases e<;>first | rfl | exact h3 j fun h'=>h ⟨rfl,h'⟩
theorem q4_law (i:Nat) (t:L4) (v:AV):∃ t',(∀ {Z:Type} (k:L4→Z),(q4 i).s t v k=k t')∧(∀ j,dg4 j=dg4 i∧dg3 j=dg3 i∧dg2 j=dg2 i∧dg1 j=dg1 i→(q4 j).g t'=v)∧∀ j,¬ (dg4 j=dg4 i∧dg3 j=dg3 i∧dg2 j=dg2 i∧dg1 j=dg1 i)→(q4 j).g t'=(q4 j).g t:=by
 obtain⟨c0,c1,c2,c3,c4,c5,c6,c7⟩:=t
 unfold q4
 generalize dg4 i=d
 cases d
 ·obtain⟨y,h1,h2,h3⟩:=q3_law i c0 v
  refine⟨_,fun k=>h1 _,fun j h=>?_,fun j h=>?_⟩
  ·obtain⟨h,h'⟩:=h
   rw[h]; exact h2 j h'
  ·generalize dg4 j=e at *
   cases e<;>first | rfl | exact h3 j fun h'=>h ⟨rfl,h'⟩
 ·obtain⟨y,h1,h2,h3⟩:=q3_law i c1 v
  refine⟨_,fun k=>h1 _,fun j h=>?_,fun j h=>?_⟩
  ·obtain⟨h,h'⟩:=h
   rw[h]; exact h2 j h'
  ·generalize dg4 j=e at *
   cases e<;>first | rfl | exact h3 j fun h'=>h ⟨rfl,h'⟩
 ·obtain⟨y,h1,h2,h3⟩:=q3_law i c2 v
  refine⟨_,fun k=>h1 _,fun j h=>?_,fun j h=>?_⟩
  ·obtain⟨h,h'⟩:=h
   rw[h]; exact h2 j h'
  ·generalize dg4 j=e at *
   cases e<;>first | rfl | exact h3 j fun h'=>h ⟨rfl,h'⟩
 ·obtain⟨y,h1,h2,h3⟩:=q3_law i c3 v
  refine⟨_,fun k=>h1 _,fun j h=>?_,fun j h=>?_⟩
  ·obtain⟨h,h'⟩:=h
   rw[h]; exact h2 j h'
  ·generalize dg4 j=e at *
   cases e<;>first | rfl | exact h3 j fun h'=>h ⟨rfl,h'⟩
 ·obtain⟨y,h1,h2,h3⟩:=q3_law i c4 v
  refine⟨_,fun k=>h1 _,fun j h=>?_,fun j h=>?_⟩
  ·obtain⟨h,h'⟩:=h
   rw[h]; exact h2 j h'
  ·generalize dg4 j=e at *
   cases e<;>first | rfl | exact h3 j fun h'=>h ⟨rfl,h'⟩
 ·obtain⟨y,h1,h2,h3⟩:=q3_law i c5 v
  refine⟨_,fun k=>h1 _,fun j h=>?_,fun j h=>?_⟩
  ·obtain⟨h,h'⟩:=h
   rw[h]; exact h2 j h'
  ·generalize dg4 j=e at *
   cases e<;>first | rfl | exact h3 j fun h'=>h ⟨rfl,h'⟩
 ·obtain⟨y,h1,h2,h3⟩:=q3_law i c6 v
  refine⟨_,fun k=>h1 _,fun j h=>?_,fun j h=>?_⟩
  ·obtain⟨h,h'⟩:=h
   rw[h]; exact h2 j h'
  ·generalize dg4 j=e at *
   cases e<;>first | rfl | exact h3 j fun h'=>h ⟨rfl,h'⟩
 ·obtain⟨y,h1,h2,h3⟩:=q3_law i c7 v
  refine⟨_,fun k=>h1 _,fun j h=>?_,fun j h=>?_⟩
  ·obtain⟨h,h'⟩:=h
   rw[h]; exact h2 j h'
  ·generalize dg4 j=e at *
   cases e<;>first | rfl | exact h3 j fun h'=>h ⟨rfl,h'⟩
theorem p1_law (i:Nat) (t:H1) (v:B):∃ t',(∀ {Z:Type} (k:H1→Z),(p1 i).s t v k=k t')∧(∀ j,dg1 j=dg1 i→(p1 j).g t'=v)∧∀ j,¬ (dg1 j=dg1 i)→(p1 j).g t'=(p1 j).g t:=by
 obtain⟨c0,c1,c2,c3,c4,c5,c6,c7⟩:=t
 unfold p1
 generalize dg1 i=d
 cases d<;>exact⟨_,fun k=>rfl,fun j h=>by rw[h],fun j h=>by generalize dg1 j=e at *; cases e<;>first | rfl | exact absurd rfl h⟩
theorem p2_law (i:Nat) (t:H2) (v:B):∃ t',(∀ {Z:Type} (k:H2→Z),(p2 i).s t v k=k t')∧(∀ j,dg2 j=dg2 i∧dg1 j=dg1 i→(p2 j).g t'=v)∧∀ j,¬ (dg2 j=dg2 i∧dg1 j=dg1 i)→(p2 j).g t'=(p2 j).g t:=by
 obtain⟨c0,c1,c2,c3,c4,c5,c6,c7⟩:=t
 unfold p2
 generalize dg2 i=d
 cases d
 ·obtain⟨y,h1,h2,h3⟩:=p1_law i c0 v
  refine⟨_,fun k=>h1 _,fun j h=>?_,fun j h=>?_⟩
  ·obtain⟨h,h'⟩:=h
   rw[h]; exact h2 j h'
  ·generalize dg2 j=e at *
   cases e<;>first | rfl | exact h3 j fun h'=>h ⟨rfl,h'⟩
 ·obtain⟨y,h1,h2,h3⟩:=p1_law i c1 v
  refine⟨_,fun k=>h1 _,fun j h=>?_,fun j h=>?_⟩
  ·obtain⟨h,h'⟩:=h
   rw[h]; exact h2 j h'
  ·generalize dg2 j=e at *
   cases e<;>first | rfl | exact h3 j fun h'=>h ⟨rfl,h'⟩
 ·obtain⟨y,h1,h2,h3⟩:=p1_law i c2 v
  refine⟨_,fun k=>h1 _,fun j h=>?_,fun j h=>?_⟩
  ·obtain⟨h,h'⟩:=h
   rw[h]; exact h2 j h'
  ·generalize dg2 j=e at *
   cases e<;>first | rfl | exact h3 j fun h'=>h ⟨rfl,h'⟩
 ·obtain⟨y,h1,h2,h3⟩:=p1_law i c3 v
  refine⟨_,fun k=>h1 _,fun j h=>?_,fun j h=>?_⟩
  ·obtain⟨h,h'⟩:=h
   rw[h]; exact h2 j h'
  ·generalize dg2 j=e at *
   cases e<;>first | rfl | exact h3 j fun h'=>h ⟨rfl,h'⟩
 ·obtain⟨y,h1,h2,h3⟩:=p1_law i c4 v
  refine⟨_,fun k=>h1 _,fun j h=>?_,fun j h=>?_⟩
  ·obtain⟨h,h'⟩:=h
   rw[h]; exact h2 j h'
  ·generalize dg2 j=e at *
   cases e<;>first | rfl | exact h3 j fun h'=>h ⟨rfl,h'⟩
 ·obtain⟨y,h1,h2,h3⟩:=p1_law i c5 v
  refine⟨_,fun k=>h1 _,fun j h=>?_,fun j h=>?_⟩
  ·obtain⟨h,h'⟩:=h
   rw[h]; exact h2 j h'
  ·generalize dg2 j=e at *
   cases e<;>first | rfl | exact h3 j fun h'=>h ⟨rfl,h'⟩
 ·obtain⟨y,h1,h2,h3⟩:=p1_law i c6 v
  refine⟨_,fun k=>h1 _,fun j h=>?_,fun j h=>?_⟩
  ·obtain⟨h,h'⟩:=h
   rw[h]; exact h2 j h'
  ·generalize dg2 j=e at *
   cases e<;>first | rfl | exact h3 j fun h'=>h ⟨rfl,h'⟩
 ·obtain⟨y,h1,h2,h3⟩:=p1_law i c7 v
  refine⟨_,fun k=>h1 _,fun j h=>?_,fun j h=>?_⟩
  ·obtain⟨h,h'⟩:=h
   rw[h]; exact h2 j h'
  ·generalize dg2 j=e at *
   cases e<;>first | rfl | exact h3 j fun h'=>h ⟨rfl,h'⟩
theorem p3_law (i:Nat) (t:H3) (v:B):∃ t',(∀ {Z:Type} (k:H3→Z),(p3 i).s t v k=k t')∧(∀ j,dg3 j=dg3 i∧dg2 j=dg2 i∧dg1 j=dg1 i→(p3 j).g t'=v)∧∀ j,¬ (dg3 j=dg3 i∧dg2 j=dg2 i∧dg1 j=dg1 i)→(p3 j).g t'=(p3 j).g t:=by
 obtain⟨c0,c1,c2,c3,c4,c5,c6,c7⟩:=t
 unfold p3
 generalize dg3 i=d
 cases d
 ·obtain⟨y,h1,h2,h3⟩:=p2_law i c0 v
  refine⟨_,fun k=>h1 _,fun j h=>?_,fun j h=>?_⟩
  ·obtain⟨h,h'⟩:=h
   rw[h]; exact h2 j h'
  ·generalize dg3 j=e at *
   cases e<;>first | rfl | exact h3 j fun h'=>h ⟨rfl,h'⟩
 ·obtain⟨y,h1,h2,h3⟩:=p2_law i c1 v
  refine⟨_,fun k=>h1 _,fun j h=>?_,fun j h=>?_⟩
  ·obtain⟨h,h'⟩:=h
   rw[h]; exact h2 j h'
  ·generalize dg3 j=e at *
   cases e<;>first | rfl | exact h3 j fun h'=>h ⟨rfl,h'⟩
 ·obtain⟨y,h1,h2,h3⟩:=p2_law i c2 v
  refine⟨_,fun k=>h1 _,fun j h=>?_,fun j h=>?_⟩
  ·obtain⟨h,h'⟩:=h
   rw[h]; exact h2 j h'
  ·generalize dg3 j=e at *
   cases e<;>first | rfl | exact h3 j fun h'=>h ⟨rfl,h'⟩
 ·obtain⟨y,h1,h2,h3⟩:=p2_law i c3 v
  refine⟨_,fun k=>h1 _,fun j h=>?_,fun j h=>?_⟩
  ·obtain⟨h,h'⟩:=h
   rw[h]; exact h2 j h'
  ·generalize dg3 j=e at *
   cases e<;>first | rfl | exact h3 j fun h'=>h ⟨rfl,h'⟩
 ·obtain⟨y,h1,h2,h3⟩:=p2_law i c4 v
  refine⟨_,fun k=>h1 _,fun j h=>?_,fun j h=>?_⟩
  ·obtain⟨h,h'⟩:=h
   rw[h]; exact h2 j h'
  ·generalize dg3 j=e at *
   cases e<;>first | rfl | exact h3 j fun h'=>h ⟨rfl,h'⟩
 ·obtain⟨y,h1,h2,h3⟩:=p2_law i c5 v
  refine⟨_,fun k=>h1 _,fun j h=>?_,fun j h=>?_⟩
  ·obtain⟨h,h'⟩:=h
   rw[h]; exact h2 j h'
  ·generalize dg3 j=e at *
   cases e<;>first | rfl | exact h3 j fun h'=>h ⟨rfl,h'⟩
 ·obtain⟨y,h1,h2,h3⟩:=p2_law i c6 v
  refine⟨_,fun k=>h1 _,fun j h=>?_,fun j h=>?_⟩
  ·obtain⟨h,h'⟩:=h
   rw[h]; exact h2 j h'
  ·generalize dg3 j=e at *
   cases e<;>first | rfl | exact h3 j fun h'=>h ⟨rfl,h'⟩
 ·obtain⟨y,h1,h2,h3⟩:=p2_law i c7 v
  refine⟨_,fun k=>h1 _,fun j h=>?_,fun j h=>?_⟩
  ·obtain⟨h,h'⟩:=h
   rw[h]; exact h2 j h'
  ·generalize dg3 j=e at *
   cases e<;>first | rfl | exact h3 j fun h'=>h ⟨rfl,h'⟩
theorem p4_law (i:Nat) (t:H4) (v:B):∃ t',(∀ {Z:Type} (k:H4→Z),(p4 i).s t v k=k t')∧(∀ j,dg4 j=dg4 i∧dg3 j=dg3 i∧dg2 j=dg2 i∧dg1 j=dg1 i→(p4 j).g t'=v)∧∀ j,¬ (dg4 j=dg4 i∧dg3 j=dg3 i∧dg2 j=dg2 i∧dg1 j=dg1 i)→(p4 j).g t'=(p4 j).g t:=by
 obtain⟨c0,c1,c2,c3,c4,c5,c6,c7⟩:=t
 unfold p4
 generalize dg4 i=d
 cases d
 ·obtain⟨y,h1,h2,h3⟩:=p3_law i c0 v
  refine⟨_,fun k=>h1 _,fun j h=>?_,fun j h=>?_⟩
  ·obtain⟨h,h'⟩:=h
   rw[h]; exact h2 j h'
  ·generalize dg4 j=e at *
   cases e<;>first | rfl | exact h3 j fun h'=>h ⟨rfl,h'⟩
 ·obtain⟨y,h1,h2,h3⟩:=p3_law i c1 v
  refine⟨_,fun k=>h1 _,fun j h=>?_,fun j h=>?_⟩
  ·obtain⟨h,h'⟩:=h
   rw[h]; exact h2 j h'
  ·generalize dg4 j=e at *
   cases e<;>first | rfl | exact h3 j fun h'=>h ⟨rfl,h'⟩
 ·obtain⟨y,h1,h2,h3⟩:=p3_law i c2 v
  refine⟨_,fun k=>h1 _,fun j h=>?_,fun j h=>?_⟩
  ·obtain⟨h,h'⟩:=h
   rw[h]; exact h2 j h'
  ·generalize dg4 j=e at *
   cases e<;>first | rfl | exact h3 j fun h'=>h ⟨rfl,h'⟩
 ·obtain⟨y,h1,h2,h3⟩:=p3_law i c3 v
  refine⟨_,fun k=>h1 _,fun j h=>?_,fun j h=>?_⟩
  ·obtain⟨h,h'⟩:=h
   rw[h]; exact h2 j h'
  ·generalize dg4 j=e at *
   cases e<;>first | rfl | exact h3 j fun h'=>h ⟨rfl,h'⟩
 ·obtain⟨y,h1,h2,h3⟩:=p3_law i c4 v
  refine⟨_,fun k=>h1 _,fun j h=>?_,fun j h=>?_⟩
  ·obtain⟨h,h'⟩:=h
   rw[h]; exact h2 j h'
  ·generalize dg4 j=e at *
   cases e<;>first | rfl | exact h3 j fun h'=>h ⟨rfl,h'⟩
 ·obtain⟨y,h1,h2,h3⟩:=p3_law i c5 v
  refine⟨_,fun k=>h1 _,fun j h=>?_,fun j h=>?_⟩
  ·obtain⟨h,h'⟩:=h
   rw[h]; exact h2 j h'
  ·generalize dg4 j=e at *
   cases e<;>first | rfl | exact h3 j fun h'=>h ⟨rfl,h'⟩
 ·obtain⟨y,h1,h2,h3⟩:=p3_law i c6 v
  refine⟨_,fun k=>h1 _,fun j h=>?_,fun j h=>?_⟩
  ·obtain⟨h,h'⟩:=h
   rw[h]; exact h2 j h'
  ·generalize dg4 j=e at *
   cases e<;>first | rfl | exact h3 j fun h'=>h ⟨rfl,h'⟩
 ·obtain⟨y,h1,h2,h3⟩:=p3_law i c7 v
  refine⟨_,fun k=>h1 _,fun j h=>?_,fun j h=>?_⟩
  ·obtain⟨h,h'⟩:=h
   rw[h]; exact h2 j h'
  ·generalize dg4 j=e at *
   cases e<;>first | rfl | exact h3 j fun h'=>h ⟨rfl,h'⟩
theorem p5_law (i:Nat) (t:H5) (v:B):∃ t',(∀ {Z:Type} (k:H5→Z),(p5 i).s t v k=k t')∧(∀ j,dg5 j=dg5 i∧dg4 j=dg4 i∧dg3 j=dg3 i∧dg2 j=dg2 i∧dg1 j=dg1 i→(p5 j).g t'=v)∧∀ j,¬ (dg5 j=dg5 i∧dg4 j=dg4 i∧dg3 j=dg3 i∧dg2 j=dg2 i∧dg1 j=dg1 i)→(p5 j).g t'=(p5 j).g t:=by
 obtain⟨c0,c1,c2,c3,c4,c5,c6,c7⟩:=t
 unfold p5
 generalize dg5 i=d
 cases d
 ·obtain⟨y,h1,h2,h3⟩:=p4_law i c0 v
  refine⟨_,fun k=>h1 _,fun j h=>?_,fun j h=>?_⟩
  ·obtain⟨h,h'⟩:=h
   rw[h]; exact h2 j h'
  ·generalize dg5 j=e at *
   cases e<;>first | rfl | exact h3 j fun h'=>h ⟨rfl,h'⟩
 ·obtain⟨y,h1,h2,h3⟩:=p4_law i c1 v
  refine⟨_,fun k=>h1 _,fun j h=>?_,fun j h=>?_⟩
  ·obtain⟨h,h'⟩:=h
   rw[h]; exact h2 j h'
  ·generalize dg5 j=e at *
   cases e<;>first | rfl | exact h3 j fun h'=>h ⟨rfl,h'⟩
 ·obtain⟨y,h1,h2,h3⟩:=p4_law i c2 v
  refine⟨_,fun k=>h1 _,fun j h=>?_,fun j h=>?_⟩
  ·obtain⟨h,h'⟩:=h
   rw[h]; exact h2 j h'
  ·generalize dg5 j=e at *
   cases e<;>first | rfl | exact h3 j fun h'=>h ⟨rfl,h'⟩
 ·obtain⟨y,h1,h2,h3⟩:=p4_law i c3 v
  refine⟨_,fun k=>h1 _,fun j h=>?_,fun j h=>?_⟩
  ·obtain⟨h,h'⟩:=h
   rw[h]; exact h2 j h'
  ·generalize dg5 j=e at *
   cases e<;>first | rfl | exact h3 j fun h'=>h ⟨rfl,h'⟩
 ·obtain⟨y,h1,h2,h3⟩:=p4_law i c4 v
  refine⟨_,fun k=>h1 _,fun j h=>?_,fun j h=>?_⟩
  ·obtain⟨h,h'⟩:=h
   rw[h]; exact h2 j h'
  ·generalize dg5 j=e at *
   cases e<;>first | rfl | exact h3 j fun h'=>h ⟨rfl,h'⟩
 ·obtain⟨y,h1,h2,h3⟩:=p4_law i c5 v
  refine⟨_,fun k=>h1 _,fun j h=>?_,fun j h=>?_⟩
  ·obtain⟨h,h'⟩:=h
   rw[h]; exact h2 j h'
  ·generalize dg5 j=e at *
   cases e<;>first | rfl | exact h3 j fun h'=>h ⟨rfl,h'⟩
 ·obtain⟨y,h1,h2,h3⟩:=p4_law i c6 v
  refine⟨_,fun k=>h1 _,fun j h=>?_,fun j h=>?_⟩
  ·obtain⟨h,h'⟩:=h
   rw[h]; exact h2 j h'
  ·generalize dg5 j=e at *
   cases e<;>first | rfl | exact h3 j fun h'=>h ⟨rfl,h'⟩
 ·obtain⟨y,h1,h2,h3⟩:=p4_law i c7 v
  refine⟨_,fun k=>h1 _,fun j h=>?_,fun j h=>?_⟩
  ·obtain⟨h,h'⟩:=h
   rw[h]; exact h2 j h'
  ·generalize dg5 j=e at *
   cases e<;>first | rfl | exact h3 j fun h'=>h ⟨rfl,h'⟩
theorem q1_set {i:Nat} (t:L1) (v:AV) (hi:i<8):∃ t',(∀ {Z:Type} (k:L1→Z),(q1 i).s t v k=k t')∧∀ j,j<8→(q1 j).g t'=if j=i then v else (q1 j).g t:=by
 obtain⟨t',h1,h2,h3⟩:=q1_law i t v
 refine⟨t',h1,fun j hj=>?_⟩
 by_cases e:j=i
 ·subst e; rw[if_pos rfl]; exact h2 j rfl
 ·rw[if_neg e]; exact h3 j fun h=>by
   have h1:=h; exact e (by have:=dg1_eq h1; omega)
theorem q2_set {i:Nat} (t:L2) (v:AV) (hi:i<64):∃ t',(∀ {Z:Type} (k:L2→Z),(q2 i).s t v k=k t')∧∀ j,j<64→(q2 j).g t'=if j=i then v else (q2 j).g t:=by
 obtain⟨t',h1,h2,h3⟩:=q2_law i t v
 refine⟨t',h1,fun j hj=>?_⟩
 by_cases e:j=i
 ·subst e; rw[if_pos rfl]; exact h2 j ⟨rfl,rfl⟩
 ·rw[if_neg e]; exact h3 j fun h=>by
   obtain⟨h2,h1⟩:=h; exact e (by have:=dg1_eq h1; have:=dg2_eq h2; omega)
theorem q3_set {i:Nat} (t:L3) (v:AV) (hi:i<512):∃ t',(∀ {Z:Type} (k:L3→Z),(q3 i).s t v k=k t')∧∀ j,j<512→(q3 j).g t'=if j=i then v else (q3 j).g t:=by
 obtain⟨t',h1,h2,h3⟩:=q3_law i t v
 refine⟨t',h1,fun j hj=>?_⟩
 by_cases e:j=i
 ·subst e; rw[if_pos rfl]; exact h2 j ⟨rfl,rfl,rfl⟩
 ·rw[if_neg e]; exact h3 j fun h=>by
   obtain⟨h3,h2,h1⟩:=h; exact e (by have:=dg1_eq h1; have:=dg2_eq h2; have:=dg3_eq h3; omega)
theorem q4_set {i:Nat} (t:L4) (v:AV) (hi:i<4096):∃ t',(∀ {Z:Type} (k:L4→Z),(q4 i).s t v k=k t')∧∀ j,j<4096→(q4 j).g t'=if j=i then v else (q4 j).g t:=by
 obtain⟨t',h1,h2,h3⟩:=q4_law i t v
 refine⟨t',h1,fun j hj=>?_⟩
 by_cases e:j=i
 ·subst e; rw[if_pos rfl]; exact h2 j ⟨rfl,rfl,rfl,rfl⟩
 ·rw[if_neg e]; exact h3 j fun h=>by
   obtain⟨h4,h3,h2,h1⟩:=h; exact e (by have:=dg1_eq h1; have:=dg2_eq h2; have:=dg3_eq h3; have:=dg4_eq h4; omega)
theorem p5_set {i:Nat} (t:H5) (v:B) (hi:i<32768):∃ t',(∀ {Z:Type} (k:H5→Z),(p5 i).s t v k=k t')∧∀ j,j<32768→(p5 j).g t'=if j=i then v else (p5 j).g t:=by
 obtain⟨t',h1,h2,h3⟩:=p5_law i t v
 refine⟨t',h1,fun j hj=>?_⟩
 by_cases e:j=i
 ·subst e; rw[if_pos rfl]; exact h2 j ⟨rfl,rfl,rfl,rfl,rfl⟩
 ·rw[if_neg e]; exact h3 j fun h=>by
   obtain⟨h5,h4,h3,h2,h1⟩:=h; exact e (by have:=dg1_eq h1; have:=dg2_eq h2; have:=dg3_eq h3; have:=dg4_eq h4; have:=dg5_eq h5; omega)
end Go.Ev
end
section
set_option linter.unusedVariables false
set_option linter.constructorNameAsVariable false
namespace Go.Ev
open Go.Lw Go.RowKit
structure Env where
 dom:Nat→Prop
 blk:Nat→Nat
 cap:Nat→Nat
 clo:Nat→Value
 gh:Nat→Nat
structure Ext (e e':Env):Prop where
 dom:∀ id,e.dom id→e'.dom id
 blk:∀ id,e.dom id→e'.blk id=e.blk id
 cap:∀ id,e.dom id→e'.cap id=e.cap id
 clo:∀ id,e.dom id→e'.clo id=e.clo id
 gh:∀ id,e.dom id→e'.gh id=e.gh id
theorem Ext.refl (e:Env):Ext e e:=⟨fun _ h=>h,fun _ _=>rfl,fun _ _=>rfl,fun _ _=>rfl,fun _ _=>rfl⟩
theorem Ext.trans {a b c:Env} (h:Ext a b) (k:Ext b c):Ext a c:=
 ⟨fun i hi=>k.dom i (h.dom i hi),fun i hi=>(k.blk i (h.dom i hi)).trans (h.blk i hi),fun i hi=>(k.cap i (h.dom i hi)).trans (h.cap i hi),fun i hi=>(k.clo i (h.dom i hi)).trans (h.clo i hi),fun i hi=>(k.gh i (h.dom i hi)).trans (h.gh i hi)⟩
def adr (e:Env) (id off:Nat):Addr:=⟨e.blk id,off,none⟩
def DnO (e:Env) (x:So) (v:Value):Prop:=match x with
 | .u=>True
 | .n=>v=undef
 | .s id off len cap=>e.dom id∧v=.slice (some (adr e id off)) len cap
 | .w id off len ct=>e.dom id∧v=.slice (some (adr e id off)) len (e.cap id-ct)∧len+ct≤e.cap id
 | .m id=>e.dom id∧v=.map (some (e.blk id))
 | .f id=>e.dom id∧v=e.clo id∧∃ fn a b,v=.func (.func fn) a b
 | .y id=>e.dom id∧v=.func (.yield (e.blk id)) #[] #[]
 | .e=>∃ a cap,v=.slice a 0 cap
 | .c u=>v=u∧u.oneCell'=true
def DnS (e:Env) (s:Sc) (v:Value):Prop:=match s with
 | .i k n=>v=.int k n
 | .b b=>v=.bool b
 | .p id off=>e.dom id∧v=.pointer (some (adr e id off))
 | .o x=>DnO e x v
def DnC (e:Env) (s:Sc) (v:Value):Prop:=DnS e s v∧v.oneCell'=true
def zN {α β:Type} (p:α→β→Prop):List α→List β→Prop
 | [],[]=>True
 | x::l,y::m=>p x y∧zN p l m
 | _,_=>False
def DnT (e:Env) (s:Sc ⊕ List Sc) (v:Value):Prop:=match s with
 | .inl s=>DnS e s v
 | .inr l=>∃ vs,v=.agg ⟨vs⟩∧zN (DnC e) l vs
def Dn (e:Env) (a:AV) (v:Value):Prop:=match a with
 | .x s=>DnS e s v
 | .a l=>∃ vs,v=.agg ⟨vs⟩∧zN (DnC e) l vs
 | .t l=>∃ vs,v=.tuple ⟨vs⟩∧zN (DnT e) l vs
section all2
variable {α β:Type} {p q:α→β→Prop}
theorem zN.mono (h:∀ x y,p x y→q x y):∀ {l:List α} {m:List β},zN p l m→zN q l m
 | [],[],_=>trivial
 | _::_,_::_,⟨a,b⟩=>⟨h _ _ a,b.mono h⟩
 | [],_::_,k=>k.elim
 | _::_,[],k=>k.elim
theorem zN.length:∀ {l:List α} {m:List β},zN p l m→l.length=m.length
 | [],[],_=>rfl
 | _::_,_::_,⟨_,b⟩=>by simp[b.length]
 | [],_::_,k=>k.elim
 | _::_,[],k=>k.elim
theorem zN.at:∀ {l:List α} {m:List β},zN p l m→∀ {j:Nat} {x:α} {y:β},l[j]? = some x→m[j]? = some y→p x y
 | [],[],_,j,x,y,h,_=>by simp at h
 | _::_,_::_,⟨a,b⟩,0,x,y,h,k=>by simp at h k; subst h; subst k; exact a
 | _::_,_::_,⟨a,b⟩,j+1,x,y,h,k=>b.at (by simpa using h) (by simpa using k)
 | [],_::_,k,_,_,_,_,_=>k.elim
 | _::_,[],k,_,_,_,_,_=>k.elim
theorem zN.of_at:∀ {l:List α} {m:List β},l.length=m.length→(∀ (j:Nat) (x:α) (y:β),l[j]? = some x→m[j]? = some y→p x y)→zN p l m
 | [],[],_,_=>trivial
 | x::l,y::m,hl,h=>⟨h 0 x y rfl rfl,zN.of_at (by simpa using hl) fun j a b ha hb=>h (j+1) a b (by simpa using ha) (by simpa using hb)⟩
 | [],_::_,hl,_=>by simp at hl
 | _::_,[],hl,_=>by simp at hl
theorem zN.append:∀ {l:List α} {m:List β} {l':List α} {m':List β},zN p l m→zN p l' m'→zN p (l++l') (m++m')
 | [],[],_,_,_,h=>h
 | _::_,_::_,_,_,⟨a,b⟩,h=>⟨a,b.append h⟩
 | [],_::_,_,_,k,_=>k.elim
 | _::_,[],_,_,k,_=>k.elim
theorem zN.take:∀ {l:List α} {m:List β} (n:Nat),zN p l m→zN p (l.take n) (m.take n)
 | _,_,0,_=>by simp[zN]
 | [],[],_+1,_=>trivial
 | _::_,_::_,n+1,⟨a,b⟩=>⟨a,b.take n⟩
 | [],_::_,_+1,k=>k.elim
 | _::_,[],_+1,k=>k.elim
theorem zN.drop:∀ {l:List α} {m:List β} (n:Nat),zN p l m→zN p (l.drop n) (m.drop n)
 | _,_,0,h=>h
 | [],[],_+1,_=>trivial
 | _::_,_::_,n+1,⟨_,b⟩=>b.drop n
 | [],_::_,_+1,k=>k.elim
 | _::_,[],_+1,k=>k.elim
theorem zN.right:∀ {l:List α} {m:List β} {r:β→Prop},zN p l m→(∀ x y,p x y→r y)→∀ y∈m,r y
 | [],[],_,_,_,y,hy=>by cases hy
 | x::_,z::_,_,⟨a,b⟩,h,y,hy=>by
  rcases List.mem_cons.1 hy with rfl | hy
  ·exact h _ _ a
  ·exact b.right h y hy
 | [],_::_,_,k,_,_,_=>k.elim
 | _::_,[],_,k,_,_,_=>k.elim
end all2
section ext
variable {e e':Env} (h:Ext e e')
include h
theorem DnO.ext {x:So} {v:Value} (k:DnO e x v):DnO e' x v:=by
 cases x with
 | u=>trivial
 | n=>exact k
 | s id off len cap=>exact⟨h.dom _ k.1,by rw[k.2,adr,adr,h.blk _ k.1]⟩
 | w id off len ct=>exact⟨h.dom _ k.1,by rw[k.2.1,adr,adr,h.blk _ k.1,h.cap _ k.1],by rw[h.cap _ k.1]; exact k.2.2⟩
 | m id=>exact⟨h.dom _ k.1,by rw[k.2,h.blk _ k.1]⟩
 | f id=>exact⟨h.dom _ k.1,by rw[k.2.1,h.clo _ k.1],k.2.2⟩
 | y id=>exact⟨h.dom _ k.1,by rw[k.2,h.blk _ k.1]⟩
 | e=>exact k
 | c u=>exact k
theorem DnS.ext {s:Sc} {v:Value} (k:DnS e s v):DnS e' s v:=by
 cases s with
 | i=>exact k
 | b=>exact k
 | p id off=>exact⟨h.dom _ k.1,by rw[k.2,adr,adr,h.blk _ k.1]⟩
 | o x=>exact DnO.ext h k
theorem DnC.ext {s:Sc} {v:Value} (k:DnC e s v):DnC e' s v:=⟨k.1.ext h,k.2⟩
theorem DnT.ext {s:Sc ⊕ List Sc} {v:Value} (k:DnT e s v):DnT e' s v:=by
 cases s with
 | inl s=>exact DnS.ext h k
 | inr l=>obtain⟨vs,h1,h2⟩:=k; exact⟨vs,h1,h2.mono fun _ _=>DnC.ext h⟩
theorem Dn.ext {a:AV} {v:Value} (k:Dn e a v):Dn e' a v:=by
 cases a with
 | x s=>exact DnS.ext h k
 | a l=>obtain⟨vs,h1,h2⟩:=k; exact⟨vs,h1,h2.mono fun _ _=>DnC.ext h⟩
 | t l=>obtain⟨vs,h1,h2⟩:=k; exact⟨vs,h1,h2.mono fun _ _=>DnT.ext h⟩
/-! What was known of a value before, is known of it in the smaller frame. -/
theorem DnO.back {x:So} {u v:Value} (k:DnO e x u) (k':DnO e' x v):DnO e x v:=by
 cases x with
 | u=>trivial
 | n=>exact k'
 | s id off len cap=>exact⟨k.1,by rw[k'.2,adr,adr,h.blk _ k.1]⟩
 | w id off len ct=>exact⟨k.1,by rw[k'.2.1,adr,adr,h.blk _ k.1,h.cap _ k.1],k.2.2⟩
 | m id=>exact⟨k.1,by rw[k'.2,h.blk _ k.1]⟩
 | f id=>exact⟨k.1,by rw[k'.2.1,h.clo _ k.1],k'.2.2⟩
 | y id=>exact⟨k.1,by rw[k'.2,h.blk _ k.1]⟩
 | e=>exact k'
 | c u=>exact k'
theorem DnS.back {s:Sc} {u v:Value} (k:DnS e s u) (k':DnS e' s v):DnS e s v:=by
 cases s with
 | i=>exact k'
 | b=>exact k'
 | p id off=>exact⟨k.1,by rw[k'.2,adr,adr,h.blk _ k.1]⟩
 | o x=>exact DnO.back h k k'
theorem DnC.back {s:Sc} {u v:Value} (k:DnC e s u) (k':DnC e' s v):DnC e s v:=⟨k.1.back h k'.1,k'.2⟩
theorem zN.backC:∀ {l:List Sc} {us vs:List Value},zN (DnC e) l us→zN (DnC e') l vs→zN (DnC e) l vs
 | [],[],[],_,_=>trivial
 | _::_,_::_,_::_,⟨a,b⟩,⟨a',b'⟩=>⟨a.back h a',b.backC b'⟩
 | [],_,_::_,_,k=>k.elim
 | [],_::_,_,k,_=>k.elim
 | _::_,[],_,k,_=>k.elim
 | _::_,_,[],_,k=>k.elim
theorem DnT.back {s:Sc ⊕ List Sc} {u v:Value} (k:DnT e s u) (k':DnT e' s v):DnT e s v:=by
 cases s with
 | inl s=>exact DnS.back h k k'
 | inr l=>obtain⟨us,_,h2⟩:=k; obtain⟨vs,h3,h4⟩:=k'; exact⟨vs,h3,h2.backC h h4⟩
theorem zN.backT:∀ {l:List (Sc ⊕ List Sc)} {us vs:List Value},zN (DnT e) l us→zN (DnT e') l vs→zN (DnT e) l vs
 | [],[],[],_,_=>trivial
 | _::_,_::_,_::_,⟨a,b⟩,⟨a',b'⟩=>⟨a.back h a',b.backT b'⟩
 | [],_,_::_,_,k=>k.elim
 | [],_::_,_,k,_=>k.elim
 | _::_,[],_,k,_=>k.elim
 | _::_,_,[],_,k=>k.elim
theorem Dn.back {a:AV} {u v:Value} (k:Dn e a u) (k':Dn e' a v):Dn e a v:=by
 cases a with
 | x s=>exact DnS.back h k k'
 | a l=>obtain⟨us,_,h2⟩:=k; obtain⟨vs,h3,h4⟩:=k'; exact⟨vs,h3,h2.backC h h4⟩
 | t l=>obtain⟨us,_,h2⟩:=k; obtain⟨vs,h3,h4⟩:=k'; exact⟨vs,h3,h2.backT h h4⟩
end ext
/-! ### Frames -/
def jc (e:Env) (n:Nat) (Z:Nat→Prop) (τ:L3) (tmps:Array Value):Prop:=tmps.size=n∧n≤512∧∀ t v,tmps[t]? = some v→¬ Z t→Dn e ((q3 t).g τ) v
abbrev noZ:Nat→Prop:=fun _=>False
theorem jc.ext {e e':Env} (h:Ext e e') {n:Nat} {Z:Nat→Prop} {τ:L3} {tmps:Array Value} (k:jc e n Z τ tmps):jc e' n Z τ tmps:=⟨k.1,k.2.1,fun t v hv hz=>(k.2.2 t v hv hz).ext h⟩
theorem jc.put {e:Env} {n:Nat} {Z Z':Nat→Prop} {τ τ':L3} {a:Act} (k:jc e n Z τ a.tmps) {d:Nat} (hd:d<n) {x:AV} {v:Value} (hx:Dn e x v)
  (ht:∀ j,j<512→(q3 j).g τ'=if j=d then x else (q3 j).g τ) (hz:∀ t,¬ Z' t→t≠d→¬ Z t):jc e n Z' τ' (a.put (some d) v).tmps:=by
 obtain⟨h1,h2,h3⟩:=k
 refine⟨by simp[Act.put,h1],h2,fun t u hu hzt=>?_⟩
 simp only[Act.put]at hu
 have htn:t<n:=by
  have:=(Array.getElem?_eq_some_iff.1 hu).1
  simpa [h1]using this
 rw[ht t (by omega)]
 split
 ·rename_i e
  subst e
  rw[Array.getElem?_setIfInBounds_self]at hu
  simp[h1,htn]at hu
  subst hu; exact hx
 ·rename_i e
  rw[Array.getElem?_setIfInBounds_ne (fun e'=>e e'.symm)]at hu
  exact h3 t u hu (hz t hzt e)
/-! ### Memory -/
def TOk (e:Env) (n:Nat) (t:TV) (cs:List Value):Prop:=n≤cs.length∧n≤xC t∧∀ j,j<n→∃ s v,cs[j]? = some v∧t.get j=.x s∧DnC e s v
theorem TOk.ext {e e':Env} (h:Ext e e') {n:Nat} {t:TV} {cs:List Value} (k:TOk e n t cs):TOk e' n t cs:=⟨k.1,k.2.1,fun j hj=>by
 obtain⟨s,v,h1,h2,h3⟩:=k.2.2 j hj; exact⟨s,v,h1,h2,h3.ext h⟩⟩
def DnE (e:Env) (p:AV×AV) (en:MapEntry):Prop:=Dn e p.1 en.key∧Dn e p.2 en.val
theorem DnE.ext {e e':Env} (h:Ext e e') {p:AV×AV} {en:MapEntry} (k:DnE e p en):DnE e' p en:=⟨k.1.ext h,k.2.ext h⟩
def MOk (e:Env) (l:List (AV×AV)) (es:List MapEntry) (c:Nat):Prop:=zN (DnE e) l es∧(es.map (·.born)).Nodup∧∀ en∈es,en.born<c
theorem MOk.ext {e e':Env} (h:Ext e e') {l:List (AV×AV)} {es:List MapEntry} {c:Nat} (k:MOk e l es c):MOk e' l es c:=⟨k.1.mono fun _ _=>DnE.ext h,k.2⟩
def exC:Ex→Code
 | .n=>.skip
 | .x i=>.exit i
 | .r=>.ret
def jy (seen:Array Nat) (zs:List (MapEntry×Bool)):List MapEntry:=(zs.filter fun z=>z.2 || !seen.contains z.1.born).map (·.1)
def remB (seen:Array Nat) (l:List (AV×AV)) (es:List MapEntry):List (AV×AV):=((l.zip es).filter fun z=>!seen.contains z.2.born).map (·.1)
def ItAt (w:World) (b r:Nat) (es:List MapEntry) (c since:Nat) (seen:Array Nat) (c0:Nat):Prop:=w.heap[b]? = some (.map ⟨es⟩ c)∧w.heap[r]? = some (.mapIter (some b) since seen c0)∧since≤c0
def Old (es:List MapEntry) (since:Nat) (seen:Array Nat) (g:Nat):Prop:=(∀ en∈es,en.born<since)∧seen.toList.Nodup∧(∀ b∈seen.toList,b∈es.map (·.born))∧seen.size=g
def UnS (x:Nat) (es:List MapEntry) (seen:Array Nat):Prop:=∀ i en,x=i+1→es[i]? = some en→seen.contains en.born=false
def OOk (e:Env) (h:H) (w:World) (id:Nat) (b:BO):Prop:=match b with
 | .m l=>∃ es c,w.heap[e.blk id]? = some (.map ⟨es⟩ c)∧MOk e l es c
 | .h=>True
 | .g key gone L=>∃ (l:List (AV×AV)) (es:List MapEntry) (c:Nat),w.heap[e.blk id]? = some (.map ⟨es⟩ c)∧MOk e l es c∧dstK l=true∧(l.Sublist (L.map (·.1))∧∃ es0,zN (DnE e) (L.map (·.1)) es0)∧(gone=false→∃ (i:Nat) (p:AV×AV),l[i]? = some p∧p.1=key)
 | .f fn fs cs=>∃ us vs,e.clo id=.func (.func fn) ⟨us⟩ ⟨vs⟩∧zN (Dn e) fs us∧zN (Dn e) cs vs
 | .l ps a b t=>∃ r:Loop,w.heap[e.blk id]? = some (.loop { r with state:=.ready,pending:=none })∧r.params.toList=ps∧r.assign=a∧r.body=b∧jc e r.tmps.size noZ t r.tmps∧(∀ p∈ps,p<r.tmps.size)∧okC r.tmps.size a=true∧okC r.tmps.size b=true∧r.tmps.size=e.gh id
 | .d ex=>∃ r:Loop,w.heap[e.blk id]? = some (.loop { r with state:=.done,pending:=some (exC ex) })
 | .i m l=>e.dom m∧hget h m=.o .h∧∃ (es:List MapEntry) (c:Nat),ItAt w (e.blk m) (e.blk id) es c c #[] c∧MOk e l es c
 | .b _ _ _=>False
 | .c m k v l rem=>e.dom m∧hget h m=.o .h∧∃ (es:List MapEntry) (c since:Nat) (seen:Array Nat) (en:MapEntry),ItAt w (e.blk m) (e.blk id) es c since (seen.push en.born) c∧MOk e l es c∧(∀ en∈es,en.born<since)∧rem=remB (seen.push en.born) l es∧en∈es∧DnE e (k,v) en
 | .j m l x=>e.dom m∧hget h m=.o .h∧∃ (es:List MapEntry) (c since:Nat) (seen:Array Nat),ItAt w (e.blk m) (e.blk id) (jy seen (es.zip (l.map (·.2)))) c since seen c∧MOk e (l.map (·.1)) es c∧Old es since seen (e.gh id)∧dstK (l.map (·.1))=true∧UnS x es seen
 | .k m key v l keep x cur=>e.dom m∧∃ gone L,hget h m=.o (.g key gone L)∧∃ (es:List MapEntry) (c since:Nat) (seen:Array Nat) (j:Nat) (en:MapEntry),es[j]? = some en∧l[j]? = some ((key,v),keep)∧
   ItAt w (e.blk m) (e.blk id) (jy (seen.push en.born) (es.zip ((l.map (·.2)).set j (!gone)))) c since (seen.push en.born) c∧MOk e (l.map (·.1)) es c∧Old es since (seen.push en.born) (e.gh id+1)∧dstK (l.map (·.1))=true∧(cur=false→UnS x es (seen.push en.born))
 | .q _ _ _=>False
 | .z=>True
 | .t=>e.gh id=0→w.heap[e.blk id]? = some (.deferred (some []))
 | .v bz ps a b t=>∃ r:Loop,w.heap[e.blk id]? = some (.loop { r with state:=if bz then .busy else .ready,pending:=none })∧r.params.toList=ps∧r.assign=a∧r.body=b∧jc e r.tmps.size noZ t r.tmps∧(∀ p∈ps,p<r.tmps.size)∧okC r.tmps.size a=true∧okC r.tmps.size b=true∧r.tmps.size=e.gh id
def BOk (e:Env) (h:H) (w:World) (id:Nat) (b:B):Prop:=match b with
 | .x=>True
 | .c E n t=>∃ cs,w.heap[e.blk id]? = some (LC cs E)∧cs.length=n∧TOk e n t cs
 | .r E n t=>∃ cs z,w.heap[e.blk id]? = some (LC cs E)∧TOk e n t cs∧tkB Pr E=some z∧cs.length=e.cap id*z.2∧e.cap id≤maxLen
 | .o b=>OOk e h w id b
def inB (b:B):Prop:=match b with
 | .x=>False
 | .o (.f ..)=>False
 | _=>True
def refM (b:B):Option Nat:=match b with
 | .o (.i m _)=>some m
 | .o (.b m _ _)=>some m
 | .o (.c m _ _ _ _)=>some m
 | .o (.j m _ _)=>some m
 | .o (.k m _ _ _ _ _ _)=>some m
 | _=>none
structure zG (w0:World) (e:Env) (h:H) (w:World):Prop where
 below:Below w0.heap.size w0 w
 top:h.nxt≤32768
 lt:∀ id,e.dom id→id<h.nxt
 ok:∀ id,e.dom id→BOk e h w id (hget h id)
 low:∀ id,e.dom id→inB (hget h id)→w0.heap.size≤e.blk id∧e.blk id<w.heap.size
 inj:∀ i j,e.dom i→e.dom j→inB (hget h i)→inB (hget h j)→e.blk i=e.blk j→i=j
 none:∀ id,id<32768→h.nxt≤id→hget h id=.x
 uniq:∀ i j m,e.dom i→e.dom j→refM (hget h i)=some m→refM (hget h j)=some m→i=j
def H.act (h:H) (id:Nat):Prop:=h.ac.1=id+1∨h.ac.2=id+1
def fixB (b:B):Prop:=match b with
 | .o .t=>True
 | .o (.v ..)=>True
 | _=>False
def jkB (m:Nat) (l:List ((AV×AV)×Bool)) (x:Nat) (b:B):Prop:=b=.o .z∨b=.o (.j m l x)∨∃ key v keep cur,b=.o (.k m key v l keep x cur)
def kD (b b':B):Prop:=match b with
 | .o .t=>b'=b
 | .o (.v ..)=>b'=b
 | .o (.j m l x)=>jkB m l x b'
 | .o (.k m _ _ l _ x _)=>jkB m l x b'
 | .o .z=>b'=.o .z
 | _=>True
theorem kD.refl (b:B):kD b b:=by
 cases b with
 | o b=>cases b<;>first | trivial | rfl | exact .inr (.inl rfl) | exact .inr (.inr ⟨_,_,_,_,rfl⟩)
 | _=>trivial
theorem jkB.trans {m x:Nat} {l:List ((AV×AV)×Bool)} {b c:B} (h:jkB m l x b) (k:kD b c):jkB m l x c:=by
 rcases h with rfl | rfl | ⟨y1,y2,y3,y4,rfl⟩
 ·exact .inl k
 ·exact k
 ·exact k
theorem kD.trans {a b c:B} (h:kD a b) (k:kD b c):kD a c:=by
 cases a with
 | o q=>
  cases q with
  | t=>have h':b=.o .t:=h; subst h'; exact k
  | v bz ps x y t=>have h':b=.o (.v bz ps x y t):=h; subst h'; exact k
  | z=>have h':b=.o .z:=h; subst h'; exact k
  | j m l x=>exact jkB.trans h k
  | k m key v l keep x cur=>exact jkB.trans h k
  | _=>trivial
 | _=>trivial
structure Fr (e:Env) (h:H) (e':Env) (h':H):Prop where
 ext:Ext e e'
 nxt:h.nxt≤h'.nxt
 lo:h'.lo≤h.lo
 ac:h'.ac=h.ac
 new:∀ id,e'.dom id→e.dom id∨h.nxt≤id
 out:∀ id,id<h.nxt→¬ e.dom id→hget h' id=hget h id
 prot:∀ id,id<h.nxt→id<h'.lo→¬ h.act id→hget h' id=hget h id
 kp:∀ id,id<h.nxt→kD (hget h id) (hget h' id)
theorem Fr.refl (e:Env) (h:H):Fr e h e h:=⟨.refl e,Nat.le_refl _,Nat.le_refl _,rfl,fun _ h=>.inl h,fun _ _ _=>rfl,fun _ _ _ _=>rfl,fun _ _=>.refl _⟩
theorem Fr.trans {e e' e'':Env} {h h' h'':H} (a:Fr e h e' h') (b:Fr e' h' e'' h''):Fr e h e'' h'':=by
 refine⟨a.ext.trans b.ext,Nat.le_trans a.nxt b.nxt,Nat.le_trans b.lo a.lo,b.ac.trans a.ac,fun id hi=>?_,fun id hi hd=>?_,fun id hn hi hr=>?_,fun id hn=>(a.kp id hn).trans (b.kp id (Nat.lt_of_lt_of_le hn a.nxt))⟩
 ·rcases b.new id hi with h1 | h1
  ·exact a.new id h1
  ·exact .inr (Nat.le_trans a.nxt h1)
 ·have hd':¬ e'.dom id:=fun k=>by
   rcases a.new id k with h1 | h1
   ·exact hd h1
   ·omega
  rw[b.out id (Nat.lt_of_lt_of_le hi a.nxt) hd',a.out id hi hd]
 ·rw[b.prot id (Nat.lt_of_lt_of_le hn a.nxt) hi (by unfold H.act at hr⊢; rw[a.ac]; exact hr),a.prot id hn (Nat.lt_of_lt_of_le hi b.lo) hr]
theorem kD.fix {b c:B} (h:kD b c) (k:fixB b):c=b:=by
 cases b with
 | o q=>cases q<;>first | exact k.elim | exact h
 | _=>exact k.elim
theorem Fr.mark {e e':Env} {h h':H} (F:Fr e h e' h'):∀ id,id<h.nxt→fixB (hget h id)→hget h' id=hget h id:=fun id hn hf=>(F.kp id hn).fix hf
end Go.Ev
end
section
set_option linter.unusedVariables false
set_option linter.constructorNameAsVariable false
namespace Go.Ev
open Go.Lw Go.RowKit
section laws
variable {Y Z:Type} {z:Z}
theorem zO {o:Option Y} {k:Y→Option Z} (h:obn o k=some z):∃ y,o=some y∧k y=some z:=by
 cases o with
 | none=>cases h
 | some y=>exact⟨y,rfl,h⟩
theorem zw {b:Bool} {x:Option Z} (h:gd b x=some z):b=true∧x=some z:=by
 cases b with
 | true=>exact⟨rfl,h⟩
 | false=>cases h
theorem ja {v:AV} {K:IntKind→Int→Option Z} (h:asI v K=some z):∃ k n,v=.i k n∧K k n=some z:=by
 cases v with
 | x s=>
  cases s with
  | i k n=>exact⟨k,n,rfl,h⟩
  | b=>cases h
  | p=>cases h
  | o x=>cases h
 | a l=>cases h
 | t l=>cases h
theorem asB_law {v:AV} {K:Bool→Option Z} (h:asB v K=some z):∃ b,v=.b b∧K b=some z:=by
 cases v with
 | x s=>
  cases s with
  | i k n=>cases h
  | b b=>exact⟨b,rfl,h⟩
  | p=>cases h
  | o x=>cases h
 | a l=>cases h
 | t l=>cases h
theorem jP {v:AV} {K:Nat→Nat→Option Z} (h:asP v K=some z):∃ i o,v=.x (.p i o)∧K i o=some z:=by
 cases v with
 | x s=>
  cases s with
  | i k n=>cases h
  | b=>cases h
  | p i o=>exact⟨i,o,rfl,h⟩
  | o x=>cases h
 | a l=>cases h
 | t l=>cases h
theorem qL {v:AV} {K:So→Option Z} (h:asO v K=some z):∃ x,v=.x (.o x)∧K x=some z:=by
 cases v with
 | x s=>
  cases s with
  | i k n=>cases h
  | b=>cases h
  | p=>cases h
  | o x=>exact⟨x,rfl,h⟩
 | a l=>cases h
 | t l=>cases h
theorem kK {v:AV} {K:List Sc→Option Z} (h:asA v K=some z):∃ l,v=.a l∧K l=some z:=by
 cases v with
 | x s=>cases h
 | a l=>exact⟨l,rfl,h⟩
 | t l=>cases h
theorem asT_law {v:AV} {K:List (Sc ⊕ List Sc)→Option Z} (h:asT v K=some z):∃ l,v=.t l∧K l=some z:=by
 cases v with
 | x s=>cases h
 | a l=>cases h
 | t l=>exact⟨l,rfl,h⟩
theorem frc_s_eq (s:Sc) (K:Sc→Z):frc_s s K=K s:=by cases s<;>rfl
theorem xy (v:AV) (K:AV→Z):frc v K=K v:=by cases v<;>rfl
def Sc.cel (s:Sc):Prop:=match s with | .o .u=>False | .o .n=>False | _=>True
theorem cel_law {s:Sc} {K:Sc→Option Z} (h:Ev.cel s K=some z):s.cel∧K s=some z:=by
 cases s with
 | i k n=>exact⟨trivial,h⟩
 | b=>exact⟨trivial,h⟩
 | p=>exact⟨trivial,h⟩
 | o x=>cases x<;>first | exact⟨trivial,h⟩ | cases h
theorem scal_law {v:AV} {K:Sc→Option Z} (h:scal v K=some z):∃ s,v=.x s∧K s=some z:=by
 cases v with
 | x s=>exact⟨s,rfl,(frc_s_eq s K).symm.trans h⟩
 | a l=>cases h
 | t l=>cases h
theorem qU {α:Type} : ∀ l:List α,len l=l.length
 | []=>rfl
 | _::l=>congrArg Nat.succ (qU l)
theorem ko {α:Type} : ∀ a b:List α,app a b=a++b
 | [],_=>rfl
 | x::a,b=>congrArg (x::·) (ko a b)
theorem drp_eq {α:Type} : ∀ (n:Nat) (l:List α),drp l n=l.drop n
 | 0,l=>rfl
 | n+1,[]=>rfl
 | n+1,_::l=>drp_eq n l
theorem tke_law:∀ {n:Nat} {l:List Sc} {K:List Sc→Option Z},tke l n K=some z→n≤l.length∧K (l.take n)=some z
 | 0,l,K,h=>⟨Nat.zero_le _,by have h':K []=some z:=h; simpa using h'⟩
 | n+1,[],K,h=>by cases h
 | n+1,s::l,K,h=>by
  have:=tke_law (n:=n) (l:=l) (K:=fun r=>K (s::r)) h
  exact⟨by simp; omega,by simpa using this.2⟩
theorem repL_len:∀ (m:Nat) (l:List Sc),(repL l m).length=m*l.length
 | 0,l=>by show([]:List Sc).length=_; simp
 | m+1,l=>by
  have:repL l (m+1)=app l (repL l m):=rfl
  rw[this,ko,List.length_append,repL_len m l,Nat.add_mul]; omega
theorem nn_law {a:Int} {K:Nat→Option Z} (h:nn a K=some z):∃ m:Nat,a=(m:Int)∧K m=some z:=by
 cases a with
 | ofNat m=>exact⟨m,rfl,h⟩
 | negSucc m=>cases h
theorem idx_law {i:Int} {n:Nat} {K:Nat→Option Z} (h:idx i n K=some z):∃ j:Nat,i=(j:Int)∧j<n∧K j=some z:=by
 cases i with
 | ofNat j=>
  obtain⟨h1,h2⟩:=zw h
  exact⟨j,rfl,by simpa [Nat.blt_eq]using h1,h2⟩
 | negSucc m=>cases h
theorem el_law {X:TypeId} {K:Nat→Nat→Option Z} (h:el X K=some z):∃ E s ag,Pr.underlying X=some (.slice E)∧tkB Pr E=some (ag,s)∧K E s=some z:=by
 unfold el elB at h
 split at h
 ·rename_i E hu
  cases ht:tkB Pr E with
  | none=>rw[ht]at h; cases h
  | some q=>rw[ht]at h; exact⟨E,q.2,q.1,hu,ht,h⟩
 ·cases h
theorem ar_law {X:TypeId} {K:Nat×Nat×Nat×Bool→Option Z} (h:ar X K=some z):∃ n E s ag,Pr.underlying X=some (.array n E)∧tkB Pr E=some (ag,s)∧K (n,E,s,ag)=some z:=by
 unfold ar arB at h
 split at h
 ·rename_i n E hu
  cases ht:tkB Pr E with
  | none=>rw[ht]at h; cases h
  | some q=>rw[ht]at h; exact⟨n,E,q.2,q.1,hu,ht,h⟩
 ·cases h
theorem jg {h:H} {id:Nat} {K:BO→Option Z} (hh:blkO h id K=some z):∃ b,hget h id=.o b∧K b=some z:=by
 unfold blkO at hh
 cases hb:hget h id with
 | x=>rw[hb]at hh; cases hh
 | c=>rw[hb]at hh; cases hh
 | r=>rw[hb]at hh; cases hh
 | o b=>rw[hb]at hh; exact⟨b,rfl,hh⟩
theorem jG {h:H} {id:Nat} {K:Nat→Nat→TV→Option Z} (hh:jX h id K=some z):∃ E n t,(hget h id=.c E n t∨hget h id=.r E n t)∧K E n t=some z:=by
 unfold jX at hh
 cases hb:hget h id with
 | x=>rw[hb]at hh; cases hh
 | c E n t=>rw[hb]at hh; exact⟨E,n,t,.inl rfl,hh⟩
 | r E n t=>rw[hb]at hh; exact⟨E,n,t,.inr rfl,hh⟩
 | o b=>rw[hb]at hh; cases hh
theorem asM_law {v:AV} {K:Nat→Option Z} (h:asM v K=some z):∃ id,v=.x (.o (.m id))∧K id=some z:=by
 obtain⟨x,rfl,hNew⟩:=qL h; clear h; have h:=hNew; clear hNew
 cases x<;>first | exact⟨_,rfl,h⟩ | cases h
theorem mapB_law {h:H} {id:Nat} {K:List (AV×AV)→Option Z} (hh:mapB h id K=some z):∃ l,hget h id=.o (.m l)∧K l=some z:=by
 obtain⟨b,h1,h2⟩:=jg hh
 cases b<;>first | exact⟨_,h1,h2⟩ | cases h2
theorem toSum_law {v:AV} {K:Sc ⊕ List Sc→Option Z} (h:toSum v K=some z):(∃ s,v=.x s∧K (.inl s)=some z)∨(∃ l,v=.a l∧K (.inr l)=some z):=by
 cases v with
 | x s=>exact .inl ⟨s,rfl,h⟩
 | a l=>exact .inr ⟨l,rfl,h⟩
 | t l=>cases h
theorem kr {l:List AV} {K:AV→Option Z} (h:ku l K=some z):∃ x,l=[x]∧K x=some z:=by
 cases l with
 | nil=>cases h
 | cons x l=>cases l with
  | nil=>exact⟨x,rfl,h⟩
  | cons y l=>cases h
theorem args2_law {l:List AV} {K:AV→AV→Option Z} (h:args2 l K=some z):∃ x y,l=[x,y]∧K x y=some z:=by
 cases l with
 | nil=>cases h
 | cons x l=>
  obtain⟨y,rfl,hNew⟩:=kr (l:=l) (K:=K x) h; clear h; have h:=hNew; clear hNew
  exact⟨x,y,rfl,h⟩
theorem jr {τ:L3} : ∀ {l:List Operand} {K:List AV→Option Z},evL l τ K=some z→K (l.map fun o=>(evO o).v τ)=some z
 | [],K,h=>h
 | o::l,K,h=>by
  have h':(frc ((evO o).v τ) fun v=>evL l τ fun r=>K (v::r))=some z:=h
  rw[xy]at h'
  exact jr (l:=l) (K:=fun r=>K ((evO o).v τ::r)) h'
end laws
/-! ### Cells -/
theorem TV.set_law (t:TV) {i:Nat} (hi:i<xC t) (v:AV):∃ t',xC t'=xC t∧(∀ {Z:Type} (k:TV→Z),t.set i v k=k t')∧∀ j,j<xC t→t'.get j=if j=i then v else t.get j:=by
 cases t with
 | s x=>obtain⟨y,h1,h2⟩:=q1_set x v hi; exact⟨.s y,rfl,fun k=>h1 _,fun j hj=>h2 j hj⟩
 | t x=>obtain⟨y,h1,h2⟩:=q2_set x v hi; exact⟨.t y,rfl,fun k=>h1 _,fun j hj=>h2 j hj⟩
 | m x=>obtain⟨y,h1,h2⟩:=q3_set x v hi; exact⟨.m y,rfl,fun k=>h1 _,fun j hj=>h2 j hj⟩
 | l x=>obtain⟨y,h1,h2⟩:=q4_set x v hi; exact⟨.l y,rfl,fun k=>h1 _,fun j hj=>h2 j hj⟩
theorem TV.emp_law {Z:Type} {z:Z} {n:Nat} {k:TV→Option Z} (h:TV.emp n k=some z):∃ t,n≤xC t∧k t=some z:=by
 unfold TV.emp at h
 cases h1:Nat.ble n 8 with
 | true=>rw[h1]at h; exact⟨.s L1.e,(Nat.le_of_ble_eq_true h1:n≤8),h⟩
 | false=>
  rw[h1]at h
  cases h2:Nat.ble n 64 with
  | true=>rw[h2]at h; exact⟨.t L2.e,(Nat.le_of_ble_eq_true h2:n≤64),h⟩
  | false=>
   rw[h2]at h
   cases h3:Nat.ble n 512 with
   | true=>rw[h3]at h; exact⟨.m L3.e,(Nat.le_of_ble_eq_true h3:n≤512),h⟩
   | false=>
    rw[h3]at h
    cases h4:Nat.ble n 4096 with
    | true=>rw[h4]at h; exact⟨.l L4.e,(Nat.le_of_ble_eq_true h4:n≤4096),h⟩
    | false=>rw[h4]at h; cases h
theorem getL_law {Z:Type} {z:Z} {t:TV} : ∀ {n off:Nat} {K:List Sc→Option Z},getL t off n K=some z→∃ l,l.length=n∧(∀ j s,l[j]? = some s→t.get (off+j)=.x s)∧K l=some z
 | 0,off,K,h=>⟨[],rfl,fun j s hj=>by simp at hj,h⟩
 | n+1,off,K,h=>by
  have h':(nat off fun off=>scal (t.get off) fun v=>getL t (Nat.succ off) n fun l=>K (v::l))=some z:=h
  rw[nat_eq]at h'
  obtain⟨s,h1,h2⟩:=scal_law h'
  obtain⟨l,h3,h4,h5⟩:=getL_law h2
  refine⟨s::l,by simp[h3],fun j u hj=>?_,h5⟩
  cases j with
  | zero=>simp at hj; subst hj; exact h1
  | succ j=>
   have:=h4 j u (by simpa using hj)
   rw[←this]; congr 1; simp only[Nat.succ_eq_add_one]; omega
theorem setL_law {Z:Type} {z:Z} : ∀ {l:List Sc} {t:TV} {off:Nat} {K:TV→Option Z},setL l t off K=some z→off+l.length≤xC t→
  ∃ t',xC t'=xC t∧K t'=some z∧(∀ j s,l[j]? = some s→t'.get (off+j)=.x s)∧∀ j,j<xC t→(j<off∨off+l.length≤j)→t'.get j=t.get j
 | [],t,off,K,h,_=>⟨t,rfl,h,fun j s hj=>by simp at hj,fun _ _ _=>rfl⟩
 | s::l,t,off,K,h,hc=>by
  have h':(nat off fun off=>t.set off (.x s) fun t=>setL l t (Nat.succ off) K)=some z:=h
  rw[nat_eq]at h'
  simp only[List.length_cons]at hc
  obtain⟨t1,c1,e1,g1⟩:=TV.set_law t (i:=off) (by omega) (.x s)
  rw[e1]at h'
  obtain⟨t2,c2,e2,g2,g3⟩:=setL_law h' (by rw[c1]; simp only[Nat.succ_eq_add_one]; omega)
  refine⟨t2,c2.trans c1,e2,fun j u hj=>?_,fun j hj hn=>?_⟩
  ·cases j with
   | zero=>
    simp at hj; subst hj
    rw[g3 _ (by rw[c1]; omega) (by simp only[Nat.succ_eq_add_one]; omega),g1 _ (by omega)]
    simp
   | succ j=>
    have:=g2 j u (by simpa using hj)
    rw[←this]; congr 1; simp only[Nat.succ_eq_add_one]; omega
  ·simp only[List.length_cons]at hn
   rw[g3 j (by rw[c1]; exact hj) (by simp only[Nat.succ_eq_add_one]; omega),g1 j hj,if_neg (by omega)]
theorem TOk.read {e:Env} {n:Nat} {t:TV} {cs:List Value} (h:TOk e n t cs):∀ {l:List Sc} {off:Nat},(∀ j s,l[j]? = some s→t.get (off+j)=.x s)→off+l.length≤n→zN (DnC e) l ((cs.drop off).take l.length)
 | [],off,_,_=>by simp[zN]
 | s::l,off,hl,hn=>by
  simp only[List.length_cons]at hn
  obtain⟨s',v,h1,h2,h3⟩:=h.2.2 off (by omega)
  have hlt:=(List.getElem?_eq_some_iff.1 h1).1
  have hv:=(List.getElem?_eq_some_iff.1 h1).2
  rw[List.drop_eq_getElem_cons hlt,List.length_cons,List.take_succ_cons,hv]
  refine⟨?_,h.read (l:=l) (off:=off+1) (fun j u hj=>?_) (by omega)⟩
  ·have:=hl 0 s rfl
   rw[Nat.add_zero,h2]at this
   cases this; exact h3
  ·have:=hl (j+1) u (by simpa using hj)
   rw[←this]; congr 1; omega
theorem TOk.write {e:Env} {n:Nat} {t t':TV} {cs us:List Value} {l:List Sc} {off:Nat} (h:TOk e n t cs) (hu:zN (DnC e) l us) (hc:xC t'=xC t) (h1:∀ j s,l[j]? = some s→t'.get (off+j)=.x s)
  (h2:∀ j,j<xC t→(j<off∨off+l.length≤j)→t'.get j=t.get j) (hn:off+l.length≤n):TOk e n t' (cs.take off++us++cs.drop (off+us.length)):=by
 have hul:=hu.length
 have hcl:=h.1
 refine⟨by simp; omega,by rw[hc]; exact h.2.1,fun j hj=>?_⟩
 by_cases c1:j<off
 ·obtain⟨s,v,a,b,c⟩:=h.2.2 j hj
  refine⟨s,v,?_,by rw[h2 j (by have:=h.2.1; omega) (.inl c1)]; exact b,c⟩
  rw[List.append_assoc,List.getElem?_append_left (by simp; omega),List.getElem?_take,if_pos c1]; exact a
 ·by_cases c2:j<off+l.length
  ·have hl:j-off<l.length:=by omega
   have hus:j-off<us.length:=by omega
   refine⟨l[j-off],us[j-off],?_,?_,hu.at (List.getElem?_eq_getElem hl) (List.getElem?_eq_getElem hus)⟩
   ·rw[List.append_assoc,List.getElem?_append_right (by simp; omega),List.getElem?_append_left (by simp; omega)]
    rw[List.length_take,Nat.min_eq_left (by omega)]
    exact List.getElem?_eq_getElem hus
   ·have:=h1 (j-off) _ (List.getElem?_eq_getElem hl)
    rw[←this]; congr 1; omega
  ·obtain⟨s,v,a,b,c⟩:=h.2.2 j hj
   refine⟨s,v,?_,by rw[h2 j (by have:=h.2.1; omega) (.inr (by omega))]; exact b,c⟩
   rw[List.append_assoc,List.getElem?_append_right (by simp; omega),List.getElem?_append_right (by simp; omega)]
   rw[List.getElem?_drop,List.length_take,Nat.min_eq_left (by omega)]
   rw[←a]; congr 1; omega
theorem TOk.fresh {e:Env} {n:Nat} {t':TV} {us:List Value} {l:List Sc} (hu:zN (DnC e) l us) (hn:n=l.length) (hc:n≤xC t') (h1:∀ j s,l[j]? = some s→t'.get (0+j)=.x s):TOk e n t' us:=by
 have hul:=hu.length
 refine⟨by omega,hc,fun j hj=>?_⟩
 have hl:j<l.length:=by omega
 have hus:j<us.length:=by omega
 refine⟨l[j],us[j],List.getElem?_eq_getElem hus,?_,hu.at (List.getElem?_eq_getElem hl) (List.getElem?_eq_getElem hus)⟩
 have:=h1 j _ (List.getElem?_eq_getElem hl)
 rwa[Nat.zero_add]at this
/-! ### Values' cells -/
theorem DnS.one {e:Env} {s:Sc} {v:Value} (h:DnS e s v) (hc:s.cel):v.oneCell'=true:=by
 cases s with
 | i k n=>rw[show v=_ from h]; rfl
 | b b=>rw[show v=_ from h]; rfl
 | p i o=>rw[h.2]; rfl
 | o x=>
  cases x with
  | u=>exact hc.elim
  | n=>exact hc.elim
  | s=>rw[h.2]; rfl
  | w=>rw[h.2.1]; rfl
  | m=>rw[h.2]; rfl
  | f=>obtain⟨fn,a,b,h⟩:=h.2.2; rw[h]; rfl
  | y=>rw[h.2]; rfl
  | e=>obtain⟨a,c,h⟩:=h; rw[h]; rfl
  | c u=>rw[h.1]; exact h.2
theorem cells_one {v:Value} (h:v.oneCell'=true):v.cells=#[v]:=by cases v<;>first | rfl | cases h
theorem cellsOf_law {Z:Type} {z:Z} {e:Env} {x:AV} {v:Value} {K:List Sc→Option Z} (h:cellsOf x K=some z) (hv:Dn e x v):∃ l us,K l=some z∧v.cells=⟨us⟩∧zN (DnC e) l us:=by
 cases x with
 | x s=>
  obtain⟨h1,h2⟩:=cel_law h
  have h3:=hv.one h1
  exact⟨[s],[v],h2,cells_one h3,⟨hv,h3⟩,trivial⟩
 | a l=>
  obtain⟨us,rfl,h2⟩:=hv
  exact⟨l,us,h,rfl,h2⟩
 | t l=>cases h
theorem zN.one {e:Env} {l:List Sc} {us:List Value} (h:zN (DnC e) l us):∀ u∈us,u.oneCell'=true:=h.right fun _ _ h=>h.2
theorem of1_law {e:Env} {v:Value} {s:Sc} (h:of1 v=some s):DnC e s v:=by
 cases v<;>simp only[of1,Option.some.injEq,reduceCtorEq]at h<;>subst h<;>first | exact⟨rfl,rfl⟩ | exact⟨⟨rfl,rfl⟩,rfl⟩
theorem ofL_law {e:Env} : ∀ {l:List Value} {m:List Sc},ofL l=some m→zN (DnC e) m l
 | [],m,h=>by simp only[ofL,Option.some.injEq]at h; subst h; trivial
 | v::l,m,h=>by
  simp only[ofL]at h
  split at h
  ·rename_i s r h1 h2
   cases h
   exact⟨of1_law h1,ofL_law h2⟩
  ·cases h
theorem ofV_law (e:Env) (v:Value):Dn e (ofV v) v:=by
 cases v<;>simp only[ofV]<;>first | exact⟨rfl,rfl⟩ | exact rfl | skip
 ·rename_i cs
  split
  ·rename_i l h
   exact⟨cs.toList,rfl,ofL_law h⟩
  ·exact trivial
 ·exact trivial
/-! ### Operands -/
theorem evO_law {e:Env} {n:Nat} {Z:Nat→Prop} {τ:L3} {a:Act} (h:jc e n Z τ a.tmps) {x:Operand} (hn:okO n x=true) (hz:∀ t,x=.tmp t→¬ Z t):Dn e ((evO x).v τ) (a.eval x):=by
 cases x with
 | tmp t=>
  have ht:t<a.tmps.size:=by rw[h.1]; simpa [okO,Nat.blt_eq]using hn
  have hv:a.tmps[t]? = some (a.eval (.tmp t)):=by simp[Act.eval,ht]
  exact h.2.2 t _ hv (hz t rfl)
 | const v=>exact ofV_law e v
 | global g=>exact trivial
 | func f=>exact⟨rfl,rfl⟩
end Go.Ev
end
section
set_option linter.unusedVariables false
set_option linter.constructorNameAsVariable false
namespace Go.Ev
open Go.Lw Go.RowKit
structure Put (h:H) (id:Nat) (b:B) (h':H):Prop where
 nxt:h'.nxt=h.nxt
 lo:h'.lo=h.lo
 ac:h'.ac=h.ac
 get:∀ j,j<32768→hget h' j=if j=id then b else hget h j
structure New (h:H) (b:B) (h':H):Prop where
 lt:h.nxt<32768
 nxt:h'.nxt=h.nxt+1
 lo:h'.lo=h.lo
 ac:h'.ac=h.ac
 get:∀ j,j<32768→hget h' j=if j=h.nxt then b else hget h j
 keep:hget h h.nxt=.x→∀ j,hget h j≠.x→hget h' j=hget h j
theorem jl {h:H} {id:Nat} {b:B} {K:H→R} {z:List (AV×H)} (hh:jF h id b K=some z) (hi:id<32768):∃ h',Put h id b h'∧K h'=some z:=by
 obtain⟨nxt,lo,ac,t⟩:=h
 obtain⟨t',h1,h2⟩:=p5_set t b hi
 have hh':((p5 id).s t b fun t=>K (.mk nxt lo ac t))=some z:=hh
 rw[h1]at hh'
 exact⟨⟨nxt,lo,ac,t'⟩,⟨rfl,rfl,rfl,fun j hj=>h2 j hj⟩,hh'⟩
abbrev lowH (h:H) (id:Nat):H:=.mk h.nxt (bif Nat.ble h.lo id then h.lo else id) h.ac h.t
theorem lowH_le (h:H) (id:Nat):(lowH h id).lo≤h.lo∧(lowH h id).lo≤id:=by
 show(bif Nat.ble h.lo id then h.lo else id)≤h.lo∧(bif Nat.ble h.lo id then h.lo else id)≤id
 cases hb:Nat.ble h.lo id with
 | true=>have:=Nat.le_of_ble_eq_true hb; simp[this]
 | false=>
  have h:¬ h.lo≤id:=fun k=>by rw[Nat.ble_eq_true_of_le k]at hb; cases hb
  simp only[cond_false]; omega
theorem kz {h:H} {id:Nat} {b:B} {K:H→R} {z:List (AV×H)} (hh:xm h id b K=some z) (hi:id<32768):(lowH h id).lo≤id∧∃ h',Put (lowH h id) id b h'∧K h'=some z:=by
 obtain⟨nxt,lo,ac,t⟩:=h
 have hh':jF (lowH ⟨nxt,lo,ac,t⟩ id) id b K=some z:=hh
 exact⟨(lowH_le _ _).2,jl hh' hi⟩
theorem fr_low (e:Env) (h:H) (id:Nat):Fr e h e (lowH h id):=
 ⟨.refl e,Nat.le_refl _,(lowH_le h id).1,rfl,fun _ k=>.inl k,fun _ _ _=>rfl,fun _ _ _ _=>rfl,fun _ _=>.refl _⟩
theorem newB_law {h:H} {b:B} {K:Nat→H→R} {z:List (AV×H)} (hh:newB h b K=some z):∃ h',New h b h'∧K h.nxt h'=some z:=by
 obtain⟨nxt,lo,ac,t⟩:=h
 have hh':(nat nxt fun n=>kI (Nat.blt n 32768) ((p5 n).s t b fun t=>K n (.mk (Nat.succ n) lo ac t)) none)=some z:=hh
 rw[nat_eq]at hh'
 cases hc:Nat.blt nxt 32768 with
 | false=>rw[hc]at hh'; cases hh'
 | true=>
  rw[hc]at hh'
  have hi:nxt<32768:=by simpa [Nat.blt_eq]using hc
  obtain⟨t',h1,h2⟩:=p5_set t b hi
  obtain⟨t2,k1,k2,k3⟩:=p5_law nxt t b
  have et:t2=t':=(k1 fun t=>t).symm.trans (h1 fun t=>t)
  have hh2:((p5 nxt).s t b fun t=>K nxt (.mk (Nat.succ nxt) lo ac t))=some z:=hh'
  rw[h1]at hh2
  refine⟨⟨nxt+1,lo,ac,t'⟩,⟨hi,rfl,rfl,rfl,fun j hj=>h2 j hj,fun hx j hj=>?_⟩,hh2⟩
  subst et
  exact k3 j fun hd=>hj ((p5_dig t hd).trans hx)
theorem shut_eq {Z:Type} (h:H) (a:Nat×Nat) (K:Nat→Nat→H→Z):shut h a K=K h.nxt h.lo (.mk h.nxt h.nxt a h.t):=by
 obtain⟨nxt,lo,ac,t⟩:=h
 show(nat nxt fun n=>K n lo (.mk n n a t))=_
 rw[nat_eq]
theorem setLo_eq {Z:Type} (h:H) (f:Nat→Nat) (a:Nat×Nat) (K:H→Z):setLo h f a K=K (.mk h.nxt (f h.lo) a h.t):=by
 obtain⟨nxt,lo,ac,t⟩:=h
 show(nat (f lo) fun lo=>K (.mk nxt lo a t))=_
 rw[nat_eq]
theorem okW_law {h:H} {id:Nat} (hh:okW h id=true):h.lo≤id∨h.act id:=by
 unfold okW at hh
 simp only[Bool.or_eq_true]at hh
 rcases hh with (k | k) | k
 ·exact .inl (Nat.le_of_ble_eq_true k)
 ·exact .inr (.inl (Nat.eq_of_beq_eq_true k))
 ·exact .inr (.inr (Nat.eq_of_beq_eq_true k))
def hidK (b:B):Prop:=match b with
 | .o .h=>True
 | .o (.g ..)=>True
 | _=>False
theorem BOk.step {e e':Env} {h h':H} {w w':World} {id:Nat} {b:B} (hid:e.dom id) (x:Ext e e') (hb:w'.heap[e.blk id]? = w.heap[e.blk id]?)
  (hm:∀ m,refM b=some m→e.dom m→hidK (hget h m)→hget h' m=hget h m∧w'.heap[e.blk m]? = w.heap[e.blk m]?) (k:BOk e h w id b):BOk e' h' w' id b:=by
 have eb:=x.blk id hid
 have ec:=x.cap id hid
 cases b with
 | x=>trivial
 | c E n t=>
  obtain⟨cs,h1,h2,h3⟩:=k
  exact⟨cs,by rw[eb,hb]; exact h1,h2,h3.ext x⟩
 | r E n t=>
  obtain⟨cs,z,h1,h2,h3,h4,h5⟩:=k
  exact⟨cs,z,by rw[eb,hb]; exact h1,h2.ext x,h3,by rw[ec]; exact h4,by rw[ec]; exact h5⟩
 | o b=>
  cases b with
  | m l=>
   obtain⟨es,c,h1,h2⟩:=k
   exact⟨es,c,by rw[eb,hb]; exact h1,h2.ext x⟩
  | h=>trivial
  | g key gone L=>
   obtain⟨l,es,c,h1,h2,h3,⟨h4,es0,h5⟩,h6⟩:=k
   exact⟨l,es,c,by rw[eb,hb]; exact h1,h2.ext x,h3,⟨h4,es0,h5.mono fun _ _=>DnE.ext x⟩,h6⟩
  | f fn fs cs=>
   obtain⟨us,vs,h1,h2,h3⟩:=k
   exact⟨us,vs,by rw[x.clo id hid]; exact h1,h2.mono fun _ _=>Dn.ext x,h3.mono fun _ _=>Dn.ext x⟩
  | l ps a b t=>
   obtain⟨r,h1,h2,h3,h4,h5,h6⟩:=k
   exact⟨r,by rw[eb,hb]; exact h1,h2,h3,h4,h5.ext x,by rw[x.gh id hid]; exact h6⟩
  | d ex=>
   obtain⟨r,h1⟩:=k
   exact⟨r,by rw[eb,hb]; exact h1⟩
  | i m l=>
   obtain⟨h1,h2,es,c,⟨h3,h4,h5⟩,h6⟩:=k
   obtain⟨k1,k2⟩:=hm m rfl h1 (by rw[h2]; trivial)
   exact⟨x.dom _ h1,k1.trans h2,es,c,⟨by rw[x.blk _ h1,k2]; exact h3,by rw[eb,x.blk _ h1,hb]; exact h4,h5⟩,h6.ext x⟩
  | b m l rem=>exact k.elim
  | c m key v l rem=>
   obtain⟨h1,h2,es,c,since,seen,en,⟨h3,h4,h5⟩,h6,h7,h8,h9,h10⟩:=k
   obtain⟨k1,k2⟩:=hm m rfl h1 (by rw[h2]; trivial)
   exact⟨x.dom _ h1,k1.trans h2,es,c,since,seen,en,⟨by rw[x.blk _ h1,k2]; exact h3,by rw[eb,x.blk _ h1,hb]; exact h4,h5⟩,h6.ext x,h7,h8,h9,h10.ext x⟩
  | j m l z=>
   obtain⟨h1,h2,es,c,since,seen,⟨h3,h4,h5⟩,h6,h7⟩:=k
   obtain⟨k1,k2⟩:=hm m rfl h1 (by rw[h2]; trivial)
   exact⟨x.dom _ h1,k1.trans h2,es,c,since,seen,⟨by rw[x.blk _ h1,k2]; exact h3,by rw[eb,x.blk _ h1,hb]; exact h4,h5⟩,h6.ext x,by rw[x.gh id hid]; exact h7⟩
  | k m key v l keep z cur=>
   obtain⟨h1,gone,L,h2,es,c,since,seen,j,en,g1,g2,⟨h3,h4,h5⟩,h6,h7⟩:=k
   obtain⟨k1,k2⟩:=hm m rfl h1 (by rw[h2]; trivial)
   exact⟨x.dom _ h1,gone,L,k1.trans h2,es,c,since,seen,j,en,g1,g2,⟨by rw[x.blk _ h1,k2]; exact h3,by rw[eb,x.blk _ h1,hb]; exact h4,h5⟩,h6.ext x,by rw[x.gh id hid]; exact h7⟩
  | q m key v=>exact k.elim
  | z=>trivial
  | t=>
   have k':e.gh id=0→w.heap[e.blk id]? = some (.deferred (some [])):=k
   show e'.gh id=0→w'.heap[e'.blk id]? = some (.deferred (some []))
   rw[eb,hb,x.gh id hid]; exact k'
  | v bz ps a b t=>
   obtain⟨r,h1,h2,h3,h4,h5,h6⟩:=k
   exact⟨r,by rw[eb,hb]; exact h1,h2,h3,h4,h5.ext x,by rw[x.gh id hid]; exact h6⟩
theorem hid_inB {b:B} (h:hidK b):inB b:=by
 cases b with
 | o b=>cases b<;>first | trivial | exact h.elim
 | _=>exact h.elim
section
variable {w0:World} {e:Env} {h h':H} {w w':World} {id:Nat} {b:B}
theorem below_grown {w0 w w':World} {b:Nat} (hb:Below w0.heap.size w0 w) (hg:w.grownBy w' (some b)) (hl:w0.heap.size≤b):Below w0.heap.size w0 w':=
 hb.grown hg hb.size fun k hk=>by cases hk; exact hl
theorem zG.refs (R:zG w0 e h w) {j m:Nat} (hj:e.dom j) (hr:refM (hget h j)=some m):e.dom m∧hidK (hget h m):=by
 have ok:=R.ok j hj
 cases hb:hget h j with
 | x=>rw[hb]at hr; cases hr
 | c=>rw[hb]at hr; cases hr
 | r=>rw[hb]at hr; cases hr
 | o q=>
  rw[hb]at hr ok
  cases q with
  | i m' l=>cases hr; obtain⟨h1,h2,_⟩:=ok; exact⟨h1,by rw[h2]; trivial⟩
  | b m' l rem=>exact ok.elim
  | c m' k v l rem=>cases hr; obtain⟨h1,h2,_⟩:=ok; exact⟨h1,by rw[h2]; trivial⟩
  | j m' l z=>cases hr; obtain⟨h1,h2,_⟩:=ok; exact⟨h1,by rw[h2]; trivial⟩
  | k m' key v l keep z cur=>cases hr; obtain⟨h1,gone,L,h2,_⟩:=ok; exact⟨h1,by rw[h2]; trivial⟩
  | _=>cases hr
theorem zG.putR (R:zG w0 e h w) (P:Put h id b h') (hid:e.dom id) (hin:inB (hget h id)) (hit:∀ j,e.dom j→j≠id→refM (hget h j)=some id→BOk e h' w' j (hget h j)) (hg:w.grownBy w' (some (e.blk id))) (hb:BOk e h' w' id b)
  (hu:∀ m,refM b=some m→∀ j,e.dom j→j≠id→refM (hget h j)≠some m):zG w0 e h' w':=by
 have lt:=R.lt id hid
 have hlow:=R.low id hid hin
 refine⟨below_grown R.below hg hlow.1,by rw[P.nxt]; exact R.top,fun j hj=>by rw[P.nxt]; exact R.lt j hj,fun j hj=>?_,fun j hj hi=>?_,fun i j hi hj h1 h2 he=>?_,fun j hj hn=>?_,fun i j m hi hj h1 h2=>?_⟩
 ·have hj':j<32768:=Nat.lt_of_lt_of_le (R.lt j hj) R.top
  rw[P.get j hj']
  by_cases c:j=id
  ·rw[if_pos c]; subst c; exact hb
  ·rw[if_neg c]
   by_cases hbj:inB (hget h j)
   ·by_cases cr:refM (hget h j)=some id
    ·exact hit j hj c cr
    ·have hne:e.blk j≠e.blk id:=fun he=>c (R.inj j id hj hid hbj hin he)
     refine BOk.step hj (.refl e) (hg.block _ (R.low j hj hbj).2 fun k=>hne (Option.some.inj k)) (fun m hr hm hk=>?_) (R.ok j hj)
     have hmid:m≠id:=fun k=>cr (by rw[←k]; exact hr)
     have hmi:=hid_inB hk
     exact⟨by rw[P.get m (Nat.lt_of_lt_of_le (R.lt m hm) R.top),if_neg hmid],hg.block _ (R.low m hm hmi).2 fun k=>hmid (R.inj m id hm hid hmi hin (Option.some.inj k))⟩
   ·have:=R.ok j hj
    cases hbj':hget h j with
    | x=>trivial
    | c=>rw[hbj']at hbj; exact absurd trivial hbj
    | r=>rw[hbj']at hbj; exact absurd trivial hbj
    | o q=>
     cases q<;>first | (rw[hbj']at hbj; exact absurd trivial hbj) | (rw[hbj']at this; exact this)
 ·have hj':j<32768:=Nat.lt_of_lt_of_le (R.lt j hj) R.top
  rw[P.get j hj']at hi
  by_cases c:j=id
  ·subst c; exact⟨hlow.1,Nat.lt_of_lt_of_le hlow.2 hg.size⟩
  ·rw[if_neg c]at hi
   have:=R.low j hj hi
   exact⟨this.1,Nat.lt_of_lt_of_le this.2 hg.size⟩
 ·rw[P.get i (Nat.lt_of_lt_of_le (R.lt i hi) R.top)]at h1
  rw[P.get j (Nat.lt_of_lt_of_le (R.lt j hj) R.top)]at h2
  refine R.inj i j hi hj ?_ ?_ he
  ·by_cases c:i=id
   ·subst c; exact hin
   ·rwa[if_neg c]at h1
  ·by_cases c:j=id
   ·subst c; exact hin
   ·rwa[if_neg c]at h2
 ·rw[P.get j hj]
  have hne:j≠id:=fun k=>by rw[P.nxt]at hn; omega
  rw[if_neg hne]
  exact R.none j hj (by rw[P.nxt]at hn; exact hn)
 ·rw[P.get i (Nat.lt_of_lt_of_le (R.lt i hi) R.top)]at h1
  rw[P.get j (Nat.lt_of_lt_of_le (R.lt j hj) R.top)]at h2
  by_cases c:i=id
  ·by_cases c2:j=id
   ·rw[c,c2]
   ·rw[if_pos c]at h1; rw[if_neg c2]at h2
    exact absurd h2 (hu m h1 j hj c2)
  ·rw[if_neg c]at h1
   by_cases c2:j=id
   ·rw[if_pos c2]at h2
    exact absurd h1 (hu m h2 i hi c)
   ·rw[if_neg c2]at h2
    exact R.uniq i j m hi hj h1 h2
theorem zG.put (R:zG w0 e h w) (P:Put h id b h') (hid:e.dom id) (hin:inB (hget h id)) (hh:¬ hidK (hget h id)) (hg:w.grownBy w' (some (e.blk id))) (hb:BOk e h' w' id b)
  (hu:∀ m,refM b=some m→refM (hget h id)=some m:=by(intro _ k; cases k)):zG w0 e h' w':=
 R.putR P hid hin (fun j hj _ hr=>absurd (R.refs hj hr).2 hh) hg hb fun m hm j hj hne hr=>hne (R.uniq j id m hj hid hr (hu m hm))
theorem zG.low' (R:zG w0 e h w) (id:Nat):zG w0 e (lowH h id) w:=by
 refine⟨R.below,R.top,R.lt,fun j hj=>?_,R.low,R.inj,R.none,R.uniq⟩
 exact BOk.step (h:=h) (w:=w) hj (.refl e) rfl (fun m _ _ _=>⟨rfl,rfl⟩) (R.ok j hj)
theorem zG.frPut (R:zG w0 e h w) (P:Put h id b h') (hid:e.dom id) (hlo:h.lo≤id∨h.act id) (ht:kD (hget h id) b):Fr e h e h':=by
 have lt:=R.lt id hid
 have top:=R.top
 refine⟨.refl e,by rw[P.nxt]; exact Nat.le_refl _,Nat.le_of_eq P.lo,P.ac,fun j hj=>.inl hj,fun j hj hd=>?_,fun j hn hj hr=>?_,fun j hn=>?_⟩
 ·rw[P.get j (by omega),if_neg (fun(c:j=id)=>hd (by rw[c]; exact hid))]
 ·rw[P.get j (by omega),if_neg (fun c=>by
   subst c
   have pl:=P.lo
   rcases hlo with k | k
   ·omega
   ·exact hr k)]
 ·rw[P.get j (by omega)]
  by_cases c:j=id
  ·subst c; rw[if_pos rfl]; exact ht
  ·rw[if_neg c]; exact .refl _
theorem zG.world (R:zG w0 e h w) (hw:Below w.heap.size w w'):zG w0 e h w':=by
 refine⟨R.below.trans (hw.mono R.below.size),R.top,R.lt,fun j hj=>?_,fun j hj hi=>⟨(R.low j hj hi).1,Nat.lt_of_lt_of_le (R.low j hj hi).2 hw.size⟩,R.inj,R.none,R.uniq⟩
 by_cases hbj:inB (hget h j)
 ·exact BOk.step hj (.refl e) (hw.block _ (R.low j hj hbj).2) (fun m _ hm hk=>⟨rfl,hw.block _ (R.low m hm (hid_inB hk)).2⟩) (R.ok j hj)
 ·have:=R.ok j hj
  cases hbj':hget h j with
  | x=>trivial
  | c=>rw[hbj']at hbj; exact absurd trivial hbj
  | r=>rw[hbj']at hbj; exact absurd trivial hbj
  | o q=>
   cases q<;>first | (rw[hbj']at hbj; exact absurd trivial hbj) | (rw[hbj']at this; exact this)
theorem zG.push (R:zG w0 e h w) (N:New h b h'):zG w0 e h' w:=by
 have g:∀ j,e.dom j→hget h' j=hget h j:=fun j hj=>by
  have:=R.lt j hj
  have:=N.lt
  rw[N.get j (by omega),if_neg (by omega)]
 have lt:=N.lt
 refine⟨R.below,by rw[N.nxt]; omega,fun j hj=>by rw[N.nxt]; have:=R.lt j hj; omega,fun j hj=>?_,fun j hj hi=>R.low j hj (by rw[g j hj]at hi; exact hi),fun i j hi hj h1 h2 he=>R.inj i j hi hj (by rw[g i hi]at h1; exact h1) (by rw[g j hj]at h2; exact h2) he,fun j hj hn=>?_,fun i j m hi hj h1 h2=>R.uniq i j m hi hj (by rw[g i hi]at h1; exact h1) (by rw[g j hj]at h2; exact h2)⟩
 ·rw[g j hj]
  exact BOk.step hj (.refl e) rfl (fun m _ hm hk=>⟨g m hm,rfl⟩) (R.ok j hj)
 ·rw[N.nxt]at hn
  rw[N.get j hj,if_neg (by omega)]
  exact R.none j hj (by omega)
theorem zG.frNew (R:zG w0 e h w) (N:New h b h'):Fr e h e h':=by
 have lt:=N.lt
 refine⟨.refl e,by rw[N.nxt]; omega,Nat.le_of_eq N.lo,N.ac,fun j hj=>.inl hj,fun j hj _=>?_,fun j hn _ _=>?_,fun j hn=>?_⟩
 ·rw[N.get j (by omega),if_neg (by omega)]
 ·rw[N.get j (by omega),if_neg (by omega)]
 ·rw[N.get j (by omega),if_neg (by omega)]; exact .refl _
def Env.add (e:Env) (id b c:Nat) (f:Value):Env:={ dom:=fun j=>j=id∨e.dom j,blk:=fun j=>if j=id then b else e.blk j,cap:=fun j=>if j=id then c else e.cap j,clo:=fun j=>if j=id then f else e.clo j,gh:=fun j=>if j=id then c else e.gh j }
theorem xA {bk c:Nat} {f:Value} (hid:¬ e.dom id):Ext e (e.add id bk c f):=by
 refine⟨fun j hj=>.inr hj,fun j hj=>?_,fun j hj=>?_,fun j hj=>?_,fun j hj=>?_⟩<;>exact if_neg (fun(k:j=id)=>hid (by rw[←k]; exact hj))
theorem qJ {bk c:Nat} {f:Value} : (e.add id bk c f).blk id=bk:=if_pos rfl
theorem jv {bk c:Nat} {f:Value} : (e.add id bk c f).cap id=c:=if_pos rfl
theorem add_clo {bk c:Nat} {f:Value} : (e.add id bk c f).clo id=f:=if_pos rfl
theorem zG.add (R:zG w0 e h w) (hid:¬ e.dom id) (hlt:id<h.nxt) (hw:Below w.heap.size w w') {bk c:Nat} {f:Value} (hb:inB (hget h id)→w0.heap.size≤bk∧bk<w'.heap.size∧∀ j,e.dom j→inB (hget h j)→e.blk j≠bk)
  (hok:BOk (e.add id bk c f) h w' id (hget h id)) (hu:∀ m,refM (hget h id)=some m→∀ j,e.dom j→refM (hget h j)≠some m):zG w0 (e.add id bk c f) h w':=by
 have R':=R.world hw
 have x:=xA (e:=e) (bk:=bk) (c:=c) (f:=f) hid
 have hs:=R.below.size
 refine⟨R'.below,R.top,fun j hj=>?_,fun j hj=>?_,fun j hj hi=>?_,fun i j hi hj h1 h2 he=>?_,R.none,fun i j m hi hj h1 h2=>?_⟩
 ·rcases hj with rfl | hj
  ·exact hlt
  ·exact R.lt j hj
 ·by_cases c1:j=id
  ·subst c1; exact hok
  ·have hj':e.dom j:=hj.resolve_left c1
   exact BOk.step hj' x rfl (fun m _ hm hk=>⟨rfl,rfl⟩) (R'.ok j hj')
 ·by_cases c1:j=id
  ·subst c1; rw[qJ]; have:=hb hi; exact⟨this.1,this.2.1⟩
  ·have hj':e.dom j:=hj.resolve_left c1
   rw[x.blk j hj']; exact R'.low j hj' hi
 ·by_cases c1:i=id
  ·by_cases c2:j=id
   ·rw[c1,c2]
   ·have hj':e.dom j:=hj.resolve_left c2
    subst c1
    rw[qJ,x.blk j hj']at he
    exact absurd he.symm ((hb h1).2.2 j hj' h2)
  ·have hi':e.dom i:=hi.resolve_left c1
   by_cases c2:j=id
   ·subst c2
    rw[qJ,x.blk i hi']at he
    exact absurd he ((hb h2).2.2 i hi' h1)
   ·have hj':e.dom j:=hj.resolve_left c2
    rw[x.blk i hi',x.blk j hj']at he
    exact R.inj i j hi' hj' h1 h2 he
 ·by_cases c1:i=id
  ·by_cases c2:j=id
   ·rw[c1,c2]
   ·rw[c1]at h1
    exact absurd h2 (hu m h1 j (hj.resolve_left c2))
  ·by_cases c2:j=id
   ·rw[c2]at h2
    exact absurd h1 (hu m h2 i (hi.resolve_left c1))
   ·exact R.uniq i j m (hi.resolve_left c1) (hj.resolve_left c2) h1 h2
theorem Fr.add {e0:Env} {h0:H} (F:Fr e0 h0 e h) (hid:¬ e.dom id) {bk c:Nat} {f:Value} (hn:h0.nxt≤id):Fr e0 h0 (e.add id bk c f) h:=
 ⟨F.ext.trans (xA hid),F.nxt,F.lo,F.ac,fun j hj=>by
  rcases hj with rfl | hj
  ·exact .inr hn
  ·exact F.new j hj,F.out,F.prot,F.kp⟩
theorem zG.zY (R:zG w0 e h w) (hd:e.dom id):id<32768:=Nat.lt_of_lt_of_le (R.lt id hd) R.top
end
section
variable {w0:World} {e:Env} {h:H} {w:World} {id:Nat}
theorem zG.cells (R:zG w0 e h w) (hd:e.dom id) {E n:Nat} {t:TV} (hb:hget h id=.c E n t∨hget h id=.r E n t):∃ cs,w.heap[e.blk id]? = some (LC cs E)∧TOk e n t cs:=by
 have:=R.ok id hd
 rcases hb with k | k<;>rw[k]at this
 ·obtain⟨cs,h1,_,h3⟩:=this; exact⟨cs,h1,h3⟩
 ·obtain⟨cs,_,h1,h3,_⟩:=this; exact⟨cs,h1,h3⟩
theorem cell_at {w:World} {e:Env} {cs:List Value} {E:TypeId} (hb:w.heap[e.blk id]? = some (LC cs E)) {off:Nat} {v:Value} (hv:cs[off]? = some v):w.cell? (adr e id off)=some v:=(kH hb).trans hv
theorem kN (e:Env) (id off j:Nat):(adr e id off).add j=adr e id (off+j):=Addr.add_lit _ _ _
theorem zG.row (R:zG w0 e h w) (hd:e.dom id) {E n:Nat} {t:TV} (hb:hget h id=.c E n t∨hget h id=.r E n t) {off:Nat} {l:List Sc} (hl:∀ j s,l[j]? = some s→t.get (off+j)=.x s) (hn:off+l.length≤n) :
  ∃ us,us.length=l.length∧zN (DnC e) l us∧∀ j u,us[j]? = some u→w.cell? ((adr e id off).add j)=some u:=by
 obtain⟨cs,h1,h2⟩:=R.cells hd hb
 have h3:=h2.read hl hn
 refine⟨_,h3.length.symm,h3,fun j u hj=>?_⟩
 rw[kN]
 refine cell_at h1 ?_
 rw[List.getElem?_take]at hj
 split at hj
 ·rwa[List.getElem?_drop]at hj
 ·cases hj
end
end Go.Ev
end
section
set_option linter.unusedVariables false
set_option linter.unusedSimpArgs false
set_option linter.constructorNameAsVariable false
namespace Go.Ev
open Go.Lw Go.RowKit
theorem kNo_inj {k k':IntKind} (h:Nat.beq (kNo k) (kNo k')=true):k'=k:=by
 cases k<;>cases k'<;>first | rfl | cases h
theorem two_law {Z:Type} {z:Z} {x y:AV} {K:IntKind→Int→Int→Option Z} (h:two x y K=some z):∃ k a b,x=.i k a∧y=.i k b∧K k a b=some z:=by
 obtain⟨k,a,rfl,hNew⟩:=ja h; clear h; have h:=hNew; clear hNew
 obtain⟨k',b,rfl,hNew⟩:=ja h; clear h; have h:=hNew; clear hNew
 obtain⟨h1,h2⟩:=zw h
 obtain rfl:=kNo_inj h1
 exact⟨_,a,b,rfl,rfl,h2⟩
theorem frcI_law {k:IntKind} {n:Int} {x:AV} (h:frcI k n=some x):x=.i k n:=by
 cases n with
 | ofNat m=>
  have h':(nat m fun m=>some (AV.i k (.ofNat m)))=some x:=h
  rw[nat_eq]at h'; cases h'; rfl
 | negSucc m=>
  have h':(nat m fun m=>some (AV.i k (.negSucc m)))=some x:=h
  rw[nat_eq]at h'; cases h'; rfl
theorem wrap_pos {k:IntKind} {m:Nat} (h:m<lim k):k.wrap (m:Int)=m:=by
 cases k
 ·exact IntWalk.i8_in _ (by have:m<128:=h; omega)
 ·exact IntWalk.i16_in _ (by have:m<32768:=h; omega)
 ·exact IntWalk.i32_in _ (by have:m<2147483648:=h; omega)
 ·exact IntWalk.i64_in _ (by have:m<9223372036854775808:=h; omega)
 ·exact IntWalk.u8_in _ (by have:m<256:=h; omega)
 ·exact IntWalk.u16_in _ (by have:m<65536:=h; omega)
 ·exact IntWalk.u32_in _ (by have:m<4294967296:=h; omega)
 ·exact IntWalk.u64_in _ (by have:m<18446744073709551616:=h; omega)
theorem wrap_neg {k:IntKind} {m:Nat} (hs:sgn k=true) (h:m<lim k):k.wrap (Int.negSucc m)=Int.negSucc m:=by
 cases k
 ·exact IntWalk.i8_in _ (by have:m<128:=h; omega)
 ·exact IntWalk.i16_in _ (by have:m<32768:=h; omega)
 ·exact IntWalk.i32_in _ (by have:m<2147483648:=h; omega)
 ·exact IntWalk.i64_in _ (by have:m<9223372036854775808:=h; omega)
 all_goals cases hs
theorem jI {m n:Nat} (h:Nat.blt m n=true):m<n:=by simpa [Nat.blt_eq]using h
theorem mkI_law {k:IntKind} {n:Int} {x:AV} (h:mkI k n=some x):x=.i k (k.wrap n):=by
 cases n with
 | ofNat m=>
  have h':(nat m fun m=>kI (Nat.blt m (lim k)) (some (AV.i k (.ofNat m))) (frcI k (k.wrap (.ofNat m))))=some x:=h
  rw[nat_eq]at h'
  cases hc:Nat.blt m (lim k)with
  | true=>
   rw[hc]at h'; cases h'
   show AV.i k _=AV.i k _
   rw[show(Int.ofNat m)=(m:Int)from rfl,wrap_pos (jI hc)]
  | false=>rw[hc]at h'; exact frcI_law h'
 | negSucc m=>
  have h':(nat m fun m=>kI (sgn k && Nat.blt m (lim k)) (some (AV.i k (.negSucc m))) (frcI k (k.wrap (.negSucc m))))=some x:=h
  rw[nat_eq]at h'
  cases hc:(sgn k && Nat.blt m (lim k))with
  | true=>
   rw[hc]at h'; cases h'
   simp only[Bool.and_eq_true]at hc
   show AV.i k _=AV.i k _
   rw[wrap_neg hc.1 (jI hc.2)]
  | false=>rw[hc]at h'; exact frcI_law h'
theorem xu (x y:Int):xc x y=decide (x≤y):=by
 cases x with
 | ofNat a=>
  cases y with
  | ofNat b=>
   show Nat.ble a b=_
   rw[Bool.eq_iff_iff,Nat.ble_eq,decide_eq_true_iff]
   exact Int.ofNat_le.symm
  | negSucc b=>show false=_; rw[eq_comm,decide_eq_false_iff_not]; show ¬ ((a:Int)≤_); omega
 | negSucc a=>
  cases y with
  | ofNat b=>show true=_; rw[eq_comm,decide_eq_true_iff]; show _≤(b:Int); omega
  | negSucc b=>
   show Nat.ble b a=_
   rw[Bool.eq_iff_iff,Nat.ble_eq,decide_eq_true_iff]; omega
theorem qc (a b:Nat):Nat.beq a b=decide (a=b):=by
 rw[Bool.eq_iff_iff,decide_eq_true_iff]; exact⟨Nat.eq_of_beq_eq_true,fun h=>by rw[h]; exact Nat.beq_refl b⟩
theorem ieqB_eq (x y:Int):ieqB x y=decide (x=y):=by
 cases x with
 | ofNat a=>
  cases y with
  | ofNat b=>show Nat.beq a b=_; rw[qc,decide_eq_decide]; exact Int.ofNat_inj.symm
  | negSucc b=>show false=_; rw[eq_comm,decide_eq_false_iff_not]; show ¬ ((a:Int)=_); omega
 | negSucc a=>
  cases y with
  | ofNat b=>show false=_; rw[eq_comm,decide_eq_false_iff_not]; show ¬ (_=(b:Int)); omega
  | negSucc b=>show Nat.beq a b=_; rw[qc,decide_eq_decide]; omega
theorem bl_law {b:Bool} {x:AV} (h:bl b=some x):x=.b b:=by cases b<;>cases h<;>rfl
theorem blN_law {b:Bool} {x:AV} (h:blN b=some x):x=.b (!b):=by cases b<;>cases h<;>rfl
theorem beqZ (a b:Int):(a == b)=decide (a=b):=rfl
/-! ### Equality -/
theorem eqI_law {z:Bool} {e:Env} {x y:Sc} {u v:Value} {K:Bool→Option Bool} (h:eqI x y K=some z) (hx:DnS e x u) (hy:DnS e y v):∃ k a b,u=.int k a∧v=.int k b∧K (decide (a=b))=some z:=by
 cases x with
 | i k a=>
  cases y with
  | i k' b=>
   obtain⟨h1,h2⟩:=zw (x:=K (ieqB a b)) h
   obtain rfl:=kNo_inj h1
   rw[ieqB_eq]at h2
   exact⟨_,a,b,hx,hy,h2⟩
  | _=>cases h
 | _=>cases h
theorem xx_law {z:Bool} {x y:AV} {K:Sc→Sc→Option Bool} (h:xx x y K=some z):∃ s t,x=.x s∧y=.x t∧K s t=some z:=by
 cases x with
 | x s=>cases y with
  | x t=>exact⟨s,t,rfl,rfl,h⟩
  | _=>cases h
 | _=>cases h
def jL:List Value→List Value→Option Bool
 | .int k a::l,.int k' b::m=>if k=k' then (if a=b then jL l m else some false)else none
 | [],[]=>some true
 | _,_=>none
theorem eqL_law {e:Env} : ∀ {n:Nat} {l m:List Sc} {us vs:List Value} {b:Bool},eqL n l m=some b→zN (DnC e) l us→zN (DnC e) m vs→jL us vs=some b
 | 0,[],[],us,vs,b,h,hl,hm=>by
  cases us with
  | nil=>cases vs with
   | nil=>exact h
   | cons=>exact hm.elim
  | cons=>exact hl.elim
 | 0,[],_::_,_,_,_,h,_,_=>by cases h
 | 0,_::_,_,_,_,_,h,_,_=>by cases h
 | n+1,[],_,_,_,_,h,_,_=>by cases h
 | n+1,_::_,[],_,_,_,h,_,_=>by cases h
 | n+1,x::l,y::m,us,vs,b,h,hl,hm=>by
  cases us with
  | nil=>exact hl.elim
  | cons u us=>
   cases vs with
   | nil=>exact hm.elim
   | cons v vs=>
    obtain⟨k,a,c,rfl,rfl,h2⟩:=eqI_law (K:=fun b=>kI b (eqL n l m) (some false)) h hl.1.1 hm.1.1
    simp only[jL,if_true]
    by_cases hab:a=c
    ·rw[if_pos hab]
     rw[decide_eq_true hab]at h2
     exact eqL_law h2 hl.2 hm.2
    ·rw[if_neg hab]
     rw[decide_eq_false hab]at h2
     exact h2
end Go.Ev
end
section
set_option linter.unusedVariables false
set_option linter.unusedSimpArgs false
set_option linter.constructorNameAsVariable false
namespace Go.Ev
open Go.Lw Go.RowKit
def cmp:List Nat→List Value→List Value→Option Bool
 | [],_,_=>some true
 | i::L,xs,ys=>match xs[i]?,ys[i]? with
  | some (.int k a),some (.int k' b)=>if k=k' then (if a=b then cmp L xs ys else some false)else none
  | _,_=>none
theorem cmp_cons {i:Nat} {L:List Nat} {xs ys:List Value} {r:Bool} (h:cmp (i::L) xs ys=some r):∃ k a b,xs[i]? = some (.int k a)∧ys[i]? = some (.int k b)∧((a=b∧cmp L xs ys=some r)∨(a≠b∧r=false)):=by
 simp only[cmp]at h
 split at h
 ·rename_i k a k' b h1 h2
  by_cases hk:k=k'
  ·subst hk
   rw[if_pos rfl]at h
   by_cases hab:a=b
   ·rw[if_pos hab]at h; exact⟨k,a,b,h1,h2,.inl ⟨hab,h⟩⟩
   ·rw[if_neg hab]at h; cases h; exact⟨k,a,b,h1,h2,.inr ⟨hab,rfl⟩⟩
  ·rw[if_neg hk]at h; cases h
 ·cases h
theorem cmp_app:∀ {A B:List Nat} {xs ys:List Value} {r:Bool},cmp (A++B) xs ys=some r→(cmp A xs ys=some false∧r=false)∨(cmp A xs ys=some true∧cmp B xs ys=some r)
 | [],B,xs,ys,r,h=>.inr ⟨rfl,h⟩
 | i::A,B,xs,ys,r,h=>by
  obtain⟨k,a,b,h1,h2,h3⟩:=cmp_cons (L:=A++B) h
  simp only[cmp,h1,h2,if_true]
  rcases h3 with ⟨hab,h⟩ | ⟨hab,rfl⟩
  ·simp only[if_pos hab]; exact cmp_app h
  ·exact .inl ⟨by simp[hab],rfl⟩
theorem cmp_shift {off:Nat} {xs ys xs' ys':List Value} : ∀ {L:List Nat},(∀ i∈L,xs'[i]? = xs[off+i]?)→(∀ i∈L,ys'[i]? = ys[off+i]?)→cmp L xs' ys'=cmp (L.map (off + ·)) xs ys
 | [],_,_=>rfl
 | i::L,hx,hy=>by
  simp only[List.map_cons,cmp,hx i (by simp),hy i (by simp)]
  rw[cmp_shift (L:=L) (fun j hj=>hx j (by simp[hj])) (fun j hj=>hy j (by simp[hj]))]
theorem cmp_same:∀ {us vs:List Value} {b:Bool} {pre pre':List Value},pre.length=pre'.length→jL us vs=some b→cmp (List.range' pre.length us.length) (pre++us) (pre'++vs)=some b
 | [],[],b,pre,pre',_,h=>by simpa [cmp,jL]using h
 | [],_::_,_,_,_,_,h=>by simp[jL]at h
 | u::us,[],_,_,_,_,h=>by cases u<;>simp[jL]at h
 | u::us,v::vs,b,pre,pre',hl,h=>by
  have e1:(pre++u::us)[pre.length]? = some u:=by rw[List.getElem?_append_right (Nat.le_refl _)]; simp
  have e2:(pre'++v::vs)[pre.length]? = some v:=by rw[hl,List.getElem?_append_right (Nat.le_refl _)]; simp
  rw[List.length_cons,List.range'_succ]
  simp only[cmp,e1,e2]
  cases u with
  | int k p=>
   cases v with
   | int k' q=>
    simp only[jL]at h⊢
    by_cases hk:k=k'
    ·rw[if_pos hk]at h⊢
     by_cases hp:p=q
     ·rw[if_pos hp]at h⊢
      have:=cmp_same (pre:=pre++[.int k p]) (pre':=pre'++[.int k' q]) (by simp[hl]) h
      simpa using this
     ·rw[if_neg hp]at h⊢; exact h
    ·rw[if_neg hk]at h; cases h
   | _=>simp[jL]at h
  | _=>cases v<;>simp[jL]at h
def Vt (ag:Bool) (xs:List Value) (u:Value):Prop:=match ag with
 | true=>u=.agg ⟨xs⟩
 | false=>xs[0]? = some u
theorem lvs_zero {t:TypeId} {L:List Nat} (h:lvs 0 t=some L):False:=by simp[lvs]at h
theorem lvs_int {D:Nat} {t:TypeId} {L:List Nat} {z:Nat} (h:lvs D t=some L) (ht:tkB Pr t=some (false,z)):(∃ k,Pr.underlying t=some (.int k))∧L=[0]:=by
 cases D with
 | zero=>exact(lvs_zero h).elim
 | succ D=>
  simp only[lvs]at h
  unfold tkB at ht
  split at h
  ·rename_i k hu; cases h; exact⟨⟨k,hu⟩,rfl⟩
  ·rename_i fs hu; rw[hu]at ht; cases hi:Pr.info? t<;>rw[hi]at ht<;>simp[aggB]at ht
  ·rename_i n E hu; rw[hu]at ht; cases hi:Pr.info? t<;>rw[hi]at ht<;>simp[aggB]at ht
  ·cases h
theorem chunk_get {xs:List Value} {off s i:Nat} (h:i<s):((xs.drop off).take s)[i]? = xs[off+i]?:=by
 rw[List.getElem?_take,if_pos h,List.getElem?_drop]
theorem run_part_agg {t:TypeId} {s off:Nat} {xs:List Value} {w:World} (ht:tkB Pr t=some (true,s)):(part t ⟨xs⟩ off).run Pr w=.ok (.agg ⟨(xs.drop off).take s⟩) w:=by
 have h1:=Go.Lw.run_isAgg ht w
 have h2:=Go.Lw.run_sizeOf ht w
 simp only[part,Sem.run_bind,h1,Result.andThen_ok,if_true,h2,Sem.run_pure]
 congr 2
 apply Array.ext'
 rw[Array.toList_extract]
 simp[List.extract]
theorem run_part_one {t:TypeId} {s off:Nat} {xs:List Value} {v:Value} {w:World} (ht:tkB Pr t=some (false,s)) (hv:xs[off]? = some v):(part t ⟨xs⟩ off).run Pr w=.ok v w:=by
 have h1:=Go.Lw.run_isAgg ht w
 simp[part,Sem.run_bind,h1,hv]
theorem part_law {D:Nat} {t:TypeId} {ag:Bool} {s off:Nat} {L:List Nat} {xs ys:List Value} {r:Bool} (h:lvs D t=some L) (ht:tkB Pr t=some (ag,s)) (hb:L.all (fun i=>Nat.blt i s)=true) (hc:cmp (L.map (off + ·)) xs ys=some r) :
  ∃ u v,(∀ w,(part t ⟨xs⟩ off).run Pr w=.ok u w)∧(∀ w,(part t ⟨ys⟩ off).run Pr w=.ok v w)∧Vt ag ((xs.drop off).take s) u∧Vt ag ((ys.drop off).take s) v∧cmp L ((xs.drop off).take s) ((ys.drop off).take s)=some r:=by
 have hb':∀ i∈L,i<s:=fun i hi=>jI (List.all_eq_true.1 hb i hi)
 have hc':cmp L ((xs.drop off).take s) ((ys.drop off).take s)=some r:=by
  rw[cmp_shift (off:=off) (xs:=xs) (ys:=ys) (fun i hi=>chunk_get (hb' i hi)) (fun i hi=>chunk_get (hb' i hi))]; exact hc
 cases ag with
 | true=>exact⟨_,_,fun w=>run_part_agg ht,fun w=>run_part_agg ht,rfl,rfl,hc'⟩
 | false=>
  obtain⟨_,rfl⟩:=lvs_int h ht
  have h0:=hb' 0 (by simp)
  obtain⟨k,a,b,e1,e2,_⟩:=cmp_cons (L:=[]) hc'
  have e1':=e1
  have e2':=e2
  rw[chunk_get h0,Nat.add_zero]at e1' e2'
  exact⟨_,_,fun w=>run_part_one ht e1',fun w=>run_part_one ht e2',e1,e2,hc'⟩
theorem lvs_agg {D:Nat} {t:TypeId} {L:List Nat} {z:Nat} (h:lvs D t=some L) (ht:tkB Pr t=some (true,z)) :
  ∃ D',D=D'+1∧((∃ fs,Pr.underlying t=some (.struct fs)∧Pr.stoodInHeld t=false∧lvF (lvs D') fs.toList=some L)∨
   (∃ n E ag s l,Pr.underlying t=some (.array n E)∧tkB Pr E=some (ag,s)∧lvs D' E=some l∧l.all (fun i=>Nat.blt i s)=true∧L=(List.range n).flatMap fun i=>l.map (i*s + ·))):=by
 cases D with
 | zero=>exact(lvs_zero h).elim
 | succ D=>
  refine⟨D,rfl,?_⟩
  simp only[lvs]at h
  split at h
  ·rename_i k hu
   unfold tkB at ht
   rw[hu]at ht; cases hi:Pr.info? t<;>rw[hi]at ht<;>simp[aggB]at ht
  ·rename_i fs hu
   cases hs:Pr.stoodInHeld t with
   | true=>rw[hs]at h; exact absurd (show(none:Option (List Nat))=some L from h) (by simp)
   | false=>rw[hs]at h; exact .inl ⟨fs,hu,rfl,h⟩
  ·rename_i n E hu
   split at h
   ·rename_i q l h1 h2
    obtain⟨h3,h4⟩:=zw h
    cases h4
    exact .inr ⟨n,E,q.1,q.2,l,hu,h1,h2,h3,rfl⟩
   ·cases h
  ·cases h
theorem lvF_cons {g:TypeId→Option (List Nat)} {f:Field} {fs:List Field} {L:List Nat} (h:lvF g (f::fs)=some L):∃ ag s l r,tkB Pr f.type=some (ag,s)∧g f.type=some l∧lvF g fs=some r∧f.name≠"_"∧l.all (fun i=>Nat.blt i s)=true∧L=l.map (f.offset + ·)++r:=by
 simp only[lvF]at h
 split at h
 ·rename_i q l r h1 h2 h3
  obtain⟨h4,h5⟩:=zw h
  cases h5
  simp only[Bool.and_eq_true,bne_iff_ne,ne_eq]at h4
  exact⟨q.1,q.2,l,r,h1,h2,h3,h4.1,h4.2,rfl⟩
 ·cases h
theorem tk_info {t:TypeId} {ag:Bool} {s:Nat} (h:tkB Pr t=some (ag,s)):∃ i,Pr.info? t=some i∧i.size=s:=by
 unfold tkB at h
 cases hu:Pr.underlying t with
 | none=>rw[hu]at h; cases h
 | some d=>
  cases hi:Pr.info? t with
  | none=>rw[hu,hi]at h; cases h
  | some i=>rw[hu,hi]at h; simp at h; exact⟨i,rfl,h.2⟩
theorem eq_law (d:Nat):∀ (D:Nat) (t:TypeId) (L:List Nat) (ag:Bool) (z:Nat) (xs ys:List Value) (u v:Value) (r:Bool),lvs D t=some L→tkB Pr t=some (ag,z)→Vt ag xs u→Vt ag ys v→cmp L xs ys=some r→
  ∀ w,(Op.equalIn (d+D) t u v).run Pr w=.ok r w
 | 0,_,_,_,_,_,_,_,_,_,h,_,_,_,_=>(lvs_zero h).elim
 | D+1,t,L,false,z,xs,ys,u,v,r,h,ht,hu,hv,hc=>fun w=>by
  obtain⟨⟨k,hk⟩,rfl⟩:=lvs_int h ht
  obtain⟨k',a,b,e1,e2,h3⟩:=cmp_cons (L:=[]) hc
  have hu':xs[0]? = some u:=hu
  have hv':ys[0]? = some v:=hv
  rw[e1]at hu'; rw[e2]at hv'
  cases hu'; cases hv'
  rw[show d+(D+1)=(d+D)+1 from rfl,run_equalIn_int w (d+D) t k' k a b hk]
  rcases h3 with ⟨rfl,h3⟩ | ⟨hab,rfl⟩
  ·cases h3; simp
  ·congr 1; simpa using hab
 | D+1,t,L,true,z,xs,ys,u,v,r,h,ht,hu,hv,hc=>fun w=>by
  obtain rfl:u=.agg ⟨xs⟩:=hu
  obtain rfl:v=.agg ⟨ys⟩:=hv
  obtain⟨D',hD,hh⟩:=lvs_agg h ht
  cases hD
  have IH:=eq_law d D
  rw[show d+(D+1)=(d+D)+1 from rfl]
  rcases hh with ⟨fs,hk,hs,hf⟩ | ⟨n,E,ag,s,l,hk,hE,hl,hb,rfl⟩
  ·have hfs:Pr.fieldsOf t=fs:=by simp[Program.fieldsOf,hk]
   rw[run_equalIn_struct w (d+D) t ⟨xs⟩ ⟨ys⟩ (by rw[hfs]; exact hk) hs,hfs]
   generalize fs.toList=FS at hf
   clear hk hfs h
   induction FS generalizing L with
   | nil=>simp only[lvF,Option.some.injEq]at hf; subst hf; simp only[cmp,Option.some.injEq]at hc; subst hc; rfl
   | cons f FS ih=>
    obtain⟨ag,s,l,rr,h1,h2,h3,h4,h5,rfl⟩:=lvF_cons hf
    have step:∀ r',cmp (l.map (f.offset + ·)) xs ys=some r'→∃ a b,(∀ w,(part f.type ⟨xs⟩ f.offset).run Pr w=.ok a w)∧(∀ w,(part f.type ⟨ys⟩ f.offset).run Pr w=.ok b w)∧∀ w,(Op.equalIn (d+D) f.type a b).run Pr w=.ok r' w:=fun r' hr'=>by
     obtain⟨a,b,p1,p2,v1,v2,c⟩:=part_law h2 h1 h5 hr'
     exact⟨a,b,p1,p2,IH f.type l ag s _ _ a b r' h2 h1 v1 v2 c⟩
    rcases cmp_app hc with ⟨hc1,rfl⟩ | ⟨hc1,hc2⟩
    ·obtain⟨a,b,p1,p2,p3⟩:=step _ hc1
     simp[Op.eqFields,h4,p1,p2,p3]
    ·obtain⟨a,b,p1,p2,p3⟩:=step _ hc1
     have:=ih rr hc2 h3
     simpa [Op.eqFields,h4,p1,p2,p3]using this
  ·obtain⟨i,hi,hsz⟩:=tk_info hE
   have hcs:Pr.cellsOf E=s:=by simp[Program.cellsOf,hi,hsz]
   rw[run_equalIn_array w (d+D) ⟨xs⟩ ⟨ys⟩ hk hi,hcs]
   generalize List.range n=is at hc
   clear h
   induction is with
   | nil=>simp only[List.flatMap_nil,cmp,Option.some.injEq]at hc; subst hc; rfl
   | cons j is ih=>
    simp only[List.flatMap_cons]at hc
    have step:∀ r',cmp (l.map (j*s + ·)) xs ys=some r'→∃ a b,(∀ w,(part E ⟨xs⟩ (j*s)).run Pr w=.ok a w)∧(∀ w,(part E ⟨ys⟩ (j*s)).run Pr w=.ok b w)∧∀ w,(Op.equalIn (d+D) E a b).run Pr w=.ok r' w:=fun r' hr'=>by
     obtain⟨a,b,p1,p2,v1,v2,c⟩:=part_law hl hE hb hr'
     exact⟨a,b,p1,p2,IH E l ag s _ _ a b r' hl hE v1 v2 c⟩
    rcases cmp_app hc with ⟨hc1,rfl⟩ | ⟨hc1,hc2⟩
    ·obtain⟨a,b,p1,p2,p3⟩:=step _ hc1
     simp[Op.eqItems,p1,p2,p3]
    ·obtain⟨a,b,p1,p2,p3⟩:=step _ hc1
     have:=ih hc2
     simpa [Op.eqItems,p1,p2,p3]using this
end Go.Ev
end
section
set_option linter.unusedVariables false
set_option linter.unusedSimpArgs false
set_option linter.constructorNameAsVariable false
namespace Go.Ev
open Go.Lw Go.RowKit
def Gives {α:Type} (s:Sem α) (q:α):Prop:=∀ w,s.run Pr w=.ok q w
theorem bts_eq (k:IntKind):bts k=k.bits:=by cases k<;>rfl
theorem agB_law {t:TypeId} {n:Nat} (h:agB t=some n):Pr.eqGuardType Pr.depth t=false∧tkB Pr t=some (true,n)∧lvs 8 t=some (List.range n):=by
 unfold agB at h
 split at h
 ·rename_i z hz
  split at h
  ·rename_i l hl
   obtain⟨h1,h2⟩:=zw h
   cases h2
   simp only[Bool.and_eq_true,Bool.not_eq_true',beq_iff_eq]at h1
   obtain⟨⟨h3,h4⟩,h5⟩:=h1
   refine⟨h5,?_,by rw[hl,h4]⟩
   rw[hz,←h3]
  ·cases h
 ·cases h
theorem equal_agg {t:TypeId} {n:Nat} (h:agB t=some n) {us vs:List Value} (hu:us.length=n) {b:Bool} (hs:jL us vs=some b):Gives (Op.equalIn 10000 t (.agg ⟨us⟩) (.agg ⟨vs⟩)) b:=fun w=>by
 obtain⟨_,h2,h3⟩:=agB_law h
 refine eq_law 9992 8 t _ true n us vs _ _ b h3 h2 rfl rfl ?_ w
 have:=cmp_same (pre:=[]) (pre':=[]) rfl hs
 rw[hu]at this
 simpa [List.range_eq_range']using this
theorem ptr_eq {t:TypeId} {p q:Option Addr} {b:Bool} (h:∀ w d,(Op.equalIn (d+1) t (.pointer p) (.pointer q)).run Pr w=.ok b w) :
  (∀ xo yo,Gives (do eqGuard .eql t xo yo (.pointer p) (.pointer q); binOp .eql t (.pointer p) (.pointer q)) (.bool b))∧(∀ xo yo,Gives (do eqGuard .neq t xo yo (.pointer p) (.pointer q); binOp .neq t (.pointer p) (.pointer q)) (.bool (!b))):=by
 refine⟨fun xo yo w=>?_,fun xo yo w=>?_⟩<;>simp only[binOp]<;>simp[eqGuard_at_pointer,Op.equal,Op.maxDepth,h w 9999]
theorem sl_eq {t:TypeId} {a a':Option Addr} {l c l' c':Nat} {b:Bool} (h:∀ w d,(Op.equalIn (d+1) t (.slice a l c) (.slice a' l' c')).run Pr w=.ok b w) :
  (∀ xo yo,Gives (do eqGuard .eql t xo yo (.slice a l c) (.slice a' l' c'); binOp .eql t (.slice a l c) (.slice a' l' c')) (.bool b))∧(∀ xo yo,Gives (do eqGuard .neq t xo yo (.slice a l c) (.slice a' l' c'); binOp .neq t (.slice a l c) (.slice a' l' c')) (.bool (!b))):=by
 refine⟨fun xo yo w=>?_,fun xo yo w=>?_⟩<;>simp only[binOp]<;>simp[eqGuard_at_slice,Op.equal,Op.maxDepth,h w 9999]
theorem eqE_law {e:Env} {t:TypeId} {x y:AV} {u v:Value} {b:Bool} (h:(eqE t).g x y=some b) (hx:Dn e x u) (hy:Dn e y v) :
  (∀ xo yo,Gives (do eqGuard .eql t xo yo u v; binOp .eql t u v) (.bool b))∧(∀ xo yo,Gives (do eqGuard .neq t xo yo u v; binOp .neq t u v) (.bool (!b))):=by
 cases hc:clsB t with
 | none=>
  have h':(xx x y fun x y=>eqI x y some)=some b:=by unfold eqE at h; rw[hc]at h; exact h
  clear h
  obtain⟨s,s',rfl,rfl,h1⟩:=xx_law h'
  obtain⟨k,p,q,rfl,rfl,h2⟩:=eqI_law h1 hx hy
  cases h2
  refine⟨fun xo yo w=>?_,fun xo yo w=>?_⟩
  ·simp[eqGuard_at_int,binOp_eql,beqZ]
  ·simp[eqGuard_at_int,binOp_neq,bne,beqZ]
 | some c=>
  unfold eqE at h; rw[hc]at h
  unfold clsB at hc
  cases c with
  | ag n=>
   have hag:agB t=some n:=by
    split at hc
    ·split at hc
     ·rename_i z _
      cases hz:Nat.beq z.2 0<;>rw[hz]at hc<;>cases hc
     ·cases hc
    ·cases hc
    ·cases hc
    ·cases ha:agB t<;>rw[ha]at hc<;>cases hc; rfl
    ·cases ha:agB t<;>rw[ha]at hc<;>cases hc; rfl
    ·cases hc
   have h':(asA x fun l=>asA y fun m=>gd (Nat.beq (len l) n && Nat.beq (len m) n) (eqL n l m))=some b:=h
   obtain⟨l,rfl,hNew⟩:=kK h'; clear h'; have h':=hNew; clear hNew
   obtain⟨m,rfl,hNew⟩:=kK h'; clear h'; have h':=hNew; clear hNew
   obtain⟨h1,h2⟩:=zw h'
   simp only[Bool.and_eq_true,qc,decide_eq_true_eq,qU]at h1
   obtain⟨us,rfl,hus⟩:=hx
   obtain⟨vs,rfl,hvs⟩:=hy
   have hs:=eqL_law h2 hus hvs
   have he:=equal_agg hag (by rw[←hus.length,h1.1]) hs
   have hg:=(agB_law hag).1
   refine⟨fun xo yo w=>?_,fun xo yo w=>?_⟩
   ·simp only[Sem.run_bind,run_eqGuard_agg w .eql t xo yo ⟨us⟩ ⟨vs⟩ hg,Result.andThen_ok,run_eql_struct w t,he w]
   ·simp only[Sem.run_bind,run_eqGuard_agg w .neq t xo yo ⟨us⟩ ⟨vs⟩ hg,Result.andThen_ok,run_neq_struct w t,he w]
  | pt=>
   have h':(xx x y eqP)=some b:=h
   obtain⟨s,s',rfl,rfl,hNew⟩:=xx_law h'; clear h'; have h':=hNew; clear hNew
   have hT:∃ E q,Pr.underlying t=some (.pointer E)∧tkB Pr E=some q∧q.2≠0:=by
    split at hc
    ·rename_i E hu
     split at hc
     ·rename_i z hz
      cases hb:Nat.beq z.2 0 with
      | true=>rw[hb]at hc; cases hc
      | false=>exact⟨E,z,hu,hz,fun k=>by rw[k]at hb; cases hb⟩
     ·cases hc
    ·cases hc
    ·cases hc
    ·cases ha:agB t<;>rw[ha]at hc<;>cases hc
    ·cases ha:agB t<;>rw[ha]at hc<;>cases hc
    ·cases hc
   obtain⟨E,q,hu,hq,hq0⟩:=hT
   have hsz:=Go.Lw.run_sizeOf (P:=Pr) (T:=E) (b:=q.1) (s:=q.2) hq
   unfold eqP at h'
   split at h'
   ·rename_i i o j o'
    obtain⟨h1,h2⟩:=zw h'
    cases h2
    simp only[Bool.and_eq_true,qc,decide_eq_true_eq]at h1
    obtain⟨rfl,rfl⟩:=h1
    obtain⟨_,rfl⟩:=hx
    obtain⟨_,rfl⟩:=hy
    refine ptr_eq fun w d=>?_
    simp[Op.equalIn,run_underlying hu,hsz,hq0,run_sameAddr_same]
   ·cases h'
    obtain⟨_,rfl⟩:=hx
    obtain⟨rfl,_⟩:=hy
    refine ptr_eq fun w d=>?_
    simp[Op.equalIn,run_underlying hu]
   ·cases h'
    obtain⟨rfl,_⟩:=hx
    obtain⟨_,rfl⟩:=hy
    refine ptr_eq fun w d=>?_
    simp[Op.equalIn,run_underlying hu]
   ·cases h'
    obtain⟨rfl,_⟩:=hx
    obtain⟨rfl,_⟩:=hy
    refine ptr_eq fun w d=>?_
    simp[Op.equalIn,run_underlying hu]
   ·cases h'
  | sl=>
   have h':(xx x y eqS)=some b:=h
   obtain⟨s,s',rfl,rfl,hNew⟩:=xx_law h'; clear h'; have h':=hNew; clear hNew
   have hT:∃ E,Pr.underlying t=some (.slice E):=by
    split at hc
    ·split at hc
     ·rename_i z _
      cases hz:Nat.beq z.2 0<;>rw[hz]at hc<;>cases hc
     ·cases hc
    ·rename_i E hu; exact⟨E,hu⟩
    ·cases hc
    ·cases ha:agB t<;>rw[ha]at hc<;>cases hc
    ·cases ha:agB t<;>rw[ha]at hc<;>cases hc
    ·cases hc
   obtain⟨E,hu⟩:=hT
   unfold eqS at h'
   split at h'
   ·cases h'
    obtain⟨_,rfl⟩:=hx
    obtain⟨rfl,_⟩:=hy
    refine sl_eq fun w d=>?_
    simp[Op.equalIn,run_underlying hu]
   ·cases h'
    obtain⟨_,rfl,_⟩:=hx
    obtain⟨rfl,_⟩:=hy
    refine sl_eq fun w d=>?_
    simp[Op.equalIn,run_underlying hu]
   ·cases h'
    obtain⟨rfl,_⟩:=hx
    obtain⟨rfl,_⟩:=hy
    refine sl_eq fun w d=>?_
    simp[Op.equalIn,run_underlying hu]
   ·cases h'
  | st=>
   have h':(xx x y eqT)=some b:=h
   obtain⟨s,s',rfl,rfl,hNew⟩:=xx_law h'; clear h'; have h':=hNew; clear hNew
   unfold eqT at h'
   split at h'
   ·cases h'
    obtain⟨rfl,_⟩:=hx
    obtain⟨rfl,_⟩:=hy
    refine⟨fun xo yo w=>?_,fun xo yo w=>?_⟩<;>simp[eqGuard_at_string,binOp_string_eql,binOp_string_neq,beq_toListBytes]
   ·cases h'
theorem isSt_law {t:TypeId} (h:isSt t=true):Pr.underlying t=some .string:=by
 unfold isSt at h
 split at h
 ·assumption
 ·cases h
theorem bin_law {e:Env} {op:BinOp} {t:TypeId} {x y r:AV} {u v:Value} (h:(binE op t).g x y=some r) (hx:Dn e x u) (hy:Dn e y v) :
  ∃ q,Dn e r q∧∀ xo yo,Gives (do eqGuard op t xo yo u v; binOp op t u v) q:=by
 have num:∀ {K:IntKind→Int→Int→Option AV},two x y K=some r→∃ k a b,u=.int k a∧v=.int k b∧K k a b=some r:=fun {K} h=>by
  obtain⟨k,a,b,rfl,rfl,hNew⟩:=two_law h; clear h; have h:=hNew; clear hNew
  exact⟨k,a,b,hx,hy,h⟩
 cases op with
 | add=>
  have h':(Bool.rec (motive:=fun _=>Bi) (.mk fun x y=>two x y fun k a b=>mkI k (a+b)) (.mk addS) (isSt t)).g x y=some r:=h
  cases hs:isSt t with
  | false=>
   rw[hs]at h'
   obtain⟨k,a,b,rfl,rfl,h⟩:=num h'
   obtain rfl:=mkI_law h
   exact⟨_,rfl,fun xo yo w=>by simp[eqGuard_add,binOp_add,Op.intArith]⟩
  | true=>
   rw[hs]at h'
   have h'':addS x y=some r:=h'
   unfold addS at h''
   split at h''
   ·rename_i s s'
    obtain⟨h1,h2⟩:=zw h''
    cases h2
    obtain⟨rfl,_⟩:=hx
    obtain⟨rfl,_⟩:=hy
    have h3:=jI h1
    have hm:IntKind.i64.max=9223372036854775807:=by decide
    refine⟨.string (s++s'),⟨rfl,rfl⟩,fun xo yo w=>?_⟩
    have hn:¬ (((s.size+s'.size:Nat):Int) > IntKind.i64.max):=by rw[hm]; omega
    simp only[eqGuard_add,binOp_string_add,Op.stringOp,if_neg hn,Sem.run_bind,Sem.run_pure,Result.andThen_ok]
   ·obtain⟨k,a,b,rfl,rfl,h⟩:=num h''
    obtain rfl:=mkI_law h
    exact⟨_,rfl,fun xo yo w=>by simp[eqGuard_add,binOp_add,Op.intArith]⟩
 | sub=>
  obtain⟨k,a,b,rfl,rfl,hNew⟩:=num h; clear h; have h:=hNew; clear hNew
  obtain rfl:=mkI_law h
  exact⟨_,rfl,fun xo yo w=>by simp[eqGuard_sub,binOp_sub,Op.intArith]⟩
 | mul=>
  obtain⟨k,a,b,rfl,rfl,hNew⟩:=num h; clear h; have h:=hNew; clear hNew
  obtain rfl:=mkI_law h
  exact⟨_,rfl,fun xo yo w=>by simp[eqGuard_mul,binOp_mul,Op.intArith]⟩
 | quo=>
  obtain⟨k,a,b,rfl,rfl,hNew⟩:=num h; clear h; have h:=hNew; clear hNew
  obtain⟨h1,h2⟩:=zw h
  obtain rfl:=mkI_law h2
  have hb:b≠0:=by simpa [ieqB_eq]using h1
  exact⟨_,rfl,fun xo yo w=>by simp[eqGuard_quo,binOp_quo,Op.intDiv,hb]⟩
 | rem=>
  obtain⟨k,a,b,rfl,rfl,hNew⟩:=num h; clear h; have h:=hNew; clear hNew
  obtain⟨h1,h2⟩:=zw h
  obtain rfl:=frcI_law h2
  have hb:b≠0:=by simpa [ieqB_eq]using h1
  exact⟨_,rfl,fun xo yo w=>by simp[eqGuard_rem,binOp_rem,Op.intDiv,hb]⟩
 | and=>
  obtain⟨k,a,b,rfl,rfl,hNew⟩:=num h; clear h; have h:=hNew; clear hNew
  obtain rfl:=frcI_law h
  exact⟨_,rfl,fun xo yo w=>by simp[eqGuard_at_int,binOp_and,Op.intBits]⟩
 | or=>
  obtain⟨k,a,b,rfl,rfl,hNew⟩:=num h; clear h; have h:=hNew; clear hNew
  obtain rfl:=frcI_law h
  exact⟨_,rfl,fun xo yo w=>by simp[eqGuard_at_int,binOp_or,Op.intBits]⟩
 | xor=>
  obtain⟨k,a,b,rfl,rfl,hNew⟩:=num h; clear h; have h:=hNew; clear hNew
  obtain rfl:=frcI_law h
  exact⟨_,rfl,fun xo yo w=>by simp[eqGuard_at_int,binOp_xor,Op.intBits]⟩
 | andNot=>
  obtain⟨k,a,b,rfl,rfl,hNew⟩:=num h; clear h; have h:=hNew; clear hNew
  obtain rfl:=frcI_law h
  exact⟨_,rfl,fun xo yo w=>by simp[eqGuard_at_int,binOp_andNot,Op.intBits]⟩
 | shl=>
  obtain⟨k,a,rfl,hNew⟩:=ja h; clear h; have h:=hNew; clear hNew
  obtain⟨k',b,rfl,hNew⟩:=ja h; clear h; have h:=hNew; clear hNew
  obtain⟨p,rfl,hNew⟩:=nn_law h; clear h; have h:=hNew; clear hNew
  obtain⟨q,rfl,hNew⟩:=nn_law h; clear h; have h:=hNew; clear hNew
  obtain⟨h1,h2⟩:=zw h
  obtain rfl:=mkI_law h2
  obtain rfl:u=_:=hx
  obtain rfl:v=_:=hy
  have h3:=Nat.le_of_ble_eq_true h1
  rw[bts_eq]at h3
  refine⟨_,rfl,fun xo yo w=>?_⟩
  have h4:¬ ((q:Int)<0):=by omega
  simp only[eqGuard_at_int,binOp_shl,binOp_shr,Op.shift,if_neg h4,Sem.run_bind,Sem.run_pure,Result.andThen_ok,Int.toNat_natCast,Nat.min_eq_left h3]
  congr 3
  show _=((Nat.shiftLeft p q:Nat):Int)
  have:Nat.shiftLeft p q=p*2 ^ q:=Nat.shiftLeft_eq p q
  rw[this]; push_cast; rfl
 | shr=>
  obtain⟨k,a,rfl,hNew⟩:=ja h; clear h; have h:=hNew; clear hNew
  obtain⟨k',b,rfl,hNew⟩:=ja h; clear h; have h:=hNew; clear hNew
  obtain⟨p,rfl,hNew⟩:=nn_law h; clear h; have h:=hNew; clear hNew
  obtain⟨q,rfl,hNew⟩:=nn_law h; clear h; have h:=hNew; clear hNew
  obtain⟨h1,h2⟩:=zw h
  obtain rfl:=frcI_law h2
  obtain rfl:u=_:=hx
  obtain rfl:v=_:=hy
  have h3:=Nat.le_of_ble_eq_true h1
  rw[bts_eq]at h3
  refine⟨_,rfl,fun xo yo w=>?_⟩
  have h4:¬ ((q:Int)<0):=by omega
  simp only[eqGuard_at_int,binOp_shl,binOp_shr,Op.shift,if_neg h4,Sem.run_bind,Sem.run_pure,Result.andThen_ok,Int.toNat_natCast,Nat.min_eq_left h3]
  congr 2
  show _=((Nat.shiftRight p q:Nat):Int)
  have:Nat.shiftRight p q=p / 2 ^ q:=Nat.shiftRight_eq_div_pow p q
  rw[this,Int.fdiv_eq_ediv_of_nonneg _ (by exact_mod_cast Nat.zero_le _)]
  push_cast; rfl
 | eql=>
  obtain⟨b,h1,h2⟩:=zO h
  obtain rfl:=bl_law h2
  exact⟨_,rfl,(eqE_law h1 hx hy).1⟩
 | neq=>
  obtain⟨b,h1,h2⟩:=zO h
  obtain rfl:=blN_law h2
  exact⟨_,rfl,(eqE_law h1 hx hy).2⟩
 | lss=>
  obtain⟨k,a,b,rfl,rfl,hNew⟩:=num h; clear h; have h:=hNew; clear hNew
  obtain rfl:=blN_law h
  refine⟨.bool (decide (a<b)),?_,fun xo yo w=>by simp[eqGuard_at_int,binOp_lss]⟩
  show Value.bool _=.bool _
  rw[xu]; congr 1; rw[Bool.eq_iff_iff]; simp
 | leq=>
  obtain⟨k,a,b,rfl,rfl,hNew⟩:=num h; clear h; have h:=hNew; clear hNew
  obtain rfl:=bl_law h
  refine⟨.bool (decide (a≤b)),?_,fun xo yo w=>by simp[eqGuard_at_int,binOp_leq]⟩
  show Value.bool _=.bool _
  rw[xu]
 | gtr=>
  obtain⟨k,a,b,rfl,rfl,hNew⟩:=num h; clear h; have h:=hNew; clear hNew
  obtain rfl:=blN_law h
  refine⟨.bool (decide (b<a)),?_,fun xo yo w=>by simp[eqGuard_at_int,binOp_gtr]⟩
  show Value.bool _=.bool _
  rw[xu]; congr 1; rw[Bool.eq_iff_iff]; simp
 | geq=>
  obtain⟨k,a,b,rfl,rfl,hNew⟩:=num h; clear h; have h:=hNew; clear hNew
  obtain rfl:=bl_law h
  refine⟨.bool (decide (b≤a)),?_,fun xo yo w=>by simp[eqGuard_at_int,binOp_geq]⟩
  show Value.bool _=.bool _
  rw[xu]
theorem un_law {e:Env} {op:UnOp} {x r:AV} {u:Value} (h:(unE op).g x=some r) (hx:Dn e x u):∃ q,Dn e r q∧Gives (Op.unary op u) q:=by
 cases op with
 | neg=>
  obtain⟨k,a,rfl,hNew⟩:=ja h; clear h; have h:=hNew; clear hNew
  obtain rfl:=mkI_law h
  obtain rfl:u=_:=hx
  exact⟨_,rfl,fun w=>by simp[Op.unary,Op.intArith]⟩
 | not=>
  obtain⟨b,rfl,hNew⟩:=asB_law h; clear h; have h:=hNew; clear hNew
  obtain rfl:=blN_law h
  obtain rfl:u=_:=hx
  exact⟨_,rfl,fun w=>by simp[Op.unary]⟩
 | _=>cases h
theorem conv_law {e:Env} {S T:TypeId} {x r:AV} {u:Value} (h:(convE S T).g x=some r) (hx:Dn e x u):∃ q,Dn e r q∧Gives (convert S T u) q:=by
 cases hc:cvB S T with
 | none=>unfold convE at h; rw[hc]at h; cases h
 | some k=>
  unfold convE at h; rw[hc]at h
  have h':(asI x fun _ n=>mkI k n)=some r:=h
  obtain⟨k',a,rfl,hNew⟩:=ja h'; clear h'; have h':=hNew; clear hNew
  obtain rfl:=mkI_law h'
  obtain rfl:u=_:=hx
  unfold cvB at hc
  split at hc
  ·rename_i k1 k2 h1 h2
   cases hc
   exact⟨_,rfl,fun w=>by simp[convert,run_underlying h1,run_underlying h2,Conv.intToInt]⟩
  ·cases hc
theorem nil_law {e:Env} {x r:AV} {u:Value} (h:nilE x=some r) (hx:Dn e x u):Dn e r u∧∀ a:Act,∀ y,a.eval y=u→∀ O:Oper,O.op=.nilCheck y→∀ w,(execOp a.eval O).run Pr w=.ok (.value u) w:=by
 have fin:(∃ p,u=.pointer (some p))∨(∃ fn a b,u=.func (.func fn) a b)∨(∃ l a b,u=.func (.yield l) a b)→∀ a:Act,∀ y,a.eval y=u→∀ O:Oper,O.op=.nilCheck y→∀ w,(execOp a.eval O).run Pr w=.ok (.value u) w:=fun h a y hy O hO w=>by
  unfold execOp
  rw[hO]
  simp only[hy]
  rcases h with ⟨p,rfl⟩ | ⟨fn,a,b,rfl⟩ | ⟨l,a,b,rfl⟩<;>simp
 unfold nilE at h
 split at h
 ·cases h; exact⟨hx,fin (.inl ⟨_,hx.2⟩)⟩
 ·cases h; exact⟨hx,fin (.inr (.inl hx.2.2))⟩
 ·cases h; exact⟨hx,fin (.inr (.inr ⟨_,_,_,hx.2⟩))⟩
 ·cases h; exact⟨hx,fin (.inr (.inl ⟨_,_,_,hx.1⟩))⟩
 ·cases h
end Go.Ev
end
section
set_option linter.unusedVariables false
set_option linter.unusedSimpArgs false
set_option linter.constructorNameAsVariable false
namespace Go.Ev
open Go.Lw Go.RowKit
theorem fieldAddr_law {e:Env} {S f:Nat} {x r:AV} {u:Value} (h:(jW S f).g x=some r) (hx:Dn e x u):∃ q,Dn e r q∧Gives (Instr.fieldAt S u f) q:=by
 cases hc:foB Pr S f with
 | none=>unfold jW at h; rw[hc]at h; cases h
 | some k=>
  unfold jW at h; rw[hc]at h
  have h':(asP x fun id off=>nat (off+k) fun o=>some (AV.x (.p id o)))=some r:=h
  obtain⟨id,off,rfl,hNew⟩:=jP h'; clear h'; have h':=hNew; clear hNew
  rw[nat_eq]at h'; cases h'
  obtain⟨hd,rfl⟩:=hx
  exact⟨_,⟨hd,rfl⟩,fun w=>by rw[run_fieldAt hc,kN]⟩
theorem indexAddr_law {e:Env} {X:TypeId} {x y r:AV} {u v:Value} (h:indexAddrE X x y=some r) (hx:Dn e x u) (hy:Dn e y v):∃ q,Dn e r q∧Gives (Instr.indexAt X u v) q:=by
 obtain⟨k,j,rfl,hNew⟩:=ja h; clear h; have h:=hNew; clear hNew
 obtain rfl:v=_:=hy
 have sl:∀ id off n c,(el X fun _ s=>idx j n fun j=>nat (off+j*s) fun o=>some (AV.x (.p id o)))=some r→e.dom id→u=.slice (some (adr e id off)) n c→∃ q,Dn e r q∧Gives (Instr.indexAt X u (.int k j)) q:=fun id off n c h hd hu=>by
  obtain⟨E,s,ag,hX,hE,h⟩:=el_law h
  obtain⟨i,rfl,hi,hNew⟩:=idx_law h; clear h; have h:=hNew; clear hNew
  rw[nat_eq]at h; cases h
  subst hu
  refine⟨_,⟨hd,rfl⟩,fun w=>?_⟩
  have h1:(0:Int)≤i∧(i:Int)<n:=⟨by omega,by omega⟩
  simp[Instr.indexAt,asIntOf,run_underlying hX,Go.Lw.run_sizeOf hE,h1,kN]
  omega
 cases x with
 | x s=>
  cases s with
  | p id off=>
   have h':(ar X fun q=>idx j q.1 fun j=>nat (off+j*q.2.2.1) fun o=>some (AV.x (.p id o)))=some r:=h
   obtain⟨n,E,s,ag,hX,hE,h'⟩:=ar_law h'
   obtain⟨i,rfl,hi,hNew⟩:=idx_law h'; clear h'; have h':=hNew; clear hNew
   rw[nat_eq]at h'; cases h'
   obtain⟨hd,rfl⟩:=hx
   refine⟨_,⟨hd,rfl⟩,fun w=>?_⟩
   have h1:(0:Int)≤i∧(i:Int)<n:=⟨by omega,by omega⟩
   simp[Instr.indexAt,asIntOf,run_underlying hX,Go.Lw.run_sizeOf hE,h1,Instr.sureAddr,kN]
   omega
  | o x=>
   cases x with
   | s id off n c=>exact sl id off n c h hx.1 hx.2
   | w id off n c=>exact sl id off n _ h hx.1 hx.2.1
   | _=>cases h
  | _=>cases h
 | _=>cases h
theorem hdE_law {l:List Sc} {r:AV} (h:hdE l=some r):∃ s m,l=s::m∧r=.x s:=by
 cases l with
 | nil=>cases h
 | cons s m=>
  have h':(frc_s s fun v=>some (AV.x v))=some r:=h
  rw[frc_s_eq]at h'; cases h'
  exact⟨s,m,rfl,rfl⟩
theorem prt_law {e:Env} {t:TypeId} {ag:Bool} {off s:Nat} {l:List Sc} {us:List Value} {r:AV} (h:prt ag off s l=some r) (hu:zN (DnC e) l us) (ht:tkB Pr t=some (ag,s)):∃ q,Dn e r q∧Gives (part t ⟨us⟩ off) q:=by
 cases ag with
 | false=>
  have h':hdE (drp l off)=some r:=h
  rw[drp_eq]at h'
  obtain⟨x,m,hl,rfl⟩:=hdE_law h'
  have hlt:off<l.length:=by
   have:=congrArg List.length hl
   rw[List.length_drop]at this
   simp at this; omega
  have hlu:off<us.length:=by rw[←hu.length]; exact hlt
  have hx:l[off]? = some x:=by
   have:=List.getElem?_drop (xs:=l) (i:=off) (j:=0)
   rw[hl]at this
   simpa using this.symm
  refine⟨us[off],(hu.at hx (List.getElem?_eq_getElem hlu)).1,fun w=>run_part_one ht (List.getElem?_eq_getElem hlu)⟩
 | true=>
  have h':(tke (drp l off) s fun r=>some (AV.a r))=some r:=h
  rw[drp_eq]at h'
  obtain⟨_,h2⟩:=tke_law h'
  cases h2
  exact⟨_,⟨_,rfl,(hu.drop off).take s⟩,fun w=>run_part_agg ht⟩
theorem field_law {e:Env} {S f:Nat} {x r:AV} {u:Value} (h:(fieldE S f).g x=some r) (hx:Dn e x u):∃ q,Dn e r q∧Gives (Instr.field S u f) q:=by
 cases hc:fdB S f with
 | none=>unfold fieldE at h; rw[hc]at h; cases h
 | some z=>
  unfold fieldE at h; rw[hc]at h
  have h':(asA x fun l=>prt z.2.1 z.1 z.2.2 l)=some r:=h
  obtain⟨l,rfl,hNew⟩:=kK h'; clear h'; have h':=hNew; clear hNew
  obtain⟨us,rfl,hus⟩:=hx
  unfold fdB at hc
  split at hc
  ·rename_i fs hS
   split at hc
   ·rename_i fd hf
    cases ht:tkB Pr fd.type with
    | none=>rw[ht]at hc; cases hc
    | some q=>
     rw[ht]at hc; cases hc
     obtain⟨v,h1,h2⟩:=prt_law h' hus ht
     refine⟨v,h1,fun w=>?_⟩
     simp only[Instr.field,Sem.run_bind,run_underlying hS,Result.andThen_ok,hf,asAgg,Sem.run_pure,h2 w]
   ·cases hc
  ·cases hc
theorem index_law {e:Env} {X:TypeId} {x y r:AV} {u v:Value} (h:indexE X x y=some r) (hx:Dn e x u) (hy:Dn e y v):∃ q,Dn e r q∧Gives (Instr.index X u v) q:=by
 obtain⟨k,j,rfl,hNew⟩:=ja h; clear h; have h:=hNew; clear hNew
 obtain rfl:v=_:=hy
 cases x with
 | x s=>
  obtain⟨h1,h2⟩:=zw (x:=ixS s j) h
  have hX:=isSt_law h1
  cases s with
  | o x=>
   cases x with
   | c w0=>
    have h3:ixV w0 j=some r:=h2
    obtain rfl:=hx.1
    clear hx
    unfold ixV at h3
    split at h3
    ·rename_i s
     obtain⟨i,rfl,hi,hNew⟩:=idx_law h3; clear h3; have h3:=hNew; clear hNew
     split at h3
     ·rename_i b hb
      rw[nat_eq]at h3; cases h3
      unfold byteAt at hb
      cases hs:s[i]? with
      | none=>rw[hs]at hb; cases hb
      | some c=>
       rw[hs]at hb; cases hb
       refine⟨_,rfl,fun w=>?_⟩
       have h0:(0:Int)≤i:=by omega
       simp[Instr.index,asIntOf,run_underlying hX,h0,hs]
     ·cases h3
    ·cases h3
   | _=>cases h2
  | _=>cases h2
 | a l=>
  have h':(ar X fun q=>idx j q.1 fun j=>prt q.2.2.2 (j*q.2.2.1) q.2.2.1 l)=some r:=h
  obtain⟨n,E,s,ag,hX,hE,h'⟩:=ar_law h'
  obtain⟨i,rfl,hi,hNew⟩:=idx_law h'; clear h'; have h':=hNew; clear hNew
  obtain⟨us,rfl,hus⟩:=hx
  obtain⟨q,h1,h2⟩:=prt_law h' hus hE
  refine⟨q,h1,fun w=>?_⟩
  have h0:(0:Int)≤i∧(i:Int)<n:=⟨by omega,by omega⟩
  simp[Instr.index,asIntOf,run_underlying hX,Go.Lw.run_sizeOf hE,h2 w]
  omega
 | t l=>cases h
theorem ext_law {e:Env} {x r:AV} {j:Nat} {u:Value} (h:extE x j=some r) (hx:Dn e x u):∃ q,Dn e r q∧Gives (Instr.extract u j) q:=by
 obtain⟨l,rfl,hNew⟩:=asT_law h; clear h; have h:=hNew; clear hNew
 obtain⟨us,rfl,hus⟩:=hx
 unfold extT at h
 rw[drp_eq]at h
 cases hl:l.drop j with
 | nil=>rw[hl]at h; cases h
 | cons s m=>
  rw[hl]at h
  have hlt:j<l.length:=by
   have:=congrArg List.length hl
   rw[List.length_drop]at this
   simp at this; omega
  have hlu:j<us.length:=by rw[←hus.length]; exact hlt
  have hs:l[j]? = some s:=by
   have:=List.getElem?_drop (xs:=l) (i:=j) (j:=0)
   rw[hl]at this
   simpa using this.symm
  have hT:=hus.at hs (List.getElem?_eq_getElem hlu)
  refine⟨us[j],?_,fun w=>by simp[Instr.extract,hlu]⟩
  cases s with
  | inl s=>
   have h':(frc_s s fun s=>some (AV.x s))=some r:=h
   rw[frc_s_eq]at h'; cases h'
   exact hT
  | inr l=>cases h; exact hT
theorem xw {n:Nat} {r:AV} (h:iLn n=some r):r=.i .i64 n:=by
 obtain⟨_,h2⟩:=zw h
 cases h2; rfl
theorem mmx_law {e:Env} {mx:Bool} : ∀ {l:List AV} {x r:AV} {u:Value} {us:List Value},mmx mx x l=some r→Dn e x u→zN (Dn e) l us→
  ∃ q,Dn e r q∧Gives (us.foldlM (bif mx then Builtin.max2 else Builtin.min2) u) q
 | [],x,r,u,us,h,hx,hl=>by
  cases us with
  | cons=>exact hl.elim
  | nil=>
   have h':(asI x fun k a=>some (AV.i k a))=some r:=h
   obtain⟨k,a,rfl,hNew⟩:=ja h'; clear h'; have h':=hNew; clear hNew
   cases h'
   exact⟨u,hx,fun w=>by simp⟩
 | y::l,x,r,u,us,h,hx,hl=>by
  cases us with
  | nil=>exact hl.elim
  | cons v us=>
   have h':(two x y fun k a b=>Bool.rec (motive:=fun _=>Option AV) (mmx mx x l) (mmx mx y l) (Bool.rec (motive:=fun _=>Bool) (!xc a b) (!xc b a) mx))=some r:=h
   obtain⟨k,a,b,rfl,rfl,hNew⟩:=two_law h'; clear h'; have h':=hNew; clear hNew
   obtain rfl:u=_:=hx
   obtain rfl:v=_:=hl.1
   cases mx with
   | true=>
    have h2:Bool.rec (motive:=fun _=>Option AV) (mmx true (AV.i k a) l) (mmx true (AV.i k b) l) (!xc b a)=some r:=h'
    rw[xu]at h2
    by_cases c:b≤a
    ·rw[decide_eq_true c]at h2
     obtain⟨q,q1,q2⟩:=mmx_law (l:=l) h2 (show Dn e (AV.i k a) (.int k a)from rfl) hl.2
     refine⟨q,q1,fun w=>?_⟩
     have:=q2 w
     simp only[cond_true]at this⊢
     simp only[List.foldlM_cons,Sem.run_bind,Builtin.max2,Sem.run_pure,Result.andThen_ok,if_neg (show ¬ b > a by omega),this]
    ·rw[decide_eq_false c]at h2
     obtain⟨q,q1,q2⟩:=mmx_law (l:=l) h2 (show Dn e (AV.i k b) (.int k b)from rfl) hl.2
     refine⟨q,q1,fun w=>?_⟩
     have:=q2 w
     simp only[cond_true]at this⊢
     simp only[List.foldlM_cons,Sem.run_bind,Builtin.max2,Sem.run_pure,Result.andThen_ok,if_pos (show b > a by omega),this]
   | false=>
    have h2:Bool.rec (motive:=fun _=>Option AV) (mmx false (AV.i k a) l) (mmx false (AV.i k b) l) (!xc a b)=some r:=h'
    rw[xu]at h2
    by_cases c:a≤b
    ·rw[decide_eq_true c]at h2
     obtain⟨q,q1,q2⟩:=mmx_law (l:=l) h2 (show Dn e (AV.i k a) (.int k a)from rfl) hl.2
     refine⟨q,q1,fun w=>?_⟩
     have:=q2 w
     simp only[cond_false]at this⊢
     simp only[List.foldlM_cons,Sem.run_bind,Builtin.min2,Sem.run_pure,Result.andThen_ok,if_neg (show ¬ b<a by omega),this]
    ·rw[decide_eq_false c]at h2
     obtain⟨q,q1,q2⟩:=mmx_law (l:=l) h2 (show Dn e (AV.i k b) (.int k b)from rfl) hl.2
     refine⟨q,q1,fun w=>?_⟩
     have:=q2 w
     simp only[cond_false]at this⊢
     simp only[List.foldlM_cons,Sem.run_bind,Builtin.min2,Sem.run_pure,Result.andThen_ok,if_pos (show b<a by omega),this]
/-! ### Slices -/
def optV (a:Act) (o:Option Operand):Option Value:=o.map a.eval
theorem optI_law {Z:Type} {z:Z} {e:Env} {τ:L3} {a:Act} {o:Option Operand} {d:Nat} {K:Nat→Option Z} (h:qB o τ d K=some z) (ho:∀ x,o=some x→Dn e ((evO x).v τ) (a.eval x)) :
  (o=none∧K d=some z)∨∃ k m,optV a o=some (.int k ((m:Nat):Int))∧K m=some z:=by
 cases o with
 | none=>exact .inl ⟨rfl,h⟩
 | some x=>
  have h':(asI ((evO x).v τ) fun _ n=>nn n fun n=>K n)=some z:=h
  obtain⟨k,n,hv,h'⟩:=ja h'
  obtain⟨m,rfl,hNew⟩:=nn_law h'; clear h'; have h':=hNew; clear hNew
  have:=ho x rfl
  rw[hv]at this
  exact .inr ⟨k,m,congrArg some this,h'⟩
theorem bound_law {k:IntKind} {m y:Nat} {c:BoundsCode} (h:m≤y):Gives (Instr.sliceBound (.int k (m:Int)) y c) m:=fun w=>by
 have h1:(0:Int)≤m∧(m:Int)≤y:=⟨by omega,by omega⟩
 simp[Instr.sliceBound,asIntOf]
 omega
theorem bgn_eq (off l m s:Nat) (h:l≤m):bgn off l m s=if m=l then off else off+l*s:=by
 unfold bgn
 by_cases c:m=l
 ·subst c; simp; rfl
 ·rw[if_neg c]
  obtain⟨n,hn⟩:∃ n,m-l=n+1:=⟨m-l-1,by omega⟩
  rw[hn]
theorem cut_law {e:Env} {id off s l u m:Nat} {r:AV} (h:cut id off s l u m=some r) (hd:e.dom id) (hl:l≤m):Dn e r (sliced (some (adr e id off)) l u m s):=by
 unfold cut at h
 rw[nat_eq,nat_eq,nat_eq]at h
 cases h
 refine⟨hd,?_⟩
 unfold sliced
 rw[bgn_eq off l m s hl]
 congr 1
 split
 ·rfl
 ·simp[kN]
theorem bounds_law {isS:Bool} {len cap l u m:Nat} {lo hi mx:Option Value} (hlo:lo=none∧l=0∨∃ k,lo=some (.int k (l:Int))) (hhi:hi=none∧u=len∧mx=none∨∃ k,hi=some (.int k (u:Int))) (hmx:mx=none∧m=cap∨∃ k,mx=some (.int k (m:Int)))
  (h1:l≤u) (h2:u≤m) (h3:m≤cap) (hlu:mx=none→hi=none→l≤len):Gives (Instr.sliceBounds isS len cap lo hi mx) (l,u,m):=fun w=>by
 rcases hmx with ⟨rfl,rfl⟩ | ⟨km,rfl⟩
 ·rcases hhi with ⟨rfl,rfl,_⟩ | ⟨kh,rfl⟩
  ·rcases hlo with ⟨rfl,rfl⟩ | ⟨kl,rfl⟩
   ·simp[Instr.sliceBounds]
   ·simp[Instr.sliceBounds,bound_law (k:=kl) h1 w]
  ·have e1:∀ c,(Instr.sliceBound (.int kh (u:Int)) m c).run Pr w=.ok u w:=fun c=>bound_law h2 w
   rcases hlo with ⟨rfl,rfl⟩ | ⟨kl,rfl⟩
   ·simp[Instr.sliceBounds,e1]
   ·simp[Instr.sliceBounds,e1,bound_law (k:=kl) h1 w]
 ·have e0:∀ c,(Instr.sliceBound (.int km (m:Int)) cap c).run Pr w=.ok m w:=fun c=>bound_law h3 w
  rcases hhi with ⟨_,_,h⟩ | ⟨kh,rfl⟩
  ·cases h
  ·have e1:∀ c,(Instr.sliceBound (.int kh (u:Int)) m c).run Pr w=.ok u w:=fun c=>bound_law h2 w
   rcases hlo with ⟨rfl,rfl⟩ | ⟨kl,rfl⟩
   ·simp[Instr.sliceBounds,e0,e1]
   ·simp[Instr.sliceBounds,e0,e1,bound_law (k:=kl) h1 w]
end Go.Ev
end
section
set_option linter.unusedVariables false
set_option linter.unusedSimpArgs false
set_option linter.constructorNameAsVariable false
namespace Go.Ev
open Go.Lw Go.RowKit
theorem pa_law {Z:Type} {z:Z} {X:TypeId} {K:Nat×Nat×Nat×Bool→Option Z} (h:pa X K=some z):∃ n E s ag,(Pr.underlying X=some (.array n E)∨∃ A,Pr.underlying X=some (.pointer A)∧Pr.underlying A=some (.array n E))∧tkB Pr E=some (ag,s)∧K (n,E,s,ag)=some z:=by
 have key:∀ Y,Option.rec (motive:=fun _=>(Nat×Nat×Nat×Bool→Option Z)→Option Z) (fun _=>none) (fun z K=>K z) (arB Y) K=some z→∃ n E s ag,Pr.underlying Y=some (.array n E)∧tkB Pr E=some (ag,s)∧K (n,E,s,ag)=some z:=fun Y h=>ar_law (X:=Y) h
 unfold pa paB at h
 split at h
 ·rename_i A hA
  obtain⟨n,E,s,ag,h1,h2,h3⟩:=key A h
  exact⟨n,E,s,ag,.inr ⟨A,hA,h1⟩,h2,h3⟩
 ·obtain⟨n,E,s,ag,h1,h2,h3⟩:=key X h
  exact⟨n,E,s,ag,.inl h1,h2,h3⟩
theorem slice_law {e:Env} {τ:L3} {a:Act} {x r:AV} {X:TypeId} {lo hi mx:Option Operand} {u:Value} (h:sliceE x X lo hi mx τ=some r) (hx:Dn e x u) (h1:∀ o,lo=some o→Dn e ((evO o).v τ) (a.eval o)) (h2:∀ o,hi=some o→Dn e ((evO o).v τ) (a.eval o))
  (h3:∀ o,mx=some o→Dn e ((evO o).v τ) (a.eval o)):∃ q,Dn e r q∧Gives (Instr.sliceAt X u (optV a lo) (optV a hi) (optV a mx)) q:=by
 obtain⟨hM,h⟩:=zw h
 have hM':hi=none→mx=none:=fun k=>by
  subst k
  cases mx with
  | none=>rfl
  | some _=>cases hM
 have ov:∀ {o:Option Operand},o=none→optV a o=none:=fun k=>by rw[k]; rfl
 -- the bounds that were read are those of the model
 have bnd:∀ {isS:Bool} {len cap l n m:Nat},(lo=none∧l=0∨∃ k,optV a lo=some (.int k (l:Int)))→(hi=none∧n=len∨∃ k,optV a hi=some (.int k (n:Int)))→(mx=none∧m=cap∨∃ k,optV a mx=some (.int k (m:Int)))→l≤n→n≤m→m≤cap→
   (mx=none→hi=none→l≤len)→Gives (Instr.sliceBounds isS len cap (optV a lo) (optV a hi) (optV a mx)) (l,n,m):=fun {isS len cap l n m} b1 b2 b3 c1 c2 c3 c4=>by
  refine bounds_law (b1.imp (fun k=>⟨ov k.1,k.2⟩) id) (b2.imp (fun k=>⟨ov k.1,k.2,ov (hM' k.1)⟩) id) (b3.imp (fun k=>⟨ov k.1,k.2⟩) id) c1 c2 c3 fun k1 k2=>c4 ?_ ?_
  ·cases mx with | none=>rfl | some _=>cases k1
  ·cases hi with | none=>rfl | some _=>cases k2
 have rd:∀ {o:Option Operand} {d:Nat} {K:Nat→Option AV},(∀ y,o=some y→Dn e ((evO y).v τ) (a.eval y))→qB o τ d K=some r→∃ m,(o=none∧m=d∨∃ k,optV a o=some (.int k (m:Int)))∧K m=some r:=fun {o d K} ho hk=>by
  rcases optI_law hk ho with ⟨k1,k2⟩ | ⟨k,m,k1,k2⟩
  ·exact⟨d,.inl ⟨k1,rfl⟩,k2⟩
  ·exact⟨m,.inr ⟨k,k1⟩,k2⟩
 have run:∀ {E s len cap l n m:Nat} {ag:Bool} {p:Option Addr},Pr.underlying X=some (.slice E)→tkB Pr E=some (ag,s)→Gives (Instr.sliceBounds true len cap (optV a lo) (optV a hi) (optV a mx)) (l,n,m)→Gives (Instr.sliceAt X (.slice p len cap) (optV a lo) (optV a hi) (optV a mx)) (sliced p l n m s):=fun {E s len cap l n m ag p} hX hE hb w=>by
  have hX':Pr.underlying X=some (.slice (Pr.elem X)):=by simp[Program.elem,hX]
  have hEl:Pr.elem X=E:=by simp[Program.elem,hX]
  rw[run_sliceAt_slice w X _ _ _ _ hX',run_slice_any w X p len cap hX',hb w]
  simp only[Result.andThen_ok,hEl,Go.Lw.run_sizeOf hE]
 cases x with
 | x s=>
  cases s with
  | p id off=>
   obtain⟨hd,rfl⟩:=hx
   have h':(pa X fun q=>qB lo τ 0 fun l=>qB hi τ q.1 fun u=>qB mx τ q.1 fun m=>gd (Nat.ble l u && Nat.ble u m && Nat.ble m q.1) (cut id off q.2.2.1 l u m))=some r:=h
   obtain⟨n,E,s,ag,hX,hE,h'⟩:=pa_law h'
   obtain⟨l,b1,h'⟩:=rd h1 h'
   obtain⟨u,b2,h'⟩:=rd h2 h'
   obtain⟨m,b3,h'⟩:=rd h3 h'
   obtain⟨c,h'⟩:=zw h'
   simp only[Bool.and_eq_true,Nat.ble_eq]at c
   refine⟨_,cut_law h' hd (by omega),fun w=>?_⟩
   have hb:=bnd (isS:=false) b1 b2 b3 c.1.1 c.1.2 c.2 (fun k1 k2=>by rcases b2 with hk | ⟨k,hk⟩<;>first | (obtain⟨_,hk⟩:=hk; omega) | (rw[ov k2]at hk; cases hk)) w
   rcases hX with hX | ⟨A,hX,hA⟩
   ·simp only[Instr.sliceAt,Sem.run_bind,run_underlying hX,Result.andThen_ok,Instr.sureAddr,Sem.run_pure,hb,Go.Lw.run_sizeOf hE]
    simp only[sliced,Option.map_some]
    congr 3
    split<;>rfl
   ·simp only[Instr.sliceAt,Instr.slice,asAddr,Sem.run_bind,run_underlying hX,run_underlying hA,Result.andThen_ok,Sem.run_pure,hb,Go.Lw.run_sizeOf hE]
    simp only[sliced,Option.map_some]
    congr 3
    split<;>rfl
  | o x=>
   cases x with
   | s id off len cap=>
    obtain⟨hd,rfl⟩:=hx
    have h':(el X fun _ s=>qB lo τ 0 fun l=>qB hi τ len fun u=>qB mx τ cap fun m=>gd (Nat.ble l u && Nat.ble u m && Nat.ble m cap) (cut id off s l u m))=some r:=h
    obtain⟨E,s,ag,hX,hE,h'⟩:=el_law h'
    obtain⟨l,b1,h'⟩:=rd h1 h'
    obtain⟨u,b2,h'⟩:=rd h2 h'
    obtain⟨m,b3,h'⟩:=rd h3 h'
    obtain⟨c,h'⟩:=zw h'
    simp only[Bool.and_eq_true,Nat.ble_eq]at c
    exact⟨_,cut_law h' hd (by omega),run hX hE (bnd b1 b2 b3 c.1.1 c.1.2 c.2 (fun k1 k2=>by rcases b2 with hk | ⟨k,hk⟩<;>first | (obtain⟨_,hk⟩:=hk; omega) | (rw[ov k2]at hk; cases hk)))⟩
   | w id off len ct=>
    obtain⟨hd,rfl,hle⟩:=hx
    have h':(el X fun _ s=>qB lo τ 0 fun l=>qB hi τ len fun u=>Option.rec (motive:=fun _=>Option AV) (gd (Nat.ble l u && Nat.ble u len) (kI (Nat.blt l len || Nat.beq l 0) (nat (off+l*s) fun o=>nat (u-l) fun n=>nat (ct+l) fun c=>some (.x (.o (.w id o n c)))) (some (.x (.o .e))))) (fun mo=>qB (some mo) τ 0 fun m=>gd (Nat.ble l u && Nat.ble u m && Nat.ble m len) (cut id off s l u m)) mx)=some r:=h
    obtain⟨E,s,ag,hX,hE,h'⟩:=el_law h'
    obtain⟨l,b1,h'⟩:=rd h1 h'
    obtain⟨u,b2,h'⟩:=rd h2 h'
    cases mx with
    | some mo=>
     have h'':(qB (some mo) τ 0 fun m=>gd (Nat.ble l u && Nat.ble u m && Nat.ble m len) (cut id off s l u m))=some r:=h'
     obtain⟨m,b3,h''⟩:=rd h3 h''
     obtain⟨c,h''⟩:=zw h''
     simp only[Bool.and_eq_true,Nat.ble_eq]at c
     have b3':∃ k,optV a (some mo)=some (.int k (m:Int)):=b3.resolve_left fun k=>by cases k.1
     exact⟨_,cut_law h'' hd (by omega),run hX hE (bnd b1 b2 (.inr b3') c.1.1 c.1.2 (by omega) (fun k1 k2=>by cases k1))⟩
    | none=>
     obtain⟨c,h''⟩:=zw h'
     simp only[Bool.and_eq_true,Nat.ble_eq]at c
     have hb:=bnd (isS:=true) (cap:=e.cap id-ct) (m:=e.cap id-ct) b1 b2 (.inl ⟨rfl,rfl⟩) c.1 (by omega) (Nat.le_refl _) (fun k1 k2=>by rcases b2 with hk | ⟨k,hk⟩<;>first | (obtain⟨_,hk⟩:=hk; omega) | (rw[ov k2]at hk; cases hk))
     refine⟨sliced (some (adr e id off)) l u (e.cap id-ct) s,?_,run hX hE hb⟩
     cases hc:(Nat.blt l len || Nat.beq l 0)with
     | true=>
      rw[hc]at h''
      have h4:(nat (off+l*s) fun o=>nat (u-l) fun n=>nat (ct+l) fun c=>some (AV.x (.o (.w id o n c))))=some r:=h''
      rw[nat_eq,nat_eq,nat_eq]at h4
      cases h4
      refine⟨hd,?_,by omega⟩
      unfold sliced
      have e2:e.cap id-ct-l=e.cap id-(ct+l):=by omega
      rw[e2]
      congr 1
      split
      ·rename_i hm
       simp only[Bool.or_eq_true,qc,decide_eq_true_eq,Nat.blt_eq]at hc
       have:l=0:=by omega
       subst this; simp
      ·simp[kN]
     | false=>
      rw[hc]at h''
      cases h''
      simp only[Bool.or_eq_false_iff,qc,decide_eq_false_iff_not]at hc
      have hl:¬ l<len:=fun k=>by have:=hc.1; rw[show Nat.blt l len=true from by simpa [Nat.blt_eq]using k]at this; cases this
      have:u-l=0:=by omega
      obtain⟨p,c',hp⟩:∃ p c',sliced (some (adr e id off)) l u (e.cap id-ct) s=.slice p (u-l) c':=⟨_,_,rfl⟩
      rw[this]at hp
      exact⟨p,c',hp⟩
   | e=>
    obtain⟨p,cap,rfl⟩:=hx
    have h':(el X fun _ _=>qB lo τ 0 fun l=>qB hi τ 0 fun u=>Option.rec (motive:=fun _=>Option AV) (gd (Nat.beq (l+u) 0) (some (.x (.o .e)))) (fun _=>none) mx)=some r:=h
    obtain⟨E,s,ag,hX,hE,h'⟩:=el_law h'
    obtain⟨l,b1,h'⟩:=rd h1 h'
    obtain⟨u,b2,h'⟩:=rd h2 h'
    cases mx with
    | some mo=>cases h'
    | none=>
     obtain⟨c,h''⟩:=zw h'
     cases h''
     simp only[qc,decide_eq_true_eq]at c
     obtain⟨rfl,rfl⟩:l=0∧u=0:=by omega
     exact⟨_,⟨_,_,rfl⟩,run hX hE (bnd (m:=cap) b1 b2 (.inl ⟨rfl,rfl⟩) (Nat.le_refl _) (Nat.zero_le _) (Nat.le_refl _) (fun _ _=>Nat.le_refl _))⟩
   | c v=>
    obtain rfl:=hx.1
    clear hx
    have h':slV u X lo hi mx τ=some r:=h
    unfold slV at h'
    split at h'
    ·obtain⟨E,s,ag,hX,hE,h'⟩:=el_law h'
     obtain⟨l,b1,h'⟩:=rd h1 h'
     obtain⟨u,b2,h'⟩:=rd h2 h'
     obtain⟨m,b3,h'⟩:=rd h3 h'
     obtain⟨c,h'⟩:=zw h'
     cases h'
     simp only[qc,decide_eq_true_eq]at c
     obtain⟨⟨rfl,rfl⟩,rfl⟩:(l=0∧u=0)∧m=0:=by omega
     exact⟨_,⟨rfl,rfl⟩,run hX hE (bnd b1 b2 b3 (Nat.le_refl _) (Nat.le_refl _) (Nat.le_refl _) (fun _ _=>Nat.le_refl _))⟩
    ·rename_i s _
     obtain⟨hS,h'⟩:=zw h'
     have hX:=isSt_law hS
     split at h'
     ·obtain⟨l,b1,h'⟩:=rd h1 h'
      obtain⟨u,b2,h'⟩:=rd h2 h'
      obtain⟨c,h'⟩:=zw h'
      cases h'
      simp only[Bool.and_eq_true,Nat.ble_eq]at c
      have hb:=bnd (isS:=false) (cap:=s.size) (m:=s.size) b1 b2 (.inl ⟨rfl,rfl⟩) c.1 c.2 (Nat.le_refl _) (fun k1 k2=>by rcases b2 with hk | ⟨k,hk⟩<;>first | (obtain⟨_,hk⟩:=hk; omega) | (rw[ov k2]at hk; cases hk))
      refine⟨_,⟨rfl,rfl⟩,fun w=>?_⟩
      rw[run_sliceAt_string w X _ _ _ _ hX]
      have hb':=hb w
      have hn:optV a (none:Option Operand)=none:=rfl
      rw[hn]at hb'
      simp only[Instr.slice,Sem.run_bind,run_underlying hX,Result.andThen_ok,hn,Option.isSome_none,Bool.false_eq_true,if_false,Sem.run_pure,hb']
     ·cases h'
    ·cases h'
   | _=>cases h
  | _=>cases h
 | _=>cases h
theorem len_p {e:Env} {T:TypeId} {l:List Operand} {g:L3→Option AV} (hk:lenK T l=.p g) {τ:L3} {r:AV} (h:g τ=some r) {us:List Value} (hl:zN (Dn e) (l.map fun o=>(evO o).v τ) us) (ts:List TypeId) (ty:TypeId):∃ q,Dn e r q∧Gives (Builtin.len_ ⟨T::ts⟩ ty ⟨us⟩) q:=by
 unfold lenK at hk
 split at hk
 ·cases hk
 ·rename_i E hT
  cases hk
  have h':=jr h
  obtain⟨x,hx,h'⟩:=kr h'
  rw[hx]at hl
  cases us with
  | nil=>exact hl.elim
  | cons u us=>
   cases us with
   | cons=>exact hl.2.elim
   | nil=>
    obtain⟨o,rfl,hNew⟩:=qL h'; clear h'; have h':=hNew; clear hNew
    have fin:∀ p n c,u=.slice p n c→Gives (Builtin.len_ ⟨T::ts⟩ ty ⟨[u]⟩) (.int .i64 n):=fun p n c hu w=>by
     subst hu
     simp[Builtin.len_,run_underlying hT,goInt]
    split at h'
    ·obtain rfl:=xw h'; exact⟨_,rfl,fin _ _ _ hl.1.2⟩
    ·obtain rfl:=xw h'; exact⟨_,rfl,fin _ _ _ hl.1.2.1⟩
    ·obtain rfl:=xw h'
     obtain⟨p,c,hu⟩:=hl.1
     exact⟨_,rfl,fin _ _ _ hu⟩
    ·obtain rfl:=xw h'; exact⟨_,rfl,fin _ _ _ hl.1.1⟩
    ·cases h'
 ·rename_i hT
  cases hk
  have h':=jr h
  obtain⟨x,hx,h'⟩:=kr h'
  rw[hx]at hl
  cases us with
  | nil=>exact hl.elim
  | cons u us=>
   cases us with
   | cons=>exact hl.2.elim
   | nil=>
    obtain⟨o,rfl,hNew⟩:=qL h'; clear h'; have h':=hNew; clear hNew
    split at h'
    ·rename_i s
     have h2:(nat s.size fun n=>gd (Nat.blt n 9223372036854775808) (some (AV.i .i64 (.ofNat n))))=some r:=h'
     rw[nat_eq]at h2
     obtain⟨_,h2⟩:=zw h2
     cases h2
     obtain⟨rfl,_⟩:=hl.1
     exact⟨_,rfl,fun w=>by simp[Builtin.len_,run_underlying hT,goInt]⟩
    ·cases h'
 ·cases hk
theorem cap_law {e:Env} {T:TypeId} {x r:AV} {u:Value} (hT:sliceT T=true) (h:(asO x fun x=>cpO x)=some r) (hx:Dn e x u) (ts:List TypeId) (ty:TypeId):∃ q,Dn e r q∧Gives (Builtin.cap_ ⟨T::ts⟩ ty ⟨[u]⟩) q:=by
 unfold sliceT at hT
 split at hT
 ·rename_i E hu
  obtain⟨o,rfl,h'⟩:=qL h
  have fin:∀ p n c,u=.slice p n c→Gives (Builtin.cap_ ⟨T::ts⟩ ty ⟨[u]⟩) (.int .i64 c):=fun p n c hu' w=>by
   subst hu'
   simp[Builtin.cap_,run_underlying hu,goInt]
  cases o with
  | s id off l c=>
   have h2:iLn c=some r:=h'
   obtain rfl:=xw h2
   exact⟨_,rfl,fin _ _ _ hx.2⟩
  | c v=>
   have h2:nlV v (iLn 0)=some r:=h'
   unfold nlV at h2
   split at h2
   ·obtain rfl:=xw h2
    exact⟨_,rfl,fin _ _ _ hx.1⟩
   ·cases h2
  | _=>cases h'
 ·cases hT
end Go.Ev
end
section
set_option linter.unusedVariables false
set_option linter.unusedSimpArgs false
set_option linter.constructorNameAsVariable false
namespace Go.Ev
open Go.Lw Go.RowKit
theorem spl_law {Z:Type} {z:Z} {off:Nat} {cs l:List Sc} {K:List Sc→Option Z} (h:spl off cs l K=some z):off+cs.length≤l.length∧K (l.take off++cs++l.drop (off+cs.length))=some z:=by
 unfold spl at h
 obtain⟨_,h⟩:=tke_law h
 obtain⟨h1,h2⟩:=zw h
 simp only[Nat.ble_eq,qU]at h1
 rw[ko,ko,drp_eq,qU,←List.append_assoc]at h2
 exact⟨h1,h2⟩
theorem foldSet:∀ (cu us:List Value) (off k:Nat),off+k+cu.length≤us.length→(cu.zipIdx k).foldl (fun(cs:Array Value) (p:Value×Nat)=>cs.setIfInBounds (off+p.2) p.1) ⟨us⟩=⟨us.take (off+k)++cu++us.drop (off+k+cu.length)⟩
 | [],us,off,k,h=>by simp
 | c::cu,us,off,k,h=>by
  simp only[List.length_cons]at h
  rw[List.zipIdx_cons,List.foldl_cons]
  have e1:(Array.mk us).setIfInBounds (off+k) c=⟨us.set (off+k) c⟩:=by simp
  rw[e1,foldSet cu (us.set (off+k) c) off (k+1) (by simp; omega)]
  congr 1
  have e2:off+(k+1)=off+k+1:=by omega
  have e3:off+k+1+cu.length=off+k+(cu.length+1):=by omega
  rw[e2,e3,List.take_succ_eq_append_getElem (by simp; omega),List.take_set_of_le (by omega),List.drop_set_of_lt (by omega)]
  simp
theorem fill_law {Z:Type} {z:Z} {e:Env} {X:TypeId} {τ:L3} {a:Act} {place:Nat→Option (Nat×Nat)} (hpl:∀ i q,plB X i=some q→place i=some q):∀ {ps:List (Nat×Operand)} {l:List Sc} {us:List Value} {K:List Sc→Option Z},fillE X τ ps l K=some z→
  (∀ p∈ps,Dn e ((evO p.2).v τ) (a.eval p.2))→zN (DnC e) l us→∃ l' us',K l'=some z∧zN (DnC e) l' us'∧l'.length=l.length∧Instr.fill place ⟨us⟩ (ps.map fun p=>(p.1,a.eval p.2))=some ⟨us'⟩
 | [],l,us,K,h,_,hu=>⟨l,us,h,hu,rfl,rfl⟩
 | p::ps,l,us,K,h,hp,hu=>by
  have h':Option.rec (motive:=fun _=>Option Z) none (fun q=>cellsOf ((evO p.2).v τ) fun cs=>gd (Nat.beq (len cs) q.2) (spl q.1 cs l fun l=>fillE X τ ps l K)) (plB X p.1)=some z:=h
  cases hq:plB X p.1 with
  | none=>rw[hq]at h'; cases h'
  | some q=>
   rw[hq]at h'
   obtain⟨cs,cu,h',hcu,hc⟩:=cellsOf_law (K:=fun cs=>gd (Nat.beq (len cs) q.2) (spl q.1 cs l fun l=>fillE X τ ps l K)) h' (hp p (by simp))
   obtain⟨h1,h'⟩:=zw h'
   simp only[qc,decide_eq_true_eq,qU]at h1
   obtain⟨h2,h'⟩:=spl_law h'
   have hcl:=hc.length
   have hul:=hu.length
   have hu':zN (DnC e) (l.take q.1++cs++l.drop (q.1+cs.length)) (us.take q.1++cu++us.drop (q.1+cu.length)):=by
    rw[←hcl]; exact((hu.take _).append hc).append (hu.drop _)
   obtain⟨l',us',k1,k2,k3,k4⟩:=fill_law hpl h' (fun p hp'=>hp p (List.mem_cons_of_mem _ hp')) hu'
   refine⟨l',us',k1,k2,by rw[k3]; simp; omega,?_⟩
   obtain⟨q1,q2⟩:=q
   rw[List.map_cons]
   simp only[Instr.fill,hpl _ _ hq,hcu]
   have hs:¬ ((Array.mk cu).size≠q2 || q1+(Array.mk cu).size > (Array.mk us).size)=true:=by
    simp only[List.size_toArray,ne_eq,decide_not,Bool.or_eq_true,Bool.not_eq_true',decide_eq_false_iff_not,decide_eq_true_eq,not_or,Decidable.not_not]
    exact⟨by rw[←hcl]; exact h1,by omega⟩
   rw[if_neg hs]
   have e1:(Array.mk cu).zipIdx.foldl (fun(cs:Array Value) (p:Value×Nat)=>cs.setIfInBounds (q1+p.2) p.1) ⟨us⟩=⟨us.take q1++cu++us.drop (q1+cu.length)⟩:=by
    rw[←Array.foldl_toList,Array.toList_zipIdx]
    have:=foldSet cu us q1 0 (by omega)
    simpa using this
   rw[←k4]
   congr 1
theorem zero_law (e:Env) {T:TypeId} {l:List Sc} (h:(zeroE T).g=some l):∃ zv us,zx Pr T=some zv∧zv.cells=⟨us⟩∧zN (DnC e) l us:=by
 unfold zeroE at h
 cases hz:zx Pr T with
 | none=>rw[hz]at h; cases h
 | some v=>
  rw[hz]at h
  have h':cellsOf (ofV v) some=some l:=h
  obtain⟨m,us,h1,h2,h3⟩:=cellsOf_law h' (ofV_law e v)
  cases h1
  exact⟨v,us,rfl,h2,h3⟩
theorem zeroB_info {T:TypeId} {z:Value} (h:zx Pr T=some z):∃ i,Pr.info? T=some i∧i.zero=some z:=by
 unfold zx at h
 cases hi:Pr.info? T with
 | none=>rw[hi]at h; cases h
 | some i=>rw[hi]at h; exact⟨i,rfl,h⟩
theorem places_some:∀ {fs:List Field},(fs.all fun f=>(tkB Pr f.type).isSome)=true→∃ places:List (Nat×Nat),fs.mapM (fun f=>(Pr.info? f.type).map fun i=>(f.offset,i.size))=some places∧places.length=fs.length∧∀ (i:Nat) (f:Field) (q:Bool×Nat),fs[i]? = some f→tkB Pr f.type=some q→places[i]? = some (f.offset,q.2)
 | [],_=>⟨[],by simp,rfl,fun i f q h=>by simp at h⟩
 | f::fs,h=>by
  simp only[List.all_cons,Bool.and_eq_true]at h
  obtain⟨q,hq⟩:=Option.isSome_iff_exists.1 h.1
  obtain⟨ti,hi,hs⟩:=tk_info (t:=f.type) (ag:=q.1) (s:=q.2) hq
  obtain⟨pl,h1,h2,h3⟩:=places_some h.2
  refine⟨(f.offset,ti.size)::pl,by simp[List.mapM_cons,hi,h1],by simp[h2],fun i g r hg hr=>?_⟩
  cases i with
  | zero=>simp at hg; subst hg; rw[hq]at hr; cases hr; simp[hs]
  | succ i=>simp at hg⊢; exact h3 i g r hg hr
theorem build_law {e:Env} {X:TypeId} {τ:L3} {a:Act} {ps:List (Nat×Operand)} {r:AV} (h:buildE X ps τ=some r) (hp:∀ p∈ps,Dn e ((evO p.2).v τ) (a.eval p.2)):∃ q,Dn e r q∧Gives (Instr.build X (ps.map fun p=>(p.1,a.eval p.2)).toArray) q:=by
 obtain⟨hA,h⟩:=zw h
 obtain⟨l,hl,h⟩:=zO h
 obtain⟨zv,us,hz,hzc,hzu⟩:=zero_law e hl
 obtain⟨it,hit,hiz⟩:=zeroB_info hz
 have fin:∀ place:Nat→Option (Nat×Nat),(∀ i q,plB X i=some q→place i=some q)→(∀ cells,Instr.fill place zv.cells (ps.map fun p=>(p.1,a.eval p.2))=some cells→Pr.built X (ps.map fun p=>(p.1,a.eval p.2))=some cells)→∃ q,Dn e r q∧Gives (Instr.build X (ps.map fun p=>(p.1,a.eval p.2)).toArray) q:=fun place h1 h2=>by
  obtain⟨l',us',k1,k2,_,k4⟩:=fill_law (place:=place) h1 h hp hzu
  cases k1
  refine⟨.agg ⟨us'⟩,⟨us',rfl,k2⟩,fun w=>run_build w X _ ⟨us'⟩ ?_⟩
  exact h2 _ (by rw[hzc]; exact k4)
 unfold aggT at hA
 split at hA
 ·rename_i fs hu
  obtain⟨pl,p1,p2,p3⟩:=places_some hA
  refine fin (pl.toArray[·]?) (fun i q hq=>?_) (fun cells hc=>?_)
  ·unfold plB at hq
   simp only[hu]at hq
   obtain⟨_,hq⟩:=zw hq
   split at hq
   ·rename_i fd hfd
    cases ht:tkB Pr fd.type with
    | none=>rw[ht]at hq; cases hq
    | some t=>
     rw[ht]at hq; cases hq
     have:=p3 i fd t (by simpa using hfd) ht
     simpa using this
   ·cases hq
  ·unfold Program.built
   simp only[hit,hu,hiz,p1]
   exact hc
 ·rename_i n E hu
  obtain⟨t,ht⟩:=Option.isSome_iff_exists.1 hA
  obtain⟨ie,hie,hse⟩:=tk_info (t:=E) (ag:=t.1) (s:=t.2) ht
  refine fin (fun i=>some (i*ie.size,ie.size)) (fun i q hq=>?_) (fun cells hc=>?_)
  ·unfold plB at hq
   simp only[hu,ht,Option.map_some,Option.some.injEq]at hq
   rw[←hq,hse]
  ·unfold Program.built
   simp only[hit,hu,hiz,hie]
   exact hc
 ·cases hA
/-! ### New blocks -/
theorem repL_get {l:List Sc} : ∀ {m j:Nat},j<m*l.length→(repL l m)[j]? = l[j % l.length]?
 | 0,j,h=>by simp at h
 | m+1,j,h=>by
  have e:repL l (m+1)=l++repL l m:=ko l (repL l m)
  rw[e]
  by_cases c:j<l.length
  ·rw[List.getElem?_append_left c,Nat.mod_eq_of_lt c]
  ·have c':l.length≤j:=by omega
   rw[List.getElem?_append_right c',repL_get (by rw[Nat.add_mul]at h; omega),←Nat.mod_eq_sub_mod c']
theorem rep_law {e:Env} {l:List Sc} {us:List Value} (h:zN (DnC e) l us) (m:Nat):zN (DnC e) (repL l m) ((List.range (m*l.length)).map fun i=>(Array.mk us)[i % us.length]!):=by
 refine zN.of_at (by rw[repL_len]; simp) fun j x y hx hy=>?_
 have hj:j<m*l.length:=by
  have:=(List.getElem?_eq_some_iff.1 hx).1
  rwa[repL_len]at this
 have h0:0<l.length:=by
  rcases Nat.eq_zero_or_pos l.length with c | c
  ·rw[c]at hj; omega
  ·exact c
 rw[repL_get hj]at hx
 have hlt:j % l.length<us.length:=by rw[←h.length]; exact Nat.mod_lt _ h0
 simp[hj]at hy
 refine h.at hx ?_
 rw[←h.length]at hy
 rw[←hy,List.getElem?_eq_getElem hlt]
 simp[getElem!_def,List.getElem?_eq_getElem hlt]
theorem cellsN_law {E:TypeId} {l:List Sc} {b:B} (h:cellsN E l=some b):∃ t,b=.c E l.length t∧l.length≤xC t∧∀ j s,l[j]? = some s→t.get (0+j)=.x s:=by
 unfold cellsN at h
 rw[nat_eq]at h
 obtain⟨t,h1,h⟩:=TV.emp_law h
 rw[qU]at h1
 obtain⟨t',c1,h,g1,_⟩:=setL_law h (by omega)
 cases h
 rw[qU]
 exact⟨t',rfl,by omega,g1⟩
theorem rowN_law {E:TypeId} {l:List Sc} {b:B} (h:rowN E l=some b):∃ t,b=.r E l.length t∧l.length≤xC t∧∀ j s,l[j]? = some s→t.get (0+j)=.x s:=by
 unfold rowN at h
 rw[nat_eq]at h
 obtain⟨t,h1,h⟩:=TV.emp_law h
 rw[qU]at h1
 obtain⟨t',c1,h,g1,_⟩:=setL_law h (by omega)
 cases h
 rw[qU]
 exact⟨t',rfl,by omega,g1⟩
def AllocOk (e:Env) (w:World) (al:Al) (q:Value) (w':World):Prop:=Below w.heap.size w w'∧refM al.b=none∧∀ id,¬ e.dom id→∃ bk c f,(inB al.b→w.heap.size≤bk∧bk<w'.heap.size)∧(∀ h,BOk (e.add id bk c f) h w' id al.b)∧Dn (e.add id bk c f) (al.v id) q
theorem kg (w:World) (o:Obj):Below w.heap.size w (w.alloc o):=(Below.refl w.heap.size w).alloc (Nat.le_refl _) o
theorem alloc_cells {e:Env} {w:World} {E:TypeId} {l:List Sc} {us:List Value} {b:B} (h:cellsN E l=some b) (hu:zN (DnC e) l us) {v:Nat→AV} {q:Value} (hv:∀ id e',Ext e e'→e'.dom id→e'.blk id=w.heap.size→Dn e' (v id) q):AllocOk e w ⟨b,v⟩ q (w.alloc (LC us E)):=by
 obtain⟨t,rfl,h1,h2⟩:=cellsN_law h
 refine⟨kg w _,rfl,fun id hid=>⟨w.heap.size,0,.nilFunc,fun _=>⟨Nat.le_refl _,by simp⟩,fun h=>?_,?_⟩⟩
 ·have x:=xA (e:=e) (bk:=w.heap.size) (c:=0) (f:=.nilFunc) hid
  refine⟨us,?_,hu.length.symm,TOk.fresh (hu.mono fun _ _=>DnC.ext x) rfl h1 h2⟩
  rw[qJ]; exact heap_alloc_new w _
 ·exact hv id _ (xA hid) (.inl rfl) qJ
theorem allocE_law {e:Env} {E:TypeId} {al:Al} (h:(allocE E).g=some al) (w:World):∃ q w',(Instr.alloc E true (.tuple #[])).run Pr w=.ok q w'∧AllocOk e w al q w':=by
 unfold allocE at h
 cases hz:(zeroE E).g with
 | none=>rw[hz]at h; cases h
 | some l=>
  rw[hz]at h
  cases hb:cellsN E l with
  | none=>
   have h':(Option.rec (motive:=fun _=>Az) (.mk none) (fun b=>.mk (some (.mk b fun id=>.x (.p id 0)))) (cellsN E l):Az).g=some al:=h
   rw[hb]at h'; cases h'
  | some b=>
   have h':(Option.rec (motive:=fun _=>Az) (.mk none) (fun b=>.mk (some (.mk b fun id=>.x (.p id 0)))) (cellsN E l):Az).g=some al:=h
   rw[hb]at h'; cases h'
   obtain⟨zv,us,h1,h2,h3⟩:=zero_law e hz
   refine⟨.pointer (some ⟨w.heap.size,0,none⟩),_,?_,alloc_cells hb h3 fun id e' x hd hbk=>⟨hd,by rw[adr,hbk]⟩⟩
   simp only[Instr.alloc,Sem.run_bind,run_zero h1,Result.andThen_ok,newVar,newRow,run_newObj,Sem.run_pure,h2]
   rfl
theorem boxE_law {e:Env} {E:TypeId} {x:AV} {v:Value} {al:Al} (h:boxE E x=some al) (hx:Dn e x v) (w:World):∃ q w',(Instr.box E v).run Pr w=.ok q w'∧AllocOk e w al q w':=by
 obtain⟨l,us,h,h1,h2⟩:=cellsOf_law h hx
 obtain⟨b,hb,h⟩:=zO h
 cases h
 refine⟨.pointer (some ⟨w.heap.size,0,none⟩),_,?_,alloc_cells hb h2 fun id e' x hd hbk=>⟨hd,by rw[adr,hbk]⟩⟩
 simp only[Instr.box,newVar,newRow,Sem.run_bind,Result.andThen_ok,run_newObj,Sem.run_pure,h1]
 rfl
theorem buildSlice_law {e:Env} {X:TypeId} {m:Nat} {τ:L3} {a:Act} {ps:List (Nat×Operand)} {al:Al} (h:jY X m ps τ=some al) (hp:∀ p∈ps,Dn e ((evO p.2).v τ) (a.eval p.2)) (w:World) :
  ∃ q w',(Instr.buildSlice X m (ps.map fun p=>(p.1,a.eval p.2)).toArray).run Pr w=.ok q w'∧AllocOk e w al q w':=by
 obtain⟨E,s,ag,hX,hE,h⟩:=el_law h
 obtain⟨h0,h⟩:=zw h
 obtain⟨l,hl,h⟩:=zO h
 obtain⟨h1,h⟩:=zw h
 simp only[Nat.ble_eq,qc,decide_eq_true_eq,qU]at h0 h1
 obtain⟨zv,us,hz,hzc,hzu⟩:=zero_law e hl
 obtain⟨ie,hie,hiz⟩:=zeroB_info hz
 obtain⟨ie',hie',hse⟩:=tk_info hE
 rw[hie]at hie'; cases hie'
 have hul:us.length=s:=by rw[←hzu.length]; exact h1
 obtain⟨l',us',k1,k2,k3,k4⟩:=fill_law (place:=fun i=>some (i*ie.size,ie.size)) (fun i q hq=>by
  unfold plB at hq
  simp only[hX,hE,Option.map_some,Option.some.injEq]at hq
  rw[←hq,hse]) h hp (rep_law hzu m)
 obtain⟨b,hb,k1⟩:=zO k1
 cases k1
 refine⟨.slice (some ⟨w.heap.size,0,none⟩) m m,w.alloc (LC us' E),?_,alloc_cells hb k2 fun id e' x hd hbk=>⟨hd,by rw[adr,hbk]⟩⟩
 rw[h1]at k4
 have e1:(Array.range (m*ie.size)).map (zv.cells[· % zv.cells.size]!)=⟨(List.range (m*s)).map fun i=>(Array.mk us)[i % us.length]!⟩:=by
  rw[hzc,hse]
  apply Array.ext'
  simp
 by_cases hpos:m*ie.size=0
 ·have e2:(List.range (m*s)).map (fun i=>(Array.mk us)[i % us.length]!)=[]:=by rw[←hse,hpos]; rfl
  rw[e2]at k4
  have hsm:¬ m*s > 2 ^ 24:=by omega
  rw[hse]at hpos k4
  simp[Instr.buildSlice,run_underlying hX,Go.Lw.run_sizeOf hE,hpos,k4,newRow,LC]
  rw[show Array.map (fun _=>(default:Value)) (Array.range 0)=(⟨[]⟩:Array Value)from by simp,k4]
  simp[run_newObj]
 ·refine run_buildSlice w X E m _ ⟨us'⟩ ie zv hX hie hiz (by rw[hse]; omega) hpos ?_
  rw[e1]; exact k4
theorem makeSlice_law {e:Env} {X:TypeId} {x y:AV} {u v:Value} {al:Al} (h:makeSliceE X x y=some al) (hx:Dn e x u) (hy:Dn e y v) (w:World):∃ q w',(Instr.makeSlice X u v).run Pr w=.ok q w'∧AllocOk e w al q w':=by
 obtain⟨E,s,ag,hX,hE,h⟩:=el_law h
 obtain⟨k,a,rfl,hNew⟩:=ja h; clear h; have h:=hNew; clear hNew
 obtain⟨k',b,rfl,hNew⟩:=ja h; clear h; have h:=hNew; clear hNew
 obtain⟨p,rfl,hNew⟩:=nn_law h; clear h; have h:=hNew; clear hNew
 obtain⟨q,rfl,hNew⟩:=nn_law h; clear h; have h:=hNew; clear hNew
 obtain⟨h0,h⟩:=zw h
 obtain⟨l,hl,h⟩:=zO h
 obtain⟨h1,h⟩:=zw h
 obtain⟨bk,hb,h⟩:=zO h
 cases h
 obtain rfl:u=_:=hx
 obtain rfl:v=_:=hy
 simp only[Bool.and_eq_true,Nat.ble_eq,qc,decide_eq_true_eq,qU]at h0 h1
 obtain⟨zv,us,hz,hzc,hzu⟩:=zero_law e hl
 obtain⟨ie,hie,hiz⟩:=zeroB_info hz
 obtain⟨ie',hie',hse⟩:=tk_info hE
 rw[hie]at hie'; cases hie'
 have hby:ie.bytes≤1073741824:=by
  have h2:=h0.2
  unfold szB at h2
  split at h2
  ·rename_i t ht
   simp only[Bool.and_eq_true,Nat.ble_eq]at h2
   obtain⟨i2,j1,_,_,j4⟩:=rowB_info (z:=t.1) (s:=t.2.1) (by_:=t.2.2) ht
   rw[hie]at j1; cases j1
   rw[j4]; exact h2.1.1
  ·cases h2
 have hq:q≤100000:=h0.1.2
 have hbb:ie.bytes*q≤1073741824*100000:=Nat.mul_le_mul hby hq
 have hbi:(ie.bytes:Int)*(q:Int)≤281474976710656:=by
  have:((ie.bytes*q:Nat):Int)≤281474976710656:=by omega
  push_cast at this
  exact this
 have hr:=run_make w X E ie zv hX hie hiz k k' (p:Int) (q:Int) (by omega) (by have:=h0.1.1; omega) hbi (by omega)
 simp only[Int.toNat_natCast]at hr
 refine⟨_,_,hr,?_⟩
 have hc:madeCells zv.cells (q*ie.size)=⟨(List.range (q*l.length)).map fun i=>(Array.mk us)[i % us.length]!⟩:=by
  rw[hzc,hse,←h1]
  apply Array.ext'
  simp[madeCells]
 rw[hc]
 exact alloc_cells hb (rep_law hzu q) fun id e' x hd hbk=>⟨hd,by rw[adr,hbk]⟩
theorem evL_all {e:Env} {τ:L3} {a:Act} : ∀ {l:List Operand},(∀ o∈l,Dn e ((evO o).v τ) (a.eval o))→zN (Dn e) (l.map fun o=>(evO o).v τ) (l.map a.eval)
 | [],_=>trivial
 | o::l,h=>⟨h o (by simp),evL_all fun p hp=>h p (by simp[hp])⟩
theorem makeFunc_law {e:Env} {fn:Fn} {fs cs:List Operand} {g:L3→Option Al} (hk:mkfE fn fs cs=.a g) {τ:L3} {al:Al} (h:g τ=some al) {a:Act} (h1:∀ o∈fs,Dn e ((evO o).v τ) (a.eval o)) (h2:∀ o∈cs,Dn e ((evO o).v τ) (a.eval o)) (w:World) :
  ∃ q w',(Instr.makeFunc fn (fs.map a.eval).toArray (cs.map a.eval).toArray).run Pr w=.ok q w'∧AllocOk e w al q w':=by
 unfold mkfE at hk
 split at hk
 ·rename_i f
  cases hk
  have h':=jr (jr h)
  cases h'
  refine⟨.func (.func f) (fs.map a.eval).toArray (cs.map a.eval).toArray,w,rfl,Below.refl _ _,rfl,fun id hid=>⟨0,0,.func (.func f) (fs.map a.eval).toArray (cs.map a.eval).toArray,fun k=>k.elim,fun h=>?_,?_⟩⟩
  ·have x:=xA (e:=e) (bk:=0) (c:=0) (f:=.func (.func f) (fs.map a.eval).toArray (cs.map a.eval).toArray) hid
   exact⟨_,_,add_clo,(evL_all h1).mono fun _ _=>Dn.ext x,(evL_all h2).mono fun _ _=>Dn.ext x⟩
  ·exact⟨.inl rfl,add_clo.symm,_,_,_,rfl⟩
 ·cases hk
theorem makeMap_law (e:Env) (t:TypeId) (w:World):∃ q w',(Instr.makeMap t none).run Pr w=.ok q w'∧AllocOk e w (.mk (.o (.m [])) fun id=>.x (.o (.m id))) q w':=by
 refine⟨.map (some w.heap.size),w.alloc (.map #[] 0),by simp[Instr.makeMap,run_newObj],kg w _,rfl,fun id hid=>⟨w.heap.size,0,.nilFunc,fun _=>⟨Nat.le_refl _,by simp⟩,fun h=>⟨[],0,?_,trivial,List.nodup_nil,fun _ h=>by cases h⟩,.inl rfl,by rw[qJ]⟩⟩
 rw[qJ]; exact heap_alloc_new w _
end Go.Ev
end
section
set_option linter.unusedVariables false
set_option linter.unusedSimpArgs false
set_option linter.constructorNameAsVariable false
namespace Go.Ev
open Go.Lw Go.RowKit
section
variable {w0:World} {e:Env} {h:H} {w:World}
theorem load_law (R:zG w0 e h w) {T:TypeId} {x r:AV} {u:Value} (hh:(loadE T).g x h=some r) (hx:Dn e x u):∃ q,Dn e r q∧(Instr.loadAt T u).run Pr w=.ok q w:=by
 cases hT:tkB Pr T with
 | none=>unfold loadE at hh; rw[hT]at hh; cases hh
 | some z=>
  obtain⟨ag,s⟩:=z
  unfold loadE at hh; rw[hT]at hh
  cases ag with
  | false=>
   have h':(asP x fun id off=>jX h id fun E n t=>gd (Nat.blt off n) (scal (t.get off) fun v=>some (AV.x v)))=some r:=hh
   obtain⟨id,off,rfl,hNew⟩:=jP h'; clear h'; have h':=hNew; clear hNew
   obtain⟨E,n,t,hb,h'⟩:=jG h'
   obtain⟨h1,h'⟩:=zw h'
   obtain⟨sc,h2,h'⟩:=scal_law h'
   cases h'
   obtain⟨hd,rfl⟩:=hx
   obtain⟨cs,h3,h4⟩:=R.cells hd hb
   obtain⟨s',v,h5,h6,h7⟩:=h4.2.2 off (jI h1)
   rw[h2]at h6; cases h6
   exact⟨v,h7.1,run_load_cell hT (cell_at h3 h5)⟩
  | true=>
   have h':(asP x fun id off=>jX h id fun E n t=>gd (Nat.ble (off+s) n) (getL t off s fun l=>some (AV.a l)))=some r:=hh
   obtain⟨id,off,rfl,hNew⟩:=jP h'; clear h'; have h':=hNew; clear hNew
   obtain⟨E,n,t,hb,h'⟩:=jG h'
   obtain⟨h1,h'⟩:=zw h'
   obtain⟨l,h2,h3,h'⟩:=getL_law h'
   cases h'
   obtain⟨hd,rfl⟩:=hx
   obtain⟨us,k1,k2,k3⟩:=R.row hd hb h3 (by rw[h2]; exact Nat.le_of_ble_eq_true h1)
   exact⟨_,⟨us,rfl,k2⟩,xh hT (by rw[k1,h2]) k3⟩
theorem load_more {h':H} (hk:∀ j,hget h j≠.x→hget h' j=hget h j) {T:TypeId} {x r:AV} (hh:(loadE T).g x h=some r):(loadE T).g x h'=some r:=by
 have key:∀ {id:Nat} {K:Nat→Nat→TV→Option AV},jX h id K=some r→jX h' id K=some r:=fun {id K} hc=>by
  obtain⟨E,n,t,hb,_⟩:=jG hc
  have:hget h' id=hget h id:=hk id (by rcases hb with k | k<;>rw[k]<;>exact fun c=>by cases c)
  unfold jX at hc⊢
  rw[this]; exact hc
 cases hT:tkB Pr T with
 | none=>unfold loadE at hh; rw[hT]at hh; cases hh
 | some z=>
  obtain⟨ag,s⟩:=z
  unfold loadE at hh⊢; rw[hT]at hh⊢
  cases ag with
  | false=>
   have h':(asP x fun id off=>jX h id fun E n t=>gd (Nat.blt off n) (scal (t.get off) fun v=>some (AV.x v)))=some r:=hh
   obtain⟨id,off,rfl,hNew⟩:=jP h'; clear h'; have h':=hNew; clear hNew
   exact key h'
  | true=>
   have h':(asP x fun id off=>jX h id fun E n t=>gd (Nat.ble (off+s) n) (getL t off s fun l=>some (AV.a l)))=some r:=hh
   obtain⟨id,off,rfl,hNew⟩:=jP h'; clear h'; have h':=hNew; clear hNew
   exact key h'
theorem blkO_more {h':H} (hk:∀ j,hget h j≠.x→hget h' j=hget h j) {Z:Type} {z:Z} {id:Nat} {K:BO→Option Z} (hc:blkO h id K=some z):blkO h' id K=some z:=by
 obtain⟨b,hb,_⟩:=jg hc
 have:hget h' id=hget h id:=hk id (by rw[hb]; exact fun c=>by cases c)
 unfold blkO at hc⊢
 rw[this]; exact hc
theorem leftJ_sub {seen:Array Nat} {es:List MapEntry} {ks:List Bool} (h:es.length≤ks.length):(jy seen (es.zip ks)).Sublist es:=by
 have:=(List.filter_sublist (p:=fun z:MapEntry×Bool=>z.2 || !seen.contains z.1.born) (l:=es.zip ks)).map Prod.fst
 rwa[List.map_fst_zip h]at this
theorem leftJ_mem {seen:Array Nat} {es:List MapEntry} {ks:List Bool} {j:Nat} {en:MapEntry} (h1:es[j]? = some en) (h2:ks[j]? = some true):en∈jy seen (es.zip ks):=by
 have h3:(es.zip ks)[j]? = some (en,true):=List.getElem?_zip_eq_some.2 ⟨h1,h2⟩
 exact List.mem_map.2 ⟨(en,true),List.mem_filter.2 ⟨List.mem_of_getElem? h3,by simp⟩,rfl⟩
theorem entry_law (R:zG w0 e h w) {x r:AV} {u:Value} (hh:entryE x h=some r) (hx:Dn e x u):∃ q,Dn e r q∧(Instr.entry u).run Pr w=.ok q w:=by
 obtain⟨id,off,rfl,h'⟩:=jP hh
 obtain⟨h1,h'⟩:=zw h'
 simp only[qc,decide_eq_true_eq]at h1
 subst h1
 obtain⟨b,hb,h'⟩:=jg h'
 obtain⟨hd,rfl⟩:=hx
 have ok:=R.ok id hd
 rw[hb]at ok
 have fin:∀ k v en,DnE e (k,v) en→toSum k (fun k=>toSum v fun v=>some (AV.t [k,v]))=some r→Dn e r (.tuple #[en.key,en.val]):=fun k v en hE hk=>by
  rcases toSum_law hk with ⟨s,rfl,hk1⟩ | ⟨s,rfl,hk1⟩<;>rcases toSum_law hk1 with ⟨t,rfl,hk2⟩ | ⟨t,rfl,hk2⟩<;>cases hk2<;>exact⟨_,rfl,hE.1,hE.2,trivial⟩
 cases b with
 | c m k v l rem=>
  obtain⟨h1,h2,es,c,since,seen,en,⟨h3,h4,h5⟩,h6,h7,h8,h9,h10⟩:=ok
  exact⟨_,fin k v en h10 h',run_entry_at (P:=Pr) w (e.blk id) (e.blk m) since seen ⟨es⟩ c en h4 h3 h9 h6.2.1⟩
 | k m key v l keep z cur=>
  obtain⟨h1,gone,L,h2,es,c,since,seen,j,en,g1,g2,⟨h3,h4,h5⟩,h6,h7⟩:=ok
  obtain⟨bm,hbm,h'⟩:=jg h'
  rw[h2]at hbm
  cases hbm
  cases gone with
  | true=>cases h'
  | false=>
   have hlen:=h6.1.length
   simp only[List.length_map]at hlen
   have hj:j<l.length:=(List.getElem?_eq_some_iff.1 g2).1
   have hE:DnE e (key,v) en:=h6.1.at (by rw[List.getElem?_map,g2]; rfl) g1
   have hs:((l.map (·.2)).set j (!false))[j]? = some true:=by rw[List.getElem?_set_self (by simpa using hj)]; rfl
   exact⟨_,fin key v en hE h',run_entry_at (P:=Pr) w (e.blk id) (e.blk m) since seen ⟨_⟩ c en h4 h3 (leftJ_mem g1 hs) ((List.Sublist.map _ (leftJ_sub (by simp; omega))).nodup h6.2.1)⟩
 | _=>cases h'
theorem entry_more {h':H} (hk:∀ j,hget h j≠.x→hget h' j=hget h j) {x r:AV} (hh:entryE x h=some r):entryE x h'=some r:=by
 obtain⟨id,off,rfl,hs⟩:=jP hh
 obtain⟨h1,hs⟩:=zw hs
 show gd (Nat.beq off 0) _=_
 rw[h1]
 obtain⟨b,hb,hs2⟩:=jg hs
 have hb':hget h' id=.o b:=by rw[hk id (by rw[hb]; exact fun c=>by cases c)]; exact hb
 show blkO h' id _=_
 unfold blkO
 rw[hb']
 cases b with
 | c m k v l rem=>exact hs2
 | k m key v l keep z cur=>exact blkO_more hk hs2
 | _=>cases hs2
/-! ### What a step that writes leaves -/
def Out (w0:World) (e:Env) (h:H) (K:AV→H→R) (v:Value) (w':World):Prop:=∃ x h' e' z',K x h'=some z'∧Dn e' x v∧zG w0 e' h' w'∧Fr e h e' h'
def OutU (w0:World) (e:Env) (h:H) (K:H→R) (w':World):Prop:=∃ h' e' z',K h'=some z'∧zG w0 e' h' w'∧Fr e h e' h'
theorem Out.trans {e':Env} {h':H} {K:AV→H→R} {v:Value} {w':World} (F:Fr e h e' h') (O:Out w0 e' h' K v w'):Out w0 e h K v w':=by
 obtain⟨x,h2,e2,z2,k1,k2,k3,k4⟩:=O
 exact⟨x,h2,e2,z2,k1,k2,k3,F.trans k4⟩
theorem editB_law {id:Nat} {K:Nat→TV→(TV→B)→R} {z:List (AV×H)} (hh:editB h id K=some z):∃ E n t,(hget h id=.c E n t∧K n t (.c E n)=some z)∨(hget h id=.r E n t∧K n t (.r E n)=some z):=by
 unfold editB at hh
 cases hb:hget h id with
 | x=>rw[hb]at hh; cases hh
 | c E n t=>rw[hb]at hh; exact⟨E,n,t,.inl ⟨rfl,hh⟩⟩
 | r E n t=>rw[hb]at hh; exact⟨E,n,t,.inr ⟨rfl,hh⟩⟩
 | o b=>rw[hb]at hh; cases hh
theorem edit_law (R:zG w0 e h w) {id off:Nat} (hd:e.dom id) {l:List Sc} {us:List Value} (hu:zN (DnC e) l us) {K:H→Ev.R} {z:List (AV×H)} {q:Nat} (hq:off+l.length≤q)
  (hh:editB h id (fun n t mk=>gd (Nat.ble q n) (setL l t off fun t=>xm h id (mk t) K))=some z) :
  ∃ E cs,w.heap[e.blk id]? = some (LC cs E)∧q≤cs.length∧∀ w',w.grownBy w' (some (e.blk id))→w'.heap[e.blk id]? = some (LC (cs.take off++us++cs.drop (off+us.length)) E)→OutU w0 e h K w':=by
 obtain⟨E,n,t,hb⟩:=editB_law hh
 have hul:=hu.length
 have key:∀ mk:TV→B,(∀ t,mk t=.c E n t)∧hget h id=.c E n t∨(∀ t,mk t=.r E n t)∧hget h id=.r E n t→gd (Nat.ble q n) (setL l t off fun t=>xm h id (mk t) K)=some z→∃ E cs,w.heap[e.blk id]? = some (LC cs E)∧q≤cs.length∧∀ w',w.grownBy w' (some (e.blk id))→w'.heap[e.blk id]? = some (LC (cs.take off++us++cs.drop (off+us.length)) E)→OutU w0 e h K w':=fun mk hmk hk=>by
  obtain⟨h1,hk⟩:=zw hk
  have h1:=Nat.le_of_ble_eq_true h1
  have hk':hget h id=.c E n t∨hget h id=.r E n t:=hmk.imp And.right And.right
  obtain⟨cs,h2,h3⟩:=R.cells hd hk'
  have hnc:=h3.2.1
  obtain⟨t',c1,hk,g1,g2⟩:=setL_law hk (by omega)
  obtain⟨hlo,h',P,hk⟩:=kz hk (R.zY hd)
  have RL:=R.low' id
  refine⟨E,cs,h2,by have:=h3.1; omega,fun w' hg hw=>⟨h',e,z,hk,?_,?_⟩⟩
  ·have ht:=h3.write hu c1 g1 g2 (by omega)
   have ok:=R.ok id hd
   rcases hmk with ⟨m1,m2⟩ | ⟨m1,m2⟩
   ·rw[m2]at ok
    obtain⟨cs',k1,k2,k3⟩:=ok
    rw[h2]at k1
    have:cs'=cs:=by unfold LC at k1; simpa using k1.symm
    subst this
    refine RL.put P hd (by show inB (hget h id); rw[m2]; trivial) (by show ¬ hidK (hget h id); rw[m2]; exact fun c=>c) hg ?_ (fun m k=>by rw[m1]at k; cases k)
    rw[m1]
    exact⟨_,hw,by simp; omega,ht⟩
   ·rw[m2]at ok
    obtain⟨cs',zz,k1,k2,k3,k4,k5⟩:=ok
    rw[h2]at k1
    have:cs'=cs:=by unfold LC at k1; simpa using k1.symm
    subst this
    refine RL.put P hd (by show inB (hget h id); rw[m2]; trivial) (by show ¬ hidK (hget h id); rw[m2]; exact fun c=>c) hg ?_ (fun m k=>by rw[m1]at k; cases k)
    rw[m1]
    exact⟨_,zz,hw,ht,k3,by rw[←k4]; simp; have:=h3.1; omega,k5⟩
  ·exact(fr_low e h id).trans <| RL.frPut P hd (.inl hlo) (by show kD (hget h id) _; rcases hk' with k | k<;>rw[k]<;>trivial)
 rcases hb with ⟨hb,hk⟩ | ⟨hb,hk⟩
 ·exact key _ (.inl ⟨fun _=>rfl,hb⟩) hk
 ·exact key _ (.inr ⟨fun _=>rfl,hb⟩) hk
theorem store_law (R:zG w0 e h w) {T:TypeId} {x y:AV} {u v:Value} {K:H→Ev.R} {z:List (AV×H)} (hh:(storeE T).g x y h K=some z) (hx:Dn e x u) (hy:Dn e y v):∃ w',(Instr.storeAt T u v).run Pr w=.ok () w'∧OutU w0 e h K w':=by
 cases hT:tkB Pr T with
 | none=>unfold storeE at hh; rw[hT]at hh; cases hh
 | some zt=>
  unfold storeE at hh; rw[hT]at hh
  have h':(asP x fun id off=>editB h id fun n t mk=>cellsOf y fun l=>gd (Nat.beq (len l) zt.2 && Nat.ble (off+zt.2) n) (setL l t off fun t=>xm h id (mk t) K))=some z:=hh
  obtain⟨id,off,rfl,hNew⟩:=jP h'; clear h'; have h':=hNew; clear hNew
  obtain⟨hd,rfl⟩:=hx
  obtain⟨E,n,t,hb⟩:=editB_law h'
  have hk:∃ mk,(cellsOf y fun l=>gd (Nat.beq (len l) zt.2 && Nat.ble (off+zt.2) n) (setL l t off fun t=>xm h id (mk t) K))=some z∧((mk=B.c E n∧hget h id=.c E n t)∨(mk=B.r E n∧hget h id=.r E n t)):=by
   rcases hb with ⟨hb,hk⟩ | ⟨hb,hk⟩
   ·exact⟨_,hk,.inl ⟨rfl,hb⟩⟩
   ·exact⟨_,hk,.inr ⟨rfl,hb⟩⟩
  obtain⟨mk,hk,hmk⟩:=hk
  obtain⟨l,us,hk,hc,hu⟩:=cellsOf_law hk hy
  obtain⟨h1,hk⟩:=zw hk
  simp only[Bool.and_eq_true,qc,decide_eq_true_eq,qU]at h1
  have hul:=hu.length
  have hk2:editB h id (fun n t mk=>gd (Nat.ble (off+zt.2) n) (setL l t off fun t=>xm h id (mk t) K))=some z:=by
   unfold editB
   rcases hmk with ⟨rfl,hb⟩ | ⟨rfl,hb⟩<;>rw[hb]<;>show gd (Nat.ble (off+zt.2) n) _=_<;>rw[h1.2]<;>exact hk
  obtain⟨E',cs,k1,k2,k3⟩:=edit_law R hd hu (q:=off+zt.2) (by omega) hk2
  have hT':tkB Pr T=some (zt.1,us.length):=by rw[hT,←hul,h1.1]
  have hle:off+us.length≤cs.length:=by have:=h1.1; omega
  obtain⟨w',r1,r2,r3⟩:=run_storeAt_blk (P:=Pr) hT' hc k1 hle hu.one
  exact⟨w',r1,k3 w' r2 r3⟩
theorem storeL_law (R:zG w0 e h w) {id off:Nat} (hd:e.dom id) {l:List Sc} {us:List Value} (hu:zN (DnC e) l us) {K:H→Ev.R} {z:List (AV×H)} (hh:storeL id off l h K=some z):∃ w',(storeCells (adr e id off) us).run Pr w=.ok () w'∧OutU w0 e h K w':=by
 unfold storeL at hh
 have hul:=hu.length
 rw[qU]at hh
 obtain⟨E',cs,k1,k2,k3⟩:=edit_law R hd hu (q:=off+l.length) (Nat.le_refl _) hh
 obtain⟨w',r1,r2,r3⟩:=qi (P:=Pr) us 0 off cs w k1 (by omega) hu.one
 exact⟨w',r1,k3 w' r2 (by simpa using r3)⟩
structure Src (e:Env) (w:World) (v:Value) (s m:Nat) (l:List Sc):Prop where
 len:∀ w',(Builtin.lenOf v).run Pr w'=.ok m w'
 cells:∀ n,n≤m→∃ us,us.length=n*s∧zN (DnC e) (l.take (n*s)) us∧∀ w',w'.heap=w.heap→(Builtin.firstCells s n v).run Pr w'=.ok ⟨us⟩ w'
 size:l.length=m*s
theorem csE_law (R:zG w0 e h w) {id off n s:Nat} (hd:e.dom id) {Z:Type} {z:Z} {K:Nat→List Sc→Option Z} (hh:csE id off n s h K=some z) (c:Nat):∃ l,K n l=some z∧Src e w (.slice (some (adr e id off)) n c) s n l:=by
 have lenS:∀ w',(Builtin.lenOf (.slice (some (adr e id off)) n c)).run Pr w'=.ok n w':=fun w'=>by simp[Builtin.lenOf]
 cases n with
 | zero=>
  refine⟨[],hh,lenS,fun k hk=>?_,by simp⟩
  obtain rfl:k=0:=by omega
  exact⟨[],by simp,by simp[zN],fun w' _=>by simp[Builtin.firstCells,loadCells,loadCellsFrom]⟩
 | succ n=>
  have h':(jX h id fun E q t=>gd (Nat.ble (off+(n+1)*s) q) (getL t off ((n+1)*s) fun r=>K (n+1) r))=some z:=hh
  obtain⟨E,q,t,hb,h'⟩:=jG h'
  obtain⟨h1,h'⟩:=zw h'
  have h1:=Nat.le_of_ble_eq_true h1
  obtain⟨l,h2,h3,h'⟩:=getL_law h'
  refine⟨l,h',lenS,fun k hk=>?_,h2⟩
  have hks:k*s≤(n+1)*s:=Nat.mul_le_mul_right s hk
  obtain⟨us,k1,k2,k3⟩:=R.row hd hb (l:=l.take (k*s)) (fun j x hj=>h3 j x (by
   rw[List.getElem?_take]at hj
   split at hj
   ·exact hj
   ·cases hj)) (by rw[List.length_take]; omega)
  have hlen:us.length=k*s:=by rw[k1,List.length_take]; omega
  refine⟨us,hlen,k2,fun w' hw=>run_firstCells_some (P:=Pr) w' s k _ (n+1) c us hlen fun j u hj=>?_⟩
  have:=k3 j u hj
  rw[←this]
  unfold World.cell?
  rw[hw]
theorem cellsS_law (R:zG w0 e h w) {x:So} {v:Value} {s:Nat} (hx:DnO e x v) {Z:Type} {z:Z} {K:Nat→List Sc→Option Z} (hh:cellsS x s h K=some z):∃ m l,K m l=some z∧Src e w v s m l:=by
 cases x with
 | s id off n c=>
  obtain⟨hd,rfl⟩:=hx
  obtain⟨l,k1,k2⟩:=csE_law R hd (K:=K) hh c
  exact⟨n,l,k1,k2⟩
 | w id off n c=>
  obtain⟨hd,rfl,_⟩:=hx
  obtain⟨l,k1,k2⟩:=csE_law R hd (K:=K) hh (e.cap id-c)
  exact⟨n,l,k1,k2⟩
 | e=>
  obtain⟨a,c,rfl⟩:=hx
  refine⟨0,[],hh,fun w'=>by simp[Builtin.lenOf],fun n hn=>?_,by simp⟩
  obtain rfl:n=0:=by omega
  refine⟨[],by simp,by simp[zN],fun w' _=>?_⟩
  cases a<;>simp[Builtin.firstCells,loadCells,loadCellsFrom]
 | c u=>
  obtain⟨rfl,_⟩:=hx
  have h':nlV v (K 0 [])=some z:=hh
  unfold nlV at h'
  split at h'
  ·refine⟨0,[],h',fun w'=>by simp[Builtin.lenOf],fun n hn=>?_,by simp⟩
   obtain rfl:n=0:=by omega
   exact⟨[],by simp,by simp[zN],fun w' _=>by simp[Builtin.firstCells]⟩
  ·cases h'
 | _=>cases hh
end
end Go.Ev
end
section
set_option linter.unusedVariables false
set_option linter.unusedSimpArgs false
set_option linter.constructorNameAsVariable false
namespace Go.Ev
open Go.Lw Go.RowKit
structure App (w:World) (X Y:TypeId) (E s:Nat) (z:Value) (by_:Nat) (v:Value) (m:Nat) (news:List Value):Prop where
 hX:Pr.underlying X=some (.slice E)
 i:∃ i,Pr.info? E=some i∧i.zero=some z∧i.size=s∧i.bytes=by_
 y:∃ d,Pr.underlying Y=some d∧∀ k,d≠.int k
 len:∀ w',(Builtin.lenOf v).run Pr w'=.ok m w'
 cells:∀ w',w'.heap=w.heap→(Builtin.firstCells s m v).run Pr w'=.ok ⟨news⟩ w'
 size:news.length=m*s
theorem app_room {w:World} {X Y E s:Nat} {z:Value} {by_ m:Nat} {v:Value} {news:List Value} (A:App w X Y E s z by_ v m news) (ts:List TypeId) (ty:TypeId) (p:Addr) (l c:Nat) (hr:l+m≤c) {w':World} (hs:(storeCells (p.add (l*s)) news).run Pr w=.ok () w') :
  (Builtin.append_ ⟨X::Y::ts⟩ ty ⟨[.slice (some p) l c,v]⟩).run Pr w=.ok (.slice (some p) (l+m) c) w':=by
 obtain⟨i,hi,hz,hsz,hb⟩:=A.i
 obtain⟨d,hd,hni⟩:=A.y
 have hY:(match d with | .int _=>true | _=>false)=false:=by cases d<;>first | rfl | exact absurd rfl (hni _)
 have hl:=A.len w
 have hc:=A.cells w rfl
 simp[Builtin.append_,run_underlying A.hX,run_underlying hd,sizeOf,typeInfo,hi,hl,hr,hsz,hc,hs]
theorem app_grow {w:World} {X Y E s:Nat} {z:Value} {by_ m:Nat} {v:Value} {news olds:List Value} (A:App w X Y E s z by_ v m news) (ts:List TypeId) (ty:TypeId) (p:Option Addr) (l c:Nat) (hr:c<l+m)
  (ho:∀ w',w'.heap=w.heap→(Builtin.firstCells s l (.slice p l c)).run Pr w'=.ok ⟨olds⟩ w') (h63:l+m≤9223372036854775807) (hfit:Builtin.nextslicecap (l+m) c*by_≤281474976710656) :
  (Builtin.append_ ⟨X::Y::ts⟩ ty ⟨[.slice p l c,v]⟩).run Pr w=.ok (.slice (some ⟨w.heap.size,0,none⟩) (l+m) (grownCap w (l+m) c E)) (w.drew.alloc (LC (olds++news++(Builtin.zeroCells z.cells (grownCap w (l+m) c E-(l+m))).toList) E)):=by
 obtain⟨i,hi,hz,hsz,hb⟩:=A.i
 obtain⟨d,hd,hni⟩:=A.y
 have hl:=A.len w
 have hn:¬ (l+m≤c):=by omega
 have h63':¬ (9223372036854775807<((l:Int)+(m:Int))):=by omega
 have h48':¬ (281474976710656<Builtin.nextslicecap (l+m) c*by_):=by omega
 have hc:=A.cells w.drew rfl
 have ho':=ho w.drew rfl
 have hd':∀ k,d≠.int k:=hni
 simp[Builtin.append_,run_underlying A.hX,run_underlying hd,sizeOf,typeInfo,zeroValue,hi,hz,hsz,hb]
 cases d<;>first
  | exact absurd rfl (hni _)
  | (simp[hl,hn,h63',h48',Question.forced,hc,ho',newRow,grownCap,LC]; congr 2; apply Array.ext'; simp[List.append_assoc])
theorem szB_law {E:TypeId} (h:szB E=true):∃ i z,Pr.info? E=some i∧i.zero=some z∧i.bytes≤1073741824∧0<i.size∧z.cells.size=i.size:=by
 unfold szB at h
 split at h
 ·rename_i t ht
  simp only[Bool.and_eq_true,Nat.ble_eq]at h
  obtain⟨i,j1,j2,j3,j4⟩:=rowB_info (z:=t.1) (s:=t.2.1) (by_:=t.2.2) ht
  refine⟨i,t.1,j1,j2,by rw[j4]; exact h.1.1,by rw[j3]; exact jI h.1.2,?_⟩
  rw[j3]; simpa [qc]using h.2
 ·cases h
theorem capV_le (t:TV):xC t≤4096:=by
 cases t with
 | s=>show 8≤4096; omega
 | t=>show 64≤4096; omega
 | m=>show 512≤4096; omega
 | l=>show 4096≤4096; omega
section
variable {w0:World} {e:Env} {h:H} {w:World}
theorem zG.alloc (R:zG w0 e h w) {al:Al} {q:Value} {w':World} (A:AllocOk e w al q w') {K:AV→H→Ev.R} {z:List (AV×H)} (hh:newB h al.b (fun id h=>K (al.v id) h)=some z):Out w0 e h K q w':=by
 obtain⟨h',N,hk⟩:=newB_law hh
 obtain⟨hb,hrf,A⟩:=A
 have R':=R.push N
 have hid:¬ e.dom h.nxt:=fun k=>by have:=R.lt _ k; omega
 obtain⟨bk,c,f,a1,a2,a3⟩:=A h.nxt hid
 have hg:hget h' h.nxt=al.b:=by rw[N.get _ N.lt,if_pos rfl]
 have hs:=R.below.size
 refine⟨_,h',_,z,hk,a3,R'.add hid (by rw[N.nxt]; omega) hb (fun k=>?_) (by rw[hg]; exact a2 h') (fun m hm=>by rw[hg,hrf]at hm; cases hm),(R.frNew N).add hid (Nat.le_refl _)⟩
 rw[hg]at k
 have:=a1 k
 refine⟨by omega,this.2,fun j hj hi he=>?_⟩
 have:=(R'.low j hj hi).2
 omega
theorem TOk.fresh' {e:Env} {n:Nat} {t':TV} {us rest:List Value} {l:List Sc} (hu:zN (DnC e) l us) (hn:n=l.length) (hc:n≤xC t') (h1:∀ j s,l[j]? = some s→t'.get (0+j)=.x s):TOk e n t' (us++rest):=by
 have hT:=TOk.fresh hu hn hc h1
 refine⟨by have:=hT.1; simp; omega,hT.2.1,fun j hj=>?_⟩
 obtain⟨sc,vv,a1,a2,a3⟩:=hT.2.2 j hj
 exact⟨sc,vv,by rw[List.getElem?_append_left (List.getElem?_eq_some_iff.1 a1).1]; exact a1,a2,a3⟩
theorem TOk.list {e:Env} {n:Nat} {t:TV} {cs:List Value} (h:TOk e n t cs):∀ k,k≤n→∃ l:List Sc,l.length=k∧∀ j s,l[j]? = some s→t.get (0+j)=.x s
 | 0,_=>⟨[],rfl,fun j s hj=>by simp at hj⟩
 | k+1,hk=>by
  obtain⟨l,h1,h2⟩:=TOk.list h k (by omega)
  obtain⟨s,v,a1,a2,a3⟩:=h.2.2 k (by omega)
  refine⟨l++[s],by simp[h1],fun j u hj=>?_⟩
  by_cases c:j<l.length
  ·rw[List.getElem?_append_left c]at hj; exact h2 j u hj
  ·rw[List.getElem?_append_right (by omega)]at hj
   have:j=k:=by
    have:=(List.getElem?_eq_some_iff.1 hj).1
    simp at this; omega
   subst this
   rw[h1,Nat.sub_self]at hj
   simp at hj; subst hj
   rw[Nat.zero_add]; exact a2
theorem csE_size (R:zG w0 e h w) {id off n s:Nat} (hd:e.dom id) {Z:Type} {z:Z} {K:Nat→List Sc→Option Z} (hh:csE id off n s h K=some z):n*s≤4096:=by
 cases n with
 | zero=>omega
 | succ n=>
  have h':(jX h id fun E q t=>gd (Nat.ble (off+(n+1)*s) q) (getL t off ((n+1)*s) fun r=>K (n+1) r))=some z:=hh
  obtain⟨E,q,t,hb,h'⟩:=jG h'
  obtain⟨h1,h'⟩:=zw h'
  have h1:=Nat.le_of_ble_eq_true h1
  obtain⟨cs,h2,h3⟩:=R.cells hd hb
  have:=h3.2.1
  have:=capV_le t
  omega
theorem fits_law {n m:Nat} {t:TV} (hn:n≤xC t) (h:fits n m=true):m≤xC t:=by
 unfold fits at h
 simp only[Bool.or_eq_true,Bool.and_eq_true,Nat.ble_eq,Nat.blt_eq]at h
 cases t with
 | s=>have hn:n≤8:=hn; show m≤8; omega
 | t=>have hn:n≤64:=hn; show m≤64; omega
 | m=>have hn:n≤512:=hn; show m≤512; omega
 | l=>have hn:n≤4096:=hn; show m≤4096; omega
theorem rowK_law {id:Nat} {K:Nat→Nat→TV→Ev.R} {z:List (AV×H)} (hh:rowK h id K=some z):∃ E n t,hget h id=.r E n t∧K E n t=some z:=by
 unfold rowK at hh
 cases hb:hget h id with
 | r E n t=>rw[hb]at hh; exact⟨E,n,t,rfl,hh⟩
 | _=>rw[hb]at hh; cases hh
theorem apO_law (R:zG w0 e h w) {X Y:TypeId} {E s:Nat} {x:So} {u v:Value} {m:Nat} {new:List Sc} {K:AV→H→Ev.R} {z:List (AV×H)} (hX:Pr.underlying X=some (.slice E)) {ag:Bool} (hE:tkB Pr E=some (ag,s)) (hY:∃ d,Pr.underlying Y=some d∧∀ k,d≠.int k) (hsz:szB E=true) (hm:0<m) (hms:m*s≤4096)
  (hx:DnO e x u) (S:Src e w v s m new) (hh:apO x E s m new h K=some z) (ts:List TypeId) (ty:TypeId):∃ q w',(Builtin.append_ ⟨X::Y::ts⟩ ty ⟨[u,v]⟩).run Pr w=.ok q w'∧Out w0 e h K q w':=by
 obtain⟨i,zv,hi,hz,hby,hpos,zc⟩:=szB_law hsz
 obtain⟨i',hi',hse⟩:=tk_info hE
 rw[hi]at hi'; cases hi'
 rw[hse]at hpos zc
 obtain⟨news,n1,n2,n3⟩:=S.cells m (Nat.le_refl _)
 have hnl:new.take (m*s)=new:=by rw[←S.size]; exact List.take_length
 rw[hnl]at n2
 have A:App w X Y E s zv i.bytes v m news:=⟨hX,⟨i,hi,hz,hse,rfl⟩,hY,S.len,n3,n1⟩
 have hnn:=n2.length
 have mle:m≤m*s:=Nat.le_mul_of_pos_right m hpos
 -- a new row
 have growA:∀ (p:Option Addr) (l c:Nat) (old:List Sc) (olds:List Value) (t:TV),c<l+m→l*s≤4096→zN (DnC e) old olds→olds.length=l*s→(∀ w',w'.heap=w.heap→(Builtin.firstCells s l (.slice p l c)).run Pr w'=.ok ⟨olds⟩ w')→
   (old++new).length≤xC t→(∀ j s,(old++new)[j]? = some s→t.get (0+j)=.x s)→∃ q w',(Builtin.append_ ⟨X::Y::ts⟩ ty ⟨[.slice p l c,v]⟩).run Pr w=.ok q w'∧AllocOk e w ⟨.r E (old++new).length t,fun id=>.x (.o (.w id 0 (l+m) 0))⟩ q w':=fun p l c old olds t hr hl ho hol hof t1 t2=>by
  have lle:l≤l*s:=Nat.le_mul_of_pos_right l hpos
  have hfit:Builtin.nextslicecap (l+m) c*i.bytes≤281474976710656:=growslice_fits (by omega) (by
   have:(l+m)*i.bytes≤8192*1073741824:=Nat.mul_le_mul (by omega) hby
   omega)
  have hrun:=app_grow A ts ty p l c hr hof (by omega) hfit
  refine⟨_,_,hrun,?_⟩
  have hge:=grownCap_ge w (l+m) c E
  have hle:=grownCap_le_maxLen w (l+m) c E (by unfold maxLen; omega)
  refine⟨(Below.refl w.heap.size w).drew.trans (kg w.drew _),rfl,fun id hid=>⟨w.heap.size,grownCap w (l+m) c E,.nilFunc,fun _=>⟨Nat.le_refl _,by simp⟩,fun h=>?_,?_⟩⟩
  ·have x:=xA (e:=e) (bk:=w.heap.size) (c:=grownCap w (l+m) c E) (f:=.nilFunc) hid
   refine⟨olds++news++(Builtin.zeroCells zv.cells (grownCap w (l+m) c E-(l+m))).toList,(ag,s),?_,?_,hE,?_,by rw[jv]; exact hle⟩
   ·rw[qJ]; exact heap_alloc_new w.drew _
   ·exact TOk.fresh' ((ho.append n2).mono fun _ _=>DnC.ext x) rfl t1 t2
   ·rw[jv]
    simp only[List.length_append,Array.length_toList,size_zeroCells,zc]
    rw[hol,n1,←Nat.add_mul,←Nat.add_mul]
    congr 1
    omega
  ·refine⟨.inl rfl,?_,?_⟩
   ·rw[jv,Nat.sub_zero,adr,qJ]
   ·rw[jv]; omega
 have grow:∀ (p:Option Addr) (l c:Nat) (old:List Sc) (olds:List Value),c<l+m→l*s≤4096→zN (DnC e) old olds→olds.length=l*s→(∀ w',w'.heap=w.heap→(Builtin.firstCells s l (.slice p l c)).run Pr w'=.ok ⟨olds⟩ w')→
   newV h (rowN E (old++new)) (fun id=>.x (.o (.w id 0 (l+m) 0))) K=some z→∃ q w',(Builtin.append_ ⟨X::Y::ts⟩ ty ⟨[.slice p l c,v]⟩).run Pr w=.ok q w'∧Out w0 e h K q w':=fun p l c old olds hr hl ho hol hof hk=>by
  obtain⟨b,hb,hk⟩:=zO hk
  obtain⟨t,rfl,t1,t2⟩:=rowN_law hb
  obtain⟨q,w',r1,r2⟩:=growA p l c old olds t hr hl ho hol hof t1 t2
  exact⟨q,w',r1,R.alloc r2 hk⟩
 cases x with
 | s id off l c=>
  obtain⟨hd,rfl⟩:=hx
  have h':kI (Nat.ble (l+m) c) (editB h id fun n t mk=>gd (Nat.ble (off+(l+m)*s) n) (setL new t (off+l*s) fun t=>xm h id (mk t) fun h=>nat (l+m) fun lm=>K (.x (.o (.s id off lm c))) h)) (csE id off l s h fun _ old=>nat (l+m) fun lm=>newV h (rowN E (app old new)) (fun id=>.x (.o (.w id 0 lm 0))) K)=some z:=hh
  cases hr:Nat.ble (l+m) c with
  | true=>
   rw[hr]at h'
   have hr':=Nat.le_of_ble_eq_true hr
   have e1:(l+m)*s=l*s+m*s:=Nat.add_mul l m s
   obtain⟨E',cs,k1,k2,k3⟩:=edit_law (K:=fun h=>nat (l+m) fun lm=>K (.x (.o (.s id off lm c))) h) R hd (off:=off+l*s) n2 (q:=off+(l+m)*s) (by rw[S.size]; omega) h'
   obtain⟨w',r1,r2,r3⟩:=qi (P:=Pr) news 0 (off+l*s) cs w k1 (by rw[n1]; omega) n2.one
   refine⟨_,w',app_room A ts ty _ l c hr' (by rw[kN]; exact r1),?_⟩
   obtain⟨h2,e2,z2,j1,j2,j3⟩:=k3 w' r2 (by simpa using r3)
   have j1':(nat (l+m) fun lm=>K (.x (.o (.s id off lm c))) h2)=some z2:=j1
   rw[nat_eq]at j1'
   exact⟨_,h2,e2,z2,j1',⟨j3.ext.dom id hd,by rw[adr,adr,j3.ext.blk id hd]⟩,j2,j3⟩
  | false=>
   rw[hr]at h'
   have hr':c<l+m:=by
    rcases Nat.lt_or_ge c (l+m)with k | k
    ·exact k
    ·rw[Nat.ble_eq_true_of_le k]at hr; cases hr
   have h2:csE id off l s h (fun _ old=>nat (l+m) fun lm=>newV h (rowN E (app old new)) (fun id=>.x (.o (.w id 0 lm 0))) K)=some z:=h'
   have hl:=csE_size R hd h2
   obtain⟨old,k1,k2⟩:=csE_law R hd h2 c
   rw[nat_eq,ko]at k1
   obtain⟨olds,o1,o2,o3⟩:=k2.cells l (Nat.le_refl _)
   have hol:old.take (l*s)=old:=by rw[←k2.size]; exact List.take_length
   rw[hol]at o2
   exact grow _ l c old olds hr' hl o2 o1 o3 k1
 | w id off l ct=>
  obtain⟨hd,rfl,hle⟩:=hx
  have h':(rowK h id fun E' n t=>gd (Nat.beq E' E && Nat.beq off (ct*s) && Nat.blt 0 s) (kI (Nat.ble (off+(l+m)*s) n) (setL new t (off+l*s) fun t=>xm h id (.r E n t) fun h=>nat (l+m) fun lm=>K (.x (.o (.w id off lm ct))) h) (gd (Nat.beq off 0 && Nat.beq ct 0 && Nat.ble (l*s) n) (xm h id .x fun h=>nat ((l+m)*s) fun n'=>Bool.rec (motive:=fun _=>Ev.R) (TV.emp n' fun t'=>getL t 0 (l*s) fun old=>setL old t' 0 fun t=>setL new t (l*s) fun t=>newB h (.r E n' t) fun id h=>nat (l+m) fun lm=>K (.x (.o (.w id 0 lm 0))) h) (setL new t n fun t=>newB h (.r E n' t) fun id h=>nat (l+m) fun lm=>K (.x (.o (.w id 0 lm 0))) h) (Nat.beq (l*s) n && fits n n')))))=some z:=hh
  obtain⟨E',n,t,hb,h'⟩:=rowK_law h'
  obtain⟨g1,h'⟩:=zw h'
  simp only[Bool.and_eq_true,qc,decide_eq_true_eq]at g1
  obtain⟨⟨rfl,rfl⟩,_⟩:=g1
  have e1:(l+m)*s=l*s+m*s:=Nat.add_mul l m s
  have ok:=R.ok id hd
  rw[hb]at ok
  obtain⟨cs,zz,b1,b2,b3,b4,b5⟩:=ok
  rw[hE]at b3; cases b3
  have b4:cs.length=e.cap id*s:=b4
  have hin:inB (hget h id):=by rw[hb]; trivial
  have hnh:¬ hidK (hget h id):=by rw[hb]; exact fun c=>c
  have hnt:∀ b,kD (hget h id) b:=by rw[hb]; exact fun _=>trivial
  cases hr:Nat.ble (ct*s+(l+m)*s) n with
  | true=>
   rw[hr]at h'
   have hr':=Nat.le_of_ble_eq_true hr
   have b2l:=b2.1
   have hroom:l+m≤e.cap id-ct:=by
    have:(ct+(l+m))*s≤e.cap id*s:=by rw[Nat.add_mul]; omega
    have:=Nat.le_of_mul_le_mul_right this hpos
    omega
   have h2:setL new t (ct*s+l*s) (fun t=>xm h id (.r E' n t) fun h=>nat (l+m) fun lm=>K (.x (.o (.w id (ct*s) lm ct))) h)=some z:=h'
   have hnc:=b2.2.1
   obtain⟨t',c1,hk,q1,q2⟩:=setL_law h2 (by rw[S.size]; omega)
   obtain⟨hlo,h2,P,hk⟩:=kz hk (R.zY hd)
   have RL:=R.low' id
   rw[nat_eq]at hk
   obtain⟨w',r1,r2,r3⟩:=qi (P:=Pr) news 0 (ct*s+l*s) cs w b1 (by rw[n1]; omega) n2.one
   simp only[Nat.add_zero]at r3
   refine⟨_,w',app_room A ts ty _ l (e.cap id-ct) hroom (by rw[kN]; exact r1),_,h2,e,z,hk,⟨hd,rfl,by omega⟩,RL.put P hd hin hnh r2 ⟨_,(ag,s),r3,?_,hE,?_,b5⟩,(fr_low e h id).trans (RL.frPut P hd (.inl hlo) (hnt _))⟩
   ·exact b2.write n2 c1 q1 q2 (by rw[S.size]; omega)
   ·simp only[List.length_append,List.length_take,List.length_drop]
    show _=e.cap id*s
    omega
  | false=>
   rw[hr]at h'
   obtain⟨g2,h2⟩:=zw h'
   simp only[Bool.and_eq_true,qc,decide_eq_true_eq,Nat.ble_eq]at g2
   obtain⟨⟨g2,rfl⟩,g3⟩:=g2
   have hr':¬ (0*s+(l+m)*s≤n):=fun k=>by rw[Nat.ble_eq_true_of_le k]at hr; cases hr
   obtain⟨hlo,h2,P,hk⟩:=kz h2 (R.zY hd)
   have RL:=R.low' id
   rw[nat_eq]at hk
   -- the tree of the new row
   have hT:∃ old t',old.length=l*s∧(∀ j s,old[j]? = some s→t.get (0+j)=.x s)∧(old++new).length≤xC t'∧(∀ j s,(old++new)[j]? = some s→t'.get (0+j)=.x s)∧newB h2 (.r E' (old++new).length t') (fun id h=>K (.x (.o (.w id 0 (l+m) 0))) h)=some z:=by
    have getN:∀ {old:List Sc} {t1 t':TV},old.length=l*s→xC t'=xC t1→l*s+m*s≤xC t1→(∀ j sc,old[j]? = some sc→t1.get (0+j)=.x sc)→(∀ j sc,new[j]? = some sc→t'.get (l*s+j)=.x sc)→(∀ j,j<xC t1→(j<l*s∨l*s+new.length≤j)→t'.get j=t1.get j)→∀ j sc,(old++new)[j]? = some sc→t'.get (0+j)=.x sc:=fun {old t1 t'} a1 a2 a0 a3 a4 a5 j sc hj=>by
     by_cases c:j<old.length
     ·rw[List.getElem?_append_left c]at hj
      rw[Nat.zero_add,a5 j (by omega) (.inl (by omega))]
      have:=a3 j sc hj
      rwa[Nat.zero_add]at this
     ·rw[List.getElem?_append_right (by omega)]at hj
      have:=a4 _ sc hj
      rw[←this]; congr 1; omega
    cases hf:(Nat.beq (l*s) n && fits n ((l+m)*s))with
    | true=>
     rw[hf]at hk
     simp only[Bool.and_eq_true,qc,decide_eq_true_eq]at hf
     obtain⟨hf1,hf2⟩:=hf
     have hcap:=fits_law b2.2.1 hf2
     have hk2:setL new t n (fun t=>newB h2 (.r E' ((l+m)*s) t) fun id h=>nat (l+m) fun lm=>K (.x (.o (.w id 0 lm 0))) h)=some z:=hk
     rw[←hf1]at hk2
     obtain⟨t',c1,hk3,q1,q2⟩:=setL_law hk2 (by rw[S.size]; omega)
     simp only[nat_eq]at hk3
     obtain⟨old,o1,o2⟩:=b2.list (l*s) (by omega)
     refine⟨old,t',o1,o2,by simp[o1,S.size]; omega,getN o1 c1 (by omega) o2 q1 q2,?_⟩
     rw[List.length_append,o1,S.size,←Nat.add_mul]; exact hk3
    | false=>
     rw[hf]at hk
     have hk2:(TV.emp ((l+m)*s) fun t'=>getL t 0 (l*s) fun old=>setL old t' 0 fun t=>setL new t (l*s) fun t=>newB h2 (.r E' ((l+m)*s) t) fun id h=>nat (l+m) fun lm=>K (.x (.o (.w id 0 lm 0))) h)=some z:=hk
     obtain⟨t0,c0,hk3⟩:=TV.emp_law hk2
     obtain⟨old,o1,o2,hk4⟩:=getL_law hk3
     obtain⟨t1,c1,hk5,q1,q2⟩:=setL_law hk4 (by omega)
     obtain⟨t',c2,hk6,q3,q4⟩:=setL_law hk5 (by rw[S.size,c1]; omega)
     simp only[nat_eq]at hk6
     refine⟨old,t',o1,o2,by simp[o1,S.size]; omega,getN o1 c2 (by omega) q1 q3 q4,?_⟩
     rw[List.length_append,o1,S.size,←Nat.add_mul]; exact hk6
   obtain⟨old,t',o1,o2,o3,o4,hk⟩:=hT
   have hls:l*s≤4096:=by have:=capV_le t'; simp at o3; omega
   have ho:=b2.read o2 (by omega)
   rw[o1,List.drop_zero]at ho
   have hol:(cs.take (l*s)).length=l*s:=by have:=b2.1; simp; omega
   have F1:Fr e h e h2:=(fr_low e h id).trans (RL.frPut P hd (.inl hlo) (hnt _))
   rcases Nat.lt_or_ge (e.cap id-0) (l+m)with hcap | hcap
   ·obtain⟨q,w',r1,r2⟩:=growA (some (adr e id (0*s))) l (e.cap id-0) old _ t' hcap hls ho hol (fun w' hw=>run_firstCells_some (P:=Pr) w' s l _ l _ _ hol fun j u hj=>by
     rw[kN]
     unfold World.cell?
     rw[hw]
     refine cell_at b1 ?_
     rw[List.getElem?_take]at hj
     split at hj
     ·rw[Nat.zero_mul,Nat.zero_add]; exact hj
     ·cases hj) o3 o4
    have R1:zG w0 e h2 w:=RL.put P hd hin hnh (World.grownBy.refl w _) trivial
    exact⟨q,w',r1,Out.trans F1 (R1.alloc r2 hk)⟩
   ·have hln:l*s+m*s≤cs.length:=by
     rw[b4,←Nat.add_mul]
     exact Nat.mul_le_mul_right s hcap
    obtain⟨w',r1,r2,r3⟩:=qi (P:=Pr) news 0 (0*s+l*s) cs w b1 (by rw[n1]; omega) n2.one
    refine⟨_,w',app_room A ts ty _ l (e.cap id-0) hcap (by rw[kN]; exact r1),?_⟩
    have R1:zG w0 e h2 w':=RL.put P hd hin hnh r2 trivial
    obtain⟨h3,N,hk⟩:=newB_law hk
    have R2:=R1.push N
    have hid:¬ e.dom h2.nxt:=fun k=>by have:=R1.lt _ k; omega
    have hg:hget h3 h2.nxt=.r E' (old++new).length t':=by rw[N.get _ N.lt,if_pos rfl]
    have x:=xA (e:=e) (bk:=e.blk id) (c:=e.cap id) (f:=.nilFunc) hid
    refine⟨_,h3,e.add h2.nxt (e.blk id) (e.cap id) .nilFunc,z,hk,⟨.inl rfl,?_,?_⟩,R2.add hid (by rw[N.nxt]; omega) (Below.refl _ _) (fun _=>?_) ?_ (fun m hm=>by rw[hg]at hm; cases hm),F1.trans ((R1.frNew N).add hid (Nat.le_refl _))⟩
    ·simp only[jv,Nat.sub_zero,Nat.zero_mul,adr,qJ]
    ·rw[jv]; omega
    ·have:=R.low id hd hin
     refine⟨this.1,Nat.lt_of_lt_of_le this.2 r2.size,fun j hj hi he=>?_⟩
     have hjl:=R.lt j hj
     have htop:=R.top
     have hjn:j≠h2.nxt:=fun k=>hid (by rw[←k]; exact hj)
     have hne:j≠id:=fun k=>by
      subst k
      rw[N.get j (by omega),if_neg hjn,P.get j (by omega),if_pos rfl]at hi
      exact hi
     rw[N.get j (by omega),if_neg hjn,P.get j (by omega),if_neg hne]at hi
     exact hne (R.inj j id hj hd hi hin he)
    ·rw[hg]
     simp only[Nat.zero_mul,Nat.zero_add,Nat.add_zero]at r3
     refine⟨_,(ag,s),by rw[qJ]; exact r3,?_,hE,?_,by rw[jv]; exact b5⟩
     ·exact TOk.fresh' ((ho.append n2).mono fun _ _=>DnC.ext x) rfl o3 o4
     ·rw[jv]
      simp only[List.length_append,List.length_take,List.length_drop]
      show _=e.cap id*s
      omega
 | c q=>
  obtain⟨rfl,_⟩:=hx
  have h':nlV u (nat m fun m=>newV h (rowN E new) (fun id=>.x (.o (.w id 0 m 0))) K)=some z:=hh
  unfold nlV at h'
  split at h'
  ·rw[nat_eq]at h'
   exact grow none 0 0 [] [] (by omega) (by omega) trivial (by simp) (fun w' _=>by simp[Builtin.firstCells]) (by simpa using h')
  ·cases h'
 | _=>cases hh
end
end Go.Ev
end
section
set_option linter.unusedVariables false
set_option linter.unusedSimpArgs false
set_option linter.constructorNameAsVariable false
namespace Go.Ev
open Go.Lw Go.RowKit
def KeyV (n:Nat) (v:Value):Prop:=match n with
 | 0=>∃ k a,v=.int k a
 | n+1=>∃ us,v=.agg ⟨us⟩∧us.length=n∧∀ u∈us,∃ k a,u=.int k a
theorem nums_law {e:Env} : ∀ {l:List Sc} {us:List Value},nums l=true→zN (DnC e) l us→∀ u∈us,∃ k a,u=.int k a
 | [],[],_,_,u,hu=>by cases hu
 | s::l,v::us,h,hl,u,hu=>by
  cases s with
  | i k a=>
   have h':nums l=true:=h
   rcases List.mem_cons.1 hu with rfl | hu
   ·exact⟨k,a,hl.1.1⟩
   ·exact nums_law h' hl.2 u hu
  | _=>cases h
 | [],_::_,_,hl,_,_=>hl.elim
 | _::_,[],_,hl,_,_=>hl.elim
theorem keyK_law {Z:Type} {z:Z} {e:Env} {n:Nat} {y:AV} {v:Value} {K:AV→Option Z} (h:kV n y K=some z) (hy:Dn e y v):KeyV n v∧K y=some z:=by
 cases n with
 | zero=>
  have h':(asI y fun k a=>K (.i k a))=some z:=h
  obtain⟨k,a,rfl,hNew⟩:=ja h'; clear h'; have h':=hNew; clear hNew
  exact⟨⟨k,a,hy⟩,h'⟩
 | succ n=>
  have h':(asA y fun l=>gd (Nat.beq (len l) n && nums l) (K (.a l)))=some z:=h
  obtain⟨l,rfl,hNew⟩:=kK h'; clear h'; have h':=hNew; clear hNew
  obtain⟨h1,h'⟩:=zw h'
  simp only[Bool.and_eq_true,qc,decide_eq_true_eq,qU]at h1
  obtain⟨us,rfl,hu⟩:=hy
  exact⟨⟨us,rfl,by rw[←hu.length]; exact h1.1,nums_law h1.2 hu⟩,h'⟩
theorem sameI_eq:∀ {us vs:List Value},jL us vs=some true→us=vs
 | [],[],_=>rfl
 | [],_::_,h=>by simp[jL]at h
 | u::us,[],h=>by cases u<;>simp[jL]at h
 | u::us,v::vs,h=>by
  cases u with
  | int k a=>
   cases v with
   | int k' b=>
    simp only[jL]at h
    by_cases hk:k=k'
    ·rw[if_pos hk]at h
     by_cases ha:a=b
     ·rw[if_pos ha]at h
      rw[hk,ha,sameI_eq h]
     ·rw[if_neg ha]at h; cases h
    ·rw[if_neg hk]at h; cases h
   | _=>simp[jL]at h
  | _=>cases v<;>simp[jL]at h
theorem sameI_self:∀ {us:List Value},(∀ u∈us,∃ k a,u=Value.int k a)→jL us us=some true
 | [],_=>rfl
 | u::us,h=>by
  obtain⟨k,a,rfl⟩:=h u (by simp)
  simp only[jL,if_true]
  exact sameI_self fun v hv=>h v (by simp[hv])
inductive KeyEq (kt:TypeId) (n:Nat) (u v:Value) (b:Bool):Prop
 | int (k:IntKind) (a c:Int) (hn:n=0) (hu:u=.int k a) (hv:v=.int k c) (hb:b=decide (a=c))
 | agg (m:Nat) (us vs:List Value) (hn:n=m+1) (hu:u=.agg ⟨us⟩) (hv:v=.agg ⟨vs⟩) (hl:us.length=m) (hs:jL us vs=some b)
theorem keyE_law {e:Env} {kt:TypeId} {n:Nat} {x y:AV} {u v:Value} {b:Bool} (h:kC n x y=some b) (hx:Dn e x u) (hy:Dn e y v):KeyEq kt n u v b:=by
 cases n with
 | zero=>
  have h':(xx x y fun x y=>eqI x y some)=some b:=h
  obtain⟨s,s',rfl,rfl,hNew⟩:=xx_law h'; clear h'; have h':=hNew; clear hNew
  obtain⟨k,p,q,rfl,rfl,hNew⟩:=eqI_law h' hx hy; clear h'; have h':=hNew; clear hNew
  cases h'
  exact .int k p q rfl rfl rfl rfl
 | succ n=>
  have h':(asA x fun l=>asA y fun m=>gd (Nat.beq (len l) n && Nat.beq (len m) n) (eqL n l m))=some b:=h
  obtain⟨l,rfl,hNew⟩:=kK h'; clear h'; have h':=hNew; clear hNew
  obtain⟨m,rfl,hNew⟩:=kK h'; clear h'; have h':=hNew; clear hNew
  obtain⟨h1,h2⟩:=zw h'
  simp only[Bool.and_eq_true,qc,decide_eq_true_eq,qU]at h1
  obtain⟨us,rfl,hus⟩:=hx
  obtain⟨vs,rfl,hvs⟩:=hy
  exact .agg n us vs rfl rfl rfl (by rw[←hus.length]; exact h1.1) (eqL_law h2 hus hvs)
theorem KeyEq.eq {kt:TypeId} {n:Nat} {u v:Value} (h:KeyEq kt n u v true):u=v:=by
 cases h with
 | int k a c hn hu hv hb=>rw[hu,hv,of_decide_eq_true hb.symm]
 | agg m us vs hn hu hv hl hs=>rw[hu,hv,sameI_eq hs]
theorem kiB_law {t:TypeId} {n:Nat} (h:kiB t=some n):(n=0∧∃ k,Pr.underlying t=some (.int k))∨∃ m,n=m+1∧agB t=some m∧∀ k,Pr.underlying t≠some (.int k):=by
 unfold kiB at h
 split at h
 ·rename_i k hu; cases h; exact .inl ⟨rfl,k,hu⟩
 ·rename_i hne
  cases ha:agB t with
  | none=>rw[ha]at h; cases h
  | some m=>rw[ha]at h; cases h; exact .inr ⟨m,rfl,rfl,hne⟩
def hit (eq:AV→AV→Option Bool) (k:AV):List (AV×AV)→Option (Option Nat)
 | []=>some none
 | e::l=>match eq k e.1 with
  | some true=>some (some 0)
  | some false=>(hit eq k l).map (Option.map (· + 1))
  | none=>none
section
variable {eq:AV→AV→Option Bool} {k v:AV}
theorem hit_cons {e:AV×AV} {l:List (AV×AV)} {b:Bool} (hb:eq k e.1=some b):hit eq k (e::l)=if b=true then some (some 0)else (hit eq k l).map (Option.map (· + 1)):=by
 simp only[hit,hb]; cases b<;>rfl
theorem findM_hit:∀ {l:List (AV×AV)} {o:Option AV},findM eq k l=some o→∃ r,hit eq k l=some r∧o=r.bind fun j=>(l[j]?).map (·.2)
 | [],o,h=>by cases h; exact⟨none,rfl,rfl⟩
 | e::l,o,h=>by
  have h':(obn (eq k e.1) fun b=>kI b (some (some e.2)) (findM eq k l))=some o:=h
  obtain⟨b,hb,h'⟩:=zO h'
  rw[hit_cons hb]
  cases b with
  | true=>cases h'; exact⟨some 0,rfl,rfl⟩
  | false=>
   obtain⟨r,h1,h2⟩:=findM_hit (l:=l) h'
   refine⟨r.map (· + 1),by simp[h1],?_⟩
   rw[h2]; cases r<;>simp
theorem putM_hit:∀ {l l':List (AV×AV)},putM eq k v l=some l'→∃ r,hit eq k l=some r∧l'=(match r with | none=>l++[(k,v)] | some j=>l.set j (k,v))
 | [],l',h=>by cases h; exact⟨none,rfl,rfl⟩
 | e::l,l',h=>by
  have h':(obn (eq k e.1) fun b=>kI b (some ((k,v)::l)) (obn (putM eq k v l) fun r=>some (e::r)))=some l':=h
  obtain⟨b,hb,h'⟩:=zO h'
  rw[hit_cons hb]
  cases b with
  | true=>cases h'; exact⟨some 0,rfl,rfl⟩
  | false=>
   obtain⟨m,h1,h2⟩:=zO (o:=putM eq k v l) h'
   cases h2
   obtain⟨r,h3,h4⟩:=putM_hit h1
   refine⟨r.map (· + 1),by simp[h3],?_⟩
   rw[h4]; cases r<;>simp
theorem delM_hit:∀ {l l':List (AV×AV)},delM eq k l=some l'→∃ r,hit eq k l=some r∧l'=(match r with | none=>l | some j=>l.eraseIdx j)
 | [],l',h=>by cases h; exact⟨none,rfl,rfl⟩
 | e::l,l',h=>by
  have h':(obn (eq k e.1) fun b=>kI b (some l) (obn (delM eq k l) fun r=>some (e::r)))=some l':=h
  obtain⟨b,hb,h'⟩:=zO h'
  rw[hit_cons hb]
  cases b with
  | true=>cases h'; exact⟨some 0,rfl,rfl⟩
  | false=>
   obtain⟨m,h1,h2⟩:=zO (o:=delM eq k l) h'
   cases h2
   obtain⟨r,h3,h4⟩:=delM_hit h1
   refine⟨r.map (· + 1),by simp[h3],?_⟩
   rw[h4]; cases r<;>simp
end
def found (r:Option Nat) (es:List MapEntry) (i:Nat):Option (Nat×Value):=r.bind fun j=>(es[j]?).map fun en=>(i+j,en.val)
theorem found_cons (r:Option Nat) (en:MapEntry) (es:List MapEntry) (i:Nat):found (r.map (· + 1)) (en::es) i=found r es (i+1):=by
 unfold found
 cases r with
 | none=>rfl
 | some j=>
  show Option.map (fun en:MapEntry=>(i+(j+1),en.val)) (es[j]?)=Option.map (fun en:MapEntry=>(i+1+j,en.val)) (es[j]?)
  rw[show i+(j+1)=i+1+j from by omega]
theorem hit_now {e:Env} {kt:TypeId} {q:IntKind} {k:AV} {kv:Value} (hk:Dn e k kv):∀ {l:List (AV×AV)} {es:List MapEntry} {r:Option Nat} (i:Nat),hit (kC 0) k l=some r→zN (DnE e) l es→Instr.findNow (.int q) kv es i=some (found r es i)
 | [],[],r,i,h,_=>by cases h; rfl
 | [],_::_,_,_,_,hl=>hl.elim
 | _::_,[],_,_,_,hl=>hl.elim
 | p::l,en::es,r,i,h,hl=>by
  cases hb:kC 0 k p.1 with
  | none=>simp[hit,hb]at h
  | some b=>
   rw[hit_cons hb]at h
   have hE:=keyE_law (kt:=kt) hb hk hl.1.1
   cases hE with
   | agg m us vs hn=>cases hn
   | int kk a c hn hu hv hb'=>
    have e1:Instr.sameNow (.int q) kv en.key=some b:=by
     rw[hu,hv,hb']; simp[Instr.sameNow]; rfl
    cases b with
    | true=>cases h; simp[Instr.findNow,e1,found]
    | false=>
     simp only[Bool.false_eq_true,if_false,Option.map_eq_some_iff]at h
     obtain⟨r',h1,rfl⟩:=h
     have:=hit_now (kt:=kt) (q:=q) hk (i+1) h1 hl.2
     simp only[Instr.findNow,e1,this,found_cons]
theorem hit_ask {e:Env} {kt:TypeId} {m:Nat} (ha:agB kt=some m) {k:AV} {kv:Value} (hk:Dn e k kv):∀ {l:List (AV×AV)} {es:List MapEntry} {r:Option Nat} (i:Nat),hit (kC (m+1)) k l=some r→zN (DnE e) l es→Gives (Instr.findAsking kt kv es i) (found r es i)
 | [],[],r,i,h,_=>fun w=>by cases h; rfl
 | [],_::_,_,_,_,hl=>hl.elim
 | _::_,[],_,_,_,hl=>hl.elim
 | p::l,en::es,r,i,h,hl=>fun w=>by
  cases hb:kC (m+1) k p.1 with
  | none=>simp[hit,hb]at h
  | some b=>
   rw[hit_cons hb]at h
   have hE:=keyE_law (kt:=kt) hb hk hl.1.1
   cases hE with
   | int kk a c hn=>cases hn
   | agg m' us vs hn hu hv hlen hs=>
    cases hn
    have e1:(Op.equal kt kv en.key).run Pr w=.ok b w:=by
     rw[hu,hv]; exact equal_agg ha hlen hs w
    simp only[Instr.findAsking,Sem.run_bind,e1,Result.andThen_ok]
    cases b with
    | true=>cases h; simp[found]
    | false=>
     simp only[Bool.false_eq_true,if_false,Option.map_eq_some_iff]at h
     obtain⟨r',h1,rfl⟩:=h
     have:=hit_ask ha hk (i+1) h1 hl.2 w
     simp only[this,found_cons,Bool.false_eq_true,if_false]
theorem find_law {e:Env} {kt:TypeId} {n:Nat} (hk:kiB kt=some n) {k:AV} {kv:Value} (hkv:Dn e k kv) (hV:KeyV n kv) {l:List (AV×AV)} {es:List MapEntry} {r:Option Nat} (h:hit (kC n) k l=some r) (hl:zN (DnE e) l es):Gives (Instr.findKey kt kv es) (found r es 0):=fun w=>by
 rcases kiB_law hk with ⟨rfl,q,hu⟩ | ⟨m,rfl,ha,hne⟩
 ·simp only[Instr.findKey,Sem.run_bind,run_underlying hu,Result.andThen_ok,hit_now (kt:=kt) (q:=q) hkv 0 h hl,Sem.run_pure]
 ·obtain⟨us,rfl,hlen,hint⟩:=hV
  obtain⟨_,ht,_⟩:=agB_law ha
  have hu:∃ d,Pr.underlying kt=some d:=by
   unfold tkB at ht
   cases hu:Pr.underlying kt with
   | none=>rw[hu]at ht; cases ht
   | some d=>exact⟨d,rfl⟩
  obtain⟨d,hu⟩:=hu
  cases es with
  | nil=>
   cases l with
   | cons=>exact hl.elim
   | nil=>cases h; simp[Instr.findKey,run_underlying hu,Instr.findNow,found]
  | cons en es=>
   have hn:Instr.sameNow d (.agg ⟨us⟩) en.key=none:=by
    cases d<;>rfl
   simp only[Instr.findKey,Sem.run_bind,run_underlying hu,Result.andThen_ok,Instr.findNow,hn]
   exact hit_ask ha hkv 0 h hl w
theorem hit_key {e:Env} {kt:TypeId} {n:Nat} {k:AV} {kv:Value} (hk:Dn e k kv):∀ {l:List (AV×AV)} {es:List MapEntry} {j:Nat},hit (kC n) k l=some (some j)→zN (DnE e) l es→∃ p en,l[j]? = some p∧es[j]? = some en∧en.key=kv
 | [],_,j,h,_=>by cases h
 | p::l,[],j,h,hl=>hl.elim
 | p::l,en::es,j,h,hl=>by
  cases hb:kC n k p.1 with
  | none=>simp[hit,hb]at h
  | some b=>
   rw[hit_cons hb]at h
   cases b with
   | true=>
    cases h
    exact⟨p,en,rfl,rfl,(keyE_law (kt:=kt) hb hk hl.1.1).eq.symm⟩
   | false=>
    simp only[Bool.false_eq_true,if_false,Option.map_eq_some_iff]at h
    obtain⟨r',h1,h2⟩:=h
    obtain⟨j',rfl,rfl⟩:=h2
    obtain⟨p',en',k1,k2,k3⟩:=hit_key (kt:=kt) hk h1 hl.2
    exact⟨p',en',by simpa using k1,by simpa using k2,k3⟩
theorem sameBits_ints:∀ {us:List Value},(∀ u∈us,∃ k a,u=Value.int k a)→∀ n,((us.zip us).all fun(x,y)=>Instr.sameBits n x y)=true
 | [],_,_=>rfl
 | u::us,h,n=>by
  obtain⟨k,a,rfl⟩:=h u (by simp)
  simp only[List.zip_cons_cons,List.all_cons,Bool.and_eq_true]
  exact⟨by cases n<;>simp[Instr.sameBits],sameBits_ints (fun v hv=>h v (by simp[hv])) n⟩
theorem KeyV.bits {n:Nat} {v:Value} (h:KeyV n v):Instr.sameBits 10000 v v=true:=by
 cases n with
 | zero=>obtain⟨k,a,rfl⟩:=h; simp[Instr.sameBits]
 | succ n=>
  obtain⟨us,rfl,_,h2⟩:=h
  have:=sameBits_ints h2 9999
  simp only[Instr.sameBits,Bool.and_eq_true,beq_self_eq_true,true_and]
  exact this
theorem check_law (em:Bool) (d:Nat):∀ (D:Nat) (t:TypeId) (L:List Nat) (ag:Bool) (z:Nat) (xs:List Value) (u:Value),lvs D t=some L→tkB Pr t=some (ag,z)→Vt ag xs u→cmp L xs xs=some true→Gives (Instr.checkKey em (d+D) t u) ()
 | 0,_,_,_,_,_,_,h,_,_,_=>by cases h
 | D+1,t,L,false,z,xs,u,h,ht,hu,hc=>fun w=>by
  obtain⟨⟨k,hk⟩,rfl⟩:=lvs_int h ht
  rw[show d+(D+1)=(d+D)+1 from rfl]
  simp[Instr.checkKey,run_underlying hk]
 | D+1,t,L,true,z,xs,u,h,ht,hu,hc=>fun w=>by
  obtain rfl:u=.agg ⟨xs⟩:=hu
  obtain⟨D',hD,hh⟩:=lvs_agg h ht
  cases hD
  have IH:=check_law em d D
  rw[show d+(D+1)=(d+D)+1 from rfl,Instr.checkKey]
  have step:∀ {t':TypeId} {ag:Bool} {s off:Nat} {l:List Nat},lvs D t'=some l→tkB Pr t'=some (ag,s)→l.all (fun i=>Nat.blt i s)=true→cmp (l.map (off + ·)) xs xs=some true→∃ a,(∀ w,(part t' ⟨xs⟩ off).run Pr w=.ok a w)∧∀ w,(Instr.checkKey em (d+D) t' a).run Pr w=.ok () w:=fun {t' ag s off l} h1 h2 h3 h4=>by
   obtain⟨a,b,p1,p2,v1,v2,c⟩:=part_law h1 h2 h3 h4
   exact⟨a,p1,IH t' l ag s _ a h1 h2 v1 c⟩
  rcases hh with ⟨fs,hk,hs,hf⟩ | ⟨n,E,ag,s,l,hk,hE,hl,hb,rfl⟩
  ·simp only[Sem.run_bind,run_underlying hk,Result.andThen_ok]
   rw[←Array.forIn_toList]
   generalize fs.toList=FS at hf
   clear hk h
   induction FS generalizing L with
   | nil=>simp
   | cons f FS ih=>
    obtain⟨ag,s,l,rr,h1,h2,h3,h4,h5,rfl⟩:=lvF_cons hf
    rcases cmp_app hc with ⟨_,hc1⟩ | ⟨hc1,hc2⟩
    ·cases hc1
    ·obtain⟨a,p1,p2⟩:=step h2 h1 h5 hc1
     simp only[List.forIn_cons,Sem.run_bind,h4,ne_eq,not_false_eq_true,if_true,Result.andThen_ok,p1,p2,Sem.run_pure]
     exact ih rr hc2 h3
  ·have hsz:=Go.Lw.run_sizeOf hE
   simp only[Sem.run_bind,run_underlying hk,Result.andThen_ok]
   simp only[Std.Legacy.Range.forIn_eq_forIn_range',Std.Legacy.Range.size,Nat.sub_zero,Nat.add_one_sub_one,Nat.div_one]
   rw[List.range_eq_range']at hc
   generalize List.range' 0 n=is at hc
   clear h
   induction is with
   | nil=>simp
   | cons j is ih=>
    simp only[List.flatMap_cons]at hc
    rcases cmp_app hc with ⟨_,hc1⟩ | ⟨hc1,hc2⟩
    ·cases hc1
    ·obtain⟨a,p1,p2⟩:=step hl hE hb hc1
     simp only[List.forIn_cons,Sem.run_bind,hsz,Result.andThen_ok,p1,p2,Sem.run_pure]
     exact ih hc2
theorem key_check {kt:TypeId} {n:Nat} (hk:kiB kt=some n) {kv:Value} (hV:KeyV n kv) (em:Bool):Gives (Instr.checkKey em 10000 kt kv) ():=fun w=>by
 rcases kiB_law hk with ⟨rfl,q,hu⟩ | ⟨m,rfl,ha,hne⟩
 ·have key:∀ d:Nat,(Instr.checkKey em (d+1) kt kv).run Pr w=.ok () w:=fun d=>by simp[Instr.checkKey,run_underlying hu]
  exact key 9999
 ·obtain⟨us,rfl,hlen,hint⟩:=hV
  obtain⟨_,ht,hl⟩:=agB_law ha
  refine check_law em 9992 8 kt _ true m us _ hl ht rfl ?_ w
  have:=cmp_same (pre:=[]) (pre':=[]) rfl (sameI_self hint)
  rw[hlen]at this
  simpa [List.range_eq_range']using this
theorem mapK_law {X:TypeId} {m:My} (h:mapK X=some m):∃ kt et zv,Pr.underlying X=some (.map kt et)∧kiB kt=some m.n∧m.eq=kC m.n∧zx Pr et=some zv∧m.z=ofV zv:=by
 unfold mapK at h
 cases hx:kyB X with
 | none=>rw[hx]at h; cases h
 | some q=>
  rw[hx]at h
  cases hn:kiB q.1 with
  | none=>
   have h':(Option.rec (motive:=fun _=>Option My) none (fun n=>Option.rec (motive:=fun _=>Option My) none (fun z=>some (.mk n (kC n) (ofV z))) (zx Pr q.2)) (kiB q.1):Option My)=some m:=h
   rw[hn]at h'; cases h'
  | some n=>
   have h':(Option.rec (motive:=fun _=>Option My) none (fun n=>Option.rec (motive:=fun _=>Option My) none (fun z=>some (.mk n (kC n) (ofV z))) (zx Pr q.2)) (kiB q.1):Option My)=some m:=h
   rw[hn]at h'
   cases hz:zx Pr q.2 with
   | none=>
    have h2:(Option.rec (motive:=fun _=>Option My) none (fun z=>some (.mk n (kC n) (ofV z))) (zx Pr q.2):Option My)=some m:=h'
    rw[hz]at h2; cases h2
   | some zv=>
    have h2:(Option.rec (motive:=fun _=>Option My) none (fun z=>some (.mk n (kC n) (ofV z))) (zx Pr q.2):Option My)=some m:=h'
    rw[hz]at h2; cases h2
    unfold kyB at hx
    split at hx
    ·rename_i K V hu
     cases hx
     exact⟨K,V,zv,hu,hn,rfl,hz,rfl⟩
    ·cases hx
end Go.Ev
end
section
set_option linter.unusedVariables false
set_option linter.unusedSimpArgs false
set_option linter.constructorNameAsVariable false
namespace Go.Ev
open Go.Lw Go.RowKit
section
variable {w0:World} {e:Env} {h:H} {w:World}
theorem zG.map (R:zG w0 e h w) {id:Nat} (hd:e.dom id) {l:List (AV×AV)} (hb:hget h id=.o (.m l)):∃ es c,w.heap[e.blk id]? = some (.map ⟨es⟩ c)∧MOk e l es c:=by
 have:=R.ok id hd
 rw[hb]at this
 exact this
theorem lkV_law {ok b:Bool} {v r:AV} {u:Value} (h:lkV ok b v=some r) (hv:Dn e v u):Dn e r (if ok then .tuple #[u,.bool b]else u):=by
 cases ok with
 | false=>cases h; exact hv
 | true=>
  have h':(toSum v fun v=>some (AV.t [v,.inl (.b b)]))=some r:=h
  rcases toSum_law h' with ⟨s,rfl,h'⟩ | ⟨s,rfl,h'⟩<;>cases h'
  ·exact⟨_,rfl,hv,rfl,trivial⟩
  ·exact⟨_,rfl,hv,rfl,trivial⟩
theorem lookup_law (R:zG w0 e h w) {X:TypeId} {x y r:AV} {ok:Bool} {u v:Value} (hh:lookupE X x y ok h=some r) (hx:Dn e x u) (hy:Dn e y v):∃ q,Dn e r q∧(Instr.lookup X u v ok).run Pr w=.ok q w:=by
 obtain⟨m,hm,hh⟩:=zO hh
 obtain⟨kt,et,zv,hX,hn,he,hz,hzz⟩:=mapK_law hm
 obtain⟨hV,hh⟩:=keyK_law hh hy
 obtain⟨id,rfl,hNew⟩:=asM_law hh; clear hh; have hh:=hNew; clear hNew
 obtain⟨l,hb,hh⟩:=mapB_law hh
 obtain⟨o,ho,hh⟩:=zO hh
 rw[he]at ho
 obtain⟨hd,rfl⟩:=hx
 obtain⟨es,c,h1,h2⟩:=R.map hd hb
 obtain⟨rr,k1,k2⟩:=findM_hit ho
 have hf:=find_law hn hy hV k1 h2.1 w
 have hc:=key_check hn hV es.isEmpty w
 cases rr with
 | none=>
  rw[show o=none from k2]at hh
  have hh':lkV ok false m.z=some r:=hh
  rw[hzz]at hh'
  refine⟨_,lkV_law hh' (ofV_law e zv),?_⟩
  cases ok<;>simp[Instr.lookup,run_underlying hX,qN h1,hc,hf,found,run_zero hz]
 | some j=>
  obtain⟨p,en,e1,e2,e3⟩:=hit_key (kt:=kt) hy k1 h2.1
  have e4:o=some p.2:=by rw[k2]; simp[e1]
  rw[e4]at hh
  have hh':lkV ok true p.2=some r:=hh
  refine⟨_,lkV_law hh' (h2.1.at e1 e2).2,?_⟩
  cases ok<;>simp[Instr.lookup,run_underlying hX,qN h1,hc,hf,found,e2]
theorem obn_some {α Z:Type} (m:α) (K:α→Option Z):obn (some m) K=K m:=rfl
theorem keyK_more {Z:Type} {z:Z} {n:Nat} {y:AV} {K K':AV→Option Z} (hh:kV n y K=some z) (hK:∀ a,K a=some z→K' a=some z):kV n y K'=some z:=by
 cases n with
 | zero=>
  have h':(asI y fun k a=>K (.i k a))=some z:=hh
  obtain⟨k,a,rfl,h2⟩:=ja h'
  exact hK _ h2
 | succ n=>
  have h':(asA y fun l=>gd (Nat.beq (len l) n && nums l) (K (.a l)))=some z:=hh
  obtain⟨l,rfl,h2⟩:=kK h'
  obtain⟨h1,h3⟩:=zw h2
  show gd _ _=_
  rw[h1]; exact hK _ h3
theorem lookup_more {h':H} (hk:∀ j,hget h j≠.x→hget h' j=hget h j) {X:TypeId} {x y r:AV} {ok:Bool} (hh:lookupE X x y ok h=some r):lookupE X x y ok h'=some r:=by
 obtain⟨m,hm,h2⟩:=zO hh
 unfold lookupE
 rw[hm,obn_some]
 refine keyK_more h2 fun a ha=>?_
 obtain⟨id,rfl,h3⟩:=asM_law ha
 exact blkO_more hk h3
theorem map_put (R:zG w0 e h w) {id:Nat} (hd:e.dom id) {l l':List (AV×AV)} (hb:hget h id=.o (.m l)) {es:List MapEntry} {c:Nat} (hM:MOk e l' es c) {K:H→Ev.R} {z:List (AV×H)} (hh:xm h id (.o (.m l')) K=some z):OutU w0 e h K (w.putObj (e.blk id) (.map ⟨es⟩ c)):=by
 obtain⟨hlo,h',P,hk⟩:=kz hh (R.zY hd)
 have RL:=R.low' id
 have hin:inB (hget h id):=by rw[hb]; trivial
 have hlow:=R.low id hd hin
 refine⟨h',e,z,hk,?_,(fr_low e h id).trans (RL.frPut P hd (.inl hlo) (by show kD (hget h id) _; rw[hb]; trivial))⟩
 refine RL.put P hd hin (by show ¬ hidK (hget h id); rw[hb]; exact fun c=>c) ⟨rfl,rfl,rfl,by simp,fun k hk hne=>World.putObj_heap_other fun c=>hne (by rw[c])⟩ ?_
 exact⟨es,c,World.putObj_heap_same hlow.2,hM⟩
theorem upd_law (R:zG w0 e h w) {X:TypeId} {x y v:AV} {mu kv vu:Value} {K:H→Ev.R} {z:List (AV×H)} (hh:updE X x y v h K=some z) (hx:Dn e x mu) (hy:Dn e y kv) (hv:Dn e v vu):∃ w',(Instr.mapUpdate X mu kv vu).run Pr w=.ok () w'∧OutU w0 e h K w':=by
 obtain⟨m,hm,hh⟩:=zO hh
 obtain⟨kt,et,zv,hX,hn,he,hz,hzz⟩:=mapK_law hm
 obtain⟨hV,hh⟩:=keyK_law hh hy
 obtain⟨id,rfl,hNew⟩:=asM_law hh; clear hh; have hh:=hNew; clear hNew
 obtain⟨l,hb,hh⟩:=mapB_law hh
 obtain⟨l',ho,hh⟩:=zO hh
 rw[he]at ho
 obtain⟨hd,rfl⟩:=hx
 obtain⟨es,c,h1,h2⟩:=R.map hd hb
 obtain⟨rr,k1,k2⟩:=putM_hit ho
 have hf:=find_law hn hy hV k1 h2.1 w
 have hc:=key_check hn hV false w
 have hset:∀ o',(setObj (e.blk id) o').run Pr w=.ok () (w.putObj (e.blk id) o'):=fun o'=>run_setMap o' h1
 cases rr with
 | none=>
  have k2:l'=l++[(y,v)]:=k2
  refine⟨w.putObj (e.blk id) (.map ⟨es++[{ key:=kv,val:=vu,born:=c }]⟩ (c+1)),by simp[Instr.mapUpdate,run_underlying hX,qN h1,hc,hf,found,hset],?_⟩
  have hM:MOk e l' (es++[{ key:=kv,val:=vu,born:=c }]) (c+1):=by
   rw[k2]
   refine⟨h2.1.append ⟨⟨hy,hv⟩,trivial⟩,?_,fun en hen=>?_⟩
   ·rw[List.map_append,List.nodup_append]
    refine⟨h2.2.1,by simp,fun a ha b hb=>?_⟩
    obtain⟨en,hen,rfl⟩:=List.mem_map.1 ha
    simp at hb
    have:=h2.2.2 en hen; omega
   ·rcases List.mem_append.1 hen with k | k
    ·have:=h2.2.2 en k; omega
    ·simp at k; subst k; simp
  have:=map_put R hd hb hM hh
  simpa using this
 | some j=>
  have k2:l'=l.set j (y,v):=k2
  obtain⟨p,en,e1,e2,e3⟩:=hit_key (kt:=kt) hy k1 h2.1
  have hstay:(Instr.keyThatStays en.key kv).run Pr w=.ok kv w:=by
   rw[e3]; simp[Instr.keyThatStays,hV.bits]
  refine⟨w.putObj (e.blk id) (.map ⟨es.modify j fun en=>{ en with key:=kv,val:=vu }⟩ c),by simp[Instr.mapUpdate,run_underlying hX,qN h1,hc,hf,found,e2,hstay,hset],?_⟩
  have hM:MOk e l' (es.modify j fun en=>{ en with key:=kv,val:=vu }) c:=by
   rw[k2]
   have hlen:j<l.length:=(List.getElem?_eq_some_iff.1 e1).1
   refine⟨zN.of_at (by simp[h2.1.length]) fun i a b ha hb=>?_,?_,fun en' hen=>?_⟩
   ·rw[List.getElem?_modify]at hb
    by_cases cj:j=i
    ·subst cj
     rw[List.getElem?_set_self hlen]at ha
     cases ha
     simp[e2]at hb
     subst hb
     exact⟨hy,hv⟩
    ·rw[List.getElem?_set_ne cj]at ha
     simp[cj]at hb
     exact h2.1.at ha hb
   ·have:(es.modify j fun en=>{ en with key:=kv,val:=vu }).map (·.born)=es.map (·.born):=by
     apply List.ext_getElem?
     intro i
     simp only[List.getElem?_map,List.getElem?_modify]
     by_cases cj:j=i
     ·subst cj; cases es[j]?<;>simp
     ·simp[cj]
    rw[this]; exact h2.2.1
   ·obtain⟨i,hi⟩:=List.mem_iff_getElem?.1 hen
    rw[List.getElem?_modify]at hi
    by_cases cj:j=i
    ·subst cj
     simp[e2]at hi
     subst hi
     exact h2.2.2 en (List.mem_of_getElem? e2)
    ·simp[cj]at hi
     exact h2.2.2 en' (List.mem_of_getElem? hi)
  have:=map_put R hd hb hM hh
  simpa using this
end
end Go.Ev
end
