import PyProof.Rows.All
import Wide.All
import OpenK.AllK
import Wide.FinOn
import Lean
import PySem.Challenge.RW_np0105_01
set_option linter.all false
set_option Elab.async false
set_option genSizeOf false
set_option genInjectivity false
set_option genCtorIdx false
set_option tactic.hygienic false
set_option bootstrap.genMatcherCode false
namespace Mine.Internal
local macro_rules | `(tactic| fail $s:str) => do
  let t := s.getString
  unless t.startsWith "=" do Lean.Macro.throwUnsupported
  let x := Lean.mkIdent (.mkSimple (t.drop 1).toString)
  let y := Lean.mkIdent (.mkSimple ((t.drop 1).toString ++ "y"))
  let z := Lean.mkIdent (.mkSimple ((t.drop 1).toString ++ "z"))
  let r := Lean.Syntax.mkStrLit (t ++ "y")
  let q := Lean.Syntax.mkStrLit (t ++ "z")
  `(tactic| first | contradiction | subst $x | (injection $x with $x $y $z <;> fail $s <;> fail $r <;> fail $q) | (injection $x with $x $y <;> fail $s <;> fail $r) | (injection $x with $x <;> fail $s) | cases $x:ident)
local macro_rules | `(tactic| fail "l") => `(tactic| lia -abstractProof)
section
inductive PV where
  | none
  | bool (b : Bool)
  | int (i : Int)
  | str (s : List Nat)
  | tup (xs : List PV)
  | lst (xs : List PV)
  | ref (i : Nat)
noncomputable def PV.ctorIdx (x : PV) : Nat := x.casesOn 0 (fun Y => 1) (fun Y => 2) (fun Y => 3) (fun Y => 4) (fun Y => 5) fun Y => 6
inductive AObj where
  | list (xs : List PV)
  | dict (es : List (Int × PV))
  | inst (c : Nat) (fs : List (Nat × PV))
noncomputable def AObj.ctorIdx (x : AObj) : Nat := x.casesOn (fun Y => 0) (fun Y => 1) fun Y Y => 2
noncomputable abbrev AH := List AObj
noncomputable abbrev Loc := List (Option PV)
set_option genCtorIdx true in
inductive BOp where
  | add | sub | mul | div | mod
set_option genCtorIdx true in
inductive COp where
  | eq | ne | lt | le | gt | ge | is | isnot | mem | nomem
set_option genCtorIdx true in
inductive BI where
  | len | abs | ord | chr | str | max | min | any | list | tuple
mutual
inductive X where
  | none
  | bool (b : Bool)
  | int (i : Int)
  | str (s : List Nat)
  | loc (n : Nat)
  | gl (g : Nat)
  | bad
  | and (xs : List X)
  | or (xs : List X)
  | not (a : X)
  | neg (i : Int)
  | cmp (op : COp) (a b : X)
  | cmp2 (o1 o2 : COp) (a b c : X)
  | bin (op : BOp) (a b : X)
  | mulm (a b : X)
  | ife (c a b : X)
  | tup (xs : List X)
  | list (xs : List X)
  | listm (xs : List X)
  | dict
  | comp (elt : X) (tgt : T) (it : I) (cond : X)
  | attr (e : X) (k : Nat)
  | idx (e i : X)
  | slice (e lo hi : X)
  | callF (f : Nat) (as : List X)
  | callC (c : Nat) (as : List X)
  | callB (b : BI) (as : List X)
  | callM (e : X) (m : Nat) (as : List X)
inductive T where
  | loc (n : Nat)
  | attr (e : X) (k : Nat)
  | idx (e i : X)
  | tup (ts : List T)
inductive I where
  | val (e : X)
  | range (as : List X)
  | zip (as : List X)
  | rev (as : List X)
end
inductive S where
  | assign (t : T) (e : X)
  | expr (e : X)
  | ret (e : X)
  | ife (c : X) (a b : List S)
  | whil (c : X) (b : List S)
  | for_ (t : T) (it : I) (b : List S)
  | cont
  | brk
  | raise
inductive Fl where
  | next | cont | brk
  | ret (v : PV)
noncomputable def Fl.ctorIdx (x : Fl) : Nat := x.casesOn 0 1 2 fun Y => 3
section
variable {α β γ : Type}
noncomputable def PV.asN (v : PV) (r : Option γ) : Option γ := match v with | .none => r | _ => Option.none
noncomputable def PV.asB (v : PV) (f : Bool → Option γ) : Option γ := match v with | .bool b => f b | _ => Option.none
noncomputable def PV.asI (v : PV) (f : Int → Option γ) : Option γ := match v with | .int i => f i | _ => Option.none
noncomputable def PV.asS (v : PV) (f : List Nat → Option γ) : Option γ := match v with | .str i => f i | _ => Option.none
noncomputable def PV.asT (v : PV) (f : List PV → Option γ) : Option γ := match v with | .tup i => f i | _ => Option.none
noncomputable def PV.asL (v : PV) (f : List PV → Option γ) : Option γ := match v with | .lst i => f i | _ => Option.none
noncomputable def PV.asR (v : PV) (f : Nat → Option γ) : Option γ := match v with | .ref i => f i | _ => Option.none
noncomputable def bd (x : Option α) (f : α → Option γ) : Option γ := match x with | some a => f a | Option.none => Option.none
noncomputable def on (x : Option (α × β)) (f : α → β → Option γ) : Option γ := match x with | some (a,b) => f a b | Option.none => Option.none
noncomputable def onB (x : Option (PV × β)) (f : Bool → β → Option γ) : Option γ := on x fun v H => v.asB fun b => f b H
noncomputable def arg1 (as : List PV) (f : PV → Option γ) : Option γ := match as with | [a] => f a | _ => Option.none
noncomputable def arg2 (as : List PV) (f : PV → PV → Option γ) : Option γ := match as with | [a,b] => f a b | _ => Option.none
noncomputable def chk (c : Prop) [Decidable c] (r : Option γ) : Option γ := if c then r else Option.none
noncomputable def whn (b : Bool) (r : Option γ) : Option γ := cond b r Option.none
noncomputable def AObj.asL (o : AObj) (f : List PV → Option γ) : Option γ := match o with | .list xs => f xs | _ => Option.none
noncomputable def AObj.asI (o : AObj) (f : Nat → List (Nat × PV) → Option γ) : Option γ := match o with | .inst c fs => f c fs | _ => Option.none
noncomputable def getL (H : AH) (r : Nat) (f : List PV → Option γ) : Option γ := bd H[r]? fun o => o.asL f
theorem on_eq {x : Option (α × β)} {f : α → β → Option γ} {a b R} (h : x = some (a,b)) (k : f a b = R) : on x f = R := by subst h; exact k
theorem onB_eq {x : Option (PV × β)} {f : Bool → β → Option γ} {a b R} (h : x = some (.bool a,b)) (k : f a b = R) : onB x f = R := by subst h; exact k
theorem bd_eq {x : Option α} {f : α → Option γ} {a R} (h : x = some a) (k : f a = R) : bd x f = R := by subst h; exact k
theorem getL_eq {H : AH} {r xs} {f : List PV → Option γ} {R} (h : H[r]? = some (.list xs)) (k : f xs = R) : getL H r f = R := bd_eq h k
theorem chk_eq {c : Prop} [Decidable c] {r R : Option γ} (h : c) (k : r = R) : chk c r = R := (if_pos h).trans k
theorem whn_eq {c : Bool} {r R : Option γ} (h : c = true) (k : r = R) : whn c r = R := by subst h; exact k
theorem on_some {P : Prop} {x : Option (α × β)} {f : α → β → Option γ} {r} (e : on x f = some r) (k : ∀ a b,x = some (a,b) → f a b = some r → P) : P :=
  match x,e with
  | some (a,b),e => k a b rfl e
theorem bd_some {P : Prop} {x : Option α} {f : α → Option γ} {r} (e : bd x f = some r) (k : ∀ a,x = some a → f a = some r → P) : P :=
  match x,e with
  | some a,e => k a rfl e
theorem chk_some {P : Prop} {c : Prop} [Decidable c] {x : Option γ} {r} (e : chk c x = some r) (k : c → x = some r → P) : P :=
  if h : c then k h (by unfold chk at e; rw [if_pos h] at e; exact e) else by unfold chk at e; rw [if_neg h] at e; contradiction
theorem whn_some {P : Prop} {c : Bool} {x : Option γ} {r} (e : whn c x = some r) (k : c = true → x = some r → P) : P := by
  cases c
  · contradiction
  · exact k rfl e
theorem ret_some {P : α → β → Prop} {a a' : α} {b b' : β} (e : some (a,b) = some (a',b')) (k : P a b) : P a' b' := by injection e with e; injection e with e f; subst e; subst f; exact k
theorem just_some {P : α → Prop} {a a' : α} (e : some a = some a') (k : P a) : P a' := by injection e with e; subst e; exact k
theorem map_some {P : γ → Prop} {x : Option α} {f : α → γ} {r} (e : x.map f = some r) (k : ∀ a,x = some a → P (f a)) : P r :=
  match x,e with
  | some a,e => just_some e (k a rfl)
theorem asB_some {P : PV → Prop} {v : PV} {f : Bool → Option γ} {r} (e : v.asB f = some r) (k : ∀ b,f b = some r → P (.bool b)) : P v := by
  cases v <;> first | exact k _ e | contradiction
theorem asI_some {P : PV → Prop} {v : PV} {f : Int → Option γ} {r} (e : v.asI f = some r) (k : ∀ b,f b = some r → P (.int b)) : P v := by
  cases v <;> first | exact k _ e | contradiction
theorem asS_some {P : PV → Prop} {v : PV} {f : List Nat → Option γ} {r} (e : v.asS f = some r) (k : ∀ b,f b = some r → P (.str b)) : P v := by
  cases v <;> first | exact k _ e | contradiction
theorem asT_some {P : PV → Prop} {v : PV} {f : List PV → Option γ} {r} (e : v.asT f = some r) (k : ∀ b,f b = some r → P (.tup b)) : P v := by
  cases v <;> first | exact k _ e | contradiction
theorem asL_some {P : PV → Prop} {v : PV} {f : List PV → Option γ} {r} (e : v.asL f = some r) (k : ∀ b,f b = some r → P (.lst b)) : P v := by
  cases v <;> first | exact k _ e | contradiction
theorem asR_some {P : PV → Prop} {v : PV} {f : Nat → Option γ} {r} (e : v.asR f = some r) (k : ∀ b,f b = some r → P (.ref b)) : P v := by
  cases v <;> first | exact k _ e | contradiction
theorem asN_some {P : PV → Prop} {v : PV} {x : Option γ} {r} (e : v.asN x = some r) (k : x = some r → P .none) : P v := by
  cases v <;> first | exact k e | contradiction
theorem onB_some {P : Prop} {x : Option (PV × β)} {f : Bool → β → Option γ} {r} (e : onB x f = some r) (k : ∀ a b,x = some (.bool a,b) → f a b = some r → P) : P :=
  on_some e fun v b e1 e2 => asB_some (P := fun v => x = some (v,b) → P) e2 (fun a e2 e1 => k a b e1 e2) e1
theorem oasL_some {P : AObj → Prop} {v : AObj} {f : List PV → Option γ} {r} (e : v.asL f = some r) (k : ∀ b,f b = some r → P (.list b)) : P v := by
  cases v <;> first | exact k _ e | contradiction
theorem oasI_some {P : AObj → Prop} {v : AObj} {f : Nat → List (Nat × PV) → Option γ} {r} (e : v.asI f = some r) (k : ∀ c b,f c b = some r → P (.inst c b)) : P v := by
  cases v <;> first | exact k _ _ e | contradiction
theorem getL_some {P : Prop} {H : AH} {i} {f : List PV → Option γ} {r} (e : getL H i f = some r) (k : ∀ xs,H[i]? = some (.list xs) → f xs = some r → P) : P :=
  bd_some e fun o e1 e2 => oasL_some (P := fun o => H[i]? = some o → P) e2 (fun xs e2 e1 => k xs e1 e2) e1
theorem arg1_some {P : List PV → Prop} {as : List PV} {f : PV → Option γ} {r} (e : arg1 as f = some r) (k : ∀ a,f a = some r → P [a]) : P as :=
  match as,e with
  | [a],e => k a e
  | [],e => by contradiction
  | _ :: _ :: _,e => by contradiction
theorem arg2_some {P : List PV → Prop} {as : List PV} {f : PV → PV → Option γ} {r} (e : arg2 as f = some r) (k : ∀ a b,f a b = some r → P [a,b]) : P as :=
  match as,e with
  | [a,b],e => k a b e
  | [],e => by contradiction
  | [_],e => by contradiction
  | _ :: _ :: _ :: _,e => by contradiction
end
mutual
noncomputable def PV.eq : PV → PV → Option Bool
  | .none,b => (match b with | .none => some true | .tup _ => some false | .lst _ => some false | .int _ => some false | _ => Option.none)
  | .bool a,b => b.asB fun b => some (a == b)
  | .int a,b => (match b with | .int b => some (a == b) | .none => some false | _ => Option.none)
  | .str a,b => b.asS fun b => some (a == b)
  | .tup a,b => (match b with | .tup b => PV.eqs a b | .none => some false | _ => Option.none)
  | .lst a,b => (match b with | .lst b => PV.eqs a b | .none => some false | _ => Option.none)
  | .ref _,_ => Option.none
noncomputable def PV.eqs : List PV → List PV → Option Bool
  | [],b => some b.isEmpty
  | a :: r,b => (match b with
    | [] => some false
    | b :: t => bd (PV.eq a b) fun x => bd (PV.eqs r t) fun y => some (x && y))
end
noncomputable def strs? : List PV → Option (List (List Nat))
  | [] => some []
  | v :: r => v.asS fun s => (strs? r).map (s :: ·)
noncomputable def ints? : List PV → Option (List Int)
  | [] => some []
  | v :: r => v.asI fun s => (ints? r).map (s :: ·)
noncomputable def bools? : List PV → Option (List Bool)
  | [] => some []
  | v :: r => v.asB fun s => (bools? r).map (s :: ·)
noncomputable def memStr (x : List Nat) (ys : List PV) : Option Bool := (strs? ys).map (·.contains x)
noncomputable def memInt (x : Int) (ys : List PV) : Option Bool := (ints? ys).map (·.contains x)
mutual
noncomputable def PV.flat : PV → Nat → Bool
  | .ref _,_ => false
  | .tup xs,n => (match n with | 0 => false | n + 1 => PV.flats xs n)
  | .lst xs,n => (match n with | 0 => false | n + 1 => PV.flats xs n)
  | .none,_ => true
  | .bool _,_ => true
  | .int _,_ => true
  | .str _,_ => true
noncomputable def PV.flats : List PV → Nat → Bool
  | [],_ => true
  | x :: xs,n => PV.flat x n && PV.flats xs n
end
noncomputable def PV.isNil (v : PV) : Bool := match v with | .lst xs => xs.isEmpty | _ => false
noncomputable def PV.isNone (v : PV) : Bool := match v with | .none => true | _ => false
noncomputable def flatEq (a b : PV) : Option Bool := whn (a.flat 4 && b.flat 4) (a.eq b)
noncomputable def eqNil (H : AH) (a b : PV) : Option Bool := match a with | .ref i => getL H i fun xs => some xs.isEmpty | .lst xs => some xs.isEmpty | _ => flatEq a b
noncomputable def PV.eqH (H : AH) (a b : PV) : Option Bool := cond b.isNil (eqNil H a b) (flatEq a b)
noncomputable def memV (a b : PV) : Option Bool := match b with
  | .str y => a.asS fun x => (match x with | [c] => some (y.contains c) | _ => Option.none)
  | .tup ys => a.asS fun x => memStr x ys
  | .lst ys => a.asI fun x => memInt x ys
  | _ => Option.none
noncomputable def acmp (op : COp) (H : AH) (a b : PV) : Option Bool :=
  match op with
  | .eq => PV.eqH H a b
  | .ne => (PV.eqH H a b).map (!·)
  | .lt => a.asI fun x => b.asI fun y => some (decide (x < y))
  | .le => a.asI fun x => b.asI fun y => some (decide (x ≤ y))
  | .gt => a.asI fun x => b.asI fun y => some (decide (y < x))
  | .ge => a.asI fun x => b.asI fun y => some (decide (y ≤ x))
  | .is => b.asN (some a.isNone)
  | .isnot => b.asN (some (!a.isNone))
  | .mem => memV a b
  | .nomem => (memV a b).map (!·)
noncomputable def lim : Nat := 1000000
noncomputable def rep {α : Type} (xs : List α) : Nat → List α
  | 0 => []
  | n + 1 => xs ++ rep xs n
noncomputable def addV (H : AH) (a b : PV) : Option PV := match b with
  | .int y => a.asI fun x => some (.int (x + y))
  | .str y => a.asS fun x => chk (x.length + y.length ≤ lim) (some (.str (x ++ y)))
  | .lst y => (match a with
    | .lst x => chk (x.length + y.length ≤ lim) (some (.lst (x ++ y)))
    | .ref r => getL H r fun x => chk (x.length + y.length ≤ lim) (some (.lst (x ++ y)))
    | _ => Option.none)
  | .tup y => a.asT fun x => chk (x.length + y.length ≤ lim) (some (.tup (x ++ y)))
  | _ => Option.none
noncomputable def mulV (a : PV) (n : Int) : Option PV := match a with
  | .int x => chk (n.natAbs < 1152921504606846976) (some (.int (x * n)))
  | .lst x => chk (0 ≤ n ∧ n ≤ lim ∧ x.length * n.toNat ≤ lim) (some (.lst (rep x n.toNat)))
  | .tup x => chk (0 ≤ n ∧ n ≤ lim ∧ x.length * n.toNat ≤ lim) (some (.tup (rep x n.toNat)))
  | _ => Option.none
noncomputable def abin (op : BOp) (H : AH) (a b : PV) : Option PV :=
  match op with
  | .add => addV H a b
  | .sub => a.asI fun x => b.asI fun y => some (.int (x - y))
  | .mul => b.asI fun n => mulV a n
  | .div => a.asI fun x => b.asI fun y => chk (y ≠ 0 ∧ y.natAbs < 1073741824) (some (.int (Int.fdiv x y)))
  | .mod => a.asI fun x => b.asI fun y => chk (y ≠ 0) (some (.int (Int.fmod x y)))
noncomputable def at? {α : Type} (xs : List α) (i : Int) : Option α :=
  if 0 ≤ i then xs[i.toNat]? else if 0 ≤ i + xs.length then xs[(i + xs.length).toNat]? else Option.none
noncomputable def place? (n : Nat) (i : Int) : Option Nat :=
  if 0 ≤ i then (if i.toNat < n then some i.toNat else Option.none)
  else if 0 ≤ i + n then some (i + n).toNat else Option.none
noncomputable def clamp (n : Nat) (i : Int) : Nat := if 0 ≤ i then min i.toNat n else (i + n).toNat
noncomputable def cut {α : Type} (xs : List α) (lo hi : Option Int) : List α :=
  (xs.drop (lo.elim 0 (clamp xs.length))).take (hi.elim xs.length (clamp xs.length) - lo.elim 0 (clamp xs.length))
noncomputable def bound? : PV → Option (Option Int)
  | .none => some Option.none
  | .int i => some (some i)
  | _ => Option.none
noncomputable def dget (es : List (Int × PV)) (k : Int) : Option PV := es.lookup k
noncomputable def dput (es : List (Int × PV)) (k : Int) (v : PV) : List (Int × PV) := (k,v) :: es
noncomputable def fput (fs : List (Nat × PV)) (k : Nat) (v : PV) : List (Nat × PV) :=
  match fs with
  | [] => [(k,v)]
  | (j,w) :: r => if j = k then (k,v) :: r else (j,w) :: fput r k v
noncomputable def aidx (H : AH) (a b : PV) : Option PV := b.asI fun i => match a with
  | .tup xs => at? xs i
  | .lst xs => at? xs i
  | .str s => (at? s i).map fun c => .str [c]
  | .ref r => bd H[r]? fun o => (match o with
    | .list xs => at? xs i
    | .dict es => dget es i
    | _ => Option.none)
  | _ => Option.none
noncomputable def sliceV (lo hi : Option Int) (a : PV) : Option PV := match a with
  | .tup xs => some (.tup (cut xs lo hi))
  | .lst xs => some (.lst (cut xs lo hi))
  | .str xs => some (.str (cut xs lo hi))
  | _ => Option.none
noncomputable def aslice (a lo hi : PV) : Option PV := bd (bound? lo) fun i => bd (bound? hi) fun j => sliceV i j a
noncomputable def lower1 (c : Nat) : Nat := if 65 ≤ c ∧ c ≤ 90 then c + 32 else c
noncomputable def lenV (H : AH) (a : PV) : Option PV := match a with
  | .str s => some (.int s.length)
  | .tup s => some (.int s.length)
  | .lst s => some (.int s.length)
  | .ref r => getL H r fun xs => some (.int xs.length)
  | _ => Option.none
noncomputable def listV (a : PV) : Option PV := match a with
  | .lst xs => some (.lst xs)
  | .tup xs => some (.lst xs)
  | _ => Option.none
noncomputable def tupleV (H : AH) (a : PV) : Option PV := match a with
  | .lst xs => some (.tup xs)
  | .ref r => getL H r fun xs => some (.tup xs)
  | _ => Option.none
noncomputable def abi (b : BI) (H : AH) (as : List PV) : Option PV :=
  match b with
  | .len => arg1 as (lenV H)
  | .abs => arg1 as fun a => a.asI fun i => some (.int i.natAbs)
  | .ord => arg1 as fun a => a.asS fun s => (match s with | [c] => some (.int c) | _ => Option.none)
  | .chr => arg1 as fun a => a.asI fun i => chk (0 ≤ i ∧ i < 128) (some (.str [i.toNat]))
  | .str => arg1 as fun a => a.asI fun i => chk (0 ≤ i ∧ i < 10) (some (.str [48 + i.toNat]))
  | .max => arg2 as fun a b => a.asI fun a => b.asI fun b => some (.int (max a b))
  | .min => arg2 as fun a b => a.asI fun a => b.asI fun b => some (.int (min a b))
  | .any => arg1 as fun a => a.asL fun xs => (bools? xs).map fun bs => .bool (bs.any id)
  | .list => arg1 as listV
  | .tuple => arg1 as (tupleV H)
inductive Src where
  | vals (xs : List PV)
  | live (r : Nat) (xs : List PV)
noncomputable def zips : List PV → List PV → List PV
  | a :: r,b :: t => .tup [a,b] :: zips r t
  | _,_ => []
noncomputable def intsFrom (lo : Int) : Nat → List PV
  | 0 => []
  | n + 1 => .int lo :: intsFrom (lo + 1) n
noncomputable def asrc (H : AH) (v : PV) : Option Src := match v with
  | .lst xs => some (.vals xs)
  | .tup xs => some (.vals xs)
  | .str s => some (.vals (s.map fun c => .str [c]))
  | .ref r => getL H r fun xs => some (.live r xs)
  | _ => Option.none
noncomputable def srcRange (as : List PV) : Option Src := match as with
  | [a] => a.asI fun n => chk (-(lim : Int) ≤ n ∧ n ≤ lim) (some (.vals (intsFrom 0 n.toNat)))
  | [a,b] => a.asI fun a => b.asI fun n => chk (0 ≤ a ∧ a ≤ lim ∧ -(lim : Int) ≤ n ∧ n ≤ lim) (some (.vals (intsFrom a (n - a).toNat)))
  | _ => Option.none
noncomputable def srcZip (as : List PV) : Option Src := arg2 as fun a b => a.asS fun a => b.asS fun b => some (.vals (zips (a.map fun c => .str [c]) (b.map fun c => .str [c])))
noncomputable def srcRev (as : List PV) : Option Src := arg1 as fun a => a.asL fun xs => some (.vals xs.reverse)
noncomputable def nAppend : Nat := 1000
noncomputable def nPop : Nat := 1001
noncomputable def nLower : Nat := 1002
noncomputable def nJoin : Nat := 1003
noncomputable def nGet : Nat := 1004
inductive MK where
  | user (f : Nat)
  | list | dict | str
noncomputable def MK.ctorIdx (x : MK) : Nat := x.casesOn (fun Y => 0) 1 2 3
noncomputable def getV (H : AH) (as : List PV) (es : List (Int × PV)) : Option (PV × AH) := arg2 as fun k d => k.asI fun Y => whn es.isEmpty (some (d,H))
noncomputable def ameth (H : AH) (k : MK) (o : PV) (m : Nat) (as : List PV) : Option (PV × AH) :=
  match k with
  | .user _ => Option.none
  | .list => o.asR fun r => getL H r fun xs => cond (m.beq nAppend) (arg1 as fun v => chk (xs.length < lim) (some (.none,H.set r (.list (xs ++ [v])))))
      (whn (m.beq nPop) (whn as.isEmpty (bd xs.getLast? fun v => some (v,H.set r (.list xs.dropLast)))))
  | .dict => o.asR fun r => bd H[r]? fun o => (match o with
      | .dict es => whn (m.beq nGet) (getV H as es)
      | _ => Option.none)
  | .str => o.asS fun s => cond (m.beq nLower) (whn as.isEmpty (match s with
        | [c] => chk (c = 97 ∨ c = 98 ∨ c = 65 ∨ c = 10) (some (.str [lower1 c],H))
        | _ => Option.none))
      (whn (m.beq nJoin) (arg1 as fun a => a.asL fun xs => chk (s = []) (bd (strs? xs) fun l => chk (l.flatten.length ≤ lim) (some (.str l.flatten,H)))))
noncomputable def aattr (H : AH) (o : PV) (k : Nat) : Option PV := o.asR fun r => bd H[r]? fun o => o.asI fun Y fs => fs.lookup k
noncomputable def asetidx (H : AH) (o i v : PV) : Option AH := o.asR fun r => i.asI fun i => bd H[r]? fun o => (match o with
    | .list xs => (place? xs.length i).map fun j => H.set r (.list (xs.set j v))
    | .dict es => chk (es.length < lim) (some (H.set r (.dict (dput es i v))))
    | _ => Option.none)
structure FnDef where
  params : Nat
  dflts : List PV
  slots : Nat
  body : List S
structure Text where
  fn : Nat → FnDef
  const : Nat → PV
  meth : Nat → Nat → Option Nat
  init : Nat → Nat
  nn : Nat
  nc : Nat
noncomputable def asetattr (t : Text) (H : AH) (o : PV) (k : Nat) (v : PV) : Option AH :=
  o.asR fun r => bd H[r]? fun o => o.asI fun c fs => chk (k < t.nn ∧ t.meth c k = Option.none ∧ fs.length < 90) (some (H.set r (.inst c (fput fs k v))))
noncomputable def kindOf (t : Text) (H : AH) (o : PV) (m : Nat) : Option MK :=
  match o with
  | .ref r => bd H[r]? fun o => (match o with
    | .inst c _ => (t.meth c m).map .user
    | .list _ => some .list
    | .dict es => whn es.isEmpty (some .dict))
  | .str _ => some .str
  | _ => Option.none
noncomputable abbrev CF := Nat → List PV → AH → Option (PV × AH)
noncomputable def compK (x : Option (Option PV × AH)) (k : AH → Option (List PV × AH)) : Option (List PV × AH) := on x fun w H' => match w with
  | some w => on (k H') fun ws H'' => some (w :: ws,H'')
  | Option.none => k H'
noncomputable def compV (f : PV → AH → Option (Option PV × AH)) : List PV → AH → Option (List PV × AH)
  | [],H => some ([],H)
  | v :: r,H => compK (f v H) fun H' => compV f r H'
noncomputable def compL (f : PV → AH → Option (Option PV × AH)) (r : Nat) : List PV → Nat → AH → Option (List PV × AH)
  | [],i,H => getL H r fun ys => (match ys[i]? with
    | Option.none => some ([],H)
    | some _ => Option.none)
  | _ :: t,i,H => getL H r fun ys => bd ys[i]? fun y => compK (f y H) fun H' => compL f r t (i + 1) H'
noncomputable def compS (f : PV → AH → Option (Option PV × AH)) (s : Src) (H : AH) : Option (List PV × AH) :=
  match s with
  | .vals xs => compV f xs H
  | .live r xs => compL f r xs 0 H
noncomputable def citemG (a : Option (Loc × AH)) (c e : Loc → AH → Option (PV × AH)) : Option (Option PV × AH) :=
  on a fun l' H1 => onB (c l' H1) fun b H2 => cond b (on (e l' H2) fun w H3 => some (some w,H3)) (some (Option.none,H2))
section
variable (t : Text) (cf : CF)
mutual
noncomputable def aeval : X → Loc → AH → Option (PV × AH)
  | .none,_,H => some (.none,H)
  | .bool b,_,H => some (.bool b,H)
  | .int i,_,H => some (.int i,H)
  | .str s,_,H => some (.str s,H)
  | .neg i,_,H => some (.int (-i),H)
  | .loc n,l,H => bd l[n]? fun o => bd o fun v => some (v,H)
  | .gl g,_,H => some (t.const g,H)
  | .bad,_,_ => Option.none
  | .and xs,l,H => aand xs l H
  | .or xs,l,H => aor xs l H
  | .not a,l,H => onB (aeval a l H) fun c H' => some (.bool (!c),H')
  | .cmp op a b,l,H => on (aeval a l H) fun v H' => on (aeval b l H') fun w H'' => bd (acmp op H'' v w) fun c => some (.bool c,H'')
  | .cmp2 o1 o2 a b c,l,H => on (aeval a l H) fun u H1 => on (aeval b l H1) fun v H2 => bd (acmp o1 H2 u v) fun x =>
      cond x (on (aeval c l H2) fun w H3 => bd (acmp o2 H3 v w) fun c => some (.bool c,H3)) (some (.bool false,H2))
  | .bin op a b,l,H => on (aeval a l H) fun v H' => on (aeval b l H') fun w H'' => bd (abin op H'' v w) fun r => some (r,H'')
  | .mulm a b,l,H => on (aeval a l H) fun v H' => v.asL fun xs => on (aeval b l H') fun w H'' => w.asI fun n =>
      chk (0 ≤ n ∧ n ≤ lim ∧ xs.length * n.toNat ≤ lim) (some (.ref H''.length,H'' ++ [.list (rep xs n.toNat)]))
  | .ife c a b,l,H => onB (aeval c l H) fun x H' => cond x (aeval a l H') (aeval b l H')
  | .tup xs,l,H => on (aevals xs l H) fun vs H' => some (.tup vs,H')
  | .list xs,l,H => on (aevals xs l H) fun vs H' => some (.lst vs,H')
  | .listm xs,l,H => on (aevals xs l H) fun vs H' => some (.ref H'.length,H' ++ [.list vs])
  | .dict,_,H => some (.ref H.length,H ++ [.dict []])
  | .comp elt tgt it cond,l,H => on (asource it l H) fun s H' => on (compS (fun v H => citemG (aassign tgt v l H) (fun l H => aeval cond l H) (fun l H => aeval elt l H)) s H') fun ws H' => some (.lst ws,H')
  | .attr e k,l,H => on (aeval e l H) fun o H' => bd (aattr H' o k) fun v => some (v,H')
  | .idx e i,l,H => on (aeval e l H) fun o H' => on (aeval i l H') fun j H'' => bd (aidx H'' o j) fun v => some (v,H'')
  | .slice e lo hi,l,H => on (aeval e l H) fun o H1 => on (aeval lo l H1) fun a H2 => on (aeval hi l H2) fun b H3 => bd (aslice o a b) fun v => some (v,H3)
  | .callF f as,l,H => on (aevals as l H) fun vs H' => cf f vs H'
  | .callC c as,l,H => on (aevals as l H) fun vs H' => chk (c < t.nc) (on (cf (t.init c) (.ref H'.length :: vs) (H' ++ [.inst c []])) fun v H'' => v.asN (some (.ref H'.length,H'')))
  | .callB b as,l,H => on (aevals as l H) fun vs H' => bd (abi b H' vs) fun v => some (v,H')
  | .callM e m as,l,H => on (aeval e l H) fun o H' => bd (kindOf t H' o m) fun k => on (aevals as l H') fun vs H'' => (match k with
      | .user f => cf f (o :: vs) H''
      | k => ameth H'' k o m vs)
noncomputable def aand : List X → Loc → AH → Option (PV × AH)
  | [],_,_ => Option.none
  | x :: r,l,H => onB (aeval x l H) fun b H' => cond (r.isEmpty || !b) (some (.bool b,H')) (aand r l H')
noncomputable def aor : List X → Loc → AH → Option (PV × AH)
  | [],_,_ => Option.none
  | x :: r,l,H => onB (aeval x l H) fun b H' => cond (r.isEmpty || b) (some (.bool b,H')) (aor r l H')
noncomputable def aevals : List X → Loc → AH → Option (List PV × AH)
  | [],_,H => some ([],H)
  | x :: r,l,H => on (aeval x l H) fun v H' => on (aevals r l H') fun vs H'' => some (v :: vs,H'')
noncomputable def asource : I → Loc → AH → Option (Src × AH)
  | .range as,l,H => on (aevals as l H) fun vs H' => bd (srcRange vs) fun s => some (s,H')
  | .zip as,l,H => on (aevals as l H) fun vs H' => bd (srcZip vs) fun s => some (s,H')
  | .rev as,l,H => on (aevals as l H) fun vs H' => bd (srcRev vs) fun s => some (s,H')
  | .val x,l,H => on (aeval x l H) fun v H' => bd (asrc H' v) fun s => some (s,H')
noncomputable def aassign : T → PV → Loc → AH → Option (Loc × AH)
  | .loc n,v,l,H => chk (n < l.length) (some (l.set n (some v),H))
  | .attr e k,v,l,H => on (aeval e l H) fun o H' => bd (asetattr t H' o k v) fun h => some (l,h)
  | .idx e i,v,l,H => on (aeval e l H) fun o H' => on (aeval i l H') fun j H'' => bd (asetidx H'' o j v) fun h => some (l,h)
  | .tup ts,v,l,H => v.asT fun vs => aassigns ts vs l H
noncomputable def aassigns : List T → List PV → Loc → AH → Option (Loc × AH)
  | [],vs,l,H => whn vs.isEmpty (some (l,H))
  | t :: ts,vs,l,H => (match vs with
    | v :: vs => on (aassign t v l H) fun l' H' => aassigns ts vs l' H'
    | [] => Option.none)
end
noncomputable def seqF (x : Option (Fl × Loc × AH)) (k : Loc → AH → Option (Fl × Loc × AH)) : Option (Fl × Loc × AH) := match x with
  | some (.next,l',H') => k l' H'
  | x => x
noncomputable def wfl : Fl → Fl
  | .ret v => .ret v
  | .brk => .next
  | _ => .cont
noncomputable def wstepG (c : Loc → AH → Option (PV × AH)) (b : Loc → AH → Option (Fl × Loc × AH)) (l : Loc) (H : AH) : Option (Fl × Loc × AH) :=
  onB (c l H) fun x H' => cond x (on (b l H') fun fl p => some (wfl fl,p)) (some (.next,l,H'))
noncomputable def turnK (x : Option (Fl × Loc × AH)) (k : Loc → AH → Option (Fl × Loc × AH)) : Option (Fl × Loc × AH) := match x with
  | some (.cont,l',H') => k l' H'
  | x => x
noncomputable def turns (step : Loc → AH → Option (Fl × Loc × AH)) : Nat → Loc → AH → Option (Fl × Loc × AH)
  | 0,_,_ => Option.none
  | n + 1,l,H => turnK (step l H) fun l' H' => turns step n l' H'
noncomputable def fuel : Nat := 1000000
noncomputable def forK (x : Option (Fl × Loc × AH)) (k : Loc → AH → Option (Fl × Loc × AH)) : Option (Fl × Loc × AH) := match x with
  | some (.ret w,l',H') => some (.ret w,l',H')
  | some (.brk,l',H') => some (.next,l',H')
  | some (_,l',H') => k l' H'
  | Option.none => Option.none
noncomputable def forV (step : PV → Loc → AH → Option (Fl × Loc × AH)) : List PV → Loc → AH → Option (Fl × Loc × AH)
  | [],l,H => some (.next,l,H)
  | v :: r,l,H => forK (step v l H) fun l' H' => forV step r l' H'
noncomputable def forL (step : PV → Loc → AH → Option (Fl × Loc × AH)) (r : Nat) : List PV → Nat → Loc → AH → Option (Fl × Loc × AH)
  | [],i,l,H => getL H r fun ys => (match ys[i]? with
    | Option.none => some (.next,l,H)
    | some _ => Option.none)
  | _ :: t,i,l,H => getL H r fun ys => bd ys[i]? fun y => forK (step y l H) fun l' H' => forL step r t (i + 1) l' H'
noncomputable def forS (step : PV → Loc → AH → Option (Fl × Loc × AH)) (s : Src) (l : Loc) (H : AH) : Option (Fl × Loc × AH) :=
  match s with
  | .vals xs => forV step xs l H
  | .live r xs => forL step r xs 0 l H
mutual
noncomputable def aexec : S → Loc → AH → Option (Fl × Loc × AH)
  | .assign tg e,l,H => on (aeval t cf e l H) fun v H' => on (aassign t cf tg v l H') fun l' H'' => some (.next,l',H'')
  | .expr e,l,H => on (aeval t cf e l H) fun v H' => v.asN (some (.next,l,H'))
  | .ret e,l,H => on (aeval t cf e l H) fun v H' => some (.ret v,l,H')
  | .ife c a b,l,H => onB (aeval t cf c l H) fun x H' => cond x (aexecs a l H') (aexecs b l H')
  | .whil c b,l,H => turns (wstepG (aeval t cf c) (fun l H => aexecs b l H)) fuel l H
  | .for_ tg it b,l,H => on (asource t cf it l H) fun s H' => forS (fun v l H => on (aassign t cf tg v l H) fun l' H'' => aexecs b l' H'') s l H'
  | .cont,l,H => some (.cont,l,H)
  | .brk,l,H => some (.brk,l,H)
  | .raise,_,_ => Option.none
noncomputable def aexecs : List S → Loc → AH → Option (Fl × Loc × AH)
  | [],l,H => some (.next,l,H)
  | s :: r,l,H => seqF (aexec s l H) fun l' H' => aexecs r l' H'
end
end
noncomputable def frame (f : FnDef) (as : List PV) : Option Loc :=
  if as.length ≤ f.params ∧ f.params ≤ as.length + f.dflts.length then
    some ((as ++ f.dflts.drop (f.dflts.length - (f.params - as.length))).map some ++ List.replicate (f.slots - f.params) Option.none)
  else Option.none
noncomputable def retOf : Fl → Option PV
  | .ret v => some v
  | .next => some .none
  | _ => Option.none
noncomputable def acallR (t : Text) : Nat → CF
  | 0,_,_,_ => Option.none
  | d + 1,f,as,H => bd (frame (t.fn f) as) fun l => on (aexecs t (acallR t d) (t.fn f).body l H) fun fl p => bd (retOf fl) fun v => some (v,p.2)
@[irreducible] noncomputable def acall (t : Text) (d : Nat) : CF := acallR t d
theorem acall_zero (t : Text) (f : Nat) (as : List PV) (H : AH) : acall t 0 f as H = none := by unfold acall; rfl
theorem acall_succ (t : Text) (d f : Nat) (as : List PV) (H : AH) : acall t (d + 1) f as H = bd (frame (t.fn f) as) fun l => on (aexecs t (acall t d) (t.fn f).body l H) fun fl p => bd (retOf fl) fun v => some (v,p.2) := by unfold acall; rfl
end
section
noncomputable def b_downcase : List S := [.ife (.or [(.cmp2 .le .le (.int 65) (.loc 0) (.int 90)),(.and [(.cmp2 .le .le (.int 192) (.loc 0) (.int 222)),(.cmp .ne (.loc 0) (.int 215))])]) [(.ret (.bin .add (.loc 0) (.int 32)))] [],
  .ret (.loc 0)]
noncomputable def f_downcase : FnDef := ⟨1,[],1,b_downcase⟩
noncomputable def b_upcase : List S := [.ife (.or [(.cmp2 .le .le (.int 97) (.loc 0) (.int 122)),(.and [(.cmp2 .le .le (.int 224) (.loc 0) (.int 254)),(.cmp .ne (.loc 0) (.int 247))])]) [(.ret (.bin .sub (.loc 0) (.int 32)))] [],
  .ret (.loc 0)]
noncomputable def f_upcase : FnDef := ⟨1,[],1,b_upcase⟩
noncomputable def b_fold : List S := [.ret (.callF 0 [(.loc 0)])]
noncomputable def f_fold : FnDef := ⟨1,[],1,b_fold⟩
noncomputable def b_read_class : List S := [.ife (.or [(.cmp .ge (.bin .add (.loc 1) (.int 1)) (.callB .len [(.loc 0)])),(.cmp .ne (.idx (.loc 0) (.loc 1)) (.gl 0)),(.cmp .ne (.idx (.loc 0) (.bin .add (.loc 1) (.int 1))) (.gl 1))]) [(.ret .none)] [],
  .assign (.loc 2) .bad,
  .ife (.cmp .is (.loc 2) .none) [(.ret .none)] [],
  .assign (.loc 3) (.callM (.str []) 1003 [(.comp (.callB .chr [(.loc 4)]) (.loc 4) (.val (.slice (.loc 0) (.bin .add (.loc 1) (.int 2)) (.loc 2))) (.bool true))]),
  .ife (.cmp .nomem (.loc 3) .bad) [.raise] [],
  .ret (.tup [(.loc 3),(.bin .add (.loc 2) (.int 2))])]
noncomputable def f_read_class : FnDef := ⟨2,[],5,b_read_class⟩
noncomputable def b_read_part : List S := [.assign (.loc 2) (.idx (.loc 0) (.loc 1)),
  .ife (.and [(.cmp .lt (.bin .add (.loc 1) (.int 2)) (.callB .len [(.loc 0)])),(.cmp .eq (.idx (.loc 0) (.bin .add (.loc 1) (.int 1))) (.gl 2)),(.cmp .ne (.idx (.loc 0) (.bin .add (.loc 1) (.int 2))) (.gl 3))]) [(.ret (.tup [(.tup [(.loc 2),(.idx (.loc 0) (.bin .add (.loc 1) (.int 2)))]),(.bin .add (.loc 1) (.int 3))]))] [],
  .ret (.tup [(.tup [(.loc 2),(.loc 2)]),(.bin .add (.loc 1) (.int 1))])]
noncomputable def f_read_part : FnDef := ⟨2,[],3,b_read_part⟩
noncomputable def b_read_set : List S := [.assign (.loc 2) (.and [(.cmp .lt (.loc 1) (.callB .len [(.loc 0)])),(.cmp .eq (.idx (.loc 0) (.loc 1)) (.gl 4))]),
  .assign (.loc 1) (.ife (.loc 2) (.bin .add (.loc 1) (.int 1)) (.loc 1)),
  .assign (.tup [(.loc 3),(.loc 4),(.loc 5)]) (.tup [(.loc 1),(.listm []),(.listm [])]),
  .whil (.bool true) [(.ife (.cmp .ge (.loc 1) (.callB .len [(.loc 0)])) [.raise] []),(.ife (.and [(.cmp .eq (.idx (.loc 0) (.loc 1)) (.gl 3)),(.cmp .gt (.loc 1) (.loc 3))]) [(.ret (.tup [(.tup [(.str [115,101,116]),(.loc 2),(.callB .tuple [(.loc 4)]),(.callB .tuple [(.loc 5)])]),(.bin .add (.loc 1) (.int 1))]))] []),(.assign (.loc 6) (.callF 3 [(.loc 0),(.loc 1)])),(.ife (.cmp .isnot (.loc 6) .none) [(.expr (.callM (.loc 5) 1000 [(.idx (.loc 6) (.int 0))])),(.assign (.loc 1) (.idx (.loc 6) (.int 1)))] [(.assign (.tup [(.loc 7),(.loc 1)]) (.callF 4 [(.loc 0),(.loc 1)])),(.expr (.callM (.loc 4) 1000 [(.loc 7)]))])]]
noncomputable def f_read_set : FnDef := ⟨2,[],8,b_read_set⟩
noncomputable def b_is_in_ranges : List S := [.ret (.callB .any [(.comp (.cmp2 .le .le (.loc 2) (.loc 1) (.loc 3)) (.tup [(.loc 2),(.loc 3)]) (.val (.loc 0)) (.bool true))])]
noncomputable def f_is_in_ranges : FnDef := ⟨2,[],4,b_is_in_ranges⟩
noncomputable def b_Choice_init : List S := [.assign (.attr (.loc 0) 0) (.loc 1),
  .assign (.attr (.loc 0) 1) (.loc 2),
  .assign (.attr (.loc 0) 2) (.loc 3)]
noncomputable def f_Choice_init : FnDef := ⟨4,[],4,b_Choice_init⟩
noncomputable def b_Regmachine_init : List S := [.assign (.attr (.loc 0) 3) (.loc 1),
  .assign (.attr (.loc 0) 4) (.loc 2),
  .assign (.attr (.loc 0) 5) (.loc 3),
  .assign (.attr (.loc 0) 6) (.loc 4),
  .assign (.attr (.loc 0) 7) (.loc 5),
  .assign (.attr (.loc 0) 8) (.int 0),
  .assign (.attr (.loc 0) 9) (.int 0),
  .assign (.attr (.loc 0) 10) (.listm []),
  .assign (.attr (.loc 0) 11) (.listm []),
  .assign (.attr (.loc 0) 12) (.listm []),
  .assign (.attr (.loc 0) 2) (.listm [])]
noncomputable def f_Regmachine_init : FnDef := ⟨6,[(.int 0),(.int 400000)],6,b_Regmachine_init⟩
noncomputable def b_Regmachine_match_at : List S := [.assign (.attr (.loc 0) 9) (.loc 2),
  .assign (.attr (.loc 0) 10) (.mulm (.list [(.neg 1)]) (.bin .add (.bin .mul (.int 2) (.attr (.attr (.loc 0) 3) 13)) (.int 2))),
  .assign (.attr (.loc 0) 11) (.mulm (.list [(.neg 1)]) (.attr (.attr (.loc 0) 3) 11)),
  .assign (.attr (.loc 0) 12) (.listm []),
  .assign (.attr (.loc 0) 2) (.listm []),
  .assign (.loc 3) (.callM (.loc 0) 14 [(.loc 1)]),
  .ife (.cmp .is (.loc 3) .none) [(.ret .none)] [],
  .assign (.tup [(.idx (.attr (.loc 0) 10) (.int 0)),(.idx (.attr (.loc 0) 10) (.int 1))]) (.tup [(.loc 1),(.loc 3)]),
  .ret (.comp (.callM (.loc 0) 15 [(.loc 4)]) (.loc 4) (.range [(.bin .add (.attr (.attr (.loc 0) 3) 13) (.int 1))]) (.bool true))]
noncomputable def f_Regmachine_match_at : FnDef := ⟨3,[],5,b_Regmachine_match_at⟩
noncomputable def b_Regmachine_span : List S := [.assign (.tup [(.loc 2),(.loc 3)]) (.tup [(.idx (.attr (.loc 0) 10) (.bin .mul (.int 2) (.loc 1))),(.idx (.attr (.loc 0) 10) (.bin .add (.bin .mul (.int 2) (.loc 1)) (.int 1)))]),
  .ret (.ife (.or [(.cmp .lt (.loc 2) (.int 0)),(.cmp .lt (.loc 3) (.int 0))]) .none (.tup [(.loc 2),(.loc 3)]))]
noncomputable def f_Regmachine_span : FnDef := ⟨2,[],4,b_Regmachine_span⟩
noncomputable def b_Regmachine_run : List S := [.assign (.loc 2) (.int 0),
  .whil (.bool true) [(.assign (.attr (.loc 0) 8) (.bin .add (.attr (.loc 0) 8) (.int 1))),(.ife (.cmp .gt (.attr (.loc 0) 8) (.attr (.loc 0) 7)) [.raise] []),(.assign (.loc 3) (.idx (.idx (.attr (.attr (.loc 0) 3) 16) (.loc 2)) (.int 0))),(.ife (.cmp .eq (.loc 3) (.str [100,111,110,101])) [(.ret (.loc 1))] []),(.ife (.cmp .eq (.loc 3) (.str [115,112,108,105,116])) [(.expr (.callM (.attr (.loc 0) 12) 1000 [(.callC 0 [(.idx (.idx (.attr (.attr (.loc 0) 3) 16) (.loc 2)) (.int 2)),(.loc 1),(.callB .len [(.attr (.loc 0) 2)])])])),(.assign (.loc 2) (.idx (.idx (.attr (.attr (.loc 0) 3) 16) (.loc 2)) (.int 1))),.cont] []),(.ife (.cmp .eq (.loc 3) (.str [106,117,109,112])) [(.assign (.loc 2) (.idx (.idx (.attr (.attr (.loc 0) 3) 16) (.loc 2)) (.int 1))),.cont] []),(.assign (.loc 4) (.callM (.loc 0) 17 [(.idx (.attr (.attr (.loc 0) 3) 16) (.loc 2)),(.loc 1)])),(.ife (.cmp .isnot (.loc 4) .none) [(.assign (.tup [(.loc 1),(.loc 2)]) (.tup [(.loc 4),(.bin .add (.loc 2) (.int 1))])),.cont] []),(.ife (.cmp .eq (.attr (.loc 0) 12) (.list [])) [(.ret .none)] []),(.assign (.loc 5) (.callM (.attr (.loc 0) 12) 1001 [])),(.expr (.callM (.loc 0) 18 [(.attr (.loc 5) 2)])),(.assign (.tup [(.loc 1),(.loc 2)]) (.tup [(.attr (.loc 5) 1),(.attr (.loc 5) 0)]))]]
noncomputable def f_Regmachine_run : FnDef := ⟨2,[],6,b_Regmachine_run⟩
noncomputable def b_Regmachine_go_back : List S := [.whil (.cmp .gt (.callB .len [(.attr (.loc 0) 2)]) (.loc 1)) [(.assign (.tup [(.loc 2),(.loc 3),(.loc 4)]) (.callM (.attr (.loc 0) 2) 1001 [])),(.assign (.idx (.loc 2) (.loc 3)) (.loc 4))]]
noncomputable def f_Regmachine_go_back : FnDef := ⟨2,[],5,b_Regmachine_go_back⟩
noncomputable def b_Regmachine_keep : List S := [.expr (.callM (.attr (.loc 0) 2) 1000 [(.tup [(.loc 1),(.loc 2),(.idx (.loc 1) (.loc 2))])]),
  .assign (.idx (.loc 1) (.loc 2)) (.loc 3)]
noncomputable def f_Regmachine_keep : FnDef := ⟨4,[],4,b_Regmachine_keep⟩
noncomputable def b_Regmachine_asked : List S := [.assign (.loc 3) (.idx (.loc 1) (.int 0)),
  .ife (.cmp .mem (.loc 3) (.tup [(.str [99,104,97,114]),(.str [97,110,121]),(.str [115,101,116]),(.str [115,121,110,116,97,120])])) [(.ret (.ife (.and [(.cmp .lt (.loc 2) (.attr (.loc 0) 9)),(.callM (.loc 0) 19 [(.loc 1),(.callM (.attr (.loc 0) 4) 20 [(.loc 2)])])]) (.bin .add (.loc 2) (.int 1)) .none))] [],
  .ife (.cmp .eq (.loc 3) (.str [97,116])) [(.ret (.ife .bad (.loc 2) .none))] [],
  .ife (.cmp .eq (.loc 3) (.str [115,97,118,101])) [(.expr (.callM (.loc 0) 21 [(.attr (.loc 0) 10),(.idx (.loc 1) (.int 1)),(.loc 2)])),(.ret (.loc 2))] [],
  .ife (.cmp .eq (.loc 3) (.str [109,97,114,107])) [(.expr (.callM (.loc 0) 21 [(.attr (.loc 0) 11),(.idx (.loc 1) (.int 1)),(.loc 2)])),(.ret (.loc 2))] [],
  .ife (.cmp .eq (.loc 3) (.str [112,114,111,103,114,101,115,115])) [(.ret (.ife (.cmp .lt (.idx (.attr (.loc 0) 11) (.idx (.loc 1) (.int 1))) (.loc 2)) (.loc 2) .none))] [],
  .ret (.callM (.loc 0) 22 [(.idx (.loc 1) (.int 1)),(.loc 2)])]
noncomputable def f_Regmachine_asked : FnDef := ⟨3,[],4,b_Regmachine_asked⟩
noncomputable def b_Regmachine_is_taken : List S := [.assign (.loc 3) (.idx (.loc 1) (.int 0)),
  .ife (.cmp .eq (.loc 3) (.str [99,104,97,114])) [(.ret (.cmp .eq (.idx (.loc 1) (.int 1)) (.ife (.attr (.attr (.loc 0) 3) 23) (.callF 2 [(.loc 2)]) (.loc 2))))] [],
  .ife (.cmp .eq (.loc 3) (.str [97,110,121])) [(.ret (.cmp .ne (.loc 2) (.gl 5)))] [],
  .ife (.cmp .eq (.loc 3) (.str [115,121,110,116,97,120])) [(.ret (.cmp .ne (.cmp .eq (.callM (.attr (.loc 0) 5) 24 [(.loc 2)]) (.idx (.loc 1) (.int 1))) (.idx (.loc 1) (.int 2))))] [],
  .ret (.cmp .ne (.callM (.loc 0) 25 [(.loc 1),(.loc 2)]) (.idx (.loc 1) (.int 1)))]
noncomputable def f_Regmachine_is_taken : FnDef := ⟨3,[],4,b_Regmachine_is_taken⟩
noncomputable def b_Regmachine_is_in_set : List S := [.ife (.callF 6 [(.idx (.loc 1) (.int 2)),(.loc 2)]) [(.ret (.bool true))] [],
  .ife (.and [(.attr (.attr (.loc 0) 3) 23),(.or [(.callF 6 [(.idx (.loc 1) (.int 2)),(.callF 1 [(.loc 2)])]),(.callF 6 [(.idx (.loc 1) (.int 2)),(.callF 0 [(.loc 2)])])])]) [(.ret (.bool true))] [],
  .assign (.loc 3) (.callM (.attr (.loc 0) 5) 24 [(.loc 2)]),
  .ret (.callB .any [(.comp .bad (.loc 4) (.val (.idx (.loc 1) (.int 3))) (.bool true))])]
noncomputable def f_Regmachine_is_in_set : FnDef := ⟨3,[],5,b_Regmachine_is_in_set⟩
noncomputable def b_Regmachine_repeated : List S := [.assign (.loc 3) (.callM (.loc 0) 15 [(.loc 1)]),
  .ife (.or [(.cmp .is (.loc 3) .none),(.cmp .gt (.bin .sub (.bin .add (.loc 2) (.idx (.loc 3) (.int 1))) (.idx (.loc 3) (.int 0))) (.attr (.loc 0) 9))]) [(.ret .none)] [],
  .for_ (.loc 4) (.range [(.bin .sub (.idx (.loc 3) (.int 1)) (.idx (.loc 3) (.int 0)))]) [(.assign (.tup [(.loc 5),(.loc 6)]) (.tup [(.callM (.attr (.loc 0) 4) 20 [(.bin .add (.idx (.loc 3) (.int 0)) (.loc 4))]),(.callM (.attr (.loc 0) 4) 20 [(.bin .add (.loc 2) (.loc 4))])])),(.ife (.and [(.cmp .ne (.loc 5) (.loc 6)),(.not (.and [(.attr (.attr (.loc 0) 3) 23),(.cmp .eq (.callF 2 [(.loc 5)]) (.callF 2 [(.loc 6)]))]))]) [(.ret .none)] [])],
  .ret (.bin .sub (.bin .add (.loc 2) (.idx (.loc 3) (.int 1))) (.idx (.loc 3) (.int 0)))]
noncomputable def f_Regmachine_repeated : FnDef := ⟨3,[],7,b_Regmachine_repeated⟩
noncomputable def b_sign_at : List S := [.ret (.ife (.cmp .lt (.loc 1) (.callB .len [(.loc 0)])) (.callB .chr [(.idx (.loc 0) (.loc 1))]) (.str []))]
noncomputable def f_sign_at : FnDef := ⟨2,[],2,b_sign_at⟩
noncomputable def b_is_escaped : List S := [.ret (.and [(.cmp .eq (.callF 18 [(.loc 0),(.loc 1)]) (.str [92])),(.cmp .ne (.callF 18 [(.loc 0),(.bin .add (.loc 1) (.int 1))]) (.str [])),(.cmp .mem (.callF 18 [(.loc 0),(.bin .add (.loc 1) (.int 1))]) (.loc 2))])]
noncomputable def f_is_escaped : FnDef := ⟨3,[],3,b_is_escaped⟩
noncomputable def b_joined : List S := [.ret (.ife (.cmp .eq (.callB .len [(.loc 0)]) (.int 1)) (.idx (.loc 0) (.int 0)) (.tup [(.str [115,101,113]),(.callB .tuple [(.loc 0)])]))]
noncomputable def f_joined : FnDef := ⟨1,[],1,b_joined⟩
noncomputable def b_Frame_init : List S := [.assign (.attr (.loc 0) 26) (.loc 1),
  .assign (.attr (.loc 0) 27) (.loc 2),
  .assign (.attr (.loc 0) 28) (.listm []),
  .assign (.attr (.loc 0) 29) (.listm []),
  .assign (.attr (.loc 0) 30) (.bool true)]
noncomputable def f_Frame_init : FnDef := ⟨3,[],3,b_Frame_init⟩
noncomputable def b_Frame_put : List S := [.expr (.callM (.attr (.loc 0) 29) 1000 [(.loc 1)]),
  .assign (.attr (.loc 0) 30) (.bool false)]
noncomputable def f_Frame_put : FnDef := ⟨2,[],2,b_Frame_put⟩
noncomputable def b_Frame_part : List S := [.expr (.callM (.attr (.loc 0) 28) 1000 [(.callF 20 [(.attr (.loc 0) 29)])]),
  .assign (.attr (.loc 0) 29) (.listm []),
  .assign (.attr (.loc 0) 30) (.bool true)]
noncomputable def f_Frame_part : FnDef := ⟨1,[],1,b_Frame_part⟩
noncomputable def b_Frame_node : List S := [.ife (.cmp .eq (.attr (.loc 0) 28) (.list [])) [(.ret (.callF 20 [(.attr (.loc 0) 29)]))] [],
  .ret (.tup [(.str [97,108,116]),(.callB .tuple [(.bin .add (.attr (.loc 0) 28) (.list [(.callF 20 [(.attr (.loc 0) 29)])]))])])]
noncomputable def f_Frame_node : FnDef := ⟨1,[],1,b_Frame_node⟩
noncomputable def b_Parsing_init : List S := [.assign (.attr (.loc 0) 31) (.loc 1),
  .assign (.attr (.loc 0) 1) (.int 0),
  .assign (.attr (.loc 0) 32) (.listm [(.callC 2 [(.str [116,111,112]),(.int 0)])]),
  .assign (.attr (.loc 0) 13) (.int 0)]
noncomputable def f_Parsing_init : FnDef := ⟨2,[],2,b_Parsing_init⟩
noncomputable def b_Parsing_top : List S := [.ret (.idx (.attr (.loc 0) 32) (.neg 1))]
noncomputable def f_Parsing_top : FnDef := ⟨1,[],1,b_Parsing_top⟩
noncomputable def b_Parsing_sign : List S := [.ife (.cmp .ge (.attr (.loc 0) 1) (.callB .len [(.attr (.loc 0) 31)])) [.raise] [],
  .assign (.attr (.loc 0) 1) (.bin .add (.attr (.loc 0) 1) (.int 1)),
  .ret (.callB .chr [(.idx (.attr (.loc 0) 31) (.bin .sub (.attr (.loc 0) 1) (.int 1)))])]
noncomputable def f_Parsing_sign : FnDef := ⟨1,[],1,b_Parsing_sign⟩
noncomputable def b_Parsing_whole : List S := [.whil (.cmp .lt (.attr (.loc 0) 1) (.callB .len [(.attr (.loc 0) 31)])) [(.expr (.callM (.loc 0) 33 []))],
  .ife (.cmp .gt (.callB .len [(.attr (.loc 0) 32)]) (.int 1)) [.raise] [],
  .ret (.callM (.callM (.loc 0) 34 []) 35 [])]
noncomputable def f_Parsing_whole : FnDef := ⟨1,[],1,b_Parsing_whole⟩
noncomputable def b_Parsing_step : List S := [.assign (.loc 1) (.callM (.loc 0) 36 []),
  .ife (.cmp .eq (.loc 1) (.str [92])) [(.expr (.callM (.loc 0) 37 [(.callM (.loc 0) 36 [])]))] [(.ife (.and [(.cmp .mem (.loc 1) (.str [42,43,63])),(.not (.attr (.callM (.loc 0) 34 []) 30))]) [(.expr (.callM (.loc 0) 22 [(.loc 1)]))] [(.ife (.cmp .eq (.loc 1) (.str [46])) [(.expr (.callM (.callM (.loc 0) 34 []) 38 [(.tup [(.str [97,110,121])])]))] [(.ife (.cmp .eq (.loc 1) (.str [91])) [(.assign (.tup [(.loc 2),(.attr (.loc 0) 1)]) (.callF 5 [(.attr (.loc 0) 31),(.attr (.loc 0) 1)])),(.expr (.callM (.callM (.loc 0) 34 []) 38 [(.loc 2)]))] [(.ife (.and [(.cmp .eq (.loc 1) (.str [94])),(.cmp .eq (.attr (.callM (.loc 0) 34 []) 29) (.list []))]) [(.expr (.callM (.attr (.callM (.loc 0) 34 []) 29) 1000 [(.tup [(.str [97,116]),(.str [98,111,108])])]))] [(.ife (.and [(.cmp .eq (.loc 1) (.str [36])),(.or [(.cmp .eq (.attr (.loc 0) 1) (.callB .len [(.attr (.loc 0) 31)])),(.callF 19 [(.attr (.loc 0) 31),(.attr (.loc 0) 1),(.str [41,124])])])]) [(.expr (.callM (.attr (.callM (.loc 0) 34 []) 29) 1000 [(.tup [(.str [97,116]),(.str [101,111,108])])]))] [(.expr (.callM (.callM (.loc 0) 34 []) 38 [(.tup [(.str [99,104,97,114]),(.callB .ord [(.loc 1)])])]))])])])])])]]
noncomputable def f_Parsing_step : FnDef := ⟨1,[],3,b_Parsing_step⟩
noncomputable def b_Parsing_repeated : List S := [.assign (.tup [(.loc 2),(.loc 3),(.loc 4)]) (.tup [(.bool false),(.bool false),(.bool true)]),
  .whil (.bool true) [(.ife (.and [(.cmp .eq (.loc 1) (.str [63])),(.or [(.loc 2),(.loc 3)])]) [(.assign (.loc 4) (.bool false))] [(.assign (.tup [(.loc 2),(.loc 3)]) (.tup [(.or [(.loc 2),(.cmp .ne (.loc 1) (.str [43]))]),(.or [(.loc 3),(.cmp .ne (.loc 1) (.str [63]))])]))]),(.assign (.loc 1) (.callF 18 [(.attr (.loc 0) 31),(.attr (.loc 0) 1)])),(.ife (.or [(.cmp .eq (.loc 1) (.str [])),(.cmp .nomem (.loc 1) (.str [42,43,63]))]) [.brk] []),(.assign (.attr (.loc 0) 1) (.bin .add (.attr (.loc 0) 1) (.int 1)))],
  .expr (.callM (.loc 0) 39 [(.ife (.loc 2) (.int 0) (.int 1)),(.ife (.loc 3) (.neg 1) (.int 1)),(.loc 4)])]
noncomputable def f_Parsing_repeated : FnDef := ⟨2,[],5,b_Parsing_repeated⟩
noncomputable def b_Parsing_repeat : List S := [.assign (.loc 4) (.attr (.callM (.loc 0) 34 []) 29),
  .expr (.callM (.loc 4) 1000 [(.tup [(.str [116,105,109,101,115]),(.loc 1),(.loc 2),(.loc 3),(.callM (.loc 4) 1001 [])])])]
noncomputable def f_Parsing_repeat : FnDef := ⟨4,[],5,b_Parsing_repeat⟩
noncomputable def b_Parsing_escaped : List S := [.assign (.loc 2) (.callB .ord [(.loc 1)]),
  .ife (.cmp .eq (.loc 1) (.str [40])) [(.expr (.callM (.loc 0) 40 []))] [(.ife (.cmp .eq (.loc 1) (.str [41])) [(.expr (.callM (.loc 0) 41 []))] [(.ife (.cmp .eq (.loc 1) (.str [124])) [(.expr (.callM (.callM (.loc 0) 34 []) 42 []))] [(.ife (.cmp .eq (.loc 1) (.str [123])) [(.expr (.callM (.loc 0) 43 []))] [(.ife (.cmp .mem (.loc 1) (.str [49,50,51,52,53,54,55,56,57])) [(.expr (.callM (.loc 0) 44 [(.bin .sub (.loc 2) (.int 48))]))] [(.ife (.cmp .mem (.loc 2) .bad) [(.expr (.callM (.callM (.loc 0) 34 []) 38 [(.tup [(.str [97,116]),(.idx .bad (.loc 2))])]))] [(.ife (.cmp .mem (.loc 1) (.str [119,87])) [(.expr (.callM (.callM (.loc 0) 34 []) 38 [(.tup [(.str [115,121,110,116,97,120]),(.str [119]),(.cmp .eq (.loc 1) (.str [87]))])]))] [(.ife (.cmp .mem (.loc 1) (.str [115,83])) [(.expr (.bad))] [(.ife (.cmp .eq (.loc 1) (.str [95])) [(.expr (.bad))] [(.ife (.cmp .mem (.loc 1) (.str [99,67])) [.raise] [(.expr (.callM (.callM (.loc 0) 34 []) 38 [(.tup [(.str [99,104,97,114]),(.loc 2)])]))])])])])])])])])])]]
noncomputable def f_Parsing_escaped : FnDef := ⟨2,[],3,b_Parsing_escaped⟩
noncomputable def b_Parsing_back : List S := [.ife (.or [(.cmp .gt (.loc 1) (.attr (.loc 0) 13)),(.cmp .mem (.loc 1) (.comp (.attr (.loc 2) 27) (.loc 2) (.val (.attr (.loc 0) 32)) (.cmp .eq (.attr (.loc 2) 26) (.str [103,114,111,117,112]))))]) [.raise] [],
  .expr (.callM (.callM (.loc 0) 34 []) 38 [(.tup [(.str [98,97,99,107]),(.loc 1)])])]
noncomputable def f_Parsing_back : FnDef := ⟨2,[],3,b_Parsing_back⟩
noncomputable def b_Parsing_opened : List S := [.ife (.cmp .ne (.callF 18 [(.attr (.loc 0) 31),(.attr (.loc 0) 1)]) (.str [63])) [(.assign (.attr (.loc 0) 13) (.bin .add (.attr (.loc 0) 13) (.int 1))),(.expr (.callM (.attr (.loc 0) 32) 1000 [(.callC 2 [(.str [103,114,111,117,112]),(.attr (.loc 0) 13)])])),(.ret .none)] [],
  .assign (.attr (.loc 0) 1) (.bin .add (.attr (.loc 0) 1) (.int 1)),
  .assign (.tup [(.loc 1),(.loc 2)]) (.callM (.loc 0) 27 []),
  .ife (.or [(.cmp .ne (.callF 18 [(.attr (.loc 0) 31),(.attr (.loc 0) 1)]) (.str [58])),(.and [(.loc 2),(.cmp .eq (.loc 1) (.int 0))])]) [.raise] [],
  .assign (.attr (.loc 0) 1) (.bin .add (.attr (.loc 0) 1) (.int 1)),
  .ife (.loc 2) [(.assign (.attr (.loc 0) 13) (.callB .max [(.attr (.loc 0) 13),(.loc 1)])),(.expr (.callM (.attr (.loc 0) 32) 1000 [(.callC 2 [(.str [103,114,111,117,112]),(.loc 1)])]))] [(.expr (.callM (.attr (.loc 0) 32) 1000 [(.callC 2 [(.str [115,104,121]),(.int 0)])]))]]
noncomputable def f_Parsing_opened : FnDef := ⟨1,[],3,b_Parsing_opened⟩
noncomputable def b_Parsing_closed : List S := [.ife (.cmp .eq (.callB .len [(.attr (.loc 0) 32)]) (.int 1)) [.raise] [],
  .assign (.loc 1) (.callM (.attr (.loc 0) 32) 1001 []),
  .assign (.loc 2) (.ife (.cmp .eq (.attr (.loc 1) 26) (.str [115,104,121])) (.tup [(.str [115,104,121]),(.callM (.loc 1) 35 [])]) (.tup [(.str [103,114,111,117,112]),(.attr (.loc 1) 27),(.callM (.loc 1) 35 [])])),
  .expr (.callM (.callM (.loc 0) 34 []) 38 [(.loc 2)])]
noncomputable def f_Parsing_closed : FnDef := ⟨1,[],3,b_Parsing_closed⟩
noncomputable def b_Parsing_number : List S := [.assign (.tup [(.loc 1),(.loc 2)]) (.tup [(.int 0),(.int 0)]),
  .whil (.and [(.cmp .ne (.callF 18 [(.attr (.loc 0) 31),(.attr (.loc 0) 1)]) (.str [])),(.cmp .mem (.callF 18 [(.attr (.loc 0) 31),(.attr (.loc 0) 1)]) (.str [48,49,50,51,52,53,54,55,56,57]))]) [(.assign (.tup [(.loc 1),(.loc 2)]) (.tup [(.bin .sub (.bin .add (.bin .mul (.loc 1) (.int 10)) (.idx (.attr (.loc 0) 31) (.attr (.loc 0) 1))) (.int 48)),(.bin .add (.loc 2) (.int 1))])),(.assign (.attr (.loc 0) 1) (.bin .add (.attr (.loc 0) 1) (.int 1))),(.ife (.cmp .gt (.loc 1) (.gl 6)) [.raise] [])],
  .ret (.tup [(.loc 1),(.cmp .gt (.loc 2) (.int 0))])]
noncomputable def f_Parsing_number : FnDef := ⟨1,[],3,b_Parsing_number⟩
noncomputable def b_Parsing_bounds : List S := [.assign (.loc 1) (.idx (.callM (.loc 0) 27 []) (.int 0)),
  .assign (.loc 2) (.loc 1),
  .ife (.cmp .eq (.callF 18 [(.attr (.loc 0) 31),(.attr (.loc 0) 1)]) (.str [44])) [(.assign (.attr (.loc 0) 1) (.bin .add (.attr (.loc 0) 1) (.int 1))),(.assign (.tup [(.loc 2),(.loc 3)]) (.callM (.loc 0) 27 [])),(.assign (.loc 2) (.ife (.loc 3) (.loc 2) (.neg 1)))] [],
  .ife (.cmp .ge (.attr (.loc 0) 1) (.callB .len [(.attr (.loc 0) 31)])) [.raise] [],
  .ife (.or [(.not (.callF 19 [(.attr (.loc 0) 31),(.attr (.loc 0) 1),(.str [125])])),(.cmp2 .le .lt (.int 0) (.loc 2) (.loc 1))]) [.raise] [],
  .assign (.attr (.loc 0) 1) (.bin .add (.attr (.loc 0) 1) (.int 2)),
  .ret (.tup [(.loc 1),(.loc 2)])]
noncomputable def f_Parsing_bounds : FnDef := ⟨1,[],4,b_Parsing_bounds⟩
noncomputable def b_Parsing_counted : List S := [.assign (.loc 1) (.attr (.loc 0) 1),
  .assign (.tup [(.loc 2),(.loc 3)]) (.callM (.loc 0) 47 []),
  .ife (.attr (.callM (.loc 0) 34 []) 30) [(.assign (.attr (.loc 0) 1) (.loc 1)),(.expr (.callM (.callM (.loc 0) 34 []) 38 [(.tup [(.str [99,104,97,114]),(.callB .ord [(.str [123])])])]))] [(.expr (.callM (.loc 0) 39 [(.loc 2),(.loc 3),(.bool true)]))]]
noncomputable def f_Parsing_counted : FnDef := ⟨1,[],4,b_Parsing_counted⟩
noncomputable def b_parse_regexp : List S := [.assign (.loc 1) (.callC 3 [(.loc 0)]),
  .ret (.tup [(.callM (.loc 1) 48 []),(.attr (.loc 1) 13)])]
noncomputable def f_parse_regexp : FnDef := ⟨1,[],2,b_parse_regexp⟩
noncomputable def b_Regcode_init : List S := [.assign (.attr (.loc 0) 16) (.loc 1),
  .assign (.attr (.loc 0) 13) (.loc 2),
  .assign (.attr (.loc 0) 11) (.loc 3),
  .assign (.attr (.loc 0) 23) (.loc 4)]
noncomputable def f_Regcode_init : FnDef := ⟨5,[],5,b_Regcode_init⟩
noncomputable def b_Compiling_init : List S := [.assign (.attr (.loc 0) 23) (.loc 1),
  .assign (.attr (.loc 0) 16) (.listm []),
  .assign (.attr (.loc 0) 49) .dict,
  .assign (.attr (.loc 0) 50) (.int 0),
  .assign (.attr (.loc 0) 11) (.int 0),
  .assign (.attr (.loc 0) 51) (.listm [])]
noncomputable def f_Compiling_init : FnDef := ⟨2,[],2,b_Compiling_init⟩
noncomputable def b_Compiling_label : List S := [.assign (.attr (.loc 0) 50) (.bin .add (.attr (.loc 0) 50) (.int 1)),
  .ret (.attr (.loc 0) 50)]
noncomputable def f_Compiling_label : FnDef := ⟨1,[],1,b_Compiling_label⟩
noncomputable def b_Compiling_wait : List S := [.ife (.cmp .gt (.bin .add (.bin .add (.callB .len [(.attr (.loc 0) 16)]) (.callB .len [(.attr (.loc 0) 51)])) (.callB .len [(.loc 1)])) (.gl 7)) [.raise] [],
  .for_ (.loc 2) (.rev [(.loc 1)]) [(.expr (.callM (.attr (.loc 0) 51) 1000 [(.loc 2)]))]]
noncomputable def f_Compiling_wait : FnDef := ⟨2,[],3,b_Compiling_wait⟩
noncomputable def b_Compiling_run : List S := [.expr (.callM (.loc 0) 52 [(.list [(.tup [(.str [110,111,100,101]),(.loc 1)]),(.tup [(.str [114,111,119]),(.tup [(.str [100,111,110,101])])])])]),
  .whil (.cmp .ne (.attr (.loc 0) 51) (.list [])) [(.assign (.tup [(.loc 2),(.loc 3)]) (.callM (.attr (.loc 0) 51) 1001 [])),(.ife (.cmp .eq (.loc 2) (.str [114,111,119])) [(.expr (.callM (.attr (.loc 0) 16) 1000 [(.loc 3)]))] [(.ife (.cmp .eq (.loc 2) (.str [108,97,98,101,108])) [(.assign (.idx (.attr (.loc 0) 49) (.loc 3)) (.callB .len [(.attr (.loc 0) 16)]))] [(.expr (.callM (.loc 0) 35 [(.loc 3)]))])])]]
noncomputable def f_Compiling_run : FnDef := ⟨2,[],4,b_Compiling_run⟩
noncomputable def b_Compiling_node : List S := [.assign (.loc 2) (.idx (.loc 1) (.int 0)),
  .ife (.cmp .eq (.loc 2) (.str [99,104,97,114])) [(.expr (.callM (.attr (.loc 0) 16) 1000 [(.tup [(.str [99,104,97,114]),(.ife (.attr (.loc 0) 23) (.callF 2 [(.idx (.loc 1) (.int 1))]) (.idx (.loc 1) (.int 1)))])]))] [(.ife (.cmp .mem (.loc 2) (.gl 8)) [(.expr (.callM (.attr (.loc 0) 16) 1000 [(.loc 1)]))] [(.ife (.cmp .eq (.loc 2) (.str [115,101,113])) [(.expr (.callM (.loc 0) 52 [(.comp (.tup [(.str [110,111,100,101]),(.loc 3)]) (.loc 3) (.val (.idx (.loc 1) (.int 1))) (.bool true))]))] [(.ife (.cmp .eq (.loc 2) (.str [115,104,121])) [(.expr (.callM (.loc 0) 52 [(.list [(.tup [(.str [110,111,100,101]),(.idx (.loc 1) (.int 1))])])]))] [(.ife (.cmp .eq (.loc 2) (.str [103,114,111,117,112])) [(.expr (.callM (.loc 0) 52 [(.list [(.tup [(.str [114,111,119]),(.tup [(.str [115,97,118,101]),(.bin .mul (.int 2) (.idx (.loc 1) (.int 1)))])]),(.tup [(.str [110,111,100,101]),(.idx (.loc 1) (.int 2))]),(.tup [(.str [114,111,119]),(.tup [(.str [115,97,118,101]),(.bin .add (.bin .mul (.int 2) (.idx (.loc 1) (.int 1))) (.int 1))])])])]))] [(.ife (.cmp .eq (.loc 2) (.str [97,108,116])) [(.expr (.callM (.loc 0) 53 [(.idx (.loc 1) (.int 1))]))] [(.expr (.callM (.loc 0) 22 [(.loc 1)]))])])])])])]]
noncomputable def f_Compiling_node : FnDef := ⟨2,[],4,b_Compiling_node⟩
noncomputable def b_Compiling_alternatives : List S := [.assign (.tup [(.loc 2),(.loc 3)]) (.tup [(.callM (.loc 0) 54 []),(.list [])]),
  .for_ (.loc 4) (.val (.slice (.loc 1) .none (.neg 1))) [(.assign (.tup [(.loc 5),(.loc 6)]) (.tup [(.callM (.loc 0) 54 []),(.callM (.loc 0) 54 [])])),(.assign (.loc 3) (.bin .add (.loc 3) (.list [(.tup [(.str [114,111,119]),(.tup [(.str [115,112,108,105,116]),(.loc 5),(.loc 6)])]),(.tup [(.str [108,97,98,101,108]),(.loc 5)]),(.tup [(.str [110,111,100,101]),(.loc 4)])]))),(.assign (.loc 3) (.bin .add (.loc 3) (.list [(.tup [(.str [114,111,119]),(.tup [(.str [106,117,109,112]),(.loc 2)])]),(.tup [(.str [108,97,98,101,108]),(.loc 6)])])))],
  .expr (.callM (.loc 0) 52 [(.bin .add (.loc 3) (.list [(.tup [(.str [110,111,100,101]),(.idx (.loc 1) (.neg 1))]),(.tup [(.str [108,97,98,101,108]),(.loc 2)])]))])]
noncomputable def f_Compiling_alternatives : FnDef := ⟨2,[],7,b_Compiling_alternatives⟩
noncomputable def b_Compiling_repeated : List S := [.assign (.tup [(.loc 2),(.loc 3),(.loc 4),(.loc 5),(.loc 6)]) (.loc 1),
  .assign (.tup [(.loc 7),(.loc 8)]) (.tup [(.bin .mul (.list [(.tup [(.str [110,111,100,101]),(.loc 6)])]) (.loc 3)),(.callM (.loc 0) 54 [])]),
  .ife (.cmp .gt (.bin .add (.callB .len [(.loc 7)]) (.callB .max [(.bin .sub (.loc 4) (.loc 3)),(.int 0)])) (.gl 7)) [.raise] [],
  .ife (.cmp .lt (.loc 4) (.int 0)) [(.assign (.loc 7) (.bin .add (.loc 7) (.callM (.loc 0) 55 [(.loc 6),(.loc 5),(.loc 8)])))] [],
  .for_ (.loc 9) (.range [(.bin .sub (.loc 4) (.loc 3))]) [(.assign (.loc 10) (.callM (.loc 0) 54 [])),(.assign (.loc 7) (.bin .add (.loc 7) (.list [(.tup [(.str [114,111,119]),(.callM (.loc 0) 56 [(.loc 10),(.loc 8),(.loc 5)])]),(.tup [(.str [108,97,98,101,108]),(.loc 10)]),(.tup [(.str [110,111,100,101]),(.loc 6)])])))],
  .expr (.callM (.loc 0) 52 [(.bin .add (.loc 7) (.list [(.tup [(.str [108,97,98,101,108]),(.loc 8)])]))])]
noncomputable def f_Compiling_repeated : FnDef := ⟨2,[],11,b_Compiling_repeated⟩
noncomputable def b_Compiling_split : List S := [.ret (.ife (.loc 3) (.tup [(.str [115,112,108,105,116]),(.loc 1),(.loc 2)]) (.tup [(.str [115,112,108,105,116]),(.loc 2),(.loc 1)]))]
noncomputable def f_Compiling_split : FnDef := ⟨4,[],4,b_Compiling_split⟩
noncomputable def b_Compiling_loop : List S := [.assign (.tup [(.loc 4),(.loc 5),(.loc 6)]) (.tup [(.callM (.loc 0) 54 []),(.callM (.loc 0) 54 []),(.attr (.loc 0) 11)]),
  .assign (.attr (.loc 0) 11) (.bin .add (.attr (.loc 0) 11) (.int 1)),
  .assign (.loc 7) (.list [(.tup [(.str [108,97,98,101,108]),(.loc 4)]),(.tup [(.str [114,111,119]),(.callM (.loc 0) 56 [(.loc 5),(.loc 3),(.loc 2)])]),(.tup [(.str [108,97,98,101,108]),(.loc 5)])]),
  .assign (.loc 7) (.bin .add (.loc 7) (.list [(.tup [(.str [114,111,119]),(.tup [(.str [109,97,114,107]),(.loc 6)])]),(.tup [(.str [110,111,100,101]),(.loc 1)]),(.tup [(.str [114,111,119]),(.tup [(.str [112,114,111,103,114,101,115,115]),(.loc 6)])])])),
  .ret (.bin .add (.loc 7) (.list [(.tup [(.str [114,111,119]),(.tup [(.str [106,117,109,112]),(.loc 4)])])]))]
noncomputable def f_Compiling_loop : FnDef := ⟨4,[],8,b_Compiling_loop⟩
noncomputable def b_Compiling_settled : List S := [.assign (.loc 1) (.listm []),
  .for_ (.loc 2) (.val (.attr (.loc 0) 16)) [(.ife (.cmp .eq (.idx (.loc 2) (.int 0)) (.str [115,112,108,105,116])) [(.expr (.callM (.loc 1) 1000 [(.tup [(.str [115,112,108,105,116]),(.idx (.attr (.loc 0) 49) (.idx (.loc 2) (.int 1))),(.idx (.attr (.loc 0) 49) (.idx (.loc 2) (.int 2)))])]))] [(.expr (.callM (.loc 1) 1000 [(.ife (.cmp .eq (.idx (.loc 2) (.int 0)) (.str [106,117,109,112])) (.tup [(.str [106,117,109,112]),(.idx (.attr (.loc 0) 49) (.idx (.loc 2) (.int 1)))]) (.loc 2))]))])],
  .ret (.loc 1)]
noncomputable def f_Compiling_settled : FnDef := ⟨1,[],3,b_Compiling_settled⟩
noncomputable def b_compile_node : List S := [.assign (.loc 3) (.callC 5 [(.loc 2)]),
  .expr (.callM (.loc 3) 14 [(.loc 0)]),
  .ret (.callC 4 [(.callM (.loc 3) 57 []),(.loc 1),(.attr (.loc 3) 11),(.loc 2)])]
noncomputable def f_compile_node : FnDef := ⟨3,[],4,b_compile_node⟩
noncomputable def b_compile_regexp : List S := [.assign (.tup [(.loc 2),(.loc 3)]) (.callF 39 [(.loc 0)]),
  .ret (.callF 51 [(.loc 2),(.loc 3),(.loc 1)])]
noncomputable def f_compile_regexp : FnDef := ⟨2,[],4,b_compile_regexp⟩
noncomputable def b_re_search_forward : List S := [.assign (.loc 6) (.callC 1 [(.loc 3),(.loc 0),(.loc 1),(.loc 5)]),
  .assign (.loc 7) (.callB .min [(.loc 4),(.callM (.loc 0) 58 [])]),
  .for_ (.loc 8) (.range [(.loc 2),(.bin .add (.loc 7) (.int 1))]) [(.assign (.loc 9) (.callM (.loc 6) 59 [(.loc 8),(.loc 7)])),(.ife (.cmp .isnot (.loc 9) .none) [(.ret (.loc 9))] [])],
  .ret .none]
noncomputable def f_re_search_forward : FnDef := ⟨6,[],10,b_re_search_forward⟩
noncomputable def b_Syntax_init : List S := [.assign (.attr (.loc 0) 60) (.loc 1),
  .assign (.attr (.loc 0) 61) (.loc 2),
  .assign (.attr (.loc 0) 62) (.loc 3)]
noncomputable def f_Syntax_init : FnDef := ⟨4,[],4,b_Syntax_init⟩
noncomputable def b_SyntaxTable_init : List S := [.assign (.attr (.loc 0) 63) (.loc 1),
  .assign (.attr (.loc 0) 16) .dict]
noncomputable def f_SyntaxTable_init : FnDef := ⟨2,[.none],2,b_SyntaxTable_init⟩
noncomputable def b_SyntaxTable_own : List S := [.assign (.loc 2) (.callM (.attr (.loc 0) 16) 1004 [(.loc 1),.none]),
  .ret (.ife (.or [(.cmp .is (.loc 2) .none),(.cmp .eq (.attr (.loc 2) 60) (.gl 9))]) .none (.loc 2))]
noncomputable def f_SyntaxTable_own : FnDef := ⟨2,[],3,b_SyntaxTable_own⟩
noncomputable def b_SyntaxTable_at : List S := [.assign (.loc 2) (.loc 0),
  .whil (.cmp .isnot (.loc 2) .none) [(.assign (.loc 3) (.callM (.loc 2) 64 [(.loc 1)])),(.ife (.cmp .isnot (.loc 3) .none) [(.ret (.loc 3))] []),(.assign (.loc 2) (.attr (.loc 2) 63))],
  .ret (.callC 6 [(.ife (.cmp .gt (.loc 1) (.int 127)) (.gl 10) (.gl 11)),.none,(.str [])])]
noncomputable def f_SyntaxTable_at : FnDef := ⟨2,[],4,b_SyntaxTable_at⟩
noncomputable def b_SyntaxTable_kind_of : List S := [.ret (.attr (.callM (.loc 0) 65 [(.loc 1)]) 60)]
noncomputable def f_SyntaxTable_kind_of : FnDef := ⟨2,[],2,b_SyntaxTable_kind_of⟩
noncomputable def b_TextRow_init : List S := [.assign (.attr (.loc 0) 31) (.callB .list [(.loc 1)]),
  .assign (.attr (.loc 0) 1) (.loc 2)]
noncomputable def f_TextRow_init : FnDef := ⟨3,[(.int 1)],3,b_TextRow_init⟩
noncomputable def b_TextRow_end : List S := [.ret (.bin .add (.attr (.loc 0) 1) (.callB .len [(.attr (.loc 0) 31)]))]
noncomputable def f_TextRow_end : FnDef := ⟨1,[],1,b_TextRow_end⟩
noncomputable def b_TextRow_code_at : List S := [.ife (.cmp2 .le .lt (.attr (.loc 0) 1) (.loc 1) (.bin .add (.attr (.loc 0) 1) (.callB .len [(.attr (.loc 0) 31)]))) [(.ret (.idx (.attr (.loc 0) 31) (.bin .sub (.loc 1) (.attr (.loc 0) 1))))] [],
  .ret (.neg 1)]
noncomputable def f_TextRow_code_at : FnDef := ⟨2,[],2,b_TextRow_code_at⟩
noncomputable def b_law_draw : List S := [.assign (.idx (.loc 0) (.int 1)) (.bin .add (.idx (.loc 0) (.int 1)) (.int 1)),
  .ife (.cmp .le (.idx (.loc 0) (.int 1)) (.callB .len [(.idx (.loc 0) (.int 0))])) [(.ret (.bin .mod (.idx (.idx (.loc 0) (.int 0)) (.bin .sub (.idx (.loc 0) (.int 1)) (.int 1))) (.loc 1)))] [],
  .ret (.bin .mod (.bin .div (.bin .add (.bin .add (.bin .mul (.bin .mul (.idx (.loc 0) (.int 1)) (.idx (.loc 0) (.int 1))) (.int 37)) (.bin .mul (.int 23) (.idx (.loc 0) (.int 1)))) (.bin .mul (.int 7) (.callB .len [(.idx (.loc 0) (.int 0))]))) (.int 5)) (.loc 1))]
noncomputable def f_law_draw : FnDef := ⟨2,[],2,b_law_draw⟩
noncomputable def b_law_atom : List S := [.assign (.loc 1) (.callF 62 [(.loc 0),(.int 6)]),
  .ife (.cmp .lt (.loc 1) (.int 3)) [(.assign (.loc 2) (.idx (.str [97,98,65]) (.loc 1))),(.ret (.tup [(.tup [(.str [115,105,103,110]),(.loc 2)]),(.loc 2)]))] [],
  .ife (.cmp .eq (.loc 1) (.int 3)) [(.ret (.tup [(.tup [(.str [97,110,121]),(.str [])]),(.str [46])]))] [],
  .ret (.idx (.list [(.tup [(.tup [(.str [105,110]),(.str [97,98])]),(.str [91,97,98,93])]),(.tup [(.tup [(.str [111,117,116]),(.str [97])]),(.str [91,94,97,93])])]) (.bin .sub (.loc 1) (.int 4)))]
noncomputable def f_law_atom : FnDef := ⟨1,[],3,b_law_atom⟩
noncomputable def b_law_node : List S := [.assign (.loc 3) (.ife (.cmp .gt (.loc 1) (.int 0)) (.callF 62 [(.loc 0),(.int 8)]) (.int 0)),
  .ife (.cmp .lt (.loc 3) (.int 2)) [(.ife (.and [(.cmp .eq (.loc 3) (.int 1)),(.cmp .ne (.idx (.loc 2) (.int 1)) (.list []))]) [(.assign (.loc 4) (.idx (.idx (.loc 2) (.int 1)) (.callF 62 [(.loc 0),(.callB .len [(.idx (.loc 2) (.int 1))])]))),(.ret (.tup [(.tup [(.str [97,103,97,105,110]),(.loc 4)]),(.bin .add (.str [92]) (.callB .str [(.loc 4)]))]))] []),(.ret (.callF 63 [(.loc 0)]))] [],
  .ife (.cmp .eq (.loc 3) (.int 2)) [(.assign (.tup [(.loc 5),(.loc 6)]) (.tup [(.callF 64 [(.loc 0),(.bin .sub (.loc 1) (.int 1)),(.loc 2)]),(.callF 64 [(.loc 0),(.bin .sub (.loc 1) (.int 1)),(.loc 2)])])),(.ret (.tup [(.tup [(.str [101,105,116,104,101,114]),(.idx (.loc 5) (.int 0)),(.idx (.loc 6) (.int 0))]),(.bin .add (.bin .add (.bin .add (.bin .add (.str [92,40,63,58]) (.idx (.loc 5) (.int 1))) (.str [92,124])) (.idx (.loc 6) (.int 1))) (.str [92,41]))]))] [],
  .ife (.cmp .eq (.loc 3) (.int 3)) [(.assign (.idx (.loc 2) (.int 0)) (.bin .add (.idx (.loc 2) (.int 0)) (.int 1))),(.assign (.loc 4) (.idx (.loc 2) (.int 0))),(.assign (.loc 7) (.callF 64 [(.loc 0),(.bin .sub (.loc 1) (.int 1)),(.loc 2)])),(.expr (.callM (.idx (.loc 2) (.int 1)) 1000 [(.loc 4)])),(.ret (.tup [(.tup [(.str [103,114,111,117,112]),(.loc 4),(.idx (.loc 7) (.int 0))]),(.bin .add (.bin .add (.str [92,40]) (.idx (.loc 7) (.int 1))) (.str [92,41]))]))] [],
  .ife (.cmp .lt (.loc 3) (.int 6)) [(.assign (.loc 7) (.callF 64 [(.loc 0),(.callB .max [(.bin .sub (.loc 1) (.int 2)),(.int 0)]),(.loc 2)])),(.assign (.tup [(.loc 8),(.loc 9),(.loc 10),(.loc 11)]) (.idx (.list [(.tup [(.int 0),(.neg 1),(.bool true),(.str [42])]),(.tup [(.int 1),(.neg 1),(.bool true),(.str [43])]),(.tup [(.int 0),(.int 1),(.bool true),(.str [63])]),(.tup [(.int 0),(.neg 1),(.bool false),(.str [42,63])]),(.tup [(.int 1),(.int 2),(.bool true),(.str [92,123,49,44,50,92,125])]),(.tup [(.int 2),(.neg 1),(.bool true),(.str [92,123,50,44,92,125])])]) (.callF 62 [(.loc 0),(.int 6)]))),(.ret (.tup [(.tup [(.str [111,102,116,101,110]),(.loc 8),(.loc 9),(.loc 10),(.idx (.loc 7) (.int 0))]),(.bin .add (.bin .add (.bin .add (.str [92,40,63,58]) (.idx (.loc 7) (.int 1))) (.str [92,41])) (.loc 11))]))] [],
  .assign (.tup [(.loc 5),(.loc 6)]) (.tup [(.callF 64 [(.loc 0),(.bin .sub (.loc 1) (.int 1)),(.loc 2)]),(.callF 64 [(.loc 0),(.bin .sub (.loc 1) (.int 1)),(.loc 2)])]),
  .ret (.tup [(.tup [(.str [98,111,116,104]),(.idx (.loc 5) (.int 0)),(.idx (.loc 6) (.int 0))]),(.bin .add (.idx (.loc 5) (.int 1)) (.idx (.loc 6) (.int 1)))])]
noncomputable def f_law_node : FnDef := ⟨3,[],12,b_law_node⟩
noncomputable def b_law_like : List S := [.ret (.or [(.cmp .eq (.loc 0) (.loc 1)),(.and [(.loc 2),(.cmp .eq (.callM (.loc 0) 1002 []) (.callM (.loc 1) 1002 []))])])]
noncomputable def f_law_like : FnDef := ⟨3,[],3,b_law_like⟩
noncomputable def b_law_takes : List S := [.ife (.cmp .eq (.idx (.loc 0) (.int 0)) (.str [97,110,121])) [(.ret (.cmp .ne (.loc 1) (.str [10])))] [],
  .assign (.loc 3) (.cmp .ne (.comp (.int 1) (.loc 4) (.val (.idx (.loc 0) (.int 1))) (.callF 65 [(.loc 4),(.loc 1),(.loc 2)])) (.list [])),
  .ret (.cmp .ne (.loc 3) (.cmp .eq (.idx (.loc 0) (.int 0)) (.str [111,117,116])))]
noncomputable def f_law_takes : FnDef := ⟨3,[],5,b_law_takes⟩
noncomputable def b_law_ways : List S := [.assign (.loc 5) (.idx (.loc 0) (.int 0)),
  .ife (.cmp .mem (.loc 5) (.tup [(.str [115,105,103,110]),(.str [97,110,121]),(.str [105,110]),(.str [111,117,116])])) [(.ret (.ife (.and [(.cmp .lt (.loc 2) (.callB .len [(.loc 1)])),(.callF 66 [(.loc 0),(.idx (.loc 1) (.loc 2)),(.loc 4)])]) (.list [(.tup [(.bin .add (.loc 2) (.int 1)),(.loc 3)])]) (.list [])))] [],
  .ife (.cmp .eq (.loc 5) (.str [97,103,97,105,110])) [(.assign (.loc 6) (.idx (.loc 3) (.bin .sub (.idx (.loc 0) (.int 1)) (.int 1)))),(.assign (.loc 7) (.ife (.cmp .is (.loc 6) .none) (.str []) (.slice (.loc 1) (.idx (.loc 6) (.int 0)) (.idx (.loc 6) (.int 1))))),(.assign (.loc 8) (.slice (.loc 1) (.loc 2) (.bin .add (.loc 2) (.callB .len [(.loc 7)])))),(.assign (.loc 9) (.and [(.cmp .eq (.callB .len [(.loc 8)]) (.callB .len [(.loc 7)])),(.cmp .eq (.comp (.int 1) (.tup [(.loc 14),(.loc 15)]) (.zip [(.loc 8),(.loc 7)]) (.not (.callF 65 [(.loc 14),(.loc 15),(.loc 4)]))) (.list []))])),(.ret (.ife (.and [(.cmp .isnot (.loc 6) .none),(.loc 9)]) (.list [(.tup [(.bin .add (.loc 2) (.callB .len [(.loc 7)])),(.loc 3)])]) (.list [])))] [],
  .ife (.cmp .eq (.loc 5) (.str [101,105,116,104,101,114])) [(.ret (.bin .add (.callF 67 [(.idx (.loc 0) (.int 1)),(.loc 1),(.loc 2),(.loc 3),(.loc 4)]) (.callF 67 [(.idx (.loc 0) (.int 2)),(.loc 1),(.loc 2),(.loc 3),(.loc 4)])))] [],
  .ife (.cmp .eq (.loc 5) (.str [103,114,111,117,112])) [(.assign (.loc 10) (.callF 67 [(.idx (.loc 0) (.int 2)),(.loc 1),(.loc 2),(.loc 3),(.loc 4)])),(.assign (.loc 11) (.idx (.loc 0) (.int 1))),(.ret (.comp (.tup [(.loc 16),(.bin .add (.bin .add (.slice (.loc 17) .none (.bin .sub (.loc 11) (.int 1))) (.tup [(.tup [(.loc 2),(.loc 16)])])) (.slice (.loc 17) (.loc 11) .none))]) (.tup [(.loc 16),(.loc 17)]) (.val (.loc 10)) (.bool true)))] [],
  .ife (.cmp .eq (.loc 5) (.str [98,111,116,104])) [(.assign (.loc 10) (.list [])),(.for_ (.tup [(.loc 12),(.loc 13)]) (.val (.callF 67 [(.idx (.loc 0) (.int 1)),(.loc 1),(.loc 2),(.loc 3),(.loc 4)])) [(.assign (.loc 10) (.bin .add (.loc 10) (.callF 67 [(.idx (.loc 0) (.int 2)),(.loc 1),(.loc 12),(.loc 13),(.loc 4)])))]),(.ret (.loc 10))] [],
  .ret (.callF 68 [(.idx (.loc 0) (.int 1)),(.idx (.loc 0) (.int 2)),(.loc 0),(.loc 1),(.loc 2),(.loc 3),(.loc 4)])]
noncomputable def f_law_ways : FnDef := ⟨5,[],18,b_law_ways⟩
noncomputable def b_law_turns : List S := [.ife (.cmp .eq (.loc 1) (.int 0)) [(.ret (.list [(.tup [(.loc 4),(.loc 5)])]))] [],
  .assign (.loc 7) (.list []),
  .for_ (.tup [(.loc 8),(.loc 9)]) (.val (.callF 67 [(.idx (.loc 2) (.int 4)),(.loc 3),(.loc 4),(.loc 5),(.loc 6)])) [(.ife (.or [(.cmp .gt (.loc 0) (.int 0)),(.cmp .gt (.loc 1) (.int 0)),(.cmp .gt (.loc 8) (.loc 4))]) [(.assign (.loc 7) (.bin .add (.loc 7) (.callF 68 [(.callB .max [(.bin .sub (.loc 0) (.int 1)),(.int 0)]),(.ife (.cmp .gt (.loc 1) (.int 0)) (.bin .sub (.loc 1) (.int 1)) (.neg 1)),(.loc 2),(.loc 3),(.loc 8),(.loc 9),(.loc 6)])))] [])],
  .ife (.cmp .gt (.loc 0) (.int 0)) [(.ret (.loc 7))] [],
  .ret (.ife (.idx (.loc 2) (.int 3)) (.bin .add (.loc 7) (.list [(.tup [(.loc 4),(.loc 5)])])) (.bin .add (.list [(.tup [(.loc 4),(.loc 5)])]) (.loc 7)))]
noncomputable def f_law_turns : FnDef := ⟨7,[],10,b_law_turns⟩
noncomputable def b_law : List S := [.assign (.loc 1) (.listm [(.comp (.callB .abs [(.loc 14)]) (.loc 14) (.val (.slice (.loc 0) .none (.int 40))) (.bool true)),(.int 0)]),
  .assign (.loc 2) (.listm [(.int 0),(.listm [])]),
  .assign (.tup [(.loc 3),(.loc 4)]) (.callF 64 [(.loc 1),(.int 3),(.loc 2)]),
  .assign (.loc 5) (.cmp .eq (.callF 62 [(.loc 1),(.int 3)]) (.int 0)),
  .assign (.loc 6) (.callM (.str []) 1003 [(.comp (.idx (.str [97,98,65,10]) (.callF 62 [(.loc 1),(.int 4)])) (.loc 15) (.range [(.callF 62 [(.loc 1),(.int 5)])]) (.bool true))]),
  .assign (.loc 7) (.callF 52 [(.comp (.callB .ord [(.loc 16)]) (.loc 16) (.val (.loc 4)) (.bool true)),(.loc 5)]),
  .assign (.tup [(.loc 8),(.loc 9),(.loc 10)]) (.tup [(.callC 8 [(.comp (.callB .ord [(.loc 17)]) (.loc 17) (.val (.loc 6)) (.bool true)),(.int 0)]),(.callC 7 []),.none]),
  .for_ (.loc 11) (.range [(.bin .add (.callB .len [(.loc 6)]) (.int 1))]) [(.assign (.loc 12) (.callF 67 [(.loc 3),(.loc 6),(.loc 11),(.bin .mul (.tup [.none]) (.idx (.loc 2) (.int 0))),(.loc 5)])),(.assign (.loc 13) (.ife (.cmp .ne (.loc 12) (.list [])) (.bin .add (.list [(.tup [(.loc 11),(.idx (.idx (.loc 12) (.int 0)) (.int 0))])]) (.callB .list [(.idx (.idx (.loc 12) (.int 0)) (.int 1))])) .none)),(.ife (.cmp .ne (.callM (.callC 1 [(.loc 7),(.loc 8),(.loc 9)]) 59 [(.loc 11),(.callB .len [(.loc 6)])]) (.loc 13)) [(.ret (.bool false))] []),(.assign (.loc 10) (.ife (.cmp .is (.loc 10) .none) (.loc 13) (.loc 10)))],
  .ret (.cmp .eq (.callF 53 [(.loc 8),(.loc 9),(.int 0),(.loc 7),(.callB .len [(.loc 6)]),(.int 0)]) (.loc 10))]
noncomputable def f_law : FnDef := ⟨1,[],18,b_law⟩
noncomputable def fnL : List FnDef := [f_downcase,f_upcase,f_fold,f_read_class,f_read_part,f_read_set,f_is_in_ranges,f_Choice_init,f_Regmachine_init,f_Regmachine_match_at,f_Regmachine_span,f_Regmachine_run,f_Regmachine_go_back,f_Regmachine_keep,f_Regmachine_asked,f_Regmachine_is_taken,f_Regmachine_is_in_set,f_Regmachine_repeated,f_sign_at,f_is_escaped,f_joined,f_Frame_init,f_Frame_put,f_Frame_part,f_Frame_node,f_Parsing_init,f_Parsing_top,f_Parsing_sign,f_Parsing_whole,f_Parsing_step,f_Parsing_repeated,f_Parsing_repeat,f_Parsing_escaped,f_Parsing_back,f_Parsing_opened,f_Parsing_closed,f_Parsing_number,f_Parsing_bounds,f_Parsing_counted,f_parse_regexp,f_Regcode_init,f_Compiling_init,f_Compiling_label,f_Compiling_wait,f_Compiling_run,f_Compiling_node,f_Compiling_alternatives,f_Compiling_repeated,f_Compiling_split,f_Compiling_loop,f_Compiling_settled,f_compile_node,f_compile_regexp,f_re_search_forward,f_Syntax_init,f_SyntaxTable_init,f_SyntaxTable_own,f_SyntaxTable_at,f_SyntaxTable_kind_of,f_TextRow_init,f_TextRow_end,f_TextRow_code_at,f_law_draw,f_law_atom,f_law_node,f_law_like,f_law_takes,f_law_ways,f_law_turns,f_law]
noncomputable def fns (n : Nat) : FnDef := (fnL[n]?).getD ⟨0,[],0,[]⟩
noncomputable def constL : List PV := [(.int 91),(.int 58),(.int 45),(.int 93),(.int 94),(.int 10),(.int 65535),(.int 20000),(.tup [(.str [97,110,121]),(.str [115,101,116]),(.str [115,121,110,116,97,120]),(.str [97,116]),(.str [98,97,99,107])]),(.str [64]),(.str [119]),(.str [46])]  -- OPENS COLON MINUS CLOSES NOT LINE_FEED_regmachine MOST_TIMES MOST_ROWS PLAIN INHERITS WORD PUNCTUATION
noncomputable def consts (n : Nat) : PV := (constL[n]?).getD .none
noncomputable def methL : List (List (Nat × Nat)) := [[],
  [(59,9),(15,10),(14,11),(18,12),(21,13),(17,14),(19,15),(25,16),(22,17)],
  [(38,22),(42,23),(35,24)],
  [(34,26),(36,27),(48,28),(33,29),(22,30),(39,31),(37,32),(44,33),(40,34),(41,35),(27,36),(47,37),(43,38)],
  [],
  [(54,42),(52,43),(14,44),(35,45),(53,46),(22,47),(56,48),(55,49),(57,50)],
  [],
  [(64,56),(65,57),(24,58)],
  [(58,60),(20,61)]]
noncomputable def meths (c m : Nat) : Option Nat := ((methL[c]?).getD []).lookup m
noncomputable def initL : List Nat := [7,8,21,25,40,41,54,55,59]
noncomputable def inits (n : Nat) : Nat := (initL[n]?).getD 9999
noncomputable def text : Text := ⟨fns,consts,meths,inits,66,9⟩
noncomputable def nameList : List String := ["row","place","changes","code","view","table","point","steps","taken","limit","kept","marks","choices","groups","run","span","rows","asked","go_back","is_taken","code_at","keep","repeated","folds","kind_of","is_in_set","word","number","done","nodes","is_loose","codes","frames","step","top","node","sign","escaped","put","repeat","opened","closed","part","counted","back","by_syntax_","by_symbol_","bounds","whole","places","labels","waiting","wait","alternatives","label","loop","split","settled","end","match_at","kind","match","flags","parent","own","at"]
noncomputable def classList : List String := ["Choice","Regmachine","Frame","Parsing","Regcode","Compiling","Syntax","SyntaxTable","TextRow"]
noncomputable def constList : List String := ["OPENS","COLON","MINUS","CLOSES","NOT","LINE_FEED_regmachine","MOST_TIMES","MOST_ROWS","PLAIN","INHERITS","WORD","PUNCTUATION"]
noncomputable def fnList : List String := ["downcase","upcase","fold","read_class","read_part","read_set","is_in_ranges","Choice.__init__","Regmachine.__init__","Regmachine.match_at","Regmachine.span","Regmachine.run","Regmachine.go_back","Regmachine.keep","Regmachine.asked","Regmachine.is_taken","Regmachine.is_in_set","Regmachine.repeated","sign_at","is_escaped","joined","Frame.__init__","Frame.put","Frame.part","Frame.node","Parsing.__init__","Parsing.top","Parsing.sign","Parsing.whole","Parsing.step","Parsing.repeated","Parsing.repeat","Parsing.escaped","Parsing.back","Parsing.opened","Parsing.closed","Parsing.number","Parsing.bounds","Parsing.counted","parse_regexp","Regcode.__init__","Compiling.__init__","Compiling.label","Compiling.wait","Compiling.run","Compiling.node","Compiling.alternatives","Compiling.repeated","Compiling.split","Compiling.loop","Compiling.settled","compile_node","compile_regexp","re_search_forward","Syntax.__init__","SyntaxTable.__init__","SyntaxTable.own","SyntaxTable.at","SyntaxTable.kind_of","TextRow.__init__","TextRow.end","TextRow.code_at","_law_draw","_law_atom","_law_node","_law_like","_law_takes","_law_ways","_law_turns","law"]
noncomputable def slotLists : List (List String) := [["code"],
  ["code"],
  ["code"],
  ["codes","place","end","name","code"],
  ["codes","place","first"],
  ["codes","place","is_not","start","ranges","names","found","pair"],
  ["ranges","code","low","high"],
  ["self","row","place","changes"],
  ["self","code","view","table","point","steps"],
  ["self","place","limit","end","number"],
  ["self","number","start","end"],
  ["self","place","row","word","later","choice"],
  ["self","many","row","number","old"],
  ["self","row","number","place"],
  ["self","row","place","word"],
  ["self","row","code","word"],
  ["self","row","code","kind","name"],
  ["self","number","place","span","at","one","other"],
  ["codes","place"],
  ["codes","place","signs"],
  ["nodes"],
  ["self","word","number"],
  ["self","node"],
  ["self"],
  ["self"],
  ["self","codes"],
  ["self"],
  ["self"],
  ["self"],
  ["self","sign","node"],
  ["self","sign","is_zero","is_many","is_greedy"],
  ["self","least","most","is_greedy","nodes"],
  ["self","sign","code"],
  ["self","number","frame"],
  ["self","number","is_told"],
  ["self","frame","node"],
  ["self","found","many"],
  ["self","least","most","is_told"],
  ["self","place","least","most"],
  ["codes","parsing"],
  ["self","rows","groups","marks","folds"],
  ["self","folds"],
  ["self"],
  ["self","tasks","task"],
  ["self","node","word","thing"],
  ["self","node","word","part"],
  ["self","nodes","end","tasks","node","here","later"],
  ["self","node","word","least","most","is_greedy","part","tasks","end","turn","here"],
  ["self","here","end","is_greedy"],
  ["self","part","is_greedy","end","begin","here","mark","tasks"],
  ["self","found","row"],
  ["node","groups","folds","compiling"],
  ["codes","folds","node","groups"],
  ["view","table","place","code","bound","point","machine","last","start","found"],
  ["self","kind","match","flags"],
  ["self","parent"],
  ["self","code","found"],
  ["self","code","table","found"],
  ["self","code"],
  ["self","codes","place"],
  ["self"],
  ["self","place"],
  ["deck","many"],
  ["deck","kind","sign"],
  ["deck","depth","told_own","kind","number","one","other","inner","least","most","greedy","text"],
  ["one","other","folds"],
  ["node","sign","folds","is_one","own"],
  ["node","text","place","kept","folds","word","span","part","there","is_there","found","number","end","own","a","b","end","own"],
  ["least","most","node","text","place","kept","folds","found","end","own"],
  ["script","deck","told_own","node","pattern","folds","text","code","view","table","first","place","ways_own","due","cell","turn","sign","sign"]]
noncomputable def slots0 : List (List String) := [["code"],
  ["code"],
  ["code"],
  ["codes","place","end","name"],
  ["codes","place","first"],
  ["codes","place","is_not","start","ranges","names","found","pair"],
  ["ranges","code"],
  ["self","row","place","changes"],
  ["self","code","view","table","point","steps"],
  ["self","place","limit","end"],
  ["self","number","start","end"],
  ["self","place","row","word","later","choice"],
  ["self","many","row","number","old"],
  ["self","row","number","place"],
  ["self","row","place","word"],
  ["self","row","code","word"],
  ["self","row","code","kind"],
  ["self","number","place","span","at","one","other"],
  ["codes","place"],
  ["codes","place","signs"],
  ["nodes"],
  ["self","word","number"],
  ["self","node"],
  ["self"],
  ["self"],
  ["self","codes"],
  ["self"],
  ["self"],
  ["self"],
  ["self","sign","node"],
  ["self","sign","is_zero","is_many","is_greedy"],
  ["self","least","most","is_greedy","nodes"],
  ["self","sign","code"],
  ["self","number"],
  ["self","number","is_told"],
  ["self","frame","node"],
  ["self","found","many"],
  ["self","least","most","is_told"],
  ["self","place","least","most"],
  ["codes","parsing"],
  ["self","rows","groups","marks","folds"],
  ["self","folds"],
  ["self"],
  ["self","tasks","task"],
  ["self","node","word","thing"],
  ["self","node","word"],
  ["self","nodes","end","tasks","node","here","later"],
  ["self","node","word","least","most","is_greedy","part","tasks","end","turn","here"],
  ["self","here","end","is_greedy"],
  ["self","part","is_greedy","end","begin","here","mark","tasks"],
  ["self","found","row"],
  ["node","groups","folds","compiling"],
  ["codes","folds","node","groups"],
  ["view","table","place","code","bound","point","machine","last","start","found"],
  ["self","kind","match","flags"],
  ["self","parent"],
  ["self","code","found"],
  ["self","code","table","found"],
  ["self","code"],
  ["self","codes","place"],
  ["self"],
  ["self","place"],
  ["deck","many"],
  ["deck","kind","sign"],
  ["deck","depth","told_own","kind","number","one","other","inner","least","most","greedy","text"],
  ["one","other","folds"],
  ["node","sign","folds","is_one"],
  ["node","text","place","kept","folds","word","span","part","there","is_there","found","number","end","own"],
  ["least","most","node","text","place","kept","folds","found","end","own"],
  ["script","deck","told_own","node","pattern","folds","text","code","view","table","first","place","ways_own","due"]]
end
section
open PySem PySem.W PyProof.Rows PySem.Calls PySem.SeqAt
set_option maxRecDepth 100000
noncomputable def cop : COp → CmpOp
  | .eq => .Eq | .ne => .NotEq | .lt => .Lt | .le => .LtE | .gt => .Gt | .ge => .GtE | .is => .Is | .isnot => .IsNot | .mem => .In | .nomem => .NotIn
noncomputable def bop : BOp → Operator
  | .add => .Add | .sub => .Sub | .mul => .Mult | .div => .FloorDiv | .mod => .Mod
noncomputable def biv : BI → Value
  | .len => .builtin "len" | .abs => .builtin "abs" | .ord => .builtin "ord" | .chr => .builtin "chr" | .str => .type "str" | .max => .builtin "max" | .min => .builtin "min" | .any => .builtin "any"
  | .list => .type "list" | .tuple => .type "tuple"
noncomputable def bname (m : Nat) : Str := if m = nAppend then "append" else if m = nPop then "pop" else if m = nLower then "lower" else if m = nJoin then "join" else "get"
noncomputable abbrev Vis := List (Nat × Str)
end
section
open PySem PySem.W PyProof.Rows PySem.Calls PySem.SeqAt
set_option maxRecDepth 100000
structure Nm where
  nm : Nat → Str
  nn : Nat
  gname : Nat → Str
  ng : Nat
  fname : Nat → Str
  nf : Nat → Bool
  cname : Nat → Str
  nc : Nat
noncomputable def bnameOf : BI → Str
  | .len => "len" | .abs => "abs" | .ord => "ord" | .chr => "chr" | .str => "str" | .max => "max" | .min => "min" | .any => "any" | .list => "list" | .tuple => "tuple"
structure SE where
  ns : List (Str × NameKind)
  vis : Vis
  lo : Nat
noncomputable def noDbg (x : Str) : Bool := !(x == ("__debug__" : Str))
noncomputable def isGl (se : SE) (x : Str) : Bool := (se.ns.lookup x == some .globalImplicit) && noDbg x
noncomputable def isLoc (se : SE) (n : Nat) (x : Str) : Bool := (se.vis.any fun p => p.1 == n && p.2 == x) && noDbg x
noncomputable def storable (se : SE) (x : Str) : Bool := (se.ns.lookup x == some .local) || ((se.ns.lookup x == some .cell) && !(x == ("__classdict__" : Str)))
structure Pt where
  k : Nat
  a : Expr
  b : Expr
  c : Expr
  l : List Expr
  x : Str
  i : Int
  n : Nat
  p : Pos
  o : Operator
  cs : List CmpOp
  g : List Comprehension
  sc : Scope
  lo : Option Expr
  hi : Option Expr
  st : Option Expr
noncomputable def noP : Pos := ⟨0,0,0,0⟩
noncomputable def noX : Expr := .Constant .none 0 noP
noncomputable def noS : Scope := ⟨.module,[],false,false,[]⟩
noncomputable def ptL (k : Nat) (a : Expr) (l : List Expr) (x : Str) (i : Int) (n : Nat) (p : Pos) : Pt := ⟨k,a,noX,noX,l,x,i,n,p,.Add,[],[],noS,none,none,none⟩
noncomputable def ptK (k : Nat) : Pt := ptL k noX [] "" 0 0 noP
noncomputable def ptO (k : Nat) (a b c : Expr) (o : Operator) (l : List Expr) (cs : List CmpOp) (g : List Comprehension) (sc : Scope) (lo hi st : Option Expr) (p : Pos) : Pt := ⟨k,a,b,c,l,"",0,0,p,o,cs,g,sc,lo,hi,st⟩
noncomputable def ptE (k : Nat) (a b c : Expr) (p : Pos) : Pt := ptO k a b c .Add [] [] [] noS none none none p
noncomputable def ptC (n : Nat) (p : Pos) : Const → Pt
  | .none => ptL 1 noX [] "" 0 n p
  | .bool b => ptL (cond b 3 2) noX [] "" 0 n p
  | .int i => ptL 4 noX [] "" i n p
  | .str x => ptL 6 noX [] x 0 n p
  | _ => ptK 0
noncomputable def parts : Expr → Pt
  | .BoolOp op l p => ptL (match op with | .And => 7 | .Or => 8) noX l "" 0 0 p
  | .UnaryOp op a p => ptE (match op with | .Not => 9 | .USub => 5 | _ => 0) a noX noX p
  | .Compare a cs l p => ptO 10 a noX noX .Add l cs [] noS none none none p
  | .BinOp a o b p => ptO 12 a b noX o [] [] [] noS none none none p
  | .IfExp a b c p => ptE 13 a b c p
  | .Tuple l n p => ptL 14 noX l "" 0 n p
  | .List l p => ptL 15 noX l "" 0 0 p
  | .Dict ks l p => ptL (match ks with | [] => 16 | _ => 0) noX l "" 0 0 p
  | .ListComp a g sc p => ptO 17 a noX noX .Add [] [] g sc none none none p
  | .Attribute a x p => ptL 18 a [] x 0 0 p
  | .Subscript a b p => ptE 19 a b noX p
  | .Call a l ks p => ptL (match ks with | [] => 21 | _ => 0) a l "" 0 0 p
  | .Name x p => ptL 24 noX [] x 0 0 p
  | .Slice lo hi st p => ptO 25 noX noX noX .Add [] [] [] noS lo hi st p
  | .Starred .. => ptK 23
  | .Set .. => ptK 27
  | .SetComp .. => ptK 28
  | .DictComp .. => ptK 28
  | .Constant v n p => ptC n p v
  | _ => ptK 0
noncomputable def rebuild (k : Nat) (t : Pt) : Expr :=
  cond (k.beq 1) (.Constant .none t.n t.p) <| cond (k.beq 2) (.Constant (.bool false) t.n t.p) <| cond (k.beq 3) (.Constant (.bool true) t.n t.p) <|
  cond (k.beq 4) (.Constant (.int t.i) t.n t.p) <| cond (k.beq 5) (.UnaryOp .USub t.a t.p) <| cond (k.beq 6) (.Constant (.str t.x) t.n t.p) <|
  cond (k.beq 7) (.BoolOp .And t.l t.p) <| cond (k.beq 8) (.BoolOp .Or t.l t.p) <| cond (k.beq 9) (.UnaryOp .Not t.a t.p) <|
  cond (k.beq 10) (.Compare t.a t.cs t.l t.p) <| cond (k.beq 12) (.BinOp t.a t.o t.b t.p) <| cond (k.beq 13) (.IfExp t.a t.b t.c t.p) <|
  cond (k.beq 14) (.Tuple t.l t.n t.p) <| cond (k.beq 15) (.List t.l t.p) <| cond (k.beq 16) (.Dict [] t.l t.p) <|
  cond (k.beq 17) (.ListComp t.a t.g t.sc t.p) <| cond (k.beq 18) (.Attribute t.a t.x t.p) <| cond (k.beq 19) (.Subscript t.a t.b t.p) <|
  cond (k.beq 21) (.Call t.a t.l [] t.p) <| cond (k.beq 24) (.Name t.x t.p) <| cond (k.beq 25) (.Slice t.lo t.hi t.st t.p) noX
noncomputable def isK (e : Expr) (k : Nat) : Bool := (parts e).k.beq k
noncomputable def lost (n : Nat) : Bool := n.beq 0 || Nat.blt 22 n && !n.beq 24 && !n.beq 25
theorem parts_inv (e : Expr) : lost (parts e).k = true ∨ e = rebuild (parts e).k (parts e) := by
  cases e with
  | BoolOp op l p => cases op <;> exact .inr rfl
  | UnaryOp op l p => cases op <;> first | exact .inl rfl | exact .inr rfl
  | Dict ks l p => cases ks <;> first | exact .inl rfl | exact .inr rfl
  | Call a l ks p => cases ks <;> first | exact .inl rfl | exact .inr rfl
  | Constant v n p => cases v with
    | bool b => cases b <;> exact .inr rfl
    | _ => first | exact .inl rfl | exact .inr rfl
  | _ => first | exact .inl rfl | exact .inr rfl
theorem into {P : Expr → Prop} (n : Nat) {e : Expr} {r : Bool} (h : ((parts e).k.beq n && r) = true) (hn : lost n = false) (k : r = true → P (rebuild n (parts e))) : P e := by
  rw [Bool.and_eq_true] at h
  have z := Nat.eq_of_beq_eq_true h.1
  have := parts_inv e
  rw [z] at this
  rcases this with h1 | h1
  · rw [hn] at h1; fail "=h1"
  · rw [h1]; exact k h.2
noncomputable def notSlice (e : Expr) : Bool := !isK e 25
noncomputable def notStar (e : Expr) : Bool := !isK e 23
noncomputable def noComp (e : Expr) : Bool := !isK e 17 && !isK e 28
noncomputable def notSet (e : Expr) : Bool := !isK e 27
noncomputable def notSuper (e : Expr) : Bool := match e with
  | .Call (.Name _ _) [] [] _ => false
  | _ => true
theorem bL {a b : Bool} (h : (a && b) = true) : a = true := (Bool.and_eq_true_iff.mp h).1
theorem bR {a b : Bool} (h : (a && b) = true) : b = true := (Bool.and_eq_true_iff.mp h).2
noncomputable def one {α : Type} (l : List α) (f : α → Bool) : Bool := match l with | [a] => f a | _ => false
noncomputable def two {α : Type} (l : List α) (f : α → α → Bool) : Bool := match l with | [a,b] => f a b | _ => false
theorem one_inv {α : Type} {P : List α → Prop} {l : List α} {f : α → Bool} (h : one l f = true) (k : ∀ a,f a = true → P [a]) : P l :=
  match l,h with
  | [a],h => k a h
  | [],h => (by contradiction)
  | _ :: _ :: _,h => (by contradiction)
theorem two_inv {α : Type} {P : List α → Prop} {l : List α} {f : α → α → Bool} (h : two l f = true) (k : ∀ a b,f a b = true → P [a,b]) : P l :=
  match l,h with
  | [a,b],h => k a b h
  | [],h => (by contradiction)
  | [_],h => (by contradiction)
  | _ :: _ :: _ :: _,h => (by contradiction)
noncomputable def inNames (se : SE) (names : List (Str × NameKind)) : List (Str × NameKind) :=
  names.map fun (n,k) => if (k == .free && se.ns.lookup n == some .cell) then (n,.cell) else (n,k)
mutual
noncomputable def tgtVars : T → Expr → Vis
  | .loc n,e => cond ((parts e).k.beq 24) [(n,(parts e).x)] []
  | .tup ts,e => cond ((parts e).k.beq 14) (tgtsVars ts (parts e).l) []
  | .attr ..,_ => []
  | .idx ..,_ => []
noncomputable def tgtsVars : List T → List Expr → Vis
  | t :: ts,es => match es with | e :: r => tgtVars t e ++ tgtsVars ts r | [] => []
  | [],_ => []
end
noncomputable def inSE (se : SE) (names : List (Str × NameKind)) (vs : Vis) : SE :=
  ⟨inNames se names,se.vis.filter (fun p => (names.lookup p.2 == some .free) && (se.ns.lookup p.2 == some .cell)) ++ vs,(vs.map (·.1)).foldr max se.lo + 1⟩
noncomputable def visOk (v : Vis) : Bool := v.all fun p => v.all fun q => (p.1 == q.1) == (p.2 == q.2)
noncomputable def compOk (se : SE) (scope : Scope) (vs : Vis) : Bool :=
  scope.kind == .function && scope.names.all (fun x => !(x.2 == .cell) && !(x.2 == .local) || (x.2 == .local && scope.names.lookup x.1 == some .local)) &&
  scope.names.all (fun x => if x.2 == .free then scope.names.lookup x.1 == some .free && (se.ns.lookup x.1 == some .cell) && !(x.1 == ("__classdict__" : Str)) else true) &&
  vs.all (fun p => scope.names.lookup p.2 == some .local && decide (se.lo ≤ p.1)) && se.vis.all (fun p => decide (p.1 < se.lo)) && visOk (inSE se scope.names vs).vis
noncomputable def noneX : X → Bool
  | .none => true
  | _ => false
noncomputable def trueX : X → Bool
  | .bool b => b
  | _ => false
noncomputable def zipI : I → Bool
  | .zip _ => true
  | _ => false
noncomputable def headOk (t : T) (it : I) (tg : Expr) : Bool := (match t with | .loc _ => true | .tup _ => true | _ => false) && cond (zipI it) (isK tg 14) true
noncomputable def callG (N : Nm) (se : SE) (f : Expr) (x : Str) (b : Bool) : Bool := (parts f).k.beq 24 && ((parts f).x == x && (b && isGl se (parts f).x))
mutual
noncomputable def chkX (N : Nm) : X → SE → Expr → Bool
  | .bad,_,e => notStar e
  | .none,_,e => (parts e).k.beq 1 && true
  | .bool b,_,e => (parts e).k.beq (cond b 3 2) && true
  | .int i,_,e => (parts e).k.beq 4 && (parts e).i == i
  | .str s,_,e => (parts e).k.beq 6 && ((parts e).x.cps.toList == s && (decide (s.length ≤ 1000) && s.all (· < 1114112)))
  | .neg i,_,e => (parts e).k.beq 5 && ((parts (parts e).a).k.beq 4 && (parts (parts e).a).i == i)
  | .loc n,se,e => (parts e).k.beq 24 && isLoc se n (parts e).x
  | .gl g,se,e => (parts e).k.beq 24 && ((parts e).x == N.gname g && (decide (g < N.ng) && isGl se (parts e).x))
  | .and xs,se,e => (parts e).k.beq 7 && chkXs N xs se (parts e).l
  | .or xs,se,e => (parts e).k.beq 8 && chkXs N xs se (parts e).l
  | .not a,se,e => (parts e).k.beq 9 && chkX N a se (parts e).a
  | .cmp op a b,se,e => (parts e).k.beq 10 && (chkX N a se (parts e).a && (one (parts e).cs (fun o => o == cop op) && one (parts e).l fun r => notSet r && chkX N b se r))
  | .cmp2 o1 o2 a b c,se,e => (parts e).k.beq 10 && (chkX N a se (parts e).a && (two (parts e).cs (fun o p => o == cop o1 && p == cop o2) && two (parts e).l fun r t => notSet t && (chkX N b se r && chkX N c se t)))
  | .bin op a b,se,e => (parts e).k.beq 12 && ((parts e).o == bop op && (chkX N a se (parts e).a && chkX N b se (parts e).b))
  | .mulm a b,se,e => (parts e).k.beq 12 && ((parts e).o == .Mult && (chkX N a se (parts e).a && chkX N b se (parts e).b))
  | .ife c a b,se,e => (parts e).k.beq 13 && (chkX N c se (parts e).a && (chkX N a se (parts e).b && chkX N b se (parts e).c))
  | .tup xs,se,e => (parts e).k.beq 14 && (chkXs N xs se (parts e).l && decide ((parts e).l.length ≤ 1000))
  | .list xs,se,e => (parts e).k.beq 15 && (chkXs N xs se (parts e).l && decide ((parts e).l.length ≤ 1000))
  | .listm xs,se,e => (parts e).k.beq 15 && (chkXs N xs se (parts e).l && decide ((parts e).l.length ≤ 1000))
  | .dict,_,e => (parts e).k.beq 16 && (parts e).l.isEmpty
  | .comp elt tgt it cond,se,e => (parts e).k.beq 17 && one (parts e).g fun g => g.is_async == 0 && (compOk se (parts e).sc (tgtVars tgt g.target) && (notSet g.iter && (chkI N it se g.iter &&
      (chkT N tgt (inSE se (parts e).sc.names (tgtVars tgt g.target)) g.target && (chkX N elt (inSE se (parts e).sc.names (tgtVars tgt g.target)) (parts e).a &&
      ((g.ifs.isEmpty && trueX cond || one g.ifs fun c => chkX N cond (inSE se (parts e).sc.names (tgtVars tgt g.target)) c) && headOk tgt it g.target))))))
  | .attr o k,se,e => (parts e).k.beq 18 && ((parts e).x == N.nm k && (notSuper (parts e).a && chkX N o se (parts e).a))
  | .idx o i,se,e => (parts e).k.beq 19 && (notSlice (parts e).b && (chkX N o se (parts e).a && chkX N i se (parts e).b))
  | .slice o lo hi,se,e => (parts e).k.beq 19 && ((parts (parts e).b).k.beq 25 && ((parts (parts e).b).st.isNone && (chkX N o se (parts e).a &&
        ((match (parts (parts e).b).lo with | some l => chkX N lo se l | none => noneX lo) && (match (parts (parts e).b).hi with | some h => chkX N hi se h | none => noneX hi)))))
  | .callF f as,se,e => (parts e).k.beq 21 && (chkXs N as se (parts e).l && callG N se (parts e).a (N.fname f) (N.nf f))
  | .callC c as,se,e => (parts e).k.beq 21 && (chkXs N as se (parts e).l && callG N se (parts e).a (N.cname c) true)
  | .callB b as,se,e => (parts e).k.beq 21 && (chkXs N as se (parts e).l && callG N se (parts e).a (bnameOf b) true)
  | .callM o m as,se,e => (parts e).k.beq 21 && (chkXs N as se (parts e).l && (decide ((parts e).l.length < 20) && ((parts (parts e).a).k.beq 18 && ((if m < 1000 then (parts (parts e).a).x == N.nm m && decide (m < N.nn) else (parts (parts e).a).x == bname m) &&
      (((parts (parts e).a).p.endLine == (parts e).p.line) && (notSuper (parts (parts e).a).a && chkX N o se (parts (parts e).a).a))))))
noncomputable def chkXs (N : Nm) : List X → SE → List Expr → Bool
  | [],_,es => es.isEmpty
  | x :: xs,se,es => match es with | e :: r => notStar e && (chkX N x se e && chkXs N xs se r) | [] => false
noncomputable def chkI (N : Nm) : I → SE → Expr → Bool
  | .val x,se,e => chkX N x se e
  | .range as,se,e => (parts e).k.beq 21 && (chkXs N as se (parts e).l && callG N se (parts e).a "range" true)
  | .zip as,se,e => (parts e).k.beq 21 && (chkXs N as se (parts e).l && callG N se (parts e).a "zip" true)
  | .rev as,se,e => (parts e).k.beq 21 && (chkXs N as se (parts e).l && callG N se (parts e).a "reversed" true)
noncomputable def chkT (N : Nm) : T → SE → Expr → Bool
  | .loc n,se,e => (parts e).k.beq 24 && (isLoc se n (parts e).x && (storable se (parts e).x && decide (n < se.lo)))
  | .attr o k,se,e => (parts e).k.beq 18 && ((parts e).x == N.nm k && chkX N o se (parts e).a)
  | .idx o i,se,e => (parts e).k.beq 19 && (notSlice (parts e).b && (chkX N o se (parts e).a && chkX N i se (parts e).b))
  | .tup ts,se,e => (parts e).k.beq 14 && chkTs N ts se (parts e).l
noncomputable def chkTs (N : Nm) : List T → SE → List Expr → Bool
  | [],_,es => es.isEmpty
  | x :: xs,se,es => match es with | e :: r => notStar e && (chkT N x se e && chkTs N xs se r) | [] => false
end
noncomputable def swapNames (se : SE) (ts vs : List Expr) : Option (List Str) :=
  let line := (ts.head?.map (·.pos.line)).getD 0
  let names := ts.filterMap fun
    | .Name id pos => if se.ns.lookup id == some .local && pos.line == line then some id else none
    | _ => none
  if !(ts.length == 2 || ts.length == 3) || vs.length != ts.length then none
  else if names.length != ts.length || names.eraseDups.length != names.length then none
  else if vs.all (foldedForSure 8) then none
  else some names
noncomputable def swapOk (vs : List Expr) : Bool := vs.all notStar && (vs.all (foldedForSure 8) || !vs.all (constantsAlone 8))
noncomputable def chkSwap (e : Expr) (v : Expr) : Bool := cond (isK e 14 && isK v 14) (swapOk (parts v).l) true
structure Sp where
  k : Nat
  a : Expr
  b : Expr
  l : List Expr
  s : List Stmt
  t : List Stmt
  p : Pos
noncomputable def spK (k : Nat) (a b : Expr) (l : List Expr) (s t : List Stmt) (p : Pos) : Sp := ⟨k,a,b,l,s,t,p⟩
noncomputable def sparts : Stmt → Sp
  | .Assign l a p => spK 1 a noX l [] [] p
  | .Expr a p => spK 2 a noX [] [] [] p
  | .Return (some a) p => spK 3 a noX [] [] [] p
  | .Return none p => spK 4 noX noX [] [] [] p
  | .If a s t p => spK 5 a noX [] s t p
  | .While a s t p => spK 6 a noX [] s t p
  | .For a b s t p => spK 7 a b [] s t p
  | .Continue p => spK 8 noX noX [] [] [] p
  | .Break p => spK 9 noX noX [] [] [] p
  | _ => spK 0 noX noX [] [] [] noP
noncomputable def srebuild (k : Nat) (t : Sp) : Stmt :=
  cond (k.beq 1) (.Assign t.l t.a t.p) <| cond (k.beq 2) (.Expr t.a t.p) <| cond (k.beq 3) (.Return (some t.a) t.p) <| cond (k.beq 4) (.Return none t.p) <|
  cond (k.beq 5) (.If t.a t.s t.t t.p) <| cond (k.beq 6) (.While t.a t.s t.t t.p) <| cond (k.beq 7) (.For t.a t.b t.s t.t t.p) <| cond (k.beq 8) (.Continue t.p) (.Break t.p)
theorem sparts_inv (s : Stmt) : (sparts s).k = 0 ∨ s = srebuild (sparts s).k (sparts s) := by
  cases s with
  | Return v p => cases v <;> exact .inr rfl
  | _ => first | exact .inl rfl | exact .inr rfl
theorem sinto {P : Stmt → Prop} (n : Nat) {s : Stmt} {r : Bool} (h : ((sparts s).k.beq (n + 1) && r) = true) (k : r = true → P (srebuild (n + 1) (sparts s))) : P s := by
  rw [Bool.and_eq_true] at h
  have z := Nat.eq_of_beq_eq_true h.1
  have := sparts_inv s
  rw [z] at this
  rcases this with h1 | h1
  · fail "=h1"
  · rw [h1]; exact k h.2
mutual
noncomputable def chkS (N : Nm) (se : SE) : S → Stmt → Bool
  | .assign t x,s => (sparts s).k.beq 1 && (noComp (sparts s).a && (chkX N x se (sparts s).a && one (sparts s).l fun tg => chkT N t se tg && chkSwap tg (sparts s).a))
  | .expr x,s => (sparts s).k.beq 2 && (noComp (sparts s).a && chkX N x se (sparts s).a)
  | .ret x,s => (sparts s).k.beq 3 && chkX N x se (sparts s).a || (sparts s).k.beq 4 && noneX x
  | .ife c a b,s => (sparts s).k.beq 5 && (chkX N c se (sparts s).a && (chkSs N se a (sparts s).s && chkSs N se b (sparts s).t))
  | .whil c b,s => (sparts s).k.beq 6 && ((sparts s).t.isEmpty && (chkX N c se (sparts s).a && chkSs N se b (sparts s).s))
  | .for_ t it b,s => (sparts s).k.beq 7 && ((sparts s).t.isEmpty && (notSet (sparts s).b && (chkI N it se (sparts s).b && (chkT N t se (sparts s).a && (chkSs N se b (sparts s).s && headOk t it (sparts s).a)))))
  | .cont,s => (sparts s).k.beq 8 && true
  | .brk,s => (sparts s).k.beq 9 && true
  | .raise,_ => true
noncomputable def chkSs (N : Nm) (se : SE) : List S → List Stmt → Bool
  | [],ss => ss.isEmpty
  | x :: xs,ss => match ss with | s :: r => chkS N se x s && chkSs N se xs r | [] => false
end
noncomputable def chkF (N : Nm) (names : List (Str × NameKind)) (slots : List Str) (b : List S) (body : List Stmt) : Bool :=
  let se : SE := ⟨names,slots.zipIdx.map fun p => (p.2,p.1),slots.length⟩
  visOk se.vis && names.all (fun p => p.2 != .free) && chkSs N se b body
end
section
open PySem PySem.W PyProof.Rows PySem.Calls
set_option maxRecDepth 100000
noncomputable def nameAt (l : List String) (k : Nat) : Str := Str.ofString ((l[k]?).getD "")
noncomputable def globFns : List Nat := [0,1,2,3,4,5,6,18,19,20,39,51,52,53,62,63,64,65,66,67,68,69]
noncomputable def homes : List (Nat × (Nat × String)) := [(7,0,"__init__"),(8,1,"__init__"),(9,1,"match_at"),(10,1,"span"),(11,1,"run"),(12,1,"go_back"),(13,1,"keep"),(14,1,"asked"),(15,1,"is_taken"),(16,1,"is_in_set"),(17,1,"repeated"),(21,2,"__init__"),(22,2,"put"),(23,2,"part"),(24,2,"node"),(25,3,"__init__"),(26,3,"top"),(27,3,"sign"),(28,3,"whole"),(29,3,"step"),(30,3,"repeated"),(31,3,"repeat"),(32,3,"escaped"),(33,3,"back"),(34,3,"opened"),(35,3,"closed"),(36,3,"number"),(37,3,"bounds"),(38,3,"counted"),(40,4,"__init__"),(41,5,"__init__"),(42,5,"label"),(43,5,"wait"),(44,5,"run"),(45,5,"node"),(46,5,"alternatives"),(47,5,"repeated"),(48,5,"split"),(49,5,"loop"),(50,5,"settled"),(54,6,"__init__"),(55,7,"__init__"),(56,7,"own"),(57,7,"at"),(58,7,"kind_of"),(59,8,"__init__"),(60,8,"end"),(61,8,"code_at")]
noncomputable def names0 : Nm := ⟨nameAt nameList,66,nameAt constList,12,nameAt fnList,fun f => globFns.contains f,nameAt classList,9⟩
noncomputable def slotsOf (f : Nat) : List Str := ((slots0[f]?).getD []).map Str.ofString
section
variable (G : Addr → Option Obj)
noncomputable def nsAt (ns : Addr) (x : Str) : Option (Option Value) := (G ns).bind (lookIn x)
noncomputable def refOf : Option (Option Value) → Addr
  | some (some (.ref a)) => a
  | _ => 0
noncomputable def clsA (c : Nat) : Addr := refOf (nsAt G mainGlobals (names0.cname c))
noncomputable def nsA (c : Nat) : Addr := match G (clsA G c) with
  | some ⟨_,_,.cls cd,_⟩ => cd.ns
  | _ => 0
noncomputable def fnA (f : Nat) : Addr := match homes.lookup f with
  | some h => refOf (nsAt G (nsA G h.1) (Str.ofString h.2))
  | none => refOf (nsAt G mainGlobals (names0.fname f))
noncomputable def kOf : Frag := (mainGlobals :: builtinsNs :: sysModules :: refOf (nsAt G mainGlobals (names0.gname 8)) :: ((List.range 9).flatMap fun c => [clsA G c,nsA G c]) ++ (List.range 70).map (fnA G)).filterMap fun a => (G a).map (a,·)
theorem fm_lookup {G : Addr → Option Obj} {a : Addr} {o : Obj} : ∀ {as : List Addr},(as.filterMap fun a => (G a).map (a,·)).lookup a = some o → G a = some o
  | [],h => by fail "=h"
  | b :: as,h => by
    rw [List.filterMap_cons] at h
    cases hb : G b with
    | none => rw [hb] at h; exact fm_lookup h
    | some x =>
      rw [hb] at h
      dsimp only [Option.map_some] at h
      rw [List.lookup_cons] at h
      split at h
      · rename_i e
        fail "=h"
        rw [beq_iff_eq.mp e]; exact hb
      · exact fm_lookup h
noncomputable def atomB : PV → Value → Bool
  | .none,.none => true
  | .bool b,.bool c => b == c
  | .int i,.int j _ => i == j
  | .str s,.str y _ => y.cps.toList == s && decide (s.length ≤ 1000) && s.all fun c => decide (c < 1114112)
  | _,_ => false
noncomputable def atomsB : List PV → List Value → Bool
  | [],[] => true
  | x :: xs,v :: vs => atomB x v && atomsB xs vs
  | _,_ => false
noncomputable def repB (x : PV) (v : Value) : Bool := match x,v with
  | .tup xs,.ref a => (match G a with
    | some ⟨c,none,.seq vs _,sl⟩ => c == .type "tuple" && sl.isEmpty && decide (xs.length ≤ 1000) && atomsB xs vs.toList
    | _ => false)
  | x,v => atomB x v
noncomputable def codeB (fd : FuncData) : Bool := match fd.code with
  | .ref c => (match G c with
    | some ⟨_,_,.fields vs,_⟩ => (match (vs[1]? : Option Value) with
      | some (.str q _) => q == fd.qualname
      | _ => false)
    | _ => false)
  | _ => false
noncomputable def dflB (fd : FuncData) (ds : List PV) : Bool := match ds,fd.defaults with
  | [],.none => true
  | ds,.ref T => (match G T with
    | some ⟨_,_,.seq items _,_⟩ => atomsB ds items.toList
    | _ => false)
  | _,_ => false
noncomputable def fnB (f : Nat) : Bool := match G (fnA G f) with
  | some ⟨_,_,.func fd,_⟩ => (match fd.body with
    | .stmts body => [!fd.scope.isCoroutine,!fd.scope.isGenerator,decide (fd.scope.kind = .function),fd.globals == mainGlobals,fd.builtins == builtinsNs,fd.closure.isEmpty,codeB G fd,dflB G fd (fns f).dflts,
        chkF names0 fd.scope.names (slotsOf f) (fns f).body body,decide (slotsOf f).Nodup,decide (fd.scope.names.map (·.1)).Nodup,
        (slotsOf f).all fun x => (fd.scope.names.lookup x == some .local || fd.scope.names.lookup x == some .cell) && !(x == ("__classdict__" : Str)),decide ((fns f).params ≤ (slotsOf f).length),
        fd.params.posonlyargs.isEmpty,decide (fd.params.args.map (·.arg) = (slotsOf f).take (fns f).params),fd.params.kwonlyargs.isEmpty,fd.params.vararg.isNone,fd.params.kwarg.isNone,decide ((fns f).dflts.length ≤ (fns f).params)].all id
    | _ => false)
  | _ => false
noncomputable def bisB : List BI := [.len,.abs,.ord,.chr,.str,.max,.min,.any,.list,.tuple]
noncomputable def biB (x : Str) (v : Value) : Bool := nsAt G mainGlobals x == some none && nsAt G builtinsNs x == some (some v)
noncomputable def clsB (K : Frag) (c : Nat) : Bool :=
  [nsAt G mainGlobals (names0.cname c) == some (some (.ref (clsA G c))),keepIn K (.ref (clsA G c)),makesIn K (clsA G c),findIn K (.ref (clsA G c)) "__init__" == some (some (.ref (fnA G (inits c)))),typeIn K (.ref (fnA G (inits c))) == some (.type "function"),decide (inits c < 70),
  findIn K (.ref (clsA G c)) "__getattribute__" == some (some (.builtin "object.__getattribute__")),findIn K (.ref (clsA G c)) "__getattr__" == some none,hasDictIn K (clsA G c),plainOver K (clsA G c),findIn K (.ref (clsA G c)) "__setattr__" == some (some (.builtin "object.__setattr__"))].all id
noncomputable def methB (K : Frag) (c k : Nat) : Bool := match meths c k with
  | some f => findIn K (.ref (clsA G c)) (names0.nm k) == some (some (.ref (fnA G f))) && (typeIn K (.ref (fnA G f)) == some (.type "function") && decide (f < 70))
  | none => findIn K (.ref (clsA G c)) (names0.nm k) == some none
noncomputable def goodB : Bool :=
  ((List.range 12).all fun g => match nsAt G mainGlobals (names0.gname g) with | some (some v) => repB G (consts g) v | _ => false) &&
  (((List.range 70).all fun f => (!globFns.contains f || nsAt G mainGlobals (names0.fname f) == some (some (.ref (fnA G f)))) && (keepIn (kOf G) (.ref (fnA G f)) && fnB G f)) &&
  (((List.range 9).all fun c => clsB G (kOf G) c && (List.range 66).all (methB G (kOf G) c)) &&
  ((bisB.all fun b => biB G (bnameOf b) (biv b)) && (biB G "range" (.type "range") && (biB G "zip" (.type "zip") && (biB G "reversed" (.type "reversed") && (G sysModules).isSome))))))
end
end
section
open PySem PySem.W PyProof.Rows PySem.Calls
set_option maxRecDepth 100000
noncomputable abbrev pw := PySem.Challenge.pw_np0105_01
noncomputable abbrev rw0 := PySem.Challenge.rw_np0105_01
noncomputable def q0 : Program := view pw [74]
noncomputable abbrev YP0 (_ : World) (h : Heap) : Prop := ∃ G : Addr → Option Obj,(∀ a o,G a = some o → h.get? a = some o) ∧ goodB G = true
noncomputable def loose0 : List Str := (["_wall","downcase","upcase","fold","is_upper","is_lower","LispSignal","LINE_FEED_regplaces","is_word_at","is_symbol_at","is_bound","holds_at","CLASSES","CLOSES","OPENS","COLON","MINUS","NOT","UNMATCHED","class_end","read_class","read_part","read_set","is_letter","is_figure","is_of_ascii_class","is_of_class","is_in_ranges","LINE_FEED_regmachine","MOST_STEPS","Choice","Regmachine","PLACES","SYMBOL_PLACES","KINDS","MOST_TIMES","bad_regexp","sign_at","is_escaped","joined","Frame","Parsing","parse_regexp","MOST_ROWS","PLAIN","Regcode","Compiling","compile_node","compile_regexp","re_search_forward","WORD","PUNCTUATION","INHERITS","Syntax","SyntaxTable","TextRow","_law_draw","_law_atom","_law_node","_law_like","_law_takes","_law_ways","_law_turns"] : List String).map Str.ofString
noncomputable def topT (tb : String → Option Builtin) (p : Program) (w : World) (n₀ : Nat) (ann : Option Value) : Nat → SharedT → Thread → Option SharedT
  | 0,_,_ => none
  | n + 1,s,t => match through t with
    | true => some s
    | false => match stepOk n₀ ann t with
      | false => none
      | true => match stepT (denote tb) p w s t with
        | some (s',t') => topT tb p w n₀ ann n s' t'
        | none => none
theorem topT_spec {tb : String → Option Builtin} {p : Program} {w : World} {n₀ : Nat} {ann : Option Value} : ∀ {n : Nat} {s s' : SharedT} {t : Thread},topT tb p w n₀ ann n s t = some s' → topRun tb p w n₀ ann n s.abs t = some s'.abs
  | 0,_,_,_,h => by fail "=h"
  | n + 1,s,s',t,h => by
    unfold topT at h
    unfold topRun
    cases ht : through t with
    | true => rw [ht] at h; fail "=h"; rfl
    | false =>
      rw [ht] at h
      cases hk : stepOk n₀ ann t with
      | false => rw [hk] at h; fail "=h"
      | true =>
        rw [hk] at h
        cases hs : stepT (denote tb) p w s t with
        | none => rw [hs] at h; fail "=h"
        | some r => obtain ⟨s₂,t₂⟩ := r; rw [hs] at h; rw [stepT_spec hs]; exact topT_spec h
noncomputable def topF (p : Program) (w : World) (n₀ : Nat) (ann : Option Value) : Nat → SharedT → Thread → Option SharedT
  | 0,_,_ => none
  | n + 1,s,t => match through t with
    | true => some s
    | false => match PySem.W.Fast.tw6613529449190102663 n₀ ann t with
      | false => none
      | true => match PySem.W.Fast.tw10156331382660048174 (PySem.W.Fast.tw11892475500146522536 PySem.W.Fast.tw14364793385576792824) p w s t with
        | some (s',t') => topF p w n₀ ann n s' t'
        | none => none
theorem topF_eq {p : Program} {w : World} {n₀ : Nat} {ann : Option Value} : ∀ {n : Nat} {s : SharedT} {t : Thread},topT PySem.W.Fast.tw14364793385576792824 p w n₀ ann n s t = topF p w n₀ ann n s t
  | 0,_,_ => rfl
  | n + 1,s,t => by
    unfold topT topF
    rw [PySem.W.Fast.te6613529449190102663,PySem.W.Fast.te10156331382660048174,PySem.W.Fast.te11892475500146522536]
    cases through t with
    | true => rfl
    | false =>
      cases PySem.W.Fast.tw6613529449190102663 n₀ ann t with
      | false => rfl
      | true =>
        cases PySem.W.Fast.tw10156331382660048174 (PySem.W.Fast.tw11892475500146522536 PySem.W.Fast.tw14364793385576792824) p w s t with
        | none => rfl
        | some r => exact topF_eq
noncomputable def t0 (P : Params) : BT :=
  .node (boot_o_0 P)
    (.node (boot_o_1 P) (.node (boot_o_3 P) (.node (boot_o_7 P) .nil .nil) .nil) (.node (boot_o_5 P) (.node (boot_o_9 P) .nil .nil) .nil))
    (.node (boot_o_2 P) (.node (boot_o_4 P) (.node (boot_o_8 P) .nil .nil) .nil) (.node (boot_o_6 P) (.node (boot_o_10 P) .nil .nil) .nil))
theorem t0_heap (P : Params) : boot_heap P = absHeap (t0 P) 11 (boot_heap P).life := rfl
noncomputable def s0 (w : World) (os : OsState) : SharedT := ⟨t0 w.params,11,(boot_heap w.params).life,#[],boot_drawn,boot_toks,os⟩
noncomputable def ann0 (w : World) : Option Value := (boot_heap w.params).nsMap mainGlobals "__annotations__"
noncomputable def getT (s : SharedT) (a : Addr) : Option Obj := match (if a < s.n then some ((s.tree.get a).getD default) else none) with
  | some ⟨_,_,.freed,_⟩ => none
  | o => o
theorem getT_eq (s : SharedT) : s.abs.heap.get? = getT s := funext fun a => by
  unfold Heap.get? getT
  rw [show s.abs.heap.objs[a]? = if a < s.n then some ((s.tree.get a).getD default) else none from absHeap_at s.tree s.n s.life a]
  rfl
noncomputable def look0 (w : World) (s : SharedT) := ((staticsOk (importedModules pw.main.body) (boot_heap w.params) s.abs.heap && namesBound pw s.abs.heap && gensDone s.abs && laidKept (boot_heap w.params) s.abs.heap),
  PySem.W.Fast.tw4187177175401517315 q0 loose0 (importedModules pw.main.body) (fun Y => true) true s.abs,goodB (getT s))
noncomputable abbrev Once (w : World) : Prop := ∀ os,(topF pw w 11 (ann0 w) 5430 (s0 w os) (topStub pw)).map (look0 w) = some (true,openGood q0 loose0,true)
theorem left0 (run : ∀ w,Once w) : LeftO pw q0 loose0 (fun Y => true) (fun s => goodB s.heap.get?) (fun Y => true) 11000 := fun w => by
  obtain ⟨⟨h,gs,d,k,os⟩,e,e'⟩ := Option.map_eq_some_iff.mp (boot_open (p := pw) (N := 11000) rfl rfl (fun Y => rfl) w)
  obtain ⟨rfl,rfl,rfl,rfl⟩ : h = boot_heap w.params ∧ gs = Array.mk [] ∧ d = boot_drawn ∧ k = boot_toks := by simpa using e'
  obtain ⟨s',r,l⟩ := Option.map_eq_some_iff.mp (run w os)
  obtain ⟨l1,l23⟩ := Prod.mk.inj l
  obtain ⟨l2,l3⟩ := Prod.mk.inj l23
  rw [← getT_eq] at l3
  rw [← PySem.W.Fast.te4187177175401517315] at l2
  have r1 := topF_eq.trans r
  rw [← PySem.W.Fast.te14364793385576792824] at r1
  have r2 := topRun_mono 5570 _ _ _ _ (topT_spec r1)
  have hs : (s0 w os).abs = ⟨boot_heap w.params,Array.mk [],boot_drawn,boot_toks,os⟩ := by
    show Shared.mk (absHeap (t0 w.params) 11 (boot_heap w.params).life) _ _ _ _ = _
    rw [← t0_heap]; rfl
  rw [hs] at r2
  have z1 : ((boot_heap w.params).isNs mainGlobals && (Array.mk [] : Array GenState).size == 0) = true := by kernel_rfl
  have t : topFrom treeTable pw w 11000 ⟨boot_heap w.params,Array.mk [],boot_drawn,boot_toks,os⟩ = some s'.abs := by
    unfold topFrom
    dsimp only
    rw [z1]
    show (topRun treeTable pw w 11 (ann0 w) (5430 + 5570) _ (topStub pw)).bind _ = _
    rw [r2]
    show (match staticsOk (importedModules pw.main.body) (boot_heap w.params) s'.abs.heap && namesBound pw s'.abs.heap && gensDone s'.abs && laidKept (boot_heap w.params) s'.abs.heap with | true => _ | false => _) = _
    rw [l1]
  unfold openEnds
  rw [e]
  show (topFrom treeTable pw w 11000 _).map _ = _
  rw [t]
  exact congrArg some (Prod.ext l2 l3)
theorem said0 : rw0.wellSaid = true := by
  rw [PySem.W.Fast.te9446332074065402090]
  kernel_rfl
theorem run0f (w : World) : Once (w.withFollow "special-get-raises" false) := fun os => by kernel_rfl
theorem run0t (w : World) : Once (w.withFollow "special-get-raises" true) := fun os => by kernel_rfl
theorem run0 : ∀ w,Once w := byRow2 "special-get-raises" (P := Once) run0f run0t
theorem dk_some : (defOf q0 rw0.row.name).isSome = true := by kernel_rfl
noncomputable def dk : DefRec × List (Str × Expr) := (defOf q0 rw0.row.name).get dk_some
theorem dk_eq : defOf q0 rw0.row.name = some (dk.1,dk.2) := (Option.some_get dk_some).symm
set_option maxHeartbeats 4000000 in
theorem main1 (wk : ∀ {d : DefRec} {kwd : List (Str × Expr)},d.name = names0.fname 69 → WalkO q0 loose0 (fun Y Y => True) YP0 rw0.row.toRowW d kwd fun f vs => PySem.call f vs) : rw0.Holds := holds_law said0 fun said => holds_open (r := rw0.row) (q := q0) (loose := loose0) (Xt := fun Y => true) (XP := fun Y Y => True) (Yf := fun s => goodB s.heap.get?) (Ya := fun Y => true) (YP := YP0) (d := dk.1) (kwd := dk.2) (N := 11000) (left0 run0)
  (fun w s e => ⟨_,fun Y Y z => z,e⟩) (fun w h h' ⟨G,a,b⟩ k => ⟨G,fun x o e => k _ _ (a x o e),b⟩) (fun Y Y => trivial) (fun Y Y Y Y Y => trivial) dk_eq (by kernel_rfl) (by kernel_rfl) (fun s Y => recFacts_of (by rfl)) rfl said (by kernel_rfl) ⟨rfl,rfl,rfl,rfl,rfl,by decide +kernel⟩ ⟨[.list []],by decide +kernel,by decide +kernel⟩ (wk (by kernel_rfl))
end
section
open PySem PySem.W PyProof.Rows PySem.Calls
structure Mu where
  os : List (Addr × Addr)
  gs : List Addr
noncomputable abbrev Mu.cs (μ : Mu) : List Addr := μ.os.map (·.2)
noncomputable abbrev Mu.ns (μ : Mu) : List Addr := μ.cs ++ μ.gs
theorem Mu.not_cs {μ : Mu} {a : Addr} (h : a ∉ μ.ns) : a ∉ μ.cs := fun q => h (List.mem_append_left _ q)
theorem Mu.not_gs {μ : Mu} {a : Addr} (h : a ∉ μ.ns) : a ∉ μ.gs := fun q => h (List.mem_append_right _ q)
theorem Mu.not_ns {μ : Mu} {a : Addr} (h : a ∉ μ.cs) (h' : a ∉ μ.gs) : a ∉ μ.ns := fun q => (List.mem_append.mp q).elim h h'
noncomputable abbrev ST (l : List Nat) : Str := ⟨l.toArray⟩
noncomputable abbrev tupObj (vs : Array Value) (n : Nat) : Obj := { cls := .type "tuple",data := .seq vs n }
noncomputable abbrev lstObj (vs : Array Value) (n : Nat) : Obj := { cls := .type "list",data := .seq vs n }
mutual
noncomputable def Rep (μ : Mu) (h : Heap) : PV → Value → Prop
  | .none,v => v = .none
  | .bool b,v => v = .bool b
  | .int i,v => ∃ t,v = .int i t
  | .str s,v => (∃ t,v = .str (ST s) t) ∧ s.length ≤ lim ∧ ∀ c ∈ s,c < 1114112
  | .tup xs,v => ∃ a vs n,v = .ref a ∧ h.get? a = some (tupObj vs n) ∧ a ∉ μ.ns ∧ xs.length ≤ lim ∧ Reps μ h xs vs.toList
  | .lst xs,v => ∃ a vs n,v = .ref a ∧ h.get? a = some (lstObj vs n) ∧ a ∉ μ.ns ∧ xs.length ≤ lim ∧ Reps μ h xs vs.toList
  | .ref i,v => ∃ x c,μ.os[i]? = some (x,c) ∧ v = .ref x
noncomputable def Reps (μ : Mu) (h : Heap) : List PV → List Value → Prop
  | [],vs => vs = []
  | x :: xs,vs => ∃ v r,vs = v :: r ∧ Rep μ h x v ∧ Reps μ h xs r
end
section
variable {μ : Mu} {h : Heap} {v : Value} {vs ws : List Value} {x : PV} {xs ys : List PV}
theorem Rep.intE {P : Value → Prop} {i} (r : Rep μ h (.int i) v) (k : ∀ t,P (.int i t)) : P v := by obtain ⟨t,rfl⟩ := r; exact k t
theorem Rep.boolE {P : Value → Prop} {i} (r : Rep μ h (.bool i) v) (k : P (.bool i)) : P v := by obtain rfl := r; exact k
theorem Rep.noneE {P : Value → Prop} (r : Rep μ h .none v) (k : P .none) : P v := by obtain rfl := r; exact k
theorem Rep.strE {P : Value → Prop} {i} (r : Rep μ h (.str i) v) (k : ∀ t,i.length ≤ lim → (∀ c ∈ i,c < 1114112) → P (.str (ST i) t)) : P v := by obtain ⟨⟨t,rfl⟩,a,b⟩ := r; exact k t a b
theorem Rep.tupE {P : Value → Prop} (r : Rep μ h (.tup xs) v) (k : ∀ a vs n,h.get? a = some (tupObj vs n) → a ∉ μ.ns → xs.length ≤ lim → Reps μ h xs vs.toList → P (.ref a)) : P v := by
  obtain ⟨a,vs,n,rfl,e,m,l,q⟩ := r; exact k a vs n e m l q
theorem Rep.lstE {P : Value → Prop} (r : Rep μ h (.lst xs) v) (k : ∀ a vs n,h.get? a = some (lstObj vs n) → a ∉ μ.ns → xs.length ≤ lim → Reps μ h xs vs.toList → P (.ref a)) : P v := by
  obtain ⟨a,vs,n,rfl,e,m,l,q⟩ := r; exact k a vs n e m l q
theorem Rep.refE {P : Value → Prop} {i} (r : Rep μ h (.ref i) v) (k : ∀ x c,μ.os[i]? = some (x,c) → P (.ref x)) : P v := by obtain ⟨x,c,e,rfl⟩ := r; exact k x c e
theorem Reps.nilE {P : List Value → Prop} (r : Reps μ h [] vs) (k : P []) : P vs := by obtain rfl := r; exact k
theorem Reps.consE {P : List Value → Prop} (r : Reps μ h (x :: xs) vs) (k : ∀ v ws,Rep μ h x v → Reps μ h xs ws → P (v :: ws)) : P vs := by obtain ⟨v,ws,rfl,a,b⟩ := r; exact k v ws a b
theorem Reps.one {P : List Value → Prop} (r : Reps μ h [x] vs) (k : ∀ v,Rep μ h x v → P [v]) : P vs := r.consE fun v Y a b => b.nilE (P := fun ws => P (v :: ws)) (k v a)
theorem Reps.two {P : List Value → Prop} {y} (r : Reps μ h [x,y] vs) (k : ∀ v w,Rep μ h x v → Rep μ h y w → P [v,w]) : P vs := r.consE fun v Y a b => b.one (P := fun ws => P (v :: ws)) fun w b => k v w a b
theorem asI_rep {γ : Type} {P : Value → Prop} {f : Int → Option γ} {r} (e : x.asI f = some r) (ra : Rep μ h x v) (k : ∀ i t,f i = some r → P (.int i t)) : P v :=
  asI_some (P := fun x => Rep μ h x v → P v) e (fun i e ra => ra.intE fun t => k i t e) ra
theorem asS_rep {γ : Type} {P : Value → Prop} {f : List Nat → Option γ} {r} (e : x.asS f = some r) (ra : Rep μ h x v) (k : ∀ i t,i.length ≤ lim → (∀ c ∈ i,c < 1114112) → f i = some r → P (.str (ST i) t)) : P v :=
  asS_some (P := fun x => Rep μ h x v → P v) e (fun i e ra => ra.strE fun t a b => k i t a b e) ra
theorem asT_rep {γ : Type} {P : Value → Prop} {f : List PV → Option γ} {r} (e : x.asT f = some r) (ra : Rep μ h x v) (k : ∀ xs a vs n,h.get? a = some (tupObj vs n) → a ∉ μ.ns → xs.length ≤ lim → Reps μ h xs vs.toList → f xs = some r → P (.ref a)) : P v :=
  asT_some (P := fun x => Rep μ h x v → P v) e (fun xs e ra => ra.tupE fun a vs n p q l t => k xs a vs n p q l t e) ra
theorem asL_rep {γ : Type} {P : Value → Prop} {f : List PV → Option γ} {r} (e : x.asL f = some r) (ra : Rep μ h x v) (k : ∀ xs a vs n,h.get? a = some (lstObj vs n) → a ∉ μ.ns → xs.length ≤ lim → Reps μ h xs vs.toList → f xs = some r → P (.ref a)) : P v :=
  asL_some (P := fun x => Rep μ h x v → P v) e (fun xs e ra => ra.lstE fun a vs n p q l t => k xs a vs n p q l t e) ra
theorem arg1_rep {γ : Type} {P : List Value → Prop} {f : PV → Option γ} {r} (e : arg1 xs f = some r) (ra : Reps μ h xs vs) (k : ∀ a v,f a = some r → Rep μ h a v → P [v]) : P vs :=
  arg1_some (P := fun xs => Reps μ h xs vs → P vs) e (fun a e ra => ra.one fun v r => k a v e r) ra
theorem arg2_rep {γ : Type} {P : List Value → Prop} {f : PV → PV → Option γ} {r} (e : arg2 xs f = some r) (ra : Reps μ h xs vs) (k : ∀ a b v w,f a b = some r → Rep μ h a v → Rep μ h b w → P [v,w]) : P vs :=
  arg2_some (P := fun xs => Reps μ h xs vs → P vs) e (fun a b e ra => ra.two fun v w p q => k a b v w e p q) ra
theorem Reps.nil : Reps μ h [] [] := rfl
theorem Reps.cons (a : Rep μ h x v) (b : Reps μ h xs vs) : Reps μ h (x :: xs) (v :: vs) := ⟨_,_,rfl,a,b⟩
end
theorem Reps.length {μ h} : ∀ {xs vs},Reps μ h xs vs → vs.length = xs.length
  | [],_,a => a.nilE (P := fun vs => vs.length = 0) rfl
  | _ :: _,_,a => a.consE (P := fun vs => vs.length = _ + 1) fun Y Y Y b => congrArg (· + 1) b.length
theorem Reps.get {μ h} : ∀ {xs vs} {i : Nat} {x},Reps μ h xs vs → xs[i]? = some x → ∃ v,vs[i]? = some v ∧ Rep μ h x v
  | [],_,_,_,_,e => (by contradiction)
  | _ :: _,_,0,x,a,e => a.consE (P := fun vs => ∃ v,vs[0]? = some v ∧ Rep μ h x v) fun v Y p Y => ⟨v,rfl,just_some (P := fun x => Rep μ h x v) e p⟩
  | _ :: _,_,i + 1,x,a,e => a.consE (P := fun vs => ∃ v,vs[i + 1]? = some v ∧ Rep μ h x v) fun Y Y Y b => Reps.get (i := i) b e
theorem Reps.append {μ h} : ∀ {xs vs ys ws},Reps μ h xs vs → Reps μ h ys ws → Reps μ h (xs ++ ys) (vs ++ ws)
  | [],_,ys,ws,a,b => a.nilE (P := fun vs => Reps μ h ([] ++ ys) (vs ++ ws)) b
  | x :: xs,_,ys,ws,a,b => a.consE (P := fun vs => Reps μ h (x :: xs ++ ys) (vs ++ ws)) fun Y Y p q => .cons p (Reps.append q b)
theorem Reps.drop {μ h} : ∀ {xs vs} (n : Nat),Reps μ h xs vs → Reps μ h (xs.drop n) (vs.drop n)
  | _,_,0,a => a
  | [],_,n + 1,a => a.nilE (P := fun vs => Reps μ h [] (vs.drop (n + 1))) .nil
  | x :: xs,_,n + 1,a => a.consE (P := fun vs => Reps μ h (xs.drop n) (vs.drop (n + 1))) fun Y Y Y q => Reps.drop n q
theorem Reps.take {μ h} : ∀ {xs vs} (n : Nat),Reps μ h xs vs → Reps μ h (xs.take n) (vs.take n)
  | _,_,0,_ => .nil
  | [],_,n + 1,a => a.nilE (P := fun vs => Reps μ h [] (vs.take (n + 1))) .nil
  | x :: xs,_,n + 1,a => a.consE (P := fun vs => Reps μ h (x :: xs.take n) (vs.take (n + 1))) fun Y Y p q => .cons p (Reps.take n q)
theorem Reps.set {μ h} : ∀ {xs vs} (n : Nat) {x v},Reps μ h xs vs → Rep μ h x v → Reps μ h (xs.set n x) (vs.set n v)
  | [],_,n,_,v,a,_ => a.nilE (P := fun vs => Reps μ h [] (vs.set n v)) .nil
  | x :: xs,_,0,y,v,a,b => a.consE (P := fun vs => Reps μ h (y :: xs) (vs.set 0 v)) fun Y Y Y q => .cons b q
  | x :: xs,_,n + 1,y,v,a,b => a.consE (P := fun vs => Reps μ h (x :: xs.set n y) (vs.set (n + 1) v)) fun Y Y p q => .cons p (Reps.set n q b)
structure Grow (W : List Addr) (μ μ' : Mu) (h h' : Heap) : Prop where
  ext : ∃ ν : List (Addr × Addr),μ'.os = μ.os ++ ν ∧ ∀ p ∈ ν,h.get? p.1 = none ∧ h.get? p.2 = none
  gs : μ'.gs = μ.gs
  keep : ∀ a o,h.get? a = some o → a ∉ μ.cs → a ∉ W → h'.get? a = some o
  alive : ∀ a o,h.get? a = some o → ∃ o',h'.get? a = some o'
theorem Grow.refl {W μ h} : Grow W μ μ h h := ⟨⟨[],by simp,by simp⟩,rfl,fun Y Y e Y Y => e,fun Y o e => ⟨o,e⟩⟩
theorem Grow.none_of {W μ μ' h h'} (x : Grow W μ μ' h h') {a : Addr} (e : h'.get? a = none) : h.get? a = none := by
  cases q : h.get? a with
  | none => rfl
  | some o => obtain ⟨o',e'⟩ := x.alive a o q; rw [e] at e'; fail "=e'"
theorem Grow.trans {W μ μ' μ'' h h' h''} (x : Grow W μ μ' h h') (y : Grow W μ' μ'' h' h'') : Grow W μ μ'' h h'' := by
  obtain ⟨ν,hν,f⟩ := x.ext
  obtain ⟨ν',hν',f'⟩ := y.ext
  refine ⟨⟨ν ++ ν',by rw [hν',hν]; simp,fun p hp => ?_⟩,y.gs.trans x.gs,fun a o e n w => ?_,fun a o e => ?_⟩
  · rcases List.mem_append.mp hp with q | q
    · exact f p q
    · exact ⟨x.none_of (f' p q).1,x.none_of (f' p q).2⟩
  · refine y.keep a o (x.keep a o e n w) ?_ w
    simp only [Mu.cs,hν,List.map_append,List.mem_append,not_or] at n ⊢
    refine ⟨n,fun q => ?_⟩
    obtain ⟨p,hp,rfl⟩ := List.mem_map.mp q
    rw [(f p hp).2] at e; fail "=e"
  · obtain ⟨o',e'⟩ := x.alive a o e
    exact y.alive a o' e'
theorem Grow.weaken {W W' μ μ' h h'} (x : Grow W μ μ' h h') (s : ∀ a ∈ W,a ∈ W') : Grow W' μ μ' h h' := ⟨x.ext,x.gs,fun a o e n w => x.keep a o e n fun q => w (s a q),x.alive⟩
theorem Grow.nil {W μ μ' h h'} (x : Grow [] μ μ' h h') : Grow W μ μ' h h' := x.weaken (by simp)
theorem Grow.strip {W μ μ' h h'} (x : Grow W μ μ' h h') (n : ∀ a ∈ W,h.get? a = none) : Grow [] μ μ' h h' :=
  ⟨x.ext,x.gs,fun a o e q Y => x.keep a o e q (fun w => by rw [n a w] at e; fail "=e"),x.alive⟩
theorem Grow.notin {W μ μ' h h'} (x : Grow W μ μ' h h') {a : Addr} {o : Obj} (e : h.get? a = some o) (n : a ∉ μ.cs) : a ∉ μ'.cs := by
  obtain ⟨ν,hν,f⟩ := x.ext
  simp only [Mu.cs,hν,List.map_append,List.mem_append,not_or] at n ⊢
  refine ⟨n,fun q => ?_⟩
  obtain ⟨p,hp,rfl⟩ := List.mem_map.mp q
  rw [(f p hp).2] at e; fail "=e"
theorem Grow.notinN {W μ μ' h h'} (x : Grow W μ μ' h h') {a : Addr} {o : Obj} (e : h.get? a = some o) (n : a ∉ μ.ns) : a ∉ μ'.ns :=
  Mu.not_ns (x.notin e (Mu.not_cs n)) (x.gs ▸ Mu.not_gs n)
theorem Grow.get {W μ μ' h h'} (x : Grow W μ μ' h h') {i : Nat} {p} (e : μ.os[i]? = some p) : μ'.os[i]? = some p := by
  obtain ⟨ν,hν,f⟩ := x.ext
  rw [hν,List.getElem?_append_left (List.getElem?_eq_some_iff.mp e).1]; exact e
noncomputable def NoSeq (W : List Addr) (μ : Mu) (h : Heap) : Prop := ∀ a ∈ W,a ∈ μ.gs ∨ ∀ o,h.get? a = some o → ∀ vs n,o.data ≠ .seq vs n
theorem keep_seq {W μ μ' h h'} (g : Grow W μ μ' h h') (w : NoSeq W μ h) {a : Addr} {c} {vs n} (e : h.get? a = some { cls := c,data := .seq vs n }) (m : a ∉ μ.ns) : h'.get? a = some { cls := c,data := .seq vs n } :=
  g.keep _ _ e (Mu.not_cs m) fun q => (w a q).elim (Mu.not_gs m) fun z => z _ e _ _ rfl
mutual
theorem Rep.grow {W μ μ' h h'} (g : Grow W μ μ' h h') (w : NoSeq W μ h) : ∀ {x : PV} {v : Value},Rep μ h x v → Rep μ' h' x v
  | .none,_,a => a
  | .bool _,_,a => a
  | .int _,_,a => a
  | .str _,_,a => a
  | .tup _,_,a => a.tupE (P := Rep μ' h' _) fun a vs n e m l r => ⟨a,vs,n,rfl,keep_seq g w e m,g.notinN e m,l,Reps.grow g w r⟩
  | .lst _,_,a => a.lstE (P := Rep μ' h' _) fun a vs n e m l r => ⟨a,vs,n,rfl,keep_seq g w e m,g.notinN e m,l,Reps.grow g w r⟩
  | .ref _,_,a => a.refE (P := Rep μ' h' _) fun x c e => ⟨x,c,g.get e,rfl⟩
theorem Reps.grow {W μ μ' h h'} (g : Grow W μ μ' h h') (w : NoSeq W μ h) : ∀ {xs : List PV} {vs : List Value},Reps μ h xs vs → Reps μ' h' xs vs
  | [],_,a => a
  | _ :: _,_,a => a.consE (P := Reps μ' h' _) fun Y Y p q => .cons (Rep.grow g w p) (Reps.grow g w q)
end
theorem noSeq_nil {μ h} : NoSeq [] μ h := fun Y q => (by contradiction)
theorem Rep.grow0 {μ μ' h h'} (g : Grow [] μ μ' h h') {x : PV} {v : Value} (a : Rep μ h x v) : Rep μ' h' x v := a.grow g noSeq_nil
theorem Reps.grow0 {μ μ' h h'} (g : Grow [] μ μ' h h') {x : List PV} {v : List Value} (a : Reps μ h x v) : Reps μ' h' x v := a.grow g noSeq_nil
theorem ns_ghost {μ μ' : Mu} {h : Heap} (eo : μ'.os = μ.os) (s : ∀ a o,h.get? a = some o → a ∉ μ.gs → a ∉ μ'.gs) {a o} (e : h.get? a = some o) (m : a ∉ μ.ns) : a ∉ μ'.ns :=
  Mu.not_ns (by have := Mu.not_cs m; unfold Mu.cs at this ⊢; rwa [eo]) (s _ _ e (Mu.not_gs m))
mutual
theorem Rep.ghost {μ μ' : Mu} {h : Heap} (eo : μ'.os = μ.os) (s : ∀ a o,h.get? a = some o → a ∉ μ.gs → a ∉ μ'.gs) : ∀ {x : PV} {v : Value},Rep μ h x v → Rep μ' h x v
  | .none,_,a => a
  | .bool _,_,a => a
  | .int _,_,a => a
  | .str _,_,a => a
  | .tup _,_,a => a.tupE (P := Rep μ' h _) fun a vs n e m l r => ⟨a,vs,n,rfl,e,ns_ghost eo s e m,l,Reps.ghost eo s r⟩
  | .lst _,_,a => a.lstE (P := Rep μ' h _) fun a vs n e m l r => ⟨a,vs,n,rfl,e,ns_ghost eo s e m,l,Reps.ghost eo s r⟩
  | .ref _,_,a => a.refE (P := Rep μ' h _) fun x c e => ⟨x,c,by rw [eo]; exact e,rfl⟩
theorem Reps.ghost {μ μ' : Mu} {h : Heap} (eo : μ'.os = μ.os) (s : ∀ a o,h.get? a = some o → a ∉ μ.gs → a ∉ μ'.gs) : ∀ {xs : List PV} {vs : List Value},Reps μ h xs vs → Reps μ' h xs vs
  | [],_,a => a
  | _ :: _,_,a => a.consE (P := Reps μ' h _) fun Y Y p q => .cons (Rep.ghost eo s p) (Reps.ghost eo s q)
end
structure Tab where
  nm : Nat → Str
  nn : Nat
  nc : Nat
  cls : Nat → Addr
  free : Nat → Nat → Prop
noncomputable def IntDict (μ : Mu) (h : Heap) (c : Addr) (es : List (Int × PV)) : Prop :=
  ∃ f : Int → Option Value,h.IntMap c f ∧ ∀ k,match es.lookup k with
    | some x => ∃ v,f k = some v ∧ Rep μ h x v
    | none => f k = none
noncomputable def ObjRep (t : Tab) (μ : Mu) (h : Heap) (x c : Addr) : AObj → Prop
  | .list xs => x = c ∧ xs.length ≤ lim ∧ ∃ vs n,h.get? c = some (lstObj vs n) ∧ Reps μ h xs vs.toList
  | .dict es => x = c ∧ (es.length ≤ lim ∧ h.DictLe c es.length ∧ (es = [] → h.get? c = some { cls := .type "dict",data := .dict #[] })) ∧ IntDict μ h c es
  | .inst k fs => x ∉ μ.cs ∧ h.get? x = some (instObj (t.cls k) c) ∧ (k < t.nc ∧ ∀ j,(fs.lookup j).isSome = true → t.free k j ∧ j < t.nn) ∧ ∃ m,(h.Ns1 c m ∧ Within m (fs.map fun p => t.nm p.1)) ∧
      ∀ j,j < t.nn → match fs.lookup j with
        | some y => ∃ v,m (t.nm j) = some v ∧ Rep μ h y v
        | none => m (t.nm j) = none
theorem ObjRep.move {t : Tab} {μ μ' : Mu} {h h' : Heap} {x c : Addr} {o : AObj} (kx : ∀ q,h.get? x = some q → q.data = .plain → x ∉ μ.cs → x ∉ μ'.cs ∧ h'.get? x = some q) (kc : ∀ q,h.get? c = some q → h'.get? c = some q)
    (r : ∀ {x v},Rep μ h x v → Rep μ' h' x v) (rs : ∀ {x v},Reps μ h x v → Reps μ' h' x v) (a : ObjRep t μ h x c o) : ObjRep t μ' h' x c o := by
  have look : ∀ {o : Option PV} {f : Option Value},(match o with | some x => ∃ v,f = some v ∧ Rep μ h x v | none => f = none) → (match o with | some x => ∃ v,f = some v ∧ Rep μ' h' x v | none => f = none) := fun {o f} q => by
    cases o with
    | some _ => obtain ⟨v,a,b⟩ := q; exact ⟨v,a,r b⟩
    | none => exact q
  cases o with
  | list xs => obtain ⟨e,l,vs,n,e1,q⟩ := a; exact ⟨e,l,vs,n,kc _ e1,rs q⟩
  | dict es => obtain ⟨e,l,f,⟨o,es',ep,h1,h2⟩,hf⟩ := a; exact ⟨e,⟨l.1,l.2.1.of_same h1 (kc _ h1),fun q => kc _ (l.2.2 q)⟩,f,⟨o,es',ep,kc _ h1,h2⟩,fun q => look (hf q)⟩
  | inst q fs => obtain ⟨hn,e1,l,m,hm,hf⟩ := a; exact ⟨(kx _ e1 rfl hn).1,(kx _ e1 rfl hn).2,l,m,⟨hm.1.at kc,hm.2⟩,fun j hj => look (hf j hj)⟩
structure Sim (t : Tab) (μ : Mu) (H : AH) (h : Heap) : Prop where
  len : μ.os.length = H.length
  nodup : μ.cs.Nodup
  obj : ∀ (i : Nat) x c o,μ.os[i]? = some (x,c) → H[i]? = some o → ObjRep t μ h x c o
end
section
open PySem PySem.W PyProof.Rows PySem.Calls
structure Ctx where
  prog : Program
  w : World
  tab : Tab
  base : Heap
  sys : ∃ o,base.get? sysModules = some o
structure St (C : Ctx) (μ : Mu) (H : AH) (h : Heap) : Prop where
  base : ∀ b o,C.base.get? b = some o → h.get? b = some o
  fresh : ∀ p ∈ μ.os,C.base.get? p.1 = none ∧ C.base.get? p.2 = none
  ghost : ∀ a ∈ μ.gs,(∃ o,h.get? a = some o) ∧ a ∉ μ.cs ∧ C.base.get? a = none
  sim : Sim C.tab μ H h
theorem growKeep {μ : Mu} {h h' : Heap} (k : ∀ b o,h.get? b = some o → h'.get? b = some o) : Grow [] μ μ h h' :=
  ⟨⟨[],by simp,by simp⟩,rfl,fun a o e Y Y => k a o e,fun a o e => ⟨o,k a o e⟩⟩
theorem Sim.keep {t : Tab} {μ H h h'} (x : Sim t μ H h) (k : ∀ b o,h.get? b = some o → h'.get? b = some o) : Sim t μ H h' :=
  ⟨x.len,x.nodup,fun i y c o e e' => (x.obj i y c o e e').move (fun q e Y n => ⟨n,k _ q e⟩) (fun q e => k _ q e) (fun r => r.grow0 (growKeep k)) fun r => r.grow0 (growKeep k)⟩
theorem St.keep {C : Ctx} {μ H h h'} (x : St C μ H h) (k : ∀ b o,h.get? b = some o → h'.get? b = some o) : St C μ H h' :=
  ⟨fun b o e => k _ _ (x.base b o e),x.fresh,fun a ha => ⟨(by obtain ⟨o,e⟩ := (x.ghost a ha).1; exact ⟨o,k _ _ e⟩),(x.ghost a ha).2⟩,x.sim.keep k⟩
theorem pushKeep (h : Heap) (o : Obj) : ∀ b q,h.get? b = some q → (h.push o).get? b = some q := fun Y Y e => Heap.get?_push_of_some _ e
theorem St.push {C : Ctx} {μ H h} (x : St C μ H h) (o : Obj) : St C μ H (h.push o) := x.keep (pushKeep h o)
theorem growPush {μ : Mu} (h : Heap) (o : Obj) : Grow [] μ μ h (h.push o) := growKeep (pushKeep h o)
theorem sizeNone (h : Heap) : h.get? h.objs.size = none := by
  cases q : h.get? h.objs.size with
  | none => rfl
  | some o => exact absurd (Heap.lt_size q) (Nat.lt_irrefl _)
theorem noneKeep {h h' : Heap} (k : ∀ b o,h.get? b = some o → h'.get? b = some o) {a : Addr} (e : h'.get? a = none) : h.get? a = none := by
  cases q : h.get? a with
  | none => rfl
  | some o => rw [k _ _ q] at e; fail "=e"
theorem St.live {C : Ctx} {μ H h} (x : St C μ H h) {i : Nat} {p} (e : μ.os[i]? = some p) : ∃ o,h.get? p.2 = some o := by
  have hi := (List.getElem?_eq_some_iff.mp e).1
  have hH : i < H.length := x.sim.len ▸ hi
  have := x.sim.obj i p.1 p.2 H[i] (by rw [e]) (by simp [hH])
  cases q : H[i] with
  | list xs => rw [q] at this; obtain ⟨_,_,vs,n,e1,r⟩ := this; exact ⟨_,e1⟩
  | dict es => rw [q] at this; obtain ⟨_,_,f,⟨o,es',ep,h1,h2⟩,hf⟩ := this; exact ⟨_,h1⟩
  | inst k fs => rw [q] at this; obtain ⟨_,e1,_,m,⟨⟨o,es',ep,h1,h2⟩,_⟩,hf⟩ := this; exact ⟨_,h1⟩
theorem St.cs_live {C : Ctx} {μ H h} (x : St C μ H h) : ∀ a ∈ μ.cs,∃ o,h.get? a = some o := fun a m => by
  obtain ⟨p,hp,rfl⟩ := List.mem_map.mp m
  obtain ⟨i,hi,rfl⟩ := List.mem_iff_getElem.mp hp
  exact x.live (i := i) (by simp [hi])
theorem St.none_notin {C : Ctx} {μ H h} (x : St C μ H h) {a : Addr} (e : h.get? a = none) : a ∉ μ.cs := fun m => by
  obtain ⟨o,q⟩ := x.cs_live _ m
  rw [e] at q; fail "=q"
theorem St.none_notinN {C : Ctx} {μ H h} (x : St C μ H h) {a : Addr} (e : h.get? a = none) : a ∉ μ.ns := Mu.not_ns (x.none_notin e) fun m => by
  obtain ⟨⟨o,q⟩,_⟩ := x.ghost _ m
  rw [e] at q; fail "=q"
theorem St.size_notin {C : Ctx} {μ H h} (x : St C μ H h) : h.objs.size ∉ μ.ns := x.none_notinN (sizeNone h)
noncomputable def Mu.add (μ : Mu) (p : Addr × Addr) : Mu := ⟨μ.os ++ [p],μ.gs⟩
noncomputable def Ev (C : Ctx) (A : Around) (t : Sem Value) (μ : Mu) (H : AH) (s : Shared) (pv : PV) (H' : AH) : Prop :=
  ∀ Q : Value → Shared → Prop,(∀ v μ' h' tk',Grow [] μ μ' s.heap h' → St C μ' H' h' → Rep μ' h' pv v → Q v { s with heap := h',toks := tk' }) →
    wpAny (model C.prog C.w) A t Q (fun Y Y => False) s
section
variable {C : Ctx} {A : Around} {μ : Mu} {H : AH} {s : Shared} {a b r : PV} {va vb : Value}
theorem Ev.same {t : Sem Value} {pv : PV} (hs : St C μ H s.heap) (h : ∀ Q : Value → Shared → Prop,(∀ v tk',Rep μ s.heap pv v → Q v { s with toks := tk' }) → wpAny (model C.prog C.w) A t Q (fun Y Y => False) s) : Ev C A t μ H s pv H :=
  fun Q k => h Q fun v tk' r => k v μ s.heap tk' .refl hs r
theorem Ev.just {t : Sem Value} {r r' : PV} (e : some r' = some r) (h : Ev C A t μ H s r' H) : Ev C A t μ H s r H := just_some (P := fun r => Ev C A t μ H s r H) e h
theorem Ev.alloc {t : Sem Value} {pv : PV} (hs : St C μ H s.heap) (o : Obj)
    (h : ∀ Q : Value → Shared → Prop,(∀ tk',Q (.ref s.heap.objs.size) { s with heap := s.heap.push o,toks := tk' }) → wpAny (model C.prog C.w) A t Q (fun Y Y => False) s)
    (r : Rep μ (s.heap.push o) pv (.ref s.heap.objs.size)) : Ev C A t μ H s pv H :=
  fun Q k => h Q fun tk' => k _ μ _ tk' (growPush _ _) (hs.push o) r
theorem rep_int {μ h i t} : Rep μ h (.int i) (.int i t) := ⟨t,rfl⟩
theorem rep_bool {μ h b} : Rep μ h (.bool b) (.bool b) := rfl
theorem rep_none {μ h} : Rep μ h .none .none := rfl
theorem rep_str {μ h s t} (hl : s.length ≤ lim) (hc : ∀ c ∈ s,c < 1114112) : Rep μ h (.str s) (.str (ST s) t) := ⟨⟨t,rfl⟩,hl,hc⟩
theorem rep_tup_new {h : Heap} {xs vs} (hs : St C μ H h) (hl : xs.length ≤ lim) (r : Reps μ h xs vs) : Rep μ (h.push (tupObj vs.toArray 0)) (.tup xs) (.ref h.objs.size) :=
  ⟨_,vs.toArray,0,rfl,Heap.get?_push_size _ rfl,hs.size_notin,hl,r.grow0 (growPush h _)⟩
theorem rep_lst_new {h : Heap} {xs vs} (hs : St C μ H h) (hl : xs.length ≤ lim) (r : Reps μ h xs vs) : Rep μ (h.push (lstObj vs.toArray 0)) (.lst xs) (.ref h.objs.size) :=
  ⟨_,vs.toArray,0,rfl,Heap.get?_push_size _ rfl,hs.size_notin,hl,r.grow0 (growPush h _)⟩
theorem rep_tup_newA {h : Heap} {xs} {vs : Array Value} (hs : St C μ H h) (hl : xs.length ≤ lim) (r : Reps μ h xs vs.toList) : Rep μ (h.push (tupObj vs 0)) (.tup xs) (.ref h.objs.size) :=
  ⟨_,vs,0,rfl,Heap.get?_push_size _ rfl,hs.size_notin,hl,r.grow0 (growPush h _)⟩
theorem rep_lst_newA {h : Heap} {xs} {vs : Array Value} (hs : St C μ H h) (hl : xs.length ≤ lim) (r : Reps μ h xs vs.toList) : Rep μ (h.push (lstObj vs 0)) (.lst xs) (.ref h.objs.size) :=
  ⟨_,vs,0,rfl,Heap.get?_push_size _ rfl,hs.size_notin,hl,r.grow0 (growPush h _)⟩
theorem lim_sizeLine : lim ≤ sizeLine := by rw [sizeLine_eq]; decide
theorem ev_newTuple {xs : List PV} {vs : List Value} (hs : St C μ H s.heap) (hl : xs.length ≤ lim) (r : Reps μ s.heap xs vs) : Ev C A (newTuple vs) μ H s (.tup xs) H :=
  .alloc hs (tupObj vs.toArray 0) (fun Q k => wpAny_newTuple (k s.toks) (by rw [r.length]; exact Nat.le_trans hl lim_sizeLine)) (rep_tup_new hs hl r)
theorem ev_newList {xs : List PV} {vs : List Value} (hs : St C μ H s.heap) (hl : xs.length ≤ lim) (r : Reps μ s.heap xs vs) : Ev C A (newList vs) μ H s (.lst xs) H :=
  .alloc hs (lstObj vs.toArray 0) (fun Q k => wpAny_newList (k s.toks) (by rw [r.length]; exact Nat.le_trans hl lim_sizeLine)) (rep_lst_new hs hl r)
theorem ObjRep.grow {t : Tab} {μ μ' h h' x c o} (g : Grow [] μ μ' h h') (hc : ∀ q,h.get? c = some q → h'.get? c = some q) (a : ObjRep t μ h x c o) : ObjRep t μ' h' x c o :=
  a.move (fun q e Y n => ⟨g.notin e n,g.keep _ _ e n (fun z => (by contradiction))⟩) hc (fun r => r.grow0 g) fun r => r.grow0 g
theorem cs_mem {μ : Mu} {i : Nat} {y c : Addr} (e : μ.os[i]? = some (y,c)) : c ∈ μ.cs := List.mem_map.mpr ⟨(y,c),List.mem_of_getElem? e,rfl⟩
theorem St.sideW {W : List Addr} {h h' : Heap} (hs : St C μ H h) (k : ∀ b o,b ∉ W → h.get? b = some o → h'.get? b = some o) (na : ∀ a ∈ W,a ∉ μ.cs) (nb : ∀ a ∈ W,C.base.get? a = none) (nq : NoSeq W μ h)
    (np : ∀ a ∈ W,∀ o,h.get? a = some o → o.data ≠ .plain) (al : ∀ a ∈ W,∀ o,h.get? a = some o → ∃ o',h'.get? a = some o') : Grow W μ μ h h' ∧ St C μ H h' := by
  have g : Grow W μ μ h h' := ⟨⟨[],(List.append_nil _).symm,fun Y q => (by contradiction)⟩,rfl,fun b o e Y w => k b o w e,fun b o e => if z : b ∈ W then al b z o e else ⟨o,k b o z e⟩⟩
  refine ⟨g,fun b o e => k b o (fun z => ?_) (hs.base b o e),hs.fresh,fun b hb => ⟨(by obtain ⟨o,e⟩ := (hs.ghost b hb).1; exact g.alive b o e),(hs.ghost b hb).2⟩,hs.sim.len,hs.sim.nodup,fun i y c o e1 e2 => ?_⟩
  · rw [nb b z] at e; fail "=e"
  · exact (hs.sim.obj i y c o e1 e2).move (fun q e3 p n => ⟨n,k _ _ (fun z => np y z _ e3 p) e3⟩) (fun q e => k c q (fun z => na c z (cs_mem e1)) e) (fun r => r.grow g nq) fun r => r.grow g nq
theorem St.ext {h h' : Heap} {x c : Addr} {o : AObj} (hs : St C μ H h) (k : ∀ b o,h.get? b = some o → h'.get? b = some o)
    (hx : h.get? x = none) (hc : h.get? c = none) (ho : Grow [] μ (μ.add (x,c)) h h' → ObjRep C.tab (μ.add (x,c)) h' x c o) :
    St C (μ.add (x,c)) (H ++ [o]) h' ∧ Grow [] μ (μ.add (x,c)) h h' := by
  have g : Grow [] μ (μ.add (x,c)) h h' := ⟨⟨[(x,c)],rfl,by simp [hx,hc]⟩,rfl,fun a o e Y Y => k a o e,fun a o e => ⟨o,k a o e⟩⟩
  refine ⟨⟨fun b o e => k _ _ (hs.base b o e),fun p hp => ?_,fun a ha => ?_,by simp [Mu.add,hs.sim.len],?_,fun i y d q e e' => ?_⟩,g⟩
  · rcases List.mem_append.mp hp with q | q
    · exact hs.fresh p q
    · simp at q; subst q; exact ⟨noneKeep hs.base hx,noneKeep hs.base hc⟩
  · obtain ⟨⟨o,e⟩,n⟩ := hs.ghost a ha
    exact ⟨⟨o,k _ _ e⟩,g.notin e n.1,n.2⟩
  · simp only [Mu.cs,Mu.add,List.map_append,List.map_cons,List.map_nil]
    refine List.nodup_append.mpr ⟨hs.sim.nodup,by simp,fun a ha b hb => ?_⟩
    simp at hb; subst hb
    intro q; subst q; exact hs.none_notin hc ha
  · rcases Nat.lt_or_ge i H.length with hi | hi
    · unfold Mu.add at e
      rw [List.getElem?_append_left (hs.sim.len ▸ hi)] at e
      rw [List.getElem?_append_left hi] at e'
      exact (hs.sim.obj i y d q e e').grow g fun Y e => k _ _ e
    · unfold Mu.add at e
      rw [List.getElem?_append_right (hs.sim.len ▸ hi)] at e
      rw [List.getElem?_append_right hi] at e'
      have hlen := hs.sim.len
      have hz : i - H.length = 0 := by
        rcases Nat.eq_zero_or_pos (i - H.length) with q | q
        · exact q
        · rw [List.getElem?_eq_none (by simp; fail "l")] at e'; fail "=e'"
      rw [hlen,hz] at e
      rw [hz] at e'
      simp at e e'
      obtain ⟨rfl,rfl⟩ := e
      subst e'
      exact ho g
theorem St.put {h h' : Heap} {i : Nat} {x c : Addr} {o' : AObj} (hs : St C μ H h) (e : μ.os[i]? = some (x,c)) (k : Heap.SameBut c h h') (hc' : ∃ o,h'.get? c = some o)
    (ho : Grow [] μ μ h h' → ObjRep C.tab μ h' x c o') : St C μ (H.set i o') h' ∧ Grow [] μ μ h h' := by
  have hc : c ∈ μ.cs := cs_mem e
  have lc : ∃ o,h'.get? c = some o := hc'
  have g : Grow [] μ μ h h' := ⟨⟨[],by simp,by simp⟩,rfl,fun a o e n Y => (k.2 a fun q => n (q ▸ hc)).trans e,fun a o e => by
    by_cases q : a = c
    · subst q; exact lc
    · exact ⟨o,(k.2 a q).trans e⟩⟩
  have hcb : C.base.get? c = none := (hs.fresh (x,c) (List.mem_of_getElem? e)).2
  refine ⟨⟨fun b o e₀ => (k.2 b fun q => ?_).trans (hs.base b o e₀),hs.fresh,fun a ha => ⟨(by obtain ⟨o,e⟩ := (hs.ghost a ha).1; exact g.alive a o e),(hs.ghost a ha).2⟩,by simp [hs.sim.len],hs.sim.nodup,fun j y d q e1 e2 => ?_⟩,g⟩
  · subst q; rw [hcb] at e₀; cases e₀
  · by_cases hij : i = j
    · subst hij
      rw [e] at e1; fail "=e1"
      have hi : i < H.length := hs.sim.len ▸ (List.getElem?_eq_some_iff.mp e).1
      rw [List.getElem?_set_self hi] at e2; fail "=e2"
      exact ho g
    · rw [List.getElem?_set_ne hij] at e2
      refine (hs.sim.obj j y d q e1 e2).grow g fun q e => (k.2 d fun q => hij ?_).trans e
      subst q
      have n := hs.sim.nodup
      have hi := (List.getElem?_eq_some_iff.mp e).1
      have hj := (List.getElem?_eq_some_iff.mp e1).1
      have a1 : (μ.cs)[i]? = some d := by simp [Mu.cs,e]
      have a2 : (μ.cs)[j]? = some d := by simp [Mu.cs,e1]
      exact (List.getElem?_inj (by simpa [Mu.cs] using hi) n).mp (a1.trans a2.symm)
theorem ev_newListM {xs : List PV} {vs : List Value} (hs : St C μ H s.heap) (hl : xs.length ≤ lim) (r : Reps μ s.heap xs vs) : Ev C A (newList vs) μ H s (.ref H.length) (H ++ [.list xs]) := by
  intro Q k
  have z := hs.ext (h' := s.heap.push (lstObj vs.toArray 0)) (x := s.heap.objs.size) (c := s.heap.objs.size) (o := .list xs) (pushKeep _ _) (sizeNone _) (sizeNone _)
    fun g => ⟨rfl,hl,vs.toArray,0,Heap.get?_push_size _ rfl,r.grow0 g⟩
  refine wpAny_newList (k _ _ _ s.toks z.2 z.1 ?_) (by rw [r.length]; exact Nat.le_trans hl lim_sizeLine)
  exact ⟨s.heap.objs.size,s.heap.objs.size,by show (μ.os ++ _)[H.length]? = _; rw [List.getElem?_append_right (by rw [hs.sim.len]; exact Nat.le_refl _),hs.sim.len]; simp,rfl⟩
end
end
section
open PySem PySem.W PyProof.Rows PySem.Calls PySem.SeqAt
mutual
noncomputable def toPy : PV → PyData
  | .none => .none
  | .bool b => .bool b
  | .int i => .int i
  | .str s => .str (ST s)
  | .tup xs => .tuple (toPys xs)
  | .lst xs => .list (toPys xs)
  | .ref _ => .none
noncomputable def toPys : List PV → List PyData
  | [] => []
  | x :: xs => toPy x :: toPys xs
end
theorem strOk_of {s : List Nat} (h : ∀ c ∈ s,c < 1114112) : PyData.strOk (ST s) = true := by
  unfold PyData.strOk
  rw [Array.all_eq_true']
  intro c hc
  simp at hc
  simpa using h c hc
inductive Rd (h : Heap) (v : Value) (x : PyData) (n : Nat) : Prop where
  | mk {as} (r : Reads h v x as) (c : x.canLay0 = true) (d : x.depth ≤ n)
inductive Rds (h : Heap) (vs : List Value) (x : List PyData) (n : Nat) : Prop where
  | mk {as} (r : ReadsAll h vs x as) (c : PyData.canLayAll0 x = true) (d : PyData.depthAll x ≤ n)
theorem rd_str {μ h n s v} (r : Rep μ h (.str s) v) : Rd h v (toPy (.str s)) n := r.strE (P := fun v => Rd h v (toPy (.str s)) n) fun t Y hc => .mk (Reads.str _ t) (strOk_of hc) (Nat.zero_le _)
theorem rd_int {μ h n s v} (r : Rep μ h (.int s) v) : Rd h v (toPy (.int s)) n := r.intE (P := fun v => Rd h v (toPy (.int s)) n) fun t => .mk (Reads.int s t) rfl (Nat.zero_le _)
theorem rds_cons {h n x xs v vs} (a : Rd h v x n) (b : Rds h vs xs n) : Rds h (v :: vs) (x :: xs) n :=
  match a,b with
  | .mk r c d,.mk r' c' d' => .mk (ReadsAll.cons r r') (by show (x.canLay0 && PyData.canLayAll0 xs) = true; rw [c,c']; rfl) (Nat.max_le.mpr ⟨d,d'⟩)
theorem rds_nil {h n} : Rds h [] [] n := .mk ReadsAll.nil rfl (Nat.zero_le _)
mutual
theorem reads_of {μ h} : ∀ {x : PV} (n : Nat) {v : Value},PV.flat x n = true → Rep μ h x v → Rd h v (toPy x) n
  | .none,n,_,_,r => r.noneE (P := fun v => Rd h v (toPy .none) n) (.mk Reads.none rfl (Nat.zero_le _))
  | .bool b,n,_,_,r => r.boolE (P := fun v => Rd h v (toPy (.bool b)) n) (.mk (Reads.bool b) rfl (Nat.zero_le _))
  | .int i,n,_,_,r => rd_int r
  | .str s,n,_,_,r => rd_str r
  | .tup xs,0,_,f,_ => (by contradiction)
  | .lst xs,0,_,f,_ => (by contradiction)
  | .ref i,n,v,f,_ => (by contradiction)
  | .tup xs,n + 1,_,f,r => r.tupE (P := fun v => Rd h v (toPy (.tup xs)) (n + 1)) fun a vs k e Y Y r => match readsAll_of n f r with
    | .mk q c d => .mk (Reads.tuple e rfl rfl q) c (Nat.succ_le_succ d)
  | .lst xs,n + 1,_,f,r => r.lstE (P := fun v => Rd h v (toPy (.lst xs)) (n + 1)) fun a vs k e Y Y r => match readsAll_of n f r with
    | .mk q c d => .mk (Reads.list e rfl rfl q) c (Nat.succ_le_succ d)
theorem readsAll_of {μ h} : ∀ {xs : List PV} (n : Nat) {vs : List Value},PV.flats xs n = true → Reps μ h xs vs → Rds h vs (toPys xs) n
  | [],n,_,_,r => r.nilE (P := fun vs => Rds h vs [] n) rds_nil
  | x :: xs,n,_,f,r => r.consE (P := fun vs => Rds h vs (toPy x :: toPys xs) n) fun v vs r1 r2 => rds_cons (reads_of n (Bool.and_eq_true_iff.mp f).1 r1) (readsAll_of n (Bool.and_eq_true_iff.mp f).2 r2)
end
theorem ST_eq (a b : List Nat) : (ST a == ST b) = (a == b) := by
  by_cases h : a = b
  · subst h; rw [beq_self_eq_true,beq_self_eq_true]
  · have : ST a ≠ ST b := fun q => h (by injection q with q; exact congrArg Array.toList q)
    rw [beq_eq_false_iff_ne.mpr this,beq_eq_false_iff_ne.mpr h]
mutual
theorem eqv_of : ∀ {a b : PV} {r : Bool},PV.eq a b = some r → PyData.eqv (toPy a) (toPy b) = r
  | .none,b,r,e => by cases b <;> first | exact just_some e rfl | fail "=e"
  | .bool a,b,r,e => asB_some (P := fun b => PyData.eqv (.bool a) (toPy b) = r) e fun b e => just_some e rfl
  | .int a,b,r,e => by cases b <;> first | exact just_some e rfl | fail "=e"
  | .str a,b,r,e => asS_some (P := fun b => PyData.eqv (.str (ST a)) (toPy b) = r) e fun b e => just_some (P := fun r => (ST a == ST b) = r) e (ST_eq a b)
  | .tup a,b,r,e => by cases b <;> first | exact eqvs_of e | exact just_some e rfl | fail "=e"
  | .lst a,b,r,e => by cases b <;> first | exact eqvs_of e | exact just_some e rfl | fail "=e"
  | .ref _,_,_,e => (by contradiction)
theorem eqvs_of : ∀ {a b : List PV} {r : Bool},PV.eqs a b = some r → PyData.eqvAll (toPys a) (toPys b) = r
  | [],[],_,e => just_some (P := fun r => true = r) e rfl
  | [],_ :: _,_,e => just_some (P := fun r => false = r) e rfl
  | _ :: _,[],_,e => just_some (P := fun r => false = r) e rfl
  | x :: a,y :: b,_,e => bd_some e fun p e1 e => bd_some e fun q e2 e => just_some (P := fun r => (PyData.eqv (toPy x) (toPy y) && PyData.eqvAll (toPys a) (toPys b)) = r) e (by rw [eqv_of e1,eqvs_of e2])
end
section
variable {C : Ctx} {A : Around} {μ : Mu} {H : AH} {s : Shared} {a b : PV} {va vb : Value} {E : Value → Shared → Prop}
theorem isList_of {h : Heap} {a vs n} (e : h.get? a = some (lstObj vs n)) : h.IsList a vs := ⟨_,e,rfl,n,rfl⟩
theorem isTup_of {h : Heap} {a vs n} (e : h.get? a = some (tupObj vs n)) : IsTup h a vs := ⟨_,e,rfl,n,rfl⟩
theorem repRef {t : Tab} {h : Heap} {i : Nat} {v : Value} {o : AObj} (S : Sim t μ H h) (r : Rep μ h (.ref i) v) (e : H[i]? = some o) : ∃ x c,v = .ref x ∧ μ.os[i]? = some (x,c) ∧ ObjRep t μ h x c o :=
  match v,r with | _,⟨x,c,e',rfl⟩ => ⟨x,c,rfl,e',S.obj i x c o e' e⟩
theorem repL {t : Tab} {P : Value → Prop} {h : Heap} {i : Nat} {v : Value} {xs} (S : Sim t μ H h) (r : Rep μ h (.ref i) v) (e : H[i]? = some (.list xs))
    (k : ∀ x vs n,h.get? x = some (lstObj vs n) → xs.length ≤ lim → Reps μ h xs vs.toList → μ.os[i]? = some (x,x) → P (.ref x)) : P v :=
  r.refE fun x c e' => match c,S.obj i x c _ e' e,e' with
    | _,⟨rfl,l,vs,n,e1,q⟩,e' => k x vs n e1 l q e'
theorem sz {h : Heap} {xs : List PV} {vs : Array Value} (r : Reps μ h xs vs.toList) : vs.size = xs.length := r.length
structure EqB (C : Ctx) (A : Around) (s : Shared) (r : Bool) (va vb : Value) : Prop where
  eq : ∀ {E} {Q : Value → Shared → Prop},Q (.bool r) s → wpAny (model C.prog C.w) A (compareOp .Eq va vb) Q E s
  ne : ∀ {E} {Q : Value → Shared → Prop},Q (.bool (!r)) s → wpAny (model C.prog C.w) A (compareOp .NotEq va vb) Q E s
theorem nil_list {l m : Addr} {its its2 : Array Value} {n n2 : Nat} {r : Bool} (hu : A.units + 8 < cLine) (e1 : s.heap.get? l = some (lstObj its n)) (e2 : s.heap.get? m = some (lstObj its2 n2)) (h2 : its2.size = 0) (hr : its.isEmpty = r) : EqB C A s r (.ref l) (.ref m) := by
  cases r with
  | true =>
    cases Array.isEmpty_iff.mp hr
    cases Array.eq_empty_of_size_eq_zero h2
    have r1 : Reads s.heap (.ref l) (.list []) _ := Reads.list e1 rfl rfl ReadsAll.nil
    have r2 : Reads s.heap (.ref m) (.list []) _ := Reads.list e2 rfl rfl ReadsAll.nil
    have hd : A.units + 7 < cLine := by lia
    exact ⟨compareEq_reads r1 r2 rfl rfl (by simp [PyData.depth,PyData.depthAll]; lia),compareNe_reads r1 r2 rfl rfl (by simp [PyData.depth,PyData.depthAll]; lia)⟩
  | false =>
    have h1 : (its.size != its2.size) = true := by
      rw [h2,bne_iff_ne]
      intro z
      rw [Array.isEmpty_iff_size_eq_zero.mpr z] at hr; fail "=hr"
    exact ⟨eq_list_lengthsAt (isList_of e1) (isList_of e2) h1 (by lia),RcNeAt.lists_lengths (isList_of e1) (isList_of e2) h1 (by lia) _ _ _ _⟩
theorem empty_same {h : Heap} {xs : List PV} {vs : Array Value} (r : Reps μ h xs vs.toList) : vs.isEmpty = xs.isEmpty := by
  rw [Bool.eq_iff_iff,Array.isEmpty_iff_size_eq_zero,sz r,List.length_eq_zero_iff,List.isEmpty_iff]
theorem eqFlat {r : Bool} (hu : A.units + 8 < cLine) (ra : Rep μ s.heap a va) (rb : Rep μ s.heap b vb) (e : flatEq a b = some r) : EqB C A s r va vb :=
  whn_some e fun f e => match reads_of 4 (Bool.and_eq_true_iff.mp f).1 ra,reads_of 4 (Bool.and_eq_true_iff.mp f).2 rb with
  | .mk p1 p2 p3,.mk q1 q2 q3 => ⟨fun q => compareEq_reads p1 q1 p2 q2 (by lia) (by rw [eqv_of e]; exact q),fun q => compareNe_reads p1 q1 p2 q2 (by lia) (by rw [eqv_of e]; exact q)⟩
theorem eqBoth (hs : St C μ H s.heap) (ra : Rep μ s.heap a va) (rb : Rep μ s.heap b vb) {r : Bool} (e : PV.eqH H a b = some r) (hu : A.units + 8 < cLine) : EqB C A s r va vb := by
  by_cases hb : b.isNil = true
  · have e' : eqNil H a b = some r := by
      unfold PV.eqH at e; rw [hb] at e; exact e
    cases b with
    | lst ys =>
      cases List.isEmpty_iff.mp hb
      refine rb.lstE (P := EqB C A s r va) fun m ws k e3 Y Y q2 => ?_
      cases a with
      | ref i => exact getL_some e' fun xs hx e' => repL (P := fun va => EqB C A s r va (.ref m)) hs.sim ra hx fun x vs n e1 Y q Y => nil_list hu e1 e3 (sz q2) ((empty_same q).trans (just_some e' rfl))
      | lst xs => exact ra.lstE (P := fun va => EqB C A s r va (.ref m)) fun x vs n e1 Y Y q => nil_list hu e1 e3 (sz q2) ((empty_same q).trans (just_some e' rfl))
      | _ => exact eqFlat hu ra (b := .lst []) ⟨m,ws,k,rfl,e3,by assumption,by assumption,q2⟩ e'
    | _ => fail "=hb"
  · rw [Bool.not_eq_true] at hb
    unfold PV.eqH at e; rw [hb] at e
    exact eqFlat hu ra rb e
structure Seek (h : Heap) (ys : List PV) (vs : List Value) (x : PyData) (r : Bool) : Prop where
  rd : Rds h vs (toPys ys) 4
  any : ((toPys ys).any fun y => PyData.eqv y x) = r
theorem any_cons {y : PV} {ys : List PV} {x : PyData} {p r : Bool} (h1 : PyData.eqv (toPy y) x = p) (h2 : ((toPys ys).any fun y => PyData.eqv y x) = r) : ((toPys (y :: ys)).any fun y => PyData.eqv y x) = (p || r) := by
  rw [← h1,← h2]; rfl
theorem strs_of (x : List Nat) {h : Heap} : ∀ {ys : List PV} {vs : List Value} {l : List (List Nat)},strs? ys = some l → Reps μ h ys vs → Seek h ys vs (.str (ST x)) (l.contains x)
  | [],vs,l,e,q => q.nilE (P := fun vs => Seek h [] vs (.str (ST x)) (l.contains x)) (just_some (P := fun l => Seek h [] [] (.str (ST x)) (l.contains x)) e ⟨rds_nil,rfl⟩)
  | y :: ys,vs,l,e,q => q.consE (P := fun vs => Seek h (y :: ys) vs (.str (ST x)) (l.contains x)) fun v vs r1 r2 => asS_some (P := fun y => Rep μ h y v → Seek h (y :: ys) (v :: vs) (.str (ST x)) (l.contains x)) e
      (fun y e r1 => map_some (P := fun l => Seek h (.str y :: ys) (v :: vs) (.str (ST x)) (l.contains x)) e fun l e => match strs_of x e r2 with
        | ⟨a,b⟩ => ⟨rds_cons (rd_str r1) a,(any_cons (y := .str y) (x := .str (ST x)) (p := y == x) (ST_eq y x) b).trans (by rw [List.contains_cons,Bool.beq_comm (a := y)])⟩) r1
theorem ints_of (x : Int) {h : Heap} : ∀ {ys : List PV} {vs : List Value} {l : List Int},ints? ys = some l → Reps μ h ys vs → Seek h ys vs (.int x) (l.contains x)
  | [],vs,l,e,q => q.nilE (P := fun vs => Seek h [] vs (.int x) (l.contains x)) (just_some (P := fun l => Seek h [] [] (.int x) (l.contains x)) e ⟨rds_nil,rfl⟩)
  | y :: ys,vs,l,e,q => q.consE (P := fun vs => Seek h (y :: ys) vs (.int x) (l.contains x)) fun v vs r1 r2 => asI_some (P := fun y => Rep μ h y v → Seek h (y :: ys) (v :: vs) (.int x) (l.contains x)) e
      (fun y e r1 => map_some (P := fun l => Seek h (.int y :: ys) (v :: vs) (.int x) (l.contains x)) e fun l e => match ints_of x e r2 with
        | ⟨a,b⟩ => ⟨rds_cons (rd_int r1) a,(any_cons (y := .int y) (x := .int x) (p := y == x) rfl b).trans (by rw [List.contains_cons,Bool.beq_comm (a := y)])⟩) r1
structure MemB (C : Ctx) (A : Around) (s : Shared) (r : Bool) (va vb : Value) : Prop where
  mem : ∀ {E} {Q : Value → Shared → Prop},Q (.bool r) s → wpAny (model C.prog C.w) A (compareOp .In va vb) Q E s
  no : ∀ {E} {Q : Value → Shared → Prop},Q (.bool (!r)) s → wpAny (model C.prog C.w) A (compareOp .NotIn va vb) Q E s
theorem mem_chars {x : List Nat} {y : List Nat} {t u r} (e : (match x with | [c] => some (y.contains c) | _ => none) = some r) : MemB C A s r (.str (ST x) t) (.str (ST y) u) :=
  match x,e with
  | [c],e => by
    have e : decide (c ∈ y) = r := just_some e (by rw [List.contains_eq_mem])
    exact ⟨fun q => in_str (by rw [StrLaws.found_one]; rw [← e] at q; exact q),fun q => notIn_str (by rw [StrLaws.found_one]; rw [← e] at q; exact q)⟩
theorem memBoth (ra : Rep μ s.heap a va) (rb : Rep μ s.heap b vb) {r : Bool} (e : memV a b = some r) (hu : A.units + 10 < cLine) : MemB C A s r va vb := by
  cases b with
  | str y => exact rb.strE (P := MemB C A s r va) fun u Y Y => asS_rep (P := fun va => MemB C A s r va (.str (ST y) u)) e ra fun x t Y Y e => mem_chars e
  | tup ys => exact rb.tupE (P := MemB C A s r va) fun k vs n e2 Y Y r2 => asS_rep (P := fun va => MemB C A s r va (.ref k)) e ra fun x t Y hx e =>
      map_some (P := fun r => MemB C A s r _ _) e fun l e1 => match strs_of x e1 r2 with
        | ⟨.mk a1 a2 a4,a3⟩ => ⟨fun q => in_tuple_reads (Reads.tuple e2 rfl rfl a1) (Reads.str _ t) a2 (strOk_of hx) (by lia) (by rw [a3]; exact q),fun q => notIn_tuple_reads (Reads.tuple e2 rfl rfl a1) (Reads.str _ t) a2 (strOk_of hx) (by lia) (by rw [a3]; exact q)⟩
  | lst ys => exact rb.lstE (P := MemB C A s r va) fun k vs n e2 Y Y r2 => asI_rep (P := fun va => MemB C A s r va (.ref k)) e ra fun x t e =>
      map_some (P := fun r => MemB C A s r _ _) e fun l e1 => match ints_of x e1 r2 with
        | ⟨.mk a1 a2 a4,a3⟩ => ⟨fun q => in_list_reads (Reads.list e2 rfl rfl a1) (Reads.int _ t) a2 rfl (by lia) (by rw [a3]; exact q),fun q => notIn_list_reads (Reads.list e2 rfl rfl a1) (Reads.int _ t) a2 rfl (by lia) (by rw [a3]; exact q)⟩
  | _ => fail "=e"
theorem none_b {P : Bool → Prop} (ra : Rep μ s.heap a va) (q : P a.isNone) : P (va == .none) := by
  cases a with
  | none => exact ra.noneE (P := fun va => P (va == .none)) q
  | bool => exact ra.boolE (P := fun va => P (va == .none)) q
  | int => exact ra.intE (P := fun va => P (va == .none)) fun Y => q
  | str => exact ra.strE (P := fun va => P (va == .none)) fun Y Y Y => q
  | tup => exact ra.tupE (P := fun va => P (va == .none)) fun Y Y Y Y Y Y Y => q
  | lst => exact ra.lstE (P := fun va => P (va == .none)) fun Y Y Y Y Y Y Y => q
  | ref => exact ra.refE (P := fun va => P (va == .none)) fun Y Y Y => q
theorem ints_b {P : Value → Value → Prop} {f : Int → Int → Bool} {r : Bool} (ra : Rep μ s.heap a va) (rb : Rep μ s.heap b vb) (e : (a.asI fun x => b.asI fun y => some (f x y)) = some r) (k : ∀ x y t u,f x y = r → P (.int x t) (.int y u)) : P va vb :=
  asI_rep (P := fun va => P va vb) e ra fun x t e => asI_rep (P := fun vb => P (.int x t) vb) e rb fun y u e => k x y t u (just_some (P := fun r => f x y = r) e rfl)
theorem cmp_ok (hs : St C μ H s.heap) (ra : Rep μ s.heap a va) (rb : Rep μ s.heap b vb) {op : COp} {r : Bool} (e : acmp op H a b = some r) (hu : A.units + 10 < cLine)
    {Q : Value → Shared → Prop} (q : Q (.bool r) s) : wpAny (model C.prog C.w) A (compareOp (cop op) va vb) Q E s := by
  cases op with
  | eq => exact (eqBoth hs ra rb e (by lia)).eq q
  | ne => exact map_some (P := fun r => Q (.bool r) s → wpAny _ _ _ Q E s) e (fun r e q => (eqBoth hs ra rb e (by lia)).ne q) q
  | lt => exact ints_b (P := fun va vb => wpAny _ _ (compareOp .Lt va vb) Q E s) ra rb e fun x y t u z => PyProof.Rows.lt_int (by rw [z]; exact q)
  | le => exact ints_b (P := fun va vb => wpAny _ _ (compareOp .LtE va vb) Q E s) ra rb e fun x y t u z => le_int (by rw [z]; exact q)
  | gt => exact ints_b (P := fun va vb => wpAny _ _ (compareOp .Gt va vb) Q E s) ra rb e fun x y t u z => PyProof.Rows.gt_int (by rw [z]; exact q)
  | ge => exact ints_b (P := fun va vb => wpAny _ _ (compareOp .GtE va vb) Q E s) ra rb e fun x y t u z => ge_int (by rw [z]; exact q)
  | is => exact asN_some (P := fun b => Rep μ s.heap b vb → wpAny _ _ (compareOp .Is va vb) Q E s) e (fun e rb => rb.noneE (P := fun vb => wpAny _ _ (compareOp .Is va vb) Q E s) (is_none (none_b (P := fun b => Q (.bool b) s) ra (just_some (P := fun r => Q (.bool r) s → Q (.bool a.isNone) s) e id q)))) rb
  | isnot => exact asN_some (P := fun b => Rep μ s.heap b vb → wpAny _ _ (compareOp .IsNot va vb) Q E s) e (fun e rb => rb.noneE (P := fun vb => wpAny _ _ (compareOp .IsNot va vb) Q E s) (isNot_none (none_b (P := fun b => Q (.bool !b) s) ra (just_some (P := fun r => Q (.bool r) s → Q (.bool !a.isNone) s) e id q)))) rb
  | mem => exact (memBoth ra rb e hu).mem q
  | nomem => exact map_some (P := fun r => Q (.bool r) s → wpAny _ _ _ Q E s) e (fun r e q => (memBoth ra rb e hu).no q) q
end
end
section
open PySem PySem.W PyProof.Rows PySem.Calls PySem.SeqAt
set_option maxRecDepth 100000
theorem noFill_tuple_mul : fillsNumberSlot (.type "tuple") "mul" = pure false :=
  PySem.fillsNumberSlot_seq (id := "tuple.__mul__") (r := some (.builtin "tuple.__rmul__")) F.slot_tuple_mul.lookup (by decide +kernel) F.slot_tuple_rmul.lookup (by decide +kernel)
theorem repeat_tuple : seqRepeat? (.type "tuple") = pure (some (.builtin "tuple.__mul__")) := by
  unfold seqRepeat?
  rw [PySem.seqSlot_of (T := "tuple") (name := "__mul__") (id := "tuple.__mul__") F.slot_tuple_mul.lookup (by decide +kernel),PySem.seqSlot_of (T := "tuple") (name := "__rmul__") (id := "tuple.__rmul__") F.slot_tuple_rmul.lookup (by decide +kernel)]
  rfl
theorem int_rmul_tuple (a : Int) (t : Tok) (l : Addr) (items : Array Value) (n : Nat) :
    Meets (Builtin.«int.__rmul__» ⟨[.int a t,.ref l],[]⟩) (fun Y R s => s.heap.get? l = some (tupObj items n) ∧ R (.ok (.ret Value.notImplemented)) s) :=
  .of_wp fun prog w A R s h => by obtain ⟨hp,g,d,tk,os⟩ := s; obtain ⟨hl,h⟩ := h; wp_walk; exact ⟨_,rfl,h⟩
noncomputable abbrev foldRep (items : Array Value) (n : Nat) : Array Value := (List.replicate n items).foldl (fun x1 x2 => x1 ++ x2) #[]
theorem tuple_mul_one (l : Addr) (items : Array Value) (n : Nat) (x : Int) (u : Tok) (h1 : -2 ^ 63 ≤ x) (h2 : x < 2 ^ 63) (h3 : (items.isEmpty || x == 1) = true) :
    Meets (Builtin.«tuple.__mul__» ⟨[.ref l,.int x u],[]⟩) (fun Y R s => s.heap.get? l = some (tupObj items n) ∧ R (.ok (.ret (Value.ref l))) s) :=
  .of_wp fun prog w A R s h => by
    obtain ⟨hp,g,d,tk,os⟩ := s; obtain ⟨hl,h⟩ := h; wp_walk
    refine wpAny_ite_false (by simp; fail "l") ?_
    wp_walk
    exact ⟨_,rfl,h⟩
theorem tuple_mul_nil (l : Addr) (items : Array Value) (n : Nat) (x : Int) (u : Tok) (h1 : -2 ^ 63 ≤ x) (h2 : x < 2 ^ 63) (h3 : ¬ (items.isEmpty || x == 1) = true) (h4 : (decide (x ≤ 0) || items.isEmpty) = true) :
    Meets (Builtin.«tuple.__mul__» ⟨[.ref l,.int x u],[]⟩) (fun Y R s => s.heap.get? l = some (tupObj items n) ∧ R (.ok (.ret (Value.ref s.heap.objs.size))) { s with heap := s.heap.push (tupObj #[] 0) }) :=
  .of_wp fun prog w A R s h => by
    obtain ⟨hp,g,d,tk,os⟩ := s; obtain ⟨hl,h⟩ := h; wp_walk
    refine wpAny_ite_false (by simp; fail "l") ?_
    wp_walk
    exact ⟨_,rfl,h⟩
theorem tuple_mul_more (l : Addr) (items : Array Value) (n : Nat) (x : Int) (u : Tok) (h1 : -2 ^ 63 ≤ x) (h2 : x < 2 ^ 63) (h3 : ¬ (items.isEmpty || x == 1) = true) (h4 : ¬ (decide (x ≤ 0) || items.isEmpty) = true)
    (h5 : ¬ items.size * x > (2 ^ 63 - 1) / 8) (h6 : ¬ Builtin.Tuple.tupleTooMany (items.size * x) = true) (h7 : (foldRep items x.toNat).size ≤ sizeLine) :
    Meets (Builtin.«tuple.__mul__» ⟨[.ref l,.int x u],[]⟩) (fun Y R s => s.heap.get? l = some (tupObj items n) ∧ R (.ok (.ret (Value.ref s.heap.objs.size))) { s with heap := s.heap.push (tupObj (foldRep items x.toNat) 0) }) :=
  .of_wp fun prog w A R s h => by
    obtain ⟨hp,g,d,tk,os⟩ := s; obtain ⟨hl,h⟩ := h; wp_walk
    refine wpAny_ite_false (by simp; fail "l") ?_
    wp_walk
    refine wpAny_ite_false (decide_eq_false h5) ?_
    wp_walk
    exact ⟨_,rfl,h⟩
noncomputable abbrev slObj (a b : Value) : Obj := { cls := .type "slice",data := .fields #[a,b,.none] }
theorem slicePart {prog : Program} {w : World} {A : Around} {E : Value → Shared → Prop} {s : Shared} {v : Value} {i : Option Int} {Q : Option Int → Shared → Prop} (p : IsPart v i) (h : Q i s) :
    wpAny (model prog w) A (Builtin.Slice.slicePartIndex v) Q E s := by
  unfold Builtin.Slice.slicePartIndex
  cases p with
  | none => exact wpAny_pure h
  | int i t =>
    refine wpAny_bind (wpAny_specialOf (typeIs_int s i t) F.slot_int_index.lookup ?_)
    exact wpAny_bind (wpAny_pure (wpAny_pure h))
theorem tuple_slice (l sl : Addr) (items : Array Value) (n : Nat) (va vb : Value) (lo hi : Option Int) (pa : IsPart va lo) (pb : IsPart vb hi)
    (hz : ((List.range (Builtin.Slice.slicePlaces (Builtin.Slice.sliceAdjust lo hi 1 items.size).1 (Builtin.Slice.sliceAdjust lo hi 1 items.size).2 1)).filterMap fun (k : Nat) => items[((Builtin.Slice.sliceAdjust lo hi 1 items.size).1 + (k : Int) * 1).toNat]?).toArray.size ≤ sizeLine) :
    Meets (Builtin.«tuple.__getitem__» ⟨[.ref l,.ref sl],[]⟩) (fun Y R s => s.heap.get? l = some (tupObj items n) ∧ s.heap.get? sl = some (slObj va vb) ∧
      (if (Builtin.Slice.sliceAdjust lo hi 1 items.size).1 = 0 ∧ Builtin.Slice.slicePlaces (Builtin.Slice.sliceAdjust lo hi 1 items.size).1 (Builtin.Slice.sliceAdjust lo hi 1 items.size).2 1 = items.size then R (.ok (.ret (Value.ref l))) s else
        R (.ok (.ret (.ref s.heap.objs.size))) { s with heap := s.heap.push (tupObj ((List.range (Builtin.Slice.slicePlaces (Builtin.Slice.sliceAdjust lo hi 1 items.size).1 (Builtin.Slice.sliceAdjust lo hi 1 items.size).2 1)).filterMap fun (k : Nat) => items[((Builtin.Slice.sliceAdjust lo hi 1 items.size).1 + (k : Int) * 1).toNat]?).toArray 0) })) :=
  .of_wp fun prog w A R s h => by
    obtain ⟨hp,g,d,tk,os⟩ := s; obtain ⟨hl,hs,h⟩ := h
    wp_walk
    refine slicePart (v := va) pa ?_
    refine wpAny_bind (slicePart (v := vb) pb ?_)
    refine wpAny_bind (wpAny_pure ?_)
    refine wpAny_pure (a := ((Builtin.Slice.sliceAdjust lo hi 1 items.size).1,1,Builtin.Slice.slicePlaces (Builtin.Slice.sliceAdjust lo hi 1 items.size).1 (Builtin.Slice.sliceAdjust lo hi 1 items.size).2 1)) ?_
    dsimp only
    split at h
    · rename_i q
      rw [if_pos (by rw [q.2,q.1]; simp)]
      wp_walk
      exact ⟨_,rfl,h⟩
    · rename_i q
      rw [if_neg (by simp only [Bool.and_eq_true,beq_iff_eq]; exact fun z => q ⟨z.1.1,z.2⟩)]
      wp_walk
      refine wpAny_ite_false (decide_eq_false (Nat.not_lt.mpr hz)) ?_
      wp_walk
      exact ⟨_,rfl,h⟩
end
section
open PySem PySem.W PyProof.Rows PySem.Calls PySem.SeqAt
set_option maxRecDepth 100000
theorem rep_succ {α : Type} (xs : List α) (n : Nat) : rep xs (n + 1) = xs ++ rep xs n := rfl
theorem foldRep_toList (items : Array Value) (n : Nat) : (foldRep items n).toList = rep items.toList n := by
  have gen : ∀ (n : Nat) (a : Array Value),((List.replicate n items).foldl (fun x1 x2 => x1 ++ x2) a).toList = a.toList ++ rep items.toList n := by
    intro n
    induction n with
    | zero => intro a; simp [rep]
    | succ n ih => intro a; rw [List.replicate_succ,List.foldl_cons,ih,Array.toList_append,rep_succ,List.append_assoc]
  simpa using gen n #[]
theorem rep_length {α : Type} (xs : List α) : ∀ n,(rep xs n).length = xs.length * n
  | 0 => rfl
  | n + 1 => by rw [rep_succ,List.length_append,rep_length xs n,Nat.mul_succ,Nat.add_comm]
theorem Reps.rep {μ h xs vs} (r : Reps μ h xs vs) : ∀ n,Reps μ h (Mine.Internal.rep xs n) (Mine.Internal.rep vs n)
  | 0 => Reps.nil
  | n + 1 => by rw [rep_succ,rep_succ]; exact r.append (r.rep n)
section
variable {C : Ctx} {A : Around} {μ : Mu} {H : AH} {s : Shared} {a b r : PV} {va vb : Value}
theorem add_tuple_l {E : Value → Shared → Prop} {t b : Addr} {items items2 : Array Value} {n n2 : Nat} {Q : Value → Shared → Prop} (ht : s.heap.get? t = some (tupObj items n)) (hb : s.heap.get? b = some (tupObj items2 n2)) (h1 : items.isEmpty = true)
    (h : Q (.ref b) s) : wpAny (model C.prog C.w) A (binaryOp .Add (.ref t) (.ref b)) Q E s :=
  concat_meets ⟨_,ht,rfl⟩ ⟨_,hb,rfl⟩ noFill_tuple_add seq_tuple_add F.slot_tuple_add F.entry_tuple_add (F.args_tuple_add_2 _ _) (AutoSeq1.tuple___add___tuple_tuple_0 t items n b items2 n2 h1) ⟨ht,hb,h⟩
theorem add_tuple_r {E : Value → Shared → Prop} {t b : Addr} {items items2 : Array Value} {n n2 : Nat} {Q : Value → Shared → Prop} (ht : s.heap.get? t = some (tupObj items n)) (hb : s.heap.get? b = some (tupObj items2 n2)) (h1 : ¬ items.isEmpty = true) (h2 : items2.isEmpty = true)
    (h : Q (.ref t) s) : wpAny (model C.prog C.w) A (binaryOp .Add (.ref t) (.ref b)) Q E s :=
  concat_meets ⟨_,ht,rfl⟩ ⟨_,hb,rfl⟩ noFill_tuple_add seq_tuple_add F.slot_tuple_add F.entry_tuple_add (F.args_tuple_add_2 _ _) (AutoSeq1.tuple___add___tuple_tuple_1 t items n b items2 n2 h1 h2) ⟨ht,hb,h⟩
theorem mul_tuple {E : Value → Shared → Prop} {l : Addr} {items : Array Value} {k : Nat} {x : Int} {u : Tok} {Q : Value → Shared → Prop} (hl : s.heap.get? l = some (tupObj items k))
    (h : wpAny (model C.prog C.w) A (call (.builtin "tuple.__mul__") [.ref l,.int x u]) Q E s) : wpAny (model C.prog C.w) A (binaryOp .Mult (.ref l) (.int x u)) Q E s :=
  wpAny_binaryOp_repeat_ref (T := "tuple") (U := "int") (by decide) ⟨_,hl,rfl⟩ (fun s' => typeIs_int s' x u) noFill_tuple_mul F.fills_int_mul F.slot_int_rmul repeat_tuple F.slot_int_index.lookup
    (call_meets F.slot_int_rmul (typeIs_int s x u) F.entry_int_rmul (F.args_int_rmul_2 _ _) (int_rmul_tuple x u l items k) ⟨hl,rfl,⟨_,hl,rfl⟩,h⟩)
theorem mul_list {E : Value → Shared → Prop} {l : Addr} {items : Array Value} {k : Nat} {x : Int} {u : Tok} {Q : Value → Shared → Prop} (hl : s.heap.get? l = some (lstObj items k)) (h0 : 0 ≤ x) (h1 : x < 2 ^ 60) (hsz : items.size * x.toNat ≤ lim)
    (h : Q (.ref s.heap.objs.size) { s with heap := s.heap.push (lstObj (foldRep items (if items.isEmpty = true then 0 else x.toNat)) 0) }) : wpAny (model C.prog C.w) A (binaryOp .Mult (.ref l) (.int x u)) Q E s :=
  wpAny_binaryOp_repeat_ref (T := "list") (U := "int") (by decide) ⟨_,hl,rfl⟩ (fun s' => typeIs_int s' x u) noFill_list_mul F.fills_int_mul F.slot_int_rmul repeat_list F.slot_int_index.lookup
    (call_meets F.slot_int_rmul (typeIs_int s x u) F.entry_int_rmul (F.args_int_rmul_2 _ _) (int___rmul___int_list x u l items k)
      ⟨hl,rfl,⟨_,hl,rfl⟩,call_meets F.slot_list_mul ⟨_,hl,rfl⟩ F.entry_list_mul (F.args_list_mul_2 _ _)
        (AutoListH.list___mul___list_int_3 l items k x u (by simp [Builtin.List.listFitsIndex]; fail "l") (by unfold lim at hsz; fail "l") (by unfold lim at hsz; simp [Builtin.List.listTooLong,sizeLine]; fail "l")) ⟨hl,h⟩⟩)
theorem rep_empty {α : Type} : ∀ n,rep ([] : List α) n = []
  | 0 => rfl
  | n + 1 => by rw [rep_succ,rep_empty n]; rfl
theorem rep_one {α : Type} (xs : List α) : rep xs 1 = xs := by simp [rep]
theorem ST_append (x y : List Nat) : (ST x ++ ST y : Str) = ST (x ++ y) := by
  show (⟨x.toArray ++ y.toArray⟩ : Str) = _
  simp
theorem ST_length (x : List Nat) : (ST x).length = x.length := by show x.toArray.size = _; simp
theorem intBits_le {y : Int} (h : y.natAbs < 1152921504606846976) : Builtin.Int.intBits y ≤ 64 := by
  unfold Builtin.Int.intBits
  split
  · exact of_decide_eq_true rfl
  · rename_i q
    have := (Nat.log2_lt (n := y.natAbs) (k := 60) (fun z => q (beq_iff_eq.mpr (Int.natAbs_eq_zero.mp z)))).mpr h
    fail "l"
theorem at_lim {a b : List PV} {vs ws : Array Value} (r1 : Reps μ s.heap a vs.toList) (r2 : Reps μ s.heap b ws.toList) (h : a.length + b.length ≤ lim) : vs.size + ws.size ≤ sizeLine := by
  rw [sz r1,sz r2]; exact Nat.le_trans h lim_sizeLine
theorem cat_len {α : Type} {a b : List α} {n : Nat} (h : a.length + b.length ≤ n) : (a ++ b).length ≤ n := List.length_append ▸ h
theorem cat_reps {h : Heap} {a b : List PV} {vs ws : Array Value} (r1 : Reps μ h a vs.toList) (r2 : Reps μ h b ws.toList) : Reps μ h (a ++ b) (vs ++ ws).toList := by rw [Array.toList_append]; exact r1.append r2
theorem add_lists (hs : St C μ H s.heap) {x y : List PV} {l m : Addr} {vs ws : Array Value} {n k : Nat} (e1 : s.heap.get? l = some (lstObj vs n)) (e2 : s.heap.get? m = some (lstObj ws k)) (r1 : Reps μ s.heap x vs.toList) (r2 : Reps μ s.heap y ws.toList) (hm : x.length + y.length ≤ lim) :
    Ev C A (binaryOp .Add (.ref l) (.ref m)) μ H s (.lst (x ++ y)) H :=
  .alloc hs (lstObj (vs ++ ws) 0) (fun Q k => PySem.P.add_list e1 e2 (k s.toks) (at_lim r1 r2 hm)) (rep_lst_newA hs (cat_len hm) (cat_reps r1 r2))
theorem no_items {h : Heap} {x : List PV} {vs : Array Value} (r1 : Reps μ h x vs.toList) (h1 : vs.isEmpty = true) : x = [] := List.length_eq_zero_iff.mp ((sz r1).symm.trans (Array.isEmpty_iff_size_eq_zero.mp h1))
theorem add_tuples (hs : St C μ H s.heap) {x y : List PV} {l m : Addr} {vs ws : Array Value} {n k : Nat} (e1 : s.heap.get? l = some (tupObj vs n)) (e2 : s.heap.get? m = some (tupObj ws k)) (r1 : Reps μ s.heap x vs.toList) (r2 : Reps μ s.heap y ws.toList) (hm : x.length + y.length ≤ lim)
    (ra : Rep μ s.heap (.tup x) (.ref l)) (rb : Rep μ s.heap (.tup y) (.ref m)) : Ev C A (binaryOp .Add (.ref l) (.ref m)) μ H s (.tup (x ++ y)) H := by
  by_cases h1 : vs.isEmpty = true
  · rw [no_items r1 h1]
    exact .same hs fun Q k => add_tuple_l e1 e2 h1 (k _ s.toks rb)
  · by_cases h2 : ws.isEmpty = true
    · rw [no_items r2 h2,List.append_nil]
      exact .same hs fun Q k => add_tuple_r e1 e2 h1 h2 (k _ s.toks ra)
    · exact .alloc hs (tupObj (vs ++ ws) 0) (fun Q k => PySem.P.add_tuple e1 e2 h1 h2 (k s.toks) (at_lim r1 r2 hm)) (rep_tup_newA hs (cat_len hm) (cat_reps r1 r2))
theorem add_strs (hs : St C μ H s.heap) {x y : List Nat} {t u} (c1 : ∀ c ∈ x,c < 1114112) (c2 : ∀ c ∈ y,c < 1114112) (hm : x.length + y.length ≤ lim) : Ev C A (binaryOp .Add (.str (ST x) t) (.str (ST y) u)) μ H s (.str (x ++ y)) H :=
  .same hs fun Q k => PyProof.Rows.add_str (fun t' tk => k _ _ (by rw [ST_append]; exact rep_str (cat_len hm) fun c hc => (List.mem_append.mp hc).elim (c1 c) (c2 c))) (by rw [ST_length,ST_length]; exact Nat.le_trans hm lim_sizeLine)
theorem add_ok (hs : St C μ H s.heap) (ra : Rep μ s.heap a va) (rb : Rep μ s.heap b vb) (e : addV H a b = some r) : Ev C A (binaryOp .Add va vb) μ H s r H := by
  cases b with
  | int y => exact rb.intE (P := fun vb => Ev C A (binaryOp .Add va vb) μ H s r H) fun u => asI_rep (P := fun va => Ev C A (binaryOp .Add va (.int y u)) μ H s r H) e ra fun x t e =>
      Ev.just e (.same hs fun Q k => PyProof.Rows.add_int (k _ _ rep_int))
  | str y => exact rb.strE (P := fun vb => Ev C A (binaryOp .Add va vb) μ H s r H) fun u Y c2 => asS_rep (P := fun va => Ev C A (binaryOp .Add va (.str (ST y) u)) μ H s r H) e ra fun x t Y c1 e =>
      chk_some e fun hm e => Ev.just e (add_strs hs c1 c2 hm)
  | lst y =>
    refine rb.lstE (P := fun vb => Ev C A (binaryOp .Add va vb) μ H s r H) fun m ws k e2 Y Y r2 => ?_
    cases a with
    | lst x => exact ra.lstE (P := fun va => Ev C A (binaryOp .Add va (.ref m)) μ H s r H) fun l vs n e1 Y Y r1 => chk_some e fun hm e => Ev.just e (add_lists hs e1 e2 r1 r2 hm)
    | ref i => exact getL_some e fun x hx e => repL (P := fun va => Ev C A (binaryOp .Add va (.ref m)) μ H s r H) hs.sim ra hx fun l vs n e1 Y r1 Y => chk_some e fun hm e => Ev.just e (add_lists hs e1 e2 r1 r2 hm)
    | _ => fail "=e"
  | tup y => exact asT_some (P := fun a => Rep μ s.heap a va → Ev C A (binaryOp .Add va vb) μ H s r H) e (fun x e ra => chk_some e fun hm e => just_some (P := fun r => Ev C A _ μ H s r H) e
      (ra.tupE (P := fun va => Rep μ s.heap (.tup x) va → Ev C A (binaryOp .Add va vb) μ H s _ H) (fun l vs n e1 Y Y r1 ra => rb.tupE (P := fun vb => Rep μ s.heap (.tup y) vb → Ev C A (binaryOp .Add _ vb) μ H s _ H) (fun m ws k e2 Y Y r2 rb => add_tuples hs e1 e2 r1 r2 hm ra rb) rb) ra)) ra
  | _ => fail "=e"
theorem fold_key (vs : Array Value) (n : Nat) : foldRep vs (if vs.isEmpty = true then 0 else n) = foldRep vs n := by
  split
  · rename_i q
    cases Array.isEmpty_iff.mp q
    apply Array.ext'
    rw [foldRep_toList,foldRep_toList,rep_empty,rep_empty]
  · rfl
theorem lim60 {n : Int} (h : n ≤ lim) : n < 2 ^ 60 := Int.lt_of_le_of_lt h (by decide)
theorem mul_lists (hs : St C μ H s.heap) {x : List PV} {n : Int} {l : Addr} {vs : Array Value} {k : Nat} {u} (e1 : s.heap.get? l = some (lstObj vs k)) (r1 : Reps μ s.heap x vs.toList) (hm : 0 ≤ n ∧ n ≤ lim ∧ x.length * n.toNat ≤ lim) :
    Ev C A (binaryOp .Mult (.ref l) (.int n u)) μ H s (.lst (rep x n.toNat)) H :=
  .alloc hs (lstObj (foldRep vs n.toNat) 0) (fun Q k => mul_list e1 hm.1 (lim60 hm.2.1) (by rw [sz r1]; exact hm.2.2) (by rw [fold_key]; exact k s.toks)) (rep_lst_newA hs (by rw [rep_length]; exact hm.2.2) (by rw [foldRep_toList]; exact r1.rep _))
theorem mul_tuples (hs : St C μ H s.heap) {x : List PV} {n : Int} {l : Addr} {vs : Array Value} {k : Nat} {u} (e1 : s.heap.get? l = some (tupObj vs k)) (r1 : Reps μ s.heap x vs.toList) (hm : 0 ≤ n ∧ n ≤ lim ∧ x.length * n.toNat ≤ lim) (ra : Rep μ s.heap (.tup x) (.ref l)) :
    Ev C A (binaryOp .Mult (.ref l) (.int n u)) μ H s (.tup (rep x n.toNat)) H := by
  have TI : s.TypeIs (.ref l) "tuple" := ⟨_,e1,rfl⟩
  have b1 : n < 2 ^ 60 := lim60 hm.2.1
  by_cases h3 : (vs.isEmpty || n == 1) = true
  · have same : rep x n.toNat = x := (Bool.or_eq_true_iff.mp h3).elim (fun q => by rw [no_items r1 q,rep_empty]) fun q => by rw [eq_of_beq q]; exact rep_one x
    rw [same]
    exact .same hs fun Q q => mul_tuple e1 (call_meets F.slot_tuple_mul TI F.entry_tuple_mul (F.args_tuple_mul_2 _ _) (tuple_mul_one l vs k n u (by fail "l") (by fail "l") h3) ⟨e1,q _ s.toks ra⟩)
  · by_cases h4 : (decide (n ≤ 0) || vs.isEmpty) = true
    · have nil : rep x n.toNat = [] := (Bool.or_eq_true_iff.mp h4).elim (fun q => by rw [show n.toNat = 0 by have := of_decide_eq_true q; fail "l"]; rfl) fun q => absurd (Bool.or_eq_true_iff.mpr (.inl q)) h3
      rw [nil]
      exact .alloc hs (tupObj #[] 0) (fun Q q => mul_tuple e1 (call_meets F.slot_tuple_mul TI F.entry_tuple_mul (F.args_tuple_mul_2 _ _) (tuple_mul_nil l vs k n u (by fail "l") (by fail "l") h3 h4) ⟨e1,q s.toks⟩)) (rep_tup_newA hs (Nat.zero_le _) Reps.nil)
    · have hm' : vs.size * n.toNat ≤ lim := by rw [sz r1]; exact hm.2.2
      have hz : (foldRep vs n.toNat).size ≤ sizeLine := by
        rw [← Array.length_toList,foldRep_toList,rep_length,Array.length_toList]; exact Nat.le_trans hm' lim_sizeLine
      have hmi : (vs.size : Int) * n ≤ lim := by
        have : (n.toNat : Int) = n := Int.toNat_of_nonneg hm.1
        rw [← this]; exact_mod_cast hm'
      refine .alloc hs (tupObj (foldRep vs n.toNat) 0) (fun Q q => mul_tuple e1 (call_meets F.slot_tuple_mul TI F.entry_tuple_mul (F.args_tuple_mul_2 _ _)
        (tuple_mul_more l vs k n u (by fail "l") (by fail "l") h3 h4 (Int.not_lt.mpr (Int.le_trans hmi (by decide))) ?_ hz) ⟨e1,q s.toks⟩))
        (rep_tup_newA hs (by rw [rep_length]; exact hm.2.2) (by rw [foldRep_toList]; exact r1.rep _))
      have : (lim : Int) ≤ sizeLine := by exact_mod_cast lim_sizeLine
      unfold Builtin.Tuple.tupleTooMany
      simp
      fail "l"
theorem mul_ok (hs : St C μ H s.heap) (ra : Rep μ s.heap a va) {n : Int} {u} (e : mulV a n = some r) : Ev C A (binaryOp .Mult va (.int n u)) μ H s r H := by
  cases a with
  | int x => exact ra.intE (P := fun va => Ev C A (binaryOp .Mult va _) μ H s r H) fun t => chk_some e fun hm e => Ev.just e (.same hs fun Q k => PyProof.Rows.mul_int (k _ _ rep_int) (IntMulOk.of_right (intBits_le hm)))
  | lst x => exact ra.lstE (P := fun va => Ev C A (binaryOp .Mult va _) μ H s r H) fun l vs k e1 Y Y r1 => chk_some e fun hm e => Ev.just e (mul_lists hs e1 r1 hm)
  | tup x => exact ra.tupE (P := fun va => Rep μ s.heap (.tup x) va → Ev C A (binaryOp .Mult va _) μ H s r H) (fun l vs k e1 Y Y r1 ra => chk_some e fun hm e => Ev.just e (mul_tuples hs e1 r1 hm ra)) ra
  | _ => fail "=e"
theorem ints_ok {f : Int → Int → Option PV} {t : Value → Value → Sem Value} (ra : Rep μ s.heap a va) (rb : Rep μ s.heap b vb) (e : (a.asI fun x => b.asI fun y => f x y) = some r) (k : ∀ x y v w,f x y = some r → Ev C A (t (.int x v) (.int y w)) μ H s r H) : Ev C A (t va vb) μ H s r H :=
  asI_rep (P := fun va => Ev C A (t va vb) μ H s r H) e ra fun x v e => asI_rep (P := fun vb => Ev C A (t (.int x v) vb) μ H s r H) e rb fun y w e => k x y v w e
theorem bin_ok (hs : St C μ H s.heap) (ra : Rep μ s.heap a va) (rb : Rep μ s.heap b vb) {op : BOp} (e : abin op H a b = some r) : Ev C A (binaryOp (bop op) va vb) μ H s r H := by
  cases op with
  | add => exact add_ok hs ra rb e
  | sub => exact ints_ok (t := binaryOp .Sub) ra rb e fun x y v w e => Ev.just e (.same hs fun Q k => PyProof.Rows.sub_int (k _ _ rep_int))
  | mul => exact asI_rep (P := fun vb => Ev C A (binaryOp .Mult va vb) μ H s r H) e rb fun n u e => mul_ok hs ra e
  | div => exact ints_ok (t := binaryOp .FloorDiv) ra rb e fun x y v w e => chk_some e fun hm e => Ev.just e (.same hs fun Q k => PyProof.Rows.floordiv_int hm.1 (k _ _ rep_int) (.inl (PyProof.noPylong_small hm.2)))
  | mod => exact ints_ok (t := binaryOp .Mod) ra rb e fun x y v w e => chk_some e fun hm e => Ev.just e (.same hs fun Q k => PyProof.Rows.mod_int' hm (k _ _ rep_int))
end
end
section
open PySem PySem.W PyProof.Rows PySem.Calls PySem.SeqAt
set_option maxRecDepth 100000
section
variable {C : Ctx} {A : Around} {μ : Mu} {H : AH} {s : Shared} {a b r : PV} {va vb : Value}
structure Seat (n : Nat) (i : Int) (j : Nat) : Prop where
  ix : seqIndex? i n = some j
  lo : -(2 ^ 63) ≤ i
  hi : i < 2 ^ 63
  pos : 0 ≤ i → j = i.toNat
  neg : i < 0 → j = (i + n).toNat ∧ -(n : Int) ≤ i
theorem at_seq {α : Type} {P : Prop} {xs : List α} {i : Int} {x : α} (e : at? xs i = some x) (hl : xs.length ≤ lim) (k : ∀ j,xs[j]? = some x → Seat xs.length i j → P) : P := by
  have hlim : lim < 2 ^ 40 := by decide
  unfold at? at e
  split at e
  · rename_i h0
    have hlt := (List.getElem?_eq_some_iff.mp e).1
    refine k _ e ⟨?_,by fail "l",by fail "l",fun Y => rfl,fun q => absurd h0 (Int.not_le.mpr q)⟩
    unfold seqIndex?
    rw [if_neg (Int.not_lt.mpr h0),if_pos (Bool.and_eq_true_iff.mpr ⟨decide_eq_true h0,decide_eq_true (by fail "l")⟩)]
  · split at e
    · rename_i h0 h1
      have hlt := (List.getElem?_eq_some_iff.mp e).1
      refine k _ e ⟨?_,by fail "l",by fail "l",fun q => absurd q h0,fun Y => ⟨rfl,by fail "l"⟩⟩
      unfold seqIndex?
      rw [if_pos (Int.not_le.mp h0),if_pos (Bool.and_eq_true_iff.mpr ⟨decide_eq_true h1,decide_eq_true (by fail "l")⟩)]
    · fail "=e"
structure ItemOk (C : Ctx) (A : Around) (μ : Mu) (H : AH) (s : Shared) (r : PV) (vb va : Value) : Prop where
  mk' ::
  ev : Ev C A (getItem va vb) μ H s r H
  sl : ∃ T id,s.TypeIs va T ∧ typeLookup (.type T) "__getitem__" = pure (some (.builtin id))
theorem item_list (hs : St C μ H s.heap) {xs : List PV} {i : Int} {u} {l : Addr} {vs : Array Value} {n : Nat} (e1 : s.heap.get? l = some (lstObj vs n)) (l1 : xs.length ≤ lim) (r1 : Reps μ s.heap xs vs.toList) (e : at? xs i = some r) : ItemOk C A μ H s r (.int i u) (.ref l) := by
  refine at_seq e l1 fun j h2 S => ?_
  obtain ⟨v,g1,g2⟩ := r1.get h2
  have g1' : vs[j]? = some v := by rw [← Array.getElem?_toList]; exact g1
  refine ⟨.same hs fun Q k => ?_,_,_,(isList_of e1).typeIs,slot_list_getitem.lookup⟩
  rcases Int.lt_or_le i 0 with q | q
  · have q2 := S.neg q
    exact wpAny_getItem_list_neg (isList_of e1) q (by rw [sz r1]; exact q2.2) S.lo (by rw [sz r1,← q2.1]; exact g1') (k v s.toks g2)
  · exact wpAny_getItem_list (isList_of e1) q S.hi (S.pos q ▸ g1') (k v s.toks g2)
theorem item_tuple (hs : St C μ H s.heap) {xs : List PV} {i : Int} {u} {l : Addr} {vs : Array Value} {n : Nat} (e1 : s.heap.get? l = some (tupObj vs n)) (l1 : xs.length ≤ lim) (r1 : Reps μ s.heap xs vs.toList) (e : at? xs i = some r) : ItemOk C A μ H s r (.int i u) (.ref l) := by
  refine at_seq e l1 fun j h2 S => ?_
  obtain ⟨v,g1,g2⟩ := r1.get h2
  exact ⟨.same hs fun Q k => PyProof.Rows.getItem_tuple (isTup_of e1) S.lo S.hi (by rw [sz r1]; exact S.ix) (by rw [← Array.getElem?_toList]; exact g1) (k v s.toks g2),_,_,(isTup_of e1).typeIs,slot_tuple_getitem.lookup⟩
theorem item_str (hs : St C μ H s.heap) {xs : List Nat} {i : Int} {c u t} (l1 : xs.length ≤ lim) (c1 : ∀ c ∈ xs,c < 1114112) (e : at? xs i = some c) : ItemOk C A μ H s (.str [c]) (.int i u) (.str (ST xs) t) := by
  refine at_seq e l1 fun j h2 S => ?_
  refine ⟨.same hs fun Q k => PyProof.Rows.getItem_str (Bool.or_eq_false_iff.mpr ⟨decide_eq_false (Int.not_lt.mpr S.lo),decide_eq_false (Int.not_le.mpr S.hi)⟩) (c := c) ?_ (k _ _ (rep_str (of_decide_eq_true rfl) fun d hd => ?_)),_,_,typeIs_str s (ST xs) t,F.slot_str_getitem.lookup⟩
  · rw [ST_length,S.ix]; simpa using h2
  · rw [List.mem_singleton.mp hd]; exact c1 _ (List.mem_of_getElem? h2)
theorem repD {t : Tab} {P : Value → Prop} {h : Heap} {i : Nat} {v : Value} {es} (S : Sim t μ H h) (r : Rep μ h (.ref i) v) (e : H[i]? = some (.dict es))
    (k : ∀ x,ObjRep t μ h x x (.dict es) → μ.os[i]? = some (x,x) → P (.ref x)) : P v :=
  r.refE fun x c e' => match c,S.obj i x c _ e' e,e' with
    | _,⟨rfl,q⟩,e' => k x ⟨rfl,q⟩ e'
theorem idx_ok (hs : St C μ H s.heap) (ra : Rep μ s.heap a va) (rb : Rep μ s.heap b vb) (e : aidx H a b = some r) : ItemOk C A μ H s r vb va := by
  refine asI_rep (P := fun vb => ItemOk C A μ H s r vb va) e rb fun i u e => ?_
  cases a with
  | tup xs => exact ra.tupE (P := ItemOk C A μ H s r _) fun l vs n e1 Y l1 r1 => item_tuple hs e1 l1 r1 e
  | lst xs => exact ra.lstE (P := ItemOk C A μ H s r _) fun l vs n e1 Y l1 r1 => item_list hs e1 l1 r1 e
  | str xs => exact ra.strE (P := ItemOk C A μ H s r _) fun t l1 c1 => map_some (P := fun r => ItemOk C A μ H s r _ _) e fun c e => item_str hs l1 c1 e
  | ref q =>
    refine bd_some e fun o hx e => ?_
    cases o with
    | list xs => exact repL (P := ItemOk C A μ H s r _) hs.sim ra hx fun l vs n e1 l1 r1 Y => item_list hs e1 l1 r1 e
    | dict es =>
      refine repD (P := ItemOk C A μ H s r _) hs.sim ra hx fun l o Y => ?_
      obtain ⟨_,_,f,hm,hf⟩ := o
      have := hf i
      rw [show es.lookup i = some r from e] at this
      obtain ⟨v,g1,g2⟩ := this
      exact ⟨.same hs fun Q k => wpAny_getItem_intMap hm g1 (k v _ g2),_,_,hm.typeIs,slot_dict_getitem.lookup⟩
    | inst _ _ => fail "=e"
  | _ => fail "=e"
theorem clampI (n : Nat) (v : Int) : ((clamp n v : Nat) : Int) = if v < 0 then max (v + n) 0 else min v n := by
  unfold clamp
  by_cases h : v < 0
  · rw [if_neg (Int.not_le.mpr h),if_pos h]; exact Int.ofNat_toNat _
  · obtain ⟨k,rfl⟩ := Int.eq_ofNat_of_zero_le (Int.not_lt.mp h)
    rw [if_pos (Int.not_lt.mp h),if_neg h]; show ((min k n : Nat) : Int) = min (k : Int) n; fail "l"
theorem clamp_clip (n : Nat) (i : Int) : clipAt n i = clamp n i := by
  apply Int.ofNat_inj.mp
  rw [clipAt_cast,clampI]
  split
  · rw [Int.min_eq_left (by fail "l"),Int.max_comm]
  · exact Int.max_eq_right (Int.le_min.mpr ⟨by fail "l",Int.natCast_nonneg _⟩)
theorem clamp_le (n : Nat) (i : Int) : clamp n i ≤ n := by
  unfold clamp; split <;> fail "l"
theorem part_of {x : PV} {v : Value} {i : Option Int} (e : bound? x = some i) (r : Rep μ s.heap x v) : IsPart v i := by
  cases x with
  | none => exact r.noneE (P := fun v => IsPart v i) (just_some (P := IsPart _) e .none)
  | int j => exact r.intE (P := fun v => IsPart v i) fun t => just_some (P := IsPart _) e (.int _ t)
  | _ => fail "=e"
theorem cut_length {α : Type} (xs : List α) (lo hi : Option Int) : (cut xs lo hi).length ≤ xs.length := by
  unfold cut
  rw [List.length_take,List.length_drop]
  exact Nat.le_trans (Nat.min_le_right _ _) (Nat.sub_le _ _)
theorem pick_cut (items : Array Value) (lo hi : Option Int) : (slicePick items lo hi none).toList = cut items.toList lo hi := by
  rw [slicePick_plain]
  unfold cut
  cases lo <;> fail "=hi" <;> simp [clamp_clip]
theorem filterMap_map {α β : Type} (x : List α) (f : α → β) (l : List Nat) : l.filterMap ((x.map f).toArray[·]?) = (l.filterMap (x.toArray[·]?)).map f := by
  induction l with
  | nil => rfl
  | cons i l ih =>
    simp only [List.filterMap_cons,List.getElem?_toArray,List.getElem?_map]
    simp only [List.getElem?_toArray,List.getElem?_map] at ih
    cases q : x[i]? with
    | none => simpa using ih
    | some c => simpa using ih
theorem cut_map {α β : Type} (x : List α) (f : α → β) (lo hi : Option Int) : cut (x.map f) lo hi = (cut x lo hi).map f := by
  unfold cut; simp [List.map_drop,List.map_take]
theorem cut_str (x : List Nat) (lo hi : Option Int) : ((Builtin.Str.strSliceIndices lo hi 1 x.length).filterMap (x.toArray[·]?)) = cut x lo hi := by
  have key := pick_cut (x.map fun (c : Nat) => Value.int (c : Int) 0).toArray lo hi
  unfold slicePick at key
  have same : Builtin.Str.strSliceIndices lo hi 1 x.length = sliceRange (sliceBounds lo hi none x.length).1 (sliceBounds lo hi none x.length).2.1 (sliceBounds lo hi none x.length).2.2 := rfl
  simp only [List.size_toArray,List.length_map] at key
  rw [← same] at key
  rw [filterMap_map] at key
  simp only [cut_map] at key
  have inj : Function.Injective fun (c : Nat) => Value.int (c : Int) 0 := fun a b h => by injection h with h; fail "l"
  exact (List.map_inj_right fun a b h => inj h).mp (by simpa using key)
theorem Reps.cut {μ h xs vs} (r : Reps μ h xs vs) (lo hi : Option Int) : Reps μ h (Mine.Internal.cut xs lo hi) (Mine.Internal.cut vs lo hi) := by
  unfold Mine.Internal.cut
  rw [r.length]
  exact (r.drop _).take _
noncomputable def lowOf (n : Nat) (i : Option Int) : Nat := i.elim 0 (clamp n)
noncomputable def highOf (n : Nat) (i : Option Int) : Nat := i.elim n (clamp n)
theorem adj1 (i j : Option Int) (n : Nat) : (Builtin.Slice.sliceAdjust i j 1 n).1 = ((lowOf n i : Nat) : Int) := by
  cases i with
  | none => rfl
  | some v => exact (clampI n v).symm
theorem adj2 (i j : Option Int) (n : Nat) : (Builtin.Slice.sliceAdjust i j 1 n).2 = ((highOf n j : Nat) : Int) := by
  cases j with
  | none => rfl
  | some v => exact (clampI n v).symm
theorem places (i j : Option Int) (n : Nat) : Builtin.Slice.slicePlaces (Builtin.Slice.sliceAdjust i j 1 n).1 (Builtin.Slice.sliceAdjust i j 1 n).2 1 = highOf n j - lowOf n i := by
  rw [adj1,adj2]
  generalize lowOf n i = x
  generalize highOf n j = y
  unfold Builtin.Slice.slicePlaces; simp; split <;> fail "l"
theorem cut_whole {α : Type} {xs : List α} {i j : Option Int} (w1 : lowOf xs.length i = 0) (w2 : highOf xs.length j - lowOf xs.length i = xs.length) : cut xs i j = xs := by
  unfold cut
  show (xs.drop (lowOf xs.length i)).take (highOf xs.length j - lowOf xs.length i) = xs
  rw [w2,w1,List.drop_zero,List.take_length]
theorem slice_tup (hs : St C μ H s.heap) {xs : List PV} {i j : Option Int} {vlo vhi : Value} {l sl : Addr} {vs : Array Value} {n : Nat} (e3 : s.heap.get? l = some (tupObj vs n)) (l1 : xs.length ≤ lim) (r1 : Reps μ s.heap xs vs.toList) (rx : Rep μ s.heap (.tup xs) (.ref l))
    (hsl : s.heap.get? sl = some (slObj vlo vhi)) (pa : IsPart vlo i) (pb : IsPart vhi j) : ItemOk C A μ H s (.tup (cut xs i j)) (.ref sl) (.ref l) := by
  have pick : (List.range (highOf vs.size j - lowOf vs.size i)).filterMap (fun (k : Nat) => vs[(((lowOf vs.size i : Nat) : Int) + (k : Int) * 1).toNat]?) = cut vs.toList i j := by
    have z2 := pick_run vs (lowOf vs.size i) (highOf vs.size j - lowOf vs.size i)
    rw [List.filterMap_map] at z2
    show _ = (vs.toList.drop (lowOf vs.size i)).take (highOf vs.size j - lowOf vs.size i)
    rw [← z2]
    refine congrArg (fun f => List.filterMap f _) (funext fun k => ?_)
    show vs[(((lowOf vs.size i : Nat) : Int) + (k : Int) * 1).toNat]? = vs[lowOf vs.size i + k]?
    rw [show (((lowOf vs.size i : Nat) : Int) + (k : Int) * 1).toNat = lowOf vs.size i + k by fail "l"]
  rw [← places i j,← adj1 i j] at pick
  refine ⟨?_,_,_,(isTup_of e3).typeIs,slot_tuple_getitem.lookup⟩
  have hz : (cut vs.toList i j).toArray.size ≤ sizeLine := by
    rw [List.size_toArray]
    exact Nat.le_trans (cut_length _ _ _) (by rw [Array.length_toList,sz r1]; exact Nat.le_trans l1 lim_sizeLine)
  have M := tuple_slice l sl vs n vlo vhi i j pa pb (by rw [pick]; exact hz)
  have go : ∀ Q : Value → Shared → Prop,_ → wpAny (model C.prog C.w) A (getItem (.ref l) (.ref sl)) Q (fun Y Y => False) s := fun Q h =>
    getItem_meets (isTup_of e3).typeIs (by decide) F.slot_tuple_getitem F.entry_tuple_getitem (F.args_tuple_getitem_2 _ _) M ⟨e3,hsl,h⟩
  rw [pick] at go
  by_cases w : (Builtin.Slice.sliceAdjust i j 1 vs.size).1 = 0 ∧ Builtin.Slice.slicePlaces (Builtin.Slice.sliceAdjust i j 1 vs.size).1 (Builtin.Slice.sliceAdjust i j 1 vs.size).2 1 = vs.size
  · have whole : cut xs i j = xs := cut_whole (by rw [← sz r1]; exact Int.ofNat_inj.mp ((adj1 i j _).symm.trans w.1)) (by rw [← sz r1]; exact (places i j _).symm.trans w.2)
    rw [whole]
    exact .same hs fun Q k => go Q (by rw [if_pos w]; exact k _ s.toks rx)
  · exact .alloc hs (tupObj (cut vs.toList i j).toArray 0) (fun Q k => go Q (by rw [if_neg w]; exact k s.toks)) (rep_tup_newA hs (Nat.le_trans (cut_length _ _ _) l1) (r1.cut i j))
theorem slice_lst (hs : St C μ H s.heap) {xs : List PV} {i j : Option Int} {vlo vhi : Value} {l sl : Addr} {vs : Array Value} {n : Nat} (e3 : s.heap.get? l = some (lstObj vs n)) (l1 : xs.length ≤ lim) (r1 : Reps μ s.heap xs vs.toList)
    (hsl : s.heap.get? sl = some (slObj vlo vhi)) (pa : IsPart vlo i) (pb : IsPart vhi j) : ItemOk C A μ H s (.lst (cut xs i j)) (.ref sl) (.ref l) :=
  ⟨.alloc hs (lstObj (slicePick vs i j none) 0) (fun Q k => wpAny_getItem_list_slice (isList_of e3) ⟨_,hsl,rfl,rfl⟩ pa pb .none (by simp) (k s.toks) (by rw [sz r1]; exact Nat.le_trans l1 lim_sizeLine))
    (rep_lst_newA hs (Nat.le_trans (cut_length _ _ _) l1) (by rw [pick_cut]; exact r1.cut i j)),_,_,(isList_of e3).typeIs,slot_list_getitem.lookup⟩
theorem part_tok {y : PV} {v : Value} {i : Option Int} {P : Value → Option Int → Prop} (e : bound? y = some i) (r : Rep μ s.heap y v) (k : ∀ p : Option (Int × Tok),P (partValue p) (p.map (·.1))) : P v i := by
  cases y with
  | none => exact r.noneE (P := fun v => P v i) (just_some (P := fun i => P _ i) e (k none))
  | int j => exact r.intE (P := fun v => P v i) fun t => just_some (P := fun i => P _ i) e (k (some (j,t)))
  | _ => fail "=e"
theorem slice_str (hs : St C μ H s.heap) {xs : List Nat} {p q : Option (Int × Tok)} {sl : Addr} {t} (l1 : xs.length ≤ lim) (c1 : ∀ c ∈ xs,c < 1114112)
    (hsl : s.heap.get? sl = some (slObj (partValue p) (partValue q))) : ItemOk C A μ H s (.str (cut xs (p.map (·.1)) (q.map (·.1)))) (.ref sl) (.str (ST xs) t) := by
  refine ⟨.same hs fun Q k => wpAny_getItem_str_slice (st := none) ⟨_,hsl,rfl,rfl⟩ rfl ?_,_,_,typeIs_str s (ST xs) t,F.slot_str_getitem.lookup⟩
  have hc : (slicePicked (ST xs) p q none).filterMap ((ST xs).cps[·]?) = cut xs (p.map (·.1)) (q.map (·.1)) := cut_str xs _ _
  have e : (slicePicked (ST xs) p q none).length = highOf xs.length (q.map (·.1)) - lowOf xs.length (p.map (·.1)) := by
    have e : slicePicked (ST xs) p q none = sliceRange (sliceBounds (p.map (·.1)) (q.map (·.1)) none xs.length).1 (sliceBounds (p.map (·.1)) (q.map (·.1)) none xs.length).2.1 (sliceBounds (p.map (·.1)) (q.map (·.1)) none xs.length).2.2 := by
      unfold slicePicked
      rw [ST_length]
      rfl
    rw [e,sliceBounds_plain]
    simp only [sliceRange_one,show clipAt xs.length = clamp xs.length from funext (clamp_clip _),List.length_map,List.length_range]
    rfl
  have hle : highOf xs.length (q.map (·.1)) ≤ xs.length := by
    cases q with
    | none => exact Nat.le_refl _
    | some i => exact clamp_le _ _
  generalize p.map (·.1) = lo at *
  generalize q.map (·.1) = hi at *
  unfold sliceMade
  split
  · rename_i w
    have w' : highOf xs.length hi - lowOf xs.length lo = xs.length := by rw [← e,← ST_length xs]; exact eq_of_beq w
    have : cut xs lo hi = xs := by
      rcases Nat.eq_zero_or_pos xs.length with z | z
      · rw [List.length_eq_zero_iff.mp z]; unfold cut; rw [List.drop_nil,List.take_nil]
      · exact cut_whole (by fail "l") w'
    rw [this] at k
    exact k _ s.toks ⟨⟨t,rfl⟩,l1,c1⟩
  · rw [hc]
    refine ⟨?_,k _ _ (rep_str (Nat.le_trans (cut_length _ _ _) l1) fun c hm => c1 c (List.mem_of_mem_drop (List.mem_of_mem_take hm)))⟩
    rw [ST_length]; exact Nat.le_trans (cut_length _ _ _) (Nat.le_trans l1 lim_sizeLine)
theorem slice_ok (hs : St C μ H s.heap) {x lo hi r : PV} {vx vlo vhi : Value} {sl : Addr} (rx : Rep μ s.heap x vx) (rlo : Rep μ s.heap lo vlo) (rhi : Rep μ s.heap hi vhi)
    (hsl : s.heap.get? sl = some (slObj vlo vhi)) (e : aslice x lo hi = some r) : ItemOk C A μ H s r (.ref sl) vx := by
  refine bd_some e fun i e1 e => bd_some e fun j e2 e => ?_
  cases x with
  | tup xs => exact just_some (P := fun r => ItemOk C A μ H s r _ _) e (rx.tupE (P := fun vx => Rep μ s.heap (.tup xs) vx → ItemOk C A μ H s _ _ vx) (fun l vs n e3 Y l1 r1 rx => slice_tup hs e3 l1 r1 rx hsl (part_of e1 rlo) (part_of e2 rhi)) rx)
  | lst xs => exact just_some (P := fun r => ItemOk C A μ H s r _ _) e (rx.lstE (P := ItemOk C A μ H s _ _) fun l vs n e3 Y l1 r1 => slice_lst hs e3 l1 r1 hsl (part_of e1 rlo) (part_of e2 rhi))
  | str xs => exact just_some (P := fun r => ItemOk C A μ H s r _ _) e (rx.strE (P := ItemOk C A μ H s _ _) fun t l1 c1 =>
      part_tok (P := fun vlo i => s.heap.get? sl = some (slObj vlo vhi) → ItemOk C A μ H s (.str (cut xs i j)) (.ref sl) (.str (ST xs) t)) e1 rlo (fun p hsl => part_tok (P := fun vhi j => s.heap.get? sl = some (slObj (partValue p) vhi) → ItemOk C A μ H s (.str (cut xs (p.map (·.1)) j)) (.ref sl) (.str (ST xs) t)) e2 rhi (fun q hsl => slice_str hs l1 c1 hsl) hsl) hsl)
  | _ => fail "=e"
end
end
section
open PySem PySem.W PyProof.Rows PySem.Calls PySem.SeqAt
set_option maxRecDepth 100000
section
variable {C : Ctx} {A : Around} {μ : Mu} {H : AH} {s : Shared} {a b r : PV} {va vb : Value}
theorem Ev.kept {t : Sem Value} {pv : PV} (hs : St C μ H s.heap)
    (h : ∀ Q : Value → Shared → Prop,(∀ v h' tk',(∀ b o,s.heap.get? b = some o → h'.get? b = some o) → St C μ H h' → Rep μ h' pv v → Q v { s with heap := h',toks := tk' }) → wpAny (model C.prog C.w) A t Q (fun Y Y => False) s) :
    Ev C A t μ H s pv H :=
  fun Q k => h Q fun v h' tk' e st r => k v μ h' tk' (growKeep e) st r
theorem ne_size {h : Heap} {a : Addr} {o : Obj} (e : h.get? a = some o) : a ≠ h.objs.size := fun q => by rw [q,sizeNone] at e; fail "=e"
theorem lim63 : (lim : Int) < 2 ^ 63 := by decide
theorem bools_of {h : Heap} : ∀ {xs : List PV} {vs : List Value} {bs : List Bool},bools? xs = some bs → Reps μ h xs vs → vs = bs.map Value.bool
  | [],vs,bs,e,r => r.nilE (P := fun vs => vs = bs.map Value.bool) (just_some (P := fun bs => [] = bs.map Value.bool) e rfl)
  | x :: xs,vs,bs,e,r => r.consE (P := fun vs => vs = bs.map Value.bool) fun v vs r1 r2 => asB_some (P := fun x => Rep μ h x v → v :: vs = bs.map Value.bool) e (fun b e r1 =>
      r1.boolE (P := fun v => v :: vs = bs.map Value.bool) (map_some (P := fun bs => Value.bool b :: vs = bs.map Value.bool) e fun l e => congrArg (Value.bool b :: ·) (bools_of e r2))) r1
theorem any_range : ∀ bs : List Bool,(List.range bs.length).any (fun i => bs.getD i false) = bs.any id
  | [] => rfl
  | b :: bs => by rw [List.length_cons,List.range_succ_eq_map,List.any_cons,List.any_map,List.any_cons]; simp only [Function.comp_def,List.getD_cons_zero,List.getD_cons_succ,id]; rw [any_range bs]
theorem figure_text {i : Int} (h : 0 ≤ i ∧ i < 10) : (Str.ofString (toString i)) = ST [48 + i.toNat] := by
  have : ∀ n : Fin 10,(Str.ofString (toString (n.val : Int))) = ST [48 + n.val] := by decide +kernel
  obtain ⟨n,rfl⟩ := Int.eq_ofNat_of_zero_le h.1
  exact this ⟨n,Int.ofNat_lt.mp h.2⟩
theorem len63 {α : Type} {xs : List α} (h : xs.length ≤ lim) : ¬ (xs.length : Int) ≥ 2 ^ 63 := Int.not_le.mpr (Int.lt_of_le_of_lt (Int.ofNat_le.mpr h) lim63)
theorem len63' {α : Type} {xs : List α} (h : xs.length ≤ lim) : (xs.length : Int) < 2 ^ 63 := Int.lt_of_le_of_lt (Int.ofNat_le.mpr h) lim63
theorem one_code {n : Nat} (h : n < 1114112) : ∀ c ∈ [n],c < 1114112 := fun c hc => by rw [List.mem_singleton.mp hc]; exact h
theorem len_seq (hs : St C μ H s.heap) {xs : List PV} {l : Addr} {vs : Array Value} {n : Nat} (e1 : s.heap.get? l = some (lstObj vs n)) (l1 : xs.length ≤ lim) (r1 : Reps μ s.heap xs vs.toList) : Ev C A (call (.builtin "len") [.ref l]) μ H s (.int xs.length) H :=
  .same hs fun Q k => PyProof.Rows.len_list (isList_of e1) (by rw [sz r1]; exact len63' l1) (by rw [sz r1]; exact k _ _ rep_int)
theorem len_ok (hs : St C μ H s.heap) (ra : Rep μ s.heap a va) (e : lenV H a = some r) : Ev C A (call (.builtin "len") [va]) μ H s r H := by
  cases a with
  | str x => exact Ev.just e (ra.strE (P := fun va => Ev C A (call _ [va]) μ H s _ H) fun t l1 Y => .same hs fun Q k => len_str (by rw [ST_length]; exact len63 l1) (by rw [ST_length]; exact k _ _ rep_int))
  | tup x => exact Ev.just e (ra.tupE (P := fun va => Ev C A (call _ [va]) μ H s _ H) fun l vs n e1 Y l1 r1 => .same hs fun Q k => PyProof.Rows.len_tuple (isTup_of e1) (by rw [sz r1]; exact len63' l1) (by rw [sz r1]; exact k _ _ rep_int))
  | lst x => exact Ev.just e (ra.lstE (P := fun va => Ev C A (call _ [va]) μ H s _ H) fun l vs n e1 Y l1 r1 => len_seq hs e1 l1 r1)
  | ref i => exact getL_some e fun xs hx e => Ev.just e (repL (P := fun va => Ev C A (call _ [va]) μ H s _ H) hs.sim ra hx fun l vs n e1 l1 r1 Y => len_seq hs e1 l1 r1)
  | _ => fail "=e"
theorem new_list (hs : St C μ H s.heap) {l : Addr} {T : String} {vs : Array Value} {n : Nat} {x : List PV} (hT : T = "list" ∨ T = "tuple") (e2 : s.heap.get? l = some { cls := .type T,data := .seq vs n }) (l1 : x.length ≤ lim) (r1 : Reps μ s.heap x vs.toList) :
    Ev C A (call (.type "list") [.ref l]) μ H s (.lst x) H :=
  .kept hs fun Q k => call_list_seq l hT e2 rfl rfl (fun h' c' e3 e4 => k _ h' s.toks e3 (hs.keep e3) ⟨_,vs,c',rfl,e4,hs.size_notin,l1,r1.grow0 (growKeep e3)⟩) (by rw [sz r1]; exact Nat.le_trans l1 lim_sizeLine)
theorem list_ok (hs : St C μ H s.heap) (ra : Rep μ s.heap a va) (e : listV a = some r) : Ev C A (call (.type "list") [va]) μ H s r H := by
  cases a with
  | tup x => exact Ev.just e (ra.tupE (P := fun va => Ev C A (call _ [va]) μ H s _ H) fun l vs n e1 Y l1 r1 => new_list hs (.inr rfl) e1 l1 r1)
  | lst x => exact Ev.just e (ra.lstE (P := fun va => Ev C A (call _ [va]) μ H s _ H) fun l vs n e1 Y l1 r1 => new_list hs (.inl rfl) e1 l1 r1)
  | _ => fail "=e"
theorem new_tuple (hs : St C μ H s.heap) {l : Addr} {vs : Array Value} {n : Nat} {x : List PV} (e2 : s.heap.get? l = some (lstObj vs n)) (l1 : x.length ≤ lim) (r1 : Reps μ s.heap x vs.toList) :
    Ev C A (call (.type "tuple") [.ref l]) μ H s (.tup x) H :=
  .kept hs fun Q k => call_tuple_list (isList_of e2) (fun h' e3 => k _ _ s.toks (fun b o q => pushKeep _ _ _ _ (e3 b o q)) (hs.keep fun b o q => pushKeep _ _ _ _ (e3 b o q)) (rep_tup_newA (hs.keep e3) l1 (r1.grow0 (growKeep e3)))) (by rw [sz r1]; exact Nat.le_trans l1 lim_sizeLine)
theorem tuple_ok (hs : St C μ H s.heap) (ra : Rep μ s.heap a va) (e : tupleV H a = some r) : Ev C A (call (.type "tuple") [va]) μ H s r H := by
  cases a with
  | lst x => exact Ev.just e (ra.lstE (P := fun va => Ev C A (call _ [va]) μ H s _ H) fun l vs n e1 Y l1 r1 => new_tuple hs e1 l1 r1)
  | ref i => exact getL_some e fun xs hx e => Ev.just e (repL (P := fun va => Ev C A (call _ [va]) μ H s _ H) hs.sim ra hx fun l vs n e1 l1 r1 Y => new_tuple hs e1 l1 r1)
  | _ => fail "=e"
theorem any_ok (hs : St C μ H s.heap) (hh : A.handled = none) {xs : List PV} {bs : List Bool} {l : Addr} {vs : Array Value} {n : Nat} (e1 : bools? xs = some bs) (e2 : s.heap.get? l = some (lstObj vs n)) (r1 : Reps μ s.heap xs vs.toList) :
    Ev C A (call (.builtin "any") [.ref l]) μ H s (.bool (bs.any id)) H := by
  have hv := bools_of e1 r1
  refine .kept hs fun Q k => call_any_walk (wpAny_pyIter_list (isList_of e2) ?_)
  have hne : l ≠ s.heap.objs.size := ne_size e2
  refine ⟨_,_,_,_,_,_,fun i => bs.getD i false,rfl,Walks.list (A := A.in1) hh _ l hne vs,⟨⟨_,Heap.get?_push_size _ rfl,rfl,rfl⟩,isList_of (pushKeep _ _ _ _ e2)⟩,?_,fun h' tk e => ?_⟩
  · intro i v s' Q' E' hP hQ
    have hb : vs.toList[i]? = some v := Array.getElem?_toList.trans hP
    rw [hv,List.getElem?_map] at hb
    refine map_some (P := fun v => wpAny _ _ (truthy v) Q' E' s') hb fun b hb1 => ?_
    have hQ' : Q' (bs.getD i false) s' := hQ
    rw [List.getD_eq_getElem?_getD,hb1] at hQ'
    exact wpAny_truthy_bool hQ'
  · have old : ∀ b o,s.heap.get? b = some o → h'.get? b = some o := fun b o q => e b o (fun m => ne_size q (List.mem_singleton.mp m)) (pushKeep _ _ _ _ q)
    have hz : vs.size = bs.length := by rw [← Array.length_toList,hv,List.length_map]
    have : (List.range vs.size).any (fun i => bs.getD i false) = bs.any id := by
      rw [hz]; exact any_range bs
    rw [this]
    exact k _ h' tk old (hs.keep old) rep_bool
theorem small_bits {i : Int} (hi : 0 ≤ i ∧ i < 10) : i.natAbs.log2 < 10 := by
  have : ∀ n : Fin 10,n.val.log2 < 10 := by decide
  obtain ⟨n,rfl⟩ := Int.eq_ofNat_of_zero_le hi.1
  exact this ⟨n,Int.ofNat_lt.mp hi.2⟩
theorem max_if (x y : Int) : (if y > x then y else x) = max x y := by
  split
  · exact (Int.max_eq_right (Int.le_of_lt (by assumption))).symm
  · exact (Int.max_eq_left (Int.not_lt.mp (by assumption))).symm
theorem min_if (x y : Int) : (if y < x then y else x) = min x y := by
  split
  · exact (Int.min_eq_right (Int.le_of_lt (by assumption))).symm
  · exact (Int.min_eq_left (Int.not_lt.mp (by assumption))).symm
theorem abs_if (i : Int) : (if i < 0 then -i else i) = (i.natAbs : Int) := by split <;> fail "l"
theorem bi_ok (hs : St C μ H s.heap) {b : BI} {as : List PV} {vs : List Value} (rs : Reps μ s.heap as vs) (hh : A.handled = none) (e : abi b H as = some r) : Ev C A (call (biv b) vs) μ H s r H := by
  cases b with
  | len => exact arg1_rep (P := fun vs => Ev C A (call _ vs) μ H s r H) e rs fun a v e ra => len_ok hs ra e
  | list => exact arg1_rep (P := fun vs => Ev C A (call _ vs) μ H s r H) e rs fun a v e ra => list_ok hs ra e
  | tuple => exact arg1_rep (P := fun vs => Ev C A (call _ vs) μ H s r H) e rs fun a v e ra => tuple_ok hs ra e
  | abs => exact arg1_rep (P := fun vs => Ev C A (call _ vs) μ H s r H) e rs fun a v e ra => asI_rep (P := fun v => Ev C A (call _ [v]) μ H s r H) e ra fun i t e => Ev.just e (.same hs fun Q k => PyProof.Rows.call_abs_int fun u tk => k _ _ (by rw [abs_if]; exact rep_int))
  | ord => exact arg1_rep (P := fun vs => Ev C A (call _ vs) μ H s r H) e rs fun a v e ra => asS_rep (P := fun v => Ev C A (call _ [v]) μ H s r H) e ra fun x t Y Y e => match x,e with
    | [c],e => Ev.just e (.same hs fun Q k => PySem.P.ord_of_char (k _ _ rep_int))
    | [],e => (by contradiction)
    | _ :: _ :: _,e => (by contradiction)
  | chr => exact arg1_rep (P := fun vs => Ev C A (call _ vs) μ H s r H) e rs fun a v e ra => asI_rep (P := fun v => Ev C A (call _ [v]) μ H s r H) e ra fun i t e => chk_some e fun hi e => Ev.just e (.same hs fun Q k => chr_of_range hi.1 (by fail "l") (k _ _ (rep_str (of_decide_eq_true rfl) (one_code (by fail "l")))))
  | str => exact arg1_rep (P := fun vs => Ev C A (call _ vs) μ H s r H) e rs fun a v e ra => asI_rep (P := fun v => Ev C A (call _ [v]) μ H s r H) e ra fun i t e => chk_some e fun hi e => Ev.just e (.same hs fun Q k => PySem.P.str_of_int (Nat.lt_trans (small_bits hi) (by decide)) (k _ _ (show Rep μ s.heap _ (Value.str (Str.ofString (toString i)) s.toks) by rw [figure_text hi]; exact rep_str (of_decide_eq_true rfl) (one_code (by fail "l")))))
  | max => exact arg2_rep (P := fun vs => Ev C A (call _ vs) μ H s r H) e rs fun a b v w e ra rb => ints_ok (t := fun v w => call _ [v,w]) ra rb e fun x y t u e => Ev.just e (.kept hs fun Q k => max_two_ints hh fun h' tk e => k _ h' tk e (hs.keep e) (by rw [← max_if]; split <;> exact rep_int))
  | min => exact arg2_rep (P := fun vs => Ev C A (call _ vs) μ H s r H) e rs fun a b v w e ra rb => ints_ok (t := fun v w => call _ [v,w]) ra rb e fun x y t u e => Ev.just e (.kept hs fun Q k => min_two_ints hh fun h' tk e => k _ h' tk e (hs.keep e) (by rw [← min_if]; split <;> exact rep_int))
  | any => exact arg1_rep (P := fun vs => Ev C A (call _ vs) μ H s r H) e rs fun a v e ra => asL_rep (P := fun v => Ev C A (call _ [v]) μ H s r H) e ra fun xs l vs n e2 Y Y r1 e => map_some (P := fun r => Ev C A (call _ [.ref l]) μ H s r H) e fun bs e1 => any_ok hs hh e1 e2 r1
theorem set_list (hs : St C μ H s.heap) {q : Nat} {xs : List PV} {l : Addr} {vs : Array Value} {n : Nat} {v : PV} {vv : Value} {i : Int} {u j} (e2 : s.heap.get? l = some (lstObj vs n)) (l1 : xs.length ≤ lim) (r1 : Reps μ s.heap xs vs.toList) (e0 : μ.os[q]? = some (l,l)) (rv : Rep μ s.heap v vv) (e1 : place? xs.length i = some j)
    {Q : Unit → Shared → Prop} {E : Value → Shared → Prop} (k : ∀ h' tk',Grow [] μ μ s.heap h' → St C μ (H.set q (.list (xs.set j v))) h' → Q () { s with heap := h',toks := tk' }) :
    wpAny (model C.prog C.w) A (setItem (.ref l) (.int i u) vv) Q E s := by
  have z := sz r1
  have fin : ∀ h',Heap.SameBut l s.heap h' → h'.get? l = some (lstObj (vs.setIfInBounds j vv) n) → Q () { s with heap := h',toks := s.toks } := fun h' q1 q2 => by
    have p := hs.put e0 q1 ⟨_,q2⟩ (o' := .list (xs.set j v)) fun g => ⟨rfl,by rw [List.length_set]; exact l1,_,n,q2,by
      rw [Array.toList_setIfInBounds]; exact (r1.set j rv).grow0 g⟩
    exact k h' s.toks p.2 p.1
  have upd : ∀ jj,(s.heap.update l (Obj.mapSeq (·.setIfInBounds jj vv))).get? l = some (lstObj (vs.setIfInBounds jj vv) n) := fun jj => by
    rw [Heap.get?_update_self (Obj.mapSeq (·.setIfInBounds jj vv)) e2 rfl]
    simp [Obj.mapSeq]
  have hlim := lim63
  unfold place? at e1
  split at e1
  · split at e1
    · fail "=e1"
      exact ki_setAt e2 (by fail "l") (by fail "l") (by fail "l") (fin _ (Heap.SameBut.update _ _ _) (upd _))
    · fail "=e1"
  · split at e1
    · fail "=e1"
      refine ki_setBack e2 (by fail "l") (by fail "l") (by fail "l") ?_
      rw [z]
      exact fin _ (Heap.SameBut.update _ _ _) (upd _)
    · fail "=e1"
theorem set_dict (hs : St C μ H s.heap) {q : Nat} {es : List (Int × PV)} {l : Addr} {v : PV} {vv : Value} {i : Int} {u} (ob : ObjRep C.tab μ s.heap l l (.dict es)) (e0 : μ.os[q]? = some (l,l)) (rv : Rep μ s.heap v vv) (hl : es.length < lim)
    {Q : Unit → Shared → Prop} {E : Value → Shared → Prop} (k : ∀ h' tk',Grow [] μ μ s.heap h' → St C μ (H.set q (.dict (dput es i v))) h' → Q () { s with heap := h',toks := tk' }) :
    wpAny (model C.prog C.w) A (setItem (.ref l) (.int i u) vv) Q E s := by
  obtain ⟨_,l1,f,hm,hf⟩ := ob
  refine wpAny_setItem_intMap_le hm l1.2.1 (Nat.le_trans l1.1 lim_sizeLine) fun h' q1 q2 q3 => ?_
  have p := hs.put e0 q3 ((by obtain ⟨o,_,_,ho,_⟩ := q1; exact ⟨o,ho⟩)) (o' := .dict (dput es i v)) fun g => by
    refine ⟨rfl,⟨hl,q2,fun q => (by contradiction)⟩,_,q1,fun x => ?_⟩
    unfold dput
    rw [List.lookup_cons]
    by_cases hxi : x = i
    · subst hxi
      rw [beq_self_eq_true]
      exact ⟨vv,if_pos rfl,rv.grow0 g⟩
    · rw [beq_eq_false_iff_ne.mpr hxi]
      have := hf x
      show (match es.lookup x with | some y => ∃ w,_ = some w ∧ _ | none => _ = none)
      rw [if_neg hxi]
      generalize es.lookup x = y at this ⊢
      cases y with
      | some y => obtain ⟨w,a,b⟩ := this; exact ⟨w,a,b.grow0 g⟩
      | none => exact this
  exact k h' _ p.2 p.1
theorem setidx_ok (hs : St C μ H s.heap) {o i v : PV} {vo vi vv : Value} (ro : Rep μ s.heap o vo) (ri : Rep μ s.heap i vi) (rv : Rep μ s.heap v vv) {H' : AH} (e : asetidx H o i v = some H')
    {Q : Unit → Shared → Prop} {E : Value → Shared → Prop} (k : ∀ h' tk',Grow [] μ μ s.heap h' → St C μ H' h' → Q () { s with heap := h',toks := tk' }) :
    wpAny (model C.prog C.w) A (setItem vo vi vv) Q E s := by
  refine asR_some (P := fun o => Rep μ s.heap o vo → wpAny _ A (setItem vo vi vv) Q E s) e (fun q e ro => asI_rep (P := fun vi => wpAny _ A (setItem vo vi vv) Q E s) e ri fun i u e => bd_some e fun ob hx e => ?_) ro
  cases ob with
  | list xs => exact repL (P := fun vo => wpAny _ A (setItem vo _ vv) Q E s) hs.sim ro hx fun l vs n e2 l1 r1 e0 => map_some (P := fun H' => (∀ h' tk',Grow [] μ μ s.heap h' → St C μ H' h' → Q () { s with heap := h',toks := tk' }) → wpAny _ A _ Q E s) e (fun j e1 k => set_list hs e2 l1 r1 e0 rv e1 k) k
  | dict es => exact repD (P := fun vo => wpAny _ A (setItem vo _ vv) Q E s) hs.sim ro hx fun l ob e0 => chk_some e fun hl e => just_some (P := fun H' => (∀ h' tk',Grow [] μ μ s.heap h' → St C μ H' h' → Q () { s with heap := h',toks := tk' }) → wpAny _ A _ Q E s) e (fun k => set_dict hs ob e0 rv hl k) k
  | inst _ _ => fail "=e"
end
end
section
open PySem PySem.W PyProof.Rows PySem.Calls PySem.SeqAt
set_option maxRecDepth 100000
section
variable {C : Ctx} {A : Around} {μ : Mu} {H : AH} {s : Shared} {a b r : PV} {va vb : Value}
noncomputable def methId : MK → Nat → String
  | .list,m => cond (m.beq nAppend) "list.append" "list.pop"
  | .dict,_ => "dict.get"
  | .str,m => cond (m.beq nLower) "str.lower" "str.join"
  | .user _,_ => ""
theorem idL1 {m : Nat} (c : m.beq nAppend = true) : methId .list m = "list.append" := by show cond (m.beq nAppend) _ _ = _; rw [c]; rfl
theorem idL2 {m : Nat} (c : m.beq nAppend = false) : methId .list m = "list.pop" := by show cond (m.beq nAppend) _ _ = _; rw [c]; rfl
theorem idS1 {m : Nat} (c : m.beq nLower = true) : methId .str m = "str.lower" := by show cond (m.beq nLower) _ _ = _; rw [c]; rfl
theorem idS2 {m : Nat} (c : m.beq nLower = false) : methId .str m = "str.join" := by show cond (m.beq nLower) _ _ = _; rw [c]; rfl
theorem cond_some {γ : Type} {P : Prop} {c : Bool} {x y : Option γ} {r} (e : cond c x y = some r) (k1 : c = true → x = some r → P) (k2 : c = false → y = some r → P) : P := by
  cases c
  · exact k2 rfl e
  · exact k1 rfl e
theorem Ev.ret {t : Sem Value} {r r' : PV} {H1 H' : AH} (e : some (r',H1) = some (r,H')) (h : Ev C A t μ H s r' H1) : Ev C A t μ H s r H' := ret_some (P := Ev C A t μ H s) e h
theorem pop_list {s' : Shared} {E : Value → Shared → Prop} {l : Addr} {items : Array Value} {n : Nat} {y : Value} {Q : Value → Shared → Prop} (hl : s'.heap.get? l = some (lstObj items n)) (hy : items[items.size - 1]? = some y) (hz : items.size ≤ sizeLine)
    (h : Q y { s' with heap := s'.heap.update l (Obj.mapSeq fun xs => xs.eraseIdxIfInBounds (items.size - 1)) }) : wpAny (model C.prog C.w) A (call (.builtin "list.pop") [.ref l]) Q E s' :=
  call_meets F.slot_list_pop (isList_of hl).typeIs F.entry_list_pop (F.args_list_pop_1 _) (MeetsSeq.list_pop_last l items n y hy hz) ⟨hl,h⟩
noncomputable def StrVs (vs : List Value) (l : List (List Nat)) : Prop := ∃ p : List (Str × Tok),vs = strValues p ∧ p.map (·.1) = l.map ST ∧ ∀ x ∈ l,∀ c ∈ x,c < 1114112
theorem strs_pairs {h : Heap} : ∀ {ys : List PV} {vs : List Value} {l : List (List Nat)},strs? ys = some l → Reps μ h ys vs → StrVs vs l
  | [],vs,l,e,r => r.nilE (P := fun vs => StrVs vs l) (just_some (P := StrVs []) e ⟨[],rfl,rfl,fun Y h => (by contradiction)⟩)
  | y :: ys,_,l,e,r => r.consE (P := fun vs => StrVs vs l) fun v vs r1 r2 => asS_rep (P := fun v => StrVs (v :: vs) l) e r1 fun x t Y c1 e => map_some (P := StrVs (.str (ST x) t :: vs)) e fun l e1 =>
      match strs_pairs e1 r2 with
      | ⟨p,e3,q2,q3⟩ => ⟨(ST x,t) :: p,congrArg (Value.str (ST x) t :: ·) e3,congrArg (ST x :: ·) q2,fun y hy => (List.mem_cons.mp hy).elim (fun z => z ▸ c1) (q3 y)⟩
theorem glued_flat (l : List (List Nat)) : Builtin.Str.glued (ST []) (l.map ST) = ST l.flatten := by
  unfold Builtin.Str.glued
  have gen : ∀ (l : List (List Nat)) (a : Array Nat),(l.map ST).foldl (fun acc p => acc ++ (ST []).cps ++ p.cps) a = a ++ l.flatten.toArray := by
    intro l
    induction l with
    | nil => intro a; simp
    | cons x l ih => intro a; rw [List.map_cons,List.foldl_cons,ih]; simp
  cases l with
  | nil => rfl
  | cons x l =>
    simp only [List.map_cons,List.drop_succ_cons,List.drop_zero,List.headD_cons]
    rw [gen]
    simp
theorem ok_append (hs : St C μ H s.heap) {i : Nat} {xs : List PV} {l : Addr} {ws : Array Value} {n : Nat} {v : PV} {w : Value} (e1 : s.heap.get? l = some (lstObj ws n)) (l1 : xs.length ≤ lim) (r1 : Reps μ s.heap xs ws.toList) (e0 : μ.os[i]? = some (l,l)) (hlt : xs.length < lim) (r2 : Rep μ s.heap v w) :
    Ev C A (call (.builtin "list.append") [.ref l,w]) μ H s .none (H.set i (.list (xs ++ [v]))) := fun Q q => by
  refine wpAny_list_append_plain ⟨n,e1⟩ (fun h' p1 p2 => ?_) (by rw [sz r1]; exact Nat.le_trans l1 lim_sizeLine)
  obtain ⟨n',p1⟩ := p1
  have p := hs.put e0 p2 ⟨_,p1⟩ (o' := .list (xs ++ [v])) fun g => ⟨rfl,by rw [List.length_append]; exact hlt,_,n',p1,by
    rw [Array.toList_push]; exact (r1.append (Reps.cons r2 Reps.nil)).grow0 g⟩
  exact q _ μ h' s.toks p.2 p.1 rep_none
theorem drop_last {ws : Array Value} {k : Nat} (hk : ws.size = k + 1) : (ws.eraseIdxIfInBounds (ws.size - 1)).toList = ws.toList.take k := by
  have h : ws.size - 1 < ws.size := by lia
  unfold Array.eraseIdxIfInBounds
  rw [dif_pos h,Array.toList_eraseIdx,List.eraseIdx_eq_take_drop_succ,List.drop_eq_nil_of_le (by rw [Array.length_toList]; lia),List.append_nil,hk,Nat.add_sub_cancel]
theorem ok_pop (hs : St C μ H s.heap) {i : Nat} {xs : List PV} {l : Addr} {ws : Array Value} {n : Nat} (e1 : s.heap.get? l = some (lstObj ws n)) (l1 : xs.length ≤ lim) (r1 : Reps μ s.heap xs ws.toList) (e0 : μ.os[i]? = some (l,l)) (hv : xs.getLast? = some r) :
    Ev C A (call (.builtin "list.pop") [.ref l]) μ H s r (H.set i (.list xs.dropLast)) := fun Q q => by
  rw [List.getLast?_eq_getElem?] at hv
  have hpos := (List.getElem?_eq_some_iff.mp hv).1
  obtain ⟨v,g1,g2⟩ := r1.get hv
  have z := sz r1
  refine pop_list e1 (y := v) (by rw [z,← Array.getElem?_toList]; exact g1) (by rw [z]; exact Nat.le_trans l1 lim_sizeLine) ?_
  have upd : (s.heap.update l (Obj.mapSeq fun xs => xs.eraseIdxIfInBounds (ws.size - 1))).get? l = some (lstObj (ws.eraseIdxIfInBounds (ws.size - 1)) (n + 1)) := by
    rw [Heap.get?_update_self (Obj.mapSeq fun xs => xs.eraseIdxIfInBounds (ws.size - 1)) e1 rfl]
    simp [Obj.mapSeq,Array.eraseIdxIfInBounds]
    split <;> simp <;> lia
  have p := hs.put e0 (Heap.SameBut.update s.heap l (Obj.mapSeq fun xs => xs.eraseIdxIfInBounds (ws.size - 1))) ⟨_,upd⟩ (o' := .list xs.dropLast) fun g => ⟨rfl,by rw [List.length_dropLast]; exact Nat.le_trans (Nat.sub_le _ _) l1,_,n + 1,upd,by
    rw [drop_last (k := xs.length - 1) (by lia),List.dropLast_eq_take]; exact (r1.take (xs.length - 1)).grow0 g⟩
  exact q v μ _ s.toks p.2 p.1 (g2.grow0 p.2)
theorem ok_get (hs : St C μ H s.heap) {i : Nat} {es : List (Int × PV)} {l : Addr} {j : Int} {t} {d : PV} {w' : Value} (ob : ObjRep C.tab μ s.heap l l (.dict es)) (e0 : μ.os[i]? = some (l,l)) (he : es = []) (r4 : Rep μ s.heap d w') :
    Ev C A (call (.builtin "dict.get") [.ref l,.int j t,w']) μ H s d H := by
  obtain ⟨_,l1,f,hm',hf⟩ := ob
  refine .same hs fun Q q => ?_
  have hex := l1.2.2 he
  have hf' : f j = none := by have := hf j; rw [he] at this; exact this
  have hd : (l == sysModules) = false := by
    refine beq_eq_false_iff_ne.mpr fun q => ?_
    subst q
    obtain ⟨o,ho⟩ := C.sys
    have := (hs.fresh _ (List.mem_of_getElem? e0)).1
    rw [ho] at this; fail "=this"
  refine call_meetsIn F.slot_dict_get hm'.typeIs F.entry_dict_get (F.args_dict_get_3 _ _ _) (meets_dict_get_default (intKind C.prog C.w) l (intKind_is C.prog C.w j t) hd w') ⟨f,hm'.mapOf fun o ho => ?_,?_⟩
  · rw [hex] at ho; cases ho; exact ⟨rfl,rfl⟩
  · rw [hf']; exact q _ _ r4
theorem low_code {c : Nat} (hc : c = 97 ∨ c = 98 ∨ c = 65 ∨ c = 10) : Txt.lower (ST [c]) = ST [lower1 c] ∧ lower1 c < 1114112 := by
  rcases hc with rfl | rfl | rfl | rfl <;> exact ⟨by decide +kernel,by decide⟩
theorem ok_lower (hs : St C μ H s.heap) {c : Nat} {t} (hc : c = 97 ∨ c = 98 ∨ c = 65 ∨ c = 10) : Ev C A (call (.builtin "str.lower") [.str (ST [c]) t]) μ H s (.str [lower1 c]) H :=
  .same hs fun Q q => PySem.SC.lower (by rw [(low_code hc).1]; rfl) (by rw [(low_code hc).1]; exact q _ _ (rep_str (of_decide_eq_true rfl) (one_code (low_code hc).2)))
theorem ok_join (hs : St C μ H s.heap) {xs : List PV} {D : Addr} {ws : Array Value} {n : Nat} {t} {l : List (List Nat)} (e2 : s.heap.get? D = some (lstObj ws n)) (r2 : Reps μ s.heap xs ws.toList) (e1 : strs? xs = some l) (hl : l.flatten.length ≤ lim) :
    Ev C A (call (.builtin "str.join") [.str (ST []) t,.ref D]) μ H s (.str l.flatten) H := by
  obtain ⟨p,hp,q2,q3⟩ := strs_pairs e1 r2
  have e2' := isList_of e2
  rw [← Array.toArray_toList (xs := ws),hp] at e2'
  refine .same hs fun Q q => PySem.SC.join (l := p) (texts := l.map ST) e2' q2 ?_ fun t' k => q _ _ ?_
  · unfold JoinOk
    rw [StrLaws.joinTotal]
    have : ((l.map ST).map (·.length)).sum = l.flatten.length := by
      rw [List.length_flatten,List.map_map]
      exact congrArg List.sum (List.map_congr_left fun x Y => ST_length x)
    rw [this,show (ST ([] : List Nat)).length = 0 from rfl,Nat.mul_zero,Nat.add_zero]
    exact congrArg (!·) (decide_eq_false (Nat.not_lt.mpr (Nat.le_trans hl lim_sizeLine)))
  · rw [show Txt.join (ST []) (l.map ST) = ST l.flatten from glued_flat l]
    refine rep_str hl fun c hc => ?_
    obtain ⟨x,hx,hcx⟩ := List.mem_flatten.mp hc
    exact q3 x hx c hcx
theorem noArg {as : List PV} {vs : List Value} {P : List Value → Prop} (h : as.isEmpty = true) (rs : Reps μ s.heap as vs) (k : P []) : P vs := by
  rw [List.isEmpty_iff.mp h] at rs
  exact rs.nilE k
theorem meth_ok (hs : St C μ H s.heap) {k : MK} {o : PV} {m : Nat} {as : List PV} {vo : Value} {vs : List Value} (ro : Rep μ s.heap o vo) (rs : Reps μ s.heap as vs) {H' : AH} (e : ameth H k o m as = some (r,H')) :
    Ev C A (call (.builtin (methId k m)) (vo :: vs)) μ H s r H' := by
  cases k with
  | user f => fail "=e"
  | list => exact asR_some (P := fun o => Rep μ s.heap o vo → Ev C A (call _ (vo :: vs)) μ H s r H') e (fun i e ro => getL_some e fun xs hx e => repL (P := fun vo => Ev C A (call _ (vo :: vs)) μ H s r H') hs.sim ro hx fun l ws n e1 l1 r1 e0 =>
      cond_some e (fun c e => by
        rw [idL1 c]
        exact arg1_rep (P := fun vs => Ev C A (call _ (_ :: vs)) μ H s r H') e rs fun v w e r2 => chk_some e fun hlt e => .ret e (ok_append hs e1 l1 r1 e0 hlt r2)) fun c e => by
        rw [idL2 c]
        exact whn_some e fun Y e => whn_some e fun hn e => noArg (P := fun vs => Ev C A (call _ (_ :: vs)) μ H s r H') hn rs (bd_some e fun v hv e => .ret e (ok_pop hs e1 l1 r1 e0 hv))) ro
  | dict => exact asR_some (P := fun o => Rep μ s.heap o vo → Ev C A (call _ (vo :: vs)) μ H s r H') e (fun i e ro => bd_some e fun ob hx e => by
      cases ob with
      | dict es => exact repD (P := fun vo => Ev C A (call _ (vo :: vs)) μ H s r H') hs.sim ro hx fun l ob e0 => whn_some e fun Y e => arg2_rep (P := fun vs => Ev C A (call _ (_ :: vs)) μ H s r H') e rs fun k d v w e rk rd => asI_rep (P := fun v => Ev C A (call _ [_,v,w]) μ H s r H') e rk fun j t e => whn_some e fun he e => .ret e (ok_get hs ob e0 (List.isEmpty_iff.mp he) rd)
      | _ => fail "=e") ro
  | str => exact asS_rep (P := fun vo => Ev C A (call _ (vo :: vs)) μ H s r H') e ro fun x t Y Y e =>
      cond_some e (fun c e => by
        rw [idS1 c]
        exact whn_some e fun hn e => noArg (P := fun vs => Ev C A (call _ (_ :: vs)) μ H s r H') hn rs (match x,e with
          | [c],e => chk_some e fun hc e => .ret e (ok_lower hs hc)
          | [],e => (by contradiction)
          | _ :: _ :: _,e => (by contradiction))) (fun c e => by
        rw [idS2 c]
        exact whn_some e fun Y e => arg1_rep (P := fun vs => Ev C A (call _ (_ :: vs)) μ H s r H') e rs fun a v e ra => asL_rep (P := fun v => Ev C A (call _ [_,v]) μ H s r H') e ra fun xs D ws n e2 Y l1 r2 e => chk_some e fun hst e => by
          subst hst
          exact bd_some e fun l e1 e => chk_some e fun hl e => .ret e (ok_join hs e2 r2 e1 hl))
end
end
section
open PySem PySem.W PyProof.Rows PySem.Calls PySem.SeqAt
set_option maxRecDepth 100000
structure ClsOk (K : Frag) (t : Tab) (c : Nat) : Prop where
  get : findIn K (.ref (t.cls c)) "__getattribute__" = some (some (.builtin "object.__getattribute__"))
  getattr : findIn K (.ref (t.cls c)) "__getattr__" = some none
  dict : hasDictIn K (t.cls c) = true
  over : plainOver K (t.cls c) = true
  set : findIn K (.ref (t.cls c)) "__setattr__" = some (some (.builtin "object.__setattr__"))
  free : ∀ j,t.free c j → findIn K (.ref (t.cls c)) (t.nm j) = some none
  inj : ∀ i j,i < t.nn → j < t.nn → t.nm i = t.nm j → i = j
section
variable {C : Ctx} {A : Around} {μ : Mu} {H : AH} {s : Shared} {a b r : PV} {va vb : Value} {E : Value → Shared → Prop}
theorem rep_handed {h : Heap} {x : PV} {v : Value} (r : Rep μ h x v) : handedIn v = true := by
  cases x with
  | none => exact r.noneE (P := fun v => handedIn v = true) rfl
  | bool => exact r.boolE (P := fun v => handedIn v = true) rfl
  | int => exact r.intE (P := fun v => handedIn v = true) fun Y => rfl
  | str => exact r.strE (P := fun v => handedIn v = true) fun Y Y Y => rfl
  | tup => exact r.tupE (P := fun v => handedIn v = true) fun Y Y Y Y Y Y Y => rfl
  | lst => exact r.lstE (P := fun v => handedIn v = true) fun Y Y Y Y Y Y Y => rfl
  | ref => exact r.refE (P := fun v => handedIn v = true) fun Y Y Y => rfl
theorem repI {t : Tab} {P : Value → Prop} {h : Heap} {i : Nat} {v : Value} {c fs} (S : Sim t μ H h) (r : Rep μ h (.ref i) v) (e : H[i]? = some (.inst c fs))
    (k : ∀ x d,ObjRep t μ h x d (.inst c fs) → μ.os[i]? = some (x,d) → P (.ref x)) : P v := r.refE fun x d e' => k x d (S.obj i x d _ e' e) e'
theorem ns_obj {h : Heap} {c : Addr} {m : Str → Option Value} (n : h.Ns c m) : ∃ o,h.get? c = some o ∧ ∀ x,lookIn x o = some (m x) := by
  obtain ⟨o,es,ep,ho,hd,hk,hf⟩ := n
  refine ⟨o,ho,fun x => ?_⟩
  unfold lookIn
  rw [hd]
  dsimp only
  rw [← hf x]
  unfold nsFind findBy
  rw [← Array.find?_toList]
  have nokey : es.toList.any (·.refKey) = false := by
    rw [List.any_eq_false]
    intro e he
    obtain ⟨n,t,e1⟩ := hk e (Array.mem_toList_iff.mp he)
    simp [DictEntry.refKey,e1]
  rw [nokey]
  show _ = some (Option.map (fun x => x.val) (List.find? (fun e => e.key.isStr x) es.toList))
  cases List.find? (fun e => e.key.isStr x) es.toList <;> rfl
theorem inst_at {h : Heap} {x c k : Addr} {m : Str → Option Value} (e : h.get? x = some (instObj k c)) (n : h.Ns c m) : ∃ od,InstAt h x (instObj k c) k (some od) ∧ ∀ y,lookIn y od = some (m y) := by
  obtain ⟨o,ho,hl⟩ := ns_obj n
  exact ⟨o,⟨e,rfl,rfl,ho⟩,hl⟩
theorem attr_ok {K : Frag} (hs : St C μ H s.heap) (hK : K.In C.base) (cls : ∀ c,c < C.tab.nc → ClsOk K C.tab c) {k : Nat} {expr : Bool} (ro : Rep μ s.heap a va) (e : aattr H a k = some r) :
    Ev C A (getAttr va (C.tab.nm k) expr) μ H s r H :=
  asR_some (P := fun a => Rep μ s.heap a va → Ev C A (getAttr va (C.tab.nm k) expr) μ H s r H) e (fun i e ro => bd_some e fun o hx e => oasI_some (P := fun o => H[i]? = some o → Ev C A (getAttr va (C.tab.nm k) expr) μ H s r H) e (fun c fs e hx =>
    repI (P := fun va => Ev C A (getAttr va (C.tab.nm k) expr) μ H s r H) hs.sim ro hx fun x d ob e0 => by
      obtain ⟨hn,e1,hfree,m,hm,hf⟩ := ob
      have CO := cls c hfree.1
      obtain ⟨od,I,hl⟩ := inst_at e1 hm.1.ns
      have hfr := hfree.2 k (by rw [e]; rfl)
      have := hf k hfr.2
      rw [e] at this
      obtain ⟨v,g1,g2⟩ := this
      exact .same hs fun Q q => get_value (fun a o q => hs.base _ _ (hK a o q)) I CO.get (findObj_own CO.dict (CO.free k hfr.1) rfl (by rw [hl,g1])) (rep_handed g2) (q v _ g2)) hx) ro
theorem method_ok {K : Frag} (hs : St C μ H s.heap) (hK : K.In C.base) {i c : Nat} {fs : List (Nat × PV)} (CO : ClsOk K C.tab c) {k : Nat} {f : Addr} {pl : Sem Bool} {Q : Value × List Value → Shared → Prop} (ro : Rep μ s.heap (.ref i) va) (hx : H[i]? = some (.inst c fs))
    (hk : k < C.tab.nn) (hnf : fs.lookup k = none) (hf : findIn K (.ref (C.tab.cls c)) (C.tab.nm k) = some (some (.ref f))) (ht : typeIn K (.ref f) = some (.type "function")) (q : Q (.ref f,[va]) s) :
    wpAny (model C.prog C.w) A (getMethod va (C.tab.nm k) pl) Q E s := by
  obtain ⟨x,d,rfl,e0,ob⟩ := repRef hs.sim ro hx
  obtain ⟨hn,e1,hfree,m,hm,hfs⟩ := ob
  have X : K.In s.heap := fun a o q => hs.base _ _ (hK a o q)
  obtain ⟨od,I,hl⟩ := inst_at e1 hm.1.ns
  have := hfs k hk
  rw [hnf] at this
  exact method_fn X I CO.get CO.getattr hf ht (by unfold shadowIn; dsimp only; rw [hl,this]; rfl) q
theorem lookup_fput : ∀ (fs : List (Nat × PV)) (k : Nat) (v : PV) (j : Nat),(fput fs k v).lookup j = if j = k then some v else fs.lookup j
  | [],k,v,j => by
    show (match j == k with | true => some v | false => none) = _
    by_cases h : j = k
    · rw [if_pos h,beq_iff_eq.mpr h]
    · rw [if_neg h,beq_eq_false_iff_ne.mpr h]; rfl
  | (i,w) :: fs,k,v,j => by
    unfold fput
    by_cases h : i = k
    · rw [if_pos h,List.lookup_cons,List.lookup_cons]
      by_cases h2 : j = k
      · rw [if_pos h2,beq_iff_eq.mpr h2]
      · rw [if_neg h2,beq_eq_false_iff_ne.mpr h2,beq_eq_false_iff_ne.mpr (h ▸ h2)]
    · rw [if_neg h,List.lookup_cons,List.lookup_cons,lookup_fput fs]
      by_cases h2 : j = i
      · rw [beq_iff_eq.mpr h2]
        show some w = _
        rw [if_neg (fun z => h (h2.symm.trans z))]
      · rw [beq_eq_false_iff_ne.mpr h2]
theorem mem_fput (fs : List (Nat × PV)) (k : Nat) (v : PV) : (k,v) ∈ fput fs k v := by
  induction fs with
  | nil => simp [fput]
  | cons p fs ih => obtain ⟨i,w⟩ := p; unfold fput; split <;> simp [ih]
theorem keys_fput (fs : List (Nat × PV)) (k : Nat) (v : PV) : ∀ p ∈ fs,∃ w,(p.1,w) ∈ fput fs k v := by
  induction fs with
  | nil => intro p hp; fail "=hp"
  | cons q fs ih =>
    obtain ⟨i,w⟩ := q
    intro p hp
    unfold fput
    split
    · rename_i h
      rcases List.mem_cons.mp hp with rfl | hp
      · exact ⟨v,by simp [h]⟩
      · exact ⟨p.2,List.mem_cons_of_mem _ hp⟩
    · rcases List.mem_cons.mp hp with rfl | hp
      · exact ⟨w,by simp⟩
      · obtain ⟨u,hu⟩ := ih p hp
        exact ⟨u,List.mem_cons_of_mem _ hu⟩
theorem length_fput (fs : List (Nat × PV)) (k : Nat) (v : PV) : (fput fs k v).length ≤ fs.length + 1 := by
  induction fs with
  | nil => simp [fput]
  | cons p fs ih => obtain ⟨i,w⟩ := p; unfold fput; split <;> simp; fail "l"
theorem set_inst {K : Frag} {t : Text} (hs : St C μ H s.heap) (hK : K.In C.base) {c : Nat} {fs : List (Nat × PV)} {i : Nat} {x d : Addr} (CO : ClsOk K C.tab c) {k : Nat} (fr : C.tab.free c k) (hkn : k < C.tab.nn) (ln : fs.length < 90)
    (ob : ObjRep C.tab μ s.heap x d (.inst c fs)) (e0 : μ.os[i]? = some (x,d)) (rv : Rep μ s.heap b vb)
    {Q : Unit → Shared → Prop} (q : ∀ h' tk',Grow [] μ μ s.heap h' → St C μ (H.set i (.inst c (fput fs k b))) h' → Q () { s with heap := h',toks := tk' }) :
    wpAny (model C.prog C.w) A (setAttr (.ref x) (C.tab.nm k) vb) Q E s := by
  obtain ⟨hn,e1,hfree,m,hm,hf⟩ := ob
  have X : K.In s.heap := fun a o q => hs.base _ _ (hK a o q)
  obtain ⟨od,I,hl⟩ := inst_at e1 hm.1.ns
  refine set_plain X I CO.set (osa_open X I CO.over (by unfold takerIn; rw [CO.free k fr]; rfl) fun b' => ?_)
  obtain ⟨cd,hc,hd'⟩ := any_some CO.dict
  refine wpAny_bind (wpAny_pure (wpAny_bind (wpAny_bind (wpAny_loadPart e1 (wpAny_bind ((looks_clsIn X hc) _ _ _ _ (fun Y Y e => e) ?_))))))
  rw [hd']
  refine wpAny_pure (a := some d) (wpAny_bind (wpAny_pure (wpAny_bind ?_)))
  refine wpAny_nsSet1 hm.1 fun h' n' sb => ?_
  have xd : x ≠ d := fun z => hn (z ▸ List.mem_map.mpr ⟨(x,d),List.mem_of_getElem? e0,rfl⟩)
  have wi : Within (fun y => if y = C.tab.nm k then some vb else m y) ((fput fs k b).map fun p => C.tab.nm p.1) := by
    intro y hy
    by_cases hyk : y = C.tab.nm k
    · exact List.mem_map.mpr ⟨(k,b),mem_fput fs k b,hyk.symm⟩
    · have hy : (if y = C.tab.nm k then some vb else m y) ≠ none := hy
      rw [if_neg hyk] at hy
      obtain ⟨p,hp,e⟩ := List.mem_map.mp (hm.2 y hy)
      obtain ⟨w,hw⟩ := keys_fput fs k b p hp
      exact List.mem_map.mpr ⟨(p.1,w),hw,e⟩
  have p := hs.put e0 sb ((by obtain ⟨o,_,_,ho,_⟩ := n'; exact ⟨o,ho⟩)) (o' := .inst c (fput fs k b)) fun g => by
    refine ⟨hn,(sb.2 x xd).trans e1,⟨hfree.1,fun j hj => ?_⟩,_,⟨n',wi⟩,fun j hj => ?_⟩
    · rw [lookup_fput] at hj
      by_cases z : j = k
      · rw [z]; exact ⟨fr,hkn⟩
      · rw [if_neg z] at hj; exact hfree.2 j hj
    · rw [lookup_fput]
      by_cases hjk : j = k
      · rw [if_pos hjk,hjk]
        exact ⟨vb,if_pos rfl,rv.grow0 g⟩
      · have := hf j hj
        rw [if_neg hjk,if_neg fun z => hjk (CO.inj j k hj hkn z)]
        generalize fs.lookup j = y at this ⊢
        cases y with
        | some y => obtain ⟨w,a,b⟩ := this; exact ⟨w,a,b.grow0 g⟩
        | none => exact this
  obtain ⟨o',es',n'',ho',hd'',cnt⟩ := n'.count wi
  rw [List.length_map] at cnt
  have ln := length_fput fs k b
  refine wpAny_bind (wpAny_lookBehind ho' (by rw [hd'']; exact pastItsLine_dict (by rw [sizeLine_eq]; fail "l")) ?_)
  exact wpAny_pure (q h' _ p.2 p.1)
theorem setattr_ok {K : Frag} {t : Text} (hs : St C μ H s.heap) (hK : K.In C.base) (cls : ∀ c,c < C.tab.nc → ClsOk K C.tab c) (hfr : ∀ c k,k < t.nn → t.meth c k = none → C.tab.free c k) (hnn : t.nn = C.tab.nn)
    {k : Nat} {H' : AH} (ro : Rep μ s.heap a va) (rv : Rep μ s.heap b vb) (e : asetattr t H a k b = some H')
    {Q : Unit → Shared → Prop} (q : ∀ h' tk',Grow [] μ μ s.heap h' → St C μ H' h' → Q () { s with heap := h',toks := tk' }) :
    wpAny (model C.prog C.w) A (setAttr va (C.tab.nm k) vb) Q E s :=
  asR_some (P := fun a => Rep μ s.heap a va → wpAny _ A (setAttr va (C.tab.nm k) vb) Q E s) e (fun i e ro => bd_some e fun o hx e => oasI_some (P := fun o => H[i]? = some o → wpAny _ A (setAttr va (C.tab.nm k) vb) Q E s) e (fun c fs e hx =>
    repI (P := fun va => wpAny _ A (setAttr va (C.tab.nm k) vb) Q E s) hs.sim ro hx fun x d ob e0 => chk_some e fun hk e =>
      set_inst (t := t) (H := H) hs hK (cls c ob.2.2.1.1) (hfr c k hk.1 hk.2.1) (hnn ▸ hk.1) hk.2.2 ob e0 rv (just_some (P := fun H' => (∀ h' tk',Grow [] μ μ s.heap h' → St C μ H' h' → Q () { s with heap := h',toks := tk' }) → ∀ h' tk',Grow [] μ μ s.heap h' → St C μ (H.set i (.inst c (fput fs k b))) h' → Q () { s with heap := h',toks := tk' }) e id q)) hx) ro
end
end
section
open PySem PySem.W PyProof.Rows PySem.Calls PySem.SeqAt
set_option maxRecDepth 100000
noncomputable def W (env : Env) : List Addr := env.locals :: env.cells.map (·.2)
noncomputable def VarIs (env : Env) (h : Heap) (x : Str) (v : Value) : Prop :=
  (env.kindOf x = some .local ∧ ∃ m,h.Ns env.locals m ∧ m x = some v) ∨
  ((env.kindOf x = some .cell ∨ env.kindOf x = some .free) ∧ (x == ("__classdict__" : Str)) = false ∧ ∃ c,env.cells.lookup x = some c ∧ h.IsCell c (some v))
noncomputable def LocRep (env : Env) (μ : Mu) (h : Heap) (vis : Vis) (l : Loc) : Prop :=
  ∀ n x,(n,x) ∈ vis → ∀ pv,l[n]? = some (some pv) → ∃ v,VarIs env h x v ∧ Rep μ h pv v
structure FrOk (C : Ctx) (env : Env) (μ : Mu) (h : Heap) : Prop where
  kind : env.scope.kind = .function
  glob : env.globals = mainGlobals
  blt : env.builtins = builtinsNs
  ns : ∃ m,h.Ns env.locals m
  cells : ∀ p ∈ env.cells,∃ v,h.IsCell p.2 v
  apart : ∀ x y c,env.cells.lookup x = some c → env.cells.lookup y = some c → x = y
  notloc : ∀ p ∈ env.cells,p.2 ≠ env.locals
  new : ∀ a ∈ W env,C.base.get? a = none ∧ a ∉ μ.cs
section
variable {C : Ctx} {A : Around} {μ μ' : Mu} {H : AH} {s : Shared} {env : Env} {h h' : Heap} {vis : Vis} {l : Loc} {E : Value → Shared → Prop}
theorem mem_lookup {α β : Type} [BEq α] [LawfulBEq α] {l : List (α × β)} {a : α} {b : β} (e : l.lookup a = some b) : (a,b) ∈ l := by
  induction l with
  | nil => fail "=e"
  | cons p l ih =>
    obtain ⟨x,y⟩ := p
    rw [List.lookup_cons] at e
    split at e
    · rename_i q; fail "=e"; rw [eq_of_beq q]; exact .head _
    · exact .tail _ (ih e)
theorem FrOk.noSeq (F : FrOk C env μ h) : NoSeq (W env) μ h := by
  intro a ha
  refine .inr fun o e vs n q => ?_
  rcases List.mem_cons.mp ha with rfl | ha
  · obtain ⟨m,o',es,ep,e1,e2,_⟩ := F.ns
    rw [e] at e1; fail "=e1"; rw [q] at e2; fail "=e2"
  · obtain ⟨p,hp,rfl⟩ := List.mem_map.mp ha
    obtain ⟨v,o',e1,e2⟩ := F.cells p hp
    rw [e] at e1; fail "=e1"; rw [q] at e2; fail "=e2"
theorem FrOk.live (F : FrOk C env μ h) : ∀ a ∈ W env,∃ o,h.get? a = some o := by
  intro a ha
  rcases List.mem_cons.mp ha with rfl | ha
  · obtain ⟨m,o',es,ep,e1,_⟩ := F.ns; exact ⟨_,e1⟩
  · obtain ⟨p,hp,rfl⟩ := List.mem_map.mp ha
    obtain ⟨v,o',e1,_⟩ := F.cells p hp; exact ⟨_,e1⟩
theorem FrOk.wkeep (F : FrOk C env μ h) (g : Grow [] μ μ' h h') : ∀ a ∈ W env,∀ o,h.get? a = some o → h'.get? a = some o :=
  fun a ha o e => g.keep a o e (F.new a ha).2 (by simp)
theorem Ns_at {h h' : Heap} {a m} (hn : h.Ns a m) (k : ∀ o,h.get? a = some o → h'.get? a = some o) : h'.Ns a m :=
  (by obtain ⟨o,es,ep,x,r⟩ := hn; exact ⟨o,es,ep,k _ x,r⟩)
theorem IsCell_at {h h' : Heap} {a v} (hn : h.IsCell a v) (k : ∀ o,h.get? a = some o → h'.get? a = some o) : h'.IsCell a v :=
  (by obtain ⟨o,x,r⟩ := hn; exact ⟨o,k _ x,r⟩)
theorem Ns_one {h : Heap} {a m m'} (x : h.Ns a m) (y : h.Ns a m') (z : Str) : m z = m' z := by
  obtain ⟨o,es,ep,e1,e2,_,e3⟩ := x
  obtain ⟨o',es',ep',f1,f2,_,f3⟩ := y
  rw [e1] at f1; cases f1; rw [e2] at f2; cases f2
  rw [← e3,← f3]
theorem W_loc : env.locals ∈ W env := .head _
theorem W_cell {p : Str × Addr} (hp : p ∈ env.cells) : p.2 ∈ W env := .tail _ (List.mem_map.mpr ⟨p,hp,rfl⟩)
theorem FrOk.grow (F : FrOk C env μ h) (g : Grow [] μ μ' h h') : FrOk C env μ' h' where
  kind := F.kind
  glob := F.glob
  blt := F.blt
  ns := (by obtain ⟨m,hm⟩ := F.ns; exact ⟨m,Ns_at hm (F.wkeep g _ W_loc)⟩)
  cells := fun p hp => (by obtain ⟨v,hv⟩ := F.cells p hp; exact ⟨v,IsCell_at hv (F.wkeep g _ (W_cell hp))⟩)
  apart := F.apart
  notloc := F.notloc
  new := fun a ha => ⟨(F.new a ha).1,(by obtain ⟨_,ho⟩ := F.live a ha; exact g.notin ho (F.new a ha).2)⟩
theorem VarIs.keep {x : Str} {v : Value} (k : ∀ a ∈ W env,∀ o,h.get? a = some o → h'.get? a = some o) (hv : VarIs env h x v) : VarIs env h' x v :=
  hv.imp (fun ⟨hk,mm,hn,hx⟩ => ⟨hk,mm,Ns_at hn (k _ W_loc),hx⟩) fun ⟨hk,hd,c,hc,hv⟩ => ⟨hk,hd,c,hc,IsCell_at hv (k _ (W_cell (p := (x,c)) (mem_lookup hc)))⟩
theorem LocRep.grow (L : LocRep env μ h vis l) (F : FrOk C env μ h) (g : Grow [] μ μ' h h') : LocRep env μ' h' vis l := fun n x m pv e =>
  (by obtain ⟨v,hv,r⟩ := L n x m pv e; exact ⟨v,hv.keep (F.wkeep g),r.grow0 g⟩)
theorem LocRep.set {n : Nat} {x : Str} {pv : PV} {v : Value} (L : LocRep env μ h vis l) (hu : ∀ m,(m,x) ∈ vis → m = n) (hu' : ∀ y,(n,y) ∈ vis → y = x) (hl : n < l.length) (hv : VarIs env h' x v) (ho : ∀ y w,y ≠ x → VarIs env h y w → VarIs env h' y w)
    (gr : ∀ {x v},Rep μ h x v → Rep μ h' x v) (r : Rep μ h pv v) : LocRep env μ h' vis (l.set n (some pv)) := fun n' y hy pv' e => by
  by_cases hyx : y = x
  · rw [hyx] at hy ⊢
    rw [hu n' hy,List.getElem?_set_self hl] at e
    exact ⟨v,hv,gr (just_some (P := fun p => Rep μ h p v) (Option.some.inj e) r)⟩
  · rw [List.getElem?_set_ne (fun z : n = n' => hyx (hu' y (z ▸ hy)))] at e
    obtain ⟨w,hw,rw'⟩ := L n' y hy pv' e; exact ⟨w,ho y w hyx hw,gr rw'⟩
theorem load_ok (F : FrOk C env μ s.heap) {x : Str} {v : Value} {Q : Value → Shared → Prop} (hv : VarIs env s.heap x v) (q : Q v s) : wpAny (model C.prog C.w) A (loadName env x) Q E s := by
  rcases hv with ⟨hk,mm,hn,hx⟩ | ⟨hk,hd,c,hc,hv⟩
  · exact wpAny_loadName_local F.kind hk hn hx q
  · rcases hk with hk | hk
    · exact wpAny_loadName_cell F.kind hk hc hv q
    · exact wpAny_loadName_free F.kind hk hc hv q hd
theorem St.side {a : Addr} (hs : St C μ H h) (sb : Heap.SameBut a h h') (na : a ∉ μ.cs) (nb : C.base.get? a = none) (nq : NoSeq [a] μ h) (np : ∀ o,h.get? a = some o → o.data ≠ .plain)
    (al : ∃ o,h'.get? a = some o) : Grow [a] μ μ h h' ∧ St C μ H h' :=
  hs.sideW (fun b o w e => (sb.2 b fun z => w (z ▸ .head _)).trans e) (fun b m => List.mem_singleton.mp m ▸ na) (fun b m => List.mem_singleton.mp m ▸ nb) nq (fun b m => List.mem_singleton.mp m ▸ np) (fun b m Y Y => List.mem_singleton.mp m ▸ al)
theorem FrOk.side (hs : St C μ H h) (F : FrOk C env μ h) {a : Addr} (ha : a ∈ W env) (sb : Heap.SameBut a h h') (al : ∃ o,h'.get? a = some o) : Grow [a] μ μ h h' ∧ St C μ H h' := by
  refine hs.side sb (F.new a ha).2 (F.new a ha).1 (fun b hb => ?_) (fun o e q => ?_) al
  · rw [List.mem_singleton.mp hb]; exact F.noSeq a ha
  · rcases List.mem_cons.mp ha with rfl | ha
    · obtain ⟨m,o',es,ep,e1,e2,_⟩ := F.ns
      rw [e] at e1; fail "=e1"; rw [q] at e2; fail "=e2"
    · obtain ⟨p,hp,rfl⟩ := List.mem_map.mp ha
      obtain ⟨v,o',e1,e2⟩ := F.cells p hp
      rw [e] at e1; fail "=e1"; rw [q] at e2; fail "=e2"
theorem store_ok (hs : St C μ H s.heap) (F : FrOk C env μ s.heap) (L : LocRep env μ s.heap vis l) {n : Nat} {x : Str} (hx : (n,x) ∈ vis) (hu : ∀ m,(m,x) ∈ vis → m = n) (hu' : ∀ y,(n,y) ∈ vis → y = x) {pv : PV} {v : Value} (r : Rep μ s.heap pv v)
    (hk : env.kindOf x = some .local ∨ (env.kindOf x = some .cell ∧ (x == ("__classdict__" : Str)) = false ∧ (env.cells.lookup x).isSome = true)) (hl : n < l.length)
    {Q : Unit → Shared → Prop} (q : ∀ h' tk' a,a ∈ W env → (env.kindOf x = some .local → a = env.locals) → Grow [a] μ μ s.heap h' → St C μ H h' → FrOk C env μ h' → LocRep env μ h' vis (l.set n (some pv)) → Q () { s with heap := h',toks := tk' }) :
    wpAny (model C.prog C.w) A (storeName env x v) Q E s := by
  have sq : ∀ a ∈ W env,NoSeq [a] μ s.heap := fun a ha b hb => by rw [List.mem_singleton.mp hb]; exact F.noSeq a ha
  rcases hk with hk | ⟨hk,hd,hc⟩
  · obtain ⟨m,hm⟩ := F.ns
    refine wpAny_storeName_local hk hm (fun h' hn' sb => ?_) (by rw [F.kind]; rfl)
    obtain ⟨g,st⟩ := F.side hs W_loc sb ((by obtain ⟨o,es,ep,e1,e2,_⟩ := hn'; exact ⟨o,e1⟩))
    have ck : ∀ p ∈ env.cells,∀ o,s.heap.get? p.2 = some o → h'.get? p.2 = some o := fun p hp o e => (sb.2 _ (F.notloc p hp)).trans e
    exact q h' _ _ W_loc (fun Y => rfl) g st ⟨F.kind,F.glob,F.blt,⟨_,hn'⟩,fun p hp => (by obtain ⟨v,hv⟩ := F.cells p hp; exact ⟨v,IsCell_at hv (ck p hp)⟩),F.apart,F.notloc,F.new⟩
      (L.set hu hu' hl (.inl ⟨hk,_,hn',if_pos rfl⟩) (fun y w hyx hw => hw.imp (fun ⟨hk',mm,hn2,hx2⟩ => ⟨hk',_,hn',(if_neg hyx).trans ((Ns_one hm hn2 y).trans hx2)⟩)
        fun ⟨hk',hd',c,hc',hv'⟩ => ⟨hk',hd',c,hc',IsCell_at hv' (ck (y,c) (mem_lookup hc'))⟩) (fun r => r.grow g (sq _ W_loc)) r)
  · obtain ⟨c,hc⟩ := Option.isSome_iff_exists.mp hc
    have hcm := mem_lookup hc
    obtain ⟨v₀,hv₀⟩ := F.cells _ hcm
    refine wpAny_storeName_cell F.kind hk hc hv₀ fun h' hn' sb => ?_
    have cw : c ∈ W env := W_cell (p := (x,c)) hcm
    obtain ⟨g,st⟩ := F.side hs cw sb ((by obtain ⟨o,e1,e2⟩ := hn'; exact ⟨o,e1⟩))
    have lk : ∀ o,s.heap.get? env.locals = some o → h'.get? env.locals = some o := fun o e => (sb.2 _ (Ne.symm (F.notloc _ hcm))).trans e
    exact q h' _ _ cw (fun z => by rw [hk] at z; fail "=z") g st ⟨F.kind,F.glob,F.blt,(by obtain ⟨m,hm⟩ := F.ns; exact ⟨m,Ns_at hm lk⟩),fun p hp => if z : p.2 = c then ⟨_,z ▸ hn'⟩ else (by obtain ⟨v,hv⟩ := F.cells p hp; exact ⟨v,IsCell_at hv fun o e => (sb.2 _ z).trans e⟩),F.apart,F.notloc,F.new⟩
      (L.set hu hu' hl (.inr ⟨.inl hk,hd,c,hc,hn'⟩) (fun y w hyx hw => hw.imp (fun ⟨hk',mm,hn2,hx2⟩ => ⟨hk',mm,Ns_at hn2 lk,hx2⟩)
        fun ⟨hk',hd',c',hc',hv'⟩ => ⟨hk',hd',c',hc',IsCell_at hv' fun o e => (sb.2 _ fun z => hyx (F.apart _ _ _ (z ▸ hc') hc)).trans e⟩) (fun r => r.grow g (sq _ cw)) r)
end
end
section
open PySem PySem.W PyProof.Rows PySem.Calls PySem.SeqAt
set_option maxRecDepth 100000
structure Room (A : Around) (d : Nat) : Prop where
  handled : A.handled = none
  depth : A.depth + 2 * d + 2 < recursionLimit
  units : A.units + 20 * d + 30 < cLine
structure RoomC (A : Around) (d : Nat) : Prop where
  handled : A.handled = none
  depth : A.depth + 2 * d + 1 < recursionLimit
  units : A.units + 20 * d + 20 < cLine
theorem Room.c {A : Around} {d : Nat} (r : Room A d) : RoomC A d := ⟨r.handled,by have := r.depth; fail "l",by have := r.units; fail "l"⟩
theorem RoomC.deeper {A : Around} {d : Nat} (r : RoomC A (d + 1)) (env : Env) : Room (A.deeper env) d :=
  ⟨r.handled,by have := r.depth; show A.depth + 1 + 2 * d + 2 < _; fail "l",by have := r.units; show A.units + 3 + 20 * d + 30 < _; fail "l"⟩
structure Cx (C : Ctx) (d : Nat) (A : Around) (se : SE) (env : Env) (μ : Mu) (H : AH) (h : Heap) (l : Loc) : Prop where
  room : Room A d
  names : env.scope.names = se.ns
  cells : ∀ x,se.ns.lookup x = some .cell → (env.cells.lookup x).isSome = true
  vis : visOk se.vis = true
  blank : ∀ n,se.lo ≤ n → ∀ v,l[n]? ≠ some (some v)
  st : St C μ H h
  fr : FrOk C env μ h
  loc : LocRep env μ h se.vis l
section
variable {C : Ctx} {d : Nat} {A : Around} {se : SE} {env : Env} {μ μ' : Mu} {H H' : AH} {h h' : Heap} {l : Loc} {s : Shared}
theorem Cx.grow (c : Cx C d A se env μ H h l) (g : Grow [] μ μ' h h') (st' : St C μ' H' h') : Cx C d A se env μ' H' h' l :=
  ⟨c.room,c.names,c.cells,c.vis,c.blank,st',c.fr.grow g,c.loc.grow c.fr g⟩
structure Know (C : Ctx) (t : Text) (N : Nm) where
  K : Frag
  hK : K.In C.base
  mg : Str → Option Value
  mb : Str → Option Value
  hmg : C.base.Ns mainGlobals mg
  hmb : C.base.Ns builtinsNs mb
  fa : Nat → Addr
  isF : Nat → Prop
  nm : C.tab.nm = N.nm
  nn : t.nn = C.tab.nn
  nnN : N.nn = C.tab.nn
  nc : t.nc = C.tab.nc
  small : C.tab.nn ≤ 1000
  const : ∀ g,g < N.ng → ∃ v,mg (N.gname g) = some v ∧ Rep ⟨[],[]⟩ C.base (t.const g) v
  fn : ∀ f,N.nf f = true → isF f ∧ mg (N.fname f) = some (.ref (fa f))
  keep : ∀ f,isF f → keepIn K (.ref (fa f)) = true
  cls : ∀ c,c < t.nc → mg (N.cname c) = some (.ref (C.tab.cls c)) ∧ keepIn K (.ref (C.tab.cls c)) = true ∧ makesIn K (C.tab.cls c) = true ∧
    findIn K (.ref (C.tab.cls c)) "__init__" = some (some (.ref (fa (t.init c)))) ∧ typeIn K (.ref (fa (t.init c))) = some (.type "function") ∧ isF (t.init c)
  clsOk : ∀ c,c < C.tab.nc → ClsOk K C.tab c
  meth : ∀ c k f,c < C.tab.nc → t.meth c k = some f → k < C.tab.nn ∧ findIn K (.ref (C.tab.cls c)) (C.tab.nm k) = some (some (.ref (fa f))) ∧ typeIn K (.ref (fa f)) = some (.type "function") ∧ isF f
  free : ∀ c k,k < t.nn → t.meth c k = none → C.tab.free c k
  bi : ∀ b,mg (bnameOf b) = none ∧ mb (bnameOf b) = some (biv b)
  range : mg "range" = none ∧ mb "range" = some (.type "range")
  zip : mg "zip" = none ∧ mb "zip" = some (.type "zip")
  rev : mg "reversed" = none ∧ mb "reversed" = some (.type "reversed")
theorem Rep.base (st : St C μ H h) {x : PV} {v : Value} (r : Rep ⟨[],[]⟩ C.base x v) : Rep μ h x v :=
  (Rep.ghost (μ := ⟨[],[]⟩) (μ' := ⟨[],μ.gs⟩) rfl (fun a o e Y m => by rw [(st.ghost a m).2.2] at e; fail "=e") r).grow0 (μ := ⟨[],μ.gs⟩)
    ⟨⟨μ.os,rfl,fun p hp => st.fresh p hp⟩,rfl,fun a o e Y Y => st.base a o e,fun a o e => ⟨o,st.base a o e⟩⟩
variable {t : Text} {N : Nm} {cf : CF}
noncomputable def SX (C : Ctx) (t : Text) (cf : CF) (d : Nat) (x : X) (se : SE) (e : Expr) : Prop :=
  ∀ ⦃A env μ H s l pv H'⦄,Cx C d A se env μ H s.heap l → aeval t cf x l H = some (pv,H') → Ev C A (eval e env) μ H s pv H'
noncomputable def EvB (C : Ctx) (A : Around) (m : Sem Bool) (μ : Mu) (s : Shared) (b : Bool) (H' : AH) : Prop :=
  ∀ Q : Bool → Shared → Prop,(∀ μ' h' tk',Grow [] μ μ' s.heap h' → St C μ' H' h' → Q b { s with heap := h',toks := tk' }) → wpAny (model C.prog C.w) A m Q (fun Y Y => False) s
noncomputable def SB (C : Ctx) (t : Text) (cf : CF) (d : Nat) (x : X) (se : SE) (e : Expr) : Prop :=
  ∀ ⦃A env μ H s l b H'⦄,Cx C d A se env μ H s.heap l → aeval t cf x l H = some (.bool b,H') → EvB C A (isTrue e env (eval e env)) μ s b H'
noncomputable def EvL (C : Ctx) (A : Around) (m : Sem (List Value)) (μ : Mu) (s : Shared) (pvs : List PV) (H' : AH) : Prop :=
  ∀ Q : List Value → Shared → Prop,(∀ vs μ' h' tk',Grow [] μ μ' s.heap h' → St C μ' H' h' → Reps μ' h' pvs vs → Q vs { s with heap := h',toks := tk' }) → wpAny (model C.prog C.w) A m Q (fun Y Y => False) s
noncomputable def SXs (C : Ctx) (t : Text) (cf : CF) (d : Nat) (xs : List X) (se : SE) (es : List Expr) : Prop :=
  ∀ ⦃A env μ H s l pvs H' pos⦄,Cx C d A se env μ H s.heap l → aevals t cf xs l H = some (pvs,H') → EvL C A (spliced (backTo pos (starEach es env))) μ s pvs H'
theorem rep_bool_inv {μ h b v} (r : Rep μ h (.bool b) v) : v = .bool b := r
theorem Ev.after {m : Sem Value} {μ1 : Mu} {h1 : Heap} {tk : Nat} {H1 : AH} {pv : PV} {Q : Value → Shared → Prop} (x : Ev C A m μ1 H1 { s with heap := h1,toks := tk } pv H') (g : Grow [] μ μ1 s.heap h1)
    (q : ∀ v μ' h' tk',Grow [] μ μ' s.heap h' → St C μ' H' h' → Rep μ' h' pv v → Q v { s with heap := h',toks := tk' }) : wpAny (model C.prog C.w) A m Q (fun Y Y => False) { s with heap := h1,toks := tk } :=
  x Q fun v μ2 h2 tk2 g2 st2 r2 => q v μ2 h2 tk2 (g.trans g2) st2 r2
theorem EvB.after {m : Sem Bool} {μ1 : Mu} {h1 : Heap} {tk : Nat} {b : Bool} {Q : Bool → Shared → Prop} (x : EvB C A m μ1 { s with heap := h1,toks := tk } b H') (g : Grow [] μ μ1 s.heap h1)
    (q : ∀ μ' h' tk',Grow [] μ μ' s.heap h' → St C μ' H' h' → Q b { s with heap := h',toks := tk' }) : wpAny (model C.prog C.w) A m Q (fun Y Y => False) { s with heap := h1,toks := tk } :=
  x Q fun μ2 h2 tk2 g2 st2 => q μ2 h2 tk2 (g.trans g2) st2
theorem ev_two {a b : X} {l' r' : Expr} (c : Cx C d A se env μ H s.heap l) (ha : SX C t cf d a se l') (hb : SX C t cf d b se r') {v w : PV} {H1 H2 : AH} (e1 : aeval t cf a l H = some (v,H1)) (e2 : aeval t cf b l H1 = some (w,H2)) {Q : Value → Value → Shared → Prop}
    (q : ∀ u u' μ2 h2 tk2,Grow [] μ μ2 s.heap h2 → St C μ2 H2 h2 → Rep μ2 h2 v u → Rep μ2 h2 w u' → Q u u' { s with heap := h2,toks := tk2 }) :
    wpAny (model C.prog C.w) A (eval l' env) (fun u s1 => wpAny (model C.prog C.w) A (eval r' env) (fun u' s2 => Q u u' s2) (fun Y Y => False) s1) (fun Y Y => False) s :=
  ha c e1 _ fun u μ1 h1 tk1 g1 st1 r1 => hb (s := { s with heap := h1,toks := tk1 }) (c.grow g1 st1) e2 _ fun u' μ2 h2 tk2 g2 st2 r2 => q u u' μ2 h2 tk2 (g1.trans g2) st2 (r1.grow0 g2) r2
theorem ev_at {m : Sem Value} {pv pv' : PV} (c : Cx C d A se env μ H s.heap l) (e : some (pv',H) = some (pv,H')) (h : ∀ Q : Value → Shared → Prop,(∀ v tk,Rep μ s.heap pv' v → Q v { s with toks := tk }) → wpAny (model C.prog C.w) A m Q (fun Y Y => False) s) : Ev C A m μ H s pv H' :=
  ret_some (P := Ev C A m μ H s) e (.same c.st h)
theorem s_none {se k p} : SX C t cf d .none se (.Constant .none k p) := fun Y Y Y Y Y Y Y Y c e => ev_at c e fun Y q => wpAny_Constant_none (q _ _ rep_none)
theorem s_bool {se k p b} : SX C t cf d (.bool b) se (.Constant (.bool b) k p) := fun Y Y Y Y Y Y Y Y c e => ev_at c e fun Y q => wpAny_Constant_bool (q _ _ rep_bool)
theorem s_int {se k p i} : SX C t cf d (.int i) se (.Constant (.int i) k p) := fun Y Y Y Y Y Y Y Y c e => ev_at c e fun Y q => wpAny_Constant_int (q _ _ rep_int)
theorem s_str {se k p} {x : List Nat} {y : Str} (hy : y.cps.toList = x) (hl : x.length ≤ 1000) (hc : ∀ c ∈ x,c < 1114112) : SX C t cf d (.str x) se (.Constant (.str y) k p) := by
  obtain ⟨⟨z⟩⟩ := y
  fail "=hy"
  exact fun Y Y Y Y Y Y Y Y c e => ev_at c e fun Y q => wpAny_Constant_str (q _ _ (rep_str (Nat.le_trans hl (by decide)) hc))
theorem s_neg {se k p p' i} : SX C t cf d (.neg i) se (.UnaryOp .USub (.Constant (.int i) k p) p') := fun Y Y Y Y Y Y Y Y c e => ev_at c e fun Y q => wpAny_UnaryOp (wpAny_Constant_int (PySem.P.neg_int (q _ _ rep_int)))
theorem noDbg_eq {x : Str} (h : noDbg x = true) : (x == ("__debug__" : Str)) = false := by unfold noDbg at h; simpa using h
theorem isLoc_mem {n : Nat} {x : Str} (h : isLoc se n x = true) : (n,x) ∈ se.vis ∧ (x == ("__debug__" : Str)) = false := by
  unfold isLoc at h
  rw [Bool.and_eq_true] at h
  obtain ⟨p,hp,q⟩ := List.any_eq_true.mp h.1
  rw [Bool.and_eq_true,beq_iff_eq,beq_iff_eq] at q
  obtain ⟨a,b⟩ := p
  obtain ⟨rfl,rfl⟩ := q
  exact ⟨hp,noDbg_eq h.2⟩
theorem s_loc {n x p} (hx : isLoc se n x = true) : SX C t cf d (.loc n) se (.Name x p) := fun Y Y Y Y Y Y Y Y c e =>
  bd_some e fun o h1 e => bd_some e fun v h2 e => ev_at c e fun Y q => (by obtain ⟨_,hv',r⟩ := c.loc n x (isLoc_mem hx).1 v (h2 ▸ h1); exact wpAny_Name (load_ok c.fr hv' (q _ _ r)) (isLoc_mem hx).2)
theorem gl_kind (c : Cx C d A se env μ H h l) {x : Str} (hx : isGl se x = true) : env.kindOf x = some .globalImplicit ∧ (x == ("__debug__" : Str)) = false := by
  unfold isGl at hx
  rw [Bool.and_eq_true,beq_iff_eq] at hx
  exact ⟨by unfold Env.kindOf; rw [c.names]; exact hx.1,noDbg_eq hx.2⟩
theorem loadName_gl {x : Str} {E : Value → Shared → Prop} {Q : Value → Shared → Prop} (hk : env.scope.kind = .function) (hx : env.kindOf x = some .globalImplicit) (h : wpAny (model C.prog C.w) A (loadGlobal env x) Q E s) :
    wpAny (model C.prog C.w) A (loadName env x) Q E s := by
  unfold loadName
  simp only [Env.blockKind,hk,hx,ScopeKind.isAnnotationScope,Bool.false_and,Bool.false_eq_true,if_false]
  exact h
theorem load_gl (kn : Know C t N) (c : Cx C d A se env μ H s.heap l) {x : Str} {p : Pos} {v : Value} {E : Value → Shared → Prop} {Q : Value → Shared → Prop} (hx : isGl se x = true) (hv : kn.mg x = some v) (q : Q v s) :
    wpAny (model C.prog C.w) A (eval (.Name x p) env) Q E s := by
  obtain ⟨hk,hd⟩ := gl_kind c hx
  refine wpAny_Name (loadName_gl c.fr.kind hk (loadGlobal_global (mg := kn.mg) ?_ hv q)) hd
  rw [c.fr.glob]
  exact kn.hmg.keeps c.st.base
theorem load_bi (kn : Know C t N) (c : Cx C d A se env μ H s.heap l) {x : Str} {p : Pos} {v : Value} {E : Value → Shared → Prop} {Q : Value → Shared → Prop} (hx : isGl se x = true) (hv : kn.mg x = none ∧ kn.mb x = some v) (q : Q v s) :
    wpAny (model C.prog C.w) A (eval (.Name x p) env) Q E s := by
  obtain ⟨hk,hd⟩ := gl_kind c hx
  refine wpAny_Name (loadName_gl c.fr.kind hk (loadGlobal_builtin (mg := kn.mg) (mb := kn.mb) ?_ hv.1 ?_ hv.2 q)) hd
  · rw [c.fr.glob]; exact kn.hmg.keeps c.st.base
  · rw [c.fr.blt]; exact kn.hmb.keeps c.st.base
theorem s_gl (kn : Know C t N) {g p} (hg : g < N.ng) (hx : isGl se (N.gname g) = true) : SX C t cf d (.gl g) se (.Name (N.gname g) p) := by
  exact fun Y Y Y Y Y Y Y Y c e => ev_at c e fun Y q => (by obtain ⟨v,hv,r⟩ := kn.const g hg; exact load_gl kn c hx hv (q _ _ (r.base c.st)))
theorem not_marks {op : CmpOp} {r : Expr} (h : notSet r = true) : behindInMarks op r = false := by cases r <;> first | rfl | fail "=h"
theorem units10 (c : Cx C d A se env μ H h l) : A.units + 10 < cLine := by have := c.room.units; fail "l"
theorem s_cmp {op : COp} {a b : X} {l' r' p} (hm : notSet r' = true) (ha : SX C t cf d a se l') (hb : SX C t cf d b se r') : SX C t cf d (.cmp op a b) se (.Compare l' [cop op] [r'] p) := fun Y Y μ H s Y Y Y c e =>
  on_some e fun v H1 e1 e => on_some e fun w H2 e2 e => bd_some e fun r e3 e => ret_some (P := Ev C _ _ μ H s) e fun Y q =>
    wpAny_Compare1 (ev_two c ha hb e1 e2 fun u u' μ2 h2 tk2 g2 st2 r1 r2 => cmp_ok (s := { s with heap := h2,toks := tk2 }) st2 r1 r2 e3 (units10 c) (q _ μ2 h2 tk2 g2 st2 rep_bool)) (not_marks hm)
theorem s_bin {op : BOp} {a b : X} {l' r' p} (ha : SX C t cf d a se l') (hb : SX C t cf d b se r') : SX C t cf d (.bin op a b) se (.BinOp l' (bop op) r' p) := fun Y Y μ H s Y Y Y c e =>
  on_some e fun v H1 e1 e => on_some e fun w H2 e2 e => bd_some e fun r e3 e => ret_some (P := Ev C _ _ μ H s) e fun Y q =>
    wpAny_BinOp (ev_two c ha hb e1 e2 fun u u' μ2 h2 tk2 g2 st2 r1 r2 => (bin_ok (s := { s with heap := h2,toks := tk2 }) st2 r1 r2 e3).after g2 q)
theorem s_not {a : X} {x p} (ha : SX C t cf d a se x) : SX C t cf d (.not a) se (.UnaryOp .Not x p) := fun Y Y μ H s Y Y Y c e =>
  onB_some e fun b H1 e1 e => ret_some (P := Ev C _ _ μ H s) e fun Y q => wpAny_UnaryOp (ha c e1 _ fun u μ1 h1 tk1 g1 st1 r1 => by
    rw [rep_bool_inv r1]
    exact wpAny_bind (wpAny_truthy_bool (wpAny_pure (q _ μ1 h1 tk1 g1 st1 rep_bool))))
theorem s_ife {k a b : X} {x y z p} (hk : SB C t cf d k se x) (ha : SX C t cf d a se y) (hb : SX C t cf d b se z) : SX C t cf d (.ife k a b) se (.IfExp x y z p) := fun Y Y μ H s Y Y Y c e =>
  onB_some e fun b H1 e1 e Y q => wpAny_IfExp (hk c e1 _ fun μ1 h1 tk1 g1 st1 => by
    cases b with
    | true => exact (ha (s := { s with heap := h1,toks := tk1 }) (c.grow g1 st1) e).after g1 q
    | false => exact (hb (s := { s with heap := h1,toks := tk1 }) (c.grow g1 st1) e).after g1 q)
theorem boolOp_cons {op : BoolOp} {pos : Pos} {x : Sem Value} {y : Sem Value} {rest : List (Sem Value)} {E : Value → Shared → Prop} {Q : Value → Shared → Prop}
    (h : wpAny (model C.prog C.w) A x (fun v s₁ => ∃ b,v = .bool b ∧ (match op,b with | .And,false | .Or,true => Q v s₁ | _,_ => wpAny (model C.prog C.w) A (boolOp pos op (y :: rest)) Q E s₁)) E s) :
    wpAny (model C.prog C.w) A (boolOp pos op (x :: y :: rest)) Q E s := by
  show wpAny _ A (do
    let v ← x
    standAt pos
    let t ← holding [v] (truthy v)
    match op,t with
    | .And,false | .Or,true => pure v
    | _,_ => boolOp pos op (y :: rest)) Q E s
  refine wpAny_bind (wpAny_mono h (fun v s₁ h₁ => ?_) fun Y Y e => e)
  obtain ⟨b,rfl,h₁⟩ := h₁
  refine wpAny_bind (wpAny_standAt (wpAny_bind (wpAny_holding (wpAny_truthy_bool ?_))))
  cases op <;> cases b <;> first | exact wpAny_pure h₁ | exact h₁
noncomputable def SAnd (C : Ctx) (t : Text) (cf : CF) (d : Nat) (xs : List X) (se : SE) (es : List Expr) : Prop :=
  (∀ ⦃A env μ H s l pv H'⦄ pos,Cx C d A se env μ H s.heap l → aand t cf xs l H = some (pv,H') → Ev C A (boolOp pos .And (evalEach es env)) μ H s pv H') ∧
  (∀ ⦃A env μ H s l b H'⦄,Cx C d A se env μ H s.heap l → aand t cf xs l H = some (.bool b,H') → EvB C A (allTrue .And es env) μ s b H')
noncomputable def SOr (C : Ctx) (t : Text) (cf : CF) (d : Nat) (xs : List X) (se : SE) (es : List Expr) : Prop :=
  (∀ ⦃A env μ H s l pv H'⦄ pos,Cx C d A se env μ H s.heap l → aor t cf xs l H = some (pv,H') → Ev C A (boolOp pos .Or (evalEach es env)) μ H s pv H') ∧
  (∀ ⦃A env μ H s l b H'⦄,Cx C d A se env μ H s.heap l → aor t cf xs l H = some (.bool b,H') → EvB C A (allTrue .Or es env) μ s b H')
theorem s_and_nil {es} : SAnd C t cf d [] se es := ⟨(fun Y Y Y Y Y Y Y Y Y Y e => (by contradiction)),(fun Y Y Y Y Y Y Y Y Y e => (by contradiction))⟩
theorem s_or_nil {es} : SOr C t cf d [] se es := ⟨(fun Y Y Y Y Y Y Y Y Y Y e => (by contradiction)),(fun Y Y Y Y Y Y Y Y Y e => (by contradiction))⟩
theorem evb_ret {m : Sem Bool} {b b' : Bool} {H1 H2 : AH} (e : some (PV.bool b',H1) = some (PV.bool b,H2)) (h : EvB C A m μ s b' H1) : EvB C A m μ s b H2 := by fail "=e"; exact h
theorem s_and_one {x : X} {e : Expr} (hx : SX C t cf d x se e) (hb : SB C t cf d x se e) : SAnd C t cf d [x] se [e] := by
  refine ⟨fun A env μ H s l pv H' pos c e1 => onB_some e1 fun b H1 e2 e1 => ret_some (P := Ev C A _ μ H s) e1 fun Q q => (hx c e2 Q q : wpAny _ _ (eval e env) _ _ _),fun A env μ H s l b H' c e1 => onB_some e1 fun b' H1 e2 e1 => evb_ret e1 fun Q q =>
    wpAny_allTrue_And_cons (hb c e2 _ fun μ1 h1 tk1 g1 st1 => ?_)⟩
  cases b' with
  | true => rw [if_pos rfl]; exact wpAny_allTrue_And_nil (q _ _ _ g1 st1)
  | false => exact q _ _ _ g1 st1
theorem s_or_one {x : X} {e : Expr} (hx : SX C t cf d x se e) (hb : SB C t cf d x se e) : SOr C t cf d [x] se [e] := by
  refine ⟨fun A env μ H s l pv H' pos c e1 => onB_some e1 fun b H1 e2 e1 => ret_some (P := Ev C A _ μ H s) e1 fun Q q => (hx c e2 Q q : wpAny _ _ (eval e env) _ _ _),fun A env μ H s l b H' c e1 => onB_some e1 fun b' H1 e2 e1 => evb_ret e1 fun Q q =>
    wpAny_allTrue_Or_cons (hb c e2 _ fun μ1 h1 tk1 g1 st1 => ?_)⟩
  cases b' with
  | true => exact q _ _ _ g1 st1
  | false => rw [if_neg (by decide)]; exact wpAny_allTrue_Or_nil (q _ _ _ g1 st1)
theorem s_and_more {x y : X} {xs : List X} {e f : Expr} {es : List Expr} (hx : SX C t cf d x se e) (hb : SB C t cf d x se e) (ih : SAnd C t cf d (y :: xs) se (f :: es)) : SAnd C t cf d (x :: y :: xs) se (e :: f :: es) := by
  refine ⟨fun A env μ H s l pv H' pos c e1 => onB_some e1 fun b H1 e2 e1 => ?_,fun A env μ H s l b H' c e1 => onB_some e1 fun b' H1 e2 e1 => ?_⟩
  · cases b with
    | true => exact fun Q q => boolOp_cons (hx c e2 _ fun v μ1 h1 tk1 g1 st1 r1 => ⟨true,rep_bool_inv r1,(ih.1 (s := { s with heap := h1,toks := tk1 }) pos (c.grow g1 st1) e1).after g1 q⟩)
    | false => exact ret_some (P := Ev C A _ μ H s) e1 fun Q q => boolOp_cons (hx c e2 _ fun v μ1 h1 tk1 g1 st1 r1 => ⟨false,rep_bool_inv r1,q _ μ1 h1 tk1 g1 st1 r1⟩)
  · cases b' with
    | true => exact fun Q q => wpAny_allTrue_And_cons (hb c e2 _ fun μ1 h1 tk1 g1 st1 => by rw [if_pos rfl]; exact (ih.2 (s := { s with heap := h1,toks := tk1 }) (c.grow g1 st1) e1).after g1 q)
    | false => exact evb_ret e1 fun Q q => wpAny_allTrue_And_cons (hb c e2 _ fun μ1 h1 tk1 g1 st1 => q _ _ _ g1 st1)
theorem s_or_more {x y : X} {xs : List X} {e f : Expr} {es : List Expr} (hx : SX C t cf d x se e) (hb : SB C t cf d x se e) (ih : SOr C t cf d (y :: xs) se (f :: es)) : SOr C t cf d (x :: y :: xs) se (e :: f :: es) := by
  refine ⟨fun A env μ H s l pv H' pos c e1 => onB_some e1 fun b H1 e2 e1 => ?_,fun A env μ H s l b H' c e1 => onB_some e1 fun b' H1 e2 e1 => ?_⟩
  · cases b with
    | false => exact fun Q q => boolOp_cons (hx c e2 _ fun v μ1 h1 tk1 g1 st1 r1 => ⟨false,rep_bool_inv r1,(ih.1 (s := { s with heap := h1,toks := tk1 }) pos (c.grow g1 st1) e1).after g1 q⟩)
    | true => exact ret_some (P := Ev C A _ μ H s) e1 fun Q q => boolOp_cons (hx c e2 _ fun v μ1 h1 tk1 g1 st1 r1 => ⟨true,rep_bool_inv r1,q _ μ1 h1 tk1 g1 st1 r1⟩)
  · cases b' with
    | false => exact fun Q q => wpAny_allTrue_Or_cons (hb c e2 _ fun μ1 h1 tk1 g1 st1 => by rw [if_neg (by decide)]; exact (ih.2 (s := { s with heap := h1,toks := tk1 }) (c.grow g1 st1) e1).after g1 q)
    | true => exact evb_ret e1 fun Q q => wpAny_allTrue_Or_cons (hb c e2 _ fun μ1 h1 tk1 g1 st1 => q _ _ _ g1 st1)
theorem s_and {xs : List X} {es p} (h : SAnd C t cf d xs se es) : SX C t cf d (.and xs) se (.BoolOp .And es p) ∧ SB C t cf d (.and xs) se (.BoolOp .And es p) :=
  ⟨fun Y Y Y Y Y Y Y Y c e1 Q q => by rw [arm_eval_BoolOp]; exact h.1 p c e1 Q q,fun Y Y Y Y Y Y Y Y c e1 Q q => wpAny_isTrue_BoolOp (h.2 c e1 Q q)⟩
theorem s_or {xs : List X} {es p} (h : SOr C t cf d xs se es) : SX C t cf d (.or xs) se (.BoolOp .Or es p) ∧ SB C t cf d (.or xs) se (.BoolOp .Or es p) :=
  ⟨fun Y Y Y Y Y Y Y Y c e1 Q q => by rw [arm_eval_BoolOp]; exact h.1 p c e1 Q q,fun Y Y Y Y Y Y Y Y c e1 Q q => wpAny_isTrue_BoolOp (h.2 c e1 Q q)⟩
theorem b_value {x : X} {e : Expr} (hx : SX C t cf d x se e) (he : ∀ env whole,isTrue e env whole = (do let v ← whole; standAt e.pos; holding [v] (truthy v))) : SB C t cf d x se e := fun Y Y Y Y Y Y Y Y c e1 Q q =>
  wpAny_isTrue_value (hx c e1 _ fun v μ1 h1 tk1 g1 st1 r1 => by rw [rep_bool_inv r1]; exact wpAny_truthy_bool (q _ _ _ g1 st1)) (he _ _)
theorem b_not {a : X} {x p} (ha : SB C t cf d a se x) : SB C t cf d (.not a) se (.UnaryOp .Not x p) := fun Y Y Y Y Y Y Y Y c e1 => onB_some e1 fun b' H1 e2 e1 => evb_ret e1 fun Q q =>
  wpAny_isTrue_Not (ha c e2 _ fun μ1 h1 tk1 g1 st1 => q _ _ _ g1 st1)
theorem b_cmp {op : COp} {a b : X} {l' r' p} (hm : notSet r' = true) (ha : SX C t cf d a se l') (hb : SX C t cf d b se r') : SB C t cf d (.cmp op a b) se (.Compare l' [cop op] [r'] p) := fun Y Y μ H s Y Y Y c e =>
  on_some e fun v H1 e1 e => on_some e fun w H2 e2 e => bd_some e fun r e3 e => evb_ret e fun Y q =>
    wpAny_isTrue_Compare1 (ev_two c ha hb e1 e2 fun u u' μ2 h2 tk2 g2 st2 r1 r2 => cmp_ok (s := { s with heap := h2,toks := tk2 }) st2 r1 r2 e3 (units10 c) (wpAny_truthy_bool (q μ2 h2 tk2 g2 st2))) (not_marks hm)
theorem b_ife {k a b : X} {x y z p} (hk : SB C t cf d k se x) (ha : SB C t cf d a se y) (hb : SB C t cf d b se z) : SB C t cf d (.ife k a b) se (.IfExp x y z p) := fun Y Y μ H s Y Y Y c e =>
  onB_some e fun b H1 e1 e Y q => by
    rw [arm_isTrue_IfExp]
    refine wpAny_bind (hk c e1 _ fun μ1 h1 tk1 g1 st1 => ?_)
    cases b with
    | true => exact (ha (s := { s with heap := h1,toks := tk1 }) (c.grow g1 st1) e).after g1 q
    | false => exact (hb (s := { s with heap := h1,toks := tk1 }) (c.grow g1 st1) e).after g1 q
theorem chain2 {op op2 : CmpOp} {l' r' t' p} (hm : notSet t' = true) {E : Value → Shared → Prop} {Q : Value → Shared → Prop}
    (h : wpAny (model C.prog C.w) A (eval l' env) (fun u s1 => wpAny (model C.prog C.w) A (eval r' env) (fun v s2 => wpAny (model C.prog C.w) A (compareOp op u v) (fun b s3 => ∃ k,b = .bool k ∧
      (cond k (wpAny (model C.prog C.w) A (eval t' env) (fun w s4 => wpAny (model C.prog C.w) A (compareOp op2 v w) Q E s4) E s3) (Q (.bool false) s3))) E s2) E s1) E s) :
    wpAny (model C.prog C.w) A (eval (.Compare l' [op,op2] [r',t'] p) env) Q E s := by
  rw [arm_eval_Compare]
  refine wpAny_bind (wpAny_mono h (fun u s1 h1 => ?_) fun Y Y e => e)
  simp only [evalEach,markedEach,markedBehindIn_of_false (not_marks hm)]
  refine wpAny_bind (wpAny_holding (wpAny_mono h1 (fun v s2 h2 => wpAny_bind (wpAny_standAt (wpAny_bind (wpAny_holding (wpAny_mono h2 (fun b s3 h3 => wpAny_bind (wpAny_release ?_)) fun Y Y e => e))))) fun Y Y e => e))
  obtain ⟨k,rfl,h3⟩ := h3
  refine wpAny_bind (wpAny_holding (wpAny_truthy_bool ?_))
  cases k with
  | false => exact wpAny_pure h3
  | true => exact wpAny_bind (wpAny_holding (wpAny_mono h3 (fun w s4 h4 => wpAny_bind (wpAny_standAt (wpAny_operateT h4))) fun Y Y e => e))
theorem s_cmp2 {o1 o2 : COp} {a b k : X} {l' r' t' p} (hm : notSet t' = true) (ha : SX C t cf d a se l') (hb : SX C t cf d b se r') (hk : SX C t cf d k se t') : SX C t cf d (.cmp2 o1 o2 a b k) se (.Compare l' [cop o1,cop o2] [r',t'] p) := fun Y Y μ H s Y Y Y c e =>
  on_some e fun u H1 e1 e => on_some e fun v H2 e2 e => bd_some e fun x e3 e Q q => chain2 hm (ev_two c ha hb e1 e2 fun u' v' μ2 h2 tk2 g2 st2 r1 r2 => cmp_ok (s := { s with heap := h2,toks := tk2 }) st2 r1 r2 e3 (units10 c) ⟨x,rfl,by
    cases x with
    | true => exact on_some e fun w H3 e4 e => bd_some e fun y e5 e => hk (s := { s with heap := h2,toks := tk2 }) (c.grow g2 st2) e4 _ fun w' μ3 h3 tk3 g3 st3 r3 =>
        cmp_ok (s := { s with heap := h3,toks := tk3 }) st3 (r2.grow0 g3) r3 e5 (units10 c) (ret_some (P := fun pv H' => (∀ v μ' h' tk',Grow [] μ μ' s.heap h' → St C μ' H' h' → Rep μ' h' pv v → Q v { s with heap := h',toks := tk' }) → Q (.bool y) _) e (fun q => q _ _ _ _ (g2.trans g3) st3 rep_bool) q)
    | false => exact ret_some (P := fun pv H' => (∀ v μ' h' tk',Grow [] μ μ' s.heap h' → St C μ' H' h' → Rep μ' h' pv v → Q v { s with heap := h',toks := tk' }) → Q (.bool false) _) e (fun q => q _ _ _ _ g2 st2 rep_bool) q⟩)
theorem test2 {op op2 : CmpOp} {l' r' t' p} {whole : Sem Value} (hm : notSet t' = true) {E : Value → Shared → Prop} {Q : Bool → Shared → Prop}
    (h : wpAny (model C.prog C.w) A (eval l' env) (fun u s1 => wpAny (model C.prog C.w) A (eval r' env) (fun v s2 => wpAny (model C.prog C.w) A (compareOp op u v) (fun b s3 => ∃ k,b = .bool k ∧
      (cond k (wpAny (model C.prog C.w) A (eval t' env) (fun w s4 => wpAny (model C.prog C.w) A (compareOp op2 v w) (fun b s5 => ∃ k,b = .bool k ∧ Q k s5) E s4) E s3) (Q false s3))) E s2) E s1) E s) :
    wpAny (model C.prog C.w) A (isTrue (.Compare l' [op,op2] [r',t'] p) env whole) Q E s := by
  rw [arm_isTrue_Compare]
  refine wpAny_bind (wpAny_mono h (fun u s1 h1 => ?_) fun Y Y e => e)
  simp only [evalEach,markedEach,markedBehindIn_of_false (not_marks hm)]
  refine wpAny_bind (wpAny_holding (wpAny_mono h1 (fun v s2 h2 => wpAny_bind (wpAny_standAt (wpAny_bind (wpAny_holding (wpAny_mono h2 (fun b s3 h3 => wpAny_bind (wpAny_release ?_)) fun Y Y e => e))))) fun Y Y e => e))
  obtain ⟨k,rfl,h3⟩ := h3
  refine wpAny_bind (wpAny_holding (wpAny_truthy_bool ?_))
  cases k with
  | false => exact wpAny_pure h3
  | true => exact wpAny_bind (wpAny_holding (wpAny_mono h3 (fun w s4 h4 => wpAny_bind (wpAny_standAt (wpAny_bind (wpAny_operateT (wpAny_mono h4 (fun b s5 ⟨k,e,h5⟩ => e ▸ wpAny_holding (wpAny_truthy_bool h5)) fun Y Y e => e))))) fun Y Y e => e))
theorem b_cmp2 {o1 o2 : COp} {a b k : X} {l' r' t' p} (hm : notSet t' = true) (ha : SX C t cf d a se l') (hb : SX C t cf d b se r') (hk : SX C t cf d k se t') : SB C t cf d (.cmp2 o1 o2 a b k) se (.Compare l' [cop o1,cop o2] [r',t'] p) := fun Y Y μ H s Y Y Y c e =>
  on_some e fun u H1 e1 e => on_some e fun v H2 e2 e => bd_some e fun x e3 e => by
    cases x with
    | true => exact on_some e fun w H3 e4 e => bd_some e fun y e5 e => evb_ret e fun Q q => test2 hm (ev_two c ha hb e1 e2 fun u' v' μ2 h2 tk2 g2 st2 r1 r2 => cmp_ok (s := { s with heap := h2,toks := tk2 }) st2 r1 r2 e3 (units10 c) ⟨true,rfl,
        hk (s := { s with heap := h2,toks := tk2 }) (c.grow g2 st2) e4 _ fun w' μ3 h3 tk3 g3 st3 r3 => cmp_ok (s := { s with heap := h3,toks := tk3 }) st3 (r2.grow0 g3) r3 e5 (units10 c) ⟨y,rfl,q _ _ _ (g2.trans g3) st3⟩⟩)
    | false => exact evb_ret e fun Q q => test2 hm (ev_two c ha hb e1 e2 fun u' v' μ2 h2 tk2 g2 st2 r1 r2 => cmp_ok (s := { s with heap := h2,toks := tk2 }) st2 r1 r2 e3 (units10 c) ⟨false,rfl,q _ _ _ g2 st2⟩)
end
end
section
open PySem PySem.W PyProof.Rows PySem.Calls PySem.SeqAt
set_option maxRecDepth 100000
section
variable {C : Ctx} {d : Nat} {A : Around} {se : SE} {env : Env} {μ μ' : Mu} {H H' : AH} {h h' : Heap} {l : Loc} {s : Shared} {t : Text} {N : Nm} {cf : CF} {E : Value → Shared → Prop}
theorem starEach_of {e : Expr} {r : List Expr} (h : notStar e = true) : starEach (e :: r) env = (false,eval e env) :: starEach r env := by
  fail "=e" <;> first | rfl | fail "=h"
theorem plain_of : ∀ {es : List Expr} {pos : Pos},es.all notStar = true → (backTo pos (starEach es env)).any (·.1) = false
  | [],_,_ => rfl
  | e :: r,pos,h => by
    rw [List.all_cons,Bool.and_eq_true] at h
    rw [starEach_of h.1]
    show (false || (backTo pos (starEach r env)).any (·.1)) = false
    rw [plain_of h.2]; rfl
theorem args_of {f : Value} {es : List Expr} {pos : Pos} {Q : Args → Shared → Prop} (hs : es.all notStar = true)
    (h : wpAny (model C.prog C.w) A (spliced (backTo pos (starEach es env))) (fun vs s₁ => Q ⟨vs,[]⟩ s₁) E s) : wpAny (model C.prog C.w) A (evalArgs f true (backTo pos (starEach es env)) []) Q E s := by
  cases es with
  | nil => exact fun Γ p hΓ => evalArgs_empty (h Γ p hΓ) Γ p hΓ
  | cons e r =>
    rw [List.all_cons,Bool.and_eq_true] at hs
    rw [starEach_of hs.1] at h ⊢
    exact evalArgs_plain h
theorem evl_ret {m : Sem (List Value)} {pvs pvs' : List PV} {H1 : AH} (e : some (pvs',H1) = some (pvs,H')) (h : EvL C A m μ s pvs' H1) : EvL C A m μ s pvs H' := ret_some (P := EvL C A m μ s) e h
theorem ss_nil : SXs C t cf d [] se [] := fun Y Y μ Y s Y Y Y Y c e => evl_ret e fun Y q => spliced_none (q _ μ s.heap s.toks .refl c.st Reps.nil)
theorem ss_cons {x xs e es} (hs : notStar e = true) (hx : SX C t cf d x se e) (hxs : SXs C t cf d xs se es) : SXs C t cf d (x :: xs) se (e :: es) := fun Y Y μ Y s Y Y Y Y c e1 =>
  on_some e1 fun v H1 e2 e1 => on_some e1 fun p H2 e3 e4 => evl_ret e4 fun Y q => spliced_more (hx c e2 _ fun u μ1 h1 tk1 g1 st1 r1 =>
    hxs (s := { s with heap := h1,toks := tk1 }) (c.grow g1 st1) e3 _ fun vs μ2 h2 tk2 g2 st2 r2 => q _ μ2 h2 tk2 (g1.trans g2) st2 (.cons (r1.grow0 g2) r2)) (starEach_of hs)
theorem aevals_length : ∀ {xs : List X} {l H p H'},aevals t cf xs l H = some (p,H') → p.length = xs.length
  | [],_,_,_,_,e => ret_some (P := fun p Y => p.length = 0) e rfl
  | _ :: _,_,_,_,_,e => on_some e fun Y Y Y e => on_some e fun Y Y e3 e => ret_some (P := fun p Y => p.length = _) e (congrArg (· + 1) (aevals_length e3))
theorem lim1000 {n : Nat} (h : n ≤ 1000) : n ≤ lim := Nat.le_trans h (by decide)
theorem s_tup {xs es k p} (hl : xs.length ≤ 1000) (hx : SXs C t cf d xs se es) : SX C t cf d (.tup xs) se (.Tuple es k p) := fun Y Y μ H s Y Y Y c e =>
  on_some e fun vs H1 e1 e => ret_some (P := Ev C _ _ μ H s) e fun Y q => by
    rw [arm_eval_Tuple]
    exact wpAny_bind (wpAny_standAt (wpAny_bind (hx c e1 _ fun ws μ1 h1 tk1 g1 st1 r1 => (ev_newTuple (s := { s with heap := h1,toks := tk1 }) st1 (by rw [aevals_length e1]; exact lim1000 hl) r1).after g1 q)))
theorem s_list {xs es p} (hl : xs.length ≤ 1000) (hx : SXs C t cf d xs se es) : SX C t cf d (.list xs) se (.List es p) := fun Y Y μ H s Y Y Y c e =>
  on_some e fun vs H1 e1 e => ret_some (P := Ev C _ _ μ H s) e fun Y q => by
    rw [arm_eval_List]
    exact wpAny_bind (wpAny_standAt (wpAny_bind (hx c e1 _ fun ws μ1 h1 tk1 g1 st1 r1 => (ev_newList (s := { s with heap := h1,toks := tk1 }) st1 (by rw [aevals_length e1]; exact lim1000 hl) r1).after g1 q)))
theorem s_listm {xs es p} (hl : xs.length ≤ 1000) (hx : SXs C t cf d xs se es) : SX C t cf d (.listm xs) se (.List es p) := fun Y Y μ H s Y Y Y c e =>
  on_some e fun vs H1 e1 e => ret_some (P := Ev C _ _ μ H s) e fun Y q => by
    rw [arm_eval_List]
    exact wpAny_bind (wpAny_standAt (wpAny_bind (hx c e1 _ fun ws μ1 h1 tk1 g1 st1 r1 => (ev_newListM (s := { s with heap := h1,toks := tk1 }) st1 (by rw [aevals_length e1]; exact lim1000 hl) r1).after g1 q)))
theorem rep_new {μ : Mu} {H : AH} {h : Heap} {x c : Addr} {C : Ctx} (hs : St C μ H h) : ∀ h',Rep (μ.add (x,c)) h' (.ref H.length) (.ref x) := fun h' =>
  ⟨x,c,by show (μ.os ++ _)[H.length]? = _; rw [← hs.sim.len,List.getElem?_append_right (Nat.le_refl _),Nat.sub_self]; rfl,rfl⟩
theorem s_dict {p} : SX C t cf d .dict se (.Dict [] [] p) := fun Y Y μ H s Y Y Y c e => ret_some (P := Ev C _ _ μ H s) e fun Y q => by
  have z := c.st.ext (h' := s.heap.push { cls := .type "dict",data := .dict #[] }) (x := s.heap.objs.size) (c := s.heap.objs.size) (o := .dict []) (pushKeep _ _) (sizeNone _) (sizeNone _)
    fun g => ⟨rfl,⟨Nat.zero_le _,Heap.DictLe.new _,fun Y => Heap.get?_push_size _ rfl⟩,_,Heap.IntMap.new _,fun Y => rfl⟩
  exact wpAny_Dict_empty (q _ _ _ s.toks z.2 z.1 (rep_new c.st _))
theorem mulm_ok {xs : List PV} {n : Int} {u u' : Value} {E : Value → Shared → Prop} {Q : Value → Shared → Prop} (st : St C μ H s.heap) (r1 : Rep μ s.heap (.lst xs) u) (r2 : Rep μ s.heap (.int n) u') (hm : 0 ≤ n ∧ n ≤ lim ∧ xs.length * n.toNat ≤ lim)
    (q : ∀ v μ' h' tk',Grow [] μ μ' s.heap h' → St C μ' (H ++ [.list (rep xs n.toNat)]) h' → Rep μ' h' (.ref H.length) v → Q v { s with heap := h',toks := tk' }) : wpAny (model C.prog C.w) A (binaryOp .Mult u u') Q E s :=
  r1.lstE (P := fun u => wpAny _ A (binaryOp .Mult u u') Q E s) fun a1 vs k e3 Y l1 r3 => r2.intE (P := fun u' => wpAny _ A (binaryOp .Mult _ u') Q E s) fun u => by
    refine mul_list e3 hm.1 (lim60 hm.2.1) (by rw [sz r3]; exact hm.2.2) ?_
    rw [fold_key]
    have z := st.ext (h' := s.heap.push (lstObj (foldRep vs n.toNat) 0)) (x := s.heap.objs.size) (c := s.heap.objs.size) (o := .list (rep xs n.toNat)) (pushKeep _ _) (sizeNone _) (sizeNone _)
      fun g => ⟨rfl,by rw [rep_length]; exact hm.2.2,_,0,Heap.get?_push_size _ rfl,by rw [foldRep_toList]; exact (r3.rep _).grow0 g⟩
    exact q _ _ _ s.toks z.2 z.1 (rep_new st _)
theorem s_mulm {a b : X} {l' r' p} (ha : SX C t cf d a se l') (hb : SX C t cf d b se r') : SX C t cf d (.mulm a b) se (.BinOp l' .Mult r' p) := fun Y Y μ H s Y Y Y c e =>
  on_some e fun v H1 e1 e => asL_some (P := fun v => aeval t cf a _ H = some (v,H1) → Ev C _ _ μ H s _ _) e (fun xs e e1 => on_some e fun w H2 e2 e => asI_some (P := fun w => aeval t cf b _ H1 = some (w,H2) → Ev C _ _ μ H s _ _) e (fun n e e2 => chk_some e fun hm e =>
    ret_some (P := Ev C _ _ μ H s) e fun Y q => wpAny_BinOp (ev_two c ha hb e1 e2 fun u u' μ2 h2 tk2 g2 st2 r1 r2 => mulm_ok (s := { s with heap := h2,toks := tk2 }) st2 r1 r2 hm fun v μ3 h3 tk3 g3 => q v μ3 h3 tk3 (g2.trans g3))) e2) e1
theorem base_of {o : Expr} {a : Str} {whole : Sem Value} (h : notSuper o = true) : attributeBase o a env whole = whole := by
  cases o with
  | Call f as ks p => cases f with
    | Name x q => cases as with
      | nil => cases ks with
        | nil => fail "=h"
        | cons _ _ => rfl
      | cons _ _ => rfl
    | _ => rfl
  | _ => rfl
theorem s_attr (kn : Know C t N) {o : X} {k : Nat} {x p} (hn : notSuper x = true) (ho : SX C t cf d o se x) : SX C t cf d (.attr o k) se (.Attribute x (N.nm k) p) := fun Y Y μ H s Y Y Y c e =>
  on_some e fun ov H1 e1 e => bd_some e fun v e2 e => ret_some (P := Ev C _ _ μ H s) e fun Y q => by
    rw [arm_eval_Attribute,base_of hn,← kn.nm]
    exact wpAny_bind (ho c e1 _ fun u μ1 h1 tk1 g1 st1 r1 => wpAny_bind (wpAny_standAt (wpAny_bind (wpAny_holding ((attr_ok (s := { s with heap := h1,toks := tk1 }) st1 kn.hK kn.clsOk r1 e2).after g1
      fun v μ2 h2 tk2 g2 st2 r2 => wpAny_bind (wpAny_letTemporaryGo (wpAny_pure (q v μ2 h2 tk2 g2 st2 r2))))))))
theorem s_idx {o i : X} {x j p} (hj : notSlice j = true) (ho : SX C t cf d o se x) (hi : SX C t cf d i se j) : SX C t cf d (.idx o i) se (.Subscript x j p) := fun Y Y μ H s Y Y Y c e =>
  on_some e fun ov H1 e1 e => on_some e fun iv H2 e2 e => bd_some e fun v e3 e => ret_some (P := Ev C _ _ μ H s) e fun Y q => Subscript_ (ev_two c ho hi e1 e2 fun u u' μ2 h2 tk2 g2 st2 r1 r2 => by
    obtain ⟨ev,T,id,hT,hl⟩ := idx_ok (A := _) (s := { s with heap := h2,toks := tk2 }) st2 r1 r2 e3
    refine tail_any hT hl (ev.after g2 q) (ops := [u,u']) ?_
    cases j <;> first | rfl | fail "=hj")
noncomputable def SP (C : Ctx) (t : Text) (cf : CF) (d : Nat) (x : X) (se : SE) (e : Option Expr) : Prop :=
  ∀ ⦃A env μ H s l pv H'⦄,Cx C d A se env μ H s.heap l → aeval t cf x l H = some (pv,H') → Ev C A (evalPart e env) μ H s pv H'
theorem sp_some {x e} (h : SX C t cf d x se e) : SP C t cf d x se (some e) := fun Y Y Y Y Y Y Y Y c e => h c e
theorem sp_none : SP C t cf d .none se none := fun Y Y Y Y Y Y Y Y c e => ev_at c e fun Y q => wpAny_pure (q _ _ rep_none)
theorem s_slice {o lo hi : X} {x lo' hi' p p'} (ho : SX C t cf d o se x) (hlo : SP C t cf d lo se lo') (hhi : SP C t cf d hi se hi') : SX C t cf d (.slice o lo hi) se (.Subscript x (.Slice lo' hi' none p') p) := fun Y Y μ H s Y Y Y c e =>
  on_some e fun ov H1 e1 e => on_some e fun av H2 e2 e => on_some e fun bv H3 e3 e => bd_some e fun v e4 e => ret_some (P := Ev C _ _ μ H s) e fun Y q =>
    Subscript_ (ho c e1 _ fun u μ1 h1 tk1 g1 st1 r1 => wpAny_Slice (hlo (s := { s with heap := h1,toks := tk1 }) (c.grow g1 st1) e2 _ fun ua μ2 h2 tk2 g2 st2 r2 =>
      hhi (s := { s with heap := h2,toks := tk2 }) ((c.grow g1 st1).grow g2 st2) e3 _ fun ub μ3 h3 tk3 g3 st3 r3 => by
        refine wpAny_pure ?_
        have g4 : Grow [] μ3 μ3 h3 _ := growPush h3 { cls := .type "slice",data := .fields #[ua,ub,.none] }
        have g5 := (g1.trans g2).trans (g3.trans g4)
        obtain ⟨ev,T,id,hT,hl⟩ := slice_ok (A := _) (s := { s with heap := h3.push { cls := .type "slice",data := .fields #[ua,ub,.none] },toks := tk3 }) (st3.push _) (r1.grow0 (g2.trans (g3.trans g4))) (r2.grow0 (g3.trans g4)) (r3.grow0 g4) (Heap.get?_push_size _ rfl) e4
        exact tail_any hT hl (ev.after g5 q) (ops := [_,u]) rfl))
noncomputable def EvC (C : Ctx) (A : Around) (k : Code) (μ : Mu) (s : Shared) (pv : PV) (H' : AH) : Prop :=
  ∀ R : Result → Shared → Prop,(∀ v μ' h' tk',Grow [] μ μ' s.heap h' → St C μ' H' h' → Rep μ' h' pv v → R (.ok (.ret v)) { s with heap := h',toks := tk' }) → codeAny (model C.prog C.w) A k R s
theorem EvC.call {f : Value} {vs : List Value} {pv : PV} (h : EvC C A (.call f ⟨vs,[]⟩) μ s pv H') : Ev C A (call f vs) μ H s pv H' :=
  fun Q q => wpAny_call (h _ fun v μ1 h1 tk1 g1 st1 r1 => q v μ1 h1 tk1 g1 st1 r1)
noncomputable def CallOk (C : Ctx) (t : Text) (N : Nm) (kn : Know C t N) (cf : CF) (d : Nat) : Prop :=
  ∀ {f as vs H r H' A μ s},kn.isF f → RoomC A d → cf f as H = some (r,H') → St C μ H s.heap → Reps μ s.heap as vs → EvC C A (.call (.ref (kn.fa f)) ⟨vs,[]⟩) μ s r H'
theorem callK {kn : Know C t N} {f : Value} {first : List Value} {pos : Pos} {es : List Expr} {Q : Value → Shared → Prop} (hk : keepIn kn.K f = true) (hs : es.all notStar = true)
    (h : wpAny (model C.prog C.w) A (spliced (backTo pos (starEach es env))) (fun vs s₁ => kn.K.In s₁.heap ∧ wpAny (model C.prog C.w) A (call f (first ++ vs)) Q E s₁) E s) :
    wpAny (model C.prog C.w) A (callWith pos f first (backTo pos (starEach es env)) []) Q E s :=
  callWith_of (by rw [plain_of hs]; rfl) (keeps_K hk) (args_of hs h)
theorem Know.in (kn : Know C t N) (st : St C μ H h) : kn.K.In h := fun a o q => st.base _ _ (kn.hK a o q)
theorem s_callF {kn : Know C t N} (hc : CallOk C t N kn cf d) {f : Nat} {as : List X} {es p p'} (hf : N.nf f = true) (hx : isGl se (N.fname f) = true) (hs : es.all notStar = true) (has : SXs C t cf d as se es) :
    SX C t cf d (.callF f as) se (.Call (.Name (N.fname f) p') es [] p) := fun Y Y μ H s Y Y Y c e => on_some e fun vs H1 e1 e Y q =>
  wpAny_Call_NameR (load_gl kn c hx (kn.fn f hf).2 (callK (kn.keep f (kn.fn f hf).1) hs (has c e1 _ fun ws μ1 h1 tk1 g1 st1 r1 => ⟨kn.in st1,
    ((hc (s := { s with heap := h1,toks := tk1 }) (kn.fn f hf).1 c.room.c e st1 r1).call (H := H1)).after g1 q⟩)))
theorem callV (b : BI) {pos : Pos} {args : List (Bool × Sem Value)} {Q : Value → Shared → Prop} (hp : args.any (·.1) = false)
    (h : wpAny (model C.prog C.w) A (evalArgs (biv b) true args []) (fun a s₁ => wpAny (model C.prog C.w) A (call (biv b) ([] ++ a.pos) a.kw) Q E s₁) E s) : wpAny (model C.prog C.w) A (callWith pos (biv b) [] args []) Q E s := by
  cases b with
  | len => exact callWith_builtin (id := "len") hp h
  | abs => exact callWith_builtin (id := "abs") hp h
  | ord => exact callWith_builtin (id := "ord") hp h
  | chr => exact callWith_builtin (id := "chr") hp h
  | str => exact PySem.callWith_type (T := "str") hp h
  | max => exact callWith_builtin (id := "max") hp h
  | min => exact callWith_builtin (id := "min") hp h
  | any => exact callWith_builtin (id := "any") hp h
  | list => exact PySem.callWith_type (T := "list") hp h
  | tuple => exact PySem.callWith_type (T := "tuple") hp h
theorem s_callB {kn : Know C t N} {b : BI} {as : List X} {es p p'} (hx : isGl se (bnameOf b) = true) (hs : es.all notStar = true) (has : SXs C t cf d as se es) :
    SX C t cf d (.callB b as) se (.Call (.Name (bnameOf b) p') es [] p) := fun Y Y μ H s Y Y Y c e => on_some e fun vs H1 e1 e => bd_some e fun v e2 e => ret_some (P := Ev C _ _ μ H s) e fun Y q =>
  wpAny_Call_NameR (load_bi kn c hx (kn.bi b) (callV b (plain_of hs) (args_of hs (has c e1 _ fun ws μ1 h1 tk1 g1 st1 r1 => (bi_ok (s := { s with heap := h1,toks := tk1 }) st1 r1 c.room.handled e2).after g1 q))))
theorem creation_room {A : Around} {d : Nat} {c : Addr} {rest : List Value} {kw : List (Str × Value)} (r : Room A d) : RoomC (A.under (.builtin "type.__call__" ⟨.ref c :: rest,kw⟩)) d := by
  have hw : (Code.builtin "type.__call__" ⟨.ref c :: rest,kw⟩).weight = 1 := by kernel_rfl
  have hu : (Code.builtin "type.__call__" ⟨.ref c :: rest,kw⟩).cUnits ≤ 10 := by
    have : (Code.builtin "type.__call__" ⟨.ref c :: rest,kw⟩).cUnits = (Code.builtin "type.__call__" ⟨[],[]⟩).cUnits := by kernel_rfl
    rw [this]; decide +kernel
  refine ⟨r.handled,?_,?_⟩
  · have := r.depth
    show A.depth + _ + 2 * d + 1 < _
    rw [hw]; fail "l"
  · have := r.units
    show A.units + _ + 20 * d + 20 < _
    fail "l"
theorem new_inst (kn : Know C t N) {k : Nat} (hk : k < t.nc) (st1 : St C μ H h) : Grow [] μ (μ.add (h.objs.size + 1,h.objs.size)) h ((h.push emptyDict).push (instObj (C.tab.cls k) h.objs.size)) ∧ St C (μ.add (h.objs.size + 1,h.objs.size)) (H ++ [.inst k []]) ((h.push emptyDict).push (instObj (C.tab.cls k) h.objs.size)) := by
  have n0 : h.get? (h.objs.size + 1) = none := by
    cases q : h.get? (h.objs.size + 1) with
    | none => rfl
    | some o => exact absurd (Nat.lt_of_succ_lt (Heap.lt_size q)) (Nat.lt_irrefl _)
  have hxo := Heap.get?_push_size (h := h.push emptyDict) (o := instObj (C.tab.cls k) h.objs.size) rfl
  rw [Heap.size_push] at hxo
  refine And.symm (st1.ext (x := h.objs.size + 1) (c := h.objs.size) (o := .inst k []) (fun b o e => Heap.get?_push_of_some _ (Heap.get?_push_of_some _ e)) n0 (sizeNone _) fun g => ?_)
  refine ⟨fun m => ?_,hxo,⟨kn.nc ▸ hk,fun j hj => by fail "=hj"⟩,fun Y => none,⟨(Heap.Ns1.of_empty (Heap.Ns.new h (.type "dict"))).keeps (pushKeep _ _),Within.nil⟩,fun j hj => rfl⟩
  simp only [Mu.cs,Mu.add,List.map_append,List.mem_append,List.map_cons,List.map_nil,List.mem_singleton] at m
  exact m.elim (st1.none_notin n0) (Nat.succ_ne_self _)
theorem s_callC {kn : Know C t N} (hc : CallOk C t N kn cf d) {k : Nat} {as : List X} {es p p'} (hx : isGl se (N.cname k) = true) (hs : es.all notStar = true) (has : SXs C t cf d as se es) :
    SX C t cf d (.callC k as) se (.Call (.Name (N.cname k) p') es [] p) := fun Y Y μ H s Y Y Y c e => on_some e fun vs H1 e1 e => chk_some e fun hk e => on_some e fun w H2 e2 e =>
  asN_some (P := fun w => cf _ _ _ = some (w,H2) → Ev C _ _ μ H s _ _) e (fun e e2 => ret_some (P := Ev C _ _ μ H s) e fun Y q => by
    obtain ⟨k1,k2,k3,k4,k5,k6⟩ := kn.cls k hk
    refine wpAny_Call_NameR (load_gl kn c hx k1 (callK k2 hs (has c e1 _ fun ws μ1 h1 tk1 g1 st1 r1 => ⟨kn.in st1,wpAny_call ?_⟩)))
    have z := new_inst kn hk st1
    refine make_core (makes_of (kn.in st1) k3) (looks_findIn (kn.in st1) k4) (fun self => bind_fn (kn.in st1) self k5) (.inl rfl) ?_
    exact hc (s := { s with heap := (h1.push emptyDict).push (instObj (C.tab.cls k) h1.objs.size),toks := tk1 }) k6 (creation_room c.room) e2 z.2 (.cons (rep_new st1 _) (r1.grow0 z.1)) _ fun v μ2 h2 tk2 g2 st2 r2 => ⟨r2,q _ μ2 h2 tk2 ((g1.trans z.1).trans g2) st2 ((rep_new st1 _).grow0 g2)⟩) e2
theorem call_eq {x : Expr} {a : Str} {ap : Pos} {es : List Expr} {p : Pos} (hn : notSuper x = true) (hs : es.all notStar = true) (hl : (ap.endLine == p.line) = true) (hf : es.length < 20) :
    ∃ pl,eval (.Call (.Attribute x a ap) es [] p) env = (do
      let ov ← eval x env
      standAt ap.atName
      let (f,first) ← holding [ov] (getMethod ov a pl)
      callWith p f first (backTo p (starEach es env)) (backToKw p (keywordEach [] env))) := by
  refine ⟨do return (← importBound x env).getD true,?_⟩
  rw [arm_eval_Call,base_of hn]
  have hm : methodCallForm (es.length + ([] : List Keyword).length) (backTo p (starEach es env)) (backToKw p (keywordEach [] env)) = true := by
    have := plain_of (env := env) (pos := p) hs
    unfold methodCallForm
    rw [Bool.and_eq_true,Bool.and_eq_true]
    refine ⟨⟨?_,rfl⟩,by simp [backToKw,keywordEach]; fail "l"⟩
    rw [List.all_eq_true]
    intro b hb
    rw [List.any_eq_false] at this
    simpa using this b hb
  simp only [methodCall,hm,calleeOf,methodCallPos,hl,if_true,Bool.not_true,Bool.false_or,Bool.or_true,pure_bind]
noncomputable def kindName : MK → String
  | .list => "list" | .dict => "dict" | .str => "str" | .user _ => ""
structure KindOk (s : Shared) (T : String) (v : Value) : Prop where
  ty : s.TypeIs v T
  nod : ∀ a,v = .ref a → ∃ o,s.heap.get? a = some o ∧ o.dict = none
structure SlotOk (T : String) (m : Nat) (id : String) : Prop where
  ge : ¬ m < 1000
  slot : Slot T (bname m) id
  pa : PlainAttrs T
  ty : typeOf (.builtin id) = pure (.type "method_descriptor")
theorem kind_ok {k : MK} {o : PV} {v : Value} {m : Nat} {R : Prop} (st : St C μ H s.heap) (r : Rep μ s.heap o v) (hk : kindOf t H o m = some k) (u : ∀ f i c fs,k = .user f → o = .ref i → H[i]? = some (.inst c fs) → t.meth c m = some f → R) (b : KindOk s (kindName k) v → (∀ f,k ≠ .user f) → R) : R := by
  cases o with
  | ref i =>
    refine bd_some hk fun o hx hk => ?_
    cases o with
      | inst c fs => exact map_some (P := fun k' => k' = k → R) hk (fun f hm e => u f i c fs e.symm rfl hx hm) rfl
      | list xs => exact just_some (P := fun k => (KindOk s (kindName k) v → (∀ f,k ≠ .user f) → R) → R) hk (fun b => b (repL (P := KindOk s "list") st.sim r hx fun x vs n e1 Y Y Y => ⟨(isList_of e1).typeIs,fun a ha => by fail "=ha"; exact ⟨_,e1,rfl⟩⟩) fun f z => by fail "=z") b
      | dict es => exact whn_some hk fun he hk => just_some (P := fun k => (KindOk s (kindName k) v → (∀ f,k ≠ .user f) → R) → R) hk (fun b => b (repD (P := KindOk s "dict") st.sim r hx fun x ob Y => (by obtain ⟨_,l1,f,hm,_⟩ := ob; exact ⟨hm.typeIs,fun a ha => by fail "=ha"; exact ⟨_,l1.2.2 (List.isEmpty_iff.mp he),rfl⟩⟩)) fun f z => by fail "=z") b
  | str x => exact just_some (P := fun k => (KindOk s (kindName k) v → (∀ f,k ≠ .user f) → R) → R) hk (fun b => b (r.strE (P := KindOk s "str") fun tk Y Y => ⟨typeIs_str _ _ _,fun a ha => by fail "=ha"⟩) fun f z => by fail "=z") b
  | _ => cases hk
theorem meth_slot {k : MK} {o r : PV} {m : Nat} {vs : List PV} (e : ameth H k o m vs = some (r,H')) : SlotOk (kindName k) m (methId k m) := by
  cases k with
  | user f => fail "=e"
  | list => exact asR_some (P := fun Y => SlotOk "list" m (methId .list m)) e fun i e => getL_some e fun xs hx e => cond_some e (fun c Y => by cases Nat.eq_of_beq_eq_true c; exact ⟨by decide,F.slot_list_append,F.plainAttrs_list,F.type_list_append⟩) (fun Y e => whn_some e fun c Y => by cases Nat.eq_of_beq_eq_true c; exact ⟨by decide,F.slot_list_pop,F.plainAttrs_list,F.type_list_pop⟩)
  | dict =>
    refine asR_some (P := fun Y => SlotOk "dict" m (methId .dict m)) e fun i e => bd_some e fun o Y e => ?_
    cases o with
      | dict es => exact whn_some e fun c Y => by cases Nat.eq_of_beq_eq_true c; exact ⟨by decide,F.slot_dict_get,F.plainAttrs_dict,F.type_dict_get⟩
      | _ => fail "=e"
  | str => exact asS_some (P := fun Y => SlotOk "str" m (methId .str m)) e fun i e => cond_some e (fun c Y => by cases Nat.eq_of_beq_eq_true c; exact ⟨by decide,F.slot_str_lower,F.plainAttrs_str,F.type_str_lower⟩) (fun Y e => whn_some e fun c Y => by cases Nat.eq_of_beq_eq_true c; exact ⟨by decide,F.slot_str_join,F.plainAttrs_str,F.type_str_join⟩)
theorem user_meth (kn : Know C t N) {k m f : Nat} {fs : List (Nat × PV)} {x d : Addr} (hmf : t.meth k m = some f) (ob : ObjRep C.tab μ h x d (.inst k fs)) : fs.lookup m = none := by
  cases z : fs.lookup m with
  | none => rfl
  | some w =>
    have fr := ob.2.2.1.2 m (by rw [z]; rfl)
    have m2 := (kn.meth k m f ob.2.2.1.1 hmf).2.1
    rw [(kn.clsOk k ob.2.2.1.1).free m fr.1] at m2; cases m2
theorem callM_def {o : X} {m : Nat} {as : List X} {R : Option (PV × AH)} (e : aeval t cf (.callM o m as) l H = R) : (on (aeval t cf o l H) fun o H' => bd (kindOf t H' o m) fun k => on (aevals t cf as l H') fun vs H'' => (match k with | .user f => cf f (o :: vs) H'' | k => ameth H'' k o m vs)) = R := e
theorem builtin_k {k : MK} {o : PV} {m : Nat} {vs : List PV} {R} (e : (match k with | .user f => cf f (o :: vs) H | k => ameth H k o m vs) = R) (hk : ∀ f,k ≠ .user f) : ameth H k o m vs = R := by
  cases k with
  | user f => exact absurd rfl (hk f)
  | _ => exact e
theorem s_callM {kn : Know C t N} (hc : CallOk C t N kn cf d) {o : X} {m : Nat} {as : List X} {x a ap es p} (ha : a = if m < 1000 then N.nm m else bname m) (hm : m < 1000 → m < N.nn) (hn : notSuper x = true) (hl : (ap.endLine == p.line) = true) (hf : es.length < 20)
    (hs : es.all notStar = true) (ho : SX C t cf d o se x) (has : SXs C t cf d as se es) :
    SX C t cf d (.callM o m as) se (.Call (.Attribute x a ap) es [] p) := fun A env μ H s l Y Y c e => on_some (callM_def e) fun ov H1 e1 e => bd_some e fun k hk e => on_some e fun vs H2 e2 e Y q => by
  obtain ⟨pl,hpl⟩ := call_eq (env := env) hn hs hl hf (a := a)
  refine methodCall_KW (pl := pl) (ho c e1 _ fun u μ1 h1 tk1 g1 st1 r1 => ?_) hpl
  refine kind_ok (s := { s with heap := h1,toks := tk1 }) st1 r1 hk (fun f i k fs ek eo hx hmf => ?_) fun K hne => ?_
  · subst ek eo
    obtain ⟨xx,dd,_,_,ob⟩ := repRef st1.sim r1 hx
    obtain ⟨m1,m2,m3,m4⟩ := kn.meth k m f ob.2.2.1.1 hmf
    rw [ha,if_pos (Nat.lt_of_lt_of_le m1 kn.small),← kn.nm]
    exact method_ok (s := { s with heap := h1,toks := tk1 }) st1 kn.hK (kn.clsOk k ob.2.2.1.1) r1 hx m1 (user_meth kn hmf ob) m2 m3 (callK (kn.keep f m4) hs (has (s := { s with heap := h1,toks := tk1 }) (c.grow g1 st1) e2 _ fun ws μ2 h2 tk2 g2 st2 r2 => ⟨kn.in st2,
      ((hc (s := { s with heap := h2,toks := tk2 }) m4 c.room.c e st2 (.cons (r1.grow0 g2) r2)).call (H := H2)).after (g1.trans g2) q⟩))
  · have e := builtin_k e hne
    have S := meth_slot e
    rw [ha,if_neg S.ge]
    exact getMethod_builtin K.ty S.pa S.slot S.ty K.nod (callWith_builtin (plain_of hs) (args_of hs (has (s := { s with heap := h1,toks := tk1 }) (c.grow g1 st1) e2 _ fun ws μ2 h2 tk2 g2 st2 r2 =>
      (meth_ok (A := A) (s := { s with heap := h2,toks := tk2 }) st2 (r1.grow0 g2) r2 e).after (g1.trans g2) q)))
end
end
section
open PySem PySem.W PyProof.Rows PySem.Calls PySem.SeqAt
set_option maxRecDepth 100000
noncomputable def Src.at (s : Src) (i : Nat) (H : AH) : Option (Option PV) := match s with
  | .vals xs => some xs[i]?
  | .live r _ => getL H r fun ys => some ys[i]?
noncomputable def Src.n : Src → Nat
  | .vals xs => xs.length
  | .live _ xs => xs.length
noncomputable def Mu.haunt (μ : Mu) (g : List Addr) : Mu := ⟨μ.os,g ++ μ.gs⟩
section
variable {C : Ctx} {d : Nat} {A : Around} {se : SE} {env : Env} {μ μ' : Mu} {H H' : AH} {h h' : Heap} {l : Loc} {s : Shared} {t : Text} {N : Nm} {cf : CF} {E : Value → Shared → Prop}
theorem Sim.ghost {t : Tab} (eo : μ'.os = μ.os) (k : ∀ a o,h.get? a = some o → a ∉ μ.gs → a ∉ μ'.gs) (x : Sim t μ H h) : Sim t μ' H h := by
  have cs : μ'.cs = μ.cs := by unfold Mu.cs; rw [eo]
  exact ⟨by rw [eo]; exact x.len,by rw [cs]; exact x.nodup,fun i y c o e e' => (x.obj i y c o (eo ▸ e) e').move (fun q e Y n => ⟨cs ▸ n,e⟩) (fun Y e => e) (fun r => r.ghost eo k) fun r => r.ghost eo k⟩
theorem haunt_old {g : List Addr} (n : ∀ a ∈ g,h.get? a = none) : ∀ a o,h.get? a = some o → a ∉ μ.gs → a ∉ (μ.haunt g).gs := by
  intro a o e m q
  rcases List.mem_append.mp q with q | q
  · rw [n a q] at e; fail "=e"
  · exact m q
theorem St.haunt {g : List Addr} (x : St C μ H h) (k : ∀ b o,h.get? b = some o → h'.get? b = some o) (n : ∀ a ∈ g,h.get? a = none) (al : ∀ a ∈ g,∃ o,h'.get? a = some o) : St C (μ.haunt g) H h' := by
  have y := x.keep k
  have ns : Sim C.tab (μ.haunt g) H h := Sim.ghost (μ := μ) (μ' := μ.haunt g) rfl (haunt_old n) x.sim
  refine ⟨y.base,y.fresh,fun a ha => ?_,ns.keep k⟩
  rcases List.mem_append.mp ha with q | q
  · exact ⟨al a q,x.none_notin (n a q),noneKeep x.base (n a q)⟩
  · exact y.ghost a q
theorem Rep.haunt {g : List Addr} {x : PV} {v : Value} (r : Rep μ h x v) (k : ∀ b o,h.get? b = some o → h'.get? b = some o) (n : ∀ a ∈ g,h.get? a = none) : Rep (μ.haunt g) h' x v :=
  (Rep.ghost (μ := μ) (μ' := μ.haunt g) rfl (haunt_old n) r).grow0 (growKeep k)
theorem FrOk.os (F : FrOk C env μ h) (e : μ'.os = μ.os) : FrOk C env μ' h :=
  ⟨F.kind,F.glob,F.blt,F.ns,F.cells,F.apart,F.notloc,fun a ha => ⟨(F.new a ha).1,by unfold Mu.cs; rw [e]; exact (F.new a ha).2⟩⟩
theorem LocRep.ghost {vis : Vis} (L : LocRep env μ h vis l) (eo : μ'.os = μ.os) (k : ∀ a o,h.get? a = some o → a ∉ μ.gs → a ∉ μ'.gs) : LocRep env μ' h vis l :=
  fun n x hx pv e => (by obtain ⟨v,a,r⟩ := L n x hx pv e; exact ⟨v,a,r.ghost eo k⟩)
theorem Cx.haunt {g : List Addr} (c : Cx C d A se env μ H h l) (k : ∀ b o,h.get? b = some o → h'.get? b = some o) (n : ∀ a ∈ g,h.get? a = none) (al : ∀ a ∈ g,∃ o,h'.get? a = some o) : Cx C d A se env (μ.haunt g) H h' l :=
  have F : FrOk C env (μ.haunt g) h := c.fr.os rfl
  ⟨c.room,c.names,c.cells,c.vis,c.blank,c.st.haunt k n al,F.grow (growKeep k),(LocRep.ghost (μ := μ) (μ' := μ.haunt g) c.loc rfl (haunt_old n)).grow F (growKeep k)⟩
theorem ns_out {g gs : List Addr} {os} {a : Addr} (m : a ∉ (Mu.mk os (g ++ gs)).ns) : a ∉ g ∧ a ∉ (Mu.mk os gs).ns :=
  ⟨fun q => Mu.not_gs m (List.mem_append_left _ q),Mu.not_ns (μ := ⟨os,gs⟩) (show a ∉ (Mu.mk os gs).cs from Mu.not_cs (μ := ⟨os,g ++ gs⟩) m) (fun q => Mu.not_gs m (List.mem_append_right _ q))⟩
mutual
theorem Rep.out {g gs : List Addr} {os} (k : ∀ b o,b ∉ g → h.get? b = some o → h'.get? b = some o) : ∀ {x : PV} {v : Value},Rep ⟨os,g ++ gs⟩ h x v → Rep ⟨os,gs⟩ h' x v
  | .none,_,a => a
  | .bool _,_,a => a
  | .int _,_,a => a
  | .str _,_,a => a
  | .tup _,_,a => a.tupE (P := Rep ⟨os,gs⟩ h' _) fun a vs n e m l r => ⟨a,vs,n,rfl,k _ _ (ns_out m).1 e,(ns_out m).2,l,Reps.out k r⟩
  | .lst _,_,a => a.lstE (P := Rep ⟨os,gs⟩ h' _) fun a vs n e m l r => ⟨a,vs,n,rfl,k _ _ (ns_out m).1 e,(ns_out m).2,l,Reps.out k r⟩
  | .ref _,_,a => a
theorem Reps.out {g gs : List Addr} {os} (k : ∀ b o,b ∉ g → h.get? b = some o → h'.get? b = some o) : ∀ {xs : List PV} {vs : List Value},Reps ⟨os,g ++ gs⟩ h xs vs → Reps ⟨os,gs⟩ h' xs vs
  | [],_,a => a
  | _ :: _,_,a => a.consE (P := Reps ⟨os,gs⟩ h' _) fun Y Y p q => .cons (Rep.out k p) (Reps.out k q)
end
theorem St.out {g gs : List Addr} {os} (x : St C ⟨os,g ++ gs⟩ H h) (k : ∀ b o,b ∉ g → h.get? b = some o → h'.get? b = some o) (dis : ∀ a ∈ gs,a ∉ g) (np : ∀ a ∈ g,∀ o,h.get? a = some o → o.data ≠ .plain) : St C ⟨os,gs⟩ H h' := by
  have gg : ∀ a ∈ g,a ∈ (Mu.mk os (g ++ gs)).gs := fun a ha => List.mem_append_left _ ha
  refine ⟨fun b o e => k b o (fun z => ?_) (x.base b o e),x.fresh,fun a ha => ?_,x.sim.len,x.sim.nodup,fun i y c o e1 e2 => ?_⟩
  · rw [(x.ghost b (gg b z)).2.2] at e; fail "=e"
  · obtain ⟨⟨o,e⟩,r⟩ := x.ghost a (List.mem_append_right _ ha); exact ⟨⟨o,k a o (dis a ha) e⟩,r⟩
  · exact ObjRep.move (μ := ⟨os,g ++ gs⟩) (μ' := ⟨os,gs⟩) (fun q e p n => ⟨n,k _ _ (fun z => np y z _ e p) e⟩) (fun q e => k c q (fun z => (x.ghost c (gg c z)).2.1 (cs_mem (μ := ⟨os,gs⟩) e1)) e) (fun r => r.out k) (fun r => r.out k) (x.sim.obj i y c o e1 e2)
theorem Cx.out {g gs : List Addr} {os} (c : Cx C d A se env ⟨os,g ++ gs⟩ H h l) (k : ∀ b o,b ∉ g → h.get? b = some o → h'.get? b = some o) (dis : ∀ a ∈ gs,a ∉ g) (np : ∀ a ∈ g,∀ o,h.get? a = some o → o.data ≠ .plain)
    (w : ∀ a ∈ W env,a ∉ g) : Cx C d A se env ⟨os,gs⟩ H h' l := by
  have F := c.fr
  have kw : ∀ a ∈ W env,∀ o,h.get? a = some o → h'.get? a = some o := fun a ha o e => k a o (w a ha) e
  exact ⟨c.room,c.names,c.cells,c.vis,c.blank,c.st.out k dis np,⟨F.kind,F.glob,F.blt,(by obtain ⟨m,hm⟩ := F.ns; exact ⟨m,Ns_at hm (kw _ W_loc)⟩),fun p hp => (by obtain ⟨v,hv⟩ := F.cells p hp; exact ⟨v,IsCell_at hv (kw _ (W_cell hp))⟩),F.apart,F.notloc,F.new⟩,
    fun n x m pv e => (by obtain ⟨v,hv,r⟩ := c.loc n x m pv e; exact ⟨v,hv.keep kw,r.out k⟩)⟩
theorem noSeq_gs {W : List Addr} (x : ∀ a ∈ W,a ∈ μ.gs) : NoSeq W μ h := fun a ha => .inl (x a ha)
structure ItOk (C : Ctx) (A : Around) (tgt : Expr) (I : Addr) (wr : List Addr) (src : Src) (J : Nat → Mu → Heap → Prop) : Prop where
  sub : ∀ {i μ h},J i μ h → ∀ a ∈ wr,a ∈ μ.gs
  grow : ∀ {i W μ μ' h h'},J i μ h → Grow W μ μ' h h' → NoSeq W μ h → (∀ a ∈ wr,a ∉ W) → (∀ a ∈ wr,a ∉ μ.cs) → J i μ' h'
  next : ∀ {i μ H} {s : Shared} {x : PV} {Q : Option Value → Shared → Prop},J i μ s.heap → St C μ H s.heap → src.at i H = some (some x) →
    (∀ v h' tk',Grow wr μ μ s.heap h' → St C μ H h' → Rep μ h' x v →
      (∀ Q' : Unit → Shared → Prop,(∀ h'' tk'',Grow wr μ μ h' h'' → St C μ H h'' → J (i + 1) μ h'' → Rep μ h'' x v → Q' () { s with heap := h'',toks := tk'' }) →
        wpAny (model C.prog C.w) A (letOwnedTupleGo tgt (.ref I) v) Q' (fun Y Y => False) { s with heap := h',toks := tk' }) → Q (some v) { s with heap := h',toks := tk' }) →
    wpAny (model C.prog C.w) A (pyNext (.ref I)) Q (fun Y Y => False) s
  done : ∀ {i μ H} {s : Shared} {Q : Option Value → Shared → Prop},J i μ s.heap → St C μ H s.heap → src.at i H = some none →
    (∀ h' tk',(∀ b o,b ∉ wr → s.heap.get? b = some o → h'.get? b = some o) → Q none { s with heap := h',toks := tk' }) → wpAny (model C.prog C.w) A (pyNext (.ref I)) Q (fun Y Y => False) s
  np : ∀ {i μ h},J i μ h → ∀ a ∈ wr,∀ o,h.get? a = some o → o.data ≠ .plain
  more : ∀ {i μ h h' g},J i μ h → (∀ b o,h.get? b = some o → h'.get? b = some o) → (∀ a ∈ g,h.get? a = none) → J i (μ.haunt g) h'
  self : ∀ {μ H} {s : Shared} {Q : Value → Shared → Prop},J 0 μ s.heap → St C μ H s.heap → Q (.ref I) s → wpAny (model C.prog C.w) A (pyIter (.ref I)) Q (fun Y Y => False) s
noncomputable def owned : List String := ["enumerate","zip","dict_itemiterator","dict_reverseitemiterator","odict_iterator","itertools.zip_longest","itertools.pairwise"]
noncomputable def PlainIt (I : Addr) (h : Heap) : Prop := ∃ o k vs,h.get? I = some o ∧ o.cls = .type k ∧ o.data = .fields vs ∧ owned.contains k = false
theorem letGo_plain {tgt : Expr} {I : Addr} {v : Value} {Q : Unit → Shared → Prop} (hI : PlainIt I s.heap) (q : Q () s) : wpAny (model C.prog C.w) A (letOwnedTupleGo tgt (.ref I) v) Q E s := by
  obtain ⟨o,k,vs,ho,hc,hd,hn⟩ := hI
  have go : wpAny (model C.prog C.w) A (do
      let (.ref r,.ref a) := (Value.ref I,v) | return
      let o ← load r
      match o.cls,o.data with
      | .type n,.fields vs =>
        if ["enumerate","zip","dict_itemiterator","dict_reverseitemiterator","odict_iterator","itertools.zip_longest","itertools.pairwise"].contains n && vs[0]? == some (rawInt a) then
          rule "for.unpacks-the-owned-tuple"
          updateField r 0 .none
      | _,_ => pure ()) Q E s := by
    cases v with
    | ref a =>
      refine wpAny_bind (wpAny_load ho ?_)
      rw [hc,hd]
      show wpAny _ A (if (owned.contains k && _) = true then _ else _) Q E s
      rw [hn,Bool.false_and,if_neg (by decide)]
      exact wpAny_pure q
    | _ => exact wpAny_pure q
  cases tgt with
  | Tuple => exact go
  | List => exact go
  | _ => exact wpAny_pure q
noncomputable def WJ (I : Addr) (fp : List Addr) (P : Nat → Value → Prop) (WS : Nat → Heap → Prop) (xs : List PV) (i : Nat) (μ : Mu) (h : Heap) : Prop :=
  WS i h ∧ I ∈ μ.gs ∧ (∀ b ∈ fp,b ≠ I → ∃ o vs k,h.get? b = some o ∧ o.data = .seq vs k ∧ b ∉ μ.ns) ∧ (∀ j v x,P j v → xs[j]? = some x → Rep μ h x v) ∧ i ≤ xs.length
theorem np_at {a : Addr} {o : Obj} {d : Data} (e : h.get? a = some o) (hd : o.data = d) (n : d ≠ .plain) : ∀ o,h.get? a = some o → o.data ≠ .plain := fun o' e' q => by
  rw [e] at e'; fail "=e'"; exact n (hd.symm.trans q)
theorem PlainIt.np {I : Addr} (p : PlainIt I h) : ∀ a ∈ [I],∀ o,h.get? a = some o → o.data ≠ .plain := fun a ha o e => by
  obtain ⟨o',c,vs,e1,e2,e3,e4⟩ := p
  rw [List.mem_singleton.mp ha,e1] at e; fail "=e"; rw [e3]; exact fun z => (by contradiction)
theorem iter_side {I : Addr} (st : St C μ H h) (gI : I ∈ μ.gs) (p : PlainIt I h) (p' : PlainIt I h') (k : ∀ b o,b ∉ [I] → h.get? b = some o → h'.get? b = some o) : Grow [I] μ μ h h' ∧ St C μ H h' :=
  st.sideW k (fun a ha => List.mem_singleton.mp ha ▸ (st.ghost _ gI).2.1) (fun a ha => List.mem_singleton.mp ha ▸ (st.ghost _ gI).2.2) (fun a ha => .inl (List.mem_singleton.mp ha ▸ gI)) p.np (fun a ha Y Y => List.mem_singleton.mp ha ▸ (by obtain ⟨o,_,_,e,_⟩ := p'; exact ⟨o,e⟩))
theorem seq_one {I : Addr} (gI : I ∈ μ.gs) : NoSeq [I] μ h := fun a ha => .inl (List.mem_singleton.mp ha ▸ gI)
theorem ItOk.walk {tgt : Expr} {I : Addr} {fp : List Addr} {n : Nat} {P : Nat → Value → Prop} {WS : Nat → Heap → Prop} {xs : List PV} (W : Walks C.prog C.w A I fp [I] n P WS) (hn : n = xs.length)
    (isI : ∀ i h,WS i h → PlainIt I h) : ItOk C A tgt I [I] (.vals xs) (WJ I fp P WS xs) where
  sub := fun j a ha => List.mem_singleton.mp ha ▸ j.2.1
  np := fun j => (isI _ _ j.1).np
  self := fun j st q => W.self 0 _ _ _ j.1 q
  grow := fun {i W' μ μ' h h'} j g nq off oc => by
    have kb : ∀ b ∈ fp,∀ o,h.get? b = some o → h'.get? b = some o := fun b hb o e => by
      by_cases z : b = I
      · rw [z] at e ⊢; exact g.keep I o e (oc I (.head _)) (off I (.head _))
      · obtain ⟨o',vs,k,e1,e2,e3⟩ := j.2.2.1 b hb z
        exact g.keep b o e (Mu.not_cs e3) fun z => (nq b z).elim (Mu.not_gs e3) fun y => y _ e1 _ _ e2
    exact ⟨W.frame i h h' j.1 kb,g.gs ▸ j.2.1,fun b hb hne => (by obtain ⟨o,vs,k,e1,e2,e3⟩ := j.2.2.1 b hb hne; exact ⟨o,vs,k,kb b hb o e1,e2,g.notinN e1 e3⟩),fun j' v x a b => (j.2.2.2.1 j' v x a b).grow g nq,j.2.2.2.2⟩
  next := fun {i μ H s x Q} j st e q => by
    have e' : xs[i]? = some x := Option.some.inj e
    have hi : i < xs.length := (List.getElem?_eq_some_iff.mp e').1
    refine W.item i s Q _ (hn ▸ hi) j.1 fun v h' tk hP hs' hk => ?_
    have z := iter_side st j.2.1 (isI _ _ j.1) (isI _ _ hs') hk
    have r := (j.2.2.2.1 i v x hP e').grow z.1 (seq_one j.2.1)
    exact q v h' tk z.1 z.2 r fun Q' q' => letGo_plain (s := { s with heap := h',toks := tk }) (isI _ _ hs') (q' h' tk .refl z.2 ⟨hs',j.2.1,fun b hb hne => (by obtain ⟨o,vs,k,e1,e2,e3⟩ := j.2.2.1 b hb hne; exact ⟨o,vs,k,hk b o (fun m => hne (List.mem_singleton.mp m)) e1,e2,e3⟩),
      fun j' v x a b => (j.2.2.2.1 j' v x a b).grow z.1 (seq_one j.2.1),hi⟩ r)
  done := fun {i μ H s Q} j st e q => by
    have hi : i = n := hn ▸ Nat.le_antisymm j.2.2.2.2 (List.getElem?_eq_none_iff.mp (Option.some.inj e))
    exact W.done s Q _ (hi ▸ j.1) q
  more := fun {i μ h h' g} j k n => ⟨W.frame i h h' j.1 fun b hb o e => k b o e,List.mem_append_right _ j.2.1,fun b hb hne => (by obtain ⟨o,vs,z,e1,e2,e3⟩ := j.2.2.1 b hb hne; exact ⟨o,vs,z,k b o e1,e2,
      Mu.not_ns (μ := μ.haunt g) (show b ∉ (μ.haunt g).cs from Mu.not_cs (μ := μ) e3) fun q => (List.mem_append.mp q).elim (fun z => by rw [n b z] at e1; fail "=e1") (Mu.not_gs e3)⟩),fun j' v x a b => (j.2.2.2.1 j' v x a b).haunt k n,j.2.2.2.2⟩
noncomputable def LJ (I x : Addr) (r : Nat) (i : Nat) (μ : Mu) (h : Heap) : Prop := h.IsListIter I x i ∧ I ∈ μ.gs ∧ μ.os[r]? = some (x,x)
theorem ItOk.live {tgt : Expr} {I x : Addr} {r : Nat} {xs : List PV} (hh : A.handled = none) : ItOk C A tgt I [I] (.live r xs) (LJ I x r) := by
  have isI : ∀ {i h},h.IsListIter I x i → PlainIt I h := fun ⟨o,e1,e2,e3⟩ => ⟨o,_,_,e1,e2,e3,by decide +kernel⟩
  have xI : ∀ {μ H h},St C μ H h → I ∈ μ.gs → μ.os[r]? = some (x,x) → x ≠ I := fun st j2 j3 z => (st.ghost I j2).2.1 (z ▸ cs_mem j3)
  refine ⟨fun j a ha => List.mem_singleton.mp ha ▸ j.2.1,fun {i W' μ μ' h h'} j g nq off oc => ⟨j.1.at fun o e => g.keep I o e (oc I (.head _)) (off I (.head _)),g.gs ▸ j.2.1,g.get j.2.2⟩,
    fun {i μ H s y Q} j st e q => getL_some e fun ys hys e => ?_,fun {i μ H s Q} j st e q => getL_some e fun ys hys e => ?_,fun j => (isI j.1).np,fun {i μ h h' g} j k n => ⟨j.1.at fun o e => k I o e,List.mem_append_right _ j.2.1,j.2.2⟩,fun {μ H s Q} j st q => wpAny_pyIter_listiter j.1 q⟩
  · have e' : ys[i]? = some y := Option.some.inj e
    obtain ⟨_,l1,vs,n,e1,r1⟩ := st.sim.obj r x x _ j.2.2 hys
    obtain ⟨v,e2,r2⟩ := r1.get e'
    have hi : i < vs.size := (List.getElem?_eq_some_iff.mp e2).1
    have W := Walks.list (prog := C.prog) (w := C.w) hh I x (xI st j.2.1 j.2.2) vs
    refine W.item i s Q _ hi ⟨j.1,isList_of e1⟩ fun v' h' tk hP hs' hk => ?_
    have hv : v = v' := Option.some.inj ((e2.symm.trans Array.getElem?_toList).trans hP)
    subst hv
    have z := iter_side st j.2.1 (isI j.1) (isI hs'.1) hk
    have r3 := r2.grow z.1 (seq_one j.2.1)
    exact q v h' tk z.1 z.2 r3 fun Q' q' => letGo_plain (s := { s with heap := h',toks := tk }) (isI hs'.1) (q' h' tk .refl z.2 ⟨hs'.1,j.2.1,j.2.2⟩ r3)
  · have e' : ys[i]? = none := Option.some.inj e
    obtain ⟨_,l1,vs,n,e1,r1⟩ := st.sim.obj r x x _ j.2.2 hys
    have hi : vs.size ≤ i := by rw [sz r1]; exact List.getElem?_eq_none_iff.mp e'
    exact wpAny_pyNext_list_end hh j.1 (isList_of e1) (Array.getElem?_eq_none hi) fun h' he' => q h' s.toks fun b o hb e => he' b o (fun z => hb (z ▸ .head _)) e
end
end
section
open PySem PySem.W PyProof.Rows PySem.Calls PySem.SeqAt
set_option maxRecDepth 100000
section
variable {C : Ctx} {d : Nat} {A : Around} {se : SE} {env : Env} {μ μ' : Mu} {H H' : AH} {h h' : Heap} {l : Loc} {s : Shared} {t : Text} {N : Nm} {cf : CF} {E : Value → Shared → Prop} {tgt : Expr}
noncomputable def ItPost (C : Ctx) (A : Around) (tgt : Expr) (μ : Mu) (s : Shared) (src : Src) (H' : AH) (Q : Value → Shared → Prop) : Prop :=
  ∀ I wr J μ1 h1 h' tk',Grow [] μ μ1 s.heap h1 → St C μ1 H' h1 → (∀ b o,h1.get? b = some o → h'.get? b = some o) → (∀ a ∈ wr,h1.get? a = none) → (∀ a ∈ wr,∃ o,h'.get? a = some o) →
    ItOk C A tgt I wr src J → J 0 (μ1.haunt wr) h' → src.n ≤ lim → Q (.ref I) { s with heap := h',toks := tk' }
noncomputable def EvI (C : Ctx) (A : Around) (tgt e : Expr) (env : Env) (μ : Mu) (s : Shared) (src : Src) (H' : AH) : Prop :=
  ∀ Q : Value → Shared → Prop,ItPost C A tgt μ s src H' Q → wpAny (model C.prog C.w) A (eval e env) (fun x s1 => wpAny (model C.prog C.w) A (pyIter x) Q (fun Y Y => False) s1) (fun Y Y => False) s
noncomputable def SI (C : Ctx) (t : Text) (cf : CF) (d : Nat) (tgt : Expr) (x : I) (se : SE) (e : Expr) : Prop :=
  ∀ ⦃A env μ H s l src H'⦄,Cx C d A se env μ H s.heap l → asource t cf x l H = some (src,H') → EvI C A tgt e env μ s src H'
theorem one_none {a : Addr} (n : h.get? a = none) : ∀ b ∈ [a],h.get? b = none := fun b m => by rw [List.mem_singleton.mp m]; exact n
theorem one_live {a : Addr} {o : Obj} (n : h.get? a = some o) : ∀ b ∈ [a],∃ o,h.get? b = some o := fun b m => by rw [List.mem_singleton.mp m]; exact ⟨o,n⟩
theorem haunt_gs {a : Addr} : a ∈ (μ.haunt [a]).gs := .head _
theorem haunt_ns {g : List Addr} {a : Addr} (m : a ∉ μ.ns) (n : a ∉ g) : a ∉ (μ.haunt g).ns :=
  Mu.not_ns (μ := μ.haunt g) (show a ∉ (μ.haunt g).cs from Mu.not_cs (μ := μ) m) fun q => (List.mem_append.mp q).elim n (Mu.not_gs m)
theorem it_seq {fp : List Addr} {P : Nat → Value → Prop} {WS : Nat → Heap → Prop} {n m : Nat} {o : Obj} {xs : List PV} (st : St C μ H s.heap) {Q : Value → Shared → Prop} (q : ItPost C A tgt μ s (.vals xs) H Q) (W : Walks C.prog C.w A s.heap.objs.size fp [s.heap.objs.size] n P WS) (z : n = xs.length) (l1 : xs.length ≤ lim)
    (isI : ∀ i h,WS i h → PlainIt s.heap.objs.size h) (j0 : WS 0 (s.heap.push o)) (hI : (s.heap.push o).get? s.heap.objs.size = some o) (own : ∀ b ∈ fp,b ≠ s.heap.objs.size → ∃ o vs k,s.heap.get? b = some o ∧ o.data = .seq vs k ∧ b ∉ μ.ns) (hv : ∀ j v x,P j v → xs[j]? = some x → Rep μ s.heap x v) :
    Q (.ref s.heap.objs.size) { s with heap := s.heap.push o } :=
  q _ [s.heap.objs.size] _ μ s.heap _ s.toks .refl st (pushKeep _ _) (one_none (sizeNone _)) (one_live hI) (ItOk.walk W z isI)
    ⟨j0,haunt_gs,fun b hb hbn => (by obtain ⟨o,vs,k,e1,e2,e3⟩ := own b hb hbn; exact ⟨o,vs,k,pushKeep _ _ _ _ e1,e2,haunt_ns e3 fun m => hbn (List.mem_singleton.mp m)⟩),fun j v x a b => (hv j v x a b).haunt (pushKeep _ _) (one_none (sizeNone _)),Nat.zero_le _⟩ l1
theorem own_seq' {a I : Addr} {cls} {vs n} {h : Heap} (e : h.get? a = some { cls,data := .seq vs n }) (m : a ∉ μ.ns) : ∀ b ∈ [I,a],b ≠ I → ∃ o vs k,h.get? b = some o ∧ o.data = .seq vs k ∧ b ∉ μ.ns := fun b hb hbn => by
  have : b = a := List.mem_singleton.mp ((List.mem_cons.mp hb).resolve_left hbn)
  rw [this]
  exact ⟨_,vs,n,e,rfl,m⟩
theorem rep_at {xs : List PV} {vs : Array Value} (r1 : Reps μ h xs vs.toList) {j : Nat} {v : Value} {x : PV} (hP : vs[j]? = some v) (hx : xs[j]? = some x) : Rep μ h x v := by
  obtain ⟨w,e2,r2⟩ := r1.get hx
  rw [Array.getElem?_toList,hP] at e2
  exact just_some (P := fun w => Rep μ h x w) e2.symm r2
theorem it_lst (hh : A.handled = none) {xs : List PV} {v : Value} (st : St C μ H s.heap) (r : Rep μ s.heap (.lst xs) v) {Q : Value → Shared → Prop} (q : ItPost C A tgt μ s (.vals xs) H Q) :
    wpAny (model C.prog C.w) A (pyIter v) Q (fun Y Y => False) s :=
  r.lstE (P := fun v => wpAny _ A (pyIter v) Q _ s) fun a vs n e m l1 r1 => wpAny_pyIter_list (isList_of e) (it_seq (m := n) st q (Walks.list hh s.heap.objs.size a (ne_size e) vs) (sz r1) l1 (fun i h ⟨⟨o,e1,e2,e3⟩,_⟩ => ⟨o,_,_,e1,e2,e3,by decide +kernel⟩)
    ⟨⟨_,Heap.get?_push_size _ rfl,rfl,rfl⟩,isList_of (Heap.get?_push_of_some _ e)⟩ (Heap.get?_push_size _ rfl) (own_seq' e m) fun j v x => rep_at r1)
theorem it_tup (hh : A.handled = none) {xs : List PV} {v : Value} (st : St C μ H s.heap) (r : Rep μ s.heap (.tup xs) v) {Q : Value → Shared → Prop} (q : ItPost C A tgt μ s (.vals xs) H Q) :
    wpAny (model C.prog C.w) A (pyIter v) Q (fun Y Y => False) s :=
  r.tupE (P := fun v => wpAny _ A (pyIter v) Q _ s) fun a vs n e m l1 r1 => wpAny_pyIter_tuple (isTup_of e) (it_seq (m := n) st q (Walks.tuple hh s.heap.objs.size a (ne_size e) vs) (sz r1) l1 (fun i h ⟨⟨o,e1,e2,e3⟩,_⟩ => ⟨o,_,_,e1,e2,e3,by decide +kernel⟩)
    ⟨⟨_,Heap.get?_push_size _ rfl,rfl,rfl⟩,isTup_of (Heap.get?_push_of_some _ e)⟩ (Heap.get?_push_size _ rfl) (own_seq' e m) fun j v x => rep_at r1)
theorem sign_rep {xs : List Nat} (hc : ∀ c ∈ xs,c < 1114112) {j v x} (hP : SignAt (ST xs) j v) (hx : (xs.map fun c => PV.str [c])[j]? = some x) : Rep μ h x v := by
  obtain ⟨c,u,e1,rfl⟩ := hP
  have e2 : xs[j]? = some c := List.getElem?_toArray.symm.trans e1
  rw [List.getElem?_map,e2] at hx
  exact just_some (P := fun x => Rep μ h x _) hx (rep_str (s := [c]) (of_decide_eq_true rfl) (one_code (hc c (List.mem_of_getElem? e2))))
theorem it_str (hh : A.handled = none) {xs : List Nat} {v : Value} (st : St C μ H s.heap) (r : Rep μ s.heap (.str xs) v) {Q : Value → Shared → Prop} (q : ItPost C A tgt μ s (.vals (xs.map fun c => .str [c])) H Q) :
    wpAny (model C.prog C.w) A (pyIter v) Q (fun Y Y => False) s := r.strE (P := fun v => wpAny _ A (pyIter v) Q _ s) fun tk l1 hc => by
  have go : ∀ (ty : String),owned.contains ty = false → Walks C.prog C.w A s.heap.objs.size [s.heap.objs.size] [s.heap.objs.size] (ST xs).cps.size (SignAt (ST xs)) (fun i h => h.IsStrIter s.heap.objs.size ty (ST xs) tk i) →
      Q (.ref s.heap.objs.size) { s with heap := s.heap.push { cls := .type ty,data := .fields #[.str (ST xs) tk,.int 0 0] } } := fun ty hn W =>
    it_seq (m := 0) st q W (List.length_map ..).symm (by rw [List.length_map]; exact l1) (fun i h ⟨o,e1,e2,e3⟩ => ⟨o,_,_,e1,e2,e3,hn⟩) ⟨_,Heap.get?_push_size _ rfl,rfl,rfl⟩ (Heap.get?_push_size _ rfl) (fun b hb hbn => absurd (List.mem_singleton.mp hb) hbn) fun j v x => sign_rep hc
  cases ha : (ST xs).cps.all (· < 128)
  · exact wpAny_pyIter_wide ha (go _ (by decide +kernel) (Walks.strWide hh _ _ tk))
  · exact wpAny_pyIter_ascii ha (go _ (by decide +kernel) (Walks.strAscii hh _ _ tk))
theorem it_live (hh : A.handled = none) {r : Nat} {xs : List PV} {v : Value} (st : St C μ H s.heap) (rv : Rep μ s.heap (.ref r) v) (e : H[r]? = some (.list xs)) {Q : Value → Shared → Prop} (q : ItPost C A tgt μ s (.live r xs) H Q) :
    wpAny (model C.prog C.w) A (pyIter v) Q (fun Y Y => False) s :=
  repL (P := fun v => wpAny _ A (pyIter v) Q _ s) st.sim rv e fun x vs n e1 l1 r1 e0 => wpAny_pyIter_list (isList_of e1)
    (q _ [s.heap.objs.size] _ μ s.heap _ s.toks .refl st (pushKeep _ _) (one_none (sizeNone _)) (one_live (Heap.get?_push_size _ rfl)) (ItOk.live hh) ⟨⟨_,Heap.get?_push_size _ rfl,rfl,rfl⟩,haunt_gs,e0⟩ l1)
theorem ItPost.after {src : Src} {Q : Value → Shared → Prop} {h1 : Heap} {tk1 : Nat} {μ1 : Mu} (q : ItPost C A tgt μ s src H Q) (g : Grow [] μ μ1 s.heap h1) : ItPost C A tgt μ1 { s with heap := h1,toks := tk1 } src H Q :=
  fun I wr J μ2 h2 h' tk' g2 st2 k n al it j hn => q I wr J μ2 h2 h' tk' (g.trans g2) st2 k n al it j hn
theorem evi_ret {e : Expr} {src src' : Src} {H1 : AH} (x : some (src',H1) = some (src,H')) (h : EvI C A tgt e env μ s src' H1) : EvI C A tgt e env μ s src H' := ret_some (P := EvI C A tgt e env μ s) x h
theorem it_val (hh : A.handled = none) {x : PV} {v : Value} {src : Src} (st : St C μ H s.heap) (r : Rep μ s.heap x v) (e : asrc H x = some src) {Q : Value → Shared → Prop} (q : ItPost C A tgt μ s src H Q) :
    wpAny (model C.prog C.w) A (pyIter v) Q (fun Y Y => False) s := by
  cases x with
  | lst xs => exact it_lst hh st r (just_some (P := fun src => ItPost C A tgt μ s src H Q → ItPost C A tgt μ s (.vals xs) H Q) e id q)
  | tup xs => exact it_tup hh st r (just_some (P := fun src => ItPost C A tgt μ s src H Q → ItPost C A tgt μ s (.vals xs) H Q) e id q)
  | str xs => exact it_str hh st r (just_some (P := fun src => ItPost C A tgt μ s src H Q → ItPost C A tgt μ s (.vals (xs.map fun c => .str [c])) H Q) e id q)
  | ref i => exact getL_some e fun xs hx e => it_live hh st r hx (just_some (P := fun src => ItPost C A tgt μ s src H Q → ItPost C A tgt μ s (.live i xs) H Q) e id q)
  | _ => fail "=e"
theorem si_val {x : X} {e : Expr} (hx : SX C t cf d x se e) : SI C t cf d tgt (.val x) se e := fun Y Y Y Y s Y Y Y c e1 => on_some e1 fun pv H1 e2 e1 => bd_some e1 fun src e3 e1 => evi_ret e1 fun Q q =>
  hx c e2 _ fun v μ1 h1 tk1 g1 st1 r1 => it_val (s := { s with heap := h1,toks := tk1 }) c.room.handled st1 r1 e3 (q.after g1)
theorem ints_length : ∀ (n : Nat) (a : Int),(intsFrom a n).length = n
  | 0,_ => rfl
  | n + 1,a => congrArg (· + 1) (ints_length n (a + 1))
theorem ints_get : ∀ (n : Nat) (a : Int) (j : Nat) (x : PV),(intsFrom a n)[j]? = some x → x = .int (a + j)
  | 0,_,_,_,e => (by contradiction)
  | n + 1,a,0,x,e => just_some (P := fun x => x = .int (a + (0 : Nat))) e (congrArg PV.int (Int.add_zero a).symm)
  | n + 1,a,j + 1,x,e => (ints_get n (a + 1) j x e).trans (congrArg PV.int (by fail "l"))
theorem it_range (hh : A.handled = none) {a b : Int} {r : Addr} {u v w : Tok} (ha : 0 ≤ a ∧ a ≤ lim ∧ -(lim : Int) ≤ b ∧ b ≤ lim) {s1 : Shared} (st : St C μ H s1.heap) (k0 : ∀ b o,s1.heap.get? b = some o → s.heap.get? b = some o) (hs : ∀ h tk,({ s with heap := h,toks := tk } : Shared) = { s1 with heap := h,toks := tk })
    (hr : IsRange s.heap r a b 1 u v w) {Q : Value → Shared → Prop} (q : ItPost C A tgt μ s1 (.vals (intsFrom a (b - a).toNat)) H Q) : wpAny (model C.prog C.w) A (pyIter (.ref r)) Q (fun Y Y => False) s := by
  have l62 : (lim : Int) < 2 ^ 62 := by decide
  refine wpAny_pyIter_range hr (small_one (by fail "l") (by fail "l") (by fail "l") (by fail "l")) ?_
  have hsz : Builtin.Range.rangeSize a b 1 = ((b - a).toNat : Int) := by rw [rangeSize_one]; split <;> fail "l"
  have hI : (s.heap.push { cls := .type "range_iterator",data := .fields #[rawInt a,rawInt (Builtin.Range.rangeSize a b 1),rawInt 1] }).get? s.heap.objs.size = some { cls := .type "range_iterator",data := .fields #[rawInt a,rawInt (Builtin.Range.rangeSize a b 1),rawInt 1] } := Heap.get?_push_size _ rfl
  have q := q s.heap.objs.size [s.heap.objs.size] _ μ s1.heap _ s.toks .refl st (fun b o e => pushKeep _ _ _ _ (k0 b o e)) (one_none (noneKeep k0 (sizeNone _))) (one_live hI)
    (ItOk.walk (PyProof.Rows.LCg.range_walks hh a (b - a).toNat) (ints_length _ _).symm fun i h j => ⟨_,_,_,j,rfl,rfl,by decide +kernel⟩) ⟨?_,haunt_gs,fun b hb hbn => absurd (List.mem_singleton.mp hb) hbn,fun j v x hP hx => ?_,Nat.zero_le _⟩ (by show (intsFrom _ _).length ≤ lim; rw [ints_length]; fail "l")
  · exact hs _ _ ▸ q
  · show IsRangeIter _ _ (a + ((0 : Nat) : Int) * 1) (((b - a).toNat : Int) - ((0 : Nat) : Int)) 1
    rw [← hsz,show (a + ((0 : Nat) : Int) * 1) = a by fail "l",Int.natCast_zero,Int.sub_zero]
    exact hI
  · obtain ⟨u,rfl⟩ := hP
    rw [ints_get _ _ _ _ hx]; exact rep_int
theorem range_ok {vs : List PV} {ws : List Value} {src : Src} (hh : A.handled = none) (st : St C μ H s.heap) (r1 : Reps μ s.heap vs ws) (e : srcRange vs = some src) {Q : Value → Shared → Prop} (q : ItPost C A tgt μ s src H Q) :
    wpAny (model C.prog C.w) A (call (.type "range") ws) (fun x s1 => wpAny (model C.prog C.w) A (pyIter x) Q (fun Y Y => False) s1) (fun Y Y => False) s := by
  match vs,e,r1 with
  | [],e,_ => fail "=e"
  | _ :: _ :: _ :: _,e,_ => fail "=e"
  | [a],e,r1 => exact r1.one (P := fun ws => wpAny _ A (call _ ws) _ _ s) fun v r => asI_rep (P := fun v => wpAny _ A (call _ [v]) _ _ s) e r fun n u e => chk_some e fun hn e => call_range_1 (show wpAny _ A (pyIter (.ref s.heap.objs.size)) Q _ _ from it_range (s1 := s) (a := 0) hh ⟨Int.le_refl _,by decide,hn.1,hn.2⟩ st (pushKeep _ _) (fun Y Y => by rfl) (IsRange.new ..) (by rw [Int.sub_zero]; exact just_some (P := fun src => ItPost C A tgt μ s src H Q → ItPost C A tgt μ s (.vals (intsFrom 0 n.toNat)) H Q) e id q))
  | [a,b],e,r1 => exact r1.two (P := fun ws => wpAny _ A (call _ ws) _ _ s) fun v w r r' => asI_rep (P := fun v => wpAny _ A (call _ [v,w]) _ _ s) e r fun a u e => asI_rep (P := fun w => wpAny _ A (call _ [_,w]) _ _ s) e r' fun n u' e => chk_some e fun hn e => call_range_2 (show wpAny _ A (pyIter (.ref s.heap.objs.size)) Q _ _ from it_range (s1 := s) hh hn st (pushKeep _ _) (fun Y Y => by rfl) (IsRange.new ..) (just_some (P := fun src => ItPost C A tgt μ s src H Q → ItPost C A tgt μ s (.vals (intsFrom a (n - a).toNat)) H Q) e id q))
theorem si_range {kn : Know C t N} {as : List X} {es p p'} (hx : isGl se ("range" : Str) = true) (hs : es.all notStar = true) (has : SXs C t cf d as se es) : SI C t cf d tgt (.range as) se (.Call (.Name ("range" : Str) p') es [] p) := fun Y Y Y Y s Y Y Y c e1 =>
  on_some e1 fun vs H1 e2 e1 => bd_some e1 fun src e3 e1 => evi_ret e1 fun Q q => wpAny_Call_NameR (load_bi kn c hx kn.range (PySem.callWith_type (plain_of hs) (args_of hs (has c e2 _ fun ws μ1 h1 tk1 g1 st1 r1 => range_ok (s := { s with heap := h1,toks := tk1 }) c.room.handled st1 r1 e3 (q.after g1)))))
theorem rev_ok {vs : List PV} {ws : List Value} {src : Src} (hh : A.handled = none) (st : St C μ H s.heap) (r1 : Reps μ s.heap vs ws) (e : srcRev vs = some src) {Q : Value → Shared → Prop} (q : ItPost C A tgt μ s src H Q) :
    wpAny (model C.prog C.w) A (call (.type "reversed") ws) (fun x s1 => wpAny (model C.prog C.w) A (pyIter x) Q (fun Y Y => False) s1) (fun Y Y => False) s :=
  arg1_rep (P := fun ws => wpAny _ A (call _ ws) _ _ s) e r1 fun a v e r => asL_rep (P := fun v => wpAny _ A (call _ [v]) _ _ s) e r fun xs l vs n e2 m l1 r4 e => by
    have z := sz r4
    refine call_reversed_list (isList_of e2) ?_
    have hI : (s.heap.push (revObj l ((vs.size : Int) - 1))).get? s.heap.objs.size = some (revObj l ((vs.size : Int) - 1)) := Heap.get?_push_size _ rfl
    refine wpAny_pyIter_revIter (i := (vs.size : Int) - 1) ⟨_,hI,rfl,rfl⟩ (it_seq (m := n) (xs := xs.reverse) st (just_some (P := fun src => ItPost C A tgt μ s src H Q → ItPost C A tgt μ s (.vals xs.reverse) H Q) e id q) (Walks.listRev hh s.heap.objs.size l (ne_size e2) vs)
      (by rw [List.length_reverse]; exact z) (by rw [List.length_reverse]; exact l1) (fun i h ⟨_,⟨o,e1,e2,e3⟩,_⟩ => ⟨o,_,_,e1,e2,e3,by decide +kernel⟩) ⟨Nat.zero_le _,⟨_,hI,rfl,?_⟩,isList_of (Heap.get?_push_of_some _ e2)⟩ hI (own_seq' e2 m) fun j v x hP hx => ?_)
    · show Data.fields #[.ref l,rawInt ((vs.size : Int) - 1)] = Data.fields #[.ref l,rawInt ((vs.size : Int) - 1 - ((0 : Nat) : Int))]
      rw [Int.natCast_zero,Int.sub_zero]
    · have hj : j < xs.length := by have := (List.getElem?_eq_some_iff.mp hx).1; rwa [List.length_reverse] at this
      rw [List.getElem?_reverse hj,← z] at hx
      exact rep_at r4 hP hx
theorem si_rev {kn : Know C t N} {as : List X} {es p p'} (hx : isGl se ("reversed" : Str) = true) (hs : es.all notStar = true) (has : SXs C t cf d as se es) : SI C t cf d tgt (.rev as) se (.Call (.Name ("reversed" : Str) p') es [] p) := fun Y Y Y Y s Y Y Y c e1 =>
  on_some e1 fun vs H1 e2 e1 => bd_some e1 fun src e3 e1 => evi_ret e1 fun Q q => wpAny_Call_NameR (load_bi kn c hx kn.rev (PySem.callWith_type (plain_of hs) (args_of hs (has c e2 _ fun ws μ1 h1 tk1 g1 st1 r1 => rev_ok (s := { s with heap := h1,toks := tk1 }) c.room.handled st1 r1 e3 (q.after g1)))))
end
end
section
open PySem PySem.W PyProof.Rows PySem.Calls PySem.SeqAt
set_option maxRecDepth 100000
section
variable {C : Ctx} {d : Nat} {A : Around} {se : SE} {env : Env} {μ μ' : Mu} {H H' : AH} {h h' : Heap} {l : Loc} {s : Shared} {t : Text} {N : Nm} {cf : CF} {E : Value → Shared → Prop}
structure WOk (se : SE) (env : Env) (vs : Vis) (W' : List Addr) : Prop where
  loc : env.locals ∈ W'
  sub : ∀ a ∈ W',a ∈ W env
  all : (∀ p ∈ vs,se.ns.lookup p.2 = some .local) ∨ ∀ a ∈ W env,a ∈ W'
theorem WOk.noSeq {vs W'} (w : WOk se env vs W') (F : FrOk C env μ h) : NoSeq W' μ h := fun a ha => F.noSeq a (w.sub a ha)
theorem WOk.left {vs us W'} (w : WOk se env (vs ++ us) W') : WOk se env vs W' := ⟨w.loc,w.sub,w.all.imp (fun a p hp => a p (List.mem_append_left _ hp)) id⟩
theorem WOk.right {vs us W'} (w : WOk se env (vs ++ us) W') : WOk se env us W' := ⟨w.loc,w.sub,w.all.imp (fun a p hp => a p (List.mem_append_right _ hp)) id⟩
noncomputable def AsPost (C : Ctx) (d : Nat) (A : Around) (se : SE) (env : Env) (μ : Mu) (s : Shared) (W' : List Addr) (l' : Loc) (H' : AH) (Q : Unit → Shared → Prop) : Prop :=
  ∀ μ' h' tk',Grow W' μ μ' s.heap h' → Cx C d A se env μ' H' h' l' → Q () { s with heap := h',toks := tk' }
noncomputable def EvT (C : Ctx) (d : Nat) (A : Around) (se : SE) (env : Env) (m : Sem Unit) (μ : Mu) (s : Shared) (W' : List Addr) (l' : Loc) (H' : AH) : Prop :=
  ∀ Q : Unit → Shared → Prop,AsPost C d A se env μ s W' l' H' Q → wpAny (model C.prog C.w) A m Q (fun Y Y => False) s
noncomputable def SG (C : Ctx) (t : Text) (cf : CF) (d : Nat) (x : T) (se : SE) (e : Expr) : Prop :=
  ∀ ⦃A env μ H s l pv v l' H' W'⦄,Cx C d A se env μ H s.heap l → Rep μ s.heap pv v → aassign t cf x pv l H = some (l',H') → WOk se env (tgtVars x e) W' → EvT C d A se env (assign e env v) μ s W' l' H'
noncomputable def SGs (C : Ctx) (t : Text) (cf : CF) (d : Nat) (xs : List T) (se : SE) (es : List Expr) : Prop :=
  ∀ ⦃A env μ H s l pvs vs l' H' W'⦄,Cx C d A se env μ H s.heap l → Reps μ s.heap pvs vs → aassigns t cf xs pvs l H = some (l',H') → WOk se env (tgtsVars xs es) W' → EvT C d A se env (assignInOrder ((assignEach es env).map (·.2)) vs) μ s W' l' H'
theorem evt_ret {m : Sem Unit} {W' : List Addr} {l1 l' : Loc} {H1 : AH} (e : some (l1,H1) = some (l',H')) (h : EvT C d A se env m μ s W' l1 H1) : EvT C d A se env m μ s W' l' H' := ret_some (P := EvT C d A se env m μ s W') e h
theorem EvT.after {m : Sem Unit} {W' : List Addr} {μ1 : Mu} {h1 : Heap} {tk : Nat} {l' : Loc} {Q : Unit → Shared → Prop} (x : EvT C d A se env m μ1 { s with heap := h1,toks := tk } W' l' H') (g : Grow W' μ μ1 s.heap h1) (q : AsPost C d A se env μ s W' l' H' Q) :
    wpAny (model C.prog C.w) A m Q (fun Y Y => False) { s with heap := h1,toks := tk } := x Q fun μ2 h2 tk2 g2 c2 => q μ2 h2 tk2 (g.trans g2) c2
theorem vis_uniq {v : Vis} (hv : visOk v = true) {n m : Nat} {x y : Str} (a : (n,x) ∈ v) (b : (m,y) ∈ v) : n = m ↔ x = y := by
  unfold visOk at hv
  have := List.all_eq_true.mp (List.all_eq_true.mp hv _ a) _ b
  have z : ((n == m) = (x == y)) := by simpa using this
  constructor
  · intro e; subst e
    rw [beq_self_eq_true] at z
    exact eq_of_beq z.symm
  · intro e; subst e
    rw [beq_self_eq_true] at z
    exact eq_of_beq z
theorem storable_kind (c : Cx C d A se env μ H h l) {x : Str} (hs : storable se x = true) :
    env.kindOf x = some .local ∨ (env.kindOf x = some .cell ∧ (x == ("__classdict__" : Str)) = false ∧ (env.cells.lookup x).isSome = true) := by
  unfold storable at hs
  have e : env.kindOf x = se.ns.lookup x := by unfold Env.kindOf; rw [c.names]
  rw [Bool.or_eq_true,Bool.and_eq_true,beq_iff_eq,beq_iff_eq] at hs
  rcases hs with hs | ⟨hs,hd⟩
  · exact .inl (by rw [e,hs])
  · exact .inr ⟨by rw [e,hs],by simpa using hd,c.cells x hs⟩
theorem store_cx {W' : List Addr} {vs : Vis} (c : Cx C d A se env μ H s.heap l) {n : Nat} {x : Str} (hx : (n,x) ∈ se.vis) (hst : storable se x = true) {pv : PV} {v : Value} (r : Rep μ s.heap pv v) (hlo : n < se.lo) (hl : n < l.length) (w : WOk se env vs W') (hv : ∀ y,se.ns.lookup x ≠ some .local → ∃ p ∈ vs,p.2 = x ∨ y) :
    ∀ Q : Unit → Shared → Prop,AsPost C d A se env μ s W' (l.set n (some pv)) H Q → wpAny (model C.prog C.w) A (storeName env x v) Q (fun Y Y => False) s := by
  intro Q q
  refine store_ok c.st c.fr c.loc hx (fun m hm => (vis_uniq c.vis hm hx).mpr rfl) (fun y hy => (vis_uniq c.vis hy hx).mp rfl) r (storable_kind c hst) hl fun h' tk' a ha hal g st fr lr => ?_
  refine q μ h' tk' (g.weaken fun b hb => ?_) ⟨c.room,c.names,c.cells,c.vis,fun m hm v => by rw [List.getElem?_set_ne (by fail "l")]; exact c.blank m hm v,st,fr,lr⟩
  rw [List.mem_singleton.mp hb]
  have e : env.kindOf x = se.ns.lookup x := by unfold Env.kindOf; rw [c.names]
  by_cases hloc : se.ns.lookup x = some .local
  · rw [hal (by rw [e,hloc])]; exact w.loc
  · rcases w.all with wa | wa
    · obtain ⟨p,hp,h2⟩ := hv False hloc
      rcases h2 with h2 | h2
      · exact absurd (h2 ▸ wa p hp) hloc
      · exact h2.elim
    · exact wa a ha
theorem t_loc {n x p} (hx : isLoc se n x = true) (hst : storable se x = true) (hlo : n < se.lo) : SG C t cf d (.loc n) se (.Name x p) := fun Y Y Y Y Y Y Y Y Y Y Y c r e w => chk_some e fun hl e => evt_ret e fun Q q =>
  wpAny_assign_Name (store_cx c (isLoc_mem hx).1 hst r hlo hl w (fun y Y => ⟨(n,x),.head _,.inl rfl⟩) Q q)
theorem t_attr (kn : Know C t N) {o : X} {k : Nat} {x p} (ho : SX C t cf d o se x) : SG C t cf d (.attr o k) se (.Attribute x (N.nm k) p) := fun Y Y Y Y s Y Y Y Y Y Y c r e w => on_some e fun ov H1 e1 e => bd_some e fun h2 e2 e => evt_ret e fun Q q => by
  rw [arm_assign_Attribute,← kn.nm]
  exact wpAny_bind (wpAny_holding (ho c e1 _ fun u μ1 h1 tk1 g1 st1 r1 => wpAny_bind (wpAny_standAt (wpAny_bind (wpAny_holding (setattr_ok (s := { s with heap := h1,toks := tk1 }) st1 kn.hK kn.clsOk kn.free kn.nn r1 (r.grow0 g1) e2 fun h' tk' g2 st2 =>
    wpAny_release (q μ1 h' tk' (g1.trans g2).nil (c.grow (g1.trans g2) st2))))))))
theorem t_idx {o i : X} {x j p} (ho : SX C t cf d o se x) (hi : SX C t cf d i se j) : SG C t cf d (.idx o i) se (.Subscript x j p) := fun Y Y Y Y s Y Y Y Y Y Y c r e w => on_some e fun ov H1 e1 e => on_some e fun iv H2 e2 e => bd_some e fun h2 e3 e => evt_ret e fun Q q => by
  rw [arm_assign_Subscript]
  exact wpAny_bind (wpAny_holding (ho c e1 _ fun u μ1 h1 tk1 g1 st1 r1 => wpAny_bind (wpAny_holding (hi (s := { s with heap := h1,toks := tk1 }) (c.grow g1 st1) e2 _ fun u' μ2 h2 tk2 g2 st2 r2 =>
    wpAny_bind (wpAny_standAt (wpAny_bind (wpAny_holding (setidx_ok (s := { s with heap := h2,toks := tk2 }) st2 (r1.grow0 g2) r2 (r.grow0 (g1.trans g2)) e3 fun h' tk' g3 st3 =>
      wpAny_release (q μ2 h' tk' ((g1.trans g2).trans g3).nil (c.grow ((g1.trans g2).trans g3) st3))))))))))
theorem assignEach_of {e : Expr} {r : List Expr} (h : notStar e = true) : assignEach (e :: r) env = (false,assign e env) :: assignEach r env := by
  fail "=e" <;> first | rfl | fail "=h"
structure EachOk (env : Env) (es : List Expr) : Prop where
  len : (assignEach es env).length = es.length
  plain : (assignEach es env).findIdx? (·.1) = none
theorem assignEach_length : ∀ {es : List Expr},es.all notStar = true → EachOk env es
  | [],_ => ⟨rfl,rfl⟩
  | e :: r,h => by
    rw [List.all_cons,Bool.and_eq_true] at h
    have b := assignEach_length (es := r) h.2
    constructor
    · rw [assignEach_of h.1]; exact congrArg (· + 1) b.len
    · rw [assignEach_of h.1,List.findIdx?_cons,b.plain]; rfl
theorem ts_nil : SGs C t cf d [] se [] := fun Y Y μ Y s Y Y Y Y Y Y c r e w => whn_some e fun z e => evt_ret e fun Q q => by
  rw [List.isEmpty_iff.mp z] at r
  exact r.nilE (P := fun vs => wpAny _ _ (assignInOrder [] vs) Q _ s) (wpAny_assignInOrder_none (q μ s.heap s.toks .refl c))
theorem ts_cons {x xs e es} (hs : notStar e = true) (hx : SG C t cf d x se e) (hxs : SGs C t cf d xs se es) : SGs C t cf d (x :: xs) se (e :: es) := fun A env μ H s l pvs vs l' H' W' c r e1 w Q q => by
  cases pvs with
  | nil => fail "=e1"
  | cons pv pvs =>
    rw [assignEach_of hs]
    exact r.consE (P := fun vs => wpAny _ A (assignInOrder _ vs) Q _ s) fun v vs r1 r2 => on_some e1 fun l1 H1 e2 e1 => wpAny_assignInOrder_more (hx c r1 e2 (WOk.left (us := tgtsVars xs es) w) _ fun μ1 h1 tk1 g1 c1 =>
      (hxs (s := { s with heap := h1,toks := tk1 }) c1 (r2.grow g1 (w.noSeq c.fr)) e1 (WOk.right (vs := tgtVars x e) w)).after g1 q)
theorem aassigns_length : ∀ {xs : List T} {ps l H l' H'},aassigns t cf xs ps l H = some (l',H') → xs.length = ps.length
  | [],ps,_,_,_,_,e => whn_some e fun z Y => by rw [List.isEmpty_iff.mp z]; rfl
  | _ :: _,[],_,_,_,_,e => (by contradiction)
  | x :: xs,p :: ps,l,H,l',H',e => on_some e fun Y Y Y e => congrArg (· + 1) (aassigns_length e)
theorem t_tup {xs : List T} {es k p} (hs : es.all notStar = true) (hl : xs.length = es.length) (hx : SGs C t cf d xs se es) : SG C t cf d (.tup xs) se (.Tuple es k p) := fun A env μ H s l pv v l' H' W' c r e w Q q =>
  asT_rep (P := fun v => wpAny _ A (assign _ env v) Q _ s) e r fun pvs a vs n e1 m l1 r1 e => by
    have E := assignEach_length (env := env) hs
    refine wpAny_assign_Tuple c.room.handled (isTup_of e1) (by rw [E.len,sz r1,← hl]; exact aassigns_length e) E.plain fun h' he => ?_
    have k : ∀ b o,s.heap.get? b = some o → h'.get? b = some o := fun b o e => he b o (ne_size e) e
    exact (hx (s := { s with heap := h' }) (c.grow (growKeep k) (c.st.keep k)) (r1.grow0 (growKeep k)) e w).after (growKeep k).nil q
end
end
section
open PySem PySem.W PyProof.Rows PySem.Calls PySem.SeqAt
set_option maxRecDepth 100000
section
variable {prog : Program} {w : World} {A : Around} {E : Value → Shared → Prop} {s : Shared}
structure Apart5 (z TI TO i1 i2 : Addr) : Prop where
  TIz : TI ≠ z
  TOz : TO ≠ z
  i1z : i1 ≠ z
  i2z : i2 ≠ z
  TITO : TI ≠ TO
  TIi1 : TI ≠ i1
  TIi2 : TI ≠ i2
  TOi1 : TO ≠ i1
  TOi2 : TO ≠ i2
  i12 : i1 ≠ i2
variable {z TI TO i1 i2 : Addr} {n1 n2 k : Nat} {P1 P2 : Nat → Value → Prop} {S1 S2 : Nat → Heap → Prop} {a b : Value}
theorem fr1 {A : Around} {i : Addr} {n : Nat} {P : Nat → Value → Prop} {St : Nat → Heap → Prop} (d : Draws prog w A i [i] n P St) {k : Nat} {h h' : Heap} (x : St k h) (e : ∀ o,h.get? i = some o → h'.get? i = some o) : St k h' :=
  d.frame k h h' x fun b hb o q => by rw [List.mem_singleton.mp hb] at q ⊢; exact e o q
theorem zipD_item {Q : Value → Shared → Prop} (D : Apart5 z TI TO i1 i2) (d1 : Draws prog w A i1 [i1] n1 P1 S1) (d2 : Draws prog w A i2 [i2] n2 P2 S2) (hz : IsZip s.heap z TI TO .none) (hTI : IsPair s.heap TI (.ref i1) (.ref i2)) (hTO : IsPair s.heap TO a b)
    (h1 : S1 k s.heap) (h2 : S2 k s.heap) (k1 : k < n1) (k2 : k < n2)
    (hQ : ∀ x y h' tk,P1 k x → P2 k y → IsZip h' z TI TO (rawInt s.heap.objs.size) → IsPair h' TO x y → S1 (k + 1) h' → S2 (k + 1) h' → IsPair h' s.heap.objs.size x y →
      (∀ c o,c ≠ z → c ≠ TO → c ≠ i1 → c ≠ i2 → s.heap.get? c = some o → h'.get? c = some o) → Q (.ref s.heap.objs.size) { s with heap := h',toks := tk }) :
    wpAny (model prog w) A (Builtin.«zip.__next__» ⟨[.ref z],[]⟩) (fun fin s' => ∃ v,fin = .done (.ret v) ∧ Q v s') E s := by
  show wpAny _ _ (field (.ref z) 2 >>= _) _ _ _
  refine wpAny_bind (wpAny_field hz rfl (x := .bool false) rfl ?_)
  show wpAny _ _ (field (.ref z) 3 >>= _) _ _ _
  refine wpAny_bind (wpAny_field hz rfl (x := .ref TI) rfl ?_)
  refine wpAny_bind (wpAny_seqItems hTI rfl ?_)
  show wpAny _ _ (Builtin.SmallTypes.ownedTupleIsFree (.ref z) >>= _) _ _ _
  refine wpAny_bind ?_
  unfold Builtin.SmallTypes.ownedTupleIsFree
  refine wpAny_bind (wpAny_field hz rfl (x := .none) rfl (wpAny_pure ?_))
  simp only [if_true]
  refine wpAny_bind (wpAny_rule ?_)
  refine wpAny_bind (wpAny_field hz rfl (x := .ref TO) rfl ?_)
  refine wpAny_bind (wpAny_setField_rec hz (by simp) fun h₁ hz₁ hs₁ => ?_)
  replace hz₁ : IsZip h₁ z TI TO .ellipsis := hz₁
  refine wpAny_bind ?_
  simp only [List.zipIdx_cons,List.zipIdx_nil,List.forIn_cons,List.forIn_nil]
  refine wpAny_bind (wpAny_bind (wpAny_onRaise ?_))
  show wpAny _ _ (Builtin.SmallTypes.nextOf (.ref i1) >>= _) _ _ _
  refine wpAny_bind (d1.item k _ _ _ k1 (fr1 d1 h1 fun o e => hs₁.extBut _ _ D.i1z e) fun x h₂ tk₂ p1 h1₂ hs₂ => wpAny_pure ?_)
  have hTO₂ : IsPair h₂ TO a b := hs₂.extBut _ _ D.TOi1 (hs₁.extBut _ _ D.TOz hTO)
  refine wpAny_bind (wpAny_seqItems hTO₂ rfl ?_)
  refine wpAny_bind (wpAny_updateSeq_pair hTO₂ fun h₃ hTO₃ hs₃ => ?_)
  replace hTO₃ : IsPair h₃ TO x b := hTO₃
  refine wpAny_bind (wpAny_letGo (wpAny_pure ?_))
  refine wpAny_bind (wpAny_bind (wpAny_onRaise ?_))
  show wpAny _ _ (Builtin.SmallTypes.nextOf (.ref i2) >>= _) _ _ _
  refine wpAny_bind (d2.item k _ _ _ k2 (fr1 d2 h2 fun o e => hs₃.extBut _ _ D.TOi2.symm (hs₂.extBut _ _ D.i12.symm (hs₁.extBut _ _ D.i2z e))) fun y h₄ tk₄ p2 h2₄ hs₄ => wpAny_pure ?_)
  have hTO₄ : IsPair h₄ TO x b := hs₄.extBut _ _ D.TOi2 hTO₃
  refine wpAny_bind (wpAny_seqItems hTO₄ rfl ?_)
  refine wpAny_bind (wpAny_updateSeq_pair hTO₄ fun h₅ hTO₅ hs₅ => ?_)
  replace hTO₅ : IsPair h₅ TO x y := hTO₅
  refine wpAny_bind (wpAny_letGo (wpAny_pure (wpAny_pure ?_)))
  refine wpAny_bind (wpAny_seqItems hTO₅ rfl ?_)
  refine wpAny_bind (wpAny_newTuple ?_)
  have hsz : h₅.objs.size = s.heap.objs.size := by rw [hs₅.1,hs₄.1,hs₃.1,hs₂.1,hs₁.1]
  have hz₅ : IsZip h₅ z TI TO .ellipsis := hs₅.extBut _ _ D.TOz.symm (hs₄.extBut _ _ D.i2z.symm (hs₃.extBut _ _ D.TOz.symm (hs₂.extBut _ _ D.i1z.symm hz₁)))
  have hk₅ : ∀ c o,c ≠ z → c ≠ TO → c ≠ i1 → c ≠ i2 → s.heap.get? c = some o → h₅.get? c = some o := fun c o c1 c2 c3 c4 e =>
    hs₅.extBut _ _ c2 (hs₄.extBut _ _ c4 (hs₃.extBut _ _ c2 (hs₂.extBut _ _ c3 (hs₁.extBut _ _ c1 e))))
  have h1₅ : S1 (k + 1) h₅ := fr1 d1 h1₂ fun o e => hs₅.extBut _ _ D.TOi1.symm (hs₄.extBut _ _ D.i12 (hs₃.extBut _ _ D.TOi1.symm e))
  have h2₅ : S2 (k + 1) h₅ := fr1 d2 h2₄ fun o e => hs₅.extBut _ _ D.TOi2.symm e
  have hzlt : z < h₅.objs.size := Heap.lt_size hz₅
  show wpAny _ _ (Builtin.SmallTypes.ownedTupleHandOut (.ref z) (.ref h₅.objs.size) >>= _) _ _ _
  refine wpAny_bind ?_
  unfold Builtin.SmallTypes.ownedTupleHandOut
  have hz₆ : IsZip (h₅.push { cls := .type "tuple",data := .seq #[x,y] }) z TI TO .ellipsis := Heap.get?_push_of_some _ hz₅
  refine wpAny_bind (wpAny_setField_rec hz₆ (by simp) fun h₇ hz₇ hs₇ => ?_)
  replace hz₇ : IsZip h₇ z TI TO (rawInt h₅.objs.size) := hz₇
  refine wpAny_setField_rec hz₇ (by simp) fun h₈ hz₈ hs₈ => ?_
  replace hz₈ : IsZip h₈ z TI TO (rawInt h₅.objs.size) := hz₈
  have up : ∀ c o,c ≠ z → h₅.get? c = some o → h₈.get? c = some o := fun c o c1 e => hs₈.extBut _ _ c1 (hs₇.extBut _ _ c1 (Heap.get?_push_of_some _ e))
  have hT₈ : IsPair h₈ h₅.objs.size x y := hs₈.extBut _ _ (Nat.ne_of_gt hzlt) (hs₇.extBut _ _ (Nat.ne_of_gt hzlt) (Heap.get?_push_size _ rfl))
  rw [hsz] at hz₈ hT₈
  refine wpAny_pure ⟨_,rfl,?_⟩
  show Q (.ref h₅.objs.size) _
  rw [hsz]
  exact hQ x y h₈ _ p1 p2 hz₈ (up _ _ D.TOz hTO₅) (fr1 d1 h1₅ fun o e => up _ o D.i1z e) (fr1 d2 h2₅ fun o e => up _ o D.i2z e) hT₈ fun c o c1 c2 c3 c4 e => up c o c1 (hk₅ c o c1 c2 c3 c4 e)
theorem zipD_end {Q : PySem.Fin → Shared → Prop} (D : Apart5 z TI TO i1 i2) (d1 : Draws prog w A i1 [i1] n1 P1 S1) (d2 : Draws prog w A i2 [i2] n2 P2 S2)
    (hz : IsZip s.heap z TI TO .none) (hTI : IsPair s.heap TI (.ref i1) (.ref i2)) (hTO : IsPair s.heap TO a b) (h1 : S1 k s.heap) (h2 : S2 k s.heap) (hk : k ≤ n1) (hend : k = n1 ∨ k = n2)
    (hE : ∀ h' e tk,(∀ c o,c ≠ z → c ≠ TO → c ≠ i1 → c ≠ i2 → s.heap.get? c = some o → h'.get? c = some o) → (∃ o,h'.get? e = some o ∧ o.cls = .type "StopIteration") → E (.ref e) { s with heap := h',toks := tk }) :
    wpAny (model prog w) A (Builtin.«zip.__next__» ⟨[.ref z],[]⟩) Q E s := by
  show wpAny _ _ (field (.ref z) 2 >>= _) _ _ _
  refine wpAny_bind (wpAny_field hz rfl (x := .bool false) rfl ?_)
  show wpAny _ _ (field (.ref z) 3 >>= _) _ _ _
  refine wpAny_bind (wpAny_field hz rfl (x := .ref TI) rfl ?_)
  refine wpAny_bind (wpAny_seqItems hTI rfl ?_)
  show wpAny _ _ (Builtin.SmallTypes.ownedTupleIsFree (.ref z) >>= _) _ _ _
  refine wpAny_bind ?_
  unfold Builtin.SmallTypes.ownedTupleIsFree
  refine wpAny_bind (wpAny_field hz rfl (x := .none) rfl (wpAny_pure ?_))
  simp only [if_true]
  refine wpAny_bind (wpAny_rule ?_)
  refine wpAny_bind (wpAny_field hz rfl (x := .ref TO) rfl ?_)
  refine wpAny_bind (wpAny_setField_rec hz (by simp) fun h₁ hz₁ hs₁ => ?_)
  replace hz₁ : IsZip h₁ z TI TO .ellipsis := hz₁
  refine wpAny_bind ?_
  simp only [List.zipIdx_cons,List.zipIdx_nil,List.forIn_cons,List.forIn_nil]
  refine wpAny_bind (wpAny_bind (wpAny_onRaise ?_))
  show wpAny _ _ (Builtin.SmallTypes.nextOf (.ref i1) >>= _) _ _ _
  have s1 : S1 k h₁ := fr1 d1 h1 fun o e => hs₁.extBut _ _ D.i1z e
  by_cases hx : k = n1
  · subst hx
    refine wpAny_bind (d1.done _ _ _ s1 fun h₂ e hs₂ he => ?_)
    obtain ⟨oe,hoe,hce⟩ := he
    have hz₂ : IsZip h₂ z TI TO .ellipsis := hs₂ _ _ D.i1z.symm hz₁
    have hez : e ≠ z := fun x => by subst x; rw [hz₂] at hoe; fail "=hoe"; simp at hce
    refine wpAny_setField_rec hz₂ (by simp) fun h₃ Y hs₃ => hE h₃ e _ (fun c o c1 Y c3 Y x => hs₃.extBut _ _ c1 (hs₂ _ _ c3 (hs₁.extBut _ _ c1 x))) ⟨oe,hs₃.extBut _ _ hez hoe,hce⟩
  · have hy : k = n2 := hend.resolve_left hx
    subst hy
    refine wpAny_bind (d1.item k _ _ _ (by lia) s1 fun x h₂ tk₂ p1 h1₂ hs₂ => wpAny_pure ?_)
    have hTO₂ : IsPair h₂ TO a b := hs₂.extBut _ _ D.TOi1 (hs₁.extBut _ _ D.TOz hTO)
    refine wpAny_bind (wpAny_seqItems hTO₂ rfl ?_)
    refine wpAny_bind (wpAny_updateSeq_pair hTO₂ fun h₃ hTO₃ hs₃ => ?_)
    refine wpAny_bind (wpAny_letGo (wpAny_pure ?_))
    refine wpAny_bind (wpAny_bind (wpAny_onRaise ?_))
    show wpAny _ _ (Builtin.SmallTypes.nextOf (.ref i2) >>= _) _ _ _
    refine wpAny_bind (d2.done _ _ _ (fr1 d2 h2 fun o e => hs₃.extBut _ _ D.TOi2.symm (hs₂.extBut _ _ D.i12.symm (hs₁.extBut _ _ D.i2z e))) fun h₄ e hs₄ he => ?_)
    obtain ⟨oe,hoe,hce⟩ := he
    have hz₄ : IsZip h₄ z TI TO .ellipsis := hs₄ _ _ D.i2z.symm (hs₃.extBut _ _ D.TOz.symm (hs₂.extBut _ _ D.i1z.symm hz₁))
    have hez : e ≠ z := fun x => by subst x; rw [hz₄] at hoe; fail "=hoe"; simp at hce
    refine wpAny_setField_rec hz₄ (by simp) fun h₅ Y hs₅ => hE h₅ e _ (fun c o c1 c2 c3 c4 x => hs₅.extBut _ _ c1 (hs₄ _ _ c4 (hs₃.extBut _ _ c2 (hs₂.extBut _ _ c3 (hs₁.extBut _ _ c1 x))))) ⟨oe,hs₅.extBut _ _ hez hoe,hce⟩
theorem zipD_next {Q : Option Value → Shared → Prop} (D : Apart5 z TI TO i1 i2) (d1 : Draws prog w A.in1 i1 [i1] n1 P1 S1) (d2 : Draws prog w A.in1 i2 [i2] n2 P2 S2) (hz : IsZip s.heap z TI TO .none) (hTI : IsPair s.heap TI (.ref i1) (.ref i2)) (hTO : IsPair s.heap TO a b)
    (h1 : S1 k s.heap) (h2 : S2 k s.heap) (k1 : k < n1) (k2 : k < n2)
    (hQ : ∀ x y h' tk,P1 k x → P2 k y → IsZip h' z TI TO (rawInt s.heap.objs.size) → IsPair h' TO x y → S1 (k + 1) h' → S2 (k + 1) h' → IsPair h' s.heap.objs.size x y →
      (∀ c o,c ≠ z → c ≠ TO → c ≠ i1 → c ≠ i2 → s.heap.get? c = some o → h'.get? c = some o) → Q (some (.ref s.heap.objs.size)) { s with heap := h',toks := tk }) :
    wpAny (model prog w) A (pyNext (.ref z)) Q E s := by
  have hT : s.TypeIs (.ref z) "zip" := ⟨_,hz,rfl⟩
  unfold pyNext
  exact wpAny_bind (wpAny_attempt (wpAny_callSpecial?_slot (name := Str.ofString "__next__") hT F.slot_zip_next
    (wpAny_call_entry F.slot_zip_next hT F.entry_zip_next
      (zipD_item D d1 d2 hz hTI hTO h1 h2 k1 k2 fun x y h' tk a1 a2 a3 a4 a5 a6 a7 a8 => wpAny_pure (hQ x y h' tk a1 a2 a3 a4 a5 a6 a7 a8)) (F.args_zip_next_1 _))))
theorem zipD_done {Q : Option Value → Shared → Prop} (D : Apart5 z TI TO i1 i2) (d1 : Draws prog w A.in1 i1 [i1] n1 P1 S1) (d2 : Draws prog w A.in1 i2 [i2] n2 P2 S2)
    (hz : IsZip s.heap z TI TO .none) (hTI : IsPair s.heap TI (.ref i1) (.ref i2)) (hTO : IsPair s.heap TO a b) (h1 : S1 k s.heap) (h2 : S2 k s.heap) (hk : k ≤ n1) (hend : k = n1 ∨ k = n2)
    (hQ : ∀ h' tk,(∀ c o,c ≠ z → c ≠ TO → c ≠ i1 → c ≠ i2 → s.heap.get? c = some o → h'.get? c = some o) → Q none { s with heap := h',toks := tk }) : wpAny (model prog w) A (pyNext (.ref z)) Q E s := by
  have hT : s.TypeIs (.ref z) "zip" := ⟨_,hz,rfl⟩
  unfold pyNext
  refine wpAny_bind (wpAny_attempt (wpAny_callSpecial?_slot (name := Str.ofString "__next__") hT F.slot_zip_next
    (wpAny_call_entry F.slot_zip_next hT F.entry_zip_next (zipD_end D d1 d2 hz hTI hTO h1 h2 hk hend fun h' e tk hk he => ?_) (F.args_zip_next_1 _))))
  obtain ⟨o,ho,hc⟩ := he
  refine wpAny_bind (wpAny_isInstance (T := "StopIteration") (b := true) ⟨o,ho,hc⟩ isSubtype_stop ?_)
  exact wpAny_pure (hQ _ _ hk)
noncomputable abbrev zsH1 (h : Heap) (x : Str) (t : Tok) : Heap := h.push { cls := .type (strIterType x),data := .fields #[.str x t,.int 0 0] }
noncomputable abbrev zsH2 (h : Heap) (x : Str) (t : Tok) (y : Str) (u : Tok) : Heap := (zsH1 h x t).push { cls := .type (strIterType y),data := .fields #[.str y u,.int 0 0] }
noncomputable abbrev zsH3 (h : Heap) (x : Str) (t : Tok) (y : Str) (u : Tok) : Heap := (zsH2 h x t y u).push { cls := .type "tuple",data := .seq #[.ref h.objs.size,.ref (zsH1 h x t).objs.size] }
noncomputable abbrev zsH4 (h : Heap) (x : Str) (t : Tok) (y : Str) (u : Tok) : Heap := (zsH3 h x t y u).push { cls := .type "tuple",data := .seq #[.none,.none] }
noncomputable abbrev zsH5 (h : Heap) (x : Str) (t : Tok) (y : Str) (u : Tok) : Heap := (zsH4 h x t y u).push { cls := .type "zip",data := .fields #[.none,.bool false,.bool false,.ref (zsH2 h x t y u).objs.size,.ref (zsH3 h x t y u).objs.size] }
set_option maxHeartbeats 2000000 in
theorem meets_zip_str (x : Str) (t : Tok) (y : Str) (u : Tok) :
    Meets (Builtin.«zip.__new__» ⟨[.type "zip",.str x t,.str y u],[]⟩) (fun Y R s => R (.ok (.ret (.ref (zsH4 s.heap x t y u).objs.size))) { s with heap := zsH5 s.heap x t y u }) :=
  .of_wp fun prog w A R s h => by
    obtain ⟨hp,g,d,tk,os⟩ := s
    have hsub := sub_zip
    wp_walk using wpAny_pyIter_strU (x := x) (t := t),wpAny_pyIter_strU (x := y) (t := u)
    exact ⟨_,rfl,h⟩
end
end
section
open PySem PySem.W PyProof.Rows PySem.Calls PySem.SeqAt
set_option maxRecDepth 100000
section
variable {C : Ctx} {d : Nat} {A : Around} {se : SE} {env : Env} {μ μ' : Mu} {H H' : AH} {h h' : Heap} {l : Loc} {s : Shared} {t : Text} {N : Nm} {cf : CF} {E : Value → Shared → Prop} {tgt : Expr}
noncomputable def SgnP (x : Str) (i : Nat) (v : Value) : Prop := ∃ c u,x.cps[i]? = some c ∧ v = .str ⟨#[c]⟩ u
theorem drawsStr {prog : Program} {w : World} {A : Around} (hh : A.handled = none) (it : Addr) (x : Str) (t : Tok) : Draws prog w A it [it] x.cps.size (SgnP x) (fun i h => h.IsStrIter it (strIterType x) x t i) := by
  unfold strIterType
  split
  · exact Draws.strAscii hh it x t
  · exact Draws.strWide hh it x t
theorem call_zip_str {x y : Str} {t u : Tok} {Q : Value → Shared → Prop}
    (q : ∀ h',IsZip h' (s.heap.objs.size + 4) (s.heap.objs.size + 2) (s.heap.objs.size + 3) .none → IsPair h' (s.heap.objs.size + 2) (.ref s.heap.objs.size) (.ref (s.heap.objs.size + 1)) →
      IsPair h' (s.heap.objs.size + 3) .none .none → h'.IsStrIter s.heap.objs.size (strIterType x) x t 0 → h'.IsStrIter (s.heap.objs.size + 1) (strIterType y) y u 0 →
      (∀ c o,s.heap.get? c = some o → h'.get? c = some o) → Q (.ref (s.heap.objs.size + 4)) { s with heap := h' }) :
    wpAny (model C.prog C.w) A (call (.type "zip") [.str x t,.str y u]) Q E s := by
  refine callType_new F.called_zip (by decide) (F.typeCall_zip_2 _ _) (F.newCall_zip_2 _ _) (fun obj => F.args_object_init_3 obj _ _) F.entry_zip_new (meets_zip_str x t y u) ?_
  have z1 : (zsH1 s.heap x t).objs.size = s.heap.objs.size + 1 := Heap.size_push ..
  have z2 : (zsH2 s.heap x t y u).objs.size = s.heap.objs.size + 2 := by rw [Heap.size_push,z1]
  have z3 : (zsH3 s.heap x t y u).objs.size = s.heap.objs.size + 3 := by rw [Heap.size_push,z2]
  have z4 : (zsH4 s.heap x t y u).objs.size = s.heap.objs.size + 4 := by rw [Heap.size_push,z3]
  have g5 : (zsH5 s.heap x t y u).get? (zsH4 s.heap x t y u).objs.size = some _ := Heap.get?_push_size _ rfl
  have g4 : (zsH5 s.heap x t y u).get? (zsH3 s.heap x t y u).objs.size = some _ := Heap.get?_push_of_some _ (Heap.get?_push_size _ rfl)
  have g3 : (zsH5 s.heap x t y u).get? (zsH2 s.heap x t y u).objs.size = some _ := Heap.get?_push_of_some _ (Heap.get?_push_of_some _ (Heap.get?_push_size _ rfl))
  have g2 : (zsH5 s.heap x t y u).get? (zsH1 s.heap x t).objs.size = some _ := Heap.get?_push_of_some _ (Heap.get?_push_of_some _ (Heap.get?_push_of_some _ (Heap.get?_push_size _ rfl)))
  have g1 : (zsH5 s.heap x t y u).get? s.heap.objs.size = some _ := Heap.get?_push_of_some _ (Heap.get?_push_of_some _ (Heap.get?_push_of_some _ (Heap.get?_push_of_some _ (Heap.get?_push_size _ rfl))))
  show _ ∧ _
  rw [z2,z3,z4] at g5
  rw [z1,z2] at g3
  rw [z3] at g4
  rw [z1] at g2
  rw [z4]
  exact ⟨⟨_,g5,rfl⟩,q _ g5 g3 g4 ⟨_,g1,rfl,rfl⟩ ⟨_,g2,rfl,rfl⟩ fun c o x =>
    Heap.get?_push_of_some _ (Heap.get?_push_of_some _ (Heap.get?_push_of_some _ (Heap.get?_push_of_some _ (Heap.get?_push_of_some _ x))))⟩
theorem zips_get : ∀ (xs ys : List Nat) (i : Nat) (p : PV),(zips (xs.map fun c => PV.str [c]) (ys.map fun c => PV.str [c]))[i]? = some p → ∃ a b,xs[i]? = some a ∧ ys[i]? = some b ∧ p = .tup [.str [a],.str [b]]
  | [],_,_,_,h => (by contradiction)
  | _ :: _,[],_,_,h => (by contradiction)
  | a :: _,b :: _,0,_,h => ⟨a,b,rfl,rfl,(Option.some.inj h).symm⟩
  | _ :: xs,_ :: ys,i + 1,p,h => zips_get xs ys i p h
theorem zips_none : ∀ (xs ys : List Nat) (i : Nat),(zips (xs.map fun c => PV.str [c]) (ys.map fun c => PV.str [c]))[i]? = none → xs.length ≤ i ∨ ys.length ≤ i
  | [],_,_,_ => .inl (Nat.zero_le _)
  | _ :: _,[],_,_ => .inr (Nat.zero_le _)
  | _ :: _,_ :: _,0,h => (by contradiction)
  | _ :: xs,_ :: ys,i + 1,h => (zips_none xs ys i h).imp Nat.succ_le_succ Nat.succ_le_succ
theorem zips_length : ∀ (xs ys : List PV),(zips xs ys).length ≤ xs.length
  | [],_ => Nat.le_refl _
  | _ :: _,[] => Nat.zero_le _
  | _ :: xs,_ :: ys => Nat.succ_le_succ (zips_length xs ys)
structure ZS (z TI TO i1 i2 : Addr) (xs ys : List Nat) (t u : Tok) (i : Nat) (h : Heap) : Prop where
  z : IsZip h z TI TO .none
  ti : IsPair h TI (.ref i1) (.ref i2)
  to : ∃ a b,IsPair h TO a b
  s1 : h.IsStrIter i1 (strIterType (ST xs)) (ST xs) t i
  s2 : h.IsStrIter i2 (strIterType (ST ys)) (ST ys) u i
section
variable {z TI TO i1 i2 : Addr} {xs ys : List Nat} {t u : Tok} {i : Nat}
theorem five {P : Addr → Prop} (p1 : P z) (p2 : P TI) (p3 : P TO) (p4 : P i1) (p5 : P i2) : ∀ a ∈ [z,TI,TO,i1,i2],P a :=
  List.forall_mem_cons.mpr ⟨p1,List.forall_mem_cons.mpr ⟨p2,List.forall_mem_cons.mpr ⟨p3,List.forall_mem_cons.mpr ⟨p4,List.forall_mem_cons.mpr ⟨p5,fun Y h => (by contradiction)⟩⟩⟩⟩⟩
theorem np_zip {x : Value} (a1 : IsZip h z TI TO x) (a2 : IsPair h TI (.ref i1) (.ref i2)) (a3 : ∃ a b,IsPair h TO a b) {x1 x2 k1 k2 t1 t2 j1 j2} (b1 : h.IsStrIter i1 k1 x1 t1 j1) (b2 : h.IsStrIter i2 k2 x2 t2 j2) : ∀ a ∈ [z,TI,TO,i1,i2],∀ o,h.get? a = some o → o.data ≠ .plain :=
  five (P := fun a => ∀ o,h.get? a = some o → o.data ≠ .plain) (np_at a1 rfl fun q => (by contradiction)) (np_at a2 rfl fun q => (by contradiction)) ((by obtain ⟨_,_,e⟩ := a3; exact np_at e rfl fun q => (by contradiction)))
    ((by obtain ⟨_,e,_,r⟩ := b1; exact np_at e r fun q => (by contradiction))) ((by obtain ⟨_,e,_,r⟩ := b2; exact np_at e r fun q => (by contradiction)))
theorem live_zip {x : Value} (a1 : IsZip h z TI TO x) (a2 : IsPair h TI (.ref i1) (.ref i2)) (a3 : ∃ a b,IsPair h TO a b) {x1 x2 k1 k2 t1 t2 j1 j2} (b1 : h.IsStrIter i1 k1 x1 t1 j1) (b2 : h.IsStrIter i2 k2 x2 t2 j2) : ∀ a ∈ [z,TI,TO,i1,i2],∃ o,h.get? a = some o :=
  five (P := fun a => ∃ o,h.get? a = some o) ⟨_,a1⟩ ⟨_,a2⟩ ((by obtain ⟨_,_,e⟩ := a3; exact ⟨_,e⟩)) ((by obtain ⟨o,e,_⟩ := b1; exact ⟨o,e⟩)) ((by obtain ⟨o,e,_⟩ := b2; exact ⟨o,e⟩))
theorem ZS.np (j : ZS z TI TO i1 i2 xs ys t u i h) : ∀ a ∈ [z,TI,TO,i1,i2],∀ o,h.get? a = some o → o.data ≠ .plain := np_zip j.z j.ti j.to j.s1 j.s2
theorem ZS.live (j : ZS z TI TO i1 i2 xs ys t u i h) : ∀ a ∈ [z,TI,TO,i1,i2],∃ o,h.get? a = some o := live_zip j.z j.ti j.to j.s1 j.s2
theorem ZS.keep (j : ZS z TI TO i1 i2 xs ys t u i h) (k : ∀ a ∈ [z,TI,TO,i1,i2],∀ o,h.get? a = some o → h'.get? a = some o) : ZS z TI TO i1 i2 xs ys t u i h' :=
  ⟨k z (.head _) _ j.z,k TI (.tail _ (.head _)) _ j.ti,(by obtain ⟨x,y,e⟩ := j.to; exact ⟨x,y,k TO (.tail _ (.tail _ (.head _))) _ e⟩),
    (by obtain ⟨o,e,r⟩ := j.s1; exact ⟨o,k i1 (.tail _ (.tail _ (.tail _ (.head _)))) _ e,r⟩),(by obtain ⟨o,e,r⟩ := j.s2; exact ⟨o,k i2 (.tail _ (.tail _ (.tail _ (.tail _ (.head _))))) _ e,r⟩)⟩
theorem out_five {R : Addr → Prop} (k : ∀ c,c ≠ z → c ≠ TO → c ≠ i1 → c ≠ i2 → R c) : ∀ b,b ∉ [z,TI,TO,i1,i2] → R b := fun b nb =>
  k b (fun e => nb (e ▸ .head _)) (fun e => nb (e ▸ .tail _ (.tail _ (.head _)))) (fun e => nb (e ▸ .tail _ (.tail _ (.tail _ (.head _))))) (fun e => nb (e ▸ .tail _ (.tail _ (.tail _ (.tail _ (.head _))))))
theorem sgn_of {xs : List Nat} {c : Nat} {v : Value} (p : SgnP (ST xs) i v) (hx : xs[i]? = some c) : ∃ u,v = .str (ST [c]) u := by
  obtain ⟨c',u,e,rfl⟩ := p
  have e : xs[i]? = some c' := List.getElem?_toArray.symm.trans e
  rw [hx] at e; fail "=e"
  exact ⟨u,rfl⟩
end
noncomputable def ZJ (z TI TO i1 i2 : Addr) (xs ys : List Nat) (t u : Tok) (i : Nat) (μ : Mu) (h : Heap) : Prop :=
  (i ≤ xs.length ∧ i ≤ ys.length) ∧ ZS z TI TO i1 i2 xs ys t u i h ∧ ∀ a ∈ [z,TI,TO,i1,i2],a ∈ μ.gs
theorem ItOk.zip {elts : List Expr} {kk : Nat} {pos : Pos} {z TI TO i1 i2 : Addr} {xs ys : List Nat} {t u : Tok} (hh : A.handled = none) (D : Apart5 z TI TO i1 i2) (cx : ∀ c ∈ xs,c < 1114112) (cy : ∀ c ∈ ys,c < 1114112) :
    ItOk C A (.Tuple elts kk pos) z [z,TI,TO,i1,i2] (.vals (zips (xs.map fun c => .str [c]) (ys.map fun c => .str [c]))) (ZJ z TI TO i1 i2 xs ys t u) where
  sub := fun j => j.2.2
  np := fun j => j.2.1.np
  grow := fun j g Y off oc => ⟨j.1,j.2.1.keep fun a ha o e => g.keep a o e (oc a ha) (off a ha),fun a ha => g.gs ▸ j.2.2 a ha⟩
  more := fun j k n => ⟨j.1,j.2.1.keep fun a Y o e => k a o e,fun a ha => List.mem_append_right _ (j.2.2 a ha)⟩
  self := fun j st q => wpAny_pyIter_zip j.2.1.z q
  done := fun {i μ H s Q} j st e q => let ⟨_,_,a3⟩ := j.2.1.to
    zipD_done D (drawsStr (A := A.in1) hh i1 (ST xs) t) (drawsStr (A := A.in1) hh i2 (ST ys) u) j.2.1.z j.2.1.ti a3 j.2.1.s1 j.2.1.s2 j.1.1 ((zips_none xs ys i (Option.some.inj e)).imp (Nat.le_antisymm j.1.1) (Nat.le_antisymm j.1.2)) fun h' tk k8 => q h' tk fun b o nb => out_five (R := fun b => s.heap.get? b = some o → h'.get? b = some o) (fun b n1 n2 n3 n4 => k8 b o n1 n2 n3 n4) b nb
  next := fun {i μ H s x Q} j st e q => by
    obtain ⟨a,b,hx,hy,rfl⟩ := zips_get xs ys i x (Option.some.inj e)
    have hix := (List.getElem?_eq_some_iff.mp hx).1
    have hiy := (List.getElem?_eq_some_iff.mp hy).1
    obtain ⟨_,Z,gs⟩ := j
    obtain ⟨p,r,a3⟩ := Z.to
    refine zipD_next D (drawsStr (A := A.in1) hh i1 (ST xs) t) (drawsStr (A := A.in1) hh i2 (ST ys) u) Z.z Z.ti a3 Z.s1 Z.s2 hix hiy fun vx vy h' tk px py z1 z2 z3 z4 z5 k8 => ?_
    obtain ⟨ua,rfl⟩ := sgn_of px hx
    obtain ⟨ub,rfl⟩ := sgn_of py hy
    have TI' : IsPair h' TI (.ref i1) (.ref i2) := k8 _ _ D.TIz D.TITO D.TIi1 D.TIi2 Z.ti
    have ow := fun a ha => (st.ghost a (gs a ha)).2
    have sd := st.sideW (fun b o => out_five (R := fun b => s.heap.get? b = some o → h'.get? b = some o) (fun b n1 n2 n3 n4 => k8 b o n1 n2 n3 n4) b) (fun a ha => (ow a ha).1) (fun a ha => (ow a ha).2) (noSeq_gs gs) Z.np fun a ha Y Y => live_zip z1 TI' ⟨_,_,z2⟩ z3 z4 a ha
    have rep : ∀ h,IsPair h s.heap.objs.size (.str (ST [a]) ua) (.str (ST [b]) ub) → Rep μ h (.tup [.str [a],.str [b]]) (.ref s.heap.objs.size) := fun h e =>
      ⟨_,#[.str (ST [a]) ua,.str (ST [b]) ub],0,rfl,e,st.size_notin,of_decide_eq_true rfl,.cons (rep_str (of_decide_eq_true rfl) (one_code (cx _ (List.mem_of_getElem? hx)))) (.cons (rep_str (of_decide_eq_true rfl) (one_code (cy _ (List.mem_of_getElem? hy)))) .nil)⟩
    refine q _ h' tk sd.1 sd.2 (rep h' z5) fun Q' q' => wpAny_letOwnedTupleGo_zip (s := { s with heap := h',toks := tk }) z1 fun h2 y1 sb => ?_
    have Z2 : ZS z TI TO i1 i2 xs ys t u (i + 1) h2 := ⟨y1,sb.extBut _ _ D.TIz TI',⟨_,_,sb.extBut _ _ D.TOz z2⟩,(by obtain ⟨o,e,r⟩ := z3; exact ⟨o,sb.extBut _ _ D.i1z e,r⟩),(by obtain ⟨o,e,r⟩ := z4; exact ⟨o,sb.extBut _ _ D.i2z e,r⟩)⟩
    have sd2 := sd.2.sideW (fun b o nb e => sb.extBut b o (fun y => nb (y ▸ .head _)) e) (fun a ha => (ow a ha).1) (fun a ha => (ow a ha).2) (noSeq_gs gs) (np_zip z1 TI' ⟨_,_,z2⟩ z3 z4) fun a ha Y Y => Z2.live a ha
    exact q' h2 tk sd2.1 sd2.2 ⟨⟨hix,hiy⟩,Z2,gs⟩ (rep h2 (sb.extBut _ _ (Ne.symm (ne_size Z.z)) z5))
theorem zip_ok {ts : List Expr} {kk : Nat} {pos : Pos} {vs : List PV} {ws : List Value} {src : Src} (hh : A.handled = none) (st : St C μ H s.heap) (r1 : Reps μ s.heap vs ws) (e : srcZip vs = some src) {Q : Value → Shared → Prop} (q : ItPost C A (.Tuple ts kk pos) μ s src H Q) :
    wpAny (model C.prog C.w) A (call (.type "zip") ws) (fun x s1 => wpAny (model C.prog C.w) A (pyIter x) Q (fun Y Y => False) s1) (fun Y Y => False) s :=
  arg2_rep (P := fun ws => wpAny _ A (call _ ws) _ _ s) e r1 fun a b v w e ra rb => asS_rep (P := fun v => wpAny _ A (call _ [v,w]) _ _ s) e ra fun xs t1 lx cx e => asS_rep (P := fun w => wpAny _ A (call _ [_,w]) _ _ s) e rb fun ys t2 Y cy e =>
    call_zip_str fun h' z1 z2 z3 z4 z5 k => wpAny_pyIter_zip (s := { s with heap := h' }) z1 (by
      have nn : ∀ j,s.heap.get? (s.heap.objs.size + j) = none := fun j => by
        cases q : s.heap.get? (s.heap.objs.size + j) with
        | none => rfl
        | some o => exact absurd (Heap.lt_size q) (Nat.not_lt.mpr (Nat.le_add_right _ _))
      have ne : ∀ i j,i ≠ j → s.heap.objs.size + i ≠ s.heap.objs.size + j := fun i j n z => n (Nat.add_left_cancel z)
      have D : Apart5 (s.heap.objs.size + 4) (s.heap.objs.size + 2) (s.heap.objs.size + 3) s.heap.objs.size (s.heap.objs.size + 1) :=
        ⟨ne 2 4 (by decide),ne 3 4 (by decide),ne 0 4 (by decide),ne 1 4 (by decide),ne 2 3 (by decide),ne 2 0 (by decide),ne 2 1 (by decide),ne 3 0 (by decide),ne 3 1 (by decide),ne 0 1 (by decide)⟩
      have Z : ZS (s.heap.objs.size + 4) (s.heap.objs.size + 2) (s.heap.objs.size + 3) s.heap.objs.size (s.heap.objs.size + 1) xs ys t1 t2 0 h' := ⟨z1,z2,⟨_,_,z3⟩,z4,z5⟩
      refine just_some (P := fun src => ItPost C A (.Tuple ts kk pos) μ s src H Q → Q _ _) e (fun q => q _ [s.heap.objs.size + 4,s.heap.objs.size + 2,s.heap.objs.size + 3,s.heap.objs.size,s.heap.objs.size + 1] _ μ s.heap h' s.toks .refl st k
        (five (P := fun a => s.heap.get? a = none) (nn 4) (nn 2) (nn 3) (nn 0) (nn 1)) Z.live (ItOk.zip (xs := xs) (ys := ys) (t := t1) (u := t2) hh D cx cy) ⟨⟨Nat.zero_le _,Nat.zero_le _⟩,Z,fun a ha => List.mem_append_left _ ha⟩ ?_) q
      show (zips _ _).length ≤ lim
      exact Nat.le_trans (zips_length _ _) (by rw [List.length_map]; exact lx))
theorem si_zip {kn : Know C t N} {tgt : Expr} {se : SE} {as : List X} {es p p'} (htg : ∃ ts k q,tgt = .Tuple ts k q) (hx : isGl se ("zip" : Str) = true) (hs : es.all notStar = true) (has : SXs C t cf d as se es) : SI C t cf d tgt (.zip as) se (.Call (.Name ("zip" : Str) p') es [] p) := fun Y Y Y Y s Y Y Y c e1 =>
  on_some e1 fun vs H1 e2 e1 => bd_some e1 fun src e3 e1 => evi_ret e1 fun Q q => by
    obtain ⟨ts,kk,pos,rfl⟩ := htg
    exact wpAny_Call_NameR (load_bi kn c hx kn.zip (PySem.callWith_type (plain_of hs) (args_of hs (has c e2 _ fun ws μ1 h1 tk1 g1 st1 r1 => zip_ok (s := { s with heap := h1,toks := tk1 }) c.room.handled st1 r1 e3 (q.after g1)))))
end
end
section
open PySem PySem.W PyProof.Rows PySem.Calls PySem.SeqAt
set_option maxRecDepth 100000
section
variable {C : Ctx} {d : Nat} {A : Around} {se : SE} {env : Env} {μ μ' : Mu} {H H' : AH} {h h' : Heap} {l : Loc} {s : Shared} {t : Text} {N : Nm} {cf : CF} {E : Value → Shared → Prop}
noncomputable def stop {γ : Type} (o : Option PV) (r : Option γ) : Option γ := match o with | none => r | some _ => none
noncomputable def compI (f : PV → AH → Option (Option PV × AH)) (src : Src) : Nat → Nat → AH → Option (List PV × AH)
  | 0,i,H => bd (src.at i H) fun o => stop o (some ([],H))
  | n + 1,i,H => bd (src.at i H) fun o => bd o fun x => compK (f x H) fun H' => compI f src n (i + 1) H'
theorem stop_some {γ : Type} {P : Option PV → Prop} {o : Option PV} {r : Option γ} {x} (e : stop o r = some x) (k : r = some x → P none) : P o := by
  cases o with
  | none => exact k e
  | some _ => fail "=e"
theorem compK_some {P : Prop} {x : Option (Option PV × AH)} {k : AH → Option (List PV × AH)} {ws : List PV} {H' : AH} (e : compK x k = some (ws,H')) (k1 : ∀ w H1 vs,x = some (some w,H1) → k H1 = some (vs,H') → ws = w :: vs → P) (k2 : ∀ H1,x = some (none,H1) → k H1 = some (ws,H') → P) : P :=
  on_some e fun o H1 e1 e => match o,e,e1 with
    | some w,e,e1 => on_some e fun vs H2 e2 e => ret_some (P := fun ws H' => (∀ w H1 vs,x = some (some w,H1) → k H1 = some (vs,H') → ws = w :: vs → P) → P) e (fun k1 => k1 w H1 vs e1 e2 rfl) k1
    | none,e,e1 => k2 H1 e1 e
theorem compK_mono {x : Option (Option PV × AH)} {k k' : AH → Option (List PV × AH)} {r} (h : ∀ H r,k H = some r → k' H = some r) (e : compK x k = some r) : compK x k' = some r :=
  on_some e fun o H1 e1 e => on_eq e1 (match o,e with
    | some w,e => on_some e fun vs H2 e2 e => on_eq (h _ _ e2) e
    | none,e => h _ _ e)
theorem drop_at {all xs : List PV} {x : PV} {i : Nat} (e : all.drop i = x :: xs) : all[i]? = some x ∧ all.drop (i + 1) = xs :=
  ⟨by rw [← List.head?_drop,e]; rfl,by rw [← List.drop_drop,e]; rfl⟩
theorem drop_end {all : List PV} {i : Nat} (e : all.drop i = []) : all[i]? = none := by rw [← List.head?_drop,e]; rfl
theorem compV_I {f : PV → AH → Option (Option PV × AH)} {all : List PV} : ∀ {xs : List PV} {i : Nat} {H r},all.drop i = xs → compV f xs H = some r → compI f (.vals all) xs.length i H = some r
  | [],i,H,r,e,h => bd_eq (x := (Src.vals all).at i H) (congrArg some (drop_end e)) h
  | x :: xs,i,H,r,e,h => bd_eq (x := (Src.vals all).at i H) (congrArg some (drop_at e).1) (compK_mono (fun H r h => compV_I (drop_at e).2 h) h)
theorem at_live {all ys : List PV} {r i : Nat} {H : AH} {o} (hy : H[r]? = some (.list ys)) (e : ys[i]? = o) : (Src.live r all).at i H = some o := getL_eq hy (congrArg some e)
theorem compL_I {f : PV → AH → Option (Option PV × AH)} {r : Nat} {all : List PV} : ∀ {xs : List PV} {i : Nat} {H res},compL f r xs i H = some res → compI f (.live r all) xs.length i H = some res
  | [],i,H,res,h => getL_some h fun ys hy h => stop_some (P := fun o => ys[i]? = o → compI f (.live r all) 0 i H = some res) (o := ys[i]?) (r := some ([],H)) (x := res) (by rw [← h]; cases ys[i]? <;> rfl) (fun h e => bd_eq (at_live hy e) h) rfl
  | x :: xs,i,H,res,h => getL_some h fun ys hy h => bd_some h fun y e h => bd_eq (at_live hy e) (compK_mono (fun H r h => compL_I h) h)
theorem compS_I {f : PV → AH → Option (Option PV × AH)} {src : Src} {H r} (h : compS f src H = some r) : compI f src src.n 0 H = some r := by
  cases src with
  | vals xs => exact compV_I rfl h
  | live r xs => exact compL_I h
structure Clo (env : Env) (names : List (Str × NameKind)) (cl : List (Str × Addr)) : Prop where
  has : ∀ p ∈ cl,env.cells.lookup p.1 = some p.2
  all : ∀ x,(x,NameKind.free) ∈ names → (cl.lookup x).isSome = true
theorem closure_ok {scope : Scope} (hc : ∀ x,(x,NameKind.free) ∈ scope.names → (env.cells.lookup x).isSome = true) : ∃ cl,closureFor scope env = pure cl ∧ Clo env scope.names cl := by
  have key : ∀ (names : List (Str × NameKind)) (acc : List (Str × Addr)),(∀ x,(x,NameKind.free) ∈ names → (env.cells.lookup x).isSome = true) → (∀ p ∈ acc,env.cells.lookup p.1 = some p.2) →
      ∃ cl,(forIn names acc fun (x : Str × NameKind) (cs : List (Str × Addr)) => if x.2 == NameKind.free then (do let a ← cellOf env x.1; pure (ForInStep.yield ((x.1,a) :: cs))) else pure (ForInStep.yield cs) : Sem (List (Str × Addr))) = pure cl ∧
        Clo env names cl ∧ ∀ x,(acc.lookup x).isSome = true → (cl.lookup x).isSome = true := by
    intro names
    induction names with
    | nil => exact fun acc Y ha => ⟨acc,by rw [List.forIn_nil],⟨ha,fun Y h => (by contradiction)⟩,fun Y h => h⟩
    | cons p names ih =>
      obtain ⟨x,k⟩ := p
      intro acc hf ha
      rw [List.forIn_cons]
      by_cases hk : (k == NameKind.free) = true
      · cases eq_of_beq hk
        obtain ⟨a,ea⟩ := Option.isSome_iff_exists.mp (hf x (.head _))
        have hce : cellOf env x = pure a := by unfold cellOf; rw [ea]
        obtain ⟨cl,e1,e2,e4⟩ := ih ((x,a) :: acc) (fun y hy => hf y (.tail _ hy)) (List.forall_mem_cons.mpr ⟨ea,ha⟩)
        have look : ∀ y,y = x ∨ (acc.lookup y).isSome = true → (cl.lookup y).isSome = true := fun y hy => e4 y (by
          rw [List.lookup_cons]
          cases h : y == x with
          | true => rfl
          | false => exact hy.resolve_left (beq_eq_false_iff_ne.mp h))
        refine ⟨cl,?_,⟨e2.has,fun y hy => ?_⟩,fun y hy => look y (.inr hy)⟩
        · simp only [hk,if_true,hce,pure_bind]; exact e1
        · rcases List.mem_cons.mp hy with hy | hy
          · cases hy; exact look x (.inl rfl)
          · exact e2.all y hy
      · obtain ⟨cl,e1,e2,e4⟩ := ih acc (fun y hy => hf y (.tail _ hy)) ha
        refine ⟨cl,?_,⟨e2.has,fun y hy => ?_⟩,e4⟩
        · simp only [hk,Bool.false_eq_true,if_false,pure_bind]; exact e1
        · rcases List.mem_cons.mp hy with hy | hy
          · fail "=hy"; exact absurd rfl hk
          · exact e2.all y hy
  obtain ⟨cl,e1,e2,_⟩ := key scope.names [] hc (fun Y h => (by contradiction))
  refine ⟨cl,?_,e2⟩
  unfold closureFor
  rw [← e1]
  simp only [bind_pure]
theorem lookup_eq {α : Type} {x y : Str} {k : α} {r : List (Str × α)} : ((x,k) :: r).lookup y = cond (y == x) (some k) (r.lookup y) := by rw [List.lookup_cons]; cases y == x <;> rfl
theorem in_cons (se : SE) (n : Str) (k : NameKind) (r : List (Str × NameKind)) (x : Str) : (inNames se ((n,k) :: r)).lookup x = cond (x == n) (some (cond (k == .free && se.ns.lookup n == some .cell) .cell k)) ((inNames se r).lookup x) := by
  unfold inNames
  rw [List.map_cons]
  cases h : (k == .free && se.ns.lookup n == some .cell) <;> (simp only [h]; exact lookup_eq)
theorem inNames_at {ns names : List (Str × NameKind)} {x : Str} {k : NameKind} (vis : Vis) (lo : Nat) : names.lookup x = some k → (inNames ⟨ns,vis,lo⟩ names).lookup x = some (cond (k == .free && ns.lookup x == some .cell) .cell k) := by
  induction names with
  | nil => intro h; fail "=h"
  | cons p r ih =>
    obtain ⟨n,k'⟩ := p
    intro h
    rw [lookup_eq] at h
    rw [in_cons]
    cases e : x == n with
    | true => rw [e] at h; cases eq_of_beq e; fail "=h"; rfl
    | false => rw [e] at h; exact ih h
theorem inNames_free {ns names : List (Str × NameKind)} {x : Str} (h : names.lookup x = some .free) (hc : ns.lookup x = some .cell) (vis : Vis) (lo : Nat) : (inNames ⟨ns,vis,lo⟩ names).lookup x = some .cell := by
  rw [inNames_at vis lo h,hc]; rfl
theorem inNames_loc {ns names : List (Str × NameKind)} {x : Str} (h : names.lookup x = some .local) (vis : Vis) (lo : Nat) : (inNames ⟨ns,vis,lo⟩ names).lookup x = some .local := inNames_at vis lo h
theorem inNames_cell {ns names : List (Str × NameKind)} {x : Str} (vis : Vis) (lo : Nat) : (inNames ⟨ns,vis,lo⟩ names).lookup x = some .cell → (∀ p ∈ names,p.2 ≠ .cell) → (x,NameKind.free) ∈ names := by
  induction names with
  | nil => intro h _; fail "=h"
  | cons p r ih =>
    obtain ⟨n,k⟩ := p
    intro h hn
    rw [in_cons] at h
    cases e : x == n with
    | true =>
      rw [e] at h
      cases eq_of_beq e
      cases f : (k == .free && ns.lookup x == some .cell) with
      | true => rw [eq_of_beq (Bool.and_eq_true_iff.mp f).1]; exact .head _
      | false => rw [f] at h; exact absurd (Option.some.inj h) (hn _ (.head _))
    | false => rw [e] at h; exact .tail _ (ih h fun p hp => hn p (.tail _ hp))
noncomputable def CapRep (env : Env) (μ : Mu) (h : Heap) (vis : Vis) (l : Loc) : Prop :=
  ∀ n x,(n,x) ∈ vis → ∀ pv,l[n]? = some (some pv) → ∃ v c,env.kindOf x = some .cell ∧ (x == ("__classdict__" : Str)) = false ∧ env.cells.lookup x = some c ∧ h.IsCell c (some v) ∧ Rep μ h pv v
theorem CapRep.loc {vis : Vis} (x : CapRep env μ h vis l) : LocRep env μ h vis l := fun n y hy pv e =>
  (by obtain ⟨v,c,a1,a2,a3,a4,a5⟩ := x n y hy pv e; exact ⟨v,.inr ⟨.inl a1,a2,c,a3,a4⟩,a5⟩)
theorem CapRep.growW {vis : Vis} {W' : List Addr} (x : CapRep env μ h vis l) (g : Grow W' μ μ' h h') (nq : NoSeq W' μ h) (hc : ∀ p ∈ env.cells,p.2 ∉ μ.cs ∧ p.2 ∉ W') : CapRep env μ' h' vis l := fun n y hy pv e =>
  let ⟨v,c,a1,a2,a3,a4,a5⟩ := x n y hy pv e
  ⟨v,c,a1,a2,a3,IsCell_at a4 fun o e => g.keep c o e (hc (y,c) (mem_lookup a3)).1 (hc (y,c) (mem_lookup a3)).2,a5.grow g nq⟩
theorem FrOk.growW {W' : List Addr} (F : FrOk C env μ h) (g : Grow W' μ μ' h h') (dis : ∀ a ∈ W env,a ∉ W') : FrOk C env μ' h' where
  kind := F.kind
  glob := F.glob
  blt := F.blt
  ns := (by obtain ⟨m,hm⟩ := F.ns; exact ⟨m,Ns_at hm fun o e => g.keep _ o e (F.new _ W_loc).2 (dis _ W_loc)⟩)
  cells := fun p hp => (by obtain ⟨v,hv⟩ := F.cells p hp; exact ⟨v,IsCell_at hv fun o e => g.keep _ o e (F.new _ (W_cell hp)).2 (dis _ (W_cell hp))⟩)
  apart := F.apart
  notloc := F.notloc
  new := fun a ha => ⟨(F.new a ha).1,(by obtain ⟨_,ho⟩ := F.live a ha; exact g.notin ho (F.new a ha).2)⟩
theorem Cx.growW {W' : List Addr} (c : Cx C d A se env μ H h l) (g : Grow W' μ μ' h h') (st' : St C μ' H' h') (nq : NoSeq W' μ h) (dis : ∀ a ∈ W env,a ∉ W') : Cx C d A se env μ' H' h' l :=
  ⟨c.room,c.names,c.cells,c.vis,c.blank,st',c.fr.growW g dis,fun n x m pv e => (by obtain ⟨v,hv,r⟩ := c.loc n x m pv e; exact ⟨v,hv.keep fun a ha o e => g.keep a o e (c.fr.new a ha).2 (dis a ha),r.grow g nq⟩)⟩
theorem Grow.close {g : List Addr} {μ1 : Mu} {h0 h1 h4 h3 : Heap} (G1 : Grow [] μ μ1 h0 h1) (k : ∀ b o,h1.get? b = some o → h4.get? b = some o) (n : ∀ a ∈ g,h1.get? a = none)
    (G2 : Grow g (μ1.haunt g) μ' h4 h') (k3 : ∀ b o,b ∉ g → h'.get? b = some o → h3.get? b = some o) : Grow [] μ ⟨μ'.os,μ.gs⟩ h0 h3 := by
  have off : ∀ a o,h1.get? a = some o → a ∉ g := fun a o e m => by rw [n a m] at e; fail "=e"
  refine ⟨?_,rfl,fun a o e m Y => ?_,fun a o e => ?_⟩
  · obtain ⟨ν,e1,f1⟩ := G1.ext
    obtain ⟨ν',e2,f2⟩ := G2.ext
    refine ⟨ν ++ ν',by show μ'.os = _; rw [e2]; show μ1.os ++ ν' = _; rw [e1]; simp,fun p hp => ?_⟩
    rcases List.mem_append.mp hp with q | q
    · exact f1 p q
    · exact ⟨G1.none_of (noneKeep k (f2 p q).1),G1.none_of (noneKeep k (f2 p q).2)⟩
  · have e1 := G1.keep a o e m (by simp)
    refine k3 a o (off a o e1) (G2.keep a o (k a o e1) (show a ∉ (μ1.haunt g).cs from G1.notin e m) (off a o e1))
  · obtain ⟨o1,e1⟩ := G1.alive a o e
    obtain ⟨o2,e2⟩ := G2.alive a o1 (k a o1 e1)
    exact ⟨o2,k3 a o2 (off a o1 e1) e2⟩
end
end
section
open PySem PySem.W PyProof.Rows PySem.Calls PySem.SeqAt
set_option maxRecDepth 100000
noncomputable def compF (t : Text) (cf : CF) (tgt : T) (cond elt : X) (l : Loc) : PV → AH → Option (Option PV × AH) := fun v H => citemG (aassign t cf tgt v l H) (aeval t cf cond) (aeval t cf elt)
theorem imp {α : Type} {M : Model} {A : Around} {m : Sem α} {Q Q' : α → Shared → Prop} {E : Value → Shared → Prop} {s : Shared} (h : wpAny M A m Q (fun Y Y => False) s) (k : ∀ r s,Q r s → Q' r s) : wpAny M A m Q' E s := wpAny_mono h k fun Y Y f => f.elim
theorem noE {α : Type} {M : Model} {A : Around} {m : Sem α} {Q : α → Shared → Prop} {E : Value → Shared → Prop} {s : Shared} (h : wpAny M A m Q (fun Y Y => False) s) : wpAny M A m Q E s := imp h fun Y Y z => z
structure CP where
  C : Ctx
  A : Around
  se : SE
  env : Env
  l : Loc
  g : List Addr
  wr : List Addr
  acc : Addr
  J : Nat → Mu → Heap → Prop
  μ4 : Mu
  h4 : Heap
  s : Shared
  t : Text
  cf : CF
  d : Nat
  tgt : T
  cond : X
  elt : X
  src : Src
  I : Addr
  tg : Expr
  ws : List PV
  H' : AH
structure Lie (Z : CP) : Prop where
  gs : ∀ a ∈ Z.g,a ∈ Z.μ4.gs
  wrG : ∀ a ∈ Z.wr,a ∈ Z.g
  accG : Z.acc ∈ Z.g
  loc : Z.env.locals ∈ Z.g
  accW : Z.acc ∉ Z.wr
  locW : Z.env.locals ∉ Z.wr
  accL : Z.acc ≠ Z.env.locals
  cell : ∀ p ∈ Z.env.cells,p.2 ∉ Z.g
structure COk (Z : CP) : Prop extends Lie Z where
  hit : ItOk Z.C Z.A Z.tg Z.I Z.wr Z.src Z.J
  ht : SG Z.C Z.t Z.cf Z.d Z.tgt Z.se Z.tg
  hall : ∀ p ∈ tgtVars Z.tgt Z.tg,Z.se.ns.lookup p.2 = some .local
  room : Room Z.A Z.d
  names : Z.env.scope.names = Z.se.ns
  cells : ∀ x,Z.se.ns.lookup x = some .cell → (Z.env.cells.lookup x).isSome = true
  hvis : visOk Z.se.vis = true
  blank : ∀ n,Z.se.lo ≤ n → ∀ v,Z.l[n]? ≠ some (some v)
  hn : Z.src.n ≤ lim
noncomputable def CP.f (Z : CP) : PV → AH → Option (Option PV × AH) := compF Z.t Z.cf Z.tgt Z.cond Z.elt Z.l
structure CI (Z : CP) (i : Nat) (μ : Mu) (H : AH) (h : Heap) (done : List PV) : Prop where
  gr : Grow Z.g Z.μ4 μ Z.h4 h
  st : St Z.C μ H h
  fr : FrOk Z.C Z.env μ h
  cap : CapRep Z.env μ h Z.se.vis Z.l
  j : Z.J i μ h
  acc : ∃ ys n,h.get? Z.acc = some (lstObj ys n) ∧ Reps μ h done ys.toList
inductive CInv (Z : CP) (k : Nat) : Shared → Prop where
  | mk {i μ H h tk done rest} (ik : i + k = Z.src.n) (X : CI Z i μ H h done) (ev : compI Z.f Z.src k i H = some (rest,Z.H')) (ws : Z.ws = done ++ rest) (len : done.length ≤ i) : CInv Z k { Z.s with heap := h,toks := tk }
section
variable {Z : CP} {μ μ' : Mu} {H H' : AH} {h h' : Heap} {i k : Nat} {done rest : List PV} {tk : Nat} {E : Value → Shared → Prop}
theorem CI.gs (X : CI Z i μ H h done) (K : COk Z) : ∀ a ∈ Z.g,a ∈ μ.gs := fun a ha => X.gr.gs ▸ K.gs a ha
theorem CI.wr (X : CI Z i μ H h done) (K : COk Z) : ∀ a ∈ Z.wr,a ∉ μ.cs := fun a ha => (X.st.ghost a (X.gs K a (K.wrG a ha))).2.1
theorem COk.apart (K : COk Z) {g : List Addr} (hl : Z.env.locals ∉ g) (hc : ∀ a ∈ g,a ∈ Z.g) : ∀ a ∈ W Z.env,a ∉ g := fun a ha q => (List.mem_cons.mp ha).elim (fun z => hl (z ▸ q)) fun ha =>
  (by obtain ⟨p,hp,z⟩ := List.mem_map.mp ha; exact K.cell p hp (hc _ (z ▸ q)))
theorem CI.step {W5 : List Addr} {H'' : AH} {i' : Nat} (x : CI Z i μ H h done) (K : COk Z) (hg : Grow W5 μ μ' h h') (hW : ∀ a ∈ W5,a ∈ Z.g ∧ a ≠ Z.acc) (st' : St Z.C μ' H'' h') (fr' : FrOk Z.C Z.env μ' h') (j' : Z.J i' μ' h') : CI Z i' μ' H'' h' done := by
  have gsub := x.gs K
  have nq : NoSeq W5 μ h := noSeq_gs fun a ha => gsub a (hW a ha).1
  obtain ⟨ys,n,e,r⟩ := x.acc
  exact ⟨x.gr.trans (hg.weaken fun a ha => (hW a ha).1),st',fr',x.cap.growW hg nq fun p hp => ⟨(x.fr.new _ (W_cell hp)).2,fun q => K.cell p hp (hW _ q).1⟩,j',ys,n,hg.keep _ _ e (x.st.ghost _ (gsub _ K.accG)).2.1 fun q => (hW _ q).2 rfl,r.grow hg nq⟩
theorem CI.ev {H'' : AH} (x : CI Z i μ H h done) (K : COk Z) (hg : Grow [] μ μ' h h') (st' : St Z.C μ' H'' h') : CI Z i μ' H'' h' done :=
  x.step K hg (fun a ha => (by contradiction)) st' (x.fr.grow hg) (K.hit.grow x.j hg noSeq_nil (fun a ha q => (by contradiction)) (x.wr K))
theorem CI.cx (X : CI Z i μ H h done) (K : COk Z) : Cx Z.C Z.d Z.A Z.se Z.env μ H h Z.l := ⟨K.room,K.names,K.cells,K.hvis,K.blank,X.st,X.fr,X.cap.loc⟩
theorem comp_turn (K : COk Z) (X : CI Z i μ H h done) {pv : PV} {l' : Loc} {H1 : AH} (ha : Z.src.at i H = some (some pv)) (hasg : aassign Z.t Z.cf Z.tgt pv Z.l H = some (l',H1)) {Q : Unit → Shared → Prop} {Q' : Option Value → Shared → Prop}
    (q : ∀ μ5 h5 tk5,CI Z (i + 1) μ5 H1 h5 done → Cx Z.C Z.d Z.A Z.se Z.env μ5 H1 h5 l' → Q () { Z.s with heap := h5,toks := tk5 })
    (q' : ∀ v s₁,wpAny (model Z.C.prog Z.C.w) Z.A (letOwnedTupleGo Z.tg (.ref Z.I) v) (fun Y s₀ => wpAny (model Z.C.prog Z.C.w) Z.A (assign Z.tg Z.env v) Q (fun Y Y => False) s₀) (fun Y Y => False) s₁ → Q' (some v) s₁) :
    wpAny (model Z.C.prog Z.C.w) Z.A (pyNext (.ref Z.I)) Q' (fun Y Y => False) { Z.s with heap := h,toks := tk } :=
  K.hit.next (s := { Z.s with heap := h,toks := tk }) X.j X.st ha fun v h2 tk2 g2 st2 r2 own => q' v _ (own _ fun h3 tk3 g3 st3 j3 r3 => by
    have g23 := g2.trans g3
    have X3 := X.step K g23 (fun a ha => ⟨K.wrG a ha,fun z => K.accW (z ▸ ha)⟩) st3 (X.fr.growW g23 (K.apart K.locW K.wrG)) j3
    have locg : ∀ a ∈ [Z.env.locals],a ∈ Z.g ∧ a ≠ Z.acc := fun a ha => by rw [List.mem_singleton.mp ha]; exact ⟨K.loc,fun z => K.accL z.symm⟩
    exact K.ht (s := { Z.s with heap := h3,toks := tk3 }) (W' := [Z.env.locals]) (X3.cx K) r3 hasg ⟨.head _,fun a ha => by rw [List.mem_singleton.mp ha]; exact W_loc,.inl K.hall⟩ Q fun μ5 h5 tk5 g5 c5 => q μ5 h5 tk5
      (X3.step K g5 locg c5.st c5.fr (K.hit.grow X3.j g5 (noSeq_gs fun a ha => X3.gs K a (locg a ha).1) (fun a ha q => by rw [List.mem_singleton.mp q] at ha; exact K.locW ha) (X3.wr K))) c5)
theorem comp_put (K : COk Z) (X : CI Z (i + 1) μ H h done) {n : Nat} {w : PV} {v : Value} (rv : Rep μ h w v) (en : n = k + 1) (ik : i + n = Z.src.n) (ev : compI Z.f Z.src k (i + 1) H = some (rest,Z.H')) (ws : Z.ws = done ++ w :: rest) (len : done.length ≤ i) :
    wpAny (model Z.C.prog Z.C.w) Z.A (call (.builtin "list.append") [.ref Z.acc,v]) (fun Y s₅ => ∃ m,m < n ∧ CInv Z m s₅) (fun Y Y => False) { Z.s with heap := h,toks := tk } := by
  subst en
  have gsub := X.gs K
  obtain ⟨ys,n,ea,ra⟩ := X.acc
  refine wpAny_list_append_plain (s := { Z.s with heap := h,toks := tk }) (hsz := by have := lim_sizeLine; have := K.hn; rw [sz ra]; fail "l") ⟨n,ea⟩ fun h2 ⟨n2,hp⟩ sb => ?_
  have one : ∀ {P : Addr → Prop},P Z.acc → ∀ a ∈ [Z.acc],P a := fun p a ha => List.mem_singleton.mp ha ▸ p
  have sd := X.st.sideW (W := [Z.acc]) (fun b o m e => sb.extBut b o (fun z => m (z ▸ .head _)) e) (one (X.st.ghost _ (gsub _ K.accG)).2.1) (one (X.st.ghost _ (gsub _ K.accG)).2.2) (noSeq_gs (one (gsub _ K.accG)))
    (one (P := fun a => ∀ o,h.get? a = some o → o.data ≠ .plain) fun o e => by rw [ea] at e; fail "=e"; exact fun z => (by contradiction)) (one (P := fun a => ∀ o,h.get? a = some o → ∃ o',h2.get? a = some o') fun Y Y => ⟨_,hp⟩)
  have nq : NoSeq [Z.acc] μ h := noSeq_gs (one (gsub _ K.accG))
  refine ⟨k,Nat.lt_succ_self _,.mk (i := i + 1) (μ := μ) (H := H) (h := h2) (done := done ++ [w]) (rest := rest) (by fail "l") ⟨X.gr.trans (sd.1.weaken (one K.accG)),sd.2,X.fr.growW sd.1 (K.apart (fun z => K.accL (List.mem_singleton.mp z).symm) (one K.accG)),
    X.cap.growW sd.1 nq fun p hp => ⟨(X.fr.new _ (W_cell hp)).2,fun z => K.cell p hp (one K.accG _ z)⟩,K.hit.grow X.j sd.1 nq (fun a ha q => K.accW (List.mem_singleton.mp q ▸ ha)) (X.wr K),_,n2,hp,?_⟩ ev (by rw [ws,List.append_assoc]; rfl) (by rw [List.length_append]; exact Nat.succ_le_succ len)⟩
  rw [Array.toList_push]
  exact (ra.grow sd.1 nq).append (.cons (rv.grow sd.1 nq) .nil)
theorem comp_elt (K : COk Z) {x : Expr} {n : Nat} (hx : SX Z.C Z.t Z.cf Z.d Z.elt Z.se x) (X : CI Z (i + 1) μ H h done) {l' : Loc} {r : Option PV} {H3 : AH} (cx : Cx Z.C Z.d Z.A Z.se Z.env μ H h l') (e : (on (aeval Z.t Z.cf Z.elt l' H) fun w H3 => some (some w,H3)) = some (r,H3)) (en : n = k + 1) (ik : i + n = Z.src.n) (ev : compI Z.f Z.src k (i + 1) H3 = some (rest,Z.H')) (ws : Z.ws = done ++ r.elim rest (· :: rest)) (len : done.length ≤ i) :
    wpAny (model Z.C.prog Z.C.w) Z.A (eval x Z.env) (fun v s₄ => wpAny (model Z.C.prog Z.C.w) Z.A (call (.builtin "list.append") [.ref Z.acc,v]) (fun Y s₅ => ∃ m,m < n ∧ CInv Z m s₅) (fun Y Y => False) s₄) (fun Y Y => False) { Z.s with heap := h,toks := tk } :=
  on_some e fun w H3' e e' => hx (s := { Z.s with heap := h,toks := tk }) cx e _ fun v μ5 h5 tk5 g5 st5 r5 => by
    fail "=e'"
    exact comp_put K (X.ev K g5 st5) r5 en ik ev ws len
theorem CInv.elim {n : Nat} {s' : Shared} {P : Shared → Prop} (I : CInv Z n s') (k : ∀ i μ H h tk done rest,i + n = Z.src.n → CI Z i μ H h done → compI Z.f Z.src n i H = some (rest,Z.H') → Z.ws = done ++ rest → done.length ≤ i → P { Z.s with heap := h,toks := tk }) : P s' := by
  cases I with | mk ik X e ws len => exact k _ _ _ _ _ _ _ ik X e ws len
theorem ci_some {P : Prop} {n : Nat} (e : compI Z.f Z.src n i H = some (rest,H')) (k0 : Z.src.at i H = some none → rest = [] → H = H' → P)
    (k1 : ∀ m pv l' H1 b H2 r H3 vs,n = m + 1 → Z.src.at i H = some (some pv) → aassign Z.t Z.cf Z.tgt pv Z.l H = some (l',H1) → aeval Z.t Z.cf Z.cond l' H1 = some (.bool b,H2) →
      (cond b (on (aeval Z.t Z.cf Z.elt l' H2) fun w H3 => some (some w,H3)) (some (none,H2))) = some (r,H3) → compI Z.f Z.src m (i + 1) H3 = some (vs,H') → rest = r.elim vs (· :: vs) → P) : P := by
  have item : ∀ {pv r H3},Z.f pv H = some (r,H3) → _ := fun {pv r H3} (e : citemG _ _ _ = _) (k : ∀ l' H1 b H2,_ → _ → _ → P) => on_some e fun l' H1 e1 e => onB_some e fun b H2 e2 e => k l' H1 b H2 e1 e2 e
  cases n with
  | zero => exact bd_some e fun o ha e => stop_some (P := fun o => Z.src.at i H = some o → P) e (fun e ha => by fail "=e"; exact k0 ha rfl rfl) ha
  | succ m => exact bd_some e fun o ha e => bd_some e fun pv ho e => compK_some e (fun w H3 vs e1 e2 e3 => item e1 fun l' H1 b H2 a1 a2 a3 => k1 m pv l' H1 b H2 _ H3 vs rfl (ho ▸ ha) a1 a2 a3 e2 e3) fun H3 e1 e2 => item e1 fun l' H1 b H2 a1 a2 a3 => k1 m pv l' H1 b H2 _ H3 rest rfl (ho ▸ ha) a1 a2 a3 e2 rfl
theorem comp_end (K : COk Z) {R : Result → Shared → Prop} (hR : ∀ i μ' h' tk' h'',CI Z i μ' Z.H' h' Z.ws → Z.ws.length ≤ lim → (∀ b o,b ∉ Z.wr → h'.get? b = some o → h''.get? b = some o) → R (.ok .next) { Z.s with heap := h'',toks := tk' })
    (ik : i ≤ Z.src.n) (X : CI Z i μ H h done) (ha : Z.src.at i H = some none) (er : rest = []) (eH : H = Z.H') (ws : Z.ws = done ++ rest) (len : done.length ≤ i) {Q' : Option Value → Shared → Prop} (q' : ∀ s,R (.ok .next) s → Q' none s) :
    wpAny (model Z.C.prog Z.C.w) Z.A (pyNext (.ref Z.I)) Q' (fun Y Y => False) { Z.s with heap := h,toks := tk } := by
  subst er
  rw [List.append_nil] at ws
  rw [← ws] at X len
  rw [eH] at X
  exact K.hit.done (s := { Z.s with heap := h,toks := tk }) X.j (eH ▸ X.st) ha fun h2 tk2 k2 => q' _ (hR i μ h tk2 h2 X (Nat.le_trans len (Nat.le_trans ik K.hn)) k2)
section
variable {prog : Program} {w : World} {A : Around} {elt target iter c : Expr} {scope : Scope} {pos : Pos} {it acc : Value} {env : Env} {R : Result → Shared → Prop}
theorem loop_plain (I : Nat → Shared → Prop) (turn : ∀ n s,I n s → wpAny (model prog w) A (pyNext it) (fun r s₁ => match r with
      | none => R (.ok .next) s₁
      | some v => wpAny (model prog w) A (letOwnedTupleGo target it v) (fun Y s₀ => wpAny (model prog w) A (assign target env v) (fun Y s₂ =>
          wpAny (model prog w) A (eval elt env) (fun x s₄ => wpAny (model prog w) A (call (.builtin "list.append") [acc,x]) (fun Y s₅ => ∃ m,m < n ∧ I m s₅) (fun Y Y => False) s₄) (fun Y Y => False) s₂) (fun Y Y => False) s₀) (fun Y Y => False) s₁) (fun Y Y => False) s)
    (n : Nat) (h : I n s) : codeAny (model prog w) A (.compLoop (.ListComp elt [⟨target,iter,[],0⟩] scope pos) 0 it acc env) R s :=
  kcp_loop I (fun n s hI => imp (turn n s hI) fun r s₁ z => by
    cases r with
    | none => exact z
    | some v => exact imp z fun Y Y z => imp z fun Y Y z => imp z fun Y Y z => noE z) n h
theorem cond_if {P Q R S : Prop} {b : Bool} (h : cond b P Q) (k1 : P → R) (k2 : Q → S) : if b = true then R else S := by
  cases b with
  | true => rw [if_pos rfl]; exact k1 h
  | false => rw [if_neg (by decide)]; exact k2 h
theorem loop_test (I : Nat → Shared → Prop) (turn : ∀ n s,I n s → wpAny (model prog w) A (pyNext it) (fun r s₁ => match r with
      | none => R (.ok .next) s₁
      | some v => wpAny (model prog w) A (letOwnedTupleGo target it v) (fun Y s₀ => wpAny (model prog w) A (assign target env v) (fun Y s₂ =>
          wpAny (model prog w) A (PySem.isTrue c env (eval c env)) (fun ok s₃ => cond ok (wpAny (model prog w) A (eval elt env) (fun x s₄ => wpAny (model prog w) A (call (.builtin "list.append") [acc,x]) (fun Y s₅ => ∃ m,m < n ∧ I m s₅) (fun Y Y => False) s₄) (fun Y Y => False) s₃)
            (∃ m,m < n ∧ I m s₃)) (fun Y Y => False) s₂) (fun Y Y => False) s₀) (fun Y Y => False) s₁) (fun Y Y => False) s)
    (n : Nat) (h : I n s) : codeAny (model prog w) A (.compLoop (.ListComp elt [⟨target,iter,[c],0⟩] scope pos) 0 it acc env) R s :=
  kct_loop I (fun n s hI => imp (turn n s hI) fun r s₁ z => by
    cases r with
    | none => exact z
    | some v => exact imp z fun Y Y z => imp z fun Y Y z => imp z fun b Y z => cond_if z (fun z => imp z fun Y Y z => noE z) id) n h
end
theorem comp_loop {x iter : Expr} {ifs : List Expr} {scope : Scope} {p : Pos} {R : Result → Shared → Prop} (K : COk Z) (hx : SX Z.C Z.t Z.cf Z.d Z.elt Z.se x) (hcond : (ifs = [] ∧ Z.cond = .bool true) ∨ ∃ c,ifs = [c] ∧ SB Z.C Z.t Z.cf Z.d Z.cond Z.se c)
    (hR : ∀ i μ' h' tk' h'',CI Z i μ' Z.H' h' Z.ws → Z.ws.length ≤ lim → (∀ b o,b ∉ Z.wr → h'.get? b = some o → h''.get? b = some o) → R (.ok .next) { Z.s with heap := h'',toks := tk' })
    (I0 : CInv Z Z.src.n Z.s) : codeAny (model Z.C.prog Z.C.w) Z.A (.compLoop (.ListComp x [⟨Z.tg,iter,ifs,0⟩] scope p) 0 (.ref Z.I) (.ref Z.acc) Z.env) R Z.s := by
  rcases hcond with ⟨rfl,hc⟩ | ⟨c,rfl,hb⟩
  · exact loop_plain (CInv Z) (fun n s' I => I.elim (P := fun s' => wpAny _ Z.A (pyNext (.ref Z.I)) _ _ s') fun i μ H h tk done rest ik X ev ws len => ci_some ev (fun ha er eH => comp_end K hR (ik ▸ Nat.le_add_right _ _) X ha er eH ws len fun Y z => z)
      fun m pv l' H1 b H2 r H3 vs en ha a1 a2 a3 e2 er => comp_turn K X ha a1 (fun μ5 h5 tk5 X5 c5 => by
        rw [hc] at a2
        refine ret_some (P := fun v H2 => v = .bool b → (cond b (on (aeval Z.t Z.cf Z.elt l' H2) fun w H3 => some (some w,H3)) (some (none,H2))) = some (r,H3) → _) a2 (fun eb a3 => ?_) rfl a3
        cases b with
        | true => exact comp_elt K hx X5 c5 a3 en ik e2 (er ▸ ws) len
        | false => cases eb) fun v s₁ z => z) Z.src.n I0
  · exact loop_test (CInv Z) (fun n s' I => I.elim (P := fun s' => wpAny _ Z.A (pyNext (.ref Z.I)) _ _ s') fun i μ H h tk done rest ik X ev ws len => ci_some ev (fun ha er eH => comp_end K hR (ik ▸ Nat.le_add_right _ _) X ha er eH ws len fun Y z => z)
      fun m pv l' H1 b H2 r H3 vs en ha a1 a2 a3 e2 er => comp_turn K X ha a1 (fun μ5 h5 tk5 X5 c5 => hb (s := { Z.s with heap := h5,toks := tk5 }) c5 a2 _ fun μ6 h6 tk6 g6 st6 => by
        cases b with
        | true => exact comp_elt K hx (X5.ev K g6 st6) (c5.grow g6 st6) a3 en ik e2 (er ▸ ws) len
        | false =>
          cases a3
          exact ⟨m,en ▸ Nat.lt_succ_self _,.mk (by rw [← ik,en]; exact Nat.succ_add_eq_add_succ i m) (X5.ev K g6 st6) e2 (by rw [ws,er]; rfl) (Nat.le_succ_of_le len)⟩) fun v s₁ z => z) Z.src.n I0
end
end
section
open PySem PySem.W PyProof.Rows PySem.Calls PySem.SeqAt
set_option maxRecDepth 100000
section
variable {C : Ctx} {d : Nat} {A : Around} {se : SE} {env : Env} {μ μ' : Mu} {H H' : AH} {h h' : Heap} {l : Loc} {s : Shared} {t : Text} {N : Nm} {cf : CF} {E : Value → Shared → Prop}
theorem relabel_names (c : Cx C d A se env μ H h l) (scope : Scope) : (relabel scope env).names = inNames se scope.names := by
  unfold relabel inNames
  dsimp only
  congr 1
  funext p
  obtain ⟨n,k⟩ := p
  have e : env.kindOf n = se.ns.lookup n := by unfold Env.kindOf; rw [c.names]
  rw [c.fr.kind,e]
  simp
theorem set_iter {iter : Expr} (h : notSet iter = true) (x : Value) : foldedSetIterable iter env x = pure x := by
  cases iter <;> first | rfl | fail "=h"
structure CompOk (se : SE) (scope : Scope) (vs : Vis) : Prop where
  kind : scope.kind = .function
  cell : ∀ y ∈ scope.names,y.2 ≠ .cell
  names : ∀ y ∈ scope.names,y.2 = .local → scope.names.lookup y.1 = some .local
  free : ∀ y,(y,NameKind.free) ∈ scope.names → scope.names.lookup y = some .free ∧ se.ns.lookup y = some .cell ∧ (y == ("__classdict__" : Str)) = false
  own : ∀ p ∈ vs,scope.names.lookup p.2 = some .local ∧ se.lo ≤ p.1
  vis : visOk (inSE se scope.names vs).vis = true
theorem compOk_of {scope : Scope} {vs : Vis} (hok : compOk se scope vs = true) : CompOk se scope vs := by
  unfold compOk at hok
  have k2 := bR (bL (bL (bL (bL hok))))
  refine ⟨eq_of_beq (bL (bL (bL (bL (bL hok))))),fun y hy z => ?_,fun y hy z => ?_,fun y hy => ?_,fun p hp => ?_,bR hok⟩
  · have := List.all_eq_true.mp k2 y hy
    rw [z] at this; fail "=this"
  · have := List.all_eq_true.mp k2 y hy
    rw [z] at this; exact eq_of_beq this
  · have : ((scope.names.lookup y == some .free) && (se.ns.lookup y == some .cell) && !(y == ("__classdict__" : Str))) = true := List.all_eq_true.mp (bR (bL (bL (bL hok)))) _ hy
    exact ⟨eq_of_beq (bL (bL this)),eq_of_beq (bR (bL this)),by have := bR this; rwa [Bool.not_eq_true'] at this⟩
  · have := List.all_eq_true.mp (bR (bL (bL hok))) _ hp
    exact ⟨eq_of_beq (bL this),of_decide_eq_true (bR this)⟩
structure CFr (se : SE) (env cenv : Env) (scope : Scope) (cl : List (Str × Addr)) (L : Addr) : Prop where
  names : cenv.scope.names = inNames se scope.names
  cells : cenv.cells = cl
  locals : cenv.locals = L
  kind : cenv.scope.kind = .function
  glob : cenv.globals = env.globals
  blt : cenv.builtins = env.builtins
theorem lo_max (lo : Nat) : ∀ ns : List Nat,lo ≤ ns.foldr max lo
  | [] => Nat.le_refl _
  | n :: ns => Nat.le_trans (lo_max lo ns) (Nat.le_max_right _ _)
theorem comp_run {elt : X} {tgt : T} {cond : X} {x tg iter : Expr} {ifs : List Expr} {scope : Scope} {p : Pos} {cenv : Env} {cl : List (Str × Addr)} {wr : List Addr} {acc L : Addr} {J : Nat → Mu → Heap → Prop} {μ1 : Mu} {h1 h4 : Heap} {tk : Nat} {I : Addr} {src : Src} {ws : List PV} {H1 H2 : AH} {m0 : Str → Option Value} {Q : Value → Shared → Prop}
    (c : Cx C d A se env μ H s.heap l) (ok : CompOk se scope (tgtVars tgt tg)) (ht : SG C t cf d tgt (inSE se scope.names (tgtVars tgt tg)) tg) (hx : SX C t cf d elt (inSE se scope.names (tgtVars tgt tg)) x)
    (hcond : (ifs = [] ∧ cond = .bool true) ∨ ∃ c,ifs = [c] ∧ SB C t cf d cond (inSE se scope.names (tgtVars tgt tg)) c)
    (e2 : compS (compF t cf tgt cond elt l) src H1 = some (ws,H2)) (g1 : Grow [] μ μ1 s.heap h1) (st1 : St C μ1 H1 h1) (hit : ItOk C A tg I wr src J) (hn : src.n ≤ lim)
    (k14 : ∀ b o,h1.get? b = some o → h4.get? b = some o) (nW : ∀ a ∈ L :: acc :: wr,h1.get? a = none) (lW : ∀ a ∈ L :: acc :: wr,∃ o,h4.get? a = some o) (accL : acc ≠ L) (wrL : L ∉ wr) (wrA : acc ∉ wr)
    (acc4 : h4.get? acc = some (lstObj #[] 0)) (ns4 : h4.Ns L m0) (j4 : J 0 (μ1.haunt (L :: acc :: wr)) h4) (clo : Clo env scope.names cl) (F : CFr se env cenv scope cl L)
    (q : ∀ v μ' h' tk',Grow [] μ μ' s.heap h' → St C μ' H2 h' → Rep μ' h' (.lst ws) v → Q v { s with heap := h',toks := tk' }) :
    codeAny (model C.prog C.w) A (.compLoop (.ListComp x [⟨tg,iter,ifs,0⟩] scope p) 0 (.ref I) (.ref acc) cenv) (compPost (model C.prog C.w) A (fun Y Y => False) none Q (.ref acc) L) { s with heap := h4,toks := tk } := by
  have c1 := c.grow g1 st1
  have c4 := c1.haunt (g := L :: acc :: wr) k14 nW lW
  have cells4 : ∀ p ∈ cl,p ∈ env.cells := fun p hp => mem_lookup (clo.has p hp)
  have old4 : ∀ p ∈ cl,p.2 ∉ L :: acc :: wr := fun p hp m => by
    obtain ⟨v,o,e,_⟩ := c1.fr.cells p (cells4 p hp)
    rw [nW _ m] at e; fail "=e"
  have lk : ∀ y,(y,NameKind.free) ∈ scope.names → cenv.kindOf y = some .cell ∧ ∃ a,cl.lookup y = some a ∧ env.cells.lookup y = some a := fun y hy => by
    obtain ⟨a,ha⟩ := Option.isSome_iff_exists.mp (clo.all y hy)
    exact ⟨by unfold Env.kindOf; rw [F.names]; exact inNames_free (ok.free y hy).1 (ok.free y hy).2.1 se.vis se.lo,a,ha,clo.has (y,a) (mem_lookup ha)⟩
  have hc : ∀ {p},p ∈ cenv.cells → p ∈ cl := fun hp => F.cells ▸ hp
  have fr4 : FrOk C cenv (μ1.haunt (L :: acc :: wr)) h4 := by
    refine ⟨F.kind,F.glob.trans c.fr.glob,F.blt.trans c.fr.blt,⟨_,by rw [F.locals]; exact ns4⟩,fun p hp => c4.fr.cells p (cells4 p (hc hp)),fun y z a hy hz => ?_,fun p hp => ?_,fun a ha => ?_⟩
    · rw [F.cells] at hy hz; exact c.fr.apart y z a (clo.has (y,a) (mem_lookup hy)) (clo.has (z,a) (mem_lookup hz))
    · rw [F.locals]; exact fun z => old4 p (hc hp) (z ▸ .head _)
    · rcases List.mem_cons.mp ha with rfl | ha
      · rw [F.locals]; exact ⟨noneKeep st1.base (nW L (.head _)),show L ∉ (μ1.haunt (L :: acc :: wr)).cs from st1.none_notin (nW L (.head _))⟩
      · obtain ⟨p,hp,rfl⟩ := List.mem_map.mp ha
        exact c4.fr.new _ (W_cell (cells4 p (hc hp)))
  have cap4 : CapRep cenv (μ1.haunt (L :: acc :: wr)) h4 (inSE se scope.names (tgtVars tgt tg)).vis l := fun n y hy pv hp => by
    rcases List.mem_append.mp hy with hy | hy
    · obtain ⟨hy1,hy2⟩ := List.mem_filter.mp hy
      have hm := mem_lookup (eq_of_beq (bL hy2))
      obtain ⟨a1,a,a2,a3⟩ := lk y hm
      obtain ⟨v,hv,r⟩ := c4.loc n y hy1 pv hp
      have ek : env.kindOf y = some .cell := by unfold Env.kindOf; rw [c.names]; exact eq_of_beq (bR hy2)
      rcases hv with ⟨hk,_⟩ | ⟨hk,hd,b,hb,hv⟩
      · rw [ek] at hk; cases hk
      · rw [a3] at hb; fail "=hb"
        exact ⟨v,a,a1,(ok.free y hm).2.2,by rw [F.cells]; exact a2,hv,r⟩
    · exact absurd hp (c.blank n (ok.own _ hy).2 pv)
  have gsN : ∀ a ∈ μ.gs,a ∉ L :: acc :: wr := fun a ha m => by
    obtain ⟨o,e⟩ := (c1.st.ghost a (g1.gs ▸ ha)).1
    rw [nW a m] at e; fail "=e"
  let Z : CP := ⟨C,A,inSE se scope.names (tgtVars tgt tg),cenv,l,L :: acc :: wr,wr,acc,J,μ1.haunt (L :: acc :: wr),h4,{ s with heap := h4,toks := tk },t,cf,d,tgt,cond,elt,src,I,tg,ws,H2⟩
  have K : COk Z := {
    gs := fun a ha => List.mem_append_left _ ha
    wrG := fun a ha => .tail _ (.tail _ ha)
    accG := .tail _ (.head _)
    loc := by rw [show Z.env.locals = L from F.locals]; exact .head _
    accW := wrA
    locW := by rw [show Z.env.locals = L from F.locals]; exact wrL
    accL := by rw [show Z.env.locals = L from F.locals]; exact accL
    cell := fun p hp => old4 p (hc hp)
    hit := hit
    ht := ht
    hall := fun p hp => inNames_loc (ok.own p hp).1 se.vis se.lo
    room := c.room
    names := F.names
    cells := fun y hy => by
      obtain ⟨_,a,ha,_⟩ := lk y (inNames_cell se.vis se.lo hy ok.cell)
      rw [show Z.env.cells = cl from F.cells,ha]; rfl
    hvis := ok.vis
    blank := fun n hn v => c.blank n (Nat.le_trans (Nat.le_succ_of_le (lo_max se.lo _)) hn) v
    hn := hn }
  refine comp_loop (Z := Z) K hx hcond (fun i μ' h' tk' h'' X hl k3 => ?_) (.mk (i := 0) (done := []) (Nat.zero_add _) ⟨.refl,c4.st,fr4,cap4,j4,#[],0,acc4,Reps.nil⟩ (compS_I e2) rfl (Nat.le_refl _))
  obtain ⟨m,hm⟩ := X.fr.ns
  rw [show Z.env.locals = L from F.locals] at hm
  refine ⟨m,Ns_at hm fun o e => k3 L o wrL e,fun h3 sb => ?_⟩
  obtain ⟨ys,n,ea,ra⟩ := X.acc
  obtain ⟨os,gs⟩ := μ'
  obtain rfl : gs = (L :: acc :: wr) ++ μ.gs := by rw [← g1.gs]; exact X.gr.gs
  have kk : ∀ b o,b ∉ L :: acc :: wr → h'.get? b = some o → h3.get? b = some o := fun b o nb e =>
    sb.extBut b o (fun z => nb (z ▸ .head _)) (k3 b o (fun z => nb (.tail _ (.tail _ z))) e)
  have np : ∀ a ∈ L :: acc :: wr,∀ o,h'.get? a = some o → o.data ≠ .plain :=
    List.forall_mem_cons.mpr ⟨((by obtain ⟨_,_,_,e1,e2,_⟩ := hm; exact np_at e1 e2 fun z => (by contradiction))),List.forall_mem_cons.mpr ⟨np_at ea rfl (fun z => (by contradiction)),hit.np X.j⟩⟩
  exact q (.ref acc) ⟨os,μ.gs⟩ h3 tk' (g1.close k14 nW X.gr kk) (X.st.out kk gsN np)
    ⟨acc,ys,n,rfl,sb.extBut acc _ accL (k3 acc _ wrA ea),Mu.not_ns (μ := ⟨os,μ.gs⟩) (X.st.ghost acc (.tail _ (.head _))).2.1 fun m => gsN acc m (.tail _ (.head _)),hl,ra.out kk⟩
theorem s_comp {elt : X} {tgt : T} {it : I} {cond : X} {x tg iter : Expr} {ifs : List Expr} {scope : Scope} {p : Pos} (hok : compOk se scope (tgtVars tgt tg) = true) (hset : notSet iter = true)
    (hi : SI C t cf d tg it se iter) (ht : SG C t cf d tgt (inSE se scope.names (tgtVars tgt tg)) tg) (hx : SX C t cf d elt (inSE se scope.names (tgtVars tgt tg)) x)
    (hcond : (ifs = [] ∧ cond = .bool true) ∨ ∃ c,ifs = [c] ∧ SB C t cf d cond (inSE se scope.names (tgtVars tgt tg)) c) :
    SX C t cf d (.comp elt tgt it cond) se (.ListComp x [⟨tg,iter,ifs,0⟩] scope p) := fun A env μ H s l pv H' c e => on_some e fun src H1 e1 e => on_some e fun ws H2 e2 e => ret_some (P := Ev C A _ μ H s) e fun Q q => by
  have ok := compOk_of hok
  obtain ⟨cl,hclos,clo⟩ := closure_ok (env := env) (scope := scope) fun y hy => c.cells y (ok.free y hy).2.1
  rw [eval_ListComp]
  refine wpAny_comprehension_free (use := none) rfl (fun v => set_iter hset v) hclos ok.kind ok.names (hi c e1 _ fun I wr J μ1 h1 h2 tk2 g1 st1 k12 nwr lwr hit j0 hn => ?_)
  refine wpAny_newObj_type (wpAny_newFunctionEnv ok.cell (fun y hy => (by contradiction)) (fun h4 hns4 hsb4 => ?_) ok.kind)
  dsimp only at hns4 hsb4 ⊢
  generalize hH3 : h2.push { cls := .type "list",dict := none,data := .seq ([] : List Value).toArray } = H3 at hns4 hsb4 ⊢
  generalize hacc : h2.objs.size = acc
  generalize hLoc : H3.objs.size = L at hns4 hsb4 ⊢
  have hL : L = acc + 1 := by rw [← hLoc,← hH3,Heap.size_push,hacc]
  have accL : acc ≠ L := by rw [hL]; exact (Nat.succ_ne_self _).symm
  have acc2 : h2.get? acc = none := by rw [← hacc]; exact sizeNone _
  have L2 : h2.get? L = none := by
    cases z : h2.get? L with
    | none => rfl
    | some o => exact absurd (Heap.lt_size z) (by rw [hL,hacc]; exact Nat.not_lt.mpr (Nat.le_succ _))
  have k24 : ∀ b o,h2.get? b = some o → h4.get? b = some o := fun b o e =>
    hsb4.extBut b o (fun z => by rw [z,L2] at e; fail "=e") (Heap.get?_push_of_some _ (hH3 ▸ Heap.get?_push_of_some _ e))
  have acc4 : h4.get? acc = some (lstObj #[] 0) := by
    refine hsb4.extBut _ _ accL (Heap.get?_push_of_some _ ?_)
    rw [← hH3,← hacc]; exact Heap.get?_push_size _ rfl
  obtain ⟨oL,hoL,_⟩ := ns_obj hns4
  have nwr' : ∀ {a},h2.get? a = none → a ∉ wr := fun n m => by obtain ⟨o,e⟩ := lwr _ m; rw [n] at e; fail "=e"
  have j4 : J 0 (μ1.haunt (L :: acc :: wr)) h4 := hit.more (g := [L,acc]) j0 k24 (List.forall_mem_cons.mpr ⟨L2,List.forall_mem_cons.mpr ⟨acc2,fun Y h => (by contradiction)⟩⟩)
  have F := fun a b => CFr.mk (se := se) (env := env) (cenv := { (newEnv scope L env.globals cl env.qual none Value.none (some env) builtinsNs) with scope := relabel scope env }) (scope := scope) (cl := cl) (L := L) (relabel_names c scope) rfl rfl ok.kind a b
  have k14 : ∀ b o,h1.get? b = some o → h4.get? b = some o := fun b o e => k24 b o (k12 b o e)
  have nW : ∀ a ∈ L :: acc :: wr,h1.get? a = none := List.forall_mem_cons.mpr ⟨noneKeep k12 L2,List.forall_mem_cons.mpr ⟨noneKeep k12 acc2,nwr⟩⟩
  have lW : ∀ a ∈ L :: acc :: wr,∃ o,h4.get? a = some o := List.forall_mem_cons.mpr ⟨⟨oL,hoL⟩,List.forall_mem_cons.mpr ⟨⟨_,acc4⟩,fun a ha => (by obtain ⟨o,e⟩ := lwr a ha; exact ⟨o,k24 a o e⟩)⟩⟩
  have go := comp_run (iter := iter) (p := p) (tk := tk2 + ([] : List (Str × Value)).length) c ok ht hx hcond e2 g1 st1 hit hn k14 nW lW accL (nwr' L2) (nwr' acc2) acc4 hns4 j4 clo (F rfl rfl) q
  refine codeAny_compStart_list go ?_
  exact noE (hit.self (s := { s with heap := h4,toks := tk2 + ([] : List (Str × Value)).length }) j4 ((c.grow g1 st1).haunt (g := L :: acc :: wr) k14 nW lW).st go)
end
end
section
open PySem PySem.W PyProof.Rows PySem.Calls PySem.SeqAt
set_option maxRecDepth 100000
section
variable {C : Ctx} {d : Nat} {A : Around} {se : SE} {env : Env} {μ μ' : Mu} {H H' : AH} {h h' : Heap} {l : Loc} {s : Shared} {t : Text} {N : Nm} {cf : CF} {E : Value → Shared → Prop}
noncomputable def RepF (μ : Mu) (h : Heap) : Fl → Flow → Prop
  | .next,f => f = .next
  | .cont,f => f = .cont
  | .brk,f => f = .brk
  | .ret pv,f => ∃ v,f = .ret v ∧ Rep μ h pv v
noncomputable def ExPost (C : Ctx) (d : Nat) (A : Around) (se : SE) (env : Env) (μ : Mu) (s : Shared) (fl : Fl) (l' : Loc) (H' : AH) (Q : Flow → Shared → Prop) : Prop :=
  ∀ f μ' h' tk',Grow (W env) μ μ' s.heap h' → Cx C d A se env μ' H' h' l' → RepF μ' h' fl f → Q f { s with heap := h',toks := tk' }
noncomputable def EvS (C : Ctx) (d : Nat) (A : Around) (se : SE) (env : Env) (m : Sem Flow) (μ : Mu) (s : Shared) (fl : Fl) (l' : Loc) (H' : AH) : Prop :=
  ∀ Q : Flow → Shared → Prop,ExPost C d A se env μ s fl l' H' Q → wpAny (model C.prog C.w) A m Q (fun Y Y => False) s
noncomputable def SS (C : Ctx) (t : Text) (cf : CF) (d : Nat) (x : S) (se : SE) (st : Stmt) : Prop :=
  ∀ ⦃A env μ H s l fl l' H'⦄,Cx C d A se env μ H s.heap l → aexec t cf x l H = some (fl,l',H') → EvS C d A se env (exec st env) μ s fl l' H'
noncomputable def SSs (C : Ctx) (t : Text) (cf : CF) (d : Nat) (xs : List S) (se : SE) (ss : List Stmt) : Prop :=
  ∀ ⦃A env μ H s l fl l' H'⦄,Cx C d A se env μ H s.heap l → aexecs t cf xs l H = some (fl,l',H') → EvS C d A se env (execs ss env) μ s fl l' H'
theorem evs_ret {m : Sem Flow} {fl1 fl : Fl} {l1 l' : Loc} {H1 : AH} (e : some (fl1,l1,H1) = some (fl,l',H')) (h : EvS C d A se env m μ s fl1 l1 H1) : EvS C d A se env m μ s fl l' H' := by fail "=e"; exact h
theorem ExPost.after {fl l' Q} {μ1 : Mu} {h1 : Heap} {tk1 : Nat} (q : ExPost C d A se env μ s fl l' H' Q) (g : Grow (W env) μ μ1 s.heap h1) : ExPost C d A se env μ1 { s with heap := h1,toks := tk1 } fl l' H' Q :=
  fun f μ2 h2 tk2 g2 c r => q f μ2 h2 tk2 (g.trans g2) c r
theorem seqF_some {P : Prop} {x : Option (Fl × Loc × AH)} {k : Loc → AH → Option (Fl × Loc × AH)} {fl l' H'} (e : seqF x k = some (fl,l',H')) (k1 : ∀ l1 H1,x = some (.next,l1,H1) → k l1 H1 = some (fl,l',H') → P) (k2 : fl ≠ .next → x = some (fl,l',H') → P) : P := by
  cases x with
  | none => fail "=e"
  | some p =>
    obtain ⟨f,l1,H1⟩ := p
    cases f with
    | next => exact k1 l1 H1 rfl e
    | _ => fail "=e"; exact k2 (fun z => (by contradiction)) rfl
theorem sss_nil : SSs C t cf d [] se [] := fun Y Y μ Y s Y Y Y Y c e => evs_ret e fun Y q => wpAny_execs_nil (q .next μ s.heap s.toks .refl c rfl)
theorem sss_cons {x xs st ss} (hx : SS C t cf d x se st) (hxs : SSs C t cf d xs se ss) : SSs C t cf d (x :: xs) se (st :: ss) := fun Y Y μ Y s Y fl Y Y c e => seqF_some e
  (fun l1 H1 e1 e Q q => wpAny_execs_cons (hx c e1 _ fun f μ1 h1 tk1 g1 c1 r1 => by rw [show f = .next from r1]; exact hxs (s := { s with heap := h1,toks := tk1 }) c1 e Q (q.after g1)))
  fun n e Q q => wpAny_execs_cons (hx c e _ fun f μ1 h1 tk1 g1 c1 r1 => by
    have := q f μ1 h1 tk1 g1 c1 r1
    cases fl with
    | next => exact absurd rfl n
    | ret v => obtain ⟨v',rfl,_⟩ := r1; exact this
    | _ => cases r1; exact this)
theorem ss_expr {x e p} (hn : noComp e = true) (hx : SX C t cf d x se e) : SS C t cf d (.expr x) se (.Expr e p) := fun Y env Y H s l Y Y Y c e1 => on_some e1 fun v H1 e2 e1 =>
  asN_some (P := fun v => aeval t cf x l H = some (v,H1) → EvS C d _ se env _ _ s _ _ _) e1 (fun e1 e2 => evs_ret e1 fun Q q => wpAny_Expr (hx c e2 _ fun v μ1 h1 tk1 g1 st1 r1 => by
    rw [show v = .none from r1]; exact q .next μ1 h1 tk1 g1.nil (c.grow g1 st1) rfl) (by unfold interactive; rw [c.fr.kind]; rfl) (by fail "=e" <;> first | rfl | fail "=hn")) e2
theorem ss_ret {x e p} (hx : SX C t cf d x se e) : SS C t cf d (.ret x) se (.Return (some e) p) := fun Y Y Y Y Y Y Y Y Y c e1 => on_some e1 fun v H1 e2 e1 => evs_ret e1 fun Q q =>
  wpAny_Return_some (hx c e2 _ fun v μ1 h1 tk1 g1 st1 r1 => q (.ret v) μ1 h1 tk1 g1.nil (c.grow g1 st1) ⟨v,rfl,r1⟩)
theorem ss_ret0 {p} : SS C t cf d (.ret .none) se (.Return none p) := fun Y Y μ Y s Y Y Y Y c e1 => evs_ret e1 fun Y q => wpAny_Return_none (q (.ret .none) μ s.heap s.toks .refl c ⟨_,rfl,rep_none⟩)
theorem ss_ife {k a b x y z p} (hk : SB C t cf d k se x) (ha : SSs C t cf d a se y) (hb : SSs C t cf d b se z) : SS C t cf d (.ife k a b) se (.If x y z p) := fun Y Y Y Y s Y Y Y Y c e1 => onB_some e1 fun b H1 e2 e1 Q q =>
  wpAny_If (hk c e2 _ fun μ1 h1 tk1 g1 st1 => by
    cases b with
    | true => exact ha (s := { s with heap := h1,toks := tk1 }) (c.grow g1 st1) e1 Q (q.after g1.nil)
    | false => exact hb (s := { s with heap := h1,toks := tk1 }) (c.grow g1 st1) e1 Q (q.after g1.nil))
theorem ss_cont {p} : SS C t cf d .cont se (.Continue p) := fun Y Y μ Y s Y Y Y Y c e1 => evs_ret e1 fun Y q => wpAny_Continue (q .cont μ s.heap s.toks .refl c rfl)
theorem ss_brk {p} : SS C t cf d .brk se (.Break p) := fun Y Y μ Y s Y Y Y Y c e1 => evs_ret e1 fun Y q => wpAny_Break (q .brk μ s.heap s.toks .refl c rfl)
theorem ss_raise {st} : SS C t cf d .raise se st := fun Y Y Y Y Y Y Y Y Y Y e1 => (by contradiction)
noncomputable def whStep (t : Text) (cf : CF) (k : X) (b : List S) : Loc → AH → Option (Fl × Loc × AH) := wstepG (aeval t cf k) (fun l H => aexecs t cf b l H)
inductive WInv (C : Ctx) (d : Nat) (A : Around) (se : SE) (env : Env) (μ : Mu) (s : Shared) (f : Loc → AH → Option (Fl × Loc × AH)) (r : Option (Fl × Loc × AH)) (n : Nat) : Shared → Prop where
  | mk {μ1 h1 tk1 l1 H1} (g : Grow (W env) μ μ1 s.heap h1) (c : Cx C d A se env μ1 H1 h1 l1) (e : turns f n l1 H1 = r) : WInv C d A se env μ s f r n { s with heap := h1,toks := tk1 }
theorem WInv.elim {μ : Mu} {f : Loc → AH → Option (Fl × Loc × AH)} {r : Option (Fl × Loc × AH)} {n : Nat} {s' : Shared} {P : Shared → Prop} (I : WInv C d A se env μ s f r n s')
    (k : ∀ μ1 h1 tk1 l1 H1,Grow (W env) μ μ1 s.heap h1 → Cx C d A se env μ1 H1 h1 l1 → turns f n l1 H1 = r → P { s with heap := h1,toks := tk1 }) : P s' := by
  cases I with | mk g c e => exact k _ _ _ _ _ g c e
theorem wh_some {P : Prop} {k b} {n : Nat} {x} (e : turns (whStep t cf k b) n l H = some x) (k0 : ∀ H2,aeval t cf k l H = some (.bool false,H2) → some (.next,l,H2) = some x → P)
    (k1 : ∀ m H2 fl2 l2 H3,n = m + 1 → aeval t cf k l H = some (.bool true,H2) → aexecs t cf b l H2 = some (fl2,l2,H3) → turnK (some (wfl fl2,l2,H3)) (fun l H => turns (whStep t cf k b) m l H) = some x → P) : P := by
  cases n with
  | zero => fail "=e"
  | succ m =>
    have e : turnK (whStep t cf k b l H) (fun l H => turns (whStep t cf k b) m l H) = some x := e
    cases hs : whStep t cf k b l H with
    | none => rw [hs] at e; fail "=e"
    | some r =>
      rw [hs] at e
      refine onB_some hs fun bb H2 e2 e3 => ?_
      cases bb with
      | false => fail "=e3"; exact k0 H2 e2 e
      | true => exact on_some e3 fun fl2 p e4 e5 => by fail "=e5"; exact k1 m H2 fl2 p.1 p.2 rfl e2 e4 e
theorem ExPost.ret {Q} {fl1 fl : Fl} {l1 l' : Loc} {H1 : AH} (e : some (fl1,l1,H1) = some (fl,l',H')) (q : ExPost C d A se env μ s fl l' H' Q) : ExPost C d A se env μ s fl1 l1 H1 Q := by fail "=e"; exact q
theorem ss_whil {k b x y p} (hk : SB C t cf d k se x) (hb : SSs C t cf d b se y) : SS C t cf d (.whil k b) se (.While x y [] p) := fun A env μ H s l fl l' H' c e1 Q q =>
  wpAny_While (codeAny_whileLoop (WInv C d A se env μ s (whStep t cf k b) (some (fl,l',H'))) (fun n s' I => I.elim (P := fun s' => wpAny _ A (PySem.isTrue x env (eval x env)) _ _ s') fun μ1 h1 tk1 l1 H1 g1 c1 e1 => wh_some e1
    (fun H2 e2 e3 => noE (hk (s := { s with heap := h1,toks := tk1 }) c1 e2 _ fun μ2 h2 tk2 g2 st2 => wpAny_execs_nil (q.ret e3 .next μ2 h2 tk2 (g1.trans g2.nil) (c1.grow g2 st2) rfl)))
    fun m H2 fl2 l2 H3 en e2 e4 e3 => noE (hk (s := { s with heap := h1,toks := tk1 }) c1 e2 _ fun μ2 h2 tk2 g2 st2 => by
      rw [if_pos rfl]
      refine noE (hb (s := { s with heap := h2,toks := tk2 }) (c1.grow g2 st2) e4 _ fun f μ3 h3 tk3 g3 c3 r3 => ?_)
      have g13 := (g1.trans g2.nil).trans g3
      cases fl2 with
      | next => rw [show f = .next from r3]; exact ⟨m,en ▸ Nat.lt_succ_self _,.mk g13 c3 e3⟩
      | cont => rw [show f = .cont from r3]; exact ⟨m,en ▸ Nat.lt_succ_self _,.mk g13 c3 e3⟩
      | brk => rw [show f = .brk from r3]; exact q.ret e3 .next μ3 h3 tk3 g13 c3 rfl
      | ret w => obtain ⟨v,ef,rv⟩ := r3; rw [ef]; exact q.ret e3 (.ret v) μ3 h3 tk3 g13 c3 ⟨v,rfl,rv⟩)) fuel (.mk .refl c e1))
theorem noComp_swaps {e tg : Expr} {ln : Nat} (h : noComp e = true) : swapsWithSole [tg] e ln env = pure false := by
  show swapsWith e (some tg) ln env = pure false
  fail "=e" <;> first | rfl | fail "=h"
theorem ss_assign_plain {tg : T} {x : X} {tgt e p} (hn : noComp e = true) (hst : notStar tgt = true) (hx : SX C t cf d x se e) (ht : SG C t cf d tg se tgt)
    (hw : ∀ {env : Env},env.scope.kind = .function → env.scope.names = se.ns → swappedStores [tgt] e env = pure none) : SS C t cf d (.assign tg x) se (.Assign [tgt] e p) := fun A env Y Y s Y Y Y Y c e1 => on_some e1 fun v H1 e2 e1 => on_some e1 fun l2 H2 e3 e1 => evs_ret e1 fun Q q =>
  wpAny_Assign_stores (hx c e2 _ fun v μ1 h1 tk1 g1 st1 r1 => by
    rw [assignEach_of hst]
    exact ht (s := { s with heap := h1,toks := tk1 }) (W' := W env) (c.grow g1 st1) r1 e3 ⟨W_loc,fun Y h => h,.inr fun Y h => h⟩ _ fun μ2 h2 tk2 g2 c2 => q .next μ2 h2 tk2 (g1.nil.trans g2) c2 rfl) (noComp_swaps hn) (hw c.fr.kind c.names)
theorem swap_none {tgt e : Expr} (h : (∀ ts k p,tgt ≠ .Tuple ts k p) ∨ ∀ vs k p,e ≠ .Tuple vs k p) (h2 : ∀ ts p,tgt ≠ .List ts p) : swappedStores [tgt] e env = pure none := by
  unfold swappedStores
  cases tgt <;> first | rfl | skip
  · exact absurd rfl (h2 _ _)
  · fail "=e" <;> first | rfl | skip
    rcases h with h | h
    · exact absurd rfl (h _ _ _)
    · exact absurd rfl (h _ _ _)
theorem swap_eq {ts vs : List Expr} {k k2 p p2} (hk : env.scope.kind = .function) (hn : env.scope.names = se.ns) (hv : swapOk vs = true) : swappedStores [.Tuple ts k p] (.Tuple vs k2 p2) env = pure (swapNames se ts vs) := by
  unfold swapOk at hv
  rw [Bool.and_eq_true] at hv
  have hbk : env.blockKind = .function := by unfold Env.blockKind; rw [hk]; rfl
  have hkd : ∀ id,env.kindOf id = se.ns.lookup id := fun id => by unfold Env.kindOf; rw [hn]
  unfold swappedStores swapNames
  simp only [hbk,hkd]
  generalize hns : (List.filterMap _ ts : List Str) = ns
  have e0 : (ScopeKind.function != ScopeKind.function) = false := by decide
  rw [e0,Bool.or_false]
  by_cases h1 : (!(ts.length == 2 || ts.length == 3) || vs.length != ts.length) = true
  · rw [if_pos h1,if_pos h1]
  · rw [if_neg h1,if_neg h1]
    rw [if_neg (by
      intro h2
      obtain ⟨e,he,h2⟩ := List.any_eq_true.mp h2
      have := List.all_eq_true.mp hv.1 e he
      fail "=e" <;> first | (fail "=h2"; done) | (fail "=this"; done))]
    by_cases h3 : (ns.length != ts.length || ns.eraseDups.length != ns.length) = true
    · rw [if_pos h3,if_pos h3]
    · rw [if_neg h3,if_neg h3]
      by_cases h4 : vs.all (foldedForSure 8) = true
      · rw [if_pos h4,if_pos h4]
      · rw [if_neg h4,if_neg h4]
        have h5 := hv.2
        rw [Bool.or_eq_true] at h5
        have h5 := h5.resolve_left h4
        rw [if_neg (by simpa using h5)]
end
end
section
open PySem PySem.W PyProof.Rows PySem.Calls PySem.SeqAt
set_option maxRecDepth 100000
section
variable {C : Ctx} {d : Nat} {A : Around} {se : SE} {env : Env} {μ μ' : Mu} {H H' : AH} {h h' : Heap} {l : Loc} {s : Shared} {t : Text} {N : Nm} {cf : CF} {E : Value → Shared → Prop}
theorem stores_cx : ∀ (zs : List (Nat × Str × PV × Value)) {μ : Mu} {s : Shared} {l : Loc},Cx C d A se env μ H s.heap l →
    (∀ z ∈ zs,(z.1,z.2.1) ∈ se.vis ∧ storable se z.2.1 = true ∧ z.1 < se.lo ∧ z.1 < l.length ∧ Rep μ s.heap z.2.2.1 z.2.2.2) →
    ∀ Q : Unit → Shared → Prop,AsPost C d A se env μ s (W env) (zs.foldl (fun l z => l.set z.1 (some z.2.2.1)) l) H Q →
      wpAny (model C.prog C.w) A (assignInOrder (zs.map fun z => bindName env z.2.1) (zs.map (·.2.2.2))) Q (fun Y Y => False) s
  | [],μ,s,l,c,_,Q,q => wpAny_assignInOrder_none (q μ s.heap s.toks .refl c)
  | z :: zs,μ,s,l,c,hz,Q,q => by
    obtain ⟨a1,a2,a3,a4,a5⟩ := hz z (.head _)
    refine wpAny_assignInOrder_more (wpAny_bindName (store_cx (W' := W env) (vs := [(z.1,z.2.1)]) c a1 a2 a5 a3 a4 ⟨W_loc,fun Y h => h,.inr fun Y h => h⟩ (fun y Y => ⟨_,.head _,.inl rfl⟩) _ fun μ1 h1 tk1 g1 c1 => ?_))
    exact stores_cx zs (s := { s with heap := h1,toks := tk1 }) c1 (fun w hw => (by obtain ⟨b1,b2,b3,b4,b5⟩ := hz w (.tail _ hw); exact ⟨b1,b2,b3,by rw [List.length_set]; exact b4,b5.grow g1 c.fr.noSeq⟩)) Q fun μ2 h2 tk2 g2 c2 => q μ2 h2 tk2 (g1.trans g2) c2
noncomputable def swapG (se : SE) (line : Nat) : Expr → Option Str := fun
    | .Name id pos => if se.ns.lookup id == some .local && pos.line == line then some id else none
    | _ => none
theorem locs_of {line : Nat} : ∀ {xs : List T} {ts : List Expr},chkTs N xs se ts = true → (ts.filterMap (swapG se line)).length = ts.length →
    ∃ ns : List (Nat × Str),xs = ns.map (fun p => T.loc p.1) ∧ ts.filterMap (swapG se line) = ns.map (·.2) ∧ ∀ p ∈ ns,(p.1,p.2) ∈ se.vis ∧ storable se p.2 = true ∧ p.1 < se.lo
  | [],[],_,_ => ⟨[],rfl,rfl,by simp⟩
  | [],_ :: _,h,_ => (by contradiction)
  | x :: xs,[],h,_ => (by contradiction)
  | x :: xs,e :: ts,h,hl => by
    have h2 := bL (bR h)
    have h3 := bR (bR h)
    clear h
    have hle := List.length_filterMap_le (swapG se line) ts
    cases hg : swapG se line e with
    | none => rw [List.filterMap_cons_none hg,List.length_cons] at hl; fail "l"
    | some id =>
      rw [List.filterMap_cons_some hg,List.length_cons,List.length_cons] at hl
      obtain ⟨ns,e1,e2,e3⟩ := locs_of h3 (Nat.succ_inj.mp hl)
      have he : ∃ pos,e = .Name id pos := by
        unfold swapG at hg
        split at hg
        · split at hg
          · fail "=hg"; exact ⟨_,rfl⟩
          · fail "=hg"
        · fail "=hg"
      obtain ⟨pos,rfl⟩ := he
      cases x with
      | loc n =>
        refine ⟨(n,id) :: ns,by rw [e1]; rfl,by rw [List.filterMap_cons_some hg,e2]; rfl,fun p hp => ?_⟩
        rcases List.mem_cons.mp hp with rfl | hp
        · exact ⟨(isLoc_mem (bL h2)).1,bL (bR h2),of_decide_eq_true (bR (bR h2))⟩
        · exact e3 p hp
      | _ => fail "=h2"
theorem erase2 {a b : Str} (h : [a,b].eraseDups.length = 2) : a ≠ b := by
  intro z; subst z
  simp [List.eraseDups_cons] at h
theorem erase3 {a b c : Str} (h : [a,b,c].eraseDups.length = 3) : a ≠ b ∧ a ≠ c ∧ b ≠ c := by
  refine ⟨fun z => ?_,fun z => ?_,fun z => ?_⟩ <;> subst z
  · by_cases y : c = a <;> simp [List.eraseDups_cons,y] at h
  · by_cases y : b = a <;> simp [List.eraseDups_cons,y] at h
  · by_cases y : b = a <;> simp [List.eraseDups_cons,y] at h
theorem nodup_of {l : List Str} (h : l.length = 2 ∨ l.length = 3) (e : l.eraseDups.length = l.length) : l.Nodup :=
  match l,h with
  | [a,b],_ => List.nodup_cons.mpr ⟨fun m => erase2 e (List.mem_singleton.mp m),List.nodup_cons.mpr ⟨(fun m => (by contradiction)),List.nodup_nil⟩⟩
  | [a,b,c],_ => let ⟨n1,n2,n3⟩ := erase3 e
    List.nodup_cons.mpr ⟨fun m => (List.mem_cons.mp m).elim n1 fun m => n2 (List.mem_singleton.mp m),List.nodup_cons.mpr ⟨fun m => n3 (List.mem_singleton.mp m),List.nodup_cons.mpr ⟨(fun m => (by contradiction)),List.nodup_nil⟩⟩⟩
  | [],h => by rcases h with h | h <;> fail "=h"
  | [_],h => by rcases h with h | h <;> fail "=h"
  | _ :: _ :: _ :: _ :: _,h => by rcases h with h | h <;> fail "=h"
noncomputable def quads : List (Nat × Str) → List PV → List Value → List (Nat × Str × PV × Value)
  | n :: ns,p :: ps,v :: vs => (n.1,n.2,p,v) :: quads ns ps vs
  | _,_,_ => []
noncomputable def putAll (zs : List (Nat × Str × PV × Value)) (l : Loc) : Loc := zs.foldl (fun l z => l.set z.1 (some z.2.2.1)) l
theorem putAll_set : ∀ (zs : List (Nat × Str × PV × Value)) (l : Loc) (n : Nat) (p : Option PV),(∀ z ∈ zs,n ≠ z.1) → putAll zs (l.set n p) = (putAll zs l).set n p
  | [],_,_,_,_ => rfl
  | z :: zs,l,n,p,h => by
    show putAll zs ((l.set n p).set z.1 _) = (putAll zs (l.set z.1 _)).set n p
    rw [List.set_comm _ _ (h z (.head _)),putAll_set zs _ n p fun z m => h z (.tail _ m)]
theorem putAll_rev : ∀ (zs : List (Nat × Str × PV × Value)) (l : Loc),(zs.map (·.1)).Nodup → putAll zs.reverse l = putAll zs l
  | [],_,_ => rfl
  | z :: zs,l,h => by
    obtain ⟨h1,h2⟩ := List.nodup_cons.mp h
    show putAll (z :: zs).reverse l = putAll zs (l.set z.1 _)
    rw [List.reverse_cons,putAll_set zs _ _ _ fun w m e => h1 (List.mem_map.mpr ⟨w,m,e.symm⟩),← putAll_rev zs l h2]
    exact List.foldl_append ..
structure Quad (μ : Mu) (h : Heap) (ns : List (Nat × Str)) (vs : List Value) (l : Loc) (zs : List (Nat × Str × PV × Value)) : Prop where
  nm : zs.map (fun z => (z.1,z.2.1)) = ns
  vs : zs.map (·.2.2.2) = vs
  ok : ∀ z ∈ zs,z.1 < l.length ∧ Rep μ h z.2.2.1 z.2.2.2
theorem quads_ok : ∀ {ns : List (Nat × Str)} {ps : List PV} {vs : List Value} {l l' : Loc} {H H' : AH},aassigns t cf (ns.map fun p => T.loc p.1) ps l H = some (l',H') → Reps μ h ps vs → Quad μ h ns vs l (quads ns ps vs) ∧ H' = H ∧ l' = putAll (quads ns ps vs) l
  | [],ps,vs,l,l',H,H',e,r => whn_some e fun z e => by
    rw [List.isEmpty_iff.mp z] at r
    fail "=e"
    exact r.nilE (P := fun vs => Quad μ h [] vs l [] ∧ _) ⟨⟨rfl,rfl,fun Y h => (by contradiction)⟩,rfl,rfl⟩
  | n :: ns,[],vs,l,l',H,H',e,r => (by contradiction)
  | n :: ns,p :: ps,vs,l,l',H,H',e,r => r.consE (P := fun vs => Quad μ h (n :: ns) vs l (quads (n :: ns) (p :: ps) vs) ∧ _ ∧ l' = putAll (quads (n :: ns) (p :: ps) vs) l) fun v vs r1 r2 => on_some e fun l1 H1 e1 e2 => chk_some e1 fun hl e1 => by
    fail "=e1"
    obtain ⟨q,e3,e4⟩ := quads_ok e2 r2
    refine ⟨⟨congrArg (n :: ·) q.nm,congrArg (v :: ·) q.vs,fun z hz => ?_⟩,e3,e4⟩
    rcases List.mem_cons.mp hz with rfl | hz
    · exact ⟨hl,r1⟩
    · exact ⟨by have := (q.ok z hz).1; rwa [List.length_set] at this,(q.ok z hz).2⟩
theorem swap_names {ts vs : List Expr} {names : List Str} (hs : swapNames se ts vs = some names) : ∃ line,names = ts.filterMap (swapG se line) ∧ (names.length = 2 ∨ names.length = 3) ∧ names.length = ts.length ∧ names.eraseDups.length = names.length := by
  refine ⟨(ts.head?.map (fun (x : Expr) => x.pos.line)).getD 0,?_⟩
  unfold swapNames at hs
  dsimp only at hs
  split at hs
  · fail "=hs"
  · rename_i h1
    split at hs
    · fail "=hs"
    · rename_i h2
      split at hs
      · fail "=hs"
      · rw [Bool.not_eq_true,Bool.or_eq_false_iff,Bool.not_eq_false',bne_eq_false_iff_eq,Bool.or_eq_true,beq_iff_eq,beq_iff_eq] at h1
        rw [Bool.not_eq_true,Bool.or_eq_false_iff,bne_eq_false_iff_eq,bne_eq_false_iff_eq] at h2
        have e := Option.some.inj hs
        rw [e] at h2
        exact ⟨e.symm,by rw [h2.1]; exact h1.1,h2⟩
theorem nodup_fst {ns : List (Nat × Str)} (hv : visOk se.vis = true) (hm : ∀ p ∈ ns,(p.1,p.2) ∈ se.vis) (h : (ns.map (·.2)).Nodup) : (ns.map (·.1)).Nodup := by
  induction ns with
  | nil => exact List.nodup_nil
  | cons p ns ih =>
    obtain ⟨h1,h2⟩ := List.nodup_cons.mp h
    refine List.nodup_cons.mpr ⟨fun m => ?_,ih (fun p hp => hm p (.tail _ hp)) h2⟩
    obtain ⟨q,hq,e⟩ := List.mem_map.mp m
    exact h1 (List.mem_map.mpr ⟨q,hq,(vis_uniq hv (hm q (.tail _ hq)) (hm p (.head _))).mp e⟩)
theorem ss_assign_swap {xs : List T} {x : X} {ts vs : List Expr} {k k2 p p2 P} {names : List Str} (hx : SX C t cf d x se (.Tuple vs k2 p2)) (hts : chkTs N xs se ts = true) (hv : swapOk vs = true) (hs : swapNames se ts vs = some names) :
    SS C t cf d (.assign (.tup xs) x) se (.Assign [.Tuple ts k p] (.Tuple vs k2 p2) P) := fun A env μ H s l Y Y Y c e1 => on_some e1 fun pv H1 e2 e1 => on_some e1 fun l2 H2 e3 e1 => evs_ret e1 fun Q q => by
  have hsw := swap_eq (env := env) (ts := ts) (k := k) (p := p) (k2 := k2) (p2 := p2) c.fr.kind c.names hv
  rw [hs] at hsw
  obtain ⟨line,e4,n1,n2,n3⟩ := swap_names hs
  have nd := nodup_of n1 n3
  subst e4
  obtain ⟨ns,rfl,d2,d3⟩ := locs_of hts n2
  rw [d2] at hsw nd
  refine Assign_Tuple_swapped (names := ns.map (·.2)) (hx c e2 _ fun v μ1 h1' tk1 g1 st1 r1 => ?_) rfl hsw
  refine asT_rep (P := fun v => wpAny _ A (unpackItems v _ none) _ _ _) e3 r1 fun pvs a ws n ea m lv rv e3 => ?_
  have z := aassigns_length e3
  rw [List.length_map,← sz rv] at z
  rw [List.length_map,z]
  refine wpAny_unpackItems_tuple (s := { s with heap := h1',toks := tk1 }) c.room.handled (isTup_of ea) fun h3 he => ?_
  have g3 : Grow [] μ1 μ1 h1' h3 := growKeep fun b o e => he b o (ne_size e) e
  have c3 := (c.grow g1 st1).grow g3 (st1.keep fun b o e => he b o (ne_size e) e)
  obtain ⟨Z,e5,e6⟩ := quads_ok e3 (rv.grow0 g3)
  subst e5 e6
  generalize quads ns pvs ws.toList = zs at Z q e3
  have e7 : (ns.map (·.2)).reverse.map (fun n => bindName env n) = zs.reverse.map (fun z => bindName env z.2.1) := by
    rw [← Z.nm,List.map_map,← List.map_reverse,List.map_map]; rfl
  rw [e7,← Z.vs,← List.map_reverse]
  have nd1 : (zs.map (·.1)).Nodup := by
    have := nodup_fst c.vis (fun p hp => (d3 p hp).1) nd
    rwa [← Z.nm,List.map_map] at this
  refine stores_cx zs.reverse (s := { s with heap := h3,toks := tk1 }) c3 (fun z hz => ?_) (fun Y => Q .next) fun μ4 h4 tk4 g4 c4 => q .next μ4 h4 tk4 ((g1.trans g3).nil.trans g4) (putAll_rev zs l nd1 ▸ c4) rfl
  have hz := List.mem_reverse.mp hz
  obtain ⟨q1,q2,q3⟩ := d3 (z.1,z.2.1) (Z.nm ▸ List.mem_map.mpr ⟨z,hz,rfl⟩)
  exact ⟨q1,q2,q3,(Z.ok z hz).1,(Z.ok z hz).2⟩
end
end
section
open PySem PySem.W PyProof.Rows PySem.Calls PySem.SeqAt
set_option maxRecDepth 100000
noncomputable def forI (step : PV → Loc → AH → Option (Fl × Loc × AH)) (src : Src) : Nat → Nat → Loc → AH → Option (Fl × Loc × AH)
  | 0,i,l,H => bd (src.at i H) fun o => stop o (some (.next,l,H))
  | n + 1,i,l,H => bd (src.at i H) fun o => bd o fun x => forK (step x l H) fun l' H' => forI step src n (i + 1) l' H'
section
variable {C : Ctx} {d : Nat} {A : Around} {se : SE} {env : Env} {μ μ' : Mu} {H H' : AH} {h h' : Heap} {l : Loc} {s : Shared} {t : Text} {N : Nm} {cf : CF} {E : Value → Shared → Prop}
theorem forK_mono {x : Option (Fl × Loc × AH)} {k k' : Loc → AH → Option (Fl × Loc × AH)} {r} (h : ∀ l H r,k l H = some r → k' l H = some r) (e : forK x k = some r) : forK x k' = some r := by
  cases x with
  | none => fail "=e"
  | some p =>
    obtain ⟨fl,l1,H1⟩ := p
    cases fl with
    | ret w => exact e
    | brk => exact e
    | _ => exact h _ _ _ e
theorem forV_I {step : PV → Loc → AH → Option (Fl × Loc × AH)} {all : List PV} : ∀ {xs : List PV} {i : Nat} {l H r},all.drop i = xs → forV step xs l H = some r → forI step (.vals all) xs.length i l H = some r
  | [],i,l,H,r,e,h => bd_eq (x := (Src.vals all).at i H) (congrArg some (drop_end e)) h
  | x :: xs,i,l,H,r,e,h => bd_eq (x := (Src.vals all).at i H) (congrArg some (drop_at e).1) (forK_mono (fun l H r h => forV_I (drop_at e).2 h) h)
theorem forL_I {step : PV → Loc → AH → Option (Fl × Loc × AH)} {r : Nat} {all : List PV} : ∀ {xs : List PV} {i : Nat} {l H res},forL step r xs i l H = some res → forI step (.live r all) xs.length i l H = some res
  | [],i,l,H,res,h => getL_some h fun ys hy h => stop_some (P := fun o => ys[i]? = o → forI step (.live r all) 0 i l H = some res) (o := ys[i]?) (r := some (Fl.next,l,H)) (x := res) (by rw [← h]; cases ys[i]? <;> rfl) (fun h e => bd_eq (at_live hy e) h) rfl
  | x :: xs,i,l,H,res,h => getL_some h fun ys hy h => bd_some h fun y e h => bd_eq (at_live hy e) (forK_mono (fun l H r h => forL_I h) h)
theorem forS_I {step : PV → Loc → AH → Option (Fl × Loc × AH)} {src : Src} {r} (h : forS step src l H = some r) : forI step src src.n 0 l H = some r := by
  cases src with
  | vals xs => exact forV_I rfl h
  | live r xs => exact forL_I h
theorem codeAny_forT {R : Result → Shared → Prop} {target : Expr} {it : Value} {body : List Stmt} (I : Nat → Shared → Prop)
    (turn : ∀ n s,I n s → wpAny (model C.prog C.w) A (pyNext it) (fun r s₁ => match r with
      | none => R (.ok .next) s₁
      | some v => wpAny (model C.prog C.w) A (letOwnedTupleGo target it v) (fun Y s₀ => wpAny (model C.prog C.w) A (assign target env v) (fun Y s₂ => wpAny (model C.prog C.w) A (execs body env) (fun f s₃ => match f with
          | .next | .cont => ∃ m,m < n ∧ I m s₃
          | .brk => R (.ok .next) s₃
          | .ret v => R (.ok (.ret v)) s₃) (fun Y Y => False) s₂) (fun Y Y => False) s₀) (fun Y Y => False) s₁) (fun Y Y => False) s)
    (n : Nat) (h : I n s) : codeAny (model C.prog C.w) A (.forLoop target it body [] env) R s := by
  refine codeAny_loop' rfl I (fun n s hI => ?_) n h
  show wpAny _ _ ((forTurn target it body [] env).onRaise (fun x => do noteFrame x env; theTreesLotGoes x)) _ _ s
  refine wpAny_noted ?_
  simp only [forTurn]
  refine wpAny_bind (wpAny_standAt (wpAny_bind (wpAny_onRaise (wpAny_mono (turn n s hI) (fun r s₁ h₁ => ?_) fun Y Y h' => h'.elim))))
  cases r with
  | none => exact wpAny_pure (.inr ⟨rfl,codeAny_block (wpAny_execs_nil h₁)⟩)
  | some v =>
    refine wpAny_bind (wpAny_mono h₁ (fun Y s₀ h₀ => ?_) fun Y Y h' => h'.elim)
    refine wpAny_bind (wpAny_mono h₀ (fun Y s₂ h₂ => wpAny_bind (wpAny_mono h₂ (fun f s₃ h₃ => ?_) fun Y Y h' => h'.elim)) fun Y Y h' => h'.elim)
    cases f with
    | next => exact wpAny_pure (.inl ⟨rfl,h₃⟩)
    | cont => exact wpAny_pure (.inl ⟨rfl,h₃⟩)
    | brk => exact wpAny_pure h₃
    | ret v => exact wpAny_pure h₃
theorem Grow.closeW {g W' : List Addr} {μ1 : Mu} {h0 h1 h4 h3 : Heap} (G1 : Grow [] μ μ1 h0 h1) (k : ∀ b o,h1.get? b = some o → h4.get? b = some o) (n : ∀ a ∈ g,h1.get? a = none)
    (G2 : Grow (g ++ W') (μ1.haunt g) μ' h4 h') (k3 : ∀ b o,b ∉ g → h'.get? b = some o → h3.get? b = some o) : Grow W' μ ⟨μ'.os,μ.gs⟩ h0 h3 := by
  have off : ∀ a o,h1.get? a = some o → a ∉ g := fun a o e m => by rw [n a m] at e; fail "=e"
  refine ⟨?_,rfl,fun a o e m w => ?_,fun a o e => ?_⟩
  · obtain ⟨ν,e1,f1⟩ := G1.ext
    obtain ⟨ν',e2,f2⟩ := G2.ext
    refine ⟨ν ++ ν',by show μ'.os = _; rw [e2]; show μ1.os ++ ν' = _; rw [e1]; simp,fun p hp => ?_⟩
    rcases List.mem_append.mp hp with q | q
    · exact f1 p q
    · exact ⟨G1.none_of (noneKeep k (f2 p q).1),G1.none_of (noneKeep k (f2 p q).2)⟩
  · have e1 := G1.keep a o e m (by simp)
    refine k3 a o (off a o e1) (G2.keep a o (k a o e1) (show a ∉ (μ1.haunt g).cs from G1.notin e m) fun z => ?_)
    rcases List.mem_append.mp z with z | z
    · exact off a o e1 z
    · exact w z
  · obtain ⟨o1,e1⟩ := G1.alive a o e
    obtain ⟨o2,e2⟩ := G2.alive a o1 (k a o1 e1)
    exact ⟨o2,k3 a o2 (off a o1 e1) e2⟩
noncomputable def foStep (t : Text) (cf : CF) (tg : T) (b : List S) : PV → Loc → AH → Option (Fl × Loc × AH) := fun v l H => on (aassign t cf tg v l H) fun l' H'' => aexecs t cf b l' H''
structure FP where
  C : Ctx
  A : Around
  se : SE
  env : Env
  d : Nat
  wr : List Addr
  J : Nat → Mu → Heap → Prop
  μ : Mu
  μ1 : Mu
  h1 : Heap
  h2 : Heap
  s : Shared
  tg : Expr
  I : Addr
  src : Src
  f : PV → Loc → AH → Option (Fl × Loc × AH)
  r : Option (Fl × Loc × AH)
structure FOk (Z : FP) : Prop where
  hit : ItOk Z.C Z.A Z.tg Z.I Z.wr Z.src Z.J
  g1 : Grow [] Z.μ Z.μ1 Z.s.heap Z.h1
  k12 : ∀ b o,Z.h1.get? b = some o → Z.h2.get? b = some o
  nwr : ∀ a ∈ Z.wr,Z.h1.get? a = none
  dis : ∀ a ∈ W Z.env,a ∉ Z.wr
  gsN : ∀ a ∈ Z.μ.gs,a ∉ Z.wr
structure FI (Z : FP) (i : Nat) (μ3 : Mu) (H : AH) (h3 : Heap) (l : Loc) : Prop where
  g : Grow (Z.wr ++ W Z.env) (Z.μ1.haunt Z.wr) μ3 Z.h2 h3
  c : Cx Z.C Z.d Z.A Z.se Z.env μ3 H h3 l
  j : Z.J i μ3 h3
inductive FInv (Z : FP) (n : Nat) : Shared → Prop where
  | mk {i μ3 H h3 tk l} (ik : i + n = Z.src.n) (X : FI Z i μ3 H h3 l) (e : forI Z.f Z.src n i l H = Z.r) : FInv Z n { Z.s with heap := h3,toks := tk }
section
variable {Z : FP} {i n : Nat} {μ3 : Mu} {h3 : Heap} {tk : Nat}
theorem FI.gs (X : FI Z i μ3 H h3 l) : ∀ a ∈ Z.wr,a ∈ μ3.gs := fun a ha => by rw [X.g.gs]; exact List.mem_append_left _ ha
theorem FI.out (K : FOk Z) (X : FI Z i μ3 H h3 l) {h4 : Heap} (k : ∀ b o,b ∉ Z.wr → h3.get? b = some o → h4.get? b = some o) : Grow (W Z.env) Z.μ ⟨μ3.os,Z.μ.gs⟩ Z.s.heap h4 ∧ Cx Z.C Z.d Z.A Z.se Z.env ⟨μ3.os,Z.μ.gs⟩ H h4 l ∧ ∀ {x v},Rep μ3 h3 x v → Rep ⟨μ3.os,Z.μ.gs⟩ h4 x v := by
  obtain ⟨g,c,j⟩ := X
  obtain ⟨os,gs⟩ := μ3
  obtain rfl : gs = Z.wr ++ Z.μ.gs := by rw [← K.g1.gs]; exact g.gs
  exact ⟨Grow.closeW K.g1 K.k12 K.nwr g k,c.out k K.gsN (K.hit.np j) K.dis,fun r => r.out k⟩
theorem for_turn (K : FOk Z) {t : Text} {cf : CF} {tgt : T} {b : List S} {body : List Stmt} (ht : SG Z.C t cf Z.d tgt Z.se Z.tg) (hb : SSs Z.C t cf Z.d b Z.se body) (X : FI Z i μ3 H h3 l) {pv : PV} {l2 l3 : Loc} {H3 H4 : AH} {fl2 : Fl} (ha : Z.src.at i H = some (some pv))
    (e1 : aassign t cf tgt pv l H = some (l2,H3)) (e2 : aexecs t cf b l2 H3 = some (fl2,l3,H4)) {Q : Flow → Shared → Prop} {Q' : Option Value → Shared → Prop} (q : ∀ f μ7 h7 tk7,FI Z (i + 1) μ7 H4 h7 l3 → RepF μ7 h7 fl2 f → Q f { Z.s with heap := h7,toks := tk7 })
    (q' : ∀ v s₁,wpAny (model Z.C.prog Z.C.w) Z.A (letOwnedTupleGo Z.tg (.ref Z.I) v) (fun Y s₀ => wpAny (model Z.C.prog Z.C.w) Z.A (assign Z.tg Z.env v) (fun Y s₂ => wpAny (model Z.C.prog Z.C.w) Z.A (execs body Z.env) Q (fun Y Y => False) s₂) (fun Y Y => False) s₀) (fun Y Y => False) s₁ → Q' (some v) s₁) :
    wpAny (model Z.C.prog Z.C.w) Z.A (pyNext (.ref Z.I)) Q' (fun Y Y => False) { Z.s with heap := h3,toks := tk } :=
  K.hit.next (s := { Z.s with heap := h3,toks := tk }) X.j X.c.st ha fun v h4 tk4 g4 st4 r4 own => q' v _ (own _ fun h5 tk5 g5 st5 j5 r5 => by
    have g45 := g4.trans g5
    have c5 := X.c.growW g45 st5 (noSeq_gs X.gs) K.dis
    have wrW : ∀ a ∈ Z.wr,a ∉ W Z.env := fun a ha m => K.dis a m ha
    refine ht (s := { Z.s with heap := h5,toks := tk5 }) (W' := W Z.env) c5 r5 e1 ⟨W_loc,fun Y h => h,.inr fun Y h => h⟩ _ fun μ6 h6 tk6 g6 c6 => ?_
    have j6 := K.hit.grow j5 g6 c5.fr.noSeq wrW fun a ha => (st5.ghost a (X.gs a ha)).2.1
    exact hb (s := { Z.s with heap := h6,toks := tk6 }) c6 e2 _ fun f μ7 h7 tk7 g7 c7 r7 => q f μ7 h7 tk7
      ⟨X.g.trans ((g45.weaken fun a ha => List.mem_append_left _ ha).trans ((g6.trans g7).weaken fun a ha => List.mem_append_right _ ha)),c7,K.hit.grow j6 g7 c6.fr.noSeq wrW fun a ha => (c6.st.ghost a (g6.gs ▸ X.gs a ha)).2.1⟩ r7)
end
theorem FInv.elim {Z : FP} {n : Nat} {s' : Shared} {P : Shared → Prop} (I : FInv Z n s') (k : ∀ i μ3 H h3 tk l,i + n = Z.src.n → FI Z i μ3 H h3 l → forI Z.f Z.src n i l H = Z.r → P { Z.s with heap := h3,toks := tk }) : P s' := by
  cases I with | mk ik X e => exact k _ _ _ _ _ _ ik X e
theorem fo_some {P : Prop} {tgt : T} {b : List S} {src : Src} {n i : Nat} {x} (e : forI (foStep t cf tgt b) src n i l H = some x) (k0 : src.at i H = some none → some (.next,l,H) = some x → P)
    (k1 : ∀ m pv l2 H3 fl2 l3 H4,n = m + 1 → src.at i H = some (some pv) → aassign t cf tgt pv l H = some (l2,H3) → aexecs t cf b l2 H3 = some (fl2,l3,H4) → forK (some (fl2,l3,H4)) (fun l' H' => forI (foStep t cf tgt b) src m (i + 1) l' H') = some x → P) : P := by
  cases n with
  | zero => exact bd_some e fun o ha e => stop_some (P := fun o => src.at i H = some o → P) e (fun e ha => k0 ha e) ha
  | succ m =>
    refine bd_some e fun o ha e => bd_some e fun pv ho e => ?_
    subst ho
    have e : forK (foStep t cf tgt b pv l H) (fun l' H' => forI (foStep t cf tgt b) src m (i + 1) l' H') = some x := e
    cases h0 : foStep t cf tgt b pv l H with
    | none => rw [h0] at e; fail "=e"
    | some r => rw [h0] at e; exact on_some h0 fun l2 H3 a1 a2 => k1 m pv l2 H3 r.1 r.2.1 r.2.2 rfl ha a1 a2 e
theorem for_loop {Z : FP} (K : FOk Z) {b : List S} {tgt : T} {body : List Stmt} {fl : Fl} {l' : Loc} {t : Text} {cf : CF} (ht : SG Z.C t cf Z.d tgt Z.se Z.tg) (hb : SSs Z.C t cf Z.d b Z.se body) (hf : Z.f = foStep t cf tgt b) (hr : Z.r = some (fl,l',H')) {R : Result → Shared → Prop} {Q : Flow → Shared → Prop}
    (q : ExPost Z.C Z.d Z.A Z.se Z.env Z.μ Z.s fl l' H' Q) (r1 : ∀ s,Q .next s → R (.ok .next) s) (r2 : ∀ v s,Q (.ret v) s → R (.ok (.ret v)) s) (I0 : FInv Z Z.src.n { Z.s with heap := Z.h2,toks := tk }) :
    codeAny (model Z.C.prog Z.C.w) Z.A (.forLoop Z.tg (.ref Z.I) body [] Z.env) R { Z.s with heap := Z.h2,toks := tk } :=
  codeAny_forT (FInv Z) (fun n s' I => I.elim (P := fun s' => wpAny _ Z.A (pyNext (.ref Z.I)) _ _ s') fun i μ3 H2 h3 tk3 l1 ik X e => fo_some (x := (fl,l',H')) (by rw [← hf,← hr]; exact e)
    (fun ha e => K.hit.done (s := { Z.s with heap := h3,toks := tk3 }) X.j X.c.st ha fun h4 tk4 k34 => r1 _ (q.ret e .next _ h4 tk4 (X.out K k34).1 (X.out K k34).2.1 rfl))
    fun m pv l2 H3 fl2 l3 H4 en ha a1 a2 e => for_turn K ht hb X ha a1 a2 (fun f μ7 h7 tk7 Y r7 => by
      have O := Y.out K fun Y Y Y e => e
      have nx : forI (foStep t cf tgt b) Z.src m (i + 1) l3 H4 = some (fl,l',H') → (∃ m,m < n ∧ FInv Z m { Z.s with heap := h7,toks := tk7 }) := fun e => ⟨m,en ▸ Nat.lt_succ_self _,.mk (by rw [← ik,en]; exact Nat.succ_add_eq_add_succ i m) Y (by rw [hf,hr]; exact e)⟩
      cases fl2 with
      | next => rw [show f = .next from r7]; exact nx e
      | cont => rw [show f = .cont from r7]; exact nx e
      | brk => rw [show f = .brk from r7]; exact r1 _ (q.ret e .next _ h7 tk7 O.1 O.2.1 rfl)
      | ret w => obtain ⟨v,ef,rv⟩ := r7; rw [ef]; exact r2 _ _ (q.ret e (.ret v) _ h7 tk7 O.1 O.2.1 ⟨v,rfl,O.2.2 rv⟩)) fun v s₁ z => z) Z.src.n I0
theorem ss_for {tgt : T} {it : I} {b : List S} {tg iter : Expr} {body : List Stmt} {p : Pos} (hset : notSet iter = true) (hi : SI C t cf d tg it se iter) (ht : SG C t cf d tgt se tg) (hb : SSs C t cf d b se body) :
    SS C t cf d (.for_ tgt it b) se (.For tg iter body [] p) := fun A env μ H s l fl l' H' c e => on_some e fun src H1 e1 e Q q =>
  wpAny_For (hi c e1 _ fun I wr J μ1 h1 h2 tk2 g1 st1 k12 nwr lwr hit j0 hn => for_loop (Z := ⟨C,A,se,env,d,wr,J,μ,μ1,h1,h2,s,tg,I,src,foStep t cf tgt b,some (fl,l',H')⟩)
    ⟨hit,g1,k12,nwr,fun a ha m => (by obtain ⟨o,e⟩ := (c.grow g1 st1).fr.live a ha; rw [nwr a m] at e; fail "=e"),fun a ha m => (by obtain ⟨o,e⟩ := (st1.ghost a (g1.gs ▸ ha)).1; rw [nwr a m] at e; fail "=e")⟩
    ht hb rfl rfl q (fun Y z => z) (fun Y Y z => z) (.mk (i := 0) (Nat.zero_add _) ⟨.refl,(c.grow g1 st1).haunt k12 nwr lwr,j0⟩ (forS_I e))) (fun v => set_iter hset v)
end
end
section
open PySem PySem.W PyProof.Rows PySem.Calls PySem.SeqAt
set_option maxRecDepth 100000
section
variable {C : Ctx} {d : Nat} {t : Text} {N : Nm} {cf : CF}
theorem bad_X {se e} : SX C t cf d .bad se e ∧ SB C t cf d .bad se e := ⟨(fun Y Y Y Y Y Y Y Y Y h => (by contradiction)),(fun Y Y Y Y Y Y Y Y Y h => (by contradiction))⟩
theorem both {x se e} (z : SX C t cf d x se e) (he : ∀ env whole,isTrue e env whole = (do let v ← whole; standAt e.pos; holding [v] (truthy v))) : SX C t cf d x se e ∧ SB C t cf d x se e := ⟨z,b_value z he⟩
noncomputable def isTup : Expr → Prop := fun e => ∃ ts k q,e = .Tuple ts k q
noncomputable def Both (C : Ctx) (t : Text) (cf : CF) (d : Nat) (x : X) (se : SE) (e : Expr) : Prop := SX C t cf d x se e ∧ SB C t cf d x se e
theorem subO {P : Operator → Prop} {o o' : Operator} (h : (o == o') = true) (k : P o') : P o := eq_of_beq h ▸ k
theorem subS {P : Str → Prop} {o o' : Str} (h : (o == o') = true) (k : P o') : P o := eq_of_beq h ▸ k
theorem subI {P : Int → Prop} {o o' : Int} (h : (o == o') = true) (k : P o') : P o := eq_of_beq h ▸ k
theorem subC {P : CmpOp → Prop} {o o' : CmpOp} (h : (o == o') = true) (k : P o') : P o := eq_of_beq h ▸ k
theorem nilE {α : Type} {P : List α → Prop} {l : List α} (h : l.isEmpty = true) (k : P []) : P l := List.isEmpty_iff.mp h ▸ k
theorem noneO {P : Option Expr → Prop} {o : Option Expr} (h : o.isNone = true) (k : P none) : P o := by
  cases o with
  | none => exact k
  | some _ => fail "=h"
theorem callG_inv {P : Expr → Prop} {se : SE} {f : Expr} {x : Str} {b : Bool} (h : callG N se f x b = true) (k : ∀ q,b = true → isGl se x = true → P (.Name x q)) : P f :=
  into 24 h rfl fun h => subS (P := fun x => P (.Name x _)) (bL h) (k _ (bL (bR h)) (by have := eq_of_beq (bL h); rw [← this]; exact bR (bR h)))
theorem trueX_inv {x : X} (h : trueX x = true) : x = .bool true := by
  cases x with
  | bool b => cases b <;> first | rfl | fail "=h"
  | _ => fail "=h"
theorem noneX_inv {P : X → Prop} {x : X} (h : noneX x = true) (k : P .none) : P x := by
  cases x with
  | none => exact k
  | _ => fail "=h"
theorem isTup_ok {e : Expr} (h : isK e 14 = true) : isTup e := into (P := isTup) (r := true) 14 (by rw [Bool.and_true]; exact h) rfl fun Y => ⟨_,_,_,rfl⟩
theorem head_zip {tg : T} {it : I} {e : Expr} (h : headOk tg it e = true) : (∃ as,it = .zip as) → isTup e := by
  rintro ⟨as,rfl⟩
  exact isTup_ok (by have := bR h; exact this)
theorem z_name {a : Str} {m : Nat} (h1 : (if m < 1000 then a == N.nm m && decide (m < N.nn) else a == bname m) = true) : (a = if m < 1000 then N.nm m else bname m) ∧ (m < 1000 → m < N.nn) := by
  by_cases hm : m < 1000
  · rw [if_pos hm] at h1 ⊢
    exact ⟨eq_of_beq (bL h1),fun Y => of_decide_eq_true (bR h1)⟩
  · rw [if_neg hm] at h1 ⊢
    exact ⟨eq_of_beq h1,fun z => absurd z hm⟩
noncomputable def One (C : Ctx) (t : Text) (cf : CF) (d : Nat) (b : X) (se : SE) (l : List Expr) : Prop := ∃ r,l = [r] ∧ notSet r = true ∧ SX C t cf d b se r
noncomputable def Two (C : Ctx) (t : Text) (cf : CF) (d : Nat) (b c : X) (se : SE) (l : List Expr) : Prop := ∃ r q,l = [r,q] ∧ notSet q = true ∧ SX C t cf d b se r ∧ SX C t cf d c se q
noncomputable def All (C : Ctx) (t : Text) (cf : CF) (d : Nat) (xs : List X) (se : SE) (es : List Expr) : Prop := SXs C t cf d xs se es ∧ es.all notStar = true ∧ xs.length = es.length ∧ SAnd C t cf d xs se es ∧ SOr C t cf d xs se es
noncomputable def AllT (C : Ctx) (t : Text) (cf : CF) (d : Nat) (xs : List T) (se : SE) (es : List Expr) : Prop := SGs C t cf d xs se es ∧ es.all notStar = true ∧ xs.length = es.length
variable {se : SE}
theorem s_gl' (kn : Know C t N) {g x p} (h : (x == N.gname g && (decide (g < N.ng) && isGl se x)) = true) : SX C t cf d (.gl g) se (.Name x p) := by
  have e1 := eq_of_beq (bL h)
  subst e1
  exact s_gl kn (of_decide_eq_true (bL (bR h))) (bR (bR h))
theorem both_not {a e p} (i : Both C t cf d a se e) : Both C t cf d (.not a) se (.UnaryOp .Not e p) := ⟨s_not i.1,b_not i.2⟩
theorem both_cmp {op a b l cs r p} (i : Both C t cf d a se l) (h : one cs (fun o => o == cop op) = true) (j : One C t cf d b se r) : Both C t cf d (.cmp op a b) se (.Compare l cs r p) := by
  obtain ⟨r,rfl,h1,j⟩ := j
  exact one_inv (P := fun cs => Both C t cf d (.cmp op a b) se (.Compare l cs [r] p)) h fun o h => subC (P := fun o => Both C t cf d (.cmp op a b) se (.Compare l [o] [r] p)) h ⟨s_cmp h1 i.1 j,b_cmp h1 i.1 j⟩
theorem both_cmp2 {o1 o2 a b c l cs r p} (i : Both C t cf d a se l) (h : two cs (fun o p => o == cop o1 && p == cop o2) = true) (j : Two C t cf d b c se r) : Both C t cf d (.cmp2 o1 o2 a b c) se (.Compare l cs r p) := by
  obtain ⟨r,q,rfl,h1,j,k⟩ := j
  refine two_inv (P := fun cs => Both C t cf d (.cmp2 o1 o2 a b c) se (.Compare l cs [r,q] p)) h fun o o' h => ?_
  have e1 := eq_of_beq (bL h)
  have e2 := eq_of_beq (bR h)
  subst e1 e2
  exact ⟨s_cmp2 h1 i.1 j k,b_cmp2 h1 i.1 j k⟩
theorem both_ife {k a b x y z p} (i : Both C t cf d k se x) (j : Both C t cf d a se y) (m : Both C t cf d b se z) : Both C t cf d (.ife k a b) se (.IfExp x y z p) := ⟨s_ife i.2 j.1 m.1,b_ife i.2 j.2 m.2⟩
theorem both_tup {xs es k p} (i : All C t cf d xs se es) (h : decide (es.length ≤ 1000) = true) : Both C t cf d (.tup xs) se (.Tuple es k p) := both (s_tup (by rw [i.2.2.1]; exact of_decide_eq_true h) i.1) fun Y Y => rfl
theorem both_list {xs es p} (i : All C t cf d xs se es) (h : decide (es.length ≤ 1000) = true) : Both C t cf d (.list xs) se (.List es p) := both (s_list (by rw [i.2.2.1]; exact of_decide_eq_true h) i.1) fun Y Y => rfl
theorem both_listm {xs es p} (i : All C t cf d xs se es) (h : decide (es.length ≤ 1000) = true) : Both C t cf d (.listm xs) se (.List es p) := both (s_listm (by rw [i.2.2.1]; exact of_decide_eq_true h) i.1) fun Y Y => rfl
theorem both_callF {kn : Know C t N} (hc : CallOk C t N kn cf d) {f as es p q} (h1 : N.nf f = true) (h2 : isGl se (N.fname f) = true) (i : All C t cf d as se es) : Both C t cf d (.callF f as) se (.Call (.Name (N.fname f) q) es [] p) :=
  both (s_callF hc h1 h2 i.2.1 i.1) fun Y Y => rfl
theorem both_callC {kn : Know C t N} (hc : CallOk C t N kn cf d) {f as es p q} (h2 : isGl se (N.cname f) = true) (i : All C t cf d as se es) : Both C t cf d (.callC f as) se (.Call (.Name (N.cname f) q) es [] p) :=
  both (s_callC hc h2 i.2.1 i.1) fun Y Y => rfl
theorem both_callB {kn : Know C t N} {f as es p q} (h2 : isGl se (bnameOf f) = true) (i : All C t cf d as se es) : Both C t cf d (.callB f as) se (.Call (.Name (bnameOf f) q) es [] p) :=
  both (s_callB (kn := kn) h2 i.2.1 i.1) fun Y Y => rfl
theorem both_callM {kn : Know C t N} (hc : CallOk C t N kn cf d) {o : X} {m : Nat} {as : List X} {x a ap es p} (ha : (a = if m < 1000 then N.nm m else bname m) ∧ (m < 1000 → m < N.nn)) (hn : notSuper x = true) (hl : (ap.endLine == p.line) = true)
    (h4 : decide (es.length < 20) = true) (i : All C t cf d as se es) (j : SX C t cf d o se x) : Both C t cf d (.callM o m as) se (.Call (.Attribute x a ap) es [] p) :=
  both (s_callM hc ha.1 ha.2 hn hl (of_decide_eq_true h4) i.2.1 j i.1) fun Y Y => rfl
theorem sp_of {x : X} {o : Option Expr} (h : (match o with | some l => chkX N x se l | none => noneX x) = true) (k : ∀ e,chkX N x se e = true → SX C t cf d x se e) : SP C t cf d x se o := by
  cases o with
  | some l => exact sp_some (k l h)
  | none => exact noneX_inv (P := fun x => SP C t cf d x se none) h sp_none
theorem all_cons {x xs e r} (h : notStar e = true) (i : Both C t cf d x se e) (j : All C t cf d xs se r) : All C t cf d (x :: xs) se (e :: r) := by
  refine ⟨ss_cons h i.1 j.1,by rw [List.all_cons,h,j.2.1]; rfl,by rw [List.length_cons,List.length_cons,j.2.2.1],?_,?_⟩
  · cases xs with
    | nil => cases r with
      | nil => exact s_and_one i.1 i.2
      | cons _ _ => have := j.2.2.1; fail "=this"
    | cons y ys => cases r with
      | nil => have := j.2.2.1; fail "=this"
      | cons f fs => exact s_and_more i.1 i.2 j.2.2.2.1
  · cases xs with
    | nil => cases r with
      | nil => exact s_or_one i.1 i.2
      | cons _ _ => have := j.2.2.1; fail "=this"
    | cons y ys => cases r with
      | nil => have := j.2.2.1; fail "=this"
      | cons f fs => exact s_or_more i.1 i.2 j.2.2.2.2
theorem allT_cons {x xs e r} (h : notStar e = true) (i : SG C t cf d x se e) (j : AllT C t cf d xs se r) : AllT C t cf d (x :: xs) se (e :: r) :=
  ⟨ts_cons h i j.1,by rw [List.all_cons,h,j.2.1]; rfl,by rw [List.length_cons,List.length_cons,j.2.2]⟩
theorem t_tup' {xs es k p} (i : AllT C t cf d xs se es) : SG C t cf d (.tup xs) se (.Tuple es k p) := t_tup i.2.1 i.2.2 i.1
theorem si_range' {kn : Know C t N} {tg as es p q} (h2 : isGl se ("range" : Str) = true) (i : All C t cf d as se es) : SI C t cf d tg (.range as) se (.Call (.Name ("range" : Str) q) es [] p) := si_range (kn := kn) h2 i.2.1 i.1
theorem si_zip' {kn : Know C t N} {tg as es p q} (htg : isTup tg) (h2 : isGl se ("zip" : Str) = true) (i : All C t cf d as se es) : SI C t cf d tg (.zip as) se (.Call (.Name ("zip" : Str) q) es [] p) := si_zip (kn := kn) htg h2 i.2.1 i.1
theorem si_rev' {kn : Know C t N} {tg as es p q} (h2 : isGl se ("reversed" : Str) = true) (i : All C t cf d as se es) : SI C t cf d tg (.rev as) se (.Call (.Name ("reversed" : Str) q) es [] p) := si_rev (kn := kn) h2 i.2.1 i.1
noncomputable def compChk (N : Nm) (elt : X) (tgt : T) (it : I) (cond : X) (se : SE) (x : Expr) (sc : Scope) (g : Comprehension) : Bool := g.is_async == 0 && (compOk se sc (tgtVars tgt g.target) && (notSet g.iter && (chkI N it se g.iter &&
      (chkT N tgt (inSE se sc.names (tgtVars tgt g.target)) g.target && (chkX N elt (inSE se sc.names (tgtVars tgt g.target)) x &&
      ((g.ifs.isEmpty && trueX cond || one g.ifs fun c => chkX N cond (inSE se sc.names (tgtVars tgt g.target)) c) && headOk tgt it g.target))))))
variable {elt : X} {tgt : T} {it : I} {cond : X} {x : Expr} {sc : Scope} {g : Comprehension}
theorem c4 (h : compChk N elt tgt it cond se x sc g = true) : chkI N it se g.iter = true := bL (bR (bR (bR h)))
theorem c5 (h : compChk N elt tgt it cond se x sc g = true) : chkT N tgt (inSE se sc.names (tgtVars tgt g.target)) g.target = true := bL (bR (bR (bR (bR h))))
theorem c6 (h : compChk N elt tgt it cond se x sc g = true) : chkX N elt (inSE se sc.names (tgtVars tgt g.target)) x = true := bL (bR (bR (bR (bR (bR h)))))
theorem c8 (h : compChk N elt tgt it cond se x sc g = true) : headOk tgt it g.target = true := bR (bR (bR (bR (bR (bR (bR h))))))
theorem both_comp {p} (h : compChk N elt tgt it cond se x sc g = true) (hi : SI C t cf d g.target it se g.iter) (ht : SG C t cf d tgt (inSE se sc.names (tgtVars tgt g.target)) g.target)
    (hx : SX C t cf d elt (inSE se sc.names (tgtVars tgt g.target)) x) (hk : ∀ c,chkX N cond (inSE se sc.names (tgtVars tgt g.target)) c = true → SB C t cf d cond (inSE se sc.names (tgtVars tgt g.target)) c) :
    Both C t cf d (.comp elt tgt it cond) se (.ListComp x [g] sc p) := by
  obtain ⟨tg,iter,ifs,as⟩ := g
  have h0 : as = 0 := eq_of_beq (bL h)
  subst h0
  have h7 := bL (bR (bR (bR (bR (bR (bR h))))))
  rw [Bool.or_eq_true] at h7
  refine both (s_comp (bL (bR h)) (bL (bR (bR h))) hi ht hx ?_) fun Y Y => rfl
  rcases h7 with h7 | h7
  · exact .inl ⟨List.isEmpty_iff.mp (bL h7),trueX_inv (bR h7)⟩
  · exact .inr (one_inv (P := fun l => ∃ c,l = [c] ∧ SB C t cf d cond (inSE se sc.names (tgtVars tgt tg)) c) h7 fun c h => ⟨c,rfl,hk c h⟩)
mutual
theorem sX (kn : Know C t N) (hc : CallOk C t N kn cf d) : ∀ (x : X) (se : SE) (e : Expr),chkX N x se e = true → Both C t cf d x se e
  | .bad,se,e,_ => bad_X
  | .none,se,e,h => into 1 h rfl fun Y => both s_none fun Y Y => rfl
  | .bool true,se,e,h => into 3 h rfl fun Y => both s_bool fun Y Y => rfl
  | .bool false,se,e,h => into 2 h rfl fun Y => both s_bool fun Y Y => rfl
  | .int i,se,e,h => into 4 h rfl fun h => subI (P := fun i' => Both C t cf d _ se (.Constant (.int i') _ _)) h (both s_int fun Y Y => rfl)
  | .str x,se,e,h => into 6 h rfl fun h => both (s_str (eq_of_beq (bL h)) (of_decide_eq_true (bL (bR h))) (fun c hc => of_decide_eq_true (List.all_eq_true.mp (bR (bR h)) c hc))) fun Y Y => rfl
  | .neg i,se,e,h => into 5 h rfl fun h => into (P := fun a => Both C t cf d _ se (.UnaryOp _ a _)) 4 h rfl fun h => subI (P := fun i' => Both C t cf d _ se (.UnaryOp _ (.Constant (.int i') _ _) _)) h (both s_neg fun Y Y => rfl)
  | .loc n,se,e,h => into 24 h rfl fun h => both (s_loc h) fun Y Y => rfl
  | .gl g,se,e,h => into 24 h rfl fun h => both (s_gl' kn h) fun Y Y => rfl
  | .and xs,se,e,h => into 7 h rfl fun h => s_and (sXs kn hc xs se _ h).2.2.2.1
  | .or xs,se,e,h => into 8 h rfl fun h => s_or (sXs kn hc xs se _ h).2.2.2.2
  | .not a,se,e,h => into 9 h rfl fun h => both_not (sX kn hc a se _ h)
  | .cmp op a b,se,e,h => into 10 h rfl fun h => both_cmp (sX kn hc a se _ (bL h)) (bL (bR h)) (one_inv (P := One C t cf d b se) (bR (bR h)) fun r h => ⟨r,rfl,bL h,(sX kn hc b se _ (bR h)).1⟩)
  | .cmp2 o1 o2 a b c,se,e,h => into 10 h rfl fun h => both_cmp2 (sX kn hc a se _ (bL h)) (bL (bR h)) (two_inv (P := Two C t cf d b c se) (bR (bR h)) fun r q h => ⟨r,q,rfl,bL h,(sX kn hc b se _ (bL (bR h))).1,(sX kn hc c se _ (bR (bR h))).1⟩)
  | .bin op a b,se,e,h => into 12 h rfl fun h => subO (P := fun o => Both C t cf d _ se (.BinOp _ o _ _)) (bL h) (both (s_bin (op := op) (sX kn hc a se _ (bL (bR h))).1 (sX kn hc b se _ (bR (bR h))).1) fun Y Y => rfl)
  | .mulm a b,se,e,h => into 12 h rfl fun h => subO (P := fun o => Both C t cf d _ se (.BinOp _ o _ _)) (bL h) (both (s_mulm (sX kn hc a se _ (bL (bR h))).1 (sX kn hc b se _ (bR (bR h))).1) fun Y Y => rfl)
  | .ife k a b,se,e,h => into 13 h rfl fun h => both_ife (sX kn hc k se _ (bL h)) (sX kn hc a se _ (bL (bR h))) (sX kn hc b se _ (bR (bR h)))
  | .tup xs,se,e,h => into 14 h rfl fun h => both_tup (sXs kn hc xs se _ (bL h)) (bR h)
  | .list xs,se,e,h => into 15 h rfl fun h => both_list (sXs kn hc xs se _ (bL h)) (bR h)
  | .listm xs,se,e,h => into 15 h rfl fun h => both_listm (sXs kn hc xs se _ (bL h)) (bR h)
  | .dict,se,e,h => into 16 h rfl fun h => nilE (P := fun l => Both C t cf d _ se (.Dict _ l _)) h (both s_dict fun Y Y => rfl)
  | .comp elt tgt it cond,se,e,h => into 17 h rfl fun h => one_inv (P := fun g => Both C t cf d _ se (.ListComp _ g _ _)) h fun g h => both_comp h
      (sI kn hc it g.target se g.iter (c4 h) (head_zip (c8 h))) (sT kn hc tgt _ g.target (c5 h)) (sX kn hc elt _ _ (c6 h)).1 (fun c h => (sX kn hc cond _ c h).2)
  | .attr o k,se,e,h => into 18 h rfl fun h => subS (P := fun x => Both C t cf d _ se (.Attribute _ x _)) (bL h) (both (s_attr kn (k := k) (bL (bR h)) (sX kn hc o se _ (bR (bR h))).1) fun Y Y => rfl)
  | .idx o i,se,e,h => into 19 h rfl fun h => both (s_idx (bL h) (sX kn hc o se _ (bL (bR h))).1 (sX kn hc i se _ (bR (bR h))).1) fun Y Y => rfl
  | .slice o lo hi,se,e,h => into 19 h rfl fun h => into (P := fun b => Both C t cf d _ se (.Subscript _ b _)) 25 h rfl fun h => noneO (P := fun st => Both C t cf d _ se (.Subscript _ (.Slice _ _ st _) _)) (bL h) (both (s_slice (sX kn hc o se _ (bL (bR h))).1
      (sp_of (bL (bR (bR h))) fun e h => (sX kn hc lo se e h).1) (sp_of (bR (bR (bR h))) fun e h => (sX kn hc hi se e h).1)) fun Y Y => rfl)
  | .callF f as,se,e,h => into 21 h rfl fun h => callG_inv (P := fun f => Both C t cf d _ se (.Call f _ _ _)) (bR h) fun q h1 h2 => both_callF hc h1 h2 (sXs kn hc as se _ (bL h))
  | .callC f as,se,e,h => into 21 h rfl fun h => callG_inv (P := fun f => Both C t cf d _ se (.Call f _ _ _)) (bR h) fun q Y h2 => both_callC hc h2 (sXs kn hc as se _ (bL h))
  | .callB b as,se,e,h => into 21 h rfl fun h => callG_inv (P := fun f => Both C t cf d _ se (.Call f _ _ _)) (bR h) fun q Y h2 => both_callB (kn := kn) h2 (sXs kn hc as se _ (bL h))
  | .callM o m as,se,e,h => into 21 h rfl fun h => into (P := fun f => Both C t cf d _ se (.Call f _ _ _)) 18 (bR (bR h)) rfl fun h' => both_callM hc (z_name (bL h')) (bL (bR (bR h'))) (bL (bR h')) (bL (bR h)) (sXs kn hc as se _ (bL h)) (sX kn hc o se _ (bR (bR (bR h')))).1
theorem sXs (kn : Know C t N) (hc : CallOk C t N kn cf d) : ∀ (xs : List X) (se : SE) (es : List Expr),chkXs N xs se es = true → All C t cf d xs se es
  | [],se,es,h => nilE (P := All C t cf d [] se) h ⟨ss_nil,rfl,rfl,s_and_nil,s_or_nil⟩
  | _ :: _,se,[],h => (by contradiction)
  | x :: xs,se,e :: r,h => all_cons (bL h) (sX kn hc x se e (bL (bR h))) (sXs kn hc xs se r (bR (bR h)))
theorem sI (kn : Know C t N) (hc : CallOk C t N kn cf d) : ∀ (it : I) (tg : Expr) (se : SE) (e : Expr),chkI N it se e = true → ((∃ as,it = .zip as) → isTup tg) → SI C t cf d tg it se e
  | .val x,tg,se,e,h,_ => si_val (sX kn hc x se e h).1
  | .range as,tg,se,e,h,_ => into (P := SI C t cf d tg _ se) 21 h rfl fun h => callG_inv (P := fun f => SI C t cf d tg _ se (.Call f _ _ _)) (bR h) fun q Y h2 => si_range' (kn := kn) h2 (sXs kn hc as se _ (bL h))
  | .zip as,tg,se,e,h,hz => into (P := SI C t cf d tg _ se) 21 h rfl fun h => callG_inv (P := fun f => SI C t cf d tg _ se (.Call f _ _ _)) (bR h) fun q Y h2 => si_zip' (kn := kn) (hz ⟨as,rfl⟩) h2 (sXs kn hc as se _ (bL h))
  | .rev as,tg,se,e,h,_ => into (P := SI C t cf d tg _ se) 21 h rfl fun h => callG_inv (P := fun f => SI C t cf d tg _ se (.Call f _ _ _)) (bR h) fun q Y h2 => si_rev' (kn := kn) h2 (sXs kn hc as se _ (bL h))
theorem sT (kn : Know C t N) (hc : CallOk C t N kn cf d) : ∀ (x : T) (se : SE) (e : Expr),chkT N x se e = true → SG C t cf d x se e
  | .loc n,se,e,h => into (P := SG C t cf d _ se) 24 h rfl fun h => t_loc (bL h) (bL (bR h)) (of_decide_eq_true (bR (bR h)))
  | .attr o k,se,e,h => into (P := SG C t cf d _ se) 18 h rfl fun h => subS (P := fun x => SG C t cf d _ se (.Attribute _ x _)) (bL h) (t_attr kn (sX kn hc o se _ (bR h)).1)
  | .idx o i,se,e,h => into (P := SG C t cf d _ se) 19 h rfl fun h => t_idx (sX kn hc o se _ (bL (bR h))).1 (sX kn hc i se _ (bR (bR h))).1
  | .tup xs,se,e,h => into (P := SG C t cf d _ se) 14 h rfl fun h => t_tup' (sTs kn hc xs se _ h)
theorem sTs (kn : Know C t N) (hc : CallOk C t N kn cf d) : ∀ (xs : List T) (se : SE) (es : List Expr),chkTs N xs se es = true → AllT C t cf d xs se es
  | [],se,es,h => nilE (P := AllT C t cf d [] se) h ⟨ts_nil,rfl,rfl⟩
  | _ :: _,se,[],h => (by contradiction)
  | x :: xs,se,e :: r,h => allT_cons (bL h) (sT kn hc x se e (bL (bR h))) (sTs kn hc xs se r (bR (bR h)))
end
theorem chkT_star {x : T} {se e} (h : chkT N x se e = true) : notStar e = true ∧ (∀ ts p,e ≠ .List ts p) ∧ ((∀ ts k p,e ≠ .Tuple ts k p) ∨ ∃ xs,x = .tup xs) := by
  have hk : ∀ k,(parts e).k.beq k = true → k.beq 23 = false → k.beq 15 = false → notStar e = true ∧ ∀ ts p,e ≠ .List ts p := fun k h1 h2 h3 => by
    have z := Nat.eq_of_beq_eq_true h1
    refine ⟨by unfold notStar isK; rw [z,h2]; rfl,fun ts p w => ?_⟩
    subst w
    have : k = 15 := z.symm
    subst this
    cases h3
  have ht : ∀ k,(parts e).k.beq k = true → k.beq 14 = false → ∀ ts j p,e ≠ .Tuple ts j p := fun k h1 h2 ts j p w => by
    subst w
    have : 14 = k := Nat.eq_of_beq_eq_true h1
    subst this
    fail "=h2"
  cases x with
  | loc n => exact ⟨(hk 24 (bL h) rfl rfl).1,(hk 24 (bL h) rfl rfl).2,.inl (ht 24 (bL h) rfl)⟩
  | attr n => exact ⟨(hk 18 (bL h) rfl rfl).1,(hk 18 (bL h) rfl rfl).2,.inl (ht 18 (bL h) rfl)⟩
  | idx n => exact ⟨(hk 19 (bL h) rfl rfl).1,(hk 19 (bL h) rfl rfl).2,.inl (ht 19 (bL h) rfl)⟩
  | tup n => exact ⟨(hk 14 (bL h) rfl rfl).1,(hk 14 (bL h) rfl rfl).2,.inr ⟨_,rfl⟩⟩
theorem one_assign {tg x e tgt p} (hX : SX C t cf d x se e) (h1 : noComp e = true) (h3 : chkT N tg se tgt = true) (hT : SG C t cf d tg se tgt) (h4 : chkSwap tgt e = true) : SS C t cf d (.assign tg x) se (.Assign [tgt] e p) := by
  obtain ⟨c1,c2,c3⟩ := chkT_star h3
  have pl : (∀ {env : Env},env.scope.kind = .function → env.scope.names = se.ns → swappedStores [tgt] e env = pure none) → SS C t cf d (.assign tg x) se (.Assign [tgt] e p) := fun hw => ss_assign_plain h1 c1 hX hT hw
  rcases c3 with c3 | ⟨xs,rfl⟩
  · exact pl fun Y Y => swap_none (.inl c3) c2
  · by_cases hv : ∃ vs k p,e = .Tuple vs k p
    · obtain ⟨vs,k2,p2,rfl⟩ := hv
      obtain ⟨ts,k,q,rfl⟩ : isTup tgt := isTup_ok (bL h3)
      have h4' : swapOk vs = true := h4
      cases hs : swapNames se ts vs with
      | none => exact pl fun a b => by rw [swap_eq a b h4',hs]
      | some names => exact ss_assign_swap hX (N := N) (xs := xs) h3 h4' hs
    · exact pl fun Y Y => swap_none (.inr fun vs k p z => hv ⟨vs,k,p,z⟩) c2
theorem ss_ret_of {x st} (h : ((sparts st).k.beq 3 && chkX N x se (sparts st).a || (sparts st).k.beq 4 && noneX x) = true) (k : ∀ e,chkX N x se e = true → SX C t cf d x se e) : SS C t cf d (.ret x) se st := by
  rw [Bool.or_eq_true] at h
  rcases h with h | h
  · exact sinto (P := SS C t cf d _ se) 2 h fun h => ss_ret (k _ h)
  · exact sinto (P := SS C t cf d _ se) 3 h fun h => noneX_inv (P := fun x => SS C t cf d (.ret x) se _) h ss_ret0
mutual
theorem sS (kn : Know C t N) (hc : CallOk C t N kn cf d) (se : SE) : ∀ (x : S) (st : Stmt),chkS N se x st = true → SS C t cf d x se st
  | .assign tg x,st,h => sinto (P := SS C t cf d _ se) 0 h fun h => one_inv (P := fun l => SS C t cf d _ se (.Assign l _ _)) (bR (bR h)) fun tgt h' =>
      one_assign (sX kn hc x se _ (bL (bR h))).1 (bL h) (bL h') (sT kn hc tg se tgt (bL h')) (bR h')
  | .expr x,st,h => sinto (P := SS C t cf d _ se) 1 h fun h => ss_expr (bL h) (sX kn hc x se _ (bR h)).1
  | .ret x,st,h => ss_ret_of h fun e h => (sX kn hc x se e h).1
  | .ife k a b,st,h => sinto (P := SS C t cf d _ se) 4 h fun h => ss_ife (sX kn hc k se _ (bL h)).2 (sSs kn hc se a _ (bL (bR h))) (sSs kn hc se b _ (bR (bR h)))
  | .whil k b,st,h => sinto (P := SS C t cf d _ se) 5 h fun h => nilE (P := fun l => SS C t cf d _ se (.While _ _ l _)) (bL h) (ss_whil (sX kn hc k se _ (bL (bR h))).2 (sSs kn hc se b _ (bR (bR h))))
  | .for_ tg it b,st,h => sinto (P := SS C t cf d _ se) 6 h fun h => nilE (P := fun l => SS C t cf d _ se (.For _ _ _ l _)) (bL h) (ss_for (bL (bR h)) (sI kn hc it _ se _ (bL (bR (bR h))) (head_zip (bR (bR (bR (bR (bR h)))))))
      (sT kn hc tg se _ (bL (bR (bR (bR h))))) (sSs kn hc se b _ (bL (bR (bR (bR (bR h)))))))
  | .cont,st,h => sinto (P := SS C t cf d _ se) 7 h fun Y => ss_cont
  | .brk,st,h => sinto (P := SS C t cf d _ se) 8 h fun Y => ss_brk
  | .raise,st,h => ss_raise
theorem sSs (kn : Know C t N) (hc : CallOk C t N kn cf d) (se : SE) : ∀ (xs : List S) (ss : List Stmt),chkSs N se xs ss = true → SSs C t cf d xs se ss
  | [],ss,h => nilE (P := SSs C t cf d [] se) h sss_nil
  | _ :: _,[],h => (by contradiction)
  | x :: xs,s :: r,h => sss_cons (sS kn hc se x s (bL h)) (sSs kn hc se xs r (bR h))
end
end
end
section
open PySem PySem.W PyProof.Rows PySem.Calls PySem.SeqAt
set_option maxRecDepth 100000
structure FnOk (C : Ctx) (t : Text) (N : Nm) (f : Nat) (a : Addr) (o : Obj) (fd : FuncData) (body : List Stmt) (slots : List Str) : Prop where
  get : C.base.get? a = some o
  data : o.data = .func fd
  co : fd.scope.isCoroutine = false
  gen : fd.scope.isGenerator = false
  bodyE : fd.body = .stmts body
  cdr : C.base.CodeRec fd.code fd.qualname
  kind : fd.scope.kind = .function
  glob : fd.globals = mainGlobals
  blt : fd.builtins = builtinsNs
  clos : fd.closure = []
  chk : chkF N fd.scope.names slots (t.fn f).body body = true
  nodup : slots.Nodup
  names : (fd.scope.names.map (·.1)).Nodup
  kinds : ∀ x ∈ slots,(fd.scope.names.lookup x = some .local ∨ fd.scope.names.lookup x = some .cell) ∧ (x == ("__classdict__" : Str)) = false
  params : (t.fn f).params ≤ slots.length
  binds : ∀ pvs vs l,frame (t.fn f) pvs = some l → vs.length = pvs.length → ∃ dvs,Reps ⟨[],[]⟩ C.base ((t.fn f).dflts.drop ((t.fn f).dflts.length - ((t.fn f).params - pvs.length))) dvs ∧
    ∀ s : Shared,(∀ b o,C.base.get? b = some o → s.heap.get? b = some o) → BindsTo s fd ⟨vs,[]⟩ ((slots.take (t.fn f).params).zip (vs ++ dvs))
theorem cells_cons (n : Nat) (y : Str) (k : NameKind) (r : List (Str × NameKind)) (acc : List (Str × Addr)) : cellsFrom n ((y,k) :: r) acc = if (k == .cell) = true then cellsFrom (n + 1) r ((y,n) :: acc) else cellsFrom n r acc := rfl
theorem cells_some {x : Str} : ∀ (names : List (Str × NameKind)) (n : Nat) (acc : List (Str × Addr)),(names.lookup x = some .cell ∨ (acc.lookup x).isSome = true) → ((cellsFrom n names acc).lookup x).isSome = true
  | [],n,acc,h => h.elim (fun z => by fail "=z") id
  | (y,k) :: r,n,acc,h => by
    rw [cells_cons]
    rw [lookup_eq] at h
    by_cases hk : (k == .cell) = true
    · rw [if_pos hk]
      refine cells_some r (n + 1) _ ?_
      rw [lookup_eq]
      cases e : x == y with
      | true => exact .inr rfl
      | false => rw [e] at h; exact h
    · rw [if_neg hk]
      refine cells_some r n _ ?_
      cases e : x == y with
      | true => rw [e] at h; exact h.imp (fun h => by fail "=h"; exact absurd rfl hk) id
      | false => rw [e] at h; exact h
theorem cells_look : ∀ (names : List (Str × NameKind)) (n : Nat) (acc : List (Str × Addr)),(names.map (·.1)).Nodup → (∀ p ∈ acc,p.1 ∉ names.map (·.1)) → (∀ p ∈ acc,acc.lookup p.1 = some p.2) → ∀ p ∈ cellsFrom n names acc,(cellsFrom n names acc).lookup p.1 = some p.2
  | [],n,acc,_,_,ha,p,h => ha p h
  | (y,k) :: r,n,acc,hn,hd,ha,p,h => by
    rw [cells_cons] at h ⊢
    obtain ⟨hn1,hn2⟩ := List.nodup_cons.mp hn
    by_cases hk : (k == .cell) = true
    · rw [if_pos hk] at h ⊢
      refine cells_look r (n + 1) _ hn2 (List.forall_mem_cons.mpr ⟨hn1,fun q hq z => hd q hq (List.mem_cons_of_mem _ z)⟩) (List.forall_mem_cons.mpr ⟨by rw [lookup_eq,beq_self_eq_true]; rfl,fun q hq => ?_⟩) p h
      rw [lookup_eq,beq_eq_false_iff_ne.mpr fun z : q.1 = y => hd q hq (z ▸ List.mem_cons_self)]
      exact ha q hq
    · rw [if_neg hk] at h ⊢
      exact cells_look r n _ hn2 (fun q hq z => hd q hq (List.mem_cons_of_mem _ z)) ha p h
theorem bindL_not {kd : Str → Option NameKind} {x : Str} : ∀ (bs : List (Str × Value)) (m : Str → Option Value),x ∉ bs.map (·.1) → bindL kd bs m x = m x
  | [],m,_ => rfl
  | (n,v) :: r,m,h => by
    unfold bindL
    rw [List.map_cons,List.mem_cons,not_or] at h
    rw [bindL_not r _ h.2]
    split
    · simp [h.1]
    · rfl
theorem bindL_look {kd : Str → Option NameKind} {x : Str} {v : Value} (hk : kd x = some .local) : ∀ (bs : List (Str × Value)) (m : Str → Option Value),(bs.map (·.1)).Nodup → bs.lookup x = some v → bindL kd bs m x = some v
  | [],m,_,h => by fail "=h"
  | (n,w) :: r,m,hn,h => by
    unfold bindL
    rw [List.map_cons,List.nodup_cons] at hn
    rw [List.lookup_cons] at h
    split at h
    · rename_i e
      have := eq_of_beq e
      subst this
      fail "=h"
      rw [bindL_not r _ hn.1,if_pos hk]
      simp
    · exact bindL_look hk r _ hn.2 h
theorem bindC_not {kd : Str → Option NameKind} {x : Str} : ∀ (bs : List (Str × Value)) (m : Str → Option Value),x ∉ bs.map (·.1) → bindC kd bs m x = m x
  | [],m,_ => rfl
  | (n,v) :: r,m,h => by
    unfold bindC
    rw [List.map_cons,List.mem_cons,not_or] at h
    rw [bindC_not r _ h.2]
    split
    · rfl
    · simp [h.1]
theorem bindC_look {kd : Str → Option NameKind} {x : Str} {v : Value} (hk : kd x ≠ some .local) : ∀ (bs : List (Str × Value)) (m : Str → Option Value),(bs.map (·.1)).Nodup → bs.lookup x = some v → bindC kd bs m x = some v
  | [],m,_,h => by fail "=h"
  | (n,w) :: r,m,hn,h => by
    unfold bindC
    rw [List.map_cons,List.nodup_cons] at hn
    rw [List.lookup_cons] at h
    split at h
    · rename_i e
      have := eq_of_beq e
      subst this
      fail "=h"
      rw [bindC_not r _ hn.1,if_neg hk]
      simp
    · exact bindC_look hk r _ hn.2 h
theorem zip_look : ∀ (xs : List Str) (vs : List Value) (n : Nat) (x : Str) (v : Value),xs.Nodup → xs[n]? = some x → vs[n]? = some v → (xs.zip vs).lookup x = some v
  | [],_,n,_,_,_,h,_ => (by contradiction)
  | _ :: _,[],n,_,_,_,_,h => (by contradiction)
  | y :: xs,w :: vs,0,x,v,_,h1,h2 => by fail "=h1"; fail "=h2"; exact lookup_eq.trans (by rw [beq_self_eq_true]; rfl)
  | y :: xs,w :: vs,n + 1,x,v,hn,h1,h2 => by
    obtain ⟨hn1,hn2⟩ := List.nodup_cons.mp hn
    have hx : x ∈ xs := List.mem_of_getElem? (i := n) h1
    exact lookup_eq.trans (by rw [beq_eq_false_iff_ne.mpr fun z : x = y => hn1 (z ▸ hx)]; exact zip_look xs vs n x v hn2 h1 h2)
theorem zip_names : ∀ (xs : List Str) (vs : List Value),((xs.zip vs).map (·.1)).Sublist xs
  | [],_ => by simp
  | _ :: _,[] => by simp
  | x :: xs,v :: vs => by rw [List.zip_cons_cons,List.map_cons]; exact (zip_names xs vs).cons_cons _
section
variable {C : Ctx} {d : Nat} {t : Text} {N : Nm}
theorem Reps.base' {μ : Mu} {H : AH} {h : Heap} (st : St C μ H h) {xs : List PV} {vs : List Value} (r : Reps ⟨[],[]⟩ C.base xs vs) : Reps μ h xs vs :=
  (Reps.ghost (μ := ⟨[],[]⟩) (μ' := ⟨[],μ.gs⟩) rfl (fun a o e Y m => by rw [(st.ghost a m).2.2] at e; fail "=e") r).grow0 (μ := ⟨[],μ.gs⟩)
    ⟨⟨μ.os,rfl,fun p hp => st.fresh p hp⟩,rfl,fun a o e Y Y => st.base a o e,fun a o e => ⟨o,st.base a o e⟩⟩
theorem frame_at {f : FnDef} {as : List PV} {l : Loc} (hl : frame f as = some l) {n : Nat} {pv : PV} (hn : l[n]? = some (some pv)) : n < f.params ∧ (as ++ f.dflts.drop (f.dflts.length - (f.params - as.length)))[n]? = some pv := by
  unfold frame at hl
  split at hl
  · rename_i hc
    have la : (as ++ f.dflts.drop (f.dflts.length - (f.params - as.length))).length = f.params := by
      rw [List.length_append,List.length_drop]; fail "l"
    rw [← Option.some.inj hl] at hn
    by_cases hlt : n < f.params
    · rw [List.getElem?_append_left (by rw [List.length_map,la]; exact hlt),List.getElem?_map] at hn
      obtain ⟨z,e1,e2⟩ := Option.map_eq_some_iff.mp hn
      fail "=e2"
      exact ⟨hlt,e1⟩
    · rw [List.getElem?_append_right (by rw [List.length_map,la]; exact Nat.not_lt.mp hlt),List.getElem?_replicate] at hn
      split at hn <;> fail "=hn"
  · cases hl
theorem call_step (kn : Know C t N) (fo : ∀ f,kn.isF f → ∃ o fd body slots,FnOk C t N f (kn.fa f) o fd body slots) (nl : C.base.NoLimit) (ih : CallOk C t N kn (acall t d) d) : CallOk C t N kn (acall t (d + 1)) (d + 1) := by
  intro f as vs H r H' A μ s hF room e st rs
  obtain ⟨o,fd,body,slots,fk⟩ := fo f hF
  rw [acall_succ] at e
  refine bd_some e fun l hl e => on_some e fun fl p ex e => bd_some e fun v hv e => ?_
  obtain ⟨l',H1⟩ := p
  refine ret_some (P := EvC C A _ μ s) e fun R q => ?_
  clear e
  obtain ⟨dvs,rd,hb⟩ := fk.binds as vs l hl rs.length
  have chk := fk.chk
  unfold chkF at chk
  generalize hse : (⟨fd.scope.names,slots.zipIdx.map fun p => (p.2,p.1),slots.length⟩ : SE) = se at chk
  have hbody : SSs C t (acall t d) d (t.fn f).body se body := sSs kn ih se (t.fn f).body body (bR chk)
  have hroom : A.depth < recursionLimit := by have := room.depth; fail "l"
  refine codeAny_call_function hroom (st.base _ _ fk.get) fk.data fk.co fk.gen fk.bodyE (fk.cdr.keeps st.base) (hb s st.base _ _ _ _ ?_)
  rw [fk.clos]
  have rall : Reps μ s.heap (as ++ (t.fn f).dflts.drop ((t.fn f).dflts.length - ((t.fn f).params - as.length))) (vs ++ dvs) := rs.append (Reps.base' st rd)
  have nbs : (((slots.take (t.fn f).params).zip (vs ++ dvs)).map (·.1)).Nodup := (zip_names _ _).nodup (fk.nodup.sublist (List.take_sublist _ _))
  refine wpAny_newFunctionEnv_cells fk.kind (fun x hx => ?_) fun env henv s' ic => ?_
  · have hm : x.1 ∈ slots := List.mem_of_mem_take ((zip_names (slots.take (t.fn f).params) (vs ++ dvs)).subset (List.mem_map.mpr ⟨x,hx,rfl⟩))
    exact (fk.kinds _ hm).1.imp id fun z => ⟨z,cells_some _ _ _ (.inl z)⟩
  obtain ⟨h',tk',rfl,kk⟩ := ic.done
  have ce1 : env.scope = fd.scope := by rw [henv]; rfl
  have ce2 : env.cells = cellsFrom (s.heap.objs.size + 1) fd.scope.names [] := by rw [henv]; rfl
  have ce3 : env.locals = s.heap.objs.size := by rw [henv]; rfl
  have ce4 : env.globals = mainGlobals := by rw [henv]; exact fk.glob
  have ce5 : env.builtins = builtinsNs := by rw [henv]; exact fk.blt
  clear henv
  have look : ∀ p ∈ env.cells,env.cells.lookup p.1 = some p.2 := by
    rw [ce2]; exact cells_look _ _ _ fk.names (fun Y h => (by contradiction)) (fun Y h => (by contradiction))
  have newA : ∀ a ∈ W env,s.heap.get? a = none := fun a ha => by
    have big : s.heap.objs.size ≤ a := by
      rcases List.mem_cons.mp ha with rfl | ha
      · rw [ce3]; exact Nat.le_refl _
      · obtain ⟨p,hp,rfl⟩ := List.mem_map.mp ha
        exact ce3 ▸ Nat.le_of_lt (ic.above p.1 p.2 hp)
    cases z : s.heap.get? a with
    | none => rfl
    | some o => exact absurd (Heap.lt_size z) (Nat.not_lt.mpr big)
  refine ⟨(nl.keeps st.base).keeps kk,codeAny_func ?_⟩
  have g0 : Grow [] μ μ s.heap h' := growKeep kk
  have fr : FrOk C env μ h' := ⟨by rw [ce1]; exact fk.kind,ce4,ce5,⟨_,ic.toInCall.ns⟩,fun p hp => ⟨_,ic.cell p.1 p.2 (look p hp)⟩,fun x y c hx hy => name_of_addr ic.apart (PySem.mem_of_lookup hx) (PySem.mem_of_lookup hy),
    fun p hp z => Nat.lt_irrefl _ (z ▸ ic.above p.1 p.2 hp),fun a ha => ⟨noneKeep st.base (newA a ha),st.none_notin (newA a ha)⟩⟩
  have cx : Cx C d (A.deeper env) se env μ H h' l := by
    subst hse
    refine ⟨room.deeper env,by rw [ce1],fun x hx => by rw [ce2]; exact cells_some _ _ _ (.inl hx),bL (bL chk),fun n hn pv hp => ?_,st.keep kk,fr,fun n x hx pv hp => ?_⟩
    · have h1 : slots.length ≤ n := hn
      exact absurd (Nat.lt_of_lt_of_le (frame_at hl hp).1 fk.params) (Nat.not_lt.mpr h1)
    · obtain ⟨z,hz,e1⟩ := List.mem_map.mp hx
      fail "=e1"
      have hsl : slots[z.2]? = some z.1 := List.mem_zipIdx_iff_getElem?.mp hz
      obtain ⟨hlt,hpv⟩ := frame_at hl hp
      obtain ⟨v,hv,rv⟩ := rall.get hpv
      have hlk := zip_look (slots.take (t.fn f).params) (vs ++ dvs) z.2 z.1 v (fk.nodup.sublist (List.take_sublist _ _)) (by rw [List.getElem?_take_of_lt hlt]; exact hsl) hv
      refine ⟨v,?_,rv.grow0 g0⟩
      obtain ⟨kd,cd⟩ := fk.kinds z.1 (List.mem_of_getElem? hsl)
      have ek : env.kindOf z.1 = fd.scope.names.lookup z.1 := by unfold Env.kindOf; rw [ce1]
      rcases kd with kd | kd
      · exact .inl ⟨ek.trans kd,_,ic.toInCall.ns,bindL_look (ek.trans kd) _ _ nbs hlk⟩
      · obtain ⟨c,hc⟩ := Option.isSome_iff_exists.mp (cells_some fd.scope.names (s.heap.objs.size + 1) [] (.inl kd))
        rw [← ce2] at hc
        have := ic.cell _ _ hc
        rw [bindC_look (by rw [ek,kd]; decide) _ _ nbs hlk] at this
        exact .inr ⟨.inl (ek.trans kd),cd,c,hc,this⟩
  have fin : ∀ {μ' h''},Grow (W env) μ μ' h' h'' → Grow [] μ μ' s.heap h'' := fun g => (g0.nil.trans g).strip newA
  refine noE (hbody (s := { s with heap := h',toks := tk' }) cx ex _ fun fl' μ2 h2 tk2 g2 c2 r2 => ?_)
  cases fl with
  | next => cases r2; fail "=hv"; exact q .none μ2 h2 tk2 (fin g2) c2.st rep_none
  | ret w => obtain ⟨v',rfl,rv⟩ := r2; fail "=hv"; exact q v' μ2 h2 tk2 (fin g2) c2.st rv
  | _ => fail "=hv"
theorem call_ok (kn : Know C t N) (fo : ∀ f,kn.isF f → ∃ o fd body slots,FnOk C t N f (kn.fa f) o fd body slots) (nl : C.base.NoLimit) : ∀ d,CallOk C t N kn (acall t d) d
  | 0 => fun Y Y e => by rw [acall_zero] at e; fail "=e"
  | d + 1 => call_step kn fo nl (call_ok kn fo nl d)
end
end
section
open PySem PySem.W PyProof.Rows PySem.Calls
set_option maxRecDepth 100000
theorem lk_cons {α : Type} {x y : Str} {w : α} {r : List (Str × α)} : ((y,w) :: r).lookup x = if x = y then some w else r.lookup x := by
  rw [List.lookup_cons]
  by_cases e : x = y
  · subst e; rw [beq_self_eq_true,if_pos rfl]
  · rw [beq_eq_false_iff_ne.mpr e,if_neg e]
theorem lk_zip {α : Type} {x : Str} : ∀ {names : List Str} {ws : List α} {i : Nat},names.Nodup → names[i]? = some x → (names.zip ws).lookup x = ws[i]?
  | [],_,i,_,h => by simp at h
  | y :: names,[],i,_,h => by simp
  | y :: names,w :: ws,0,nd,h => by
    simp at h; subst h
    rw [List.zip_cons_cons,lk_cons,if_pos rfl]; rfl
  | y :: names,w :: ws,i + 1,nd,h => by
    have h' : names[i]? = some x := h
    have hx := List.mem_of_getElem? h'
    rw [List.zip_cons_cons,lk_cons,if_neg fun (e : x = y) => (List.nodup_cons.mp nd).1 (e ▸ hx)]
    exact lk_zip (List.nodup_cons.mp nd).2 h'
theorem fm_zip {α : Type} {f : Str → Option α} : ∀ {names : List Str} {ws : List α},ws.length = names.length → (∀ (i : Nat) (x : Str),names[i]? = some x → f x = ws[i]?) → (names.filterMap fun x => (f x).map (x,·)) = names.zip ws
  | [],[],_,_ => rfl
  | [],_ :: _,h,_ => by fail "=h"
  | _ :: _,[],h,_ => by fail "=h"
  | y :: names,w :: ws,h,k => by
    have := k 0 y rfl
    rw [List.filterMap_cons,this]
    exact congrArg ((y,w) :: ·) (fm_zip (Nat.succ.inj h) fun i x e => k (i + 1) x e)
noncomputable abbrev fillS (S : List (Str × Value)) (p : Str × Value) : List (Str × Value) := if (S.lookup p.1).isNone then S ++ [(p.1,p.2)] else S
theorem lk_app' {x : Str} {S r : List (Str × Value)} : (S ++ r).lookup x = (S.lookup x).or (r.lookup x) := by
  induction S with
  | nil => rfl
  | cons p S ih =>
    obtain ⟨y,w⟩ := p
    rw [List.cons_append,lk_cons,lk_cons,ih]
    split <;> rfl
theorem fill_lk {x : Str} : ∀ {l S : List (Str × Value)},(l.foldl fillS S).lookup x = (S.lookup x).or (l.lookup x)
  | [],S => by simp
  | (y,d) :: l,S => by
    rw [List.foldl_cons,fill_lk]
    by_cases h : (S.lookup y).isNone = true
    · rw [show fillS S (y,d) = S ++ [(y,d)] from if_pos h,lk_app',Option.or_assoc]
      congr 1
      rw [lk_cons,lk_cons]
      split <;> rfl
    · rw [show fillS S (y,d) = S from if_neg h]
      by_cases e : x = y
      · subst e
        cases q : S.lookup x with
        | none => rw [q] at h; exact absurd rfl h
        | some w => rfl
      · rw [lk_cons,if_neg e]
theorem wp_fill {M : Model} {A : Around} {E : Value → Shared → Prop} {β : Type} {s : Shared} {Q : β → Shared → Prop} {k : List (Str × Value) → Sem β} : ∀ (l : List (Str × Value)) (S : List (Str × Value)),wpAny M A (k (l.foldl fillS S)) Q E s →
    wpAny M A ((forIn l S fun p S => (if (S.lookup p.1).isNone then pure (ForInStep.yield (S ++ [(p.1,p.2)])) else pure (ForInStep.yield S) : Sem _)) >>= k) Q E s
  | [],S,h => h
  | p :: l,S,h => by
    rw [List.forIn_cons]
    have ih := wp_fill (k := k) l (fillS S p) h
    by_cases e : (S.lookup p.1).isNone = true
    · rw [show fillS S p = S ++ [(p.1,p.2)] from if_pos e] at ih
      rw [if_pos e]; exact ih
    · rw [show fillS S p = S from if_neg e] at ih
      rw [if_neg e]; exact ih
theorem wp_no {α : Type} {M : Model} {A : Around} {E : Value → Shared → Prop} {Q : α → Shared → Prop} {s : Shared} {c : Prop} [Decidable c] {x y : Sem α} (h : ¬c) (k : wpAny M A y Q E s) : wpAny M A (if c then x else y) Q E s := by rw [if_neg h]; exact k
theorem no_b {a b : Bool} (h : a = false) : ¬((a && b) = true) := fun e => Bool.false_ne_true (h ▸ (Bool.and_eq_true_iff.mp e).1)
theorem no_e {α : Type} {l : List α} (h : l = []) : ¬((!l.isEmpty) = true) := by subst h; exact Bool.false_ne_true
theorem drop_no {α : Type} {l : List α} {n : Nat} (h : l.length ≤ n) : l.drop (l.length - n) = l := by rw [Nat.sub_eq_zero_of_le h]; rfl
section
variable {names : List Str} {vs D : List Value} {f e : Nat}
theorem fill_all (nd : names.Nodup) (hv : vs.length = f + e) (hn : names.length = f + D.length) (he : e ≤ D.length) :
    (names ++ []).filterMap (fun x => ((((names.drop f).zip D).foldl fillS (names.zip vs)).lookup x).map (x,·)) = names.zip (vs ++ D.drop e) := by
  rw [List.append_nil]
  refine fm_zip (by rw [List.length_append,List.length_drop,hv,hn,Nat.add_assoc,Nat.add_sub_cancel' he]) fun i x h => ?_
  rw [fill_lk,lk_zip nd h]
  by_cases hi : i < vs.length
  · rw [List.getElem?_append_left hi,List.getElem?_eq_getElem hi]; rfl
  · obtain ⟨k,rfl⟩ := Nat.exists_eq_add_of_le (Nat.le_of_not_lt hi)
    rw [List.getElem?_eq_none (Nat.le_of_not_lt hi),List.getElem?_append_right (Nat.le_add_right ..),Nat.add_sub_cancel_left,List.getElem?_drop]
    rw [hv,Nat.add_assoc] at h
    exact lk_zip (nd.sublist (List.drop_sublist _ _)) (List.getElem?_drop.trans h)
theorem no_miss (nd : names.Nodup) (hv : vs.length = f + e) : ((names.take f).filter fun n => ((names.zip vs).lookup n).isNone) = [] := by
  refine List.filter_eq_nil_iff.mpr fun x hx => ?_
  obtain ⟨i,hi⟩ := List.getElem?_of_mem hx
  have lt := Nat.lt_of_lt_of_le (List.getElem?_eq_some_iff.mp hi).1 (List.length_take_le ..)
  rw [lk_zip nd ((List.getElem?_take_of_lt lt).symm.trans hi),List.getElem?_eq_getElem (Nat.lt_of_lt_of_le lt (hv ▸ Nat.le_add_right ..))]
  exact Bool.false_ne_true
end
theorem binds_simple {s : Shared} {fd : FuncData} {names : List Str} {vs D : List Value} (h1 : fd.params.posonlyargs = []) (h2 : fd.params.args.map (·.arg) = names) (h3 : fd.params.kwonlyargs = []) (h4 : fd.params.vararg = none) (h5 : fd.params.kwarg = none)
    (nd : names.Nodup) (hl : vs.length ≤ names.length) (hD : D.length ≤ names.length) (hm : names.length ≤ vs.length + D.length)
    (hd : (fd.defaults = .none ∧ D = []) ∨ ∃ T o items n,fd.defaults = .ref T ∧ s.heap.get? T = some o ∧ o.data = .seq items n ∧ items.toList = D) :
    BindsTo s fd ⟨vs,[]⟩ (names.zip (vs ++ D.drop (D.length - (names.length - vs.length)))) := by
  intro M A E Q q
  have seq : ∀ (Q' : Option (Array Value) → Shared → Prop),(∀ its : Option (Array Value),(its.getD #[]).toList = D → Q' its s) → wpAny M A (seqItems? fd.defaults) Q' E s := fun Q' k => by
    rcases hd with ⟨e,rfl⟩ | ⟨T,o,items,n,e,ho,hs,hi⟩
    · rw [e]; exact wpAny_pure (k none rfl)
    · rw [e]; exact wpAny_seqItems ho hs (k (some items) hi)
  obtain ⟨g,hg⟩ := Nat.exists_eq_add_of_le hl
  obtain ⟨f,hf⟩ := Nat.exists_eq_add_of_le' hD
  obtain ⟨e,he⟩ := Nat.exists_eq_add_of_le' (Nat.le_of_add_le_add_left (hg ▸ hm))
  have hv : vs.length = f + e := Nat.add_right_cancel (hg.symm.trans (hf.trans (he ▸ (Nat.add_assoc ..).symm)))
  rw [hg,Nat.add_sub_cancel_left,he,Nat.add_sub_cancel,← fill_all nd hv hf (he ▸ Nat.le_add_right ..)] at q
  have miss := no_miss nd hv
  have ef := Nat.sub_eq_of_eq_add hf
  clear hd hf he hg hm hv e g
  obtain ⟨_,_,⟨po,ar,va,ko,_,ka,_⟩,_,_,_,_,_,_,_,_,_,_,_,_⟩ := fd
  dsimp only at h1 h2 h3 h4 h5
  subst h1 h2 h3 h4 h5
  delta bindArgs
  extract_lets
  refine wpAny_bind (wpAny_pure ?_)
  extract_lets
  refine wpAny_bind (seq _ fun its hi => ?_)
  subst hi
  rw [← drop_no hD] at q ef
  subst ef
  extract_lets
  exact wp_no (no_b (decide_eq_false (Nat.not_lt.mpr hl))) (wp_no (no_e miss) (wp_fill _ _ (wpAny_bind (wpAny_pure (wp_no Bool.false_ne_true (wpAny_pure q))))))
end
section
open PySem PySem.W PyProof.Rows PySem.Calls
set_option maxRecDepth 100000
set_option tactic.hygienic true
theorem atom_rep {h : Heap} {x : PV} {v : Value} (e : atomB x v = true) : Rep ⟨[],[]⟩ h x v := by
  unfold atomB at e
  split at e
  · exact rep_none
  · rw [beq_iff_eq.mp e]; exact rep_bool
  · rw [beq_iff_eq.mp e]; exact rep_int
  · rename_i s y t
    obtain ⟨e1,e3⟩ := Bool.and_eq_true_iff.mp e
    obtain ⟨e1,e2⟩ := Bool.and_eq_true_iff.mp e1
    have e1 := beq_iff_eq.mp e1
    have : y = ST s := by cases y; subst e1; simp
    subst this
    exact rep_str (Nat.le_trans (of_decide_eq_true e2) (by decide)) fun c hc => of_decide_eq_true (List.all_eq_true.mp e3 c hc)
  · fail "=e"
theorem atoms_reps {h : Heap} : ∀ {xs : List PV} {vs : List Value},atomsB xs vs = true → Reps ⟨[],[]⟩ h xs vs
  | [],[],_ => Reps.nil
  | [],_ :: _,e => by fail "=e"
  | _ :: _,[],e => by fail "=e"
  | x :: xs,v :: vs,e => by
    obtain ⟨e1,e2⟩ := Bool.and_eq_true_iff.mp (show (atomB x v && atomsB xs vs) = true from e)
    exact Reps.cons (atom_rep e1) (atoms_reps e2)
section
variable {G : Addr → Option Obj} {h : Heap} (hG : ∀ a o,G a = some o → h.get? a = some o)
include hG
theorem pv_rep {x : PV} {v : Value} (e : repB G x v = true) : Rep ⟨[],[]⟩ h x v := by
  unfold repB at e
  split at e
  · rename_i xs a
    split at e
    · rename_i c vs n sl ho
      obtain ⟨e,e4⟩ := Bool.and_eq_true_iff.mp e
      obtain ⟨e,e3⟩ := Bool.and_eq_true_iff.mp e
      obtain ⟨e1,e2⟩ := Bool.and_eq_true_iff.mp e
      have e1 := beq_iff_eq.mp e1
      have e2 := Array.isEmpty_iff.mp e2
      subst e1 e2
      rw [Rep]
      exact ⟨a,vs,n,rfl,hG _ _ ho,(fun z => by fail "=z"),Nat.le_trans (of_decide_eq_true e3) (by decide),atoms_reps e4⟩
    · fail "=e"
  · exact atom_rep e
theorem nsG {ns : Addr} {mg : Str → Option Value} {x : Str} {v : Option Value} (hmg : h.Ns ns mg) (e : nsAt G ns x = some v) : mg x = v := by
  obtain ⟨o,ho,e⟩ := Option.bind_eq_some_iff.mp e
  obtain ⟨o',ho',k⟩ := ns_obj hmg
  rw [hG _ _ ho] at ho'
  cases ho'
  have := k x
  rw [e] at this
  exact (Option.some.inj this).symm
theorem dfl_ok {fd : FuncData} {ds : List PV} (e : dflB G fd ds = true) : ∃ D,Reps ⟨[],[]⟩ h ds D ∧ ((fd.defaults = .none ∧ D = []) ∨ ∃ T o items n,fd.defaults = .ref T ∧ h.get? T = some o ∧ o.data = .seq items n ∧ items.toList = D) := by
  unfold dflB at e
  split at e
  · rename_i hd; exact ⟨[],Reps.nil,.inl ⟨hd,rfl⟩⟩
  · rename_i T hd
    split at e
    · rename_i items n _ ho
      exact ⟨_,atoms_reps e,.inr ⟨T,_,items,n,hd,hG _ _ ho,rfl,rfl⟩⟩
    · fail "=e"
  · fail "=e"
theorem code_ok {fd : FuncData} (e : codeB G fd = true) : h.CodeRec fd.code fd.qualname := by
  unfold codeB at e
  split at e
  · rename_i c hc
    split at e
    · rename_i vs _ ho
      split at e
      · rename_i q t hq
        exact ⟨c,_,vs,t,hc,hG _ _ ho,rfl,by rw [hq,beq_iff_eq.mp e]⟩
      · fail "=e"
    · fail "=e"
  · fail "=e"
end
theorem and2 {a b : Bool} (h : (a && b) = true) : a = true ∧ b = true := Bool.and_eq_true_iff.mp h
theorem all_at {l : List Bool} (h : l.all id = true) (i : Nat) {c : Bool} (hi : l[i]? = some c) : c = true := List.all_eq_true.mp h c (List.mem_of_getElem? hi)
theorem no_true {b : Bool} (h : (!b) = true) : b = false := by cases b <;> first | rfl | contradiction
theorem isSome_frame {fd : FnDef} {pvs : List PV} {l : Loc} (h : frame fd pvs = some l) : pvs.length ≤ fd.params ∧ fd.params ≤ pvs.length + fd.dflts.length ∧ (pvs ++ fd.dflts.drop (fd.dflts.length - (fd.params - pvs.length))).map some ++ List.replicate (fd.slots - fd.params) Option.none = l := by
  unfold frame at h
  split at h
  · rename_i q
    exact ⟨q.1,q.2,Option.some.inj h⟩
  · contradiction
theorem fn_ok {C : Ctx} {G : Addr → Option Obj} (hG : ∀ a o,G a = some o → C.base.get? a = some o) {f : Nat} (e : fnB G f = true) : ∃ o fd body slots,FnOk C text names0 f (fnA G f) o fd body slots := by
  unfold fnB at e
  split at e
  · rename_i fd _ ho
    split at e
    · rename_i body hb
      have q := @all_at _ e
      clear e
      obtain ⟨D,rD,hD⟩ := dfl_ok hG (q 7 rfl)
      have nd := of_decide_eq_true (q 9 rfl)
      have np := of_decide_eq_true (q 12 rfl)
      have lD := rD.length
      have ln : ((slotsOf f).take (fns f).params).length = (fns f).params := List.length_take.trans (Nat.min_eq_left np)
      refine ⟨_,fd,body,slotsOf f,hG _ _ ho,rfl,no_true (q 0 rfl),no_true (q 1 rfl),hb,code_ok hG (q 6 rfl),of_decide_eq_true (q 2 rfl),beq_iff_eq.mp (q 3 rfl),beq_iff_eq.mp (q 4 rfl),List.isEmpty_iff.mp (q 5 rfl),q 8 rfl,nd,of_decide_eq_true (q 10 rfl),fun x hx => ?_,np,fun pvs vs l hf hv => ?_⟩
      · obtain ⟨z1,z2⟩ := and2 (List.all_eq_true.mp (q 11 rfl) x hx)
        exact ⟨(Bool.or_eq_true_iff.mp z1).imp beq_iff_eq.mp beq_iff_eq.mp,no_true z2⟩
      · obtain ⟨h1,h2,rfl⟩ := isSome_frame hf
        refine ⟨D.drop ((fns f).dflts.length - ((fns f).params - pvs.length)),rD.drop _,fun s k => ?_⟩
        have := binds_simple (s := s) (fd := fd) (names := (slotsOf f).take (fns f).params) (vs := vs) (D := D) (List.isEmpty_iff.mp (q 13 rfl)) (of_decide_eq_true (q 14 rfl)) (List.isEmpty_iff.mp (q 15 rfl)) (Option.isNone_iff_eq_none.mp (q 16 rfl)) (Option.isNone_iff_eq_none.mp (q 17 rfl)) (nd.sublist (List.take_sublist _ _))
          (by rw [ln,hv]; exact h1) (by rw [ln,lD]; exact of_decide_eq_true (q 18 rfl)) (by rw [ln,hv,lD]; exact h2) (hD.imp id fun ⟨T,o,items,n,q1,q2,q3,q4⟩ => ⟨T,o,items,n,q1,k _ _ q2,q3,q4⟩)
        rw [ln,hv,lD] at this
        exact this
    · fail "=e"
  · fail "=e"
end
section
open PySem PySem.W PyProof.Rows PySem.Calls
set_option maxRecDepth 100000
noncomputable def tab0 (G : Addr → Option Obj) : Tab := ⟨names0.nm,66,9,clsA G,fun c j => j < 66 ∧ meths c j = none⟩
theorem all_range {n : Nat} {p : Nat → Bool} (h : (List.range n).all p = true) {i : Nat} (hi : i < n) : p i = true := List.all_eq_true.mp h i (List.mem_range.mpr hi)
theorem meth_lt {c k f : Nat} (h : meths c k = some f) : k < 66 := by
  have all : ∀ c : Fin 9,∀ p ∈ (methL[c.val]?).getD [],p.1 < 66 := by decide
  by_cases hc : c < 9
  · have := all ⟨c,hc⟩
    have h' : (((methL[c]?).getD []).lookup k) = some f := h
    obtain ⟨l₁,l₂,e,_⟩ := List.lookup_eq_some_iff.mp h'
    exact this (k,f) (by show (k,f) ∈ (methL[c]?).getD []; rw [e]; simp)
  · have h' : (((methL[c]?).getD []).lookup k) = some f := h
    rw [List.getElem?_eq_none (by show 9 ≤ c; lia)] at h'
    cases h'
theorem glob_lt {f : Nat} (h : globFns.contains f = true) : f < 70 := by
  have all : ∀ f ∈ globFns,f < 70 := by decide
  exact all f (List.contains_iff_mem.mp h)
theorem nm_inj {i j : Nat} (hi : i < 66) (hj : j < 66) (h : names0.nm i = names0.nm j) : i = j := by
  have all : ((List.range 66).all fun i => (List.range 66).all fun j => decide (nameAt nameList i = nameAt nameList j → i = j)) = true := by kernel_rfl
  exact of_decide_eq_true (all_range (all_range all hi) hj) h
theorem know_of {C : Ctx} {G : Addr → Option Obj} (hG : ∀ a o,G a = some o → C.base.get? a = some o) (ht : C.tab = tab0 G) {mg mb : Str → Option Value} (hmg : C.base.Ns mainGlobals mg) (hmb : C.base.Ns builtinsNs mb) (good : goodB G = true) :
    ∃ kn : Know C text names0,kn.fa = fnA G ∧ kn.isF = fun f => f < 70 := by
  obtain ⟨g1,g⟩ := and2 good
  obtain ⟨g2,g⟩ := and2 g
  obtain ⟨g3,g⟩ := and2 g
  obtain ⟨g4,g⟩ := and2 g
  obtain ⟨g5,g⟩ := and2 g
  obtain ⟨g6,g⟩ := and2 g
  obtain ⟨g7,g8⟩ := and2 g
  have hK : (kOf G).In C.base := fun a o e => hG _ _ (fm_lookup e)
  have nsM : ∀ {x v},nsAt G mainGlobals x = some v → mg x = v := fun e => nsG hG hmg e
  have nsB : ∀ {x v},nsAt G builtinsNs x = some v → mb x = v := fun e => nsG hG hmb e
  have bi : ∀ {x v},biB G x v = true → mg x = none ∧ mb x = some v := fun e => ⟨nsM (beq_iff_eq.mp (and2 e).1),nsB (beq_iff_eq.mp (and2 e).2)⟩
  have cls : ∀ c,c < 9 → clsB G (kOf G) c = true ∧ ∀ k,k < 66 → methB G (kOf G) c k = true := fun c hc => by
    obtain ⟨a,b⟩ := and2 (all_range g3 hc)
    exact ⟨a,fun k hk => all_range b hk⟩
  have nm : C.tab.nm = names0.nm := by rw [ht]; rfl
  have nn : text.nn = C.tab.nn := by rw [ht]; rfl
  have nnN : names0.nn = C.tab.nn := by rw [ht]; rfl
  have nc : text.nc = C.tab.nc := by rw [ht]; rfl
  have small : C.tab.nn ≤ 1000 := by rw [ht]; exact (by decide : 66 ≤ 1000)
  refine ⟨⟨kOf G,hK,mg,mb,hmg,hmb,fnA G,(fun f => f < 70),nm,nn,nnN,nc,small,fun g hg => ?_,fun f hf => ?_,fun f hf => ?_,fun c hc => ?_,fun c hc => ?_,fun c k f hc hm => ?_,fun c k hk hm => ?_,fun b => ?_,bi g5,bi g6,bi g7⟩,rfl,rfl⟩
  · have := all_range g1 hg
    split at this
    · rename_i v hv
      exact ⟨v,nsM hv,pv_rep hG this⟩
    · fail "=this"
  · have lt := glob_lt hf
    obtain ⟨z,_⟩ := and2 (all_range g2 lt)
    refine ⟨lt,nsM ?_⟩
    have hf' : globFns.contains f = true := hf
    rw [hf'] at z
    exact beq_iff_eq.mp z
  · exact (and2 (and2 (all_range g2 hf)).2).1
  · have q := @all_at _ (cls c hc).1
    rw [ht]
    exact ⟨nsM (beq_iff_eq.mp (q 0 rfl)),q 1 rfl,q 2 rfl,beq_iff_eq.mp (q 3 rfl),beq_iff_eq.mp (q 4 rfl),of_decide_eq_true (q 5 rfl)⟩
  · rw [ht] at hc ⊢
    obtain ⟨a,b⟩ := cls c hc
    have q := @all_at _ a
    refine ⟨beq_iff_eq.mp (q 6 rfl),beq_iff_eq.mp (q 7 rfl),q 8 rfl,q 9 rfl,beq_iff_eq.mp (q 10 rfl),fun j hj => ?_,fun i j hi hj e => nm_inj hi hj e⟩
    have := b j hj.1
    unfold methB at this
    rw [hj.2] at this
    exact beq_iff_eq.mp this
  · rw [ht] at hc ⊢
    have hk := meth_lt hm
    have := (cls c hc).2 k hk
    unfold methB at this
    have hm' : meths c k = some f := hm
    rw [hm'] at this
    obtain ⟨a1,a⟩ := and2 this
    obtain ⟨a2,a3⟩ := and2 a
    exact ⟨hk,beq_iff_eq.mp a1,beq_iff_eq.mp a2,of_decide_eq_true a3⟩
  · rw [ht]; exact ⟨hk,hm⟩
  · exact bi (List.all_eq_true.mp g4 b (by cases b <;> repeat (first | exact .head _ | apply List.Mem.tail)))
end
end Mine.Internal
namespace Mine.Internal.K
local macro_rules | `(tactic| fail $s:str) => do
  let t := s.getString
  unless t.startsWith "=" do Lean.Macro.throwUnsupported
  let x := Lean.mkIdent (.mkSimple (t.drop 1).toString)
  let y := Lean.mkIdent (.mkSimple ((t.drop 1).toString ++ "y"))
  let z := Lean.mkIdent (.mkSimple ((t.drop 1).toString ++ "z"))
  let r := Lean.Syntax.mkStrLit (t ++ "y")
  let q := Lean.Syntax.mkStrLit (t ++ "z")
  `(tactic| first | contradiction | subst $x | (injection $x with $x $y $z <;> fail $s <;> fail $r <;> fail $q) | (injection $x with $x $y <;> fail $s <;> fail $r) | (injection $x with $x <;> fail $s) | cases $x:ident)
local macro_rules | `(tactic| fail "l") => `(tactic| lia -abstractProof)
section
theorem six {motive : (k : Nat) → k < 6 → Prop} (a0 : motive 0 (by decide)) (a1 : motive 1 (by decide)) (a2 : motive 2 (by decide)) (a3 : motive 3 (by decide)) (a4 : motive 4 (by decide)) (a5 : motive 5 (by decide)) : ∀ k hk,motive k hk
  | 0,_ => a0
  | 1,_ => a1
  | 2,_ => a2
  | 3,_ => a3
  | 4,_ => a4
  | 5,_ => a5
theorem nat6 {motive : Nat → Prop} (a0 : motive 0) (a1 : motive 1) (a2 : motive 2) (a3 : motive 3) (a4 : motive 4) (a5 : ∀ n,motive (n + 5)) (k : Nat) : motive k :=
  match k with
  | 0 => a0
  | 1 => a1
  | 2 => a2
  | 3 => a3
  | 4 => a4
  | n + 5 => a5 n
theorem fuel_eq : fuel = 999990 + 1 + 1 + 1 + 1 + 1 + 1 + 1 + 1 + 1 + 1 := rfl
section
variable {t : Text} {cf : CF} {l l1 : Loc} {H H1 H2 H3 : AH}
theorem goT {α : Type} {c : Bool} {x y r : α} (h : c = true) (k : x = r) : cond c x y = r := by subst h; exact k
theorem goF {α : Type} {c : Bool} {x y r : α} (h : c = false) (k : y = r) : cond c x y = r := by subst h; exact k
theorem e_none : aeval t cf .none l H = some (.none,H) := rfl
theorem e_bool {b} : aeval t cf (.bool b) l H = some (.bool b,H) := rfl
theorem e_int {i} : aeval t cf (.int i) l H = some (.int i,H) := rfl
theorem e_str {i} : aeval t cf (.str i) l H = some (.str i,H) := rfl
theorem e_neg {i} : aeval t cf (.neg i) l H = some (.int (-i),H) := rfl
theorem e_loc {n v} (h : l[n]? = some (some v)) : aeval t cf (.loc n) l H = some (v,H) := bd_eq h rfl
theorem e_and {xs R} (h : aand t cf xs l H = R) : aeval t cf (.and xs) l H = R := h
theorem e_or {xs R} (h : aor t cf xs l H = R) : aeval t cf (.or xs) l H = R := h
theorem e_and1 {x b} (h : aeval t cf x l H = some (.bool b,H1)) : aand t cf [x] l H = some (.bool b,H1) := onB_eq h rfl
theorem e_or1 {x b} (h : aeval t cf x l H = some (.bool b,H1)) : aor t cf [x] l H = some (.bool b,H1) := onB_eq h rfl
theorem e_and2 {x y r b R} (h : aeval t cf x l H = some (.bool b,H1)) (k : cond b (aand t cf (y :: r) l H1) (some (.bool false,H1)) = R) : aand t cf (x :: y :: r) l H = R := onB_eq h (by cases b <;> exact k)
theorem e_or2 {x y r b R} (h : aeval t cf x l H = some (.bool b,H1)) (k : cond b (some (.bool true,H1)) (aor t cf (y :: r) l H1) = R) : aor t cf (x :: y :: r) l H = R := onB_eq h (by cases b <;> exact k)
theorem e_not {x b} (h : aeval t cf x l H = some (.bool b,H1)) : aeval t cf (.not x) l H = some (.bool (!b),H1) := onB_eq h rfl
theorem e_cmp {op a b v w c} (h1 : aeval t cf a l H = some (v,H1)) (h2 : aeval t cf b l H1 = some (w,H2)) (h3 : acmp op H2 v w = some c) : aeval t cf (.cmp op a b) l H = some (.bool c,H2) := on_eq h1 (on_eq h2 (bd_eq h3 rfl))
theorem e_cmp2 {o1 o2 a b c u v w x y} (h1 : aeval t cf a l H = some (u,H1)) (h2 : aeval t cf b l H1 = some (v,H2)) (h3 : acmp o1 H2 u v = some x) (h4 : aeval t cf c l H2 = some (w,H2)) (h5 : acmp o2 H2 v w = some y) :
    aeval t cf (.cmp2 o1 o2 a b c) l H = some (.bool (x && y),H2) := on_eq h1 (on_eq h2 (bd_eq h3 (by
  cases x
  · rfl
  · exact on_eq h4 (bd_eq h5 rfl))))
theorem e_bin {op a b v w r} (h1 : aeval t cf a l H = some (v,H1)) (h2 : aeval t cf b l H1 = some (w,H2)) (h3 : abin op H2 v w = some r) : aeval t cf (.bin op a b) l H = some (r,H2) := on_eq h1 (on_eq h2 (bd_eq h3 rfl))
theorem e_mulm {a b xs n m} (h1 : aeval t cf a l H = some (.lst xs,H1)) (h2 : aeval t cf b l H1 = some (.int n,H2)) (h3 : 0 ≤ n ∧ n ≤ lim ∧ xs.length * n.toNat ≤ lim) (hm : H2.length = m) (hH : H2 ++ [.list (rep xs n.toNat)] = H3) :
    aeval t cf (.mulm a b) l H = some (.ref m,H3) := by
  subst hm hH
  exact on_eq h1 (on_eq h2 (chk_eq h3 rfl))
theorem e_if {c a b x R} (h : aeval t cf c l H = some (.bool x,H1)) (k : cond x (aeval t cf a l H1) (aeval t cf b l H1) = R) : aeval t cf (.ife c a b) l H = R := onB_eq h k
theorem e_tup {xs vs} (h : aevals t cf xs l H = some (vs,H1)) : aeval t cf (.tup xs) l H = some (.tup vs,H1) := on_eq h rfl
theorem e_list {xs vs} (h : aevals t cf xs l H = some (vs,H1)) : aeval t cf (.list xs) l H = some (.lst vs,H1) := on_eq h rfl
theorem e_listm {xs vs n} (h : aevals t cf xs l H = some (vs,H1)) (hn : H1.length = n) (hH : H1 ++ [.list vs] = H2) : aeval t cf (.listm xs) l H = some (.ref n,H2) := by
  subst hn hH; exact on_eq h rfl
theorem e_dict {n} (hn : H.length = n) (hH : H ++ [.dict []] = H1) : aeval t cf .dict l H = some (.ref n,H1) := by subst hn hH; rfl
theorem es_nil : aevals t cf [] l H = some ([],H) := rfl
theorem es_cons {x r v vs} (h : aeval t cf x l H = some (v,H1)) (k : aevals t cf r l H1 = some (vs,H2)) : aevals t cf (x :: r) l H = some (v :: vs,H2) := on_eq h (on_eq k rfl)
theorem es_l1 {n v} (h : l[n]? = some (some v)) : aevals t cf [.loc n] l H = some ([v],H) := es_cons (e_loc h) es_nil
theorem es_l2 {n m v w} (h : l[n]? = some (some v)) (k : l[m]? = some (some w)) : aevals t cf [.loc n,.loc m] l H = some ([v,w],H) := es_cons (e_loc h) (es_l1 k)
theorem es_l3 {n m i u v w} (h : l[n]? = some (some u)) (k : l[m]? = some (some v)) (k' : l[i]? = some (some w)) : aevals t cf [.loc n,.loc m,.loc i] l H = some ([u,v,w],H) := es_cons (e_loc h) (es_l2 k k')
theorem es_sl {n v x} (h : l[n]? = some (some v)) : aevals t cf [.str x,.loc n] l H = some ([.str x,v],H) := es_cons e_str (es_l1 h)
theorem e_attr {e r c fs k v} (h : aeval t cf e l H = some (.ref r,H1)) (hr : H1[r]? = some (.inst c fs)) (hf : fs.lookup k = some v) : aeval t cf (.attr e k) l H = some (v,H1) :=
  on_eq h (bd_eq (bd_eq (x := H1[r]?) hr hf) rfl)
theorem e_idx {e i o j v} (h1 : aeval t cf e l H = some (o,H1)) (h2 : aeval t cf i l H1 = some (j,H2)) (h3 : aidx H2 o j = some v) : aeval t cf (.idx e i) l H = some (v,H2) := on_eq h1 (on_eq h2 (bd_eq h3 rfl))
theorem e_slice {e lo hi o a b v} (h1 : aeval t cf e l H = some (o,H1)) (h2 : aeval t cf lo l H1 = some (a,H2)) (h3 : aeval t cf hi l H2 = some (b,H3)) (h4 : aslice o a b = some v) : aeval t cf (.slice e lo hi) l H = some (v,H3) :=
  on_eq h1 (on_eq h2 (on_eq h3 (bd_eq h4 rfl)))
theorem e_callF {f as vs R} (h : aevals t cf as l H = some (vs,H1)) (k : cf f vs H1 = R) : aeval t cf (.callF f as) l H = R := on_eq h k
theorem e_callC {c as vs n f} (h : aevals t cf as l H = some (vs,H1)) (hc : c < t.nc) (hf : t.init c = f) (hn : H1.length = n) (hH : H1 ++ [.inst c []] = H3) (k : cf f (.ref n :: vs) H3 = some (.none,H2)) : aeval t cf (.callC c as) l H = some (.ref n,H2) := by
  subst hn hf hH
  exact on_eq h (chk_eq hc (on_eq k rfl))
theorem e_callB {b as vs v} (h : aevals t cf as l H = some (vs,H1)) (k : abi b H1 vs = some v) : aeval t cf (.callB b as) l H = some (v,H1) := on_eq h (bd_eq k rfl)
theorem e_meth {e m as r c fs f vs R} (he : aeval t cf e l H = some (.ref r,H1)) (hr : H1[r]? = some (.inst c fs)) (hm : t.meth c m = some f) (ha : aevals t cf as l H1 = some (vs,H2)) (k : cf f (.ref r :: vs) H2 = R) : aeval t cf (.callM e m as) l H = R := by
  have hk : kindOf t H1 (.ref r) m = some (.user f) := bd_eq (x := H1[r]?) hr (by show (t.meth c m).map MK.user = _; rw [hm]; rfl)
  exact on_eq he (bd_eq hk (on_eq ha k))
theorem e_append {e a r ys xs v} (he : aeval t cf e l H = some (.ref r,H1)) (hr : H1[r]? = some (.list ys)) (ha : aeval t cf a l H1 = some (v,H2)) (hx : H2[r]? = some (.list xs)) (hl : xs.length < lim) (hH : H2.set r (.list (xs ++ [v])) = H3) :
    aeval t cf (.callM e 1000 [a]) l H = some (.none,H3) := by
  subst hH
  exact on_eq he (bd_eq (bd_eq (x := H1[r]?) hr rfl) (on_eq (es_cons ha es_nil) (getL_eq hx (chk_eq hl rfl))))
theorem e_pop {e r xs v} (he : aeval t cf e l H = some (.ref r,H1)) (hr : H1[r]? = some (.list (xs ++ [v]))) (hH : H1.set r (.list xs) = H2) :
    aeval t cf (.callM e 1001 []) l H = some (v,H2) := by
  subst hH
  exact on_eq he (bd_eq (bd_eq (x := H1[r]?) hr rfl) (on_eq es_nil (getL_eq hr (bd_eq (x := (xs ++ [v]).getLast?) List.getLast?_concat (by rw [List.dropLast_concat])))))
theorem e_get {e a b r k d} (he : aeval t cf e l H = some (.ref r,H1)) (hr : H1[r]? = some (.dict [])) (ha : aeval t cf a l H1 = some (.int k,H1)) (hb : aeval t cf b l H1 = some (d,H1)) :
    aeval t cf (.callM e 1004 [a,b]) l H = some (d,H1) :=
  on_eq he (bd_eq (bd_eq (x := H1[r]?) hr rfl) (on_eq (es_cons ha (es_cons hb es_nil)) (bd_eq (x := H1[r]?) hr rfl)))
noncomputable def citem (t : Text) (cf : CF) (elt : X) (tgt : T) (cond : X) (l : Loc) (v : PV) (H : AH) : Option (Option PV × AH) := citemG (aassign t cf tgt v l H) (aeval t cf cond) (aeval t cf elt)
theorem e_comp {elt tgt it c s ws} (h : asource t cf it l H = some (s,H1)) (k : compS (citem t cf elt tgt c l) s H1 = some (ws,H2)) : aeval t cf (.comp elt tgt it c) l H = some (.lst ws,H2) := on_eq h (on_eq k rfl)
theorem ci_some {elt tgt c v w} (ht : aassign t cf tgt v l H = some (l1,H1)) (hc : aeval t cf c l1 H1 = some (.bool true,H2)) (he : aeval t cf elt l1 H2 = some (w,H3)) : citem t cf elt tgt c l v H = some (some w,H3) := on_eq ht (onB_eq hc (on_eq he rfl))
theorem ci_none {elt tgt c v} (ht : aassign t cf tgt v l H = some (l1,H1)) (hc : aeval t cf c l1 H1 = some (.bool false,H2)) : citem t cf elt tgt c l v H = some (none,H2) := on_eq ht (onB_eq hc rfl)
theorem cv_some {f v r w ws} (h : f v H = some (some w,H1)) (k : compV f r H1 = some (ws,H2)) : compV f (v :: r) H = some (w :: ws,H2) := on_eq h (on_eq k rfl)
theorem cv_none {f v r R} (h : f v H = some (none,H1)) (k : compV f r H1 = R) : compV f (v :: r) H = R := on_eq h k
theorem s_val {x v s} (h : aeval t cf x l H = some (v,H1)) (k : asrc H1 v = some s) : asource t cf (.val x) l H = some (s,H1) := on_eq h (bd_eq k rfl)
theorem s_range {xs vs s} (h : aevals t cf xs l H = some (vs,H1)) (k : srcRange vs = some s) : asource t cf (.range xs) l H = some (s,H1) := on_eq h (bd_eq k rfl)
theorem s_rev {xs vs s} (h : aevals t cf xs l H = some (vs,H1)) (k : srcRev vs = some s) : asource t cf (.rev xs) l H = some (s,H1) := on_eq h (bd_eq k rfl)
theorem s_zip {xs vs s} (h : aevals t cf xs l H = some (vs,H1)) (k : srcZip vs = some s) : asource t cf (.zip xs) l H = some (s,H1) := on_eq h (bd_eq k rfl)
theorem src_ref {r xs} (h : H[r]? = some (.list xs)) : asrc H (.ref r) = some (.live r xs) := getL_eq h rfl
theorem cl_nil {f r i ys} (h : H[r]? = some (.list ys)) (he : ys[i]? = none) : compL f r [] i H = some ([],H) := getL_eq h (by show (match ys[i]? with | none => some ([],H) | some _ => none) = _; rw [he])
theorem cl_some {f r i ys v y snap w ws} (h : H[r]? = some (.list ys)) (he : ys[i]? = some y) (hf : f y H = some (some w,H1)) (k : compL f r snap (i + 1) H1 = some (ws,H2)) : compL f r (v :: snap) i H = some (w :: ws,H2) := getL_eq h (bd_eq he (on_eq hf (on_eq k rfl)))
theorem cl_none {f r i ys v y snap ws} (h : H[r]? = some (.list ys)) (he : ys[i]? = some y) (hf : f y H = some (none,H1)) (k : compL f r snap (i + 1) H1 = some (ws,H2)) : compL f r (v :: snap) i H = some (ws,H2) := getL_eq h (bd_eq he (on_eq hf k))
noncomputable def fitem (t : Text) (cf : CF) (tg : T) (b : List S) (v : PV) (l : Loc) (H : AH) : Option (Fl × Loc × AH) := on (aassign t cf tg v l H) fun l' H'' => aexecs t cf b l' H''
theorem f_item {tg b v R} (ht : aassign t cf tg v l H = some (l1,H1)) (k : aexecs t cf b l1 H1 = R) : fitem t cf tg b v l H = R := on_eq ht k
theorem forK_eq {x : Option (Fl × Loc × AH)} {y} {f : Loc → AH → Option (Fl × Loc × AH)} {R} (h : x = y) (k : forK y f = R) : forK x f = R := h ▸ k
theorem fv_nil {f} : forV f [] l H = some (.next,l,H) := rfl
theorem fv_next {f v r R} (h : f v l H = some (.next,l1,H1)) (k : forV f r l1 H1 = R) : forV f (v :: r) l H = R := forK_eq h k
theorem fv_ret {f v r w} (h : f v l H = some (.ret w,l1,H1)) : forV f (v :: r) l H = some (.ret w,l1,H1) := forK_eq h rfl
theorem fl_nil {f r i ys} (h : H[r]? = some (.list ys)) (he : ys[i]? = none) : forL f r [] i l H = some (.next,l,H) := getL_eq h (by show (match ys[i]? with | none => some (Fl.next,l,H) | some _ => none) = _; rw [he])
theorem fl_next {f r i ys v y snap R} (h : H[r]? = some (.list ys)) (he : ys[i]? = some y) (hf : f y l H = some (.next,l1,H1)) (k : forL f r snap (i + 1) l1 H1 = R) : forL f r (v :: snap) i l H = R := getL_eq h (bd_eq he (forK_eq hf k))
theorem t_loc {n v} (h : n < l.length) : aassign t cf (.loc n) v l H = some (l.set n (some v),H) := chk_eq h rfl
theorem t_attr {e r c fs k v} (he : aeval t cf e l H = some (.ref r,H1)) (hr : H1[r]? = some (.inst c fs)) (hk : k < t.nn ∧ t.meth c k = none ∧ fs.length < 90) (hH : H1.set r (.inst c (fput fs k v)) = H2) : aassign t cf (.attr e k) v l H = some (l,H2) := by
  subst hH
  exact on_eq he (bd_eq (bd_eq (x := H1[r]?) hr (chk_eq hk rfl)) rfl)
theorem t_idx {e i o j v} (he : aeval t cf e l H = some (o,H1)) (hi : aeval t cf i l H1 = some (j,H2)) (hs : asetidx H2 o j v = some H3) : aassign t cf (.idx e i) v l H = some (l,H3) := on_eq he (on_eq hi (bd_eq hs rfl))
theorem t_tup {ts vs R} (h : aassigns t cf ts vs l H = R) : aassign t cf (.tup ts) (.tup vs) l H = R := h
theorem ts_nil : aassigns t cf [] [] l H = some (l,H) := rfl
theorem ts_cons {x ts v vs R} (h : aassign t cf x v l H = some (l1,H1)) (k : aassigns t cf ts vs l1 H1 = R) : aassigns t cf (x :: ts) (v :: vs) l H = R := on_eq h k
theorem x_nil : aexecs t cf [] l H = some (.next,l,H) := rfl
theorem seqF_eq {x : Option (Fl × Loc × AH)} {y} {f : Loc → AH → Option (Fl × Loc × AH)} {R} (h : x = y) (k : seqF y f = R) : seqF x f = R := h ▸ k
theorem x_next {s r R} (h : aexec t cf s l H = some (.next,l1,H1)) (k : aexecs t cf r l1 H1 = R) : aexecs t cf (s :: r) l H = R := seqF_eq h k
theorem x_for {tg it b r s R} (h : asource t cf it l H = some (s,H1)) (hf : forS (fitem t cf tg b) s l H1 = some (.next,l1,H2)) (k : aexecs t cf r l1 H2 = R) : aexecs t cf (.for_ tg it b :: r) l H = R :=
  x_next (on_eq h hf) k
theorem x_forR {tg it b r s v} (h : asource t cf it l H = some (s,H1)) (hf : forS (fitem t cf tg b) s l H1 = some (.ret v,l1,H2)) : aexecs t cf (.for_ tg it b :: r) l H = some (.ret v,l1,H2) :=
  seqF_eq (y := some (.ret v,l1,H2)) (on_eq h hf) rfl
theorem x_assign {tg e v r R} (he : aeval t cf e l H = some (v,H1)) (ht : aassign t cf tg v l H1 = some (l1,H2)) (k : aexecs t cf r l1 H2 = R) : aexecs t cf (.assign tg e :: r) l H = R :=
  x_next (on_eq he (on_eq ht rfl)) k
theorem x_expr {e r R} (he : aeval t cf e l H = some (.none,H1)) (k : aexecs t cf r l H1 = R) : aexecs t cf (.expr e :: r) l H = R := x_next (on_eq he rfl) k
theorem x_ret {e v r} (he : aeval t cf e l H = some (v,H1)) : aexecs t cf (.ret e :: r) l H = some (.ret v,l,H1) := seqF_eq (y := some (.ret v,l,H1)) (on_eq he rfl) rfl
theorem x_brk {r} : aexecs t cf (.brk :: r) l H = some (.brk,l,H) := rfl
theorem x_capp {s a r R} (h : aexecs t cf (s :: (a ++ r)) l H = R) : aexecs t cf ((s :: a) ++ r) l H = R := h
theorem x_napp {r R} (h : aexecs t cf r l H = R) : aexecs t cf ([] ++ r) l H = R := h
theorem xs_app : ∀ {a r : List S} {l : Loc} {H : AH},aexecs t cf (a ++ r) l H = seqF (aexecs t cf a l H) fun l' H' => aexecs t cf r l' H'
  | [],r,l,H => rfl
  | s :: a,r,l,H => by
    show seqF (aexec t cf s l H) (fun l' H' => aexecs t cf (a ++ r) l' H') = seqF (seqF (aexec t cf s l H) fun l' H' => aexecs t cf a l' H') fun l' H' => aexecs t cf r l' H'
    cases aexec t cf s l H with
    | none => rfl
    | some p =>
      obtain ⟨fl,l',H'⟩ := p
      cases fl with
      | next => exact xs_app
      | _ => rfl
theorem x_if {c a b r x R} (h : aeval t cf c l H = some (.bool x,H1)) (k : cond x (aexecs t cf (a ++ r) l H1) (aexecs t cf (b ++ r) l H1) = R) : aexecs t cf (.ife c a b :: r) l H = R :=
  seqF_eq (onB_eq h rfl) (by cases x <;> exact xs_app.symm.trans k)
noncomputable def wstep (t : Text) (cf : CF) (c : X) (b : List S) : Loc → AH → Option (Fl × Loc × AH) := wstepG (aeval t cf c) (fun l H => aexecs t cf b l H)
theorem turns_eq {step : Loc → AH → Option (Fl × Loc × AH)} {n : Nat} {y R} (h : step l H = y) (k : (turnK y fun l' H' => turns step n l' H') = R) : turns step (n + 1) l H = R := by subst h; exact k
theorem w_turn {c b fl} (hc : aeval t cf c l H = some (.bool true,H1)) (hb : aexecs t cf b l H1 = some (fl,l1,H2)) : wstep t cf c b l H = some (wfl fl,l1,H2) := onB_eq hc (on_eq hb rfl)
theorem w_end {c b} (hc : aeval t cf c l H = some (.bool false,H1)) : wstep t cf c b l H = some (.next,l,H1) := onB_eq hc rfl
theorem x_whil {c b r n R} (hn : fuel = n) (h : turns (wstep t cf c b) n l H = some (.next,l1,H1)) (k : aexecs t cf r l1 H1 = R) : aexecs t cf (.whil c b :: r) l H = R := by
  subst hn; exact x_next h k
theorem x_whilR {c b r n v} (hn : fuel = n) (h : turns (wstep t cf c b) n l H = some (.ret v,l1,H1)) : aexecs t cf (.whil c b :: r) l H = some (.ret v,l1,H1) := by
  subst hn; exact seqF_eq (y := some (.ret v,l1,H1)) h rfl
theorem tn {c b n R} (hc : aeval t cf c l H = some (.bool true,H1)) (hb : aexecs t cf b l H1 = some (.next,l1,H2)) (k : turns (wstep t cf c b) n l1 H2 = R) : turns (wstep t cf c b) (n + 1) l H = R := turns_eq (w_turn hc hb) k
theorem tc {c b n R} (hc : aeval t cf c l H = some (.bool true,H1)) (hb : aexecs t cf b l H1 = some (.cont,l1,H2)) (k : turns (wstep t cf c b) n l1 H2 = R) : turns (wstep t cf c b) (n + 1) l H = R := turns_eq (w_turn hc hb) k
theorem tb {c b n} (hc : aeval t cf c l H = some (.bool true,H1)) (hb : aexecs t cf b l H1 = some (.brk,l1,H2)) : turns (wstep t cf c b) (n + 1) l H = some (.next,l1,H2) := turns_eq (w_turn hc hb) rfl
theorem tr {c b n v} (hc : aeval t cf c l H = some (.bool true,H1)) (hb : aexecs t cf b l H1 = some (.ret v,l1,H2)) : turns (wstep t cf c b) (n + 1) l H = some (.ret v,l1,H2) := turns_eq (w_turn hc hb) rfl
theorem te {c b n} (hc : aeval t cf c l H = some (.bool false,H1)) : turns (wstep t cf c b) (n + 1) l H = some (.next,l,H1) := turns_eq (w_end hc) rfl
end
section
variable {t : Text} {d : Nat} {H H1 H' : AH}
theorem a_call {f as l fd b fl l1 v} (h1 : t.fn f = fd) (hb : fd.body = b) (h2 : frame fd as = some l) (h3 : aexecs t (acall t d) b l H = some (fl,l1,H1)) (h4 : retOf fl = some v) (h5 : H1 = H') : acall t (d + 1) f as H = some (v,H') := by
  subst h1 hb h5
  exact (acall_succ ..).trans (bd_eq h2 (on_eq h3 (bd_eq h4 rfl)))
end
section
variable {α : Type} {H r : List α} {i j : Nat} {o o' : α}
theorem lk_same (h : i < H.length) : (H.set i o)[i]? = some o := List.getElem?_set_self h
theorem lk_ne (hn : i ≠ j) (h : H[j]? = some o) : (H.set i o')[j]? = some o := by rw [List.getElem?_set_ne hn,h]
theorem lk_app (h : H[j]? = some o) : (H ++ r)[j]? = some o := by rw [List.getElem?_append_left (List.getElem?_eq_some_iff.mp h).1,h]
theorem lt_set (h : j < H.length) : j < (H.set i o).length := by rw [List.length_set]; exact h
theorem lt_app (h : j < H.length) : j < (H ++ r).length := by rw [List.length_append]; exact Nat.lt_add_right _ h
theorem lk_new : (H ++ o :: r)[H.length]? = some o := by rw [List.getElem?_append_right (Nat.le_refl _),Nat.sub_self]; rfl
theorem set_new {o' : α} : (H ++ o :: r).set H.length o' = H ++ o' :: r := by rw [List.set_append_right _ _ (Nat.le_refl _),Nat.sub_self]; rfl
theorem set_new1 {a b x : α} : (H ++ a :: b :: r).set (H.length + 1) x = H ++ a :: x :: r := by rw [List.set_append_right _ _ (Nat.le_add_right ..),Nat.add_sub_cancel_left]; rfl
theorem set_new2 {a b c x : α} : (H ++ a :: b :: c :: r).set (H.length + 2) x = H ++ a :: b :: x :: r := by rw [List.set_append_right _ _ (Nat.le_add_right ..),Nat.add_sub_cancel_left]; rfl
theorem set_new3 {a b c d x : α} : (H ++ a :: b :: c :: d :: r).set (H.length + 3) x = H ++ a :: b :: c :: x :: r := by rw [List.set_append_right _ _ (Nat.le_add_right ..),Nat.add_sub_cancel_left]; rfl
theorem set_new4 {a b c d e x : α} : (H ++ a :: b :: c :: d :: e :: r).set (H.length + 4) x = H ++ a :: b :: c :: d :: x :: r := by rw [List.set_append_right _ _ (Nat.le_add_right ..),Nat.add_sub_cancel_left]; rfl
theorem len_new0 {a : α} : (H ++ [a]).length = H.length + 1 := by rw [List.length_append]; rfl
theorem len_new1 {a b : α} : (H ++ [a,b]).length = H.length + 2 := by rw [List.length_append]; rfl
theorem len_new2 {a b c : α} : (H ++ [a,b,c]).length = H.length + 3 := by rw [List.length_append]; rfl
theorem len_new3 {a b c d : α} : (H ++ [a,b,c,d]).length = H.length + 4 := by rw [List.length_append]; rfl
theorem len_new4 {a b c d e : α} : (H ++ [a,b,c,d,e]).length = H.length + 5 := by rw [List.length_append]; rfl
theorem app0 {a x : α} : (H ++ [a]) ++ [x] = H ++ [a,x] := List.append_assoc ..
theorem app1 {a b x : α} : (H ++ [a,b]) ++ [x] = H ++ [a,b,x] := List.append_assoc ..
theorem app2 {a b c x : α} : (H ++ [a,b,c]) ++ [x] = H ++ [a,b,c,x] := List.append_assoc ..
theorem app3 {a b c d x : α} : (H ++ [a,b,c,d]) ++ [x] = H ++ [a,b,c,d,x] := List.append_assoc ..
theorem app4 {a b c d e x : α} : (H ++ [a,b,c,d,e]) ++ [x] = H ++ [a,b,c,d,e,x] := List.append_assoc ..
theorem set_set {o' : α} : (H.set i o).set i o' = H.set i o' := List.set_set ..
theorem len_set {n : Nat} (h : H.length = n) : (H.set i o).length = n := List.length_set.trans h
theorem lk_lt (h : H[j]? = some o) : j < H.length := (List.getElem?_eq_some_iff.mp h).1
theorem lk_at {P : List α} {k : Nat} (h : r[k]? = some o) : (P ++ r)[P.length + k]? = some o := by
  rw [List.getElem?_append_right (Nat.le_add_right ..),Nat.add_sub_cancel_left,h]
theorem at_nat {n : Nat} {xs : List α} : at? xs (n : Int) = xs[n]? := by
  show (if (0 : Int) ≤ (n : Int) then xs[(n : Int).toNat]? else _) = _
  rw [if_pos (Int.natCast_nonneg n)]; rfl
theorem at_int {n : Nat} {xs : List α} (h : xs[n]? = some o) : at? xs (n : Int) = some o := at_nat.trans h
theorem at_last {xs : List α} {x : α} : at? (xs ++ [x]) (-1) = some x := by
  have e1 : (0 : Int) ≤ -1 + (((xs ++ [x]).length : Nat) : Int) := by rw [List.length_append]; simp; fail "l"
  have e2 : (-1 + (((xs ++ [x]).length : Nat) : Int)).toNat = xs.length := by rw [List.length_append]; simp; fail "l"
  show (if (0 : Int) ≤ -1 then _ else if 0 ≤ -1 + (((xs ++ [x]).length : Nat) : Int) then (xs ++ [x])[(-1 + (((xs ++ [x]).length : Nat) : Int)).toNat]? else none) = _
  rw [if_neg (by decide),if_pos e1,e2]; simp
end
section
variable {cf : CF} {l : Loc} {H : AH}
theorem k0 : aeval text cf (.gl 0) l H = some (.int 91,H) := rfl
theorem k2 : aeval text cf (.gl 2) l H = some (.int 45,H) := rfl
theorem k3 : aeval text cf (.gl 3) l H = some (.int 93,H) := rfl
theorem k4 : aeval text cf (.gl 4) l H = some (.int 94,H) := rfl
theorem k5 : aeval text cf (.gl 5) l H = some (.int 10,H) := rfl
theorem k6 : aeval text cf (.gl 6) l H = some (.int 65535,H) := rfl
theorem k7 : aeval text cf (.gl 7) l H = some (.int 20000,H) := rfl
theorem k8 : aeval text cf (.gl 8) l H = some (.tup [(.str [97,110,121]),(.str [115,101,116]),(.str [115,121,110,116,97,120]),(.str [97,116]),(.str [98,97,99,107])],H) := rfl
theorem k11 : aeval text cf (.gl 11) l H = some (.str [46],H) := rfl
end
section
variable {H : AH}
theorem len_ref {r xs} (h : H[r]? = some (.list xs)) : abi .len H [.ref r] = some (.int xs.length) := getL_eq h rfl
theorem tup_ref {r xs} (h : H[r]? = some (.list xs)) : abi .tuple H [.ref r] = some (.tup xs) := getL_eq h rfl
theorem nil_ref {r xs} (h : H[r]? = some (.list xs)) : acmp .eq H (.ref r) (.lst []) = some xs.isEmpty := getL_eq h rfl
theorem nnil_ref {r xs} (h : H[r]? = some (.list xs)) : acmp .ne H (.ref r) (.lst []) = some (!xs.isEmpty) := congrArg (Option.map (!·)) (nil_ref h)
theorem idx_ref {r xs i v} (h : H[r]? = some (.list xs)) (hi : at? xs i = some v) : aidx H (.ref r) (.int i) = some v := bd_eq h hi
theorem idx_dict {r es i v} (h : H[r]? = some (.dict es)) (hi : dget es i = some v) : aidx H (.ref r) (.int i) = some v := bd_eq h hi
theorem chr_i {i : Int} (h : 0 ≤ i ∧ i < 128) : abi .chr H [.int i] = some (.str [i.toNat]) := chk_eq h rfl
theorem chr_ok {c : Nat} (hc : c < 128) : abi .chr H [.int c] = some (.str [c]) := chr_i (i := c) ⟨Int.natCast_nonneg c,Int.ofNat_lt.mpr hc⟩
theorem mul_i {x n : Int} (h : n.natAbs < 1152921504606846976) : abin .mul H (.int x) (.int n) = some (.int (x * n)) := chk_eq h rfl
theorem mul_t {x} {n : Int} (h : 0 ≤ n ∧ n ≤ lim ∧ x.length * n.toNat ≤ lim) : abin .mul H (.tup x) (.int n) = some (.tup (rep x n.toNat)) := chk_eq h rfl
theorem str_i {i : Int} (h : 0 ≤ i ∧ i < 10) : abi .str H [.int i] = some (.str [48 + i.toNat]) := chk_eq h rfl
theorem range1 {n : Int} (h : -(lim : Int) ≤ n ∧ n ≤ lim) : srcRange [.int n] = some (.vals (intsFrom 0 n.toNat)) := chk_eq h rfl
theorem range2 {a n : Int} (h : 0 ≤ a ∧ a ≤ lim ∧ -(lim : Int) ≤ n ∧ n ≤ lim) : srcRange [.int a,.int n] = some (.vals (intsFrom a (n - a).toNat)) := chk_eq h rfl
theorem idx_lst {xs i v} (hi : at? xs i = some v) : aidx H (.lst xs) (.int i) = some v := hi
theorem idx_tup {xs i v} (hi : at? xs i = some v) : aidx H (.tup xs) (.int i) = some v := hi
theorem add_str {x y : List Nat} (h : x.length + y.length ≤ lim) : abin .add H (.str x) (.str y) = some (.str (x ++ y)) := chk_eq h rfl
theorem add_lst {x y : List PV} (h : x.length + y.length ≤ lim) : abin .add H (.lst x) (.lst y) = some (.lst (x ++ y)) := chk_eq h rfl
theorem add_tup {x y : List PV} (h : x.length + y.length ≤ lim) : abin .add H (.tup x) (.tup y) = some (.tup (x ++ y)) := chk_eq h rfl
theorem add_ref {r x} {y : List PV} (h : H[r]? = some (.list x)) (hl : x.length + y.length ≤ lim) : abin .add H (.ref r) (.lst y) = some (.lst (x ++ y)) := getL_eq h (chk_eq hl rfl)
theorem set_ref {r xs j} {i : Int} {v} (h : H[r]? = some (.list xs)) (hj : place? xs.length i = some j) : asetidx H (.ref r) (.int i) v = some (H.set r (.list (xs.set j v))) :=
  bd_eq (x := H[r]?) h (by show (place? xs.length i).map _ = _; rw [hj]; rfl)
theorem set_dict {r es} {i : Int} {v} (h : H[r]? = some (.dict es)) (hl : es.length < lim) : asetidx H (.ref r) (.int i) v = some (H.set r (.dict (dput es i v))) := bd_eq (x := H[r]?) h (chk_eq hl rfl)
end
end
open PyProof.Rows
set_option compiler.extract_closed false in
local macro_rules | `(tactic| fail $s:str) => do
  let arg (x : String) : Lean.MacroM (Lean.TSyntax ``Lean.Parser.Tactic.SolveByElim.arg) := do
    let i := Lean.mkIdent (.mkSimple x)
    `(Lean.Parser.Tactic.SolveByElim.arg| @$i:ident)
  if s.getString == "E" then
    let l ← ("e_loc e_attr e_int e_str e_append e_pop e_get e_meth e_callF e_cmp e_bin e_if e_tup e_idx e_callB e_and e_or e_bool e_none e_neg e_list e_not e_cmp2 k0 k2 k3 k4 k5 k6 k7 k8 k11 e_slice e_listm e_mulm e_dict e_callC e_comp es_l1 es_l2 es_l3 es_sl es_nil es_cons e_and2 e_and1 e_or2 e_or1 x_assign x_expr x_ret x_if x_nil x_capp x_napp x_brk t_loc t_attr t_idx t_tup ts_nil ts_cons".splitOn " ").toArray.mapM arg
    `(tactic| apply_rules (transparency := .reducible) (maxDepth := 400) -symm -exfalso only [$l,*])
  else if s.getString == "R" then
    let l ← ("len_ref idx_ref idx_lst idx_tup tup_ref add_ref nil_ref nnil_ref chr_ok s_val s_range s_rev s_zip src_ref at_int at_last set_new set_new1 set_new2 set_new3 set_new4 set_set len_set len_new0 len_new1 len_new2 len_new3 len_new4 app0 app1 app2 app3 app4 lt_set lt_app".splitOn " ").toArray.mapM arg
    `(tactic| apply_assumption (transparency := .reducible) -symm -exfalso -intro -constructor only [$l,*])
  else if s.getString == "K" then
    let l ← ("lk_same lk_new lk_at lk_ne lk_app".splitOn " ").toArray.mapM arg
    `(tactic| first | apply_assumption (transparency := .reducible) -symm -exfalso -intro -constructor only [$l,*] | exact rfl)
  else Lean.Macro.throwUnsupported
local macro_rules | `(tactic| fail "C") => `(tactic| first | ((with_reducible apply goT); exact decide_eq_true (by lia)) | ((with_reducible apply goF); exact decide_eq_false (by lia)) | ((with_reducible apply goT); exact rfl) | ((with_reducible apply goF); exact rfl))
local macro_rules | `(tactic| fail "T") => `(tactic| first | exact Ne.symm (by assumption) | exact rfl | exact ⟨of_decide_eq_true rfl,rfl,of_decide_eq_true rfl⟩ | exact of_decide_eq_true rfl | assumption)
local macro_rules | `(tactic| fail "ev") => `(tactic| first | (goal_lacks aeval aevals aand aor aexecs aassign aassigns; first | with_reducible assumption | (goal_lacks getElem?; fail "R") | fail "K" | (goal_lacks cond; fail "T") | fail "C") | fail "E" | fail "C" | fail "R" | fail "K" | fail "T")
section
set_option maxHeartbeats 4000000
noncomputable abbrev pObj (codes : List PV) (pl fl g : Nat) : AObj := .inst 3 [(31,.lst codes),(1,.int pl),(32,.ref fl),(13,.int g)]
noncomputable abbrev fObj (w : List Nat) (n di ni : Nat) (lo : Bool) : AObj := .inst 2 [(26,.str w),(27,.int n),(28,.ref di),(29,.ref ni),(30,.bool lo)]
theorem c_put (d : Nat) {H : AH} {ti ni : Nat} {w : List Nat} {n di : Nat} {lo : Bool} {ns : List PV} (x : PV) (hne : ni ≠ ti) (h : H[ti]? = some (fObj w n di ni lo)) (h2 : H[ni]? = some (.list ns)) (hl : ns.length < lim) :
    acall text (d + 1) 22 [.ref ti,x] H = some (.none,(H.set ni (.list (ns ++ [x]))).set ti (fObj w n di ni false)) := by
  apply a_call (fd := f_Frame_put) (b := b_Frame_put) (l := [some (.ref ti),some (x)]) rfl rfl rfl; delta b_Frame_put
  repeat fail "ev"
theorem c_top (d : Nat) {H : AH} {p fl : Nat} {codes : List PV} {pl g : Nat} {fs : List PV} {ti : Nat} (h : H[p]? = some (pObj codes pl fl g)) (h2 : H[fl]? = some (.list (fs ++ [.ref ti]))) :
    acall text (d + 1) 26 [.ref p] H = some (.ref ti,H) := by
  apply a_call (fd := f_Parsing_top) (b := b_Parsing_top) (l := [some (.ref p)]) rfl rfl rfl; delta b_Parsing_top
  repeat fail "ev"
theorem c_sign (d : Nat) {H : AH} {p fl : Nat} {codes : List PV} {pl g c : Nat} (hc : c < 128) (h : H[p]? = some (pObj codes pl fl g)) (h2 : codes[pl]? = some (.int c)) :
    acall text (d + 1) 27 [.ref p] H = some (.str [c],H.set p (pObj codes (pl + 1) fl g)) := by
  have h3 := lk_lt h2
  have h4 := lk_lt h
  apply a_call (fd := f_Parsing_sign) (b := b_Parsing_sign) (l := [some (.ref p)]) rfl rfl rfl; delta b_Parsing_sign
  repeat fail "ev"
  rw [show (pl : Int) + 1 - 1 = pl by fail "l"]; exact at_int h2
  repeat fail "ev"
theorem c_sign_at (d : Nat) {codes : List PV} {p c : Nat} (hc : c < 128) (h : codes[p]? = some (.int c)) (H : AH) : acall text (d + 1) 18 [.lst codes,.int p] H = some (.str [c],H) := by
  have h3 := lk_lt h
  apply a_call (fd := f_sign_at) (b := b_sign_at) (l := [some (.lst codes),some (.int p)]) rfl rfl rfl; delta b_sign_at
  repeat fail "ev"
theorem c_sign_end (d : Nat) {codes : List PV} {p : Nat} (h : codes.length ≤ p) (H : AH) : acall text (d + 1) 18 [.lst codes,.int p] H = some (.str [],H) := by
  apply a_call (fd := f_sign_at) (b := b_sign_at) (l := [some (.lst codes),some (.int p)]) rfl rfl rfl; delta b_sign_at
  repeat fail "ev"
noncomputable def join : List PV → PV
  | [x] => x
  | xs => .tup [.str [115,101,113],.tup xs]
theorem c_joined (d : Nat) {H : AH} {i : Nat} {xs : List PV} (hx : xs ≠ []) (h : H[i]? = some (.list xs)) : acall text (d + 1) 20 [.ref i] H = some (join xs,H) := by
  match xs,hx with
  | [x],_ =>
    apply a_call (fd := f_joined) (b := b_joined) (l := [some (.ref i)]) rfl rfl rfl; delta b_joined
    repeat fail "ev"
  | x :: y :: r,_ =>
    apply a_call (fd := f_joined) (b := b_joined) (l := [some (.ref i)]) rfl rfl rfl; delta b_joined
    repeat fail "ev"
theorem c_frame (d : Nat) {H : AH} (w : List Nat) (n : Nat) :
    acall text (d + 1) 21 [.ref H.length,.str w,.int n] (H ++ [.inst 2 []]) = some (.none,H ++ [fObj w n (H.length + 1) (H.length + 2) true,.list [],.list []]) := by
  have h0 : (H ++ [AObj.inst 2 []])[H.length]? = some (.inst 2 []) := by simp
  apply a_call (fd := f_Frame_init) (b := b_Frame_init) (l := [some (.ref H.length),some (.str w),some (.int n)]) rfl rfl rfl; delta b_Frame_init
  repeat fail "ev"
theorem c_opened_group (d : Nat) {H : AH} {p fl : Nat} {codes : List PV} {pl g c : Nat} {fs : List PV} (hne : p ≠ fl) (hc : c < 128) (hq : (([c] : List Nat) == [63]) = false) (h : H[p]? = some (pObj codes pl fl g)) (h2 : H[fl]? = some (.list fs)) (h3 : codes[pl]? = some (.int c)) (hl : fs.length < lim) :
    acall text (d + 2) 34 [.ref p] H = some (.none,((H.set p (pObj codes pl fl (g + 1)) ++ [fObj [103,114,111,117,112] (g + 1) (H.length + 1) (H.length + 2) true,.list [],.list []]).set fl (.list (fs ++ [.ref H.length])))) := by
  have e1 := c_sign_at d hc h3
  have fr := c_frame d (H := H.set p (pObj codes pl fl (g + 1))) [103,114,111,117,112] (g + 1)
  rw [List.length_set] at fr
  have l0 := lk_lt h
  have ln : (H.set p (pObj codes pl fl (g + 1))).length = H.length := List.length_set
  apply a_call (fd := f_Parsing_opened) (b := b_Parsing_opened) (l := [some (.ref p),none,none]) rfl rfl rfl; delta b_Parsing_opened
  repeat fail "ev"
  exact e1 _
  repeat fail "ev"
  apply goT (by show (!(_ == _)) = true; rw [hq]; rfl)
  repeat fail "ev"
theorem c_number0 (d : Nat) {H : AH} {p fl : Nat} {codes : List PV} {pl g c : Nat} (hd : c = 58 ∨ c = 92 ∨ c = 44) (h : H[p]? = some (pObj codes pl fl g)) (h3 : codes[pl]? = some (.int c)) :
    acall text (d + 2) 36 [.ref p] H = some (.tup [.int 0,.bool false],H) := by
  have e1 := c_sign_at d (c := c) (by fail "l") h3 H
  apply a_call (fd := f_Parsing_number) (b := b_Parsing_number) (l := [some (.ref p),none,none]) rfl rfl rfl; delta b_Parsing_number
  repeat fail "ev"
  apply x_whil fuel_eq
  apply te
  rcases hd with rfl | rfl | rfl
  all_goals repeat fail "ev"
theorem c_number_1c (d : Nat) {H : AH} {p fl : Nat} {codes : List PV} {pl g : Nat} (h : H[p]? = some (pObj codes pl fl g)) (h3 : codes[pl]? = some (.int 49)) (h4 : codes[pl + 1]? = some (.int 44)) :
    acall text (d + 2) 36 [.ref p] H = some (.tup [.int 1,.bool true],H.set p (pObj codes (pl + 1) fl g)) := by
  have e1 := c_sign_at d (c := 49) (by fail "l") h3
  have e2 := c_sign_at d (c := 44) (by fail "l") h4
  have h5 := at_int h3
  have l0 := lk_lt h
  apply a_call (fd := f_Parsing_number) (b := b_Parsing_number) (l := [some (.ref p),none,none]) rfl rfl rfl; delta b_Parsing_number
  repeat fail "ev"
  apply x_whil fuel_eq
  · apply tn
    · repeat fail "ev"
      · exact e1 _
      repeat fail "ev"
      · exact e1 _
      repeat fail "ev"
    · repeat fail "ev"
    apply te
    repeat fail "ev"
    · exact e2 _
    repeat fail "ev"
    · exact e2 _
    repeat fail "ev"
  · repeat fail "ev"
  repeat fail "ev"
theorem c_number_2c (d : Nat) {H : AH} {p fl : Nat} {codes : List PV} {pl g : Nat} (h : H[p]? = some (pObj codes pl fl g)) (h3 : codes[pl]? = some (.int 50)) (h4 : codes[pl + 1]? = some (.int 44)) :
    acall text (d + 2) 36 [.ref p] H = some (.tup [.int 2,.bool true],H.set p (pObj codes (pl + 1) fl g)) := by
  have e1 := c_sign_at d (c := 50) (by fail "l") h3
  have e2 := c_sign_at d (c := 44) (by fail "l") h4
  have h5 := at_int h3
  have l0 := lk_lt h
  apply a_call (fd := f_Parsing_number) (b := b_Parsing_number) (l := [some (.ref p),none,none]) rfl rfl rfl; delta b_Parsing_number
  repeat fail "ev"
  apply x_whil fuel_eq
  · apply tn
    · repeat fail "ev"
      · exact e1 _
      repeat fail "ev"
      · exact e1 _
      repeat fail "ev"
    · repeat fail "ev"
    apply te
    repeat fail "ev"
    · exact e2 _
    repeat fail "ev"
    · exact e2 _
    repeat fail "ev"
  · repeat fail "ev"
  repeat fail "ev"
theorem c_number_2b (d : Nat) {H : AH} {p fl : Nat} {codes : List PV} {pl g : Nat} (h : H[p]? = some (pObj codes pl fl g)) (h3 : codes[pl]? = some (.int 50)) (h4 : codes[pl + 1]? = some (.int 92)) :
    acall text (d + 2) 36 [.ref p] H = some (.tup [.int 2,.bool true],H.set p (pObj codes (pl + 1) fl g)) := by
  have e1 := c_sign_at d (c := 50) (by fail "l") h3
  have e2 := c_sign_at d (c := 92) (by fail "l") h4
  have h5 := at_int h3
  have l0 := lk_lt h
  apply a_call (fd := f_Parsing_number) (b := b_Parsing_number) (l := [some (.ref p),none,none]) rfl rfl rfl; delta b_Parsing_number
  repeat fail "ev"
  apply x_whil fuel_eq
  · apply tn
    · repeat fail "ev"
      · exact e1 _
      repeat fail "ev"
      · exact e1 _
      repeat fail "ev"
    · repeat fail "ev"
    apply te
    repeat fail "ev"
    · exact e2 _
    repeat fail "ev"
    · exact e2 _
    repeat fail "ev"
  · repeat fail "ev"
  repeat fail "ev"
theorem c_opened_shy (d : Nat) {H : AH} {p fl : Nat} {codes : List PV} {pl g : Nat} {fs : List PV} (hne : p ≠ fl) (h : H[p]? = some (pObj codes pl fl g)) (h2 : H[fl]? = some (.list fs)) (h3 : codes[pl]? = some (.int 63)) (h4 : codes[pl + 1]? = some (.int 58)) (hl : fs.length < lim) :
    acall text (d + 3) 34 [.ref p] H = some (.none,((H.set p (pObj codes (pl + 2) fl g) ++ [fObj [115,104,121] 0 (H.length + 1) (H.length + 2) true,.list [],.list []]).set fl (.list (fs ++ [.ref H.length])))) := by
  have l0 := lk_lt h
  have e1 := c_sign_at (d + 1) (c := 63) (by decide) h3
  have e2 := c_sign_at (d + 1) (c := 58) (by decide) h4
  have nm := c_number0 d (H := H.set p (pObj codes (pl + 1) fl g)) (.inl rfl) (lk_same l0) h4
  have fr := c_frame (d + 1) (H := H.set p (pObj codes (pl + 2) fl g)) [115,104,121] 0
  rw [List.length_set] at fr
  have ln : ((H.set p (pObj codes (pl + 1) fl g)).set p (pObj codes (pl + 2) fl g)).length = H.length := by rw [List.length_set,List.length_set]
  apply a_call (fd := f_Parsing_opened) (b := b_Parsing_opened) (l := [some (.ref p),none,none]) rfl rfl rfl; delta b_Parsing_opened
  repeat fail "ev"
  exact e1 _
  repeat fail "ev"
  exact e2 _
  repeat fail "ev"
theorem c_part (d : Nat) {H : AH} {ti ni di : Nat} {w : List Nat} {n : Nat} {lo : Bool} {ns dn : List PV} (hns : ns ≠ []) (hne : di ≠ ti) (hnd : di ≠ ni) (h : H[ti]? = some (fObj w n di ni lo)) (h2 : H[ni]? = some (.list ns)) (h3 : H[di]? = some (.list dn)) (hl : dn.length < lim) :
    acall text (d + 2) 23 [.ref ti] H = some (.none,((H.set di (.list (dn ++ [join ns]))) ++ [AObj.list []]).set ti (fObj w n di H.length true)) := by
  have l0 := lk_lt h
  have jn := c_joined d hns h2
  apply a_call (fd := f_Frame_part) (b := b_Frame_part) (l := [some (.ref ti)]) rfl rfl rfl; delta b_Frame_part
  repeat fail "ev"
noncomputable def frNode (dn ns : List PV) : PV := if dn = [] then join ns else .tup [.str [97,108,116],.tup (dn ++ [join ns])]
theorem c_fnode (d : Nat) {H : AH} {ti ni di : Nat} {w : List Nat} {n : Nat} {lo : Bool} {ns dn : List PV} (hns : ns ≠ []) (h : H[ti]? = some (fObj w n di ni lo)) (h2 : H[ni]? = some (.list ns)) (h3 : H[di]? = some (.list dn)) (hl : dn.length + 1 ≤ lim) :
    acall text (d + 2) 24 [.ref ti] H = some (frNode dn ns,H) := by
  have jn := c_joined d hns h2
  cases dn with
  | nil =>
    apply a_call (fd := f_Frame_node) (b := b_Frame_node) (l := [some (.ref ti)]) rfl rfl rfl; delta b_Frame_node
    repeat fail "ev"
  | cons x dn =>
    apply a_call (fd := f_Frame_node) (b := b_Frame_node) (l := [some (.ref ti)]) rfl rfl rfl; delta b_Frame_node
    repeat fail "ev"
theorem c_closed_shy (d : Nat) {H : AH} {p fl : Nat} {codes : List PV} {pl g : Nat} {fs : List PV} {bi bdi bni : Nat} {bw : List Nat} {bn : Nat} {blo : Bool} {bns : List PV} {ti ni di n : Nat} {lo : Bool} {ns dn : List PV}
    (hns : ns ≠ []) (h : H[p]? = some (pObj codes pl fl g)) (h2 : H[fl]? = some (.list ((fs ++ [.ref bi]) ++ [.ref ti]))) (h3 : H[ti]? = some (fObj [115,104,121] n di ni lo)) (h4 : H[ni]? = some (.list ns)) (h5 : H[di]? = some (.list dn))
    (h6 : H[bi]? = some (fObj bw bn bdi bni blo)) (h7 : H[bni]? = some (.list bns)) (x1 : fl ≠ p) (x2 : fl ≠ ti) (x3 : fl ≠ ni) (x4 : fl ≠ di) (x5 : fl ≠ bi) (x6 : fl ≠ bni) (x7 : bni ≠ bi) (l1 : dn.length + 1 ≤ lim) (l2 : bns.length < lim) :
    acall text (d + 4) 35 [.ref p] H = some (.none,((H.set fl (.list (fs ++ [.ref bi]))).set bni (.list (bns ++ [.tup [.str [115,104,121],frNode dn ns]]))).set bi (fObj bw bn bdi bni false)) := by
  have l0 := lk_lt h2
  have fn := c_fnode (d + 1) (H := H.set fl (.list (fs ++ [.ref bi]))) hns (lk_ne x2 h3) (lk_ne x3 h4) (lk_ne x4 h5) l1
  have tp := c_top (d + 2) (H := H.set fl (.list (fs ++ [.ref bi]))) (lk_ne x1 h) (lk_same l0)
  have pt := c_put (d + 2) (H := H.set fl (.list (fs ++ [.ref bi]))) (.tup [.str [115,104,121],frNode dn ns]) x7 (lk_ne x5 h6) (lk_ne x6 h7) l2
  have ll : ((((fs ++ [PV.ref bi]) ++ [PV.ref ti]).length : Nat) : Int) = 1 ↔ False := by simp; fail "l"
  apply a_call (fd := f_Parsing_closed) (b := b_Parsing_closed) (l := [some (.ref p),none,none]) rfl rfl rfl; delta b_Parsing_closed
  repeat fail "ev"
theorem c_closed_group (d : Nat) {H : AH} {p fl : Nat} {codes : List PV} {pl g : Nat} {fs : List PV} {bi bdi bni : Nat} {bw : List Nat} {bn : Nat} {blo : Bool} {bns : List PV} {ti ni di n : Nat} {lo : Bool} {ns dn : List PV}
    (hns : ns ≠ []) (h : H[p]? = some (pObj codes pl fl g)) (h2 : H[fl]? = some (.list ((fs ++ [.ref bi]) ++ [.ref ti]))) (h3 : H[ti]? = some (fObj [103,114,111,117,112] n di ni lo)) (h4 : H[ni]? = some (.list ns)) (h5 : H[di]? = some (.list dn))
    (h6 : H[bi]? = some (fObj bw bn bdi bni blo)) (h7 : H[bni]? = some (.list bns)) (x1 : fl ≠ p) (x2 : fl ≠ ti) (x3 : fl ≠ ni) (x4 : fl ≠ di) (x5 : fl ≠ bi) (x6 : fl ≠ bni) (x7 : bni ≠ bi) (l1 : dn.length + 1 ≤ lim) (l2 : bns.length < lim) :
    acall text (d + 4) 35 [.ref p] H = some (.none,((H.set fl (.list (fs ++ [.ref bi]))).set bni (.list (bns ++ [.tup [.str [103,114,111,117,112],.int n,frNode dn ns]]))).set bi (fObj bw bn bdi bni false)) := by
  have l0 := lk_lt h2
  have fn := c_fnode (d + 1) (H := H.set fl (.list (fs ++ [.ref bi]))) hns (lk_ne x2 h3) (lk_ne x3 h4) (lk_ne x4 h5) l1
  have tp := c_top (d + 2) (H := H.set fl (.list (fs ++ [.ref bi]))) (lk_ne x1 h) (lk_same l0)
  have pt := c_put (d + 2) (H := H.set fl (.list (fs ++ [.ref bi]))) (.tup [.str [103,114,111,117,112],.int n,frNode dn ns]) x7 (lk_ne x5 h6) (lk_ne x6 h7) l2
  have ll : ((((fs ++ [PV.ref bi]) ++ [PV.ref ti]).length : Nat) : Int) = 1 ↔ False := by simp; fail "l"
  apply a_call (fd := f_Parsing_closed) (b := b_Parsing_closed) (l := [some (.ref p),none,none]) rfl rfl rfl; delta b_Parsing_closed
  repeat fail "ev"
end
section
set_option maxHeartbeats 4000000
theorem c_escaped1 (d : Nat) {H : AH} {codes : List PV} {pl : Nat} (h1 : codes[pl]? = some (.int 92)) (h2 : codes[pl + 1]? = some (.int 125)) : acall text (d + 2) 19 [.lst codes,.int pl,.str [125]] H = some (.bool true,H) := by
  have e1 := c_sign_at d (c := 92) (by fail "l") h1 H
  have e2 := c_sign_at d (c := 125) (by fail "l") h2 H
  apply a_call (fd := f_is_escaped) (b := b_is_escaped) (l := [some (.lst codes),some (.int pl),some (.str [125])]) rfl rfl rfl; delta b_is_escaped
  repeat fail "ev"
theorem c_bounds_12 (d : Nat) {H : AH} {p fl : Nat} {codes : List PV} {pl g : Nat} (h : H[p]? = some (pObj codes pl fl g)) (q0 : codes[pl]? = some (.int 49)) (q1 : codes[pl + 1]? = some (.int 44)) (q2 : codes[pl + 2]? = some (.int 50)) (q3 : codes[pl + 3]? = some (.int 92)) (q4 : codes[pl + 4]? = some (.int 125)) :
    acall text (d + 3) 37 [.ref p] H = some (.tup [.int 1,.int 2],H.set p (pObj codes (pl + 5) fl g)) := by
  have l0 := lk_lt h
  have l4 := lk_lt q4
  have e1 := c_number_1c d h q0 q1
  have e2 := c_sign_at (d + 1) (c := 44) (by fail "l") q1 (H.set p (pObj codes (pl + 1) fl g))
  have e3 := c_number_2b d (H := H.set p (pObj codes (pl + 2) fl g)) (lk_same l0) q2 q3
  rw [set_set] at e3
  have e4 := c_escaped1 d (H := H.set p (pObj codes (pl + 3) fl g)) q3 q4
  apply a_call (fd := f_Parsing_bounds) (b := b_Parsing_bounds) (l := [some (.ref p),none,none,none]) rfl rfl rfl; delta b_Parsing_bounds
  repeat fail "ev"
theorem c_bounds_2 (d : Nat) {H : AH} {p fl : Nat} {codes : List PV} {pl g : Nat} (h : H[p]? = some (pObj codes pl fl g)) (q0 : codes[pl]? = some (.int 50)) (q1 : codes[pl + 1]? = some (.int 44)) (q3 : codes[pl + 2]? = some (.int 92)) (q4 : codes[pl + 3]? = some (.int 125)) :
    acall text (d + 3) 37 [.ref p] H = some (.tup [.int 2,.int (-1)],H.set p (pObj codes (pl + 4) fl g)) := by
  have l0 := lk_lt h
  have l4 := lk_lt q4
  have e1 := c_number_2c d h q0 q1
  have e2 := c_sign_at (d + 1) (c := 44) (by fail "l") q1 (H.set p (pObj codes (pl + 1) fl g))
  have e3 := c_number0 d (H := H.set p (pObj codes (pl + 2) fl g)) (.inr (.inl rfl)) (lk_same l0) q3
  have e4 := c_escaped1 d (H := H.set p (pObj codes (pl + 2) fl g)) q3 q4
  apply a_call (fd := f_Parsing_bounds) (b := b_Parsing_bounds) (l := [some (.ref p),none,none,none]) rfl rfl rfl; delta b_Parsing_bounds
  repeat fail "ev"
theorem c_repeat (d : Nat) {H : AH} {p fl : Nat} {codes : List PV} {pl g : Nat} {fs : List PV} {ti ni di n : Nat} {w : List Nat} {lo : Bool} {ns : List PV} {x : PV} (least most : Int) (gr : Bool)
    (h : H[p]? = some (pObj codes pl fl g)) (h2 : H[fl]? = some (.list (fs ++ [.ref ti]))) (h3 : H[ti]? = some (fObj w n di ni lo)) (h4 : H[ni]? = some (.list (ns ++ [x]))) (hl : ns.length < lim) :
    acall text (d + 2) 31 [.ref p,.int least,.int most,.bool gr] H = some (.none,H.set ni (.list (ns ++ [.tup [.str [116,105,109,101,115],.int least,.int most,.bool gr,x]]))) := by
  have l0 := lk_lt h4
  have e1 := c_top d h h2
  apply a_call (fd := f_Parsing_repeat) (b := b_Parsing_repeat) (l := [some (.ref p),some (.int least),some (.int most),some (.bool gr),none]) rfl rfl rfl; delta b_Parsing_repeat
  repeat fail "ev"
end
section
set_option maxHeartbeats 4000000
theorem c_counted_12 (d : Nat) {H : AH} {p fl : Nat} {codes : List PV} {pl g : Nat} {fs : List PV} {ti ni di n : Nat} {w : List Nat} {ns : List PV} {x : PV}
    (h : H[p]? = some (pObj codes pl fl g)) (h2 : H[fl]? = some (.list (fs ++ [.ref ti]))) (h3 : H[ti]? = some (fObj w n di ni false)) (h4 : H[ni]? = some (.list (ns ++ [x]))) (hl : ns.length < lim)
    (x1 : p ≠ fl) (x2 : p ≠ ti) (x3 : p ≠ ni)
    (q0 : codes[pl]? = some (.int 49)) (q1 : codes[pl + 1]? = some (.int 44)) (q2 : codes[pl + 2]? = some (.int 50)) (q3 : codes[pl + 3]? = some (.int 92)) (q4 : codes[pl + 4]? = some (.int 125)) :
    acall text (d + 4) 38 [.ref p] H = some (.none,(H.set p (pObj codes (pl + 5) fl g)).set ni (.list (ns ++ [.tup [.str [116,105,109,101,115],.int 1,.int 2,.bool true,x]]))) := by
  have l0 := lk_lt h
  have e1 := c_bounds_12 d h q0 q1 q2 q3 q4
  have e2 := c_top (d + 2) (H := H.set p (pObj codes (pl + 5) fl g)) (lk_same l0) (lk_ne x1 h2)
  have e3 := c_repeat (d + 1) (H := H.set p (pObj codes (pl + 5) fl g)) 1 2 true (lk_same l0) (lk_ne x1 h2) (lk_ne x2 h3) (lk_ne x3 h4) hl
  apply a_call (fd := f_Parsing_counted) (b := b_Parsing_counted) (l := [some (.ref p),none,none,none]) rfl rfl rfl; delta b_Parsing_counted
  repeat fail "ev"
theorem c_counted_2 (d : Nat) {H : AH} {p fl : Nat} {codes : List PV} {pl g : Nat} {fs : List PV} {ti ni di n : Nat} {w : List Nat} {ns : List PV} {x : PV}
    (h : H[p]? = some (pObj codes pl fl g)) (h2 : H[fl]? = some (.list (fs ++ [.ref ti]))) (h3 : H[ti]? = some (fObj w n di ni false)) (h4 : H[ni]? = some (.list (ns ++ [x]))) (hl : ns.length < lim)
    (x1 : p ≠ fl) (x2 : p ≠ ti) (x3 : p ≠ ni)
    (q0 : codes[pl]? = some (.int 50)) (q1 : codes[pl + 1]? = some (.int 44)) (q2 : codes[pl + 2]? = some (.int 92)) (q3 : codes[pl + 3]? = some (.int 125)) :
    acall text (d + 4) 38 [.ref p] H = some (.none,(H.set p (pObj codes (pl + 4) fl g)).set ni (.list (ns ++ [.tup [.str [116,105,109,101,115],.int 2,.int (-1),.bool true,x]]))) := by
  have l0 := lk_lt h
  have e1 := c_bounds_2 d h q0 q1 q2 q3
  have e2 := c_top (d + 2) (H := H.set p (pObj codes (pl + 4) fl g)) (lk_same l0) (lk_ne x1 h2)
  have e3 := c_repeat (d + 1) (H := H.set p (pObj codes (pl + 4) fl g)) 2 (-1) true (lk_same l0) (lk_ne x1 h2) (lk_ne x2 h3) (lk_ne x3 h4) hl
  apply a_call (fd := f_Parsing_counted) (b := b_Parsing_counted) (l := [some (.ref p),none,none,none]) rfl rfl rfl; delta b_Parsing_counted
  repeat fail "ev"
noncomputable def Stop (s : List Nat) : Prop := s = [] ∨ ∃ c,s = [c] ∧ ([42,43,63] : List Nat).contains c = false
noncomputable def Nx (codes : List PV) (pl : Nat) (s : List Nat) : Prop := ∀ d H,acall text (d + 1) 18 [.lst codes,.int pl] H = some (.str s,H)
theorem c_repeated1 (d : Nat) {H : AH} {p fl : Nat} {codes : List PV} {pl g : Nat} {fs : List PV} {ti ni di n : Nat} {w : List Nat} {lo : Bool} {ns : List PV} {x : PV} {c : Nat} {s : List Nat} (least most : Int)
    (hc : c = 42 ∧ least = 0 ∧ most = -1 ∨ c = 43 ∧ least = 1 ∧ most = -1 ∨ c = 63 ∧ least = 0 ∧ most = 1)
    (h : H[p]? = some (pObj codes pl fl g)) (h2 : H[fl]? = some (.list (fs ++ [.ref ti]))) (h3 : H[ti]? = some (fObj w n di ni lo)) (h4 : H[ni]? = some (.list (ns ++ [x]))) (hl : ns.length < lim)
    (nx : Nx codes pl s) (st : Stop s) :
    acall text (d + 3) 30 [.ref p,.str [c]] H = some (.none,H.set ni (.list (ns ++ [.tup [.str [116,105,109,101,115],.int least,.int most,.bool true,x]]))) := by
  have e1 := c_repeat d least most true h h2 h3 h4 hl
  have e2 := nx (d + 1) H
  rcases hc with ⟨rfl,rfl,rfl⟩ | ⟨rfl,rfl,rfl⟩ | ⟨rfl,rfl,rfl⟩ <;> rcases st with rfl | ⟨c,rfl,hc⟩
  all_goals
    apply a_call (fd := f_Parsing_repeated) (b := b_Parsing_repeated) (l := [some (.ref p),some (.str [_]),none,none,none]) rfl rfl rfl; delta b_Parsing_repeated
    repeat fail "ev"
    apply x_whil fuel_eq
    · apply tb
      · repeat fail "ev"
      · repeat fail "ev"
        try apply goT (by show (!([42,43,63] : List Nat).contains c) = true; rw [hc]; rfl)
        repeat fail "ev"
    · repeat fail "ev"
    repeat fail "ev"
theorem c_repeated2 (d : Nat) {H : AH} {p fl : Nat} {codes : List PV} {pl g : Nat} {fs : List PV} {ti ni di n : Nat} {w : List Nat} {lo : Bool} {ns : List PV} {x : PV} {s : List Nat}
    (h : H[p]? = some (pObj codes pl fl g)) (h2 : H[fl]? = some (.list (fs ++ [.ref ti]))) (h3 : H[ti]? = some (fObj w n di ni lo)) (h4 : H[ni]? = some (.list (ns ++ [x]))) (hl : ns.length < lim)
    (x1 : p ≠ fl) (x2 : p ≠ ti) (x3 : p ≠ ni) (q : codes[pl]? = some (.int 63))
    (nx : Nx codes (pl + 1) s) (st : Stop s) :
    acall text (d + 3) 30 [.ref p,.str [42]] H = some (.none,(H.set p (pObj codes (pl + 1) fl g)).set ni (.list (ns ++ [.tup [.str [116,105,109,101,115],.int 0,.int (-1),.bool false,x]]))) := by
  have l0 := lk_lt h
  have e0 := c_sign_at (d + 1) (c := 63) (by decide) q H
  have e1 := c_repeat d (H := H.set p (pObj codes (pl + 1) fl g)) 0 (-1) false (lk_same l0) (lk_ne x1 h2) (lk_ne x2 h3) (lk_ne x3 h4) hl
  have e2 := nx (d + 1) (H.set p (pObj codes (pl + 1) fl g))
  rcases st with rfl | ⟨c,rfl,hc⟩
  all_goals
    apply a_call (fd := f_Parsing_repeated) (b := b_Parsing_repeated) (l := [some (.ref p),some (.str [42]),none,none,none]) rfl rfl rfl; delta b_Parsing_repeated
    repeat fail "ev"
    apply x_whil fuel_eq
    · apply tn
      · repeat fail "ev"
      · repeat fail "ev"
      apply tb
      · repeat fail "ev"
      · repeat fail "ev"
        try apply goT (by show (!([42,43,63] : List Nat).contains c) = true; rw [hc]; rfl)
        repeat fail "ev"
    · repeat fail "ev"
    repeat fail "ev"
end
section
set_option maxHeartbeats 4000000
noncomputable def Opn (H : AH) (k : Nat) (y : PV) : Prop := ∃ a w n di ni lo,y = .ref a ∧ H[a]? = some (fObj w n di ni lo) ∧ (w = [103,114,111,117,112] → n ≠ k)
theorem c_opens (cf : CF) (l : Loc) (H : AH) (k fl : Nat) (ys : List PV) (hl : 2 < l.length) (hf : H[fl]? = some (.list ys)) : ∀ (snap : List PV) (i : Nat),ys.drop i = snap → (∀ y ∈ snap,Opn H k y) →
    ∃ ws is,compL (citem text cf (.attr (.loc 2) 27) (.loc 2) (.cmp .eq (.attr (.loc 2) 26) (.str [103,114,111,117,112])) l) fl snap i H = some (ws,H) ∧ ints? ws = some is ∧ is.contains (k : Int) = false
  | [],i,hd,_ => ⟨[],[],cl_nil hf (by rw [List.getElem?_eq_none_iff]; exact List.drop_eq_nil_iff.mp hd),rfl,rfl⟩
  | v :: snap,i,hd,ho => by
    have hi : ys[i]? = some v := by rw [← List.head?_drop,hd]; rfl
    have hd' : ys.drop (i + 1) = snap := by rw [← List.tail_drop,hd]; rfl
    obtain ⟨ws,is,e1,e2,e3⟩ := c_opens cf l H k fl ys hl hf snap (i + 1) hd' (fun y hy => ho y (List.mem_cons_of_mem _ hy))
    obtain ⟨a,w,n,di,ni,lo,rfl,ha,hn⟩ := ho v List.mem_cons_self
    have l2 : (l.set 2 (some (.ref a)))[2]? = some (some (.ref a)) := lk_same hl
    have ht : aassign text cf (.loc 2) (.ref a) l H = some (l.set 2 (some (.ref a)),H) := t_loc hl
    by_cases hw : w = [103,114,111,117,112]
    · refine ⟨.int n :: ws,n :: is,cl_some hf hi (ci_some (H2 := H) ht ?_ ?_) e1,?_,?_⟩
      · subst hw; repeat fail "ev"
      · repeat fail "ev"
      · show (ints? ws).map _ = _; rw [e2]; rfl
      · show ((k : Int) == n || is.contains (k : Int)) = false
        have : (k : Int) ≠ n := fun z => hn hw (by fail "l")
        rw [e3,beq_eq_false_iff_ne.mpr this]; rfl
    · refine ⟨ws,is,cl_none hf hi (ci_none (H2 := H) ht ?_) e1,e2,e3⟩
      have hb : (w == [103,114,111,117,112]) = false := beq_eq_false_iff_ne.mpr hw
      rw [← hb]
      repeat fail "ev"
theorem c_back (d : Nat) {H : AH} {p fl : Nat} {codes : List PV} {pl g : Nat} {fs : List PV} {ti ni di n k : Nat} {w : List Nat} {lo : Bool} {ns : List PV} (hk : k ≤ g) (ho : ∀ y ∈ fs ++ [.ref ti],Opn H k y)
    (h : H[p]? = some (pObj codes pl fl g)) (h2 : H[fl]? = some (.list (fs ++ [.ref ti]))) (h3 : H[ti]? = some (fObj w n di ni lo)) (h4 : H[ni]? = some (.list ns)) (x4 : ni ≠ ti) (hl : ns.length < lim) :
    acall text (d + 2) 33 [.ref p,.int k] H = some (.none,(H.set ni (.list (ns ++ [.tup [.str [98,97,99,107],.int k]]))).set ti (fObj w n di ni false)) := by
  obtain ⟨ws,is,e1,e2,e3⟩ := c_opens (acall text (d + 1)) [some (.ref p),some (.int k),none] H k fl _ (of_decide_eq_true rfl) h2 (fs ++ [.ref ti]) 0 rfl ho
  have e4 : acmp .mem H (.int k) (.lst ws) = some false := by
    show (ints? ws).map (·.contains (k : Int)) = _; rw [e2]; exact congrArg some e3
  have tp := c_top d h h2
  have pt := c_put d (.tup [.str [98,97,99,107],.int k]) x4 h3 h4 hl
  apply a_call (fd := f_Parsing_back) (b := b_Parsing_back) (l := [some (.ref p),some (.int k),none]) rfl rfl rfl; delta b_Parsing_back
  repeat fail "ev"
end
section
set_option maxHeartbeats 4000000
theorem at_off {codes : List PV} {pl k : Nat} {v : PV} {i : Int} (h : codes[pl + k]? = some v) (hi : i = (pl : Int) + k) : at? codes i = some v := by
  subst hi; exact at_int h
theorem c_read_class (d : Nat) {codes : List PV} {p c : Nat} (h91 : c = 97 ∨ c = 98) (h : codes[p]? = some (.int c)) (H : AH) : acall text (d + 1) 3 [.lst codes,.int p] H = some (.none,H) := by
  have h5 := at_int h
  by_cases h1 : (codes.length : Int) ≤ (p : Int) + 1 <;> rcases h91 with rfl | rfl
  all_goals
    apply a_call (fd := f_read_class) (b := b_read_class) (l := [some (.lst codes),some (.int p),none,none,none]) rfl rfl rfl; delta b_read_class
    repeat fail "ev"
theorem c_read_part (d : Nat) {codes : List PV} {p c e : Nat} (hc : e = 98 ∨ e = 93) (h : codes[p]? = some (.int c)) (h2 : codes[p + 1]? = some (.int e)) (H : AH) : acall text (d + 1) 4 [.lst codes,.int p] H = some (.tup [.tup [.int c,.int c],.int (p + 1 : Nat)],H) := by
  have h5 := at_int h
  have h6 : at? codes ((p : Int) + 1) = some (.int e) := at_off (k := 1) h2 rfl
  by_cases h1 : (p : Int) + 2 < (codes.length : Int) <;> rcases hc with rfl | rfl
  all_goals
    apply a_call (fd := f_read_part) (b := b_read_part) (l := [some (.lst codes),some (.int p),none]) rfl rfl rfl; delta b_read_part
    repeat fail "ev"
theorem c_read_set_ab (d : Nat) {codes : List PV} {p : Nat} (h : codes[p]? = some (.int 97)) (h2 : codes[p + 1]? = some (.int 98)) (h3 : codes[p + 2]? = some (.int 93)) (H : AH) :
    acall text (d + 2) 5 [.lst codes,.int p] H = some (.tup [.tup [.str [115,101,116],.bool false,.tup [.tup [.int 97,.int 97],.tup [.int 98,.int 98]],.tup []],.int (p + 3 : Nat)],H ++ [.list [.tup [.int 97,.int 97],.tup [.int 98,.int 98]],.list []]) := by
  have l3 := lk_lt h3
  have a0 := at_int h
  have a1 : at? codes ((p : Int) + 1) = some (.int 98) := at_off (k := 1) h2 rfl
  have a2 : at? codes ((p : Int) + 1 + 1) = some (.int 93) := at_off (k := 2) h3 (by lia)
  have rc0 := fun H => c_read_class d (.inl rfl) h H
  have rc1 := fun H => c_read_class d (.inr rfl) h2 H
  have rp0 := fun H => c_read_part d (.inl rfl) h h2 H
  have rp1 := fun H => c_read_part d (.inr rfl) h2 h3 H
  apply a_call (fd := f_read_set) (b := b_read_set) (l := [some (.lst codes),some (.int p),none,none,none,none,none,none]) rfl rfl rfl; delta b_read_set
  repeat fail "ev"
  · apply x_whilR fuel_eq
    apply tn
    · repeat fail "ev"
    · repeat fail "ev"
      · exact rc0 _
      repeat fail "ev"
      · exact rp0 _
      repeat fail "ev"
    apply tn
    · repeat fail "ev"
    · repeat fail "ev"
      · exact rc1 _
      repeat fail "ev"
      · exact rp1 _
      repeat fail "ev"
    apply tr
    · repeat fail "ev"
    repeat fail "ev"
  repeat fail "ev"
theorem c_read_set_na (d : Nat) {codes : List PV} {p : Nat} (h : codes[p]? = some (.int 94)) (h2 : codes[p + 1]? = some (.int 97)) (h3 : codes[p + 2]? = some (.int 93)) (H : AH) :
    acall text (d + 2) 5 [.lst codes,.int p] H = some (.tup [.tup [.str [115,101,116],.bool true,.tup [.tup [.int 97,.int 97]],.tup []],.int (p + 3 : Nat)],H ++ [.list [.tup [.int 97,.int 97]],.list []]) := by
  have l3 := lk_lt h3
  have a0 := at_int h
  have a1 : at? codes ((p : Int) + 1) = some (.int 97) := at_off (k := 1) h2 rfl
  have a2 : at? codes ((p : Int) + 1 + 1) = some (.int 93) := at_off (k := 2) h3 (by lia)
  have rc1 := fun H => c_read_class d (.inl rfl) h2 H
  have rp1 := fun H => c_read_part d (.inr rfl) h2 h3 H
  apply a_call (fd := f_read_set) (b := b_read_set) (l := [some (.lst codes),some (.int p),none,none,none,none,none,none]) rfl rfl rfl; delta b_read_set
  repeat fail "ev"
  · apply x_whilR fuel_eq
    apply tn
    · repeat fail "ev"
    · repeat fail "ev"
      · exact rc1 _
      repeat fail "ev"
      · exact rp1 _
      repeat fail "ev"
    apply tr
    · repeat fail "ev"
    repeat fail "ev"
  repeat fail "ev"
end
section
set_option maxHeartbeats 4000000
section
variable {d : Nat} {H H' : AH} {p fl : Nat} {codes : List PV} {pl g : Nat} {fs : List PV} {ti ni di n : Nat} {w : List Nat} {lo : Bool} {ns dn : List PV}
theorem c_step_esc {c : Nat} (hc : c < 128) (h : H[p]? = some (pObj codes pl fl g)) (q0 : codes[pl]? = some (.int 92)) (q1 : codes[pl + 1]? = some (.int c))
    (k : acall text (d + 1) 32 [.ref p,.str [c]] (H.set p (pObj codes (pl + 2) fl g)) = some (.none,H')) : acall text (d + 2) 29 [.ref p] H = some (.none,H') := by
  have l0 := lk_lt h
  have e1 := c_sign d (c := 92) (by decide) h q0
  have e2 := c_sign d (H := H.set p (pObj codes (pl + 1) fl g)) hc (lk_same l0) q1
  rw [set_set] at e2
  apply a_call (fd := f_Parsing_step) (b := b_Parsing_step) (l := [some (.ref p),none,none]) rfl rfl rfl; delta b_Parsing_step
  repeat fail "ev"
theorem c_esc_open (h : H[p]? = some (pObj codes pl fl g)) (k : acall text d 34 [.ref p] H = some (.none,H')) : acall text (d + 1) 32 [.ref p,.str [40]] H = some (.none,H') := by
  apply a_call (fd := f_Parsing_escaped) (b := b_Parsing_escaped) (l := [some (.ref p),some (.str [40]),none]) rfl rfl rfl; delta b_Parsing_escaped
  repeat fail "ev"
theorem c_esc_close (h : H[p]? = some (pObj codes pl fl g)) (k : acall text d 35 [.ref p] H = some (.none,H')) : acall text (d + 1) 32 [.ref p,.str [41]] H = some (.none,H') := by
  apply a_call (fd := f_Parsing_escaped) (b := b_Parsing_escaped) (l := [some (.ref p),some (.str [41]),none]) rfl rfl rfl; delta b_Parsing_escaped
  repeat fail "ev"
theorem c_esc_part (h : H[p]? = some (pObj codes pl fl g)) (h2 : H[fl]? = some (.list (fs ++ [.ref ti]))) (h3 : H[ti]? = some (fObj w n di ni lo)) (k : acall text (d + 1) 23 [.ref ti] H = some (.none,H')) : acall text (d + 2) 32 [.ref p,.str [124]] H = some (.none,H') := by
  have e1 := c_top d h h2
  apply a_call (fd := f_Parsing_escaped) (b := b_Parsing_escaped) (l := [some (.ref p),some (.str [124]),none]) rfl rfl rfl; delta b_Parsing_escaped
  repeat fail "ev"
theorem c_esc_count (h : H[p]? = some (pObj codes pl fl g)) (k : acall text d 38 [.ref p] H = some (.none,H')) : acall text (d + 1) 32 [.ref p,.str [123]] H = some (.none,H') := by
  apply a_call (fd := f_Parsing_escaped) (b := b_Parsing_escaped) (l := [some (.ref p),some (.str [123]),none]) rfl rfl rfl; delta b_Parsing_escaped
  repeat fail "ev"
theorem c_esc_back {m : Nat} (h1 : 1 ≤ m) (h9 : m ≤ 9) (h : H[p]? = some (pObj codes pl fl g)) (k : acall text d 33 [.ref p,.int m] H = some (.none,H')) : acall text (d + 1) 32 [.ref p,.str [48 + m]] H = some (.none,H') := by
  have ne : ∀ x,x < 49 ∨ 57 < x → (([48 + m] : List Nat) == [x]) = false := fun x hx => beq_eq_false_iff_ne.mpr (by intro z; injection z with z; fail "l")
  have me : ([49,50,51,52,53,54,55,56,57] : List Nat).contains (48 + m) = true := by
    have : m = 1 ∨ m = 2 ∨ m = 3 ∨ m = 4 ∨ m = 5 ∨ m = 6 ∨ m = 7 ∨ m = 8 ∨ m = 9 := by fail "l"
    rcases this with rfl | rfl | rfl | rfl | rfl | rfl | rfl | rfl | rfl <;> rfl
  have sb : ((48 + m : Nat) : Int) - 48 = m := by fail "l"
  rw [← sb] at k
  apply a_call (fd := f_Parsing_escaped) (b := b_Parsing_escaped) (l := [some (.ref p),some (.str [48 + m]),none]) rfl rfl rfl; delta b_Parsing_escaped
  repeat fail "ev"
  apply goF (ne _ (by decide))
  repeat fail "ev"
  apply goF (ne _ (by decide))
  repeat fail "ev"
  apply goF (ne _ (by decide))
  repeat fail "ev"
  apply goF (ne _ (by decide))
  repeat fail "ev"
  exact goT me (by repeat fail "ev")
  repeat fail "ev"
theorem c_step_sign {c : Nat} (hc : c = 97 ∨ c = 98 ∨ c = 65)
    (h : H[p]? = some (pObj codes pl fl g)) (h2 : H[fl]? = some (.list (fs ++ [.ref ti]))) (h3 : H[ti]? = some (fObj w n di ni lo)) (h4 : H[ni]? = some (.list ns)) (q : codes[pl]? = some (.int c))
    (x1 : p ≠ fl) (x2 : p ≠ ti) (x3 : p ≠ ni) (x4 : ni ≠ ti) (hl : ns.length < lim) :
    acall text (d + 2) 29 [.ref p] H = some (.none,((H.set p (pObj codes (pl + 1) fl g)).set ni (.list (ns ++ [.tup [.str [99,104,97,114],.int c]]))).set ti (fObj w n di ni false)) := by
  have l0 := lk_lt h
  have e1 := c_sign d (c := c) (by fail "l") h q
  have tp := c_top d (H := H.set p (pObj codes (pl + 1) fl g)) (lk_same l0) (lk_ne x1 h2)
  have pt := c_put d (H := H.set p (pObj codes (pl + 1) fl g)) (.tup [.str [99,104,97,114],.int c]) x4 (lk_ne x2 h3) (lk_ne x3 h4) hl
  rcases hc with rfl | rfl | rfl
  all_goals
    apply a_call (fd := f_Parsing_step) (b := b_Parsing_step) (l := [some (.ref p),none,none]) rfl rfl rfl; delta b_Parsing_step
    repeat fail "ev"
theorem c_step_any
    (h : H[p]? = some (pObj codes pl fl g)) (h2 : H[fl]? = some (.list (fs ++ [.ref ti]))) (h3 : H[ti]? = some (fObj w n di ni lo)) (h4 : H[ni]? = some (.list ns)) (q : codes[pl]? = some (.int 46))
    (x1 : p ≠ fl) (x2 : p ≠ ti) (x3 : p ≠ ni) (x4 : ni ≠ ti) (hl : ns.length < lim) :
    acall text (d + 2) 29 [.ref p] H = some (.none,((H.set p (pObj codes (pl + 1) fl g)).set ni (.list (ns ++ [.tup [.str [97,110,121]]]))).set ti (fObj w n di ni false)) := by
  have l0 := lk_lt h
  have e1 := c_sign d (c := 46) (by fail "l") h q
  have tp := c_top d (H := H.set p (pObj codes (pl + 1) fl g)) (lk_same l0) (lk_ne x1 h2)
  have pt := c_put d (H := H.set p (pObj codes (pl + 1) fl g)) (.tup [.str [97,110,121]]) x4 (lk_ne x2 h3) (lk_ne x3 h4) hl
  apply a_call (fd := f_Parsing_step) (b := b_Parsing_step) (l := [some (.ref p),none,none]) rfl rfl rfl; delta b_Parsing_step
  repeat fail "ev"
theorem c_step_set {x : PV} {m : Nat} {r1 r2 : AObj} (rs : ∀ H,acall text (d + 2) 5 [.lst codes,.int (pl + 1 : Nat)] H = some (.tup [x,.int (m : Nat)],H ++ [r1,r2]))
    (h : H[p]? = some (pObj codes pl fl g)) (h2 : H[fl]? = some (.list (fs ++ [.ref ti]))) (h3 : H[ti]? = some (fObj w n di ni lo)) (h4 : H[ni]? = some (.list ns)) (q : codes[pl]? = some (.int 91))
    (x1 : p ≠ fl) (x2 : p ≠ ti) (x3 : p ≠ ni) (x4 : ni ≠ ti) (hl : ns.length < lim) :
    acall text (d + 3) 29 [.ref p] H = some (.none,(((H.set p (pObj codes (pl + 1) fl g) ++ [r1,r2]).set p (pObj codes m fl g)).set ni (.list (ns ++ [x]))).set ti (fObj w n di ni false)) := by
  have l0 := lk_lt h
  have e1 := c_sign (d + 1) (c := 91) (by fail "l") h q
  have l1 : p < (H.set p (pObj codes (pl + 1) fl g) ++ [r1,r2]).length := lt_app (lt_set l0)
  have tp := c_top (d + 1) (H := (H.set p (pObj codes (pl + 1) fl g) ++ [r1,r2]).set p (pObj codes m fl g)) (lk_same l1) (lk_ne x1 (lk_app (lk_ne x1 h2)))
  have pt := c_put (d + 1) (H := (H.set p (pObj codes (pl + 1) fl g) ++ [r1,r2]).set p (pObj codes m fl g)) x x4 (lk_ne x2 (lk_app (lk_ne x2 h3))) (lk_ne x3 (lk_app (lk_ne x3 h4))) hl
  apply a_call (fd := f_Parsing_step) (b := b_Parsing_step) (l := [some (.ref p),none,none]) rfl rfl rfl; delta b_Parsing_step
  repeat fail "ev"
  exact rs _
  repeat fail "ev"
theorem c_step_rep {c : Nat} (hc : c = 42 ∨ c = 43 ∨ c = 63)
    (h : H[p]? = some (pObj codes pl fl g)) (h2 : H[fl]? = some (.list (fs ++ [.ref ti]))) (h3 : H[ti]? = some (fObj w n di ni false)) (q : codes[pl]? = some (.int c))
    (x1 : p ≠ fl) (x2 : p ≠ ti) (k : acall text (d + 1) 30 [.ref p,.str [c]] (H.set p (pObj codes (pl + 1) fl g)) = some (.none,H')) :
    acall text (d + 2) 29 [.ref p] H = some (.none,H') := by
  have l0 := lk_lt h
  have e1 := c_sign d (c := c) (by fail "l") h q
  have tp := c_top d (H := H.set p (pObj codes (pl + 1) fl g)) (lk_same l0) (lk_ne x1 h2)
  rcases hc with rfl | rfl | rfl
  all_goals
    apply a_call (fd := f_Parsing_step) (b := b_Parsing_step) (l := [some (.ref p),none,none]) rfl rfl rfl; delta b_Parsing_step
    repeat fail "ev"
end
end
section
set_option maxHeartbeats 4000000
structure PSt (H : AH) (p fl ti di ni : Nat) (codes : List PV) (pl g : Nat) (fs : List PV) (w : List Nat) (n : Nat) (dn ns : List PV) (lo : Bool) : Prop where
  hp : H[p]? = some (pObj codes pl fl g)
  hf : H[fl]? = some (.list (fs ++ [.ref ti]))
  ht : H[ti]? = some (fObj w n di ni lo)
  hd : H[di]? = some (.list dn)
  hn : H[ni]? = some (.list ns)
  nd : p ≠ fl ∧ p ≠ ti ∧ p ≠ di ∧ p ≠ ni ∧ fl ≠ ti ∧ fl ≠ di ∧ fl ≠ ni ∧ ti ≠ di ∧ ti ≠ ni ∧ di ≠ ni
structure Keep (S : List Nat) (H H' : AH) : Prop where
  len : H.length ≤ H'.length
  get : ∀ i o,H[i]? = some o → i ∉ S → H'[i]? = some o
theorem Keep.refl {S H} : Keep S H H := ⟨Nat.le_refl _,fun Y Y h Y => h⟩
theorem Keep.trans {S H H1 H2} (a : Keep S H H1) (b : Keep S H1 H2) : Keep S H H2 := ⟨Nat.le_trans a.len b.len,fun i o h n => b.get i o (a.get i o h n) n⟩
theorem Keep.trans' {S S' H H1 H2} (a : Keep S H H1) (b : Keep S' H1 H2) (h : ∀ i ∈ S',i ∈ S ∨ H.length ≤ i) : Keep S H H2 :=
  ⟨Nat.le_trans a.len b.len,fun i o e n => b.get i o (a.get i o e n) fun z => (h i z).elim n fun q => absurd (lk_lt e) (Nat.not_lt.mpr q)⟩
theorem Keep.set {S H i o} (h : i ∈ S) : Keep S H (H.set i o) := ⟨by rw [List.length_set]; exact Nat.le_refl _,fun j q e n => lk_ne (fun z => n (z ▸ h)) e⟩
theorem Keep.app {S : List Nat} {H r : AH} : Keep S H (H ++ r) := ⟨by rw [List.length_append]; exact Nat.le_add_right ..,fun j q e n => lk_app e⟩
section
variable {H : AH} {p fl ti di ni : Nat} {codes : List PV} {pl g : Nat} {fs : List PV} {w : List Nat} {n : Nat} {dn ns : List PV} {lo : Bool}
theorem PSt.apart {Q : Prop} (s : PSt H p fl ti di ni codes pl g fs w n dn ns lo) (k : p ≠ fl → p ≠ ti → p ≠ di → p ≠ ni → fl ≠ ti → fl ≠ di → fl ≠ ni → ti ≠ di → ti ≠ ni → di ≠ ni → Q) : Q :=
  have z := s.nd
  k z.1 z.2.1 z.2.2.1 z.2.2.2.1 z.2.2.2.2.1 z.2.2.2.2.2.1 z.2.2.2.2.2.2.1 z.2.2.2.2.2.2.2.1 z.2.2.2.2.2.2.2.2.1 z.2.2.2.2.2.2.2.2.2
theorem PSt.all {Q : Prop} (s : PSt H p fl ti di ni codes pl g fs w n dn ns lo) (k : H[p]? = some (pObj codes pl fl g) → H[fl]? = some (.list (fs ++ [.ref ti])) → H[ti]? = some (fObj w n di ni lo) → H[di]? = some (.list dn) → H[ni]? = some (.list ns) →
    p ≠ fl → p ≠ ti → p ≠ di → p ≠ ni → fl ≠ ti → fl ≠ di → fl ≠ ni → ti ≠ di → ti ≠ ni → di ≠ ni → Q) : Q := s.apart (k s.hp s.hf s.ht s.hd s.hn)
theorem PSt.put (s : PSt H p fl ti di ni codes pl g fs w n dn ns lo) (pl' : Nat) (x : PV) :
    PSt (((H.set p (pObj codes pl' fl g)).set ni (.list (ns ++ [x]))).set ti (fObj w n di ni false)) p fl ti di ni codes pl' g fs w n dn (ns ++ [x]) false := by
  refine s.all fun h1 h2 h3 h4 h5 a b c d e f k m q r => ?_
  clear s
  have l1 := lk_lt h1
  have l3 := lk_lt h3
  have l5 := lk_lt h5
  constructor <;> first | exact ⟨a,b,c,d,e,f,k,m,q,r⟩ | repeat fail "ev"
theorem PSt.putA (s : PSt H p fl ti di ni codes pl g fs w n dn ns lo) (X : AH) (P1 : AObj) (pl' : Nat) (x : PV) :
    PSt ((((H.set p P1 ++ X).set p (pObj codes pl' fl g)).set ni (.list (ns ++ [x]))).set ti (fObj w n di ni false)) p fl ti di ni codes pl' g fs w n dn (ns ++ [x]) false := by
  refine s.all fun h1 h2 h3 h4 h5 a b c d e f k m q r => ?_
  clear s
  have l1 := lk_lt h1
  have l3 := lk_lt h3
  have l5 := lk_lt h5
  constructor <;> first | exact ⟨a,b,c,d,e,f,k,m,q,r⟩ | repeat fail "ev"
theorem PSt.rep {x : PV} (s : PSt H p fl ti di ni codes pl g fs w n dn (ns ++ [x]) lo) (pl' : Nat) (y : PV) :
    PSt ((H.set p (pObj codes pl' fl g)).set ni (.list (ns ++ [y]))) p fl ti di ni codes pl' g fs w n dn (ns ++ [y]) lo := by
  refine s.all fun h1 h2 h3 h4 h5 a b c d e f k m q r => ?_
  clear s
  have l1 := lk_lt h1
  have l3 := lk_lt h3
  have l5 := lk_lt h5
  constructor <;> first | exact ⟨a,b,c,d,e,f,k,m,q,r⟩ | repeat fail "ev"
theorem PSt.open (s : PSt H p fl ti di ni codes pl g fs w n dn ns lo) (pl' g' : Nat) (w' : List Nat) (n' : Nat) :
    PSt ((H.set p (pObj codes pl' fl g') ++ [fObj w' n' (H.length + 1) (H.length + 2) true,.list [],.list []]).set fl (.list ((fs ++ [.ref ti]) ++ [.ref H.length]))) p fl H.length (H.length + 1) (H.length + 2) codes pl' g' (fs ++ [.ref ti]) w' n' [] [] true := by
  refine s.all fun h1 h2 h3 h4 h5 a b c d e f k m q r => ?_
  clear s
  have l1 := lk_lt h1
  have l2 := lk_lt h2
  have ln : (H.set p (pObj codes pl' fl g')).length = H.length := List.length_set
  constructor
  · repeat fail "ev"
  · repeat fail "ev"
  · apply lk_ne (Nat.ne_of_lt l2)
    rw [← ln]; exact lk_new
  · apply lk_ne (Nat.ne_of_lt (by fail "l"))
    rw [← ln]; exact lk_at rfl
  · apply lk_ne (Nat.ne_of_lt (by fail "l"))
    rw [← ln]; exact lk_at rfl
  · exact ⟨a,Nat.ne_of_lt l1,Nat.ne_of_lt (Nat.lt_succ_of_lt l1),Nat.ne_of_lt (Nat.lt_succ_of_lt (Nat.lt_succ_of_lt l1)),Nat.ne_of_lt l2,Nat.ne_of_lt (Nat.lt_succ_of_lt l2),Nat.ne_of_lt (Nat.lt_succ_of_lt (Nat.lt_succ_of_lt l2)),Nat.ne_of_lt (Nat.lt_succ_self _),Nat.ne_of_lt (Nat.lt_succ_of_lt (Nat.lt_succ_self _)),Nat.ne_of_lt (Nat.lt_succ_self _)⟩
theorem PSt.part (s : PSt H p fl ti di ni codes pl g fs w n dn ns lo) (pl' : Nat) (y : PV) :
    PSt ((((H.set p (pObj codes pl' fl g)).set di (.list (dn ++ [y]))) ++ [AObj.list []]).set ti (fObj w n di H.length true)) p fl ti di H.length codes pl' g fs w n (dn ++ [y]) [] true := by
  refine s.all fun h1 h2 h3 h4 h5 a b c d e f k m q r => ?_
  clear s
  have l1 := lk_lt h1
  have l2 := lk_lt h2
  have l3 := lk_lt h3
  have l4 := lk_lt h4
  have ln : ((H.set p (pObj codes pl' fl g)).set di (.list (dn ++ [y]))).length = H.length := by rw [List.length_set,List.length_set]
  constructor
  · repeat fail "ev"
  · repeat fail "ev"
  · repeat fail "ev"
  · repeat fail "ev"
  · apply lk_ne (Nat.ne_of_lt l3)
    conv => lhs; arg 2; rw [← ln]
    exact lk_new
  · exact ⟨a,b,c,Nat.ne_of_lt l1,e,f,Nat.ne_of_lt l2,m,Nat.ne_of_lt l3,Nat.ne_of_lt l4⟩
end
end
section
set_option maxHeartbeats 4000000
inductive Re where
  | sign (c : Nat)
  | any
  | ins
  | out
  | again (n : Nat)
  | either (a b : Re)
  | group (n : Nat) (a : Re)
  | often (k : Nat) (a : Re)
  | both (a b : Re)
noncomputable def Re.ctorIdx (x : Re) : Nat := x.casesOn (fun Y => 0) 1 2 3 (fun Y => 4) (fun Y Y => 5) (fun Y Y => 6) (fun Y Y => 7) fun Y Y => 8
noncomputable def oft : Nat → Int × Int × Bool × List Nat
  | 0 => (0,-1,true,[42])
  | 1 => (1,-1,true,[43])
  | 2 => (0,1,true,[63])
  | 3 => (0,-1,false,[42,63])
  | 4 => (1,2,true,[92,123,49,44,50,92,125])
  | _ => (2,-1,true,[92,123,50,44,92,125])
noncomputable def Re.pat : Re → List Nat
  | .sign c => [c]
  | .any => [46]
  | .ins => [91,97,98,93]
  | .out => [91,94,97,93]
  | .again n => [92,48 + n]
  | .either a b => [92,40,63,58] ++ (a.pat ++ ([92,124] ++ (b.pat ++ [92,41])))
  | .group _ a => [92,40] ++ (a.pat ++ [92,41])
  | .often k a => [92,40,63,58] ++ (a.pat ++ ([92,41] ++ (oft k).2.2.2))
  | .both a b => a.pat ++ b.pat
inductive WF : Nat → List Nat → Re → Nat → List Nat → Prop
  | sign {g cl c} : c = 97 ∨ c = 98 ∨ c = 65 → WF g cl (.sign c) g cl
  | any {g cl} : WF g cl .any g cl
  | ins {g cl} : WF g cl .ins g cl
  | out {g cl} : WF g cl .out g cl
  | again {g cl n} : n ∈ cl → WF g cl (.again n) g cl
  | either {g cl a g1 cl1 b g2 cl2} : WF g cl a g1 cl1 → WF g1 cl1 b g2 cl2 → WF g cl (.either a b) g2 cl2
  | group {g cl a g1 cl1} : WF (g + 1) cl a g1 cl1 → WF g cl (.group (g + 1) a) g1 (cl1 ++ [g + 1])
  | often {g cl k a g1 cl1} : k < 6 → WF g cl a g1 cl1 → WF g cl (.often k a) g1 cl1
  | both {g cl a g1 cl1 b g2 cl2} : WF g cl a g1 cl1 → WF g1 cl1 b g2 cl2 → WF g cl (.both a b) g2 cl2
noncomputable def Re.fl : Re → List PV
  | .sign c => [.tup [.str [99,104,97,114],.int c]]
  | .any => [.tup [.str [97,110,121]]]
  | .ins => [.tup [.str [115,101,116],.bool false,.tup [.tup [.int 97,.int 97],.tup [.int 98,.int 98]],.tup []]]
  | .out => [.tup [.str [115,101,116],.bool true,.tup [.tup [.int 97,.int 97]],.tup []]]
  | .again n => [.tup [.str [98,97,99,107],.int n]]
  | .either a b => [.tup [.str [115,104,121],.tup [.str [97,108,116],.tup [join a.fl,join b.fl]]]]
  | .group n a => [.tup [.str [103,114,111,117,112],.int n,join a.fl]]
  | .often k a => [.tup [.str [116,105,109,101,115],.int (oft k).1,.int (oft k).2.1,.bool (oft k).2.2.1,.tup [.str [115,104,121],join a.fl]]]
  | .both a b => a.fl ++ b.fl
theorem Re.fl_ne : ∀ r : Re,r.fl ≠ []
  | .sign _ => List.cons_ne_nil _ _
  | .any => List.cons_ne_nil _ _
  | .ins => List.cons_ne_nil _ _
  | .out => List.cons_ne_nil _ _
  | .again _ => List.cons_ne_nil _ _
  | .either _ _ => List.cons_ne_nil _ _
  | .group _ _ => List.cons_ne_nil _ _
  | .often _ _ => List.cons_ne_nil _ _
  | .both a b => List.append_ne_nil_of_left_ne_nil a.fl_ne _
theorem Re.fl_len : ∀ r : Re,r.fl.length ≤ r.pat.length
  | .sign _ => Nat.le_refl _
  | .any => Nat.le_refl _
  | .ins => Nat.le_add_left 1 3
  | .out => Nat.le_add_left 1 3
  | .again _ => Nat.le_succ _
  | .either _ _ => Nat.succ_le_succ (Nat.zero_le _)
  | .group _ _ => Nat.succ_le_succ (Nat.zero_le _)
  | .often _ _ => Nat.succ_le_succ (Nat.zero_le _)
  | .both a b => by show (a.fl ++ b.fl).length ≤ (a.pat ++ b.pat).length; rw [List.length_append,List.length_append]; exact Nat.add_le_add a.fl_len b.fl_len
noncomputable def Has (codes : List PV) (pl : Nat) (s : List Nat) : Prop := ∀ (i c : Nat),s[i]? = some c → codes[pl + i]? = some (.int c)
theorem Has.left {codes pl a b} (h : Has codes pl (a ++ b)) : Has codes pl a := fun i c e => h i c (lk_app e)
theorem Has.right {codes pl a b} (h : Has codes pl (a ++ b)) : Has codes (pl + a.length) b := fun i c e => by rw [Nat.add_assoc]; exact h _ c (lk_at e)
noncomputable def Ends (codes : List PV) (pl : Nat) : Prop := ∃ s,Nx codes pl s ∧ Stop s
theorem ends_of {codes : List PV} {pl c : Nat} (h : codes[pl]? = some (.int c)) (hc : c < 128) (hs : ([42,43,63] : List Nat).contains c = false) : Ends codes pl := ⟨[c],fun d H => c_sign_at d hc h H,.inr ⟨c,rfl,hs⟩⟩
theorem ends_end {codes : List PV} {pl : Nat} (h : codes.length ≤ pl) : Ends codes pl := ⟨[],fun d H => c_sign_end d h H,.inl rfl⟩
theorem Re.first {r : Re} {g cl g' cl'} (h : WF g cl r g' cl') : ∃ c,r.pat[0]? = some c ∧ c < 128 ∧ ([42,43,63] : List Nat).contains c = false := by
  induction h with
  | sign h => exact ⟨_,rfl,by lia,by rcases h with rfl | rfl | rfl <;> rfl⟩
  | both _ _ a => obtain ⟨c,h1,h2⟩ := a; exact ⟨c,lk_app h1,h2⟩
  | any => exact ⟨46,rfl,by decide,rfl⟩
  | ins => exact ⟨91,rfl,by decide,rfl⟩
  | out => exact ⟨91,rfl,by decide,rfl⟩
  | _ => exact ⟨92,rfl,by decide,rfl⟩
theorem WF.grow {g cl r g' cl'} (h : WF g cl r g' cl') : g ≤ g' ∧ ∀ k ∈ cl',k ∈ cl ∨ (g < k ∧ k ≤ g') := by
  induction h with
  | either _ _ a b | both _ _ a b =>
    refine ⟨Nat.le_trans a.1 b.1,fun k hk => ?_⟩
    rcases b.2 k hk with q | q
    · exact (a.2 k q).imp id fun q => ⟨q.1,Nat.le_trans q.2 b.1⟩
    · exact .inr ⟨Nat.lt_of_le_of_lt a.1 q.1,q.2⟩
  | group _ a =>
    refine ⟨Nat.le_of_succ_le a.1,fun k hk => ?_⟩
    rcases List.mem_append.mp hk with q | q
    · exact (a.2 k q).imp id fun q => ⟨Nat.lt_of_succ_lt q.1,q.2⟩
    · exact .inr (by rw [List.mem_singleton.mp q]; exact ⟨Nat.lt_succ_self _,a.1⟩)
  | often _ _ a => exact a
  | _ => exact ⟨Nat.le_refl _,fun k hk => .inl hk⟩
noncomputable def Fo (H : AH) (g : Nat) (cl : List Nat) (y : PV) : Prop := ∃ a w n di ni lo,y = .ref a ∧ H[a]? = some (fObj w n di ni lo) ∧ (w = [103,114,111,117,112] → n ≤ g ∧ n ∉ cl)
theorem Fo.opn {H g cl y k} (h : Fo H g cl y) (hk : k ∈ cl) : Opn H k y := by
  obtain ⟨a,w,n,di,ni,lo,h1,h2,h3⟩ := h
  exact ⟨a,w,n,di,ni,lo,h1,h2,fun z e => (h3 z).2 (e ▸ hk)⟩
noncomputable def FK (H H' : AH) : Prop := ∀ (a : Nat) (w : List Nat) (n di ni : Nat) (lo : Bool),H[a]? = some (fObj w n di ni lo) → ∃ (di' ni' : Nat) (lo' : Bool),H'[a]? = some (fObj w n di' ni' lo')
theorem Fo.step {H H' g g' cl cl' y} (h : Fo H g cl y) (k : FK H H') (q : g ≤ g' ∧ ∀ k ∈ cl',k ∈ cl ∨ (g < k ∧ k ≤ g')) : Fo H' g' cl' y := by
  obtain ⟨a,w,n,di,ni,lo,h1,h2,h3⟩ := h
  obtain ⟨di',ni',lo',e⟩ := k _ _ _ _ _ _ h2
  refine ⟨a,w,n,di',ni',lo',h1,e,fun z => ⟨Nat.le_trans (h3 z).1 q.1,fun m => ?_⟩⟩
  rcases q.2 n m with m | m
  · exact (h3 z).2 m
  · exact absurd (h3 z).1 (Nat.not_le.mpr m.1)
theorem fk_of {S : List Nat} {H H' : AH} {p fl ti di ni codes pl g fs w n dn ns lo di' ni' pl' g' fs' dn' ns' lo'} (a : PSt H p fl ti di ni codes pl g fs w n dn ns lo) (b : PSt H' p fl ti di' ni' codes pl' g' fs' w n dn' ns' lo') (k : Keep S H H')
    (hs : ∀ i ∈ S,i = p ∨ i = fl ∨ i = ti ∨ i = ni ∨ i = di) : FK H H' := fun x w' n' di2 ni2 lo2 e => by
  by_cases hx : x ∈ S
  · rcases hs x hx with rfl | rfl | rfl | rfl | rfl
    · rw [a.hp] at e; cases e
    · rw [a.hf] at e; cases e
    · rw [a.ht] at e; cases e; exact ⟨_,_,_,b.ht⟩
    · rw [a.hn] at e; cases e
    · rw [a.hd] at e; fail "=e"
  · exact ⟨_,_,_,k.get _ _ e hx⟩
end
section
set_option maxHeartbeats 4000000
noncomputable def whC : X := .cmp .lt (.attr (.loc 0) 1) (.callB .len [.attr (.loc 0) 31])
noncomputable def whB : List S := [.expr (.callM (.loc 0) 33 [])]
noncomputable def Go (d p : Nat) (H H' : AH) (k : Nat) : Prop := ∀ n,turns (wstep text (acall text d) whC whB) (n + k) [some (.ref p)] H = turns (wstep text (acall text d) whC whB) n [some (.ref p)] H'
theorem Go.trans {d p H H1 H2 a b} (x : Go d p H H1 a) (y : Go d p H1 H2 b) : Go d p H H2 (b + a) := fun n => by rw [← Nat.add_assoc,x,y]
theorem Go.step {d p : Nat} {H H' : AH} {codes : List PV} {pl fl g : Nat} (h : H[p]? = some (pObj codes pl fl g)) (hl : pl < codes.length) (e : acall text d 29 [.ref p] H = some (.none,H')) : Go d p H H' 1 := fun n => by
  unfold whC whB
  apply tn
  · repeat fail "ev"
    show some (decide ((pl : Int) < (codes.length : Int))) = some true; rw [decide_eq_true (by lia)]
  · repeat fail "ev"
  · rfl
section
variable {d : Nat} {H : AH} {p fl ti di ni : Nat} {codes : List PV} {pl g : Nat} {fs : List PV} {w : List Nat} {n : Nat} {dn ns : List PV} {lo : Bool}
theorem keep_put {P N T : AObj} : Keep [p,fl,ti,ni] H (((H.set p P).set ni N).set ti T) :=
  (Keep.set (.head _)).trans ((Keep.set (.tail _ (.tail _ (.tail _ (.head _))))).trans (Keep.set (.tail _ (.tail _ (.head _)))))
theorem Has.at {s : List Nat} (h : Has codes pl s) (i : Nat) {c : Nat} (e : s[i]? = some c) : codes[pl + i]? = some (.int c) := h i c e
noncomputable def Done (d : Nat) (H : AH) (p fl ti di ni : Nat) (codes : List PV) (pl' g' : Nat) (fs : List PV) (w : List Nat) (n : Nat) (dn ns' : List PV) (m : Nat) : Prop :=
  ∀ Q : Prop,(∀ H' k,k ≤ m → Go d p H H' k → PSt H' p fl ti di ni codes pl' g' fs w n dn ns' false → Keep [p,fl,ti,ni] H H' → Q) → Q
theorem done_put {pl' m : Nat} {x : PV} (s : PSt H p fl ti di ni codes pl g fs w n dn ns lo) (h : pl < codes.length) (hm : 1 ≤ m)
    (e : acall text d 29 [.ref p] H = some (.none,((H.set p (pObj codes pl' fl g)).set ni (.list (ns ++ [x]))).set ti (fObj w n di ni false))) : Done d H p fl ti di ni codes pl' g fs w n dn (ns ++ [x]) m :=
  fun Q q => q _ 1 hm (Go.step s.hp h e) (s.put pl' x) keep_put
theorem done_putA {pl' m : Nat} {x : PV} {P1 : AObj} {X : AH} (s : PSt H p fl ti di ni codes pl g fs w n dn ns lo) (h : pl < codes.length) (hm : 1 ≤ m)
    (e : acall text d 29 [.ref p] H = some (.none,(((H.set p P1 ++ X).set p (pObj codes pl' fl g)).set ni (.list (ns ++ [x]))).set ti (fObj w n di ni false))) : Done d H p fl ti di ni codes pl' g fs w n dn (ns ++ [x]) m :=
  fun Q q => q _ 1 hm (Go.step s.hp h e) (s.putA X P1 pl' x) ((Keep.set (.head _)).trans (Keep.app.trans keep_put))
theorem done_rep {pl' m : Nat} {x y : PV} (s : PSt H p fl ti di ni codes pl g fs w n dn (ns ++ [x]) false) (h : pl < codes.length) (hm : 1 ≤ m)
    (e : acall text d 29 [.ref p] H = some (.none,(H.set p (pObj codes pl' fl g)).set ni (.list (ns ++ [y])))) : Done d H p fl ti di ni codes pl' g fs w n dn (ns ++ [y]) m :=
  fun Q q => q _ 1 hm (Go.step s.hp h e) (s.rep pl' y) ((Keep.set (.head _)).trans (Keep.set (.tail _ (.tail _ (.tail _ (.head _))))))
theorem open_shy (s : PSt H p fl ti di ni codes pl g fs w n dn ns lo) (h : Has codes pl [92,40,63,58]) (hl : (fs ++ [PV.ref ti]).length < lim) :
    ∀ Q : Prop,(∀ H1,Go (d + 6) p H H1 1 → PSt H1 p fl H.length (H.length + 1) (H.length + 2) codes (pl + 4) g (fs ++ [.ref ti]) [115,104,121] 0 [] [] true → Keep [p,fl] H H1 → Q) → Q := fun Kq kq => by
  have l0 := lk_lt s.hp
  have q0 := h.at 0 rfl
  refine kq _ (Go.step s.hp (lk_lt q0) (c_step_esc (d := d + 4) (c := 40) (by decide) s.hp q0 (h.at 1 rfl) (c_esc_open (lk_same l0) (c_opened_shy (d + 1) s.nd.1 (lk_same l0) (lk_ne s.nd.1 s.hf) (h.at 2 rfl) (h.at 3 rfl) hl)))) ?_ ?_
  · rw [set_set,List.length_set]; exact s.open _ _ _ _
  · rw [set_set]; exact (Keep.set (.head _)).trans (Keep.app.trans (Keep.set (.tail _ (.head _))))
theorem open_group {c : Nat} (s : PSt H p fl ti di ni codes pl g fs w n dn ns lo) (h : Has codes pl [92,40]) (hc : codes[pl + 2]? = some (.int c)) (h1 : c < 128) (h2 : ([42,43,63] : List Nat).contains c = false) (hl : (fs ++ [PV.ref ti]).length < lim) :
    ∀ Q : Prop,(∀ H1,Go (d + 6) p H H1 1 → PSt H1 p fl H.length (H.length + 1) (H.length + 2) codes (pl + 2) (g + 1) (fs ++ [.ref ti]) [103,114,111,117,112] (g + 1) [] [] true → Keep [p,fl] H H1 → Q) → Q := fun Kq kq => by
  have l0 := lk_lt s.hp
  have q0 := h.at 0 rfl
  have hq : (([c] : List Nat) == [63]) = false := beq_eq_false_iff_ne.mpr (by intro z; injection z with z; subst z; fail "=h2")
  refine kq _ (Go.step s.hp (lk_lt q0) (c_step_esc (d := d + 4) (c := 40) (by decide) s.hp q0 (h.at 1 rfl) (c_esc_open (lk_same l0) (c_opened_group (d + 2) s.nd.1 h1 hq (lk_same l0) (lk_ne s.nd.1 s.hf) hc hl)))) ?_ ?_
  · rw [set_set,List.length_set]; exact s.open _ _ _ _
  · rw [set_set]; exact (Keep.set (.head _)).trans (Keep.app.trans (Keep.set (.tail _ (.head _))))
theorem PSt.close {H4 : AH} {pl4 g4 : Nat} {L : List PV} (s : PSt H p fl ti di ni codes pl g fs w n dn ns lo) (k : Keep [p,fl] H H4) (h1 : H4[p]? = some (pObj codes pl4 fl g4)) (h2 : H4[fl]? = some (.list L)) (pl' : Nat) (x : PV) :
    PSt ((((H4.set p (pObj codes pl' fl g4)).set fl (.list (fs ++ [.ref ti]))).set ni (.list (ns ++ [x]))).set ti (fObj w n di ni false)) p fl ti di ni codes pl' g4 fs w n dn (ns ++ [x]) false := by
  refine s.apart fun a b c d e f m o q r => ?_
  have h3 := k.get _ _ s.ht (by simp [Ne.symm b,Ne.symm e])
  have h4 := k.get _ _ s.hd (by simp [Ne.symm c,Ne.symm f])
  have h5 := k.get _ _ s.hn (by simp [Ne.symm d,Ne.symm m])
  have l1 := lk_lt h1
  have l2 := lk_lt h2
  have l3 := lk_lt h3
  have l5 := lk_lt h5
  constructor <;> first | exact ⟨a,b,c,d,e,f,m,o,q,r⟩ | repeat fail "ev"
theorem keep_close {H4 : AH} {P F N T : AObj} (k : Keep [p,fl] H H4) : Keep [p,fl,ti,ni] H ((((H4.set p P).set fl F).set ni N).set ti T) :=
  ⟨Nat.le_trans k.len (by simp),fun i o e h => by
    simp only [List.mem_cons,List.not_mem_nil,not_or,or_false] at h
    exact lk_ne (Ne.symm h.2.2.1) (lk_ne (Ne.symm h.2.2.2) (lk_ne (Ne.symm h.2.1) (lk_ne (Ne.symm h.1) (k.get i o e (by simp [h.1,h.2.1])))))⟩
theorem close_shy {H4 : AH} {pl4 g4 ti2 di2 ni2 n2 : Nat} {dn2 ns2 : List PV} {lo2 : Bool} (s : PSt H p fl ti di ni codes pl g fs w n dn ns lo) (k : Keep [p,fl] H H4) (s4 : PSt H4 p fl ti2 di2 ni2 codes pl4 g4 (fs ++ [.ref ti]) [115,104,121] n2 dn2 ns2 lo2)
    (hn : ns2 ≠ []) (h : Has codes pl4 [92,41]) (l1 : dn2.length + 1 ≤ lim) (l2 : ns.length < lim) :
    ∀ Q : Prop,(∀ H5,Go (d + 6) p H4 H5 1 → PSt H5 p fl ti di ni codes (pl4 + 2) g4 fs w n dn (ns ++ [.tup [.str [115,104,121],frNode dn2 ns2]]) false → Keep [p,fl,ti,ni] H H5 → Q) → Q := fun Kq kq => by
  refine s.apart fun a b c d' e f m o q r => ?_
  refine s4.apart fun a2 b2 c2 d2 e2 f2 m2 o2 q2 r2 => ?_
  have l0 := lk_lt s4.hp
  have q0 := h.at 0 rfl
  have h3 := k.get _ _ s.ht (by simp [Ne.symm b,Ne.symm e])
  have h5 := k.get _ _ s.hn (by simp [Ne.symm d',Ne.symm m])
  refine kq _ (Go.step s4.hp (lk_lt q0) (c_step_esc (d := d + 4) (c := 41) (by decide) s4.hp q0 (h.at 1 rfl) (c_esc_close (lk_same l0)
    (c_closed_shy d hn (lk_same l0) (lk_ne a2 s4.hf) (lk_ne b2 s4.ht) (lk_ne d2 s4.hn) (lk_ne c2 s4.hd) (lk_ne b h3) (lk_ne d' h5) (Ne.symm a) e2 m2 f2 e m (Ne.symm q) l1 l2)))) (s.close k s4.hp s4.hf _ _) (keep_close k)
theorem close_group {H4 : AH} {pl4 g4 ti2 di2 ni2 n2 : Nat} {dn2 ns2 : List PV} {lo2 : Bool} (s : PSt H p fl ti di ni codes pl g fs w n dn ns lo) (k : Keep [p,fl] H H4) (s4 : PSt H4 p fl ti2 di2 ni2 codes pl4 g4 (fs ++ [.ref ti]) [103,114,111,117,112] n2 dn2 ns2 lo2)
    (hn : ns2 ≠ []) (h : Has codes pl4 [92,41]) (l1 : dn2.length + 1 ≤ lim) (l2 : ns.length < lim) :
    ∀ Q : Prop,(∀ H5,Go (d + 6) p H4 H5 1 → PSt H5 p fl ti di ni codes (pl4 + 2) g4 fs w n dn (ns ++ [.tup [.str [103,114,111,117,112],.int n2,frNode dn2 ns2]]) false → Keep [p,fl,ti,ni] H H5 → Q) → Q := fun Kq kq => by
  refine s.apart fun a b c d' e f m o q r => ?_
  refine s4.apart fun a2 b2 c2 d2 e2 f2 m2 o2 q2 r2 => ?_
  have l0 := lk_lt s4.hp
  have q0 := h.at 0 rfl
  have h3 := k.get _ _ s.ht (by simp [Ne.symm b,Ne.symm e])
  have h5 := k.get _ _ s.hn (by simp [Ne.symm d',Ne.symm m])
  refine kq _ (Go.step s4.hp (lk_lt q0) (c_step_esc (d := d + 4) (c := 41) (by decide) s4.hp q0 (h.at 1 rfl) (c_esc_close (lk_same l0)
    (c_closed_group d hn (lk_same l0) (lk_ne a2 s4.hf) (lk_ne b2 s4.ht) (lk_ne d2 s4.hn) (lk_ne c2 s4.hd) (lk_ne b h3) (lk_ne d' h5) (Ne.symm a) e2 m2 f2 e m (Ne.symm q) l1 l2)))) (s.close k s4.hp s4.hf _ _) (keep_close k)
end
end
section
set_option maxHeartbeats 4000000
theorem Fo.set {H : AH} {g cl y p codes pl fl g0} {P : AObj} (h : Fo H g cl y) (hp : H[p]? = some (pObj codes pl fl g0)) : Fo (H.set p P) g cl y := by
  obtain ⟨a,w,n,di,ni,lo,h1,h2,h3⟩ := h
  exact ⟨a,w,n,di,ni,lo,h1,lk_ne (fun z => by rw [← z,hp] at h2; fail "=h2") h2,h3⟩
theorem Fo.keep {H H' : AH} {g g' cl cl' y p codes pl fl g0 L} (h : Fo H g cl y) (k : Keep [p,fl] H H') (hp : H[p]? = some (pObj codes pl fl g0)) (hf : H[fl]? = some (.list L)) (q : g ≤ g' ∧ ∀ k ∈ cl',k ∈ cl ∨ (g < k ∧ k ≤ g')) : Fo H' g' cl' y :=
  h.step (fun a w n di ni lo e => ⟨di,ni,lo,k.get _ _ e (by
    intro z
    rcases List.mem_cons.mp z with rfl | z
    · rw [hp] at e; fail "=e"
    · rw [List.mem_singleton.mp z,hf] at e; fail "=e")⟩) q
noncomputable def Parses (r : Re) (g : Nat) (cl : List Nat) (g' : Nat) (cl' : List Nat) : Prop :=
  ∀ {d : Nat} {H : AH} {p fl ti di ni : Nat} {codes : List PV} {pl : Nat} {fs : List PV} {w : List Nat} {n : Nat} {dn ns : List PV} {lo : Bool},
    PSt H p fl ti di ni codes pl g fs w n dn ns lo → Has codes pl r.pat → Ends codes (pl + r.pat.length) → (∀ y ∈ fs ++ [PV.ref ti],Fo H g cl y) → (∀ k ∈ cl,1 ≤ k ∧ k ≤ 9) → g' ≤ 9 →
    ns.length + r.pat.length < lim → fs.length + r.pat.length < lim → dn.length + 2 ≤ lim →
    Done (d + 6) H p fl ti di ni codes (pl + r.pat.length) g' fs w n dn (ns ++ r.fl) r.pat.length
theorem mem_two {P : PV → Prop} {fs : List PV} {x y : PV} (h : ∀ z ∈ fs ++ [x],P z) (hy : P y) : ∀ z ∈ (fs ++ [x]) ++ [y],P z := fun z hz =>
  (List.mem_append.mp hz).elim (h z) fun q => List.mem_singleton.mp q ▸ hy
theorem ends_92 {codes : List PV} {pl : Nat} {s : List Nat} (h : Has codes pl (92 :: s)) : Ends codes pl := ends_of (h.at 0 rfl) (by decide) rfl
theorem wf_refl {g : Nat} {cl : List Nat} : g ≤ g ∧ ∀ k ∈ cl,k ∈ cl ∨ (g < k ∧ k ≤ g) := ⟨Nat.le_refl _,fun Y h => .inl h⟩
theorem keep_new {p fl : Nat} {H H1 H2 : AH} {x y : Nat} (a : Keep [p,fl] H H1) (hx : H.length ≤ x) (hy : H.length ≤ y) (b : Keep [p,fl,x,y] H1 H2) : Keep [p,fl] H H2 :=
  a.trans' b (by
    intro i hi
    rcases List.mem_cons.mp hi with rfl | hi
    · exact .inl (.head _)
    rcases List.mem_cons.mp hi with rfl | hi
    · exact .inl (.tail _ (.head _))
    rcases List.mem_cons.mp hi with rfl | hi
    · exact .inr hx
    · exact .inr (List.mem_singleton.mp hi ▸ hy))
theorem parse_both {g cl a g1 cl1 b g2 cl2} (wa : WF g cl a g1 cl1) (wb : WF g1 cl1 b g2 cl2) (A : Parses a g cl g1 cl1) (B : Parses b g1 cl1 g2 cl2) : Parses (.both a b) g cl g2 cl2 := by
  intro d H p fl ti di ni codes pl fs w n dn ns lo s h en fo cl9 g9 l1 l2 l3 Kq kq
  have lab : (Re.both a b).pat.length = a.pat.length + b.pat.length := List.length_append
  have gb := wb.grow
  rw [lab,← Nat.add_assoc] at en
  rw [lab] at l1 l2
  obtain ⟨c,f0,f1,f2⟩ := Re.first wb
  refine A (d := d) s h.left (ends_of (h.right.at 0 f0) f1 f2) fo cl9 (Nat.le_trans gb.1 g9) (by lia) (by lia) l3 Kq fun H1 k1 n1 go1 s1 ke1 => ?_
  have fk : FK H H1 := fk_of s s1 ke1 (by
    intro i hi
    simp only [List.mem_cons,List.not_mem_nil,or_false] at hi
    rcases hi with h | h | h | h <;> simp [h])
  have fa := a.fl_len
  refine B (d := d) s1 h.right en (fun y hy => (fo y hy).step fk wa.grow) (fun k hk => by
    rcases wa.grow.2 k hk with q | q
    · exact cl9 k q
    · exact ⟨by lia,Nat.le_trans q.2 (Nat.le_trans gb.1 g9)⟩) g9 (by rw [List.length_append]; lia) (by lia) l3 Kq fun H2 k2 n2 go2 s2 ke2 => ?_
  exact kq H2 (k2 + k1) (by lia) (go1.trans go2) (by rw [lab,← Nat.add_assoc]; show PSt H2 p fl ti di ni codes _ g2 fs w n dn (ns ++ (a.fl ++ b.fl)) false; rw [← List.append_assoc]; exact s2) (ke1.trans ke2)
theorem parse_group {g cl a g1 cl1} (wa : WF (g + 1) cl a g1 cl1) (A : Parses a (g + 1) cl g1 cl1) (hcl : ∀ k ∈ cl,k ≤ g) : Parses (.group (g + 1) a) g cl g1 (cl1 ++ [g + 1]) := by
  intro d H p fl ti di ni codes pl fs w n dn ns lo s h en fo cl9 g9 l1 l2 l3 Kq kq
  have lab : (Re.group (g + 1) a).pat.length = 2 + (a.pat.length + 2) := by show ([92,40] ++ (a.pat ++ [92,41])).length = _; rw [List.length_append,List.length_append]; rfl
  rw [lab] at en l1 l2
  obtain ⟨c,f0,f1,f2⟩ := Re.first wa
  have hr : Has codes (pl + 2) (a.pat ++ [92,41]) := h.right
  refine open_group (d := d) s h.left (hr.left.at 0 f0) f1 f2 (by rw [List.length_append]; show fs.length + 1 < lim; lia) Kq fun H1 go1 s1 ke1 => ?_
  have fo1 : ∀ y ∈ (fs ++ [PV.ref ti]) ++ [PV.ref H.length],Fo H1 (g + 1) cl y := mem_two (fun y hy => (fo y hy).keep ke1 s.hp s.hf ⟨Nat.le_succ _,fun k hk => .inl hk⟩)
    ⟨_,_,_,_,_,_,rfl,s1.ht,fun Y => ⟨Nat.le_refl _,fun z => absurd (hcl _ z) (by lia)⟩⟩
  refine A (d := d) s1 hr.left (ends_92 hr.right) fo1 cl9 g9 (by simp; lia) (by rw [List.length_append]; show fs.length + 1 + a.pat.length < lim; lia) (by decide) Kq fun H2 k2 n2 go2 s2 ke2 => ?_
  have k12 : Keep [p,fl] H H2 := keep_new ke1 (Nat.le_refl _) (Nat.le_add_right _ _) ke2
  refine close_group (d := d) s k12 s2 (by rw [List.nil_append]; exact a.fl_ne) hr.right (by decide) (by lia) Kq fun H3 go3 s3 ke3 => ?_
  exact kq H3 (1 + (k2 + 1)) (by lia) ((go1.trans go2).trans go3) (by rw [lab,show pl + (2 + (a.pat.length + 2)) = pl + 2 + a.pat.length + 2 by lia]; exact s3) ke3
theorem parse_shy {g cl a g1 cl1} (wa : WF g cl a g1 cl1) (A : Parses a g cl g1 cl1) {d : Nat} {H : AH} {p fl ti di ni : Nat} {codes : List PV} {pl : Nat} {fs : List PV} {w : List Nat} {n : Nat} {dn ns : List PV} {lo : Bool}
    (s : PSt H p fl ti di ni codes pl g fs w n dn ns lo) (h : Has codes pl ([92,40,63,58] ++ a.pat)) (en : Ends codes (pl + 4 + a.pat.length)) (fo : ∀ y ∈ fs ++ [PV.ref ti],Fo H g cl y) (cl9 : ∀ k ∈ cl,1 ≤ k ∧ k ≤ 9) (g9 : g1 ≤ 9)
    (l1 : 0 + a.pat.length < lim) (l2 : fs.length + 1 + a.pat.length < lim) :
    ∀ Q : Prop,(∀ H2 k,k ≤ a.pat.length + 1 → Go (d + 6) p H H2 k → PSt H2 p fl H.length (H.length + 1) (H.length + 2) codes (pl + 4 + a.pat.length) g1 (fs ++ [.ref ti]) [115,104,121] 0 [] a.fl false → Keep [p,fl] H H2 → (∀ y ∈ (fs ++ [PV.ref ti]) ++ [PV.ref H.length],Fo H2 g1 cl1 y) → Q) → Q := fun Kq kq => by
  refine open_shy (d := d) s h.left (by rw [List.length_append]; show fs.length + 1 < lim; lia) Kq fun H1 go1 s1 ke1 => ?_
  have fo1 : ∀ y ∈ (fs ++ [PV.ref ti]) ++ [PV.ref H.length],Fo H1 g cl y := mem_two (fun y hy => (fo y hy).keep ke1 s.hp s.hf wf_refl)
    ⟨_,_,_,_,_,_,rfl,s1.ht,fun z => by fail "=z"⟩
  have hr : Has codes (pl + 4) a.pat := h.right
  refine A (d := d) s1 hr en fo1 cl9 g9 l1 (by rw [List.length_append]; exact l2) (by decide) Kq fun H2 k2 n2 go2 s2 ke2 => ?_
  have k12 : Keep [p,fl] H H2 := keep_new ke1 (Nat.le_refl _) (Nat.le_add_right _ _) ke2
  exact kq H2 (k2 + 1) (Nat.succ_le_succ n2) (go1.trans go2) s2 k12 (mem_two (fun y hy => (fo y hy).keep k12 s.hp s.hf wa.grow) ⟨_,_,_,_,_,_,rfl,s2.ht,fun z => by fail "=z"⟩)
end
section
set_option maxHeartbeats 4000000
theorem parse_either {g cl a g1 cl1 b g2 cl2} (wa : WF g cl a g1 cl1) (wb : WF g1 cl1 b g2 cl2) (A : Parses a g cl g1 cl1) (B : Parses b g1 cl1 g2 cl2) : Parses (.either a b) g cl g2 cl2 := by
  intro d H p fl ti di ni codes pl fs w n dn ns lo s h en fo cl9 g9 l1 l2 l3 Kq kq
  have lab : (Re.either a b).pat.length = 4 + (a.pat.length + (2 + (b.pat.length + 2))) := by
    show ([92,40,63,58] ++ (a.pat ++ ([92,124] ++ (b.pat ++ [92,41])))).length = _
    rw [List.length_append,List.length_append,List.length_append,List.length_append]; rfl
  rw [lab] at en l1 l2
  have gb := wb.grow
  have hr : Has codes (pl + 4) (a.pat ++ ([92,124] ++ (b.pat ++ [92,41]))) := h.right
  have ha : Has codes pl ([92,40,63,58] ++ a.pat) := by
    have : Has codes pl (([92,40,63,58] ++ a.pat) ++ ([92,124] ++ (b.pat ++ [92,41]))) := by rw [List.append_assoc]; exact h
    exact this.left
  refine parse_shy (d := d) wa A s ha (ends_92 hr.right) fo cl9 (Nat.le_trans gb.1 g9) (by lia) (by lia) Kq fun H2 k2 n2 go2 s2 k12 fo2 => ?_
  have hb : Has codes (pl + 4 + a.pat.length) [92,124] := hr.right.left
  have l0 := lk_lt s2.hp
  refine s2.apart fun a2 b2 c2 d2 e2 f2 m2 o2 q2 r2 => ?_
  have e3 := c_step_esc (d := d + 4) (c := 124) (by decide) s2.hp (hb.at 0 rfl) (hb.at 1 rfl) (c_esc_part (d := d + 3) (lk_same l0) (lk_ne a2 s2.hf) (lk_ne b2 s2.ht) (c_part (d + 2) a.fl_ne (Ne.symm o2) r2 (lk_ne b2 s2.ht) (lk_ne d2 s2.hn) (lk_ne c2 s2.hd) (by decide)))
  have go3 := Go.step (d := d + 6) s2.hp (lk_lt (hb.at 0 rfl)) e3
  have s3 := s2.part (pl + 4 + a.pat.length + 2) (join a.fl)
  rw [List.length_set] at go3
  generalize hH3 : ((((H2.set p (pObj codes (pl + 4 + a.pat.length + 2) fl g1)).set (H.length + 1) (.list ([] ++ [join a.fl]))) ++ [AObj.list []]).set H.length (fObj [115,104,121] 0 (H.length + 1) H2.length true)) = H3 at go3 s3
  have k23 : Keep [p,H.length + 1,H.length] H2 H3 := by
    rw [← hH3]
    exact (Keep.set (.head _)).trans ((Keep.set (.tail _ (.head _))).trans (Keep.app.trans (Keep.set (.tail _ (.tail _ (.head _))))))
  have k13 : Keep [p,fl] H H3 := k12.trans' k23 (by
    intro i hi
    simp only [List.mem_cons,List.not_mem_nil,or_false] at hi
    rcases hi with rfl | rfl | rfl
    · exact .inl (.head _)
    · exact .inr (Nat.le_succ _)
    · exact .inr (Nat.le_refl _))
  have fo3 : ∀ y ∈ (fs ++ [PV.ref ti]) ++ [PV.ref H.length],Fo H3 g1 cl1 y := mem_two (fun y hy => (fo y hy).keep k13 s.hp s.hf wa.grow) ⟨_,_,_,_,_,_,rfl,s3.ht,fun z => by fail "=z"⟩
  have hr3 : Has codes (pl + 4 + a.pat.length + 2) (b.pat ++ [92,41]) := hr.right.right
  refine B (d := d) s3 hr3.left (ends_92 hr3.right) fo3 (fun k hk => by
    rcases wa.grow.2 k hk with q | q
    · exact cl9 k q
    · exact ⟨by lia,Nat.le_trans q.2 (Nat.le_trans gb.1 g9)⟩) g9 (by show 0 + b.pat.length < lim; lia) (by rw [List.length_append]; show fs.length + 1 + b.pat.length < lim; lia) (of_decide_eq_true rfl) Kq fun H4 k4 n4 go4 s4 ke4 => ?_
  have k14 : Keep [p,fl] H H4 := keep_new k13 (Nat.le_refl _) k12.len ke4
  refine close_shy (d := d) s k14 s4 (by rw [List.nil_append]; exact b.fl_ne) hr3.right (of_decide_eq_true rfl) (by lia) Kq fun H5 go5 s5 ke5 => ?_
  refine kq H5 (1 + (k4 + (1 + k2))) (by lia) (((go2.trans go3).trans go4).trans go5) ?_ ke5
  rw [lab,show pl + (4 + (a.pat.length + (2 + (b.pat.length + 2)))) = pl + 4 + a.pat.length + 2 + b.pat.length + 2 by lia]
  exact s5
theorem parse_often {g cl a g1 cl1 k} (hk : k < 6) (wa : WF g cl a g1 cl1) (A : Parses a g cl g1 cl1) : Parses (.often k a) g cl g1 cl1 := by
  intro d H p fl ti di ni codes pl fs w n dn ns lo s h en fo cl9 g9 l1 l2 l3 Kq kq
  have lab : (Re.often k a).pat.length = 4 + (a.pat.length + (2 + (oft k).2.2.2.length)) := by
    show ([92,40,63,58] ++ (a.pat ++ ([92,41] ++ (oft k).2.2.2))).length = _
    rw [List.length_append,List.length_append,List.length_append]; rfl
  rw [lab] at en l1 l2
  have hr : Has codes (pl + 4) (a.pat ++ ([92,41] ++ (oft k).2.2.2)) := h.right
  have ha : Has codes pl ([92,40,63,58] ++ a.pat) := by
    have : Has codes pl (([92,40,63,58] ++ a.pat) ++ ([92,41] ++ (oft k).2.2.2)) := by rw [List.append_assoc]; exact h
    exact this.left
  refine parse_shy (d := d) wa A s ha (ends_92 hr.right) fo cl9 g9 (by lia) (by lia) Kq fun H2 k2 n2 go2 s2 k12 fo2 => ?_
  refine close_shy (d := d) s k12 s2 a.fl_ne hr.right.left (by decide) (by lia) Kq fun H3 go3 s3 ke3 => ?_
  have ho : Has codes (pl + 4 + a.pat.length + 2) (oft k).2.2.2 := hr.right.right
  rw [show pl + (4 + (a.pat.length + (2 + (oft k).2.2.2.length))) = pl + 4 + a.pat.length + 2 + (oft k).2.2.2.length by lia] at en
  have hl : ns.length < lim := by lia
  refine s3.apart fun b1 b2 b3 b4 Y Y Y Y Y Y => ?_
  have l0 := lk_lt s3.hp
  have fin : Done (d + 6) H3 p fl ti di ni codes (pl + 4 + a.pat.length + 2 + (oft k).2.2.2.length) g1 fs w n dn (ns ++ (Re.often k a).fl) 1 := by
    obtain ⟨sg,nx,st⟩ := en
    clear hr ha l1 l2 lab h kq
    cases k,hk using six with
    | a0 => exact done_rep s3 (lk_lt (ho.at 0 rfl)) (Nat.le_refl _) (c_step_rep (d := d + 4) (c := 42) (.inl rfl) s3.hp s3.hf s3.ht (ho.at 0 rfl) b1 b2 (c_repeated1 (d + 2) 0 (-1) (.inl ⟨rfl,rfl,rfl⟩) (lk_same l0) (lk_ne b1 s3.hf) (lk_ne b2 s3.ht) (lk_ne b4 s3.hn) hl nx st))
    | a1 => exact done_rep s3 (lk_lt (ho.at 0 rfl)) (Nat.le_refl _) (c_step_rep (d := d + 4) (c := 43) (.inr (.inl rfl)) s3.hp s3.hf s3.ht (ho.at 0 rfl) b1 b2 (c_repeated1 (d + 2) 1 (-1) (.inr (.inl ⟨rfl,rfl,rfl⟩)) (lk_same l0) (lk_ne b1 s3.hf) (lk_ne b2 s3.ht) (lk_ne b4 s3.hn) hl nx st))
    | a2 => exact done_rep s3 (lk_lt (ho.at 0 rfl)) (Nat.le_refl _) (c_step_rep (d := d + 4) (c := 63) (.inr (.inr rfl)) s3.hp s3.hf s3.ht (ho.at 0 rfl) b1 b2 (c_repeated1 (d + 2) 0 1 (.inr (.inr ⟨rfl,rfl,rfl⟩)) (lk_same l0) (lk_ne b1 s3.hf) (lk_ne b2 s3.ht) (lk_ne b4 s3.hn) hl nx st))
    | a3 =>
      have e := c_repeated2 (d + 2) (H := H3.set p (pObj codes (pl + 4 + a.pat.length + 2 + 1) fl g1)) (lk_same l0) (lk_ne b1 s3.hf) (lk_ne b2 s3.ht) (lk_ne b4 s3.hn) hl b1 b2 b4 (ho.at 1 rfl) nx st
      rw [set_set] at e
      exact done_rep s3 (lk_lt (ho.at 0 rfl)) (Nat.le_refl _) (c_step_rep (d := d + 4) (c := 42) (.inl rfl) s3.hp s3.hf s3.ht (ho.at 0 rfl) b1 b2 e)
    | a4 =>
      have e := c_counted_12 d (H := H3.set p (pObj codes (pl + 4 + a.pat.length + 2 + 2) fl g1)) (lk_same l0) (lk_ne b1 s3.hf) (lk_ne b2 s3.ht) (lk_ne b4 s3.hn) hl b1 b2 b4 (ho.at 2 rfl) (ho.at 3 rfl) (ho.at 4 rfl) (ho.at 5 rfl) (ho.at 6 rfl)
      rw [set_set] at e
      exact done_rep s3 (lk_lt (ho.at 0 rfl)) (Nat.le_refl _) (c_step_esc (d := d + 4) (c := 123) (by decide) s3.hp (ho.at 0 rfl) (ho.at 1 rfl) (c_esc_count (lk_same l0) e))
    | a5 =>
      have e := c_counted_2 d (H := H3.set p (pObj codes (pl + 4 + a.pat.length + 2 + 2) fl g1)) (lk_same l0) (lk_ne b1 s3.hf) (lk_ne b2 s3.ht) (lk_ne b4 s3.hn) hl b1 b2 b4 (ho.at 2 rfl) (ho.at 3 rfl) (ho.at 4 rfl) (ho.at 5 rfl)
      rw [set_set] at e
      exact done_rep s3 (lk_lt (ho.at 0 rfl)) (Nat.le_refl _) (c_step_esc (d := d + 4) (c := 123) (by decide) s3.hp (ho.at 0 rfl) (ho.at 1 rfl) (c_esc_count (lk_same l0) e))
  refine fin Kq fun H6 k6 n6 go6 s6 ke6 => kq H6 (k6 + (1 + k2)) (by lia) ((go2.trans go3).trans go6) ?_ (ke3.trans ke6)
  rw [lab,show pl + (4 + (a.pat.length + (2 + (oft k).2.2.2.length))) = pl + 4 + a.pat.length + 2 + (oft k).2.2.2.length by lia]
  exact s6
theorem parse {r g cl g' cl'} (h : WF g cl r g' cl') (hcl : ∀ k ∈ cl,k ≤ g) : Parses r g cl g' cl' := by
  induction h with
  | both wa wb A B => exact parse_both wa wb (A hcl) (B fun k hk => (wa.grow.2 k hk).elim (fun q => Nat.le_trans (hcl k q) wa.grow.1) (·.2))
  | either wa wb A B => exact parse_either wa wb (A hcl) (B fun k hk => (wa.grow.2 k hk).elim (fun q => Nat.le_trans (hcl k q) wa.grow.1) (·.2))
  | group wa A => exact parse_group wa (A fun k hk => Nat.le_succ_of_le (hcl k hk)) hcl
  | often hk wa A => exact parse_often hk wa (A hcl)
  | sign hc =>
    intro d H p fl ti di ni codes pl fs w n dn ns lo s h en fo cl9 g9 l1 l2 l3
    refine s.apart fun b1 b2 b3 b4 b5 b6 b7 b8 b9 b10 => ?_
    exact done_put s (lk_lt (h.at 0 rfl)) (Nat.le_refl _) (c_step_sign (d := d + 4) hc s.hp s.hf s.ht s.hn (h.at 0 rfl) b1 b2 b4 (Ne.symm b9) (Nat.lt_of_le_of_lt (Nat.le_add_right _ _) l1))
  | any =>
    intro d H p fl ti di ni codes pl fs w n dn ns lo s h en fo cl9 g9 l1 l2 l3
    refine s.apart fun b1 b2 b3 b4 b5 b6 b7 b8 b9 b10 => ?_
    exact done_put s (lk_lt (h.at 0 rfl)) (Nat.le_refl _) (c_step_any (d := d + 4) s.hp s.hf s.ht s.hn (h.at 0 rfl) b1 b2 b4 (Ne.symm b9) (Nat.lt_of_le_of_lt (Nat.le_add_right _ _) l1))
  | ins =>
    intro d H p fl ti di ni codes pl fs w n dn ns lo s h en fo cl9 g9 l1 l2 l3
    refine s.apart fun b1 b2 b3 b4 b5 b6 b7 b8 b9 b10 => ?_
    exact done_putA s (lk_lt (h.at 0 rfl)) (by decide) (c_step_set (d := d + 3) (fun H => c_read_set_ab (d + 3) (h.at 1 rfl) (h.at 2 rfl) (h.at 3 rfl) H) s.hp s.hf s.ht s.hn (h.at 0 rfl) b1 b2 b4 (Ne.symm b9) (Nat.lt_of_le_of_lt (Nat.le_add_right _ _) l1))
  | out =>
    intro d H p fl ti di ni codes pl fs w n dn ns lo s h en fo cl9 g9 l1 l2 l3
    refine s.apart fun b1 b2 b3 b4 b5 b6 b7 b8 b9 b10 => ?_
    exact done_putA s (lk_lt (h.at 0 rfl)) (by decide) (c_step_set (d := d + 3) (fun H => c_read_set_na (d + 3) (h.at 1 rfl) (h.at 2 rfl) (h.at 3 rfl) H) s.hp s.hf s.ht s.hn (h.at 0 rfl) b1 b2 b4 (Ne.symm b9) (Nat.lt_of_le_of_lt (Nat.le_add_right _ _) l1))
  | again hm =>
    intro d H p fl ti di ni codes pl fs w n dn ns lo s h en fo cl9 g9 l1 l2 l3
    refine s.apart fun b1 b2 b3 b4 b5 b6 b7 b8 b9 b10 => ?_
    have c9 := cl9 _ hm
    have l0 := lk_lt s.hp
    exact done_put s (lk_lt (h.at 0 rfl)) (Nat.le_succ _) (c_step_esc (d := d + 4) (by lia) s.hp (h.at 0 rfl) (h.at 1 rfl) (c_esc_back c9.1 c9.2 (lk_same l0)
      (c_back (d + 2) (hcl _ hm) (fun y hy => ((fo y hy).set s.hp).opn hm) (lk_same l0) (lk_ne b1 s.hf) (lk_ne b2 s.ht) (lk_ne b4 s.hn) (Ne.symm b9) (Nat.lt_of_le_of_lt (Nat.le_add_right _ _) l1))))
end
section
set_option maxHeartbeats 4000000
noncomputable def codesOf (s : List Nat) : List PV := s.map fun (c : Nat) => PV.int c
theorem c_parsing (d : Nat) (H : AH) (codes : List PV) :
    acall text (d + 2) 25 [.ref H.length,.lst codes] (H ++ [.inst 3 []]) = some (.none,H ++ [pObj codes 0 (H.length + 4) 0,fObj [116,111,112] 0 (H.length + 2) (H.length + 3) true,.list [],.list [],.list [.ref (H.length + 1)]]) := by
  have e1 := c_frame d (H := H ++ [.inst 3 [(31,.lst codes),(1,.int 0)]]) [116,111,112] 0
  rw [len_new0,app0,show (H ++ [AObj.inst 3 [(31,.lst codes),(1,.int 0)]]) ++ [fObj [116,111,112] 0 (H.length + 1 + 1) (H.length + 1 + 2) true,.list [],.list []] = H ++ [AObj.inst 3 [(31,.lst codes),(1,.int 0)],fObj [116,111,112] 0 (H.length + 1 + 1) (H.length + 1 + 2) true,.list [],.list []] from List.append_assoc ..] at e1
  apply a_call (fd := f_Parsing_init) (b := b_Parsing_init) (l := [some (.ref H.length),some (.lst codes)]) rfl rfl rfl; delta b_Parsing_init
  repeat fail "ev"
theorem c_whole (d : Nat) {H H' : AH} {p fl ti di ni : Nat} {codes : List PV} {pl g k : Nat} {w : List Nat} {n : Nat} {ns : List PV} {lo : Bool} (go : Go (d + 2) p H H' k) (hk : k ≤ 1000) (s : PSt H' p fl ti di ni codes pl g [] w n [] ns lo) (hl : codes.length ≤ pl) (hn : ns ≠ []) :
    acall text (d + 3) 28 [.ref p] H = some (join ns,H') := by
  have e1 := c_top (d + 1) s.hp s.hf
  have e2 := c_fnode d hn s.ht s.hn s.hd (by decide)
  have s1 := s.hp
  have s2 := s.hf
  have s3 := s.ht
  apply a_call (fd := f_Parsing_whole) (b := b_Parsing_whole) (l := [some (.ref p)]) rfl rfl rfl; delta b_Parsing_whole
  repeat fail "ev"
  apply x_whil (n := (999999 - k) + 1 + k) (by unfold fuel; lia)
  · have e3 : turns (wstep text (acall text (d + 2)) whC whB) (999999 - k + 1) [some (.ref p)] H' = some (.next,[some (.ref p)],H') := by
      unfold whC whB
      apply te
      repeat fail "ev"
      show some (decide ((pl : Int) < (codes.length : Int))) = some false
      rw [decide_eq_false (by lia)]
    exact (go _).trans e3
  · repeat fail "ev"
  repeat fail "ev"
theorem c_parse (d : Nat) {r : Re} {g' cl'} (h : WF 0 [] r g' cl') (g9 : g' ≤ 9) (hl : r.pat.length ≤ 1000) (H : AH) :
    ∃ H',acall text (d + 8) 39 [.lst (codesOf r.pat)] H = some (.tup [join r.fl,.int g'],H') ∧ Keep [] H H' := by
  have e1 := c_parsing (d + 5) H (codesOf r.pat)
  have l1 : (0 : Nat) + r.pat.length < lim := by show 0 + r.pat.length < 1000000; lia
  have st : PSt (H ++ [pObj (codesOf r.pat) 0 (H.length + 4) 0,fObj [116,111,112] 0 (H.length + 2) (H.length + 3) true,.list [],.list [],.list [.ref (H.length + 1)]]) H.length (H.length + 4) (H.length + 1) (H.length + 2) (H.length + 3) (codesOf r.pat) 0 0 [] [116,111,112] 0 [] [] true := by
    constructor
    · exact lk_new
    · exact lk_at rfl
    · exact lk_at rfl
    · exact lk_at rfl
    · exact lk_at rfl
    · lia
  refine parse h (fun k hk => (by contradiction)) (d := d) st (fun i c e => by
      rw [Nat.zero_add]; unfold codesOf; rw [List.getElem?_map,e]; rfl) (ends_end (by unfold codesOf; rw [List.length_map]; exact Nat.le_add_left _ _)) (fun y hy => ⟨_,_,_,_,_,_,List.mem_singleton.mp hy,st.ht,fun z => by fail "=z"⟩) (fun k hk => (by contradiction)) g9 l1 l1 (of_decide_eq_true rfl) _ fun H' k hk go s ke => ?_
  have e2 := c_whole (d + 4) go (by lia) s (by unfold codesOf; rw [List.length_map]; exact Nat.le_add_left _ _) r.fl_ne
  have e3 := s.hp
  refine ⟨H',?_,Keep.app.trans' ke (fun i hi => .inr ?_)⟩
  · apply a_call (fd := f_parse_regexp) (b := b_parse_regexp) (l := [some (.lst (codesOf r.pat)),none]) rfl rfl rfl; delta b_parse_regexp
    repeat fail "ev"
  · simp only [List.mem_cons,List.not_mem_nil,or_false] at hi
    lia
end
section
set_option maxHeartbeats 4000000
noncomputable abbrev cObj (N : Nat) (f : Bool) (L M : Nat) : AObj := .inst 5 [(23,.bool f),(16,.ref (N + 1)),(49,.ref (N + 2)),(50,.int L),(11,.int M),(51,.ref (N + 3))]
noncomputable abbrev cH (P : AH) (f : Bool) (rows : List PV) (es : List (Int × PV)) (L M : Nat) (W : List PV) : AH := P ++ [cObj P.length f L M,.list rows,.dict es,.list W]
noncomputable abbrev tNode (x : PV) : PV := .tup [.str [110,111,100,101],x]
noncomputable abbrev tRow (x : PV) : PV := .tup [.str [114,111,119],x]
noncomputable abbrev tLab (l : Nat) : PV := .tup [.str [108,97,98,101,108],.int l]
section
variable {P : AH} {f : Bool} {rows : List PV} {es : List (Int × PV)} {L M : Nat} {W : List PV}
theorem c_label (d : Nat) : acall text (d + 1) 42 [.ref P.length] (cH P f rows es L M W) = some (.int (L + 1 : Nat),cH P f rows es (L + 1) M W) := by
  apply a_call (fd := f_Compiling_label) (b := b_Compiling_label) (l := [some (.ref P.length)]) rfl rfl rfl; delta b_Compiling_label
  repeat fail "ev"
theorem c_wait_turns (cf : CF) (ts : PV) : ∀ (xs W : List PV) (x : Option PV),W.length + xs.length ≤ lim → ∃ x',forV (fitem text cf (.loc 2) [.expr (.callM (.attr (.loc 0) 51) 1000 [.loc 2])]) xs [some (.ref P.length),some ts,x] (cH P f rows es L M W) = some (.next,[some (.ref P.length),some ts,x'],cH P f rows es L M (W ++ xs))
  | [],W,x,_ => ⟨x,by rw [List.append_nil]; rfl⟩
  | v :: xs,W,x,h => by
    rw [List.length_cons] at h
    have hl : W.length < lim := by fail "l"
    obtain ⟨x',e⟩ := c_wait_turns cf ts xs (W ++ [v]) (some v) (by rw [List.length_append]; show W.length + 1 + xs.length ≤ lim; fail "l")
    rw [List.append_assoc] at e
    refine ⟨x',?_⟩
    apply fv_next
    · apply f_item
      · repeat fail "ev"
      · repeat fail "ev"
    · exact e
theorem c_wait (d : Nat) (ts : List PV) (h : rows.length + W.length + ts.length ≤ 20000) : acall text (d + 1) 43 [.ref P.length,.lst ts] (cH P f rows es L M W) = some (.none,cH P f rows es L M (W ++ ts.reverse)) := by
  have hl : lim = 1000000 := rfl
  obtain ⟨x',e⟩ := c_wait_turns (P := P) (f := f) (rows := rows) (es := es) (L := L) (M := M) (acall text d) (.lst ts) ts.reverse W none (by rw [List.length_reverse]; fail "l")
  apply a_call (fd := f_Compiling_wait) (b := b_Compiling_wait) (l := [some (.ref P.length),some (.lst ts),none]) rfl rfl rfl; delta b_Compiling_wait
  repeat fail "ev"
  apply x_for
  · repeat fail "ev"
  · exact e
  · repeat fail "ev"
  repeat fail "ev"
theorem c_split (d : Nat) (a b : PV) (gr : Bool) (H : AH) (s : PV) : acall text (d + 1) 48 [s,a,b,.bool gr] H = some (.tup [.str [115,112,108,105,116],cond gr a b,cond gr b a],H) := by
  cases gr
  all_goals
    apply a_call (fd := f_Compiling_split) (b := b_Compiling_split) (l := [some (s),some (a),some (b),some (.bool _)]) rfl rfl rfl; delta b_Compiling_split
    repeat fail "ev"
theorem c_loop (d : Nat) (part : PV) (gr : Bool) (e : Nat) : acall text (d + 2) 49 [.ref P.length,part,.bool gr,.int e] (cH P f rows es L M W) =
    some (.lst [tLab (L + 1),tRow (.tup [.str [115,112,108,105,116],cond gr (.int (L + 2 : Nat)) (.int e),cond gr (.int e) (.int (L + 2 : Nat))]),tLab (L + 2),tRow (.tup [.str [109,97,114,107],.int M]),tNode part,tRow (.tup [.str [112,114,111,103,114,101,115,115],.int M]),tRow (.tup [.str [106,117,109,112],.int (L + 1 : Nat)])],cH P f rows es (L + 2) (M + 1) W) := by
  have e1 := c_label (P := P) (f := f) (rows := rows) (es := es) (L := L) (M := M) (W := W) d
  have e2 := c_label (P := P) (f := f) (rows := rows) (es := es) (L := L + 1) (M := M) (W := W) d
  have e3 := c_split d (.int (L + 2 : Nat)) (.int e) gr (cH P f rows es (L + 2) (M + 1) W) (.ref P.length)
  apply a_call (fd := f_Compiling_loop) (b := b_Compiling_loop) (l := [some (.ref P.length),some (part),some (.bool gr),some (.int e),none,none,none,none]) rfl rfl rfl; delta b_Compiling_loop
  repeat fail "ev"
end
end
section
set_option maxHeartbeats 8000000
section
variable {P : AH} {f : Bool} {rows : List PV} {es : List (Int × PV)} {L M : Nat} {W : List PV}
noncomputable abbrev rSplit (a b : Nat) : PV := .tup [.str [115,112,108,105,116],.int a,.int b]
noncomputable abbrev rJump (a : Nat) : PV := .tup [.str [106,117,109,112],.int a]
theorem c_alts (d : Nat) (x y : PV) (h : rows.length + W.length + 7 ≤ 20000) : acall text (d + 2) 46 [.ref P.length,.tup [x,y]] (cH P f rows es L M W) =
    some (.none,cH P f rows es (L + 3) M (W ++ [tRow (rSplit (L + 2) (L + 3)),tLab (L + 2),tNode x,tRow (rJump (L + 1)),tLab (L + 3),tNode y,tLab (L + 1)].reverse)) := by
  have e1 := c_label (P := P) (f := f) (rows := rows) (es := es) (L := L) (M := M) (W := W) d
  have e2 := c_label (P := P) (f := f) (rows := rows) (es := es) (L := L + 1) (M := M) (W := W) d
  have e3 := c_label (P := P) (f := f) (rows := rows) (es := es) (L := L + 2) (M := M) (W := W) d
  have e4 := c_wait (P := P) (f := f) (rows := rows) (es := es) (L := L + 3) (M := M) (W := W) d [tRow (rSplit (L + 2) (L + 3)),tLab (L + 2),tNode x,tRow (rJump (L + 1)),tLab (L + 3),tNode y,tLab (L + 1)] h
  apply a_call (fd := f_Compiling_alternatives) (b := b_Compiling_alternatives) (l := [some (.ref P.length),some (.tup [x,y]),none,none,none,none,none]) rfl rfl rfl; delta b_Compiling_alternatives
  repeat fail "ev"
  apply x_for
  · repeat fail "ev"
  · apply fv_next
    · apply f_item
      · repeat fail "ev"
      · repeat fail "ev"
    · exact fv_nil
  · repeat fail "ev"
  repeat fail "ev"
noncomputable def repTasks (k : Nat) (part : PV) (L M : Nat) : List PV × Nat × Nat :=
  let lp := fun (gr : Bool) => [tLab (L + 2),tRow (.tup [.str [115,112,108,105,116],cond gr (.int (L + 3 : Nat)) (.int (L + 1 : Nat)),cond gr (.int (L + 1 : Nat)) (.int (L + 3 : Nat))]),tLab (L + 3),tRow (.tup [.str [109,97,114,107],.int M]),tNode part,tRow (.tup [.str [112,114,111,103,114,101,115,115],.int M]),tRow (rJump (L + 2)),tLab (L + 1)]
  match k with
  | 0 => (lp true,L + 3,M + 1)
  | 1 => (tNode part :: lp true,L + 3,M + 1)
  | 2 => ([tRow (rSplit (L + 2) (L + 1)),tLab (L + 2),tNode part,tLab (L + 1)],L + 2,M)
  | 3 => (lp false,L + 3,M + 1)
  | 4 => ([tNode part,tRow (rSplit (L + 2) (L + 1)),tLab (L + 2),tNode part,tLab (L + 1)],L + 2,M)
  | _ => (tNode part :: tNode part :: lp true,L + 3,M + 1)
theorem c_rep (d : Nat) (k : Nat) (hk : k < 6) (part : PV) (h : rows.length + W.length + 10 ≤ 20000) : acall text (d + 3) 47 [.ref P.length,.tup [.str [116,105,109,101,115],.int (oft k).1,.int (oft k).2.1,.bool (oft k).2.2.1,part]] (cH P f rows es L M W) =
    some (.none,cH P f rows es (repTasks k part L M).2.1 (repTasks k part L M).2.2 (W ++ (repTasks k part L M).1.reverse)) := by
  have e1 := c_label (P := P) (f := f) (rows := rows) (es := es) (L := L) (M := M) (W := W) (d + 1)
  cases k,hk using six with
  | a0 =>
    have e2 := c_loop (P := P) (f := f) (rows := rows) (es := es) (L := L + 1) (M := M) (W := W) d part true (L + 1)
    have e4 := c_wait (P := P) (f := f) (rows := rows) (es := es) (L := L + 3) (M := M + 1) (W := W) (d + 1) (repTasks 0 part L M).1 (Nat.le_trans (Nat.add_le_add_left (of_decide_eq_true rfl) _) h)
    apply a_call (fd := f_Compiling_repeated) (b := b_Compiling_repeated) (l := [some (.ref P.length),some (.tup [.str [116,105,109,101,115],.int 0,.int (-1),.bool true,part]),none,none,none,none,none,none,none,none,none]) rfl rfl rfl; delta b_Compiling_repeated
    repeat fail "ev"
    apply x_for
    · repeat fail "ev"
    · exact rfl
    · repeat fail "ev"
    repeat fail "ev"
  | a1 =>
    have e2 := c_loop (P := P) (f := f) (rows := rows) (es := es) (L := L + 1) (M := M) (W := W) d part true (L + 1)
    have e4 := c_wait (P := P) (f := f) (rows := rows) (es := es) (L := L + 3) (M := M + 1) (W := W) (d + 1) (repTasks 1 part L M).1 (Nat.le_trans (Nat.add_le_add_left (of_decide_eq_true rfl) _) h)
    apply a_call (fd := f_Compiling_repeated) (b := b_Compiling_repeated) (l := [some (.ref P.length),some (.tup [.str [116,105,109,101,115],.int 1,.int (-1),.bool true,part]),none,none,none,none,none,none,none,none,none]) rfl rfl rfl; delta b_Compiling_repeated
    repeat fail "ev"
    apply x_for
    · repeat fail "ev"
    · exact rfl
    · repeat fail "ev"
    repeat fail "ev"
  | a2 =>
    have e2 := c_label (P := P) (f := f) (rows := rows) (es := es) (L := L + 1) (M := M) (W := W) (d + 1)
    have e3 := c_split (d + 1) (.int (L + 2 : Nat)) (.int (L + 1 : Nat)) true (cH P f rows es (L + 2) M W) (.ref P.length)
    have e4 := c_wait (P := P) (f := f) (rows := rows) (es := es) (L := L + 2) (M := M) (W := W) (d + 1) (repTasks 2 part L M).1 (Nat.le_trans (Nat.add_le_add_left (of_decide_eq_true rfl) _) h)
    apply a_call (fd := f_Compiling_repeated) (b := b_Compiling_repeated) (l := [some (.ref P.length),some (.tup [.str [116,105,109,101,115],.int 0,.int 1,.bool true,part]),none,none,none,none,none,none,none,none,none]) rfl rfl rfl; delta b_Compiling_repeated
    repeat fail "ev"
    apply x_for
    · repeat fail "ev"
    · apply fv_next
      · apply f_item
        · repeat fail "ev"
        · repeat fail "ev"
      · exact rfl
    · repeat fail "ev"
    repeat fail "ev"
  | a3 =>
    have e2 := c_loop (P := P) (f := f) (rows := rows) (es := es) (L := L + 1) (M := M) (W := W) d part false (L + 1)
    have e4 := c_wait (P := P) (f := f) (rows := rows) (es := es) (L := L + 3) (M := M + 1) (W := W) (d + 1) (repTasks 3 part L M).1 (Nat.le_trans (Nat.add_le_add_left (of_decide_eq_true rfl) _) h)
    apply a_call (fd := f_Compiling_repeated) (b := b_Compiling_repeated) (l := [some (.ref P.length),some (.tup [.str [116,105,109,101,115],.int 0,.int (-1),.bool false,part]),none,none,none,none,none,none,none,none,none]) rfl rfl rfl; delta b_Compiling_repeated
    repeat fail "ev"
    apply x_for
    · repeat fail "ev"
    · exact rfl
    · repeat fail "ev"
    repeat fail "ev"
  | a4 =>
    have e2 := c_label (P := P) (f := f) (rows := rows) (es := es) (L := L + 1) (M := M) (W := W) (d + 1)
    have e3 := c_split (d + 1) (.int (L + 2 : Nat)) (.int (L + 1 : Nat)) true (cH P f rows es (L + 2) M W) (.ref P.length)
    have e4 := c_wait (P := P) (f := f) (rows := rows) (es := es) (L := L + 2) (M := M) (W := W) (d + 1) (repTasks 4 part L M).1 (Nat.le_trans (Nat.add_le_add_left (of_decide_eq_true rfl) _) h)
    apply a_call (fd := f_Compiling_repeated) (b := b_Compiling_repeated) (l := [some (.ref P.length),some (.tup [.str [116,105,109,101,115],.int 1,.int 2,.bool true,part]),none,none,none,none,none,none,none,none,none]) rfl rfl rfl; delta b_Compiling_repeated
    repeat fail "ev"
    apply x_for
    · repeat fail "ev"
    · apply fv_next
      · apply f_item
        · repeat fail "ev"
        · repeat fail "ev"
      · exact rfl
    · repeat fail "ev"
    repeat fail "ev"
  | a5 =>
    have e2 := c_loop (P := P) (f := f) (rows := rows) (es := es) (L := L + 1) (M := M) (W := W) d part true (L + 1)
    have e4 := c_wait (P := P) (f := f) (rows := rows) (es := es) (L := L + 3) (M := M + 1) (W := W) (d + 1) (repTasks 5 part L M).1 (Nat.le_trans (Nat.add_le_add_left (of_decide_eq_true rfl) _) h)
    apply a_call (fd := f_Compiling_repeated) (b := b_Compiling_repeated) (l := [some (.ref P.length),some (.tup [.str [116,105,109,101,115],.int 2,.int (-1),.bool true,part]),none,none,none,none,none,none,none,none,none]) rfl rfl rfl; delta b_Compiling_repeated
    repeat fail "ev"
    apply x_for
    · repeat fail "ev"
    · exact rfl
    · repeat fail "ev"
    repeat fail "ev"
end
end
section
set_option maxHeartbeats 8000000
noncomputable def Sg (c : Nat) : Prop := c = 97 ∨ c = 98 ∨ c = 65 ∨ c = 10
noncomputable def lowN (c : Nat) : Nat := if c = 65 then 97 else c
noncomputable def upN (c : Nat) : Nat := if c = 97 then 65 else if c = 98 then 66 else c
theorem c_down (d : Nat) {c : Nat} (h : Sg c) (H : AH) : acall text (d + 1) 0 [.int c] H = some (.int (lowN c),H) := by
  rcases h with rfl | rfl | rfl | rfl
  all_goals
    apply a_call (fd := f_downcase) (b := b_downcase) (l := [some (.int _)]) rfl rfl rfl; delta b_downcase
    repeat fail "ev"
theorem c_up (d : Nat) {c : Nat} (h : Sg c) (H : AH) : acall text (d + 1) 1 [.int c] H = some (.int (upN c),H) := by
  rcases h with rfl | rfl | rfl | rfl
  all_goals
    apply a_call (fd := f_upcase) (b := b_upcase) (l := [some (.int _)]) rfl rfl rfl; delta b_upcase
    repeat fail "ev"
theorem c_fold (d : Nat) {c : Nat} (h : Sg c) (H : AH) : acall text (d + 2) 2 [.int c] H = some (.int (lowN c),H) := by
  have e := c_down d h H
  apply a_call (fd := f_fold) (b := b_fold) (l := [some (.int c)]) rfl rfl rfl; delta b_fold
  repeat fail "ev"
noncomputable def foldN (f : Bool) (c : Nat) : Nat := if f then lowN c else c
section
variable {P : AH} {f : Bool} {rows : List PV} {es : List (Int × PV)} {L M : Nat} {W : List PV}
theorem n_char (d : Nat) {c : Nat} (h : Sg c) (hl : rows.length < lim) : acall text (d + 3) 45 [.ref P.length,.tup [.str [99,104,97,114],.int c]] (cH P f rows es L M W) = some (.none,cH P f (rows ++ [.tup [.str [99,104,97,114],.int (foldN f c)]]) es L M W) := by
  have e := c_fold d h (cH P f rows es L M W)
  cases f
  all_goals
    apply a_call (fd := f_Compiling_node) (b := b_Compiling_node) (l := [some (.ref P.length),some (.tup [.str [99,104,97,114],.int c]),none,none]) rfl rfl rfl; delta b_Compiling_node
    repeat fail "ev"
theorem n_any (d : Nat) (hl : rows.length < lim) : acall text (d + 1) 45 [.ref P.length,.tup [.str [97,110,121]]] (cH P f rows es L M W) = some (.none,cH P f (rows ++ [.tup [.str [97,110,121]]]) es L M W) := by
  apply a_call (fd := f_Compiling_node) (b := b_Compiling_node) (l := [some (.ref P.length),some (.tup [.str [97,110,121]]),none,none]) rfl rfl rfl; delta b_Compiling_node
  repeat fail "ev"
theorem n_set (d : Nat) (r : List PV) (hl : rows.length < lim) : acall text (d + 1) 45 [.ref P.length,.tup (.str [115,101,116] :: r)] (cH P f rows es L M W) = some (.none,cH P f (rows ++ [.tup (.str [115,101,116] :: r)]) es L M W) := by
  apply a_call (fd := f_Compiling_node) (b := b_Compiling_node) (l := [some (.ref P.length),some (.tup (.str [115,101,116] :: r)),none,none]) rfl rfl rfl; delta b_Compiling_node
  repeat fail "ev"
theorem n_back (d : Nat) (r : List PV) (hl : rows.length < lim) : acall text (d + 1) 45 [.ref P.length,.tup (.str [98,97,99,107] :: r)] (cH P f rows es L M W) = some (.none,cH P f (rows ++ [.tup (.str [98,97,99,107] :: r)]) es L M W) := by
  apply a_call (fd := f_Compiling_node) (b := b_Compiling_node) (l := [some (.ref P.length),some (.tup (.str [98,97,99,107] :: r)),none,none]) rfl rfl rfl; delta b_Compiling_node
  repeat fail "ev"
theorem seq_comp (cf : CF) (l : Loc) (H : AH) (hl : 3 < l.length) : ∀ xs : List PV,compV (citem text cf (.tup [.str [110,111,100,101],.loc 3]) (.loc 3) (.bool true) l) xs H = some (xs.map fun x => tNode x,H)
  | [] => rfl
  | x :: xs => by
    have l2 : (l.set 3 (some x))[3]? = some (some x) := lk_same hl
    have ht : aassign text cf (.loc 3) x l H = some (l.set 3 (some x),H) := t_loc hl
    apply cv_some (ci_some (H2 := H) ht e_bool ?_) (seq_comp cf l H hl xs)
    repeat fail "ev"
theorem n_seq (d : Nat) (xs : List PV) (h : rows.length + W.length + xs.length ≤ 20000) : acall text (d + 2) 45 [.ref P.length,.tup [.str [115,101,113],.tup xs]] (cH P f rows es L M W) = some (.none,cH P f rows es L M (W ++ (xs.map fun x => tNode x).reverse)) := by
  have e1 := c_wait (P := P) (f := f) (rows := rows) (es := es) (L := L) (M := M) (W := W) d (xs.map fun x => tNode x) (by rw [List.length_map]; exact h)
  apply a_call (fd := f_Compiling_node) (b := b_Compiling_node) (l := [some (.ref P.length),some (.tup [.str [115,101,113],.tup xs]),none,none]) rfl rfl rfl; delta b_Compiling_node
  repeat fail "ev"
  exact seq_comp _ _ _ (of_decide_eq_true rfl) xs
  repeat fail "ev"
theorem n_shy (d : Nat) (x : PV) (h : rows.length + W.length + 1 ≤ 20000) : acall text (d + 2) 45 [.ref P.length,.tup [.str [115,104,121],x]] (cH P f rows es L M W) = some (.none,cH P f rows es L M (W ++ [tNode x])) := by
  have e1 := c_wait (P := P) (f := f) (rows := rows) (es := es) (L := L) (M := M) (W := W) d [tNode x] h
  apply a_call (fd := f_Compiling_node) (b := b_Compiling_node) (l := [some (.ref P.length),some (.tup [.str [115,104,121],x]),none,none]) rfl rfl rfl; delta b_Compiling_node
  repeat fail "ev"
theorem n_group (d : Nat) (n : Nat) (hn : n ≤ 9) (x : PV) (h : rows.length + W.length + 3 ≤ 20000) : acall text (d + 2) 45 [.ref P.length,.tup [.str [103,114,111,117,112],.int n,x]] (cH P f rows es L M W) =
    some (.none,cH P f rows es L M (W ++ [tRow (.tup [.str [115,97,118,101],.int (2 * n : Nat)]),tNode x,tRow (.tup [.str [115,97,118,101],.int (2 * n + 1 : Nat)])].reverse)) := by
  have e1 := c_wait (P := P) (f := f) (rows := rows) (es := es) (L := L) (M := M) (W := W) d [tRow (.tup [.str [115,97,118,101],.int (2 * n : Nat)]),tNode x,tRow (.tup [.str [115,97,118,101],.int (2 * n + 1 : Nat)])] h
  have m1 : abin .mul (cH P f rows es L M W) (.int 2) (.int n) = some (.int (2 * n : Nat)) := by
    rw [mul_i (by lia)]; rfl
  apply a_call (fd := f_Compiling_node) (b := b_Compiling_node) (l := [some (.ref P.length),some (.tup [.str [103,114,111,117,112],.int n,x]),none,none]) rfl rfl rfl; delta b_Compiling_node
  repeat fail "ev"
theorem n_alt (d : Nat) (x y : PV) (h : rows.length + W.length + 7 ≤ 20000) : acall text (d + 3) 45 [.ref P.length,.tup [.str [97,108,116],.tup [x,y]]] (cH P f rows es L M W) =
    some (.none,cH P f rows es (L + 3) M (W ++ [tRow (rSplit (L + 2) (L + 3)),tLab (L + 2),tNode x,tRow (rJump (L + 1)),tLab (L + 3),tNode y,tLab (L + 1)].reverse)) := by
  have e1 := c_alts (P := P) (f := f) (rows := rows) (es := es) (L := L) (M := M) (W := W) d x y h
  apply a_call (fd := f_Compiling_node) (b := b_Compiling_node) (l := [some (.ref P.length),some (.tup [.str [97,108,116],.tup [x,y]]),none,none]) rfl rfl rfl; delta b_Compiling_node
  repeat fail "ev"
theorem n_times (d : Nat) (k : Nat) (hk : k < 6) (part : PV) (h : rows.length + W.length + 10 ≤ 20000) : acall text (d + 4) 45 [.ref P.length,.tup [.str [116,105,109,101,115],.int (oft k).1,.int (oft k).2.1,.bool (oft k).2.2.1,part]] (cH P f rows es L M W) =
    some (.none,cH P f rows es (repTasks k part L M).2.1 (repTasks k part L M).2.2 (W ++ (repTasks k part L M).1.reverse)) := by
  have e1 := c_rep (P := P) (f := f) (rows := rows) (es := es) (L := L) (M := M) (W := W) d k hk part h
  apply a_call (fd := f_Compiling_node) (b := b_Compiling_node) (l := [some (.ref P.length),some (.tup [.str [116,105,109,101,115],.int (oft k).1,.int (oft k).2.1,.bool (oft k).2.2.1,part]),none,none]) rfl rfl rfl; delta b_Compiling_node
  repeat fail "ev"
end
end
section
set_option maxHeartbeats 8000000
inductive Row where
  | char (c : Nat)
  | any
  | ins
  | out
  | back (n : Nat)
  | split (a b : Nat)
  | jump (a : Nat)
  | save (i : Nat)
  | mark (m : Nat)
  | prog (m : Nat)
  | done
noncomputable def Row.ctorIdx (x : Row) : Nat := x.casesOn (fun Y => 0) 1 2 3 (fun Y => 4) (fun Y Y => 5) (fun Y => 6) (fun Y => 7) (fun Y => 8) (fun Y => 9) 10
noncomputable def Row.pv : Row → PV
  | .char c => .tup [.str [99,104,97,114],.int c]
  | .any => .tup [.str [97,110,121]]
  | .ins => .tup [.str [115,101,116],.bool false,.tup [.tup [.int 97,.int 97],.tup [.int 98,.int 98]],.tup []]
  | .out => .tup [.str [115,101,116],.bool true,.tup [.tup [.int 97,.int 97]],.tup []]
  | .back n => .tup [.str [98,97,99,107],.int n]
  | .split a b => rSplit a b
  | .jump a => rJump a
  | .save i => .tup [.str [115,97,118,101],.int i]
  | .mark m => .tup [.str [109,97,114,107],.int m]
  | .prog m => .tup [.str [112,114,111,103,114,101,115,115],.int m]
  | .done => .tup [.str [100,111,110,101]]
noncomputable def Row.res (p : Nat → Nat) : Row → Row
  | .split a b => .split (p a) (p b)
  | .jump a => .jump (p a)
  | r => r
section
variable (d : Nat) (P : AH) (f : Bool) (nd : PV)
noncomputable def whC2 : X := .cmp .ne (.attr (.loc 0) 51) (.list [])
noncomputable def whB2 : List S := [(.assign (.tup [(.loc 2),(.loc 3)]) (.callM (.attr (.loc 0) 51) 1001 [])),(.ife (.cmp .eq (.loc 2) (.str [114,111,119])) [(.expr (.callM (.attr (.loc 0) 16) 1000 [(.loc 3)]))] [(.ife (.cmp .eq (.loc 2) (.str [108,97,98,101,108])) [(.assign (.idx (.attr (.loc 0) 49) (.loc 3)) (.callB .len [(.attr (.loc 0) 16)]))] [(.expr (.callM (.loc 0) 35 [(.loc 3)]))])])]
noncomputable def GoC (H H' : AH) (k : Nat) : Prop := ∀ x y,∃ x' y',∀ n,turns (wstep text (acall text d) whC2 whB2) (n + k) [some (.ref P.length),some nd,x,y] H = turns (wstep text (acall text d) whC2 whB2) n [some (.ref P.length),some nd,x',y'] H'
variable {d P f nd}
theorem GoC.trans {H H1 H2 : AH} {a b} (u : GoC d P nd H H1 a) (v : GoC d P nd H1 H2 b) : GoC d P nd H H2 (b + a) := fun x y => by
  obtain ⟨x1,y1,e1⟩ := u x y
  obtain ⟨x2,y2,e2⟩ := v x1 y1
  exact ⟨x2,y2,fun n => by rw [← Nat.add_assoc,e1,e2]⟩
variable {rows : List PV} {es : List (Int × PV)} {L M : Nat} {W : List PV}
theorem nnil_snoc {H : AH} {r : Nat} {xs : List PV} {x : PV} (h : H[r]? = some (.list (xs ++ [x]))) : acmp .ne H (.ref r) (.lst []) = some true := by
  rw [nnil_ref h]; cases xs <;> rfl
theorem turn_row (u : PV) (hl : rows.length < lim) : GoC d P nd (cH P f rows es L M (W ++ [tRow u])) (cH P f (rows ++ [u]) es L M W) 1 := fun x y => by
  refine ⟨some (.str [114,111,119]),some u,fun n => ?_⟩
  unfold whC2 whB2
  apply tn
  · repeat fail "ev"
    exact nnil_snoc (lk_at rfl)
  · repeat fail "ev"
  · rfl
theorem turn_lab (l : Nat) (hl : es.length < lim) : GoC d P nd (cH P f rows es L M (W ++ [tLab l])) (cH P f rows (dput es l (.int rows.length)) L M W) 1 := fun x y => by
  have e : asetidx (cH P f rows es L M W) (.ref (P.length + 2)) (.int l) (.int rows.length) = some (cH P f rows (dput es l (.int rows.length)) L M W) := (set_dict (lk_at rfl) hl).trans (congrArg some set_new2)
  refine ⟨some (.str [108,97,98,101,108]),some (.int l),fun n => ?_⟩
  unfold whC2 whB2
  apply tn
  · repeat fail "ev"
    exact nnil_snoc (lk_at rfl)
  · repeat fail "ev"
  · rfl
theorem turn_node {H' : AH} (u : PV) (h : acall text d 45 [.ref P.length,u] (cH P f rows es L M W) = some (.none,H')) : GoC d P nd (cH P f rows es L M (W ++ [tNode u])) H' 1 := fun x y => by
  refine ⟨some (.str [110,111,100,101]),some u,fun n => ?_⟩
  unfold whC2 whB2
  apply tn
  · repeat fail "ev"
    exact nnil_snoc (lk_at rfl)
  · repeat fail "ev"
  · rfl
end
end
section
set_option maxHeartbeats 8000000
section
variable (d : Nat) (P : AH) (f : Bool) (nd : PV)
noncomputable abbrev LS := (Nat → Nat) → Nat → Nat → List Row
noncomputable abbrev LD := (Nat → Nat) → Nat → Nat → Prop
noncomputable def Row.labs : Row → List Nat
  | .split a b => [a,b]
  | .jump a => [a]
  | _ => []
noncomputable def CS (ts : List PV) (lb ul : List Nat) (sz ln mk : Nat) (S : LS) (D : LD) : Prop :=
  ts.length ≤ sz ∧ ln ≤ sz ∧ ∀ (rows : List PV) (es : List (Int × PV)) (L M : Nat) (W : List PV),(∀ l ∈ lb,l ≤ L) → (∀ l ∈ ul,0 < l ∧ l ≤ L) → rows.length + W.length + sz ≤ 20000 → es.length + sz ≤ 20000 → ∀ Q : Prop,
    (∀ (k : Nat) (U : List Row) (es' : List (Int × PV)) (L' : Nat),k ≤ sz → U.length = ln → es'.length ≤ es.length + sz → L ≤ L' →
      GoC d P nd (cH P f rows es L M (W ++ ts.reverse)) (cH P f (rows ++ U.map Row.pv) es' L' (M + mk) W) k →
      (∀ l : Nat,l ∉ lb → l ≤ L ∨ L' < l → es'.lookup (l : Int) = es.lookup (l : Int)) →
      (∀ u ∈ U,∀ l ∈ u.labs,0 < l ∧ l ≤ L') → (∀ l : Nat,l ∈ lb ∨ (L < l ∧ l ≤ L') → ∃ n : Nat,es'.lookup (l : Int) = some (.int n)) →
      (∀ p : Nat → Nat,(∀ l : Nat,l ∈ lb ∨ (L < l ∧ l ≤ L') → es'.lookup (l : Int) = some (.int (p l))) → U.map (Row.res p) = S p rows.length M ∧ D p rows.length M) → Q) → Q
variable {d P f nd}
theorem CS.mono {ts lb ul sz sz' ln mk} {S : LS} {D : LD} (h : CS d P f nd ts lb ul sz ln mk S D) (hs : sz ≤ sz') : CS d P f nd ts lb ul sz' ln mk S D :=
  ⟨Nat.le_trans h.1 hs,Nat.le_trans h.2.1 hs,fun rows es L M W a a' b c Q q =>
    h.2.2 rows es L M W a a' (Nat.le_trans (Nat.add_le_add_left hs _) b) (Nat.le_trans (Nat.add_le_add_left hs _) c) Q fun k U es' L' h1 h2 h3 => q k U es' L' (Nat.le_trans h1 hs) h2 (Nat.le_trans h3 (Nat.add_le_add_left hs _))⟩
theorem CS.imp {ts lb ul sz ln mk} {S S' : LS} {D D' : LD} (h : CS d P f nd ts lb ul sz ln mk S D) (q : ∀ p pc M,D p pc M → S p pc M = S' p pc M ∧ D' p pc M) : CS d P f nd ts lb ul sz ln mk S' D' :=
  ⟨h.1,h.2.1,fun rows es L M W a a' b c Q r =>
    h.2.2 rows es L M W a a' b c Q fun k U es' L' h1 h2 h3 h4 h5 h6 h8 h9 h7 => r k U es' L' h1 h2 h3 h4 h5 h6 h8 h9 fun p hp =>
      ⟨(h7 p hp).1.trans (q _ _ _ (h7 p hp).2).1,(q _ _ _ (h7 p hp).2).2⟩⟩
theorem CS.row (u : Row) : CS d P f nd [tRow u.pv] [] u.labs 1 1 0 (fun p Y Y => [u.res p]) (fun Y Y Y => True) :=
  ⟨Nat.le_refl _,Nat.le_refl _,fun rows es L M W a a' b c Q q => q 1 [u] es L (Nat.le_refl _) rfl (Nat.le_succ _) (Nat.le_refl _) (turn_row _ (by show rows.length < 1000000; fail "l")) (fun Y Y Y => rfl) (fun v hv => List.mem_singleton.mp hv ▸ a') (fun l hl => hl.elim (fun h => (by contradiction)) fun h => absurd h.1 (Nat.not_lt.mpr h.2)) fun Y Y => ⟨rfl,trivial⟩⟩
theorem dput_same {es : List (Int × PV)} {k : Int} {v : PV} : (dput es k v).lookup k = some v := by
  show List.lookup k ((k,v) :: es) = _; rw [List.lookup_cons,beq_self_eq_true]
theorem dput_ne {es : List (Int × PV)} {k j : Int} {v : PV} (h : j ≠ k) : (dput es k v).lookup j = es.lookup j := by
  show List.lookup j ((k,v) :: es) = _; rw [List.lookup_cons,beq_eq_false_iff_ne.mpr h]
theorem CS.lab (l : Nat) : CS d P f nd [tLab l] [l] [] 1 0 0 (fun Y Y Y => []) (fun p pc Y => p l = pc) :=
  ⟨Nat.le_refl _,Nat.zero_le _,fun rows es L M W a a' b c Q q => q 1 [] (dput es l (.int rows.length)) L (Nat.le_refl _) rfl (Nat.le_refl _) (Nat.le_refl _) (by
    rw [List.map_nil,List.append_nil]; exact turn_lab l (by show es.length < 1000000; fail "l")) (fun j hj Y => dput_ne (fun z => hj (List.mem_singleton.mpr (Int.ofNat.inj z)))) (fun v hv => ((by contradiction))) (fun j hj => ⟨rows.length,by
      rcases hj with h | h
      · rw [List.mem_singleton.mp h,dput_same]
      · exact absurd h.1 (Nat.not_lt.mpr h.2)⟩) fun p hp => ⟨rfl,by
    have := hp l (.inl (List.mem_singleton_self _))
    rw [dput_same] at this
    injection this with this; injection this with this; exact (Int.ofNat.inj this).symm⟩⟩
theorem CS.seq {ts1 lb1 ul1 sz1 ln1 mk1 ts2 lb2 ul2 sz2 ln2 mk2} {S1 S2 : LS} {D1 D2 : LD} (h1 : CS d P f nd ts1 lb1 ul1 sz1 ln1 mk1 S1 D1) (h2 : CS d P f nd ts2 lb2 ul2 sz2 ln2 mk2 S2 D2) (dj : ∀ l ∈ lb1,l ∉ lb2) :
    CS d P f nd (ts1 ++ ts2) (lb1 ++ lb2) (ul1 ++ ul2) (sz1 + sz2) (ln1 + ln2) (mk1 + mk2) (fun p pc M => S1 p pc M ++ S2 p (pc + ln1) (M + mk1)) (fun p pc M => D1 p pc M ∧ D2 p (pc + ln1) (M + mk1)) := by
  refine ⟨by rw [List.length_append]; exact Nat.add_le_add h1.1 h2.1,Nat.add_le_add h1.2.1 h2.2.1,fun rows es L M W a a' b c Q q => ?_⟩
  have t2 := h2.1
  have l1 := h1.2.1
  refine h1.2.2 rows es L M (W ++ ts2.reverse) (fun l hl => a l (List.mem_append_left _ hl)) (fun l hl => a' l (List.mem_append_left _ hl)) (by rw [List.length_append,List.length_reverse]; fail "l") (by fail "l") Q fun k1 U1 es1 L1 a1 b1 c1 d1 g1 e1 u1 v1 q1 =>
    h2.2.2 (rows ++ U1.map Row.pv) es1 L1 (M + mk1) W (fun l hl => Nat.le_trans (a l (List.mem_append_right _ hl)) d1) (fun l hl => ⟨(a' l (List.mem_append_right _ hl)).1,Nat.le_trans (a' l (List.mem_append_right _ hl)).2 d1⟩) (by rw [List.length_append,List.length_map]; fail "l") (by fail "l") Q fun k2 U2 es2 L2 a2 b2 c2 d2 g2 e2 u2 v2 q2 => ?_
  have back : ∀ l : Nat,l ∈ lb1 ∨ (L < l ∧ l ≤ L1) → es2.lookup (l : Int) = es1.lookup (l : Int) := fun l hl =>
    e2 l (hl.elim (dj l) fun z m => absurd (a l (List.mem_append_right _ m)) (Nat.not_le.mpr z.1)) (.inl (hl.elim (fun m => Nat.le_trans (a l (List.mem_append_left _ m)) d1) (·.2)))
  refine q (k2 + k1) (U1 ++ U2) es2 L2 (Nat.add_comm .. ▸ Nat.add_le_add a1 a2) (by rw [List.length_append,b1,b2]) (by fail "l") (Nat.le_trans d1 d2) ?_ (fun l hl ho => ?_) (fun u hu l hl => ?_) (fun l hl => ?_) (fun p hp => ?_)
  · rw [List.reverse_append,← List.append_assoc,List.map_append,← List.append_assoc,← Nat.add_assoc]; exact g1.trans g2
  · rw [List.mem_append,not_or] at hl
    exact (e2 l hl.2 (ho.imp (fun z => Nat.le_trans z d1) id)).trans (e1 l hl.1 (ho.imp id fun z => Nat.lt_of_le_of_lt d2 z))
  · rcases List.mem_append.mp hu with m | m
    · exact ⟨(u1 u m l hl).1,Nat.le_trans (u1 u m l hl).2 d2⟩
    · exact u2 u m l hl
  · by_cases h1 : l ∈ lb1 ∨ (L < l ∧ l ≤ L1)
    · exact back l h1 ▸ v1 l h1
    · refine v2 l ?_
      rw [not_or] at h1
      exact hl.imp (fun m => (List.mem_append.mp m).resolve_left h1.1) fun m => ⟨Nat.lt_of_not_le fun z => h1.2 ⟨m.1,z⟩,m.2⟩
  · have x := q1 p fun l hl => (back l hl).symm.trans (hp l (hl.imp (List.mem_append_left _) fun z => ⟨z.1,Nat.le_trans z.2 d2⟩))
    have y := q2 p fun l hl => hp l (hl.imp (List.mem_append_right _) fun z => ⟨Nat.lt_of_le_of_lt d1 z.1,z.2⟩)
    rw [List.length_append,List.length_map,b1] at y
    exact ⟨by rw [List.map_append,x.1,y.1],x.2,y.2⟩
theorem CS.wrap {x : PV} {sz ln mk nl nm w : Nat} {ts : Nat → Nat → List PV} {lb : Nat → List Nat} {ul : Nat → List Nat} {S : Nat → Nat → LS} {D : Nat → Nat → LD} {S' : LS}
    (h : ∀ L M,CS d P f nd (ts L M) (lb L) (ul L) sz ln mk (S L M) (D L M)) (hb : ∀ L,∀ l,l ∈ lb L ↔ (L < l ∧ l ≤ L + nl)) (hu : ∀ L,∀ l ∈ ul L,0 < l ∧ l ≤ L + nl)
    (e : ∀ rows es L M W,rows.length + W.length + w ≤ 20000 → acall text d 45 [.ref P.length,x] (cH P f rows es L M W) = some (.none,cH P f rows es (L + nl) (M + nm) (W ++ (ts L M).reverse)))
    (hw : w ≤ sz + 1) (q : ∀ L M p pc,D L M p pc (M + nm) → S L M p pc (M + nm) = S' p pc M) : CS d P f nd [tNode x] [] [] (sz + 1) ln (nm + mk) S' (fun Y Y Y => True) := by
  refine ⟨Nat.succ_le_succ (Nat.zero_le _),Nat.le_succ_of_le (h 0 0).2.1,fun rows es L M W a a' b c Q r => (h L M).2.2 rows es (L + nl) (M + nm) W (fun l hl => ((hb L l).mp hl).2) (hu L) (by fail "l") (by fail "l") Q fun k U es' L' h1 h2 h3 h4 h5 h6 h8 h9 h7 => ?_⟩
  refine r (k + 1) U es' L' (Nat.succ_le_succ h1) h2 (Nat.le_succ_of_le h3) (Nat.le_trans (Nat.le_add_right ..) h4) ?_ (fun l Y ho => ?_) h8 (fun l hl => h9 l ?_) (fun p hp => ?_)
  · rw [← Nat.add_assoc]; exact (turn_node x (e rows es L M W (by fail "l"))).trans h5
  · refine h6 l (fun m => ?_) (ho.imp (fun z => Nat.le_trans z (Nat.le_add_right ..)) id)
    have := (hb L l).mp m
    exact ho.elim (Nat.not_le.mpr this.1) fun z => Nat.not_lt.mpr (Nat.le_trans this.2 h4) z
  · rcases hl with m | m
    · exact (by contradiction)
    · exact (Nat.lt_or_ge (L + nl) l).elim (fun z => .inr ⟨z,m.2⟩) fun z => .inl ((hb L l).mpr ⟨m.1,z⟩)
  · have y := h7 p fun l hl => hp l (.inr (hl.elim (fun m => ⟨((hb L l).mp m).1,Nat.le_trans ((hb L l).mp m).2 h4⟩) fun m => ⟨Nat.lt_of_le_of_lt (Nat.le_add_right ..) m.1,m.2⟩))
    exact ⟨y.1.trans (q L M _ _ y.2),trivial⟩
end
end
section
set_option maxHeartbeats 8000000
noncomputable def Re.len : Re → Nat
  | .either a b => a.len + b.len + 2
  | .group _ a => a.len + 2
  | .both a b => a.len + b.len
  | .often k a => match k with
    | 0 => a.len + 4
    | 1 => a.len + (a.len + 4)
    | 2 => a.len + 1
    | 3 => a.len + 4
    | 4 => a.len + (a.len + 1)
    | _ => a.len + (a.len + (a.len + 4))
  | _ => 1
noncomputable def Re.mk : Re → Nat
  | .either a b => a.mk + b.mk
  | .group _ a => a.mk
  | .both a b => a.mk + b.mk
  | .often k a => match k with
    | 0 => 1 + a.mk
    | 1 => 1 + (a.mk + a.mk)
    | 2 => a.mk
    | 3 => 1 + a.mk
    | 4 => a.mk + a.mk
    | _ => 1 + (a.mk + (a.mk + a.mk))
  | _ => 0
noncomputable def Re.cs : Re → Nat
  | .either a b => a.cs + b.cs + 9
  | .group _ a => a.cs + 4
  | .both a b => a.cs + b.cs
  | .often _ a => 3 * a.cs + 16
  | _ => 1
noncomputable def splitG (gr : Bool) (a b : Nat) : Row := cond gr (.split a b) (.split b a)
noncomputable def loopR (gr : Bool) (pc own n : Nat) (A : List Row) : List Row := splitG gr (pc + 1) (pc + n + 4) :: .mark own :: (A ++ [.prog own,.jump pc])
noncomputable def Re.comp (f : Bool) : Re → Nat → Nat → List Row
  | .sign c,_,_ => [.char (foldN f c)]
  | .any,_,_ => [.any]
  | .ins,_,_ => [.ins]
  | .out,_,_ => [.out]
  | .again n,_,_ => [.back n]
  | .either a b,pc,m => .split (pc + 1) (pc + a.len + 2) :: (a.comp f (pc + 1) m ++ (.jump (pc + a.len + b.len + 2) :: b.comp f (pc + a.len + 2) (m + a.mk)))
  | .group n a,pc,m => .save (2 * n) :: (a.comp f (pc + 1) m ++ [.save (2 * n + 1)])
  | .both a b,pc,m => a.comp f pc m ++ b.comp f (pc + a.len) (m + a.mk)
  | .often k a,pc,m => match k with
    | 0 => loopR true pc m a.len (a.comp f (pc + 2) (m + 1))
    | 1 => a.comp f pc (m + 1) ++ loopR true (pc + a.len) m a.len (a.comp f (pc + a.len + 2) (m + 1 + a.mk))
    | 2 => .split (pc + 1) (pc + a.len + 1) :: a.comp f (pc + 1) m
    | 3 => loopR false pc m a.len (a.comp f (pc + 2) (m + 1))
    | 4 => a.comp f pc m ++ (.split (pc + a.len + 1) (pc + a.len + a.len + 1) :: a.comp f (pc + a.len + 1) (m + a.mk))
    | _ => a.comp f pc (m + 1) ++ (a.comp f (pc + a.len) (m + 1 + a.mk) ++ loopR true (pc + a.len + a.len) m a.len (a.comp f (pc + a.len + a.len + 2) (m + 1 + a.mk + a.mk)))
section
variable {d : Nat} {P : AH} {f : Bool} {nd : PV}
noncomputable abbrev Is (f : Bool) (r : Re) : LS := fun Y pc M => r.comp f pc M
noncomputable abbrev Tr : LD := fun Y Y Y => True
noncomputable abbrev TL (d : Nat) (P : AH) (f : Bool) (nd : PV) (r : Re) : Prop := CS (d + 4) P f nd (r.fl.map fun x => tNode x) [] [] r.cs r.len r.mk (Is f r) Tr
theorem none_iff {L l : Nat} : l ∈ ([] : List Nat) ↔ L < l ∧ l ≤ L + 0 := ⟨fun h => ((by contradiction)),fun h => absurd h.1 (Nat.not_lt.mpr h.2)⟩
theorem join_node {r : Re} (h : TL d P f nd r) : CS (d + 4) P f nd [tNode (join r.fl)] [] [] (r.cs + 1) r.len r.mk (Is f r) Tr := by
  unfold TL at h
  have hn := r.fl_ne
  match hf : r.fl,hn with
  | [x],_ => rw [hf] at h; exact h.mono (Nat.le_succ _)
  | x :: y :: t,_ =>
    rw [hf] at h
    have hl := h.1
    rw [List.length_map] at hl
    have := CS.wrap (ts := fun Y Y => (x :: y :: t).map fun x => tNode x) (lb := fun Y => []) (ul := fun Y => []) (S := fun Y Y => Is f r) (S' := Is f r) (nl := 0) (nm := 0) (x := .tup [.str [115,101,113],.tup (x :: y :: t)]) (fun Y Y => h) (fun Y Y => none_iff) (fun Y Y h => (by contradiction)) (fun rows es L M W hw => n_seq (d + 2) _ hw) (Nat.le_succ_of_le hl) (fun Y Y Y Y Y => rfl)
    rw [Nat.zero_add] at this
    exact this
theorem shy_node {r : Re} (h : TL d P f nd r) : CS (d + 4) P f nd [tNode (.tup [.str [115,104,121],join r.fl])] [] [] (r.cs + 2) r.len r.mk (Is f r) Tr := by
  have := CS.wrap (ts := fun Y Y => [tNode (join r.fl)]) (lb := fun Y => []) (ul := fun Y => []) (S := fun Y Y => Is f r) (S' := Is f r) (nl := 0) (nm := 0) (x := .tup [.str [115,104,121],join r.fl]) (w := 1) (fun Y Y => join_node h) (fun Y Y => none_iff) (fun Y Y h => (by contradiction)) (fun rows es L M W hw => n_shy (d + 2) _ hw) (Nat.le_add_left 1 _) (fun Y Y Y Y Y => rfl)
  rw [Nat.zero_add] at this
  exact this
theorem no_mem {lb : List Nat} : ∀ l ∈ ([] : List Nat),l ∉ lb := fun Y h => (by contradiction)
theorem one_mem {lb : List Nat} {x : Nat} (h : x ∉ lb) : ∀ l ∈ [x],l ∉ lb := fun l hl => by rw [List.mem_singleton.mp hl]; exact h
theorem tl_group {a : Re} {n : Nat} (hn : n ≤ 9) (h : TL d P f nd a) : TL d P f nd (.group n a) := by
  have s := (CS.row (d := d + 4) (P := P) (f := f) (nd := nd) (.save (2 * n))).seq ((join_node h).seq (CS.row (.save (2 * n + 1))) no_mem) no_mem
  have := CS.wrap (ts := fun Y Y => [tRow (.tup [.str [115,97,118,101],.int (2 * n : Nat)]),tNode (join a.fl),tRow (.tup [.str [115,97,118,101],.int (2 * n + 1 : Nat)])]) (lb := fun Y => []) (ul := fun Y => []) (nl := 0) (nm := 0) (x := .tup [.str [103,114,111,117,112],.int n,join a.fl]) (w := 3) (S' := Is f (.group n a))
    (fun Y Y => s) (fun Y Y => none_iff) (fun Y Y h => (by contradiction)) (fun rows es L M W hw => n_group (d + 2) n hn _ hw) (by fail "l") (fun Y Y Y Y Y => rfl)
  have e1 : (0 : Nat) + (0 + (a.mk + 0)) = (Re.group n a).mk := by show _ = a.mk; fail "l"
  have e2 : 1 + (a.len + 1) = (Re.group n a).len := by show _ = a.len + 2; fail "l"
  rw [e1,e2] at this
  exact this.mono (by show _ ≤ a.cs + 4; fail "l")
theorem tl_either {a b : Re} (ha : TL d P f nd a) (hb : TL d P f nd b) : TL d P f nd (.either a b) := by
  have s := fun L : Nat => (CS.row (d := d + 4) (P := P) (f := f) (nd := nd) (.split (L + 2) (L + 3))).seq ((CS.lab (L + 2)).seq ((join_node ha).seq ((CS.row (.jump (L + 1))).seq ((CS.lab (L + 3)).seq ((join_node hb).seq (CS.lab (L + 1)) no_mem) (one_mem (by simp))) no_mem) no_mem) (one_mem (by simp))) no_mem
  have w1 := CS.wrap (ts := fun L Y => [tRow (rSplit (L + 2) (L + 3)),tLab (L + 2),tNode (join a.fl),tRow (rJump (L + 1)),tLab (L + 3),tNode (join b.fl),tLab (L + 1)]) (nl := 3) (nm := 0) (x := .tup [.str [97,108,116],.tup [join a.fl,join b.fl]]) (w := 7) (S' := Is f (.either a b))
    (fun L Y => s L) (fun L l => by simp; fail "l") (fun L l hl => by simp [Row.labs,splitG] at hl; fail "l") (fun rows es L M W hw => n_alt (d + 1) _ _ hw) (by fail "l") (fun L M p pc ⟨_,q3,_,_,q10,_,q13⟩ => by
      show Row.split (p (L + 2)) (p (L + 3)) :: (Re.comp f a (pc + 1 + 0) _ ++ (Row.jump (p (L + 1)) :: (Re.comp f b _ _ ++ []))) = Row.split _ _ :: (_ ++ Row.jump _ :: _)
      rw [q3,q10,q13,List.append_nil,show pc + 1 + 0 + a.len + 1 = pc + a.len + 2 by fail "l",show pc + a.len + 2 + 0 + b.len = pc + a.len + b.len + 2 by fail "l"]; rfl)
  have w2 := CS.wrap (ts := fun Y Y => [tNode (.tup [.str [97,108,116],.tup [join a.fl,join b.fl]])]) (lb := fun Y => []) (ul := fun Y => []) (S := fun Y Y => Is f (.either a b)) (S' := Is f (.either a b)) (nl := 0) (nm := 0) (x := .tup [.str [115,104,121],.tup [.str [97,108,116],.tup [join a.fl,join b.fl]]]) (w := 1) (fun Y Y => w1) (fun Y Y => none_iff) (fun Y Y h => (by contradiction)) (fun rows es L M W hw => n_shy (d + 2) _ hw) (by fail "l") (fun Y Y Y Y Y => rfl)
  have e1 : (0 : Nat) + (0 + (0 + (0 + (a.mk + (0 + (0 + (b.mk + 0))))))) = (Re.either a b).mk := by show _ = a.mk + b.mk; fail "l"
  have e2 : 1 + (0 + (a.len + (1 + (0 + (b.len + 0))))) = (Re.either a b).len := by show _ = a.len + b.len + 2; fail "l"
  rw [e1,e2] at w2
  exact w2.mono (by show _ ≤ a.cs + b.cs + 9; fail "l")
theorem tl_loop {a : Re} (h : TL d P f nd a) (gr : Bool) (L own : Nat) :
    CS (d + 4) P f nd [tLab (L + 2),tRow (.tup [.str [115,112,108,105,116],cond gr (.int (L + 3 : Nat)) (.int (L + 1 : Nat)),cond gr (.int (L + 1 : Nat)) (.int (L + 3 : Nat))]),tLab (L + 3),tRow (.tup [.str [109,97,114,107],.int own]),tNode (.tup [.str [115,104,121],join a.fl]),tRow (.tup [.str [112,114,111,103,114,101,115,115],.int own]),tRow (rJump (L + 2)),tLab (L + 1)]
      [L + 2,L + 3,L + 1] ((splitG gr (L + 3) (L + 1)).labs ++ [L + 2]) (a.cs + 9) (a.len + 4) a.mk (fun p pc M => loopR gr pc own a.len (a.comp f (pc + 2) M)) Tr := by
  have s := (CS.lab (d := d + 4) (P := P) (f := f) (nd := nd) (L + 2)).seq ((CS.row (splitG gr (L + 3) (L + 1))).seq ((CS.lab (L + 3)).seq ((CS.row (.mark own)).seq ((shy_node h).seq ((CS.row (.prog own)).seq ((CS.row (.jump (L + 2))).seq (CS.lab (L + 1)) no_mem) no_mem) no_mem) no_mem) (one_mem (by simp))) no_mem) (one_mem (by simp))
  have e1 : (0 : Nat) + (0 + (0 + (0 + (a.mk + (0 + (0 + 0)))))) = a.mk := by fail "l"
  have e2 : 0 + (1 + (0 + (1 + (a.len + (1 + (1 + 0)))))) = a.len + 4 := by fail "l"
  have et : (splitG gr (L + 3) (L + 1)).pv = .tup [.str [115,112,108,105,116],cond gr (.int (L + 3 : Nat)) (.int (L + 1 : Nat)),cond gr (.int (L + 1 : Nat)) (.int (L + 3 : Nat))] := by cases gr <;> rfl
  rw [e1,e2,et] at s
  refine (s.mono (by fail "l")).imp fun p pc M ⟨q1,_,q6,_,_,_,_,q15⟩ => ⟨?_,trivial⟩
  unfold loopR
  have er : (splitG gr (L + 3) (L + 1)).res p = splitG gr (p (L + 3)) (p (L + 1)) := by cases gr <;> rfl
  show (splitG gr (L + 3) (L + 1)).res p :: Row.mark own :: (Re.comp f a _ _ ++ (Row.prog own :: (Row.jump (p (L + 2)) :: []))) = _
  rw [er,q1,q6,q15,show pc + 0 + 1 + 0 + 1 + a.len + 1 + 1 = pc + a.len + 4 by fail "l"]
  rfl
theorem rep_wrap {a : Re} {k sz mk : Nat} {lb ul : Nat → List Nat} {S : Nat → Nat → LS} {D : Nat → Nat → LD} (hk : k < 6) (nl nm : Nat) (hL : ∀ L M,(repTasks k (.tup [.str [115,104,121],join a.fl]) L M).2 = (L + nl,M + nm))
    (h : ∀ L M,CS (d + 4) P f nd (repTasks k (.tup [.str [115,104,121],join a.fl]) L M).1 (lb L) (ul L) sz (Re.often k a).len mk (S L M) (D L M)) (hb : ∀ L,∀ l,l ∈ lb L ↔ (L < l ∧ l ≤ L + nl)) (hu : ∀ L,∀ l ∈ ul L,0 < l ∧ l ≤ L + nl) (hs : sz ≤ 3 * a.cs + 15)
    (hm : nm + mk = (Re.often k a).mk) (q : ∀ L M p pc,D L M p pc (M + nm) → S L M p pc (M + nm) = (Re.often k a).comp f pc M) : TL d P f nd (.often k a) := by
  have w := CS.wrap (x := .tup [.str [116,105,109,101,115],.int (oft k).1,.int (oft k).2.1,.bool (oft k).2.2.1,.tup [.str [115,104,121],join a.fl]]) (w := 10) (S' := Is f (.often k a)) (fun L M => (h L M).mono hs) hb hu (fun rows es L M W hw => by
    have := n_times (P := P) (f := f) (rows := rows) (es := es) (L := L) (M := M) (W := W) d k hk (.tup [.str [115,104,121],join a.fl]) hw
    rw [hL] at this
    exact this) (by fail "l") q
  rw [hm] at w
  exact w
theorem tl_often {a : Re} {k : Nat} (hk : k < 6) (h : TL d P f nd a) : TL d P f nd (.often k a) := by
  cases k,hk using six with
  | a0 => exact rep_wrap (by decide) 3 1 (fun Y Y => rfl) (fun L M => tl_loop h true L M) (fun L l => by simp; fail "l") (fun L l hl => by simp [Row.labs,splitG] at hl; fail "l") (by fail "l") rfl (fun L M p pc Y => rfl)
  | a3 => exact rep_wrap (by decide) 3 1 (fun Y Y => rfl) (fun L M => tl_loop h false L M) (fun L l => by simp; fail "l") (fun L l hl => by simp [Row.labs,splitG] at hl; fail "l") (by fail "l") rfl (fun L M p pc Y => rfl)
  | a1 => exact rep_wrap (by decide) 3 1 (fun Y Y => rfl) (fun L M => (shy_node h).seq (tl_loop h true L M) no_mem) (fun L l => by simp; fail "l") (fun L l hl => by simp [Row.labs,splitG] at hl; fail "l") (by fail "l") rfl (fun L M p pc Y => rfl)
  | a5 => exact rep_wrap (by decide) 3 1 (fun Y Y => rfl) (fun L M => (shy_node h).seq ((shy_node h).seq (tl_loop h true L M) no_mem) no_mem) (fun L l => by simp; fail "l") (fun L l hl => by simp [Row.labs,splitG] at hl; fail "l") (by fail "l") rfl (fun L M p pc Y => rfl)
  | a2 =>
    have s := fun L M : Nat => (CS.row (d := d + 4) (P := P) (f := f) (nd := nd) (.split (L + 2) (L + 1))).seq ((CS.lab (L + 2)).seq ((shy_node h).seq (CS.lab (L + 1)) no_mem) (one_mem (by simp))) no_mem
    have e1 : (0 : Nat) + (0 + (a.mk + 0)) = a.mk := by fail "l"
    have e2 : 1 + (0 + (a.len + 0)) = (Re.often 2 a).len := by show _ = a.len + 1; fail "l"
    rw [e1,e2] at s
    exact rep_wrap (by decide) 2 0 (fun Y Y => rfl) s (fun L l => by simp; fail "l") (fun L l hl => by simp [Row.labs,splitG] at hl; fail "l") (by fail "l") (Nat.zero_add _) (fun L M p pc ⟨_,q3,_,q7⟩ => by
      show Row.split (p (L + 2)) (p (L + 1)) :: (Re.comp f a (pc + 1 + 0) _ ++ []) = Row.split _ _ :: _
      rw [q3,q7,List.append_nil,show pc + 1 + 0 + a.len = pc + a.len + 1 by fail "l"]; rfl)
  | a4 =>
    have s := fun L M : Nat => (shy_node h).seq ((CS.row (d := d + 4) (P := P) (f := f) (nd := nd) (.split (L + 2) (L + 1))).seq ((CS.lab (L + 2)).seq ((shy_node h).seq (CS.lab (L + 1)) no_mem) (one_mem (by simp))) no_mem) no_mem
    have e1 : a.mk + ((0 : Nat) + (0 + (a.mk + 0))) = a.mk + a.mk := by fail "l"
    have e2 : a.len + (1 + (0 + (a.len + 0))) = (Re.often 4 a).len := by show _ = a.len + (a.len + 1); fail "l"
    rw [e1,e2] at s
    exact rep_wrap (by decide) 2 0 (fun Y Y => rfl) s (fun L l => by simp; fail "l") (fun L l hl => by simp [Row.labs,splitG] at hl; fail "l") (by fail "l") (Nat.zero_add _) (fun L M p pc ⟨_,_,q3,_,q7⟩ => by
      show Re.comp f a pc M ++ (Row.split (p (L + 2)) (p (L + 1)) :: (Re.comp f a (pc + a.len + 1 + 0) _ ++ [])) = _ ++ Row.split _ _ :: _
      rw [q3,q7,List.append_nil,show pc + a.len + 1 + 0 + a.len = pc + a.len + a.len + 1 by fail "l"]; rfl)
theorem tl_both {a b : Re} (ha : TL d P f nd a) (hb : TL d P f nd b) : TL d P f nd (.both a b) := by
  show CS (d + 4) P f nd ((a.fl ++ b.fl).map fun x => tNode x) [] [] (a.cs + b.cs) (a.len + b.len) (a.mk + b.mk) (fun Y pc M => a.comp f pc M ++ b.comp f (pc + a.len) (M + a.mk)) Tr
  rw [List.map_append]
  exact (CS.seq ha hb no_mem).imp fun Y Y Y Y => ⟨rfl,trivial⟩
theorem tl_leaf {x : PV} {u : Row} (e : ∀ (rows : List PV) es L M W,rows.length < lim → acall text (d + 4) 45 [.ref P.length,x] (cH P f rows es L M W) = some (.none,cH P f (rows ++ [u.pv]) es L M W)) (hl' : u.labs = []) :
    CS (d + 4) P f nd [tNode x] [] [] 1 1 0 (fun p Y Y => [u.res p]) Tr :=
  ⟨Nat.le_refl _,Nat.le_refl _,fun rows es L M W a a' b c Q q => q 1 [u] es L (Nat.le_refl _) rfl (Nat.le_succ _) (Nat.le_refl _) (turn_node x (e rows es L M W (by show rows.length < 1000000; fail "l"))) (fun Y Y Y => rfl) (fun v hv => List.mem_singleton.mp hv ▸ fun l hl => (by rw [hl'] at hl; exact (by contradiction))) (fun l hl => hl.elim (fun h => (by contradiction)) fun h => absurd h.1 (Nat.not_lt.mpr h.2)) fun Y Y => ⟨rfl,trivial⟩⟩
theorem tl_all {r : Re} {g cl g' cl'} (w : WF g cl r g' cl') (h9 : g' ≤ 9) : TL d P f nd r := by
  induction w with
  | both wa wb A B => exact tl_both (A (Nat.le_trans wb.grow.1 h9)) (B h9)
  | either wa wb A B => exact tl_either (A (Nat.le_trans wb.grow.1 h9)) (B h9)
  | group wa A => exact tl_group (Nat.le_trans wa.grow.1 h9) (A h9)
  | often hk wa A => exact tl_often hk (A h9)
  | @sign _ _ c hc => exact tl_leaf (u := .char (foldN f c)) (fun rows es L M W hl => n_char (d + 1) (hc.imp id (Or.imp id .inl)) hl) rfl
  | any => exact tl_leaf (u := .any) (fun rows es L M W hl => n_any (d + 3) hl) rfl
  | ins => exact tl_leaf (u := .ins) (fun rows es L M W hl => n_set (d + 3) _ hl) rfl
  | out => exact tl_leaf (u := .out) (fun rows es L M W hl => n_set (d + 3) _ hl) rfl
  | @again _ _ n _ => exact tl_leaf (u := .back n) (fun rows es L M W hl => n_back (d + 3) _ hl) rfl
end
end
section
set_option maxHeartbeats 8000000
section
variable {P : AH} {f : Bool} {es : List (Int × PV)} {L M : Nat} {W : List PV}
theorem c_run (d : Nat) {r : Re} (h : TL d P f (join r.fl) r) (hs : r.cs ≤ 10000) :
    ∃ (U : List Row) (es' : List (Int × PV)) (L' : Nat) (p : Nat → Nat),acall text (d + 5) 44 [.ref P.length,join r.fl] (cH P f [] [] 0 0 []) = some (.none,cH P f (U.map Row.pv) es' L' r.mk []) ∧ U.length = r.len + 1 ∧
      (∀ u ∈ U,∀ l ∈ u.labs,es'.lookup (l : Int) = some (.int (p l))) ∧ U.map (Row.res p) = r.comp f 0 0 ++ [.done] := by
  refine ((join_node h).seq (CS.row .done) no_mem).2.2 [] [] 0 0 [] (fun l hl => (by contradiction)) (fun l hl => (by contradiction)) (by show 0 + 0 + (r.cs + 1 + 1) ≤ 20000; fail "l") (by show 0 + (r.cs + 1 + 1) ≤ 20000; fail "l") _ fun k U es' L' h1 h2 h3 h4 h5 h6 h7 h8 h9 => ?_
  have hx : ∀ l : Nat,∃ n : Nat,(0 < l ∧ l ≤ L') → es'.lookup (l : Int) = some (.int n) := fun l => by
    by_cases z : 0 < l ∧ l ≤ L'
    · obtain ⟨n,e⟩ := h8 l (.inr z)
      exact ⟨n,fun Y => e⟩
    · exact ⟨0,fun q => absurd q z⟩
  refine ⟨U,es',L',fun l => (hx l).choose,?_,h2,fun u hu l hl => (hx l).choose_spec (h7 u hu l hl),(h9 _ fun l hl => (hx l).choose_spec (hl.elim (fun m => (by contradiction)) id)).1⟩
  have e1 := c_wait (P := P) (f := f) (rows := []) (es := []) (L := 0) (M := 0) (W := []) (d + 3) [tNode (join r.fl),tRow (.tup [.str [100,111,110,101]])] (of_decide_eq_true rfl)
  obtain ⟨x',y',go⟩ := h5 none none
  have e2 : turns (wstep text (acall text (d + 4)) whC2 whB2) (999999 - k + 1) [some (.ref P.length),some (join r.fl),x',y'] (cH P f (U.map Row.pv) es' L' r.mk []) = some (.next,[some (.ref P.length),some (join r.fl),x',y'],cH P f (U.map Row.pv) es' L' r.mk []) := by
    unfold whC2 whB2
    apply te
    repeat fail "ev"
    exact nnil_ref (xs := []) (lk_at rfl)
  rw [Nat.zero_add] at go
  apply a_call (fd := f_Compiling_run) (b := b_Compiling_run) (l := [some (.ref P.length),some (join r.fl),none,none]) rfl rfl rfl; delta b_Compiling_run
  repeat fail "ev"
  apply x_whil (n := (999999 - k) + 1 + k) (by unfold fuel; fail "l")
  · exact (go _).trans e2
  · repeat fail "ev"
  repeat fail "ev"
noncomputable abbrev sH (P : AH) (f : Bool) (rows : List PV) (es : List (Int × PV)) (L M : Nat) (F : List PV) : AH := P ++ [cObj P.length f L M,.list rows,.dict es,.list [],.list F]
theorem settle_turns (cf : CF) (p : Nat → Nat) (U : List Row) (hU : ∀ u ∈ U,∀ l ∈ u.labs,es.lookup (l : Int) = some (.int (p l))) : ∀ (snap : List Row) (i : Nat) (F : List PV) (x : Option PV),U.drop i = snap → F.length + snap.length ≤ lim →
    ∃ x',forL (fitem text cf (.loc 2) [(.ife (.cmp .eq (.idx (.loc 2) (.int 0)) (.str [115,112,108,105,116])) [(.expr (.callM (.loc 1) 1000 [(.tup [(.str [115,112,108,105,116]),(.idx (.attr (.loc 0) 49) (.idx (.loc 2) (.int 1))),(.idx (.attr (.loc 0) 49) (.idx (.loc 2) (.int 2)))])]))] [(.expr (.callM (.loc 1) 1000 [(.ife (.cmp .eq (.idx (.loc 2) (.int 0)) (.str [106,117,109,112])) (.tup [(.str [106,117,109,112]),(.idx (.attr (.loc 0) 49) (.idx (.loc 2) (.int 1)))]) (.loc 2))]))])])
      (P.length + 1) (snap.map Row.pv) i [some (.ref P.length),some (.ref (P.length + 4)),x] (sH P f (U.map Row.pv) es L M F) = some (.next,[some (.ref P.length),some (.ref (P.length + 4)),x'],sH P f (U.map Row.pv) es L M (F ++ (snap.map fun u => (u.res p).pv)))
  | [],i,F,x,hd,_ => ⟨x,by
    rw [List.map_nil,List.map_nil,List.append_nil]
    exact fl_nil (lk_at rfl) (by rw [List.getElem?_map,show U[i]? = none from by rw [List.getElem?_eq_none_iff]; exact List.drop_eq_nil_iff.mp hd]; rfl)⟩
  | u :: snap,i,F,x,hd,hl => by
    have hi : U[i]? = some u := by rw [← List.head?_drop,hd]; rfl
    have hd' : U.drop (i + 1) = snap := by rw [← List.tail_drop,hd]; rfl
    rw [List.length_cons] at hl
    have hF : F.length < lim := by fail "l"
    obtain ⟨x',e⟩ := settle_turns cf p U hU snap (i + 1) (F ++ [(u.res p).pv]) (some u.pv) hd' (by rw [List.length_append]; show F.length + 1 + snap.length ≤ lim; fail "l")
    rw [List.append_assoc] at e
    have hu := hU u (List.mem_of_getElem? hi)
    refine ⟨x',fl_next (lk_at rfl) (by rw [List.getElem?_map,hi]; rfl) ?_ e⟩
    apply f_item
    · repeat fail "ev"
    · clear hU e hd hd' hi
      generalize U.map Row.pv = R
      cases u with
      | split a b =>
        have h1 := hu a (.head _)
        have h2 := hu b (.tail _ (.head _))
        have q1 : aidx (sH P f R es L M F) (.ref (P.length + 2)) (.int a) = some (.int (p a)) := idx_dict (lk_at rfl) h1
        have q2 : aidx (sH P f R es L M F) (.ref (P.length + 2)) (.int b) = some (.int (p b)) := idx_dict (lk_at rfl) h2
        unfold Row.pv
        repeat fail "ev"
      | jump a =>
        have h1 := hu a (.head _)
        have q1 : aidx (sH P f R es L M F) (.ref (P.length + 2)) (.int a) = some (.int (p a)) := idx_dict (lk_at rfl) h1
        unfold Row.pv
        repeat fail "ev"
      | _ =>
        unfold Row.pv
        repeat fail "ev"
theorem c_settled (d : Nat) (p : Nat → Nat) (U : List Row) (hU : ∀ u ∈ U,∀ l ∈ u.labs,es.lookup (l : Int) = some (.int (p l))) (hl : U.length ≤ lim) :
    acall text (d + 1) 50 [.ref P.length] (cH P f (U.map Row.pv) es L M []) = some (.ref (P.length + 4),sH P f (U.map Row.pv) es L M (U.map fun u => (u.res p).pv)) := by
  obtain ⟨x',e⟩ := settle_turns (P := P) (f := f) (L := L) (M := M) (acall text d) p U hU U 0 [] none rfl (by show 0 + U.length ≤ lim; fail "l")
  apply a_call (fd := f_Compiling_settled) (b := b_Compiling_settled) (l := [some (.ref P.length),none,none]) rfl rfl rfl; delta b_Compiling_settled
  repeat fail "ev"
  apply x_for
  · repeat fail "ev"
  · exact e
  · repeat fail "ev"
  repeat fail "ev"
noncomputable abbrev rcObj (rr g mk : Nat) (f : Bool) : AObj := .inst 4 [(16,.ref rr),(13,.int g),(11,.int mk),(23,.bool f)]
theorem c_compiling (d : Nat) (P : AH) (f : Bool) : acall text (d + 1) 41 [.ref P.length,.bool f] (P ++ [.inst 5 []]) = some (.none,cH P f [] [] 0 0 []) := by
  apply a_call (fd := f_Compiling_init) (b := b_Compiling_init) (l := [some (.ref P.length),some (.bool f)]) rfl rfl rfl; delta b_Compiling_init
  repeat fail "ev"
theorem c_regcode (d : Nat) (P : AH) (v1 v2 v3 v4 : PV) : acall text (d + 1) 40 [.ref P.length,v1,v2,v3,v4] (P ++ [.inst 4 []]) = some (.none,P ++ [.inst 4 [(16,v1),(13,v2),(11,v3),(23,v4)]]) := by
  apply a_call (fd := f_Regcode_init) (b := b_Regcode_init) (l := [some (.ref P.length),some (v1),some (v2),some (v3),some (v4)]) rfl rfl rfl; delta b_Regcode_init
  repeat fail "ev"
noncomputable def HasCode (H : AH) (c : Nat) (r : Re) (f : Bool) (g : Nat) : Prop := ∃ rr,H[c]? = some (rcObj rr g r.mk f) ∧ H[rr]? = some (.list ((r.comp f 0 0 ++ [Row.done]).map Row.pv))
theorem c_compile_node (d : Nat) {r : Re} {g : Nat} (h : TL d P f (join r.fl) r) (hs : r.cs ≤ 10000) (hn : r.len ≤ 10000) :
    ∃ H',acall text (d + 6) 51 [join r.fl,.int g,.bool f] P = some (.ref (P.length + 5),H') ∧ HasCode H' (P.length + 5) r f g ∧ Keep [] P H' := by
  obtain ⟨U,es,L,p,e1,e2,e3,e4⟩ := c_run d h hs
  have e5 := c_settled (P := P) (f := f) (L := L) (M := r.mk) (d + 4) p U e3 (by show U.length ≤ 1000000; fail "l")
  have e6 : (U.map fun u => (u.res p).pv) = (r.comp f 0 0 ++ [Row.done]).map Row.pv := by rw [← e4,List.map_map]; rfl
  rw [e6] at e5
  have e7 := c_compiling (d + 4) P f
  have e8 := c_regcode (d + 4) (sH P f (U.map Row.pv) es L r.mk ((r.comp f 0 0 ++ [Row.done]).map Row.pv)) (.ref (P.length + 4)) (.int g) (.int r.mk) (.bool f)
  rw [len_new4,app4,app4] at e8
  refine ⟨P ++ [cObj P.length f L r.mk,.list (U.map Row.pv),.dict es,.list [],.list ((r.comp f 0 0 ++ [Row.done]).map Row.pv),rcObj (P.length + 4) g r.mk f],?_,⟨_,lk_at rfl,lk_at rfl⟩,Keep.app⟩
  apply a_call (fd := f_compile_node) (b := b_compile_node) (l := [some (join r.fl),some (.int g),some (.bool f),none]) rfl rfl rfl; delta b_compile_node
  repeat fail "ev"
theorem c_compile (d : Nat) {r : Re} {g' cl'} (w : WF 0 [] r g' cl') (g9 : g' ≤ 9) (hl : r.pat.length ≤ 1000) (hs : r.cs ≤ 10000) (hn : r.len ≤ 10000) (f : Bool) (H : AH) :
    ∃ H' c,acall text (d + 9) 52 [.lst (codesOf r.pat),.bool f] H = some (.ref c,H') ∧ HasCode H' c r f g' ∧ Keep [] H H' ∧ H.length ≤ c := by
  obtain ⟨H1,e1,k1⟩ := c_parse d w g9 hl H
  obtain ⟨H2,e2,c2,k2⟩ := c_compile_node (d + 2) (P := H1) (f := f) (g := g') (tl_all w g9) hs hn
  refine ⟨H2,H1.length + 5,?_,c2,k1.trans k2,Nat.le_add_right_of_le k1.len⟩
  apply a_call (fd := f_compile_regexp) (b := b_compile_regexp) (l := [some (.lst (codesOf r.pat)),some (.bool f),none,none]) rfl rfl rfl; delta b_compile_regexp
  repeat fail "ev"
end
end
section
set_option maxHeartbeats 8000000
noncomputable abbrev mObj (c v t taken limit kp mk ch cg : Nat) : AObj := .inst 1 [(3,.ref c),(4,.ref v),(5,.ref t),(6,.int 0),(7,.int 400000),(8,.int taken),(9,.int limit),(10,.ref kp),(11,.ref mk),(12,.ref ch),(2,.ref cg)]
noncomputable abbrev vObj (tx : List Nat) : AObj := .inst 8 [(31,.lst (codesOf tx)),(1,.int 0)]
noncomputable abbrev tObj (di : Nat) : AObj := .inst 7 [(63,.none),(16,.ref di)]
theorem codes_at {tx : List Nat} {p x : Nat} (h : tx[p]? = some x) : at? (codesOf tx) (p : Int) = some (.int x) := at_int (by unfold codesOf; rw [List.getElem?_map,h]; rfl)
theorem codes_len {tx : List Nat} : (codesOf tx).length = tx.length := List.length_map ..
theorem c_code_at (d : Nat) {H : AH} {v : Nat} {tx : List Nat} {p x : Nat} (hv : H[v]? = some (vObj tx)) (h : tx[p]? = some x) : acall text (d + 1) 61 [.ref v,.int p] H = some (.int x,H) := by
  have h1 := codes_at h
  have h2 : (p : Int) - 0 = p := Int.sub_zero _
  have h3 := lk_lt h
  have h4 : (decide ((0 : Int) ≤ p) && decide ((p : Int) < 0 + ((codesOf tx).length : Nat))) = true := by rw [codes_len]; simp; lia
  apply a_call (fd := f_TextRow_code_at) (b := b_TextRow_code_at) (l := [some (.ref v),some (.int p)]) rfl rfl rfl; delta b_TextRow_code_at
  repeat fail "ev"
theorem c_kind (d : Nat) {H : AH} {t di : Nat} {c : Nat} (ht : H[t]? = some (tObj di)) (hd : H[di]? = some (.dict [])) (hc : c ≤ 127) : ∃ k,acall text (d + 3) 58 [.ref t,.int c] H = some (.str k,H ++ [.inst 6 [(60,.str k),(61,.none),(62,.str [])]]) := by
  have e1 : acall text (d + 1) 56 [.ref t,.int c] H = some (.none,H) := by
    apply a_call (fd := f_SyntaxTable_own) (b := b_SyntaxTable_own) (l := [some (.ref t),some (.int c),none]) rfl rfl rfl; delta b_SyntaxTable_own
    repeat fail "ev"
  have e2 : ∀ k,acall text (d + 1) 54 [.ref H.length,.str k,.none,.str []] (H ++ [.inst 6 []]) = some (.none,H ++ [.inst 6 [(60,.str k),(61,.none),(62,.str [])]]) := fun k => by
    apply a_call (fd := f_Syntax_init) (b := b_Syntax_init) (l := [some (.ref H.length),some (.str k),some (.none),some (.str [])]) rfl rfl rfl; delta b_Syntax_init
    repeat fail "ev"
  have e3 : acall text (d + 2) 57 [.ref t,.int c] H = some (.ref H.length,H ++ [.inst 6 [(60,.str [46]),(61,.none),(62,.str [])]]) := by
    have e4 := e2 [46]
    apply a_call (fd := f_SyntaxTable_at) (b := b_SyntaxTable_at) (l := [some (.ref t),some (.int c),none,none]) rfl rfl rfl; delta b_SyntaxTable_at
    repeat fail "ev"
    apply x_whil fuel_eq
    · apply tn
      · repeat fail "ev"
      · repeat fail "ev"
      apply te
      repeat fail "ev"
    · repeat fail "ev"
    repeat fail "ev"
  refine ⟨[46],?_⟩
  apply a_call (fd := f_SyntaxTable_kind_of) (b := b_SyntaxTable_kind_of) (l := [some (.ref t),some (.int c)]) rfl rfl rfl; delta b_SyntaxTable_kind_of
  repeat fail "ev"
theorem c_in_ranges (cf : CF) (l : Loc) (H : AH) (x : Int) (hl : 3 < l.length) (hx : l[1]? = some (some (.int x))) : ∀ rs : List (Int × Int),compV (citem text cf (.cmp2 .le .le (.loc 2) (.loc 1) (.loc 3)) (.tup [.loc 2,.loc 3]) (.bool true) l) (rs.map fun r => .tup [.int r.1,.int r.2]) H = some (rs.map fun r => .bool (decide (r.1 ≤ x) && decide (x ≤ r.2)),H)
  | [] => rfl
  | r :: rs => by
    have l2 : ((l.set 2 (some (.int r.1))).set 3 (some (.int r.2)))[2]? = some (some (.int r.1)) := lk_ne (by decide) (lk_same (by lia))
    have l3 : ((l.set 2 (some (.int r.1))).set 3 (some (.int r.2)))[3]? = some (some (.int r.2)) := lk_same (by rw [List.length_set]; exact hl)
    have l1 : ((l.set 2 (some (.int r.1))).set 3 (some (.int r.2)))[1]? = some (some (.int x)) := lk_ne (by decide) (lk_ne (by decide) hx)
    have t2 : aassign text cf (.loc 2) (.int r.1) l H = some (l.set 2 (some (.int r.1)),H) := t_loc (by lia)
    have t3 : aassign text cf (.loc 3) (.int r.2) (l.set 2 (some (.int r.1))) H = some ((l.set 2 (some (.int r.1))).set 3 (some (.int r.2)),H) := t_loc (by rw [List.length_set]; exact hl)
    apply cv_some (ci_some (H2 := H) (t_tup (ts_cons t2 (ts_cons t3 ts_nil))) e_bool ?_) (c_in_ranges cf l H x hl hx rs)
    repeat fail "ev"
theorem bools_map {α : Type} (g : α → Bool) : ∀ rs : List α,bools? (rs.map fun r => PV.bool (g r)) = some (rs.map g)
  | [] => rfl
  | r :: rs => by show (bools? (rs.map fun r => PV.bool (g r))).map (g r :: ·) = _; rw [bools_map g rs]; rfl
noncomputable def inR (rs : List (Int × Int)) (x : Int) : Bool := rs.any fun r => decide (r.1 ≤ x) && decide (x ≤ r.2)
theorem c_ranges (d : Nat) (H : AH) (rs : List (Int × Int)) (x : Int) : acall text (d + 1) 6 [.tup (rs.map fun r => .tup [.int r.1,.int r.2]),.int x] H = some (.bool (inR rs x),H) := by
  have e1 := c_in_ranges (acall text d) [some (.tup (rs.map fun r => .tup [.int r.1,.int r.2])),some (.int x),none,none] H x (of_decide_eq_true rfl) rfl rs
  have e2 : abi .any H [.lst (rs.map fun r => .bool (decide (r.1 ≤ x) && decide (x ≤ r.2)))] = some (.bool (inR rs x)) := by
    show (bools? _).map (fun bs => PV.bool (bs.any id)) = _
    rw [bools_map (fun r : Int × Int => decide (r.1 ≤ x) && decide (x ≤ r.2))]
    show some (PV.bool _) = some (PV.bool _)
    rw [List.any_map]; rfl
  apply a_call (fd := f_is_in_ranges) (b := b_is_in_ranges) (l := [some (.tup (rs.map fun r => .tup [.int r.1,.int r.2])),some (.int x),none,none]) rfl rfl rfl; delta b_is_in_ranges
  repeat fail "ev"
end
section
set_option maxHeartbeats 8000000
structure Stat where
  (c rr v t di g nm : Nat)
  f : Bool
  rows : List Row
  tx : List Nat
structure Stc (B : Nat) (S : Stat) (H : AH) : Prop where
  hc : H[S.c]? = some (rcObj S.rr S.g S.nm S.f)
  hr : H[S.rr]? = some (.list (S.rows.map Row.pv))
  hv : H[S.v]? = some (vObj S.tx)
  ht : H[S.t]? = some (tObj S.di)
  hd : H[S.di]? = some (.dict [])
  lt : S.c < B ∧ S.rr < B ∧ S.v < B ∧ S.t < B ∧ S.di < B
  sg : ∀ x ∈ S.tx,Sg x
theorem Stc.step {B S H H'} (s : Stc B S H) (k : ∀ i o,H[i]? = some o → i < B → H'[i]? = some o) : Stc B S H' :=
  ⟨k _ _ s.hc s.lt.1,k _ _ s.hr s.lt.2.1,k _ _ s.hv s.lt.2.2.1,k _ _ s.ht s.lt.2.2.2.1,k _ _ s.hd s.lt.2.2.2.2,s.lt,s.sg⟩
section
variable {B : Nat} {S : Stat} {H : AH} {m taken limit kp mk ch cg : Nat}
noncomputable def setOk (rs : List (Int × Int)) (f : Bool) (c : Nat) : Bool := inR rs c || (f && (inR rs (upN c) || inR rs (lowN c)))
theorem Sg.up {c : Nat} (h : Sg c) : c ≤ 127 := by rcases h with rfl | rfl | rfl | rfl <;> decide
theorem c_is_in_set (d : Nat) (s : Stc B S H) (hm : H[m]? = some (mObj S.c S.v S.t taken limit kp mk ch cg)) (w nt : PV) (rs : List (Int × Int)) {c : Nat} (hc : Sg c) :
    ∃ X,acall text (d + 4) 16 [.ref m,.tup [w,nt,.tup (rs.map fun r => .tup [.int r.1,.int r.2]),.tup []],.int c] H = some (.bool (setOk rs S.f c),H ++ X) := by
  have e1 := c_ranges (d + 2) H rs c
  have e2 := c_ranges (d + 2) H rs (upN c)
  have e3 := c_ranges (d + 2) H rs (lowN c)
  have e4 := c_up (d + 2) hc H
  have e5 := c_down (d + 2) hc H
  obtain ⟨k,e6⟩ := c_kind d s.ht s.hd hc.up
  have s1 := s.hc
  have s2 := s.ht
  unfold setOk
  generalize hf : S.f = f at s1
  generalize inR rs c = b1 at e1 ⊢
  generalize inR rs (upN c) = b2 at e2 ⊢
  generalize inR rs (lowN c) = b3 at e3 ⊢
  cases b1
  · cases f
    · refine ⟨[.inst 6 [(60,.str k),(61,.none),(62,.str [])]],?_⟩
      apply a_call (fd := f_Regmachine_is_in_set) (b := b_Regmachine_is_in_set) (l := [some (.ref m),some (.tup [w,nt,.tup (rs.map fun r => .tup [.int r.1,.int r.2]),.tup []]),some (.int c),none,none]) rfl rfl rfl; delta b_Regmachine_is_in_set
      repeat fail "ev"
    · cases b2
      · cases b3
        · refine ⟨[.inst 6 [(60,.str k),(61,.none),(62,.str [])]],?_⟩
          apply a_call (fd := f_Regmachine_is_in_set) (b := b_Regmachine_is_in_set) (l := [some (.ref m),some (.tup [w,nt,.tup (rs.map fun r => .tup [.int r.1,.int r.2]),.tup []]),some (.int c),none,none]) rfl rfl rfl; delta b_Regmachine_is_in_set
          repeat fail "ev"
        · refine ⟨[],?_⟩
          rw [List.append_nil]
          apply a_call (fd := f_Regmachine_is_in_set) (b := b_Regmachine_is_in_set) (l := [some (.ref m),some (.tup [w,nt,.tup (rs.map fun r => .tup [.int r.1,.int r.2]),.tup []]),some (.int c),none,none]) rfl rfl rfl; delta b_Regmachine_is_in_set
          repeat fail "ev"
      · refine ⟨[],?_⟩
        rw [List.append_nil]
        apply a_call (fd := f_Regmachine_is_in_set) (b := b_Regmachine_is_in_set) (l := [some (.ref m),some (.tup [w,nt,.tup (rs.map fun r => .tup [.int r.1,.int r.2]),.tup []]),some (.int c),none,none]) rfl rfl rfl; delta b_Regmachine_is_in_set
        repeat fail "ev"
  · refine ⟨[],?_⟩
    rw [List.append_nil]
    apply a_call (fd := f_Regmachine_is_in_set) (b := b_Regmachine_is_in_set) (l := [some (.ref m),some (.tup [w,nt,.tup (rs.map fun r => .tup [.int r.1,.int r.2]),.tup []]),some (.int c),none,none]) rfl rfl rfl; delta b_Regmachine_is_in_set
    repeat fail "ev"
noncomputable def Row.takes (f : Bool) (x : Nat) : Row → Bool
  | .char c => (c : Int) == (foldN f x : Nat)
  | .any => !((x : Int) == 10)
  | .ins => !(setOk [(97,97),(98,98)] f x == false)
  | .out => !(setOk [(97,97)] f x == true)
  | _ => false
noncomputable def Row.isT : Row → Bool
  | .char _ => true
  | .any => true
  | .ins => true
  | .out => true
  | _ => false
theorem c_is_taken (d : Nat) (s : Stc B S H) (hm : H[m]? = some (mObj S.c S.v S.t taken limit kp mk ch cg)) {u : Row} (hu : u.isT = true) {x : Nat} (hx : Sg x) :
    ∃ X,acall text (d + 5) 15 [.ref m,u.pv,.int x] H = some (.bool (u.takes S.f x),H ++ X) := by
  have s1 := s.hc
  cases u <;> first | (fail "=hu"; done) | skip
  · have e1 := c_fold (d + 2) hx H
    refine ⟨[],?_⟩
    rw [List.append_nil]
    unfold Row.takes foldN
    generalize hf : S.f = f at s1
    cases f
    all_goals
      apply a_call (fd := f_Regmachine_is_taken) (b := b_Regmachine_is_taken) (l := [some (.ref m),some ((Row.char c).pv),some (.int x),none]) rfl rfl rfl; delta b_Regmachine_is_taken
      repeat fail "ev"
  · refine ⟨[],?_⟩
    rw [List.append_nil]
    apply a_call (fd := f_Regmachine_is_taken) (b := b_Regmachine_is_taken) (l := [some (.ref m),some (Row.any.pv),some (.int x),none]) rfl rfl rfl; delta b_Regmachine_is_taken
    repeat fail "ev"
  · obtain ⟨X,e1⟩ := c_is_in_set d s hm (.str [115,101,116]) (.bool false) [(97,97),(98,98)] hx
    refine ⟨X,?_⟩
    apply a_call (fd := f_Regmachine_is_taken) (b := b_Regmachine_is_taken) (l := [some (.ref m),some (Row.ins.pv),some (.int x),none]) rfl rfl rfl; delta b_Regmachine_is_taken
    repeat fail "ev"
  · obtain ⟨X,e1⟩ := c_is_in_set d s hm (.str [115,101,116]) (.bool true) [(97,97)] hx
    refine ⟨X,?_⟩
    apply a_call (fd := f_Regmachine_is_taken) (b := b_Regmachine_is_taken) (l := [some (.ref m),some (Row.out.pv),some (.int x),none]) rfl rfl rfl; delta b_Regmachine_is_taken
    repeat fail "ev"
end
end
section
set_option maxHeartbeats 8000000
theorem place_nat {n i : Nat} (h : i < n) : place? n (i : Int) = some i := by
  show (if (0 : Int) ≤ (i : Int) then (if (i : Int).toNat < n then some (i : Int).toNat else none) else _) = _
  rw [if_pos (Int.natCast_nonneg i)]; exact if_pos h
section
variable {B : Nat} {S : Stat} {H : AH} {m taken limit kp mk ch cg : Nat}
theorem c_keep (d : Nat) (hm : H[m]? = some (mObj S.c S.v S.t taken limit kp mk ch cg)) {r i p : Nat} {xs ws : List PV} {old : PV} (hr : H[r]? = some (.list xs)) (hi : xs[i]? = some old) (hc : H[cg]? = some (.list ws)) (hl : ws.length < lim) (h1 : cg ≠ r) (h2 : cg ≠ m) :
    acall text (d + 1) 13 [.ref m,.ref r,.int i,.int p] H = some (.none,(H.set cg (.list (ws ++ [.tup [.ref r,.int i,old]]))).set r (.list (xs.set i (.int p)))) := by
  have e1 := at_int hi
  have l1 := lk_lt hi
  have e2 : asetidx (H.set cg (.list (ws ++ [.tup [.ref r,.int i,old]]))) (.ref r) (.int i) (.int p) = some ((H.set cg (.list (ws ++ [.tup [.ref r,.int i,old]]))).set r (.list (xs.set i (.int p)))) := set_ref (lk_ne h1 hr) (place_nat l1)
  apply a_call (fd := f_Regmachine_keep) (b := b_Regmachine_keep) (l := [some (.ref m),some (.ref r),some (.int i),some (.int p)]) rfl rfl rfl; delta b_Regmachine_keep
  repeat fail "ev"
theorem c_asked_save (d : Nat) (hm : H[m]? = some (mObj S.c S.v S.t taken limit kp mk ch cg)) {i p : Nat} {xs ws : List PV} {old : PV} (hr : H[kp]? = some (.list xs)) (hi : xs[i]? = some old) (hc : H[cg]? = some (.list ws)) (hl : ws.length < lim) (h1 : cg ≠ kp) (h2 : cg ≠ m) :
    acall text (d + 2) 14 [.ref m,(Row.save i).pv,.int p] H = some (.int p,(H.set cg (.list (ws ++ [.tup [.ref kp,.int i,old]]))).set kp (.list (xs.set i (.int p)))) := by
  have e1 := c_keep d (p := p) hm hr hi hc hl h1 h2
  apply a_call (fd := f_Regmachine_asked) (b := b_Regmachine_asked) (l := [some (.ref m),some ((Row.save i).pv),some (.int p),none]) rfl rfl rfl; delta b_Regmachine_asked
  repeat fail "ev"
theorem c_asked_mark (d : Nat) (hm : H[m]? = some (mObj S.c S.v S.t taken limit kp mk ch cg)) {i p : Nat} {xs ws : List PV} {old : PV} (hr : H[mk]? = some (.list xs)) (hi : xs[i]? = some old) (hc : H[cg]? = some (.list ws)) (hl : ws.length < lim) (h1 : cg ≠ mk) (h2 : cg ≠ m) :
    acall text (d + 2) 14 [.ref m,(Row.mark i).pv,.int p] H = some (.int p,(H.set cg (.list (ws ++ [.tup [.ref mk,.int i,old]]))).set mk (.list (xs.set i (.int p)))) := by
  have e1 := c_keep d (p := p) hm hr hi hc hl h1 h2
  apply a_call (fd := f_Regmachine_asked) (b := b_Regmachine_asked) (l := [some (.ref m),some ((Row.mark i).pv),some (.int p),none]) rfl rfl rfl; delta b_Regmachine_asked
  repeat fail "ev"
theorem c_asked_prog (d : Nat) (hm : H[m]? = some (mObj S.c S.v S.t taken limit kp mk ch cg)) {i p : Nat} {xs : List PV} {q : Int} (hr : H[mk]? = some (.list xs)) (hi : xs[i]? = some (.int q)) :
    acall text (d + 1) 14 [.ref m,(Row.prog i).pv,.int p] H = some (cond (decide (q < p)) (.int p) .none,H) := by
  have e1 := at_int hi
  generalize hb : decide (q < p) = b
  cases b
  all_goals
    apply a_call (fd := f_Regmachine_asked) (b := b_Regmachine_asked) (l := [some (.ref m),some ((Row.prog i).pv),some (.int p),none]) rfl rfl rfl; delta b_Regmachine_asked
    repeat fail "ev"
theorem c_asked_take (d : Nat) (s : Stc B S H) (hm : H[m]? = some (mObj S.c S.v S.t taken S.tx.length kp mk ch cg)) {u : Row} (hu : u.isT = true) {p x : Nat} (hp : S.tx[p]? = some x) :
    ∃ X,acall text (d + 6) 14 [.ref m,u.pv,.int p] H = some (cond (u.takes S.f x) (.int (p + 1 : Nat)) .none,H ++ X) := by
  have hx : Sg x := s.sg x (List.mem_of_getElem? hp)
  have e1 := c_code_at (d + 4) s.hv hp
  have s1 := s.hv
  have l1 := lk_lt hp
  obtain ⟨X,e2⟩ := c_is_taken d s hm hu hx
  refine ⟨X,?_⟩
  generalize u.takes S.f x = b at e2
  cases u <;> first | (fail "=hu"; done) | skip
  all_goals
    cases b
    all_goals
      apply a_call (fd := f_Regmachine_asked) (b := b_Regmachine_asked) (l := [some (.ref m),some (Row.pv _),some (.int p),none]) rfl rfl rfl; delta b_Regmachine_asked
      repeat fail "ev"
theorem c_asked_over (d : Nat) (hm : H[m]? = some (mObj S.c S.v S.t taken S.tx.length kp mk ch cg)) {u : Row} (hu : u.isT = true) {p : Nat} (hp : S.tx.length ≤ p) :
    acall text (d + 1) 14 [.ref m,u.pv,.int p] H = some (.none,H) := by
  cases u <;> first | (fail "=hu"; done) | skip
  all_goals
    apply a_call (fd := f_Regmachine_asked) (b := b_Regmachine_asked) (l := [some (.ref m),some (Row.pv _),some (.int p),none]) rfl rfl rfl; delta b_Regmachine_asked
    repeat fail "ev"
end
end
section
set_option maxHeartbeats 8000000
noncomputable def eqT (f : Bool) (a b : Nat) : Bool := a == b || (f && lowN a == lowN b)
noncomputable def mt (f : Bool) (tx : List Nat) (s p : Nat) : Nat → Nat → Bool
  | _,0 => true
  | j,n + 1 => eqT f (tx.getD (s + j) 0) (tx.getD (p + j) 0) && mt f tx s p (j + 1) n
section
variable {B : Nat} {S : Stat} {H : AH} {m taken limit kp mk ch cg : Nat}
theorem mul2 (H : AH) {n : Nat} (hn : n ≤ 9) : abin .mul H (.int 2) (.int n) = some (.int (2 * n : Nat)) := by
  rw [mul_i (by lia)]; rfl
noncomputable def spanPV (a b : Int) : PV := cond (decide (a < 0) || decide (b < 0)) .none (.tup [.int a,.int b])
theorem c_span (d : Nat) (hm : H[m]? = some (mObj S.c S.v S.t taken limit kp mk ch cg)) {n : Nat} (hn : n ≤ 9) {xs : List PV} {a b : Int} (hr : H[kp]? = some (.list xs)) (h1 : xs[2 * n]? = some (.int a)) (h2 : xs[2 * n + 1]? = some (.int b)) :
    acall text (d + 1) 10 [.ref m,.int n] H = some (spanPV a b,H) := by
  have e1 := at_int h1
  have e2 := at_int h2
  have e3 := mul2 H hn
  unfold spanPV
  generalize ha : decide (a < 0) = x
  generalize hb : decide (b < 0) = y
  cases x <;> cases y
  all_goals
    apply a_call (fd := f_Regmachine_span) (b := b_Regmachine_span) (l := [some (.ref m),some (.int n),none,none]) rfl rfl rfl; delta b_Regmachine_span
    repeat (first | (with_reducible apply goF ha) | (with_reducible apply goT ha) | (with_reducible apply goF hb) | (with_reducible apply goT hb) | fail "ev")
noncomputable abbrev repB : List Mine.Internal.S := [(.assign (.tup [(.loc 5),(.loc 6)]) (.tup [(.callM (.attr (.loc 0) 4) 20 [(.bin .add (.idx (.loc 3) (.int 0)) (.loc 4))]),(.callM (.attr (.loc 0) 4) 20 [(.bin .add (.loc 2) (.loc 4))])])),(.ife (.and [(.cmp .ne (.loc 5) (.loc 6)),(.not (.and [(.attr (.attr (.loc 0) 3) 23),(.cmp .eq (.callF 2 [(.loc 5)]) (.callF 2 [(.loc 6)]))]))]) [(.ret .none)] [])]
theorem c_rep_turns (d : Nat) (s : Stc B S H) (hm : H[m]? = some (mObj S.c S.v S.t taken limit kp mk ch cg)) (N : PV) (st p : Nat) (E : PV) : ∀ (n j : Nat) (x y z : Option PV),st + j + n ≤ S.tx.length → p + j + n ≤ S.tx.length →
    ∃ l',forV (fitem text (acall text (d + 2)) (.loc 4) repB) (intsFrom j n) [some (.ref m),some N,some (.int p),some (.tup [.int st,E]),x,y,z] H = some (cond (mt S.f S.tx st p j n) .next (.ret .none),l',H) ∧ (mt S.f S.tx st p j n = true → ∃ x y z,l' = [some (.ref m),some N,some (.int p),some (.tup [.int st,E]),x,y,z])
  | 0,j,x,y,z,_,_ => ⟨_,rfl,fun Y => ⟨_,_,_,rfl⟩⟩
  | n + 1,j,x,y,z,h1,h2 => by
    have q1 : S.tx[st + j]? = some (S.tx.getD (st + j) 0) := by rw [List.getD_eq_getElem?_getD,List.getElem?_eq_getElem (by lia)]; rfl
    have q2 : S.tx[p + j]? = some (S.tx.getD (p + j) 0) := by rw [List.getD_eq_getElem?_getD,List.getElem?_eq_getElem (by lia)]; rfl
    have s1 := s.hc
    have s2 := s.hv
    have g1 : Sg (S.tx.getD (st + j) 0) := s.sg _ (List.mem_of_getElem? q1)
    have g2 : Sg (S.tx.getD (p + j) 0) := s.sg _ (List.mem_of_getElem? q2)
    have e1 := c_code_at (d + 1) s.hv q1
    have e2 := c_code_at (d + 1) s.hv q2
    have e3 := c_fold d g1 H
    have e4 := c_fold d g2 H
    obtain ⟨l',e5,e6⟩ := c_rep_turns d s hm N st p E n (j + 1) (some (.int j)) (some (.int (S.tx.getD (st + j) 0))) (some (.int (S.tx.getD (p + j) 0))) (by lia) (by lia)
    have ht : aassign text (acall text (d + 2)) (.loc 4) (.int j) [some (.ref m),some N,some (.int p),some (.tup [.int st,E]),x,y,z] H = some ([some (.ref m),some N,some (.int p),some (.tup [.int st,E]),some (.int j),y,z],H) := rfl
    unfold mt
    generalize S.tx.getD (st + j) 0 = a at *
    generalize S.tx.getD (p + j) 0 = b at *
    generalize mt S.f S.tx st p (j + 1) n = rest at *
    clear q1 q2 g1 g2 h1 h2
    have fin : eqT S.f a b = true → (fitem text (acall text (d + 2)) (.loc 4) repB (.int j) [some (.ref m),some N,some (.int p),some (.tup [.int st,E]),x,y,z] H = some (.next,[some (.ref m),some N,some (.int p),some (.tup [.int st,E]),some (.int j),some (.int a),some (.int b)],H)) →
        ∃ l',forV (fitem text (acall text (d + 2)) (.loc 4) repB) (intsFrom j (n + 1)) [some (.ref m),some N,some (.int p),some (.tup [.int st,E]),x,y,z] H = some (cond (eqT S.f a b && rest) .next (.ret .none),l',H) ∧ ((eqT S.f a b && rest) = true → ∃ x y z,l' = [some (.ref m),some N,some (.int p),some (.tup [.int st,E]),x,y,z]) := fun h k => by
      rw [h]; exact ⟨l',fv_next k e5,e6⟩
    have bad : eqT S.f a b = false → (∃ l',fitem text (acall text (d + 2)) (.loc 4) repB (.int j) [some (.ref m),some N,some (.int p),some (.tup [.int st,E]),x,y,z] H = some (.ret .none,l',H)) →
        ∃ l',forV (fitem text (acall text (d + 2)) (.loc 4) repB) (intsFrom j (n + 1)) [some (.ref m),some N,some (.int p),some (.tup [.int st,E]),x,y,z] H = some (cond (eqT S.f a b && rest) .next (.ret .none),l',H) ∧ ((eqT S.f a b && rest) = true → ∃ x y z,l' = [some (.ref m),some N,some (.int p),some (.tup [.int st,E]),x,y,z]) := fun h ⟨l',k⟩ => by
      rw [h]; exact ⟨l',fv_ret k,fun z => by fail "=z"⟩
    clear e5 e6
    by_cases hab : a = b
    · refine fin (by unfold eqT; rw [beq_iff_eq.mpr hab]; rfl) ?_
      have hne : (!((a : Int) == (b : Int))) = false := by rw [hab]; simp
      apply f_item ht
      repeat (first | (with_reducible apply goF hne) | fail "ev")
    · have hne : (!((a : Int) == (b : Int))) = true := by simp; lia
      have he : (a == b) = false := beq_eq_false_iff_ne.mpr hab
      unfold eqT at fin bad ⊢
      rw [he] at fin bad ⊢
      generalize S.f = f at *
      have hs1 := s1
      cases f
      · refine bad rfl ⟨[some (.ref m),some N,some (.int p),some (.tup [.int st,E]),some (.int j),some (.int a),some (.int b)],f_item ht ?_⟩
        repeat (first | (with_reducible apply goT hne) | fail "ev")
      · generalize hl : (lowN a == lowN b) = q at *
        have hi : ((lowN a : Int) == (lowN b : Int)) = q := by
          rw [← hl]; by_cases h : lowN a = lowN b
          · rw [h]; simp
          · rw [beq_eq_false_iff_ne.mpr h]; simp; lia
        cases q
        · refine bad rfl ⟨[some (.ref m),some N,some (.int p),some (.tup [.int st,E]),some (.int j),some (.int a),some (.int b)],f_item ht ?_⟩
          repeat (first | (with_reducible apply goT hne) | (with_reducible apply goF hi) | fail "ev")
          exact goT (by rw [hi]; rfl) (by repeat fail "ev")
        · refine fin rfl (f_item ht ?_)
          repeat (first | (with_reducible apply goT hne) | (with_reducible apply goT hi) | fail "ev")
          exact goF (by rw [hi]; rfl) (by repeat fail "ev")
end
end
section
set_option maxHeartbeats 8000000
noncomputable def SpanOk (n : Nat) (a b : Int) : Prop := (decide (a < 0) || decide (b < 0)) = true ∨ ∃ s e : Nat,a = s ∧ b = e ∧ s ≤ e ∧ e ≤ n
noncomputable def optPV : Option Nat → PV
  | some q => .int q
  | none => .none
noncomputable def backW (f : Bool) (tx : List Nat) (a b : Int) (p : Nat) : Option Nat :=
  if (decide (a < 0) || decide (b < 0)) = true then none
  else if p + (b.toNat - a.toNat) ≤ tx.length then (if mt f tx a.toNat p 0 (b.toNat - a.toNat) = true then some (p + (b.toNat - a.toNat)) else none) else none
section
variable {B : Nat} {S : Stat} {H : AH} {m taken limit kp mk ch cg : Nat}
theorem c_repeatedM (d : Nat) (s : Stc B S H) (hm : H[m]? = some (mObj S.c S.v S.t taken S.tx.length kp mk ch cg)) {n : Nat} (hn : n ≤ 9) {xs : List PV} {a b : Int} (hr : H[kp]? = some (.list xs)) (h1 : xs[2 * n]? = some (.int a)) (h2 : xs[2 * n + 1]? = some (.int b))
    (ok : SpanOk S.tx.length a b) (p : Nat) (hl : S.tx.length ≤ 1000) : acall text (d + 3) 17 [.ref m,.int n,.int p] H = some (optPV (backW S.f S.tx a b p),H) := by
  have e1 := c_span (d + 1) hm hn hr h1 h2
  unfold backW
  unfold spanPV at e1
  rcases ok with h | ⟨st,e,rfl,rfl,h3,h4⟩
  · rw [h] at e1 ⊢
    rw [if_pos rfl]
    apply a_call (fd := f_Regmachine_repeated) (b := b_Regmachine_repeated) (l := [some (.ref m),some (.int n),some (.int p),none,none,none,none]) rfl rfl rfl; delta b_Regmachine_repeated
    repeat fail "ev"
  · have h0 : (decide (((st : Nat) : Int) < 0) || decide (((e : Nat) : Int) < 0)) = false := by rw [decide_eq_false (by fail "l"),decide_eq_false (by fail "l")]; rfl
    rw [h0] at e1 ⊢
    rw [if_neg (by decide)]
    have t1 : ((e : Int)).toNat = e := rfl
    have t2 : ((st : Int)).toNat = st := rfl
    rw [t1,t2]
    have ar : ((p : Int) + (e : Int) - (st : Int)) = ((p + (e - st) : Nat) : Int) := by fail "l"
    by_cases hq : p + (e - st) ≤ S.tx.length
    · rw [if_pos hq]
      have hs : srcRange [.int ((e : Int) - (st : Int))] = some (.vals (intsFrom 0 (e - st))) := by
        rw [range1 (by unfold lim; fail "l"),show ((e : Int) - (st : Int)).toNat = e - st by fail "l"]
      obtain ⟨l',q1,q2⟩ := c_rep_turns d s hm (.int n) st p (.int e) (e - st) 0 none none none (by fail "l") (by fail "l")
      generalize mt S.f S.tx st p 0 (e - st) = r at *
      have hgt : decide ((S.tx.length : Int) < (p : Int) + (e : Int) - (st : Int)) = false := decide_eq_false (by fail "l")
      cases r
      · rw [if_neg (by decide)]
        apply a_call (fd := f_Regmachine_repeated) (b := b_Regmachine_repeated) (l := [some (.ref m),some (.int n),some (.int p),none,none,none,none]) rfl rfl rfl; delta b_Regmachine_repeated
        repeat (first | (with_reducible apply goF hgt) | fail "ev")
        apply x_forR
        · repeat fail "ev"
        · exact q1
        · rfl
        · rfl
      · rw [if_pos rfl]
        obtain ⟨x,y,z,rfl⟩ := q2 rfl
        apply a_call (fd := f_Regmachine_repeated) (b := b_Regmachine_repeated) (l := [some (.ref m),some (.int n),some (.int p),none,none,none,none]) rfl rfl rfl; delta b_Regmachine_repeated
        repeat (first | (with_reducible apply goF hgt) | fail "ev")
        apply x_for
        · repeat fail "ev"
        · exact q1
        · repeat fail "ev"
        · show some (PV.int _) = some (PV.int _); rw [ar]
        · rfl
    · rw [if_neg hq]
      have hgt : decide ((S.tx.length : Int) < (p : Int) + (e : Int) - (st : Int)) = true := decide_eq_true (by fail "l")
      apply a_call (fd := f_Regmachine_repeated) (b := b_Regmachine_repeated) (l := [some (.ref m),some (.int n),some (.int p),none,none,none,none]) rfl rfl rfl; delta b_Regmachine_repeated
      repeat (first | (with_reducible apply goT hgt) | fail "ev")
theorem c_asked_back (d : Nat) (s : Stc B S H) (hm : H[m]? = some (mObj S.c S.v S.t taken S.tx.length kp mk ch cg)) {n : Nat} (hn : n ≤ 9) {xs : List PV} {a b : Int} (hr : H[kp]? = some (.list xs)) (h1 : xs[2 * n]? = some (.int a)) (h2 : xs[2 * n + 1]? = some (.int b))
    (ok : SpanOk S.tx.length a b) (p : Nat) (hl : S.tx.length ≤ 1000) : acall text (d + 4) 14 [.ref m,(Row.back n).pv,.int p] H = some (optPV (backW S.f S.tx a b p),H) := by
  have e1 := c_repeatedM d s hm hn hr h1 h2 ok p hl
  apply a_call (fd := f_Regmachine_asked) (b := b_Regmachine_asked) (l := [some (.ref m),some ((Row.back n).pv),some (.int p),none]) rfl rfl rfl; delta b_Regmachine_asked
  repeat fail "ev"
end
end
section
set_option maxHeartbeats 8000000
noncomputable abbrev chObj (r p n : Nat) : AObj := .inst 0 [(0,.int r),(1,.int p),(2,.int n)]
structure Chg where
  inK : Bool
  idx : Nat
  old : Int
noncomputable def intsK (K : List Int) : List PV := K.map PV.int
theorem ints_set {K : List Int} {i : Nat} {x : Int} : (intsK K).set i (.int x) = intsK (K.set i x) := by unfold intsK; rw [List.map_set]
theorem ints_get {K : List Int} {i : Nat} {x : Int} (h : K[i]? = some x) : (intsK K)[i]? = some (.int x) := by unfold intsK; rw [List.getElem?_map,h]; rfl
structure Adr where
  (m kp mu ch cg : Nat)
noncomputable def Chg.pv (a : Adr) (e : Chg) : PV := .tup [.ref (cond e.inK a.kp a.mu),.int e.idx,.int e.old]
noncomputable def lgPV (a : Adr) (lg : List Chg) : List PV := lg.reverse.map (Chg.pv a)
theorem lgPV_cons (a : Adr) (e : Chg) (lg : List Chg) : lgPV a (e :: lg) = lgPV a lg ++ [e.pv a] := by unfold lgPV; rw [List.reverse_cons,List.map_append]; rfl
theorem lgPV_len (a : Adr) (lg : List Chg) : (lgPV a lg).length = lg.length := by unfold lgPV; rw [List.length_map,List.length_reverse]
structure Chc where
  (ref row place n : Nat)
noncomputable def csPV (cs : List Chc) : List PV := cs.reverse.map fun c => PV.ref c.ref
theorem csPV_cons (c : Chc) (cs : List Chc) : csPV (c :: cs) = csPV cs ++ [.ref c.ref] := by unfold csPV; rw [List.reverse_cons,List.map_append]; rfl
theorem csPV_len (cs : List Chc) : (csPV cs).length = cs.length := by unfold csPV; rw [List.length_map,List.length_reverse]
noncomputable abbrev Adr.five (a : Adr) : List Nat := [a.m,a.kp,a.mu,a.ch,a.cg]
noncomputable abbrev mS (S : Stat) (a : Adr) (tk : Nat) : AObj := mObj S.c S.v S.t tk S.tx.length a.kp a.mu a.ch a.cg
structure MI (B : Nat) (S : Stat) (a : Adr) (H : AH) (tk : Nat) (K μ : List Int) (lg : List Chg) (cs : List Chc) : Prop where
  st : Stc B S H
  ge : B ≤ a.m ∧ B ≤ a.kp ∧ B ≤ a.mu ∧ B ≤ a.ch ∧ B ≤ a.cg
  nd : a.m ≠ a.kp ∧ a.m ≠ a.mu ∧ a.m ≠ a.ch ∧ a.m ≠ a.cg ∧ a.kp ≠ a.mu ∧ a.kp ≠ a.ch ∧ a.kp ≠ a.cg ∧ a.mu ≠ a.ch ∧ a.mu ≠ a.cg ∧ a.ch ≠ a.cg
  hm : H[a.m]? = some (mS S a tk)
  hk : H[a.kp]? = some (.list (intsK K))
  hu : H[a.mu]? = some (.list (intsK μ))
  hc : H[a.ch]? = some (.list (csPV cs))
  hg : H[a.cg]? = some (.list (lgPV a lg))
  hcs : ∀ c ∈ cs,H[c.ref]? = some (chObj c.row c.place c.n)
section
variable {B : Nat} {S : Stat} {a : Adr} {H H' : AH} {tk tk' : Nat} {K μ K' μ' : List Int} {lg lg' : List Chg} {cs cs' : List Chc}
theorem Adr.i1 {a : Adr} : a.kp ∈ a.five := .tail _ (.head _)
theorem Adr.i2 {a : Adr} : a.mu ∈ a.five := .tail _ (.tail _ (.head _))
theorem Adr.i3 {a : Adr} : a.ch ∈ a.five := .tail _ (.tail _ (.tail _ (.head _)))
theorem Adr.i4 {a : Adr} : a.cg ∈ a.five := .tail _ (.tail _ (.tail _ (.tail _ (.head _))))
theorem MI.apart {Q : Prop} (h : MI B S a H tk K μ lg cs) (k : a.m ≠ a.kp → a.m ≠ a.mu → a.m ≠ a.ch → a.m ≠ a.cg → a.kp ≠ a.mu → a.kp ≠ a.ch → a.kp ≠ a.cg → a.mu ≠ a.ch → a.mu ≠ a.cg → a.ch ≠ a.cg → Q) : Q :=
  have z := h.nd
  k z.1 z.2.1 z.2.2.1 z.2.2.2.1 z.2.2.2.2.1 z.2.2.2.2.2.1 z.2.2.2.2.2.2.1 z.2.2.2.2.2.2.2.1 z.2.2.2.2.2.2.2.2.1 z.2.2.2.2.2.2.2.2.2
theorem MI.out (h : MI B S a H tk K μ lg cs) {i : Nat} (hi : i < B) : i ∉ a.five := fun z => by
  obtain ⟨g1,g2,g3,g4,g5⟩ := h.ge
  simp only [Adr.five,List.mem_cons,List.not_mem_nil,or_false] at z
  lia
theorem MI.chc (h : MI B S a H tk K μ lg cs) {i r p n : Nat} (hi : H[i]? = some (chObj r p n)) : i ∉ a.five := fun z => by
  simp only [Adr.five,List.mem_cons,List.not_mem_nil,or_false] at z
  rcases z with rfl | rfl | rfl | rfl | rfl
  · rw [h.hm] at hi; fail "=hi"
  · rw [h.hk] at hi; fail "=hi"
  · rw [h.hu] at hi; fail "=hi"
  · rw [h.hc] at hi; fail "=hi"
  · rw [h.hg] at hi; fail "=hi"
theorem MI.next (h : MI B S a H tk K μ lg cs) (k : Keep a.five H H') (h1 : H'[a.m]? = some (mS S a tk')) (h2 : H'[a.kp]? = some (.list (intsK K'))) (h3 : H'[a.mu]? = some (.list (intsK μ'))) (h4 : H'[a.ch]? = some (.list (csPV cs'))) (h5 : H'[a.cg]? = some (.list (lgPV a lg')))
    (h6 : ∀ c ∈ cs',c ∈ cs ∨ H'[c.ref]? = some (chObj c.row c.place c.n)) : MI B S a H' tk' K' μ' lg' cs' :=
  ⟨h.st.step fun i o e hi => k.get i o e (h.out hi),h.ge,h.nd,h1,h2,h3,h4,h5,fun c hc => (h6 c hc).elim (fun m => k.get _ _ (h.hcs c m) (h.chc (h.hcs c m))) id⟩
theorem MI.app (h : MI B S a H tk K μ lg cs) (X : AH) : MI B S a (H ++ X) tk K μ lg cs :=
  h.next Keep.app (lk_app h.hm) (lk_app h.hk) (lk_app h.hu) (lk_app h.hc) (lk_app h.hg) fun c hc => .inl hc
theorem MI.setM (h : MI B S a H tk K μ lg cs) (tk' : Nat) : MI B S a (H.set a.m (mS S a tk')) tk' K μ lg cs := by
  refine h.apart fun a1 a2 a3 a4 a5 a6 a7 a8 a9 a10 => h.next (Keep.set (.head _)) (lk_same (lk_lt h.hm)) (lk_ne a1 h.hk) (lk_ne a2 h.hu) (lk_ne a3 h.hc) (lk_ne a4 h.hg) fun c hc => .inl hc
theorem MI.setC (h : MI B S a H tk K μ lg cs) (cs' : List Chc) (h6 : ∀ c ∈ cs',c ∈ cs ∨ H[c.ref]? = some (chObj c.row c.place c.n)) : MI B S a (H.set a.ch (.list (csPV cs'))) tk K μ lg cs' := by
  refine h.apart fun a1 a2 a3 a4 a5 a6 a7 a8 a9 a10 => h.next (Keep.set Adr.i3) (lk_ne (Ne.symm a3) h.hm) (lk_ne (Ne.symm a6) h.hk) (lk_ne (Ne.symm a8) h.hu) (lk_same (lk_lt h.hc)) (lk_ne a10 h.hg) fun c hc => (h6 c hc).imp id fun e => lk_ne (fun z => h.chc e (z ▸ Adr.i3)) e
theorem MI.setGK (h : MI B S a H tk K μ lg cs) (lg' : List Chg) (K' : List Int) : MI B S a ((H.set a.cg (.list (lgPV a lg'))).set a.kp (.list (intsK K'))) tk K' μ lg' cs := by
  refine h.apart fun a1 a2 a3 a4 a5 a6 a7 a8 a9 a10 => h.next ((Keep.set Adr.i4).trans (Keep.set Adr.i1)) (lk_ne (Ne.symm a1) (lk_ne (Ne.symm a4) h.hm)) (lk_same (lt_set (lk_lt h.hk))) (lk_ne a5 (lk_ne (Ne.symm a9) h.hu)) (lk_ne a6 (lk_ne (Ne.symm a10) h.hc)) (lk_ne a7 (lk_same (lk_lt h.hg))) fun c hc => .inl hc
theorem MI.setGU (h : MI B S a H tk K μ lg cs) (lg' : List Chg) (μ' : List Int) : MI B S a ((H.set a.cg (.list (lgPV a lg'))).set a.mu (.list (intsK μ'))) tk K μ' lg' cs := by
  refine h.apart fun a1 a2 a3 a4 a5 a6 a7 a8 a9 a10 => h.next ((Keep.set Adr.i4).trans (Keep.set Adr.i2)) (lk_ne (Ne.symm a2) (lk_ne (Ne.symm a4) h.hm)) (lk_ne (Ne.symm a5) (lk_ne (Ne.symm a7) h.hk)) (lk_same (lt_set (lk_lt h.hu))) (lk_ne a8 (lk_ne (Ne.symm a10) h.hc)) (lk_ne a9 (lk_same (lk_lt h.hg))) fun c hc => .inl hc
noncomputable def undo1 (e : Chg) (s : List Int × List Int) : List Int × List Int := cond e.inK (s.1.set e.idx e.old,s.2) (s.1,s.2.set e.idx e.old)
noncomputable def undoTo (n : Nat) : List Chg → List Int × List Int → List Int × List Int
  | [],s => s
  | e :: lg,s => if n < lg.length + 1 then undoTo n lg (undo1 e s) else s
noncomputable def cutTo (n : Nat) : List Chg → List Chg
  | [] => []
  | e :: lg => if n < lg.length + 1 then cutTo n lg else e :: lg
noncomputable def LogOk (K μ : List Int) (lg : List Chg) : Prop := ∀ e ∈ lg,e.idx < cond e.inK K.length μ.length
theorem go_back_turns (cf : CF) (n : Nat) : ∀ (lg : List Chg) (H : AH) (K μ : List Int) (x y z : Option PV),MI B S a H tk K μ lg cs → LogOk K μ lg →
    ∀ Q : Prop,(∀ H' x' y' z',(∀ N,turns (wstep text cf (.cmp .gt (.callB .len [(.attr (.loc 0) 2)]) (.loc 1)) [(.assign (.tup [(.loc 2),(.loc 3),(.loc 4)]) (.callM (.attr (.loc 0) 2) 1001 [])),(.assign (.idx (.loc 2) (.loc 3)) (.loc 4))]) (N + lg.length + 1) [some (.ref a.m),some (.int n),x,y,z] H = some (.next,[some (.ref a.m),some (.int n),x',y',z'],H')) →
      MI B S a H' tk (undoTo n lg (K,μ)).1 (undoTo n lg (K,μ)).2 (cutTo n lg) cs → Keep a.five H H' → Q) → Q
  | [],H,K,μ,x,y,z,h,_,Kq,kq => by
    have h1 := h.hm
    have h2 := h.hg
    refine kq H x y z (fun N => ?_) h Keep.refl
    clear kq
    apply te
    repeat fail "ev"
  | e :: lg,H,K,μ,x,y,z,h,ok,Kq,kq => by
    have h1 := h.hm
    have h2 := h.hg
    rw [lgPV_cons] at h2
    have hl : ((lgPV a lg ++ [e.pv a]).length : Nat) = lg.length + 1 := by rw [List.length_append,lgPV_len]; rfl
    by_cases hn : n < lg.length + 1
    · have hc : aeval text cf (.cmp .gt (.callB .len [(.attr (.loc 0) 2)]) (.loc 1)) [some (.ref a.m),some (.int n),x,y,z] H = some (.bool true,H) := by
        repeat fail "ev"
        show some (decide ((n : Int) < ((lgPV a lg ++ [e.pv a]).length : Nat))) = some true
        rw [decide_eq_true (by rw [hl]; lia)]
      have he := ok e (.head _)
      cases hk : e.inK
      · rw [hk] at he
        have ok' : LogOk K (μ.set e.idx e.old) lg := fun e' m => by have := ok e' (.tail _ m); rw [List.length_set]; exact this
        refine go_back_turns cf n lg _ K (μ.set e.idx e.old) (some (.ref a.mu)) (some (.int e.idx)) (some (.int e.old)) (h.setGU lg _) ok' Kq fun H' x' y' z' q1 q2 q3 => kq H' x' y' z' (fun N => ?_) ?_ (((Keep.set Adr.i4).trans (Keep.set Adr.i2)).trans q3)
        all_goals clear kq
        · apply tn hc _ (q1 N)
          have e1 : asetidx (H.set a.cg (.list (lgPV a lg))) (.ref a.mu) (.int e.idx) (.int e.old) = some ((H.set a.cg (.list (lgPV a lg))).set a.mu (.list (intsK (μ.set e.idx e.old)))) := by
            rw [← ints_set]; exact set_ref (lk_ne (Ne.symm h.nd.2.2.2.2.2.2.2.2.1) h.hu) (place_nat (by unfold intsK; rw [List.length_map]; exact he))
          unfold Chg.pv at h2
          rw [hk] at h2
          repeat fail "ev"
        · unfold undoTo cutTo undo1
          rw [if_pos hn,if_pos hn,hk]; exact q2
      · rw [hk] at he
        have ok' : LogOk (K.set e.idx e.old) μ lg := fun e' m => by have := ok e' (.tail _ m); rw [List.length_set]; exact this
        refine go_back_turns cf n lg _ (K.set e.idx e.old) μ (some (.ref a.kp)) (some (.int e.idx)) (some (.int e.old)) (h.setGK lg _) ok' Kq fun H' x' y' z' q1 q2 q3 => kq H' x' y' z' (fun N => ?_) ?_ (((Keep.set Adr.i4).trans (Keep.set Adr.i1)).trans q3)
        all_goals clear kq
        · apply tn hc _ (q1 N)
          have e1 : asetidx (H.set a.cg (.list (lgPV a lg))) (.ref a.kp) (.int e.idx) (.int e.old) = some ((H.set a.cg (.list (lgPV a lg))).set a.kp (.list (intsK (K.set e.idx e.old)))) := by
            rw [← ints_set]; exact set_ref (lk_ne (Ne.symm h.nd.2.2.2.2.2.2.1) h.hk) (place_nat (by unfold intsK; rw [List.length_map]; exact he))
          unfold Chg.pv at h2
          rw [hk] at h2
          repeat fail "ev"
        · unfold undoTo cutTo undo1
          rw [if_pos hn,if_pos hn,hk]; exact q2
    · refine kq H x y z (fun N => ?_) ?_ Keep.refl
      all_goals clear kq
      · apply te
        repeat fail "ev"
        show some (decide ((n : Int) < ((lgPV a lg ++ [e.pv a]).length : Nat))) = some false
        rw [decide_eq_false (by rw [hl]; lia)]
      · unfold undoTo cutTo
        rw [if_neg hn,if_neg hn]; exact h
end
end
section
set_option maxHeartbeats 16000000
noncomputable def runB : List Mine.Internal.S := [(.assign (.attr (.loc 0) 8) (.bin .add (.attr (.loc 0) 8) (.int 1))),(.ife (.cmp .gt (.attr (.loc 0) 8) (.attr (.loc 0) 7)) [.raise] []),(.assign (.loc 3) (.idx (.idx (.attr (.attr (.loc 0) 3) 16) (.loc 2)) (.int 0))),(.ife (.cmp .eq (.loc 3) (.str [100,111,110,101])) [(.ret (.loc 1))] []),(.ife (.cmp .eq (.loc 3) (.str [115,112,108,105,116])) [(.expr (.callM (.attr (.loc 0) 12) 1000 [(.callC 0 [(.idx (.idx (.attr (.attr (.loc 0) 3) 16) (.loc 2)) (.int 2)),(.loc 1),(.callB .len [(.attr (.loc 0) 2)])])])),(.assign (.loc 2) (.idx (.idx (.attr (.attr (.loc 0) 3) 16) (.loc 2)) (.int 1))),.cont] []),(.ife (.cmp .eq (.loc 3) (.str [106,117,109,112])) [(.assign (.loc 2) (.idx (.idx (.attr (.attr (.loc 0) 3) 16) (.loc 2)) (.int 1))),.cont] []),(.assign (.loc 4) (.callM (.loc 0) 17 [(.idx (.attr (.attr (.loc 0) 3) 16) (.loc 2)),(.loc 1)])),(.ife (.cmp .isnot (.loc 4) .none) [(.assign (.tup [(.loc 1),(.loc 2)]) (.tup [(.loc 4),(.bin .add (.loc 2) (.int 1))])),.cont] []),(.ife (.cmp .eq (.attr (.loc 0) 12) (.list [])) [(.ret .none)] []),(.assign (.loc 5) (.callM (.attr (.loc 0) 12) 1001 [])),(.expr (.callM (.loc 0) 18 [(.attr (.loc 5) 2)])),(.assign (.tup [(.loc 1),(.loc 2)]) (.tup [(.attr (.loc 5) 1),(.attr (.loc 5) 0)]))]
noncomputable abbrev runL (m row p : Nat) (x y z : Option PV) : Loc := [some (.ref m),some (.int p),some (.int row),x,y,z]
noncomputable def Turn (d m : Nat) (H : AH) (row p : Nat) (H' : AH) (row' p' : Nat) : Prop := ∀ x y z,∃ x' y' z',∀ n,turns (wstep text (acall text d) (.bool true) runB) (n + 1) (runL m row p x y z) H = turns (wstep text (acall text d) (.bool true) runB) n (runL m row' p' x' y' z') H'
noncomputable def Last (d m : Nat) (H : AH) (row p : Nat) (H' : AH) (v : PV) : Prop := ∀ x y z,∃ l',∀ n,turns (wstep text (acall text d) (.bool true) runB) (n + 1) (runL m row p x y z) H = some (.ret v,l',H')
section
variable {d : Nat} {B : Nat} {S : Stat} {a : Adr} {H H' : AH} {tk : Nat} {K μ : List Int} {lg : List Chg} {cs : List Chc}
theorem tick (H : AH) : H.set a.m (.inst 1 (fput [(3,.ref S.c),(4,.ref S.v),(5,.ref S.t),(6,.int 0),(7,.int 400000),(8,.int tk),(9,.int S.tx.length),(10,.ref a.kp),(11,.ref a.mu),(12,.ref a.ch),(2,.ref a.cg)] 8 (.int ((tk : Int) + 1)))) = H.set a.m (mS S a (tk + 1)) := rfl
theorem rows_get {row : Nat} {u : Row} (h : S.rows[row]? = some u) : (S.rows.map Row.pv)[row]? = some u.pv := by rw [List.getElem?_map,h]; rfl
theorem turn_done (h : MI B S a H tk K μ lg cs) (ht : tk < 400000) {row p : Nat} (hr : S.rows[row]? = some .done) : Last d a.m H row p (H.set a.m (mS S a (tk + 1))) (.int p) := fun x y z => by
  have g := h.setM (tk + 1)
  have l0 := lk_lt h.hm
  have s1 := g.st.hc
  have s2 := g.st.hr
  have s3 := g.hm
  have s0 := h.hm
  have e1 := rows_get hr
  have hset := tick (S := S) (a := a) (tk := tk) H
  generalize H.set a.m (mS S a (tk + 1)) = G at *
  refine ⟨runL a.m row p (some (.str [100,111,110,101])) y z,fun n => ?_⟩
  apply tr
  · repeat fail "ev"
  · unfold runB
    repeat fail "ev"
theorem turn_jump (h : MI B S a H tk K μ lg cs) (ht : tk < 400000) {row p to : Nat} (hr : S.rows[row]? = some (.jump to)) : Turn d a.m H row p (H.set a.m (mS S a (tk + 1))) to p := fun x y z => by
  have g := h.setM (tk + 1)
  have s1 := g.st.hc
  have s2 := g.st.hr
  have s3 := g.hm
  have s0 := h.hm
  have e1 := rows_get hr
  have hset := tick (S := S) (a := a) (tk := tk) H
  generalize H.set a.m (mS S a (tk + 1)) = G at *
  refine ⟨some (.str [106,117,109,112]),y,z,fun n => ?_⟩
  have hb : aexecs text (acall text d) runB (runL a.m row p x y z) H = some (.cont,runL a.m to p (some (.str [106,117,109,112])) y z,G) := by
    unfold runB
    repeat fail "ev"
  exact tc e_bool hb rfl
theorem turn_split (h : MI B S a H tk K μ lg cs) (ht : tk < 400000) (hl : cs.length < lim) {row p b c : Nat} (hr : S.rows[row]? = some (.split b c)) :
    ∃ H',Turn (d + 1) a.m H row p H' b p ∧ MI B S a H' (tk + 1) K μ lg (⟨H.length,c,p,lg.length⟩ :: cs) ∧ Keep a.five H H' := by
  have g := h.setM (tk + 1)
  have s1 := g.st.hc
  have s2 := g.st.hr
  have s3 := g.hm
  have s0 := h.hm
  have s4 := g.hc
  have s5 := g.hg
  have e1 := rows_get hr
  have ln : (H.set a.m (mS S a (tk + 1))).length = H.length := List.length_set
  have hset := tick (S := S) (a := a) (tk := tk) H
  have kG : Keep a.five H (H.set a.m (mS S a (tk + 1))) := Keep.set (.head _)
  generalize H.set a.m (mS S a (tk + 1)) = G at *
  have q1 : acall text (d + 1) 7 [.ref G.length,.int c,.int p,.int lg.length] (G ++ [.inst 0 []]) = some (.none,G ++ [chObj c p lg.length]) := by
    apply a_call (fd := f_Choice_init) (b := b_Choice_init) (l := [some (.ref G.length),some (.int c),some (.int p),some (.int lg.length)]) rfl rfl rfl; delta b_Choice_init
    repeat fail "ev"
  rw [ln] at q1
  have lc : (csPV cs).length < lim := by rw [csPV_len]; exact hl
  have lg1 : abi .len G [.ref a.cg] = some (.int lg.length) := by rw [len_ref s5,lgPV_len]
  have G1 := (g.app [chObj c p lg.length]).setC (⟨H.length,c,p,lg.length⟩ :: cs) (fun x hx => (List.mem_cons.mp hx).elim (fun e => .inr (by rw [e]; show (G ++ [chObj c p lg.length])[H.length]? = _; rw [← ln]; exact lk_new)) .inl)
  rw [csPV_cons] at G1
  have s6 : (G ++ [chObj c p lg.length])[a.ch]? = some (.list (csPV cs)) := lk_app s4
  have s7 := G1.st.hc
  have s8 := G1.st.hr
  have s9 := G1.hm
  refine ⟨_,fun x y z => ⟨some (.str [115,112,108,105,116]),y,z,fun n => ?_⟩,G1,(kG.trans Keep.app).trans (Keep.set Adr.i3)⟩
  have hb : aexecs text (acall text (d + 1)) runB (runL a.m row p x y z) H = some (.cont,runL a.m b p (some (.str [115,112,108,105,116])) y z,(G ++ [chObj c p lg.length]).set a.ch (.list (csPV cs ++ [.ref H.length]))) := by
    unfold runB
    repeat fail "ev"
  exact tc e_bool hb rfl
noncomputable def Row.asks : Row → Bool
  | .done => false
  | .split _ _ => false
  | .jump _ => false
  | _ => true
theorem asks_word {u : Row} (h : u.asks = true) {Q : Prop} (k : ∀ w r,u.pv = .tup (.str w :: r) → (w == [100,111,110,101]) = false → (w == [115,112,108,105,116]) = false → (w == [106,117,109,112]) = false → Q) : Q := by
  cases u <;> first | (fail "=h"; done) | exact k _ _ rfl rfl rfl rfl
theorem turn_ok (h : MI B S a H tk K μ lg cs) (ht : tk < 400000) {row p q : Nat} {u : Row} (hr : S.rows[row]? = some u) (hu : u.asks = true)
    (ea : acall text d 14 [.ref a.m,u.pv,.int p] (H.set a.m (mS S a (tk + 1))) = some (.int q,H')) : Turn d a.m H row p H' (row + 1) q := fun x y z => by
  have g := h.setM (tk + 1)
  have s1 := g.st.hc
  have s2 := g.st.hr
  have s3 := g.hm
  have s0 := h.hm
  have e1 := rows_get hr
  refine asks_word hu fun w r e2 w1 w2 w3 => ?_
  rw [e2] at e1 ea
  have hset := tick (S := S) (a := a) (tk := tk) H
  generalize H.set a.m (mS S a (tk + 1)) = G at *
  refine ⟨some (.str w),some (.int q),z,fun n => ?_⟩
  have hb : aexecs text (acall text d) runB (runL a.m row p x y z) H = some (.cont,runL a.m (row + 1) q (some (.str w)) (some (.int q)) z,H') := by
    unfold runB
    repeat (first | (with_reducible apply goF w1) | (with_reducible apply goF w2) | (with_reducible apply goF w3) | fail "ev")
  exact tc e_bool hb rfl
theorem turn_out (h : MI B S a H tk K μ lg cs) (ht : tk < 400000) {row p : Nat} {u : Row} (hr : S.rows[row]? = some u) (hu : u.asks = true)
    (ea : acall text d 14 [.ref a.m,u.pv,.int p] (H.set a.m (mS S a (tk + 1))) = some (.none,H')) (g' : MI B S a H' (tk + 1) K μ lg []) : Last d a.m H row p H' .none := fun x y z => by
  have g := h.setM (tk + 1)
  have s1 := g.st.hc
  have s2 := g.st.hr
  have s3 := g.hm
  have s0 := h.hm
  have e1 := rows_get hr
  have s4 := g'.hm
  have s5 := g'.hc
  refine asks_word hu fun w r e2 w1 w2 w3 => ?_
  rw [e2] at e1 ea
  have hset := tick (S := S) (a := a) (tk := tk) H
  generalize H.set a.m (mS S a (tk + 1)) = G at *
  refine ⟨runL a.m row p (some (.str w)) (some .none) z,fun n => ?_⟩
  apply tr
  · repeat fail "ev"
  · unfold runB
    repeat (first | (with_reducible apply goF w1) | (with_reducible apply goF w2) | (with_reducible apply goF w3) | fail "ev")
theorem turn_pop {c : Chc} (h : MI B S a H tk K μ lg (c :: cs)) (ht : tk < 400000) {row p : Nat} {u : Row} (hr : S.rows[row]? = some u) (hu : u.asks = true)
    (ea : acall text (d + 1) 14 [.ref a.m,u.pv,.int p] (H.set a.m (mS S a (tk + 1))) = some (.none,H')) (g' : MI B S a H' (tk + 1) K μ lg (c :: cs)) (ok : LogOk K μ lg) (hn : lg.length ≤ 500000) :
    ∀ Q : Prop,(∀ H2,Turn (d + 1) a.m H row p H2 c.row c.place → MI B S a H2 (tk + 1) (undoTo c.n lg (K,μ)).1 (undoTo c.n lg (K,μ)).2 (cutTo c.n lg) cs → Keep a.five H' H2 → Q) → Q := fun Kq kq => by
  have g := h.setM (tk + 1)
  have s1 := g.st.hc
  have s2 := g.st.hr
  have s3 := g.hm
  have s0 := h.hm
  have e1 := rows_get hr
  have s4 := g'.hm
  have s5 := g'.hc
  rw [csPV_cons] at s5
  have s6 := g'.hcs c (.head _)
  refine asks_word hu fun w r e2 w1 w2 w3 => ?_
  rw [e2] at e1 ea
  have hset := tick (S := S) (a := a) (tk := tk) H
  generalize H.set a.m (mS S a (tk + 1)) = G at *
  have g2 := g'.setC cs fun x hx => .inl (.tail _ hx)
  have s7 : (H'.set a.ch (.list (csPV cs)))[c.ref]? = some (chObj c.row c.place c.n) := lk_ne (fun z => g'.chc s6 (z ▸ Adr.i3)) s6
  refine go_back_turns (acall text d) c.n lg _ K μ none none none g2 ok Kq fun H2 x' y' z' q1 q2 q3 => ?_
  have e3 : acall text (d + 1) 12 [.ref a.m,.int c.n] (H'.set a.ch (.list (csPV cs))) = some (.none,H2) := by
    apply a_call (fd := f_Regmachine_go_back) (b := b_Regmachine_go_back) (l := [some (.ref a.m),some (.int c.n),none,none,none]) rfl rfl rfl; delta b_Regmachine_go_back
    apply x_whil (n := (999999 - lg.length) + lg.length + 1) (by show (1000000 : Nat) = _; lia)
    · exact q1 _
    · repeat fail "ev"
    repeat fail "ev"
  have s8 := q2.hm
  have s9 := g2.hm
  have s10 : H2[c.ref]? = some (chObj c.row c.place c.n) := q3.get _ _ s7 (g'.chc s6)
  have hne : (csPV cs ++ [PV.ref c.ref]).isEmpty = false := by cases csPV cs <;> rfl
  have s11 : acmp .eq H' (.ref a.ch) (.lst []) = some false := by rw [nil_ref s5,hne]
  refine kq H2 (fun x y z => ⟨some (.str w),some .none,some (.ref c.ref),fun n => ?_⟩) q2 ((Keep.set Adr.i3).trans q3)
  clear kq
  have hb : aexecs text (acall text (d + 1)) runB (runL a.m row p x y z) H = some (.next,runL a.m c.row c.place (some (.str w)) (some .none) (some (.ref c.ref)),H2) := by
    unfold runB
    repeat (first | (with_reducible apply goF w1) | (with_reducible apply goF w2) | (with_reducible apply goF w3) | fail "ev")
  exact tn e_bool hb rfl
end
end
section
set_option maxHeartbeats 16000000
structure Snap where
  (row place : Nat)
  (K μ : List Int)
inductive Snaps : List Chg → List Int × List Int → List Chc → List Snap → Prop
  | nil {lg s} : Snaps lg s [] []
  | cons {lg s c cs x xs} : c.n ≤ lg.length → undoTo c.n lg s = (x.K,x.μ) → c.row = x.row → c.place = x.place → Snaps (cutTo c.n lg) (x.K,x.μ) cs xs → Snaps lg s (c :: cs) (x :: xs)
theorem undo_all (lg : List Chg) (s : List Int × List Int) : undoTo lg.length lg s = s := by
  cases lg with
  | nil => rfl
  | cons e lg => exact if_neg (Nat.lt_irrefl _)
theorem cut_all (lg : List Chg) : cutTo lg.length lg = lg := by
  cases lg with
  | nil => rfl
  | cons e lg => exact if_neg (Nat.lt_irrefl _)
theorem undo_push {e : Chg} {lg : List Chg} {n : Nat} {s : List Int × List Int} (h : n ≤ lg.length) : undoTo n (e :: lg) s = undoTo n lg (undo1 e s) := if_pos (Nat.lt_succ_of_le h)
theorem cut_push {e : Chg} {lg : List Chg} {n : Nat} (h : n ≤ lg.length) : cutTo n (e :: lg) = cutTo n lg := if_pos (Nat.lt_succ_of_le h)
theorem Snaps.push {e : Chg} {lg : List Chg} {s s' : List Int × List Int} {cs xs} (h : Snaps lg s cs xs) (he : undo1 e s' = s) : Snaps (e :: lg) s' cs xs := by
  cases h with
  | nil => exact .nil
  | cons h1 h2 h3 h4 h5 => exact .cons (Nat.le_succ_of_le h1) (by rw [undo_push h1,he]; exact h2) h3 h4 (by rw [cut_push h1]; exact h5)
theorem undo_len : ∀ (lg : List Chg) (n : Nat) (s : List Int × List Int),(undoTo n lg s).1.length = s.1.length ∧ (undoTo n lg s).2.length = s.2.length
  | [],n,s => ⟨rfl,rfl⟩
  | e :: lg,n,s => by
    show (ite _ _ _ : List Int × List Int).1.length = _ ∧ (ite _ _ _ : List Int × List Int).2.length = _
    split
    · have := undo_len lg n (undo1 e s)
      rw [this.1,this.2]
      unfold undo1
      cases e.inK <;> exact ⟨by simp,by simp⟩
    · exact ⟨rfl,rfl⟩
theorem cut_mem : ∀ (lg : List Chg) (n : Nat),∀ e ∈ cutTo n lg,e ∈ lg
  | [],_,_,h => h
  | e :: lg,n,e',h => by
    have h' : e' ∈ (if n < lg.length + 1 then cutTo n lg else e :: lg) := h
    split at h'
    · exact .tail _ (cut_mem lg n e' h')
    · exact h'
theorem cut_len : ∀ (lg : List Chg) (n : Nat),(cutTo n lg).length ≤ lg.length
  | [],_ => Nat.le_refl _
  | e :: lg,n => by
    show (ite _ _ _ : List Chg).length ≤ _
    split
    · exact Nat.le_succ_of_le (cut_len lg n)
    · exact Nat.le_refl _
section
variable (d B : Nat) (S : Stat) (a : Adr)
structure RS (H : AH) (tk : Nat) (K μ : List Int) (ss : List Snap) (lg : List Chg) (cs : List Chc) : Prop where
  mi : MI B S a H tk K μ lg cs
  ok : LogOk K μ lg
  sn : Snaps lg (K,μ) cs ss
  l1 : lg.length ≤ tk
  l2 : cs.length ≤ tk
noncomputable def Halts (c row p : Nat) (K μ : List Int) (ss : List Snap) (res : Option (Nat × List Int)) : Prop :=
  ∀ H tk lg cs,RS B S a H tk K μ ss lg cs → tk + c ≤ 400000 → ∀ Q : Prop,(∀ k H' K' μ' lg' cs',k ≤ c → MI B S a H' (tk + k) K' μ' lg' cs' → Keep a.five H H' → (∀ q K2,res = some (q,K2) → K' = K2) →
    (∀ x y z,∃ l',∀ n,turns (wstep text (acall text (d + 6)) (.bool true) runB) (n + k) (runL a.m row p x y z) H = some (.ret (optPV (res.map (·.1))),l',H')) → Q) → Q
noncomputable def Pops (c : Nat) (ss : List Snap) (res : Option (Nat × List Int)) : Prop := match ss with
  | [] => res = none
  | s :: ss => Halts d B S a c s.row s.place s.K s.μ ss res
variable {d B S a}
theorem Halts.mono {c c' row p K μ ss res} (h : Halts d B S a c row p K μ ss res) (hc : c ≤ c') : Halts d B S a c' row p K μ ss res := fun H tk lg cs r ht Q q =>
  h H tk lg cs r (Nat.le_trans (Nat.add_le_add_left hc _) ht) Q fun k H' K' μ' lg' cs' h1 => q k H' K' μ' lg' cs' (Nat.le_trans h1 hc)
theorem Halts.step {c row p row' p' : Nat} {K μ K' μ' : List Int} {ss ss' res} (h : Halts d B S a c row' p' K' μ' ss' res)
    (t : ∀ H tk lg cs,RS B S a H tk K μ ss lg cs → tk < 400000 → ∀ Q : Prop,(∀ H' lg' cs',Turn (d + 6) a.m H row p H' row' p' → RS B S a H' (tk + 1) K' μ' ss' lg' cs' → Keep a.five H H' → Q) → Q) : Halts d B S a (c + 1) row p K μ ss res := fun H tk lg cs r ht Q q => by
  have e : tk + 1 + c = tk + (c + 1) := by rw [Nat.add_right_comm]; rfl
  refine t H tk lg cs r (Nat.lt_of_lt_of_le (Nat.lt_add_of_pos_right (Nat.succ_pos c)) ht) Q fun H1 lg1 cs1 t1 r1 k1 => h H1 (tk + 1) lg1 cs1 r1 (e ▸ ht) Q fun k H2 K2 μ2 lg2 cs2 h1 h2 h3 h4 h5 =>
    q (k + 1) H2 K2 μ2 lg2 cs2 (Nat.succ_le_succ h1) ((Nat.add_right_comm tk 1 k).trans rfl ▸ h2) (k1.trans h3) h4 fun x y z => ?_
  obtain ⟨x',y',z',e1⟩ := t1 x y z
  obtain ⟨l',e2⟩ := h5 x' y' z'
  exact ⟨l',fun n => (e1 (n + k)).trans (e2 n)⟩
theorem ends_done {row p : Nat} {K μ : List Int} {ss} (hr : S.rows[row]? = some .done) : Halts d B S a 1 row p K μ ss (some (p,K)) := fun H tk lg cs r ht Q q => by
  refine q 1 _ K μ lg cs (Nat.le_refl _) (r.mi.setM (tk + 1)) (Keep.set (.head _)) (fun q K2 e => by fail "=e") fun x y z => ?_
  obtain ⟨l',e⟩ := turn_done r.mi (d := d + 6) (by lia) (p := p) hr x y z
  exact ⟨l',fun n => e n⟩
theorem ends_jump {c row p to : Nat} {K μ : List Int} {ss res} (hr : S.rows[row]? = some (.jump to)) (h : Halts d B S a c to p K μ ss res) : Halts d B S a (c + 1) row p K μ ss res :=
  h.step fun H tk lg cs r ht Q q => q _ lg cs (turn_jump r.mi ht hr) ⟨r.mi.setM _,r.ok,r.sn,Nat.le_succ_of_le r.l1,Nat.le_succ_of_le r.l2⟩ (Keep.set (.head _))
theorem ends_split {c row p b e : Nat} {K μ : List Int} {ss res} (hr : S.rows[row]? = some (.split b e)) (h : Halts d B S a c b p K μ (⟨e,p,K,μ⟩ :: ss) res) : Halts d B S a (c + 1) row p K μ ss res :=
  h.step fun H tk lg cs r ht Q q => by
    obtain ⟨H',t,m,k⟩ := turn_split (d := d + 5) r.mi ht (Nat.lt_of_le_of_lt r.l2 (Nat.lt_trans ht (of_decide_eq_true rfl))) (p := p) hr
    exact q H' lg _ t ⟨m,r.ok,.cons (Nat.le_refl _) (undo_all _ _) rfl rfl (by rw [cut_all]; exact r.sn),Nat.le_succ_of_le r.l1,Nat.succ_le_succ r.l2⟩ k
noncomputable def AskOk (d B : Nat) (S : Stat) (a : Adr) (u : Row) (p : Nat) (K μ : List Int) (q : Nat) (K' μ' : List Int) : Prop :=
  ∀ H tk lg cs ss,MI B S a H tk K μ lg cs → LogOk K μ lg → Snaps lg (K,μ) cs ss → lg.length < lim → ∀ Q : Prop,(∀ H' lg',acall text (d + 6) 14 [.ref a.m,u.pv,.int p] H = some (.int q,H') → MI B S a H' tk K' μ' lg' cs → LogOk K' μ' lg' → Snaps lg' (K',μ') cs ss → lg'.length ≤ lg.length + 1 → Keep a.five H H' → Q) → Q
noncomputable def AskNo (d B : Nat) (S : Stat) (a : Adr) (u : Row) (p : Nat) (K μ : List Int) : Prop :=
  ∀ H tk lg cs,MI B S a H tk K μ lg cs → ∃ X,acall text (d + 6) 14 [.ref a.m,u.pv,.int p] H = some (.none,H ++ X)
theorem ends_ok {c row p q : Nat} {K μ K' μ' : List Int} {ss res} {u : Row} (hr : S.rows[row]? = some u) (hu : u.asks = true) (ha : AskOk d B S a u p K μ q K' μ') (h : Halts d B S a c (row + 1) q K' μ' ss res) : Halts d B S a (c + 1) row p K μ ss res :=
  h.step fun H tk lg cs r ht Q q =>
    ha _ _ lg cs ss (r.mi.setM (tk + 1)) r.ok r.sn (Nat.lt_of_le_of_lt r.l1 (Nat.lt_trans ht (of_decide_eq_true rfl))) Q fun H' lg' e m o s l k =>
      q H' lg' cs (turn_ok r.mi ht hr hu e) ⟨m,o,s,Nat.le_trans l (Nat.succ_le_succ r.l1),Nat.le_succ_of_le r.l2⟩ ((Keep.set (.head _)).trans k)
theorem ends_no {c row p : Nat} {K μ : List Int} {ss res} {u : Row} (hr : S.rows[row]? = some u) (hu : u.asks = true) (ha : AskNo d B S a u p K μ) (h : Pops d B S a c ss res) : Halts d B S a (c + 1) row p K μ ss res := by
  cases ss with
  | nil =>
    intro H tk lg cs r ht Q q
    have hs := r.sn
    fail "=hs"
    obtain ⟨X,e⟩ := ha _ _ lg [] (r.mi.setM (tk + 1))
    fail "=h"
    refine q 1 _ K μ lg [] (Nat.le_add_left _ _) ((r.mi.setM (tk + 1)).app X) ((Keep.set (.head _)).trans Keep.app) (fun q K2 e => by fail "=e") fun x y z => ?_
    obtain ⟨l',e2⟩ := turn_out r.mi (Nat.lt_of_lt_of_le (Nat.lt_add_of_pos_right (Nat.succ_pos c)) ht) hr hu e ((r.mi.setM (tk + 1)).app X) x y z
    exact ⟨l',fun n => e2 n⟩
  | cons s ss =>
    refine Halts.step h fun H tk lg cs r ht Q q => ?_
    obtain ⟨m,o,hs,l1,l2⟩ := r
    cases hs with
    | @cons _ _ c0 cs0 _ _ g1 g2 g3 g4 g5 =>
      obtain ⟨X,e⟩ := ha _ _ lg (c0 :: cs0) (m.setM (tk + 1))
      refine turn_pop (d := d + 5) m ht hr hu e ((m.setM (tk + 1)).app X) o (by lia) Q fun H2 t m2 k => ?_
      rw [g2] at m2
      have ul := undo_len lg c0.n (K,μ)
      rw [g2] at ul
      refine q H2 _ cs0 (by rw [← g3,← g4]; exact t) ⟨m2,fun x hx => ?_,g5,Nat.le_succ_of_le (Nat.le_trans (cut_len _ _) l1),Nat.le_of_succ_le (Nat.le_succ_of_le l2)⟩ (((Keep.set (.head _)).trans Keep.app).trans k)
      have := o x (cut_mem _ _ x hx)
      rw [ul.1,ul.2]; exact this
end
end
section
set_option maxHeartbeats 16000000
section
variable {d B : Nat} {S : Stat} {a : Adr}
theorem isT_asks {u : Row} (h : u.isT = true) : u.asks = true := by cases u <;> first | rfl | fail "=h"
theorem ask_take {u : Row} (hu : u.isT = true) {p x : Nat} {K μ : List Int} (hp : S.tx[p]? = some x) (ht : u.takes S.f x = true) : AskOk d B S a u p K μ (p + 1) K μ :=
  fun H tk lg cs ss m o s l Q q => by
    obtain ⟨X,e⟩ := c_asked_take d m.st m.hm hu hp
    rw [ht] at e
    exact q _ lg e (m.app X) o s (Nat.le_succ _) Keep.app
theorem ask_notake {u : Row} (hu : u.isT = true) {p x : Nat} {K μ : List Int} (hp : S.tx[p]? = some x) (ht : u.takes S.f x = false) : AskNo d B S a u p K μ :=
  fun H tk lg cs m => by
    obtain ⟨X,e⟩ := c_asked_take d m.st m.hm hu hp
    rw [ht] at e
    exact ⟨X,e⟩
theorem ask_over {u : Row} (hu : u.isT = true) {p : Nat} {K μ : List Int} (hp : S.tx.length ≤ p) : AskNo d B S a u p K μ :=
  fun H tk lg cs m => ⟨[],by rw [List.append_nil]; exact c_asked_over (d + 5) m.hm hu hp⟩
theorem set_back {K : List Int} {i : Nat} {x y : Int} (h : K[i]? = some y) : (K.set i x).set i y = K := by
  rw [List.set_set]
  obtain ⟨h1,h2⟩ := List.getElem?_eq_some_iff.mp h
  rw [← h2]; exact List.set_getElem_self h1
theorem ask_save {i p : Nat} {K μ : List Int} (hi : i < K.length) : AskOk d B S a (.save i) p K μ p (K.set i p) μ := fun H tk lg cs ss m o s l Q q => by
  have hx : K[i]? = some K[i] := List.getElem?_eq_getElem hi
  have e := c_asked_save (d + 4) (p := p) m.hm m.hk (ints_get hx) m.hg (by rw [lgPV_len]; exact l) (Ne.symm m.nd.2.2.2.2.2.2.1) (Ne.symm m.nd.2.2.2.1)
  rw [ints_set] at e
  have g := m.setGK (⟨true,i,K[i]⟩ :: lg) (K.set i p)
  rw [lgPV_cons] at g
  refine q _ (⟨true,i,K[i]⟩ :: lg) e g (fun x hx => ?_) (s.push (by show (_,_) = _; rw [set_back hx])) (Nat.le_refl _) ((Keep.set Adr.i4).trans (Keep.set Adr.i1))
  rw [List.length_set]
  rcases List.mem_cons.mp hx with rfl | hx
  · exact hi
  · exact o x hx
theorem ask_mark {i p : Nat} {K μ : List Int} (hi : i < μ.length) : AskOk d B S a (.mark i) p K μ p K (μ.set i p) := fun H tk lg cs ss m o s l Q q => by
  have hx : μ[i]? = some μ[i] := List.getElem?_eq_getElem hi
  have e := c_asked_mark (d + 4) (p := p) m.hm m.hu (ints_get hx) m.hg (by rw [lgPV_len]; exact l) (Ne.symm m.nd.2.2.2.2.2.2.2.2.1) (Ne.symm m.nd.2.2.2.1)
  rw [ints_set] at e
  have g := m.setGU (⟨false,i,μ[i]⟩ :: lg) (μ.set i p)
  rw [lgPV_cons] at g
  refine q _ (⟨false,i,μ[i]⟩ :: lg) e g (fun x hx => ?_) (s.push (by show (_,_) = _; rw [set_back hx])) (Nat.le_refl _) ((Keep.set Adr.i4).trans (Keep.set Adr.i2))
  rw [List.length_set]
  rcases List.mem_cons.mp hx with rfl | hx
  · exact hi
  · exact o x hx
theorem ask_prog {i p : Nat} {K μ : List Int} {q : Int} (hi : μ[i]? = some q) (hq : q < p) : AskOk d B S a (.prog i) p K μ p K μ := fun H tk lg cs ss m o s l Q z => by
  have e := c_asked_prog (d + 5) (p := p) m.hm m.hu (ints_get hi)
  rw [decide_eq_true hq] at e
  exact z _ lg e m o s (Nat.le_succ _) Keep.refl
theorem ask_noprog {i p : Nat} {K μ : List Int} {q : Int} (hi : μ[i]? = some q) (hq : ¬ q < p) : AskNo d B S a (.prog i) p K μ := fun H tk lg cs m => by
  have e := c_asked_prog (d + 5) (p := p) m.hm m.hu (ints_get hi)
  rw [decide_eq_false hq] at e
  exact ⟨[],by rw [List.append_nil]; exact e⟩
theorem ask_back {n p q : Nat} {K μ : List Int} {x y : Int} (hn : n ≤ 9) (h1 : K[2 * n]? = some x) (h2 : K[2 * n + 1]? = some y) (ok : SpanOk S.tx.length x y) (hl : S.tx.length ≤ 1000) (hq : backW S.f S.tx x y p = some q) : AskOk d B S a (.back n) p K μ q K μ := fun H tk lg cs ss m o s l Q z => by
  have e := c_asked_back (d + 2) m.st m.hm hn m.hk (ints_get h1) (ints_get h2) ok p hl
  rw [hq] at e
  exact z _ lg e m o s (Nat.le_succ _) Keep.refl
theorem ask_noback {n p : Nat} {K μ : List Int} {x y : Int} (hn : n ≤ 9) (h1 : K[2 * n]? = some x) (h2 : K[2 * n + 1]? = some y) (ok : SpanOk S.tx.length x y) (hl : S.tx.length ≤ 1000) (hq : backW S.f S.tx x y p = none) : AskNo d B S a (.back n) p K μ := fun H tk lg cs m => by
  have e := c_asked_back (d + 2) m.st m.hm hn m.hk (ints_get h1) (ints_get h2) ok p hl
  rw [hq] at e
  exact ⟨[],by rw [List.append_nil]; exact e⟩
end
end
section
set_option maxHeartbeats 16000000
structure Ops (α : Type) where
  opn : Nat → Nat → α → α
  cls : Nat → Nat → Nat → α → α
  bck : Nat → Nat → α → Option Nat
noncomputable def starW {α : Type} (gr : Bool) (w : Nat → α → List (Nat × α)) : Nat → Nat → α → List (Nat × α)
  | 0,p,x => [(p,x)]
  | n + 1,p,x => cond gr (((w p x).flatMap fun y => if p < y.1 then starW gr w n y.1 y.2 else []) ++ [(p,x)]) ((p,x) :: (w p x).flatMap fun y => if p < y.1 then starW gr w n y.1 y.2 else [])
noncomputable def leafW {α : Type} (u : Row) (f : Bool) (tx : List Nat) (p : Nat) (x : α) : List (Nat × α) := match tx[p]? with
  | some s => cond (u.takes f s) [(p + 1,x)] []
  | none => []
noncomputable def oneW {α : Type} (x : α) : Option Nat → List (Nat × α)
  | some e => [(e,x)]
  | none => []
noncomputable def Re.ways {α : Type} (O : Ops α) (f : Bool) (tx : List Nat) : Re → Nat → α → List (Nat × α)
  | .sign c,p,x => leafW (.char (foldN f c)) f tx p x
  | .any,p,x => leafW .any f tx p x
  | .ins,p,x => leafW .ins f tx p x
  | .out,p,x => leafW .out f tx p x
  | .again n,p,x => oneW x (O.bck n p x)
  | .either a b,p,x => a.ways O f tx p x ++ b.ways O f tx p x
  | .group n a,p,x => (a.ways O f tx p (O.opn n p x)).map fun y => (y.1,O.cls n p y.1 y.2)
  | .both a b,p,x => (a.ways O f tx p x).flatMap fun y => b.ways O f tx y.1 y.2
  | .often k a,p,x => match k with
    | 0 => starW true (a.ways O f tx) (tx.length - p) p x
    | 1 => (a.ways O f tx p x).flatMap fun y => starW true (a.ways O f tx) (tx.length - y.1) y.1 y.2
    | 2 => a.ways O f tx p x ++ [(p,x)]
    | 3 => starW false (a.ways O f tx) (tx.length - p) p x
    | 4 => (a.ways O f tx p x).flatMap fun y => a.ways O f tx y.1 y.2 ++ [y]
    | _ => (a.ways O f tx p x).flatMap fun y => (a.ways O f tx y.1 y.2).flatMap fun z => starW true (a.ways O f tx) (tx.length - z.1) z.1 z.2
inductive All2 {α β : Type} (R : α → β → Prop) : List α → List β → Prop
  | nil : All2 R [] []
  | cons {a b as bs} : R a b → All2 R as bs → All2 R (a :: as) (b :: bs)
section
variable {α β α' β' : Type} {R : α → β → Prop} {R' : α' → β' → Prop}
theorem All2.append {as bs as' bs'} (h : All2 R as bs) (k : All2 R as' bs') : All2 R (as ++ as') (bs ++ bs') := by
  induction h with
  | nil => exact k
  | cons r _ ih => exact .cons r ih
theorem All2.flatMap {as : List α} {bs : List β} {g : α → List α'} {h : β → List β'} (a : All2 R as bs) (k : ∀ x y,R x y → All2 R' (g x) (h y)) : All2 R' (as.flatMap g) (bs.flatMap h) := by
  induction a with
  | nil => exact .nil
  | cons r _ ih => rw [List.flatMap_cons,List.flatMap_cons]; exact (k _ _ r).append ih
theorem All2.map {as : List α} {bs : List β} {g : α → α'} {h : β → β'} (a : All2 R as bs) (k : ∀ x y,R x y → R' (g x) (h y)) : All2 R' (as.map g) (bs.map h) := by
  induction a with
  | nil => exact .nil
  | cons r _ ih => exact .cons (k _ _ r) ih
theorem All2.mem {as : List α} {bs : List β} (a : All2 R as bs) : ∀ y ∈ bs,∃ x,R x y := by
  induction a with
  | nil => intro y h; fail "=h"
  | cons r _ ih => intro y h; exact (List.mem_cons.mp h).elim (fun e => ⟨_,e ▸ r⟩) (ih y)
end
noncomputable def Gok (G : Nat) : List Nat → Re → Prop
  | O,.again n => 1 ≤ n ∧ n ≤ G ∧ n ∉ O
  | O,.either a b => Gok G O a ∧ Gok G O b
  | O,.group n a => (1 ≤ n ∧ n ≤ G ∧ n ∉ O) ∧ Gok G (n :: O) a
  | O,.both a b => Gok G O a ∧ Gok G O b
  | O,.often _ a => Gok G O a
  | _,_ => True
theorem gok_of {g cl r g' cl'} (w : WF g cl r g' cl') {G : Nat} (hG : g' ≤ G) : ∀ O : List Nat,(∀ o ∈ O,o ≤ g ∧ o ∉ cl) → (∀ k ∈ cl,1 ≤ k ∧ k ≤ g) → Gok G O r := by
  induction w with
  | again hn => intro O ho hc; exact ⟨(hc _ hn).1,Nat.le_trans (hc _ hn).2 hG,fun m => (ho _ m).2 hn⟩
  | either wa wb A B | both wa wb A B =>
    intro O ho hc
    have ga := wa.grow
    refine ⟨A (Nat.le_trans wb.grow.1 hG) O ho hc,B hG O (fun o m => ⟨Nat.le_trans (ho o m).1 ga.1,fun z => (ga.2 o z).elim (ho o m).2 fun q => absurd (ho o m).1 (Nat.not_le.mpr q.1)⟩) fun k hk => (ga.2 k hk).elim (fun q => ⟨(hc k q).1,Nat.le_trans (hc k q).2 ga.1⟩) fun q => ⟨by fail "l",q.2⟩⟩
  | @group g _ _ _ _ wa A =>
    intro O ho hc
    have ga := wa.grow
    refine ⟨⟨Nat.succ_le_succ (Nat.zero_le _),Nat.le_trans ga.1 hG,fun m => absurd (ho _ m).1 (Nat.not_succ_le_self _)⟩,A hG _ (fun o m => ?_) fun k hk => ⟨(hc k hk).1,Nat.le_succ_of_le (hc k hk).2⟩⟩
    rcases List.mem_cons.mp m with rfl | m
    · exact ⟨Nat.le_refl _,fun z => absurd (hc _ z).2 (Nat.not_succ_le_self _)⟩
    · exact ⟨Nat.le_succ_of_le (ho o m).1,(ho o m).2⟩
  | often _ wa A => intro O ho hc; exact A hG O ho hc
  | _ => intro O ho hc; trivial
section
variable (G : Nat) (f : Bool) (tx : List Nat)
noncomputable def MO : Ops (List Int) where
  opn n p K := K.set (2 * n) p
  cls n _ e K := K.set (2 * n + 1) e
  bck n p K := backW f tx (K.getD (2 * n) (-1)) (K.getD (2 * n + 1) (-1)) p
noncomputable abbrev Kept := List (Option (Nat × Nat))
noncomputable def LO : Ops Kept where
  opn _ _ k := k
  cls n p e k := k.set (n - 1) (some (p,e))
  bck n p k := match k[n - 1]? with
    | some (some s) => if p + (s.2 - s.1) ≤ tx.length then (if mt f tx s.1 p 0 (s.2 - s.1) = true then some (p + (s.2 - s.1)) else none) else none
    | _ => none
noncomputable def Same (x y : Int) : Option (Nat × Nat) → Prop
  | some s => x = s.1 ∧ y = s.2 ∧ s.1 ≤ s.2 ∧ s.2 ≤ tx.length
  | none => (decide (x < 0) || decide (y < 0)) = true
structure Rl (O : List (Nat × Nat)) (p : Nat) (k : Kept) (K : List Int) : Prop where
  lk : k.length = G
  lK : K.length = 2 * G + 2
  le : p ≤ tx.length
  op : ∀ q ∈ O,K[2 * q.1]? = some (q.2 : Int) ∧ q.2 ≤ p
  sm : ∀ n,1 ≤ n → n ≤ G → n ∉ O.map (·.1) → ∃ s,k[n - 1]? = some s ∧ Same tx (K.getD (2 * n) (-1)) (K.getD (2 * n + 1) (-1)) s
variable {G f tx}
theorem Rl.mono {O p q k K} (h : Rl G tx O p k K) (hq : p ≤ q) (hl : q ≤ tx.length) : Rl G tx O q k K := ⟨h.lk,h.lK,hl,fun x hx => ⟨(h.op x hx).1,Nat.le_trans (h.op x hx).2 hq⟩,h.sm⟩
noncomputable abbrev W2 (G : Nat) (tx : List Nat) (O : List (Nat × Nat)) (p : Nat) : List (Nat × Kept) → List (Nat × List Int) → Prop := All2 fun y z => y.1 = z.1 ∧ p ≤ y.1 ∧ Rl G tx O y.1 y.2 z.2
theorem w2_mono {O p q l m} (h : W2 G tx O q l m) (hq : p ≤ q) : W2 G tx O p l m := by
  induction h with
  | nil => exact .nil
  | cons r _ ih => exact .cons ⟨r.1,Nat.le_trans hq r.2.1,r.2.2⟩ ih
theorem w2_bind {O p l m} {g : Nat × Kept → List (Nat × Kept)} {h : Nat × List Int → List (Nat × List Int)} (a : W2 G tx O p l m) (k : ∀ q x y,p ≤ q → Rl G tx O q x y → W2 G tx O q (g (q,x)) (h (q,y))) : W2 G tx O p (l.flatMap g) (m.flatMap h) :=
  a.flatMap fun ⟨y1,y2⟩ ⟨z1,z2⟩ ⟨e,hp,r⟩ => by
    fail "=e"
    exact w2_mono (k y1 y2 z2 hp r) hp
theorem w2_star {O : List (Nat × Nat)} {gr : Bool} {v : Nat → Kept → List (Nat × Kept)} {w : Nat → List Int → List (Nat × List Int)} (h : ∀ p k K,Rl G tx O p k K → W2 G tx O p (v p k) (w p K)) : ∀ n p k K,Rl G tx O p k K → W2 G tx O p (starW gr v n p k) (starW gr w n p K)
  | 0,p,k,K,r => .cons ⟨rfl,Nat.le_refl _,r⟩ .nil
  | n + 1,p,k,K,r => by
    have q : W2 G tx O p ((v p k).flatMap fun y => if p < y.1 then starW gr v n y.1 y.2 else []) ((w p K).flatMap fun y => if p < y.1 then starW gr w n y.1 y.2 else []) := w2_bind (h p k K r) fun q x y hq r => by
      by_cases z : p < q
      · show W2 G tx O q (if p < q then _ else _) (if p < q then _ else _)
        rw [if_pos z,if_pos z]; exact w2_star h n q x y r
      · show W2 G tx O q (if p < q then _ else _) (if p < q then _ else _)
        rw [if_neg z,if_neg z]; exact .nil
    cases gr
    · exact .cons ⟨rfl,Nat.le_refl _,r⟩ q
    · exact q.append (.cons ⟨rfl,Nat.le_refl _,r⟩ .nil)
theorem w2_leaf {O : List (Nat × Nat)} {p k K} {u : Row} (r : Rl G tx O p k K) : W2 G tx O p (leafW u f tx p k) (leafW u f tx p K) := by
  unfold leafW
  cases h : tx[p]? with
  | none => exact .nil
  | some s =>
    have := lk_lt h
    dsimp only
    cases u.takes f s
    · exact .nil
    · exact .cons ⟨rfl,Nat.le_succ _,r.mono (Nat.le_succ _) this⟩ .nil
theorem getD_set_ne {K : List Int} {i j : Nat} {x d : Int} (h : i ≠ j) : (K.set i x).getD j d = K.getD j d := by rw [List.getD_eq_getElem?_getD,List.getD_eq_getElem?_getD,List.getElem?_set_ne h]
theorem getD_set_self {K : List Int} {i : Nat} {x d : Int} (h : i < K.length) : (K.set i x).getD i d = x := by rw [List.getD_eq_getElem?_getD,List.getElem?_set_self h]; rfl
theorem ways_two : ∀ (r : Re) (O : List (Nat × Nat)),Gok G (O.map (·.1)) r → ∀ p k K,Rl G tx O p k K → W2 G tx O p (r.ways (LO f tx) f tx p k) (r.ways (MO f tx) f tx p K)
  | .sign c,O,_,p,k,K,r => w2_leaf r
  | .any,O,_,p,k,K,r => w2_leaf r
  | .ins,O,_,p,k,K,r => w2_leaf r
  | .out,O,_,p,k,K,r => w2_leaf r
  | .either a b,O,g,p,k,K,r => (ways_two a O g.1 p k K r).append (ways_two b O g.2 p k K r)
  | .both a b,O,g,p,k,K,r => w2_bind (ways_two a O g.1 p k K r) fun q x y Y r => ways_two b O g.2 q x y r
  | .often j a,O,g,p,k,K,r => by
    have A := ways_two a O g
    cases j using nat6 with
    | a0 => exact w2_star A _ p k K r
    | a1 => exact w2_bind (A p k K r) fun q x y Y r => w2_star A _ q x y r
    | a2 => exact (A p k K r).append (.cons ⟨rfl,Nat.le_refl _,r⟩ .nil)
    | a3 => exact w2_star A _ p k K r
    | a4 => exact w2_bind (A p k K r) fun q x y Y r => (A q x y r).append (.cons ⟨rfl,Nat.le_refl _,r⟩ .nil)
    | a5 n => exact w2_bind (A p k K r) fun q x y Y r => w2_bind (A q x y r) fun q x y Y r => w2_star A _ q x y r
  | .again n,O,g,p,k,K,r => by
    obtain ⟨s,h1,h2⟩ := r.sm n g.1 g.2.1 g.2.2
    have e : (LO f tx).bck n p k = (MO f tx).bck n p K := by
      show (match k[n - 1]? with | some (some s) => _ | _ => none) = backW f tx _ _ p
      rw [h1]
      unfold backW
      cases s with
      | none =>
        have h2' : (decide (K.getD (2 * n) (-1) < 0) || decide (K.getD (2 * n + 1) (-1) < 0)) = true := h2
        rw [if_pos h2']
      | some s =>
        obtain ⟨e1,e2,e3,e4⟩ := h2
        rw [e1,e2,if_neg (by rw [decide_eq_false (by fail "l"),decide_eq_false (by fail "l")]; decide)]; rfl
    show W2 G tx O p (oneW k ((LO f tx).bck n p k)) (oneW K ((MO f tx).bck n p K))
    rw [← e]
    cases hb : (LO f tx).bck n p k with
    | none => exact .nil
    | some q =>
      have hq : p ≤ q ∧ q ≤ tx.length := by
        have hb' : (match k[n - 1]? with | some (some s) => if p + (s.2 - s.1) ≤ tx.length then (if mt f tx s.1 p 0 (s.2 - s.1) = true then some (p + (s.2 - s.1)) else none) else none | _ => none) = some q := hb
        rw [h1] at hb'
        cases s with
        | none => fail "=hb'"
        | some s =>
          dsimp only at hb'
          split at hb'
          · split at hb'
            · fail "=hb'"; exact ⟨Nat.le_add_right _ _,by assumption⟩
            · fail "=hb'"
          · fail "=hb'"
      exact .cons ⟨rfl,hq.1,r.mono hq.1 hq.2⟩ .nil
  | .group n a,O,g,p,k,K,r => by
    obtain ⟨⟨g1,g2,g3⟩,g4⟩ := g
    have hn : 2 * n < K.length := by rw [r.lK]; fail "l"
    have r1 : Rl G tx ((n,p) :: O) p k (K.set (2 * n) p) := by
      refine ⟨r.lk,by rw [List.length_set]; exact r.lK,r.le,fun q hq => ?_,fun m h1 h2 h3 => ?_⟩
      · rcases List.mem_cons.mp hq with rfl | hq
        · exact ⟨lk_same hn,Nat.le_refl _⟩
        · have : q.1 ≠ n := fun z => g3 (z ▸ List.mem_map.mpr ⟨q,hq,rfl⟩)
          exact ⟨lk_ne (by fail "l") (r.op q hq).1,(r.op q hq).2⟩
      · rw [List.map_cons,List.mem_cons,not_or] at h3
        obtain ⟨s,q1,q2⟩ := r.sm m h1 h2 h3.2
        have hm : m ≠ n := h3.1
        exact ⟨s,q1,by rw [getD_set_ne (by fail "l"),getD_set_ne (by fail "l")]; exact q2⟩
    refine (ways_two a ((n,p) :: O) g4 p k _ r1).map fun ⟨y1,y2⟩ ⟨z1,z2⟩ ⟨e,hp,q⟩ => ?_
    fail "=e"
    refine ⟨rfl,hp,⟨by show (y2.set _ _).length = G; rw [List.length_set]; exact q.lk,by show (z2.set _ _).length = _; rw [List.length_set]; exact q.lK,q.le,fun x hx => ?_,fun m h1 h2 h3 => ?_⟩⟩
    · exact ⟨lk_ne (by fail "l") (q.op x (.tail _ hx)).1,(q.op x (.tail _ hx)).2⟩
    · by_cases hm : m = n
      · subst hm
        have h0 := (q.op (m,p) (.head _))
        refine ⟨some (p,y1),lk_same (by rw [q.lk]; fail "l"),?_,?_,hp,q.le⟩
        · show (z2.set (2 * m + 1) _).getD (2 * m) _ = _
          rw [getD_set_ne (by fail "l"),List.getD_eq_getElem?_getD,h0.1]; rfl
        · exact getD_set_self (by rw [q.lK]; fail "l")
      · obtain ⟨s,q1,q2⟩ := q.sm m h1 h2 (by rw [List.map_cons,List.mem_cons,not_or]; exact ⟨hm,h3⟩)
        refine ⟨s,lk_ne (by fail "l") q1,?_⟩
        show Same tx ((z2.set (2 * n + 1) _).getD (2 * m) _) ((z2.set (2 * n + 1) _).getD (2 * m + 1) _) s
        rw [getD_set_ne (by fail "l"),getD_set_ne (by fail "l")]; exact q2
end
end
section
set_option maxHeartbeats 16000000
theorem comp_len (f : Bool) : ∀ (r : Re) (pc m : Nat),(r.comp f pc m).length = r.len
  | .sign _,_,_ => rfl
  | .any,_,_ => rfl
  | .ins,_,_ => rfl
  | .out,_,_ => rfl
  | .again _,_,_ => rfl
  | .either a b,pc,m => by simp only [Re.comp,Re.len,List.length_cons,List.length_append,comp_len f a,comp_len f b]; fail "l"
  | .group n a,pc,m => by simp only [Re.comp,Re.len,List.length_cons,List.length_append,comp_len f a,List.length_nil]
  | .both a b,pc,m => by simp only [Re.comp,Re.len,List.length_append,comp_len f a,comp_len f b]
  | .often k a,pc,m => by
    match k with
    | 0 => simp only [Re.comp,Re.len,loopR,List.length_cons,List.length_append,comp_len f a,List.length_nil]
    | 1 => simp only [Re.comp,Re.len,loopR,List.length_cons,List.length_append,comp_len f a,List.length_nil]
    | 2 => simp only [Re.comp,Re.len,List.length_cons,comp_len f a]
    | 3 => simp only [Re.comp,Re.len,loopR,List.length_cons,List.length_append,comp_len f a,List.length_nil]
    | 4 => simp only [Re.comp,Re.len,List.length_cons,List.length_append,comp_len f a]
    | n + 5 => simp only [Re.comp,Re.len,loopR,List.length_cons,List.length_append,comp_len f a,List.length_nil]
noncomputable def CodeAt (rows : List Row) (pc : Nat) (R : List Row) : Prop := ∀ (i : Nat) (u : Row),R[i]? = some u → rows[pc + i]? = some u
theorem CodeAt.left {rows pc R R'} (h : CodeAt rows pc (R ++ R')) : CodeAt rows pc R := fun i u e => h i u (lk_app e)
theorem CodeAt.right {rows pc R R'} (h : CodeAt rows pc (R ++ R')) : CodeAt rows (pc + R.length) R' := fun i u e => by rw [Nat.add_assoc]; exact h _ u (lk_at e)
theorem CodeAt.head {rows pc u R} (h : CodeAt rows pc (u :: R)) : rows[pc]? = some u := h 0 u rfl
theorem CodeAt.tail {rows pc u R} (h : CodeAt rows pc (u :: R)) : CodeAt rows (pc + 1) R := fun i v e => by rw [Nat.add_assoc,Nat.add_comm 1 i]; exact h (i + 1) v e
noncomputable abbrev Res := Nat × List Int
noncomputable def firstOf (o : Nat → List Int → Option Res) : List (Nat × List Int) → Option Res
  | [] => none
  | y :: ws => (o y.1 y.2).or (firstOf o ws)
theorem first_app (o) : ∀ a b : List (Nat × List Int),firstOf o (a ++ b) = (firstOf o a).or (firstOf o b)
  | [],b => by simp [firstOf]
  | y :: a,b => by rw [List.cons_append,firstOf,firstOf,first_app o a b,Option.or_assoc]
theorem first_bind (o) (g : Nat × List Int → List (Nat × List Int)) : ∀ a : List (Nat × List Int),firstOf o (a.flatMap g) = firstOf (fun e K => firstOf o (g (e,K))) a
  | [] => rfl
  | y :: a => by rw [List.flatMap_cons,first_app,first_bind o g a]; rfl
theorem first_map (o) (g : Nat × List Int → Nat × List Int) : ∀ a : List (Nat × List Int),firstOf o (a.map g) = firstOf (fun e K => o (g (e,K)).1 (g (e,K)).2) a
  | [] => rfl
  | y :: a => by rw [List.map_cons,firstOf,firstOf,first_map o g a]
theorem first_one (o) (y : Nat × List Int) : firstOf o [y] = o y.1 y.2 := by rw [firstOf,firstOf,Option.or_none]
noncomputable def sA (Aa : Nat → Nat) : Nat → Nat
  | 0 => 1
  | n + 1 => 1 + Aa (n + 1) * sA Aa n
noncomputable def sB (Aa Ba : Nat → Nat) : Nat → Nat
  | 0 => 2 + Aa 0 * 2 + Ba 0
  | n + 1 => 2 + Aa (n + 1) * (2 + sB Aa Ba n) + Ba (n + 1)
noncomputable def Re.ca : Re → Nat → Nat
  | .either a b,n => a.ca n + b.ca n
  | .group _ a,n => a.ca n
  | .both a b,n => a.ca n * b.ca n
  | .often k a,n => match k with
    | 0 => sA a.ca n
    | 1 => a.ca n * sA a.ca n
    | 2 => a.ca n + 1
    | 3 => sA a.ca n
    | 4 => a.ca n * (a.ca n + 1)
    | _ => a.ca n * (a.ca n * sA a.ca n)
  | _,_ => 1
noncomputable def Re.cb : Re → Nat → Nat
  | .either a b,n => 1 + a.ca n + a.cb n + b.cb n
  | .group _ a,n => 1 + a.ca n + a.cb n
  | .both a b,n => a.ca n * b.cb n + a.cb n
  | .often k a,n => match k with
    | 0 => sB a.ca a.cb n
    | 1 => a.ca n * sB a.ca a.cb n + a.cb n
    | 2 => 1 + a.cb n
    | 3 => sB a.ca a.cb n
    | 4 => a.ca n * (1 + a.cb n) + a.cb n
    | _ => a.ca n * (a.ca n * sB a.ca a.cb n + a.cb n) + a.cb n
  | _,_ => 1
section
variable (d B : Nat) (S : Stat) (a : Adr) (G : Nat)
noncomputable def Out (o : Option Res) (ss : List Snap) (c : Nat) (res : Option Res) : Prop := match o with
  | some R => res = some R
  | none => Pops d B S a c ss res
noncomputable def Agree (m : Nat) (μ μ' : List Int) : Prop := μ'.length = μ.length ∧ ∀ i,i < m → μ'[i]? = μ[i]?
noncomputable def Hnd (pc m : Nat) (μ : List Int) (p : Nat) (K : List Int) (o : Option Res) (c : Nat) : Prop :=
  ∀ μ',Agree m μ μ' → ∀ ss c' res,Out d B S a o ss c' res → Halts d B S a (c + c') pc p K μ' ss res
noncomputable def Inv (O : List (Nat × Nat)) (p : Nat) (K : List Int) : Prop := ∃ k,Rl G S.tx O p k K
noncomputable def Ex (r : Re) : Prop := ∀ (O : List (Nat × Nat)) (pc m : Nat),Gok G (O.map (·.1)) r → CodeAt S.rows pc (r.comp S.f pc m) → ∀ (p : Nat) (K μ : List Int) (o : Nat → List Int → Option Res) (x n : Nat),Inv S G O p K → m + r.mk ≤ μ.length → S.tx.length - p ≤ n →
  (∀ y ∈ r.ways (MO S.f S.tx) S.f S.tx p K,Hnd d B S a (pc + r.len) m μ y.1 y.2 (o y.1 y.2) x) → Hnd d B S a pc m μ p K (firstOf o (r.ways (MO S.f S.tx) S.f S.tx p K)) (r.ca n * x + r.cb n)
variable {d B S a G}
theorem Agree.refl {m μ} : Agree m μ μ := ⟨rfl,fun Y Y => rfl⟩
theorem Agree.trans {m m' μ μ' μ''} (h : Agree m μ μ') (k : Agree m' μ' μ'') (hm : m ≤ m') : Agree m μ μ'' := ⟨k.1.trans h.1,fun i hi => (k.2 i (Nat.lt_of_lt_of_le hi hm)).trans (h.2 i hi)⟩
theorem Agree.set {m i μ} {x : Int} (h : m ≤ i) : Agree m μ (μ.set i x) := ⟨List.length_set ..,fun j hj => List.getElem?_set_ne (by fail "l")⟩
theorem Hnd.down {pc m m' μ μ' p K o c} (h : Hnd d B S a pc m μ p K o c) (k : Agree m μ μ') (hm : m ≤ m') : Hnd d B S a pc m' μ' p K o c := fun μ'' g => h μ'' (k.trans g hm)
theorem Hnd.mono {pc m μ p K o c c'} (h : Hnd d B S a pc m μ p K o c) (hc : c ≤ c') : Hnd d B S a pc m μ p K o c' := fun μ' g ss e res q => (h μ' g ss e res q).mono (by fail "l")
theorem inv_of {O p K r} (hg : Gok G (O.map (·.1)) r) (h : Inv S G O p K) : ∀ y ∈ r.ways (MO S.f S.tx) S.f S.tx p K,p ≤ y.1 ∧ Inv S G O y.1 y.2 := fun y hy => by
  obtain ⟨k,h⟩ := h
  obtain ⟨z,e,hp,q⟩ := (ways_two r O hg p k K h).mem y hy
  rw [← e]; exact ⟨hp,_,q⟩
theorem hnd_no {pc m μ p K} {u : Row} {c : Nat} (hr : S.rows[pc]? = some u) (hu : u.asks = true) (h : ∀ μ',Agree m μ μ' → AskNo d B S a u p K μ') (hc : 1 ≤ c) : Hnd d B S a pc m μ p K none c := fun μ' g ss c' res q =>
  (ends_no hr hu (h μ' g) q).mono (by fail "l")
theorem hnd_ok {pc m μ p K o x q K'} {u : Row} (hr : S.rows[pc]? = some u) (hu : u.asks = true) (h : ∀ μ',Agree m μ μ' → AskOk d B S a u p K μ' q K' μ') (hn : Hnd d B S a (pc + 1) m μ q K' o x) : Hnd d B S a pc m μ p K o (x + 1) := fun μ' g ss c' res z =>
  (ends_ok hr hu (h μ' g) (hn μ' g ss c' res z)).mono (by fail "l")
theorem hnd_jump {pc to m μ p K o x} (hr : S.rows[pc]? = some (.jump to)) (hn : Hnd d B S a to m μ p K o x) : Hnd d B S a pc m μ p K o (x + 1) := fun μ' g ss c' res z =>
  (ends_jump hr (hn μ' g ss c' res z)).mono (by fail "l")
theorem hnd_split {pc b e m μ p K o1 o2 c1 c2} (hr : S.rows[pc]? = some (.split b e)) (h1 : Hnd d B S a b m μ p K o1 c1) (h2 : Hnd d B S a e m μ p K o2 c2) : Hnd d B S a pc m μ p K (o1.or o2) (1 + c1 + c2) := fun μ' g ss c' res z => by
  cases o1 with
  | some R => exact (ends_split hr (h1 μ' g _ 0 res z)).mono (by fail "l")
  | none => exact (ends_split hr (h1 μ' g (⟨e,p,K,μ'⟩ :: ss) (c2 + c') res (h2 μ' g ss c' res z))).mono (by fail "l")
theorem ex_leaf {pc m μ p K o x} {u : Row} (hu : u.isT = true) (hr : S.rows[pc]? = some u) (h : ∀ y ∈ leafW u S.f S.tx p K,Hnd d B S a (pc + 1) m μ y.1 y.2 (o y.1 y.2) x) : Hnd d B S a pc m μ p K (firstOf o (leafW u S.f S.tx p K)) (1 * x + 1) := by
  rw [Nat.one_mul]
  unfold leafW at h ⊢
  cases hp : S.tx[p]? with
  | none => exact hnd_no hr (isT_asks hu) (fun μ' Y => ask_over hu (List.getElem?_eq_none_iff.mp hp)) (Nat.le_add_left _ _)
  | some s =>
    rw [hp] at h
    dsimp only at h ⊢
    cases ht : u.takes S.f s
    · exact hnd_no hr (isT_asks hu) (fun μ' Y => ask_notake hu hp ht) (Nat.le_add_left _ _)
    · rw [ht] at h
      show Hnd d B S a pc m μ p K (firstOf o [(p + 1,K)]) (x + 1)
      rw [first_one]
      exact hnd_ok hr (isT_asks hu) (fun μ' Y => ask_take hu hp ht) (h _ (.head _))
theorem ex_both {r1 r2 : Re} (h1 : Ex d B S a G r1) (h2 : Ex d B S a G r2) : Ex d B S a G (.both r1 r2) := fun O pc m hg hc p K μ o x n hi hm hn h => by
  have hc' : CodeAt S.rows pc (r1.comp S.f pc m ++ r2.comp S.f (pc + r1.len) (m + r1.mk)) := hc
  have hm' : m + (r1.mk + r2.mk) ≤ μ.length := hm
  have hR := hc'.right
  rw [comp_len] at hR
  have key := h1 O pc m hg.1 hc'.left p K μ (fun e K => firstOf o (r2.ways (MO S.f S.tx) S.f S.tx e K)) (r2.ca n * x + r2.cb n) n hi (by fail "l") hn fun y hy => by
    intro μ' g
    have hy2 := inv_of hg.1 hi y hy
    refine (h2 O (pc + r1.len) (m + r1.mk) hg.2 hR y.1 y.2 μ' o x n hy2.2 (by rw [g.1]; fail "l") (by fail "l") fun z hz => ?_) μ' Agree.refl
    have hz' := h z (List.mem_flatMap.mpr ⟨y,hy,hz⟩)
    rw [show pc + (Re.both r1 r2).len = pc + r1.len + r2.len from (Nat.add_assoc ..).symm] at hz'
    exact hz'.down g (Nat.le_add_right _ _)
  have e : firstOf o ((Re.both r1 r2).ways (MO S.f S.tx) S.f S.tx p K) = firstOf (fun e K => firstOf o (r2.ways (MO S.f S.tx) S.f S.tx e K)) (r1.ways (MO S.f S.tx) S.f S.tx p K) := first_bind o (fun y => r2.ways (MO S.f S.tx) S.f S.tx y.1 y.2) _
  rw [e]
  refine key.mono (Nat.le_of_eq ?_)
  show r1.ca n * (r2.ca n * x + r2.cb n) + r1.cb n = r1.ca n * r2.ca n * x + (r1.ca n * r2.cb n + r1.cb n)
  rw [Nat.mul_add,Nat.mul_assoc,Nat.add_assoc]
theorem ex_either {r1 r2 : Re} (h1 : Ex d B S a G r1) (h2 : Ex d B S a G r2) : Ex d B S a G (.either r1 r2) := fun O pc m hg hc p K μ o x n hi hm hn h => by
  have hc' : CodeAt S.rows pc (.split (pc + 1) (pc + r1.len + 2) :: (r1.comp S.f (pc + 1) m ++ (.jump (pc + r1.len + r2.len + 2) :: r2.comp S.f (pc + r1.len + 2) (m + r1.mk)))) := hc
  have hm' : m + (r1.mk + r2.mk) ≤ μ.length := hm
  have hR := hc'.tail.right
  rw [comp_len] at hR
  have hl : pc + (Re.either r1 r2).len = pc + r1.len + r2.len + 2 := by show pc + (r1.len + r2.len + 2) = _; fail "l"
  rw [hl] at h
  have a1 := h1 O (pc + 1) m hg.1 hc'.tail.left p K μ o (x + 1) n hi (by fail "l") hn fun y hy => hnd_jump hR.head (h y (List.mem_append_left _ hy))
  have a2 := h2 O (pc + r1.len + 2) (m + r1.mk) hg.2 (by have := hR.tail; rw [show pc + 1 + r1.len + 1 = pc + r1.len + 2 by fail "l"] at this; exact this) p K
  have e : firstOf o ((Re.either r1 r2).ways (MO S.f S.tx) S.f S.tx p K) = (firstOf o (r1.ways (MO S.f S.tx) S.f S.tx p K)).or (firstOf o (r2.ways (MO S.f S.tx) S.f S.tx p K)) := first_app o _ _
  rw [e]
  refine (hnd_split hc'.head a1 (c2 := r2.ca n * x + r2.cb n) fun μ' g => ?_).mono ?_
  · exact a2 μ' o x n hi (by rw [g.1]; fail "l") hn (fun y hy => by rw [show pc + r1.len + 2 + r2.len = pc + r1.len + r2.len + 2 by fail "l"]; exact (h y (List.mem_append_right _ hy)).down g (Nat.le_add_right _ _)) μ' Agree.refl
  · show 1 + (r1.ca n * (x + 1) + r1.cb n) + (r2.ca n * x + r2.cb n) ≤ (r1.ca n + r2.ca n) * x + (1 + r1.ca n + r1.cb n + r2.cb n)
    rw [Nat.mul_add,Nat.add_mul]; fail "l"
end
end
section
set_option maxHeartbeats 16000000
section
variable {d B : Nat} {S : Stat} {a : Adr} {G : Nat}
theorem rl_open {O : List (Nat × Nat)} {n p : Nat} {k : Kept} {K : List Int} {tx : List Nat} (g1 : 1 ≤ n) (g2 : n ≤ G) (g3 : n ∉ O.map (·.1)) (r : Rl G tx O p k K) : Rl G tx ((n,p) :: O) p k (K.set (2 * n) p) := by
  have hn : 2 * n < K.length := by rw [r.lK]; fail "l"
  refine ⟨r.lk,by rw [List.length_set]; exact r.lK,r.le,fun q hq => ?_,fun m h1 h2 h3 => ?_⟩
  · rcases List.mem_cons.mp hq with rfl | hq
    · exact ⟨lk_same hn,Nat.le_refl _⟩
    · have : q.1 ≠ n := fun z => g3 (z ▸ List.mem_map.mpr ⟨q,hq,rfl⟩)
      exact ⟨lk_ne (by fail "l") (r.op q hq).1,(r.op q hq).2⟩
  · rw [List.map_cons,List.mem_cons,not_or] at h3
    obtain ⟨s,q1,q2⟩ := r.sm m h1 h2 h3.2
    have hm : m ≠ n := h3.1
    exact ⟨s,q1,by rw [getD_set_ne (by fail "l"),getD_set_ne (by fail "l")]; exact q2⟩
theorem star_le (Aa Ba : Nat → Nat) (N x : Nat) : x + (1 + (1 + (Aa N * (0 + 2) + Ba N))) ≤ sA Aa N * x + sB Aa Ba N := by
  cases N with
  | zero => show _ ≤ 1 * x + (2 + Aa 0 * 2 + Ba 0); fail "l"
  | succ N =>
    show _ ≤ (1 + Aa (N + 1) * sA Aa N) * x + (2 + Aa (N + 1) * (2 + sB Aa Ba N) + Ba (N + 1))
    rw [Nat.add_mul,Nat.mul_add (Aa (N + 1)) 2]; fail "l"
theorem ex_group {n : Nat} {r : Re} (h1 : Ex d B S a G r) : Ex d B S a G (.group n r) := fun O pc m hg hc p K μ o x N hi hm hn h => by
  obtain ⟨⟨g1,g2,g3⟩,g4⟩ := hg
  have hc' : CodeAt S.rows pc (.save (2 * n) :: (r.comp S.f (pc + 1) m ++ [.save (2 * n + 1)])) := hc
  have hR := hc'.tail.right
  rw [comp_len] at hR
  obtain ⟨k,hk⟩ := hi
  have hK : 2 * n < K.length := by rw [hk.lK]; fail "l"
  have r1 : Rl G S.tx ((n,p) :: O) p k (K.set (2 * n) p) := rl_open g1 g2 g3 hk
  have a1 := h1 ((n,p) :: O) (pc + 1) m g4 hc'.tail.left p (K.set (2 * n) p) μ (fun e K' => o e (K'.set (2 * n + 1) e)) (x + 1) N ⟨k,r1⟩ hm hn fun y hy => by
    obtain ⟨_,k2,q⟩ := inv_of (O := (n,p) :: O) g4 ⟨k,r1⟩ y hy
    refine hnd_ok hR.head rfl (fun μ' Y => ask_save (by rw [q.lK]; fail "l")) ?_
    have := h (y.1,y.2.set (2 * n + 1) y.1) (List.mem_map.mpr ⟨y,hy,rfl⟩)
    rw [show pc + (Re.group n r).len = pc + 1 + r.len + 1 by show pc + (r.len + 2) = _; fail "l"] at this
    exact this
  have e : firstOf o ((Re.group n r).ways (MO S.f S.tx) S.f S.tx p K) = firstOf (fun e K' => o e (K'.set (2 * n + 1) e)) (r.ways (MO S.f S.tx) S.f S.tx p (K.set (2 * n) p)) := first_map o (fun y => (y.1,y.2.set (2 * n + 1) (y.1 : Int))) _
  rw [e]
  refine (hnd_ok hc'.head rfl (fun μ' Y => ask_save hK) a1).mono ?_
  show r.ca N * (x + 1) + r.cb N + 1 ≤ r.ca N * x + (1 + r.ca N + r.cb N)
  rw [Nat.mul_add]; fail "l"
theorem ex_again (h9 : G ≤ 9) (hL : S.tx.length ≤ 1000) {n : Nat} : Ex d B S a G (.again n) := fun O pc m hg hc p K μ o x N hi hm hn h => by
  obtain ⟨g1,g2,g3⟩ := hg
  obtain ⟨k,hk⟩ := hi
  obtain ⟨s,q1,q2⟩ := hk.sm n g1 g2 g3
  have hr : S.rows[pc]? = some (.back n) := CodeAt.head hc
  have i1 : 2 * n < K.length := by rw [hk.lK]; fail "l"
  have i2 : 2 * n + 1 < K.length := by rw [hk.lK]; fail "l"
  have x1 : K[2 * n]? = some (K.getD (2 * n) (-1)) := by rw [List.getD_eq_getElem?_getD,List.getElem?_eq_getElem i1]; rfl
  have x2 : K[2 * n + 1]? = some (K.getD (2 * n + 1) (-1)) := by rw [List.getD_eq_getElem?_getD,List.getElem?_eq_getElem i2]; rfl
  have ok : SpanOk S.tx.length (K.getD (2 * n) (-1)) (K.getD (2 * n + 1) (-1)) := by
    cases s with
    | none => exact .inl q2
    | some s => exact .inr ⟨_,_,q2.1,q2.2.1,q2.2.2.1,q2.2.2.2⟩
  have ew : (Re.again n).ways (MO S.f S.tx) S.f S.tx p K = oneW K (backW S.f S.tx (K.getD (2 * n) (-1)) (K.getD (2 * n + 1) (-1)) p) := rfl
  rw [ew] at h ⊢
  show Hnd d B S a pc m μ p K _ (1 * x + 1)
  rw [Nat.one_mul]
  cases hb : backW S.f S.tx (K.getD (2 * n) (-1)) (K.getD (2 * n + 1) (-1)) p with
  | none => exact hnd_no hr rfl (fun μ' Y => ask_noback (Nat.le_trans g2 h9) x1 x2 ok hL hb) (Nat.le_add_left _ _)
  | some q =>
    rw [hb] at h
    show Hnd d B S a pc m μ p K (firstOf o [(q,K)]) (x + 1)
    rw [first_one]
    exact hnd_ok hr rfl (fun μ' Y => ask_back (Nat.le_trans g2 h9) x1 x2 ok hL hb) (h _ (.head _))
theorem ex_star {r : Re} (h1 : Ex d B S a G r) (gr : Bool) (O : List (Nat × Nat)) (pc m own mi : Nat) (hg : Gok G (O.map (·.1)) r) (hc : CodeAt S.rows pc (loopR gr pc own r.len (r.comp S.f (pc + 2) mi))) (m1 : m ≤ own) (m2 : own < mi) (o : Nat → List Int → Option Res) (x : Nat) :
    ∀ (n : Nat) (p : Nat) (K μ : List Int) (N : Nat),n ≤ N → S.tx.length - p ≤ n → Inv S G O p K → mi + r.mk ≤ μ.length →
      (∀ y ∈ starW gr (r.ways (MO S.f S.tx) S.f S.tx) n p K,Hnd d B S a (pc + r.len + 4) m μ y.1 y.2 (o y.1 y.2) x) →
      Hnd d B S a pc m μ p K (firstOf o (starW gr (r.ways (MO S.f S.tx) S.f S.tx) n p K)) (sA r.ca N * x + sB r.ca r.cb N) := by
  have hc' : CodeAt S.rows pc (splitG gr (pc + 1) (pc + r.len + 4) :: .mark own :: (r.comp S.f (pc + 2) mi ++ [.prog own,.jump pc])) := hc
  have c2 := hc'.tail.tail.left
  have c3 := hc'.tail.tail.right
  rw [comp_len] at c3
  have body : ∀ (p : Nat) (K μ : List Int) (N h : Nat) (on : Nat → List Int → Option Res),S.tx.length - p ≤ N → Inv S G O p K → mi + r.mk ≤ μ.length →
      (∀ y ∈ r.ways (MO S.f S.tx) S.f S.tx p K,p < y.1 → Hnd d B S a pc m μ y.1 y.2 (on y.1 y.2) h) →
      Hnd d B S a (pc + 1) m μ p K (firstOf (fun e K' => if p < e then on e K' else none) (r.ways (MO S.f S.tx) S.f S.tx p K)) (1 + (r.ca N * (h + 2) + r.cb N)) := fun p K μ N h on hN hi hm hy => by
    intro μ' g ss c' res z
    have hl : own < μ'.length := by rw [g.1]; fail "l"
    have part := h1 O (pc + 2) mi hg c2 p K (μ'.set own p) (fun e K' => if p < e then on e K' else none) (h + 2) N hi (by rw [List.length_set,g.1]; exact hm) hN fun y hy' => by
      have pr : S.rows[pc + 2 + r.len]? = some (.prog own) := c3.head
      have hq : ∀ μ'',Agree mi (μ'.set own p) μ'' → μ''[own]? = some (p : Int) := fun μ'' k => by rw [k.2 own m2]; exact lk_same hl
      by_cases hp : p < y.1
      · rw [if_pos hp]
        refine hnd_ok (x := h + 1) pr rfl (fun μ'' k => ask_prog (hq μ'' k) (by fail "l")) (hnd_jump c3.tail.head ?_)
        exact (hy y hy' hp).down (g.trans (Agree.set m1) (Nat.le_refl _)) (Nat.le_trans m1 (Nat.le_of_lt m2))
      · rw [if_neg hp]
        exact hnd_no pr rfl (fun μ'' k => ask_noprog (hq μ'' k) (by fail "l")) (Nat.le_add_left _ _)
    have mk := ends_ok (d := d) (B := B) (S := S) (a := a) hc'.tail.head rfl (ask_mark (p := p) (K := K) hl) (part _ Agree.refl ss c' res z)
    exact mk.mono (by fail "l")
  intro n
  induction n with
  | zero =>
    intro p K μ N hN hL hi hm hy
    have e : starW gr (r.ways (MO S.f S.tx) S.f S.tx) 0 p K = [(p,K)] := rfl
    rw [e] at hy ⊢
    rw [first_one]
    have hx := hy _ (.head _)
    have bd := body p K μ N 0 (fun Y Y => none) (by fail "l") hi hm fun y hy' hp => by
      obtain ⟨_,k,q⟩ := inv_of hg hi y hy'
      have := q.le
      fail "l"
    have no : firstOf (fun e K' => if p < e then none else none) (r.ways (MO S.f S.tx) S.f S.tx p K) = none := by
      generalize r.ways (MO S.f S.tx) S.f S.tx p K = ws
      induction ws with
      | nil => rfl
      | cons y ws ih => rw [firstOf,ih,ite_self]; rfl
    rw [no] at bd
    have le : x + (1 + (1 + (r.ca N * (0 + 2) + r.cb N))) ≤ sA r.ca N * x + sB r.ca r.cb N := star_le r.ca r.cb N x
    cases gr
    · have := hnd_split hc'.head hx bd
      rw [Option.or_none] at this
      exact this.mono (by fail "l")
    · have := hnd_split hc'.head bd hx
      rw [Option.none_or] at this
      exact this.mono (by fail "l")
  | succ n ih =>
    intro p K μ N hN hL hi hm hy
    obtain ⟨N,rfl⟩ : ∃ M,N = M + 1 := ⟨N - 1,by fail "l"⟩
    have hall : ∀ y,(y = (p,K) ∨ y ∈ (r.ways (MO S.f S.tx) S.f S.tx p K).flatMap fun y => if p < y.1 then starW gr (r.ways (MO S.f S.tx) S.f S.tx) n y.1 y.2 else []) → y ∈ starW gr (r.ways (MO S.f S.tx) S.f S.tx) (n + 1) p K := fun y h => by
      cases gr
      · exact List.mem_cons.mpr h
      · exact List.mem_append.mpr (h.symm.imp id fun e => by rw [e]; exact .head _)
    have hx := hy _ (hall _ (.inl rfl))
    have bd := body p K μ (N + 1) (sA r.ca N * x + sB r.ca r.cb N) (fun e K' => firstOf o (starW gr (r.ways (MO S.f S.tx) S.f S.tx) n e K')) (by fail "l") hi hm fun y hy' hp => by
      obtain ⟨_,q⟩ := inv_of hg hi y hy'
      exact ih y.1 y.2 μ N (by fail "l") (by fail "l") q hm fun z hz => hy z (hall z (.inr (List.mem_flatMap.mpr ⟨y,hy',by rw [if_pos hp]; exact hz⟩)))
    have ef : firstOf (fun e K' => if p < e then firstOf o (starW gr (r.ways (MO S.f S.tx) S.f S.tx) n e K') else none) (r.ways (MO S.f S.tx) S.f S.tx p K) = firstOf o ((r.ways (MO S.f S.tx) S.f S.tx p K).flatMap fun y => if p < y.1 then starW gr (r.ways (MO S.f S.tx) S.f S.tx) n y.1 y.2 else []) := by
      rw [first_bind]
      congr 1
      funext e K'
      by_cases hp : p < e
      · rw [if_pos hp,if_pos hp]
      · rw [if_neg hp,if_neg hp]; rfl
    rw [ef] at bd
    have le : x + (1 + (1 + (r.ca (N + 1) * (sA r.ca N * x + sB r.ca r.cb N + 2) + r.cb (N + 1)))) ≤ sA r.ca (N + 1) * x + sB r.ca r.cb (N + 1) := by
      show _ ≤ (1 + r.ca (N + 1) * sA r.ca N) * x + (2 + r.ca (N + 1) * (2 + sB r.ca r.cb N) + r.cb (N + 1))
      rw [Nat.add_mul,Nat.mul_assoc,Nat.mul_add,Nat.mul_add,Nat.mul_add]; fail "l"
    cases gr
    · have := hnd_split hc'.head hx bd
      refine this.mono ?_
      fail "l"
    · have := hnd_split hc'.head bd hx
      show Hnd d B S a pc m μ p K (firstOf o (_ ++ [(p,K)])) _
      rw [first_app,first_one]
      exact this.mono (by fail "l")
end
end
section
set_option maxHeartbeats 16000000
section
variable {d B : Nat} {S : Stat} {a : Adr} {G : Nat}
noncomputable abbrev Re.mw (S : Stat) (r : Re) : Nat → List Int → List (Nat × List Int) := r.ways (MO S.f S.tx) S.f S.tx
theorem seq_a {r : Re} (h1 : Ex d B S a G r) {O : List (Nat × Nat)} {pc m mb : Nat} (hg : Gok G (O.map (·.1)) r) (hc : CodeAt S.rows pc (r.comp S.f pc mb)) (hb : m ≤ mb) {p : Nat} {K μ : List Int} (F : Nat → List Int → Option Res) {h n : Nat} (hi : Inv S G O p K) (hm : mb + r.mk ≤ μ.length) (hn : S.tx.length - p ≤ n)
    (hy : ∀ y ∈ r.mw S p K,p ≤ y.1 → Inv S G O y.1 y.2 → Hnd d B S a (pc + r.len) m μ y.1 y.2 (F y.1 y.2) h) : Hnd d B S a pc m μ p K (firstOf F (r.mw S p K)) (r.ca n * h + r.cb n) := fun μ' g =>
  h1 O pc mb hg hc p K μ' F h n hi (by rw [g.1]; exact hm) hn (fun y hy' => (hy y hy' (inv_of hg hi y hy').1 (inv_of hg hi y hy').2).down g hb) μ' Agree.refl
theorem ex_often {k : Nat} {r : Re} (h1 : Ex d B S a G r) : Ex d B S a G (.often k r) := fun O pc m hg hc p K μ o x n hi hm hn h => by
  have hg' : Gok G (O.map (·.1)) r := hg
  cases k using nat6 with
  | a0 =>
    have hc' : CodeAt S.rows pc (loopR true pc m r.len (r.comp S.f (pc + 2) (m + 1))) := hc
    have hm' : m + (1 + r.mk) ≤ μ.length := hm
    exact ex_star h1 true O pc m m (m + 1) hg' hc' (Nat.le_refl _) (Nat.lt_succ_self _) o x _ p K μ n hn (Nat.le_refl _) hi (by lia) h
  | a3 =>
    have hc' : CodeAt S.rows pc (loopR false pc m r.len (r.comp S.f (pc + 2) (m + 1))) := hc
    have hm' : m + (1 + r.mk) ≤ μ.length := hm
    exact ex_star h1 false O pc m m (m + 1) hg' hc' (Nat.le_refl _) (Nat.lt_succ_self _) o x _ p K μ n hn (Nat.le_refl _) hi (by lia) h
  | a1 =>
    have hc' : CodeAt S.rows pc (r.comp S.f pc (m + 1) ++ loopR true (pc + r.len) m r.len (r.comp S.f (pc + r.len + 2) (m + 1 + r.mk))) := hc
    have hm' : m + (1 + (r.mk + r.mk)) ≤ μ.length := hm
    have hR := hc'.right
    rw [comp_len] at hR
    have key := seq_a h1 hg' hc'.left (Nat.le_succ m) (fun e K' => firstOf o (starW true (r.mw S) (S.tx.length - e) e K')) (h := sA r.ca n * x + sB r.ca r.cb n) hi (by lia) hn fun y hy hp q =>
      ex_star h1 true O (pc + r.len) m m (m + 1 + r.mk) hg' hR (Nat.le_refl _) (by lia) o x _ y.1 y.2 μ n (by lia) (Nat.le_refl _) q (by lia) fun z hz => by
        have := h z (List.mem_flatMap.mpr ⟨y,hy,hz⟩)
        rw [show pc + (Re.often 1 r).len = pc + r.len + r.len + 4 by show pc + (r.len + (r.len + 4)) = _; lia] at this
        exact this
    have e : firstOf o ((Re.often 1 r).mw S p K) = firstOf (fun e K' => firstOf o (starW true (r.mw S) (S.tx.length - e) e K')) (r.mw S p K) := first_bind o (fun y => starW true (r.mw S) (S.tx.length - y.1) y.1 y.2) _
    show Hnd d B S a pc m μ p K (firstOf o ((Re.often 1 r).mw S p K)) _
    rw [e]
    refine key.mono (Nat.le_of_eq ?_)
    show r.ca n * (sA r.ca n * x + sB r.ca r.cb n) + r.cb n = r.ca n * sA r.ca n * x + (r.ca n * sB r.ca r.cb n + r.cb n)
    rw [Nat.mul_add,Nat.mul_assoc,Nat.add_assoc]
  | a2 =>
    have hc' : CodeAt S.rows pc (.split (pc + 1) (pc + r.len + 1) :: r.comp S.f (pc + 1) m) := hc
    have hm' : m + r.mk ≤ μ.length := hm
    have hl : pc + (Re.often 2 r).len = pc + r.len + 1 := rfl
    rw [hl] at h
    have key := seq_a h1 hg' hc'.tail (Nat.le_refl m) o (h := x) hi hm' hn fun y hy Y Y => by
      rw [show pc + 1 + r.len = pc + r.len + 1 by lia]; exact h y (List.mem_append_left _ hy)
    have h2 := h (p,K) (List.mem_append_right _ (.head _))
    have e : firstOf o ((Re.often 2 r).mw S p K) = (firstOf o (r.mw S p K)).or (o p K) := by rw [← first_one o (p,K)]; exact first_app o _ _
    show Hnd d B S a pc m μ p K (firstOf o ((Re.often 2 r).mw S p K)) _
    rw [e]
    refine (hnd_split hc'.head key h2).mono ?_
    show 1 + (r.ca n * x + r.cb n) + x ≤ (r.ca n + 1) * x + (1 + r.cb n)
    rw [Nat.add_mul]; lia
  | a4 =>
    have hc' : CodeAt S.rows pc (r.comp S.f pc m ++ (.split (pc + r.len + 1) (pc + r.len + r.len + 1) :: r.comp S.f (pc + r.len + 1) (m + r.mk))) := hc
    have hm' : m + (r.mk + r.mk) ≤ μ.length := hm
    have hR := hc'.right
    rw [comp_len] at hR
    have hl : pc + (Re.often 4 r).len = pc + r.len + r.len + 1 := by show pc + (r.len + (r.len + 1)) = _; lia
    rw [hl] at h
    have key := seq_a (μ := μ) h1 hg' hc'.left (Nat.le_refl m) (fun e K' => (firstOf o (r.mw S e K')).or (o e K')) (h := 1 + (r.ca n * x + r.cb n) + x) hi (by lia) hn fun y hy hp q => by
      have k2 := seq_a h1 hg' hR.tail (Nat.le_add_right m r.mk) (p := y.1) (K := y.2) (μ := μ) o (h := x) (n := n) q (by lia) (by lia) fun z hz Y Y => by
        rw [show pc + r.len + 1 + r.len = pc + r.len + r.len + 1 by lia]
        exact h z (List.mem_flatMap.mpr ⟨y,hy,List.mem_append_left _ hz⟩)
      exact hnd_split hR.head k2 (h y (List.mem_flatMap.mpr ⟨y,hy,List.mem_append_right _ (.head _)⟩))
    have e : firstOf o ((Re.often 4 r).mw S p K) = firstOf (fun e K' => (firstOf o (r.mw S e K')).or (o e K')) (r.mw S p K) := by
      refine (first_bind o (fun y => r.mw S y.1 y.2 ++ [y]) _).trans ?_
      congr 1
      funext e K'
      rw [first_app,first_one]
    show Hnd d B S a pc m μ p K (firstOf o ((Re.often 4 r).mw S p K)) _
    rw [e]
    refine key.mono (Nat.le_of_eq ?_)
    show r.ca n * (1 + (r.ca n * x + r.cb n) + x) + r.cb n = r.ca n * (r.ca n + 1) * x + (r.ca n * (1 + r.cb n) + r.cb n)
    rw [show 1 + (r.ca n * x + r.cb n) + x = (r.ca n + 1) * x + (1 + r.cb n) by rw [Nat.add_mul]; lia,Nat.mul_add,Nat.mul_assoc,Nat.add_assoc]
  | a5 j =>
    have hc' : CodeAt S.rows pc (r.comp S.f pc (m + 1) ++ (r.comp S.f (pc + r.len) (m + 1 + r.mk) ++ loopR true (pc + r.len + r.len) m r.len (r.comp S.f (pc + r.len + r.len + 2) (m + 1 + r.mk + r.mk)))) := hc
    have hm' : m + (1 + (r.mk + (r.mk + r.mk))) ≤ μ.length := hm
    have hR := hc'.right
    rw [comp_len] at hR
    have hR2 := hR.right
    rw [comp_len] at hR2
    have hl : pc + (Re.often (j + 5) r).len = pc + r.len + r.len + r.len + 4 := by show pc + (r.len + (r.len + (r.len + 4))) = _; lia
    rw [hl] at h
    have key := seq_a h1 hg' hc'.left (Nat.le_succ m) (fun e K' => firstOf (fun e K' => firstOf o (starW true (r.mw S) (S.tx.length - e) e K')) (r.mw S e K')) (h := r.ca n * (sA r.ca n * x + sB r.ca r.cb n) + r.cb n) hi (by lia) hn fun y hy hp q =>
      seq_a h1 hg' hR.left (show m ≤ m + 1 + r.mk by lia) (fun e K' => firstOf o (starW true (r.mw S) (S.tx.length - e) e K')) (h := sA r.ca n * x + sB r.ca r.cb n) q (by lia) (by lia) fun z hz hp2 q2 =>
        ex_star h1 true O (pc + r.len + r.len) m m (m + 1 + r.mk + r.mk) hg' hR2 (Nat.le_refl _) (by lia) o x _ z.1 z.2 μ n (by lia) (Nat.le_refl _) q2 (by lia) fun v hv =>
          h v (List.mem_flatMap.mpr ⟨y,hy,List.mem_flatMap.mpr ⟨z,hz,hv⟩⟩)
    have e : firstOf o ((Re.often (j + 5) r).mw S p K) = firstOf (fun e K' => firstOf (fun e K' => firstOf o (starW true (r.mw S) (S.tx.length - e) e K')) (r.mw S e K')) (r.mw S p K) := by
      refine (first_bind o (fun y => (r.mw S y.1 y.2).flatMap fun z => starW true (r.mw S) (S.tx.length - z.1) z.1 z.2) _).trans ?_
      congr 1
      funext e K'
      exact first_bind o (fun z => starW true (r.mw S) (S.tx.length - z.1) z.1 z.2) _
    show Hnd d B S a pc m μ p K (firstOf o ((Re.often (j + 5) r).mw S p K)) _
    rw [e]
    refine key.mono (Nat.le_of_eq ?_)
    show r.ca n * (r.ca n * (sA r.ca n * x + sB r.ca r.cb n) + r.cb n) + r.cb n = r.ca n * (r.ca n * sA r.ca n) * x + (r.ca n * (r.ca n * sB r.ca r.cb n + r.cb n) + r.cb n)
    generalize sA r.ca n = s
    generalize sB r.ca r.cb n = t
    rw [Nat.mul_add (r.ca n) (s * x) t,Nat.add_assoc,Nat.mul_add,Nat.mul_assoc (r.ca n) (r.ca n * s) x,Nat.mul_assoc (r.ca n) s x,Nat.add_assoc]
theorem ex_all (h9 : G ≤ 9) (hL : S.tx.length ≤ 1000) : ∀ r : Re,Ex d B S a G r
  | .sign c => fun O pc m hg hc p K μ o x n hi hm hn h => ex_leaf (u := .char (foldN S.f c)) rfl (CodeAt.head hc) h
  | .any => fun O pc m hg hc p K μ o x n hi hm hn h => ex_leaf (u := .any) rfl (CodeAt.head hc) h
  | .ins => fun O pc m hg hc p K μ o x n hi hm hn h => ex_leaf (u := .ins) rfl (CodeAt.head hc) h
  | .out => fun O pc m hg hc p K μ o x n hi hm hn h => ex_leaf (u := .out) rfl (CodeAt.head hc) h
  | .again n => ex_again h9 hL
  | .either a b => ex_either (ex_all h9 hL a) (ex_all h9 hL b)
  | .group n a => ex_group (ex_all h9 hL a)
  | .both a b => ex_both (ex_all h9 hL a) (ex_all h9 hL b)
  | .often k a => ex_often (ex_all h9 hL a)
theorem run_ends (h9 : G ≤ 9) (hL : S.tx.length ≤ 1000) {r : Re} (hg : Gok G [] r) (hrows : S.rows = r.comp S.f 0 0 ++ [.done]) {p : Nat} {K μ : List Int} (hi : Inv S G [] p K) (hm : r.mk ≤ μ.length) {n : Nat} (hn : S.tx.length - p ≤ n) :
    Halts d B S a (r.ca n + r.cb n) 0 p K μ [] (r.mw S p K).head? := by
  have hc : CodeAt S.rows 0 (r.comp S.f 0 0 ++ [.done]) := fun i u e => by rw [Nat.zero_add,hrows]; exact e
  have hR := hc.right
  rw [comp_len] at hR
  have key := ex_all h9 hL r (d := d) (B := B) (a := a) [] 0 0 hg hc.left p K μ (fun e K' => some (e,K')) 1 n hi (by rw [Nat.zero_add]; exact hm) hn fun y hy μ' g ss c' res z => by
    have : res = some (y.1,y.2) := z
    subst this
    exact (ends_done hR.head).mono (by lia)
  have e : firstOf (fun e K' => some (e,K')) (r.mw S p K) = (r.mw S p K).head? := by
    cases r.mw S p K with
    | nil => rfl
    | cons y ws => rfl
  have := key μ Agree.refl [] 0 (r.mw S p K).head? (by
    show Out d B S a (firstOf _ (r.mw S p K)) _ _ _
    rw [e]
    cases (r.mw S p K).head? with
    | none => rfl
    | some R => rfl)
  exact this.mono (by lia)
end
end
section
set_option maxHeartbeats 8000000
noncomputable def Re.pv : Re → PV
  | .sign c => .tup [.str [115,105,103,110],.str [c]]
  | .any => .tup [.str [97,110,121],.str []]
  | .ins => .tup [.str [105,110],.str [97,98]]
  | .out => .tup [.str [111,117,116],.str [97]]
  | .again n => .tup [.str [97,103,97,105,110],.int n]
  | .either a b => .tup [.str [101,105,116,104,101,114],a.pv,b.pv]
  | .group n a => .tup [.str [103,114,111,117,112],.int n,a.pv]
  | .often k a => .tup [.str [111,102,116,101,110],.int (oft k).1,.int (oft k).2.1,.bool (oft k).2.2.1,a.pv]
  | .both a b => .tup [.str [98,111,116,104],a.pv,b.pv]
inductive Fits : Nat → Re → Prop
  | sign {D c} : Fits D (.sign c)
  | any {D} : Fits D .any
  | ins {D} : Fits D .ins
  | out {D} : Fits D .out
  | again {D n} : Fits D (.again n)
  | either {D a b} : Fits D a → Fits D b → Fits (D + 1) (.either a b)
  | group {D n a} : Fits D a → Fits (D + 1) (.group n a)
  | often {D k a} : Fits (D - 1) a → Fits (D + 1) (.often k a)
  | both {D a b} : Fits D a → Fits D b → Fits (D + 1) (.both a b)
noncomputable def H3 (cells : List PV) (k g : Nat) (cl : List Nat) : AH := [.list [.lst cells,.int k],.list (cl.map fun (n : Nat) => PV.int n),.list [.int g,.ref 1]]
theorem m_mod {H : AH} {a m : Int} (h : m ≠ 0) : abin .mod H (.int a) (.int m) = some (.int (Int.fmod a m)) := if_pos h
theorem m_mul {H : AH} {a m : Int} (h : m.natAbs < 1152921504606846976) : abin .mul H (.int a) (.int m) = some (.int (a * m)) := if_pos h
theorem c_draw (d : Nat) {cells : List PV} (hc : ∀ x ∈ cells,∃ i : Int,x = .int i) (hl : cells.length ≤ 1000) {k : Nat} (hk : k ≤ 1000) {m : Int} (hm : 0 < m) {H : AH} {r : Nat} (hr : H[r]? = some (.list [.lst cells,.int k])) :
    ∃ v : Int,0 ≤ v ∧ v < m ∧ acall text (d + 1) 62 [.ref r,.int m] H = some (.int v,H.set r (.list [.lst cells,.int (k + 1 : Nat)])) := by
  have hm0 : m ≠ 0 := by lia
  have s1 : asetidx H (.ref r) (.int 1) (.int ((k : Int) + 1)) = some (H.set r (.list [.lst cells,.int (k + 1 : Nat)])) := set_ref (i := 1) (j := 1) (v := .int ((k + 1 : Nat) : Int)) hr rfl
  have s2 : (H.set r (.list [.lst cells,.int (k + 1 : Nat)]))[r]? = some (.list [.lst cells,.int (k + 1 : Nat)]) := lk_same (lk_lt hr)
  generalize H.set r (.list [.lst cells,.int (k + 1 : Nat)]) = G at *
  by_cases h1 : k < cells.length
  · obtain ⟨i,hi⟩ := hc cells[k] (List.getElem_mem h1)
    refine ⟨Int.fmod i m,Int.fmod_nonneg_of_pos i hm,Int.fmod_lt_of_pos i hm,?_⟩
    have e2 : at? cells ((k + 1 : Nat) - 1 : Int) = some (.int i) := by
      rw [show ((k + 1 : Nat) - 1 : Int) = (k : Int) by lia]; exact at_int (by rw [List.getElem?_eq_getElem h1,hi])
    have e3 := m_mod (H := G) (a := i) hm0
    apply a_call (fd := f_law_draw) (b := b_law_draw) (l := [some (.ref r),some (.int m)]) rfl rfl rfl; delta b_law_draw
    repeat fail "ev"
  · have e2 := m_mod (H := G) (a := Int.fdiv ((k + 1 : Nat) * (k + 1 : Nat) * 37 + 23 * (k + 1 : Nat) + 7 * (cells.length : Int)) 5) hm0
    refine ⟨Int.fmod (Int.fdiv ((k + 1 : Nat) * (k + 1 : Nat) * 37 + 23 * (k + 1 : Nat) + 7 * (cells.length : Int)) 5) m,Int.fmod_nonneg_of_pos _ hm,Int.fmod_lt_of_pos _ hm,?_⟩
    have n1 := m_mul (H := G) (a := (k + 1 : Nat)) (m := (k + 1 : Nat)) (by lia)
    have n2 := m_mul (H := G) (a := 23) (m := (k + 1 : Nat)) (by lia)
    have n3 := m_mul (H := G) (a := 7) (m := (cells.length : Int)) (by lia)
    apply a_call (fd := f_law_draw) (b := b_law_draw) (l := [some (.ref r),some (.int m)]) rfl rfl rfl; delta b_law_draw
    repeat fail "ev"
end
section
set_option maxHeartbeats 8000000
section
variable {cells : List PV}
theorem draw3 (hc : ∀ x ∈ cells,∃ i : Int,x = .int i) (hl : cells.length ≤ 1000) (d : Nat) {k : Nat} (g : Nat) (cl : List Nat) (hk : k ≤ 1000) {m : Int} (hm : 0 < m) : ∃ v : Int,0 ≤ v ∧ v < m ∧ acall text (d + 1) 62 [.ref 0,.int m] (H3 cells k g cl) = some (.int v,H3 cells (k + 1) g cl) :=
  c_draw d hc hl hk hm rfl
theorem c_atom (hc : ∀ x ∈ cells,∃ i : Int,x = .int i) (hl : cells.length ≤ 1000) (d : Nat) {k : Nat} (g : Nat) (cl : List Nat) (hk : k ≤ 1000) : ∃ r,WF g cl r g cl ∧ (∀ D,Fits D r) ∧ acall text (d + 2) 63 [.ref 0] (H3 cells k g cl) = some (.tup [r.pv,.str r.pat],H3 cells (k + 1) g cl) := by
  obtain ⟨v,h0,h1,e⟩ := draw3 hc hl d g cl hk (m := 6) (by decide)
  have z : ∃ r,WF g cl r g cl ∧ (∀ D,Fits D r) ∧ ((∃ c,r = .sign c ∧ at? [97,98,65] v = some c ∧ v < 3) ∨ (r = .any ∧ v = 3) ∨ (r = .ins ∧ v = 4) ∨ (r = .out ∧ v = 5)) := by
    have : v = 0 ∨ v = 1 ∨ v = 2 ∨ v = 3 ∨ v = 4 ∨ v = 5 := by fail "l"
    rcases this with rfl | rfl | rfl | rfl | rfl | rfl
    · exact ⟨_,.sign (.inl rfl),fun Y => .sign,.inl ⟨97,rfl,rfl,by decide⟩⟩
    · exact ⟨_,.sign (.inr (.inl rfl)),fun Y => .sign,.inl ⟨98,rfl,rfl,by decide⟩⟩
    · exact ⟨_,.sign (.inr (.inr rfl)),fun Y => .sign,.inl ⟨65,rfl,rfl,by decide⟩⟩
    · exact ⟨_,.any,fun Y => .any,.inr (.inl ⟨rfl,rfl⟩)⟩
    · exact ⟨_,.ins,fun Y => .ins,.inr (.inr (.inl ⟨rfl,rfl⟩))⟩
    · exact ⟨_,.out,fun Y => .out,.inr (.inr (.inr ⟨rfl,rfl⟩))⟩
  obtain ⟨r,w,f,z⟩ := z
  refine ⟨r,w,f,?_⟩
  generalize H3 cells k g cl = G at *
  generalize H3 cells (k + 1) g cl = G' at *
  rcases z with ⟨c,rfl,z1,z2⟩ | ⟨rfl,rfl⟩ | ⟨rfl,rfl⟩ | ⟨rfl,rfl⟩
  · have e2 : aidx G' (.str [97,98,65]) (.int v) = some (.str [c]) := by show (at? [97,98,65] v).map _ = _; rw [z1]; rfl
    apply a_call (fd := f_law_atom) (b := b_law_atom) (l := [some (.ref 0),none,none]) rfl rfl rfl; delta b_law_atom
    repeat fail "ev"
  · apply a_call (fd := f_law_atom) (b := b_law_atom) (l := [some (.ref 0),none,none]) rfl rfl rfl; delta b_law_atom
    repeat fail "ev"
  · apply a_call (fd := f_law_atom) (b := b_law_atom) (l := [some (.ref 0),none,none]) rfl rfl rfl; delta b_law_atom
    repeat fail "ev"
  · apply a_call (fd := f_law_atom) (b := b_law_atom) (l := [some (.ref 0),none,none]) rfl rfl rfl; delta b_law_atom
    repeat fail "ev"
theorem Fits.len {D : Nat} {r : Re} (f : Fits D r) : r.pat.length + 8 ≤ 16 * 2 ^ D := by
  have pos : ∀ D,0 < 2 ^ D := fun D => Nat.pow_pos (by decide)
  have sm : ∀ D n : Nat,n ≤ 4 → n + 8 ≤ 16 * 2 ^ D := fun D n h => by have := pos D; fail "l"
  have two : ∀ D,2 ^ (D + 1) = 2 * 2 ^ D := fun D => by rw [Nat.pow_succ,Nat.mul_comm]
  induction f with
  | @sign D c => exact sm D 1 (by decide)
  | @any D => exact sm D 1 (by decide)
  | @ins D => exact sm D 4 (by decide)
  | @out D => exact sm D 4 (by decide)
  | @again D n => exact sm D 2 (by decide)
  | @either D a b _ _ h1 h2 =>
    have e : (Re.either a b).pat.length = 4 + (a.pat.length + (2 + (b.pat.length + 2))) := by show ([92,40,63,58] ++ (a.pat ++ ([92,124] ++ (b.pat ++ [92,41])))).length = _; rw [List.length_append,List.length_append,List.length_append,List.length_append]; rfl
    rw [e,two]; fail "l"
  | @group D n a _ h1 =>
    have e : (Re.group n a).pat.length = 2 + (a.pat.length + 2) := by show ([92,40] ++ (a.pat ++ [92,41])).length = _; rw [List.length_append,List.length_append]; rfl
    rw [e,two]; fail "l"
  | @often D k a _ h1 =>
    have e : (Re.often k a).pat.length = 4 + (a.pat.length + (2 + (oft k).2.2.2.length)) := by show ([92,40,63,58] ++ (a.pat ++ ([92,41] ++ (oft k).2.2.2))).length = _; rw [List.length_append,List.length_append,List.length_append]; rfl
    have h3 : (oft k).2.2.2.length ≤ 7 := by unfold oft; split <;> decide
    have h4 : 2 ^ (D - 1) ≤ 2 ^ D := Nat.pow_le_pow_right (by decide) (Nat.sub_le _ _)
    rw [e,two]; have := pos D; fail "l"
  | @both D a b _ _ h1 h2 =>
    have e : (Re.both a b).pat.length = a.pat.length + b.pat.length := by exact List.length_append
    rw [e,two]; fail "l"
end
end
section
set_option maxHeartbeats 16000000
section
variable {cells : List PV}
noncomputable def NodeOk (cells : List PV) (D G : Nat) : Prop := ∀ (M k g : Nat) (cl : List Nat),D + 3 ≤ M → (∀ n ∈ cl,n ≤ g) → cl.length ≤ g → g + G ≤ 10 → k + 2 * G ≤ 1000 → ∀ P : Prop,
  (∀ r k' g' cl',WF g cl r g' cl' → Fits D r → g' + 1 ≤ g + G → k' + 1 ≤ k + 2 * G → (∀ n ∈ cl',n ≤ g') → g ≤ g' → cl'.length + g ≤ g' + cl.length →
    acall text M 64 [.ref 0,.int D,.ref 2] (H3 cells k g cl) = some (.tup [r.pv,.str r.pat],H3 cells k' g' cl') → P) → P
theorem node_zero (hc : ∀ x ∈ cells,∃ i : Int,x = .int i) (hl : cells.length ≤ 1000) : NodeOk cells 0 1 := by
  intro M k g cl hM hcl hcn hg hk P q
  obtain ⟨M,rfl⟩ : ∃ m,M = m + 3 := ⟨M - 3,by lia⟩
  obtain ⟨r,w,dp,e⟩ := c_atom hc hl M (k := k) g cl (by lia)
  refine q r (k + 1) g cl w (dp 0) (by lia) (by lia) hcl (Nat.le_refl _) (by lia) ?_
  clear q
  generalize H3 cells k g cl = G at *
  apply a_call (fd := f_law_node) (b := b_law_node) (l := [some (.ref 0),some (.int ((0 : Nat) : Int)),some (.ref 2),none,none,none,none,none,none,none,none,none]) rfl rfl rfl; delta b_law_node
  repeat fail "ev"
theorem node_succ (hc : ∀ x ∈ cells,∃ i : Int,x = .int i) (hl : cells.length ≤ 1000) (D G G' : Nat) (hD : D ≤ 2) (p0 : 0 < G) (p3 : G' ≤ G) (ih : NodeOk cells D G) (ih2 : NodeOk cells (D - 1) G') : NodeOk cells (D + 1) (2 * G) := by
  intro M k g cl hM hcl hcn hg hk P q
  obtain ⟨M,rfl⟩ : ∃ m,M = (m + 1) + 1 + 1 := ⟨M - 3,by lia⟩
  have sml : ∀ E,E ≤ D → ∀ r : Re,Fits E r → r.pat.length ≤ 120 := fun E hE r h => by
    have h1 := h.len
    have h2 : 2 ^ E ≤ 2 ^ 2 := Nat.pow_le_pow_right (by decide) (by lia)
    lia
  have lm : lim = 1000000 := rfl
  obtain ⟨v,h0,h1,e⟩ := draw3 hc hl (M + 1) g cl (k := k) (by lia) (m := 8) (by decide)
  have : v = 0 ∨ v = 1 ∨ v = 2 ∨ v = 3 ∨ (4 ≤ v ∧ v ≤ 5) ∨ (6 ≤ v ∧ v ≤ 7) := by lia
  have q1 : (((D + 1 : Nat) : Int) - 1) = (D : Nat) := by lia
  have q2 : max (((D + 1 : Nat) : Int) - 2) 0 = ((D - 1 : Nat) : Int) := by lia
  rcases this with rfl | rfl | rfl | rfl | hv | hv
  · obtain ⟨r,w,dp,e2⟩ := c_atom hc hl M (k := k + 1) g cl (by lia)
    refine q r (k + 1 + 1) g cl w (dp _) (by lia) (by lia) hcl (Nat.le_refl _) (by lia) ?_
    apply a_call (fd := f_law_node) (b := b_law_node) (l := [some (.ref 0),some (.int ((D + 1 : Nat) : Int)),some (.ref 2),none,none,none,none,none,none,none,none,none]) rfl rfl rfl; delta b_law_node
    repeat fail "ev"
  · cases cl with
    | nil =>
      obtain ⟨r,w,dp,e2⟩ := c_atom hc hl M (k := k + 1) g [] (by lia)
      refine q r (k + 1 + 1) g ([]) w (dp _) (by lia) (by lia) hcl (Nat.le_refl _) (by lia) ?_
      have e3 : acmp .ne (H3 cells (k + 1) g []) (.ref 1) (.lst []) = some false := rfl
      apply a_call (fd := f_law_node) (b := b_law_node) (l := [some (.ref 0),some (.int ((D + 1 : Nat) : Int)),some (.ref 2),none,none,none,none,none,none,none,none,none]) rfl rfl rfl; delta b_law_node
      repeat fail "ev"
    | cons c cl =>
      obtain ⟨u,u0,u1,e2⟩ := draw3 hc hl (M + 1) g (c :: cl) (k := k + 1) (by lia) (m := ((c :: cl).length : Nat)) (by rw [List.length_cons]; lia)
      obtain ⟨j,rfl⟩ := Int.eq_ofNat_of_zero_le u0
      have hj : j < (c :: cl).length := Int.ofNat_lt.mp u1
      obtain ⟨n,hn⟩ : ∃ n,(c :: cl)[j]? = some n := ⟨_,List.getElem?_eq_getElem hj⟩
      have hmem := List.mem_of_getElem? hn
      have hng := hcl n hmem
      refine q (.again n) (k + 1 + 1) g (c :: cl) (.again hmem) .again (by lia) (by lia) hcl (Nat.le_refl _) (by lia) ?_
      have e3 : aidx (H3 cells (k + 1 + 1) g (c :: cl)) (.ref 1) (.int j) = some (.int n) := idx_ref (xs := (c :: cl).map fun (n : Nat) => PV.int n) rfl (at_int (by rw [List.getElem?_map,hn]; rfl))
      have e4 : acmp .ne (H3 cells (k + 1) g (c :: cl)) (.ref 1) (.lst []) = some true := rfl
      have e5 : abi .len (H3 cells (k + 1) g (c :: cl)) [.ref 1] = some (.int ((c :: cl).length : Nat)) := by
        rw [len_ref (xs := (c :: cl).map fun (n : Nat) => PV.int n) rfl,List.length_map]
      have e6 : abi .str (H3 cells (k + 1 + 1) g (c :: cl)) [.int n] = some (.str [48 + n]) := by
        rw [str_i (by lia)]; rfl
      have e7 : abin .add (H3 cells (k + 1 + 1) g (c :: cl)) (.str [92]) (.str [48 + n]) = some (.str (Re.again n).pat) := rfl
      generalize (c :: cl).length = L at *
      apply a_call (fd := f_law_node) (b := b_law_node) (l := [some (.ref 0),some (.int ((D + 1 : Nat) : Int)),some (.ref 2),none,none,none,none,none,none,none,none,none]) rfl rfl rfl; delta b_law_node
      repeat fail "ev"
  · refine ih (M + 1 + 1) (k + 1) g cl (by lia) hcl hcn (by lia) (by lia) P fun r1 k1 g1 cl1 w1 dp1 gb1 kb1 hcl1 gg1 cn1 e1 => ?_
    refine ih (M + 1 + 1) k1 g1 cl1 (by lia) hcl1 (by lia) (by lia) (by lia) P fun r2 k2 g2 cl2 w2 dp2 gb2 kb2 hcl2 gg2 cn2 e2 => ?_
    have s1 := sml D (Nat.le_refl _) r1 dp1
    have s2 := sml D (Nat.le_refl _) r2 dp2
    refine q (.either r1 r2) k2 g2 cl2 (.either w1 w2) (.either dp1 dp2) (by lia) (by lia) hcl2 (by lia) (by lia) ?_
    have f1 := add_str (H := H3 cells k2 g2 cl2) (x := [92,40,63,58]) (y := r1.pat) (by show 4 + _ ≤ _; lia)
    have f2 := add_str (H := H3 cells k2 g2 cl2) (x := [92,40,63,58] ++ r1.pat) (y := [92,124]) (by rw [List.length_append]; show 4 + _ + 2 ≤ _; lia)
    have f3 := add_str (H := H3 cells k2 g2 cl2) (x := [92,40,63,58] ++ r1.pat ++ [92,124]) (y := r2.pat) (by rw [List.length_append,List.length_append]; show 4 + _ + 2 + _ ≤ _; lia)
    have f4 : abin .add (H3 cells k2 g2 cl2) (.str ([92,40,63,58] ++ r1.pat ++ [92,124] ++ r2.pat)) (.str [92,41]) = some (.str (Re.either r1 r2).pat) := by
      rw [add_str (by rw [List.length_append,List.length_append,List.length_append]; show 4 + _ + 2 + _ + 2 ≤ _; lia),List.append_assoc,List.append_assoc,List.append_assoc]; rfl
    apply a_call (fd := f_law_node) (b := b_law_node) (l := [some (.ref 0),some (.int ((D + 1 : Nat) : Int)),some (.ref 2),none,none,none,none,none,none,none,none,none]) rfl rfl rfl; delta b_law_node
    repeat (first | rw [q1] | fail "ev")
  · refine ih (M + 1 + 1) (k + 1) (g + 1) cl (by lia) (fun n hn => Nat.le_succ_of_le (hcl n hn)) (by lia) (by lia) (by lia) P fun r1 k1 g1 cl1 w1 dp1 gb1 kb1 hcl1 gg1 cn1 e1 => ?_
    have s1 := sml D (Nat.le_refl _) r1 dp1
    refine q (.group (g + 1) r1) k1 g1 (cl1 ++ [g + 1]) (.group w1) (.group dp1) (by lia) (by lia) (fun n hn => ?_) (by lia) (by rw [List.length_append]; show _ + 1 + _ ≤ _; lia) ?_
    · rcases List.mem_append.mp hn with hn | hn
      · exact hcl1 n hn
      · rw [List.mem_singleton.mp hn]; exact gg1
    have t1 : asetidx (H3 cells (k + 1) g cl) (.ref 2) (.int 0) (.int ((g : Int) + 1)) = some (H3 cells (k + 1) (g + 1) cl) := rfl
    have t2 : (H3 cells k1 g1 cl1).set 1 (.list ((cl1.map fun (n : Nat) => PV.int n) ++ [.int ((g + 1 : Nat) : Int)])) = H3 cells k1 g1 (cl1 ++ [g + 1]) := by unfold H3; rw [List.map_append]; rfl
    have c1 : (cl1.map fun (n : Nat) => PV.int n).length < lim := by rw [List.length_map]; lia
    have c2 : (H3 cells k1 g1 cl1)[1]? = some (.list (cl1.map fun (n : Nat) => PV.int n)) := rfl
    have f1 := add_str (H := H3 cells k1 g1 (cl1 ++ [g + 1])) (x := [92,40]) (y := r1.pat) (by show 2 + _ ≤ _; lia)
    have f2 : abin .add (H3 cells k1 g1 (cl1 ++ [g + 1])) (.str ([92,40] ++ r1.pat)) (.str [92,41]) = some (.str (Re.group (g + 1) r1).pat) := by
      rw [add_str (by rw [List.length_append]; show 2 + _ + 2 ≤ _; lia),List.append_assoc]; rfl
    apply a_call (fd := f_law_node) (b := b_law_node) (l := [some (.ref 0),some (.int ((D + 1 : Nat) : Int)),some (.ref 2),none,none,none,none,none,none,none,none,none]) rfl rfl rfl; delta b_law_node
    repeat (first | rw [q1] | fail "ev")
  · refine ih2 (M + 1 + 1) (k + 1) g cl (by lia) hcl hcn (by lia) (by lia) P fun r1 k1 g1 cl1 w1 dp1 gb1 kb1 hcl1 gg1 cn1 e1 => ?_
    have s1 := sml (D - 1) (Nat.sub_le _ _) r1 dp1
    obtain ⟨u,u0,u1,e2⟩ := draw3 hc hl (M + 1) g1 cl1 (k := k1) (by lia) (m := 6) (by decide)
    obtain ⟨j,rfl⟩ := Int.eq_ofNat_of_zero_le u0
    have hj : j < 6 := by lia
    refine q (.often j r1) (k1 + 1) g1 cl1 (.often hj w1) (.often dp1) (by lia) (by lia) hcl1 (by lia) (by lia) ?_
    have f0 : ∀ x : List Nat,x.length ≤ 7 → ((([92,40,63,58] : List Nat) ++ r1.pat ++ [92,41]).length + x.length ≤ lim) := fun x h => by rw [List.length_append,List.length_append]; show 4 + _ + 2 + _ ≤ _; lia
    have f1 := add_str (H := H3 cells (k1 + 1) g1 cl1) (x := [92,40,63,58]) (y := r1.pat) (by show 4 + _ ≤ _; lia)
    have f2 := add_str (H := H3 cells (k1 + 1) g1 cl1) (x := [92,40,63,58] ++ r1.pat) (y := [92,41]) (by rw [List.length_append]; show 4 + _ + 2 ≤ _; lia)
    have f3 : abin .add (H3 cells (k1 + 1) g1 cl1) (.str ([92,40,63,58] ++ r1.pat ++ [92,41])) (.str (oft j).2.2.2) = some (.str (Re.often j r1).pat) := by
      have h3 : (oft j).2.2.2.length ≤ 7 := by unfold oft; split <;> decide
      rw [add_str (f0 _ h3),List.append_assoc,List.append_assoc]; rfl
    have f4 : aidx (H3 cells (k1 + 1) g1 cl1) (.lst [.tup [.int 0,.int (-1),.bool true,.str [42]],.tup [.int 1,.int (-1),.bool true,.str [43]],.tup [.int 0,.int 1,.bool true,.str [63]],.tup [.int 0,.int (-1),.bool false,.str [42,63]],.tup [.int 1,.int 2,.bool true,.str [92,123,49,44,50,92,125]],.tup [.int 2,.int (-1),.bool true,.str [92,123,50,44,92,125]]]) (.int j) = some (.tup [.int (oft j).1,.int (oft j).2.1,.bool (oft j).2.2.1,.str (oft j).2.2.2]) := by
      cases j,hj using six with
      | a0 => rfl
      | a1 => rfl
      | a2 => rfl
      | a3 => rfl
      | a4 => rfl
      | a5 => rfl
    generalize hq : oft j = q at *
    have f5 : (Re.often j r1).pv = .tup [.str [111,102,116,101,110],.int q.1,.int q.2.1,.bool q.2.2.1,r1.pv] := by rw [← hq]; rfl
    rw [f5]
    obtain ⟨q1',q2',q3',q4'⟩ := q
    apply a_call (fd := f_law_node) (b := b_law_node) (l := [some (.ref 0),some (.int ((D + 1 : Nat) : Int)),some (.ref 2),none,none,none,none,none,none,none,none,none]) rfl rfl rfl; delta b_law_node
    repeat (first | rw [q2] | fail "ev")
  · refine ih (M + 1 + 1) (k + 1) g cl (by lia) hcl hcn (by lia) (by lia) P fun r1 k1 g1 cl1 w1 dp1 gb1 kb1 hcl1 gg1 cn1 e1 => ?_
    refine ih (M + 1 + 1) k1 g1 cl1 (by lia) hcl1 (by lia) (by lia) (by lia) P fun r2 k2 g2 cl2 w2 dp2 gb2 kb2 hcl2 gg2 cn2 e2 => ?_
    have s1 := sml D (Nat.le_refl _) r1 dp1
    have s2 := sml D (Nat.le_refl _) r2 dp2
    refine q (.both r1 r2) k2 g2 cl2 (.both w1 w2) (.both dp1 dp2) (by lia) (by lia) hcl2 (by lia) (by lia) ?_
    have f1 : abin .add (H3 cells k2 g2 cl2) (.str r1.pat) (.str r2.pat) = some (.str (Re.both r1 r2).pat) := add_str (by lia)
    apply a_call (fd := f_law_node) (b := b_law_node) (l := [some (.ref 0),some (.int ((D + 1 : Nat) : Int)),some (.ref 2),none,none,none,none,none,none,none,none,none]) rfl rfl rfl; delta b_law_node
    repeat (first | rw [q1] | fail "ev")
theorem node3 (hc : ∀ x ∈ cells,∃ i : Int,x = .int i) (hl : cells.length ≤ 1000) : NodeOk cells 3 8 := by
  have n0 := node_zero hc hl
  have n1 := node_succ hc hl 0 1 1 (by decide) (by decide) (by decide) n0 n0
  have n2 := node_succ hc hl 1 2 1 (by decide) (by decide) (by decide) n1 n0
  exact node_succ hc hl 2 4 2 (by decide) (by decide) (by decide) n2 n1
end
end
section
set_option maxHeartbeats 16000000
theorem c_like (d : Nat) (f : Bool) {a b : Nat} (ha : Sg a) (hb : Sg b) (H : AH) : acall text (d + 1) 65 [.str [a],.str [b],.bool f] H = some (.bool (eqT f a b),H) := by
  rcases ha with rfl | rfl | rfl | rfl <;> rcases hb with rfl | rfl | rfl | rfl <;> cases f <;> kernel_rfl
theorem c_takes_sign (d : Nat) (f : Bool) {c x : Nat} (hc : c = 97 ∨ c = 98 ∨ c = 65) (hx : Sg x) (H : AH) : acall text (d + 2) 66 [(Re.sign c).pv,.str [x],.bool f] H = some (.bool ((Row.char (foldN f c)).takes f x),H) := by
  rcases hc with rfl | rfl | rfl <;> rcases hx with rfl | rfl | rfl | rfl <;> cases f <;> kernel_rfl
theorem c_takes_any (d : Nat) (f : Bool) {x : Nat} (hx : Sg x) (H : AH) : acall text (d + 2) 66 [Re.any.pv,.str [x],.bool f] H = some (.bool (Row.any.takes f x),H) := by
  rcases hx with rfl | rfl | rfl | rfl <;> cases f <;> kernel_rfl
theorem c_takes_ins (d : Nat) (f : Bool) {x : Nat} (hx : Sg x) (H : AH) : acall text (d + 2) 66 [Re.ins.pv,.str [x],.bool f] H = some (.bool (Row.ins.takes f x),H) := by
  rcases hx with rfl | rfl | rfl | rfl <;> cases f <;> kernel_rfl
theorem c_takes_out (d : Nat) (f : Bool) {x : Nat} (hx : Sg x) (H : AH) : acall text (d + 2) 66 [Re.out.pv,.str [x],.bool f] H = some (.bool (Row.out.takes f x),H) := by
  rcases hx with rfl | rfl | rfl | rfl <;> cases f <;> kernel_rfl
end
section
set_option maxHeartbeats 16000000
noncomputable def spPV : Option (Nat × Nat) → PV
  | none => .none
  | some s => .tup [.int s.1,.int s.2]
noncomputable def kPV (k : Kept) : PV := .tup (k.map spPV)
noncomputable def wPV (y : Nat × Kept) : PV := .tup [.int y.1,kPV y.2]
noncomputable abbrev WC (d : Nat) (f : Bool) (tx : List Nat) (n : PV) (H : AH) (p : Nat) (k : Kept) (ws : List (Nat × Kept)) : Prop := acall text d 67 [n,.str tx,.int p,kPV k,.bool f] H = some (.lst (ws.map wPV),H)
section
variable {f : Bool} {tx : List Nat} {H : AH} {p : Nat} {k : Kept}
theorem c_w_leaf (d : Nat) {r : Re} {u : Row} {w : List Nat} {y : PV} (hr : r.pv = .tup [.str w,y]) (hw : acmp .mem H (.str w) (.tup [(.str [115,105,103,110]),(.str [97,110,121]),(.str [105,110]),(.str [111,117,116])]) = some true)
    (ht : ∀ x,Sg x → acall text (d + 2) 66 [r.pv,.str [x],.bool f] H = some (.bool (u.takes f x),H)) (hs : ∀ x ∈ tx,Sg x) : WC (d + 3) f tx r.pv H p k (leafW u f tx p k) := by
  unfold WC leafW
  rw [hr] at ht ⊢
  cases hp : tx[p]? with
  | none =>
    have h1 : tx.length ≤ p := List.getElem?_eq_none_iff.mp hp
    apply a_call (fd := f_law_ways) (b := b_law_ways) (l := [some (.tup [.str w,y]),some (.str tx),some (.int p),some (kPV k),some (.bool f),none,none,none,none,none,none,none,none,none,none,none,none,none]) rfl rfl rfl; delta b_law_ways
    repeat fail "ev"
  | some x =>
    have h1 := lk_lt hp
    have h2 := ht x (hs x (List.mem_of_getElem? hp))
    clear ht
    have h3 : aidx H (.str tx) (.int p) = some (.str [x]) := by show (at? tx (p : Int)).map _ = _; rw [at_int hp]; rfl
    dsimp only
    generalize u.takes f x = b at h2 ⊢
    cases b
    · apply a_call (fd := f_law_ways) (b := b_law_ways) (l := [some (.tup [.str w,y]),some (.str tx),some (.int p),some (kPV k),some (.bool f),none,none,none,none,none,none,none,none,none,none,none,none,none]) rfl rfl rfl; delta b_law_ways
      repeat fail "ev"
    · apply a_call (fd := f_law_ways) (b := b_law_ways) (l := [some (.tup [.str w,y]),some (.str tx),some (.int p),some (kPV k),some (.bool f),none,none,none,none,none,none,none,none,none,none,none,none,none]) rfl rfl rfl; delta b_law_ways
      repeat fail "ev"
theorem c_w_either (d : Nat) {a b : Re} {w1 w2 : List (Nat × Kept)} (h1 : WC d f tx a.pv H p k w1) (h2 : WC d f tx b.pv H p k w2) (hl : w1.length + w2.length ≤ lim) : WC (d + 1) f tx (Re.either a b).pv H p k (w1 ++ w2) := by
  unfold WC at *
  have e := add_lst (H := H) (x := w1.map wPV) (y := w2.map wPV) (by rw [List.length_map,List.length_map]; exact hl)
  rw [← List.map_append] at e
  apply a_call (fd := f_law_ways) (b := b_law_ways) (l := [some ((Re.either a b).pv),some (.str tx),some (.int p),some (kPV k),some (.bool f),none,none,none,none,none,none,none,none,none,none,none,none,none]) rfl rfl rfl; delta b_law_ways
  repeat fail "ev"
theorem slice_pre {xs : List PV} {n : Nat} (h : n ≤ xs.length) : aslice (.tup xs) .none (.int (n : Int)) = some (.tup (xs.take n)) := by
  show some (PV.tup ((xs.drop 0).take (clamp xs.length (n : Int) - 0))) = _
  have : clamp xs.length (n : Int) = n := by show (if (0 : Int) ≤ n then min ((n : Int)).toNat xs.length else _) = n; rw [if_pos (by fail "l")]; exact Nat.min_eq_left h
  rw [this]; rfl
theorem slice_post {xs : List PV} {n : Nat} (h : n ≤ xs.length) : aslice (.tup xs) (.int (n : Int)) .none = some (.tup (xs.drop n)) := by
  show some (PV.tup ((xs.drop (clamp xs.length (n : Int))).take (xs.length - clamp xs.length (n : Int)))) = _
  have : clamp xs.length (n : Int) = n := by show (if (0 : Int) ≤ n then min ((n : Int)).toNat xs.length else _) = n; rw [if_pos (by fail "l")]; exact Nat.min_eq_left h
  rw [this,List.take_of_length_le (by rw [List.length_drop]; exact Nat.le_refl _)]
theorem set_parts {k : Kept} {n : Nat} (v : Option (Nat × Nat)) (h : n < k.length) : ((k.map spPV).take n ++ [spPV v]) ++ (k.map spPV).drop (n + 1) = (k.set n v).map spPV := by
  rw [List.set_eq_take_append_cons_drop,if_pos h,List.map_append,List.map_cons,List.map_take,List.map_drop,List.append_assoc]; rfl
theorem c_group_items (cf : CF) (n p : Nat) (hn : 1 ≤ n) (l : Loc) (hl : 17 < l.length) (h2 : l[2]? = some (some (.int p))) (h11 : l[11]? = some (some (.int n))) : ∀ ws : List (Nat × Kept),(∀ y ∈ ws,n ≤ y.2.length ∧ y.2.length ≤ 100) →
    compV (citem text cf (.tup [(.loc 16),(.bin .add (.bin .add (.slice (.loc 17) .none (.bin .sub (.loc 11) (.int 1))) (.tup [(.tup [(.loc 2),(.loc 16)])])) (.slice (.loc 17) (.loc 11) .none))]) (.tup [(.loc 16),(.loc 17)]) (.bool true) l) (ws.map wPV) H = some ((ws.map fun y => (y.1,y.2.set (n - 1) (some (p,y.1)))).map wPV,H)
  | [],_ => rfl
  | y :: ws,h => by
    obtain ⟨y1,y2⟩ := y
    have hy : n ≤ y2.length ∧ y2.length ≤ 100 := h (y1,y2) (.head _)
    have l16 : ((l.set 16 (some (.int y1))).set 17 (some (kPV y2)))[16]? = some (some (.int y1)) := lk_ne (by decide) (lk_same (by fail "l"))
    have l17 : ((l.set 16 (some (.int y1))).set 17 (some (kPV y2)))[17]? = some (some (kPV y2)) := lk_same (by rw [List.length_set]; exact hl)
    have l2 : ((l.set 16 (some (.int y1))).set 17 (some (kPV y2)))[2]? = some (some (.int p)) := lk_ne (by decide) (lk_ne (by decide) h2)
    have l11 : ((l.set 16 (some (.int y1))).set 17 (some (kPV y2)))[11]? = some (some (.int n)) := lk_ne (by decide) (lk_ne (by decide) h11)
    have t16 : aassign text cf (.loc 16) (.int y1) l H = some (l.set 16 (some (.int y1)),H) := t_loc (by fail "l")
    have t17 : aassign text cf (.loc 17) (kPV y2) (l.set 16 (some (.int y1))) H = some ((l.set 16 (some (.int y1))).set 17 (some (kPV y2)),H) := t_loc (by rw [List.length_set]; exact hl)
    have hle : (y2.map spPV).length = y2.length := List.length_map ..
    have q0 : ((n : Int) - 1) = ((n - 1 : Nat) : Int) := by fail "l"
    have q1 : aslice (kPV y2) .none (.int ((n : Int) - 1)) = some (.tup ((y2.map spPV).take (n - 1))) := by rw [q0]; exact slice_pre (by rw [hle]; fail "l")
    have q2 : aslice (kPV y2) (.int n) .none = some (.tup ((y2.map spPV).drop n)) := slice_post (by rw [hle]; fail "l")
    have q3 := add_tup (H := H) (x := (y2.map spPV).take (n - 1)) (y := [.tup [.int p,.int y1]]) (by show _ + 1 ≤ 1000000; rw [List.length_take]; fail "l")
    have q4 : abin .add H (.tup ((y2.map spPV).take (n - 1) ++ [.tup [.int p,.int y1]])) (.tup ((y2.map spPV).drop n)) = some (kPV (y2.set (n - 1) (some (p,y1)))) := by
      rw [add_tup (by show _ ≤ 1000000; rw [List.length_append,List.length_take,List.length_drop]; show _ + 1 + _ ≤ _; fail "l")]
      have := set_parts (k := y2) (n := n - 1) (some (p,y1)) (by fail "l")
      rw [show n - 1 + 1 = n by fail "l"] at this
      exact congrArg (fun z => some (PV.tup z)) this
    have he : aeval text cf (.tup [(.loc 16),(.bin .add (.bin .add (.slice (.loc 17) .none (.bin .sub (.loc 11) (.int 1))) (.tup [(.tup [(.loc 2),(.loc 16)])])) (.slice (.loc 17) (.loc 11) .none))]) ((l.set 16 (some (.int y1))).set 17 (some (kPV y2))) H = some (wPV (y1,y2.set (n - 1) (some (p,y1))),H) := by
      clear t16 t17 h2 h11
      unfold wPV
      generalize (l.set 16 (some (.int y1))).set 17 (some (kPV y2)) = l' at *
      repeat fail "ev"
    have step := ci_some (t_tup (ts_cons t16 (ts_cons t17 ts_nil))) e_bool he
    exact cv_some step (c_group_items cf n p hn l hl h2 h11 ws fun y hy => h y (.tail _ hy))
theorem c_w_group (d : Nat) {a : Re} {n : Nat} {ws : List (Nat × Kept)} (hn : 1 ≤ n) (h : WC d f tx a.pv H p k ws) (hk : ∀ y ∈ ws,n ≤ y.2.length ∧ y.2.length ≤ 100) : WC (d + 1) f tx (Re.group n a).pv H p k (ws.map fun y => (y.1,y.2.set (n - 1) (some (p,y.1)))) := by
  unfold WC at *
  have e := c_group_items (H := H) (acall text d) n p hn [some (Re.group n a).pv,some (.str tx),some (.int p),some (kPV k),some (.bool f),some (.str [103,114,111,117,112]),none,none,none,none,some (.lst (ws.map wPV)),some (.int n),none,none,none,none,none,none] (of_decide_eq_true rfl) rfl rfl ws hk
  apply a_call (fd := f_law_ways) (b := b_law_ways) (l := [some ((Re.group n a).pv),some (.str tx),some (.int p),some (kPV k),some (.bool f),none,none,none,none,none,none,none,none,none,none,none,none,none]) rfl rfl rfl; delta b_law_ways
  repeat fail "ev"
end
end
section
set_option maxHeartbeats 16000000
theorem eqT_comm (f : Bool) (a b : Nat) : eqT f a b = eqT f b a := by
  unfold eqT
  rw [Bool.beq_comm,Bool.beq_comm (a := lowN a)]
noncomputable def allEq (f : Bool) : List Nat → List Nat → Bool
  | a :: as,b :: bs => eqT f a b && allEq f as bs
  | _,_ => true
noncomputable def stl (as : List Nat) : List PV := as.map fun c => PV.str [c]
theorem c_unlike (d : Nat) (f : Bool) (H : AH) (l : Loc) (hl : 15 < l.length) (h4 : l[4]? = some (some (.bool f))) : ∀ as bs : List Nat,(∀ x ∈ as,Sg x) → (∀ x ∈ bs,Sg x) →
    ∃ ws,compV (citem text (acall text (d + 1)) (.int 1) (.tup [.loc 14,.loc 15]) (.not (.callF 65 [.loc 14,.loc 15,.loc 4])) l) (zips (stl as) (stl bs)) H = some (ws,H) ∧ ws.isEmpty = allEq f as bs
  | [],_,_,_ => ⟨[],rfl,rfl⟩
  | _ :: _,[],_,_ => ⟨[],rfl,rfl⟩
  | a :: as,b :: bs,ha,hb => by
    obtain ⟨ws,e,z⟩ := c_unlike d f H l hl h4 as bs (fun x h => ha x (.tail _ h)) (fun x h => hb x (.tail _ h))
    have q := c_like d f (ha a (.head _)) (hb b (.head _)) H
    have l14 : ((l.set 14 (some (.str [a]))).set 15 (some (.str [b])))[14]? = some (some (.str [a])) := lk_ne (by decide) (lk_same (by lia))
    have l15 : ((l.set 14 (some (.str [a]))).set 15 (some (.str [b])))[15]? = some (some (.str [b])) := lk_same (by rw [List.length_set]; exact hl)
    have l4 : ((l.set 14 (some (.str [a]))).set 15 (some (.str [b])))[4]? = some (some (.bool f)) := lk_ne (by decide) (lk_ne (by decide) h4)
    have t14 : aassign text (acall text (d + 1)) (.loc 14) (.str [a]) l H = some (l.set 14 (some (.str [a])),H) := t_loc (by lia)
    have t15 : aassign text (acall text (d + 1)) (.loc 15) (.str [b]) (l.set 14 (some (.str [a]))) H = some ((l.set 14 (some (.str [a]))).set 15 (some (.str [b])),H) := t_loc (by rw [List.length_set]; exact hl)
    have hc : aeval text (acall text (d + 1)) (.not (.callF 65 [.loc 14,.loc 15,.loc 4])) ((l.set 14 (some (.str [a]))).set 15 (some (.str [b]))) H = some (.bool (!eqT f a b),H) := by
      clear t14 t15 e
      generalize (l.set 14 (some (.str [a]))).set 15 (some (.str [b])) = l' at *
      repeat fail "ev"
    show ∃ ws,compV _ (.tup [.str [a],.str [b]] :: zips (stl as) (stl bs)) H = some (ws,H) ∧ ws.isEmpty = (eqT f a b && allEq f as bs)
    cases hq : eqT f a b
    · rw [hq] at hc
      exact ⟨.int 1 :: ws,cv_some (ci_some (t_tup (ts_cons t14 (ts_cons t15 ts_nil))) hc e_int) e,rfl⟩
    · rw [hq] at hc
      exact ⟨ws,cv_none (ci_none (t_tup (ts_cons t14 (ts_cons t15 ts_nil))) hc) e,z⟩
noncomputable def sub (tx : List Nat) (a n : Nat) : List Nat := (tx.drop a).take n
theorem sub_len {tx : List Nat} {a n : Nat} : (sub tx a n).length = min n (tx.length - a) := by unfold sub; rw [List.length_take,List.length_drop]
theorem sub_succ {tx : List Nat} {a n : Nat} (h : a < tx.length) : sub tx a (n + 1) = tx.getD a 0 :: sub tx (a + 1) n := by
  unfold sub
  rw [List.drop_eq_getElem_cons h,List.take_succ_cons,List.getD_eq_getElem?_getD,List.getElem?_eq_getElem h]; rfl
theorem sub_mem {tx : List Nat} {a n : Nat} (hs : ∀ x ∈ tx,Sg x) : ∀ x ∈ sub tx a n,Sg x := fun x h => hs x (List.mem_of_mem_drop (List.mem_of_mem_take h))
theorem mt_all (f : Bool) (tx : List Nat) (s p : Nat) : ∀ n j,p + j + n ≤ tx.length → s + j + n ≤ tx.length → allEq f (sub tx (p + j) n) (sub tx (s + j) n) = mt f tx s p j n
  | 0,j,_,_ => by unfold sub; rw [List.take_zero,List.take_zero]; rfl
  | n + 1,j,h1,h2 => by
    rw [sub_succ (by lia),sub_succ (by lia)]
    show (eqT f _ _ && allEq f (sub tx (p + (j + 1)) n) (sub tx (s + (j + 1)) n)) = (eqT f _ _ && _)
    rw [mt_all f tx s p n (j + 1) (by lia) (by lia),eqT_comm]
theorem slice_str {tx : List Nat} {a b : Nat} (ha : a ≤ tx.length) : aslice (.str tx) (.int (a : Int)) (.int (b : Int)) = some (.str (sub tx a (b - a))) := by
  show some (PV.str ((tx.drop (clamp tx.length (a : Int))).take (clamp tx.length (b : Int) - clamp tx.length (a : Int)))) = _
  have c : ∀ n : Nat,clamp tx.length (n : Int) = min n tx.length := fun n => by show (if (0 : Int) ≤ n then min ((n : Int)).toNat tx.length else _) = _; rw [if_pos (by lia)]; rfl
  rw [c,c,Nat.min_eq_left ha]
  unfold sub
  congr 2
  rcases Nat.le_total b tx.length with h | h
  · rw [Nat.min_eq_left h]
  · rw [Nat.min_eq_right h,List.take_of_length_le (by rw [List.length_drop]; exact Nat.le_refl _),List.take_of_length_le (by rw [List.length_drop]; lia)]
section
variable {f : Bool} {tx : List Nat} {H : AH} {p : Nat} {k : Kept}
theorem c_w_again (d : Nat) {n : Nat} {s : Option (Nat × Nat)} (hn : 1 ≤ n) (hk : k[n - 1]? = some s) (hs : ∀ x ∈ tx,Sg x) (hp : p ≤ tx.length) (ok : ∀ q,s = some q → q.1 ≤ q.2 ∧ q.2 ≤ tx.length) : WC (d + 2) f tx (Re.again n).pv H p k (oneW k ((LO f tx).bck n p k)) := by
  unfold WC
  have q0 : ((n : Int) - 1) = ((n - 1 : Nat) : Int) := by lia
  have q1 : aidx H (kPV k) (.int ((n : Int) - 1)) = some (spPV s) := by rw [q0]; exact idx_tup (at_int (by rw [List.getElem?_map,hk]; rfl))
  have eb : (LO f tx).bck n p k = match k[n - 1]? with
    | some (some s) => if p + (s.2 - s.1) ≤ tx.length then (if mt f tx s.1 p 0 (s.2 - s.1) = true then some (p + (s.2 - s.1)) else none) else none
    | _ => none := rfl
  rw [hk] at eb
  cases s with
  | none =>
    have q2 : aslice (.str tx) (.int p) (.int ((p : Int) + (([] : List Nat).length : Nat))) = some (.str []) := by
      show aslice (.str tx) (.int p) (.int ((p : Int) + 0)) = _
      have := slice_str (b := p) hp
      rw [Nat.sub_self] at this
      rw [Int.add_zero,this]; unfold sub; rw [List.take_zero]
    rw [eb]
    have q3 : acmp .is H (spPV none) .none = some true := rfl
    have q4 : acmp .isnot H (spPV none) .none = some false := rfl
    obtain ⟨ws,q5,q6⟩ := c_unlike d f H [some (Re.again n).pv,some (.str tx),some (.int p),some (kPV k),some (.bool f),some (.str [97,103,97,105,110]),some (spPV none),some (.str []),some (.str []),none,none,none,none,none,none,none,none,none] (of_decide_eq_true rfl) rfl [] [] (fun Y h => (by contradiction)) (fun Y h => (by contradiction))
    have q7 : acmp .eq H (.lst ws) (.lst []) = some ws.isEmpty := rfl
    rw [q6] at q7
    generalize spPV none = sp at *
    clear eb hk ok
    apply a_call (fd := f_law_ways) (b := b_law_ways) (l := [some ((Re.again n).pv),some (.str tx),some (.int p),some (kPV k),some (.bool f),none,none,none,none,none,none,none,none,none,none,none,none,none]) rfl rfl rfl; delta b_law_ways
    repeat fail "ev"
  | some s =>
    obtain ⟨s,e⟩ := s
    obtain ⟨o1,o2⟩ := ok (s,e) rfl
    dsimp only at o1 o2 eb
    have q2 := slice_str (tx := tx) (a := s) (b := e) (by lia)
    have n1 : (sub tx s (e - s)).length = e - s := by rw [sub_len]; lia
    have q3 : aslice (.str tx) (.int p) (.int ((p : Int) + ((sub tx s (e - s)).length : Nat))) = some (.str (sub tx p (e - s))) := by
      have := slice_str (tx := tx) (b := p + (e - s)) hp
      rw [show p + (e - s) - p = e - s by lia] at this
      rw [n1]; exact this
    have a1 : aidx H (spPV (some (s,e))) (.int 0) = some (.int s) := rfl
    have a2 : aidx H (spPV (some (s,e))) (.int 1) = some (.int e) := rfl
    have a3 : acmp .is H (spPV (some (s,e))) .none = some false := rfl
    have a4 : acmp .isnot H (spPV (some (s,e))) .none = some true := rfl
    have q5 : acmp .eq H (.int ((sub tx p (e - s)).length : Nat)) (.int ((sub tx s (e - s)).length : Nat)) = some (decide (p + (e - s) ≤ tx.length)) := by
      show some (decide _) = _
      rw [n1,sub_len]
      congr 1
      exact decide_eq_decide.mpr (by lia)
    obtain ⟨ws,q6,q7⟩ := c_unlike d f H [some (Re.again n).pv,some (.str tx),some (.int p),some (kPV k),some (.bool f),some (.str [97,103,97,105,110]),some (spPV (some (s,e))),some (.str (sub tx s (e - s))),some (.str (sub tx p (e - s))),none,none,none,none,none,none,none,none,none] (of_decide_eq_true rfl) rfl (sub tx p (e - s)) (sub tx s (e - s)) (sub_mem hs) (sub_mem hs)
    have q8 : acmp .eq H (.lst ws) (.lst []) = some ws.isEmpty := rfl
    have fin : p + (e - s) ≤ tx.length → ws.isEmpty = mt f tx s p 0 (e - s) := fun h => q7.trans (mt_all f tx s p (e - s) 0 h (by lia))
    have wp : wPV (p + (e - s),k) = .tup [.int ((p : Int) + ((sub tx s (e - s)).length : Nat)),kPV k] := by rw [n1]; rfl
    rw [eb]
    generalize spPV (some (s,e)) = sp at *
    generalize sub tx s (e - s) = part at *
    generalize sub tx p (e - s) = there at *
    clear eb hk ok n1
    by_cases hq : p + (e - s) ≤ tx.length
    · rw [if_pos hq]
      rw [decide_eq_true hq] at q5
      rw [← fin hq]
      generalize ws.isEmpty = b at *
      cases b
      · rw [if_neg (by decide)]
        apply a_call (fd := f_law_ways) (b := b_law_ways) (l := [some ((Re.again n).pv),some (.str tx),some (.int p),some (kPV k),some (.bool f),none,none,none,none,none,none,none,none,none,none,none,none,none]) rfl rfl rfl; delta b_law_ways
        repeat fail "ev"
      · rw [if_pos rfl]
        show _ = some (PV.lst [wPV (p + (e - s),k)],H)
        rw [wp]
        apply a_call (fd := f_law_ways) (b := b_law_ways) (l := [some ((Re.again n).pv),some (.str tx),some (.int p),some (kPV k),some (.bool f),none,none,none,none,none,none,none,none,none,none,none,none,none]) rfl rfl rfl; delta b_law_ways
        repeat fail "ev"
    · rw [if_neg hq]
      rw [decide_eq_false hq] at q5
      apply a_call (fd := f_law_ways) (b := b_law_ways) (l := [some ((Re.again n).pv),some (.str tx),some (.int p),some (kPV k),some (.bool f),none,none,none,none,none,none,none,none,none,none,none,none,none]) rfl rfl rfl; delta b_law_ways
      repeat fail "ev"
end
end
section
set_option maxHeartbeats 16000000
section
variable {f : Bool} {tx : List Nat} {H : AH}
noncomputable abbrev W1 := Nat × Kept
noncomputable abbrev botB : List Mine.Internal.S := [(.assign (.loc 10) (.bin .add (.loc 10) (.callF 67 [(.idx (.loc 0) (.int 2)),(.loc 1),(.loc 12),(.loc 13),(.loc 4)])))]
noncomputable abbrev botL (n : PV) (tx : List Nat) (P K : PV) (f : Bool) (w : PV) (acc : List W1) (x y : Option PV) : Loc := [some n,some (.str tx),some P,some K,some (.bool f),some w,none,none,none,none,some (.lst (acc.map wPV)),none,x,y,none,none,none,none]
theorem c_both_turns (d : Nat) {n n2 P K w : PV} (hn : aidx H n (.int 2) = some n2) {g : W1 → List W1} : ∀ (ws acc : List W1) (x y : Option PV),(∀ y ∈ ws,WC d f tx n2 H y.1 y.2 (g y)) → acc.length + (ws.flatMap g).length ≤ lim →
    ∃ x' y',forV (fitem text (acall text d) (.tup [.loc 12,.loc 13]) botB) (ws.map wPV) (botL n tx P K f w acc x y) H = some (.next,botL n tx P K f w (acc ++ ws.flatMap g) x' y',H)
  | [],acc,x,y,_,_ => ⟨x,y,by rw [List.flatMap_nil,List.append_nil]; rfl⟩
  | v :: ws,acc,x,y,h,hl => by
    rw [List.flatMap_cons,List.length_append] at hl
    obtain ⟨x',y',e⟩ := c_both_turns (P := P) (K := K) (w := w) d hn ws (acc ++ g v) (some (.int v.1)) (some (kPV v.2)) (fun y hy => h y (.tail _ hy)) (by rw [List.length_append]; fail "l")
    have q1 : acall text d 67 [n2,.str tx,.int v.1,kPV v.2,.bool f] H = some (.lst ((g v).map wPV),H) := h v (.head _)
    have q2 := add_lst (H := H) (x := acc.map wPV) (y := (g v).map wPV) (by rw [List.length_map,List.length_map]; fail "l")
    rw [← List.map_append] at q2
    refine ⟨x',y',?_⟩
    rw [List.flatMap_cons,← List.append_assoc]
    apply fv_next (l1 := botL n tx P K f w (acc ++ g v) (some (.int v.1)) (some (kPV v.2))) (H1 := H)
    · apply f_item
      · exact t_tup (ts_cons (t_loc (of_decide_eq_true rfl)) (ts_cons (t_loc (of_decide_eq_true rfl)) ts_nil))
      · repeat fail "ev"
    · exact e
theorem c_w_both (d : Nat) {p : Nat} {k : Kept} {a b : Re} {ws : List W1} {g : W1 → List W1} (h1 : WC d f tx a.pv H p k ws) (h2 : ∀ y ∈ ws,WC d f tx b.pv H y.1 y.2 (g y)) (hl : (ws.flatMap g).length ≤ lim) : WC (d + 1) f tx (Re.both a b).pv H p k (ws.flatMap g) := by
  unfold WC at h1 ⊢
  obtain ⟨x',y',e⟩ := c_both_turns (n := (Re.both a b).pv) (n2 := b.pv) d (P := .int p) (K := kPV k) (w := .str [98,111,116,104]) rfl ws [] none none h2 (by rw [List.length_nil]; fail "l")
  apply a_call (fd := f_law_ways) (b := b_law_ways) (l := [some ((Re.both a b).pv),some (.str tx),some (.int p),some (kPV k),some (.bool f),none,none,none,none,none,none,none,none,none,none,none,none,none]) rfl rfl rfl; delta b_law_ways
  repeat fail "ev"
  apply x_for
  · repeat fail "ev"
  · exact e
  · repeat fail "ev"
  repeat fail "ev"
noncomputable abbrev TC (d : Nat) (f : Bool) (tx : List Nat) (le mo : Int) (n : PV) (H : AH) (p : Nat) (k : Kept) (ws : List W1) : Prop := acall text d 68 [.int le,.int mo,n,.str tx,.int p,kPV k,.bool f] H = some (.lst (ws.map wPV),H)
noncomputable def goes (le mo : Int) (p : Nat) (y : W1) : Bool := decide (0 < le) || (decide (0 < mo) || decide (p < y.1))
noncomputable def gW (le mo : Int) (p : Nat) (g : W1 → List W1) (y : W1) : List W1 := cond (goes le mo p y) (g y) []
noncomputable abbrev trnB : List Mine.Internal.S := [(.ife (.or [(.cmp .gt (.loc 0) (.int 0)),(.cmp .gt (.loc 1) (.int 0)),(.cmp .gt (.loc 8) (.loc 4))]) [(.assign (.loc 7) (.bin .add (.loc 7) (.callF 68 [(.callB .max [(.bin .sub (.loc 0) (.int 1)),(.int 0)]),(.ife (.cmp .gt (.loc 1) (.int 0)) (.bin .sub (.loc 1) (.int 1)) (.neg 1)),(.loc 2),(.loc 3),(.loc 8),(.loc 9),(.loc 6)])))] [])]
noncomputable abbrev trnL (le mo : Int) (n : PV) (tx : List Nat) (p : Nat) (K : PV) (f : Bool) (acc : List W1) (x y : Option PV) : Loc := [some (.int le),some (.int mo),some n,some (.str tx),some (.int p),some K,some (.bool f),some (.lst (acc.map wPV)),x,y]
theorem c_turns_turns (d : Nat) {le mo mo' : Int} {n K : PV} {p : Nat} (hmo : (0 < mo ∧ mo' = mo - 1) ∨ (mo ≤ 0 ∧ mo' = -1)) {g : W1 → List W1} : ∀ (ws acc : List W1) (x y : Option PV),(∀ y ∈ ws,goes le mo p y = true → TC d f tx (max (le - 1) 0) mo' n H y.1 y.2 (g y)) → acc.length + (ws.flatMap (gW le mo p g)).length ≤ lim →
    ∃ x' y',forV (fitem text (acall text d) (.tup [.loc 8,.loc 9]) trnB) (ws.map wPV) (trnL le mo n tx p K f acc x y) H = some (.next,trnL le mo n tx p K f (acc ++ ws.flatMap (gW le mo p g)) x' y',H)
  | [],acc,x,y,_,_ => ⟨x,y,by rw [List.flatMap_nil,List.append_nil]; rfl⟩
  | v :: ws,acc,x,y,h,hl => by
    rw [List.flatMap_cons,List.length_append] at hl
    obtain ⟨x',y',e⟩ := c_turns_turns (n := n) (K := K) d hmo ws (acc ++ gW le mo p g v) (some (.int v.1)) (some (kPV v.2)) (fun y hy => h y (.tail _ hy)) (by rw [List.length_append]; fail "l")
    refine ⟨x',y',?_⟩
    rw [List.flatMap_cons,← List.append_assoc]
    have ht : aassign text (acall text d) (.tup [.loc 8,.loc 9]) (wPV v) (trnL le mo n tx p K f acc x y) H = some (trnL le mo n tx p K f acc (some (.int v.1)) (some (kPV v.2)),H) := t_tup (ts_cons (t_loc (of_decide_eq_true rfl)) (ts_cons (t_loc (of_decide_eq_true rfl)) ts_nil))
    have hg : aeval text (acall text d) (.or [(.cmp .gt (.loc 0) (.int 0)),(.cmp .gt (.loc 1) (.int 0)),(.cmp .gt (.loc 8) (.loc 4))]) (trnL le mo n tx p K f acc (some (.int v.1)) (some (kPV v.2))) H = some (.bool (goes le mo p v),H) := by
      unfold goes
      have z3 : decide ((p : Int) < (v.1 : Int)) = decide (p < v.1) := decide_eq_decide.mpr (by fail "l")
      have g1 : acmp .gt H (.int le) (.int 0) = some (decide (0 < le)) := rfl
      have g2 : acmp .gt H (.int mo) (.int 0) = some (decide (0 < mo)) := rfl
      have g3 : acmp .gt H (.int (v.1 : Int)) (.int (p : Int)) = some (decide (p < v.1)) := congrArg some z3
      clear z3 e h hl
      generalize decide (0 < le) = b1 at *
      generalize decide (0 < mo) = b2 at *
      generalize decide (p < v.1) = b3 at *
      cases b1 <;> cases b2
      all_goals repeat fail "ev"
    have step : fitem text (acall text d) (.tup [.loc 8,.loc 9]) trnB (wPV v) (trnL le mo n tx p K f acc x y) H = some (.next,trnL le mo n tx p K f (acc ++ gW le mo p g v) (some (.int v.1)) (some (kPV v.2)),H) := by
      have q1 := h v (.head _)
      unfold gW at hl ⊢
      generalize goes le mo p v = b at *
      apply f_item ht
      cases b
      · rw [cond_false,List.append_nil]
        exact x_if hg (x_nil (t := text) (cf := acall text d))
      · rw [cond_true] at hl ⊢
        have q2 : acall text d 68 [.int (max (le - 1) 0),.int mo',n,.str tx,.int v.1,kPV v.2,.bool f] H = some (.lst ((g v).map wPV),H) := q1 rfl
        have q3 := add_lst (H := H) (x := acc.map wPV) (y := (g v).map wPV) (by rw [List.length_map,List.length_map]; fail "l")
        rw [← List.map_append] at q3
        clear hl e h q1
        apply x_if hg
        rcases hmo with ⟨m1,rfl⟩ | ⟨m1,rfl⟩
        all_goals repeat fail "ev"
    exact fv_next step e
noncomputable def finW (le : Int) (gr : Bool) (p : Nat) (k : Kept) (found : List W1) : List W1 := if 0 < le then found else cond gr (found ++ [(p,k)]) ((p,k) :: found)
theorem c_turns0 (d : Nat) {le : Int} {n : PV} {p : Nat} {k : Kept} : TC (d + 1) f tx le 0 n H p k [(p,k)] := by
  unfold TC
  apply a_call (fd := f_law_turns) (b := b_law_turns) (l := [some (.int le),some (.int 0),some (n),some (.str tx),some (.int p),some (kPV k),some (.bool f),none,none,none]) rfl rfl rfl; delta b_law_turns
  repeat fail "ev"
theorem c_turns (d : Nat) {le mo mo' : Int} {n : PV} {p : Nat} {k : Kept} {a : Re} {gr : Bool} (hm : mo ≠ 0) (h4 : aidx H n (.int 4) = some a.pv) (h3 : aidx H n (.int 3) = some (.bool gr)) (hmo : (0 < mo ∧ mo' = mo - 1) ∨ (mo ≤ 0 ∧ mo' = -1)) {g : W1 → List W1} {ws : List W1}
    (h1 : WC d f tx a.pv H p k ws) (h2 : ∀ y ∈ ws,goes le mo p y = true → TC d f tx (max (le - 1) 0) mo' n H y.1 y.2 (g y)) (hl : (ws.flatMap (gW le mo p g)).length + 1 ≤ lim) : TC (d + 1) f tx le mo n H p k (finW le gr p k (ws.flatMap (gW le mo p g))) := by
  unfold TC
  unfold WC at h1
  obtain ⟨x',y',e⟩ := c_turns_turns (n := n) (K := kPV k) d hmo ws [] none none h2 (by rw [List.length_nil]; fail "l")
  have hm0 : (mo == 0) = false := beq_eq_false_iff_ne.mpr hm
  generalize ws.flatMap (gW le mo p g) = found at *
  have q1 := add_lst (H := H) (x := found.map wPV) (y := [.tup [.int p,kPV k]]) (by rw [List.length_map]; exact hl)
  have q2 := add_lst (H := H) (x := [.tup [.int p,kPV k]]) (y := found.map wPV) (by rw [List.length_map,Nat.add_comm]; exact hl)
  have q3 : (found ++ [(p,k)]).map wPV = found.map wPV ++ [.tup [.int p,kPV k]] := List.map_append
  have q4 : ((p,k) :: found).map wPV = [.tup [.int p,kPV k]] ++ found.map wPV := rfl
  clear h2
  unfold finW
  by_cases hle : 0 < le
  · rw [if_pos hle]
    apply a_call (fd := f_law_turns) (b := b_law_turns) (l := [some (.int le),some (.int mo),some (n),some (.str tx),some (.int p),some (kPV k),some (.bool f),none,none,none]) rfl rfl rfl; delta b_law_turns
    repeat (first | (with_reducible apply goF hm0) | fail "ev")
    apply x_for
    · repeat fail "ev"
    · exact e
    · repeat fail "ev"
    repeat fail "ev"
  · rw [if_neg hle]
    cases gr
    · rw [cond_false,q4]
      apply a_call (fd := f_law_turns) (b := b_law_turns) (l := [some (.int le),some (.int mo),some (n),some (.str tx),some (.int p),some (kPV k),some (.bool f),none,none,none]) rfl rfl rfl; delta b_law_turns
      repeat (first | (with_reducible apply goF hm0) | fail "ev")
      apply x_for
      · repeat fail "ev"
      · exact e
      · repeat fail "ev"
      repeat fail "ev"
    · rw [cond_true,q3]
      apply a_call (fd := f_law_turns) (b := b_law_turns) (l := [some (.int le),some (.int mo),some (n),some (.str tx),some (.int p),some (kPV k),some (.bool f),none,none,none]) rfl rfl rfl; delta b_law_turns
      repeat (first | (with_reducible apply goF hm0) | fail "ev")
      apply x_for
      · repeat fail "ev"
      · exact e
      · repeat fail "ev"
      repeat fail "ev"
end
end
section
set_option maxHeartbeats 16000000
section
variable {G : Nat} {f : Bool} {tx : List Nat} {H : AH}
theorem All2.memL {α β : Type} {R : α → β → Prop} {as : List α} {bs : List β} (a : All2 R as bs) : ∀ x ∈ as,∃ y,R x y := by
  induction a with
  | nil => intro x h; fail "=h"
  | cons r _ ih => intro x h; exact (List.mem_cons.mp h).elim (fun e => ⟨_,e ▸ r⟩) (ih x)
noncomputable def Il (G : Nat) (tx : List Nat) (O : List (Nat × Nat)) (p : Nat) (k : Kept) : Prop := ∃ K,Rl G tx O p k K
noncomputable abbrev Re.lw (f : Bool) (tx : List Nat) (r : Re) : Nat → Kept → List W1 := r.ways (LO f tx) f tx
theorem inv_l {O p k} {r : Re} (hg : Gok G (O.map (·.1)) r) (h : Il G tx O p k) : ∀ y ∈ r.lw f tx p k,p ≤ y.1 ∧ Il G tx O y.1 y.2 := fun y hy => by
  obtain ⟨K,h⟩ := h
  obtain ⟨z,_,hp,q⟩ := (ways_two (f := f) r O hg p k K h).memL y hy
  exact ⟨hp,_,q⟩
theorem Il.le {O p k} (h : Il G tx O p k) : p ≤ tx.length := by obtain ⟨_,h⟩ := h; exact h.le
theorem flat_len {g : W1 → List W1} {b : Nat} : ∀ {ws : List W1},(∀ y ∈ ws,(g y).length ≤ b) → (ws.flatMap g).length ≤ ws.length * b
  | [],_ => Nat.zero_le _
  | v :: ws,h => by
    have h1 := h v (.head _)
    have h2 := flat_len (ws := ws) fun y hy => h y (.tail _ hy)
    rw [List.flatMap_cons,List.length_append,List.length_cons,Nat.succ_mul]; lia
theorem mul_up {a a' b b' : Nat} (h : a ≤ a') (k : b ≤ b') : a * b ≤ a' * b' := Nat.mul_le_mul h k
theorem star_len {O : List (Nat × Nat)} {Aa : Nat → Nat} {w : Nat → Kept → List W1} (gr : Bool) (hw : ∀ n p k,Il G tx O p k → tx.length - p ≤ n → (w p k).length ≤ Aa n) (hi : ∀ p k,Il G tx O p k → ∀ y ∈ w p k,p ≤ y.1 ∧ Il G tx O y.1 y.2) :
    ∀ n p k N,n ≤ N → tx.length - p ≤ n → Il G tx O p k → (starW gr w n p k).length ≤ sA Aa N
  | 0,p,k,N,_,_,_ => by
    cases N with
    | zero => exact Nat.le_refl _
    | succ N => exact Nat.le_add_right _ _
  | n + 1,p,k,N,hN,hL,h => by
    obtain ⟨M,rfl⟩ : ∃ M,N = M + 1 := ⟨N - 1,by lia⟩
    have q : ((w p k).flatMap fun y => if p < y.1 then starW gr w n y.1 y.2 else []).length ≤ Aa (M + 1) * sA Aa M := Nat.le_trans (flat_len fun y hy => by
      have hy' := hi p k h y hy
      by_cases z : p < y.1
      · rw [if_pos z]; exact star_len gr hw hi n y.1 y.2 M (by lia) (by lia) hy'.2
      · rw [if_neg z]; exact Nat.zero_le _) (mul_up (hw (M + 1) p k h (by lia)) (Nat.le_refl _))
    have e : (starW gr w (n + 1) p k).length = ((w p k).flatMap fun y => if p < y.1 then starW gr w n y.1 y.2 else []).length + 1 := by
      cases gr
      · rfl
      · exact List.length_append
    rw [e]
    show _ ≤ 1 + Aa (M + 1) * sA Aa M
    lia
theorem sA_pos (Aa : Nat → Nat) : ∀ n,1 ≤ sA Aa n
  | 0 => Nat.le_refl _
  | _ + 1 => Nat.le_add_right _ _
theorem ca_pos (n : Nat) : ∀ r : Re,1 ≤ r.ca n
  | .sign _ => Nat.le_refl _
  | .any => Nat.le_refl _
  | .ins => Nat.le_refl _
  | .out => Nat.le_refl _
  | .again _ => Nat.le_refl _
  | .either a b => Nat.le_add_right_of_le (ca_pos n a)
  | .group _ a => ca_pos n a
  | .both a b => Nat.mul_pos (ca_pos n a) (ca_pos n b)
  | .often k a => match k with
    | 0 => sA_pos _ _
    | 1 => Nat.mul_pos (ca_pos n a) (sA_pos _ _)
    | 2 => Nat.le_add_left _ _
    | 3 => sA_pos _ _
    | 4 => Nat.mul_pos (ca_pos n a) (Nat.le_add_left _ _)
    | _ + 5 => Nat.mul_pos (ca_pos n a) (Nat.mul_pos (ca_pos n a) (sA_pos _ _))
theorem leaf_len {u : Row} {p : Nat} {k : Kept} : (leafW u f tx p k).length ≤ 1 := by
  unfold leafW
  cases tx[p]? with
  | none => exact Nat.zero_le _
  | some s => dsimp only; cases u.takes f s <;> first | exact Nat.zero_le _ | exact Nat.le_refl _
theorem ways_len : ∀ (r : Re) (O : List (Nat × Nat)),Gok G (O.map (·.1)) r → ∀ n p k,Il G tx O p k → tx.length - p ≤ n → (r.lw f tx p k).length ≤ r.ca n
  | .sign _,_,_,_,_,_,_,_ => leaf_len
  | .any,_,_,_,_,_,_,_ => leaf_len
  | .ins,_,_,_,_,_,_,_ => leaf_len
  | .out,_,_,_,_,_,_,_ => leaf_len
  | .again m,_,_,n,p,k,_,_ => by
    show (oneW k ((LO f tx).bck m p k)).length ≤ 1
    cases (LO f tx).bck m p k <;> first | exact Nat.zero_le _ | exact Nat.le_refl _
  | .either a b,O,g,n,p,k,h,hn => by
    have e : ((Re.either a b).lw f tx p k).length = (a.lw f tx p k).length + (b.lw f tx p k).length := List.length_append
    rw [e]; exact Nat.add_le_add (ways_len a O g.1 n p k h hn) (ways_len b O g.2 n p k h hn)
  | .group m a,O,g,n,p,k,h,hn => by
    obtain ⟨⟨g1,g2,g3⟩,g4⟩ := g
    obtain ⟨K,h⟩ := h
    have e : ((Re.group m a).lw f tx p k).length = (a.lw f tx p k).length := List.length_map ..
    rw [e]; exact ways_len a ((m,p) :: O) g4 n p k ⟨_,rl_open g1 g2 g3 h⟩ hn
  | .both a b,O,g,n,p,k,h,hn => Nat.le_trans (flat_len fun y hy => ways_len b O g.2 n y.1 y.2 (inv_l g.1 h y hy).2 (by have := (inv_l g.1 h y hy).1; lia)) (mul_up (ways_len a O g.1 n p k h hn) (Nat.le_refl _))
  | .often j a,O,g,n,p,k,h,hn => by
    have g' : Gok G (O.map (·.1)) a := g
    have A := fun n p k h hn => ways_len a O g' n p k h hn
    have B : ∀ p k,Il G tx O p k → ∀ y ∈ a.lw f tx p k,p ≤ y.1 ∧ Il G tx O y.1 y.2 := fun p k h => inv_l g' h
    have S : ∀ gr p k,Il G tx O p k → tx.length - p ≤ n → (starW gr (a.lw f tx) (tx.length - p) p k).length ≤ sA a.ca n := fun gr p k h hn => star_len gr A B _ p k n hn (Nat.le_refl _) h
    have T : ∀ p k,Il G tx O p k → tx.length - p ≤ n → ((a.lw f tx p k).flatMap fun y => starW true (a.lw f tx) (tx.length - y.1) y.1 y.2).length ≤ a.ca n * sA a.ca n := fun p k h hn =>
      Nat.le_trans (flat_len fun y hy => S true y.1 y.2 (B p k h y hy).2 (by have := (B p k h y hy).1; lia)) (mul_up (A n p k h hn) (Nat.le_refl _))
    cases j using nat6 with
    | a0 => exact S true p k h hn
    | a1 => exact T p k h hn
    | a2 =>
      have e : ((Re.often 2 a).lw f tx p k).length = (a.lw f tx p k).length + 1 := List.length_append
      rw [e]; exact Nat.add_le_add (A n p k h hn) (Nat.le_refl _)
    | a3 => exact S false p k h hn
    | a4 =>
      exact Nat.le_trans (flat_len fun y hy => by
        rw [List.length_append]
        exact Nat.add_le_add (A n y.1 y.2 (B p k h y hy).2 (by have := (B p k h y hy).1; lia)) (Nat.le_refl 1)) (mul_up (A n p k h hn) (Nat.le_refl _))
    | a5 _ =>
      exact Nat.le_trans (flat_len fun y hy => T y.1 y.2 (B p k h y hy).2 (by have := (B p k h y hy).1; lia)) (mul_up (A n p k h hn) (Nat.le_refl _))
end
end
section
set_option maxHeartbeats 16000000
section
variable {G : Nat} {f : Bool} {tx : List Nat} {H : AH}
noncomputable def Re.dp (L : Nat) : Re → Nat
  | .either a b => max (a.dp L) (b.dp L) + 1
  | .group _ a => a.dp L + 1
  | .both a b => max (a.dp L) (b.dp L) + 1
  | .often _ a => a.dp L + L + 4
  | _ => 3
noncomputable def Rok (L : Nat) : Re → Prop
  | .sign c => c = 97 ∨ c = 98 ∨ c = 65
  | .either a b => (Rok L a ∧ Rok L b) ∧ a.ca L + b.ca L ≤ lim
  | .group _ a => Rok L a
  | .both a b => (Rok L a ∧ Rok L b) ∧ a.ca L * b.ca L ≤ lim
  | .often k a => k < 6 ∧ Rok L a ∧ (Re.often k a).ca L + 1 ≤ lim
  | _ => True
theorem c_w_often (d : Nat) {p : Nat} {k : Kept} {j : Nat} {a : Re} {ws : List W1} (h : TC d f tx (oft j).1 (oft j).2.1 (Re.often j a).pv H p k ws) : WC (d + 1) f tx (Re.often j a).pv H p k ws := by
  unfold WC
  have h' : acall text d 68 [.int (oft j).1,.int (oft j).2.1,(Re.often j a).pv,.str tx,.int p,kPV k,.bool f] H = some (.lst (ws.map wPV),H) := h
  clear h
  have e : (Re.often j a).pv = .tup [.str [111,102,116,101,110],.int (oft j).1,.int (oft j).2.1,.bool (oft j).2.2.1,a.pv] := rfl
  rw [e] at h' ⊢
  apply a_call (fd := f_law_ways) (b := b_law_ways) (l := [some (.tup [.str [111,102,116,101,110],.int (oft j).1,.int (oft j).2.1,.bool (oft j).2.2.1,a.pv]),some (.str tx),some (.int p),some (kPV k),some (.bool f),none,none,none,none,none,none,none,none,none,none,none,none,none]) rfl rfl rfl; delta b_law_ways
  repeat fail "ev"
section
variable {O : List (Nat × Nat)} {a : Re} {A : Nat} {nd : PV} {gr : Bool}
theorem t_star (hg : Gok G (O.map (·.1)) a) (hA : ∀ d p k,A ≤ d → Il G tx O p k → WC d f tx a.pv H p k (a.lw f tx p k)) (h4 : aidx H nd (.int 4) = some a.pv) (h3 : aidx H nd (.int 3) = some (.bool gr)) (hl : sA a.ca tx.length ≤ lim) :
    ∀ n d p k,A + 1 + n ≤ d → tx.length - p ≤ n → n ≤ tx.length → Il G tx O p k → TC d f tx 0 (-1) nd H p k (starW gr (a.lw f tx) n p k) := by
  have L := star_len (G := G) (tx := tx) (O := O) (Aa := a.ca) (w := a.lw f tx) gr (fun n p k h hn => ways_len (f := f) a O hg n p k h hn) (fun p k h => inv_l hg h)
  have go : ∀ p y,goes 0 (-1) p y = decide (p < y.1) := fun p y => rfl
  intro n
  induction n with
  | zero =>
    intro d p k hd hL hn h
    obtain ⟨d,rfl⟩ : ∃ e,d = e + 1 := ⟨d - 1,by lia⟩
    have z : (a.lw f tx p k).flatMap (gW 0 (-1) p fun Y => []) = [] := List.flatMap_eq_nil_iff.mpr fun y Y => by unfold gW; cases goes 0 (-1) p y <;> rfl
    have q := c_turns (le := 0) (mo := -1) (mo' := -1) d (by decide) h4 h3 (.inr ⟨by decide,rfl⟩) (g := fun Y => []) (hA d p k (by lia) h) (fun y hy e => by
      rw [go] at e
      have e := of_decide_eq_true e
      have := (inv_l hg h y hy).2.le
      lia) (by rw [z]; show 0 + 1 ≤ 1000000; decide)
    rw [z] at q
    have e : finW 0 gr p k [] = starW gr (a.lw f tx) 0 p k := by unfold finW; rw [if_neg (by decide)]; cases gr <;> rfl
    rw [e] at q
    exact q
  | succ n ih =>
    intro d p k hd hL hn h
    obtain ⟨d,rfl⟩ : ∃ e,d = e + 1 := ⟨d - 1,by lia⟩
    have z : (a.lw f tx p k).flatMap (gW 0 (-1) p fun y => starW gr (a.lw f tx) n y.1 y.2) = (a.lw f tx p k).flatMap fun y => if p < y.1 then starW gr (a.lw f tx) n y.1 y.2 else [] := by
      congr 1
      funext y
      unfold gW
      rw [go]
      by_cases z : p < y.1
      · rw [if_pos z,decide_eq_true z]; rfl
      · rw [if_neg z,decide_eq_false z]; rfl
    have e : finW 0 gr p k ((a.lw f tx p k).flatMap fun y => if p < y.1 then starW gr (a.lw f tx) n y.1 y.2 else []) = starW gr (a.lw f tx) (n + 1) p k := by unfold finW; rw [if_neg (by decide)]; cases gr <;> rfl
    have hl' := L (n + 1) p k tx.length hn hL h
    rw [← e] at hl'
    have q := c_turns (le := 0) (mo := -1) (mo' := -1) d (by decide) h4 h3 (.inr ⟨by decide,rfl⟩) (g := fun y => starW gr (a.lw f tx) n y.1 y.2) (hA d p k (by lia) h) (fun y hy e => by
      rw [go] at e
      have e := of_decide_eq_true e
      have hy' := inv_l hg h y hy
      exact ih d y.1 y.2 (by lia) (by lia) (by lia) hy'.2) (by
        rw [z]
        refine Nat.le_trans (Nat.le_of_eq ?_) (Nat.le_trans hl' hl)
        unfold finW; rw [if_neg (by decide)]; cases gr
        · rfl
        · rw [cond_true,List.length_append]; rfl)
    rw [z,e] at q
    exact q
end
theorem fin_pos {le : Int} {gr : Bool} {p : Nat} {k : Kept} {l : List W1} (h : 0 < le) : finW le gr p k l = l := if_pos h
theorem gW_pos {le mo : Int} {p : Nat} {g : W1 → List W1} (h : 0 < le ∨ 0 < mo) : gW le mo p g = g := by
  funext y
  unfold gW goes
  rcases h with h | h
  · rw [decide_eq_true h]; rfl
  · rw [decide_eq_true h,Bool.true_or,Bool.or_true]; rfl
section
variable {O : List (Nat × Nat)} {a : Re} {A : Nat} {nd : PV}
theorem flat_id : ∀ l : List W1,l.flatMap (fun y => [y]) = l
  | [] => rfl
  | v :: l => by rw [List.flatMap_cons,flat_id l]; rfl
theorem t_one (hg : Gok G (O.map (·.1)) a) (hA : ∀ d p k,A ≤ d → Il G tx O p k → WC d f tx a.pv H p k (a.lw f tx p k)) (h4 : aidx H nd (.int 4) = some a.pv) (h3 : aidx H nd (.int 3) = some (.bool true)) (hl : a.ca tx.length + 1 ≤ lim) {d p : Nat} {k : Kept} (hd : A + 2 ≤ d) (h : Il G tx O p k) :
    TC d f tx 0 1 nd H p k (a.lw f tx p k ++ [(p,k)]) := by
  obtain ⟨d,rfl⟩ : ∃ e,d = e + 1 + 1 := ⟨d - 2,by lia⟩
  have z : (a.lw f tx p k).flatMap (gW 0 1 p fun y => [y]) = a.lw f tx p k := by rw [gW_pos (.inr (by decide)),flat_id]
  have wl := ways_len (f := f) a O hg tx.length p k h (Nat.sub_le _ _)
  have q := c_turns (le := 0) (mo := 1) (mo' := 0) (d + 1) (by decide) h4 h3 (.inl ⟨by decide,by decide⟩) (g := fun y => [y]) (hA (d + 1) p k (by lia) h) (fun y hy e => c_turns0 d) (by rw [z]; lia)
  rw [z] at q
  exact q
theorem t_plus (hg : Gok G (O.map (·.1)) a) (hA : ∀ d p k,A ≤ d → Il G tx O p k → WC d f tx a.pv H p k (a.lw f tx p k)) (h4 : aidx H nd (.int 4) = some a.pv) (h3 : aidx H nd (.int 3) = some (.bool true)) (hs : sA a.ca tx.length ≤ lim) (hl : a.ca tx.length * sA a.ca tx.length + 1 ≤ lim) {d p : Nat} {k : Kept} (hd : A + 2 + tx.length ≤ d) (h : Il G tx O p k) :
    TC d f tx 1 (-1) nd H p k ((a.lw f tx p k).flatMap fun y => starW true (a.lw f tx) (tx.length - y.1) y.1 y.2) := by
  obtain ⟨d,rfl⟩ : ∃ e,d = e + 1 := ⟨d - 1,by lia⟩
  have tot := ways_len (f := f) (.often 1 a) O hg tx.length p k h (Nat.sub_le _ _)
  have q := c_turns (le := 1) (mo := -1) (mo' := -1) d (by decide) h4 h3 (.inr ⟨by decide,rfl⟩) (g := fun y => starW true (a.lw f tx) (tx.length - y.1) y.1 y.2) (hA d p k (by lia) h) (fun y hy e => by
    have hy' := inv_l hg h y hy
    exact t_star hg hA h4 h3 hs (tx.length - y.1) d y.1 y.2 (by lia) (Nat.le_refl _) (Nat.sub_le _ _) hy'.2) (by rw [gW_pos (.inl (by decide))]; exact Nat.le_trans (Nat.succ_le_succ tot) hl)
  rw [gW_pos (.inl (by decide)),fin_pos (by decide)] at q
  exact q
end
theorem c_ways : ∀ (r : Re) (O : List (Nat × Nat)) (d p : Nat) (k : Kept),(∀ x ∈ tx,Sg x) → G ≤ 9 → Gok G (O.map (·.1)) r → Rok tx.length r → r.dp tx.length ≤ d → Il G tx O p k → WC d f tx r.pv H p k (r.lw f tx p k)
  | .sign c,O,d,p,k,hs,h9,hg,ok,hd,h => by
    obtain ⟨d,rfl⟩ : ∃ e,d = e + 3 := ⟨d - 3,by have hd' : 3 ≤ d := hd; lia⟩
    exact c_w_leaf d (u := .char (foldN f c)) rfl rfl (fun x hx => c_takes_sign d f ok hx H) hs
  | .any,O,d,p,k,hs,h9,hg,ok,hd,h => by
    obtain ⟨d,rfl⟩ : ∃ e,d = e + 3 := ⟨d - 3,by have hd' : 3 ≤ d := hd; lia⟩
    exact c_w_leaf d (u := .any) rfl rfl (fun x hx => c_takes_any d f hx H) hs
  | .ins,O,d,p,k,hs,h9,hg,ok,hd,h => by
    obtain ⟨d,rfl⟩ : ∃ e,d = e + 3 := ⟨d - 3,by have hd' : 3 ≤ d := hd; lia⟩
    exact c_w_leaf d (u := .ins) rfl rfl (fun x hx => c_takes_ins d f hx H) hs
  | .out,O,d,p,k,hs,h9,hg,ok,hd,h => by
    obtain ⟨d,rfl⟩ : ∃ e,d = e + 3 := ⟨d - 3,by have hd' : 3 ≤ d := hd; lia⟩
    exact c_w_leaf d (u := .out) rfl rfl (fun x hx => c_takes_out d f hx H) hs
  | .again n,O,d,p,k,hs,h9,hg,ok,hd,h => by
    obtain ⟨d,rfl⟩ : ∃ e,d = e + 2 := ⟨d - 2,by have hd' : 3 ≤ d := hd; lia⟩
    have hp := h.le
    obtain ⟨K,h⟩ := h
    obtain ⟨s,q1,q2⟩ := h.sm n hg.1 hg.2.1 hg.2.2
    exact c_w_again d hg.1 q1 hs hp fun q e => by subst e; exact ⟨q2.2.2.1,q2.2.2.2⟩
  | .either a b,O,d,p,k,hs,h9,hg,ok,hd,h => by
    have hd' : max (a.dp tx.length) (b.dp tx.length) + 1 ≤ d := hd
    obtain ⟨d,rfl⟩ : ∃ e,d = e + 1 := ⟨d - 1,by lia⟩
    have l1 := ways_len (f := f) a O hg.1 tx.length p k h (Nat.sub_le _ _)
    have l2 := ways_len (f := f) b O hg.2 tx.length p k h (Nat.sub_le _ _)
    have l3 : a.ca tx.length + b.ca tx.length ≤ lim := ok.2
    exact c_w_either d (c_ways a O d p k hs h9 hg.1 ok.1.1 (by lia) h) (c_ways b O d p k hs h9 hg.2 ok.1.2 (by lia) h) (Nat.le_trans (Nat.add_le_add l1 l2) l3)
  | .group n a,O,d,p,k,hs,h9,hg,ok,hd,h => by
    have hd' : a.dp tx.length + 1 ≤ d := hd
    obtain ⟨d,rfl⟩ : ∃ e,d = e + 1 := ⟨d - 1,by lia⟩
    obtain ⟨⟨g1,g2,g3⟩,g4⟩ := hg
    obtain ⟨K,h⟩ := h
    have r1 : Il G tx ((n,p) :: O) p k := ⟨_,rl_open g1 g2 g3 h⟩
    exact c_w_group d g1 (c_ways a ((n,p) :: O) d p k hs h9 g4 ok (by lia) r1) fun y hy => by
      obtain ⟨_,_,q⟩ := inv_l (O := (n,p) :: O) g4 r1 y hy
      rw [q.lk]; exact ⟨g2,by lia⟩
  | .both a b,O,d,p,k,hs,h9,hg,ok,hd,h => by
    have hd' : max (a.dp tx.length) (b.dp tx.length) + 1 ≤ d := hd
    obtain ⟨d,rfl⟩ : ∃ e,d = e + 1 := ⟨d - 1,by lia⟩
    have l1 := ways_len (f := f) (.both a b) O hg tx.length p k h (Nat.sub_le _ _)
    have l3 : a.ca tx.length * b.ca tx.length ≤ lim := ok.2
    exact c_w_both d (c_ways a O d p k hs h9 hg.1 ok.1.1 (by lia) h) (fun y hy => c_ways b O d y.1 y.2 hs h9 hg.2 ok.1.2 (by lia) (inv_l hg.1 h y hy).2) (Nat.le_trans l1 l3)
  | .often j a,O,d,p,k,hs,h9,hg,ok,hd,h => by
    have hd' : a.dp tx.length + tx.length + 4 ≤ d := hd
    obtain ⟨d,rfl⟩ : ∃ e,d = e + 1 := ⟨d - 1,by lia⟩
    have g' : Gok G (O.map (·.1)) a := hg
    obtain ⟨hj,ok',hl⟩ := ok
    have hA : ∀ d p k,a.dp tx.length ≤ d → Il G tx O p k → WC d f tx a.pv H p k (a.lw f tx p k) := fun d p k hd h => c_ways a O d p k hs h9 g' ok' hd h
    have i : ∀ p k,Il G tx O p k → ∀ y ∈ a.lw f tx p k,p ≤ y.1 ∧ Il G tx O y.1 y.2 := fun p k h => inv_l g' h
    have tot := ways_len (f := f) (.often j a) O hg tx.length p k h (Nat.sub_le _ _)
    have p1 := ca_pos tx.length a
    have p2 := sA_pos a.ca tx.length
    apply c_w_often
    obtain ⟨d,rfl⟩ : ∃ e,d = e + 1 := ⟨d - 1,by lia⟩
    cases j,hj using six with
    | a0 => exact t_star (nd := (Re.often 0 a).pv) (gr := true) g' hA rfl rfl (Nat.le_of_succ_le hl) (tx.length - p) (d + 1) p k (by lia) (Nat.le_refl _) (Nat.sub_le _ _) h
    | a3 => exact t_star (nd := (Re.often 3 a).pv) (gr := false) g' hA rfl rfl (Nat.le_of_succ_le hl) (tx.length - p) (d + 1) p k (by lia) (Nat.le_refl _) (Nat.sub_le _ _) h
    | a1 => exact t_plus g' hA rfl rfl (Nat.le_trans (Nat.le_mul_of_pos_left _ p1) (Nat.le_of_succ_le hl)) hl (by lia) h
    | a2 => exact t_one g' hA rfl rfl (Nat.le_of_succ_le hl) (by lia) h
    | a4 =>
      have z : (a.lw f tx p k).flatMap (gW 1 2 p fun y => a.lw f tx y.1 y.2 ++ [y]) = (Re.often 4 a).lw f tx p k := by rw [gW_pos (.inl (by decide))]; rfl
      have q := c_turns (f := f) (tx := tx) (H := H) (n := (Re.often 4 a).pv) (le := 1) (mo := 2) (mo' := 1) (gr := true) d (by decide) rfl rfl (.inl ⟨by decide,by decide⟩) (g := fun y => a.lw f tx y.1 y.2 ++ [y]) (hA d p k (by lia) h) (fun y hy e => t_one g' hA rfl rfl (by have hl' : a.ca tx.length * (a.ca tx.length + 1) + 1 ≤ lim := hl; have := Nat.le_mul_of_pos_left (a.ca tx.length + 1) p1; lia) (by lia) (i p k h y hy).2) (by rw [z]; exact Nat.le_trans (Nat.succ_le_succ tot) hl)
      rw [z,fin_pos (by decide)] at q
      exact q
    | a5 =>
      have hl' : a.ca tx.length * (a.ca tx.length * sA a.ca tx.length) + 1 ≤ lim := hl
      have m1 := Nat.le_mul_of_pos_left (sA a.ca tx.length) p1
      have m2 := Nat.le_mul_of_pos_left (a.ca tx.length * sA a.ca tx.length) p1
      have z : (a.lw f tx p k).flatMap (gW 2 (-1) p fun y => (a.lw f tx y.1 y.2).flatMap fun z => starW true (a.lw f tx) (tx.length - z.1) z.1 z.2) = (Re.often 5 a).lw f tx p k := by rw [gW_pos (.inl (by decide))]; rfl
      have q := c_turns (f := f) (tx := tx) (H := H) (n := (Re.often 5 a).pv) (le := 2) (mo := -1) (mo' := -1) (gr := true) d (by decide) rfl rfl (.inr ⟨by decide,rfl⟩) (g := fun y => (a.lw f tx y.1 y.2).flatMap fun z => starW true (a.lw f tx) (tx.length - z.1) z.1 z.2) (hA d p k (by lia) h) (fun y hy e => t_plus g' hA rfl rfl (by lia) (by lia) (by lia) (i p k h y hy).2) (by rw [z]; exact Nat.le_trans (Nat.succ_le_succ tot) hl')
      rw [z,fin_pos (by decide)] at q
      exact q
end
end
section
set_option maxHeartbeats 16000000
theorem Fits.mono {D : Nat} {r : Re} (h : Fits D r) : ∀ {E},D ≤ E → Fits E r := by
  induction h with
  | sign => exact fun Y => .sign
  | any => exact fun Y => .any
  | ins => exact fun Y => .ins
  | out => exact fun Y => .out
  | again => exact fun Y => .again
  | either _ _ A B =>
    intro E hE
    obtain ⟨E,rfl⟩ : ∃ e,E = e + 1 := ⟨E - 1,by lia⟩
    exact .either (A (Nat.le_of_succ_le_succ hE)) (B (Nat.le_of_succ_le_succ hE))
  | group _ A =>
    intro E hE
    obtain ⟨E,rfl⟩ : ∃ e,E = e + 1 := ⟨E - 1,by lia⟩
    exact .group (A (Nat.le_of_succ_le_succ hE))
  | often _ A =>
    intro E hE
    obtain ⟨E,rfl⟩ : ∃ e,E = e + 1 := ⟨E - 1,by lia⟩
    exact .often (A (Nat.sub_le_sub_right (Nat.le_of_succ_le_succ hE) 1))
  | both _ _ A B =>
    intro E hE
    obtain ⟨E,rfl⟩ : ∃ e,E = e + 1 := ⟨E - 1,by lia⟩
    exact .both (A (Nat.le_of_succ_le_succ hE)) (B (Nat.le_of_succ_le_succ hE))
noncomputable def stA (A I : Nat → Nat) (n : Nat) : Nat := max (max (A n + A n) (A n * A n)) (max (I n * (I n * sA I n)) (I n * (I n + 1)))
noncomputable def stB (A B I J : Nat → Nat) (n : Nat) : Nat := max (max (1 + A n + B n + B n) (A n * B n + B n)) (I n * (I n * sB I J n + J n) + J n)
theorem sA_mono {A A' : Nat → Nat} (h : ∀ n,A n ≤ A' n) : ∀ n,sA A n ≤ sA A' n
  | 0 => Nat.le_refl _
  | n + 1 => Nat.add_le_add (Nat.le_refl 1) (mul_up (h _) (sA_mono h n))
theorem sB_mono {A A' B B' : Nat → Nat} (h : ∀ n,A n ≤ A' n) (k : ∀ n,B n ≤ B' n) : ∀ n,sB A B n ≤ sB A' B' n
  | 0 => Nat.add_le_add (Nat.add_le_add (Nat.le_refl 2) (mul_up (h _) (Nat.le_refl 2))) (k _)
  | n + 1 => Nat.add_le_add (Nat.add_le_add (Nat.le_refl 2) (mul_up (h _) (Nat.add_le_add (Nat.le_refl 2) (sB_mono h k n)))) (k _)
theorem sB_pos (A B : Nat → Nat) : ∀ n,1 ≤ sB A B n
  | 0 => by show 1 ≤ 2 + A 0 * 2 + B 0; lia
  | n + 1 => by show 1 ≤ 2 + A (n + 1) * (2 + sB A B n) + B (n + 1); lia
noncomputable def Bnd (A B : Nat → Nat) (r : Re) : Prop := ∀ n,r.ca n ≤ A n ∧ r.cb n ≤ B n
theorem bnd_leaf {A B I J : Nat → Nat} (pos : ∀ n,1 ≤ I n) {r : Re} (h1 : ∀ n,r.ca n = 1) (h2 : ∀ n,r.cb n = 1) : Bnd (stA A I) (stB A B I J) r := fun n => by
  rw [h1,h2]
  constructor
  · exact Nat.le_trans (Nat.mul_pos (pos n) (Nat.succ_pos _)) (Nat.le_trans (Nat.le_max_right _ _) (Nat.le_max_right _ _))
  · exact Nat.le_trans (by lia) (Nat.le_trans (Nat.le_max_left _ _) (Nat.le_max_left _ _))
theorem bnd_often {A B I J : Nat → Nat} (pos : ∀ n,1 ≤ I n) {k : Nat} {a : Re} (h : Bnd I J a) : Bnd (stA A I) (stB A B I J) (.often k a) := fun n => by
  have s1 := sA_mono (fun n => (h n).1) n
  have s2 := sB_mono (fun n => (h n).1) (fun n => (h n).2) n
  obtain ⟨c1,c2⟩ := h n
  have p1 := sB_pos I J n
  have p2 := pos n
  have m1 := Nat.le_mul_of_pos_left (sA I n) p2
  have m2 := Nat.le_mul_of_pos_left (I n * sA I n) p2
  have m3 := mul_up c1 s1
  have m4 := mul_up c1 m3
  have l1 : ∀ x,x ≤ I n * (I n * sA I n) → x ≤ stA A I n := fun x q => Nat.le_trans q (Nat.le_trans (Nat.le_max_left _ _) (Nat.le_max_right _ _))
  have l2 : ∀ x,x ≤ I n * (I n + 1) → x ≤ stA A I n := fun x q => Nat.le_trans q (Nat.le_trans (Nat.le_max_right _ _) (Nat.le_max_right _ _))
  have l3 : ∀ x,x ≤ I n * (I n * sB I J n + J n) + J n → x ≤ stB A B I J n := fun x q => Nat.le_trans q (Nat.le_max_right _ _)
  have n1 := Nat.le_mul_of_pos_left (sB I J n) p2
  have n2 := Nat.le_mul_of_pos_left (I n * sB I J n + J n) p2
  have n3 := mul_up c1 s2
  have n4 := mul_up c1 (Nat.add_le_add n3 c2)
  match k with
  | 0 => exact ⟨l1 _ (by show sA a.ca n ≤ _; lia),l3 _ (by show sB a.ca a.cb n ≤ _; lia)⟩
  | 1 => exact ⟨l1 _ (by show a.ca n * sA a.ca n ≤ _; lia),l3 _ (by show a.ca n * sB a.ca a.cb n + a.cb n ≤ _; lia)⟩
  | 2 => exact ⟨l2 _ (by show a.ca n + 1 ≤ _; exact Nat.le_trans (Nat.succ_le_succ c1) (Nat.le_mul_of_pos_left _ p2)),l3 _ (by show 1 + a.cb n ≤ _; lia)⟩
  | 3 => exact ⟨l1 _ (by show sA a.ca n ≤ _; lia),l3 _ (by show sB a.ca a.cb n ≤ _; lia)⟩
  | 4 =>
    have q := mul_up c1 (Nat.add_le_add (Nat.le_trans p1 n1) c2)
    exact ⟨l2 _ (mul_up c1 (Nat.succ_le_succ c1)),l3 _ (by show a.ca n * (1 + a.cb n) + a.cb n ≤ _; lia)⟩
  | _ + 5 => exact ⟨l1 _ m4,l3 _ (Nat.add_le_add n4 c2)⟩
theorem lvl {D : Nat} {A B I J : Nat → Nat} (hA : ∀ r,Fits D r → Bnd A B r) (hI : ∀ r,Fits (D - 1) r → Bnd I J r) (pos : ∀ n,1 ≤ I n) : ∀ r,Fits (D + 1) r → Bnd (stA A I) (stB A B I J) r := fun r h => by
  cases h with
  | sign => exact bnd_leaf pos (fun Y => rfl) (fun Y => rfl)
  | any => exact bnd_leaf pos (fun Y => rfl) (fun Y => rfl)
  | ins => exact bnd_leaf pos (fun Y => rfl) (fun Y => rfl)
  | out => exact bnd_leaf pos (fun Y => rfl) (fun Y => rfl)
  | again => exact bnd_leaf pos (fun Y => rfl) (fun Y => rfl)
  | @either _ a b ha hb =>
    intro n
    obtain ⟨a1,a2⟩ := hA a ha n
    obtain ⟨b1,b2⟩ := hA b hb n
    exact ⟨Nat.le_trans (Nat.add_le_add a1 b1) (Nat.le_trans (Nat.le_max_left _ _) (Nat.le_max_left _ _)),Nat.le_trans (by show 1 + a.ca n + a.cb n + b.cb n ≤ 1 + A n + B n + B n; lia) (Nat.le_trans (Nat.le_max_left _ _) (Nat.le_max_left _ _))⟩
  | @group _ _ a ha =>
    intro n
    obtain ⟨a1,a2⟩ := hA a ha n
    exact ⟨Nat.le_trans (by show a.ca n ≤ A n + A n; lia) (Nat.le_trans (Nat.le_max_left _ _) (Nat.le_max_left _ _)),Nat.le_trans (by show 1 + a.ca n + a.cb n ≤ 1 + A n + B n + B n; lia) (Nat.le_trans (Nat.le_max_left _ _) (Nat.le_max_left _ _))⟩
  | @often _ k a ha => exact bnd_often pos (hI a ha)
  | @both _ a b ha hb =>
    intro n
    obtain ⟨a1,a2⟩ := hA a ha n
    obtain ⟨b1,b2⟩ := hA b hb n
    exact ⟨Nat.le_trans (mul_up a1 b1) (Nat.le_trans (Nat.le_max_right _ _) (Nat.le_max_left _ _)),Nat.le_trans (Nat.add_le_add (mul_up a1 b2) a2) (Nat.le_trans (Nat.le_max_right _ _) (Nat.le_max_left _ _))⟩
noncomputable def one (_ : Nat) : Nat := 1
theorem lvl0 : ∀ r,Fits 0 r → Bnd one one r := fun r h => by
  fail "=h" <;> exact fun n => ⟨Nat.le_refl _,Nat.le_refl _⟩
noncomputable def A1 := stA one one
noncomputable def B1 := stB one one one one
noncomputable def A2 := stA A1 one
noncomputable def B2 := stB A1 B1 one one
noncomputable def A3 := stA A2 A1
noncomputable def B3 := stB A2 B2 A1 B1
theorem lvl3 : ∀ r,Fits 3 r → Bnd A3 B3 r := by
  have h0 := lvl0
  have h1 := lvl (D := 0) h0 h0 (fun Y => Nat.le_refl _)
  have h2 := lvl (D := 1) h1 h0 (fun Y => Nat.le_refl _)
  refine lvl (D := 2) h2 h1 fun n => ?_
  exact Nat.le_trans (by show 1 ≤ 1 + 1; decide) (Nat.le_trans (Nat.le_max_left _ _) (Nat.le_max_left _ _))
noncomputable def most (n : Nat) : Nat := A3 n + B3 n
theorem most_le {r : Re} (h : Fits 3 r) (n : Nat) : r.ca n + r.cb n ≤ most n := Nat.add_le_add (lvl3 r h n).1 (lvl3 r h n).2
theorem most_all : most 0 + most 1 + most 2 + most 3 + most 4 ≤ 200000 := by decide +kernel
theorem ca_le {r : Re} (h : Fits 3 r) {L : Nat} (hL : L ≤ 4) : r.ca L + 1 ≤ lim := by
  have h1 := (lvl3 r h L).1
  have h2 : A3 L ≤ 10000 := by
    have : ∀ L : Fin 5,A3 L.val ≤ 10000 := by decide +kernel
    exact this ⟨L,Nat.lt_succ_of_le hL⟩
  show r.ca L + 1 ≤ 1000000
  lia
theorem rok {g cl r g' cl'} (w : WF g cl r g' cl') (h : Fits 3 r) {L : Nat} (hL : L ≤ 4) : Rok L r := by
  induction w with
  | sign hc => exact hc
  | either _ _ A B =>
    have hq := ca_le h hL
    cases h with | either ha hb => exact ⟨⟨A (ha.mono (by decide)),B (hb.mono (by decide))⟩,Nat.le_of_succ_le hq⟩
  | group _ A => cases h with | group ha => exact A (ha.mono (by decide))
  | both _ _ A B =>
    have hq := ca_le h hL
    cases h with | both ha hb => exact ⟨⟨A (ha.mono (by decide)),B (hb.mono (by decide))⟩,Nat.le_of_succ_le hq⟩
  | often hk _ A =>
    have hq := ca_le h hL
    cases h with | often ha => exact ⟨hk,A (ha.mono (by decide)),hq⟩
  | _ => trivial
theorem Fits.sizes {D : Nat} {r : Re} (h : Fits D r) : r.len + 4 ≤ 5 * 4 ^ D ∧ r.cs + 9 ≤ 10 * 4 ^ D ∧ r.mk + 1 ≤ 4 ^ D := by
  have pos : ∀ D,1 ≤ 4 ^ D := fun D => Nat.pow_pos (by decide)
  have up : ∀ D,4 ^ (D + 1) = 4 * 4 ^ D := fun D => by rw [Nat.pow_succ,Nat.mul_comm]
  induction h with
  | @sign D => have := pos D; exact ⟨by show 1 + 4 ≤ _; lia,by show 1 + 9 ≤ _; lia,this⟩
  | @any D => have := pos D; exact ⟨by show 1 + 4 ≤ _; lia,by show 1 + 9 ≤ _; lia,this⟩
  | @ins D => have := pos D; exact ⟨by show 1 + 4 ≤ _; lia,by show 1 + 9 ≤ _; lia,this⟩
  | @out D => have := pos D; exact ⟨by show 1 + 4 ≤ _; lia,by show 1 + 9 ≤ _; lia,this⟩
  | @again D => have := pos D; exact ⟨by show 1 + 4 ≤ _; lia,by show 1 + 9 ≤ _; lia,this⟩
  | @either D a b _ _ A B =>
    rw [up]
    generalize 4 ^ D = P at *
    exact ⟨by show a.len + b.len + 2 + 4 ≤ _; lia,by show a.cs + b.cs + 9 + 9 ≤ _; lia,by show a.mk + b.mk + 1 ≤ _; lia⟩
  | @group D n a _ A =>
    rw [up]
    generalize 4 ^ D = P at *
    exact ⟨by show a.len + 2 + 4 ≤ _; lia,by show a.cs + 4 + 9 ≤ _; lia,by show a.mk + 1 ≤ _; lia⟩
  | @both D a b _ _ A B =>
    rw [up]
    generalize 4 ^ D = P at *
    exact ⟨by show a.len + b.len + 4 ≤ _; lia,by show a.cs + b.cs + 9 ≤ _; lia,by show a.mk + b.mk + 1 ≤ _; lia⟩
  | @often D k a _ A =>
    have q : 4 ^ (D - 1) ≤ 4 ^ D := Nat.pow_le_pow_right (by decide) (Nat.sub_le _ _)
    have m : (Re.often k a).len ≤ 3 * a.len + 4 ∧ (Re.often k a).mk ≤ 3 * a.mk + 1 := by
      match k with
      | 0 => exact ⟨by show a.len + 4 ≤ _; lia,by show 1 + a.mk ≤ _; lia⟩
      | 1 => exact ⟨by show a.len + (a.len + 4) ≤ _; lia,by show 1 + (a.mk + a.mk) ≤ _; lia⟩
      | 2 => exact ⟨by show a.len + 1 ≤ _; lia,by show a.mk ≤ _; lia⟩
      | 3 => exact ⟨by show a.len + 4 ≤ _; lia,by show 1 + a.mk ≤ _; lia⟩
      | 4 => exact ⟨by show a.len + (a.len + 1) ≤ _; lia,by show a.mk + a.mk ≤ _; lia⟩
      | _ + 5 => exact ⟨by show a.len + (a.len + (a.len + 4)) ≤ _; lia,by show 1 + (a.mk + (a.mk + a.mk)) ≤ _; lia⟩
    rw [up]
    generalize 4 ^ D = P at *
    exact ⟨by lia,by show 3 * a.cs + 16 + 9 ≤ _; lia,by lia⟩
theorem Fits.deep {D : Nat} {r : Re} (h : Fits D r) {L : Nat} (hL : L ≤ 4) : r.dp L ≤ 3 + 8 * D := by
  induction h with
  | @either D a b _ _ A B => show max _ _ + 1 ≤ _; lia
  | @group D n a _ A => show _ + 1 ≤ _; lia
  | @both D a b _ _ A B => show max _ _ + 1 ≤ _; lia
  | @often D k a _ A => show _ + L + 4 ≤ _; lia
  | _ => exact Nat.le_add_right _ _
end
section
set_option maxHeartbeats 16000000
section
variable {d B : Nat} {S : Stat} {a : Adr} {H : AH} {tk : Nat} {K μ : List Int}
theorem c_run_m {c p : Nat} {res : Option Res} (h : Halts d B S a c 0 p K μ [] res) (rs : RS B S a H tk K μ [] [] []) (ht : tk + c ≤ 400000) :
    ∀ Q : Prop,(∀ H' tk' K' μ' lg' cs',acall text (d + 7) 11 [.ref a.m,.int p] H = some (optPV (res.map (·.1)),H') → MI B S a H' tk' K' μ' lg' cs' → tk' ≤ tk + c → Keep a.five H H' → (∀ q K2,res = some (q,K2) → K' = K2) → Q) → Q := fun Q q => by
  refine h H tk [] [] rs ht Q fun k H' K' μ' lg' cs' h1 h2 h3 h4 h5 => q H' (tk + k) K' μ' lg' cs' ?_ h2 (Nat.add_le_add_left h1 _) h3 h4
  clear q
  obtain ⟨l',e⟩ := h5 none none none
  apply a_call (fd := f_Regmachine_run) (b := b_Regmachine_run) (l := [some (.ref a.m),some (.int p),none,none,none,none]) rfl rfl rfl; delta b_Regmachine_run
  apply x_assign e_int (t_loc (of_decide_eq_true rfl))
  apply x_whilR (n := (1000000 - k) + k) (by show (1000000 : Nat) = _; fail "l")
  · exact e _
  · rfl
  · rfl
theorem rep_one (x : Int) : ∀ n : Nat,rep [PV.int x] n = intsK (List.replicate n x)
  | 0 => rfl
  | n + 1 => by show [PV.int x] ++ rep [PV.int x] n = _; rw [rep_one x n]; rfl
noncomputable def MS (B : Nat) (S : Stat) (m tk : Nat) (H : AH) : Prop := Stc B S H ∧ B ≤ m ∧ ∃ L kp mk ch cg,H[m]? = some (mObj S.c S.v S.t tk L kp mk ch cg)
noncomputable abbrev setup : List Mine.Internal.S := [.assign (.attr (.loc 0) 9) (.loc 2),
  .assign (.attr (.loc 0) 10) (.mulm (.list [(.neg 1)]) (.bin .add (.bin .mul (.int 2) (.attr (.attr (.loc 0) 3) 13)) (.int 2))),
  .assign (.attr (.loc 0) 11) (.mulm (.list [(.neg 1)]) (.attr (.attr (.loc 0) 3) 11)),
  .assign (.attr (.loc 0) 12) (.listm []),
  .assign (.attr (.loc 0) 2) (.listm [])]
noncomputable abbrev newA (H : AH) (m : Nat) : Adr := ⟨m,H.length,H.length + 1,H.length + 2,H.length + 3⟩
theorem set_app {α : Type} {H r : List α} {i : Nat} {o : α} (h : i < H.length) : (H ++ r).set i o = H.set i o ++ r := List.set_append_left _ _ h
noncomputable abbrev ready (S : Stat) (H : AH) (m tk : Nat) : AH := H.set m (mS S (newA H m) tk) ++ [.list (intsK (List.replicate (2 * S.g + 2) (-1))),.list (intsK (List.replicate S.nm (-1))),.list [],.list []]
theorem c_setup (cf : CF) {m L kp mk ch cg : Nat} (s : Stc B S H) (hm : H[m]? = some (mObj S.c S.v S.t tk L kp mk ch cg)) (hB : B ≤ m) (hg : S.g ≤ 9) (hn : S.nm ≤ 1000) (p : Nat) :
    aexecs text cf setup [some (.ref m),some (.int p),some (.int S.tx.length),none,none] H = some (.next,[some (.ref m),some (.int p),some (.int S.tx.length),none,none],ready S H m tk) := by
  have lm := lk_lt hm
  have nc : S.c ≠ m := fun z => Nat.lt_irrefl m (Nat.lt_of_lt_of_le (z ▸ s.lt.1) hB)
  have nc' : m ≠ S.c := Ne.symm nc
  have s1 := s.hc
  have h3 : 0 ≤ ((2 * S.g : Nat) : Int) + 2 ∧ ((2 * S.g : Nat) : Int) + 2 ≤ lim ∧ [PV.int (-1)].length * (((2 * S.g : Nat) : Int) + 2).toNat ≤ lim := ⟨by fail "l",by show _ ≤ ((1000000 : Nat) : Int); fail "l",by show 1 * _ ≤ 1000000; fail "l"⟩
  have h4 : 0 ≤ (S.nm : Int) ∧ (S.nm : Int) ≤ lim ∧ [PV.int (-1)].length * (S.nm : Int).toNat ≤ lim := ⟨by fail "l",by show _ ≤ ((1000000 : Nat) : Int); fail "l",by show 1 * _ ≤ 1000000; fail "l"⟩
  have r1 : rep [PV.int (-1)] (((2 * S.g : Nat) : Int) + 2).toNat = intsK (List.replicate (2 * S.g + 2) (-1)) := by rw [rep_one]; rfl
  have r2 : rep [PV.int (-1)] (S.nm : Int).toNat = intsK (List.replicate S.nm (-1)) := by rw [rep_one]; rfl
  have ln : ∀ o,(H.set m o).length = H.length := fun o => List.length_set
  have st : ∀ (o o' : AObj) (r : AH),(H.set m o ++ r).set m o' = H.set m o' ++ r := fun o o' r => by rw [set_app (by rw [ln]; exact lm),List.set_set]
  have main : ∃ X,aexecs text cf setup [some (.ref m),some (.int p),some (.int S.tx.length),none,none] H = some (.next,[some (.ref m),some (.int p),some (.int S.tx.length),none,none],X) ∧ X = ready S H m tk := by
    apply Exists.intro
    apply And.intro
    · repeat (first | (with_reducible exact mul2 _ hg) | fail "ev")
    · simp only [ln,st,r1,r2,List.set_set,List.length_append,List.length_cons,List.length_nil,List.append_assoc,List.cons_append,List.nil_append]
      rfl
  obtain ⟨X,e,rfl⟩ := main
  exact e
end
end
section
set_option maxHeartbeats 16000000
section
variable {d B : Nat} {S : Stat} {H : AH} {tk m : Nat}
noncomputable def Under (B : Nat) (H H' : AH) : Prop := H.length ≤ H'.length ∧ ∀ i o,H[i]? = some o → i < B → H'[i]? = some o
theorem Under.trans {H1 H2 : AH} (a : Under B H H1) (b : Under B H1 H2) : Under B H H2 := ⟨Nat.le_trans a.1 b.1,fun i o h hi => b.2 i o (a.2 i o h hi) hi⟩
theorem Under.set {i : Nat} {o : AObj} (h : B ≤ i) : Under B H (H.set i o) := ⟨by rw [List.length_set]; exact Nat.le_refl _,fun j q e hj => lk_ne (by fail "l") e⟩
theorem Under.app {X : AH} : Under B H (H ++ X) := ⟨by rw [List.length_append]; exact Nat.le_add_right _ _,fun j q e Y => lk_app e⟩
theorem at_new {α : Type} {P r : List α} {n k : Nat} {o : α} (h : P.length = n) (e : r[k]? = some o) : (P ++ r)[n + k]? = some o := by subst h; exact lk_at e
theorem ready_rs {L kp mk ch cg : Nat} (s : Stc B S H) (hm : H[m]? = some (mObj S.c S.v S.t tk L kp mk ch cg)) (hB : B ≤ m) : RS B S (newA H m) (ready S H m tk) tk (List.replicate (2 * S.g + 2) (-1)) (List.replicate S.nm (-1)) [] [] [] := by
  have lm := lk_lt hm
  have ln : ∀ o,(H.set m o).length = H.length := fun o => List.length_set
  refine ⟨⟨s.step ?_,⟨hB,?_,?_,?_,?_⟩,⟨?_,?_,?_,?_,?_,?_,?_,?_,?_,?_⟩,lk_app (lk_same lm),at_new (k := 0) (ln _) rfl,at_new (ln _) rfl,at_new (ln _) rfl,at_new (ln _) rfl,fun c h => nomatch h⟩,(fun e h => nomatch h),.nil,Nat.zero_le _,Nat.zero_le _⟩
  · exact fun i o e hi => lk_app (lk_ne (by fail "l") e)
  · show B ≤ H.length; fail "l"
  · show B ≤ H.length + 1; fail "l"
  · show B ≤ H.length + 2; fail "l"
  · show B ≤ H.length + 3; fail "l"
  · show m ≠ H.length; fail "l"
  · show m ≠ H.length + 1; fail "l"
  · show m ≠ H.length + 2; fail "l"
  · show m ≠ H.length + 3; fail "l"
  · show H.length ≠ H.length + 1; fail "l"
  · show H.length ≠ H.length + 2; fail "l"
  · show H.length ≠ H.length + 3; fail "l"
  · show H.length + 1 ≠ H.length + 2; fail "l"
  · show H.length + 1 ≠ H.length + 3; fail "l"
  · show H.length + 2 ≠ H.length + 3; fail "l"
theorem same_pv {tx : List Nat} {x y : Int} {s : Option (Nat × Nat)} (h : Same tx x y s) : spanPV x y = spPV s := by
  unfold spanPV
  cases s with
  | none => have h' : (decide (x < 0) || decide (y < 0)) = true := h; rw [h']; rfl
  | some s =>
    obtain ⟨rfl,rfl,_⟩ := h
    rw [decide_eq_false (by fail "l"),decide_eq_false (by fail "l")]; rfl
theorem c_spans (d : Nat) {L kp mk ch cg : Nat} (hm : H[m]? = some (mObj S.c S.v S.t tk L kp mk ch cg)) {K : List Int} (hk : H[kp]? = some (.list (intsK K))) (l : Loc) (hl : 4 < l.length) (h0 : l[0]? = some (some (.ref m))) : ∀ (ks : Kept) (j : Nat),j + ks.length ≤ 10 → 2 * (j + ks.length) ≤ K.length →
    (∀ i s,ks[i]? = some s → Same S.tx (K.getD (2 * (j + i)) (-1)) (K.getD (2 * (j + i) + 1) (-1)) s) →
    compV (citem text (acall text (d + 1)) (.callM (.loc 0) 15 [.loc 4]) (.loc 4) (.bool true) l) (intsFrom j ks.length) H = some (ks.map spPV,H)
  | [],_,_,_,_ => rfl
  | s :: ks,j,h10,hK,h => by
    rw [List.length_cons] at h10 hK
    have ih := c_spans d hm hk l hl h0 ks (j + 1) (by fail "l") (by fail "l") fun i s e => by
      have := h (i + 1) s e
      rw [show j + (i + 1) = j + 1 + i by fail "l"] at this
      exact this
    have x1 : K[2 * j]? = some (K.getD (2 * j) (-1)) := by rw [List.getD_eq_getElem?_getD,List.getElem?_eq_getElem (by fail "l")]; rfl
    have x2 : K[2 * j + 1]? = some (K.getD (2 * j + 1) (-1)) := by rw [List.getD_eq_getElem?_getD,List.getElem?_eq_getElem (by fail "l")]; rfl
    have e := c_span d hm (n := j) (by fail "l") hk (ints_get x1) (ints_get x2)
    have hs0 := h 0 s rfl
    rw [Nat.add_zero] at hs0
    rw [same_pv hs0] at e
    have t4 : aassign text (acall text (d + 1)) (.loc 4) (.int j) l H = some (l.set 4 (some (.int j)),H) := t_loc hl
    have l4 : (l.set 4 (some (.int j)))[4]? = some (some (.int j)) := lk_same hl
    have l0 : (l.set 4 (some (.int j)))[0]? = some (some (.ref m)) := lk_ne (by decide) h0
    have he : aeval text (acall text (d + 1)) (.callM (.loc 0) 15 [.loc 4]) (l.set 4 (some (.int j))) H = some (spPV s,H) := by
      clear t4 h0 h ih
      generalize l.set 4 (some (.int j)) = l' at *
      repeat fail "ev"
    exact cv_some (ci_some t4 e_bool he) ih
noncomputable def due (p : Nat) : Option W1 → PV
  | none => .none
  | some y => .lst (.tup [.int p,.int y.1] :: y.2.map spPV)
noncomputable abbrev spanB : List Mine.Internal.S := [.assign (.loc 3) (.callM (.loc 0) 14 [(.loc 1)]),
  .ife (.cmp .is (.loc 3) .none) [(.ret .none)] [],
  .assign (.tup [(.idx (.attr (.loc 0) 10) (.int 0)),(.idx (.attr (.loc 0) 10) (.int 1))]) (.tup [(.loc 1),(.loc 3)]),
  .ret (.comp (.callM (.loc 0) 15 [(.loc 4)]) (.loc 4) (.range [(.bin .add (.attr (.attr (.loc 0) 3) 13) (.int 1))]) (.bool true))]
theorem c_match (d : Nat) {r : Re} {p : Nat} (ms : MS B S m tk H) (h9 : S.g ≤ 9) (hnm : S.nm = r.mk) (hrows : S.rows = r.comp S.f 0 0 ++ [.done]) (hg : Gok S.g [] r) (hL : S.tx.length ≤ 4) (hp : p ≤ S.tx.length) (hf : Fits 3 r) (ht : tk + most (S.tx.length - p) ≤ 400000) :
    ∀ Q : Prop,(∀ H' tk',acall text (d + 8) 9 [.ref m,.int p,.int S.tx.length] H = some (due p (r.lw S.f S.tx p (List.replicate S.g none)).head?,H') → MS B S m tk' H' → tk' ≤ tk + most (S.tx.length - p) → Under B H H' → Q) → Q := fun Q kq => by
  obtain ⟨s,hB,L,kp,mk,ch,cg,hm⟩ := ms
  have lm := lk_lt hm
  have nm : S.nm ≤ 1000 := by rw [hnm]; have := hf.sizes.2.2; fail "l"
  have e1 := c_setup (acall text (d + 7)) s hm hB h9 nm p
  have rs := ready_rs s hm hB
  have rl : Rl S.g S.tx [] p (List.replicate S.g none) (List.replicate (2 * S.g + 2) (-1)) := by
    refine ⟨List.length_replicate,List.length_replicate,hp,(fun q h => nomatch h),fun n h1 h2 Y => ⟨none,?_,?_⟩⟩
    · rw [List.getElem?_replicate]; exact if_pos (by fail "l")
    · show (decide _ || decide _) = true
      rw [List.getD_eq_getElem?_getD,List.getElem?_replicate,if_pos (by fail "l")]; rfl
  have run := run_ends (d := d) (B := B) (a := newA H m) (n := S.tx.length - p) h9 (by fail "l") hg hrows (p := p) (K := List.replicate (2 * S.g + 2) (-1)) (μ := List.replicate S.nm (-1)) ⟨_,rl⟩ (by rw [List.length_replicate,hnm]; exact Nat.le_refl _) (Nat.le_refl _)
  refine c_run_m run rs (Nat.le_trans (Nat.add_le_add_left (most_le hf _) _) ht) Q fun H1 tk1 K' μ' lg' cs' e2 mi tk2 kp1 hK => ?_
  have w2 := ways_two (f := S.f) r [] hg p _ _ rl
  have u0 : Under B H (ready S H m tk) := (Under.set hB).trans Under.app
  have u1 : Under B H H1 := u0.trans ⟨kp1.len,fun i o e hi => kp1.get i o e (mi.out hi)⟩
  have tkb : tk1 ≤ tk + most (S.tx.length - p) := Nat.le_trans tk2 (Nat.add_le_add_left (most_le hf _) _)
  have e3 : ∀ fl l' H' v,aexecs text (acall text (d + 7)) spanB [some (.ref m),some (.int p),some (.int S.tx.length),none,none] (ready S H m tk) = some (fl,l',H') → retOf fl = some v → acall text (d + 8) 9 [.ref m,.int p,.int S.tx.length] H = some (v,H') := fun fl l' H' v h1 h2 => by
    refine a_call (l1 := l') (fd := f_Regmachine_match_at) (b := setup ++ spanB) (l := [some (.ref m),some (.int p),some (.int S.tx.length),none,none]) rfl rfl rfl ?_ h2 rfl
    rw [xs_app,e1]
    exact h1
  clear e1 run rs u0 rl
  have s3 := mi.hm
  generalize hR : ready S H m tk = R at *
  have hRm : R[m]? = some (mObj S.c S.v S.t tk S.tx.length H.length (H.length + 1) (H.length + 2) (H.length + 3)) := by rw [← hR]; exact lk_app (lk_same lm)
  clear hR
  generalize hw : r.lw S.f S.tx p (List.replicate S.g none) = lw at *
  have hw' : r.ways (LO S.f S.tx) S.f S.tx p (List.replicate S.g none) = lw := hw
  rw [hw'] at w2
  have hmw : r.ways (MO S.f S.tx) S.f S.tx p (List.replicate (2 * S.g + 2) (-1)) = r.mw S p (List.replicate (2 * S.g + 2) (-1)) := rfl
  rw [hmw] at w2
  generalize r.mw S p (List.replicate (2 * S.g + 2) (-1)) = mw at *
  cases w2 with
  | nil =>
    have e2' : acall text (d + 7) 11 [.ref m,.int p] R = some (.none,H1) := e2
    refine kq H1 tk1 ?_ ⟨mi.st,hB,_,_,_,_,_,mi.hm⟩ tkb u1
    clear kq
    apply e3 (.ret .none) [some (.ref m),some (.int p),some (.int S.tx.length),some .none,none] H1 .none ?_ rfl
    clear e3
    repeat fail "ev"
  | @cons y z ys zs hyz _ =>
    obtain ⟨y1,y2⟩ := y
    obtain ⟨z1,z2⟩ := z
    obtain ⟨q1,q2,q3⟩ := hyz
    cases q1
    have q3' : Rl S.g S.tx [] y1 y2 z2 := q3
    have hK' : K' = z2 := hK y1 z2 rfl
    subst hK'
    have e2' : acall text (d + 7) 11 [.ref m,.int p] R = some (.int y1,H1) := e2
    have lK : K'.length = 2 * S.g + 2 := q3'.lK
    have hk := mi.hk
    have lk := lk_lt hk
    have ne : m ≠ H.length := mi.nd.1
    have f1 : asetidx H1 (.ref H.length) (.int 0) (.int p) = some (H1.set H.length (.list (intsK (K'.set 0 p)))) := by
      have := set_ref (i := ((0 : Nat) : Int)) (v := .int p) hk (place_nat (by unfold intsK; rw [List.length_map,lK]; fail "l"))
      rw [ints_set] at this; exact this
    have f2 : asetidx (H1.set H.length (.list (intsK (K'.set 0 p)))) (.ref H.length) (.int 1) (.int y1) = some (H1.set H.length (.list (intsK ((K'.set 0 p).set 1 y1)))) := by
      have := set_ref (i := ((1 : Nat) : Int)) (v := .int y1) (lk_same (o := AObj.list (intsK (K'.set 0 p))) lk) (place_nat (by unfold intsK; rw [List.length_map,List.length_set,lK]; fail "l"))
      rw [ints_set,List.set_set] at this; exact this
    have g1 : (H1.set H.length (.list (intsK (K'.set 0 p))))[m]? = some (mObj S.c S.v S.t tk1 S.tx.length H.length (H.length + 1) (H.length + 2) (H.length + 3)) := lk_ne (Ne.symm ne) s3
    have g2 : (H1.set H.length (.list (intsK ((K'.set 0 p).set 1 y1))))[m]? = some (mObj S.c S.v S.t tk1 S.tx.length H.length (H.length + 1) (H.length + 2) (H.length + 3)) := lk_ne (Ne.symm ne) s3
    have g3 : (H1.set H.length (.list (intsK ((K'.set 0 p).set 1 y1))))[H.length]? = some (.list (intsK ((K'.set 0 p).set 1 y1))) := lk_same lk
    have uk : Under B H1 (H1.set H.length (.list (intsK ((K'.set 0 p).set 1 y1)))) := Under.set mi.ge.2.1
    have g4 := uk.2 _ _ mi.st.hc mi.st.lt.1
    have st3 := mi.st.step uk.2
    have sp := c_spans (d + 6) g2 g3 [some (.ref m),some (.int p),some (.int S.tx.length),some (.int y1),none] (of_decide_eq_true rfl) rfl (some (p,y1) :: y2) 0 (by rw [List.length_cons,q3'.lk]; fail "l") (by rw [List.length_set,List.length_set,List.length_cons,q3'.lk,lK]; fail "l") fun i s e => by
      cases i with
      | zero =>
        cases e
        refine ⟨?_,?_,q2,q3'.le⟩
        · show ((K'.set 0 (p : Int)).set 1 (y1 : Int)).getD 0 (-1) = _
          rw [getD_set_ne (by decide),getD_set_self (by fail "l")]
        · exact getD_set_self (by rw [List.length_set]; fail "l")
      | succ i =>
        have hi : i < y2.length := lk_lt e
        have hiG : i + 1 ≤ S.g := by rw [q3'.lk] at hi; fail "l"
        obtain ⟨s',r1,r2⟩ := q3'.sm (i + 1) (by fail "l") hiG (fun h => nomatch h)
        have r1' : y2[i]? = some s' := r1
        have e' : y2[i]? = some s := e
        rw [r1'] at e'
        cases e'
        rw [show 2 * (0 + (i + 1)) = 2 * (i + 1) by fail "l",getD_set_ne (by fail "l"),getD_set_ne (by fail "l"),getD_set_ne (by fail "l"),getD_set_ne (by fail "l")]
        exact r2
    have hr : srcRange [.int ((S.g : Int) + 1)] = some (.vals (intsFrom ((0 : Nat) : Int) (some (p,y1) :: y2).length)) := by
      rw [range1 (by unfold lim; fail "l"),List.length_cons,q3'.lk]; rfl
    have fin : acall text (d + 8) 9 [.ref m,.int p,.int S.tx.length] H = some (.lst ((some (p,y1) :: y2).map spPV),H1.set H.length (.list (intsK ((K'.set 0 p).set 1 y1)))) := by
      clear kq e2 hK mi kp1 tkb u1 uk st3 q3 q3' hw hw' hnm hrows hg hf ht s hm nm
      generalize H1.set H.length (.list (intsK (K'.set 0 p))) = H2 at *
      generalize H1.set H.length (.list (intsK ((K'.set 0 p).set 1 y1))) = H3 at *
      generalize hks : (some (p,y1) :: y2) = ks at sp hr ⊢
      generalize ks.map spPV = W at sp ⊢
      apply e3
      · repeat fail "ev"
      · rfl
    exact kq _ tk1 fin ⟨st3,hB,_,_,_,_,_,g2⟩ tkb (u1.trans uk)
end
end
section
set_option maxHeartbeats 16000000
section
variable {d B : Nat} {S : Stat} {H : AH} {tk m : Nat}
theorem c_new_machine (d : Nat) (H : AH) (c v t : Nat) (xs : List PV) (hx : xs = [] ∨ xs = [.int 0]) : acall text (d + 1) 8 (.ref H.length :: .ref c :: .ref v :: .ref t :: xs) (H ++ [.inst 1 []]) = some (.none,H ++ [mObj c v t 0 0 (H.length + 1) (H.length + 2) (H.length + 3) (H.length + 4),.list [],.list [],.list [],.list []]) := by
  rcases hx with rfl | rfl
  all_goals
    apply a_call (fd := f_Regmachine_init) (b := b_Regmachine_init) (l := [some (.ref H.length),some (.ref c),some (.ref v),some (.ref t),some (.int 0),some (.int 400000)]) rfl rfl rfl; delta b_Regmachine_init
    repeat fail "ev"
theorem c_textrow (d : Nat) (H : AH) (tx : List Nat) : acall text (d + 1) 59 [.ref H.length,.lst (codesOf tx),.int 0] (H ++ [.inst 8 []]) = some (.none,H ++ [vObj tx]) := by
  apply a_call (fd := f_TextRow_init) (b := b_TextRow_init) (l := [some (.ref H.length),some (.lst (codesOf tx)),some (.int 0)]) rfl rfl rfl; delta b_TextRow_init
  repeat fail "ev"
theorem c_table (d : Nat) (H : AH) : acall text (d + 1) 55 [.ref H.length] (H ++ [.inst 7 []]) = some (.none,H ++ [tObj (H.length + 1),.dict []]) := by
  apply a_call (fd := f_SyntaxTable_init) (b := b_SyntaxTable_init) (l := [some (.ref H.length),some (.none)]) rfl rfl rfl; delta b_SyntaxTable_init
  repeat fail "ev"
theorem c_end (d : Nat) {v : Nat} {tx : List Nat} (h : H[v]? = some (vObj tx)) : acall text (d + 1) 60 [.ref v] H = some (.int tx.length,H) := by
  have e : ((0 : Int) + ((codesOf tx).length : Nat)) = tx.length := by rw [codes_len]; lia
  apply a_call (fd := f_TextRow_end) (b := b_TextRow_end) (l := [some (.ref v)]) rfl rfl rfl; delta b_TextRow_end
  repeat fail "ev"
  · show some (PV.int _) = _; rw [e]
  · rfl
noncomputable def hit (S : Stat) (r : Re) (p : Nat) : Option (Nat × W1) := (r.lw S.f S.tx p (List.replicate S.g none)).head?.map fun y => (p,y)
noncomputable def vd : Option (Nat × W1) → PV
  | none => .none
  | some q => due q.1 (some q.2)
theorem vd_hit (r : Re) (p : Nat) : vd (hit S r p) = due p (r.lw S.f S.tx p (List.replicate S.g none)).head? := by
  unfold hit
  cases (r.lw S.f S.tx p (List.replicate S.g none)).head? <;> rfl
noncomputable def hits (S : Stat) (r : Re) : Nat → Nat → Option (Nat × W1)
  | _,0 => none
  | j,n + 1 => (hit S r j).or (hits S r (j + 1) n)
noncomputable def tot : Nat → Nat
  | 0 => 0
  | n + 1 => tot n + most n
theorem tot_le {L : Nat} (h : L ≤ 4) : tot (L + 1) ≤ 200000 := by
  have := most_all
  match L,h with
  | 0,_ => show 0 + most 0 ≤ _; lia
  | 1,_ => show 0 + most 0 + most 1 ≤ _; lia
  | 2,_ => show 0 + most 0 + most 1 + most 2 ≤ _; lia
  | 3,_ => show 0 + most 0 + most 1 + most 2 + most 3 ≤ _; lia
  | 4,_ => show 0 + most 0 + most 1 + most 2 + most 3 + most 4 ≤ _; lia
theorem most_tot {n L : Nat} (h : n ≤ L) : most n ≤ tot (L + 1) := by
  induction L with
  | zero => rw [Nat.le_zero.mp h]; exact Nat.le_add_left _ _
  | succ L ih =>
    rcases Nat.eq_or_lt_of_le h with rfl | h
    · exact Nat.le_add_left _ _
    · exact Nat.le_trans (ih (Nat.le_of_lt_succ h)) (Nat.le_add_right _ _)
structure Ready (S : Stat) (r : Re) : Prop where
  h9 : S.g ≤ 9
  nm : S.nm = r.mk
  rows : S.rows = r.comp S.f 0 0 ++ [.done]
  hg : Gok S.g [] r
  hL : S.tx.length ≤ 4
  hf : Fits 3 r
noncomputable abbrev seaB : List Mine.Internal.S := [(.assign (.loc 9) (.callM (.loc 6) 59 [(.loc 8),(.loc 7)])),(.ife (.cmp .isnot (.loc 9) .none) [(.ret (.loc 9))] [])]
noncomputable abbrev seaL (S : Stat) (m : Nat) (x y : Option PV) : Loc := [some (.ref S.v),some (.ref S.t),some (.int 0),some (.ref S.c),some (.int S.tx.length),some (.int 0),some (.ref m),some (.int S.tx.length),x,y]
theorem c_search_turns (d : Nat) {r : Re} (rd : Ready S r) : ∀ (n j : Nat) (x y : Option PV) (H : AH) (tk : Nat),j + n = S.tx.length + 1 → MS B S m tk H → tk + tot n ≤ 400000 →
    ∃ H' l',forV (fitem text (acall text (d + 8)) (.loc 8) seaB) (intsFrom j n) (seaL S m x y) H = some ((match hits S r j n with | none => .next | some q => .ret (vd (some q))),l',H') ∧ Under B H H'
  | 0,j,x,y,H,tk,_,_,_ => ⟨H,_,rfl,Nat.le_refl _,fun Y Y e Y => e⟩
  | n + 1,j,x,y,H,tk,hj,ms,ht => by
    have ht' : tk + (tot n + most n) ≤ 400000 := ht
    refine c_match d (p := j) ms rd.h9 rd.nm rd.rows rd.hg rd.hL (by lia) rd.hf (by rw [show S.tx.length - j = n by lia]; lia) _ fun H1 tk1 e ms1 tk2 u => ?_
    rw [show S.tx.length - j = n by lia] at tk2
    rw [← vd_hit] at e
    obtain ⟨s,hB,L,kp,mk,ch,cg,hm⟩ := ms
    have ht8 : aassign text (acall text (d + 8)) (.loc 8) (.int j) (seaL S m x y) H = some (seaL S m (some (.int j)) y,H) := rfl
    have hh : hits S r j (n + 1) = (hit S r j).or (hits S r (j + 1) n) := rfl
    rw [hh]
    cases hq : hit S r j with
    | none =>
      rw [hq] at e
      obtain ⟨H2,l',e2,u2⟩ := c_search_turns d rd n (j + 1) (some (.int j)) (some .none) H1 tk1 (by lia) ms1 (by lia)
      refine ⟨H2,l',?_,u.trans u2⟩
      rw [Option.none_or]
      have e' : acall text (d + 8) 9 [.ref m,.int j,.int S.tx.length] H = some (.none,H1) := e
      clear e ms1 hh hq
      have hb : ∃ l2,aexecs text (acall text (d + 8)) seaB (seaL S m (some (.int j)) y) H = some (.next,l2,H1) ∧ l2 = seaL S m (some (.int j)) (some .none) := by
        clear e2
        apply Exists.intro
        apply And.intro
        · repeat fail "ev"
        · rfl
      obtain ⟨l2,hb,rfl⟩ := hb
      exact fv_next (f_item ht8 hb) e2
    | some q =>
      rw [hq] at e
      have e' : acall text (d + 8) 9 [.ref m,.int j,.int S.tx.length] H = some (vd (some q),H1) := e
      have nn : acmp .isnot H1 (vd (some q)) .none = some true := rfl
      refine ⟨H1,seaL S m (some (.int j)) (some (vd (some q))),?_,u⟩
      show forV _ (.int j :: intsFrom (j + 1) n) _ H = some (Fl.ret (vd (some q)),_,H1)
      generalize vd (some q) = V at *
      clear e ms1 hh hq
      have hb : ∃ l2,aexecs text (acall text (d + 8)) seaB (seaL S m (some (.int j)) y) H = some (.ret V,l2,H1) ∧ l2 = seaL S m (some (.int j)) (some V) := by
        apply Exists.intro
        apply And.intro
        · repeat fail "ev"
        · rfl
      obtain ⟨l2,hb,rfl⟩ := hb
      exact fv_ret (f_item ht8 hb)
theorem c_search (d : Nat) {r : Re} (rd : Ready S r) (st : Stc B S H) (hB : B ≤ H.length) : ∃ H',acall text (d + 9) 53 [.ref S.v,.ref S.t,.int 0,.ref S.c,.int S.tx.length,.int 0] H = some (vd (hits S r 0 (S.tx.length + 1)),H') := by
  have e1 := c_new_machine (d + 7) H S.c S.v S.t [.int 0] (.inr rfl)
  have u1 : Under B H (H ++ [mObj S.c S.v S.t 0 0 (H.length + 1) (H.length + 2) (H.length + 3) (H.length + 4),.list [],.list [],.list [],.list []]) := Under.app
  have ms : MS B S H.length 0 (H ++ [mObj S.c S.v S.t 0 0 (H.length + 1) (H.length + 2) (H.length + 3) (H.length + 4),.list [],.list [],.list [],.list []]) := ⟨st.step u1.2,hB,_,_,_,_,_,lk_new⟩
  have gv := ms.1.hv
  have e2 := c_end (d + 7) gv
  obtain ⟨H',l',e3,_⟩ := c_search_turns d rd (S.tx.length + 1) 0 none none _ 0 (Nat.zero_add _) ms (by have := tot_le rd.hL; lia)
  have hmin : abi .min (H ++ [mObj S.c S.v S.t 0 0 (H.length + 1) (H.length + 2) (H.length + 3) (H.length + 4),.list [],.list [],.list [],.list []]) [.int S.tx.length,.int S.tx.length] = some (.int S.tx.length) := by
    show some (PV.int (min (S.tx.length : Int) S.tx.length)) = _; rw [Int.min_self]
  have hsrc : srcRange [.int 0,.int ((S.tx.length : Int) + 1)] = some (.vals (intsFrom ((0 : Nat) : Int) (S.tx.length + 1))) := by
    have := rd.hL
    rw [range2 (by unfold lim; lia)]; rfl
  refine ⟨H',?_⟩
  generalize (H ++ [mObj S.c S.v S.t 0 0 (H.length + 1) (H.length + 2) (H.length + 3) (H.length + 4),.list [],.list [],.list [],.list []]) = G at *
  clear ms u1 st rd
  generalize hits S r 0 (S.tx.length + 1) = q at *
  cases q with
  | none =>
    apply a_call (fd := f_re_search_forward) (b := b_re_search_forward) (l := [some (.ref S.v),some (.ref S.t),some (.int 0),some (.ref S.c),some (.int S.tx.length),some (.int 0),none,none,none,none]) rfl rfl rfl; delta b_re_search_forward
    apply x_assign
    · repeat fail "ev"
    · repeat fail "ev"
    apply x_assign
    · repeat fail "ev"
    · repeat fail "ev"
    apply x_for
    · repeat fail "ev"
    · exact e3
    · repeat fail "ev"
    repeat fail "ev"
  | some q =>
    apply a_call (fd := f_re_search_forward) (b := b_re_search_forward) (l := [some (.ref S.v),some (.ref S.t),some (.int 0),some (.ref S.c),some (.int S.tx.length),some (.int 0),none,none,none,none]) rfl rfl rfl; delta b_re_search_forward
    apply x_assign
    · repeat fail "ev"
    · repeat fail "ev"
    apply x_assign
    · repeat fail "ev"
    · repeat fail "ev"
    apply x_forR
    · repeat fail "ev"
    · exact e3
    · rfl
    · rfl
end
end
section
set_option maxHeartbeats 16000000
theorem flat_sp (s : Option (Nat × Nat)) : PV.flat (spPV s) 3 = true := by cases s <;> rfl
theorem eqs_cons {a b : PV} {r t : List PV} (h : PV.eq a b = some true) (k : PV.eqs r t = some true) : PV.eqs (a :: r) (b :: t) = some true := bd_eq h (bd_eq k rfl)
theorem eq_int (i : Int) : PV.eq (.int i) (.int i) = some true := congrArg some (beq_self_eq_true i)
theorem eq_sp (s : Option (Nat × Nat)) : PV.eq (spPV s) (spPV s) = some true := by
  cases s with
  | none => rfl
  | some s => exact eqs_cons (r := [.int s.2]) (t := [.int s.2]) (eq_int s.1) (eqs_cons (r := []) (t := []) (eq_int s.2) rfl)
theorem flats_sp : ∀ k : Kept,PV.flats (k.map spPV) 3 = true
  | [] => rfl
  | s :: k => Bool.and_eq_true_iff.mpr ⟨flat_sp s,flats_sp k⟩
theorem eqs_sp : ∀ k : Kept,PV.eqs (k.map spPV) (k.map spPV) = some true
  | [] => rfl
  | s :: k => eqs_cons (eq_sp s) (eqs_sp k)
theorem vd_eq (H : AH) (q : Option (Nat × W1)) : acmp .eq H (vd q) (vd q) = some true := by
  cases q with
  | none => rfl
  | some q =>
    obtain ⟨p,y1,y2⟩ := q
    exact whn_eq (Bool.and_eq_true_iff.mpr ⟨flats_sp (some (p,y1) :: y2),flats_sp (some (p,y1) :: y2)⟩) (eqs_sp (some (p,y1) :: y2))
theorem vd_ne (H : AH) (q : Option (Nat × W1)) : acmp .ne H (vd q) (vd q) = some false := by
  have := vd_eq H q
  show (PV.eqH H (vd q) (vd q)).map (!·) = some false
  have e : PV.eqH H (vd q) (vd q) = some true := this
  rw [e]; rfl
theorem c_abs (cf : CF) (H : AH) (l : Loc) (hl : 14 < l.length) : ∀ ns : List Int,compV (citem text cf (.callB .abs [.loc 14]) (.loc 14) (.bool true) l) (ns.map PV.int) H = some (ns.map fun i => .int i.natAbs,H)
  | [] => rfl
  | i :: ns => cv_some (ci_some (t_loc hl) e_bool (e_callB (es_cons (e_loc (lk_same hl)) es_nil) rfl)) (c_abs cf H l hl ns)
theorem c_ords (cf : CF) (H : AH) (s : Nat) (l : Loc) (hl : s < l.length) : ∀ xs : List Nat,compV (citem text cf (.callB .ord [.loc s]) (.loc s) (.bool true) l) (stl xs) H = some (codesOf xs,H)
  | [] => rfl
  | i :: ns => cv_some (ci_some (t_loc hl) e_bool (e_callB (es_cons (e_loc (lk_same hl)) es_nil) rfl)) (c_ords cf H s l hl ns)
theorem c_text {cells : List PV} (hc : ∀ x ∈ cells,∃ i : Int,x = .int i) (hl : cells.length ≤ 1000) (d g : Nat) (cl : List Nat) (l : Loc) (h15 : 15 < l.length) (h1 : l[1]? = some (some (.ref 0))) : ∀ (n j k : Nat),k + n ≤ 1000 →
    ∃ tx,tx.length = n ∧ (∀ x ∈ tx,Sg x) ∧ compV (citem text (acall text (d + 1)) (.idx (.str [97,98,65,10]) (.callF 62 [(.loc 1),(.int 4)])) (.loc 15) (.bool true) l) (intsFrom j n) (H3 cells k g cl) = some (stl tx,H3 cells (k + n) g cl)
  | 0,j,k,_ => ⟨[],rfl,(fun Y h => (by contradiction)),rfl⟩
  | n + 1,j,k,hk => by
    obtain ⟨v,v0,v1,e⟩ := draw3 hc hl d g cl (k := k) (by fail "l") (m := 4) (by decide)
    obtain ⟨tx,t1,t2,t3⟩ := c_text hc hl d g cl l h15 h1 n (j + 1) (k + 1) (by fail "l")
    have z : ∃ c,Sg c ∧ at? [97,98,65,10] v = some c := by
      have : v = 0 ∨ v = 1 ∨ v = 2 ∨ v = 3 := by fail "l"
      rcases this with rfl | rfl | rfl | rfl
      · exact ⟨97,.inl rfl,rfl⟩
      · exact ⟨98,.inr (.inl rfl),rfl⟩
      · exact ⟨65,.inr (.inr (.inl rfl)),rfl⟩
      · exact ⟨10,.inr (.inr (.inr rfl)),rfl⟩
    obtain ⟨c,z1,z2⟩ := z
    rw [show k + 1 + n = k + (n + 1) by fail "l"] at t3
    refine ⟨c :: tx,congrArg (· + 1) t1,fun x h => (List.mem_cons.mp h).elim (fun e => e ▸ z1) (t2 x),cv_some (ci_some (t_loc h15) e_bool (e_idx e_str (e_callF (es_cons (e_loc (lk_ne (by decide) h1)) (es_cons e_int es_nil)) e) ?_)) t3⟩
    show (at? [97,98,65,10] v).map _ = _
    rw [z2]; rfl
theorem strs_stl : ∀ tx : List Nat,strs? (stl tx) = some (tx.map fun c => [c])
  | [] => rfl
  | c :: tx => by show (strs? (stl tx)).map ([c] :: ·) = _; rw [strs_stl tx]; rfl
theorem flat_ones : ∀ tx : List Nat,(tx.map fun c => [c]).flatten = tx
  | [] => rfl
  | c :: tx => by rw [List.map_cons,List.flatten_cons,flat_ones tx]; rfl
theorem e_join {cf : CF} {l : Loc} {H H1 : AH} {a : X} {tx : List Nat} (ha : aeval text cf a l H = some (.lst (stl tx),H1)) (hl : tx.length ≤ lim) : aeval text cf (.callM (.str []) 1003 [a]) l H = some (.str tx,H1) :=
  on_eq e_str (bd_eq (x := kindOf text H (.str []) 1003) (a := .str) rfl (on_eq (es_cons ha es_nil) (bd_eq (strs_stl tx) ((chk_eq (by rw [flat_ones]; exact hl) rfl).trans (by rw [flat_ones])))))
end
section
set_option maxHeartbeats 16000000
noncomputable abbrev lawB : List Mine.Internal.S := [(.assign (.loc 12) (.callF 67 [(.loc 3),(.loc 6),(.loc 11),(.bin .mul (.tup [.none]) (.idx (.loc 2) (.int 0))),(.loc 5)])),(.assign (.loc 13) (.ife (.cmp .ne (.loc 12) (.list [])) (.bin .add (.list [(.tup [(.loc 11),(.idx (.idx (.loc 12) (.int 0)) (.int 0))])]) (.callB .list [(.idx (.idx (.loc 12) (.int 0)) (.int 1))])) .none)),(.ife (.cmp .ne (.callM (.callC 1 [(.loc 7),(.loc 8),(.loc 9)]) 59 [(.loc 11),(.callB .len [(.loc 6)])]) (.loc 13)) [(.ret (.bool false))] []),(.assign (.loc 10) (.ife (.cmp .is (.loc 10) .none) (.loc 13) (.loc 10)))]
noncomputable abbrev lawL (S : Stat) (r : Re) (sc : PV) (a : PV) (x y z : Option PV) : Loc := [some sc,some (.ref 0),some (.ref 2),some r.pv,some (.str r.pat),some (.bool S.f),some (.str S.tx),some (.ref S.c),some (.ref S.v),some (.ref S.t),some a,x,y,z,none,none,none,none]
section
variable {B : Nat} {S : Stat} {r : Re}
theorem rep_nones : ∀ g : Nat,rep [PV.none] g = (List.replicate g (none : Option (Nat × Nat))).map spPV
  | 0 => rfl
  | g + 1 => by show [PV.none] ++ rep [PV.none] g = _; rw [rep_nones g]; rfl
theorem kept0 (H : AH) {g : Nat} (h : g ≤ 9) : abin .mul H (.tup [.none]) (.int g) = some (kPV (List.replicate g none)) := by
  rw [mul_t (by show _ ∧ _ ∧ 1 * _ ≤ _; unfold lim; fail "l")]
  show some (PV.tup (rep [PV.none] g)) = _
  rw [rep_nones]; rfl
theorem law_turn (rd : Ready S r) (ok : Rok S.tx.length r) (hdp : r.dp S.tx.length ≤ 40) (h3 : 3 ≤ B) {sc : PV} (a : Option (Nat × W1)) (j : Nat) (hj : j ≤ S.tx.length) (x y z : Option PV) {H : AH} (st : Stc B S H) (hB : B ≤ H.length) (ht : H[2]? = some (.list [.int S.g,.ref 1])) :
    ∃ H' x' y' z',fitem text (acall text 40) (.loc 11) lawB (.int j) (lawL S r sc (vd a) x y z) H = some (.next,lawL S r sc (vd (a.or (hit S r j))) x' y' z',H') ∧ Under B H H' := by
  have rl : Il S.g S.tx [] j (List.replicate S.g none) := by
    refine ⟨List.replicate (2 * S.g + 2) (-1),List.length_replicate,List.length_replicate,hj,(fun q h => (by contradiction)),fun n h1 h2 Y => ⟨none,?_,?_⟩⟩
    · rw [List.getElem?_replicate]; exact if_pos (by fail "l")
    · show (decide _ || decide _) = true
      rw [List.getD_eq_getElem?_getD,List.getElem?_replicate,if_pos (by fail "l")]; rfl
  have e1 : acall text 40 67 [r.pv,.str S.tx,.int j,kPV (List.replicate S.g none),.bool S.f] H = some (.lst ((r.lw S.f S.tx j (List.replicate S.g none)).map wPV),H) := c_ways r [] 40 j _ st.sg rd.h9 rd.hg ok hdp rl
  have e2 : acall text 40 8 [.ref H.length,.ref S.c,.ref S.v,.ref S.t] (H ++ [.inst 1 []]) = some (.none,H ++ [mObj S.c S.v S.t 0 0 (H.length + 1) (H.length + 2) (H.length + 3) (H.length + 4),.list [],.list [],.list [],.list []]) := c_new_machine 39 H S.c S.v S.t [] (.inl rfl)
  have u1 : Under B H (H ++ [mObj S.c S.v S.t 0 0 (H.length + 1) (H.length + 2) (H.length + 3) (H.length + 4),.list [],.list [],.list [],.list []]) := Under.app
  have lkm : (H ++ [mObj S.c S.v S.t 0 0 (H.length + 1) (H.length + 2) (H.length + 3) (H.length + 4),.list [],.list [],.list [],.list []])[H.length]? = some (mObj S.c S.v S.t 0 0 (H.length + 1) (H.length + 2) (H.length + 3) (H.length + 4)) := lk_new
  have ms : MS B S H.length 0 (H ++ [mObj S.c S.v S.t 0 0 (H.length + 1) (H.length + 2) (H.length + 3) (H.length + 4),.list [],.list [],.list [],.list []]) := ⟨st.step u1.2,hB,_,_,_,_,_,lkm⟩
  refine c_match 32 (p := j) ms rd.h9 rd.nm rd.rows rd.hg rd.hL hj rd.hf (by
    have h1 := most_tot (n := S.tx.length - j) (L := S.tx.length) (Nat.sub_le _ _)
    have h2 := tot_le rd.hL
    fail "l") _ fun H' tk e3 Y Y u2 => ?_
  have e3' : acall text 40 9 [.ref H.length,.int j,.int S.tx.length] (H ++ [mObj S.c S.v S.t 0 0 (H.length + 1) (H.length + 2) (H.length + 3) (H.length + 4),.list [],.list [],.list [],.list []]) = some (due j (r.lw S.f S.tx j (List.replicate S.g none)).head?,H') := e3
  have ct : aidx H (.ref 2) (.int 0) = some (.int S.g) := idx_ref ht rfl
  have ck := kept0 H rd.h9
  have u := u1.trans u2
  have cmp := vd_ne H' (hit S r j)
  rw [vd_hit] at cmp
  have hd := vd_hit (S := S) r j
  have hg9 := rd.h9
  generalize hw : r.lw S.f S.tx j (List.replicate S.g none) = lw at *
  have kk : ∀ q ∈ lw,q.2.length = S.g := fun q hq => by
    obtain ⟨_,_,h⟩ := inv_l (f := S.f) rd.hg rl q (hw ▸ hq)
    exact h.lk
  have ev13 : aeval text (acall text 40) (.ife (.cmp .ne (.loc 12) (.list [])) (.bin .add (.list [(.tup [(.loc 11),(.idx (.idx (.loc 12) (.int 0)) (.int 0))])]) (.callB .list [(.idx (.idx (.loc 12) (.int 0)) (.int 1))])) .none) (lawL S r sc (vd a) (some (.int j)) (some (.lst (lw.map wPV))) z) H = some (due j lw.head?,H) := by
    clear e1 e2 e3 e3' cmp hd hw u u2 u1 ms lkm
    cases lw with
    | nil =>
      have c1 : acmp .ne H (.lst (List.map wPV [])) (.lst []) = some false := rfl
      repeat fail "ev"
    | cons q qs =>
      have c1 : acmp .ne H (.lst (List.map wPV (q :: qs))) (.lst []) = some true := rfl
      have c2 : aidx H (.lst (List.map wPV (q :: qs))) (.int 0) = some (.tup [.int q.1,kPV q.2]) := rfl
      have c3 : abi .list H [kPV q.2] = some (.lst (q.2.map spPV)) := rfl
      have c4 := add_lst (H := H) (x := [.tup [.int j,.int q.1]]) (y := q.2.map spPV) (by rw [List.length_map,kk q (.head _)]; show 1 + S.g ≤ 1000000; fail "l")
      show _ = some (PV.lst ([.tup [.int j,.int q.1]] ++ q.2.map spPV),H)
      generalize List.map wPV (q :: qs) = W at *
      generalize q.2.map spPV = Z at *
      repeat fail "ev"
  generalize due j lw.head? = D at *
  have fin : ∃ l2,aexecs text (acall text 40) lawB (lawL S r sc (vd a) (some (.int j)) y z) H = some (.next,l2,H') ∧ l2 = lawL S r sc (vd (a.or (hit S r j))) (some (.int j)) (some (.lst (lw.map wPV))) (some D) := by
    have la : (vd (a.or (hit S r j))) = cond a.isNone D (vd a) := by
      cases a with
      | none => rw [Option.none_or]; exact hd
      | some q => rfl
    have ca : acmp .is H' (vd a) .none = some a.isNone := by cases a <;> rfl
    rw [la]
    clear e3 ms hd hw kk u u1 u2 rl ok la
    generalize (H ++ [mObj S.c S.v S.t 0 0 (H.length + 1) (H.length + 2) (H.length + 3) (H.length + 4),.list [],.list [],.list [],.list []]) = G at *
    generalize vd a = V at *
    generalize a.isNone = b at *
    generalize lw.map wPV = W at *
    cases b
    all_goals
      apply Exists.intro
      apply And.intro
      · apply x_assign
        · repeat fail "ev"
        · repeat fail "ev"
        apply x_assign ev13
        · repeat fail "ev"
        repeat fail "ev"
      · rfl
  obtain ⟨l2,e5,rfl⟩ := fin
  exact ⟨H',_,_,_,f_item rfl e5,u⟩
theorem law_turns (rd : Ready S r) (ok : Rok S.tx.length r) (hdp : r.dp S.tx.length ≤ 40) (h3 : 3 ≤ B) {sc : PV} : ∀ (n j : Nat) (a : Option (Nat × W1)) (x y z : Option PV) (H : AH),j + n = S.tx.length + 1 → Stc B S H → B ≤ H.length → H[2]? = some (.list [.int S.g,.ref 1]) →
    ∃ H' x' y' z',forV (fitem text (acall text 40) (.loc 11) lawB) (intsFrom j n) (lawL S r sc (vd a) x y z) H = some (.next,lawL S r sc (vd (a.or (hits S r j n))) x' y' z',H') ∧ Under B H H'
  | 0,j,a,x,y,z,H,_,_,_,_ => ⟨H,x,y,z,by rw [show hits S r j 0 = none from rfl,Option.or_none]; rfl,Nat.le_refl _,fun Y Y e Y => e⟩
  | n + 1,j,a,x,y,z,H,hj,st,hB,ht => by
    obtain ⟨H1,x1,y1,z1,e1,u1⟩ := law_turn (sc := sc) rd ok hdp h3 a j (by fail "l") x y z st hB ht
    obtain ⟨H2,x2,y2,z2,e2,u2⟩ := law_turns rd ok hdp h3 n (j + 1) (a.or (hit S r j)) x1 y1 z1 H1 (by fail "l") (st.step u1.2) (Nat.le_trans hB u1.1) (u1.2 _ _ ht (by fail "l"))
    rw [Option.or_assoc] at e2
    exact ⟨H2,x2,y2,z2,fv_next e1 e2,u1.trans u2⟩
end
end
section
set_option maxHeartbeats 16000000
theorem cut40 (ns : List Int) : aslice (.lst (ns.map PV.int)) .none (.int 40) = some (.lst ((ns.take 40).map PV.int)) := by
  show some (PV.lst (((ns.map PV.int).drop 0).take (min 40 (ns.map PV.int).length - 0))) = _
  rw [List.drop_zero,Nat.sub_zero,List.length_map,← List.map_take]
  congr 3
  rcases Nat.le_total 40 ns.length with h | h
  · rw [Nat.min_eq_left h]
  · rw [Nat.min_eq_right h,List.take_of_length_le (Nat.le_refl _),List.take_of_length_le h]
noncomputable abbrev law0 (ns : List Int) : Loc := [some (.lst (ns.map PV.int)),none,none,none,none,none,none,none,none,none,none,none,none,none,none,none,none,none]
theorem law_true (ns : List Int) : ∃ H',acall text 41 69 [.lst (ns.map PV.int)] [] = some (.bool true,H') := by
  have hcells : ∃ cells : List PV,cells = (ns.take 40).map fun i => PV.int i.natAbs := ⟨_,rfl⟩
  obtain ⟨cells,hce⟩ := hcells
  have hc : ∀ x ∈ cells,∃ i : Int,x = .int i := fun x h => by
    rw [hce] at h
    obtain ⟨i,_,e⟩ := List.mem_map.mp h
    exact ⟨_,e.symm⟩
  have hl : cells.length ≤ 1000 := by rw [hce,List.length_map,List.length_take]; fail "l"
  have s1 : aeval text (acall text 40) (.listm [(.comp (.callB .abs [(.loc 14)]) (.loc 14) (.val (.slice (.loc 0) .none (.int 40))) (.bool true)),(.int 0)]) (law0 ns) [] = some (.ref 0,[.list [.lst cells,.int 0]]) := by
    have q := c_abs (acall text 40) [] (law0 ns) (of_decide_eq_true rfl) (ns.take 40)
    rw [← hce] at q
    exact e_listm (es_cons (e_comp (s_val (e_slice (e_loc (n := 0) rfl) e_none e_int (cut40 ns)) rfl) q) (es_cons e_int es_nil)) rfl rfl
  clear hce
  refine node3 hc hl 40 0 0 [] (by decide) (fun Y h => (by contradiction)) (Nat.le_refl _) (by decide) (by decide) _ fun r k1 g cl w hf g8 k8 hcl Y Y e3 => ?_
  have g9 : g ≤ 9 := by fail "l"
  have e3' : acall text 40 64 [.ref 0,.int 3,.ref 2] (H3 cells 0 0 []) = some (.tup [r.pv,.str r.pat],H3 cells k1 g cl) := e3
  obtain ⟨v,_,_,e4⟩ := draw3 hc hl 39 g cl (k := k1) (by fail "l") (m := 3) (by decide)
  have hfo : ∃ f : Bool,(v == 0) = f := ⟨_,rfl⟩
  obtain ⟨f,hfo⟩ := hfo
  have e4' : acmp .eq (H3 cells (k1 + 1) g cl) (.int v) (.int 0) = some f := congrArg some hfo
  obtain ⟨n,n0,n1,e5⟩ := draw3 hc hl 39 g cl (k := k1 + 1) (by fail "l") (m := 5) (by decide)
  obtain ⟨n,rfl⟩ := Int.eq_ofNat_of_zero_le n0
  have n4 : n ≤ 4 := by fail "l"
  obtain ⟨tx,t1,t2,e6⟩ := c_text hc hl 39 g cl [some (.lst (ns.map PV.int)),some (.ref 0),some (.ref 2),some r.pv,some (.str r.pat),some (.bool f),none,none,none,none,none,none,none,none,none,none,none,none] (of_decide_eq_true rfl) rfl n 0 (k1 + 1 + 1) (by fail "l")
  have s5 : aeval text (acall text 40) (.callM (.str []) 1003 [(.comp (.idx (.str [97,98,65,10]) (.callF 62 [(.loc 1),(.int 4)])) (.loc 15) (.range [(.callF 62 [(.loc 1),(.int 5)])]) (.bool true))]) [some (.lst (ns.map PV.int)),some (.ref 0),some (.ref 2),some r.pv,some (.str r.pat),some (.bool f),none,none,none,none,none,none,none,none,none,none,none,none] (H3 cells (k1 + 1) g cl) = some (.str tx,H3 cells (k1 + 1 + 1 + n) g cl) := by
    have hs : srcRange [.int n] = some (.vals (intsFrom 0 n)) := by
      rw [range1 (by unfold lim; fail "l")]; rfl
    exact e_join (e_comp (s_range (es_cons (e_callF (es_cons (e_loc (n := 1) rfl) (es_cons e_int es_nil)) e5) es_nil) hs) e6) (by rw [t1]; show n ≤ 1000000; fail "l")
  generalize hG : H3 cells (k1 + 1 + 1 + n) g cl = G at *
  have G2 : G[2]? = some (.list [.int g,.ref 1]) := by rw [← hG]; rfl
  have szs := hf.sizes
  have pl := hf.len
  have z64 : (4 : Nat) ^ 3 = 64 := rfl
  have z8' : (2 : Nat) ^ 3 = 8 := rfl
  rw [z64] at szs
  rw [z8'] at pl
  obtain ⟨H1,c,e7,hcode,kp,cge⟩ := c_compile 31 w g9 (by fail "l") (by fail "l") (by fail "l") f G
  have e7' : acall text 40 52 [.lst (codesOf r.pat),.bool f] G = some (.ref c,H1) := e7
  obtain ⟨rr,c1,c2⟩ := hcode
  have e8 : acall text 40 59 [.ref H1.length,.lst (codesOf tx),.int 0] (H1 ++ [.inst 8 []]) = some (.none,H1 ++ [vObj tx]) := c_textrow 39 H1 tx
  have e9 : acall text 40 55 [.ref (H1 ++ [vObj tx]).length] ((H1 ++ [vObj tx]) ++ [.inst 7 []]) = some (.none,(H1 ++ [vObj tx]) ++ [tObj ((H1 ++ [vObj tx]).length + 1),.dict []]) := c_table 39 (H1 ++ [vObj tx])
  have lv : (H1 ++ [vObj tx]).length = H1.length + 1 := len_new0
  rw [lv,List.append_assoc,List.append_assoc] at e9
  let S : Stat := ⟨c,rr,H1.length,H1.length + 1,H1.length + 1 + 1,g,r.mk,f,r.comp f 0 0 ++ [.done],tx⟩
  have hB : H1.length + 3 ≤ (H1 ++ ([vObj tx] ++ [tObj (H1.length + 1 + 1),.dict []])).length := by rw [List.length_append]; exact Nat.le_refl _
  have st : Stc (H1.length + 3) S (H1 ++ ([vObj tx] ++ [tObj (H1.length + 1 + 1),.dict []])) := by
    have q1 := lk_lt c1
    have q2 := lk_lt c2
    exact ⟨lk_app c1,lk_app c2,lk_at (k := 0) rfl,lk_at (k := 1) rfl,lk_at (k := 2) rfl,⟨by show c < _; fail "l",by show rr < _; fail "l",by show H1.length < _; fail "l",by show H1.length + 1 < _; fail "l",by show H1.length + 1 + 1 < _; fail "l"⟩,t2⟩
  have hL : tx.length ≤ 4 := by fail "l"
  have rd : Ready S r := ⟨g9,rfl,rfl,gok_of w (Nat.le_refl _) [] (fun Y h => (by contradiction)) (fun Y h => (by contradiction)),hL,hf⟩
  have ok : Rok S.tx.length r := rok w hf hL
  have hdp : r.dp S.tx.length ≤ 40 := Nat.le_trans (hf.deep hL) (by decide)
  have l2 := lk_lt G2
  have g1 := kp.len
  have told : (H1 ++ ([vObj tx] ++ [tObj (H1.length + 1 + 1),.dict []]))[2]? = some (.list [.int g,.ref 1]) := lk_app (kp.get _ _ G2 (fun h => (by contradiction)))
  obtain ⟨H2,x2,y2,z2,e10,u⟩ := law_turns (sc := .lst (ns.map PV.int)) rd ok hdp (by fail "l") (tx.length + 1) 0 none none none none _ (Nat.zero_add _) st hB told
  rw [Option.none_or] at e10
  obtain ⟨H3',e11⟩ := c_search 31 rd (st.step u.2) (Nat.le_trans hB u.1)
  have e11' : acall text 40 53 [.ref H1.length,.ref (H1.length + 1),.int 0,.ref c,.int tx.length,.int 0] H2 = some (vd (hits S r 0 (tx.length + 1)),H3') := e11
  have cmp := vd_eq H3' (hits S r 0 (tx.length + 1))
  have hsrc : srcRange [.int ((tx.length : Int) + 1)] = some (.vals (intsFrom ((0 : Nat) : Int) (tx.length + 1))) := by
    rw [range1 (by unfold lim; fail "l")]; rfl
  have o1 : aeval text (acall text 40) (.comp (.callB .ord [(.loc 16)]) (.loc 16) (.val (.loc 4)) (.bool true)) [some (.lst (ns.map PV.int)),some (.ref 0),some (.ref 2),some r.pv,some (.str r.pat),some (.bool f),some (.str tx),none,none,none,none,none,none,none,none,none,none,none] G = some (.lst (codesOf r.pat),G) :=
    e_comp (s := .vals (stl r.pat)) (s_val (e_loc (n := 4) rfl) rfl) (c_ords (acall text 40) G 16 _ (of_decide_eq_true rfl) r.pat)
  have o2 : aeval text (acall text 40) (.comp (.callB .ord [(.loc 17)]) (.loc 17) (.val (.loc 6)) (.bool true)) [some (.lst (ns.map PV.int)),some (.ref 0),some (.ref 2),some r.pv,some (.str r.pat),some (.bool f),some (.str tx),some (.ref c),none,none,none,none,none,none,none,none,none,none] H1 = some (.lst (codesOf tx),H1) :=
    e_comp (s := .vals (stl tx)) (s_val (e_loc (n := 6) rfl) rfl) (c_ords (acall text 40) H1 17 _ (of_decide_eq_true rfl) tx)
  refine ⟨H3',?_⟩
  have end_ : aexecs text (acall text 40) [.ret (.cmp .eq (.callF 53 [(.loc 8),(.loc 9),(.int 0),(.loc 7),(.callB .len [(.loc 6)]),(.int 0)]) (.loc 10))] (lawL S r (.lst (ns.map PV.int)) (vd (hits S r 0 (tx.length + 1))) x2 y2 z2) H2 = some (.ret (.bool true),lawL S r (.lst (ns.map PV.int)) (vd (hits S r 0 (tx.length + 1))) x2 y2 z2,H3') :=
    x_ret (e_cmp (e_callF (es_cons (e_loc (n := 8) rfl) (es_cons (e_loc (n := 9) rfl) (es_cons e_int (es_cons (e_loc (n := 7) rfl) (es_cons (e_callB (es_cons (e_loc (n := 6) rfl) es_nil) rfl) (es_cons e_int es_nil)))))) e11') (e_loc (n := 10) rfl) cmp)
  refine a_call (fd := f_law) (b := b_law) (l := law0 ns) (fl := .ret (.bool true)) (H1 := H3') (l1 := lawL S r (.lst (ns.map PV.int)) (vd (hits S r 0 (tx.length + 1))) x2 y2 z2) rfl rfl rfl ?_ rfl rfl
  delta b_law
  apply x_assign s1 (t_loc (of_decide_eq_true rfl))
  apply x_assign (v := .ref 2) (H1 := H3 cells 0 0 []) (e_listm (es_cons e_int (es_cons (e_listm es_nil rfl rfl) es_nil)) rfl rfl) (t_loc (of_decide_eq_true rfl))
  apply x_assign (e_callF (es_cons (e_loc (n := 1) rfl) (es_cons e_int (es_cons (e_loc (n := 2) rfl) es_nil))) e3') (t_tup (ts_cons (t_loc (of_decide_eq_true rfl)) (ts_cons (t_loc (of_decide_eq_true rfl)) ts_nil)))
  apply x_assign (e_cmp (e_callF (es_cons (e_loc (n := 1) rfl) (es_cons e_int es_nil)) e4) e_int e4') (t_loc (of_decide_eq_true rfl))
  apply x_assign s5 (t_loc (of_decide_eq_true rfl))
  apply x_assign (e_callF (es_cons o1 (es_cons (e_loc (n := 5) rfl) es_nil)) e7') (t_loc (of_decide_eq_true rfl))
  apply x_assign (e_tup (es_cons (e_callC (c := 8) (es_cons o2 (es_cons e_int es_nil)) (of_decide_eq_true rfl) rfl rfl rfl e8) (es_cons (e_callC (c := 7) es_nil (of_decide_eq_true rfl) rfl lv (List.append_assoc ..) e9) (es_cons e_none es_nil)))) (t_tup (ts_cons (t_loc (of_decide_eq_true rfl)) (ts_cons (t_loc (of_decide_eq_true rfl)) (ts_cons (t_loc (of_decide_eq_true rfl)) ts_nil))))
  apply x_for (s_range (es_cons (e_bin (e_callB (es_cons (e_loc (n := 6) rfl) es_nil) rfl) e_int rfl) es_nil) hsrc) e10
  exact end_
end
end Mine.Internal.K
namespace Mine.Internal
local macro_rules | `(tactic| fail $s:str) => do
  let t := s.getString
  unless t.startsWith "=" do Lean.Macro.throwUnsupported
  let x := Lean.mkIdent (.mkSimple (t.drop 1).toString)
  let y := Lean.mkIdent (.mkSimple ((t.drop 1).toString ++ "y"))
  let z := Lean.mkIdent (.mkSimple ((t.drop 1).toString ++ "z"))
  let r := Lean.Syntax.mkStrLit (t ++ "y")
  let q := Lean.Syntax.mkStrLit (t ++ "z")
  `(tactic| first | contradiction | subst $x | (injection $x with $x $y $z <;> fail $s <;> fail $r <;> fail $q) | (injection $x with $x $y <;> fail $s <;> fail $r) | (injection $x with $x <;> fail $s) | cases $x:ident)
local macro_rules | `(tactic| fail "l") => `(tactic| lia -abstractProof)
section
open PySem PySem.W PyProof.Rows PySem.Calls
set_option maxRecDepth 100000
theorem wints_of {R : WRecords} {cl : Str → Option Addr} {h : Heap} : ∀ {xs : List WData} {vs : List Value} {as : List Addr},ReadsAllW R cl h vs xs as → WShape.hasItems [] xs .int = true → ∃ ns : List Int,Reps ⟨[],[]⟩ h (ns.map PV.int) vs ∧ ns.length = xs.length := by
  intro xs
  induction xs with
  | nil => intro vs as r _; rw [(readsAllW_nil_inv r).1]; exact ⟨[],Reps.nil,rfl⟩
  | cons x xs ih =>
    intro vs as r e
    obtain ⟨e1,e2⟩ := Bool.and_eq_true_iff.mp (show (WShape.has [] x .int && WShape.hasItems [] xs .int) = true from e)
    obtain ⟨i,rfl⟩ := hasW_int e1
    obtain ⟨v,vs',a1,a2,rfl,_,r1,r2⟩ := readsAllW_cons_inv r
    obtain ⟨t,rfl,_⟩ := readsW_int_inv r1
    obtain ⟨ns,q,l⟩ := ih r2 e2
    exact ⟨i :: ns,Reps.cons rep_int q,congrArg (· + 1) l⟩
theorem ff {P : Prop} (h : false = true) : P := Bool.noConfusion h
theorem pre_list {args : List WData} (h : rw0.row.toRowW.claim.pre args = true) : ∃ xs,args = [.list xs] ∧ WShape.hasItems [] xs .int = true ∧ xs.length ≤ 63 := by
  obtain ⟨h1,h2⟩ := Bool.and_eq_true_iff.mp (show (WShape.hasAll [] args [.list .int] && rw0.pre.holds [] { args := args }) = true from h)
  obtain ⟨d,r,rfl,hd,hr⟩ := hasAllW_cons h1
  obtain ⟨xs,rfl,hi⟩ := hasW_list hd
  cases r with
  | cons y r => exact ff hr
  | nil =>
    refine ⟨xs,rfl,hi,?_⟩
    have l : WTm.value [] (.not (.lt (.lit (.int 63)) (.len (.arg 0)))) { args := [.list xs] } = some (.bool (!decide ((63 : Int) < xs.length))) := rfl
    have h2' : WTm.holds [] (.and (.not (.lt (.lit (.int 63)) (.len (.arg 0)))) (.lit (.bool true))) { args := [.list xs] } = true := h2
    unfold WTm.holds at h2'
    rw [WTm.value,l] at h2'
    by_cases hq : (63 : Int) < xs.length
    · rw [decide_eq_true hq] at h2'; exact ff h2'
    · lia
theorem walk0 {d : DefRec} {kwd : List (Str × Expr)} (hn : d.name = names0.fname 69) : WalkO q0 loose0 (fun Y Y => True) YP0 rw0.row.toRowW d kwd fun f vs => PySem.call f vs := by
  intro w s₀ s₁ mg mb Gr Y0 a o pm cd doc dV kV h1 h2 h3 h4 hmg gens args vals as hpre hlay hreads hwell hlow
  obtain ⟨G,hG,good⟩ := Y0
  have sys : ∃ o,s₁.heap.get? sysModules = some o := by
    obtain ⟨_,g⟩ := and2 good
    obtain ⟨_,g⟩ := and2 g
    obtain ⟨_,g⟩ := and2 g
    obtain ⟨_,g⟩ := and2 g
    obtain ⟨_,g⟩ := and2 g
    obtain ⟨_,g⟩ := and2 g
    obtain ⟨_,g⟩ := and2 g
    obtain ⟨o,e⟩ := Option.isSome_iff_exists.mp g
    exact ⟨o,hG _ _ e⟩
  obtain ⟨kn,k1,k2⟩ := know_of (C := ⟨pw,w,tab0 G,s₁.heap,sys⟩) hG rfl Gr.T.g Gr.T.b good
  have fo : ∀ f,kn.isF f → ∃ o fd body slots,FnOk ⟨pw,w,tab0 G,s₁.heap,sys⟩ text names0 f (kn.fa f) o fd body slots := fun f hf => by
    rw [k2] at hf
    rw [k1]
    exact fn_ok hG (and2 (and2 (all_range (and2 (and2 good).2).1 hf)).2).2
  obtain ⟨xs,rfl,hints,hlen⟩ := pre_list hpre
  cases hwell with
  | cons w1 w2 =>
    fail "=w2"
    cases w1 with
    | @list l vs _ ho wl =>
      obtain ⟨v',vs2,a1,a2,hv,_,r1,_⟩ := readsAllW_cons_inv hreads
      fail "=hv"
      obtain ⟨l',its,as',hl,⟨o2,ho2,_,n2,hd2⟩,ri,_⟩ := readsW_list_inv r1
      fail "=hl"
      rw [ho] at ho2
      fail "=ho2"
      fail "=hd2"
      obtain ⟨ns,rns,ln⟩ := wints_of ri hints
      obtain ⟨H',e⟩ := K.law_true ns
      have rl : Reps ⟨[],[]⟩ s₁.heap [.lst (ns.map PV.int)] [.ref l] := by
        refine Reps.cons ?_ Reps.nil
        rw [Rep]
        exact ⟨l,vs.toArray,0,rfl,ho,(fun z => by fail "=z"),by rw [List.length_map,ln]; show xs.length ≤ 1000000; lia,rns⟩
      have st : St ⟨pw,w,tab0 G,s₁.heap,sys⟩ ⟨[],[]⟩ [] s₁.heap := ⟨fun Y Y e => e,(fun p h => by fail "=h"),(fun p h => by fail "=h"),⟨rfl,List.nodup_nil,fun i x c o e => by fail "=e"⟩⟩
      have ha : a = kn.fa 69 := by
        have z := (kn.fn 69 rfl).2
        obtain ⟨og,hog,kg⟩ := ns_obj Gr.T.g
        obtain ⟨og',hog',kg'⟩ := ns_obj kn.hmg
        have : og = og' := Option.some.inj (hog.symm.trans hog')
        subst this
        have q := (kg d.name).symm.trans (kg' d.name)
        rw [hmg,hn,z] at q
        exact Value.ref.inj (Option.some.inj (Option.some.inj q))
      have run := EvC.call (H := []) (call_ok kn fo Gr.T.nolimit 41 (f := 69) (A := callerA) (μ := ⟨[],[]⟩) (s := s₁) (by rw [k2]; decide) ⟨rfl,by decide +kernel,by decide +kernel⟩ e st rl)
      rw [← ha] at run
      refine wpAny_mono (run _ fun v μ' h' tk' gr st' r => ?_) (fun Y Y z => z) fun Y Y f => f.elim
      rw [Rep] at r
      subst r
      refine GoodW.toG ⟨.inl ⟨_,.bool true,[],rfl,fun Y => rfl,.bool true,by kernel_rfl,fun Y => ⟨List.nodup_nil,fun a h => by fail "=h"⟩⟩,st'.base,rfl,gens⟩
end
section
open PySem PySem.W PyProof.Rows PySem.Calls
set_option maxRecDepth 100000
theorem main0 : rw0.Holds := main1 walk0
end
end Mine.Internal
theorem PySem.Challenge.cw_np0105_01_holds : PySem.Challenge.rw_np0105_01.Holds :=
  Mine.Internal.main0
